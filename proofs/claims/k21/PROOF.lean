import PyProof.Rows.All
import Wide.All
import OpenK.AllK
import Wide.FinOn
import HandS.ForMost
import HandS.Defaults
import HandS.IsInst
import HandS.Walk
import HandS.Codes
import HandS.DictComp
import HandS.MakeKwOnly
import HandS.Property
import HandS.Replace
import HandS.TupSets
import HandS.HeadEnd
import HandS.HeadHook1
import HandS.HeadHook2
import HandS.HeadHook4
import HandS.Head0
import HandS.Head1
import HandS.Head2
import KE.KOpsOwn
import PySem.Challenge.RW_rowgames_k21_machines_compared
import PyProof.EqAt
import PyProof.EqKinds
import PyProof.TupleCall
import PyProof.Draws
import PyProof.EnumMake
import PyProof.EnumFor
import PyProof.ReprRoads
import PyProof.StrLaws
import PyProof.CallFns
import PyProof.Rows.SetFrom
import PyProof.ListStr
import PyProof.Rows.StrLawsPart
import HandS.Zip
import KE.GoesZip
import KE.GoesMore
import KE.GoesEnum
import KE.KItemsList
import HandS.SlotsOwn
import HandS.Flow
import OpenK.KMeth
import OpenK.KOps
import KE.KFmtOwn
import HandS.Deep
set_option Elab.async false
set_option linter.all false
set_option maxRecDepth 100000
set_option maxHeartbeats 4000000
set_option Elab.async false
set_option linter.all false
set_option maxRecDepth 100000
set_option maxHeartbeats 2000000
/-! Shared layer of the rowgames proofs: settled heaps, the pen, calls by name. -/
namespace Rg
open PySem PySem.Spec PyProof.Rows L2

/-! ### settled heaps: D is what stays for ever, H the whole -/
structure Step (W : Addr → Prop) (D H D' H' : Hp) : Prop where
  dd : Same D D'
  dh : Same D' H'
  kp : ∀ b o, ¬ W b → H b = some o → H' b = some o
  ns : ∀ b, H b ≠ none → H' b ≠ none
  fr : ∀ b, H b ≠ none → D b = none → D' b = none
abbrev NoW : Addr → Prop := fun _ => False
section
variable {W W' : Addr → Prop} {D H D1 H1 D2 H2 : Hp} {K : PySem.W.Frag}
theorem Step.refl (h : Same D H) : Step W D H D H := ⟨Same.refl D, h, fun _ _ _ e => e, fun _ e => e, fun _ _ e => e⟩
theorem Step.trans (a : Step W D H D1 H1) (b : Step W D1 H1 D2 H2) : Step W D H D2 H2 :=
  ⟨a.dd.trans b.dd, b.dh, fun c o hc e => b.kp c o hc (a.kp c o hc e), fun c e => b.ns c (a.ns c e), fun c e d => b.fr c (a.ns c e) (a.fr c e d)⟩
theorem Step.mono (a : Step W D H D1 H1) (h : ∀ b, W b → W' b) : Step W' D H D1 H1 :=
  ⟨a.dd, a.dh, fun c o hc e => a.kp c o (fun z => hc (h c z)) e, a.ns, a.fr⟩
theorem Step.any (a : Step NoW D H D1 H1) : Step W D H D1 H1 := a.mono fun _ z => z.elim
theorem same_new {p : Addr} {o : HO} (h : H p = none) : Same H (upd H p o) := fun b u e => by
  rw [upd_ne (ne_of_none e h)]
  exact e
theorem upd_ne_none {p b : Addr} {o : HO} (h : H b ≠ none) : upd H p o b ≠ none := by
  by_cases e : b = p
  · rw [e, upd_same]
    exact fun z => by cases z
  · rw [upd_ne e]
    exact h
/-- a new object, to stay -/
theorem Step.new {p : Addr} {o : HO} (s : Same D H) (h : H p = none) : Step W D H (upd D p o) (upd H p o) := by
  have hd : D p = none := s.free h
  refine ⟨same_new hd, fun b u e => ?_, fun b u _ e => same_new h b u e, fun b e => upd_ne_none e, fun b e d => ?_⟩
  · by_cases q : b = p
    · rw [q, upd_same] at e ⊢
      exact e
    · rw [upd_ne q] at e ⊢
      exact s b u e
  · have q : b ≠ p := fun z => e (z ▸ h)
    rw [upd_ne q]
    exact d
/-- a new object, not (yet) to stay -/
theorem Step.tmp {p : Addr} {o : HO} (s : Same D H) (h : H p = none) : Step W D H D (upd H p o) :=
  ⟨Same.refl D, s.trans (same_new h), fun b u _ e => same_new h b u e, fun b e => upd_ne_none e, fun _ _ d => d⟩
/-- an object that came behind the start is settled -/
theorem Step.settle {p : Addr} {o : HO} (a : Step W D H D1 H1) (h0 : H p = none) (h1 : H1 p = some o) (hd : D1 p = none) : Step W D H (upd D1 p o) H1 := by
  refine ⟨a.dd.trans (same_new hd), fun b u e => ?_, a.kp, a.ns, fun b e d => ?_⟩
  · by_cases q : b = p
    · rw [q, upd_same] at e
      rw [q, h1]
      exact e
    · rw [upd_ne q] at e
      exact a.dh b u e
  · have q : b ≠ p := fun z => e (z ▸ h0)
    rw [upd_ne q]
    exact a.fr b e d
/-- an object outside D that may be written (it is W's, or it came behind the start) changes -/
theorem Step.write {p : Addr} {o : HO} (a : Step W D H D1 H1) (hw : W p ∨ H p = none) (hd : D1 p = none) : Step W D H D1 (upd H1 p o) := by
  refine ⟨a.dd, fun b u e => ?_, fun b u hb e => ?_, fun b e => upd_ne_none (a.ns b e), a.fr⟩
  · have q : b ≠ p := fun z => by
      rw [z, hd] at e
      cases e
    rw [upd_ne q]
    exact a.dh b u e
  · have q : b ≠ p := fun z => by
      rcases hw with w | w
      · exact hb (z ▸ w)
      · rw [z, w] at e
        cases e
    rw [upd_ne q]
    exact a.kp b u hb e
theorem Step.free {p : Addr} (a : Step W D H D1 H1) (h : H1 p = none) : H p = none := by
  cases e : H p with
  | none => rfl
  | some o => exact absurd h (a.ns p (by rw [e]; exact fun z => by cases z))
theorem Step.dfree {p : Addr} (a : Step W D H D1 H1) (h : H1 p = none) : D1 p = none := a.dh.free h
end

/-! ### data -/
theorem sqT_mono {K : PySem.W.Frag} {D D' : Hp} {a : Addr} {xs : List V} (e : Same D D') (h : SqT K D a xs) : SqT K D' a xs := by
  rcases h with (h | ⟨o, h⟩) | h
  · exact .inl (.inl (e _ _ h))
  · exact .inl (.inr ⟨o, e _ _ h⟩)
  · exact .inr h
mutual
theorem dp_mono {K : PySem.W.Frag} {D D' : Hp} (e : Same D D') : ∀ (d : PyData) (v : V), Dp K D v d → Dp K D' v d
  | .none, _, h => by cases h; exact .non
  | .bool _, _, h => by cases h; exact .bl _
  | .int _, _, h => by cases h; exact .int _
  | .str _, _, h => by cases h; exact .str _
  | .list ds, _, h => by
    cases h with
    | lst h1 h2 => exact .lst (e.seq h1) (dp_monoAll e ds _ h2)
  | .tuple ds, _, h => by
    cases h with
    | tup h1 h2 => exact .tup (sqT_mono e h1) (dp_monoAll e ds _ h2)
  | .dict _, _, h => by cases h
theorem dp_monoAll {K : PySem.W.Frag} {D D' : Hp} (e : Same D D') : ∀ (ds : List PyData) (vs : List V), DpAll K D vs ds → DpAll K D' vs ds
  | [], _, h => by cases h; exact .nil
  | d :: ds, _, h => by
    cases h with
    | cons h1 h2 => exact .cons (dp_mono e d _ h1) (dp_monoAll e ds _ h2)
end
section
variable {K : PySem.W.Frag} {D : Hp}
theorem dpAll_get : ∀ {vs : List V} {ds : List PyData} {i : Nat} {v : V}, DpAll K D vs ds → vs[i]? = some v → ∃ d, ds[i]? = some d ∧ Dp K D v d
  | _, _, _, _, .nil, e => by simp at e
  | _, _, 0, _, .cons r _, e => by simp at e; subst e; exact ⟨_, rfl, r⟩
  | _, _, i + 1, v, .cons _ t, e => by
    obtain ⟨d, h1, h2⟩ := dpAll_get (i := i) (v := v) t (by simpa using e)
    exact ⟨d, by simpa using h1, h2⟩
theorem dpAll_at : ∀ {vs : List V} {ds : List PyData} {i : Nat} {d : PyData}, DpAll K D vs ds → ds[i]? = some d → ∃ v, vs[i]? = some v ∧ Dp K D v d
  | _, _, _, _, .nil, e => by simp at e
  | _, _, 0, _, .cons r _, e => by simp at e; subst e; exact ⟨_, rfl, r⟩
  | _, _, i + 1, d, .cons _ t, e => by
    obtain ⟨v, h1, h2⟩ := dpAll_at (i := i) (d := d) t (by simpa using e)
    exact ⟨v, by simpa using h1, h2⟩
theorem dpAll_len : ∀ {vs : List V} {ds : List PyData}, DpAll K D vs ds → vs.length = ds.length
  | _, _, .nil => rfl
  | _, _, .cons _ t => congrArg Nat.succ (dpAll_len t)
theorem dpAll_app : ∀ {vs ws : List V} {ds es : List PyData}, DpAll K D vs ds → DpAll K D ws es → DpAll K D (vs ++ ws) (ds ++ es)
  | _, _, _, _, .nil, h => h
  | _, _, _, _, .cons r t, h => .cons r (dpAll_app t h)
theorem dpAll_one {v : V} {d : PyData} (h : Dp K D v d) : DpAll K D [v] [d] := .cons h .nil
theorem dpAll_ints : ∀ ns : List Int, DpAll K D (ns.map V.int) (ns.map PyData.int)
  | [] => .nil
  | n :: r => .cons (.int n) (dpAll_ints r)
theorem dpAll_bools : ∀ ns : List Bool, DpAll K D (ns.map V.bl) (ns.map PyData.bool)
  | [] => .nil
  | n :: r => .cons (.bl n) (dpAll_bools r)
theorem dpAll_strs : ∀ ns : List Str, DpAll K D (ns.map V.str) (ns.map PyData.str)
  | [] => .nil
  | n :: r => .cons (.str n) (dpAll_strs r)
theorem dpAll_ints_eq : ∀ {vs : List V} {ns : List Int}, DpAll K D vs (ns.map PyData.int) → vs = ns.map V.int
  | [], [], _ => rfl
  | [], _ :: _, h => by cases h
  | _ :: _, [], h => by cases h
  | v :: vs, n :: ns, h => by
    cases h with
    | cons h1 h2 =>
      cases h1
      rw [dpAll_ints_eq h2]
      rfl
theorem dpAll_bools_eq : ∀ {vs : List V} {ns : List Bool}, DpAll K D vs (ns.map PyData.bool) → vs = ns.map V.bl
  | [], [], _ => rfl
  | [], _ :: _, h => by cases h
  | _ :: _, [], h => by cases h
  | v :: vs, n :: ns, h => by
    cases h with
    | cons h1 h2 =>
      cases h1
      rw [dpAll_bools_eq h2]
      rfl
theorem dp_list {v : V} {ds : List PyData} (h : Dp K D v (.list ds)) : ∃ a vs, v = .ref a ∧ SqL K D a vs ∧ DpAll K D vs ds := by
  cases h with
  | lst h1 h2 => exact ⟨_, _, rfl, h1, h2⟩
theorem dp_tup {v : V} {ds : List PyData} (h : Dp K D v (.tuple ds)) : ∃ a vs, v = .ref a ∧ SqT K D a vs ∧ DpAll K D vs ds := by
  cases h with
  | tup h1 h2 => exact ⟨_, _, rfl, h1, h2⟩
theorem dp_int {v : V} {i : Int} (h : Dp K D v (.int i)) : v = .int i := by cases h; rfl
theorem dp_str {v : V} {i : Str} (h : Dp K D v (.str i)) : v = .str i := by cases h; rfl
theorem dp_bool {v : V} {i : Bool} (h : Dp K D v (.bool i)) : v = .bl i := by cases h; rfl
end

/-! ### the pen: p holds [the script's cells at q, taken, great]; n draws are left -/
structure PenAt (K : PySem.W.Frag) (D H : Hp) (p : Addr) (n : Nat) : Prop where
  out : D p = none
  ex : ∃ (q : Addr) (ns : List Int) (t g : Int), H p = some (.lst [.ref q, .int t, .int g]) ∧ SqL K D q (ns.map V.int) ∧ 0 ≤ t ∧ t + n ≤ 1000000
theorem PenAt.less {K : PySem.W.Frag} {D H : Hp} {p : Addr} {n m : Nat} (h : PenAt K D H p n) (hm : m ≤ n) : PenAt K D H p m := by
  obtain ⟨o, q, ns, t, g, h1, h2, h3, h4⟩ := h
  exact ⟨o, q, ns, t, g, h1, h2, h3, by omega⟩
theorem PenAt.there {K : PySem.W.Frag} {D H : Hp} {p : Addr} {n : Nat} (h : PenAt K D H p n) : H p ≠ none := by
  obtain ⟨o, q, ns, t, g, h1, h2, h3, h4⟩ := h
  rw [h1]
  exact fun z => by cases z
/-- a step that does not write the pen leaves it -/
theorem PenAt.keep {K : PySem.W.Frag} {W : Addr → Prop} {D H D' H' : Hp} {p : Addr} {n : Nat} (h : PenAt K D H p n) (s : Step W D H D' H') (hw : ¬ W p) : PenAt K D' H' p n := by
  have hn := h.there
  obtain ⟨o, q, ns, t, g, h1, h2, h3, h4⟩ := h
  exact ⟨s.fr p hn o, q, ns, t, g, s.kp p _ hw h1, s.dd.seq h2, h3, h4⟩
/-- draw(pen, many): a number below many -/
def spDraw (K : PySem.W.Frag) : Sp := fun vs H Q _ => ∃ (D : Hp) (p : Addr) (m : Int) (n : Nat), vs = [.ref p, .int m] ∧ Same D H ∧ PenAt K D H p (n + 1) ∧ 1 ≤ m ∧ m < 1000000 ∧
  ∀ (H' : Hp) (r : Int), Step (· = p) D H D H' → PenAt K D H' p n → 0 ≤ r → r < m → Q (.int r) H'

/-! ### calls by name -/
structure CalX (P : Program) (w : World) (K : PySem.W.Frag) (mg : Str → Option Value) (base : Heap) (CX : CXT) (k : Nat) (x : Str) (sp : Sp) : Prop where
  ex : ∃ (f : Addr) (fd : FuncData) (ps : List Str), FnOk P w K mg base CX k f fd ps sp ∧ mg x = some (.ref f) ∧ PySem.W.keepIn K (.ref f) = true ∧ Binds K fd ps []
section
variable {X : Cx} {CX : CXT} {k j : Nat} {sp : Sp} {E : XK} {x : Str} {p pos : Pos} {e : Expr} {es : List Expr} {t : TA}
theorem pe_cX (c : CalX X.prog X.w X.K X.mg X.base CX k x sp) (hr : Room j X.A) (hk : k ≤ j) (hg : Gl X x) (hx : Passes CX X E) (ha : PA X (e :: es) t)
    (hdb : (x == ("__debug__" : Str)) = false := by decide) (he : starEach (e :: es) X.env = (false, eval e X.env) :: starEach es X.env := by rfl) (hpl : (backTo pos (starEach es X.env)).any (·.1) = false := by rfl) :
    PE X (.Call (.Name x p) (e :: es) [] pos) (tCall sp [] E t) := by
  obtain ⟨f, fd, ps, F, g, kp, b⟩ := c.ex
  exact pe_call F (hr.mono hk) hg g kp b .nil hx ha hdb he hpl
end
end Rg

set_option Elab.async false
set_option linter.all false
set_option maxRecDepth 100000
set_option maxHeartbeats 2000000
namespace Rg
open PySem PySem.Spec PyProof.Rows L2
/-! ### enumerate of a text -/
def Ites (z : Str) : It :=
  ⟨fun i _ => i < z.cps.size, fun i H v H' => ∃ T c, v = .ref T ∧ H T = none ∧ H' = upd H T (.tup [.int (i : Nat), .str ⟨#[c]⟩]) ∧ z.cps[i]? = some c, fun i _ => i = z.cps.size⟩
theorem strTy (x : Str) : strIterType x = "str_ascii_iterator" ∨ strIterType x = "str_iterator" := by
  unfold strIterType
  split
  · exact .inl rfl
  · exact .inr rfl
theorem drawsStr {P : Program} {w : World} {A : Around} (hh : A.handled = none) (it : Addr) (x : Str) (t : Tok) {ty : String} (hty : ty = "str_ascii_iterator" ∨ ty = "str_iterator") :
    Draws P w A it [it] x.cps.size (fun i v => ∃ c u, x.cps[i]? = some c ∧ v = .str ⟨#[c]⟩ u) (fun i h => h.IsStrIter it ty x t i) := by
  rcases hty with rfl | rfl
  · exact Draws.strAscii hh it x t
  · exact Draws.strWide hh it x t
theorem turn_enumS {P : Program} {w : World} {K : PySem.W.Frag} {elts : List Expr} {kk : Nat} {tpos : Pos} (z : Str) (t : Tok) (ty : String) (hty : ty = "str_ascii_iterator" ∨ ty = "str_iterator") (e it : Addr) :
    Turn P w K (.Tuple elts kk tpos) (Ites z) [e, it] e (fun i h => (∃ old, IsEnum h e it ((i : Nat) : Int) old) ∧ h.IsStrIter it ty z t i ∧ e ≠ it) where
  mem := List.mem_cons_self
  obj := by
    rintro i h ⟨⟨old, he⟩, ⟨o, ho, hc, hd⟩, _⟩ b hb
    have hb' : b = e ∨ b = it := by simpa using hb
    rcases hb' with rfl | rfl
    · exact ⟨_, he, fun v q => nomatch q⟩
    · exact ⟨o, ho, fun v q => by rw [hd] at q; cases q⟩
  keep := by
    rintro i h h' ⟨⟨old, he⟩, ⟨o, ho, r⟩, hne⟩ kk
    exact ⟨⟨old, kk e (by simp) _ he⟩, ⟨o, kk it (by simp) o ho, r⟩, hne⟩
  item := by
    intro X hP hw hK hc i pins s σ H E I hf st hg
    subst hP hw hK
    obtain ⟨⟨old, he⟩, hit, hne⟩ := st
    have hel : e < s.heap.objs.size := Heap.lt_size he
    have hil : it < s.heap.objs.size := by
      obtain ⟨_, q, _⟩ := hit
      exact Heap.lt_size q
    have dr := drawsStr (P := X.prog) (w := X.w) (A := X.A.in1) (show X.A.in1.handled = none from I.ok.hd hc) it z t hty
    refine wpAny_pyNext_enum_itemD dr he hit hg hne (by simpa using hne) fun x h' tk hx ho hit' hT hsz hk => ?_
    obtain ⟨c, u, hcx, rfl⟩ := hx
    refine ⟨_, rfl, wpAny_letOwnedTupleGo_enum (s := { s with heap := h', toks := tk + 1 }) ho fun h2 he2 sb => ?_⟩
    have hT2 := (sb.2 _ (Nat.ne_of_gt hel)).trans hT
    have obj : ObjOk X.prog X.w (upd H s.heap.objs.size (.tup [.int (i : Nat), .str ⟨#[c]⟩])) h2 s.heap.objs.size (.tup [.int (i : Nat), .str ⟨#[c]⟩]) :=
      ⟨(by show 2 ≤ sizeLine; decide), [.int i tk, .str ⟨#[c]⟩ u], .cons ⟨tk, rfl⟩ (.cons ⟨u, rfl⟩ .nil), _, hT2, rfl, _, rfl⟩
    have kept : ∀ b o, b ∉ [e, it] → s.heap.get? b = some o → h2.get? b = some o := fun b o hb q => by
      have h1 : b ≠ e := fun z => hb (by simp [z])
      have h3 : b ≠ it := fun z => hb (by simp [z])
      exact (sb.2 b h1).trans (hk b o h1 h3 q)
    have J := I.turnedNew (t' := tk + 1) kept hf (Nat.le_refl _) obj
    refine ⟨.ref s.heap.objs.size, _, J, rfl, ⟨_, c, rfl, I.hok.fresh (Nat.le_refl _), rfl, hcx⟩, ⟨⟨.str ⟨#[c]⟩ u, ?_⟩, ?_, hne⟩, fun b hb => ?_⟩
    · have e1 : ((i + 1 : Nat) : Int) = (i : Int) + 1 := by omega
      rw [e1]
      exact he2
    · obtain ⟨o, ho', r⟩ := hit'
      exact ⟨o, (sb.2 it (Ne.symm hne)).trans ho', r⟩
    · have hlt : b < s.heap.objs.size := by
        have hb' : b = e ∨ b = it := by simpa using hb
        rcases hb' with rfl | rfl
        · exact hel
        · exact hil
      rw [upd_ne (Nat.ne_of_lt hlt)]
      exact (hf b hb).1
  done := by
    intro X hP hw hK hc i pins s σ H E I hf st hg
    subst hP hw hK
    obtain ⟨⟨old, he⟩, hit, hne⟩ := st
    obtain ⟨f0, f1, f2, f3, f4, f5⟩ := hf it (by simp)
    have dr := drawsStr (P := X.prog) (w := X.w) (A := X.A.in1) (show X.A.in1.handled = none from I.ok.hd hc) it z t hty
    have hi : i = z.cps.size := hg
    subst hi
    exact wpAny_pyNext_enum_endD dr he hit fun h' eb => ⟨rfl, I.turned (t' := s.toks) (fun b o hb q => eb b o hb q) f0 f1 f3 f4 f5⟩
  self := fun A i s Q E st h => let ⟨⟨_, he⟩, _⟩ := st; wpAny_pyIter_enum he h
def iEnumS (ta : TA) : TI := fun σ H R => ta σ H fun vs H1 => ∃ z : Str, vs = [.str z] ∧ R (Ites z) H1
theorem pi_enumS {X : Cx} {e : Expr} {ta : TA} {p pos tpos : Pos} {elts : List Expr} {kk : Nat} (hg : Gl X "enumerate") (hm : X.mg "enumerate" = none) (ha : PA X [e] ta) (hs : starEach [e] X.env = [(false, eval e X.env)] := by rfl) :
    PI X (.Tuple elts kk tpos) (.Call (.Name "enumerate" p) [e] [] pos) (iEnumS ta) := by
  refine ⟨fun pins s σ H R I h => ?_⟩
  refine Call_ (ld_blt I hg hm boot_enumerate (PyProof.Rows.callWith_type1 (thn (ha.run pos pins s σ H _ I h) fun us s1 hh => ?_) hs rfl))
  obtain ⟨vs, H1, I1, r1, z, rfl, q⟩ := hh
  cases r1 with
  | cons r rr =>
    cases rr
    obtain ⟨t, rfl⟩ := r
    refine call_enumerate_str fun h' he hit hsz hk => wpAny_pyIter_enum he ?_
    have I2 : Inv X pins σ H1 { s1 with heap := h' } := I1.kept (t' := s1.toks) hk
    refine ⟨s1.heap.objs.size + 1, [s1.heap.objs.size + 1, s1.heap.objs.size], _, _, H1, rfl, I2, turn_enumS z t (strIterType z) (strTy z) (s1.heap.objs.size + 1) s1.heap.objs.size, ⟨⟨.none, he⟩, hit, Nat.succ_ne_self _⟩, fun b hb => ?_, q⟩
    have hb' : b = s1.heap.objs.size + 1 ∨ b = s1.heap.objs.size := by simpa using hb
    have hle : s1.heap.objs.size ≤ b := by
      rcases hb' with z | z <;> rw [z]
      · exact Nat.le_add_right _ _
      · exact Nat.le_refl _
    exact I1.fpOk hle (I1.hok.fresh hle)
theorem walk_enumS {z : Str} : Walk (Ites z) z.cps.size (fun _ => True) (fun i H v H' => ∃ T c, v = .ref T ∧ H T = none ∧ H' = upd H T (.tup [.int (i : Nat), .str ⟨#[c]⟩]) ∧ z.cps[i]? = some c) :=
  ⟨fun _ _ hi _ => hi, fun _ _ => rfl, fun _ _ _ _ _ _ y => y⟩
end Rg

set_option Elab.async false
set_option linter.all false
set_option maxRecDepth 100000
set_option maxHeartbeats 2000000
namespace Rg
open PySem PySem.Spec PyProof.Rows L2
/-! ### data that is shown: its depth, the length of its text -/
structure Sm (n c : Nat) (d : PyData) : Prop where
  dp : d.depth ≤ n
  sh : d.showable = true
  nd : d.hasDict = false
  ln : d.shown.length ≤ c
theorem Sm.mono {n c n' c' : Nat} {d : PyData} (h : Sm n c d) (hn : n ≤ n') (hc : c ≤ c') : Sm n' c' d := ⟨Nat.le_trans h.dp hn, h.sh, h.nd, Nat.le_trans h.ln hc⟩
theorem sm_none : Sm 0 5 .none := ⟨Nat.le_refl _, rfl, rfl, by decide +kernel⟩
theorem sm_bool (b : Bool) : Sm 0 5 (.bool b) := ⟨Nat.le_refl _, rfl, rfl, by cases b <;> decide +kernel⟩
theorem sm_int {i : Int} (h : i.natAbs.log2 < 1920) : Sm 0 1921 (.int i) :=
  ⟨Nat.le_refl _, by simp [PyData.showable, h], rfl, by simp only [PyData.shown]; exact PyProof.Rows.int_text_len_1921 h⟩
theorem log2_small {i : Int} (h0 : 0 ≤ i) (h : i < 1000000000) : i.natAbs.log2 < 1920 := by
  by_cases e : i.natAbs = 0
  · rw [e]
    decide
  · rw [Nat.log2_lt e]
    exact Nat.lt_of_lt_of_le (show i.natAbs < 2 ^ 30 by omega) (Nat.pow_le_pow_right (by decide) (by decide))
theorem sm_nat {i : Int} (h0 : 0 ≤ i) (h : i < 1000000000) : Sm 0 1921 (.int i) := sm_int (log2_small h0 h)
theorem sm_str {x : Str} {l : Nat} (h : ∀ c ∈ x.cps.toList, c < 16 ^ 8) (hl : x.length ≤ l) : Sm 0 (10 * l + 2) (.str x) := by
  refine ⟨Nat.le_refl _, rfl, rfl, ?_⟩
  have e := StrLaws.reprText_len x h
  simp only [PyData.shown]
  omega
theorem textFrom_le : ∀ (ts : List Str) (k : Nat) (acc : Str), (textFrom k acc ts).length ≤ acc.length + piled ts
  | [], _, _ => Nat.le_add_right _ _
  | t :: r, k, acc => by
    have ih := textFrom_le r (k + 1) (acc ++ (if k > 0 then ", " else "" : String) ++ t)
    have e2 : ((if k > 0 then ", " else "" : String) : Str).length ≤ 2 := by split <;> decide +kernel
    show (textFrom (k + 1) (acc ++ (if k > 0 then ", " else "" : String) ++ t) r).length ≤ _
    rw [strLen_append, strLen_append] at ih
    rw [piled_cons]
    omega
theorem listText_le (ts : List Str) : (listText ts).length ≤ piled ts + 2 := by
  have h := textFrom_le ts 0 "["
  have e1 : (("[" : String) : Str).length = 1 := rfl
  have e2 : (("]" : String) : Str).length = 1 := rfl
  unfold listText
  rw [strLen_append, e2]
  omega
theorem tupleText_le (ts : List Str) : (tupleText ts).length ≤ piled ts + 3 := by
  have e3 : (((if ts.length == 1 then ",)" else ")" : String) : Str)).length ≤ 2 := by split <;> decide +kernel
  have e1 : ((("(" : String) : Str)).length = 1 := rfl
  unfold tupleText
  rw [strLen_append, strLen_append, e1]
  cases ts with
  | nil =>
    have e4 : (Str.join ", " []).length = 0 := by decide +kernel
    rw [e4]
    omega
  | cons t r =>
    have := join_length_add (t :: r) (by simp)
    omega
theorem sm_all {n c : Nat} : ∀ {ds : List PyData}, (∀ d ∈ ds, Sm n c d) → PyData.depthAll ds ≤ n ∧ PyData.showableAll ds = true ∧ PyData.hasDictAll ds = false ∧ piled (PyData.shownAll ds) ≤ ds.length * (c + 2)
  | [], _ => ⟨Nat.zero_le _, rfl, rfl, Nat.zero_le _⟩
  | d :: r, h => by
    obtain ⟨h1, h2, h3, h4⟩ := h d List.mem_cons_self
    obtain ⟨i1, i2, i3, i4⟩ := sm_all (ds := r) fun x hx => h x (List.mem_cons_of_mem _ hx)
    refine ⟨Nat.max_le.mpr ⟨h1, i1⟩, ?_, ?_, ?_⟩
    · show (PyData.showable d && PyData.showableAll r) = true
      rw [h2, i2] <;> rfl
    · show (PyData.hasDict d || PyData.hasDictAll r) = false
      rw [h3, i3] <;> rfl
    · show piled (PyData.shown d :: PyData.shownAll r) ≤ _
      rw [piled_cons, List.length_cons, Nat.add_mul]
      omega
theorem sm_list {n c : Nat} {ds : List PyData} (h : ∀ d ∈ ds, Sm n c d) : Sm (n + 1) (ds.length * (c + 2) + 3) (.list ds) := by
  obtain ⟨i1, i2, i3, i4⟩ := sm_all h
  refine ⟨?_, i2, i3, ?_⟩
  · show PyData.depthAll ds + 1 ≤ n + 1
    omega
  · have e := listText_le (PyData.shownAll ds)
    simp only [PyData.shown]
    omega
theorem sm_tup {n c : Nat} {ds : List PyData} (h : ∀ d ∈ ds, Sm n c d) : Sm (n + 1) (ds.length * (c + 2) + 3) (.tuple ds) := by
  obtain ⟨i1, i2, i3, i4⟩ := sm_all h
  refine ⟨?_, i2, i3, ?_⟩
  · show PyData.depthAll ds + 1 ≤ n + 1
    omega
  · have e := tupleText_le (PyData.shownAll ds)
    simp only [PyData.shown]
    omega
/-- repr of data -/
def rRepr (K : PySem.W.Frag) : List V → Hp → VK → Prop := fun xs H Q => ∃ (v : V) (d : PyData), xs = [v] ∧ Dp K H v d ∧ Sm 60 10000000 d ∧ Q (.str d.shown) H
theorem call_reprD {X : Cx} (hg : X.A.guards = some []) (hu : X.A.units + 64 < cLine) : CallR X (.builtin "repr") (rRepr X.K) := by
  intro pins s σ H xs us Q I r h
  obtain ⟨v, d, rfl, hd, sm, q⟩ := h
  cases r with
  | cons r1 r2 =>
    cases r2
    rename_i u
    obtain ⟨as, rd⟩ := Dp.reads I d v u hd r1
    have hsz : d.shown.length ≤ sizeLine := Nat.le_trans sm.ln (by decide)
    have fin : ∀ {h' : Heap} {t tk : Tok}, (∀ b o, s.heap.get? b = some o → h'.get? b = some o) → EP X pins σ Q (.str d.shown t) { s with heap := h', toks := tk } := fun {h' t tk} hk => ⟨.str d.shown, H, I.kept (t' := tk) hk, ⟨t, rfl⟩, q⟩
    cases hd with
    | non =>
      obtain rfl : u = Value.none := r1
      exact PySem.P.repr_of_none (fin (h' := s.heap) fun _ _ e => e)
    | bl b =>
      obtain rfl : u = Value.bool b := r1
      exact PySem.P.repr_of_bool (fin (h' := s.heap) fun _ _ e => e)
    | int i =>
      obtain ⟨t, rfl⟩ := r1
      exact PySem.P.repr_of_int (by simpa [PyData.showable] using sm.sh) (fin (h' := s.heap) fun _ _ e => e)
    | str x =>
      obtain ⟨t, rfl⟩ := r1
      exact PySem.P.repr_of_str (fin (h' := s.heap) fun _ _ e => e) hsz
    | lst h1 h2 =>
      obtain rfl := r1
      have hdp := sm.dp
      exact repr_of_reads' rd sm.sh (fun z => by rw [sm.nd] at z; cases z) hg (by omega) (fun _ _ e => e) (fun h' t tk hk => fin hk) hsz
    | tup h1 h2 =>
      obtain rfl := r1
      have hdp := sm.dp
      exact repr_of_reads' rd sm.sh (fun z => by rw [sm.nd] at z; cases z) hg (by omega) (fun _ _ e => e) (fun h' t tk hk => fin hk) hsz
end Rg

set_option Elab.async false
set_option linter.all false
set_option maxRecDepth 100000
set_option maxHeartbeats 2000000
namespace Rg
open PySem PySem.Spec PyProof.Rows L2
/-! ### promises of defs that show data: nothing is being shown around them -/
structure FnG (P : Program) (w : World) (K : PySem.W.Frag) (mg : Str → Option Value) (base : Heap) (CX : CXT) (k : Nat) (f : Addr) (fd : FuncData) (ps : List Str) (sp : Sp) : Prop where
  len : ∀ vs H Q E, sp vs H Q E → vs.length = ps.length
  run : ∀ (A : Around) (outer : List Env) (s : Shared) (H : Hp) (args : Args) (us : List Value) (vs : List V) (Q : VK) (E : XK),
    Room k A → A.guards = some [] → Env0 P w K mg base A outer s H → BindsTo s fd args (ps.zip us) → Vals vs us → sp vs H Q E →
    codeAny (model P w) A (.call (.ref f) args) (CR CX outer P w H s Q E) s
theorem FnG.of {P : Program} {w : World} {K : PySem.W.Frag} {mg : Str → Option Value} {base : Heap} {CX : CXT} {k : Nat} {f : Addr} {fd : FuncData} {ps : List Str} {sp : Sp}
    (F : FnOk P w K mg base CX k f fd ps sp) : FnG P w K mg base CX k f fd ps sp :=
  ⟨F.len, fun A outer s H args us vs Q E hr _ e0 hb r h => F.run A outer s H args us vs Q E hr e0 hb r h⟩
section
variable {P : Program} {w : World} {K : PySem.W.Frag} {mg : Str → Option Value} {base : Heap}
theorem fn_ofG {CX : CXT} {k : Nat} {f : Addr} {name qual : Str} {params : Arguments} {body : List Stmt} {scope : Scope} {dV kV doc pm cdv ct oc : Value} {an od : Option Addr} {osl : Array (Option Value)} {N ps : List Str} {sp : Sp}
    (lk : K.lookup f = some ⟨oc, od, .func (PySem.W.fnOf name qual params body scope dV kV doc pm an cdv ct), osl⟩)
    (hcd : PySem.W.codeIn K cdv qual = true) (S : FnScope N ps scope) (len : ∀ vs H Q E, sp vs H Q E → vs.length = ps.length)
    (hbody : ∀ (A : Around) (outer : List Env) (s : Shared) (H : Hp) (vs : List V) (Q : VK) (E : XK), Room k (A.deeper (envOfC qual scope s.heap.objs.size f cdv)) → A.guards = some [] → sp vs H Q E →
      ∃ t, PSs (cxOf CX P w K mg base N qual scope f cdv A outer s H E) body t ∧ t { nx := fun _ H' => Q .non H', rt := Q } (start N vs) H) :
    FnG P w K mg base CX (k + 1) f (PySem.W.fnOf name qual params body scope dV kV doc pm an cdv ct) ps sp := by
  constructor
  · exact len
  · intro A outer s H args us vs Q E hr hgd e0 hb r hsp
    have kin : K.In s.heap := e0.mod.kin.keeps fun b o q => (e0.bs b o q).1
    have nol : s.heap.NoLimit := e0.mod.nolimit.keeps fun b o q => (e0.bs b o q).1
    have kinds : ∀ y ∈ ps.zip us, scope.names.lookup y.1 = some .local ∨ (scope.names.lookup y.1 = some .cell ∧ ((cellsFrom (s.heap.objs.size + 1) scope.names []).lookup y.1).isSome = true) := by
      rintro ⟨n, v⟩ hy
      have hp := S.par n (List.of_mem_zip hy).1
      exact hp.elim Or.inl fun c => Or.inr ⟨c, PySem.W.cellsFrom_some _ _ _ (.inl c)⟩
    refine codeAny_call_function hr.depth (kin _ _ lk) rfl S.co S.gen rfl (PySem.W.codeRec_of kin hcd) (hb _ _ _ _ ?_)
    refine wpAny_newFunctionEnv_cells S.kind kinds fun env he s1 x => ?_
    subst he
    refine ⟨nol.keeps x.toInCall.keep, codeAny_func ?_⟩
    obtain ⟨t, ht, hq⟩ := hbody A outer s H vs Q E (hr.deeper _) hgd hsp
    have J := inv_start (CX := CX) (E := E) S hr.hd e0 (len _ _ _ _ hsp) r x
    refine wpAny_mono (ht.run [] s1 _ H _ J hq) ?_ fun e s' z => z
    intro fl s' z
    cases fl with
    | ret u =>
      obtain ⟨v, σ', H', J', rv, q⟩ := z
      exact ⟨v, H', J'.os, J'.bare, J'.base, J'.hok, rv, q⟩
    | next =>
      obtain ⟨σ', H', J', q⟩ := z
      exact ⟨.non, H', J'.os, J'.bare, J'.base, J'.hok, rfl, q⟩
    | brk =>
      obtain ⟨_, _, _, q⟩ := z
      exact q.elim
    | cont =>
      obtain ⟨_, _, _, q⟩ := z
      exact q.elim
theorem FunD.okG {CX : CXT} {x qual : Str} {params : Arguments} {body : List Stmt} {scope : Scope} {dvs : List V} {kws : List (Str × V)} {f : Addr} {fd : FuncData} {N ps : List Str} {k : Nat} {sp : Sp}
    (F : FunD K x qual params body scope dvs kws f fd) (S : FnScope N ps scope) (len : ∀ vs H Q E, sp vs H Q E → vs.length = ps.length)
    (hbody : ∀ (cdv : Value) (A : Around) (outer : List Env) (s : Shared) (H : Hp) (vs : List V) (Q : VK) (E : XK), Room k (A.deeper (envOfC qual scope s.heap.objs.size f cdv)) → A.guards = some [] → sp vs H Q E →
      ∃ t, PSs (cxOf CX P w K mg base N qual scope f cdv A outer s H E) body t ∧ t { nx := fun _ H' => Q .non H', rt := Q } (start N vs) H) :
    FnG P w K mg base CX (k + 1) f fd ps sp := by
  obtain ⟨oc, od, dV, kV, doc, pm, an, cdv, ct, osl, rfl, lk, hcd, _, _⟩ := F.ex
  exact fn_ofG lk hcd S len fun A outer s H vs Q E hr hgd hsp => hbody cdv A outer s H vs Q E hr hgd hsp
end
structure CalG (P : Program) (w : World) (K : PySem.W.Frag) (mg : Str → Option Value) (base : Heap) (CX : CXT) (k : Nat) (x : Str) (sp : Sp) : Prop where
  ex : ∃ (f : Addr) (fd : FuncData) (ps : List Str), FnG P w K mg base CX k f fd ps sp ∧ mg x = some (.ref f) ∧ PySem.W.keepIn K (.ref f) = true ∧ Binds K fd ps []
section
variable {X : Cx} {CX : CXT} {k j : Nat} {sp : Sp} {E : XK} {x : Str} {p pos : Pos} {e : Expr} {es : List Expr} {t : TA}
theorem pe_cG (c : CalG X.prog X.w X.K X.mg X.base CX k x sp) (hgd : X.A.guards = some []) (hr : Room j X.A) (hk : k ≤ j) (hg : Gl X x) (hx : Passes CX X E) (ha : PA X (e :: es) t)
    (hdb : (x == ("__debug__" : Str)) = false := by decide) (he : starEach (e :: es) X.env = (false, eval e X.env) :: starEach es X.env := by rfl) (hpl : (backTo pos (starEach es X.env)).any (·.1) = false := by rfl) :
    PE X (.Call (.Name x p) (e :: es) [] pos) (tCall sp [] E t) := by
  obtain ⟨f, fd, ps, F, g, kp, b⟩ := c.ex
  constructor
  intro pins s σ H Q I h
  refine wpAny_Call_Name_kw (ld_glob I hg g ?_ hdb)
  refine PySem.W.callWith_K (h₀ := X.base) I.ok.mod.kin kp (thn (ha.run pos pins s σ H _ I h) fun us s1 z => ?_) he hpl
  obtain ⟨vs, H1, I1, r, q⟩ := z
  refine ⟨I1.kIn, ?_⟩
  rw [List.append_nil] at q
  have hl : us.length = ps.length := r.length.symm.trans (F.len _ _ _ _ q)
  have bt := b s1 us I1.kIn (by rw [List.append_nil]; exact hl)
  rw [List.append_nil] at bt
  refine wpAny_call (codeAny_mono (F.run X.A X.stack s1 H1 ⟨us, []⟩ us vs Q E (hr.mono hk) hgd I1.env0 bt r q) fun o s' hq => ?_)
  cases o with
  | error e => exact hx pins σ H1 s1 e s' I1 hq
  | ok fl =>
    cases fl with
    | ret u => exact I1.after hq
    | next => exact hq.elim
    | brk => exact hq.elim
    | cont => exact hq.elim
end
/-! ### the end: the law's call, nothing shown around it -/
theorem law_callG {P : Program} {w : World} {K : PySem.W.Frag} {mg mb : Str → Option Value} {k : Nat} {fa a : Addr} {fd : FuncData} {x : Str} {sp : Sp} {s1 : Shared} {vs : List Value} {ns : List Int}
    (KX : K.In s1.heap) (hns : s1.heap.Ns mainGlobals mg) (hb : s1.heap.Ns builtinsNs mb) (hbb : ∀ y : Str, y ≠ "__name__" → mb y = bootBuiltins y) (hlim : s1.heap.NoLimit) (hg : s1.gens = #[])
    (ha : s1.heap.get? a = some { cls := .type "list", data := .seq vs.toArray }) (hi : IntsAre vs ns) (hl : ns.length ≤ sizeLine) (hr : Room k callerA)
    (F : ∀ base : Heap, K.In base → base.Ns mainGlobals mg → FnG P w K mg base CX0 k fa fd [x] sp) (hbind : ∀ (s : Shared) (u : Value), BindsTo s fd ⟨[u], []⟩ [(x, u)])
    (hsp : ∀ H : Hp, Only H → SqL K H a (ns.map V.int) → sp [.ref a] H (fun v _ => v = .bl true) fun _ _ _ => False) :
    codeAny (model P w) callerA (.call (.ref fa) ⟨[.ref a], []⟩) (fun r s' => r = .ok (.ret (.bool true)) ∧ OldK s1.heap s'.heap ∧ s'.os = s1.os ∧ AllBare s'.gens) s1 := by
  have rv := vals_ints hi
  have lenV := hi.length
  have main : ∀ H : Hp, Only H → SqL K H a (ns.map V.int) → HOk P w H s1.heap → (∀ b, H b ≠ none → b = a ∧ K.lookup a = none) →
      codeAny (model P w) callerA (.call (.ref fa) ⟨[.ref a], []⟩) (fun r s' => r = .ok (.ret (.bool true)) ∧ OldK s1.heap s'.heap ∧ s'.os = s1.os ∧ AllBare s'.gens) s1 := by
    intro H hO hS hok hA
    have free : ∀ {b : Addr} {o : Obj}, s1.heap.get? b = some o → (∀ its n, o.data ≠ .seq its n) → H b = none := by
      intro b o e nd
      cases q : H b with
      | none => rfl
      | some u =>
        obtain ⟨rfl, _⟩ := hA b (by rw [q]; exact fun z => by cases z)
        rw [ha] at e
        cases e
        exact absurd rfl (nd _ _)
    have inB : ∀ {b : Addr} {o : Obj}, s1.heap.get? b = some o → H b = none → (hidT s1.heap H).get? b = some o := fun e n => hidT_get e n
    have nsB : ∀ {b : Addr} {m : Str → Option Value}, s1.heap.Ns b m → (hidT s1.heap H).Ns b m := by
      rintro b m ⟨o, es, ep, e, d, r⟩
      exact ⟨o, es, ep, inB e (free e fun its n z => by rw [d] at z; cases z), d, r⟩
    have KB : K.In (hidT s1.heap H) := by
      intro b o e
      refine inB (KX b o e) ?_
      cases q : H b with
      | none => rfl
      | some u =>
        obtain ⟨rfl, z⟩ := hA b (by rw [q]; exact fun z => by cases z)
        rw [z] at e
        cases e
    have mod : Mod K mg (hidT s1.heap H) := by
      obtain ⟨mc, h1, h2⟩ := hlim
      exact ⟨KB, nsB hns, ⟨mb, nsB hb, hbb⟩, mc, nsB h1, h2⟩
    have e0 : Env0 P w K mg (hidT s1.heap H) callerA [] s1 H :=
      { frames := rfl, mod := mod, bs := fun b o e => of_hidT e, bsz := Nat.le_of_eq (hidT_size _ _), funs := trivial, frf := fun b z => absurd (show b ∈ ([] : List Addr) from z) (by simp), hok := hok, bare := .of_eq hg }
    refine codeAny_mono ((F _ KB (nsB hns)).run callerA [] s1 H ⟨[.ref a], []⟩ [.ref a] [.ref a] _ _ hr rfl e0 (hbind s1 (.ref a)) (.cons rfl .nil) (hsp H hO hS)) ?_
    intro o s' h
    cases o with
    | error e => exact h.elim
    | ok fl =>
      cases fl with
      | next => exact h.elim
      | brk => exact h.elim
      | cont => exact h.elim
      | ret u =>
        obtain ⟨v, H', os, bare, un, hok', r', q⟩ := h
        obtain rfl : v = .bl true := q
        obtain rfl : u = Value.bool true := r'
        refine ⟨rfl, OldK.of_keep fun b ob e => ?_, os, bare⟩
        rcases hO b with z | ⟨o2, xs, z⟩
        · exact un.keep b ob e z (fun y => absurd (show b ∈ ([] : List Addr) from y) (by simp)) (by simp)
        · have e1 := (hok b _ z).1
          have e2 := (hok' b _ (un.frzs b o2 _ z)).1
          rw [e] at e1
          cases e1
          exact e2
  cases hk : K.lookup a with
  | some o =>
    have e := KX a o hk
    rw [ha] at e
    cases e
    refine main (fun _ => none) (fun _ => .inl rfl) (.inr ⟨_, vs.toArray, _, hk, rfl, rfl, rfl, ?_, ?_⟩) (fun b u z => ?_) fun b z => absurd rfl z
    · rw [List.size_toArray, lenV]
      exact hl
    · simpa using rv
    · exact nomatch (show (none : Option HO) = some u from z)
  | none =>
    let o0 : Obj := { cls := .type "list", data := .seq vs.toArray }
    let H0 : Hp := fun b => if b = a then some (.frz o0 (.lst (ns.map V.int))) else none
    have at0 : H0 a = some (.frz o0 (.lst (ns.map V.int))) := if_pos rfl
    have off0 : ∀ b, b ≠ a → H0 b = none := fun b hb => if_neg hb
    refine main H0 (fun b => ?_) (.inl (.inr ⟨o0, at0⟩)) (fun b u z => ?_) fun b z => ⟨?_, hk⟩
    · by_cases hb : b = a
      · exact .inr ⟨o0, _, hb ▸ at0⟩
      · exact .inl (off0 b hb)
    · by_cases hb : b = a
      · subst hb
        rw [at0] at z
        cases z
        exact ⟨ha, by rw [List.length_map]; exact hl, vs, _, rv, ha⟩
      · rw [off0 b hb] at z
        cases z
    · by_cases hb : b = a
      · exact hb
      · exact absurd (off0 b hb) z
theorem walk_ofG {l : PySem.W.OpenLaw} {n k : Nat} {q : Program} {loose : List Str} {XP : (Str → Option Value) → Heap → Prop} {YP : World → Heap → Prop} {d : DefRec} {x : Str}
    (hn : l.most = some n) (hn2 : n ≤ sizeLine) (hdf : d.params.defaults = []) (hr : Room k callerA)
    (F : ∀ (w : World) (mg : Str → Option Value) (fa : Addr) (h : Heap), YP w h → h.Ns mainGlobals mg → mg d.name = some (.ref fa) →
      ∃ (K : PySem.W.Frag) (fd : FuncData) (sp : Sp), K.In h ∧ (∀ (s : Shared) (u : Value), BindsTo s fd ⟨[u], []⟩ [(x, u)]) ∧
        (∀ (H : Hp) (a : Addr) (ns : List Int), ns.length ≤ n → Only H → SqL K H a (ns.map V.int) → sp [.ref a] H (fun v _ => v = .bl true) fun _ _ _ => False) ∧
        ∀ base : Heap, K.In base → base.Ns mainGlobals mg → FnG l.prog w K mg base CX0 k fa fd [x] sp) :
    PySem.W.WalkO q loose XP YP l.row.toRowW d [] (fun f vs => PySem.call f vs) := by
  refine Att.attach_call hn hdf ?_
  intro w s0 s1 mg mb fa o pm cd doc a vs ns G Y ho hd hcd hmg hobj hints hlen hg
  obtain ⟨K, fd, sp, KX, hb, hsp, hF⟩ := F w mg fa _ Y G.T.g hmg
  exact law_callG KX G.T.g G.T.b G.T.builtins G.T.nolimit hg hobj hints (Nat.le_trans hlen hn2) hr hF hb fun H hO hS => hsp H a ns hlen hO hS
end Rg

set_option Elab.async false
set_option linter.all false
set_option maxRecDepth 100000
set_option maxHeartbeats 2000000
namespace Rg
open PySem PySem.Spec PyProof.Rows L2
/-! ### methods of an own class by name; its special methods -/
structure MetX (P : Program) (w : World) (K : PySem.W.Frag) (mg : Str → Option Value) (base : Heap) (CX : CXT) (k : Nat) (C : Addr) (m : Str) (sp : Sp) : Prop where
  ex : ∃ (f : Addr) (fd : FuncData) (ps : List Str), Meth K C m f ∧ FnOk P w K mg base CX k f fd ps sp ∧ Binds K fd ps []
section
variable {X : Cx} {CX : CXT} {k j : Nat} {C f a : Addr} {fd : FuncData} {ps : List Str} {sp : Sp} {E : XK} {m : Str} {p pos apos : Pos} {o e : Expr} {es : List Expr} {ta tb : TE} {t : TA}
/-- the callee runs, one C level deeper -/
theorem run_fn1 {pins : List (Addr × Obj)} {σ : L2.St} {H : Hp} {s : Shared} {Q : VK} {us : List Value} {vs : List V} (F : FnOk X.prog X.w X.K X.mg X.base CX k f fd ps sp) (hr : Room (k + 1) X.A) (hb : Binds X.K fd ps []) (hx : Passes CX X E)
    (I : Inv X pins σ H s) (r : Vals vs us) (h : sp vs H Q E) : wpAny (model X.prog X.w) X.A.in1 (call (.ref f) us) (EP X pins σ Q) X.xe s := by
  have hl : us.length = ps.length := r.length.symm.trans (F.len _ _ _ _ h)
  have bt := hb s us I.kIn (by rw [List.append_nil]; exact hl)
  rw [List.append_nil] at bt
  refine wpAny_call (codeAny_mono (F.run X.A.in1 X.stack s H ⟨us, []⟩ us vs Q E hr.in1 I.env0.in1 bt r h) fun z s' hq => ?_)
  cases z with
  | error e => exact hx pins σ H s e s' I hq
  | ok fl =>
    cases fl with
    | ret u => exact I.after hq
    | next => exact hq.elim
    | brk => exact hq.elim
    | cont => exact hq.elim
theorem run_fn0 {pins : List (Addr × Obj)} {σ : L2.St} {H : Hp} {s : Shared} {Q : VK} {us : List Value} {vs : List V} (F : FnOk X.prog X.w X.K X.mg X.base CX k f fd ps sp) (hr : Room k X.A) (hb : Binds X.K fd ps []) (hx : Passes CX X E)
    (I : Inv X pins σ H s) (r : Vals vs us) (h : sp vs H Q E) : wpAny (model X.prog X.w) X.A (call (.ref f) us) (EP X pins σ Q) X.xe s :=
  run_fn F hr hb .nil hx I r (by rw [List.append_nil]; exact h)
theorem inst_of {pins : List (Addr × Obj)} {σ : L2.St} {H : Hp} {s : Shared} {dx : Addr} {fs : List (Str × V)} (I : Inv X pins σ H s) (ea : H a = some (.ins C dx fs)) : ∃ ox od, PySem.W.InstAt s.heap a ox C od := by
  obtain ⟨mA, O, _, _, _, _⟩ := ins_get I.hok ea
  obtain ⟨od, J, _⟩ := O.look
  exact ⟨_, _, J⟩
/-- len(o) -/
def rLenO (C : Addr) (sp : Sp) (E : XK) : List V → Hp → VK → Prop := fun xs H Q => ∃ a dx fs, xs = [.ref a] ∧ H a = some (.ins C dx fs) ∧ sp [.ref a] H (fun v H' => ∃ n : Int, v = .int n ∧ 0 ≤ n ∧ n < 2 ^ 63 ∧ Q (.int n) H') E
theorem call_lenO (c : MetX X.prog X.w X.K X.mg X.base CX k C "__len__" sp) (hr : Room j X.A) (hk : k + 1 ≤ j) (hx : Passes CX X E) : CallR X (.builtin "len") (rLenO C sp E) := by
  intro pins s σ H xs us Q I r h
  obtain ⟨f, fd, ps, hm, F, b⟩ := c.ex
  obtain ⟨a, dx, fs, rfl, ea, q⟩ := h
  cases r with
  | cons r1 r2 =>
    cases r2
    obtain rfl := r1
    obtain ⟨ox, od, J⟩ := inst_of I ea
    obtain ⟨mf, hf⟩ := I.fr
    refine PySem.W.len_K hf I.mod.kin J hm.at_ hm.fn (wpAny_mono (run_fn1 (vs := [.ref a]) F (hr.mono hk) b hx I (.cons rfl .nil) q) ?_ fun _ _ z => z)
    rintro u s' ⟨v, H', I', rv, n, rfl, h0, h1, q'⟩
    obtain ⟨t, rfl⟩ := rv
    exact ⟨⟨h0, h1⟩, .int n, H', I'.tok _, ⟨_, rfl⟩, q'⟩
/-- x in o, x not in o -/
def rInO (C : Addr) (sp : Sp) (E : XK) (neg : Bool) : R2 := fun x y H Q => ∃ a dx fs, y = .ref a ∧ H a = some (.ins C dx fs) ∧ sp [.ref a, x] H (fun v H' => ∃ b : Bool, v = .bl b ∧ Q (.bl (if neg then !b else b)) H') E
theorem op_inO (c : MetX X.prog X.w X.K X.mg X.base CX k C "__contains__" sp) (hr : Room j X.A) (hk : k ≤ j) (hx : Passes CX X E) : OpR X (compareOp .In) (rInO C sp E false) := by
  intro pins s σ H x y v u Q I rx ry h
  obtain ⟨f, fd, ps, hm, F, b⟩ := c.ex
  obtain ⟨a, dx, fs, rfl, ea, q⟩ := h
  obtain rfl := ry
  obtain ⟨ox, od, J⟩ := inst_of I ea
  obtain ⟨mf, hf⟩ := I.fr
  refine PySem.W.in_K hf I.mod.kin J hm.at_ hm.fn (wpAny_mono (run_fn0 (vs := [.ref a, x]) F (hr.mono hk) b hx I (.cons rfl (.cons rx .nil)) q) ?_ fun _ _ z => z)
  rintro u s' ⟨v, H', I', rv, b, rfl, q'⟩
  obtain rfl := rv
  exact wpAny_pure ⟨.bl b, H', I', rfl, q'⟩
theorem op_notInO (c : MetX X.prog X.w X.K X.mg X.base CX k C "__contains__" sp) (hr : Room j X.A) (hk : k ≤ j) (hx : Passes CX X E) : OpR X (compareOp .NotIn) (rInO C sp E true) := by
  intro pins s σ H x y v u Q I rx ry h
  obtain ⟨f, fd, ps, hm, F, b⟩ := c.ex
  obtain ⟨a, dx, fs, rfl, ea, q⟩ := h
  obtain rfl := ry
  obtain ⟨ox, od, J⟩ := inst_of I ea
  obtain ⟨mf, hf⟩ := I.fr
  refine PySem.W.notIn_K hf I.mod.kin J hm.at_ hm.fn (wpAny_mono (run_fn0 (vs := [.ref a, x]) F (hr.mono hk) b hx I (.cons rfl (.cons rx .nil)) q) ?_ fun _ _ z => z)
  rintro u s' ⟨v, H', I', rv, b, rfl, q'⟩
  obtain rfl := rv
  exact wpAny_pure ⟨.bl (!b), H', I', rfl, q'⟩
/-- o[x] -/
def rIxO (C : Addr) (sp : Sp) (E : XK) : R2 := fun x y H Q => ∃ a dx fs, x = .ref a ∧ H a = some (.ins C dx fs) ∧ sp [.ref a, y] H Q E
theorem pe_ixO {a b : Expr} (c : MetX X.prog X.w X.K X.mg X.base CX k C "__getitem__" sp) (hfn : ∀ f, Meth X.K C "__getitem__" f → PySem.W.fnIn X.K f = true) (hr : Room j X.A) (hk : k + 1 ≤ j) (hx : Passes CX X E) (ha : PE X a ta) (hb : PE X b tb)
    (hsl : ∀ x i, subscripted b true (.ref x) i = runValue (.builtin "lifetime.subscript" ⟨[.ref x, i], []⟩) := by intro _ _; rfl) : PE X (.Subscript a b pos) (tOp (rIxO C sp E) ta tb) := by
  refine ⟨fun pins s σ H Q I h => ?_⟩
  refine Subscript_ (binT ha hb I h fun v u s2 x y H2 I2 rx ry q => ?_)
  obtain ⟨f, fd, ps, hm, F, b⟩ := c.ex
  obtain ⟨a, dx, fs, rfl, ea, q⟩ := q
  obtain rfl := rx
  obtain ⟨ox, od, J⟩ := inst_of I2 ea
  obtain ⟨mf, hf⟩ := I2.fr
  exact PySem.W.sub_K hf I2.mod.kin J hm.at_ (hfn f hm) hm.fn (run_fn1 (vs := [.ref a, y]) F (hr.mono hk) b hx I2 (.cons rfl (.cons ry .nil)) q) (hsl _ _)
/-- -o, ~o -/
def rUnO (C : Addr) (sp : Sp) (E : XK) : V → Hp → VK → Prop := fun x H Q => ∃ a dx fs, x = .ref a ∧ H a = some (.ins C dx fs) ∧ sp [.ref a] H Q E
theorem un_negO (c : MetX X.prog X.w X.K X.mg X.base CX k C "__neg__" sp) (hr : Room j X.A) (hk : k ≤ j) (hx : Passes CX X E) : UnR X (unaryOp .USub) (rUnO C sp E) := by
  intro pins s σ H x v Q I rx h
  obtain ⟨f, fd, ps, hm, F, b⟩ := c.ex
  obtain ⟨a, dx, fs, rfl, ea, q⟩ := h
  obtain rfl := rx
  obtain ⟨ox, od, J⟩ := inst_of I ea
  obtain ⟨mf, hf⟩ := I.fr
  exact PySem.W.ksp_neg hf I.mod.kin J hm.at_ hm.fn (run_fn0 (vs := [.ref a]) F (hr.mono hk) b hx I (.cons rfl .nil) q)
theorem un_invO (c : MetX X.prog X.w X.K X.mg X.base CX k C "__invert__" sp) (hr : Room j X.A) (hk : k ≤ j) (hx : Passes CX X E) : UnR X (unaryOp .Invert) (rUnO C sp E) := by
  intro pins s σ H x v Q I rx h
  obtain ⟨f, fd, ps, hm, F, b⟩ := c.ex
  obtain ⟨a, dx, fs, rfl, ea, q⟩ := h
  obtain rfl := rx
  obtain ⟨ox, od, J⟩ := inst_of I ea
  obtain ⟨mf, hf⟩ := I.fr
  exact PySem.W.ksp_inv hf I.mod.kin J hm.at_ hm.fn (run_fn0 (vs := [.ref a]) F (hr.mono hk) b hx I (.cons rfl .nil) q)
/-- o.m(e, ..) by name -/
theorem pe_mX {pl : Sem Bool} (he : PE X o ta) (c : Cls X.K C) (hm : MetX X.prog X.w X.K X.mg X.base CX k C m sp) (hr : Room j X.A) (hk : k ≤ j) (hx : Passes CX X E) (ha : PA X (e :: es) t)
    (hst : starEach (e :: es) X.env = (false, eval e X.env) :: starEach es X.env := by rfl) (hpl : (backTo pos (starEach es X.env)).any (·.1) = false := by rfl)
    (ht : eval (.Call (.Attribute o m apos) (e :: es) [] pos) X.env = (do
      let ov ← eval o X.env
      standAt apos.atName
      let fx ← holding [ov] (getMethod ov m pl)
      callWith pos fx.1 fx.2 (backTo pos (starEach (e :: es) X.env)) (backToKw pos (keywordEach [] X.env))) := by rfl) :
    PE X (.Call (.Attribute o m apos) (e :: es) [] pos) (tMeth C m sp [] E ta t) := by
  obtain ⟨f, fd, ps, hm', F, b⟩ := hm.ex
  exact pe_meth (pl := pl) he c hm' F (hr.mono hk) b .nil hx ha hst hpl ht
theorem pe_mX0 {pl : Sem Bool} (he : PE X o ta) (c : Cls X.K C) (hm : MetX X.prog X.w X.K X.mg X.base CX k C m sp) (hr : Room j X.A) (hk : k ≤ j) (hx : Passes CX X E)
    (ht : eval (.Call (.Attribute o m apos) [] [] pos) X.env = (do
      let ov ← eval o X.env
      standAt apos.atName
      let fx ← holding [ov] (getMethod ov m pl)
      callWith pos fx.1 fx.2 (backTo pos (starEach [] X.env)) (backToKw pos (keywordEach [] X.env))) := by rfl) :
    PE X (.Call (.Attribute o m apos) [] [] pos) (tMeth C m sp [] E ta tNil) := by
  obtain ⟨f, fd, ps, hm', F, b⟩ := hm.ex
  exact pe_meth0 (pl := pl) he c hm' F (hr.mono hk) b .nil hx ht
/-- o.m(k = v, ..): g puts the object and the keywords' values in the parameters' order -/
def tMethK (C : Addr) (m : Str) (sp : Sp) (n : Nat) (gV : List V → List V → List V) (E : XK) (ta : TE) (tk : TA) : TE := fun σ H Q => ta σ H fun x H1 => ∃ a dx fs, x = .ref a ∧ H1 a = some (.ins C dx fs) ∧ fs.lookup m = none ∧
  tk σ H1 fun zs H2 => zs.length = n ∧ sp (gV [x] zs) H2 Q E
theorem pe_mK {pl : Sem Bool} {kws : List Keyword} {tk : TA} {ks : List Str} {g : List Value → List Value → List Value} {gV : List V → List V → List V} (he : PE X o ta) (c : Cls X.K C) (hm : Meth X.K C m f) (F : FnOk X.prog X.w X.K X.mg X.base CX k f fd ps sp) (hr : Room k X.A)
    (hb : KBn X.K fd ps 1 ks g gV) (hx : Passes CX X E) (hkw : PK X kws tk)
    (hall : (backToKw pos (keywordEach kws X.env)).all (·.1.isSome) = true := by rfl) (hks : (backToKw pos (keywordEach kws X.env)).filterMap (·.1) = ks := by rfl)
    (hpl : ((backTo pos (starEach [] X.env)).any (·.1) || (backToKw pos (keywordEach kws X.env)).any (·.1.isNone)) = false := by rfl)
    (ht : eval (.Call (.Attribute o m apos) [] kws pos) X.env = (do
      let ov ← eval o X.env
      standAt apos.atName
      let fx ← holding [ov] (getMethod ov m pl)
      callWith pos fx.1 fx.2 (backTo pos (starEach [] X.env)) (backToKw pos (keywordEach kws X.env))) := by rfl) :
    PE X (.Call (.Attribute o m apos) [] kws pos) (tMethK C m sp ks.length gV E ta tk) := by
  refine ⟨fun pins s σ H Q I h => ?_⟩
  refine PySem.W.methodCall_KW (pl := pl) (thn (he.run pins s σ H _ I h) fun u s1 z => ?_) ht
  obtain ⟨x, H1, I1, rx, a, dx, fs, rfl, ea, l, q⟩ := z
  obtain rfl := rx
  refine getmeth_ok I1 ea c hm l ?_
  refine PySem.W.callWith_KW0 (first := [.ref a]) (h₀ := X.base) I.ok.mod.kin hm.kp hall ?_ hpl
  refine thn (hkw.run pos pins s1 σ H1 _ I1 q) fun ws s2 z2 => ?_
  obtain ⟨zs, H2, I2, rz, l2, q2⟩ := z2
  refine ⟨I2.kIn, ?_⟩
  rw [hks]
  exact run_fnN (us := [.ref a]) (vs := [.ref a]) F hr hb hx I2 (.cons rfl .nil) rz rfl l2 q2
end
end Rg

set_option Elab.async false
set_option linter.all false
set_option maxRecDepth 100000
set_option maxHeartbeats 4000000
namespace Rg
open PySem PySem.Spec PyProof.Rows L2
/-! ### len(set(list of ints and texts)): how many different ones -/
def hasK (acc : List Key) (k : Key) : Bool := acc.any fun j => decide (j = k)
theorem hasK_iff {acc : List Key} {k : Key} : hasK acc k = true ↔ k ∈ acc := by
  unfold hasK
  rw [List.any_eq_true]
  exact ⟨fun ⟨j, h1, h2⟩ => of_decide_eq_true h2 ▸ h1, fun h => ⟨k, h, decide_eq_true rfl⟩⟩
def metStep (acc : List Key) (k : Key) : List Key := if hasK acc k = true then acc else acc ++ [k]
def met (ks : List Key) : List Key := ks.foldl metStep []
theorem met_snoc (ks : List Key) (k : Key) : met (ks ++ [k]) = metStep (met ks) k := by
  unfold met
  rw [List.foldl_append]
  rfl
theorem metStep_len (acc : List Key) (k : Key) : (metStep acc k).length = if hasK acc k = true then acc.length else acc.length + 1 := by
  unfold metStep
  split
  · rfl
  · rw [List.length_append]
    rfl
theorem metStep_has (acc : List Key) (k j : Key) : hasK (metStep acc k) j = (hasK acc j || decide (j = k)) := by
  unfold metStep
  split
  · rename_i h
    by_cases e : j = k
    · rw [e, h]
      rfl
    · rw [decide_eq_false e, Bool.or_false]
  · unfold hasK
    rw [List.any_append]
    show (_ || (decide (k = j) || false)) = _
    rw [Bool.or_false]
    by_cases e : j = k
    · rw [e]
    · rw [decide_eq_false e, decide_eq_false (Ne.symm e)]
theorem met_fold_le : ∀ (ks acc : List Key), (ks.foldl metStep acc).length ≤ acc.length + ks.length
  | [], acc => Nat.le_add_right _ _
  | k :: r, acc => by
    have ih := met_fold_le r (metStep acc k)
    have e := metStep_len acc k
    show (r.foldl metStep (metStep acc k)).length ≤ _
    rw [List.length_cons]
    split at e <;> omega
theorem met_len_le (ks : List Key) : (met ks).length ≤ ks.length := by
  have := met_fold_le ks []
  simpa [met] using this
theorem take_snoc {ks : List Key} {i : Nat} {k : Key} (h : ks[i]? = some k) : ks.take (i + 1) = ks.take i ++ [k] := by
  rw [List.take_add_one, h]
  rfl
theorem setOf_to {P : Program} {w : World} {h : Heap} {a : Addr} {S S' : Key → Bool} {n n' : Nat} (x : h.SetOf (mixKind P w) a S n) (e : ∀ k, S k = S' k) (en : n = n') : h.SetOf (mixKind P w) a S' n' := by
  obtain rfl : S = S' := funext e
  subst en
  exact x
/-- a set that holds the met ones -/
def SetIs (P : Program) (w : World) (h : Heap) (a : Addr) (ks : List Key) : Prop := h.SetOf (mixKind P w) a (hasK (met ks)) (met ks).length
theorem SetIs.kept {P : Program} {w : World} {h h' : Heap} {a : Addr} {ks : List Key} (x : SetIs P w h a ks) (k : ∀ o, h.get? a = some o → h'.get? a = some o) : SetIs P w h' a ks := by
  obtain ⟨o, es, ep, t, ho, r⟩ := x
  exact ⟨o, es, ep, t, k o ho, r⟩
section
variable {P : Program} {w : World} {A : Around}
theorem setLoop {R : Result → Shared → Prop} {I S : Addr} {fp wr : List Addr} {G : Array GenState → Array GenState → Prop} {n : Nat} {Pv : Nat → Value → Prop} {St : Nat → Shared → Prop} (W : WalksS P w A.in1 I fp wr G n Pv St) (hS : S ∉ fp)
    (ks : List Key) (hn : ks.length = n) (h64 : n < 64) (hv : ∀ i v, Pv i v → ∃ k, ks[i]? = some k ∧ keyIs k v = true) :
    ∀ (m i : Nat) (s : Shared), n - i = m → i ≤ n → St i s → SetIs P w s.heap S (ks.take i) → (∀ s', Moved (S :: wr) G s s' → SetIs P w s'.heap S ks → R (.ok (.ret .none)) s') →
      codeAny (model P w) A (.builtin "set.update.loop" ⟨[.ref S, .ref I], []⟩) R s := by
  have nw : S ∉ wr := fun z => hS (W.sub _ z)
  have up : ∀ b ∈ wr, b ∈ S :: wr := fun b z => List.mem_cons_of_mem _ z
  intro m
  induction m with
  | zero =>
    intro i s hm hi st x hR
    have ei : i = n := by omega
    rw [ei] at st x
    refine codeAny_builtin PyProof.Rows.F.entry_set_update_loop ?_
    rw [Around.under_plainId PyProof.Rows.F.plain_set_update_loop _]
    show wpAny _ A.in1 (pyNext (.ref I) >>= _) _ _ s
    refine wpAny_bind (W.done s _ _ st fun s' mv => ?_)
    rw [← hn, List.take_length] at x
    exact wpAny_pure (hR s' (mv.mono up) (x.kept fun o q => mv.heap S o nw q))
  | succ m ih =>
    intro i s hm hi st x hR
    have lt : i < n := by omega
    refine codeAny_builtin PyProof.Rows.F.entry_set_update_loop ?_
    rw [Around.under_plainId PyProof.Rows.F.plain_set_update_loop _]
    show wpAny _ A.in1 (pyNext (.ref I) >>= _) _ _ s
    refine wpAny_bind (W.item i s _ _ lt st fun v s' hP st' mv => ?_)
    obtain ⟨k, ek, kv⟩ := hv i v hP
    have sc : v.scannable = true := by rcases keyIs_shape kv with ⟨_, _, rfl, rfl⟩ | ⟨_, _, rfl, rfl⟩ <;> rfl
    have x1 : SetIs P w s'.heap S (ks.take i) := x.kept fun o q => mv.heap S o nw q
    show wpAny _ A.in1 (holding [v] (setAdd S v) >>= _) _ _ s'
    refine wpAny_bind (wpAny_holding ?_)
    unfold setAdd
    refine wpAny_holding (wpAny_bind ((mixKind P w).pyHash (k := k) kv ?_))
    have few : (met (ks.take i)).length + 1 < scanBound := by
      have := met_len_le (ks.take i)
      rw [List.length_take] at this
      unfold scanBound
      omega
    refine wpAny_setAddHashed_of (knd := mixKind P w) (s := { s' with toks := s'.toks + 1 }) kv sc x1 few fun h2 sb x2 => ?_
    have x3 : SetIs P w h2 S (ks.take (i + 1)) := by
      refine setOf_to x2 (fun j => ?_) ?_
      · rw [take_snoc ek, met_snoc, metStep_has]
      · rw [take_snoc ek, met_snoc, metStep_len]
    refine wpAny_pure ⟨plainId_quiet PyProof.Rows.F.plain_set_update_loop _, ih (i + 1) _ (by omega) lt (W.frame _ s' _ _ st' (Nat.le_succ _) fun b hb o e => ?_) x3 fun s'' mv2 x4 => ?_⟩
    · have nb : b ≠ S := fun z => hS (z ▸ hb)
      exact (sb.2 b nb).trans e
    · refine hR s'' (Moved.trans W.gtrans ((mv.mono up).then_heap (Nat.le_succ _) fun b o hb e => ?_) mv2) x4
      have nb : b ≠ S := fun z => hb (z ▸ List.mem_cons_self)
      exact (sb.2 b nb).trans e

abbrev set0 (led : Bool) : Obj := { cls := .type "set", dict := none, data := .set #[] 0 (.fresh 0 0 led) }
set_option maxHeartbeats 3200000 in
theorem call_setK {E : Value → Shared → Prop} {s : Shared} {l : Addr} {us : List Value} {n0 : Nat} {ks : List Key} {Q : Value → Shared → Prop} (hh : A.handled = none) (hl : s.heap.IsList l us.toArray) (hk : Vals (ks.map kV) us) (h64 : ks.length < 64)
    (h : ∀ (h' : Heap) (tk : Nat), SetIs P w h' s.heap.objs.size ks → (∀ b o, s.heap.get? b = some o → h'.get? b = some o) → Q (.ref s.heap.objs.size) { s with heap := h', toks := tk }) :
    wpAny (model P w) A (call (.type "set") [.ref l]) Q E s := by
  have len : us.length = ks.length := by rw [← hk.length, List.length_map]
  obtain ⟨c, tl, hmro⟩ := PySem.F.called_set.mro
  have hmade := PySem.F.called_set.made
  have hsub := PySem.F.called_set.sub
  have ht := PySem.F.called_set.notType
  have hc := PySem.F.called_set.canCreate
  have hct := PySem.F.typeCall_set_1 (.ref l)
  refine wpAny_call (codeAny_of_tree ?_)
  show wpAny _ _ (callAny (.type "set") _) _ _ _
  refine wpAny_pure ⟨Code.quiet_builtin _ (by decide +kernel), codeAny_builtin PySem.F.entry_type_call ?_⟩
  rw [Around.under_plain (weight_type_call_type "set" [.ref l] []) rfl]
  repeat (any_goals (first | assumption | wp_step))
  refine codeAny_mono (code_set_new_1 (.ref l) (E := E) (Q₁ := fun ob s1 => ∃ led : Bool, ob = .ref s.heap.objs.size ∧ s1 = { s with heap := s.heap.push (set0 led) }) fun led => ⟨led, rfl, rfl⟩) fun r s1 hr => ?_
  cases r with
  | error e => exact hr
  | ok fl =>
    cases fl with
    | ret ob =>
      obtain ⟨led, rfl, rfl⟩ := hr
      have atS : (s.heap.push (set0 led)).get? s.heap.objs.size = some (set0 led) := Heap.get?_push_size _ rfl
      have tyS : Shared.TypeIs { s with heap := s.heap.push (set0 led) } (.ref s.heap.objs.size) "set" := ⟨_, atS, rfl⟩
      have hli := PySem.F.called_set.init.lookup
      have hbi := PySem.F.called_set.init.bind (.ref s.heap.objs.size)
      repeat (any_goals (first | assumption | wp_step))
      refine codeAny_mono (codeAny_call_builtin (R := wants (fun r s2 => r = .none ∧ ∃ h' tk, s2 = { s with heap := h', toks := tk } ∧ SetIs P w h' s.heap.objs.size ks ∧ (∀ b o, s.heap.get? b = some o → h'.get? b = some o)) E)
        PySem.F.called_set.init.plain PySem.F.entry_set_init (check_set_init_1 tyS ?_)) fun r2 s2 hr2 => ?_
      · obtain ⟨⟨ocls, odict, odata, oslots⟩, hol, hcl, nl, hdl⟩ := hl
        obtain rfl : ocls = _ := hcl
        obtain rfl : odata = _ := hdl
        have hol2 := Heap.get?_push_of_some (h := s.heap) (set0 led) hol
        have a1 := PySem.F.sub_list_set
        have a2 := PySem.F.sub_list_frozenset
        have a3 : (Value.type "list" == Value.type "dict") = false := by decide
        have hl2 : (s.heap.push (set0 led)).IsList l us.toArray := ⟨_, hol2, rfl, nl, rfl⟩
        unfold Builtin.«set.__init__» noKeywords Builtin.Frozenset.updateFrom
        generalize hPI : pyIter = PI
        wp_walk
        subst hPI
        refine wpAny_pyIter_list hl2 (wpAny_bind (wpAny_runValue ?_))
        have lS : l < s.heap.objs.size := Heap.lt_size hol
        have sz1 : (s.heap.push (set0 led)).objs.size = s.heap.objs.size + 1 := Heap.size_push _ _
        have h3 : A.in1.in1.in1.handled = none := by simp [hh]
        have nI : l ≠ (s.heap.push (set0 led)).objs.size := by rw [sz1]; exact Nat.ne_of_lt (Nat.lt_succ_of_lt lS)
        have nS : s.heap.objs.size ∉ [(s.heap.push (set0 led)).objs.size, l] := by
          rw [sz1]
          simp only [List.mem_cons, List.not_mem_nil, or_false, not_or]
          exact ⟨Nat.ne_of_lt (Nat.lt_succ_self _), Nat.ne_of_gt lS⟩
        have val : ∀ (i : Nat) (v : Value), us.toArray[i]? = some v → ∃ k, ks[i]? = some k ∧ keyIs k v = true := by
          intro i v hv
          have hv' : us[i]? = some v := by simpa using hv
          have hi : i < ks.length := by
            have := (List.getElem?_eq_some_iff.mp hv').1
            omega
          refine ⟨ks[i], List.getElem?_eq_getElem hi, ?_⟩
          obtain ⟨u, e1, rv⟩ := hk.get (i := i) (x := kV ks[i]) (by rw [List.getElem?_map, List.getElem?_eq_getElem hi]; rfl)
          rw [hv'] at e1
          cases e1
          cases hki : ks[i] with
          | inl n =>
            rw [hki] at rv
            obtain ⟨t, rfl⟩ := rv
            exact keyIs_int n t
          | inr z =>
            rw [hki] at rv
            obtain ⟨t, rfl⟩ := rv
            exact keyIs_str z t
        refine setLoop ((Walks.list h3 _ l nI us.toArray).toS) nS ks (by rw [List.size_toArray, len]) (by rw [List.size_toArray, len]; exact h64) val (us.toArray.size - 0) 0 _ rfl (Nat.zero_le _) ⟨⟨_, Heap.get?_push_size _ rfl, rfl, rfl⟩, hl2.push _⟩ ?hS0 ?hR
        case hS0 =>
          have got := Heap.get?_push_of_some { cls := .type "list_iterator", data := .fields #[.ref l, .int 0 0] } atS
          refine setOf_to (S := fun _ => false) (n := 0) ⟨_, #[], 0, _, got, ⟨rfl, rfl, rfl⟩, rfl, ?_, ?_, by decide, rfl, rfl⟩ (fun _ => rfl) rfl
          · intro e he
            exact absurd he (by simp)
          · intro k
            simp
        case hR =>
          intro s' mv x
          obtain ⟨h', g', d', tk', os'⟩ := s'
          obtain rfl : g' = s.gens := mv.gens
          obtain rfl : d' = s.drawn := mv.drawn
          obtain rfl : os' = s.os := mv.os
          show wpAny _ _ _ _ _ _
          refine wpAny_pure ?_
          show wpAny _ _ (ret Value.none) _ _ _
          refine wpAny_pure ⟨rfl, h', tk', rfl, x, fun b o e => ?_⟩
          have lb := Heap.lt_size e
          refine mv.heap b o ?_ (Heap.get?_push_of_some _ (Heap.get?_push_of_some _ e))
          rw [sz1]
          simp only [List.mem_cons, List.not_mem_nil, or_false, not_or]
          exact ⟨Nat.ne_of_lt lb, Nat.ne_of_lt (Nat.lt_succ_of_lt lb)⟩
      · cases r2 with
        | error e => exact hr2
        | ok fl2 =>
          cases fl2 with
          | ret r =>
            obtain ⟨rfl, h', tk, rfl, x, keep⟩ := hr2
            repeat (any_goals (first | assumption | wp_step))
            exact h _ _ x keep
          | _ => exact hr2.elim
    | _ => exact hr.elim
end
def tLenSetK (K : PySem.W.Frag) (ta : TE) : TE := fun σ H Q => ta σ H fun x H1 => ∃ (l : Addr) (ks : List Key), x = V.ref l ∧ SqL K H1 l (ks.map kV) ∧ ks.length < 64 ∧ Q (.int ((met ks).length : Nat)) H1
theorem pe_lenSetK {X : Cx} {a : Expr} {ta : TE} {p p2 q pos : Pos} (hc : X.calm = true) (hg : Gl X "len") (hm : X.mg "len" = none) (hg2 : Gl X "set") (hm2 : X.mg "set" = none) (ha : PE X a ta)
    (na : starEach [a] X.env = (false, eval a X.env) :: starEach [] X.env := by rfl) : PE X (.Call (.Name "len" p) [.Call (.Name "set" p2) [a] [] q] [] pos) (tLenSetK X.K ta) := by
  constructor
  intro pins s σ H Q I h
  refine Call_ (ld_blt I hg hm PySem.boot_len (PyProof.Rows.callWith_builtin1 (PyProof.Rows.args_cons ?_ rfl) rfl rfl))
  refine Call_ (ld_blt I hg2 hm2 PyProof.Rows.boot_set (PyProof.Rows.callWith_type1 (PyProof.Rows.args_cons (thn (ha.run pins s σ H _ I h) fun v s1 z => PyProof.Rows.args_nil ?_) na) na rfl))
  obtain ⟨x, H1, I1, r1, l, ks, rfl, hq, h64, q1⟩ := z
  obtain rfl := r1
  obtain ⟨its, r, pl, hz⟩ := I1.list hq
  refine call_setK (n0 := 0) (I1.ok.hd hc) pl.isList r h64 fun h' tk x keep => PyProof.Rows.args_nil ?_
  obtain ⟨o, es, ep, t, ho, hex, hd, _, _, _, hf, hn⟩ := x
  have few := met_len_le ks
  refine call_len_set ho hex hd hf (by rw [hn] <;> omega) ⟨.int (met ks).length, H1, (I1.kept (t' := tk) keep).tok _, ⟨_, by rw [hn]⟩, q1⟩
end Rg

set_option Elab.async false
set_option linter.all false
set_option maxRecDepth 100000
set_option maxHeartbeats 2000000
namespace Rg
open PySem PySem.Spec PyProof.Rows L2
/-! ### list of a text, the place of a sign -/
def sgn (c : Nat) : Str := ⟨#[c]⟩
theorem call_listS {X : Cx} (hc : X.calm = true) : CallR X (.type "list") (fun xs H Q => ∃ z : Str, xs = [.str z] ∧ z.length ≤ sizeLine ∧ ∀ l, H l = none → Q (.ref l) (upd H l (.lst (z.cps.toList.map fun c => V.str (sgn c))))) := by
  intro pins s σ H xs us Q I r h
  obtain ⟨z, rfl, hz, q⟩ := h
  cases r with
  | cons r1 r2 =>
    cases r2
    obtain ⟨t, rfl⟩ := r1
    have hz2 : z.cps.size ≤ sizeLine := hz
    refine call_list_str (I.ok.hd hc) z t (hn := hz2) fun h' tk acc c' hk hS hacc => ?_
    obtain ⟨e1, e2⟩ := hacc
    have vals : Vals (z.cps.toList.map fun c => V.str (sgn c)) acc.toList := by
      have gen : ∀ (l : List Nat) (us : List Value), l.length = us.length → (∀ (i : Nat) (u : Value), us[i]? = some u → ∃ (c : Nat) (k : Tok), l[i]? = some c ∧ u = Value.str ⟨#[c]⟩ k) → Vals (l.map fun c => V.str (sgn c)) us := by
        intro l
        induction l with
        | nil =>
          intro us hl _
          cases us with
          | nil => exact .nil
          | cons u r => cases hl
        | cons c l ih =>
          intro us hl hu
          cases us with
          | nil => cases hl
          | cons u r =>
            obtain ⟨c', k, h1, h2⟩ := hu 0 u rfl
            simp at h1
            subst h1
            refine .cons ⟨k, h2⟩ (ih r (Nat.succ.inj hl) fun i u' e => ?_)
            obtain ⟨c2, k2, h3, h4⟩ := hu (i + 1) u' (by simpa using e)
            exact ⟨c2, k2, by simpa using h3, h4⟩
      refine gen _ _ (by simp [e1]) fun i u e => ?_
      obtain ⟨c, k, h1, h2⟩ := e2 i u (by simpa using e)
      exact ⟨c, k, by simpa using h1, h2⟩
    refine ⟨.ref s.heap.objs.size, _, I.laid (t' := tk) hk (Nat.le_refl _) ?_, rfl, q _ (I.hok.fresh (Nat.le_refl _))⟩
    exact ⟨by simpa using hz2, acc.toList, c', vals, by simpa using hS⟩
theorem place_of {z : Str} {c : Nat} (h : c ∈ z.cps.toList) : ∃ i rest, Builtin.Str.occurrences z (sgn c) 0 z.length 1 = i :: rest ∧ z.cps[i]? = some c := by
  have h1 := StrLaws.found_one z c
  rw [decide_eq_true h] at h1
  cases e : Builtin.Str.occurrences z (sgn c) 0 z.length 1 with
  | nil =>
    have e' : Builtin.Str.occurrences z ⟨#[c]⟩ 0 z.length 1 = [] := e
    rw [e'] at h1
    cases h1
  | cons i rest =>
    refine ⟨i, rest, rfl, ?_⟩
    have h2 := PySem.StrLaws.occ_spec z (sgn c) 0 z.length 1 i (by rw [e]; exact List.mem_cons_self)
    have h3 := (StrLaws.subAt_one z c i).mp h2
    simpa using h3
end Rg

set_option Elab.async false
set_option linter.all false
set_option maxRecDepth 100000
set_option maxHeartbeats 2000000
namespace Rg
open PySem PySem.Spec PyProof.Rows L2
/-! ### a list or a tuple, walked -/
def SqA (K : PySem.W.Frag) (H : Hp) (a : Addr) (xs : List V) : Prop := SqL K H a xs ∨ SqT K H a xs
theorem SqA.mono {K : PySem.W.Frag} {H H' : Hp} {a : Addr} {xs : List V} (h : SqA K H a xs) (e : Same H H') : SqA K H' a xs := h.elim (fun z => .inl (e.seq z)) fun z => .inr (sqT_mono e z)
theorem SqA.len {K : PySem.W.Frag} {H : Hp} {a : Addr} {xs : List V} (h : SqA K H a xs) : SqL K H a xs ∨ SqT K H a xs := h
def SeqR (K : PySem.W.Frag) (a : Addr) (R : It → Hp → Prop) (H1 : Hp) : Prop := ((∃ xs, SqL K H1 a xs) ∧ R (Itl K a) H1) ∨ ((∃ xs, SqT K H1 a xs) ∧ R (Itt K a) H1)
def iSeq (K : PySem.W.Frag) (tl : TE) : TI := fun σ H R => tl σ H fun x H1 => ∃ a, x = .ref a ∧ SeqR K a R H1
theorem pi_seq {X : Cx} {tg l : Expr} {tl : TE} (hl : PE X l tl) : PI X tg l (iSeq X.K tl) := by
  constructor
  intro pins s σ H R I h
  refine thn (hl.run pins s σ H _ I h) ?_
  rintro v s1 ⟨x, H1, I1, r1, a, rfl, q⟩
  obtain rfl := r1
  have fp : ∀ b ∈ [s1.heap.objs.size], FpOk X pins H1 b := fun b hb => by
    obtain rfl : b = s1.heap.objs.size := by simpa using hb
    exact I1.fpOk (Nat.le_refl _) (I1.hok.fresh (Nat.le_refl _))
  have kp : ∀ ob : Obj, Inv X pins σ H1 { s1 with heap := s1.heap.push ob } := fun ob => I1.kept (t' := s1.toks) fun b o e => Heap.get?_push_of_some _ e
  rcases q with ⟨⟨xs, hq⟩, q⟩ | ⟨⟨xs, hq⟩, q⟩
  · obtain ⟨its, rv, p, hz⟩ := I1.list hq
    exact wpAny_pyIter_list p.isList ⟨_, [s1.heap.objs.size], _, _, H1, rfl, kp _, turn_list a _, ⟨_, Heap.get?_push_size _ rfl, rfl, rfl⟩, fp, q⟩
  · obtain ⟨its, rv, p, hz⟩ := I1.tuple hq
    exact wpAny_pyIter_tuple (show s1.heap.IsTuple a its.toArray from p) ⟨_, [s1.heap.objs.size], _, _, H1, rfl, kp _, turn_tuple a _, ⟨_, Heap.get?_push_size _ rfl, rfl, rfl⟩, fp, q⟩
theorem iSeq_of {K : PySem.W.Frag} {D H : Hp} {a : Addr} {xs : List V} {R : It → Hp → Prop} (h : SqA K D a xs) (sd : Same D H) (k : ∀ J, Walk J xs.length (fun H' => Same D H') (YAt xs) → R J H) : SeqR K a R H := by
  rcases h with h | h
  · exact .inl ⟨⟨xs, sd.seq h⟩, k _ (walk_list.mono (fun H' e => e.seq h) fun _ _ _ _ _ _ y => y)⟩
  · exact .inr ⟨⟨xs, sqT_mono sd h⟩, k _ (walk_tup.mono (fun H' e => sqT_mono e h) fun _ _ _ _ _ _ y => y)⟩
/-! ### kinds -/
theorem ty_list {K : PySem.W.Frag} {H : Hp} {a : Addr} {xs : List V} (h : SqL K H a xs) : TyX K H (.ref a) (.type "list") := by
  rcases h with (h | ⟨o, h⟩) | ⟨o, its, n, h1, h2, _⟩
  · exact .base (.lst h)
  · exact .base (.frz h)
  · exact .kList h1 h2
theorem ty_tup {K : PySem.W.Frag} {H : Hp} {a : Addr} {xs : List V} (h : SqT K H a xs) : TyX K H (.ref a) (.type "tuple") := by
  rcases h with (h | ⟨o, h⟩) | ⟨o, its, n, h1, h2, _⟩
  · exact .base (.tup h)
  · exact .fTuple h
  · exact .kTuple h1 h2
theorem kit_lt {K : PySem.W.Frag} {t : String} {r : Bool} (h1 : kitB t "list" = some false ∧ kitB t "tuple" = some r ∨ kitB t "list" = some true ∧ r = true) : PySem.W.kitAny K (.type t) [.type "list", .type "tuple"] = some r := by
  rcases h1 with ⟨a, b⟩ | ⟨a, b⟩
  · refine kitAny_cons (kit_ty a) (fun _ => kitAny_cons (kit_ty b) (fun z => ?_) fun z => z) fun z => by cases z
    rw [z]
    exact kitAny_nil
  · exact kitAny_cons (kit_ty a) (fun z => by cases z) fun _ => b
theorem isSeq_kit {K : PySem.W.Frag} {H : Hp} {a : Addr} {xs : List V} (h : SqA K H a xs) : ∃ t, TyX K H (.ref a) t ∧ PySem.W.kitAny K t [.type "list", .type "tuple"] = some true := by
  rcases h with h | h
  · exact ⟨_, ty_list h, kit_lt (.inr ⟨by decide +kernel, rfl⟩)⟩
  · exact ⟨_, ty_tup h, kit_lt (.inl ⟨by decide +kernel, by decide +kernel⟩)⟩
theorem cls_lt : Paired ClsV [V.ty "list", V.ty "tuple"] [.type "list", .type "tuple"] := .cons (.ty _) (.cons (.ty _) .nil)
/-! ### heaps of scalars -/
theorem Step.of_same {W : Addr → Prop} {D H H' : Hp} (s : Same D H) (e : Same H H') : Step W D H D H' := by
  refine ⟨Same.refl D, s.trans e, fun b o _ q => e b o q, fun b q => ?_, fun _ _ d => d⟩
  cases h : H b with
  | none => exact absurd h q
  | some o =>
    rw [e b o h]
    exact fun z => by cases z
theorem Same.new {H : Hp} {p : Addr} {o : HO} (h : H p = none) : Same H (upd H p o) := same_new h
/-- the list being made in a comprehension changes: what stood before it stands -/
theorem Same.put {H0 H : Hp} {D : Addr} {o : HO} (e : Same H0 H) (h : H0 D = none) : Same H0 (upd H D o) := fun b u q => by
  rw [upd_ne (ne_of_none q h)]
  exact e b u q
/-! ### GoodSigns -/
abbrev letters : List Nat := ("abcdefghijklmnopqrstuvwxyz" : Str).cps.toList
structure GoodSigns (z : Str) : Prop where
  pos : 1 ≤ z.cps.toList.length
  few : z.cps.toList.length ≤ 4
  nd : z.cps.toList.Nodup
  let_ : ∀ c ∈ z.cps.toList, c ∈ letters
theorem len_tl (z : Str) : z.length = z.cps.toList.length := by simp [Str.length]
theorem size_tl (z : Str) : z.cps.size = z.cps.toList.length := by simp
theorem get_tl {z : Str} {i : Nat} : z.cps[i]? = z.cps.toList[i]? := by simp
theorem small_line {n : Nat} (h : n ≤ 100000) : n ≤ sizeLine := Nat.le_trans h (by decide)
theorem take_more {α : Type} {l : List α} {i : Nat} {x : α} (h : l[i]? = some x) : l.take (i + 1) = l.take i ++ [x] := by
  rw [List.take_add_one, h]
  rfl
theorem mem_of_at {α : Type} {l : List α} {i : Nat} {x : α} (h : l[i]? = some x) : x ∈ l := List.mem_of_getElem? h
end Rg

set_option Elab.async false
set_option linter.all false
set_option maxRecDepth 100000
set_option maxHeartbeats 2000000
namespace Rg
open PySem PySem.Spec PyProof.Rows L2
/-! ### the rules with the written part named: within a comprehension's block it is the same one -/
section
variable {X : Cx} (K : PySem.W.Frag)
theorem ix_listK (h : X.K = K := by rfl) : IxR X (rIxL K) := h ▸ ix_list
theorem ix_tupK (h : X.K = K := by rfl) : IxR X (rIxT K) := h ▸ ix_tup
theorem sl_listK (h : X.K = K := by rfl) : SlR X (rSlL K) := h ▸ sl_list
theorem sl_tupK (h : X.K = K := by rfl) : SlR X (rSlT K) := h ▸ sl_tup
def rLenQ : List V → Hp → VK → Prop := fun xs H Q => ∃ p ys, xs = [.ref p] ∧ (SqL K H p ys ∨ SqT K H p ys) ∧ Q (.int ys.length) H
theorem call_len_seqK (h : X.K = K := by rfl) : CallR X (.builtin "len") (rLenQ K) := h ▸ call_len_seq
def rTupleQ : List V → Hp → VK → Prop := fun xs H Q => ∃ p ys, xs = [.ref p] ∧ ((SqL K H p ys ∧ ∀ l, H l = none → Q (.ref l) (upd H l (.tup ys))) ∨ (SqT K H p ys ∧ Q (.ref p) H))
theorem call_tuple_ofK (h : X.K = K := by rfl) : CallR X (.type "tuple") (rTupleQ K) := h ▸ call_tuple_of
def rListQ : List V → Hp → VK → Prop := fun xs H Q => ∃ p ys, xs = [.ref p] ∧ (SqL K H p ys ∨ SqT K H p ys) ∧ ∀ l, H l = none → Q (.ref l) (upd H l (.lst ys))
theorem call_list_ofK (h : X.K = K := by rfl) : CallR X (.type "list") (rListQ K) := h ▸ call_list_of
theorem cr_allK (hc : X.calm = true) (h : X.K = K := by rfl) : CallR X (.builtin "all") (rAll K) := h ▸ cr_all hc
theorem cr_anyK (hc : X.calm = true) (h : X.K = K := by rfl) : CallR X (.builtin "any") (rAny K) := h ▸ cr_any hc
theorem cr_sumK (hc : X.calm = true) (h : X.K = K := by rfl) : CallR X (.builtin "sum") (rSum K) := h ▸ cr_sum hc
theorem call_isiK' (h : X.K = K := by rfl) : CallR X (.builtin "isinstance") (rIsi K) := h ▸ call_isi
theorem call_isiTK (h : X.K = K := by rfl) : CallR X (.builtin "isinstance") (rIsiT K) := h ▸ call_isiT
theorem op_in_seqK (h : X.K = K := by rfl) : OpR X (compareOp .In) (rIn K false) := h ▸ op_in_seq
theorem op_notIn_seqK (h : X.K = K := by rfl) : OpR X (compareOp .NotIn) (rIn K true) := h ▸ op_notIn_seq
theorem op_eqDK (hu : X.A.units + 64 < cLine) (h : X.K = K := by rfl) : OpR X (compareOp .Eq) (rEqD K) := h ▸ op_eqD hu
theorem op_neDK (hu : X.A.units + 64 < cLine) (h : X.K = K := by rfl) : OpR X (compareOp .NotEq) (rNeD K) := h ▸ op_neD hu
theorem op_catTK (h : X.K = K := by rfl) : OpR X (binaryOp .Add) (rCatT K) := h ▸ op_catT
theorem call_reprK (hg : X.A.guards = some []) (hu : X.A.units + 64 < cLine) (h : X.K = K := by rfl) : CallR X (.builtin "repr") (rRepr K) := h ▸ call_reprD hg hu
theorem pi_listK {tg l : Expr} {tl : TE} (hl : PE X l tl) (h : X.K = K := by rfl) : PI X tg l (iList K tl) := h ▸ pi_list hl
theorem pi_tupK {tg l : Expr} {tl : TE} (hl : PE X l tl) (h : X.K = K := by rfl) : PI X tg l (iTup K tl) := h ▸ pi_tup hl
theorem pi_seqK {tg l : Expr} {tl : TE} (hl : PE X l tl) (h : X.K = K := by rfl) : PI X tg l (iSeq K tl) := h ▸ pi_seq hl
theorem pg_tupK {es : List Expr} {k : Nat} {pos : Pos} {t : TGs} {n : Nat} (hc : X.calm = true) (ht : PGs X es t) (h : X.K = K := by rfl)
    (hn : (assignEach es X.env).length = n := by rfl) (hst : (assignEach es X.env).findIdx? (·.1) = none := by rfl) : PG X (.Tuple es k pos) (gTup K n t) := h ▸ pg_tup hc ht hn hst
theorem pe_fldK {e : Expr} {f : Str} {pos : Pos} {ta : TE} (he : PE X e ta) (h : X.K = K := by rfl) (hb : attributeBase e f X.env (eval e X.env) = eval e X.env := by rfl) : PE X (.Attribute e f pos) (tFld K ta f) := h ▸ pe_fld he hb
def rJoin : V → List V → Hp → VK → Prop := fun x xs H Q => ∃ a p, ∃ ys : List Str, x = .str a ∧ xs = [.ref p] ∧ (SqL K H p (ys.map V.str) ∨ SqT K H p (ys.map V.str)) ∧ (ys.map (·.length)).sum + ys.length * a.length ≤ 16777216 ∧ Q (.str (Txt.join a ys)) H
theorem pe_joinK {o e : Expr} {apos pos : Pos} {to te : TE} (ho : PE X o to) (he : PE X e te) (h : X.K = K := by rfl) (b1 : starEach [e] X.env = [(false, eval e X.env)] := by rfl) (b2 : attributeBase o "join" X.env (eval o X.env) = eval o X.env := by rfl)
    (b3 : (apos.endLine == pos.line) = true := by rfl) : PE X (.Call (.Attribute o "join" apos) [e] [] pos) (tM1 (rJoin K) to te) := by
  subst h
  exact pe_join ho he b1 b2 b3
theorem pe_lenSetKK {a : Expr} {ta : TE} {p p2 q pos : Pos} (hc : X.calm = true) (hg : Gl X "len") (hm : X.mg "len" = none) (hg2 : Gl X "set") (hm2 : X.mg "set" = none) (ha : PE X a ta) (h : X.K = K := by rfl)
    (na : starEach [a] X.env = (false, eval a X.env) :: starEach [] X.env := by rfl) : PE X (.Call (.Name "len" p) [.Call (.Name "set" p2) [a] [] q] [] pos) (tLenSetK K ta) := h ▸ pe_lenSetK hc hg hm hg2 hm2 ha na
end
end Rg

set_option Elab.async false
set_option linter.all false
set_option maxRecDepth 100000
namespace Rg
open PySem PySem.Spec PyProof.Rows L2
theorem hu1 {n : Nat} (h : n + 64 < cLine) : n + 1 < cLine := by omega
section
variable {J : It} {n : Nat} {G : Hp → Prop} {Y : Nat → Hp → V → Hp → Prop}
/-- a dict comprehension over what is walked -/
theorem dc_it (w : Walk J n G Y) {g : TG} {tt : TT} {tk tv : TE} {vs : List Nat} {σ : L2.St} {H1 : Hp} {D : Addr} {Qd : Hp → Prop} (Pv : Nat → Hp → Prop) (h0 : Pv 0 (upd H1 D (.dK []))) (hG : ∀ i H, i ≤ n → Pv i H → G H)
    (hs : ∀ i x H H', i < n → Pv i H → Y i H x H' → g x (wipe σ vs) H' fun σ2 H2 => wipe σ2 vs = wipe σ vs ∧ tt σ2 H2 fun b H3 =>
      if b = true then tk σ2 H3 fun y H4 => tv σ2 H4 fun z H5 => ∃ kvs k, y = kV k ∧ H5 D = some (.dK kvs) ∧ kvs.length < sizeLine ∧ Pv (i + 1) (upd H5 D (.dK (putK kvs k z))) else Pv (i + 1) H3) (hd : ∀ H, Pv n H → Qd H) :
    ∃ W : Nat → Nat → Hp → Prop, (∃ m, W 0 m (upd H1 D (.dK []))) ∧ ∀ i m H, W i m H →
      (J.stop i H ∧ Qd H) ∨ (J.go i H ∧ ∃ Nx : Hp → Prop, (∀ H', Nx H' → ∃ m', m' < m ∧ W (i + 1) m' H') ∧ ∀ x H', J.yld i H x H' → g x (wipe σ vs) H' fun σ2 H2 => wipe σ2 vs = wipe σ vs ∧ tt σ2 H2 fun b H3 =>
        if b = true then tk σ2 H3 fun y H4 => tv σ2 H4 fun z H5 => ∃ kvs k, y = kV k ∧ H5 D = some (.dK kvs) ∧ kvs.length < sizeLine ∧ Nx (upd H5 D (.dK (putK kvs k z))) else Nx H3) := by
  refine ⟨fun i m H => i ≤ n ∧ Pv i H ∧ m + i = n, ⟨n, Nat.zero_le _, h0, rfl⟩, ?_⟩
  rintro i m H ⟨hi, p, hm⟩
  have q := hG i H hi p
  rcases Nat.lt_or_eq_of_le hi with hlt | e
  · exact .inr ⟨w.goes i H hlt q, Pv (i + 1), fun H' p' => ⟨m - 1, by omega, hlt, p', by omega⟩, fun x H' y => hs i x H H' hlt p (w.yields i H x H' hlt q y)⟩
  · subst e
    exact .inl ⟨w.stops H q, hd H p⟩
end
section
variable {X : Cx}
/-- y = {k: v for ..}, y a local of its own -/
theorem ps_setDc {j : Nat} {y : Str} {yp : Pos} {kx vx tg src : Expr} {ifs : List Expr} {sc : Scope} {own : List (Str × Nat)} {dp sp : Pos} {wi : TI} {g : TG} {tt : TT} {tk tv : TE} (calm : X.calm = true) (nd : X.N.Nodup) (hy : X.N[j]? = some y) (loc : X.env.scope.names.lookup y = some .local)
    (sw : swapsWith (.DictComp kx vx [⟨tg, src, ifs, 0⟩] sc dp) (some (.Name y yp)) sp.line X.env = pure true) (hi : PI X tg src wi) (ok : BlkOk X.N X.env.scope sc own)
    (hg : ∀ (s : Shared) (H : Hp) (C : Addr) (cl : List (Str × Addr)) (fp : List Addr), PG (X.blk s H sc (compEnvC sc cl C X.env) fp) tg g)
    (ht : ∀ (s : Shared) (H : Hp) (C : Addr) (cl : List (Str × Addr)) (fp : List Addr), PTs (X.blk s H sc (compEnvC sc cl C X.env) fp) ifs tt)
    (hk : ∀ (s : Shared) (H : Hp) (C : Addr) (cl : List (Str × Addr)) (fp : List Addr), PE (X.blk s H sc (compEnvC sc cl C X.env) fp) kx tk)
    (hv : ∀ (s : Shared) (H : Hp) (C : Addr) (cl : List (Str × Addr)) (fp : List Addr), PE (X.blk s H sc (compEnvC sc cl C X.env) fp) vx tv)
    (hs : ∀ x, foldedSetIterable src X.env x = pure x := by intro _; rfl) :
    PS X (.Assign [.Name y yp] (.DictComp kx vx [⟨tg, src, ifs, 0⟩] sc dp) sp) (tAsg (tDc wi g tt tk tv (own.map (·.2))) (gName j)) := by
  refine ⟨fun pins s σ H R I h => ?_⟩
  rw [exec_Assign_Name_used _ _ _ _ sw]
  refine wpAny_bind (wpAny_standAt (wpAny_bind ?_))
  show wpAny _ X.A (do let _ ← comprehension (.DictComp kx vx [⟨tg, src, ifs, 0⟩] sc dp) sc X.env (firstIterPos [⟨tg, src, ifs, 0⟩] dp) newDict false (eval src X.env) (some (assign (.Name y yp) X.env))) _ _ s
  have h : tDc wi g tt tk tv (own.map (·.2)) σ H (fun x H1 => gName j x σ H1 R.nx) := h
  refine wpAny_bind (thn (dc_core (Qf := fun _ s' => SP X pins R .next s') calm nd I hi ok hg ht hk hv hs h fun L C t m H' J q nC f => ?_) fun _ t z => wpAny_pure (wpAny_pure z))
  show wpAny _ _ (assign (.Name y yp) X.env (.ref L)) _ _ _
  refine wpAny_assign_Name (store_ok2 (v := V.ref L) J nd hy (.inl loc) rfl (fun t2 J2 ⟨a, sb, ha⟩ => ?_) (.inr loc))
  obtain ⟨f0, f1, f2, f3, f4, f5⟩ := f
  have ne : C ≠ a := ha.elim (fun z => by rw [z]; exact f1) fun z e => f4 y a z e.symm
  exact ⟨m, nC.sameBut sb ne, fun h3 sb3 => ⟨_, H', J2.turned (t' := t2.toks) (fun b o hb e => (sb3.2 b hb).trans e) f0 f1 f3 f4 f5, q⟩⟩
theorem sw_trueD {kx vx : Expr} {gs : List Comprehension} {sc : Scope} {pos py : Pos} {y : Str} {l : Nat} {env : Env} (fn : env.scope.kind = .function) (loc : env.scope.names.lookup y = some .local) (hl : (py.line == pos.line) = true)
    (no : (sc.names.any fun (n, k) => n == y && (k == .local || k == .cell)) = false) : swapsWith (.DictComp kx vx gs sc pos) (some (.Name y py)) l env = pure true := by
  have e1 : env.kindOf y = some .local := loc
  have e2 : env.blockKind = .function := by unfold Env.blockKind; rw [fn]; rfl
  unfold swapsWith
  simp only [e2, e1, no, Expr.pos, hl]
  rfl
end
theorem sgn_inj {a b : Nat} (h : sgn a = sgn b) : a = b := by
  have e2 : (#[a] : Array Nat) = #[b] := congrArg Str.cps h
  simpa using e2
theorem idx_at {z : List Nat} {c : Nat} (h : c ∈ z) : z[z.idxOf c]? = some c := by
  have hl := List.idxOf_lt_length_of_mem h
  rw [List.getElem?_eq_getElem hl]
  simp
theorem nd_at {z : List Nat} (h : z.Nodup) {i j : Nat} {c : Nat} (hi : z[i]? = some c) (hj : z[j]? = some c) : i = j := by
  obtain ⟨h1, e1⟩ := List.getElem?_eq_some_iff.mp hi
  obtain ⟨h2, e2⟩ := List.getElem?_eq_some_iff.mp hj
  have pw := List.pairwise_iff_getElem.mp h
  rcases Nat.lt_trichotomy i j with q | q | q
  · exact absurd (e1.trans e2.symm) (pw i j h1 h2 q)
  · exact q
  · exact absurd (e2.trans e1.symm) (pw j i h2 h1 q)
end Rg

set_option Elab.async false
set_option linter.all false
set_option maxRecDepth 100000
namespace Rg
open PySem PySem.Spec PyProof.Rows L2
/-! ### classes made by name -/
structure MkX (P : Program) (w : World) (K : PySem.W.Frag) (mg : Str → Option Value) (base : Heap) (CX : CXT) (k : Nat) (x : Str) (C : Addr) (sp : Sp) : Prop where
  ex : ∃ (f : Addr) (fd : FuncData) (ps : List Str), Mk K C f ∧ FnOk P w K mg base CX k f fd ps sp ∧ mg x = some (.ref C) ∧ Binds K fd ps []
section
variable {X : Cx} {CX : CXT} {k j : Nat} {C : Addr} {sp : Sp} {E : XK} {x : Str} {p pos : Pos} {e : Expr} {es : List Expr} {t : TA}
theorem pe_mkX (c : MkX X.prog X.w X.K X.mg X.base CX k x C sp) (hr : Room j X.A) (hk : k + 1 ≤ j) (hg : Gl X x) (hx : Passes CX X E) (ha : PA X (e :: es) t)
    (hdb : (x == ("__debug__" : Str)) = false := by decide) (he : starEach (e :: es) X.env = (false, eval e X.env) :: starEach es X.env := by rfl) (hpl : (backTo pos (starEach es X.env)).any (·.1) = false := by rfl) :
    PE X (.Call (.Name x p) (e :: es) [] pos) (tMake C sp [] E t) := by
  obtain ⟨f, fd, ps, M, F, hm, b⟩ := c.ex
  exact pe_make M F (hr.mono hk) hg hm b .nil hx ha hdb he hpl
end
/-- the keywords name parameters, nothing has a default -/
theorem FunD.kbindsP {K : PySem.W.Frag} {x qual : Str} {params : Arguments} {body : List Stmt} {scope : Scope} {f : Addr} {fd : FuncData} {ps : List Str} (F : FunD K x qual params body scope [] [] f fd) (n : Nat) (ks : List Str) (g : {α : Type} → List α → List α → List α)
    (hrel : ∀ {vs zs : List V} {us ws : List Value}, Vals vs us → Vals zs ws → Vals (g vs zs) (g us ws))
    (h : ∀ (kV doc pm : Value) (an : Option Addr) (cdv ct : Value) (us ws : List Value), us.length = n → ws.length = ks.length → bindArgs (PySem.W.fnOf x qual params body scope .none kV doc pm an cdv ct) ⟨us, ks.zip ws⟩ = pure (ps.zip (g us ws))) :
    KBn K fd ps n ks g g := by
  obtain ⟨oc, od, dV, kV, doc, pm, an, cdv, ct, osl, rfl, lk, hcd, hD, hK⟩ := F.ex
  rcases hD with ⟨_, rfl⟩ | ⟨e, _⟩
  · exact ⟨fun s us ws _ l1 l2 => .of_eq (h kV doc pm an cdv ct us ws l1 l2), fun r1 r2 => hrel r1 r2⟩
  · exact absurd rfl e
/-- the parameters in the order is of the written values -/
def byIx (is : List Nat) {α : Type} (us ws : List α) : List α := is.filterMap fun i => (us ++ ws)[i]?
theorem vals_app : ∀ {vs zs : List V} {us ws : List Value}, Vals vs us → Vals zs ws → Vals (vs ++ zs) (us ++ ws)
  | _, _, _, _, .nil, h => h
  | _, _, _, _, .cons a b, h => .cons a (vals_app b h)
theorem vals_get : ∀ {vs : List V} {us : List Value}, Vals vs us → ∀ i : Nat, (∃ v u, vs[i]? = some v ∧ us[i]? = some u ∧ RelV v u) ∨ (vs[i]? = none ∧ us[i]? = none)
  | _, _, .nil, i => .inr ⟨rfl, rfl⟩
  | _, _, .cons a b, 0 => .inl ⟨_, _, rfl, rfl, a⟩
  | _, _, .cons a b, i + 1 => vals_get b i
theorem vals_byIx {vs zs : List V} {us ws : List Value} (h1 : Vals vs us) (h2 : Vals zs ws) : ∀ is : List Nat, Vals (byIx is vs zs) (byIx is us ws)
  | [] => .nil
  | i :: is => by
    have r := vals_byIx h1 h2 is
    unfold byIx at r ⊢
    rcases vals_get (vals_app h1 h2) i with ⟨v, u, e1, e2, q⟩ | ⟨e1, e2⟩
    · rw [List.filterMap_cons_some e1, List.filterMap_cons_some e2]
      exact .cons q r
    · rw [List.filterMap_cons_none e1, List.filterMap_cons_none e2]
      exact r
/-! ### steps that write what was not there -/
theorem Step.fresh {W W' : Addr → Prop} {D H D' H' : Hp} (s : Step W D H D' H') (h : ∀ b, W b → H b = none) : Step W' D H D' H' := by
  obtain ⟨a, b, c, d, e⟩ := s
  refine ⟨a, b, fun x o _ q => c x o (fun z => ?_) q, d, e⟩
  rw [h x z] at q
  cases q
theorem ixN0 {n : Nat} (h : 0 < n) : ixN n 0 = some 0 := by
  unfold ixN
  rw [if_pos (Int.le_refl 0), if_pos (by omega)]
  rfl
/-! ### joined signs -/
theorem join_signs : ∀ cs : List Nat, TL.joinL [] (cs.map fun c => [c]) = cs
  | [] => rfl
  | [c] => rfl
  | c :: d :: r => by
    have e := join_signs (d :: r)
    show [c] ++ ([] ++ TL.joinL [] ((d :: r).map fun c => [c])) = _
    rw [e]
    rfl
theorem join_sgn (cs : List Nat) : Txt.join "" (cs.map sgn) = SX.S cs := by
  have e : cs.map sgn = (cs.map fun c => [c]).map SX.S := by
    rw [List.map_map]
    rfl
  have e0 : ("" : Str) = SX.S [] := rfl
  rw [e, e0, SX.join_S, join_signs]
theorem sum_sgn (cs : List Nat) : ((cs.map sgn).map (·.length)).sum = cs.length := by
  induction cs with
  | nil => rfl
  | cons c r ih =>
    rw [List.map_cons, List.map_cons, List.sum_cons, ih, List.length_cons]
    show 1 + r.length = _
    omega
end Rg

set_option Elab.async false
set_option linter.all false
set_option maxRecDepth 100000
set_option maxHeartbeats 2000000
namespace Rg
open PySem PySem.Spec PyProof.Rows L2
/-! ### zip over two sources, whatever is done with the tuples that it gave out -/
abbrev ZO (h : Heap) (z ti to : Addr) (f0 : Value) (b : Bool) : Prop := h.get? z = some { cls := .type "zip", dict := none, data := .fields #[f0, .bool b, .bool false, .ref ti, .ref to], slots := #[] }
def ZF (f0 : Value) : Prop := f0 = .none ∨ ∃ T : Addr, f0 = rawInt T
structure ZSt (h : Heap) (z ti to i1 i2 : Addr) : Prop where
  obj : ∃ f0 b, ZO h z ti to f0 b ∧ ZF f0
  its : IsTupOf2 h ti (.ref i1) (.ref i2)
  own : ∃ p q, IsTupOf2 h to p q
section
variable {P : Program} {w : World} {A : Around} {E : Value → Shared → Prop} {s : Shared} {z ti to i1 i2 : Addr}
theorem alive_any {a : Addr} {Q : Option Obj → Shared → Prop} (h : Q (s.heap.get? a) s) : wpAny (model P w) A (loadIfAlive a) Q E s := fun _ _ _ => h
theorem owned_ans {f0 : Value} {b : Bool} {Q : Bool → Shared → Prop} (hz : ZO s.heap z ti to f0 b) (h0 : ZF f0) (yes : Q true s) (no : ∀ g, ZO g z ti to f0 true → Heap.SameBut z s.heap g → Q false { s with heap := g }) :
    wpAny (model P w) A (Builtin.SmallTypes.ownedTupleIsFree (.ref z)) Q E s := by
  unfold Builtin.SmallTypes.ownedTupleIsFree
  refine wpAny_bind (wpAny_field hz rfl (x := f0) rfl ?_)
  rcases h0 with rfl | ⟨T, rfl⟩
  · exact wpAny_pure yes
  · show wpAny _ _ (loadIfAlive ((T : Int).toNat) >>= _) _ _ _
    rw [Int.toNat_natCast]
    refine wpAny_bind (alive_any ?_)
    cases e : s.heap.get? T with
    | none =>
      simp only [Option.isNone_none, if_true]
      exact wpAny_pure yes
    | some o =>
      simp only [Option.isNone_some, Bool.false_eq_true, if_false]
      refine wpAny_bind (wpAny_field hz rfl (x := .bool b) rfl ?_)
      cases b with
      | true =>
        rw [if_neg (by decide)]
        exact wpAny_pure (no _ hz (Heap.SameBut.refl _ _))
      | false =>
        rw [if_pos (by decide)]
        exact wpAny_bind (wpAny_setField_rec hz (by simp) fun g kz ks => wpAny_pure (no g kz ks))
theorem go_any {tg : Expr} {a : Addr} {Q : Unit → Shared → Prop} (hz : ZSt s.heap z ti to i1 i2) (ni : ti ≠ z) (no : to ≠ z) (hQ : ∀ g, ZSt g z ti to i1 i2 → Heap.SameBut z s.heap g → Q () { s with heap := g }) :
    wpAny (model P w) A (letOwnedTupleGo tg (.ref z) (.ref a)) Q E s := by
  have same : Q () s := hQ s.heap hz (Heap.SameBut.refl _ _)
  obtain ⟨⟨f0, b, ho, hf⟩, hi, p, q, hp⟩ := hz
  have main : wpAny (model P w) A (do
      let o ← load z
      match o.cls, o.data with
      | .type n, .fields vs =>
        if ["enumerate", "zip", "dict_itemiterator", "dict_reverseitemiterator", "odict_iterator", "itertools.zip_longest", "itertools.pairwise"].contains n && vs[0]? == some (rawInt a) then
          rule "for.unpacks-the-owned-tuple"
          updateField z 0 .none
      | _, _ => pure ()) Q E s := by
    refine wpAny_bind (wpAny_load ho ?_)
    show wpAny _ _ (if _ then _ else _) Q E s
    split
    · refine wpAny_bind (wpAny_rule ?_)
      show wpAny _ _ (setField (.ref z) 0 .none) Q E s
      exact wpAny_setField_rec ho (by simp) fun g kz ks => hQ g ⟨⟨_, _, kz, .inl rfl⟩, ks.extBut _ _ ni hi, p, q, ks.extBut _ _ no hp⟩ ks
    · exact wpAny_pure same
  unfold letOwnedTupleGo
  cases tg <;> first
    | exact wpAny_pure same
    | exact main
variable {fa fb : List Addr} {na nb i : Nat} {Pa Pb : Nat → Value → Prop} {Sa Sb : Nat → Heap → Prop}
theorem zipA_item {Q : Value → Shared → Prop} (Z : ZipSep2 z ti to i1 i2 fa fb) (Da : Draws P w A i1 fa na Pa Sa) (Db : Draws P w A i2 fb nb Pb Sb) (hz : ZSt s.heap z ti to i1 i2) (ta : Sa i s.heap) (tb : Sb i s.heap) (la : i < na) (lb : i < nb)
    (hQ : ∀ x y g tk, Pa i x → Pb i y → ZSt g z ti to i1 i2 → Sa (i + 1) g → Sb (i + 1) g → IsTupOf2 g s.heap.objs.size x y → g.objs.size = s.heap.objs.size + 1 →
      (∀ c o, c ≠ z → c ≠ to → c ≠ i1 → c ≠ i2 → s.heap.get? c = some o → g.get? c = some o) → Q (.ref s.heap.objs.size) { s with heap := g, toks := tk }) :
    wpAny (model P w) A (Builtin.«zip.__next__» ⟨[.ref z], []⟩) (fun fin s' => ∃ v, fin = .done (.ret v) ∧ Q v s') E s := by
  obtain ⟨h0, gs, dr, tk0, os⟩ := s
  obtain ⟨⟨f0, b, ho, hf⟩, hi, p, q, hown⟩ := hz
  show wpAny _ A (field (Value.ref z) 2 >>= _) _ _ _
  refine wpAny_bind (wpAny_field ho rfl (x := .bool false) rfl ?_)
  show wpAny _ A (field (Value.ref z) 3 >>= _) _ _ _
  refine wpAny_bind (wpAny_field ho rfl (x := .ref ti) rfl ?_)
  refine wpAny_bind (wpAny_seqItems hi rfl ?_)
  refine wpAny_bind (m := Builtin.SmallTypes.ownedTupleIsFree (Value.ref z)) (owned_ans ho hf ?free fun g kz ks => ?held)
  case free =>
    simp only [if_true]
    refine wpAny_bind (wpAny_rule (wpAny_bind (wpAny_field ho rfl (x := .ref to) rfl (wpAny_bind (wpAny_setField_rec ho (by simp) fun u0 z0 e0 => ?_)))))
    replace z0 : ZO u0 z ti to .ellipsis b := z0
    replace e0 : Heap.SameBut z h0 u0 := e0
    refine wpAny_bind ?_
    simp only [List.zipIdx_cons, List.zipIdx_nil, List.forIn_cons, List.forIn_nil]
    refine wpAny_bind (wpAny_bind (wpAny_onRaise ?_))
    refine wpAny_bind (m := Builtin.SmallTypes.nextOf (Value.ref i1)) (Da.item i ⟨u0, gs, dr, tk0, os⟩ _ _ la (Da.over ta e0 Z.zf1) fun x ua tka hx sa ea => wpAny_pure ?_)
    replace ea : Heap.SameBut i1 u0 ua := ea
    have w1 : IsTupOf2 ua to p q := ea.extBut _ _ Z.Ti1 (e0.extBut _ _ Z.TOz hown)
    refine wpAny_bind (wpAny_seqItems (s := ⟨ua, gs, dr, tka, os⟩) w1 rfl (wpAny_bind (updateSeq_IsTupOf2 (s := ⟨ua, gs, dr, tka, os⟩) w1 fun u1 v1 e1 => ?_)))
    replace v1 : IsTupOf2 u1 to x q := v1
    replace e1 : Heap.SameBut to ua u1 := e1
    refine wpAny_bind (wpAny_letGo (wpAny_pure ?_))
    refine wpAny_bind (wpAny_bind (wpAny_onRaise ?_))
    refine wpAny_bind (m := Builtin.SmallTypes.nextOf (Value.ref i2)) (Db.item i ⟨u1, gs, dr, tka, os⟩ _ _ lb (Db.over (Db.over (Db.over tb e0 Z.zf2) ea Z.sep1_2) e1 Z.Tf2) fun y ub tkb hy sb eb => wpAny_pure ?_)
    replace eb : Heap.SameBut i2 u1 ub := eb
    have w2 : IsTupOf2 ub to x q := eb.extBut _ _ Z.Ti2 v1
    refine wpAny_bind (wpAny_seqItems (s := ⟨ub, gs, dr, tkb, os⟩) w2 rfl (wpAny_bind (updateSeq_IsTupOf2 (s := ⟨ub, gs, dr, tkb, os⟩) w2 fun u2 v2 e2 => ?_)))
    replace v2 : IsTupOf2 u2 to x y := v2
    replace e2 : Heap.SameBut to ub u2 := e2
    refine wpAny_bind (wpAny_letGo (wpAny_pure (wpAny_pure ?_)))
    refine wpAny_bind (wpAny_seqItems (s := ⟨u2, gs, dr, tkb, os⟩) v2 rfl (wpAny_bind (wpAny_newTuple ?_)))
    have sz : u2.objs.size = h0.objs.size := by rw [e2.1, eb.1, e1.1, ea.1, e0.1]
    have zz : ZO u2 z ti to .ellipsis b := e2.extBut _ _ Z.TOz.symm (eb.extBut _ _ Z.zi2 (e1.extBut _ _ Z.TOz.symm (ea.extBut _ _ Z.zi1 z0)))
    have kk : ∀ c o, c ≠ z → c ≠ to → c ≠ i1 → c ≠ i2 → h0.get? c = some o → u2.get? c = some o := fun c o cz ct c1 c2 e => e2.extBut _ _ ct (eb.extBut _ _ c2 (e1.extBut _ _ ct (ea.extBut _ _ c1 (e0.extBut _ _ cz e))))
    have ja : Sa (i + 1) u2 := Da.over (Da.over (Da.over sa e1 Z.Tf1) eb Z.sep2_1) e2 Z.Tf1
    have jb : Sb (i + 1) u2 := Db.over sb e2 Z.Tf2
    have zl : z < u2.objs.size := Heap.lt_size zz
    refine wpAny_bind (m := Builtin.SmallTypes.ownedTupleHandOut (Value.ref z) (Value.ref u2.objs.size)) ?_
    unfold Builtin.SmallTypes.ownedTupleHandOut
    have z3 : ZO (u2.push { cls := .type "tuple", data := .seq #[x, y] }) z ti to .ellipsis b := Heap.get?_push_of_some _ zz
    refine wpAny_bind (wpAny_setField_rec z3 (by simp) fun u4 z4 e4 => ?_)
    replace z4 : ZO u4 z ti to (rawInt u2.objs.size) b := z4
    refine wpAny_setField_rec z4 (by simp) fun u5 z5 e5 => ?_
    replace z5 : ZO u5 z ti to (rawInt u2.objs.size) false := z5
    replace e4 : Heap.SameBut z (u2.push { cls := .type "tuple", data := .seq #[x, y] }) u4 := e4
    replace e5 : Heap.SameBut z u4 u5 := e5
    have up : ∀ c o, c ≠ z → u2.get? c = some o → u5.get? c = some o := fun c o cz e => e5.extBut _ _ cz (e4.extBut _ _ cz (Heap.get?_push_of_some _ e))
    have new : IsTupOf2 u5 u2.objs.size x y := e5.extBut _ _ (Nat.ne_of_gt zl) (e4.extBut _ _ (Nat.ne_of_gt zl) (Heap.get?_push_size _ rfl))
    have s5 : u5.objs.size = u2.objs.size + 1 := by rw [e5.1, e4.1, Heap.size_push]
    have tiz : ∀ o, h0.get? ti = some o → u5.get? ti = some o := fun o e => up _ _ Z.TIz (kk _ _ Z.TIz Z.TITO Z.TIi1 Z.TIi2 e)
    rw [sz] at z5 new s5
    refine wpAny_pure ⟨_, rfl, ?_⟩
    show Q (.ref u2.objs.size) ⟨u5, gs, dr, tkb, os⟩
    rw [sz]
    exact hQ x y u5 tkb hx hy ⟨⟨_, _, z5, .inr ⟨_, rfl⟩⟩, tiz _ hi, x, y, up _ _ Z.TOz v2⟩ (Da.frame _ _ _ ja fun c hc o e => up c o (fun r => Z.zf1 (r ▸ hc)) e) (Db.frame _ _ _ jb fun c hc o e => up c o (fun r => Z.zf2 (r ▸ hc)) e) new s5 fun c o cz ct c1 c2 e => up c o cz (kk c o cz ct c1 c2 e)
  case held =>
    replace kz : ZO g z ti to f0 true := kz
    replace ks : Heap.SameBut z h0 g := ks
    simp only [Bool.false_eq_true, if_false]
    refine wpAny_bind ?_
    rw [← Array.forIn_toList]
    simp only [List.forIn_cons, List.forIn_nil]
    refine wpAny_bind (wpAny_bind (wpAny_holding ?_))
    refine wpAny_bind (m := Builtin.SmallTypes.nextOf (Value.ref i1)) (Da.item i ⟨g, gs, dr, tk0, os⟩ _ _ la (Da.over ta ks Z.zf1) fun x ua tka hx sa ea => wpAny_pure (wpAny_pure ?_))
    replace ea : Heap.SameBut i1 g ua := ea
    refine wpAny_bind (wpAny_bind (wpAny_holding ?_))
    refine wpAny_bind (m := Builtin.SmallTypes.nextOf (Value.ref i2)) (Db.item i ⟨ua, gs, dr, tka, os⟩ _ _ lb (Db.over (Db.over tb ks Z.zf2) ea Z.sep1_2) fun y ub tkb hy sb eb => wpAny_pure (wpAny_pure (wpAny_pure ?_)))
    replace eb : Heap.SameBut i2 ua ub := eb
    refine wpAny_bind (m := newTuple [x, y]) (wpAny_newTuple ?_)
    have sz : ub.objs.size = h0.objs.size := by rw [eb.1, ea.1, ks.1]
    have kk : ∀ c o, c ≠ z → c ≠ i1 → c ≠ i2 → h0.get? c = some o → ub.get? c = some o := fun c o cz c1 c2 e => eb.extBut _ _ c2 (ea.extBut _ _ c1 (ks.extBut _ _ cz e))
    have zz : ZO ub z ti to f0 true := eb.extBut _ _ Z.zi2 (ea.extBut _ _ Z.zi1 kz)
    have ja : Sa (i + 1) ub := Da.over sa eb Z.sep2_1
    refine wpAny_pure ⟨_, rfl, ?_⟩
    show Q (.ref ub.objs.size) _
    have new : IsTupOf2 (ub.push { cls := .type "tuple", data := .seq #[x, y] }) ub.objs.size x y := Heap.get?_push_size _ rfl
    have s5 : (ub.push { cls := .type "tuple", data := .seq #[x, y] }).objs.size = ub.objs.size + 1 := Heap.size_push ..
    have up : ∀ c o, ub.get? c = some o → (ub.push { cls := .type "tuple", data := .seq #[x, y] }).get? c = some o := fun c o e => Heap.get?_push_of_some _ e
    rw [sz] at new s5 ⊢
    exact hQ x y _ tkb hx hy ⟨⟨_, _, up _ _ zz, hf⟩, up _ _ (kk _ _ Z.TIz Z.TIi1 Z.TIi2 hi), p, q, up _ _ (kk _ _ Z.TOz Z.Ti1 Z.Ti2 hown)⟩ (Da.frame _ _ _ ja fun c _ o e => up c o e) (Db.frame _ _ _ sb fun c _ o e => up c o e) new s5 fun c o cz ct c1 c2 e => up c o (kk c o cz c1 c2 e)
theorem zipA_end {Q : Fin → Shared → Prop} (Z : ZipSep2 z ti to i1 i2 fa fb) (Da : Draws P w A i1 fa na Pa Sa) (Db : Draws P w A i2 fb nb Pb Sb) (hz : ZSt s.heap z ti to i1 i2) (ta : Sa i s.heap) (tb : Sb i s.heap) (la : i ≤ na) (lb : i ≤ nb) (fin : i = na ∨ i = nb)
    (hE : ∀ g tk e, (∀ c o, c ≠ z → c ≠ to → c ≠ i1 → c ≠ i2 → s.heap.get? c = some o → g.get? c = some o) → (∃ o, g.get? e = some o ∧ o.cls = .type "StopIteration") → E (.ref e) { s with heap := g, toks := tk }) :
    wpAny (model P w) A (Builtin.«zip.__next__» ⟨[.ref z], []⟩) Q E s := by
  obtain ⟨h0, gs, dr, tk0, os⟩ := s
  obtain ⟨⟨f0, b, ho, hf⟩, hi, p, q, hown⟩ := hz
  show wpAny _ A (field (Value.ref z) 2 >>= _) _ _ _
  refine wpAny_bind (wpAny_field ho rfl (x := .bool false) rfl ?_)
  show wpAny _ A (field (Value.ref z) 3 >>= _) _ _ _
  refine wpAny_bind (wpAny_field ho rfl (x := .ref ti) rfl ?_)
  refine wpAny_bind (wpAny_seqItems hi rfl ?_)
  refine wpAny_bind (m := Builtin.SmallTypes.ownedTupleIsFree (Value.ref z)) (owned_ans ho hf ?free fun g kz ks => ?held)
  case free =>
    simp only [if_true]
    refine wpAny_bind (wpAny_rule (wpAny_bind (wpAny_field ho rfl (x := .ref to) rfl (wpAny_bind (wpAny_setField_rec ho (by simp) fun u0 z0 e0 => ?_)))))
    replace z0 : ZO u0 z ti to .ellipsis b := z0
    replace e0 : Heap.SameBut z h0 u0 := e0
    have close : ∀ (u : Heap) (e : Addr) (tk : Tok) (oe : Obj), ZO u z ti to .ellipsis b → u.get? e = some oe → oe.cls = .type "StopIteration" → (∀ c o, c ≠ z → c ≠ to → c ≠ i1 → c ≠ i2 → h0.get? c = some o → u.get? c = some o) →
        wpAny (model P w) A (setField (.ref z) 0 .none) (fun _ s' => E (.ref e) s') E ⟨u, gs, dr, tk, os⟩ := fun u e tk oe zu he hc kk => by
      have ne : e ≠ z := fun r => by
        subst r
        rw [zu] at he
        cases he
        simp at hc
      refine wpAny_setField_rec (s := ⟨u, gs, dr, tk, os⟩) zu (by simp) fun u' _ e' => ?_
      replace e' : Heap.SameBut z u u' := e'
      exact hE u' tk e (fun c o cz ct c1 c2 r => e'.extBut _ _ cz (kk c o cz ct c1 c2 r)) ⟨oe, e'.extBut _ _ ne he, hc⟩
    refine wpAny_bind ?_
    simp only [List.zipIdx_cons, List.zipIdx_nil, List.forIn_cons, List.forIn_nil]
    refine wpAny_bind (wpAny_bind (wpAny_onRaise ?_))
    rcases Nat.lt_or_eq_of_le la with l | l
    · have l2 : i = nb := by omega
      refine wpAny_bind (m := Builtin.SmallTypes.nextOf (Value.ref i1)) (Da.item i ⟨u0, gs, dr, tk0, os⟩ _ _ l (Da.over ta e0 Z.zf1) fun x ua tka hx sa ea => wpAny_pure ?_)
      replace ea : Heap.SameBut i1 u0 ua := ea
      have w1 : IsTupOf2 ua to p q := ea.extBut _ _ Z.Ti1 (e0.extBut _ _ Z.TOz hown)
      refine wpAny_bind (wpAny_seqItems (s := ⟨ua, gs, dr, tka, os⟩) w1 rfl (wpAny_bind (updateSeq_IsTupOf2 (s := ⟨ua, gs, dr, tka, os⟩) w1 fun u1 v1 e1 => ?_)))
      replace e1 : Heap.SameBut to ua u1 := e1
      refine wpAny_bind (wpAny_letGo (wpAny_pure ?_))
      refine wpAny_bind (wpAny_bind (wpAny_onRaise ?_))
      refine wpAny_bind (m := Builtin.SmallTypes.nextOf (Value.ref i2)) (Db.done ⟨u1, gs, dr, tka, os⟩ _ _ (by rw [← l2]; exact Db.over (Db.over (Db.over tb e0 Z.zf2) ea Z.sep1_2) e1 Z.Tf2) fun u e eu he => ?_)
      replace eu : Heap.ExtBut i2 u1 u := eu
      obtain ⟨oe, he, hc⟩ := he
      exact close u e tka oe (eu _ _ Z.zi2 (e1.extBut _ _ Z.TOz.symm (ea.extBut _ _ Z.zi1 z0))) he hc fun c o cz ct c1 c2 r => eu _ _ c2 (e1.extBut _ _ ct (ea.extBut _ _ c1 (e0.extBut _ _ cz r)))
    · refine wpAny_bind (m := Builtin.SmallTypes.nextOf (Value.ref i1)) (Da.done ⟨u0, gs, dr, tk0, os⟩ _ _ (by rw [← l]; exact Da.over ta e0 Z.zf1) fun u e eu he => ?_)
      replace eu : Heap.ExtBut i1 u0 u := eu
      obtain ⟨oe, he, hc⟩ := he
      exact close u e tk0 oe (eu _ _ Z.zi1 z0) he hc fun c o cz ct c1 c2 r => eu _ _ c1 (e0.extBut _ _ cz r)
  case held =>
    replace ks : Heap.SameBut z h0 g := ks
    simp only [Bool.false_eq_true, if_false]
    refine wpAny_bind ?_
    rw [← Array.forIn_toList]
    simp only [List.forIn_cons, List.forIn_nil]
    refine wpAny_bind (wpAny_bind (wpAny_holding ?_))
    rcases Nat.lt_or_eq_of_le la with l | l
    · have l2 : i = nb := by omega
      refine wpAny_bind (m := Builtin.SmallTypes.nextOf (Value.ref i1)) (Da.item i ⟨g, gs, dr, tk0, os⟩ _ _ l (Da.over ta ks Z.zf1) fun x ua tka hx sa ea => wpAny_pure (wpAny_pure ?_))
      replace ea : Heap.SameBut i1 g ua := ea
      refine wpAny_bind (wpAny_bind (wpAny_holding ?_))
      refine wpAny_bind (m := Builtin.SmallTypes.nextOf (Value.ref i2)) (Db.done ⟨ua, gs, dr, tka, os⟩ _ _ (by rw [← l2]; exact Db.over (Db.over tb ks Z.zf2) ea Z.sep1_2) fun u e eu he => ?_)
      replace eu : Heap.ExtBut i2 ua u := eu
      exact hE u tka e (fun c o cz _ c1 c2 r => eu _ _ c2 (ea.extBut _ _ c1 (ks.extBut _ _ cz r))) he
    · refine wpAny_bind (m := Builtin.SmallTypes.nextOf (Value.ref i1)) (Da.done ⟨g, gs, dr, tk0, os⟩ _ _ (by rw [← l]; exact Da.over ta ks Z.zf1) fun u e eu he => ?_)
      replace eu : Heap.ExtBut i1 g u := eu
      exact hE u tk0 e (fun c o cz _ c1 _ r => eu _ _ c1 (ks.extBut _ _ cz r)) he
theorem nextA_item {Q : Option Value → Shared → Prop} (Z : ZipSep2 z ti to i1 i2 fa fb) (Da : Draws P w A.in1 i1 fa na Pa Sa) (Db : Draws P w A.in1 i2 fb nb Pb Sb) (hz : ZSt s.heap z ti to i1 i2) (ta : Sa i s.heap) (tb : Sb i s.heap) (la : i < na) (lb : i < nb)
    (hQ : ∀ x y g tk, Pa i x → Pb i y → ZSt g z ti to i1 i2 → Sa (i + 1) g → Sb (i + 1) g → IsTupOf2 g s.heap.objs.size x y → g.objs.size = s.heap.objs.size + 1 →
      (∀ c o, c ≠ z → c ≠ to → c ≠ i1 → c ≠ i2 → s.heap.get? c = some o → g.get? c = some o) → Q (some (.ref s.heap.objs.size)) { s with heap := g, toks := tk }) : wpAny (model P w) A (pyNext (.ref z)) Q E s := by
  obtain ⟨f0, b, ho, _⟩ := id hz.obj
  have ty : s.TypeIs (.ref z) "zip" := ⟨_, ho, rfl⟩
  unfold pyNext
  refine wpAny_bind (wpAny_attempt (wpAny_callSpecial?_slot (name := Str.ofString "__next__") ty PySem.F.slot_zip_next (wpAny_call_entry PySem.F.slot_zip_next ty PySem.F.entry_zip_next ?_ (PySem.F.args_zip_next_1 _))))
  exact zipA_item Z Da Db hz ta tb la lb fun x y g tk a1 a2 a3 a4 a5 a6 a7 a8 => wpAny_pure (hQ x y g tk a1 a2 a3 a4 a5 a6 a7 a8)
theorem nextA_end {Q : Option Value → Shared → Prop} (Z : ZipSep2 z ti to i1 i2 fa fb) (Da : Draws P w A.in1 i1 fa na Pa Sa) (Db : Draws P w A.in1 i2 fb nb Pb Sb) (hz : ZSt s.heap z ti to i1 i2) (ta : Sa i s.heap) (tb : Sb i s.heap) (la : i ≤ na) (lb : i ≤ nb) (fin : i = na ∨ i = nb)
    (hQ : ∀ g tk, (∀ c o, c ≠ z → c ≠ to → c ≠ i1 → c ≠ i2 → s.heap.get? c = some o → g.get? c = some o) → Q none { s with heap := g, toks := tk }) : wpAny (model P w) A (pyNext (.ref z)) Q E s := by
  obtain ⟨f0, b, ho, _⟩ := id hz.obj
  have ty : s.TypeIs (.ref z) "zip" := ⟨_, ho, rfl⟩
  unfold pyNext
  refine wpAny_bind (wpAny_attempt (wpAny_callSpecial?_slot (name := Str.ofString "__next__") ty PySem.F.slot_zip_next (wpAny_call_entry PySem.F.slot_zip_next ty PySem.F.entry_zip_next ?_ (PySem.F.args_zip_next_1 _))))
  refine zipA_end Z Da Db hz ta tb la lb fin fun g tk e kk he => ?_
  obtain ⟨o, he, hc⟩ := he
  exact wpAny_bind (wpAny_isInstance (T := "StopIteration") (b := true) ⟨o, he, hc⟩ isSubtype_stop (wpAny_pure (hQ _ _ kk)))
end
section
variable {P : Program} {w : World} {K : PySem.W.Frag} {tg : Expr} {J : It} {z ti to i1 i2 : Addr} {fa fb : List Addr} {st1 st2 : Nat → Heap → Prop}
def ZSrc (P : Program) (w : World) (K : PySem.W.Frag) (i1 i2 : Addr) (fa fb : List Addr) (st1 st2 : Nat → Heap → Prop) (ok : Nat → Nat → Nat → Prop) (when : Nat → Hp → Prop) (out : Nat → Hp → V → V → Prop) : Prop :=
  ∀ (X : Cx), X.prog = P → X.w = w → X.K = K → X.calm = true → ∀ (i : Nat) (pins : List (Addr × Obj)) (s : Shared) (σ : L2.St) (H : Hp), Inv X pins σ H s → st1 i s.heap → st2 i s.heap → when i H →
    ∃ (na nb : Nat) (Pa Pb : Nat → Value → Prop) (Sa Sb : Nat → Heap → Prop), Draws P w X.A.in1 i1 (i1 :: fa) na Pa Sa ∧ Draws P w X.A.in1 i2 (i2 :: fb) nb Pb Sb ∧ Sa i s.heap ∧ Sb i s.heap ∧ ok i na nb ∧
      (∀ h, Sa (i + 1) h → st1 (i + 1) h) ∧ (∀ h, Sb (i + 1) h → st2 (i + 1) h) ∧ ∀ x y, Pa i x → Pb i y → ∃ v1 v2, RelV v1 x ∧ RelV v2 y ∧ out i H v1 v2
theorem turn_zipA (Z : ZipSep2 z ti to i1 i2 (i1 :: fa) (i2 :: fb))
    (o1 : ∀ i h, st1 i h → ∃ o, h.get? i1 = some o ∧ ∀ v, o.data ≠ .cell v) (o2 : ∀ i h, st2 i h → ∃ o, h.get? i2 = some o ∧ ∀ v, o.data ≠ .cell v)
    (k1 : ∀ i h h', st1 i h → (∀ o, h.get? i1 = some o → h'.get? i1 = some o) → st1 i h') (k2 : ∀ i h h', st2 i h → (∀ o, h.get? i2 = some o → h'.get? i2 = some o) → st2 i h')
    (go : ZSrc P w K i1 i2 fa fb st1 st2 (fun i na nb => i < na ∧ i < nb) J.go (fun i H v1 v2 => ∀ T, H T = none → J.yld i H (.ref T) (upd H T (.tup [v1, v2]))))
    (end_ : ZSrc P w K i1 i2 fa fb st1 st2 (fun i na nb => i ≤ na ∧ i ≤ nb ∧ (i = na ∨ i = nb)) J.stop (fun _ _ _ _ => True)) :
    Turn P w K tg J [z, ti, to, i1, i2] z (fun i h => ZSt h z ti to i1 i2 ∧ st1 i h ∧ st2 i h) where
  mem := List.mem_cons_self
  obj := by
    rintro i h ⟨⟨⟨f0, b, ho, _⟩, hi, p, q, hown⟩, s1, s2⟩ c hc
    have hc' : c = z ∨ c = ti ∨ c = to ∨ c = i1 ∨ c = i2 := by simpa using hc
    rcases hc' with rfl | rfl | rfl | rfl | rfl
    · exact ⟨_, ho, fun v r => nomatch r⟩
    · exact ⟨_, hi, fun v r => nomatch r⟩
    · exact ⟨_, hown, fun v r => nomatch r⟩
    · exact o1 i h s1
    · exact o2 i h s2
  keep := by
    rintro i h h' ⟨⟨⟨f0, b, ho, hf⟩, hi, p, q, hown⟩, s1, s2⟩ kk
    exact ⟨⟨⟨f0, b, kk z (by simp) _ ho, hf⟩, kk ti (by simp) _ hi, p, q, kk to (by simp) _ hown⟩, k1 i h h' s1 (kk i1 (by simp)), k2 i h h' s2 (kk i2 (by simp))⟩
  item := by
    intro X hP hw hK hc i pins s σ H E I hf st hg
    obtain ⟨zs, s1, s2⟩ := st
    obtain ⟨na, nb, Pa, Pb, Sa, Sb, Da, Db, ta, tb, ⟨la, lb⟩, ea, eb, out⟩ := go X hP hw hK hc i pins s σ H I s1 s2 hg
    subst hP hw hK
    obtain ⟨f0, b, ho, _⟩ := id zs.obj
    have zl : z < s.heap.objs.size := Heap.lt_size ho
    refine nextA_item Z Da Db zs ta tb la lb fun x y g tk hx hy zg sa sb new sz kk => ?_
    refine ⟨_, rfl, go_any (s := { s with heap := g, toks := tk }) zg Z.TIz Z.TOz fun g2 zg2 sm => ?_⟩
    obtain ⟨v1, v2, r1, r2, yl⟩ := out x y hx hy
    have lts : ∀ c ∈ [z, ti, to, i1, i2], c < s.heap.objs.size := by
      intro c hc
      have hc' : c = z ∨ c = ti ∨ c = to ∨ c = i1 ∨ c = i2 := by simpa using hc
      rcases hc' with rfl | rfl | rfl | rfl | rfl
      · exact zl
      · exact Heap.lt_size zs.its
      · obtain ⟨_, _, q⟩ := zs.own
        exact Heap.lt_size q
      · obtain ⟨_, q, _⟩ := o1 i _ s1
        exact Heap.lt_size q
      · obtain ⟨_, q, _⟩ := o2 i _ s2
        exact Heap.lt_size q
    have new2 : IsTupOf2 g2 s.heap.objs.size x y := (sm.2 _ (Nat.ne_of_gt zl)).trans new
    have obj : ObjOk X.prog X.w (upd H s.heap.objs.size (.tup [v1, v2])) g2 s.heap.objs.size (.tup [v1, v2]) := ⟨(by show 2 ≤ sizeLine; decide), [x, y], .cons r1 (.cons r2 .nil), _, new2, rfl, _, rfl⟩
    have kept : ∀ c o, c ∉ [z, ti, to, i1, i2] → s.heap.get? c = some o → g2.get? c = some o := fun c o hb r => by
      have cz : c ≠ z := fun q => hb (by simp [q])
      exact (sm.2 c cz).trans (kk c o cz (fun q => hb (by simp [q])) (fun q => hb (by simp [q])) (fun q => hb (by simp [q])) r)
    have I2 := I.turnedNew (t' := tk) kept hf (Nat.le_refl _) obj
    refine ⟨.ref s.heap.objs.size, _, I2, rfl, yl _ (I.hok.fresh (Nat.le_refl _)), ⟨zg2, k1 _ _ _ (ea _ sa) fun o r => (sm.2 i1 Z.zi1.symm).trans r, k2 _ _ _ (eb _ sb) fun o r => (sm.2 i2 Z.zi2.symm).trans r⟩, fun c hc => ?_⟩
    rw [upd_ne (Nat.ne_of_lt (lts c hc))]
    exact (hf c hc).1
  done := by
    intro X hP hw hK hc i pins s σ H E I hf st hg
    obtain ⟨zs, s1, s2⟩ := st
    obtain ⟨na, nb, Pa, Pb, Sa, Sb, Da, Db, ta, tb, ⟨la, lb, fin⟩, _, _, _⟩ := end_ X hP hw hK hc i pins s σ H I s1 s2 hg
    subst hP hw hK
    exact nextA_end Z Da Db zs ta tb la lb fin fun g tk kk => ⟨rfl, I.turnedL (t' := tk) (ch := [z, ti, to, i1, i2]) (fun c o hb r => kk c o (fun q => hb (by simp [q])) (fun q => hb (by simp [q])) (fun q => hb (by simp [q])) (fun q => hb (by simp [q])) r) hf⟩
  self := fun A i s Q E st h => by
    obtain ⟨⟨⟨f0, b, ho, _⟩, _, _⟩, _⟩ := st
    have ty : s.TypeIs (.ref z) "zip" := ⟨_, ho, rfl⟩
    exact wpAny_pyIter_slot ty PySem.F.slot_zip_iter (wpAny_call_entry PySem.F.slot_zip_iter ty PySem.F.entry_zip_iter (wpAny_pure ⟨_, rfl, "zip", _, ty, PySem.F.slot_zip_next.lookup, h⟩) (PySem.F.args_zip_iter_1 _))
end
/-! ### zip(tuple, tuple), zip(text, tuple), as a for walks them -/
abbrev SrcV := Hp → List V → Prop
def Itz2 (A B : SrcV) : It := ⟨fun i H => ∃ xs ys x y, A H xs ∧ B H ys ∧ xs[i]? = some x ∧ ys[i]? = some y,
  fun i H v H' => ∃ T x y, v = .ref T ∧ H T = none ∧ H' = upd H T (.tup [x, y]) ∧ (∀ xs, A H xs → xs[i]? = some x) ∧ ∀ ys, B H ys → ys[i]? = some y,
  fun i H => ∃ xs ys, A H xs ∧ B H ys ∧ i = min xs.length ys.length⟩
def YZip (xs ys : List V) : Nat → Hp → V → Hp → Prop := fun i H v H' => ∃ T x y, v = .ref T ∧ H T = none ∧ H' = upd H T (.tup [x, y]) ∧ xs[i]? = some x ∧ ys[i]? = some y
theorem walk_zip2 {A B : SrcV} {xs ys : List V} : Walk (Itz2 A B) (min xs.length ys.length) (fun H => A H xs ∧ B H ys) (YZip xs ys) := by
  refine ⟨fun i H hi q => ?_, fun H q => ⟨xs, ys, q.1, q.2, rfl⟩, fun i H v H' hi q y => ?_⟩
  · exact ⟨xs, ys, xs[i]'(by omega), ys[i]'(by omega), q.1, q.2, List.getElem?_eq_getElem _, List.getElem?_eq_getElem _⟩
  · obtain ⟨T, x, z, h1, h2, h3, h4, h5⟩ := y
    exact ⟨T, x, z, h1, h2, h3, h4 xs q.1, h5 ys q.2⟩
def srcT (K : PySem.W.Frag) (a : Addr) : SrcV := fun H xs => SqT K H a xs
def srcS (z : Str) : SrcV := fun _ xs => xs = z.cps.toList.map fun c => V.str (sgn c)
/-- what an iterator at it over a source draws -/
structure ZOne (P : Program) (w : World) (K : PySem.W.Frag) (A : SrcV) (it : Addr) (fp : List Addr) (st : Nat → Heap → Prop) : Prop where
  o : ∀ i h, st i h → ∃ o, h.get? it = some o ∧ ∀ v, o.data ≠ .cell v
  k : ∀ i h h', st i h → (∀ o, h.get? it = some o → h'.get? it = some o) → st i h'
  d : ∀ (X : Cx), X.prog = P → X.w = w → X.K = K → X.calm = true → ∀ (pins : List (Addr × Obj)) (s : Shared) (σ : L2.St) (H : Hp), Inv X pins σ H s → ∀ xs, A H xs →
    ∃ (Pa : Nat → Value → Prop) (Sa : Nat → Heap → Prop), Draws P w X.A.in1 it (it :: fp) xs.length Pa Sa ∧ (∀ i h, Sa i h → st i h) ∧ (∀ i, st i s.heap → Sa i s.heap) ∧ ∀ i x, Pa i x → ∃ v, RelV v x ∧ ∀ ys, A H ys → ys[i]? = some v
theorem zone_tup {P : Program} {w : World} {K : PySem.W.Frag} {a it : Addr} (ne : a ≠ it) : ZOne P w K (srcT K a) it [a] (fun i h => h.IsTupleIter it a i) where
  o := by
    rintro i h ⟨o, ho, _, hd⟩
    exact ⟨o, ho, fun v q => by rw [hd] at q; cases q⟩
  k := fun i h h' st kk => st.at kk
  d := by
    intro X hP hw hK hc pins s σ H I xs hx
    subst hP hw hK
    obtain ⟨us, rv, hT, _⟩ := I.tuple hx
    have el : us.toArray.size = xs.length := by rw [List.size_toArray, rv.length]
    refine ⟨_, _, el ▸ Draws.tuple (show X.A.in1.handled = none from I.ok.hd hc) it a ne us.toArray, fun i h q => q.1, fun i q => ⟨q, hT⟩, fun i x hi => ?_⟩
    have hi' : us[i]? = some x := by simpa using hi
    obtain ⟨hl, ex⟩ := List.getElem?_eq_some_iff.mp hi'
    have hl2 : i < xs.length := by rw [rv.length]; exact hl
    obtain ⟨u, hu, ru⟩ := rv.get (List.getElem?_eq_getElem hl2)
    rw [hi'] at hu
    cases hu
    refine ⟨xs[i], ru, fun ys hy => ?_⟩
    rw [I.tuple_inj hy hx]
    exact List.getElem?_eq_getElem hl2
theorem zone_str {P : Program} {w : World} {K : PySem.W.Frag} {z : Str} {t : Tok} {it : Addr} : ZOne P w K (srcS z) it [] (fun i h => h.IsStrIter it (strIterType z) z t i) where
  o := by
    rintro i h ⟨o, ho, _, hd⟩
    exact ⟨o, ho, fun v q => by rw [hd] at q; cases q⟩
  k := by
    rintro i h h' ⟨o, ho, r⟩ kk
    exact ⟨o, kk o ho, r⟩
  d := by
    intro X hP hw hK hc pins s σ H I xs hx
    subst hP hw hK
    have el : z.cps.size = xs.length := by
      rw [show xs = _ from hx, List.length_map]
      simp
    refine ⟨_, _, el ▸ drawsStr (show X.A.in1.handled = none from I.ok.hd hc) it z t (strTy z), fun i h q => q, fun i q => q, fun i x hi => ?_⟩
    obtain ⟨c, u, hc', rfl⟩ := hi
    refine ⟨.str (sgn c), ⟨u, rfl⟩, fun ys hy => ?_⟩
    rw [show ys = _ from hy, List.getElem?_map, show z.cps.toList[i]? = some c by rw [← get_tl]; exact hc']
    rfl
theorem turn_zip2 {P : Program} {w : World} {K : PySem.W.Frag} {tg : Expr} {A B : SrcV} {z ti to i1 i2 : Addr} {fa fb : List Addr} {st1 st2 : Nat → Heap → Prop} (Z : ZipSep2 z ti to i1 i2 (i1 :: fa) (i2 :: fb)) (a : ZOne P w K A i1 fa st1) (b : ZOne P w K B i2 fb st2) :
    Turn P w K tg (Itz2 A B) [z, ti, to, i1, i2] z (fun i h => ZSt h z ti to i1 i2 ∧ st1 i h ∧ st2 i h) := by
  refine turn_zipA Z a.o b.o a.k b.k ?_ ?_
  · intro X hP hw hK hc i pins s σ H I s1 s2 hg
    obtain ⟨xs, ys, x, y, hx, hy, ex, ey⟩ := hg
    obtain ⟨Pa, Sa, Da, a1, a2, a3⟩ := a.d X hP hw hK hc pins s σ H I xs hx
    obtain ⟨Pb, Sb, Db, b1, b2, b3⟩ := b.d X hP hw hK hc pins s σ H I ys hy
    refine ⟨_, _, Pa, Pb, Sa, Sb, Da, Db, a2 i s1, b2 i s2, ⟨(List.getElem?_eq_some_iff.mp ex).1, (List.getElem?_eq_some_iff.mp ey).1⟩, fun h q => a1 _ h q, fun h q => b1 _ h q, fun p q hp hq => ?_⟩
    obtain ⟨v1, r1, e1⟩ := a3 i p hp
    obtain ⟨v2, r2, e2⟩ := b3 i q hq
    exact ⟨v1, v2, r1, r2, fun T hT => ⟨T, v1, v2, rfl, hT, rfl, e1, e2⟩⟩
  · intro X hP hw hK hc i pins s σ H I s1 s2 hg
    obtain ⟨xs, ys, hx, hy, ei⟩ := hg
    obtain ⟨Pa, Sa, Da, a1, a2, a3⟩ := a.d X hP hw hK hc pins s σ H I xs hx
    obtain ⟨Pb, Sb, Db, b1, b2, b3⟩ := b.d X hP hw hK hc pins s σ H I ys hy
    refine ⟨_, _, Pa, Pb, Sa, Sb, Da, Db, a2 i s1, b2 i s2, ⟨by omega, by omega, by omega⟩, fun h q => a1 _ h q, fun h q => b1 _ h q, fun p q hp hq => ?_⟩
    obtain ⟨v1, r1, e1⟩ := a3 i p hp
    obtain ⟨v2, r2, e2⟩ := b3 i q hq
    exact ⟨v1, v2, r1, r2, trivial⟩
section
variable {X : Cx} {e e2 : Expr} {ta : TA} {p pos : Pos} {tg : Expr} (K : PySem.W.Frag)
def iZipTT (ta : TA) : TI := fun σ H R => ta σ H fun vs H1 => ∃ a b xs ys, vs = [.ref a, .ref b] ∧ SqT K H1 a xs ∧ SqT K H1 b ys ∧ R (Itz2 (srcT K a) (srcT K b)) H1
def iZipST (ta : TA) : TI := fun σ H R => ta σ H fun vs H1 => ∃ (z : Str) (b : Addr) (ys : List V), vs = [.str z, .ref b] ∧ SqT K H1 b ys ∧ R (Itz2 (srcS z) (srcT K b)) H1
theorem zip_fresh {pins : List (Addr × Obj)} {σ : L2.St} {H : Hp} {s : Shared} (I : Inv X pins σ H s) : ∀ c ∈ [s.heap.objs.size + 4, s.heap.objs.size + 2, s.heap.objs.size + 3, s.heap.objs.size, s.heap.objs.size + 1], FpOk X pins H c := fun c hc => by
  have le : s.heap.objs.size ≤ c := by
    have hc' : c = s.heap.objs.size + 4 ∨ c = s.heap.objs.size + 2 ∨ c = s.heap.objs.size + 3 ∨ c = s.heap.objs.size ∨ c = s.heap.objs.size + 1 := by simpa using hc
    rcases hc' with rfl | rfl | rfl | rfl | rfl
    · exact Nat.le_add_right _ _
    · exact Nat.le_add_right _ _
    · exact Nat.le_add_right _ _
    · exact Nat.le_refl _
    · exact Nat.le_add_right _ _
  exact I.fpOk le (I.hok.fresh le)
theorem pi_zipTT (hg : Gl X "zip") (hm : X.mg "zip" = none) (ha : PA X [e, e2] ta) (h : X.K = K := by rfl) (hs : starEach [e, e2] X.env = (false, eval e X.env) :: starEach [e2] X.env := by rfl) (hpl : (backTo pos (starEach [e2] X.env)).any (·.1) = false := by rfl) :
    PI X tg (.Call (.Name "zip" p) [e, e2] [] pos) (iZipTT K ta) := by
  subst h
  refine ⟨fun pins s σ H R I h => Call_ (ld_blt I hg hm PyProof.Rows.boot_zip (PyProof.Rows.callWith_type1 (thn (ha.run pos pins s σ H _ I h) fun us s1 z1 => ?_) hs hpl))⟩
  obtain ⟨vs, H1, I1, r1, a, b, xs, ys, rfl, hx, hy, q⟩ := z1
  obtain ⟨u1, u2, rfl, ra, rb⟩ := r1.two
  obtain rfl : u1 = Value.ref a := ra
  obtain rfl : u2 = Value.ref b := rb
  obtain ⟨ua, _, hTa, _⟩ := I1.tuple hx
  obtain ⟨ub, _, hTb, _⟩ := I1.tuple hy
  have la : a < s1.heap.objs.size := by obtain ⟨_, q, _⟩ := hTa; exact Heap.lt_size q
  have lb : b < s1.heap.objs.size := by obtain ⟨_, q, _⟩ := hTb; exact Heap.lt_size q
  refine zip_begins2 (begins_tuple a ua.toArray) (begins_tuple b ub.toArray) hTa hTb fun g hz hi ho h1 h2 sz kk => ?_
  have I2 : Inv X pins σ H1 { s1 with heap := g } := I1.kept (t' := s1.toks) kk
  have Z : ZipSep2 (s1.heap.objs.size + 4) (s1.heap.objs.size + 2) (s1.heap.objs.size + 3) s1.heap.objs.size (s1.heap.objs.size + 1) (s1.heap.objs.size :: [a]) ((s1.heap.objs.size + 1) :: [b]) := zip_sep2 (fun c hc => by rw [List.mem_singleton.mp hc]; exact la) (fun c hc => by rw [List.mem_singleton.mp hc]; exact lb)
  have T := turn_zip2 (tg := tg) (P := X.prog) (w := X.w) Z (zone_tup (K := X.K) (Nat.ne_of_lt la)) (zone_tup (K := X.K) (Nat.ne_of_lt (Nat.lt_succ_of_lt lb)))
  have st : ZSt g (s1.heap.objs.size + 4) (s1.heap.objs.size + 2) (s1.heap.objs.size + 3) s1.heap.objs.size (s1.heap.objs.size + 1) ∧ g.IsTupleIter s1.heap.objs.size a 0 ∧ g.IsTupleIter (s1.heap.objs.size + 1) b 0 := ⟨⟨⟨_, _, hz, .inl rfl⟩, hi, _, _, ho⟩, ⟨_, h1, rfl, rfl⟩, ⟨_, h2, rfl, rfl⟩⟩
  exact T.self X.A 0 { s1 with heap := g } _ _ st ⟨_, _, _, _, H1, rfl, I2, T, st, fun c hc => zip_fresh I1 c hc, q⟩
theorem pi_zipST (hg : Gl X "zip") (hm : X.mg "zip" = none) (ha : PA X [e, e2] ta) (h : X.K = K := by rfl) (hs : starEach [e, e2] X.env = (false, eval e X.env) :: starEach [e2] X.env := by rfl) (hpl : (backTo pos (starEach [e2] X.env)).any (·.1) = false := by rfl) :
    PI X tg (.Call (.Name "zip" p) [e, e2] [] pos) (iZipST K ta) := by
  subst h
  refine ⟨fun pins s σ H R I h => Call_ (ld_blt I hg hm PyProof.Rows.boot_zip (PyProof.Rows.callWith_type1 (thn (ha.run pos pins s σ H _ I h) fun us s1 z1 => ?_) hs hpl))⟩
  obtain ⟨vs, H1, I1, r1, x, b, ys, rfl, hy, q⟩ := z1
  obtain ⟨u1, u2, rfl, ra, rb⟩ := r1.two
  obtain ⟨t, rfl⟩ : ∃ t, u1 = Value.str x t := ra
  obtain rfl : u2 = Value.ref b := rb
  obtain ⟨ub, _, hTb, _⟩ := I1.tuple hy
  have lb : b < s1.heap.objs.size := by obtain ⟨_, q, _⟩ := hTb; exact Heap.lt_size q
  refine zip_begins2 (begins_text x t) (begins_tuple b ub.toArray) trivial hTb fun g hz hi ho h1 h2 sz kk => ?_
  have I2 : Inv X pins σ H1 { s1 with heap := g } := I1.kept (t' := s1.toks) kk
  have Z : ZipSep2 (s1.heap.objs.size + 4) (s1.heap.objs.size + 2) (s1.heap.objs.size + 3) s1.heap.objs.size (s1.heap.objs.size + 1) (s1.heap.objs.size :: []) ((s1.heap.objs.size + 1) :: [b]) := zip_sep2 (fun c hc => absurd hc (List.not_mem_nil)) (fun c hc => by rw [List.mem_singleton.mp hc]; exact lb)
  have T := turn_zip2 (tg := tg) (P := X.prog) (w := X.w) Z (zone_str (K := X.K) (z := x) (t := t)) (zone_tup (K := X.K) (Nat.ne_of_lt (Nat.lt_succ_of_lt lb)))
  have st : ZSt g (s1.heap.objs.size + 4) (s1.heap.objs.size + 2) (s1.heap.objs.size + 3) s1.heap.objs.size (s1.heap.objs.size + 1) ∧ g.IsStrIter s1.heap.objs.size (strIterType x) x t 0 ∧ g.IsTupleIter (s1.heap.objs.size + 1) b 0 := ⟨⟨⟨_, _, hz, .inl rfl⟩, hi, _, _, ho⟩, ⟨_, h1, rfl, rfl⟩, ⟨_, h2, rfl, rfl⟩⟩
  exact T.self X.A 0 { s1 with heap := g } _ _ st ⟨_, _, _, _, H1, rfl, I2, T, st, fun c hc => zip_fresh I1 c hc, q⟩
end
end Rg

set_option Elab.async false
set_option linter.all false
set_option maxRecDepth 100000
set_option maxHeartbeats 2000000
namespace Rg
open PySem PySem.Spec PyProof.Rows L2
/-! ### operators and comparisons of an own class -/
section
variable {X : Cx} {CX : CXT} {k j : Nat} {C f a : Addr} {fd : FuncData} {ps : List Str} {sp : Sp} {E : XK} {m : Str} {p pos apos : Pos} {o e : Expr} {es : List Expr} {ta tb : TE} {t : TA}
def rBinO (C : Addr) (sp : Sp) (E : XK) : R2 := fun x y H Q => ∃ a dx fs b dy gs, x = .ref a ∧ y = .ref b ∧ H a = some (.ins C dx fs) ∧ H b = some (.ins C dy gs) ∧ sp [x, y] H Q E
theorem op_binO {op : Operator} (c : MetX X.prog X.w X.K X.mg X.base CX k C m sp) (first : PySem.W.selfFirst X.K C = true) (hr : Room j X.A) (hk : k ≤ j) (hx : Passes CX X E) (hn : PySem.dunder op.info.2 = m := by decide +kernel) : OpR X (binaryOp op) (rBinO C sp E) := by
  intro pins s σ H x y v u Q I rx ry h
  obtain ⟨f, fd, ps, hm, F, b⟩ := c.ex
  obtain ⟨a, dx, fs, a2, dy, gs, rfl, rfl, ea, eb, q⟩ := h
  obtain rfl := rx
  obtain rfl := ry
  obtain ⟨ox, od, J⟩ := inst_of I ea
  obtain ⟨ox2, od2, J2⟩ := inst_of I eb
  obtain ⟨mf, hf⟩ := I.fr
  refine PySem.W.binop_K (op := op) hf I.mod.kin J J2.type first (by rw [hn]; exact hm.at_) hm.fn (wpAny_mono (run_fn0 (vs := [.ref a, .ref a2]) F (hr.mono hk) b hx I (.cons rfl (.cons rfl .nil)) q) ?_ fun _ _ z => z)
  rintro u s' ⟨v, H', I', rv, q'⟩
  exact SlX.cmpback rv ⟨v, H', I', rv, q'⟩
def rCmpO (K : PySem.W.Frag) (C : Addr) (sp : Sp) (E : XK) : R2 := fun x y H Q => ∃ a dx fs t, x = .ref a ∧ H a = some (.ins C dx fs) ∧ TyX K H y t ∧ PySem.W.notFirst K C t = true ∧ sp [x, y] H Q E
theorem op_cmpO {op : CmpOp} (c : MetX X.prog X.w X.K X.mg X.base CX k C m sp) (hr : Room j X.A) (hk : k ≤ j) (hx : Passes CX X E) (hop : ∀ a b, compareOp op a b = richCompare op a b := by intro _ _; rfl) (hn : (cmpInfo op).2.1 = m := by decide +kernel) : OpR X (compareOp op) (rCmpO X.K C sp E) := by
  intro pins s σ H x y v u Q I rx ry h
  obtain ⟨f, fd, ps, hm, F, b⟩ := c.ex
  obtain ⟨a, dx, fs, t, rfl, ea, ty, nf, q⟩ := h
  obtain rfl := rx
  obtain ⟨ox, od, J⟩ := inst_of I ea
  obtain ⟨mf, hf⟩ := I.fr
  obtain ⟨Pk, kit, hk1, _⟩ := kit_of I ry ty
  rw [hop]
  refine PySem.W.cmp_K (op := op) (tb := t) hr.units0 hf I.mod.kin J (kit.ty _ _ I.kIn hk1) nf (by rw [hn]; exact hm.at_) hm.fn (wpAny_mono (run_fn0 (vs := [.ref a, y]) F (hr.mono hk) b hx I (.cons rfl (.cons ry .nil)) q) ?_ fun _ _ z => z)
  rintro u s' ⟨v, H', I', rv, q'⟩
  exact SlX.cmpback rv ⟨v, H', I', rv, q'⟩
/-- a slot of object's own, bound to an instance -/
theorem bound_obj {A : Around} {s : Shared} {K : PySem.W.Frag} {x : Addr} {ox : Obj} {od : Option Obj} {M : Model} {E : Value → Shared → Prop} {name : Str} {id : String} {args : List Value} {Q : Option Value → Shared → Prop} (XK : K.In s.heap) (I : PySem.W.InstAt s.heap x ox C od) (hs : PySem.W.findIn K (.ref C) name = some (some (.builtin id)))
    (hb : ∀ self, bindSpecial (.builtin id) self = pure (.builtin id, [self])) (h : wpAny M A (call (.builtin id) (.ref x :: args)) (fun v => Q (some v)) E s) : wpAny M A (callSpecialIfBound? (.ref x) name args) Q E s := by
  simp only [callSpecialIfBound?, bindSpecialIfBound?]
  refine wpAny_holding (wpAny_bind (wpAny_bind (wpAny_bind (I.type.here ((PySem.W.looks_findIn XK hs).here ?_)))))
  have fin : wpAny M A (call (.builtin id) ([.ref x] ++ args) >>= fun v => pure (some v)) Q E s := wpAny_bind (wpAny_mono h (fun v s' z => wpAny_pure z) fun _ _ z => z)
  have bd : PySem.W.Looks M s.heap (bindSpecial (.builtin id) (.ref x)) (.builtin id, [.ref x]) := PySem.W.Looks.of_pure (hb _)
  refine wpAny_bind (wpAny_askSetting (wpAny_ite ?_))
  split
  · exact wpAny_bind (bd.here (wpAny_pure (by exact fin)))
  · exact wpAny_tryCatch (wpAny_bind (bd.here (wpAny_pure (by exact fin))))
/-- x != y by the own __eq__ -/
structure NeIn (K : PySem.W.Frag) (C : Addr) : Prop where
  ne : PySem.W.findIn K (.ref C) "__ne__" = some (some (.builtin "object.__ne__"))
  ob : PySem.W.mroIn K C (.type "object") = some true
def rNeO (K : PySem.W.Frag) (C : Addr) (sp : Sp) (E : XK) : R2 := fun x y H Q => ∃ a dx fs t, x = .ref a ∧ H a = some (.ins C dx fs) ∧ TyX K H y t ∧ PySem.W.notFirst K C t = true ∧ sp [x, y] H (fun v H' => ∃ b : Bool, v = .bl b ∧ Q (.bl (!b)) H') E
theorem ne_own {A : Around} {s : Shared} {K : PySem.W.Frag} {P : Program} {w : World} {x : Addr} {b tb : Value} {ox : Obj} {od : Option Obj} {E : Value → Shared → Prop} {Q : Value → Shared → Prop} (hu : A.units < cLine) (hu2 : A.in1.units < cLine) (XK : K.In s.heap) (I : PySem.W.InstAt s.heap x ox C od) (N : NeIn K C) (hb : PySem.W.Looks (model P w) s.heap (typeOf b) tb)
    (nf : PySem.W.notFirst K C tb = true) (hs : PySem.W.findIn K (.ref C) "__eq__" = some (some (.ref f))) (hf : PySem.W.isFn K (.ref f) = true)
    (h : wpAny (model P w) A.in1 (call (.ref f) [.ref x, b]) (fun v s' => ∃ r : Bool, v = .bool r ∧ Q (.bool (!r)) s') E s) : wpAny (model P w) A (richCompare .NotEq (.ref x) b) Q E s := by
  have one : wpAny (model P w) A (tryCompare (.ref x) (cmpInfo .NotEq).2.1 b) (fun r s' => ∃ v, r = some v ∧ Q v s') E s := by
    unfold tryCompare
    refine wpAny_bind (bound_obj XK I N.ne (fun self => PySem.F.slot_object_ne.bind self) ?_)
    refine wpAny_call (codeAny_call_builtin PySem.F.slot_object_ne.plain PySem.F.entry_object_ne (PySem.W.check_slot (i := "object.__ne__") (owner := "object") (n := "__ne__") (by decide +kernel) (by decide +kernel) (I.type.andThen (PySem.W.looks_mroIn XK N.ob)) (PySem.F.args_object_ne_2 _ _) ?_))
    unfold Builtin.«object.__ne__»
    refine wpAny_bind (m := slotArgs "__ne__" 1 _) (wpAny_pure ?_)
    refine wpAny_bind (m := cRoomFor _ _) (wpAny_cRoomFor hu2 ?_)
    refine wpAny_bind (m := callSpecialIfBound? (.ref x) (Str.ofString "__eq__") _) (PySem.W.ifBound_K XK I hs hf (wpAny_mono h (fun r s' z => ?_) fun _ _ y => y))
    obtain ⟨r, rfl, q⟩ := z
    exact wpAny_bind (m := truthy (.bool r)) (wpAny_pure (wpAny_pure (wpAny_pure ⟨_, rfl, q⟩)))
  unfold richCompare
  simp only [oneThing_ref]
  refine wpAny_holding (wpAny_bind (wpAny_cRoomFor hu ?_))
  refine wpAny_bind (I.type.here (wpAny_bind (hb.here ?_)))
  have last : wpAny (model P w) A (do
      if let some v ← tryCompare (.ref x) (cmpInfo .NotEq).2.1 b then return v
      if !false then
        if let some v ← tryCompare b (cmpInfo .NotEq).2.2 (.ref x) then return v
      rule "compare.ne-identity"; return .bool (!(← isSame (.ref x) b))) Q E s := by
    refine wpAny_bind (wpAny_mono one (fun r s' z => ?_) fun _ _ e => e)
    obtain ⟨v, rfl, q⟩ := z
    exact wpAny_pure q
  by_cases same : (Value.ref C != tb) = true
  · have ns : PySem.W.subIn K tb (.ref C) = some false := by
      rcases Bool.or_eq_true_iff.mp nf with e | e
      · rw [beq_iff_eq.mp e] at same
        simp at same
      · exact beq_iff_eq.mp e
    rw [if_pos same]
    refine wpAny_bind ((PySem.W.looks_subIn XK ns).here ?_)
    simp only [Bool.false_eq_true, if_false]
    exact last
  · rw [if_neg same]
    refine wpAny_bind (wpAny_pure ?_)
    simp only [Bool.false_eq_true, if_false]
    exact last
theorem op_neO (c : MetX X.prog X.w X.K X.mg X.base CX k C "__eq__" sp) (N : NeIn X.K C) (hr : Room j X.A) (hk : k + 1 ≤ j) (hx : Passes CX X E) : OpR X (compareOp .NotEq) (rNeO X.K C sp E) := by
  intro pins s σ H x y v u Q I rx ry h
  obtain ⟨f, fd, ps, hm, F, b⟩ := c.ex
  obtain ⟨a, dx, fs, t, rfl, ea, ty, nf, q⟩ := h
  obtain rfl := rx
  obtain ⟨ox, od, J⟩ := inst_of I ea
  obtain ⟨Pk, kit, hk1, _⟩ := kit_of I ry ty
  have hr1 : Room (k + 1) X.A := hr.mono hk
  show wpAny _ _ (richCompare .NotEq (.ref a) u) _ _ _
  refine ne_own hr.units0 hr1.in1.units0 I.kIn J N (kit.ty _ _ I.kIn hk1) nf hm.at_ hm.fn (wpAny_mono (run_fn1 (vs := [.ref a, y]) F hr1 b hx I (.cons rfl (.cons ry .nil)) q) ?_ fun _ _ z => z)
  rintro u s' ⟨v, H', I', rv, r, rfl, q'⟩
  obtain rfl : u = Value.bool r := rv
  exact ⟨r, rfl, .bl (!r), H', I', rfl, q'⟩
/-! ### the truth of an instance, by its own __bool__ -/
def rTruO (C : Addr) (sp : Sp) (E : XK) (x : V) (H : Hp) (Q : Bool → Hp → Prop) : Prop := ∃ a dx fs, x = .ref a ∧ H a = some (.ins C dx fs) ∧ sp [.ref a] H (fun v H' => ∃ b : Bool, v = .bl b ∧ Q b H') E
theorem tru_own (c : MetX X.prog X.w X.K X.mg X.base CX k C "__bool__" sp) (hr : Room j X.A) (hk : k ≤ j) (hx : Passes CX X E) {pins : List (Addr × Obj)} {σ : L2.St} {H : Hp} {s : Shared} {x : V} {u : Value} {Q : Bool → Hp → Prop} (I : Inv X pins σ H s) (rx : RelV x u) (h : rTruO C sp E x H Q) :
    wpAny (model X.prog X.w) X.A (truthy u) (fun b s' => ∃ H', Inv X pins σ H' s' ∧ Q b H') X.xe s := by
  obtain ⟨f, fd, ps, hm, F, b⟩ := c.ex
  obtain ⟨a, dx, fs, rfl, ea, q⟩ := h
  obtain rfl := rx
  obtain ⟨ox, od, J⟩ := inst_of I ea
  obtain ⟨mf, hf⟩ := I.fr
  refine PySem.W.truthy_K hf I.mod.kin J hm.at_ hm.fn (wpAny_mono (run_fn0 (vs := [.ref a]) F (hr.mono hk) b hx I (.cons rfl .nil) q) ?_ fun _ _ z => z)
  rintro u s' ⟨v, H', I', rv, r, rfl, q'⟩
  obtain rfl : u = Value.bool r := rv
  exact ⟨H', I', q'⟩
def tNotO (C : Addr) (sp : Sp) (E : XK) (ta : TE) : TE := fun σ H Q => ta σ H fun x H1 => rTruO C sp E x H1 fun b H2 => Q (.bl (!b)) H2
theorem pe_notO (c : MetX X.prog X.w X.K X.mg X.base CX k C "__bool__" sp) (hr : Room j X.A) (hk : k ≤ j) (hx : Passes CX X E) (ha : PE X e ta) : PE X (.UnaryOp .Not e pos) (tNotO C sp E ta) := by
  refine ⟨fun pins s σ H Q I h => UnaryOp_ (thn (ha.run pins s σ H _ I h) fun v s1 z => ?_)⟩
  obtain ⟨x, H1, I1, r1, q1⟩ := z
  exact not_of (thn (tru_own c hr hk hx I1 r1 q1) fun b s2 ⟨H2, I2, q2⟩ => ⟨.bl (!b), H2, I2, rfl, q2⟩)
def tTruthO (C : Addr) (sp : Sp) (E : XK) (ta : TE) : TT := fun σ H Q => ta σ H fun x H1 => rTruO C sp E x H1 Q
theorem pt_truO (c : MetX X.prog X.w X.K X.mg X.base CX k C "__bool__" sp) (hr : Room j X.A) (hk : k ≤ j) (hx : Passes CX X E) (ha : PE X e ta) (he : ∀ whole, isTrue e X.env whole = (do let v ← whole; standAt e.pos; holding [v] (truthy v)) := by intro _; rfl) : PT X e (tTruthO C sp E ta) := by
  refine ⟨fun pins s σ H Q I h => isTrue_plain (thn (ha.run pins s σ H _ I h) fun v s1 z => ?_) (he _)⟩
  obtain ⟨x, H1, I1, r1, q1⟩ := z
  exact tru_own c hr hk hx I1 r1 q1
/-- the callee runs, two C levels deeper -/
theorem run_fn2 {pins : List (Addr × Obj)} {σ : L2.St} {H : Hp} {s : Shared} {Q : VK} {us : List Value} {vs : List V} (F : FnOk X.prog X.w X.K X.mg X.base CX k f fd ps sp) (hr : Room (k + 2) X.A) (hb : Binds X.K fd ps []) (hx : Passes CX X E)
    (I : Inv X pins σ H s) (r : Vals vs us) (h : sp vs H Q E) : wpAny (model X.prog X.w) X.A.in1.in1 (call (.ref f) us) (EP X pins σ Q) X.xe s := by
  have hl : us.length = ps.length := r.length.symm.trans (F.len _ _ _ _ h)
  have bt := hb s us I.kIn (by rw [List.append_nil]; exact hl)
  rw [List.append_nil] at bt
  have hr2 : Room k X.A.in1.in1 := (show Room (k + 1) X.A.in1 from Room.in1 hr).in1
  refine wpAny_call (codeAny_mono (F.run X.A.in1.in1 X.stack s H ⟨us, []⟩ us vs Q E hr2 I.env0.in1.in1 bt r h) fun z s' hq => ?_)
  cases z with
  | error e => exact hx pins σ H s e s' I hq
  | ok fl =>
    cases fl with
    | ret u => exact I.after hq
    | next => exact hq.elim
    | brk => exact hq.elim
    | cont => exact hq.elim
theorem bool_in {P : Program} {w : World} (x : Addr) : MeetsIn P w (Builtin.«bool.__new__» ⟨[.type "bool", .ref x], []⟩) (fun A R s => wpAny (model P w) A.in1 (truthy (.ref x)) (fun b s' => R (.ok (.ret (.bool b))) s') (fun e s' => R (.error e) s') s) := by
  intro A R s h
  obtain ⟨hp, g, d, tk, os⟩ := s
  have f1 := PySem.F.conv_sub_bool
  unfold Builtin.«bool.__new__»
  repeat (any_goals (first | assumption | (with_reducible refine wpAny_mono h ?_ (fun _ _ z => z)) | wp_step))
  intro b s' q
  exact wpAny_pure q
def rBoolO (C : Addr) (sp : Sp) (E : XK) : List V → Hp → VK → Prop := fun xs H Q => ∃ x, xs = [x] ∧ rTruO C sp E x H fun b H' => Q (.bl b) H'
theorem call_boolO (c : MetX X.prog X.w X.K X.mg X.base CX k C "__bool__" sp) (hr : Room j X.A) (hk : k + 2 ≤ j) (hx : Passes CX X E) : CallR X (.type "bool") (rBoolO C sp E) := by
  intro pins s σ H xs us Q I r h
  obtain ⟨f, fd, ps, hm, F, b⟩ := c.ex
  obtain ⟨x, rfl, a, dx, fs, rfl, ea, q⟩ := h
  cases r with
  | cons r1 r2 =>
    cases r2
    obtain rfl := r1
    obtain ⟨ox, od, J⟩ := inst_of I ea
    obtain ⟨mf, hf⟩ := I.fr
    refine callType_newIn PySem.F.called_bool PySem.F.newNe_bool (PySem.F.typeCall_bool_1 _) (PySem.F.newCall_bool_1 _) (fun obj => PySem.F.args_object_init_2 obj _) PySem.F.entry_bool_new (bool_in a) ?_
    refine PySem.W.truthy_K hf I.mod.kin J hm.at_ hm.fn (wpAny_mono (run_fn2 (vs := [.ref a]) F (hr.mono hk) b hx I (.cons rfl .nil) q) ?_ fun _ _ z => z)
    rintro u s' ⟨v, H', I', rv, r, rfl, q'⟩
    obtain rfl : u = Value.bool r := rv
    exact ⟨PySem.typeIs_bool _ _, .bl r, H', I', rfl, q'⟩
end
end Rg

set_option Elab.async false
set_option linter.all false
set_option maxRecDepth 100000
set_option maxHeartbeats 2000000
namespace Rg
open PySem PySem.Spec PyProof.Rows L2
section
variable {X : Cx} {k v : Expr} {pos : Pos} {tk tv : TE}
/-- {k: v}, the key a tuple -/
def tDisp1T (tk tv : TE) : TE := fun σ H Q => ∀ p, H p = none → tk σ (upd H p (.dT [])) fun y H1 => tv σ H1 fun z H2 => H2 p = some (.dT []) ∧ ∃ b ks, y = .ref b ∧ H2 b = some (.tup (ks.map kV)) ∧ Q (.ref p) (upd H2 p (.dT [(ks, z)]))
theorem pe_disp1T (hu : X.A.units + 64 < cLine) (hk : PE X k tk) (hv : PE X v tv) : PE X (.Dict [some k] [v] pos) (tDisp1T tk tv) := by
  refine ⟨fun pins s σ H Q I q => ?_⟩
  have fr := I.hok.fresh (Nat.le_refl s.heap.objs.size)
  have I1 := I.laid (a := s.heap.objs.size) (o := .dT []) (h' := s.heap.push { cls := .type "dict", data := .dict #[] }) (t' := s.toks) (fun _ _ r => Heap.get?_push_of_some _ r) (Nat.le_refl _) (dt_empty s.heap I.big)
  have sh := zip_pairTrees [some k] [v] X.env pos rfl rfl
  rw [arm_eval_Dict, sh, dictDisplay_pairs (pairTrees [some k] [v] X.env pos) (by intro z; cases z) (by show 1 < 17; decide)]
  refine wpAny_bind (wpAny_standAt (wpAny_bind ?_))
  unfold subDict
  refine wpAny_bind (wpAny_alloc (wpAny_bind (wpAny_holding ?_)))
  rw [if_pos (show (pairTrees [some k] [v] X.env pos).length ≤ 15 by show 1 ≤ 15; decide)]
  refine wpAny_bind (pairTrees_cons_walk (thn (hk.run pins _ σ _ _ I1 (q _ fr)) fun u s1 z1 => ?_))
  obtain ⟨y, H1, I2, ry, q1⟩ := z1
  refine thn (hv.run pins s1 σ H1 _ I2 q1) fun u2 s2 z2 => ?_
  obtain ⟨z, H2, I3, rz, hp, b, ks, rfl, eb, q2⟩ := z2
  obtain rfl : u = Value.ref b := ry
  refine pairTrees_nil_walk (wpAny_holding (wpAny_bind ?_))
  rw [List.forIn_cons]
  obtain ⟨_, hd, xs, rel, dd⟩ := dt_of I3.hok hp
  cases rel
  refine wpAny_bind (wpAny_bind (wpAny_dictSet_heap (hsz := Nat.zero_le _) (show (tupleKind (mixKind X.prog X.w)).room X.A from Nat.lt_of_le_of_lt (Nat.le_add_right _ 64) hu) (key_of I3.hok eb) dd fun h' dd' hs => wpAny_pure ?_))
  simp only [List.forIn_nil]
  refine wpAny_pure (wpAny_pure (wpAny_pure (wpAny_pure ?_)))
  obtain ⟨o, es, ep, ho, h2, h3, h4, _, h5⟩ := dd'
  have rl : KT H2 (putK [] ks z) (storedH [] ks b u2) := KT.put .nil ks eb rz
  refine ⟨.ref s.heap.objs.size, upd H2 s.heap.objs.size (.dT [(ks, z)]), d_write (ob := .dT [(ks, z)]) I3 (by rw [hp]; exact True.intro) hs ⟨o, ho⟩ ⟨(by show 1 ≤ sizeLine; decide), hd, _, rl.keeps fun c ys ec => ?_, o, es, ep, ho, h2, h3, h4, h5⟩, rfl, q2⟩
  rw [upd_ne (ne_of ec hp (fun r => nomatch r))]
  exact ec
end
section
variable {X : Cx} (K : PySem.W.Frag)
theorem op_inDK (hu : X.A.units + 65 < cLine) (h : X.K = K := by rfl) : OpR X (compareOp .In) (rInD K) := h ▸ op_inD hu
theorem op_notInDK (hu : X.A.units + 65 < cLine) (h : X.K = K := by rfl) : OpR X (compareOp .NotIn) (rNotInD K) := h ▸ op_notInD hu
end
/-- a while whose turns are counted, at most N of them -/
theorem while_n {c : TT} {tb : TS} {D : Ends} {σ : L2.St} {H : Hp} (N : Nat) (Pv : Nat → L2.St → Hp → Prop) (h0 : Pv 0 σ H) (hs : ∀ i σ H, Pv i σ H → c σ H fun b H1 => if b = true then i < N ∧ tb { D with nx := Pv (i + 1), ct := Pv (i + 1), bk := D.nx } σ H1 else D.nx σ H1)
    (mono : ∀ σ H Q Q', (∀ b H1, Q b H1 → Q' b H1) → c σ H Q → c σ H Q') : tWhile c tb D σ H := by
  refine ⟨fun m σ H => ∃ i, Pv i σ H ∧ m = N + 1 - i, ⟨_, 0, h0, rfl⟩, ?_⟩
  rintro m σ H ⟨i, p, rfl⟩
  refine mono σ H _ _ (fun b H1 q => ?_) (hs i σ H p)
  cases b with
  | true => exact ⟨_, fun σ' H' p' => ⟨N + 1 - (i + 1), by have := q.1; omega, i + 1, p', rfl⟩, q.2⟩
  | false => exact q
theorem hu65 {k : Nat} {A : Around} (r : Room k A) : A.units + 65 < cLine := by
  have := r.un
  omega
end Rg

set_option Elab.async false
set_option linter.all false
set_option maxRecDepth 100000
set_option maxHeartbeats 4000000
namespace Rg
open PySem PySem.Spec PyProof.Rows L2

def topS (i : Nat) : Stmt := PySem.Challenge.pw_rowgames_k21_machines_compared.main.body.getD i (.Pass ⟨0, 0, 0, 0⟩)
abbrev s_draw : Stmt := topS 32
theorem sc_draw : FnScope ["_law_pen_here", "_law_many", "_law_digit", "_law_at", "_law_cell", "_law_great", "_law_mixed"] ["_law_pen_here", "_law_many"] (defScope s_draw) := ⟨rfl, rfl, rfl, by decide +kernel, rfl, by decide +kernel, by decide +kernel⟩
abbrev s_isLetter : Stmt := topS 20
theorem sc_isLetter : FnScope ["thing"] ["thing"] (defScope s_isLetter) := ⟨rfl, rfl, rfl, by decide +kernel, rfl, by decide +kernel, by decide +kernel⟩
abbrev s_isRow : Stmt := topS 21
theorem sc_isRow : FnScope ["signs", "thing", "sign"] ["signs", "thing"] (defScope s_isRow) := ⟨rfl, rfl, rfl, by decide +kernel, rfl, by decide +kernel, by decide +kernel⟩
abbrev s_needRow : Stmt := topS 22
theorem sc_needRow : FnScope ["signs", "row", "at", "sign"] ["signs", "row"] (defScope s_needRow) := ⟨rfl, rfl, rfl, by decide +kernel, rfl, by decide +kernel, by decide +kernel⟩
abbrev s_isWhole : Stmt := topS 24
theorem sc_isWhole : FnScope ["thing", "least", "most"] ["thing", "least", "most"] (defScope s_isWhole) := ⟨rfl, rfl, rfl, by decide +kernel, rfl, by decide +kernel, by decide +kernel⟩
abbrev s_needSigns : Stmt := topS 27
theorem sc_needSigns : FnScope ["signs", "sign"] ["signs"] (defScope s_needSigns) := ⟨rfl, rfl, rfl, by decide +kernel, rfl, by decide +kernel, by decide +kernel⟩
abbrev s_isStep : Stmt := topS 28
theorem sc_isStep : FnScope ["thing", "many", "states", "state"] ["thing", "many", "states"] (defScope s_isStep) := ⟨rfl, rfl, rfl, by decide +kernel, rfl, by decide +kernel, by decide +kernel⟩
abbrev s_init : Stmt := inClass (topS 29) 0
theorem sc_init : FnScope ["self", "signs", "steps", "told", "step", "mark"] ["self", "signs", "steps", "told"] (defScope s_init) := ⟨rfl, rfl, rfl, by decide +kernel, rfl, by decide +kernel, by decide +kernel⟩
abbrev s_step : Stmt := inClass (topS 29) 7
theorem sc_step : FnScope ["self", "state", "text", "indexes", "sign", "at"] ["self", "state", "text"] (defScope s_step) := ⟨rfl, rfl, rfl, by decide +kernel, rfl, by decide +kernel, by decide +kernel⟩
abbrev s_state : Stmt := inClass (topS 29) 8
theorem sc_state : FnScope ["self", "row"] ["self", "row"] (defScope s_state) := ⟨rfl, rfl, rfl, by decide +kernel, rfl, by decide +kernel, by decide +kernel⟩
abbrev s_mlen : Stmt := inClass (topS 29) 16
theorem sc_mlen : FnScope ["self"] ["self"] (defScope s_mlen) := ⟨rfl, rfl, rfl, by decide +kernel, rfl, by decide +kernel, by decide +kernel⟩
abbrev s_mget : Stmt := inClass (topS 29) 17
theorem sc_mget : FnScope ["self", "row"] ["self", "row"] (defScope s_mget) := ⟨rfl, rfl, rfl, by decide +kernel, rfl, by decide +kernel, by decide +kernel⟩
abbrev s_mcon : Stmt := inClass (topS 29) 18
theorem sc_mcon : FnScope ["self", "thing"] ["self", "thing"] (defScope s_mcon) := ⟨rfl, rfl, rfl, by decide +kernel, rfl, by decide +kernel, by decide +kernel⟩
abbrev s_pen : Stmt := topS 31
theorem sc_pen : FnScope ["_law_script"] ["_law_script"] (defScope s_pen) := ⟨rfl, rfl, rfl, by decide +kernel, rfl, by decide +kernel, by decide +kernel⟩
abbrev s_pick : Stmt := topS 33
theorem sc_pick : FnScope ["_law_pen_here", "_law_some"] ["_law_pen_here", "_law_some"] (defScope s_pick) := ⟨rfl, rfl, rfl, by decide +kernel, rfl, by decide +kernel, by decide +kernel⟩
abbrev s_lets : Stmt := topS 34
theorem sc_lets : FnScope ["_law_pen_here"] ["_law_pen_here"] (defScope s_lets) := ⟨rfl, rfl, rfl, by decide +kernel, rfl, by decide +kernel, by decide +kernel⟩
abbrev s_plan : Stmt := topS 35
theorem sc_plan : FnScope ["_law_pen_here", "_law_letters_here", "_law_bound", "_law_many", "_law_table", "_law_spot", "_law_letter"] ["_law_pen_here", "_law_letters_here", "_law_bound"] (defScope s_plan) := ⟨rfl, rfl, rfl, by decide +kernel, rfl, by decide +kernel, by decide +kernel⟩
abbrev s_chosen : Stmt := topS 6
theorem sc_chosen : FnScope ["rule", "one", "other"] ["rule", "one", "other"] (defScope s_chosen) := ⟨rfl, rfl, rfl, by decide +kernel, rfl, by decide +kernel, by decide +kernel⟩
abbrev s_joined : Stmt := topS 7
theorem sc_joined : FnScope ["one", "other", "rule", "pairs", "numbers", "steps", "at", "mine", "others", "row", "pair"] ["one", "other", "rule"] (defScope s_joined) := ⟨rfl, rfl, rfl, by decide +kernel, rfl, by decide +kernel, by decide +kernel⟩
abbrev s_firstRow : Stmt := topS 8
theorem sc_firstRow : FnScope ["signs", "steps", "told", "rows", "known", "at", "row", "state", "sign", "later"] ["signs", "steps", "told"] (defScope s_firstRow) := ⟨rfl, rfl, rfl, by decide +kernel, rfl, by decide +kernel, by decide +kernel⟩
abbrev s_mwithForm : Stmt := inClass (topS 29) 9
theorem sc_mwithForm : FnScope ["self", "form"] ["self", "form"] (defScope s_mwithForm) := ⟨rfl, rfl, rfl, by decide +kernel, rfl, by decide +kernel, by decide +kernel⟩
abbrev s_mwithOther : Stmt := inClass (topS 29) 10
theorem sc_mwithOther : FnScope ["self", "other", "rule"] ["self", "other", "rule"] (defScope s_mwithOther) := ⟨rfl, rfl, rfl, by decide +kernel, rfl, by decide +kernel, by decide +kernel⟩
abbrev s_mfirst : Stmt := inClass (topS 29) 12
theorem sc_mfirst : FnScope ["self"] ["self"] (defScope s_mfirst) := ⟨rfl, rfl, rfl, by decide +kernel, rfl, by decide +kernel, by decide +kernel⟩
abbrev s_msub : Stmt := inClass (topS 29) 24
theorem sc_msub : FnScope ["self", "other"] ["self", "other"] (defScope s_msub) := ⟨rfl, rfl, rfl, by decide +kernel, rfl, by decide +kernel, by decide +kernel⟩
abbrev s_mxor : Stmt := inClass (topS 29) 23
theorem sc_mxor : FnScope ["self", "other"] ["self", "other"] (defScope s_mxor) := ⟨rfl, rfl, rfl, by decide +kernel, rfl, by decide +kernel, by decide +kernel⟩
abbrev s_mbool : Stmt := inClass (topS 29) 25
theorem sc_mbool : FnScope ["self"] ["self"] (defScope s_mbool) := ⟨rfl, rfl, rfl, by decide +kernel, rfl, by decide +kernel, by decide +kernel⟩
abbrev s_mle : Stmt := inClass (topS 29) 26
theorem sc_mle : FnScope ["self", "other"] ["self", "other"] (defScope s_mle) := ⟨rfl, rfl, rfl, by decide +kernel, rfl, by decide +kernel, by decide +kernel⟩
abbrev s_mlt : Stmt := inClass (topS 29) 27
theorem sc_mlt : FnScope ["self", "other"] ["self", "other"] (defScope s_mlt) := ⟨rfl, rfl, rfl, by decide +kernel, rfl, by decide +kernel, by decide +kernel⟩
abbrev s_mge : Stmt := inClass (topS 29) 28
theorem sc_mge : FnScope ["self", "other"] ["self", "other"] (defScope s_mge) := ⟨rfl, rfl, rfl, by decide +kernel, rfl, by decide +kernel, by decide +kernel⟩
abbrev s_mgt : Stmt := inClass (topS 29) 29
theorem sc_mgt : FnScope ["self", "other"] ["self", "other"] (defScope s_mgt) := ⟨rfl, rfl, rfl, by decide +kernel, rfl, by decide +kernel, by decide +kernel⟩
abbrev s_meq : Stmt := inClass (topS 29) 30
theorem sc_meq : FnScope ["self", "other"] ["self", "other"] (defScope s_meq) := ⟨rfl, rfl, rfl, by decide +kernel, rfl, by decide +kernel, by decide +kernel⟩
abbrev s_pairs : Stmt := topS 36
theorem sc_pairs : FnScope ["_law_letters_here", "_law_first", "_law_second_here", "_law_found", "_law_turn", "_law_one", "_law_other", "_law_more", "_law_at", "_law_k", "_law_pair"] ["_law_letters_here", "_law_first", "_law_second_here"] (defScope s_pairs) := ⟨rfl, rfl, rfl, by decide +kernel, rfl, by decide +kernel, by decide +kernel⟩
abbrev s_double : Stmt := topS 37
theorem sc_double : FnScope ["_law_pen_here", "_law_plan_here", "_law_many", "_law_table", "_law_line", "_law_goal"] ["_law_pen_here", "_law_plan_here"] (defScope s_double) := ⟨rfl, rfl, rfl, by decide +kernel, rfl, by decide +kernel, by decide +kernel⟩
abbrev s_second : Stmt := topS 38
theorem sc_second : FnScope ["_law_pen_here", "_law_letters_here", "_law_first", "_law_turn", "_law_made", "_law_at"] ["_law_pen_here", "_law_letters_here", "_law_first"] (defScope s_second) := ⟨rfl, rfl, rfl, by decide +kernel, rfl, by decide +kernel, by decide +kernel⟩
abbrev s_right : Stmt := topS 39
theorem sc_right : FnScope ["_law_letters_here", "_law_first", "_law_second_here", "_law_one", "_law_other", "_law_pairs_here", "_law_below", "_law_above", "_law_heard", "_law_due", "_law_told", "_law_mine", "_law_others"] ["_law_letters_here", "_law_first", "_law_second_here"] (defScope s_right) := ⟨rfl, rfl, rfl, by decide +kernel, rfl, by decide +kernel, by decide +kernel⟩
abbrev s_law : Stmt := topS 40
theorem sc_law : FnScope ["_law_script", "_law_pen_here", "_law_turn", "_law_letters_here", "_law_first", "_law_second_here"] ["_law_script"] (defScope s_law) := ⟨rfl, rfl, rfl, by decide +kernel, rfl, by decide +kernel, by decide +kernel⟩
abbrev a_Machine (K : PySem.W.Frag) : Addr := He.ga K "Machine"
structure Tx (K : PySem.W.Frag) (mg : Str → Option Value) : Prop where
  f_len : mg "len" = none
  f_int : mg "int" = none
  f_abs : mg "abs" = none
  f_isinstance : mg "isinstance" = none
  f_str : mg "str" = none
  f_bool : mg "bool" = none
  f_list : mg "list" = none
  f_tuple : mg "tuple" = none
  f_all : mg "all" = none
  f_enumerate : mg "enumerate" = none
  f_range : mg "range" = none
  f_set : mg "set" = none
  f_repr : mg "repr" = none
  f_zip : mg "zip" = none
  g_LETTERS : ∃ u, mg "LETTERS" = some u ∧ RelV (.str "abcdefghijklmnopqrstuvwxyz") u
  g_MOST_SIGNS : ∃ u, mg "MOST_SIGNS" = some u ∧ RelV (.int 4) u
  g_Machine : mg "Machine" = some (.ref (a_Machine K))
  cl_Machine : Cls K (a_Machine K)
  mk_Machine : Mk K (a_Machine K) (He.ma K (a_Machine K) "__init__")
  n_Machine_signs : NoAttr K (a_Machine K) "signs"
  n_Machine_steps : NoAttr K (a_Machine K) "steps"
  n_Machine_told : NoAttr K (a_Machine K) "told"
  g_draw : mg "_law_draw" = some (.ref (He.ga K "_law_draw"))
  d_draw : ∃ fd, FunD K "_law_draw" "_law_draw" (defArgs s_draw) (defBody s_draw) (defScope s_draw) [] [] (He.ga K "_law_draw") fd
  g_isLetter : mg "is_letter" = some (.ref (He.ga K "is_letter"))
  d_isLetter : ∃ fd, FunD K "is_letter" "is_letter" (defArgs s_isLetter) (defBody s_isLetter) (defScope s_isLetter) [] [] (He.ga K "is_letter") fd
  g_isRow : mg "is_row" = some (.ref (He.ga K "is_row"))
  d_isRow : ∃ fd, FunD K "is_row" "is_row" (defArgs s_isRow) (defBody s_isRow) (defScope s_isRow) [] [] (He.ga K "is_row") fd
  g_needRow : mg "need_row" = some (.ref (He.ga K "need_row"))
  d_needRow : ∃ fd, FunD K "need_row" "need_row" (defArgs s_needRow) (defBody s_needRow) (defScope s_needRow) [] [] (He.ga K "need_row") fd
  g_isWhole : mg "is_whole" = some (.ref (He.ga K "is_whole"))
  d_isWhole : ∃ fd, FunD K "is_whole" "is_whole" (defArgs s_isWhole) (defBody s_isWhole) (defScope s_isWhole) [.non] [] (He.ga K "is_whole") fd
  g_needSigns : mg "need_signs" = some (.ref (He.ga K "need_signs"))
  d_needSigns : ∃ fd, FunD K "need_signs" "need_signs" (defArgs s_needSigns) (defBody s_needSigns) (defScope s_needSigns) [] [] (He.ga K "need_signs") fd
  g_isStep : mg "is_step" = some (.ref (He.ga K "is_step"))
  d_isStep : ∃ fd, FunD K "is_step" "is_step" (defArgs s_isStep) (defBody s_isStep) (defScope s_isStep) [] [] (He.ga K "is_step") fd
  d_init : ∃ fd, FunD K "__init__" "Machine.__init__" (defArgs s_init) (defBody s_init) (defScope s_init) [] [] (He.ma K (a_Machine K) "__init__") fd
  m_step : Meth K (a_Machine K) "step" (He.ma K (a_Machine K) "step")
  d_step : ∃ fd, FunD K "step" "Machine.step" (defArgs s_step) (defBody s_step) (defScope s_step) [] [] (He.ma K (a_Machine K) "step") fd
  m_state : Meth K (a_Machine K) "state" (He.ma K (a_Machine K) "state")
  d_state : ∃ fd, FunD K "state" "Machine.state" (defArgs s_state) (defBody s_state) (defScope s_state) [] [] (He.ma K (a_Machine K) "state") fd
  m_mlen : Meth K (a_Machine K) "__len__" (He.ma K (a_Machine K) "__len__")
  d_mlen : ∃ fd, FunD K "__len__" "Machine.__len__" (defArgs s_mlen) (defBody s_mlen) (defScope s_mlen) [] [] (He.ma K (a_Machine K) "__len__") fd
  m_mget : Meth K (a_Machine K) "__getitem__" (He.ma K (a_Machine K) "__getitem__")
  d_mget : ∃ fd, FunD K "__getitem__" "Machine.__getitem__" (defArgs s_mget) (defBody s_mget) (defScope s_mget) [] [] (He.ma K (a_Machine K) "__getitem__") fd
  m_mcon : Meth K (a_Machine K) "__contains__" (He.ma K (a_Machine K) "__contains__")
  d_mcon : ∃ fd, FunD K "__contains__" "Machine.__contains__" (defArgs s_mcon) (defBody s_mcon) (defScope s_mcon) [] [] (He.ma K (a_Machine K) "__contains__") fd
  g_pen : mg "_law_pen" = some (.ref (He.ga K "_law_pen"))
  d_pen : ∃ fd, FunD K "_law_pen" "_law_pen" (defArgs s_pen) (defBody s_pen) (defScope s_pen) [] [] (He.ga K "_law_pen") fd
  g_pick : mg "_law_pick" = some (.ref (He.ga K "_law_pick"))
  d_pick : ∃ fd, FunD K "_law_pick" "_law_pick" (defArgs s_pick) (defBody s_pick) (defScope s_pick) [] [] (He.ga K "_law_pick") fd
  g_lets : mg "_law_letters" = some (.ref (He.ga K "_law_letters"))
  d_lets : ∃ fd, FunD K "_law_letters" "_law_letters" (defArgs s_lets) (defBody s_lets) (defScope s_lets) [] [] (He.ga K "_law_letters") fd
  g_plan : mg "_law_plan" = some (.ref (He.ga K "_law_plan"))
  d_plan : ∃ fd, FunD K "_law_plan" "_law_plan" (defArgs s_plan) (defBody s_plan) (defScope s_plan) [] [] (He.ga K "_law_plan") fd
  g_chosen : mg "is_chosen" = some (.ref (He.ga K "is_chosen"))
  d_chosen : ∃ fd, FunD K "is_chosen" "is_chosen" (defArgs s_chosen) (defBody s_chosen) (defScope s_chosen) [] [] (He.ga K "is_chosen") fd
  g_joined : mg "joined" = some (.ref (He.ga K "joined"))
  d_joined : ∃ fd, FunD K "joined" "joined" (defArgs s_joined) (defBody s_joined) (defScope s_joined) [] [] (He.ga K "joined") fd
  g_firstRow : mg "first_row" = some (.ref (He.ga K "first_row"))
  d_firstRow : ∃ fd, FunD K "first_row" "first_row" (defArgs s_firstRow) (defBody s_firstRow) (defScope s_firstRow) [] [] (He.ga K "first_row") fd
  m_mwithForm : Meth K (a_Machine K) "with_form" (He.ma K (a_Machine K) "with_form")
  d_mwithForm : ∃ fd, FunD K "with_form" "Machine.with_form" (defArgs s_mwithForm) (defBody s_mwithForm) (defScope s_mwithForm) [] [] (He.ma K (a_Machine K) "with_form") fd
  m_mwithOther : Meth K (a_Machine K) "with_other" (He.ma K (a_Machine K) "with_other")
  d_mwithOther : ∃ fd, FunD K "with_other" "Machine.with_other" (defArgs s_mwithOther) (defBody s_mwithOther) (defScope s_mwithOther) [] [] (He.ma K (a_Machine K) "with_other") fd
  m_mfirst : Meth K (a_Machine K) "first" (He.ma K (a_Machine K) "first")
  d_mfirst : ∃ fd, FunD K "first" "Machine.first" (defArgs s_mfirst) (defBody s_mfirst) (defScope s_mfirst) [] [] (He.ma K (a_Machine K) "first") fd
  m_msub : Meth K (a_Machine K) "__sub__" (He.ma K (a_Machine K) "__sub__")
  d_msub : ∃ fd, FunD K "__sub__" "Machine.__sub__" (defArgs s_msub) (defBody s_msub) (defScope s_msub) [] [] (He.ma K (a_Machine K) "__sub__") fd
  m_mxor : Meth K (a_Machine K) "__xor__" (He.ma K (a_Machine K) "__xor__")
  d_mxor : ∃ fd, FunD K "__xor__" "Machine.__xor__" (defArgs s_mxor) (defBody s_mxor) (defScope s_mxor) [] [] (He.ma K (a_Machine K) "__xor__") fd
  m_mbool : Meth K (a_Machine K) "__bool__" (He.ma K (a_Machine K) "__bool__")
  d_mbool : ∃ fd, FunD K "__bool__" "Machine.__bool__" (defArgs s_mbool) (defBody s_mbool) (defScope s_mbool) [] [] (He.ma K (a_Machine K) "__bool__") fd
  m_mle : Meth K (a_Machine K) "__le__" (He.ma K (a_Machine K) "__le__")
  d_mle : ∃ fd, FunD K "__le__" "Machine.__le__" (defArgs s_mle) (defBody s_mle) (defScope s_mle) [] [] (He.ma K (a_Machine K) "__le__") fd
  m_mlt : Meth K (a_Machine K) "__lt__" (He.ma K (a_Machine K) "__lt__")
  d_mlt : ∃ fd, FunD K "__lt__" "Machine.__lt__" (defArgs s_mlt) (defBody s_mlt) (defScope s_mlt) [] [] (He.ma K (a_Machine K) "__lt__") fd
  m_mge : Meth K (a_Machine K) "__ge__" (He.ma K (a_Machine K) "__ge__")
  d_mge : ∃ fd, FunD K "__ge__" "Machine.__ge__" (defArgs s_mge) (defBody s_mge) (defScope s_mge) [] [] (He.ma K (a_Machine K) "__ge__") fd
  m_mgt : Meth K (a_Machine K) "__gt__" (He.ma K (a_Machine K) "__gt__")
  d_mgt : ∃ fd, FunD K "__gt__" "Machine.__gt__" (defArgs s_mgt) (defBody s_mgt) (defScope s_mgt) [] [] (He.ma K (a_Machine K) "__gt__") fd
  m_meq : Meth K (a_Machine K) "__eq__" (He.ma K (a_Machine K) "__eq__")
  d_meq : ∃ fd, FunD K "__eq__" "Machine.__eq__" (defArgs s_meq) (defBody s_meq) (defScope s_meq) [] [] (He.ma K (a_Machine K) "__eq__") fd
  g_pairs : mg "_law_pairs" = some (.ref (He.ga K "_law_pairs"))
  d_pairs : ∃ fd, FunD K "_law_pairs" "_law_pairs" (defArgs s_pairs) (defBody s_pairs) (defScope s_pairs) [] [] (He.ga K "_law_pairs") fd
  g_double : mg "_law_double" = some (.ref (He.ga K "_law_double"))
  d_double : ∃ fd, FunD K "_law_double" "_law_double" (defArgs s_double) (defBody s_double) (defScope s_double) [] [] (He.ga K "_law_double") fd
  g_second : mg "_law_second" = some (.ref (He.ga K "_law_second"))
  d_second : ∃ fd, FunD K "_law_second" "_law_second" (defArgs s_second) (defBody s_second) (defScope s_second) [] [] (He.ga K "_law_second") fd
  g_right : mg "_law_right" = some (.ref (He.ga K "_law_right"))
  d_right : ∃ fd, FunD K "_law_right" "_law_right" (defArgs s_right) (defBody s_right) (defScope s_right) [] [] (He.ga K "_law_right") fd
  g_law : mg "law" = some (.ref (He.ga K "law"))
  d_law : ∃ fd, FunD K "law" "law" (defArgs s_law) (defBody s_law) (defScope s_law) [] [] (He.ga K "law") fd
  getIn : PySem.W.fnIn K (He.ma K (a_Machine K) "__getitem__") = true
  first_Machine : PySem.W.selfFirst K (a_Machine K) = true
  neB : He.eqO (PySem.W.findIn K (.ref (a_Machine K)) "__ne__") (some (some (.builtin "object.__ne__"))) = true
  obB : decide (PySem.W.mroIn K (a_Machine K) (.type "object") = some true) = true
  caB : He.eqO (PySem.W.findIn K (.ref (a_Machine K)) "__class__") (some (some (.builtin "object.__class__"))) = true
  cnB : He.eqO (PySem.W.specialIn K (.builtin "object.__class__") "__get__") (some (some (.builtin "getset_descriptor.__get__"))) = true
  ctB : decide (PySem.W.takesIn K (.builtin "object.__class__") = some true) = true
  kiM : decide (PySem.W.kitOne K (.ref (a_Machine K)) (.ref (a_Machine K)) = some true) = true
  kiO : ((["NoneType", "str", "tuple", "list", "int", "bool"] : List String).all fun n => decide (PySem.W.kitOne K (.type n) (.ref (a_Machine K)) = some false)) = true
  nfM : PySem.W.notFirst K (a_Machine K) (.ref (a_Machine K)) = true
  nfO : ((["NoneType", "str", "tuple", "list", "int", "bool"] : List String).all fun n => PySem.W.notFirst K (a_Machine K) (.type n)) = true
section
variable {P : Program} {w : World} {K : PySem.W.Frag} {mg : Str → Option Value} {base : Heap}
theorem c_draw {k : Nat} {sp : Sp} (T : Tx K mg) (h : ∀ fd, FunD K "_law_draw" "_law_draw" (defArgs s_draw) (defBody s_draw) (defScope s_draw) [] [] (He.ga K "_law_draw") fd → FnOk P w K mg base CX0 k (He.ga K "_law_draw") fd ["_law_pen_here", "_law_many"] sp) : CalX P w K mg base CX0 k "_law_draw" sp := by
  obtain ⟨fd, F⟩ := T.d_draw
  exact ⟨_, fd, _, h fd F, T.g_draw, F.kp, F.bindsN fun _ _ _ _ _ _ us hl => match us, hl with | [_, _], _ => rfl⟩
theorem c_isLetter {k : Nat} {sp : Sp} (T : Tx K mg) (h : ∀ fd, FunD K "is_letter" "is_letter" (defArgs s_isLetter) (defBody s_isLetter) (defScope s_isLetter) [] [] (He.ga K "is_letter") fd → FnOk P w K mg base CX0 k (He.ga K "is_letter") fd ["thing"] sp) : CalX P w K mg base CX0 k "is_letter" sp := by
  obtain ⟨fd, F⟩ := T.d_isLetter
  exact ⟨_, fd, _, h fd F, T.g_isLetter, F.kp, F.bindsN fun _ _ _ _ _ _ us hl => match us, hl with | [_], _ => rfl⟩
theorem c_isRow {k : Nat} {sp : Sp} (T : Tx K mg) (h : ∀ fd, FunD K "is_row" "is_row" (defArgs s_isRow) (defBody s_isRow) (defScope s_isRow) [] [] (He.ga K "is_row") fd → FnOk P w K mg base CX0 k (He.ga K "is_row") fd ["signs", "thing"] sp) : CalX P w K mg base CX0 k "is_row" sp := by
  obtain ⟨fd, F⟩ := T.d_isRow
  exact ⟨_, fd, _, h fd F, T.g_isRow, F.kp, F.bindsN fun _ _ _ _ _ _ us hl => match us, hl with | [_, _], _ => rfl⟩
theorem c_needRow {k : Nat} {sp : Sp} (T : Tx K mg) (h : ∀ fd, FunD K "need_row" "need_row" (defArgs s_needRow) (defBody s_needRow) (defScope s_needRow) [] [] (He.ga K "need_row") fd → FnOk P w K mg base CX0 k (He.ga K "need_row") fd ["signs", "row"] sp) : CalX P w K mg base CX0 k "need_row" sp := by
  obtain ⟨fd, F⟩ := T.d_needRow
  exact ⟨_, fd, _, h fd F, T.g_needRow, F.kp, F.bindsN fun _ _ _ _ _ _ us hl => match us, hl with | [_, _], _ => rfl⟩
theorem c_needSigns {k : Nat} {sp : Sp} (T : Tx K mg) (h : ∀ fd, FunD K "need_signs" "need_signs" (defArgs s_needSigns) (defBody s_needSigns) (defScope s_needSigns) [] [] (He.ga K "need_signs") fd → FnOk P w K mg base CX0 k (He.ga K "need_signs") fd ["signs"] sp) : CalX P w K mg base CX0 k "need_signs" sp := by
  obtain ⟨fd, F⟩ := T.d_needSigns
  exact ⟨_, fd, _, h fd F, T.g_needSigns, F.kp, F.bindsN fun _ _ _ _ _ _ us hl => match us, hl with | [_], _ => rfl⟩
theorem c_isStep {k : Nat} {sp : Sp} (T : Tx K mg) (h : ∀ fd, FunD K "is_step" "is_step" (defArgs s_isStep) (defBody s_isStep) (defScope s_isStep) [] [] (He.ga K "is_step") fd → FnOk P w K mg base CX0 k (He.ga K "is_step") fd ["thing", "many", "states"] sp) : CalX P w K mg base CX0 k "is_step" sp := by
  obtain ⟨fd, F⟩ := T.d_isStep
  exact ⟨_, fd, _, h fd F, T.g_isStep, F.kp, F.bindsN fun _ _ _ _ _ _ us hl => match us, hl with | [_, _, _], _ => rfl⟩
theorem b_init (T : Tx K mg) {fd : FuncData} (F : FunD K "__init__" "Machine.__init__" (defArgs s_init) (defBody s_init) (defScope s_init) [] [] (He.ma K (a_Machine K) "__init__") fd) : Binds K fd ["self", "signs", "steps", "told"] [] := F.bindsN fun _ _ _ _ _ _ us hl => match us, hl with | [_, _, _, _], _ => rfl
theorem c_step {k : Nat} {sp : Sp} (T : Tx K mg) (h : ∀ fd, FunD K "step" "Machine.step" (defArgs s_step) (defBody s_step) (defScope s_step) [] [] (He.ma K (a_Machine K) "step") fd → FnOk P w K mg base CX0 k (He.ma K (a_Machine K) "step") fd ["self", "state", "text"] sp) : MetX P w K mg base CX0 k (a_Machine K) "step" sp := by
  obtain ⟨fd, F⟩ := T.d_step
  exact ⟨_, fd, _, T.m_step, h fd F, F.bindsN fun _ _ _ _ _ _ us hl => match us, hl with | [_, _, _], _ => rfl⟩
theorem c_state {k : Nat} {sp : Sp} (T : Tx K mg) (h : ∀ fd, FunD K "state" "Machine.state" (defArgs s_state) (defBody s_state) (defScope s_state) [] [] (He.ma K (a_Machine K) "state") fd → FnOk P w K mg base CX0 k (He.ma K (a_Machine K) "state") fd ["self", "row"] sp) : MetX P w K mg base CX0 k (a_Machine K) "state" sp := by
  obtain ⟨fd, F⟩ := T.d_state
  exact ⟨_, fd, _, T.m_state, h fd F, F.bindsN fun _ _ _ _ _ _ us hl => match us, hl with | [_, _], _ => rfl⟩
theorem c_mlen {k : Nat} {sp : Sp} (T : Tx K mg) (h : ∀ fd, FunD K "__len__" "Machine.__len__" (defArgs s_mlen) (defBody s_mlen) (defScope s_mlen) [] [] (He.ma K (a_Machine K) "__len__") fd → FnOk P w K mg base CX0 k (He.ma K (a_Machine K) "__len__") fd ["self"] sp) : MetX P w K mg base CX0 k (a_Machine K) "__len__" sp := by
  obtain ⟨fd, F⟩ := T.d_mlen
  exact ⟨_, fd, _, T.m_mlen, h fd F, F.bindsN fun _ _ _ _ _ _ us hl => match us, hl with | [_], _ => rfl⟩
theorem c_mget {k : Nat} {sp : Sp} (T : Tx K mg) (h : ∀ fd, FunD K "__getitem__" "Machine.__getitem__" (defArgs s_mget) (defBody s_mget) (defScope s_mget) [] [] (He.ma K (a_Machine K) "__getitem__") fd → FnOk P w K mg base CX0 k (He.ma K (a_Machine K) "__getitem__") fd ["self", "row"] sp) : MetX P w K mg base CX0 k (a_Machine K) "__getitem__" sp := by
  obtain ⟨fd, F⟩ := T.d_mget
  exact ⟨_, fd, _, T.m_mget, h fd F, F.bindsN fun _ _ _ _ _ _ us hl => match us, hl with | [_, _], _ => rfl⟩
theorem c_mcon {k : Nat} {sp : Sp} (T : Tx K mg) (h : ∀ fd, FunD K "__contains__" "Machine.__contains__" (defArgs s_mcon) (defBody s_mcon) (defScope s_mcon) [] [] (He.ma K (a_Machine K) "__contains__") fd → FnOk P w K mg base CX0 k (He.ma K (a_Machine K) "__contains__") fd ["self", "thing"] sp) : MetX P w K mg base CX0 k (a_Machine K) "__contains__" sp := by
  obtain ⟨fd, F⟩ := T.d_mcon
  exact ⟨_, fd, _, T.m_mcon, h fd F, F.bindsN fun _ _ _ _ _ _ us hl => match us, hl with | [_, _], _ => rfl⟩
theorem c_pen {k : Nat} {sp : Sp} (T : Tx K mg) (h : ∀ fd, FunD K "_law_pen" "_law_pen" (defArgs s_pen) (defBody s_pen) (defScope s_pen) [] [] (He.ga K "_law_pen") fd → FnOk P w K mg base CX0 k (He.ga K "_law_pen") fd ["_law_script"] sp) : CalX P w K mg base CX0 k "_law_pen" sp := by
  obtain ⟨fd, F⟩ := T.d_pen
  exact ⟨_, fd, _, h fd F, T.g_pen, F.kp, F.bindsN fun _ _ _ _ _ _ us hl => match us, hl with | [_], _ => rfl⟩
theorem c_pick {k : Nat} {sp : Sp} (T : Tx K mg) (h : ∀ fd, FunD K "_law_pick" "_law_pick" (defArgs s_pick) (defBody s_pick) (defScope s_pick) [] [] (He.ga K "_law_pick") fd → FnOk P w K mg base CX0 k (He.ga K "_law_pick") fd ["_law_pen_here", "_law_some"] sp) : CalX P w K mg base CX0 k "_law_pick" sp := by
  obtain ⟨fd, F⟩ := T.d_pick
  exact ⟨_, fd, _, h fd F, T.g_pick, F.kp, F.bindsN fun _ _ _ _ _ _ us hl => match us, hl with | [_, _], _ => rfl⟩
theorem c_lets {k : Nat} {sp : Sp} (T : Tx K mg) (h : ∀ fd, FunD K "_law_letters" "_law_letters" (defArgs s_lets) (defBody s_lets) (defScope s_lets) [] [] (He.ga K "_law_letters") fd → FnOk P w K mg base CX0 k (He.ga K "_law_letters") fd ["_law_pen_here"] sp) : CalX P w K mg base CX0 k "_law_letters" sp := by
  obtain ⟨fd, F⟩ := T.d_lets
  exact ⟨_, fd, _, h fd F, T.g_lets, F.kp, F.bindsN fun _ _ _ _ _ _ us hl => match us, hl with | [_], _ => rfl⟩
theorem c_plan {k : Nat} {sp : Sp} (T : Tx K mg) (h : ∀ fd, FunD K "_law_plan" "_law_plan" (defArgs s_plan) (defBody s_plan) (defScope s_plan) [] [] (He.ga K "_law_plan") fd → FnOk P w K mg base CX0 k (He.ga K "_law_plan") fd ["_law_pen_here", "_law_letters_here", "_law_bound"] sp) : CalX P w K mg base CX0 k "_law_plan" sp := by
  obtain ⟨fd, F⟩ := T.d_plan
  exact ⟨_, fd, _, h fd F, T.g_plan, F.kp, F.bindsN fun _ _ _ _ _ _ us hl => match us, hl with | [_, _, _], _ => rfl⟩
theorem c_chosen {k : Nat} {sp : Sp} (T : Tx K mg) (h : ∀ fd, FunD K "is_chosen" "is_chosen" (defArgs s_chosen) (defBody s_chosen) (defScope s_chosen) [] [] (He.ga K "is_chosen") fd → FnOk P w K mg base CX0 k (He.ga K "is_chosen") fd ["rule", "one", "other"] sp) : CalX P w K mg base CX0 k "is_chosen" sp := by
  obtain ⟨fd, F⟩ := T.d_chosen
  exact ⟨_, fd, _, h fd F, T.g_chosen, F.kp, F.bindsN fun _ _ _ _ _ _ us hl => match us, hl with | [_, _, _], _ => rfl⟩
theorem c_joined {k : Nat} {sp : Sp} (T : Tx K mg) (h : ∀ fd, FunD K "joined" "joined" (defArgs s_joined) (defBody s_joined) (defScope s_joined) [] [] (He.ga K "joined") fd → FnOk P w K mg base CX0 k (He.ga K "joined") fd ["one", "other", "rule"] sp) : CalX P w K mg base CX0 k "joined" sp := by
  obtain ⟨fd, F⟩ := T.d_joined
  exact ⟨_, fd, _, h fd F, T.g_joined, F.kp, F.bindsN fun _ _ _ _ _ _ us hl => match us, hl with | [_, _, _], _ => rfl⟩
theorem c_firstRow {k : Nat} {sp : Sp} (T : Tx K mg) (h : ∀ fd, FunD K "first_row" "first_row" (defArgs s_firstRow) (defBody s_firstRow) (defScope s_firstRow) [] [] (He.ga K "first_row") fd → FnOk P w K mg base CX0 k (He.ga K "first_row") fd ["signs", "steps", "told"] sp) : CalX P w K mg base CX0 k "first_row" sp := by
  obtain ⟨fd, F⟩ := T.d_firstRow
  exact ⟨_, fd, _, h fd F, T.g_firstRow, F.kp, F.bindsN fun _ _ _ _ _ _ us hl => match us, hl with | [_, _, _], _ => rfl⟩
theorem c_mwithForm {k : Nat} {sp : Sp} (T : Tx K mg) (h : ∀ fd, FunD K "with_form" "Machine.with_form" (defArgs s_mwithForm) (defBody s_mwithForm) (defScope s_mwithForm) [] [] (He.ma K (a_Machine K) "with_form") fd → FnOk P w K mg base CX0 k (He.ma K (a_Machine K) "with_form") fd ["self", "form"] sp) : MetX P w K mg base CX0 k (a_Machine K) "with_form" sp := by
  obtain ⟨fd, F⟩ := T.d_mwithForm
  exact ⟨_, fd, _, T.m_mwithForm, h fd F, F.bindsN fun _ _ _ _ _ _ us hl => match us, hl with | [_, _], _ => rfl⟩
theorem c_mwithOther {k : Nat} {sp : Sp} (T : Tx K mg) (h : ∀ fd, FunD K "with_other" "Machine.with_other" (defArgs s_mwithOther) (defBody s_mwithOther) (defScope s_mwithOther) [] [] (He.ma K (a_Machine K) "with_other") fd → FnOk P w K mg base CX0 k (He.ma K (a_Machine K) "with_other") fd ["self", "other", "rule"] sp) : MetX P w K mg base CX0 k (a_Machine K) "with_other" sp := by
  obtain ⟨fd, F⟩ := T.d_mwithOther
  exact ⟨_, fd, _, T.m_mwithOther, h fd F, F.bindsN fun _ _ _ _ _ _ us hl => match us, hl with | [_, _, _], _ => rfl⟩
theorem c_mfirst {k : Nat} {sp : Sp} (T : Tx K mg) (h : ∀ fd, FunD K "first" "Machine.first" (defArgs s_mfirst) (defBody s_mfirst) (defScope s_mfirst) [] [] (He.ma K (a_Machine K) "first") fd → FnOk P w K mg base CX0 k (He.ma K (a_Machine K) "first") fd ["self"] sp) : MetX P w K mg base CX0 k (a_Machine K) "first" sp := by
  obtain ⟨fd, F⟩ := T.d_mfirst
  exact ⟨_, fd, _, T.m_mfirst, h fd F, F.bindsN fun _ _ _ _ _ _ us hl => match us, hl with | [_], _ => rfl⟩
theorem c_msub {k : Nat} {sp : Sp} (T : Tx K mg) (h : ∀ fd, FunD K "__sub__" "Machine.__sub__" (defArgs s_msub) (defBody s_msub) (defScope s_msub) [] [] (He.ma K (a_Machine K) "__sub__") fd → FnOk P w K mg base CX0 k (He.ma K (a_Machine K) "__sub__") fd ["self", "other"] sp) : MetX P w K mg base CX0 k (a_Machine K) "__sub__" sp := by
  obtain ⟨fd, F⟩ := T.d_msub
  exact ⟨_, fd, _, T.m_msub, h fd F, F.bindsN fun _ _ _ _ _ _ us hl => match us, hl with | [_, _], _ => rfl⟩
theorem c_mxor {k : Nat} {sp : Sp} (T : Tx K mg) (h : ∀ fd, FunD K "__xor__" "Machine.__xor__" (defArgs s_mxor) (defBody s_mxor) (defScope s_mxor) [] [] (He.ma K (a_Machine K) "__xor__") fd → FnOk P w K mg base CX0 k (He.ma K (a_Machine K) "__xor__") fd ["self", "other"] sp) : MetX P w K mg base CX0 k (a_Machine K) "__xor__" sp := by
  obtain ⟨fd, F⟩ := T.d_mxor
  exact ⟨_, fd, _, T.m_mxor, h fd F, F.bindsN fun _ _ _ _ _ _ us hl => match us, hl with | [_, _], _ => rfl⟩
theorem c_mbool {k : Nat} {sp : Sp} (T : Tx K mg) (h : ∀ fd, FunD K "__bool__" "Machine.__bool__" (defArgs s_mbool) (defBody s_mbool) (defScope s_mbool) [] [] (He.ma K (a_Machine K) "__bool__") fd → FnOk P w K mg base CX0 k (He.ma K (a_Machine K) "__bool__") fd ["self"] sp) : MetX P w K mg base CX0 k (a_Machine K) "__bool__" sp := by
  obtain ⟨fd, F⟩ := T.d_mbool
  exact ⟨_, fd, _, T.m_mbool, h fd F, F.bindsN fun _ _ _ _ _ _ us hl => match us, hl with | [_], _ => rfl⟩
theorem c_mle {k : Nat} {sp : Sp} (T : Tx K mg) (h : ∀ fd, FunD K "__le__" "Machine.__le__" (defArgs s_mle) (defBody s_mle) (defScope s_mle) [] [] (He.ma K (a_Machine K) "__le__") fd → FnOk P w K mg base CX0 k (He.ma K (a_Machine K) "__le__") fd ["self", "other"] sp) : MetX P w K mg base CX0 k (a_Machine K) "__le__" sp := by
  obtain ⟨fd, F⟩ := T.d_mle
  exact ⟨_, fd, _, T.m_mle, h fd F, F.bindsN fun _ _ _ _ _ _ us hl => match us, hl with | [_, _], _ => rfl⟩
theorem c_mlt {k : Nat} {sp : Sp} (T : Tx K mg) (h : ∀ fd, FunD K "__lt__" "Machine.__lt__" (defArgs s_mlt) (defBody s_mlt) (defScope s_mlt) [] [] (He.ma K (a_Machine K) "__lt__") fd → FnOk P w K mg base CX0 k (He.ma K (a_Machine K) "__lt__") fd ["self", "other"] sp) : MetX P w K mg base CX0 k (a_Machine K) "__lt__" sp := by
  obtain ⟨fd, F⟩ := T.d_mlt
  exact ⟨_, fd, _, T.m_mlt, h fd F, F.bindsN fun _ _ _ _ _ _ us hl => match us, hl with | [_, _], _ => rfl⟩
theorem c_mge {k : Nat} {sp : Sp} (T : Tx K mg) (h : ∀ fd, FunD K "__ge__" "Machine.__ge__" (defArgs s_mge) (defBody s_mge) (defScope s_mge) [] [] (He.ma K (a_Machine K) "__ge__") fd → FnOk P w K mg base CX0 k (He.ma K (a_Machine K) "__ge__") fd ["self", "other"] sp) : MetX P w K mg base CX0 k (a_Machine K) "__ge__" sp := by
  obtain ⟨fd, F⟩ := T.d_mge
  exact ⟨_, fd, _, T.m_mge, h fd F, F.bindsN fun _ _ _ _ _ _ us hl => match us, hl with | [_, _], _ => rfl⟩
theorem c_mgt {k : Nat} {sp : Sp} (T : Tx K mg) (h : ∀ fd, FunD K "__gt__" "Machine.__gt__" (defArgs s_mgt) (defBody s_mgt) (defScope s_mgt) [] [] (He.ma K (a_Machine K) "__gt__") fd → FnOk P w K mg base CX0 k (He.ma K (a_Machine K) "__gt__") fd ["self", "other"] sp) : MetX P w K mg base CX0 k (a_Machine K) "__gt__" sp := by
  obtain ⟨fd, F⟩ := T.d_mgt
  exact ⟨_, fd, _, T.m_mgt, h fd F, F.bindsN fun _ _ _ _ _ _ us hl => match us, hl with | [_, _], _ => rfl⟩
theorem c_meq {k : Nat} {sp : Sp} (T : Tx K mg) (h : ∀ fd, FunD K "__eq__" "Machine.__eq__" (defArgs s_meq) (defBody s_meq) (defScope s_meq) [] [] (He.ma K (a_Machine K) "__eq__") fd → FnOk P w K mg base CX0 k (He.ma K (a_Machine K) "__eq__") fd ["self", "other"] sp) : MetX P w K mg base CX0 k (a_Machine K) "__eq__" sp := by
  obtain ⟨fd, F⟩ := T.d_meq
  exact ⟨_, fd, _, T.m_meq, h fd F, F.bindsN fun _ _ _ _ _ _ us hl => match us, hl with | [_, _], _ => rfl⟩
theorem c_pairs {k : Nat} {sp : Sp} (T : Tx K mg) (h : ∀ fd, FunD K "_law_pairs" "_law_pairs" (defArgs s_pairs) (defBody s_pairs) (defScope s_pairs) [] [] (He.ga K "_law_pairs") fd → FnOk P w K mg base CX0 k (He.ga K "_law_pairs") fd ["_law_letters_here", "_law_first", "_law_second_here"] sp) : CalX P w K mg base CX0 k "_law_pairs" sp := by
  obtain ⟨fd, F⟩ := T.d_pairs
  exact ⟨_, fd, _, h fd F, T.g_pairs, F.kp, F.bindsN fun _ _ _ _ _ _ us hl => match us, hl with | [_, _, _], _ => rfl⟩
theorem c_double {k : Nat} {sp : Sp} (T : Tx K mg) (h : ∀ fd, FunD K "_law_double" "_law_double" (defArgs s_double) (defBody s_double) (defScope s_double) [] [] (He.ga K "_law_double") fd → FnOk P w K mg base CX0 k (He.ga K "_law_double") fd ["_law_pen_here", "_law_plan_here"] sp) : CalX P w K mg base CX0 k "_law_double" sp := by
  obtain ⟨fd, F⟩ := T.d_double
  exact ⟨_, fd, _, h fd F, T.g_double, F.kp, F.bindsN fun _ _ _ _ _ _ us hl => match us, hl with | [_, _], _ => rfl⟩
theorem c_second {k : Nat} {sp : Sp} (T : Tx K mg) (h : ∀ fd, FunD K "_law_second" "_law_second" (defArgs s_second) (defBody s_second) (defScope s_second) [] [] (He.ga K "_law_second") fd → FnOk P w K mg base CX0 k (He.ga K "_law_second") fd ["_law_pen_here", "_law_letters_here", "_law_first"] sp) : CalX P w K mg base CX0 k "_law_second" sp := by
  obtain ⟨fd, F⟩ := T.d_second
  exact ⟨_, fd, _, h fd F, T.g_second, F.kp, F.bindsN fun _ _ _ _ _ _ us hl => match us, hl with | [_, _, _], _ => rfl⟩
theorem c_right {k : Nat} {sp : Sp} (T : Tx K mg) (h : ∀ fd, FunD K "_law_right" "_law_right" (defArgs s_right) (defBody s_right) (defScope s_right) [] [] (He.ga K "_law_right") fd → FnG P w K mg base CX0 k (He.ga K "_law_right") fd ["_law_letters_here", "_law_first", "_law_second_here"] sp) : CalG P w K mg base CX0 k "_law_right" sp := by
  obtain ⟨fd, F⟩ := T.d_right
  exact ⟨_, fd, _, h fd F, T.g_right, F.kp, F.bindsN fun _ _ _ _ _ _ us hl => match us, hl with | [_, _, _], _ => rfl⟩
end
end Rg
namespace Rg
open PySem PySem.Spec PyProof.Rows L2
section
variable {P : Program} {w : World} {K : PySem.W.Frag} {mg : Str → Option Value} {base : Heap}
theorem canLay_ints : ∀ ns : List Int, PyData.canLayAll0 (ns.map PyData.int) = true
  | [] => rfl
  | n :: r => by
    show (true && PyData.canLayAll0 (r.map PyData.int)) = true
    rw [canLay_ints r] <;> rfl
theorem depth_ints : ∀ ns : List Int, PyData.depthAll (ns.map PyData.int) = 0
  | [] => rfl
  | n :: r => by
    show max 0 (PyData.depthAll (r.map PyData.int)) = 0
    rw [depth_ints r] <;> rfl
theorem shaped_ints (ns : List Int) : SeqAt.shaped (.list (ns.map PyData.int)) = true := by
  unfold SeqAt.shaped
  rw [Bool.and_eq_true]
  refine ⟨canLay_ints ns, decide_eq_true ?_⟩
  show PyData.depthAll (ns.map PyData.int) + 1 ≤ 64
  rw [depth_ints]
  decide
theorem mul_bd {a b A B : Int} (a0 : 0 ≤ a) (aA : a ≤ A) (b0 : 0 ≤ b) (bB : b ≤ B) : 0 ≤ a * b ∧ a * b ≤ A * B :=
  ⟨Int.mul_nonneg a0 b0, Int.le_trans (Int.mul_le_mul_of_nonneg_right aA b0) (Int.mul_le_mul_of_nonneg_left bB (Int.le_trans a0 aA))⟩
theorem ok_draw {f : Addr} {fd : FuncData} (F : FunD K "_law_draw" "_law_draw" (defArgs s_draw) (defBody s_draw) (defScope s_draw) [] [] f fd) (T : Tx K mg) : FnOk P w K mg base CX0 1 f fd ["_law_pen_here", "_law_many"] (spDraw K) := by
  refine F.ok sc_draw (fun vs H Q E h => ?_) (fun cdv A outer s H vs Q E hr h => ?_)
  · obtain ⟨D, p, m, n, rfl, _⟩ := h
    rfl
  · obtain ⟨D, p, m, n, rfl, sd, pn, hm1, hm2, k⟩ := h
    obtain ⟨out, q, ns, t, g, hp, hq, t0, tn⟩ := id pn
    refine ⟨_, PSs.nox (pss_cons (ps_if (pt_cmpR op_gt (pe_ix (ix_listK K) (pv 0) pe_int (fun _ _ => rfl)) pe_int (nomark _))
      (pss_cons (ps_set (i := 2) sc_draw.nd rfl (Or.inl rfl) (pe_op op_mod (pe_callTy call_int1 (by rfl) T.f_int (by decide +kernel) (pa_cons (pe_ix (ix_listK K) (pv 0) pe_int (fun _ _ => rfl)) pa_nil)) (pv 1)))
      (pss_cons (ps_asg (pe_op op_fdiv (pe_callTy call_int1 (by rfl) T.f_int (by decide +kernel) (pa_cons (pe_ix (ix_listK K) (pv 0) pe_int (fun _ _ => rfl)) pa_nil)) (pv 1)) (pg_sub (pv 0) pe_int set_list))
      (pss_one (ps_ret (pv 2))))) pss_nil)
      (pss_cons (ps_set (i := 3) sc_draw.nd rfl (Or.inl rfl) (pe_ix (ix_listK K) (pv 0) pe_int (fun _ _ => rfl)))
      (pss_cons (ps_asg (pe_op op_add (pv 3) pe_int) (pg_sub (pv 0) pe_int set_list))
      (pss_cons (ps_set (i := 4) sc_draw.nd rfl (Or.inl rfl) (pe_op op_add (pe_op op_mul pe_int (pv 3)) pe_int))
      (C8.pss_cut (ps_if (pt_cmpR (op_neDK K hr.units) (pe_ix (ix_listK K) (pv 0) pe_int (fun _ _ => rfl)) (pe_lst pa_nil) (nomark _))
      (pss_one (ps_set (i := 4) sc_draw.nd rfl (Or.inl rfl) (pe_ix (ix_listK K) (pe_ix (ix_listK K) (pv 0) pe_int (fun _ _ => rfl)) (pe_op op_mod (pe_callTy call_int1 (by rfl) T.f_int (by decide +kernel) (pa_cons (pv 3) pa_nil)) (pe_callB (call_len_seqK K) (by rfl) T.f_len (by decide +kernel) (pa_cons (pe_ix (ix_listK K) (pv 0) pe_int (fun _ _ => rfl)) pa_nil))) (fun _ _ => rfl)))) pss_nil)
      (C8.pss_cut (ps_if (PW.pt (pw_and (pt_cmpR op_lt (pv 3) (pe_callB (call_len_seqK K) (by rfl) T.f_len (by decide +kernel) (pa_cons (pe_ix (ix_listK K) (pv 0) pe_int (fun _ _ => rfl)) pa_nil)) (nomark _)) (pw_and1 (pt_cmpR op_ge (pe_callB call_abs (by rfl) T.f_abs (by decide +kernel) (pa_cons (pv 4) pa_nil)) (pe_op op_pow pe_int pe_int) (nomark _)))))
      (pss_cons (ps_set (i := 5) sc_draw.nd rfl (Or.inl rfl) (pe_op op_add (pe_op op_mul pe_int (pe_op op_sub (pe_callB call_abs (by rfl) T.f_abs (by decide +kernel) (pa_cons (pv 4) pa_nil)) (pe_op op_pow pe_int pe_int))) (pe_callTy call_int1 (by rfl) T.f_int (by decide +kernel) (pa_cons (pe_cmpR op_lt (pv 4) pe_int (nomark _)) pa_nil))))
      (pss_cons (ps_asg (pe_op op_fdiv (pe_callTy call_int1 (by rfl) T.f_int (by decide +kernel) (pa_cons (pv 5) pa_nil)) (pv 1)) (pg_sub (pv 0) pe_int set_list))
      (pss_one (ps_ret (pe_op op_mod (pe_callTy call_int1 (by rfl) T.f_int (by decide +kernel) (pa_cons (pv 5) pa_nil)) (pv 1)))))) pss_nil)
      (pss_cons (ps_set (i := 6) sc_draw.nd rfl (Or.inl rfl) (pe_op op_mod (pe_callTy call_int1 (by rfl) T.f_int (by decide +kernel) (pa_cons (pe_op op_pow (pe_op op_add (pe_op op_add (pe_op op_mod (pe_callTy call_int1 (by rfl) T.f_int (by decide +kernel) (pa_cons (pv 4) pa_nil)) pe_int) (pe_op op_mul pe_int (pv 3))) pe_int) pe_int) pa_nil)) pe_int))
      (pss_cons (ps_set (i := 6) sc_draw.nd rfl (Or.inl rfl) (pe_op op_mod (pe_callTy call_int1 (by rfl) T.f_int (by decide +kernel) (pa_cons (pe_op op_pow (pe_op op_add (pe_op op_add (pe_op op_mul (pv 6) (pe_op op_add (pe_op op_mul pe_int (pv 3)) pe_int)) (pe_op op_mul (pe_op op_mul pe_int (pv 3)) (pv 3))) pe_int) pe_int) pa_nil)) pe_int))
      (pss_one (ps_ret (pe_op op_mod (pe_callTy call_int1 (by rfl) T.f_int (by decide +kernel) (pa_cons (pe_op op_fdiv (pv 6) pe_int) pa_nil)) (pv 1)))))))))))), ?_⟩
    -- if pen[2] > 0
    refine ⟨_, rfl, p, _, _, _, rfl, rfl, SqL.of hp, rfl, _, _, rfl, rfl, _, rfl, ?_⟩
    refine ite2 (fun hg => ?_) (fun hg => ?_)
    · refine ⟨_, rfl, p, _, _, _, rfl, rfl, SqL.of hp, rfl, Or.inl ⟨_, rfl, _, rfl, _, _, rfl, rfl, (show (0 : Int) < m by omega), ?_⟩⟩
      refine ⟨_, rfl, p, _, _, _, rfl, rfl, SqL.of hp, rfl, Or.inl ⟨_, rfl, _, rfl, _, _, rfl, rfl, ⟨(show (0 : Int) < m by omega), (show m < 1073741824 by omega)⟩, _, rfl, p, _, _, _, rfl, rfl, hp, rfl, _, rfl, ?_⟩⟩
      refine k _ _ ((Step.refl sd).write (.inl rfl) out) ⟨out, q, ns, t, _, upd_same, hq, t0, by omega⟩ (Int.emod_nonneg _ (by omega)) (Int.emod_lt_of_pos _ (by omega))
    · -- at = pen[1]; pen[1] = at + 1; cell = ..
      refine ⟨_, rfl, p, _, _, _, rfl, rfl, SqL.of hp, rfl, ?_⟩
      refine ⟨_, rfl, _, _, rfl, rfl, _, rfl, p, _, _, _, rfl, rfl, hp, rfl, ?_⟩
      have hp1 : (upd H p (.lst [.ref q, .int (t + 1), .int g])) p = some (.lst [.ref q, .int (t + 1), .int g]) := upd_same
      have st1 : Step (· = p) D H D (upd H p (.lst [.ref q, .int (t + 1), .int g])) := (Step.refl sd).write (.inl rfl) out
      have hq1 : SqL K (upd H p (.lst [.ref q, .int (t + 1), .int g])) q (ns.map V.int) := st1.dh.seq hq
      refine ⟨_, rfl, _, _, rfl, rfl, Or.inl ⟨by decide, by decide⟩, _, _, rfl, rfl, ?_⟩
      refine ⟨fun σ' H' => ∃ (c : Int), σ' = [some (.ref p), some (.int m), none, some (.int t), some (.int c), none, none] ∧ Step (· = p) D H D H' ∧ H' p = some (.lst [.ref q, .int (t + 1), .int g]), ?_, ?_⟩
      · -- if pen[0] != []
        refine ⟨_, rfl, p, _, _, _, rfl, rfl, SqL.of hp1, rfl, (by decide), fun l hl => ?_⟩
        have st2 : Step (· = p) D H D (upd (upd H p (.lst [.ref q, .int (t + 1), .int g])) l (.lst [])) := st1.trans (Step.tmp st1.dh hl)
        have npl : p ≠ l := ne_of_none hp1 hl
        have hp2 : (upd (upd H p (.lst [.ref q, .int (t + 1), .int g])) l (.lst [])) p = some (.lst [.ref q, .int (t + 1), .int g]) := by rw [upd_ne npl]; exact hp1
        have hq2 := st2.dh.seq hq
        refine ⟨.list (ns.map PyData.int), .list [], .lst hq2 (dpAll_ints ns), .lst (SqL.of upd_same) .nil, shaped_ints ns, rfl, _, rfl, ?_⟩
        cases ns with
        | nil =>
          refine iteF ?_
          exact ⟨_, rfl, st2, hp2⟩
        | cons n0 nr =>
          refine iteT ?_
          have hlen : (0 : Int) < (((n0 :: nr).map V.int).length : Int) := by simp
          have hmod := Int.emod_nonneg t (show (((n0 :: nr).map V.int).length : Int) ≠ 0 by omega)
          have hlt := Int.emod_lt_of_pos t hlen
          obtain ⟨c, hc⟩ : ∃ c : Int, ((n0 :: nr).map V.int)[(t % (((n0 :: nr).map V.int).length : Int)).toNat]? = some (.int c) := by
            have hb : (t % (((n0 :: nr).map V.int).length : Int)).toNat < (n0 :: nr).length := by
              rw [List.length_map] at hmod hlt ⊢
              omega
            exact ⟨_, by rw [List.getElem?_map, List.getElem?_eq_getElem hb] <;> rfl⟩
          refine ⟨_, rfl, p, _, _, _, rfl, rfl, SqL.of hp2, rfl, _, rfl, Or.inl ⟨_, rfl, _, rfl, p, _, _, _, rfl, rfl, SqL.of hp2, rfl, q, _, rfl, .inl hq2, _, _, rfl, rfl, hlen, q, _, _, .int c, rfl, rfl, hq2, ?_, ?_⟩⟩
          · have e := atI_nat hc
            rw [Int.toNat_of_nonneg hmod] at e
            exact e
          · exact ⟨c, rfl, st2, hp2⟩
      · rintro σ' H' ⟨c, rfl, st, hpp⟩
        have hqq := st.dh.seq hq
        have pen' : ∀ (H2 : Hp) (g' : Int), Step (· = p) D H D H2 → H2 p = some (.lst [.ref q, .int (t + 1), .int g']) → PenAt K D H2 p n := fun H2 g' _ e => ⟨out, q, ns, t + 1, g', e, hq, by omega, by omega⟩
        -- if at < len(pen[0]) and abs(cell) >= 10 ** 18
        refine ⟨fun σ' H2 => σ' = [some (.ref p), some (.int m), none, some (.int t), some (.int c), none, none] ∧ H2 = H', ?_, ?_⟩
        · refine ⟨_, rfl, _, rfl, p, _, _, _, rfl, rfl, SqL.of hpp, rfl, q, _, rfl, .inl hqq, _, _, rfl, rfl, _, rfl, ?_⟩
          refine ite2 (fun h1 => ?_) (fun h1 => iteF ⟨rfl, rfl⟩)
          refine ⟨_, rfl, _, rfl, _, _, rfl, rfl, ⟨by decide, by decide, by decide⟩, _, _, rfl, rfl, _, rfl, ?_⟩
          refine ite2 (fun h2 => ?_) (fun h2 => ⟨rfl, rfl⟩)
          refine ⟨_, rfl, _, rfl, _, _, rfl, rfl, ⟨by decide, by decide, by decide⟩, _, _, rfl, rfl, _, _, rfl, rfl, Or.inl ⟨by decide, by decide⟩, _, rfl, _, _, rfl, rfl, Or.inr ⟨_, rfl, _, _, rfl, rfl, ?_⟩⟩
          refine ⟨_, rfl, Or.inl ⟨_, rfl, _, rfl, _, _, rfl, rfl, ⟨(show (0 : Int) < m by omega), (show m < 1073741824 by omega)⟩, _, rfl, p, _, _, _, rfl, rfl, hpp, rfl, ?_⟩⟩
          refine ⟨_, rfl, Or.inl ⟨_, rfl, _, rfl, _, _, rfl, rfl, (show (0 : Int) < m by omega), ?_⟩⟩
          have st3 := st.write (o := .lst [.ref q, .int (t + 1), .int ((2 * ((if c < 0 then -c else c) - 10 ^ 18) + if decide (c < 0) = true then 1 else 0) / m)]) (.inl rfl) out
          exact k _ _ st3 (pen' _ _ st3 upd_same) (Int.emod_nonneg _ (by omega)) (Int.emod_lt_of_pos _ (by omega))
        · rintro σ' H2 ⟨rfl, rfl⟩
          -- mixed = int((int(cell) % .. + .. * at + ..) ** 5) % ..
          refine ⟨_, rfl, Or.inl ⟨_, rfl, _, _, rfl, rfl, (by show (0 : Int) < _; decide), _, rfl, _, _, rfl, rfl, Or.inl ⟨by decide, by decide⟩, _, _, rfl, rfl, _, _, rfl, rfl, _, _, rfl, rfl, ⟨by decide, by decide, by omega⟩, Or.inl ⟨_, rfl, _, _, rfl, rfl, (by show (0 : Int) < _; decide), ?_⟩⟩⟩
          obtain ⟨x, hx⟩ : ∃ x : Int, x = (c % 2147483563 + 52975 * t + 485) ^ 5 % 2147483647 := ⟨_, rfl⟩
          have hx0 : 0 ≤ x := by rw [hx]; exact Int.emod_nonneg _ (by decide)
          have hx1 : x < 4294967296 := by rw [hx]; exact Int.lt_of_lt_of_le (Int.emod_lt_of_pos _ (by decide)) (by decide)
          have hy := mul_bd hx0 (Int.le_of_lt hx1) (show (0 : Int) ≤ 2 * t + 103 by omega) (show 2 * t + 103 ≤ 4000000 by omega)
          have hz := mul_bd (show (0 : Int) ≤ 66761 * t by omega) (show 66761 * t ≤ 100000 * 1000000 by omega) t0 (show t ≤ 1000000 by omega)
          refine ⟨_, rfl, _, rfl, _, _, rfl, rfl, Or.inl ⟨by decide, by decide⟩, _, _, rfl, rfl, _, _, rfl, rfl, Or.inr ⟨by omega, by omega⟩, _, rfl, _, _, rfl, rfl, Or.inl ⟨by decide, by decide⟩, _, rfl, _, _, rfl, rfl, Or.inr ⟨by omega, by omega⟩, _, _, rfl, rfl, _, _, rfl, rfl, _, _, rfl, rfl, ⟨by decide, by decide, ?_⟩, Or.inl ⟨_, rfl, _, _, rfl, rfl, (by show (0 : Int) < _; decide), ?_⟩⟩
          · show ((c % 2147483563 + 52975 * t + 485) ^ 5 % 2147483647 * (2 * t + 103) + 66761 * t * t + 49).natAbs < 2 ^ 64
            rw [← hx]
            omega
          refine ⟨_, rfl, _, _, rfl, rfl, ⟨by decide, by decide⟩, Or.inl ⟨_, rfl, _, rfl, _, _, rfl, rfl, (show (0 : Int) < m by omega), ?_⟩⟩
          exact k _ _ st (pen' _ _ st hpp) (Int.emod_nonneg _ (by omega)) (Int.emod_lt_of_pos _ (by omega))
theorem cDraw (T : Tx K mg) : CalX P w K mg base CX0 1 "_law_draw" (spDraw K) := c_draw T fun _ F => ok_draw F T
end
end Rg
namespace Rg
open PySem PySem.Spec PyProof.Rows L2
section
variable {P : Program} {w : World} {K : PySem.W.Frag} {mg : Str → Option Value} {base : Heap}
/-! ### is_letter -/
def spLetter : Sp := fun vs H Q _ => ∃ c : Nat, vs = [.str (sgn c)] ∧ Q (.bl (decide (c ∈ letters))) H
theorem ok_isLetter {f : Addr} {fd : FuncData} (F : FunD K "is_letter" "is_letter" (defArgs s_isLetter) (defBody s_isLetter) (defScope s_isLetter) [] [] f fd) (T : Tx K mg) : FnOk P w K mg base CX0 1 f fd ["thing"] spLetter := by
  refine F.ok sc_isLetter (fun vs H Q E h => ?_) (fun cdv A outer s H vs Q E hr h => ?_)
  · obtain ⟨c, rfl, _⟩ := h
    rfl
  · obtain ⟨c, rfl, k⟩ := h
    refine ⟨_, PSs.nox (pss_one (ps_ret (pe_and (pe_callB (call_isiK' K) (by rfl) T.f_isinstance (by decide +kernel) (pa_cons (pv 0) (pa_cons (pe_bltn (v := .ty "str") (by rfl) T.f_str (by decide +kernel) rfl) pa_nil))) (pe_and (pe_cmpR op_eq (pe_callB call_len_str (by rfl) T.f_len (by decide +kernel) (pa_cons (pv 0) pa_nil)) pe_int (nomark _)) (pe_one (pe_cmpR op_in_sign (pv 0) (C8.pe_gc (by rfl) T.g_LETTERS) (by rfl))))))), ?_⟩
    refine ⟨_, rfl, _, _, _, _, _, rfl, .ty _, .base (.str _), kit_ty (r := true) (by decide +kernel), _, rfl, iteT ?_⟩
    refine ⟨_, rfl, _, rfl, (by show 1 ≤ sizeLine; decide), rfl, _, rfl, iteT ?_⟩
    exact ⟨_, rfl, c, _, rfl, rfl, k⟩
theorem cLetter (T : Tx K mg) : CalX P w K mg base CX0 1 "is_letter" spLetter := c_isLetter T fun _ F => ok_isLetter F T
/-! ### is_row, need_row -/
def spRow : Sp := fun vs H Q _ => ∃ z x : Str, vs = [.str z, .str x] ∧ x.cps.toList.length ≤ 1000 ∧ ∀ H', Same H H' → Q (.bl (x.cps.toList.all fun c => decide (c ∈ z.cps.toList))) H'
theorem ok_isRow {f : Addr} {fd : FuncData} (F : FunD K "is_row" "is_row" (defArgs s_isRow) (defBody s_isRow) (defScope s_isRow) [] [] f fd) (T : Tx K mg) : FnOk P w K mg base CX0 1 f fd ["signs", "thing"] spRow := by
  refine F.ok sc_isRow (fun vs H Q E h => ?_) (fun cdv A outer s H vs Q E hr h => ?_)
  · obtain ⟨z, x, rfl, _⟩ := h
    rfl
  · obtain ⟨z, x, rfl, hx, k⟩ := h
    refine ⟨_, PSs.nox (pss_one (ps_ret (pe_and (pe_callB (call_isiK' K) (by rfl) T.f_isinstance (by decide +kernel) (pa_cons (pv 1) (pa_cons (pe_bltn (v := .ty "str") (by rfl) T.f_str (by decide +kernel) rfl) pa_nil))) (pe_one (pe_callB (cr_allK K (by rfl)) (by rfl) T.f_all (by decide +kernel) (pa_cons (pe_lc (own := [("sign", 2)]) (g := _) (tt := tYes) (by rfl) sc_isRow.nd (pi_str (pv 1)) (blkOk_by (by kernel_rfl)) (fun _ _ _ _ _ => (pg_name (i := 2) sc_isRow.nd rfl (Or.inl rfl))) (fun _ _ _ _ _ => pts_nil) (fun _ _ _ _ _ => (pe_cmpR op_in_sign (pv 2) (pv 0) (by rfl)))) pa_nil)))))), ?_⟩
    refine ⟨_, rfl, _, _, _, _, _, rfl, .ty _, .base (.str _), kit_ty (r := true) (by decide +kernel), _, rfl, iteT ?_⟩
    -- all([sign in signs for sign in thing])
    refine ⟨_, rfl, x, rfl, fun D hD => lc_it walk_str (fun i H' => Same H H' ∧ H' D = some (.lst ((x.cps.toList.take i).map fun c => V.bl (decide (c ∈ z.cps.toList))))) ⟨Same.new hD, upd_same⟩ (fun _ _ _ _ => trivial) ?_ ?_⟩
    · rintro i v H1 H2 hi ⟨s1, h1⟩ ⟨rfl, c, hc, rfl⟩
      have hc' : x.cps.toList[i]? = some c := by rw [← get_tl]; exact hc
      refine ⟨rfl, ?_⟩
      refine ⟨_, rfl, _, rfl, c, _, rfl, rfl, _, h1, ?_, Same.put s1 hD, ?_⟩
      · refine Nat.lt_of_le_of_lt ?_ (show 1000 < sizeLine by decide)
        rw [List.length_map, List.length_take]
        omega
      · rw [upd_same, take_more hc', List.map_append]
        rfl
    · rintro H1 ⟨s1, h1⟩
      rw [size_tl, List.take_length] at h1
      refine ⟨D, x.cps.toList.map fun c => decide (c ∈ z.cps.toList), rfl, SqL.of ?_, ?_⟩
      · rw [h1, List.map_map]
        rfl
      · have e : ((x.cps.toList.map fun c => decide (c ∈ z.cps.toList)).all id) = x.cps.toList.all fun c => decide (c ∈ z.cps.toList) := by
          rw [List.all_map]
          rfl
        rw [e]
        exact k H1 s1
theorem cRow (T : Tx K mg) : CalX P w K mg base CX0 1 "is_row" spRow := c_isRow T fun _ F => ok_isRow F T
def spNeedRow : Sp := fun vs H Q _ => ∃ z x : Str, vs = [.str z, .str x] ∧ (∀ c ∈ x.cps.toList, c ∈ z.cps.toList) ∧ ∀ H', Same H H' → Q .non H'
theorem ok_needRow {f : Addr} {fd : FuncData} (F : FunD K "need_row" "need_row" (defArgs s_needRow) (defBody s_needRow) (defScope s_needRow) [] [] f fd) (T : Tx K mg) : FnOk P w K mg base CX0 1 f fd ["signs", "row"] spNeedRow := by
  refine F.ok sc_needRow (fun vs H Q E h => ?_) (fun cdv A outer s H vs Q E hr h => ?_)
  · obtain ⟨z, x, rfl, _⟩ := h
    rfl
  · obtain ⟨z, x, rfl, hx, k⟩ := h
    refine ⟨_, PSs.nox (pss_cons (ps_if (pt_not (pt_val (pe_callB (call_isiK' K) (by rfl) T.f_isinstance (by decide +kernel) (pa_cons (pv 1) (pa_cons (pe_bltn (v := .ty "str") (by rfl) T.f_str (by decide +kernel) rfl) pa_nil)))))
      (pss_one ps_never) pss_nil)
      (pss_one (ps_for PassesOwn.never rfl (pi_enumS (by rfl) T.f_enumerate (pa_cons (pv 1) pa_nil)) (pg_tupK K (n := 2) rfl (pgs_cons (pg_name (i := 2) sc_needRow.nd rfl (Or.inl rfl)) (pgs_cons (pg_name (i := 3) sc_needRow.nd rfl (Or.inl rfl)) pgs_nil)))
      (pss_one (ps_if (pt_cmpR op_notIn_sign (pv 3) (pv 0) (by rfl))
      (pss_one ps_never) pss_nil))))), ?_⟩
    refine ⟨_, rfl, _, _, _, _, _, rfl, .ty _, .base (.str _), kit_ty (r := true) (by decide +kernel), _, rfl, iteF ?_⟩
    refine ⟨_, rfl, x, rfl, for_it walk_enumS (fun i σ H' => ∃ v1 v2, σ = [some (.str z), some (.str x), v1, v2] ∧ Same H H') ⟨none, none, rfl, Same.refl H⟩ (fun _ _ _ _ _ => trivial) ?_ ?_⟩
    · rintro i v σ H1 H2 hi ⟨v1, v2, rfl, s1⟩ ⟨t, c, rfl, ht, rfl, hc⟩
      have hc' : x.cps.toList[i]? = some c := by rw [← get_tl]; exact hc
      refine ⟨t, _, rfl, SqT.of upd_same, rfl, _, _, rfl, _, _, rfl, rfl, ?_⟩
      refine ⟨_, rfl, _, rfl, c, _, rfl, rfl, _, rfl, ?_⟩
      refine iteNS (hx c (mem_of_at hc')) ?_
      exact ⟨_, _, rfl, s1.trans (Same.new ht)⟩
    · rintro σ H1 ⟨v1, v2, rfl, s1⟩
      exact k H1 s1
theorem cNeedRow (T : Tx K mg) : CalX P w K mg base CX0 1 "need_row" spNeedRow := c_needRow T fun _ F => ok_needRow F T
/-! ### is_whole -/
def spWhole : Sp := fun vs H Q _ => ∃ i l m : Int, vs = [.int i, .int l, .int m] ∧ Q (.bl (decide (l ≤ i ∧ i ≤ m))) H
theorem ok_isWhole {f : Addr} {fd : FuncData} (F : FunD K "is_whole" "is_whole" (defArgs s_isWhole) (defBody s_isWhole) (defScope s_isWhole) [.non] [] f fd) (T : Tx K mg) : FnOk P w K mg base CX0 1 f fd ["thing", "least", "most"] spWhole := by
  refine F.ok sc_isWhole (fun vs H Q E h => ?_) (fun cdv A outer s H vs Q E hr h => ?_)
  · obtain ⟨i, l, m, rfl, _⟩ := h
    rfl
  · obtain ⟨i, l, m, rfl, k⟩ := h
    refine ⟨_, PSs.nox (pss_cons (ps_if (PW.pt (pw_or (pt_not (pt_val (pe_callB (call_isiK' K) (by rfl) T.f_isinstance (by decide +kernel) (pa_cons (pv 0) (pa_cons (pe_bltn (v := .ty "int") (by rfl) T.f_int (by decide +kernel) rfl) pa_nil))))) (pw_or (pt_val (pe_callB (call_isiK' K) (by rfl) T.f_isinstance (by decide +kernel) (pa_cons (pv 0) (pa_cons (pe_bltn (v := .ty "bool") (by rfl) T.f_bool (by decide +kernel) rfl) pa_nil)))) (pw_or1 (pt_cmpR op_lt (pv 0) (pv 1) (nomark _))))))
      (pss_one (ps_ret pe_bl)) pss_nil)
      (pss_one (ps_ret (pe_or (pe_cmpR op_isN (pv 2) pe_non (nomark _)) (pe_one (pe_cmpR op_le (pv 0) (pv 2) (nomark _))))))), ?_⟩
    refine ⟨_, rfl, _, _, _, _, _, rfl, .ty _, .base (.int _), kit_ty (r := true) (by decide +kernel), _, rfl, iteF ?_⟩
    refine ⟨_, rfl, _, _, _, _, _, rfl, .ty _, .base (.int _), kit_ty (r := false) (by decide +kernel), _, rfl, iteF ?_⟩
    refine ⟨_, rfl, _, rfl, _, _, rfl, rfl, _, rfl, ?_⟩
    refine ite2 (fun h1 => ?_) (fun h1 => ?_)
    · have h2 : i < l := of_decide_eq_true h1
      have e : decide (l ≤ i ∧ i ≤ m) = false := decide_eq_false (by omega)
      rw [e] at k
      exact k
    · have h2 : ¬ i < l := fun z => h1 (decide_eq_true z)
      refine ⟨_, rfl, rfl, _, rfl, iteF ?_⟩
      refine ⟨_, rfl, _, rfl, _, _, rfl, rfl, ?_⟩
      have e : decide (l ≤ i ∧ i ≤ m) = decide (i ≤ m) := by
        by_cases q : i ≤ m
        · rw [decide_eq_true q, decide_eq_true ⟨by omega, q⟩]
        · rw [decide_eq_false q, decide_eq_false fun z => q z.2]
      rw [e] at k
      exact k
theorem cWhole (T : Tx K mg) : CalX P w K mg base CX0 1 "is_whole" spWhole := by
  obtain ⟨fd, F⟩ := T.d_isWhole
  obtain ⟨ds, r, b⟩ := F.binds1 (ps := ["thing", "least", "most"]) 3 1 (by simp) rfl fun T0 kV doc pm an cdv ct us its hl hi => match us, hl, its, hi with | [_, _, _], _, [_], _ => ⟨_, rfl, rfl⟩
  cases r
  exact ⟨_, fd, _, ok_isWhole F T, T.g_isWhole, F.kp, b⟩
/-! ### need_signs -/
theorem met_nodup : ∀ (ks acc : List Key), (acc ++ ks).Nodup → (ks.foldl metStep acc) = acc ++ ks
  | [], acc, _ => by simp
  | k :: r, acc, h => by
    have hk : hasK acc k = false := by
      cases e : hasK acc k with
      | false => rfl
      | true =>
        have hm := hasK_iff.mp e
        exact absurd hm (fun z => (List.nodup_append.mp h).2.2 k z k List.mem_cons_self rfl)
    have e : metStep acc k = acc ++ [k] := by
      unfold metStep
      rw [hk]
      rfl
    show r.foldl metStep (metStep acc k) = _
    rw [e, met_nodup r (acc ++ [k]) (by simpa using h)]
    simp
theorem met_signs {z : List Nat} (h : z.Nodup) : (met (z.map fun c => (Sum.inr (sgn c) : Key))).length = z.length := by
  have nd : (z.map fun c => (Sum.inr (sgn c) : Key)).Nodup := by
    rw [List.Nodup, List.pairwise_map]
    refine List.Pairwise.imp ?_ h
    intro a b hab e
    have e1 : sgn a = sgn b := Sum.inr.inj e
    have e2 : (#[a] : Array Nat) = #[b] := congrArg Str.cps e1
    exact hab (by simpa using e2)
  unfold met
  rw [met_nodup _ [] (by simpa using nd)]
  simp
def spNeedSigns : Sp := fun vs H Q _ => ∃ z : Str, vs = [.str z] ∧ GoodSigns z ∧ ∀ H', Same H H' → Q .non H'
theorem ok_needSigns {f : Addr} {fd : FuncData} (F : FunD K "need_signs" "need_signs" (defArgs s_needSigns) (defBody s_needSigns) (defScope s_needSigns) [] [] f fd) (T : Tx K mg) : FnOk P w K mg base CX0 2 f fd ["signs"] spNeedSigns := by
  refine F.ok sc_needSigns (fun vs H Q E h => ?_) (fun cdv A outer s H vs Q E hr h => ?_)
  · obtain ⟨z, rfl, _⟩ := h
    rfl
  · obtain ⟨z, rfl, g, k⟩ := h
    have hlen := len_tl z
    have g1 := g.pos
    have g2 := g.few
    have hz : z.length ≤ sizeLine := small_line (by omega)
    refine ⟨_, PSs.nox (pss_cons (ps_if (PW.pt (pw_or (pt_not (pt_val (pe_callB (call_isiK' K) (by rfl) T.f_isinstance (by decide +kernel) (pa_cons (pv 0) (pa_cons (pe_bltn (v := .ty "str") (by rfl) T.f_str (by decide +kernel) rfl) pa_nil))))) (pw_or1 (pt_not (pt_chain op_le op_le pe_int (pe_callB call_len_str (by rfl) T.f_len (by decide +kernel) (pa_cons (pv 0) pa_nil)) (C8.pe_gc (by rfl) T.g_MOST_SIGNS))))))
      (pss_one ps_never) pss_nil)
      (pss_one (ps_if (PW.pt (pw_or (pt_cmpR op_lt (pe_lenSetKK K rfl (by rfl) T.f_len (by rfl) T.f_set (pe_callTy (call_listS rfl) (by rfl) T.f_list (by decide +kernel) (pa_cons (pv 0) pa_nil))) (pe_callB call_len_str (by rfl) T.f_len (by decide +kernel) (pa_cons (pv 0) pa_nil)) (nomark _)) (pw_or1 (pt_not (pt_val (pe_callB (cr_allK K (by rfl)) (by rfl) T.f_all (by decide +kernel) (pa_cons (pe_lc (own := [("sign", 1)]) (g := _) (tt := tYes) (by rfl) sc_needSigns.nd (pi_str (pv 0)) (blkOk_by (by kernel_rfl)) (fun _ _ _ _ _ => (pg_name (i := 1) sc_needSigns.nd rfl (Or.inl rfl))) (fun _ _ _ _ _ => pts_nil) (fun _ _ _ _ _ => (pe_cX (cLetter T) hr (by decide) (by rfl) pass0 (pa_cons (pv 1) pa_nil)))) pa_nil)))))))
      (pss_one ps_never) pss_nil))), ?_⟩
    refine ⟨_, rfl, _, _, _, _, _, rfl, .ty _, .base (.str _), kit_ty (r := true) (by decide +kernel), _, rfl, iteF ?_⟩
    refine ⟨_, rfl, _, rfl, hz, _, _, rfl, rfl, _, rfl, ?_⟩
    have e1 : decide ((1 : Int) ≤ (z.length : Int)) = true := decide_eq_true (by omega)
    have e2 : decide ((z.length : Int) ≤ 4) = true := decide_eq_true (by omega)
    rw [e1]
    refine iteT ⟨_, _, rfl, rfl, _, rfl, ?_⟩
    rw [e2]
    refine iteF ?_
    -- len(set(list(signs))) < len(signs)
    refine ⟨_, rfl, _, rfl, hz, fun l hl => ⟨l, z.cps.toList.map fun c => (Sum.inr (sgn c) : Key), rfl, SqL.of ?_, ?_, ?_⟩⟩
    · rw [upd_same, List.map_map]
      rfl
    · rw [List.length_map]
      omega
    rw [met_signs g.nd]
    refine ⟨_, rfl, _, rfl, hz, _, _, rfl, rfl, _, rfl, ?_⟩
    have e3 : decide (((z.cps.toList.length : Nat) : Int) < (z.length : Int)) = false := decide_eq_false (by omega)
    rw [e3]
    refine iteF ?_
    -- all([is_letter(sign) for sign in signs])
    have s0 : Same H (upd H l (.lst (z.cps.toList.map fun c => V.str (sgn c)))) := Same.new hl
    refine ⟨_, rfl, z, rfl, fun D hD => lc_it walk_str (fun i H' => Same H H' ∧ H' D = some (.lst ((z.cps.toList.take i).map fun c => V.bl (decide (c ∈ letters))))) ⟨s0.trans (Same.new hD), upd_same⟩ (fun _ _ _ _ => trivial) ?_ ?_⟩
    · rintro i v H1 H2 hi ⟨s1, h1⟩ ⟨rfl, c, hc, rfl⟩
      have hc' : z.cps.toList[i]? = some c := by rw [← get_tl]; exact hc
      refine ⟨rfl, ?_⟩
      refine ⟨_, rfl, c, rfl, _, h1, ?_, Same.put s1 (s0.free hD), ?_⟩
      · refine Nat.lt_of_le_of_lt ?_ (show 1000 < sizeLine by decide)
        rw [List.length_map, List.length_take]
        omega
      · rw [upd_same, take_more hc', List.map_append]
        rfl
    · rintro H1 ⟨s1, h1⟩
      rw [size_tl, List.take_length] at h1
      refine ⟨D, z.cps.toList.map fun c => decide (c ∈ letters), rfl, SqL.of ?_, _, rfl, ?_⟩
      · rw [h1, List.map_map]
        rfl
      · have e : ((z.cps.toList.map fun c => decide (c ∈ letters)).all id) = true := by
          rw [List.all_map, List.all_eq_true]
          intro c hc
          exact decide_eq_true (g.let_ c hc)
        rw [e]
        exact iteF (k H1 s1)
theorem cNeedSigns (T : Tx K mg) : CalX P w K mg base CX0 2 "need_signs" spNeedSigns := c_needSigns T fun _ F => ok_needSigns F T
/-! ### is_step -/
def spStepOk (K : PySem.W.Frag) : Sp := fun vs H Q _ => ∃ (a : Addr) (r : List Int) (m n : Int), vs = [.ref a, .int m, .int n] ∧ SqA K H a (r.map V.int) ∧ (r.length : Int) = m ∧ r.length ≤ 100 ∧ (∀ x ∈ r, 0 ≤ x ∧ x < n) ∧ ∀ H', Same H H' → Q (.bl true) H'
theorem ok_isStep {f : Addr} {fd : FuncData} (F : FunD K "is_step" "is_step" (defArgs s_isStep) (defBody s_isStep) (defScope s_isStep) [] [] f fd) (T : Tx K mg) : FnOk P w K mg base CX0 2 f fd ["thing", "many", "states"] (spStepOk K) := by
  refine F.ok sc_isStep (fun vs H Q E h => ?_) (fun cdv A outer s H vs Q E hr h => ?_)
  · obtain ⟨a, r, m, n, rfl, _⟩ := h
    rfl
  · obtain ⟨a, r, m, n, rfl, hS, hm, hl, hx, k⟩ := h
    refine ⟨_, PSs.nox (pss_cons (ps_if (PW.pt (pw_or (pt_not (pt_val (pe_callB (call_isiTK K) (by rfl) T.f_isinstance (by decide +kernel) (pa_cons (pv 0) (pa_cons (pe_tup (pa_cons (pe_bltn (v := .ty "list") (by rfl) T.f_list (by decide +kernel) rfl) (pa_cons (pe_bltn (v := .ty "tuple") (by rfl) T.f_tuple (by decide +kernel) rfl) pa_nil))) pa_nil))))) (pw_or1 (pt_cmpR op_ne (pe_callB (call_len_seqK K) (by rfl) T.f_len (by decide +kernel) (pa_cons (pv 0) pa_nil)) (pv 1) (nomark _)))))
      (pss_one (ps_ret pe_bl)) pss_nil)
      (pss_one (ps_ret (pe_callB (cr_allK K (by rfl)) (by rfl) T.f_all (by decide +kernel) (pa_cons (pe_lc (own := [("state", 3)]) (g := _) (tt := tYes) (by rfl) sc_isStep.nd (pi_seqK K (pv 0)) (blkOk_by (by kernel_rfl)) (fun _ _ _ _ _ => (pg_name (i := 3) sc_isStep.nd rfl (Or.inl rfl))) (fun _ _ _ _ _ => pts_nil) (fun _ _ _ _ _ => (pe_cX (cWhole T) hr (by decide) (by rfl) pass0 (pa_cons (pv 3) (pa_cons pe_int (pa_cons (pe_op op_sub (pv 2) pe_int) pa_nil)))))) pa_nil))))), ?_⟩
    refine ⟨_, rfl, (by show 2 ≤ sizeLine; decide), fun tp htp => ?_⟩
    have s0 : Same H (upd H tp (.tup [.ty "list", .ty "tuple"])) := Same.new htp
    have hS0 := hS.mono s0
    obtain ⟨t, ht, hk⟩ := isSeq_kit hS0
    refine ⟨_, tp, _, t, _, _, rfl, upd_same, cls_lt, ht, hk, _, rfl, iteF ?_⟩
    refine ⟨_, rfl, a, _, rfl, hS0, _, rfl, rfl, _, rfl, ?_⟩
    refine iteNS (by rw [List.length_map, hm]) ?_
    refine ⟨_, rfl, a, rfl, ?_⟩
    refine iSeq_of hS s0 fun J wk => ?_
    intro D hD
    refine lc_it wk (fun i H' => Same H H' ∧ H' D = some (.lst (List.replicate i (V.bl true)))) ⟨s0.trans (Same.new hD), upd_same⟩ (fun _ _ _ z => z.1) ?_ ?_
    · rintro i v H1 H2 hi ⟨s1, h1⟩ ⟨rfl, hv⟩
      rw [List.getElem?_map] at hv
      obtain ⟨x, hx', rfl⟩ := Option.map_eq_some_iff.mp hv
      have b := hx x (mem_of_at hx')
      rw [List.length_map] at hi
      refine ⟨rfl, ?_⟩
      refine ⟨_, rfl, _, rfl, _, _, rfl, rfl, x, 0, n - 1, rfl, _, h1, ?_, Same.put s1 (s0.free hD), ?_⟩
      · rw [List.length_replicate]
        exact Nat.lt_of_le_of_lt (show i ≤ 1000 by omega) (by decide)
      · rw [upd_same, decide_eq_true (show (0 : Int) ≤ x ∧ x ≤ n - 1 by omega), ← List.replicate_succ']
    · rintro H1 ⟨s1, h1⟩
      refine ⟨D, List.replicate (r.map V.int).length true, rfl, SqL.of ?_, ?_⟩
      · rw [h1, List.map_replicate]
      · have e : (List.replicate (r.map V.int).length true).all id = true := by simp
        rw [e]
        exact k H1 s1
theorem cStep (T : Tx K mg) : CalX P w K mg base CX0 2 "is_step" (spStepOk K) := c_isStep T fun _ F => ok_isStep F T
end
end Rg
namespace Rg
open PySem PySem.Spec PyProof.Rows L2
section
variable {P : Program} {w : World} {K : PySem.W.Frag} {mg : Str → Option Value} {base : Heap}
/-! ### what is handed to Machine -/
def RowIn (K : PySem.W.Frag) (D H : Hp) (u : V) (r : List Int) : Prop := ∃ a, u = .ref a ∧ (SqL K H a (r.map V.int) ∨ SqT K D a (r.map V.int))
structure StepsIn (K : PySem.W.Frag) (D H : Hp) (v : V) (rows : List (List Int)) : Prop where
  ex : ∃ (a : Addr) (us : List V), v = .ref a ∧ SqA K H a us ∧ us.length = rows.length ∧ ∀ (i : Nat) (u : V) (r : List Int), us[i]? = some u → rows[i]? = some r → RowIn K D H u r
def ToldIn (K : PySem.W.Frag) (D H : Hp) (v : V) (ms : List Bool) : Prop := ∃ a, v = .ref a ∧ (SqL K H a (ms.map V.bl) ∨ SqT K D a (ms.map V.bl))
def rowD (r : List Int) : PyData := .tuple (r.map PyData.int)
def rowsD (rows : List (List Int)) : PyData := .tuple (rows.map rowD)
def marksD (ms : List Bool) : PyData := .tuple (ms.map PyData.bool)
structure GoodRows (n : Nat) (rows : List (List Int)) (ms : List Bool) : Prop where
  pos : 1 ≤ rows.length
  few : rows.length ≤ 200
  wid : ∀ r ∈ rows, r.length = n
  rng : ∀ r ∈ rows, ∀ x ∈ r, 0 ≤ x ∧ x < (rows.length : Int)
  mrk : ms.length = rows.length
def off (x : Addr) (H : Hp) : Hp := fun b => if b = x then none else H b
theorem off_ne {x b : Addr} {H : Hp} (h : b ≠ x) : off x H b = H b := if_neg h
theorem off_eq {x : Addr} {H : Hp} : off x H x = none := if_pos rfl
theorem off_same {x : Addr} {H : Hp} : Same (off x H) H := fun b o e => by
  by_cases q : b = x
  · rw [q, off_eq] at e
    cases e
  · rwa [off_ne q] at e
theorem off_sqL {K : PySem.W.Frag} {H : Hp} {x a C dx : Addr} {fs : List (Str × V)} {xs : List V} (hx : H x = some (.ins C dx fs)) (h : SqL K H a xs) : SqL K (off x H) a xs := by
  rcases h with (h | ⟨o, h⟩) | h
  · exact .inl (.inl (by rw [off_ne (ne_of h hx (by intro z; cases z))]; exact h))
  · exact .inl (.inr ⟨o, by rw [off_ne (ne_of h hx (by intro z; cases z))]; exact h⟩)
  · exact .inr h
theorem off_sqT {K : PySem.W.Frag} {H : Hp} {x a C dx : Addr} {fs : List (Str × V)} {xs : List V} (hx : H x = some (.ins C dx fs)) (h : SqT K H a xs) : SqT K (off x H) a xs := by
  rcases h with (h | ⟨o, h⟩) | h
  · exact .inl (.inl (by rw [off_ne (ne_of h hx (by intro z; cases z))]; exact h))
  · exact .inl (.inr ⟨o, by rw [off_ne (ne_of h hx (by intro z; cases z))]; exact h⟩)
  · exact .inr h
theorem Step.off {D H D' H' : Hp} {x : Addr} (s : Step (· = x) D H D' H') : Same (off x H) H' := fun b o e => by
  have q : b ≠ x := fun z => by
    rw [z, off_eq] at e
    cases e
  rw [off_ne q] at e
  exact s.kp b o q e
def fM2 (z : Str) (a : Addr) : List (Str × V) := [("signs", V.str z), ("steps", V.ref a)]
def fM (z : Str) (a b : Addr) : List (Str × V) := [("signs", V.str z), ("steps", V.ref a), ("told", V.ref b)]
def spInit (K : PySem.W.Frag) : Sp := fun vs H Q _ => ∃ (D : Hp) (x dx : Addr) (z : Str) (u v : V) (rows : List (List Int)) (ms : List Bool), vs = [.ref x, .str z, u, v] ∧ Same D H ∧ D x = none ∧ H x = some (.ins (a_Machine K) dx []) ∧
  GoodSigns z ∧ GoodRows z.cps.toList.length rows ms ∧ StepsIn K D H u rows ∧ ToldIn K D H v ms ∧
  ∀ (D' H' : Hp) (a b : Addr), Step (· = x) D H D' H' → D' x = none → H' x = some (.ins (a_Machine K) dx (fM z a b)) → Dp K D' (.ref a) (rowsD rows) → Dp K D' (.ref b) (marksD ms) → Q .non H'
theorem ok_init {f : Addr} {fd : FuncData} (F : FunD K "__init__" "Machine.__init__" (defArgs s_init) (defBody s_init) (defScope s_init) [] [] f fd) (T : Tx K mg) : FnOk P w K mg base CX0 3 f fd ["self", "signs", "steps", "told"] (spInit K) := by
  refine F.ok sc_init (fun vs H Q E h => ?_) (fun cdv A outer s H vs Q E hr h => ?_)
  · obtain ⟨D, x, dx, z, u, v, rows, ms, rfl, _⟩ := h
    rfl
  · obtain ⟨D, x, dx, z, u, v, rows, ms, rfl, sd, dx0, hx, gz, gr, ⟨sa, us, rfl, hS, hul, hrow⟩, ⟨ta, rfl, hT⟩, k⟩ := h
    have zl := len_tl z
    have g1 := gz.pos
    have g2 := gz.few
    have p1 := gr.pos
    have p2 := gr.few
    refine ⟨_, PSs.nox (pss_cons (ps_expr (pe_cX (cNeedSigns T) hr (by decide) (by rfl) pass0 (pa_cons (pv 1) pa_nil)))
      (pss_cons (ps_if (PW.pt (pw_or (pt_not (pt_val (pe_callB (call_isiTK K) (by rfl) T.f_isinstance (by decide +kernel) (pa_cons (pv 2) (pa_cons (pe_tup (pa_cons (pe_bltn (v := .ty "list") (by rfl) T.f_list (by decide +kernel) rfl) (pa_cons (pe_bltn (v := .ty "tuple") (by rfl) T.f_tuple (by decide +kernel) rfl) pa_nil))) pa_nil))))) (pw_or1 (pt_cmpR op_eq (pe_callB (call_len_seqK K) (by rfl) T.f_len (by decide +kernel) (pa_cons (pv 2) pa_nil)) pe_int (nomark _)))))
      (pss_one ps_never) pss_nil)
      (pss_cons (ps_if (pt_not (pt_val (pe_callB (cr_allK K (by rfl)) (by rfl) T.f_all (by decide +kernel) (pa_cons (pe_lc (own := [("step", 4)]) (g := _) (tt := tYes) (by rfl) sc_init.nd (pi_seqK K (pv 2)) (blkOk_by (by kernel_rfl)) (fun _ _ _ _ _ => (pg_name (i := 4) sc_init.nd rfl (Or.inl rfl))) (fun _ _ _ _ _ => pts_nil) (fun _ _ _ _ _ => (pe_cX (cStep T) hr (by decide) (by rfl) pass0 (pa_cons (pv 4) (pa_cons (pe_callB call_len_str (by rfl) T.f_len (by decide +kernel) (pa_cons (pv 1) pa_nil)) (pa_cons (pe_callB (call_len_seqK K) (by rfl) T.f_len (by decide +kernel) (pa_cons (pv 2) pa_nil)) pa_nil)))))) pa_nil))))
      (pss_one ps_never) pss_nil)
      (pss_cons (ps_if (PW.pt (pw_or (pt_not (pt_val (pe_callB (call_isiTK K) (by rfl) T.f_isinstance (by decide +kernel) (pa_cons (pv 3) (pa_cons (pe_tup (pa_cons (pe_bltn (v := .ty "list") (by rfl) T.f_list (by decide +kernel) rfl) (pa_cons (pe_bltn (v := .ty "tuple") (by rfl) T.f_tuple (by decide +kernel) rfl) pa_nil))) pa_nil))))) (pw_or1 (pt_cmpR op_ne (pe_callB (call_len_seqK K) (by rfl) T.f_len (by decide +kernel) (pa_cons (pv 3) pa_nil)) (pe_callB (call_len_seqK K) (by rfl) T.f_len (by decide +kernel) (pa_cons (pv 2) pa_nil)) (nomark _)))))
      (pss_one ps_never) pss_nil)
      (pss_cons (ps_if (pt_not (pt_val (pe_callB (cr_allK K (by rfl)) (by rfl) T.f_all (by decide +kernel) (pa_cons (pe_lc (own := [("mark", 5)]) (g := _) (tt := tYes) (by rfl) sc_init.nd (pi_seqK K (pv 3)) (blkOk_by (by kernel_rfl)) (fun _ _ _ _ _ => (pg_name (i := 5) sc_init.nd rfl (Or.inl rfl))) (fun _ _ _ _ _ => pts_nil) (fun _ _ _ _ _ => (pe_callB (call_isiK' K) (by rfl) T.f_isinstance (by decide +kernel) (pa_cons (pv 5) (pa_cons (pe_bltn (v := .ty "bool") (by rfl) T.f_bool (by decide +kernel) rfl) pa_nil))))) pa_nil))))
      (pss_one ps_never) pss_nil)
      (pss_cons (ps_fld (pv 0) (pv 1) rfl)
      (pss_cons (ps_fld (pv 0) (pe_callTy (call_tuple_ofK K) (by rfl) T.f_tuple (by decide +kernel) (pa_cons (pe_lc (own := [("step", 4)]) (g := _) (tt := tYes) (by rfl) sc_init.nd (pi_seqK K (pv 2)) (blkOk_by (by kernel_rfl)) (fun _ _ _ _ _ => (pg_name (i := 4) sc_init.nd rfl (Or.inl rfl))) (fun _ _ _ _ _ => pts_nil) (fun _ _ _ _ _ => (pe_callTy (call_tuple_ofK K) (by rfl) T.f_tuple (by decide +kernel) (pa_cons (pv 4) pa_nil)))) pa_nil)) rfl)
      (pss_one (ps_fld (pv 0) (pe_callTy (call_tuple_ofK K) (by rfl) T.f_tuple (by decide +kernel) (pa_cons (pv 3) pa_nil)) rfl))))))))), ?_⟩
    -- need_signs(signs)
    refine ⟨_, rfl, z, rfl, gz, fun H1 s1 => ?_⟩
    -- if not isinstance(steps, (list, tuple)) or len(steps) == 0
    refine ⟨_, rfl, (by show 2 ≤ sizeLine; decide), fun t1 ht1 => ?_⟩
    have s2 := s1.trans (Same.new (o := .tup [.ty "list", .ty "tuple"]) ht1)
    obtain ⟨t, hty, hk⟩ := isSeq_kit (hS.mono s2)
    refine ⟨_, t1, _, t, _, _, rfl, upd_same, cls_lt, hty, hk, _, rfl, iteF ?_⟩
    refine ⟨_, rfl, sa, _, rfl, hS.mono s2, rfl, _, rfl, ?_⟩
    have e1 : decide (V.int (us.length : Int) = V.int 0) = false := decide_eq_false (fun q => by injection q with q; omega)
    rw [e1]
    refine iteF ?_
    -- all([is_step(step, len(signs), len(steps)) for step in steps])
    have zsz : z.length ≤ sizeLine := small_line (by omega)
    refine ⟨_, rfl, sa, rfl, ?_⟩
    refine iSeq_of hS s2 fun J wk => ?_
    intro D1 hD1
    refine lc_it wk (fun i H' => Same H H' ∧ H' D1 = some (.lst (List.replicate i (V.bl true)))) ⟨s2.trans (Same.new hD1), upd_same⟩ (fun _ _ _ z => z.1) ?_ ?_
    · rintro i v H3 H4 hi ⟨s3, h3⟩ ⟨rfl, hv⟩
      have hi2 : i < rows.length := by rw [← hul]; exact hi
      obtain ⟨a, rfl, ha⟩ := hrow i v rows[i] hv (List.getElem?_eq_getElem hi2)
      have hm := List.getElem_mem hi2
      have ha2 : SqA K H4 a (rows[i].map V.int) := ha.elim (fun q => .inl (s3.seq q)) fun q => .inr (sqT_mono (sd.trans s3) q)
      have hw := gr.wid _ hm
      refine ⟨rfl, ?_⟩
      refine ⟨_, rfl, _, rfl, z, rfl, zsz, _, rfl, sa, us, rfl, hS.mono s3, a, rows[i], _, _, rfl, ha2, by rw [hw, zl], by omega, fun y hy => ?_, fun H5 s5 => ?_⟩
      · rw [hul]
        exact gr.rng _ hm y hy
      · refine ⟨_, s5 _ _ h3, ?_, Same.put (s3.trans s5) (s2.free hD1), ?_⟩
        · rw [List.length_replicate]
          exact Nat.lt_of_le_of_lt (show i ≤ 1000 by omega) (by decide)
        · rw [upd_same, ← List.replicate_succ']
    rintro H3 ⟨s3, h3⟩
    refine ⟨D1, List.replicate us.length true, rfl, SqL.of (by rw [h3, List.map_replicate]), _, rfl, ?_⟩
    have e2 : (List.replicate us.length true).all id = true := by simp
    rw [e2]
    refine iteF ?_
    -- if not isinstance(told, (list, tuple)) or len(told) != len(steps)
    have hTA : SqA K H ta (ms.map V.bl) := hT.elim .inl fun q => .inr (sqT_mono sd q)
    refine ⟨_, rfl, (by show 2 ≤ sizeLine; decide), fun t2 ht2 => ?_⟩
    have s4 := s3.trans (Same.new (o := .tup [.ty "list", .ty "tuple"]) ht2)
    obtain ⟨tt, htt, hkt⟩ := isSeq_kit (hTA.mono s4)
    refine ⟨_, t2, _, tt, _, _, rfl, upd_same, cls_lt, htt, hkt, _, rfl, iteF ?_⟩
    refine ⟨_, rfl, ta, _, rfl, hTA.mono s4, _, rfl, sa, us, rfl, hS.mono s4, rfl, _, rfl, ?_⟩
    refine iteNS (by rw [List.length_map, gr.mrk, hul]) ?_
    -- all([isinstance(mark, bool) for mark in told])
    refine ⟨_, rfl, ta, rfl, ?_⟩
    refine iSeq_of hTA s4 fun J wk => ?_
    intro D2 hD2
    refine lc_it wk (fun i H' => Same H H' ∧ H' D2 = some (.lst (List.replicate i (V.bl true)))) ⟨s4.trans (Same.new hD2), upd_same⟩ (fun _ _ _ z => z.1) ?_ ?_
    · rintro i v H5 H6 hi ⟨s5, h5⟩ ⟨rfl, hv⟩
      rw [List.getElem?_map] at hv
      obtain ⟨b, hb, rfl⟩ := Option.map_eq_some_iff.mp hv
      rw [List.length_map, gr.mrk] at hi
      refine ⟨rfl, ?_⟩
      refine ⟨_, rfl, _, _, _, _, _, rfl, .ty _, .base (.bl _), kit_ty (r := true) (by decide +kernel), _, h5, ?_, Same.put s5 (s4.free hD2), ?_⟩
      · rw [List.length_replicate]
        exact Nat.lt_of_le_of_lt (show i ≤ 1000 by omega) (by decide)
      · rw [upd_same, ← List.replicate_succ']
    rintro H5 ⟨s5, h5⟩
    refine ⟨D2, List.replicate (ms.map V.bl).length true, rfl, SqL.of (by rw [h5, List.map_replicate]), _, rfl, ?_⟩
    have e3 : (List.replicate (ms.map V.bl).length true).all id = true := by simp
    rw [e3]
    refine iteF ?_
    -- self.signs = signs
    refine ⟨_, rfl, _, rfl, x, _, dx, [], rfl, s5 _ _ hx, T.cl_Machine, T.n_Machine_signs, (by show 0 < 1000; decide), ?_⟩
    have st1 : Step (· = x) D H D (upd H5 x (.ins (a_Machine K) dx [("signs", .str z)])) := (Step.of_same sd s5).write (.inl rfl) dx0
    have offS : SqA K (off x H) sa us := hS.elim (fun q => .inl (off_sqL hx q)) fun q => .inr (off_sqT hx q)
    have hx1 : (upd H5 x (.ins (a_Machine K) dx [("signs", .str z)])) x = some (.ins (a_Machine K) dx [("signs", .str z)]) := upd_same
    -- self.steps = tuple([tuple(step) for step in steps])
    refine ⟨_, rfl, sa, rfl, ?_⟩
    refine iSeq_of offS st1.off fun J wk => ?_
    intro D3 hD3
    have h03 := st1.free hD3
    have ne3 : x ≠ D3 := ne_of_none hx1 hD3
    refine lc_it wk (fun i H' => ∃ (Di : Hp) (acc : List V), Step (· = x) D H Di H' ∧ H' x = some (.ins (a_Machine K) dx [("signs", .str z)]) ∧ Di x = none ∧ H' D3 = some (.lst acc) ∧ Di D3 = none ∧ acc.length = i ∧ DpAll K Di acc ((rows.take i).map rowD))
      ⟨D, [], st1.trans (Step.tmp st1.dh hD3), by rw [upd_ne ne3]; exact hx1, dx0, upd_same, sd.free h03, rfl, .nil⟩ (fun _ _ _ ⟨_, _, q, _⟩ => q.off) ?_ ?_
    · rintro i v H7 H8 hi ⟨Di, acc, st, hx7, dix, h7, di3, hl, hd⟩ ⟨rfl, hv⟩
      have hi2 : i < rows.length := by rw [← hul]; exact hi
      have ei := List.getElem?_eq_getElem hi2
      obtain ⟨a, rfl, ha⟩ := hrow i v rows[i] hv ei
      have alen : acc.length < sizeLine := by rw [hl]; exact Nat.lt_of_le_of_lt (show i ≤ 1000 by omega) (by decide)
      have etk : ((rows.take (i + 1)).map rowD) = (rows.take i).map rowD ++ [rowD rows[i]] := by
        rw [take_more ei, List.map_append]
        rfl
      refine ⟨rfl, ?_⟩
      refine ⟨_, rfl, a, rows[i].map V.int, rfl, ?_⟩
      rcases ha with ha | ha
      · refine .inl ⟨st.off.seq (off_sqL hx ha), fun l hl8 => ?_⟩
        have n3l : D3 ≠ l := ne_of_none h7 hl8
        have nxl : x ≠ l := ne_of_none hx7 hl8
        refine ⟨acc, by rw [upd_ne n3l]; exact h7, alen, ?_⟩
        have sn : Step (· = x) D H (upd Di l (.tup (rows[i].map V.int))) (upd H8 l (.tup (rows[i].map V.int))) := st.trans (Step.new st.dh hl8)
        refine ⟨_, _, sn.write (.inr h03) (by rw [upd_ne n3l]; exact di3), by rw [upd_ne ne3, upd_ne nxl]; exact hx7, by rw [upd_ne nxl]; exact dix, upd_same, by rw [upd_ne n3l]; exact di3, by rw [List.length_append, hl]; rfl, ?_⟩
        rw [etk]
        exact dpAll_app (dp_monoAll (same_new (st.dh.free hl8)) _ _ hd) (dpAll_one (.tup (SqT.of upd_same) (dpAll_ints _)))
      · refine .inr ⟨sqT_mono (st.dd.trans st.dh) ha, ?_⟩
        refine ⟨acc, h7, alen, ?_⟩
        refine ⟨Di, _, st.write (.inr h03) di3, by rw [upd_ne ne3]; exact hx7, dix, upd_same, di3, by rw [List.length_append, hl]; rfl, ?_⟩
        rw [etk]
        exact dpAll_app hd (dpAll_one (.tup (sqT_mono st.dd ha) (dpAll_ints _)))
    rintro H7 ⟨D7, acc, st7, hx7, d7x, h7, d73, hl7, hd7⟩
    rw [hul, List.take_length] at hd7
    refine ⟨D3, acc, rfl, .inl ⟨SqL.of h7, fun a1 ha1 => ?_⟩⟩
    have nxa : x ≠ a1 := ne_of_none hx7 ha1
    have st8 : Step (· = x) D H (upd D7 a1 (.tup acc)) (upd H7 a1 (.tup acc)) := st7.trans (Step.new st7.dh ha1)
    have d8 : Dp K (upd D7 a1 (.tup acc)) (.ref a1) (rowsD rows) := .tup (SqT.of upd_same) (dp_monoAll (same_new (st7.dh.free ha1)) _ _ hd7)
    refine ⟨_, rfl, x, _, dx, _, rfl, by rw [upd_ne nxa]; exact hx7, T.cl_Machine, T.n_Machine_steps, (by show 1 < 1000; decide), ?_⟩
    have ep : putF "steps" (V.ref a1) [(("signs" : Str), V.str z)] = fM2 z a1 := by kernel_rfl
    rw [ep]
    have d8x : (upd D7 a1 (.tup acc)) x = none := by rw [upd_ne nxa]; exact d7x
    have st9 := st8.write (o := .ins (a_Machine K) dx (fM2 z a1)) (.inl rfl) d8x
    generalize hH9 : upd (upd H7 a1 (.tup acc)) x (.ins (a_Machine K) dx (fM2 z a1)) = H9 at st9 ⊢
    have hx9 : H9 x = some (.ins (a_Machine K) dx (fM2 z a1)) := by rw [← hH9]; exact upd_same
    -- self.told = tuple(told)
    have ep2 : ∀ b : Addr, putF "told" (V.ref b) (fM2 z a1) = fM z a1 b := fun b => by kernel_rfl
    refine ⟨_, rfl, ta, ms.map V.bl, rfl, ?_⟩
    rcases hT with hT | hT
    · refine .inl ⟨st9.off.seq (off_sqL hx hT), fun b hb => ?_⟩
      have nxb : x ≠ b := ne_of_none hx9 hb
      refine ⟨_, rfl, x, _, dx, _, rfl, by rw [upd_ne nxb]; exact hx9, T.cl_Machine, T.n_Machine_told, (by show 2 < 1000; decide), ?_⟩
      rw [ep2]
      have st10 : Step (· = x) D H (upd (upd D7 a1 (.tup acc)) b (.tup (ms.map V.bl))) (upd H9 b (.tup (ms.map V.bl))) := st9.trans (Step.new st9.dh hb)
      have dbx : (upd (upd D7 a1 (.tup acc)) b (.tup (ms.map V.bl))) x = none := by rw [upd_ne nxb]; exact d8x
      exact k _ _ a1 b (st10.write (.inl rfl) dbx) dbx upd_same (dp_mono (same_new (st9.dh.free hb)) _ _ d8) (.tup (SqT.of upd_same) (dpAll_bools _))
    · refine .inr ⟨sqT_mono (st9.dd.trans st9.dh) hT, ?_⟩
      refine ⟨_, rfl, x, _, dx, _, rfl, hx9, T.cl_Machine, T.n_Machine_told, (by show 2 < 1000; decide), ?_⟩
      rw [ep2]
      exact k _ _ a1 ta (st9.write (.inl rfl) d8x) d8x upd_same d8 (.tup (sqT_mono st9.dd hT) (dpAll_bools _))
end
end Rg
namespace Rg
open PySem PySem.Spec PyProof.Rows L2
section
variable {P : Program} {w : World} {K : PySem.W.Frag} {mg : Str → Option Value} {base : Heap}
/-! ### a machine that is made -/
structure Mach (K : PySem.W.Frag) (H : Hp) (x : Addr) (z : Str) (rows : List (List Int)) (ms : List Bool) : Prop where
  ex : ∃ (dx a b : Addr), H x = some (.ins (a_Machine K) dx (fM z a b)) ∧ Dp K H (.ref a) (rowsD rows) ∧ Dp K H (.ref b) (marksD ms)
  gz : GoodSigns z
  gr : GoodRows z.cps.toList.length rows ms
theorem Mach.mono {H H' : Hp} {x : Addr} {z : Str} {rows : List (List Int)} {ms : List Bool} (h : Mach K H x z rows ms) (e : Same H H') : Mach K H' x z rows ms := by
  obtain ⟨⟨dx, a, b, h1, h2, h3⟩, gz, gr⟩ := h
  exact ⟨⟨dx, a, b, e _ _ h1, dp_mono e _ _ h2, dp_mono e _ _ h3⟩, gz, gr⟩
def nextM (z : List Nat) (rows : List (List Int)) (i : Int) (c : Nat) : Int := ((rows.getD i.toNat []).getD (z.idxOf c) 0)
def runM (z : List Nat) (rows : List (List Int)) (i : Int) (t : List Nat) : Int := t.foldl (nextM z rows) i
theorem getD_of {α : Type} {l : List α} {i : Nat} {x d : α} (h : l[i]? = some x) : l.getD i d = x := by rw [List.getD_eq_getElem?_getD, h]; rfl
theorem next_at {z : List Nat} {rows : List (List Int)} {ms : List Bool} {i : Int} {c : Nat} (g : GoodRows z.length rows ms) (h0 : 0 ≤ i) (h1 : i < rows.length) (hc : c ∈ z) : ∃ r, rows[i.toNat]? = some r ∧ r[z.idxOf c]? = some (nextM z rows i c) ∧ 0 ≤ nextM z rows i c ∧ nextM z rows i c < rows.length := by
  have hi : i.toNat < rows.length := by omega
  have e1 := List.getElem?_eq_getElem hi
  have hm := List.getElem_mem hi
  have hl : z.idxOf c < (rows[i.toNat]).length := by
    rw [g.wid _ hm]
    exact List.idxOf_lt_length_of_mem hc
  have e2 := List.getElem?_eq_getElem hl
  have e3 : nextM z rows i c = (rows[i.toNat])[z.idxOf c] := by
    unfold nextM
    rw [getD_of e1, getD_of e2]
  exact ⟨_, e1, by rw [e2, e3], by rw [e3]; exact (g.rng _ hm _ (List.getElem_mem hl)).1, by rw [e3]; exact (g.rng _ hm _ (List.getElem_mem hl)).2⟩
theorem run_snoc {z : List Nat} {rows : List (List Int)} {i : Int} {t : List Nat} {c : Nat} : runM z rows i (t ++ [c]) = nextM z rows (runM z rows i t) c := by
  unfold runM
  rw [List.foldl_append]
  rfl
theorem run_rng {z : List Nat} {rows : List (List Int)} {ms : List Bool} (g : GoodRows z.length rows ms) : ∀ (t : List Nat) (i : Int), 0 ≤ i → i < rows.length → (∀ c ∈ t, c ∈ z) → 0 ≤ runM z rows i t ∧ runM z rows i t < rows.length
  | [], i, h0, h1, _ => ⟨h0, h1⟩
  | c :: t, i, h0, h1, ht => by
    obtain ⟨r, _, _, e3, e4⟩ := next_at g h0 h1 (ht c List.mem_cons_self)
    exact run_rng g t _ e3 e4 fun c' hc => ht c' (List.mem_cons_of_mem _ hc)
theorem atI_of {α : Type} {xs : List α} {i : Int} {v : α} (h0 : 0 ≤ i) (h : xs[i.toNat]? = some v) : atI xs i = some v := by
  have e := atI_nat h
  rw [Int.toNat_of_nonneg h0] at e
  exact e
/-! ### Machine.step -/
def spMStep (K : PySem.W.Frag) : Sp := fun vs H Q _ => ∃ (x : Addr) (z : Str) (rows : List (List Int)) (ms : List Bool) (i : Int) (t : Str), vs = [.ref x, .int i, .str t] ∧ Mach K H x z rows ms ∧ 0 ≤ i ∧ i < rows.length ∧ (∀ c ∈ t.cps.toList, c ∈ z.cps.toList) ∧
  ∀ H', Same H H' → Q (.int (runM z.cps.toList rows i t.cps.toList)) H'
theorem ok_step {f : Addr} {fd : FuncData} (F : FunD K "step" "Machine.step" (defArgs s_step) (defBody s_step) (defScope s_step) [] [] f fd) (T : Tx K mg) : FnOk P w K mg base CX0 2 f fd ["self", "state", "text"] (spMStep K) := by
  refine F.ok sc_step (fun vs H Q E h => ?_) (fun cdv A outer s H vs Q E hr h => ?_)
  · obtain ⟨x, z, rows, ms, i, t, rfl, _⟩ := h
    rfl
  · obtain ⟨x, z, rows, ms, i, t, rfl, ⟨⟨dx, a, b, hx, da, db⟩, gz, gr⟩, i0, i1, ht, k⟩ := h
    obtain ⟨a', us, ea, sa, ua⟩ := dp_tup da
    cases ea
    have ul : us.length = rows.length := by rw [dpAll_len ua, List.length_map]
    have p1 := gr.pos
    refine ⟨_, PSs.nox (pss_cons (ps_if (pt_not (pt_val (pe_cX (cWhole T) hr (by decide) (by rfl) pass0 (pa_cons (pv 1) (pa_cons pe_int (pa_cons (pe_op op_sub (pe_callB (call_len_seqK K) (by rfl) T.f_len (by decide +kernel) (pa_cons (pe_fldK K (pv 0)) pa_nil)) pe_int) pa_nil))))))
      (pss_one ps_never) pss_nil)
      (pss_cons (ps_expr (pe_cX (cNeedRow T) hr (by decide) (by rfl) pass0 (pa_cons (pe_fldK K (pv 0)) (pa_cons (pv 2) pa_nil))))
      (pss_cons (ps_setDc (j := 3) (own := [("at", 5), ("sign", 4)]) (tt := tYes) (by rfl) sc_step.nd rfl rfl (sw_trueD rfl rfl rfl (by decide +kernel)) (pi_enumS (by rfl) T.f_enumerate (pa_cons (pe_fldK K (pv 0)) pa_nil)) (blkOk_by (by kernel_rfl)) (fun _ _ _ _ _ => (pg_tupK K (n := 2) rfl (pgs_cons (pg_name (i := 5) sc_step.nd rfl (Or.inl rfl)) (pgs_cons (pg_name (i := 4) sc_step.nd rfl (Or.inl rfl)) pgs_nil)))) (fun _ _ _ _ _ => pts_nil) (fun _ _ _ _ _ => (pv 4)) (fun _ _ _ _ _ => (pv 5)))
      (pss_cons (ps_for PassesOwn.never rfl (pi_str (pv 2)) (pg_name (i := 4) sc_step.nd rfl (Or.inl rfl))
      (pss_one (ps_set (i := 1) sc_step.nd rfl (Or.inl rfl) (pe_ix (ix_tupK K) (pe_ix (ix_tupK K) (pe_fldK K (pv 0)) (pv 1) (fun _ _ => rfl)) (pe_dget (hu1 hr.units) (pv 3) (pv 4) (fun _ _ => rfl)) (fun _ _ => rfl)))))
      (pss_one (ps_ret (pv 1))))))), ?_⟩
    -- if not is_whole(state, 0, len(self.steps) - 1)
    refine ⟨_, rfl, _, rfl, x, _, dx, _, _, rfl, hx, T.cl_Machine, T.n_Machine_steps, rfl, a, us, rfl, .inr sa, _, _, rfl, rfl, i, 0, _, rfl, _, rfl, ?_⟩
    have e1 : decide (0 ≤ i ∧ i ≤ (us.length : Int) - 1) = true := decide_eq_true ⟨i0, by omega⟩
    rw [e1]
    refine iteF ?_
    -- need_row(self.signs, text)
    refine ⟨_, rfl, x, _, dx, _, _, rfl, hx, T.cl_Machine, T.n_Machine_signs, rfl, _, rfl, z, t, rfl, ht, fun H1 s1 => ?_⟩
    -- indexes = {sign: at for at, sign in enumerate(self.signs)}
    refine ⟨_, rfl, x, _, dx, _, _, rfl, s1 _ _ hx, T.cl_Machine, T.n_Machine_signs, rfl, z, rfl, fun D hD => ?_⟩
    refine dc_it walk_enumS (fun j H' => Same H H' ∧ ∃ kvs, H' D = some (.dK kvs) ∧ kvs.length ≤ j ∧ ∀ n c, n < j → z.cps.toList[n]? = some c → valV kvs (Sum.inr (sgn c)) = some (V.int n)) ⟨s1.trans (Same.new hD), [], upd_same, Nat.le_refl _, fun _ _ h => absurd h (Nat.not_lt_zero _)⟩ (fun _ _ _ _ => trivial) ?_ ?_
    · rintro j v H2 H3 hj ⟨s2, kvs, h2, hl, hk⟩ ⟨u, c, rfl, hu, rfl, hc⟩
      have hc' : z.cps.toList[j]? = some c := by rw [← get_tl]; exact hc
      refine ⟨u, _, rfl, SqT.of upd_same, rfl, _, _, rfl, _, _, rfl, rfl, ?_⟩
      have g2 := gz.few
      rw [size_tl] at hj
      refine ⟨rfl, ?_⟩
      refine ⟨_, rfl, _, rfl, kvs, Sum.inr (sgn c), rfl, by rw [upd_ne (ne_of_none h2 hu)]; exact h2, Nat.lt_of_le_of_lt (show kvs.length ≤ 1000 by omega) (by decide), Same.put (s2.trans (Same.new hu)) (s1.free hD), _, upd_same, Nat.le_trans (length_putK _ _ _) (by omega), ?_⟩
      intro n c' hn hc2
      rw [valV_put]
      by_cases q : c' = c
      · subst q
        rw [nd_at gz.nd hc2 hc', if_pos rfl]
      · rw [if_neg (fun e => q (sgn_inj (Sum.inr.inj e)))]
        refine hk n c' ?_ hc2
        rcases Nat.lt_or_eq_of_le (Nat.le_of_lt_succ hn) with h | h
        · exact h
        · subst h
          rw [hc'] at hc2
          exact absurd (Option.some.inj hc2).symm q
    rintro H2 ⟨s2, kvs, h2, hl, hk⟩
    -- for sign in text
    refine ⟨_, rfl, t, rfl, for_it walk_str (fun j σ H' => ∃ v, σ = [some (.ref x), some (.int (runM z.cps.toList rows i (t.cps.toList.take j))), some (.str t), some (.ref D), v, none] ∧ H' = H2) ⟨none, rfl, rfl⟩ (fun _ _ _ _ _ => trivial) ?_ ?_⟩
    · rintro j v σ H3 H4 hj ⟨v0, rfl, rfl⟩ ⟨rfl, c, hc, rfl⟩
      have hc' : t.cps.toList[j]? = some c := by rw [← get_tl]; exact hc
      have hcz := ht c (mem_of_at hc')
      obtain ⟨r0, r1⟩ := run_rng gr (t.cps.toList.take j) i i0 i1 fun c' h => ht c' (List.mem_of_mem_take h)
      obtain ⟨r, e1, e2, _, _⟩ := next_at gr r0 r1 hcz
      obtain ⟨uv, hu1', hu2⟩ := dpAll_at ua (show (rows.map rowD)[(runM z.cps.toList rows i (t.cps.toList.take j)).toNat]? = some (rowD r) by rw [List.getElem?_map, e1]; rfl)
      obtain ⟨q, ws, rfl, sq, wq⟩ := dp_tup hu2
      have ew := dpAll_ints_eq wq
      subst ew
      refine ⟨_, rfl, x, _, dx, _, _, rfl, s2 _ _ hx, T.cl_Machine, T.n_Machine_steps, rfl, _, rfl, a, us, _, .ref q, rfl, rfl, sqT_mono s2 sa, atI_of r0 hu1', ?_⟩
      have hkc := hk _ _ (by rw [size_tl]; exact List.idxOf_lt_length_of_mem hcz) (idx_at hcz)
      refine ⟨_, rfl, _, rfl, D, .int (z.cps.toList.idxOf c : Nat), rfl, ?_, q, _, _, .int (nextM z.cps.toList rows (runM z.cps.toList rows i (t.cps.toList.take j)) c), rfl, rfl, sqT_mono s2 sq, ?_, ?_⟩
      · have dg := DGet.k (k := Sum.inr (sgn c)) h2
        rw [hkc] at dg
        exact dg
      · refine atI_nat ?_
        rw [List.getElem?_map, e2]
        rfl
      · rw [← run_snoc, ← take_more hc']
        exact ⟨_, rfl, rfl⟩
    · rintro σ H3 ⟨v, rfl, rfl⟩
      rw [size_tl, List.take_length]
      exact ⟨_, rfl, k _ s2⟩
theorem cMStep (T : Tx K mg) : MetX P w K mg base CX0 2 (a_Machine K) "step" (spMStep K) := c_step T fun _ F => ok_step F T
/-! ### state, len, [ ], in -/
def spMState (K : PySem.W.Frag) : Sp := fun vs H Q _ => ∃ (x : Addr) (z : Str) (rows : List (List Int)) (ms : List Bool) (t : Str), vs = [.ref x, .str t] ∧ Mach K H x z rows ms ∧ (∀ c ∈ t.cps.toList, c ∈ z.cps.toList) ∧
  ∀ H', Same H H' → Q (.int (runM z.cps.toList rows 0 t.cps.toList)) H'
theorem pos_len {z : Str} {rows : List (List Int)} {ms : List Bool} {n : Nat} (g : GoodRows n rows ms) : (0 : Int) < rows.length := by
  have := g.pos
  omega
theorem ok_state {f : Addr} {fd : FuncData} (F : FunD K "state" "Machine.state" (defArgs s_state) (defBody s_state) (defScope s_state) [] [] f fd) (T : Tx K mg) : FnOk P w K mg base CX0 3 f fd ["self", "row"] (spMState K) := by
  refine F.ok sc_state (fun vs H Q E h => ?_) (fun cdv A outer s H vs Q E hr h => ?_)
  · obtain ⟨x, z, rows, ms, t, rfl, _⟩ := h
    rfl
  · obtain ⟨x, z, rows, ms, t, rfl, M, ht, k⟩ := h
    obtain ⟨dx, a, b, hx, _, _⟩ := M.ex
    refine ⟨_, PSs.nox (pss_one (ps_ret (pe_mX (pv 0) T.cl_Machine (cMStep T) hr (by decide) pass0 (pa_cons pe_int (pa_cons (pv 1) pa_nil))))), ?_⟩
    exact ⟨_, rfl, x, dx, _, rfl, hx, rfl, _, rfl, x, z, rows, ms, 0, t, rfl, M, Int.le_refl 0, pos_len (z := z) M.gr, ht, k⟩
theorem cMState (T : Tx K mg) : MetX P w K mg base CX0 3 (a_Machine K) "state" (spMState K) := c_state T fun _ F => ok_state F T
def spMLen (K : PySem.W.Frag) : Sp := fun vs H Q _ => ∃ (x : Addr) (z : Str) (rows : List (List Int)) (ms : List Bool), vs = [.ref x] ∧ Mach K H x z rows ms ∧ Q (.int rows.length) H
theorem ok_mlen {f : Addr} {fd : FuncData} (F : FunD K "__len__" "Machine.__len__" (defArgs s_mlen) (defBody s_mlen) (defScope s_mlen) [] [] f fd) (T : Tx K mg) : FnOk P w K mg base CX0 1 f fd ["self"] (spMLen K) := by
  refine F.ok sc_mlen (fun vs H Q E h => ?_) (fun cdv A outer s H vs Q E hr h => ?_)
  · obtain ⟨x, z, rows, ms, rfl, _⟩ := h
    rfl
  · obtain ⟨x, z, rows, ms, rfl, M, k⟩ := h
    obtain ⟨dx, a, b, hx, da, _⟩ := M.ex
    obtain ⟨a', us, ea, sa, ua⟩ := dp_tup da
    cases ea
    have ul : us.length = rows.length := by rw [dpAll_len ua, List.length_map]
    refine ⟨_, PSs.nox (pss_one (ps_ret (pe_callB (call_len_seqK K) (by rfl) T.f_len (by decide +kernel) (pa_cons (pe_fldK K (pv 0)) pa_nil)))), ?_⟩
    refine ⟨_, rfl, x, _, dx, _, _, rfl, hx, T.cl_Machine, T.n_Machine_steps, rfl, a, us, rfl, .inr sa, ?_⟩
    rw [ul]
    exact k
theorem cMLen (T : Tx K mg) : MetX P w K mg base CX0 1 (a_Machine K) "__len__" (spMLen K) := c_mlen T fun _ F => ok_mlen F T
def toldM (z : List Nat) (rows : List (List Int)) (ms : List Bool) (t : List Nat) : Bool := ms.getD (runM z rows 0 t).toNat false
theorem told_at {z : Str} {rows : List (List Int)} {ms : List Bool} {t : List Nat} (g : GoodRows z.cps.toList.length rows ms) (ht : ∀ c ∈ t, c ∈ z.cps.toList) : 0 ≤ runM z.cps.toList rows 0 t ∧ ms[(runM z.cps.toList rows 0 t).toNat]? = some (toldM z.cps.toList rows ms t) := by
  obtain ⟨r0, r1⟩ := run_rng g t 0 (Int.le_refl 0) (pos_len (z := z) g) ht
  have hm := g.mrk
  have hl : (runM z.cps.toList rows 0 t).toNat < ms.length := by omega
  refine ⟨r0, ?_⟩
  unfold toldM
  rw [List.getElem?_eq_getElem hl, getD_of (List.getElem?_eq_getElem hl)]
def spMGet (K : PySem.W.Frag) : Sp := fun vs H Q _ => ∃ (x : Addr) (z : Str) (rows : List (List Int)) (ms : List Bool) (t : Str), vs = [.ref x, .str t] ∧ Mach K H x z rows ms ∧ (∀ c ∈ t.cps.toList, c ∈ z.cps.toList) ∧
  ∀ H', Same H H' → Q (.bl (toldM z.cps.toList rows ms t.cps.toList)) H'
theorem ok_mget {f : Addr} {fd : FuncData} (F : FunD K "__getitem__" "Machine.__getitem__" (defArgs s_mget) (defBody s_mget) (defScope s_mget) [] [] f fd) (T : Tx K mg) : FnOk P w K mg base CX0 4 f fd ["self", "row"] (spMGet K) := by
  refine F.ok sc_mget (fun vs H Q E h => ?_) (fun cdv A outer s H vs Q E hr h => ?_)
  · obtain ⟨x, z, rows, ms, t, rfl, _⟩ := h
    rfl
  · obtain ⟨x, z, rows, ms, t, rfl, M, ht, k⟩ := h
    obtain ⟨dx, a, b, hx, _, db⟩ := M.ex
    obtain ⟨b', us, eb, sb, ub⟩ := dp_tup db
    cases eb
    have ew := dpAll_bools_eq ub
    subst ew
    obtain ⟨r0, r1⟩ := told_at M.gr ht
    refine ⟨_, PSs.nox (pss_one (ps_ret (pe_ix (ix_tupK K) (pe_fldK K (pv 0)) (pe_mX (pv 0) T.cl_Machine (cMState T) hr (by decide) pass0 (pa_cons (pv 1) pa_nil)) (fun _ _ => rfl)))), ?_⟩
    refine ⟨_, rfl, x, _, dx, _, _, rfl, hx, T.cl_Machine, T.n_Machine_told, rfl, _, rfl, x, dx, _, rfl, hx, rfl, _, rfl, x, z, rows, ms, t, rfl, M, ht, fun H1 s1 => ?_⟩
    refine ⟨b, _, _, _, rfl, rfl, sqT_mono s1 sb, atI_of r0 ?_, k _ s1⟩
    rw [List.getElem?_map, r1]
    rfl
theorem cMGet (T : Tx K mg) : MetX P w K mg base CX0 4 (a_Machine K) "__getitem__" (spMGet K) := c_mget T fun _ F => ok_mget F T
def spMIn (K : PySem.W.Frag) : Sp := fun vs H Q _ => ∃ (x : Addr) (z : Str) (rows : List (List Int)) (ms : List Bool) (t : Str), vs = [.ref x, .str t] ∧ Mach K H x z rows ms ∧ (∀ c ∈ t.cps.toList, c ∈ z.cps.toList) ∧ t.cps.toList.length ≤ 1000 ∧
  ∀ H', Same H H' → Q (.bl (toldM z.cps.toList rows ms t.cps.toList)) H'
theorem ok_mcon {f : Addr} {fd : FuncData} (F : FunD K "__contains__" "Machine.__contains__" (defArgs s_mcon) (defBody s_mcon) (defScope s_mcon) [] [] f fd) (T : Tx K mg) : FnOk P w K mg base CX0 4 f fd ["self", "thing"] (spMIn K) := by
  refine F.ok sc_mcon (fun vs H Q E h => ?_) (fun cdv A outer s H vs Q E hr h => ?_)
  · obtain ⟨x, z, rows, ms, t, rfl, _⟩ := h
    rfl
  · obtain ⟨x, z, rows, ms, t, rfl, M, ht, hl, k⟩ := h
    obtain ⟨dx, a, b, hx, _, db⟩ := M.ex
    obtain ⟨b', us, eb, sb, ub⟩ := dp_tup db
    cases eb
    have ew := dpAll_bools_eq ub
    subst ew
    obtain ⟨r0, r1⟩ := told_at M.gr ht
    refine ⟨_, PSs.nox (pss_one (ps_ret (pe_and (pe_cX (cRow T) hr (by decide) (by rfl) pass0 (pa_cons (pe_fldK K (pv 0)) (pa_cons (pv 1) pa_nil))) (pe_one (pe_ix (ix_tupK K) (pe_fldK K (pv 0)) (pe_mX (pv 0) T.cl_Machine (cMState T) hr (by decide) pass0 (pa_cons (pv 1) pa_nil)) (fun _ _ => rfl)))))), ?_⟩
    refine ⟨_, rfl, x, _, dx, _, _, rfl, hx, T.cl_Machine, T.n_Machine_signs, rfl, _, rfl, z, t, rfl, hl, fun H1 s1 => ?_⟩
    have e1 : (t.cps.toList.all fun c => decide (c ∈ z.cps.toList)) = true := List.all_eq_true.mpr fun c hc => decide_eq_true (ht c hc)
    rw [e1]
    refine ⟨_, rfl, iteT ?_⟩
    refine ⟨_, rfl, x, _, dx, _, _, rfl, s1 _ _ hx, T.cl_Machine, T.n_Machine_told, rfl, _, rfl, x, dx, _, rfl, s1 _ _ hx, rfl, _, rfl, x, z, rows, ms, t, rfl, M.mono s1, ht, fun H2 s2 => ?_⟩
    refine ⟨b, _, _, _, rfl, rfl, sqT_mono (s1.trans s2) sb, atI_of r0 ?_, k _ (s1.trans s2)⟩
    rw [List.getElem?_map, r1]
    rfl
theorem cMIn (T : Tx K mg) : MetX P w K mg base CX0 4 (a_Machine K) "__contains__" (spMIn K) := c_mcon T fun _ F => ok_mcon F T
theorem getIn (T : Tx K mg) : ∀ f, Meth K (a_Machine K) "__getitem__" f → PySem.W.fnIn K f = true := fun f h => by
  have e := h.at_
  rw [T.m_mget.at_] at e
  cases e
  exact T.getIn
end
end Rg
namespace Rg
open PySem PySem.Spec PyProof.Rows L2
section
variable {P : Program} {w : World} {K : PySem.W.Frag} {mg : Str → Option Value} {base : Heap}
/-! ### the pen -/
theorem cut_ints (ns : List Int) (lo hi : Option Int) : ∃ ms : List Int, cutV (ns.map V.int) lo hi = ms.map V.int := by
  unfold cutV
  rw [← List.map_drop, ← List.map_take]
  exact ⟨_, rfl⟩
def spPen (K : PySem.W.Frag) : Sp := fun vs H Q _ => ∃ (a : Addr) (ns : List Int), vs = [.ref a] ∧ SqL K H a (ns.map V.int) ∧ ∀ (D' H' : Hp) (p : Addr), Step NoW H H D' H' → PenAt K D' H' p 900000 → Q (.ref p) H'
theorem ok_pen {f : Addr} {fd : FuncData} (F : FunD K "_law_pen" "_law_pen" (defArgs s_pen) (defBody s_pen) (defScope s_pen) [] [] f fd) (T : Tx K mg) : FnOk P w K mg base CX0 1 f fd ["_law_script"] (spPen K) := by
  refine F.ok sc_pen (fun vs H Q E h => ?_) (fun cdv A outer s H vs Q E hr h => ?_)
  · obtain ⟨a, ns, rfl, _⟩ := h
    rfl
  · obtain ⟨a, ns, rfl, hS, k⟩ := h
    refine ⟨_, PSs.nox (pss_one (ps_ret (pe_lst (pa_cons (pe_callTy (call_list_ofK K) (by rfl) T.f_list (by decide +kernel) (pa_cons (pe_slice (sl_listK K) (pv 0) po_none (po_some pe_int)) pa_nil)) (pa_cons pe_int (pa_cons pe_int pa_nil)))))), ?_⟩
    obtain ⟨ms, em⟩ := cut_ints ns none (some 63)
    refine ⟨_, rfl, _, rfl, a, _, rfl, hS, fun p1 h1 => ⟨p1, _, rfl, .inl (SqL.of upd_same), fun p2 h2 => ⟨(by show 3 ≤ sizeLine; decide), fun p3 h3 => ?_⟩⟩⟩
    rw [em] at h2 h3 ⊢
    have st1 : Step NoW H H H (upd H p1 (.lst (ms.map V.int))) := Step.tmp (Same.refl H) h1
    have st2 := st1.trans (Step.new (o := .lst (ms.map V.int)) st1.dh h2)
    have st3 := st2.trans (Step.tmp (o := .lst [.ref p2, .int 0, .int 0]) st2.dh h3)
    exact k _ _ p3 st3 ⟨st2.dh.free h3, p2, ms, 0, 0, upd_same, SqL.of upd_same, Int.le_refl 0, by decide⟩
theorem cPen (T : Tx K mg) : CalX P w K mg base CX0 1 "_law_pen" (spPen K) := c_pen T fun _ F => ok_pen F T
/-! ### one of some things: of a list, of a text -/
def spPickL (K : PySem.W.Frag) : Sp := fun vs H Q _ => ∃ (D : Hp) (p a : Addr) (xs : List V) (n : Nat), vs = [.ref p, .ref a] ∧ Same D H ∧ PenAt K D H p (n + 1) ∧ SqL K D a xs ∧ 1 ≤ xs.length ∧ xs.length < 1000000 ∧
  ∀ (H' : Hp) (v : V), Step (· = p) D H D H' → PenAt K D H' p n → v ∈ xs → Q v H'
theorem at_mem {α : Type} {xs : List α} {r : Int} (h0 : 0 ≤ r) (h1 : r < xs.length) : ∃ v, v ∈ xs ∧ atI xs r = some v := by
  have hl : r.toNat < xs.length := by omega
  exact ⟨xs[r.toNat], List.getElem_mem hl, atI_of h0 (List.getElem?_eq_getElem hl)⟩
theorem ok_pick {f : Addr} {fd : FuncData} (F : FunD K "_law_pick" "_law_pick" (defArgs s_pick) (defBody s_pick) (defScope s_pick) [] [] f fd) (T : Tx K mg) : FnOk P w K mg base CX0 2 f fd ["_law_pen_here", "_law_some"] (spPickL K) := by
  refine F.ok sc_pick (fun vs H Q E h => ?_) (fun cdv A outer s H vs Q E hr h => ?_)
  · obtain ⟨D, p, a, xs, n, rfl, _⟩ := h
    rfl
  · obtain ⟨D, p, a, xs, n, rfl, sd, pen, hS, l1, l2, k⟩ := h
    refine ⟨_, PSs.nox (pss_one (ps_ret (pe_ix (ix_listK K) (pv 1) (pe_cX (cDraw T) hr (by decide) (by rfl) pass0 (pa_cons (pv 0) (pa_cons (pe_callB (call_len_seqK K) (by rfl) T.f_len (by decide +kernel) (pa_cons (pv 1) pa_nil)) pa_nil))) (fun _ _ => rfl)))), ?_⟩
    refine ⟨_, rfl, _, rfl, _, rfl, a, _, rfl, .inl (sd.seq hS), D, p, _, n, rfl, sd, pen, by omega, by omega, fun H' r st pen' r0 r1 => ?_⟩
    obtain ⟨v, hv, ha⟩ := at_mem r0 r1
    exact ⟨a, _, _, v, rfl, rfl, st.dh.seq hS, ha, k _ v st pen' hv⟩
theorem cPick (T : Tx K mg) : CalX P w K mg base CX0 2 "_law_pick" (spPickL K) := c_pick T fun _ F => ok_pick F T
def spPickS (K : PySem.W.Frag) : Sp := fun vs H Q _ => ∃ (D : Hp) (p : Addr) (z : Str) (n : Nat), vs = [.ref p, .str z] ∧ Same D H ∧ PenAt K D H p (n + 1) ∧ 1 ≤ z.cps.toList.length ∧ z.cps.toList.length ≤ 1000 ∧
  ∀ (H' : Hp) (c : Nat), Step (· = p) D H D H' → PenAt K D H' p n → c ∈ z.cps.toList → Q (.str (sgn c)) H'
theorem ok_pickS {f : Addr} {fd : FuncData} (F : FunD K "_law_pick" "_law_pick" (defArgs s_pick) (defBody s_pick) (defScope s_pick) [] [] f fd) (T : Tx K mg) : FnOk P w K mg base CX0 2 f fd ["_law_pen_here", "_law_some"] (spPickS K) := by
  refine F.ok sc_pick (fun vs H Q E h => ?_) (fun cdv A outer s H vs Q E hr h => ?_)
  · obtain ⟨D, p, z, n, rfl, _⟩ := h
    rfl
  · obtain ⟨D, p, z, n, rfl, sd, pen, l1, l2, k⟩ := h
    have zl := len_tl z
    have zs : z.length ≤ sizeLine := small_line (by omega)
    refine ⟨_, PSs.nox (pss_one (ps_ret (pe_ix ix_str (pv 1) (pe_cX (cDraw T) hr (by decide) (by rfl) pass0 (pa_cons (pv 0) (pa_cons (pe_callB call_len_str (by rfl) T.f_len (by decide +kernel) (pa_cons (pv 1) pa_nil)) pa_nil))) (fun _ _ => rfl)))), ?_⟩
    refine ⟨_, rfl, _, rfl, _, rfl, z, rfl, zs, D, p, _, n, rfl, sd, pen, by omega, by omega, fun H' r st pen' r0 r1 => ?_⟩
    rw [zl] at r1
    obtain ⟨c, hc, ha⟩ := at_mem r0 r1
    exact ⟨z, _, c, rfl, rfl, zs, ha, k _ c st pen' hc⟩
theorem cPickS (T : Tx K mg) : CalX P w K mg base CX0 2 "_law_pick" (spPickS K) := c_pick T fun _ F => ok_pickS F T
/-! ### one to four letters -/
def spLets (K : PySem.W.Frag) : Sp := fun vs H Q _ => ∃ (D : Hp) (p : Addr) (n : Nat), vs = [.ref p] ∧ Same D H ∧ PenAt K D H p (n + 1) ∧
  ∀ (D' H' : Hp) (z : Str), Step (· = p) D H D' H' → PenAt K D' H' p n → GoodSigns z → Q (.str z) H'
def someSigns : List Str := ["xo", "xo", "ox", "a", "abc", "zyxw"]
theorem some_good : ∀ z ∈ someSigns, GoodSigns z := by
  intro z hz
  simp only [someSigns, List.mem_cons, List.not_mem_nil, or_false] at hz
  rcases hz with rfl | rfl | rfl | rfl | rfl | rfl <;> exact ⟨by decide +kernel, by decide +kernel, by decide +kernel, by decide +kernel⟩
theorem ok_lets {f : Addr} {fd : FuncData} (F : FunD K "_law_letters" "_law_letters" (defArgs s_lets) (defBody s_lets) (defScope s_lets) [] [] f fd) (T : Tx K mg) : FnOk P w K mg base CX0 3 f fd ["_law_pen_here"] (spLets K) := by
  refine F.ok sc_lets (fun vs H Q E h => ?_) (fun cdv A outer s H vs Q E hr h => ?_)
  · obtain ⟨D, p, n, rfl, _⟩ := h
    rfl
  · obtain ⟨D, p, n, rfl, sd, pen, k⟩ := h
    refine ⟨_, PSs.nox (pss_one (ps_ret (pe_cX (cPick T) hr (by decide) (by rfl) pass0 (pa_cons (pv 0) (pa_cons (pe_lst (pa_cons pe_str (pa_cons pe_str (pa_cons pe_str (pa_cons pe_str (pa_cons pe_str (pa_cons pe_str pa_nil))))))) pa_nil))))), ?_⟩
    refine ⟨_, rfl, (by show 6 ≤ sizeLine; decide), fun l hl => ?_⟩
    have st : Step (· = p) D H (upd D l (.lst (someSigns.map V.str))) (upd H l (.lst (someSigns.map V.str))) := Step.new sd hl
    have pl : p ≠ l := fun e => pen.there (by rw [e]; exact hl)
    have pen1 : PenAt K (upd D l (.lst (someSigns.map V.str))) (upd H l (.lst (someSigns.map V.str))) p (n + 1) := pen.keep (Step.new (W := NoW) sd hl) (fun z => z)
    refine ⟨upd D l (.lst (someSigns.map V.str)), p, l, someSigns.map V.str, n, rfl, st.dh, pen1, SqL.of upd_same, by decide, by decide, fun H' v st' pen' hv => ?_⟩
    obtain ⟨z, hz, rfl⟩ := List.mem_map.mp hv
    exact k _ _ z (st.trans st') pen' (some_good z hz)
theorem cLets (T : Tx K mg) : CalX P w K mg base CX0 3 "_law_letters" (spLets K) := c_lets T fun _ F => ok_lets F T
/-! ### the plan of a machine -/
def lineD (r : List Int) : PyData := .list (r.map PyData.int)
def tableD (rows : List (List Int)) : PyData := .list (rows.map lineD)
def listD (ms : List Bool) : PyData := .list (ms.map PyData.bool)
def spPlan (K : PySem.W.Frag) : Sp := fun vs H Q _ => ∃ (D : Hp) (p : Addr) (z : Str) (b : Int) (n : Nat), vs = [.ref p, .str z, .int b] ∧ Same D H ∧ PenAt K D H p (n + 600) ∧ z.cps.toList.length ≤ 4 ∧ 1 ≤ b ∧ b ≤ 100 ∧
  ∀ (D' H' : Hp) (t a c : Addr) (rows : List (List Int)) (ms : List Bool), Step (· = p) D H D' H' → PenAt K D' H' p n → GoodRows z.cps.toList.length rows ms → (rows.length : Int) ≤ b →
    D' t = some (.tup [.ref a, .ref c]) → Dp K D' (.ref a) (tableD rows) → Dp K D' (.ref c) (listD ms) → (∃ us, D' a = some (.lst us) ∧ DpAll K D' us (rows.map lineD)) → D' c = some (.lst (ms.map V.bl)) → Q (.ref t) H'
theorem ok_plan {f : Addr} {fd : FuncData} (F : FunD K "_law_plan" "_law_plan" (defArgs s_plan) (defBody s_plan) (defScope s_plan) [] [] f fd) (T : Tx K mg) : FnOk P w K mg base CX0 2 f fd ["_law_pen_here", "_law_letters_here", "_law_bound"] (spPlan K) := by
  refine F.ok sc_plan (fun vs H Q E h => ?_) (fun cdv A outer s H vs Q E hr h => ?_)
  · obtain ⟨D, p, z, b, n, rfl, _⟩ := h
    rfl
  · obtain ⟨D, p, z, b, n, rfl, sd, pen, zl, b1, b2, k⟩ := h
    refine ⟨_, PSs.nox (pss_cons (ps_set (i := 3) sc_plan.nd rfl (Or.inr rfl) (pe_op op_add pe_int (pe_cX (cDraw T) hr (by decide) (by rfl) pass0 (pa_cons (pv 0) (pa_cons (pv 2) pa_nil)))))
      (pss_cons (ps_setLc (i := 4) (own := [("_law_spot", 5)]) (g := _) (tt := tYes) (by rfl) sc_plan.nd rfl rfl (sw_true rfl rfl rfl (by decide +kernel)) (pi_range1 (by rfl) T.f_range (pa_cons (pv 3) pa_nil)) (blkOk_by (by kernel_rfl)) (fun _ _ _ _ _ => (pg_name (i := 5) sc_plan.nd rfl (Or.inl rfl))) (fun _ _ _ _ _ => pts_nil) (fun _ _ _ _ _ => (pe_lc (own := [("_law_letter", 6)]) (g := _) (tt := tYes) (by rfl) sc_plan.nd (pi_str (pv 1)) (blkOk_by (by kernel_rfl)) (fun _ _ _ _ _ => (pg_name (i := 6) sc_plan.nd rfl (Or.inl rfl))) (fun _ _ _ _ _ => pts_nil) (fun _ _ _ _ _ => (pe_cX (cDraw T) hr (by decide) (by rfl) pass0 (pa_cons (pv 0) (pa_cons (pv 3) pa_nil)))))))
      (pss_one (ps_ret (pe_tup (pa_cons (pv 4) (pa_cons (pe_lc (own := [("_law_spot", 5)]) (g := _) (tt := tYes) (by rfl) sc_plan.nd (pi_range1 (by rfl) T.f_range (pa_cons (pv 3) pa_nil)) (blkOk_by (by kernel_rfl)) (fun _ _ _ _ _ => (pg_name (i := 5) sc_plan.nd rfl (Or.inl rfl))) (fun _ _ _ _ _ => pts_nil) (fun _ _ _ _ _ => (pe_cmpR op_eq (pe_cX (cDraw T) hr (by decide) (by rfl) pass0 (pa_cons (pv 0) (pa_cons pe_int pa_nil))) pe_int (nomark _)))) pa_nil))))))), ?_⟩
    -- many = 1 + draw(pen, bound)
    refine ⟨_, rfl, _, rfl, D, p, b, n + 599, rfl, sd, pen, b1, by omega, fun H1 r st1 pen1 r0 r1 => ?_⟩
    refine ⟨_, _, rfl, rfl, ?_⟩
    obtain ⟨m, hm⟩ : ∃ m : Nat, 1 + r = (m : Int) := ⟨(1 + r).toNat, by omega⟩
    show gName 3 (V.int (1 + r)) _ _ _
    rw [hm]
    have m1 : 1 ≤ m := by omega
    have m2 : m ≤ 100 := by omega
    -- the table
    refine ⟨_, rfl, (m : Int), rfl, (by omega), (by omega), fun L hL => ?_⟩
    have pL : p ≠ L := fun e => pen1.there (by rw [e]; exact hL)
    refine lc_it walk_range (fun i H' => ∃ (Di : Hp) (acc : List V) (rs : List (List Int)), Step (· = p) D H Di H' ∧ PenAt K Di H' p (n + 599 - 4 * i) ∧ H' L = some (.lst acc) ∧ Di L = none ∧ acc.length = i ∧ rs.length = i ∧ DpAll K Di acc (rs.map lineD) ∧ ∀ r ∈ rs, r.length = z.cps.toList.length ∧ ∀ x ∈ r, 0 ≤ x ∧ x < (m : Int))
      ⟨D, [], [], st1.trans (Step.tmp st1.dh hL), pen1.keep (Step.tmp (W := NoW) st1.dh hL) (fun z => z), upd_same, st1.dh.free hL, rfl, rfl, .nil, by simp⟩ (fun _ _ _ _ => trivial) ?_ ?_
    · rintro i v H2 H3 hi ⟨Di, acc, rs, st2, pen2, h2, dL, al, rl, hd, hw⟩ ⟨rfl, rfl⟩
      rw [Int.toNat_natCast] at hi
      refine ⟨rfl, ?_⟩
      -- one line
      refine ⟨_, rfl, z, rfl, fun M hM => ?_⟩
      have pM : p ≠ M := fun e => pen2.there (by rw [e]; exact hM)
      have LM : L ≠ M := ne_of_none h2 hM
      refine lc_it walk_str (fun j H' => ∃ (xs : List Int), Step (· = p) Di H3 Di H' ∧ PenAt K Di H' p (n + 599 - 4 * i - j) ∧ H' M = some (.lst (xs.map V.int)) ∧ xs.length = j ∧ ∀ x ∈ xs, 0 ≤ x ∧ x < (m : Int))
        ⟨[], Step.tmp st2.dh hM, pen2.keep (Step.tmp (W := NoW) st2.dh hM) (fun z => z), upd_same, rfl, by simp⟩ (fun _ _ _ _ => trivial) ?_ ?_
      · rintro j v H4 H5 hj ⟨xs, st4, pen4, h4, xl, hx⟩ ⟨rfl, c, hc, rfl⟩
        rw [size_tl] at hj
        refine ⟨rfl, ?_⟩
        refine ⟨_, rfl, _, rfl, Di, p, (m : Int), n + 599 - 4 * i - (j + 1), rfl, st4.dh, pen4.less (by omega), by omega, by omega, fun H6 q st6 pen6 q0 q1 => ?_⟩
        refine ⟨_, st6.kp M _ (fun e => pM e.symm) h4, Nat.lt_of_le_of_lt (show (xs.map V.int).length ≤ 1000 by rw [List.length_map]; omega) (by decide), xs ++ [q], ?_, ?_, by rw [upd_same, List.map_append]; rfl, by rw [List.length_append, xl]; rfl, ?_⟩
        · exact (st4.trans st6).write (.inr hM) (st2.dh.free hM)
        · exact pen6.keep (Step.write (W := (· = M)) (Step.refl st6.dh) (.inl rfl) (st2.dh.free hM)) pM
        · intro x hx'
          rcases List.mem_append.mp hx' with h | h
          · exact hx x h
          · rw [List.mem_singleton.mp h]
            exact ⟨q0, q1⟩
      · rintro H4 ⟨xs, st4, pen4, h4, xl, hx⟩
        rw [size_tl] at xl pen4
        have h4L := st4.kp L _ (fun e => pL e.symm) h2
        have st5 : Step (· = p) Di H3 (upd Di M (.lst (xs.map V.int))) H4 := st4.settle hM h4 (st2.dh.free hM)
        have d5L : (upd Di M (.lst (xs.map V.int))) L = none := by rw [upd_ne LM]; exact dL
        have sD : Same Di (upd Di M (.lst (xs.map V.int))) := same_new (st2.dh.free hM)
        refine ⟨acc, h4L, Nat.lt_of_le_of_lt (show acc.length ≤ 1000 by omega) (by decide), upd Di M (.lst (xs.map V.int)), acc ++ [.ref M], rs ++ [xs], ?_, ?_, upd_same, d5L, by rw [List.length_append, al]; rfl, by rw [List.length_append, rl]; rfl, ?_, ?_⟩
        · exact (st2.trans st5).write (.inr (st1.free hL)) d5L
        · have p5 : PenAt K (upd Di M (.lst (xs.map V.int))) H4 p (n + 599 - 4 * i - z.cps.toList.length) := by
            obtain ⟨o, q, ns, t, g, e1, e2, e3, e4⟩ := pen4
            exact ⟨by rw [upd_ne pM]; exact o, q, ns, t, g, e1, sD.seq e2, e3, e4⟩
          exact (p5.less (by omega)).keep (Step.write (W := (· = L)) (Step.refl st5.dh) (.inl rfl) d5L) pL
        · rw [List.map_append]
          exact dpAll_app (dp_monoAll sD _ _ hd) (dpAll_one (.lst (SqL.of upd_same) (dpAll_ints _)))
        · intro r hr'
          rcases List.mem_append.mp hr' with h | h
          · exact hw r h
          · rw [List.mem_singleton.mp h]
            exact ⟨xl, hx⟩
    rintro H2 ⟨D2, acc, rows, st2, pen2, h2, dL, al, rl, hd, hw⟩
    rw [Int.toNat_natCast] at al rl pen2
    have st3 : Step (· = p) D H (upd D2 L (.lst acc)) H2 := st2.settle (st1.free hL) h2 dL
    have sD3 : Same D2 (upd D2 L (.lst acc)) := same_new dL
    have rawL : (upd D2 L (.lst acc)) L = some (.lst acc) := upd_same
    generalize hD3 : upd D2 L (.lst acc) = D3 at st3 sD3 rawL
    have dT : Dp K D3 (.ref L) (tableD rows) := .lst (SqL.of (by rw [← hD3]; exact upd_same)) (dp_monoAll sD3 _ _ hd)
    have pen3 : PenAt K D3 H2 p (n + 599 - 4 * m) := by
      obtain ⟨o, q, ns, t, g, e1, e2, e3, e4⟩ := pen2
      exact ⟨by rw [← hD3, upd_ne pL]; exact o, q, ns, t, g, e1, sD3.seq e2, e3, e4⟩
    -- the marks
    refine ⟨_, rfl, _, rfl, (m : Int), rfl, (by omega), (by omega), fun M hM => ?_⟩
    have pM : p ≠ M := fun e => pen3.there (by rw [e]; exact hM)
    refine lc_it walk_range (fun i H' => ∃ (ms : List Bool), Step (· = p) D3 H2 D3 H' ∧ PenAt K D3 H' p (n + 599 - 4 * m - i) ∧ H' M = some (.lst (ms.map V.bl)) ∧ ms.length = i)
      ⟨[], Step.tmp st3.dh hM, pen3.keep (Step.tmp (W := NoW) st3.dh hM) (fun z => z), upd_same, rfl⟩ (fun _ _ _ _ => trivial) ?_ ?_
    · rintro i v H4 H5 hi ⟨ms, st4, pen4, h4, ml⟩ ⟨rfl, rfl⟩
      rw [Int.toNat_natCast] at hi
      refine ⟨rfl, ?_⟩
      refine ⟨_, rfl, D3, p, 2, n + 599 - 4 * m - (i + 1), rfl, st4.dh, pen4.less (by omega), by decide, by decide, fun H6 q st6 pen6 q0 q1 => ?_⟩
      refine ⟨rfl, _, st6.kp M _ (fun e => pM e.symm) h4, Nat.lt_of_le_of_lt (show (ms.map V.bl).length ≤ 1000 by rw [List.length_map]; omega) (by decide), ms ++ [decide (V.int q = V.int 0)], ?_, ?_, by rw [upd_same, List.map_append]; rfl, by rw [List.length_append, ml]; rfl⟩
      · exact (st4.trans st6).write (.inr hM) (st3.dh.free hM)
      · exact pen6.keep (Step.write (W := (· = M)) (Step.refl st6.dh) (.inl rfl) (st3.dh.free hM)) pM
    rintro H4 ⟨ms, st4, pen4, h4, ml⟩
    rw [Int.toNat_natCast] at ml pen4
    have d3M := st3.dh.free hM
    have st5 : Step (· = p) D3 H2 (upd D3 M (.lst (ms.map V.bl))) H4 := st4.settle hM h4 d3M
    have sD5 : Same D3 (upd D3 M (.lst (ms.map V.bl))) := same_new d3M
    refine ⟨(by show 2 ≤ sizeLine; decide), fun t ht => ?_⟩
    have st6 : Step (· = p) (upd D3 M (.lst (ms.map V.bl))) H4 (upd (upd D3 M (.lst (ms.map V.bl))) t (.tup [.ref L, .ref M])) (upd H4 t (.tup [.ref L, .ref M])) := Step.new st5.dh ht
    have pen5 : PenAt K (upd D3 M (.lst (ms.map V.bl))) H4 p n := by
      obtain ⟨o, q, ns, t, g, e1, e2, e3, e4⟩ := pen4.less (show n ≤ n + 599 - 4 * m - m by omega)
      exact ⟨by rw [upd_ne pM]; exact o, q, ns, t, g, e1, sD5.seq e2, e3, e4⟩
    refine k _ _ t L M rows ms ((st3.trans st5).trans st6) (pen5.keep (Step.new (W := NoW) st5.dh ht) (fun z => z)) ⟨by omega, by omega, fun r h => (hw r h).1, fun r h x hx => ?_, by omega⟩ (by omega) upd_same (dp_mono (sD5.trans st6.dd) _ _ dT) (dp_mono st6.dd _ _ (.lst (SqL.of upd_same) (dpAll_bools _))) ⟨_, (sD5.trans st6.dd) _ _ rawL, dp_monoAll (sD3.trans (sD5.trans st6.dd)) _ _ hd⟩ (st6.dd _ _ upd_same)
    rw [rl]
    exact (hw r h).2 x hx
theorem cPlan (T : Tx K mg) : CalX P w K mg base CX0 2 "_law_plan" (spPlan K) := c_plan T fun _ F => ok_plan F T
end
end Rg
namespace Rg
open PySem PySem.Spec PyProof.Rows L2
section
variable {P : Program} {w : World} {K : PySem.W.Frag} {mg : Str → Option Value} {base : Heap}
/-! ### pairs of states, in plain Lean -/
def cellM (r : List (List Int)) (i : Int) (c : Nat) : Int := (r.getD i.toNat []).getD c 0
def succP (r1 r2 : List (List Int)) (p : Int × Int) (c : Nat) : Int × Int := (cellM r1 p.1 c, cellM r2 p.2 c)
inductive RPair (r1 r2 : List (List Int)) (n : Nat) : Int × Int → Prop
  | z : RPair r1 r2 n (0, 0)
  | s {p : Int × Int} (c : Nat) : RPair r1 r2 n p → c < n → RPair r1 r2 n (succP r1 r2 p c)
inductive RSt (r : List (List Int)) (n : Nat) : Int → Prop
  | z : RSt r n 0
  | s {i : Int} (c : Nat) : RSt r n i → c < n → RSt r n (cellM r i c)
def tld (ms : List Bool) (i : Int) : Bool := ms.getD i.toNat false
theorem cell_at {n : Nat} {rows : List (List Int)} {ms : List Bool} (g : GoodRows n rows ms) {i : Int} {c : Nat} (h0 : 0 ≤ i) (h1 : i < rows.length) (hc : c < n) : ∃ r, rows[i.toNat]? = some r ∧ r[c]? = some (cellM rows i c) ∧ 0 ≤ cellM rows i c ∧ cellM rows i c < rows.length := by
  have hi : i.toNat < rows.length := by omega
  have e1 := List.getElem?_eq_getElem hi
  have hm := List.getElem_mem hi
  have hl : c < (rows[i.toNat]).length := by rw [g.wid _ hm]; exact hc
  have e2 := List.getElem?_eq_getElem hl
  have e3 : cellM rows i c = (rows[i.toNat])[c] := by
    unfold cellM
    rw [getD_of e1, getD_of e2]
  have b := g.rng _ hm _ (List.getElem_mem hl)
  exact ⟨_, e1, by rw [e2, e3], by rw [e3]; exact b.1, by rw [e3]; exact b.2⟩
def InP (r1 r2 : List (List Int)) (p : Int × Int) : Prop := 0 ≤ p.1 ∧ p.1 < r1.length ∧ 0 ≤ p.2 ∧ p.2 < r2.length
theorem succ_in {n : Nat} {r1 r2 : List (List Int)} {m1 m2 : List Bool} (g1 : GoodRows n r1 m1) (g2 : GoodRows n r2 m2) {p : Int × Int} {c : Nat} (h : InP r1 r2 p) (hc : c < n) : InP r1 r2 (succP r1 r2 p c) := by
  obtain ⟨a, b, d, e⟩ := h
  obtain ⟨_, _, _, x1, x2⟩ := cell_at g1 a b hc
  obtain ⟨_, _, _, y1, y2⟩ := cell_at g2 d e hc
  exact ⟨x1, x2, y1, y2⟩
theorem RPair.rng {n : Nat} {r1 r2 : List (List Int)} {m1 m2 : List Bool} (g1 : GoodRows n r1 m1) (g2 : GoodRows n r2 m2) {p : Int × Int} (h : RPair r1 r2 n p) : InP r1 r2 p := by
  induction h with
  | z =>
    have := g1.pos
    have := g2.pos
    exact ⟨Int.le_refl 0, by show (0 : Int) < _; omega, Int.le_refl 0, by show (0 : Int) < _; omega⟩
  | s c _ hc ih => exact succ_in g1 g2 ih hc
theorem nodup_le : ∀ (N : Nat) (l : List Nat), l.Nodup → (∀ x ∈ l, x < N) → l.length ≤ N
  | 0, l, _, h => by
    cases l with
    | nil => exact Nat.le_refl 0
    | cons a r => exact absurd (h a List.mem_cons_self) (Nat.not_lt_zero _)
  | N + 1, l, nd, h => by
    have ih := nodup_le N (l.erase N) (nd.erase N) fun x hx => by
      have h1 := (nd.mem_erase_iff).mp hx
      have h2 := h x h1.2
      have h3 := h1.1
      omega
    by_cases hm : N ∈ l
    · rw [List.length_erase_of_mem hm] at ih
      omega
    · rw [List.erase_of_not_mem hm] at ih
      omega
theorem pairs_le {r1 r2 : List (List Int)} {ps : List (Int × Int)} (nd : ps.Nodup) (h : ∀ p ∈ ps, InP r1 r2 p) : ps.length ≤ r1.length * r2.length := by
  have e : (ps.map fun p => p.1.toNat * r2.length + p.2.toNat).length ≤ r1.length * r2.length := by
    refine nodup_le _ _ ?_ ?_
    · rw [List.Nodup, List.pairwise_map]
      refine List.Pairwise.imp_of_mem ?_ nd
      intro a b ha hb hab e
      obtain ⟨a1, a2, a3, a4⟩ := h a ha
      obtain ⟨b1, b2, b3, b4⟩ := h b hb
      refine hab ?_
      have l1 : a.2.toNat < r2.length := by omega
      have l2 : b.2.toNat < r2.length := by omega
      have q1 : a.1.toNat = b.1.toNat := by
        have d1 : (a.1.toNat * r2.length + a.2.toNat) / r2.length = a.1.toNat := by
          rw [Nat.mul_comm, Nat.mul_add_div (by omega), Nat.div_eq_of_lt l1, Nat.add_zero]
        have d2 : (b.1.toNat * r2.length + b.2.toNat) / r2.length = b.1.toNat := by
          rw [Nat.mul_comm, Nat.mul_add_div (by omega), Nat.div_eq_of_lt l2, Nat.add_zero]
        rw [← d1, ← d2, e]
      rw [q1] at e
      have q2 : a.2.toNat = b.2.toNat := by omega
      exact Prod.ext (by omega) (by omega)
    · intro x hx
      obtain ⟨p, hp, rfl⟩ := List.mem_map.mp hx
      obtain ⟨a1, a2, a3, a4⟩ := h p hp
      have l1 : p.1.toNat + 1 ≤ r1.length := by omega
      have l2 : p.2.toNat < r2.length := by omega
      have m := Nat.mul_le_mul_right r2.length l1
      rw [Nat.add_mul, Nat.one_mul] at m
      omega
  rw [List.length_map] at e
  exact e
/-- a table over pairs that is being made: the pairs so far, the lines of the first ones -/
structure JoinSt (r1 r2 : List (List Int)) (n : Nat) (ps : List (Int × Int)) (rows : List (List Int)) : Prop where
  nd : ps.Nodup
  z : ps[0]? = some (0, 0)
  rch : ∀ p ∈ ps, RPair r1 r2 n p
  le : rows.length ≤ ps.length
  row : ∀ (j : Nat) (r : List Int) (p : Int × Int), rows[j]? = some r → ps[j]? = some p → r.length = n ∧ ∀ (c : Nat) (k : Int), r[c]? = some k → 0 ≤ k ∧ ps[k.toNat]? = some (succP r1 r2 p c)
theorem join0 {r1 r2 : List (List Int)} {n : Nat} : JoinSt r1 r2 n [(0, 0)] [] where
  nd := by simp
  z := rfl
  rch := by
    intro p hp
    rw [List.mem_singleton.mp hp]
    exact .z
  le := Nat.zero_le _
  row := by
    intro j r p h
    simp at h
theorem get_app {α : Type} {l m : List α} {j : Nat} {x : α} (h : l[j]? = some x) : (l ++ m)[j]? = some x := by
  rw [List.getElem?_append_left (List.getElem?_eq_some_iff.mp h).1]
  exact h
theorem get_app_inv {α : Type} {l m : List α} {j : Nat} {x : α} (hj : j < l.length) (h : (l ++ m)[j]? = some x) : l[j]? = some x := by
  rwa [List.getElem?_append_left hj] at h
/-- one more pair -/
theorem JoinSt.more {r1 r2 : List (List Int)} {n : Nat} {ps : List (Int × Int)} {rows : List (List Int)} (h : JoinSt r1 r2 n ps rows) {p : Int × Int} (hp : p ∉ ps) (hr : RPair r1 r2 n p) : JoinSt r1 r2 n (ps ++ [p]) rows where
  nd := by
    rw [List.nodup_append]
    exact ⟨h.nd, by simp, fun a ha b hb e => hp (by rw [← List.mem_singleton.mp hb, ← e]; exact ha)⟩
  z := get_app h.z
  rch := by
    intro q hq
    rcases List.mem_append.mp hq with hq | hq
    · exact h.rch q hq
    · rw [List.mem_singleton.mp hq]
      exact hr
  le := by
    have := h.le
    rw [List.length_append]
    omega
  row := by
    intro j r q hj hq
    have hl := (List.getElem?_eq_some_iff.mp hj).1
    have := h.le
    obtain ⟨a, b⟩ := h.row j r q hj (get_app_inv (by omega) hq)
    exact ⟨a, fun c k hk => ⟨(b c k hk).1, get_app (b c k hk).2⟩⟩
/-- one more line -/
theorem JoinSt.line {r1 r2 : List (List Int)} {n : Nat} {ps : List (Int × Int)} {rows : List (List Int)} (h : JoinSt r1 r2 n ps rows) {p : Int × Int} {r : List Int} (hp : ps[rows.length]? = some p) (hl : r.length = n) (hr : ∀ (c : Nat) (k : Int), r[c]? = some k → 0 ≤ k ∧ ps[k.toNat]? = some (succP r1 r2 p c)) :
    JoinSt r1 r2 n ps (rows ++ [r]) where
  nd := h.nd
  z := h.z
  rch := h.rch
  le := by
    have := (List.getElem?_eq_some_iff.mp hp).1
    rw [List.length_append]
    show rows.length + 1 ≤ _
    omega
  row := by
    intro j r' q hj hq
    by_cases e : j < rows.length
    · exact h.row j r' q (get_app_inv e hj) hq
    · have hj' := (List.getElem?_eq_some_iff.mp hj).1
      rw [List.length_append, List.length_singleton] at hj'
      have ej : j = rows.length := by omega
      subst ej
      rw [List.getElem?_append_right (Nat.le_refl _), Nat.sub_self] at hj
      cases hj
      rw [hp] at hq
      cases hq
      exact ⟨hl, hr⟩
/-- the whole table: states are pairs -/
theorem JoinSt.sim {r1 r2 : List (List Int)} {n : Nat} {ps : List (Int × Int)} {rows : List (List Int)} (h : JoinSt r1 r2 n ps rows) (e : rows.length = ps.length) : ∀ k, RSt rows n k → 0 ≤ k ∧ ∃ p, ps[k.toNat]? = some p ∧ RPair r1 r2 n p := by
  intro k hk
  induction hk with
  | z => exact ⟨Int.le_refl 0, _, h.z, .z⟩
  | @s i c _ hc ih =>
    obtain ⟨h0, p, hp, hr⟩ := ih
    have hl := (List.getElem?_eq_some_iff.mp hp).1
    have e1 := List.getElem?_eq_getElem (show i.toNat < rows.length by omega)
    obtain ⟨a, b⟩ := h.row _ _ _ e1 hp
    have e2 := List.getElem?_eq_getElem (show c < (rows[i.toNat]'(by omega)).length by omega)
    have ec : cellM rows i c = (rows[i.toNat]'(by omega))[c]'(by omega) := by
      unfold cellM
      rw [getD_of e1, getD_of e2]
    obtain ⟨k0, kp⟩ := b _ _ e2
    rw [ec]
    exact ⟨k0, _, kp, .s c hr hc⟩
theorem JoinSt.sim2 {r1 r2 : List (List Int)} {n : Nat} {ps : List (Int × Int)} {rows : List (List Int)} (h : JoinSt r1 r2 n ps rows) (e : rows.length = ps.length) : ∀ p, RPair r1 r2 n p → ∃ k, RSt rows n k ∧ 0 ≤ k ∧ ps[k.toNat]? = some p := by
  intro p hp
  induction hp with
  | z => exact ⟨0, .z, Int.le_refl 0, h.z⟩
  | @s p c _ hc ih =>
    obtain ⟨i, hi, h0, hp⟩ := ih
    have hl := (List.getElem?_eq_some_iff.mp hp).1
    have e1 := List.getElem?_eq_getElem (show i.toNat < rows.length by omega)
    obtain ⟨a, b⟩ := h.row _ _ _ e1 hp
    have e2 := List.getElem?_eq_getElem (show c < (rows[i.toNat]'(by omega)).length by omega)
    have ec : cellM rows i c = (rows[i.toNat]'(by omega))[c]'(by omega) := by
      unfold cellM
      rw [getD_of e1, getD_of e2]
    obtain ⟨k0, kp⟩ := b _ _ e2
    exact ⟨_, .s c hi hc, by rw [ec]; exact k0, by rw [ec]; exact kp⟩
def chosen (rule : Str) (a b : Bool) : Bool := if rule = "both" then a && b else if rule = "either" then a || b else if rule = "first" then a && !b else a != b
structure JoinOk (r1 : List (List Int)) (m1 : List Bool) (r2 : List (List Int)) (m2 : List Bool) (n : Nat) (rule : Str) (rows : List (List Int)) (ms : List Bool) : Prop where
  good : GoodRows n rows ms
  ex : ∃ ps, JoinSt r1 r2 n ps rows ∧ rows.length = ps.length ∧ ms = ps.map fun p => chosen rule (tld m1 p.1) (tld m2 p.2)
theorem JoinOk.of {r1 r2 : List (List Int)} {m1 m2 : List Bool} {n : Nat} {rule : Str} {ps : List (Int × Int)} {rows : List (List Int)} (g1 : GoodRows n r1 m1) (g2 : GoodRows n r2 m2) (small : r1.length * r2.length ≤ 200) (h : JoinSt r1 r2 n ps rows) (e : rows.length = ps.length) :
    JoinOk r1 m1 r2 m2 n rule rows (ps.map fun p => chosen rule (tld m1 p.1) (tld m2 p.2)) where
  good := by
    have hl := pairs_le h.nd fun p hp => (h.rch p hp).rng g1 g2
    have h0 := (List.getElem?_eq_some_iff.mp h.z).1
    have key : ∀ r ∈ rows, ∃ p, r.length = n ∧ ∀ (c : Nat) (k : Int), r[c]? = some k → 0 ≤ k ∧ ps[k.toNat]? = some (succP r1 r2 p c) := by
      intro r hr
      obtain ⟨j, hj⟩ := List.mem_iff_getElem?.mp hr
      have jl := (List.getElem?_eq_some_iff.mp hj).1
      exact ⟨_, h.row j r _ hj (List.getElem?_eq_getElem (show j < ps.length by omega))⟩
    refine ⟨by omega, by omega, fun r hr => ?_, fun r hr x hx => ?_, by rw [List.length_map, e]⟩
    · obtain ⟨p, a, _⟩ := key r hr
      exact a
    · obtain ⟨p, _, b⟩ := key r hr
      obtain ⟨c, hc⟩ := List.mem_iff_getElem?.mp hx
      obtain ⟨k0, kp⟩ := b c x hc
      have kl := (List.getElem?_eq_some_iff.mp kp).1
      exact ⟨k0, by omega⟩
  ex := ⟨ps, h, e, rfl⟩
def ToldSome (rows : List (List Int)) (ms : List Bool) (n : Nat) : Prop := ∃ k, RSt rows n k ∧ tld ms k = true
theorem JoinOk.told {r1 r2 rows : List (List Int)} {m1 m2 ms : List Bool} {n : Nat} {rule : Str} (h : JoinOk r1 m1 r2 m2 n rule rows ms) : ToldSome rows ms n ↔ ∃ p, RPair r1 r2 n p ∧ chosen rule (tld m1 p.1) (tld m2 p.2) = true := by
  obtain ⟨_, ps, st, e, rfl⟩ := h
  have mm : ∀ (k : Int) (p : Int × Int), ps[k.toNat]? = some p → tld (ps.map fun p => chosen rule (tld m1 p.1) (tld m2 p.2)) k = chosen rule (tld m1 p.1) (tld m2 p.2) := fun k p hp => by
    unfold tld
    exact getD_of (by rw [List.getElem?_map, hp]; rfl)
  constructor
  · rintro ⟨k, hk, ht⟩
    obtain ⟨_, p, hp, hr⟩ := st.sim e k hk
    exact ⟨p, hr, by rw [← mm k p hp]; exact ht⟩
  · rintro ⟨p, hr, ht⟩
    obtain ⟨k, hk, _, hp⟩ := st.sim2 e p hr
    exact ⟨k, hk, by rw [mm k p hp]; exact ht⟩
end
end Rg
namespace Rg
open PySem PySem.Spec PyProof.Rows L2
section
variable {P : Program} {w : World} {K : PySem.W.Frag} {mg : Str → Option Value} {base : Heap}
/-! ### is_chosen -/
def spChosen : Sp := fun vs H Q _ => ∃ (r : Str) (a b : Bool), vs = [.str r, .bl a, .bl b] ∧ Q (.bl (chosen r a b)) H
theorem ok_chosen {f : Addr} {fd : FuncData} (F : FunD K "is_chosen" "is_chosen" (defArgs s_chosen) (defBody s_chosen) (defScope s_chosen) [] [] f fd) (T : Tx K mg) : FnOk P w K mg base CX0 1 f fd ["rule", "one", "other"] spChosen := by
  refine F.ok sc_chosen (fun vs H Q E h => ?_) (fun cdv A outer s H vs Q E hr h => ?_)
  · obtain ⟨r, a, b, rfl, _⟩ := h
    rfl
  · obtain ⟨r, a, b, rfl, k⟩ := h
    refine ⟨_, PSs.nox (pss_cons (ps_if (pt_cmpR op_eq (pv 0) pe_str (nomark _))
      (pss_one (ps_ret (pe_and (pv 1) (pe_one (pv 2))))) pss_nil)
      (pss_cons (ps_if (pt_cmpR op_eq (pv 0) pe_str (nomark _))
      (pss_one (ps_ret (pe_or (pv 1) (pe_one (pv 2))))) pss_nil)
      (pss_cons (ps_if (pt_cmpR op_eq (pv 0) pe_str (nomark _))
      (pss_one (ps_ret (pe_and (pv 1) (pe_one (pe_not (pv 2)))))) pss_nil)
      (pss_one (ps_ret (pe_cmpR op_ne (pv 1) (pv 2) (nomark _))))))), ?_⟩
    unfold chosen at k
    refine ⟨_, rfl, rfl, _, rfl, ?_⟩
    refine ite2 (fun h1 => ?_) (fun h1 => ?_)
    · have e : r = "both" := by injection of_decide_eq_true h1
      rw [if_pos e] at k
      cases a with
      | true => exact ⟨_, rfl, _, rfl, iteT ⟨_, rfl, k⟩⟩
      | false => exact ⟨_, rfl, _, rfl, iteF k⟩
    have n1 : ¬ r = "both" := fun e => h1 (decide_eq_true (by rw [e]))
    rw [if_neg n1] at k
    refine ⟨_, rfl, rfl, _, rfl, ?_⟩
    refine ite2 (fun h1 => ?_) (fun h1 => ?_)
    · have e : r = "either" := by injection of_decide_eq_true h1
      rw [if_pos e] at k
      cases a with
      | true => exact ⟨_, rfl, _, rfl, iteT k⟩
      | false => exact ⟨_, rfl, _, rfl, iteF ⟨_, rfl, k⟩⟩
    have n2 : ¬ r = "either" := fun e => h1 (decide_eq_true (by rw [e]))
    rw [if_neg n2] at k
    refine ⟨_, rfl, rfl, _, rfl, ?_⟩
    refine ite2 (fun h1 => ?_) (fun h1 => ?_)
    · have e : r = "first" := by injection of_decide_eq_true h1
      rw [if_pos e] at k
      cases a with
      | true => exact ⟨_, rfl, _, rfl, iteT ⟨_, rfl, _, rfl, k⟩⟩
      | false => exact ⟨_, rfl, _, rfl, iteF k⟩
    have n3 : ¬ r = "first" := fun e => h1 (decide_eq_true (by rw [e]))
    rw [if_neg n3] at k
    refine ⟨_, rfl, _, rfl, rfl, ?_⟩
    cases a <;> cases b <;> exact k
theorem cChosen (T : Tx K mg) : CalX P w K mg base CX0 1 "is_chosen" spChosen := c_chosen T fun _ F => ok_chosen F T
/-! ### joined -/
def keyP (p : Int × Int) : List Key := [Sum.inl p.1, Sum.inl p.2]
theorem keyP_inj {p q : Int × Int} (h : keyP p = keyP q) : p = q := by
  unfold keyP at h
  injection h with h1 h2
  injection h2 with h2 _
  exact Prod.ext (Sum.inl.inj h1) (Sum.inl.inj h2)
def pairD (p : Int × Int) : PyData := .tuple [.int p.1, .int p.2]
structure NumOk (kvs : List (List Key × V)) (ps : List (Int × Int)) : Prop where
  len : kvs.length ≤ ps.length
  at_ : ∀ (j : Nat) (p : Int × Int), ps[j]? = some p → valV kvs (keyP p) = some (.int (j : Nat))
  no : ∀ p : Int × Int, p ∉ ps → valV kvs (keyP p) = none
theorem num0 : NumOk [(keyP (0, 0), .int 0)] [(0, 0)] where
  len := Nat.le_refl _
  at_ := by
    intro j p h
    cases j with
    | zero =>
      cases h
      rfl
    | succ j => simp at h
  no := by
    intro p h
    have e : ¬ keyP (0, 0) = keyP p := fun e => h (by rw [← keyP_inj e]; simp)
    rw [valV_neg e]
    rfl
theorem NumOk.more {kvs : List (List Key × V)} {ps : List (Int × Int)} (h : NumOk kvs ps) {p : Int × Int} (hp : p ∉ ps) : NumOk (putK kvs (keyP p) (.int (ps.length : Nat))) (ps ++ [p]) where
  len := by
    have := length_putK kvs (keyP p) (.int (ps.length : Nat))
    have := h.len
    rw [List.length_append]
    show _ ≤ ps.length + 1
    omega
  at_ := by
    intro j q hq
    rw [valV_put]
    by_cases e : j < ps.length
    · have hq' := get_app_inv e hq
      rw [if_neg (fun r => hp (by rw [← keyP_inj r]; exact mem_of_at hq'))]
      exact h.at_ j q hq'
    · have hl := (List.getElem?_eq_some_iff.mp hq).1
      rw [List.length_append, List.length_singleton] at hl
      have ej : j = ps.length := by omega
      subst ej
      rw [List.getElem?_append_right (Nat.le_refl _), Nat.sub_self] at hq
      cases hq
      rw [if_pos rfl]
  no := by
    intro q hq
    rw [valV_put, if_neg (fun r => hq (by rw [keyP_inj r]; simp))]
    exact h.no q fun z => hq (List.mem_append_left _ z)
def spJoined (K : PySem.W.Frag) : Sp := fun vs H Q _ => ∃ (D : Hp) (x y : Addr) (z rule : Str) (r1 : List (List Int)) (m1 : List Bool) (r2 : List (List Int)) (m2 : List Bool), vs = [.ref x, .ref y, .str rule] ∧ Same D H ∧ Mach K D x z r1 m1 ∧ Mach K D y z r2 m2 ∧ r1.length * r2.length ≤ 200 ∧
  ∀ (D' H' : Hp) (t a b : Addr) (rows : List (List Int)) (ms : List Bool), Step NoW D H D' H' → D' t = some (.tup [.ref a, .ref b]) → Dp K D' (.ref a) (rowsD rows) → Dp K D' (.ref b) (marksD ms) → JoinOk r1 m1 r2 m2 z.cps.toList.length rule rows ms → Q (.ref t) H'
theorem row_of {D : Hp} {a : Addr} {rows : List (List Int)} {i : Int} {r : List Int} (h : Dp K D (.ref a) (rowsD rows)) (h0 : 0 ≤ i) (hr : rows[i.toNat]? = some r) : ∃ us q, SqT K D a us ∧ atI us i = some (.ref q) ∧ SqT K D q (r.map V.int) := by
  obtain ⟨a', us, e, sa, ua⟩ := dp_tup h
  cases e
  obtain ⟨v, h1, h2⟩ := dpAll_at ua (show (rows.map rowD)[i.toNat]? = some (rowD r) by rw [List.getElem?_map, hr]; rfl)
  obtain ⟨q, ws, rfl, sq, wq⟩ := dp_tup h2
  have ew := dpAll_ints_eq wq
  subst ew
  exact ⟨us, q, sa, atI_of h0 h1, sq⟩
theorem mark_of {D : Hp} {b : Addr} {ms : List Bool} {i : Int} (h : Dp K D (.ref b) (marksD ms)) (h0 : 0 ≤ i) (h1 : i < ms.length) : ∃ us, SqT K D b us ∧ atI us i = some (.bl (tld ms i)) := by
  obtain ⟨b', us, e, sb, ub⟩ := dp_tup h
  cases e
  have ew := dpAll_bools_eq ub
  subst ew
  refine ⟨_, sb, atI_of h0 ?_⟩
  have hl : i.toNat < ms.length := by omega
  rw [List.getElem?_map, List.getElem?_eq_getElem hl]
  unfold tld
  rw [getD_of (List.getElem?_eq_getElem hl)]
  rfl
theorem ok_joined {f : Addr} {fd : FuncData} (F : FunD K "joined" "joined" (defArgs s_joined) (defBody s_joined) (defScope s_joined) [] [] f fd) (T : Tx K mg) : FnOk P w K mg base CX0 2 f fd ["one", "other", "rule"] (spJoined K) := by
  refine F.ok sc_joined (fun vs H Q E h => ?_) (fun cdv A outer s H vs Q E hr h => ?_)
  · obtain ⟨D, x, y, z, rule, r1, m1, r2, m2, rfl, _⟩ := h
    rfl
  · obtain ⟨D, x, y, z, rule, r1, m1, r2, m2, rfl, sd, M1, M2, small, k⟩ := h
    obtain ⟨⟨dx, xa, xb, hx, dxa, dxb⟩, gz, g1⟩ := M1
    obtain ⟨⟨dy, ya, yb, hy, dya, dyb⟩, _, g2⟩ := M2
    have q1 := g1.mrk
    have q2 := g2.mrk
    refine ⟨_, PSs.nox (pss_cons (ps_set (i := 3) sc_joined.nd rfl (Or.inl rfl) (pe_lst (pa_cons (pe_tup (pa_cons pe_int (pa_cons pe_int pa_nil))) pa_nil)))
      (pss_cons (ps_set (i := 4) sc_joined.nd rfl (Or.inl rfl) (pe_disp1T hr.units (pe_tup (pa_cons pe_int (pa_cons pe_int pa_nil))) pe_int))
      (pss_cons (ps_set (i := 5) sc_joined.nd rfl (Or.inl rfl) (pe_lst pa_nil))
      (pss_cons (ps_set (i := 6) sc_joined.nd rfl (Or.inl rfl) pe_int)
      (pss_cons (ps_while PassesOwn.never (pt_cmpR op_lt (pv 6) (pe_callB (call_len_seqK K) (by rfl) T.f_len (by decide +kernel) (pa_cons (pv 3) pa_nil)) (nomark _))
      (pss_cons (ps_asg (pe_ix (ix_listK K) (pv 3) (pv 6) (fun _ _ => rfl)) (pg_tupK K (n := 2) rfl (pgs_cons (pg_name (i := 7) sc_joined.nd rfl (Or.inl rfl)) (pgs_cons (pg_name (i := 8) sc_joined.nd rfl (Or.inl rfl)) pgs_nil))))
      (pss_cons (ps_set (i := 9) sc_joined.nd rfl (Or.inl rfl) (pe_lst pa_nil))
      (pss_cons (ps_for PassesOwn.never rfl (pi_zipTT K (by rfl) T.f_zip (pa_cons (pe_ix (ix_tupK K) (pe_fldK K (pv 0)) (pv 7) (fun _ _ => rfl)) (pa_cons (pe_ix (ix_tupK K) (pe_fldK K (pv 1)) (pv 8) (fun _ _ => rfl)) pa_nil))) (pg_name (i := 10) sc_joined.nd rfl (Or.inl rfl))
      (C8.pss_cut (ps_if (pt_cmp (pc_dnotin (hu1 hr.units) (pv 10) (pv 4)))
      (pss_cons (ps_dput (hu1 hr.units) (pv 4) (pv 10) (pe_callB (call_len_seqK K) (by rfl) T.f_len (by decide +kernel) (pa_cons (pv 3) pa_nil)) rfl)
      (pss_one (ps_expr (pe_bm PySem.F.plainAttrs_list PySem.F.slot_list_append PySem.F.type_list_append mt_append (pv 3) (pa_cons (pv 10) pa_nil))))) pss_nil)
      (pss_one (ps_expr (pe_bm PySem.F.plainAttrs_list PySem.F.slot_list_append PySem.F.type_list_append mt_append (pv 9) (pa_cons (pe_dget (hu1 hr.units) (pv 4) (pv 10) (fun _ _ => rfl)) pa_nil))))))
      (pss_cons (ps_expr (pe_bm PySem.F.plainAttrs_list PySem.F.slot_list_append PySem.F.type_list_append mt_append (pv 5) (pa_cons (pe_callTy (call_tuple_ofK K) (by rfl) T.f_tuple (by decide +kernel) (pa_cons (pv 9) pa_nil)) pa_nil)))
      (pss_one (ps_set (i := 6) sc_joined.nd rfl (Or.inl rfl) (pe_op op_add (pv 6) pe_int))))))))
      (pss_one (ps_ret (pe_tup (pa_cons (pe_callTy (call_tuple_ofK K) (by rfl) T.f_tuple (by decide +kernel) (pa_cons (pv 5) pa_nil)) (pa_cons (pe_callTy (call_tuple_ofK K) (by rfl) T.f_tuple (by decide +kernel) (pa_cons (pe_lc (own := [("mine", 7), ("others", 8)]) (g := _) (tt := tYes) (by rfl) sc_joined.nd (pi_listK K (pv 3)) (blkOk_by (by kernel_rfl)) (fun _ _ _ _ _ => (pg_tupK K (n := 2) rfl (pgs_cons (pg_name (i := 7) sc_joined.nd rfl (Or.inl rfl)) (pgs_cons (pg_name (i := 8) sc_joined.nd rfl (Or.inl rfl)) pgs_nil)))) (fun _ _ _ _ _ => pts_nil) (fun _ _ _ _ _ => (pe_cX (cChosen T) hr (by decide) (by rfl) pass0 (pa_cons (pv 2) (pa_cons (pe_ix (ix_tupK K) (pe_fldK K (pv 0)) (pv 7) (fun _ _ => rfl)) (pa_cons (pe_ix (ix_tupK K) (pe_fldK K (pv 1)) (pv 8) (fun _ _ => rfl)) pa_nil)))))) pa_nil)) pa_nil)))))))))), ?_⟩
    -- pairs = [(0, 0)]
    refine ⟨(by show 2 ≤ sizeLine; decide), fun t0 ht0 => ⟨(by show 1 ≤ sizeLine; decide), fun L hL => ?_⟩⟩
    have st1 : Step NoW D H (upd D t0 (.tup [.int 0, .int 0])) (upd H t0 (.tup [.int 0, .int 0])) := Step.new sd ht0
    have p0 : DpAll K (upd D t0 (.tup [.int 0, .int 0])) [.ref t0] ([((0 : Int), (0 : Int))].map pairD) := dpAll_one (.tup (SqT.of upd_same) (.cons (.int _) (.cons (.int _) .nil)))
    generalize upd D t0 (.tup [.int 0, .int 0]) = D1 at st1 p0
    generalize upd H t0 (.tup [.int 0, .int 0]) = H1 at st1 hL
    have st2 := st1.trans (Step.tmp (o := .lst [.ref t0]) st1.dh hL)
    have hL2 : (upd H1 L (.lst [.ref t0])) L = some (.lst [.ref t0]) := upd_same
    generalize upd H1 L (.lst [.ref t0]) = H2 at st2 hL2
    have d1L : D1 L = none := st1.dh.free hL
    -- numbers = {(0, 0): 0}
    refine fun N hN => ⟨(by show 2 ≤ sizeLine; decide), fun t1 ht1 => ⟨?_, t1, keyP (0, 0), rfl, upd_same, ?_⟩⟩
    · rw [upd_ne (ne_of_none (show (upd H2 N (.dT [])) N = some _ from upd_same) ht1)]
      exact upd_same
    have nNt : N ≠ t1 := ne_of_none (show (upd H2 N (.dT [])) N = some _ from upd_same) ht1
    have st3 := (st2.trans (Step.tmp (o := .dT []) st2.dh hN)).trans (Step.tmp (o := .tup [.int 0, .int 0]) (Step.tmp (W := NoW) (o := .dT []) st2.dh hN).dh ht1)
    have d1N : D1 N = none := st2.dh.free hN
    have st4 := st3.write (o := .dT [(keyP (0, 0), .int 0)]) (.inr (st2.free hN)) d1N
    have hL4 : (upd (upd (upd H2 N (.dT [])) t1 (.tup [.int 0, .int 0])) N (.dT [(keyP (0, 0), .int 0)])) L = some (.lst [.ref t0]) := by
      have a : L ≠ N := ne_of_none hL2 hN
      have b : (upd H2 N (.dT [])) L = some (.lst [.ref t0]) := by rw [upd_ne a]; exact hL2
      rw [upd_ne a, upd_ne (ne_of_none b ht1)]
      exact b
    have hN4 : (upd (upd (upd H2 N (.dT [])) t1 (.tup [.int 0, .int 0])) N (.dT [(keyP (0, 0), .int 0)])) N = some (.dT [(keyP (0, 0), .int 0)]) := upd_same
    generalize upd (upd (upd H2 N (.dT [])) t1 (.tup [.int 0, .int 0])) N (.dT [(keyP (0, 0), .int 0)]) = H4 at st4 hL4 hN4
    -- steps = []
    refine ⟨(by show 0 ≤ sizeLine; decide), fun S hS => ?_⟩
    have st5 := st4.trans (Step.tmp (o := .lst []) st4.dh hS)
    have hL0 : H L = none := st1.free hL
    have hN0 : H N = none := st2.free hN
    have hS0 : H S = none := st4.free hS
    have nLS : L ≠ S := ne_of_none hL4 hS
    have nNS : N ≠ S := ne_of_none hN4 hS
    have nLN : L ≠ N := ne_of hL4 hN4 (fun e => nomatch e)
    -- the loop
    refine while_n (r1.length * r2.length) (fun i σ H' => ∃ (Di : Hp) (ps : List (Int × Int)) (rows : List (List Int)) (vs : List V) (kvs : List (List Key × V)) (ss : List V) (v7 v8 v9 v10 : Option V), σ = [some (.ref x), some (.ref y), some (.str rule), some (.ref L), some (.ref N), some (.ref S), some (.int (i : Nat)), v7, v8, v9, v10] ∧
      Step NoW D H Di H' ∧ H' L = some (.lst vs) ∧ Di L = none ∧ DpAll K Di vs (ps.map pairD) ∧ H' N = some (.dT kvs) ∧ Di N = none ∧ NumOk kvs ps ∧ H' S = some (.lst ss) ∧ Di S = none ∧ DpAll K Di ss (rows.map rowD) ∧ JoinSt r1 r2 z.cps.toList.length ps rows ∧ rows.length = i) ?_ ?_ ?_
    · refine ⟨D1, [(0, 0)], [], [.ref t0], _, [], none, none, none, none, rfl, st5, ?_, d1L, p0, ?_, d1N, num0, upd_same, st4.dh.free hS, .nil, join0, rfl⟩
      · rw [upd_ne nLS]; exact hL4
      · rw [upd_ne nNS]; exact hN4
    · rintro i σ H6 ⟨Di, ps, rows, vs, kvs, ss, v7, v8, v9, v10, rfl, st, hL6, dL, pv, hN6, dN, no, hS6, dS, rv, js, rl⟩
      have vl : vs.length = ps.length := by rw [dpAll_len pv, List.length_map]
      have bd := pairs_le js.nd fun p hp => (js.rch p hp).rng g1 g2
      refine ⟨_, rfl, _, rfl, L, vs, rfl, .inl (SqL.of hL6), _, _, rfl, rfl, _, rfl, ?_⟩
      refine ite2 (fun h1 => ?_) (fun h1 => ?_)
      · have lt : i < ps.length := by
          have := of_decide_eq_true h1
          omega
        refine ⟨by omega, ?_⟩
        have ep := List.getElem?_eq_getElem lt
        generalize hp : ps[i] = p at ep
        have hr' := js.rch p (mem_of_at ep)
        have ip := hr'.rng g1 g2
        obtain ⟨vp, ev, dv⟩ := dpAll_at pv (show (ps.map pairD)[i]? = some (pairD p) by rw [List.getElem?_map, ep]; rfl)
        obtain ⟨tp, ws, rfl, sw, aw⟩ := dp_tup dv
        cases aw with
        | cons a1 a2 =>
        cases a2 with
        | cons a2 a3 =>
        cases a3
        have e1 := dp_int a1
        have e2 := dp_int a2
        subst e1 e2
        -- mine, others = pairs[at]
        refine ⟨_, rfl, _, rfl, L, vs, _, .ref tp, rfl, rfl, SqL.of hL6, atI_nat ev, tp, _, rfl, sqT_mono st.dh sw, rfl, _, _, rfl, _, _, rfl, rfl, ?_⟩
        -- row = []
        refine ⟨(by show 0 ≤ sizeLine; decide), fun R hR => ?_⟩
        have hR0 : H R = none := st.free hR
        have nLR : L ≠ R := ne_of_none hL6 hR
        have nNR : N ≠ R := ne_of_none hN6 hR
        have nSR : S ≠ R := ne_of_none hS6 hR
        have stR := st.trans (Step.tmp (o := .lst []) st.dh hR)
        obtain ⟨ra, era, _, _, _⟩ : ∃ ra, r1[p.1.toNat]? = some ra ∧ ra ∈ r1 ∧ True ∧ True := ⟨_, List.getElem?_eq_getElem (show p.1.toNat < r1.length by have := ip.1; have := ip.2.1; omega), List.getElem_mem _, trivial, trivial⟩
        obtain ⟨rb, erb, _, _, _⟩ : ∃ rb, r2[p.2.toNat]? = some rb ∧ rb ∈ r2 ∧ True ∧ True := ⟨_, List.getElem?_eq_getElem (show p.2.toNat < r2.length by have := ip.2.2.1; have := ip.2.2.2; omega), List.getElem_mem _, trivial, trivial⟩
        obtain ⟨us1, qa, su1, at1, sqa⟩ := row_of dxa ip.1 era
        obtain ⟨us2, qb, su2, at2, sqb⟩ := row_of dya ip.2.2.1 erb
        have la := g1.wid ra (mem_of_at era)
        have lb := g2.wid rb (mem_of_at erb)
        have sD7 : Same D (upd H6 R (.lst [])) := stR.dd.trans stR.dh
        -- for pair in zip(one.steps[mine], other.steps[others])
        refine ⟨_, rfl, x, _, dx, _, _, rfl, sD7 _ _ hx, T.cl_Machine, T.n_Machine_steps, rfl, _, rfl, xa, us1, _, .ref qa, rfl, rfl, sqT_mono sD7 su1, at1, ?_⟩
        refine ⟨_, rfl, y, _, dy, _, _, rfl, sD7 _ _ hy, T.cl_Machine, T.n_Machine_steps, rfl, _, rfl, ya, us2, _, .ref qb, rfl, rfl, sqT_mono sD7 su2, at2, ?_⟩
        refine ⟨qa, qb, ra.map V.int, rb.map V.int, rfl, sqT_mono sD7 sqa, sqT_mono sD7 sqb, ?_⟩
        refine for_it (walk_zip2 (xs := ra.map V.int) (ys := rb.map V.int)) (fun c σ H' => ∃ (Dc : Hp) (ps : List (Int × Int)) (vs : List V) (kvs : List (List Key × V)) (r : List Int) (v10 : Option V), σ = [some (.ref x), some (.ref y), some (.str rule), some (.ref L), some (.ref N), some (.ref S), some (.int (i : Nat)), some (.int p.1), some (.int p.2), some (.ref R), v10] ∧
          Step NoW D H Dc H' ∧ H' L = some (.lst vs) ∧ Dc L = none ∧ DpAll K Dc vs (ps.map pairD) ∧ H' N = some (.dT kvs) ∧ Dc N = none ∧ NumOk kvs ps ∧ H' S = some (.lst ss) ∧ Dc S = none ∧ DpAll K Dc ss (rows.map rowD) ∧ JoinSt r1 r2 z.cps.toList.length ps rows ∧
          H' R = some (.lst (r.map V.int)) ∧ Dc R = none ∧ r.length = c ∧ ps[i]? = some p ∧ ∀ (c' : Nat) (k : Int), r[c']? = some k → 0 ≤ k ∧ ps[k.toNat]? = some (succP r1 r2 p c')) ?_ ?_ ?_ ?_
        · exact ⟨Di, ps, vs, kvs, [], v10, rfl, stR, by rw [upd_ne nLR]; exact hL6, dL, pv, by rw [upd_ne nNR]; exact hN6, dN, no, by rw [upd_ne nSR]; exact hS6, dS, rv, js, upd_same, st.dh.free hR, rfl, ep, by simp⟩
        · rintro c σ H' _ ⟨Dc, ps, vs, kvs, r, v10, rfl, stc, _⟩
          exact ⟨sqT_mono (stc.dd.trans stc.dh) sqa, sqT_mono (stc.dd.trans stc.dh) sqb⟩
        · rintro c v σ H7 H8 hc ⟨Dc, ps, vs, kvs, r, v10, rfl, stc, hLc, dLc, pvc, hNc, dNc, noc, hSc, dSc, rvc, jsc, hRc, dRc, rlc, epc, rok⟩ ⟨tn, vx, vy, rfl, htn, rfl, exv, eyv⟩
          have hc1 : c < ra.length := by rw [List.length_map, List.length_map] at hc; omega
          have hc2 : c < rb.length := by rw [List.length_map, List.length_map] at hc; omega
          have hcz : c < z.cps.toList.length := by omega
          rw [List.getElem?_map, List.getElem?_eq_getElem hc1] at exv
          rw [List.getElem?_map, List.getElem?_eq_getElem hc2] at eyv
          cases exv
          cases eyv
          have eq : (ra[c], rb[c]) = succP r1 r2 p c := by
            unfold succP cellM
            rw [getD_of era, getD_of erb, getD_of (List.getElem?_eq_getElem hc1), getD_of (List.getElem?_eq_getElem hc2)]
          have hq : RPair r1 r2 z.cps.toList.length (ra[c], rb[c]) := by rw [eq]; exact .s c hr' hcz
          generalize hqq : (ra[c], rb[c]) = q at eq hq
          have ea : ra[c] = q.1 := by rw [← hqq]
          have eb : rb[c] = q.2 := by rw [← hqq]
          rw [ea, eb]
          have sT : Step NoW Dc H7 (upd Dc tn (.tup [.int q.1, .int q.2])) (upd H7 tn (.tup [.int q.1, .int q.2])) := Step.new stc.dh htn
          have st8 := stc.trans sT
          have tnD : (upd Dc tn (.tup [.int q.1, .int q.2])) tn = some (.tup [.int q.1, .int q.2]) := upd_same
          have tnH : (upd H7 tn (.tup [.int q.1, .int q.2])) tn = some (.tup [.int q.1, .int q.2]) := upd_same
          have hL8 : (upd H7 tn (.tup [.int q.1, .int q.2])) L = some (.lst vs) := by rw [upd_ne (ne_of_none hLc htn)]; exact hLc
          have hN8 : (upd H7 tn (.tup [.int q.1, .int q.2])) N = some (.dT kvs) := by rw [upd_ne (ne_of_none hNc htn)]; exact hNc
          have hS8 : (upd H7 tn (.tup [.int q.1, .int q.2])) S = some (.lst ss) := by rw [upd_ne (ne_of_none hSc htn)]; exact hSc
          have hR8 : (upd H7 tn (.tup [.int q.1, .int q.2])) R = some (.lst (r.map V.int)) := by rw [upd_ne (ne_of_none hRc htn)]; exact hRc
          have dL8 : (upd Dc tn (.tup [.int q.1, .int q.2])) L = none := by rw [upd_ne (ne_of_none hLc htn)]; exact dLc
          have dN8 : (upd Dc tn (.tup [.int q.1, .int q.2])) N = none := by rw [upd_ne (ne_of_none hNc htn)]; exact dNc
          have dS8 : (upd Dc tn (.tup [.int q.1, .int q.2])) S = none := by rw [upd_ne (ne_of_none hSc htn)]; exact dSc
          have dR8 : (upd Dc tn (.tup [.int q.1, .int q.2])) R = none := by rw [upd_ne (ne_of_none hRc htn)]; exact dRc
          have pv8 := dp_monoAll sT.dd _ _ pvc
          have rv8 := dp_monoAll sT.dd _ _ rvc
          generalize upd Dc tn (.tup [.int q.1, .int q.2]) = D8 at st8 tnD dL8 dN8 dS8 dR8 pv8 rv8
          generalize upd H7 tn (.tup [.int q.1, .int q.2]) = H8 at st8 tnH hL8 hN8 hS8 hR8
          have vlc : vs.length = ps.length := by rw [dpAll_len pv8, List.length_map]
          have bdc := pairs_le jsc.nd fun p hp => (jsc.rch p hp).rng g1 g2
          -- if pair not in numbers
          refine ⟨fun σ' H' => ∃ (D9 : Hp) (ps : List (Int × Int)) (vs : List V) (kvs : List (List Key × V)), σ' = [some (.ref x), some (.ref y), some (.str rule), some (.ref L), some (.ref N), some (.ref S), some (.int (i : Nat)), some (.int p.1), some (.int p.2), some (.ref R), some (.ref tn)] ∧
            Step NoW D H D9 H' ∧ H' L = some (.lst vs) ∧ D9 L = none ∧ DpAll K D9 vs (ps.map pairD) ∧ H' N = some (.dT kvs) ∧ D9 N = none ∧ NumOk kvs ps ∧ H' S = some (.lst ss) ∧ D9 S = none ∧ DpAll K D9 ss (rows.map rowD) ∧ JoinSt r1 r2 z.cps.toList.length ps rows ∧
            H' R = some (.lst (r.map V.int)) ∧ D9 R = none ∧ ps[i]? = some p ∧ (∀ (c' : Nat) (k : Int), r[c']? = some k → 0 ≤ k ∧ ps[k.toNat]? = some (succP r1 r2 p c')) ∧ H' tn = some (.tup [.int q.1, .int q.2]) ∧ q ∈ ps, ?_, ?_⟩
          · by_cases hm : q ∈ ps
            · obtain ⟨j, hj⟩ := List.mem_iff_getElem?.mp hm
              have dg := DGet.t (k := keyP q) hN8 tnH
              rw [noc.at_ j q hj] at dg
              refine ⟨_, rfl, _, rfl, N, _, rfl, dg, _, rfl, iteF ?_⟩
              exact ⟨D8, ps, vs, kvs, rfl, st8, hL8, dL8, pv8, hN8, dN8, noc, hS8, dS8, rv8, jsc, hR8, dR8, epc, rok, tnH, hm⟩
            · have dg := DGet.t (k := keyP q) hN8 tnH
              rw [noc.no q hm] at dg
              refine ⟨_, rfl, _, rfl, N, _, rfl, dg, _, rfl, iteT ?_⟩
              have jm := jsc.more hm hq
              have bdm := pairs_le jm.nd fun p hp => (jm.rch p hp).rng g1 g2
              rw [List.length_append, List.length_singleton] at bdm
              have kl := noc.len
              refine ⟨_, rfl, L, vs, rfl, .inl (SqL.of hL8), _, rfl, _, rfl, N, _, rfl, DPut.t (k := keyP q) hN8 tnH (Nat.lt_of_le_of_lt (show kvs.length ≤ 1000 by omega) (by decide)), ?_⟩
              have nL9 : (upd H8 N (.dT (putK kvs (keyP q) (.int (vs.length : Nat))))) L = some (.lst vs) := by rw [upd_ne nLN]; exact hL8
              refine ⟨_, rfl, .inl ⟨rfl, _, SqL.of nL9⟩, _, rfl, L, vs, _, rfl, rfl, nL9, Nat.lt_of_le_of_lt (show vs.length ≤ 1000 by omega) (by decide), ?_⟩
              have st9 := (st8.write (o := .dT (putK kvs (keyP q) (.int (vs.length : Nat)))) (.inr hN0) dN8).write (o := .lst (vs ++ [.ref tn])) (.inr hL0) dL8
              refine ⟨D8, ps ++ [q], vs ++ [.ref tn], putK kvs (keyP q) (.int (vs.length : Nat)), rfl, st9, upd_same, dL8, ?_, ?_, dN8, ?_, ?_, dS8, rv8, jm, ?_, dR8, get_app epc, fun c' k hk => ⟨(rok c' k hk).1, get_app (rok c' k hk).2⟩, ?_, by simp⟩
              · rw [List.map_append]
                exact dpAll_app pv8 (dpAll_one (.tup (SqT.of tnD) (.cons (.int _) (.cons (.int _) .nil))))
              · rw [upd_ne (Ne.symm nLN)]; exact upd_same
              · rw [vlc]; exact noc.more hm
              · rw [upd_ne (Ne.symm nLS), upd_ne (Ne.symm nNS)]; exact hS8
              · rw [upd_ne (Ne.symm nLR), upd_ne (Ne.symm nNR)]; exact hR8
              · rw [upd_ne (ne_of tnH hL8 (fun e => nomatch e)), upd_ne (ne_of tnH hN8 (fun e => nomatch e))]; exact tnH
          · rintro σ' H9 ⟨D9, ps, vs, kvs, rfl, st9, hL9, dL9, pv9, hN9, dN9, no9, hS9, dS9, rv9, js9, hR9, dR9, ep9, rok9, tn9, hm9⟩
            -- row.append(numbers[pair])
            obtain ⟨j, hj⟩ := List.mem_iff_getElem?.mp hm9
            have dg := DGet.t (k := keyP q) hN9 tn9
            rw [no9.at_ j q hj] at dg
            have gf := gz.few
            refine ⟨_, rfl, .inl ⟨rfl, _, SqL.of hR9⟩, _, rfl, _, rfl, N, .int (j : Nat), rfl, dg, R, _, _, rfl, rfl, hR9, Nat.lt_of_le_of_lt (show (r.map V.int).length ≤ 1000 by rw [List.length_map]; omega) (by decide), ?_⟩
            refine ⟨D9, ps, vs, kvs, r ++ [(j : Int)], _, rfl, st9.write (.inr hR0) dR9, by rw [upd_ne nLR]; exact hL9, dL9, pv9, by rw [upd_ne nNR]; exact hN9, dN9, no9, by rw [upd_ne nSR]; exact hS9, dS9, rv9, js9, by rw [upd_same, List.map_append]; rfl, dR9, by rw [List.length_append, rlc]; rfl, ep9, ?_⟩
            intro c' k hk
            by_cases e : c' < r.length
            · exact rok9 c' k (get_app_inv e hk)
            · have hl := (List.getElem?_eq_some_iff.mp hk).1
              rw [List.length_append, List.length_singleton] at hl
              have ec : c' = r.length := by omega
              subst ec
              rw [List.getElem?_append_right (Nat.le_refl _), Nat.sub_self] at hk
              cases hk
              refine ⟨by omega, ?_⟩
              rw [Int.toNat_natCast, hj, eq, rlc]
        · rintro σ H7 ⟨Dc, ps, vs, kvs, r, v10, rfl, stc, hLc, dLc, pvc, hNc, dNc, noc, hSc, dSc, rvc, jsc, hRc, dRc, rlc, epc, rok⟩
          rw [List.length_map, List.length_map, la, lb, Nat.min_self] at rlc
          -- steps.append(tuple(row))
          refine ⟨_, rfl, .inl ⟨rfl, _, SqL.of hSc⟩, _, rfl, R, r.map V.int, rfl, .inl ⟨SqL.of hRc, fun tr htr => ?_⟩⟩
          have sl : ss.length = rows.length := by rw [dpAll_len rvc, List.length_map]
          have bdc := pairs_le jsc.nd fun p hp => (jsc.rch p hp).rng g1 g2
          have jl := jsc.le
          refine ⟨S, ss, _, rfl, rfl, by rw [upd_ne (ne_of_none hSc htr)]; exact hSc, Nat.lt_of_le_of_lt (show ss.length ≤ 1000 by omega) (by decide), ?_⟩
          have sT : Step NoW Dc H7 (upd Dc tr (.tup (r.map V.int))) (upd H7 tr (.tup (r.map V.int))) := Step.new stc.dh htr
          have dS9 : (upd Dc tr (.tup (r.map V.int))) S = none := by rw [upd_ne (ne_of_none hSc htr)]; exact dSc
          have st9 := (stc.trans sT).write (o := .lst (ss ++ [.ref tr])) (.inr hS0) dS9
          -- at = at + 1
          refine ⟨_, rfl, _, _, rfl, rfl, ?_⟩
          refine ⟨upd Dc tr (.tup (r.map V.int)), ps, rows ++ [r], vs, kvs, ss ++ [.ref tr], _, _, _, _, rfl, st9, ?_, ?_, dp_monoAll sT.dd _ _ pvc, ?_, ?_, noc, upd_same, dS9, ?_, jsc.line (by rw [rl]; exact epc) rlc rok, by rw [List.length_append, rl]; rfl⟩
          · rw [upd_ne nLS, upd_ne (ne_of_none hLc htr)]; exact hLc
          · rw [upd_ne (ne_of_none hLc htr)]; exact dLc
          · rw [upd_ne nNS, upd_ne (ne_of_none hNc htr)]; exact hNc
          · rw [upd_ne (ne_of_none hNc htr)]; exact dNc
          · rw [List.map_append]
            exact dpAll_app (dp_monoAll sT.dd _ _ rvc) (dpAll_one (.tup (SqT.of upd_same) (dpAll_ints _)))
      · have ei : rows.length = ps.length := by
          have h2 : ¬ ((i : Int) < (vs.length : Int)) := fun z => h1 (decide_eq_true z)
          have := js.le
          omega
        -- return (tuple(steps), tuple([..]))
        refine ⟨_, rfl, S, ss, rfl, .inl ⟨SqL.of hS6, fun ta hta => ?_⟩⟩
        have st7 := st.trans (Step.new (o := .tup ss) st.dh hta)
        have dTa : Dp K (upd Di ta (.tup ss)) (.ref ta) (rowsD rows) := .tup (SqT.of upd_same) (dp_monoAll (same_new (st.dh.free hta)) _ _ rv)
        have hL7 : (upd H6 ta (.tup ss)) L = some (.lst vs) := by rw [upd_ne (ne_of_none hL6 hta)]; exact hL6
        have pv7 := dp_monoAll (same_new (o := .tup ss) (st.dh.free hta)) _ _ pv
        generalize upd Di ta (.tup ss) = D7 at st7 dTa pv7
        generalize upd H6 ta (.tup ss) = H7 at st7 hL7
        refine ⟨_, rfl, L, rfl, ⟨vs, SqL.of hL7⟩, fun B hB => ?_⟩
        have hB0 := st7.free hB
        have nLB : L ≠ B := ne_of_none hL7 hB
        refine lc_it (walk_list (xs := vs)) (fun j H' => Step NoW D7 H7 D7 H' ∧ H' L = some (.lst vs) ∧ H' B = some (.lst ((ps.take j).map fun p => V.bl (chosen rule (tld m1 p.1) (tld m2 p.2))))) ⟨Step.tmp st7.dh hB, by rw [upd_ne nLB]; exact hL7, upd_same⟩ (fun _ _ _ q => SqL.of q.2.1) ?_ ?_
        · rintro j v H8 H9 hj ⟨s8, hL8, hB8⟩ ⟨rfl, hv⟩
          have hj2 : j < ps.length := by omega
          have ej := List.getElem?_eq_getElem hj2
          generalize ps[j] = p at ej
          have ip := (js.rch p (mem_of_at ej)).rng g1 g2
          obtain ⟨vp, ev, dv⟩ := dpAll_at pv7 (show (ps.map pairD)[j]? = some (pairD p) by rw [List.getElem?_map, ej]; rfl)
          rw [hv] at ev
          cases ev
          obtain ⟨tp, ws, rfl, sw, aw⟩ := dp_tup dv
          cases aw with
          | cons a1 a2 =>
          cases a2 with
          | cons a2 a3 =>
          cases a3
          have e1 := dp_int a1
          have e2 := dp_int a2
          subst e1 e2
          have sD9 : Same D H9 := st7.dd.trans s8.dh
          obtain ⟨ub1, sb1, bt1⟩ := mark_of dxb ip.1 (by have := ip.2.1; omega)
          obtain ⟨ub2, sb2, bt2⟩ := mark_of dyb ip.2.2.1 (by have := ip.2.2.2; omega)
          refine ⟨tp, _, rfl, sqT_mono s8.dh sw, rfl, _, _, rfl, _, _, rfl, rfl, ?_⟩
          refine ⟨rfl, ?_⟩
          refine ⟨_, rfl, _, rfl, x, _, dx, _, _, rfl, sD9 _ _ hx, T.cl_Machine, T.n_Machine_told, rfl, _, rfl, xb, ub1, _, _, rfl, rfl, sqT_mono sD9 sb1, bt1, ?_⟩
          refine ⟨_, rfl, y, _, dy, _, _, rfl, sD9 _ _ hy, T.cl_Machine, T.n_Machine_told, rfl, _, rfl, yb, ub2, _, _, rfl, rfl, sqT_mono sD9 sb2, bt2, ?_⟩
          refine ⟨rule, _, _, rfl, _, hB8, Nat.lt_of_le_of_lt (show _ ≤ 1000 by rw [List.length_map, List.length_take]; omega) (by decide), s8.write (.inr hB) (st7.dh.free hB), by rw [upd_ne nLB]; exact hL8, ?_⟩
          rw [upd_same, take_more ej, List.map_append]
          rfl
        · rintro H8 ⟨s8, hL8, hB8⟩
          rw [vl, List.take_length] at hB8
          refine ⟨B, (ps.map fun p => chosen rule (tld m1 p.1) (tld m2 p.2)).map V.bl, rfl, .inl ⟨SqL.of (by rw [hB8, List.map_map]; rfl), fun tb htb => ?_⟩⟩
          have st8 := st7.trans s8
          have st9 := st8.trans (Step.new (o := .tup ((ps.map fun p => chosen rule (tld m1 p.1) (tld m2 p.2)).map V.bl)) st8.dh htb)
          refine ⟨(by show 2 ≤ sizeLine; decide), fun tt htt => ?_⟩
          have st10 := st9.trans (Step.new (o := .tup [.ref ta, .ref tb]) st9.dh htt)
          refine k _ _ tt ta tb rows _ st10 upd_same (dp_mono ((same_new (st8.dh.free htb)).trans (same_new (st9.dh.free htt))) _ _ dTa) (dp_mono (same_new (st9.dh.free htt)) _ _ (.tup (SqT.of upd_same) (dpAll_bools _))) (JoinOk.of g1 g2 small js ei)
    · rintro σ H Q Q' m ⟨a1, a2, a3, a4, a5, a6, a7, a8, a9, a10, a11, a12, a13, a14, q⟩
      exact ⟨a1, a2, a3, a4, a5, a6, a7, a8, a9, a10, a11, a12, a13, a14, m _ _ q⟩
theorem cJoined (T : Tx K mg) : CalX P w K mg base CX0 2 "joined" (spJoined K) := c_joined T fun _ F => ok_joined F T
/-! ### first_row: whether some told state is met -/
def entD (e : List Nat × Int) : PyData := .tuple [.str (SX.S e.1), .int e.2]
structure Known (kvs : List (Key × V)) (ts : List (List Nat × Int)) : Prop where
  len : kvs.length ≤ ts.length
  at_ : ∀ e ∈ ts, (valV kvs (Sum.inl e.2)).isSome = true
  no : ∀ i : Int, (∀ e ∈ ts, e.2 ≠ i) → valV kvs (Sum.inl i) = none
theorem Known.more {kvs : List (Key × V)} {ts : List (List Nat × Int)} (h : Known kvs ts) (e : List Nat × Int) (v : V) : Known (putK kvs (Sum.inl e.2) v) (ts ++ [e]) where
  len := by
    have := length_putK kvs (Sum.inl e.2) v
    have := h.len
    rw [List.length_append]
    show _ ≤ ts.length + 1
    omega
  at_ := by
    intro e' he
    rw [valV_put]
    by_cases q : (Sum.inl e'.2 : Key) = Sum.inl e.2
    · rw [if_pos q]; rfl
    · rw [if_neg q]
      rcases List.mem_append.mp he with he | he
      · exact h.at_ e' he
      · exact absurd (by rw [List.mem_singleton.mp he]) q
  no := by
    intro i hi
    rw [valV_put, if_neg (fun q => hi e (by simp) (Sum.inl.inj q).symm)]
    exact h.no i fun e' he => hi e' (List.mem_append_left _ he)
structure Walked (rows : List (List Int)) (ms : List Bool) (n : Nat) (ts : List (List Nat × Int)) (i : Nat) : Prop where
  nd : (ts.map (·.2)).Nodup
  z : ∃ t, ts[0]? = some (t, 0)
  rch : ∀ e ∈ ts, RSt rows n e.2
  cl : ∀ (j : Nat) (e : List Nat × Int), j < i → ts[j]? = some e → tld ms e.2 = false ∧ ∀ c, c < n → ∃ e' ∈ ts, e'.2 = cellM rows e.2 c
  sz : ∀ e ∈ ts, e.1.length ≤ ts.length
  le : i ≤ ts.length
theorem RSt.rng {n : Nat} {rows : List (List Int)} {ms : List Bool} (g : GoodRows n rows ms) {i : Int} (h : RSt rows n i) : 0 ≤ i ∧ i < rows.length := by
  induction h with
  | z =>
    have := g.pos
    exact ⟨Int.le_refl 0, by omega⟩
  | s c _ hc ih =>
    obtain ⟨_, _, _, x1, x2⟩ := cell_at g ih.1 ih.2 hc
    exact ⟨x1, x2⟩
theorem Walked.few {rows : List (List Int)} {ms : List Bool} {n i : Nat} {ts : List (List Nat × Int)} (h : Walked rows ms n ts i) (g : GoodRows n rows ms) : ts.length ≤ rows.length := by
  have e : (ts.map fun e => e.2.toNat).length ≤ rows.length := by
    refine nodup_le _ _ ?_ ?_
    · have nd := h.nd
      rw [List.Nodup, List.pairwise_map] at nd ⊢
      refine List.Pairwise.imp_of_mem ?_ nd
      intro a b ha hb hab e
      have x := (h.rch a ha).rng g
      have y := (h.rch b hb).rng g
      exact hab (by omega)
    · intro x hx
      obtain ⟨a, ha, rfl⟩ := List.mem_map.mp hx
      have y := (h.rch a ha).rng g
      omega
  rw [List.length_map] at e
  exact e
theorem Walked.more {rows : List (List Int)} {ms : List Bool} {n i : Nat} {ts : List (List Nat × Int)} (h : Walked rows ms n ts i) {e : List Nat × Int} (hn : ∀ e' ∈ ts, e'.2 ≠ e.2) (hr : RSt rows n e.2) (hl : e.1.length ≤ ts.length + 1) : Walked rows ms n (ts ++ [e]) i where
  nd := by
    rw [List.map_append, List.nodup_append]
    refine ⟨h.nd, by simp, fun a ha b hb q => ?_⟩
    obtain ⟨e', he, rfl⟩ := List.mem_map.mp ha
    have hb' : b = e.2 := by simpa using hb
    exact hn e' he (q.trans hb')
  z := by
    obtain ⟨t, ht⟩ := h.z
    exact ⟨t, get_app ht⟩
  rch := by
    intro q hq
    rcases List.mem_append.mp hq with hq | hq
    · exact h.rch q hq
    · rw [List.mem_singleton.mp hq]; exact hr
  cl := by
    intro j q hj hq
    by_cases hl : j < ts.length
    · obtain ⟨a, b⟩ := h.cl j q hj (get_app_inv hl hq)
      exact ⟨a, fun c hc => let ⟨e', he, x⟩ := b c hc; ⟨e', List.mem_append_left _ he, x⟩⟩
    · exact absurd (Nat.lt_of_lt_of_le hj h.le) hl
  le := by
    have := h.le
    rw [List.length_append]
    omega
  sz := by
    intro q hq
    rw [List.length_append]
    rcases List.mem_append.mp hq with hq | hq
    · have := h.sz q hq
      show _ ≤ ts.length + 1
      omega
    · rw [List.mem_singleton.mp hq]; exact hl
theorem Walked.next {rows : List (List Int)} {ms : List Bool} {n i : Nat} {ts : List (List Nat × Int)} (h : Walked rows ms n ts i) {e : List Nat × Int} (he : ts[i]? = some e) (ht : tld ms e.2 = false) (hc : ∀ c, c < n → ∃ e' ∈ ts, e'.2 = cellM rows e.2 c) : Walked rows ms n ts (i + 1) where
  nd := h.nd
  z := h.z
  rch := h.rch
  sz := h.sz
  le := (List.getElem?_eq_some_iff.mp he).1
  cl := by
    intro j q hj hq
    rcases Nat.lt_or_eq_of_le (Nat.le_of_lt_succ hj) with hl | hl
    · exact h.cl j q hl hq
    · subst hl
      rw [he] at hq
      cases hq
      exact ⟨ht, hc⟩
theorem Walked.end_ {rows : List (List Int)} {ms : List Bool} {n i : Nat} {ts : List (List Nat × Int)} (h : Walked rows ms n ts i) (e : ts.length ≤ i) : ¬ ToldSome rows ms n := by
  have all : ∀ k, RSt rows n k → ∃ q ∈ ts, q.2 = k := by
    intro k hk
    induction hk with
    | z =>
      obtain ⟨t, ht⟩ := h.z
      exact ⟨_, mem_of_at ht, rfl⟩
    | @s k c _ hc ih =>
      obtain ⟨q, hq, rfl⟩ := ih
      obtain ⟨j, hj⟩ := List.mem_iff_getElem?.mp hq
      exact (h.cl j q (Nat.lt_of_lt_of_le (List.getElem?_eq_some_iff.mp hj).1 e) hj).2 c hc
  rintro ⟨k, hk, ht⟩
  obtain ⟨q, hq, rfl⟩ := all k hk
  obtain ⟨j, hj⟩ := List.mem_iff_getElem?.mp hq
  rw [(h.cl j q (Nat.lt_of_lt_of_le (List.getElem?_eq_some_iff.mp hj).1 e) hj).1] at ht
  cases ht
def firstAns (rows : List (List Int)) (ms : List Bool) (n : Nat) (v : V) : Prop := (v = .non ∧ ¬ ToldSome rows ms n) ∨ ((∃ t, v = .str t) ∧ ToldSome rows ms n)
def spFirstRow (K : PySem.W.Frag) : Sp := fun vs H Q _ => ∃ (z : Str) (a b : Addr) (rows : List (List Int)) (ms : List Bool), vs = [.str z, .ref a, .ref b] ∧ Dp K H (.ref a) (rowsD rows) ∧ Dp K H (.ref b) (marksD ms) ∧ GoodSigns z ∧ GoodRows z.cps.toList.length rows ms ∧
  ∀ (H' : Hp) (v : V), Same H H' → firstAns rows ms z.cps.toList.length v → Q v H'
theorem Step.same {D H D' H' : Hp} (s : Step NoW D H D' H') : Same H H' := fun b o e => s.kp b o (fun z => z) e
theorem ok_firstRow {f : Addr} {fd : FuncData} (F : FunD K "first_row" "first_row" (defArgs s_firstRow) (defBody s_firstRow) (defScope s_firstRow) [] [] f fd) (T : Tx K mg) : FnOk P w K mg base CX0 1 f fd ["signs", "steps", "told"] (spFirstRow K) := by
  refine F.ok sc_firstRow (fun vs H Q E h => ?_) (fun cdv A outer s H vs Q E hr h => ?_)
  · obtain ⟨z, a, b, rows, ms, rfl, _⟩ := h
    rfl
  · obtain ⟨z, a, b, rows, ms, rfl, da, db, gz, gr, k⟩ := h
    have q1 := gr.mrk
    have q2 := gr.few
    have q3 := gr.pos
    refine ⟨_, PSs.nox (pss_cons (ps_set (i := 3) sc_firstRow.nd rfl (Or.inl rfl) (pe_lst (pa_cons (pe_tup (pa_cons pe_str (pa_cons pe_int pa_nil))) pa_nil)))
      (pss_cons (ps_set (i := 4) sc_firstRow.nd rfl (Or.inl rfl) (pe_disp (pps_cons pe_int pe_bl pps_nil) rfl rfl (by intro z; cases z) (by decide)))
      (pss_cons (ps_set (i := 5) sc_firstRow.nd rfl (Or.inl rfl) pe_int)
      (pss_cons (ps_while PassesOwn.never (pt_cmpR op_lt (pv 5) (pe_callB (call_len_seqK K) (by rfl) T.f_len (by decide +kernel) (pa_cons (pv 3) pa_nil)) (nomark _))
      (pss_cons (ps_asg (pe_ix (ix_listK K) (pv 3) (pv 5) (fun _ _ => rfl)) (pg_tupK K (n := 2) rfl (pgs_cons (pg_name (i := 6) sc_firstRow.nd rfl (Or.inl rfl)) (pgs_cons (pg_name (i := 7) sc_firstRow.nd rfl (Or.inl rfl)) pgs_nil))))
      (pss_cons (ps_if (pt_val (pe_ix (ix_tupK K) (pv 2) (pv 7) (fun _ _ => rfl)))
      (pss_one (ps_ret (pv 6))) pss_nil)
      (pss_cons (ps_for PassesOwn.never rfl (pi_zipST K (by rfl) T.f_zip (pa_cons (pv 0) (pa_cons (pe_ix (ix_tupK K) (pv 1) (pv 7) (fun _ _ => rfl)) pa_nil))) (pg_tupK K (n := 2) rfl (pgs_cons (pg_name (i := 8) sc_firstRow.nd rfl (Or.inl rfl)) (pgs_cons (pg_name (i := 9) sc_firstRow.nd rfl (Or.inl rfl)) pgs_nil)))
      (pss_one (ps_if (pt_cmp (pc_dnotin (hu1 hr.units) (pv 9) (pv 4)))
      (pss_cons (ps_dput (hu1 hr.units) (pv 4) (pv 9) pe_bl rfl)
      (pss_one (ps_expr (pe_bm PySem.F.plainAttrs_list PySem.F.slot_list_append PySem.F.type_list_append mt_append (pv 3) (pa_cons (pe_tup (pa_cons (pe_op op_add_str (pv 6) (pv 8)) (pa_cons (pv 9) pa_nil))) pa_nil))))) pss_nil)))
      (pss_one (ps_set (i := 5) sc_firstRow.nd rfl (Or.inl rfl) (pe_op op_add (pv 5) pe_int)))))))
      (pss_one (ps_ret pe_non)))))), ?_⟩
    -- rows = [("", 0)]
    refine ⟨(by show 2 ≤ sizeLine; decide), fun t0 ht0 => ⟨(by show 1 ≤ sizeLine; decide), fun L hL => ?_⟩⟩
    have st1 : Step NoW H H (upd H t0 (.tup [.str "", .int 0])) (upd H t0 (.tup [.str "", .int 0])) := Step.new (Same.refl H) ht0
    have p0 : DpAll K (upd H t0 (.tup [.str "", .int 0])) [.ref t0] ([(([] : List Nat), (0 : Int))].map entD) := dpAll_one (.tup (SqT.of upd_same) (.cons (.str _) (.cons (.int _) .nil)))
    generalize upd H t0 (.tup [.str "", .int 0]) = H1 at st1 p0 hL
    have hL0 := st1.free hL
    have st2 := st1.trans (Step.tmp (o := .lst [.ref t0]) st1.dh hL)
    have hL2 : (upd H1 L (.lst [.ref t0])) L = some (.lst [.ref t0]) := upd_same
    generalize upd H1 L (.lst [.ref t0]) = H2 at st2 hL2
    -- known = {0: True}
    refine fun N hN => ⟨upd_same, [(Sum.inl 0, .bl true)], rfl, (by decide), ?_⟩
    have hN0 := st2.free hN
    have dN : H1 N = none := st2.dh.free hN
    have st3 := (st2.trans (Step.tmp (o := .dK []) st2.dh hN)).write (o := .dK (mergeK [] [(Sum.inl 0, .bl true)])) (.inr hN0) dN
    have nLN : L ≠ N := ne_of_none hL2 hN
    -- the loop
    refine while_n rows.length (fun i σ H' => ∃ (Di : Hp) (ts : List (List Nat × Int)) (vs : List V) (kvs : List (Key × V)) (v6 v7 v8 v9 : Option V), σ = [some (.str z), some (.ref a), some (.ref b), some (.ref L), some (.ref N), some (.int (i : Nat)), v6, v7, v8, v9] ∧
      Step NoW H H Di H' ∧ H' L = some (.lst vs) ∧ Di L = none ∧ DpAll K Di vs (ts.map entD) ∧ H' N = some (.dK kvs) ∧ Di N = none ∧ Known kvs ts ∧ Walked rows ms z.cps.toList.length ts i) ?_ ?_ ?_
    · refine ⟨H1, [([], 0)], [.ref t0], _, none, none, none, none, rfl, st3, ?_, st1.dh.free hL, p0, upd_same, dN, ?_, ?_⟩
      · rw [upd_upd, upd_ne nLN]; exact hL2
      · refine ⟨Nat.le_refl _, fun e he => ?_, fun i hi => ?_⟩
        · rw [List.mem_singleton.mp he]
          rfl
        · have e : ¬ ((Sum.inl 0 : Key) = Sum.inl i) := fun q => hi ([], 0) (by simp) (Sum.inl.inj q)
          show valV [((Sum.inl 0 : Key), V.bl true)] (Sum.inl i) = none
          rw [valV_neg e]
          rfl
      · exact ⟨by simp, ⟨[], rfl⟩, fun e he => by rw [List.mem_singleton.mp he]; exact .z, fun j e hj => absurd hj (Nat.not_lt_zero _), fun e he => by rw [List.mem_singleton.mp he]; exact Nat.zero_le _, Nat.zero_le _⟩
    · rintro i σ H6 ⟨Di, ts, vs, kvs, v6, v7, v8, v9, rfl, st, hL6, dL, pv, hN6, dN6, kn, wk⟩
      have vl : vs.length = ts.length := by rw [dpAll_len pv, List.length_map]
      have fw := wk.few gr
      refine ⟨_, rfl, _, rfl, L, vs, rfl, .inl (SqL.of hL6), _, _, rfl, rfl, _, rfl, ?_⟩
      refine ite2 (fun h1 => ?_) (fun h1 => ?_)
      · have lt : i < ts.length := by
          have := of_decide_eq_true h1
          omega
        refine ⟨by omega, ?_⟩
        have ep := List.getElem?_eq_getElem lt
        generalize ts[i] = e at ep
        have hre := wk.rch e (mem_of_at ep)
        have rg := hre.rng gr
        obtain ⟨vp, ev, dv⟩ := dpAll_at pv (show (ts.map entD)[i]? = some (entD e) by rw [List.getElem?_map, ep]; rfl)
        obtain ⟨tp, ws, rfl, sw, aw⟩ := dp_tup dv
        cases aw with
        | cons a1 a2 =>
        cases a2 with
        | cons a2 a3 =>
        cases a3
        have e1 := dp_str a1
        have e2 := dp_int a2
        subst e1 e2
        -- row, state = rows[at]
        refine ⟨_, rfl, _, rfl, L, vs, _, .ref tp, rfl, rfl, SqL.of hL6, atI_nat ev, tp, _, rfl, sqT_mono st.dh sw, rfl, _, _, rfl, _, _, rfl, rfl, ?_⟩
        -- if told[state]
        have sH6 : Same H H6 := st.dd.trans st.dh
        obtain ⟨ub, sb, bt⟩ := mark_of db rg.1 (by omega)
        refine ⟨_, rfl, _, rfl, b, ub, _, _, rfl, rfl, sqT_mono sH6 sb, bt, _, rfl, ?_⟩
        refine ite2 (fun h2 => ?_) (fun h2 => ?_)
        · exact ⟨_, rfl, k _ _ st.same (.inr ⟨⟨_, rfl⟩, e.2, hre, h2⟩)⟩
        have tf : tld ms e.2 = false := by
          cases q : tld ms e.2 with
          | true => exact absurd q h2
          | false => rfl
        -- for sign, later in zip(signs, steps[state])
        obtain ⟨r, er⟩ : ∃ r, rows[e.2.toNat]? = some r := ⟨_, List.getElem?_eq_getElem (show e.2.toNat < rows.length by omega)⟩
        obtain ⟨us, qa, su, ua, sq⟩ := row_of da rg.1 er
        have la := gr.wid r (mem_of_at er)
        refine ⟨_, rfl, _, rfl, _, rfl, a, us, _, .ref qa, rfl, rfl, sqT_mono sH6 su, ua, z, qa, r.map V.int, rfl, sqT_mono sH6 sq, ?_⟩
        refine for_it (walk_zip2 (xs := z.cps.toList.map fun c => V.str (sgn c)) (ys := r.map V.int)) (fun c σ H' => ∃ (Dc : Hp) (ts : List (List Nat × Int)) (vs : List V) (kvs : List (Key × V)) (v8 v9 : Option V), σ = [some (.str z), some (.ref a), some (.ref b), some (.ref L), some (.ref N), some (.int (i : Nat)), some (.str (SX.S e.1)), some (.int e.2), v8, v9] ∧
          Step NoW H H Dc H' ∧ H' L = some (.lst vs) ∧ Dc L = none ∧ DpAll K Dc vs (ts.map entD) ∧ H' N = some (.dK kvs) ∧ Dc N = none ∧ Known kvs ts ∧ Walked rows ms z.cps.toList.length ts i ∧ ts[i]? = some e ∧ ∀ c', c' < c → ∃ e' ∈ ts, e'.2 = cellM rows e.2 c') ?_ ?_ ?_ ?_
        · exact ⟨Di, ts, vs, kvs, v8, v9, rfl, st, hL6, dL, pv, hN6, dN6, kn, wk, ep, fun c hc => absurd hc (Nat.not_lt_zero _)⟩
        · rintro c σ H' _ ⟨Dc, ts, vs, kvs, v8, v9, rfl, stc, _⟩
          exact ⟨rfl, sqT_mono (stc.dd.trans stc.dh) sq⟩
        · rintro c v σ H7 H8 hc ⟨Dc, ts, vs, kvs, v8, v9, rfl, stc, hLc, dLc, pvc, hNc, dNc, knc, wkc, epc, clc⟩ ⟨tn, vx, vy, rfl, htn, rfl, exv, eyv⟩
          rw [List.length_map, List.length_map] at hc
          have hc1 : c < z.cps.toList.length := by omega
          have hc2 : c < r.length := by omega
          rw [List.getElem?_map, List.getElem?_eq_getElem hc1] at exv
          rw [List.getElem?_map, List.getElem?_eq_getElem hc2] at eyv
          cases exv
          cases eyv
          have ec : r[c] = cellM rows e.2 c := by
            unfold cellM
            rw [getD_of er, getD_of (List.getElem?_eq_getElem hc2)]
          rw [ec]
          have hrs : RSt rows z.cps.toList.length (cellM rows e.2 c) := .s c hre hc1
          generalize hqq : cellM rows e.2 c = q at hrs
          replace hqq := hqq.symm
          generalize z.cps.toList[c] = sg
          have st8 := stc.trans (Step.tmp (o := .tup [.str (sgn sg), .int q]) stc.dh htn)
          have hL8 : (upd H7 tn (.tup [.str (sgn sg), .int q])) L = some (.lst vs) := by rw [upd_ne (ne_of_none hLc htn)]; exact hLc
          have hN8 : (upd H7 tn (.tup [.str (sgn sg), .int q])) N = some (.dK kvs) := by rw [upd_ne (ne_of_none hNc htn)]; exact hNc
          refine ⟨tn, _, rfl, SqT.of upd_same, rfl, _, _, rfl, _, _, rfl, rfl, ?_⟩
          generalize upd H7 tn (.tup [.str (sgn sg), .int q]) = H8 at st8 hL8 hN8
          -- if later not in known
          have dg : DGet H8 N (.int q) (valV kvs (Sum.inl q)) := DGet.k (k := Sum.inl q) hN8
          refine ⟨_, rfl, _, rfl, N, _, rfl, dg, _, rfl, ?_⟩
          have fwc := wkc.few gr
          have vlc : vs.length = ts.length := by rw [dpAll_len pvc, List.length_map]
          have kl := knc.len
          by_cases hm : ∃ e' ∈ ts, e'.2 = q
          · obtain ⟨e', he', eq⟩ := hm
            have ks := knc.at_ e' he'
            rw [eq] at ks
            rw [ks]
            refine iteF ⟨Dc, ts, vs, kvs, _, _, rfl, st8, hL8, dLc, pvc, hN8, dNc, knc, wkc, epc, fun c' hc' => ?_⟩
            rcases Nat.lt_or_eq_of_le (Nat.le_of_lt_succ hc') with h | h
            · exact clc c' h
            · exact ⟨e', he', by rw [eq, h]; exact hqq⟩
          · have hno : ∀ e' ∈ ts, e'.2 ≠ q := fun e' he' z => hm ⟨e', he', z⟩
            rw [knc.no q hno]
            refine iteT ?_
            refine ⟨_, rfl, _, rfl, N, _, rfl, DPut.k (k := Sum.inl q) hN8 (Nat.lt_of_le_of_lt (show kvs.length ≤ 1000 by omega) (by decide)), ?_⟩
            have hL9 : (upd H8 N (.dK (putK kvs (Sum.inl q) (.bl true)))) L = some (.lst vs) := by rw [upd_ne nLN]; exact hL8
            have st9 := st8.write (o := .dK (putK kvs (Sum.inl q) (.bl true))) (.inr hN0) dNc
            have hN9 : (upd H8 N (.dK (putK kvs (Sum.inl q) (.bl true)))) N = some (.dK (putK kvs (Sum.inl q) (.bl true))) := upd_same
            generalize upd H8 N (.dK (putK kvs (Sum.inl q) (.bl true))) = H9 at hL9 st9 hN9
            have sze := wkc.sz e (mem_of_at epc)
            refine ⟨_, rfl, .inl ⟨rfl, _, SqL.of hL9⟩, _, rfl, _, rfl, _, _, rfl, rfl, ?_, ?_⟩
            · rw [SX.S_len]
              exact small_line (show e.1.length + 1 ≤ 100000 by omega)
            have ecat : SX.S e.1 ++ sgn sg = SX.S (e.1 ++ [sg]) := SX.S_cat e.1 [sg]
            rw [ecat]
            refine ⟨_, rfl, (by show 2 ≤ sizeLine; decide), fun tq htq => ?_⟩
            have sT : Step NoW Dc H9 (upd Dc tq (.tup [.str (SX.S (e.1 ++ [sg])), .int q])) (upd H9 tq (.tup [.str (SX.S (e.1 ++ [sg])), .int q])) := Step.new st9.dh htq
            have dL10 : (upd Dc tq (.tup [.str (SX.S (e.1 ++ [sg])), .int q])) L = none := by rw [upd_ne (ne_of_none hL9 htq)]; exact dLc
            refine ⟨L, vs, _, rfl, rfl, by rw [upd_ne (ne_of_none hL9 htq)]; exact hL9, Nat.lt_of_le_of_lt (show vs.length ≤ 1000 by omega) (by decide), ?_⟩
            have st10 := (st9.trans sT).write (o := .lst (vs ++ [.ref tq])) (.inr hL0) dL10
            refine ⟨_, ts ++ [(e.1 ++ [sg], q)], vs ++ [.ref tq], putK kvs (Sum.inl q) (.bl true), _, _, rfl, st10, upd_same, dL10, ?_, ?_, ?_, knc.more (e.1 ++ [sg], q) _, wkc.more hno hrs (by show (e.1 ++ [sg]).length ≤ _; rw [List.length_append]; show e.1.length + 1 ≤ _; omega), get_app epc, fun c' hc' => ?_⟩
            · rw [List.map_append]
              exact dpAll_app (dp_monoAll sT.dd _ _ pvc) (dpAll_one (.tup (SqT.of upd_same) (.cons (.str _) (.cons (.int _) .nil))))
            · rw [upd_ne (Ne.symm nLN), upd_ne (ne_of_none hN9 htq)]; exact hN9
            · rw [upd_ne (ne_of_none hN9 htq)]; exact dNc
            · rcases Nat.lt_or_eq_of_le (Nat.le_of_lt_succ hc') with h | h
              · obtain ⟨e', he', x⟩ := clc c' h
                exact ⟨e', List.mem_append_left _ he', x⟩
              · exact ⟨(e.1 ++ [sg], q), by simp, by rw [h]; exact hqq⟩
        · rintro σ H7 ⟨Dc, ts, vs, kvs, v8, v9, rfl, stc, hLc, dLc, pvc, hNc, dNc, knc, wkc, epc, clc⟩
          rw [List.length_map, List.length_map, la, Nat.min_self] at clc
          refine ⟨_, rfl, _, _, rfl, rfl, ?_⟩
          exact ⟨Dc, ts, vs, kvs, _, _, _, _, rfl, stc, hLc, dLc, pvc, hNc, dNc, knc, wkc.next epc tf clc⟩
      · have h2 : ¬ ((i : Int) < (vs.length : Int)) := fun z => h1 (decide_eq_true z)
        exact k _ _ st.same (.inl ⟨rfl, wk.end_ (by omega)⟩)
    · rintro σ H Q Q' m ⟨a1, a2, a3, a4, a5, a6, a7, a8, a9, a10, a11, a12, a13, a14, q⟩
      exact ⟨a1, a2, a3, a4, a5, a6, a7, a8, a9, a10, a11, a12, a13, a14, m _ _ q⟩
theorem cFirstRow (T : Tx K mg) : CalX P w K mg base CX0 1 "first_row" (spFirstRow K) := c_firstRow T fun _ F => ok_firstRow F T
end
end Rg
namespace Rg
open PySem PySem.Spec PyProof.Rows L2
section
variable {P : Program} {w : World} {K : PySem.W.Frag} {mg : Str → Option Value} {base : Heap}
/-! ### machines made of machines -/
theorem Tx.ne_Machine (T : Tx K mg) : NeIn K (a_Machine K) := ⟨He.eqO_ok T.neB, of_decide_eq_true T.obB⟩
theorem Tx.tyM (T : Tx K mg) {H : Hp} {x dx : Addr} {fs : List (Str × V)} (h : H x = some (.ins (a_Machine K) dx fs)) : TyX K H (.ref x) (.ref (a_Machine K)) := .base (.ins h T.cl_Machine (He.eqO_ok T.caB) (He.eqO_ok T.cnB) (of_decide_eq_true T.ctB) (of_decide_eq_true T.obB))
theorem cMk (T : Tx K mg) : MkX P w K mg base CX0 3 "Machine" (a_Machine K) (spInit K) := by
  obtain ⟨fd, F⟩ := T.d_init
  exact ⟨_, fd, _, T.mk_Machine, ok_init F T, T.g_Machine, b_init T F⟩
theorem made_new {D3 H3 D' H' : Hp} {x dx a b : Addr} {z : Str} {rows : List (List Int)} {ms : List Bool} (sd : Same D3 H3) (hx : H3 x = none) (hd : H3 dx = none) (ne : dx ≠ x) (gz : GoodSigns z) (gr : GoodRows z.cps.toList.length rows ms)
    (st' : Step (· = x) D3 (upd (upd H3 dx (.own x)) x (.ins (a_Machine K) dx [])) D' H') (dx' : D' x = none) (hx' : H' x = some (.ins (a_Machine K) dx (fM z a b))) (da : Dp K D' (.ref a) (rowsD rows)) (db : Dp K D' (.ref b) (marksD ms)) :
    Step NoW D3 H3 (upd D' x (.ins (a_Machine K) dx (fM z a b))) H' ∧ Mach K (upd D' x (.ins (a_Machine K) dx (fM z a b))) x z rows ms := by
  have x1 : (upd H3 dx (.own x)) x = none := by rw [upd_ne (Ne.symm ne)]; exact hx
  have t1 : Step NoW D3 H3 D3 (upd (upd H3 dx (.own x)) x (.ins (a_Machine K) dx [])) := (Step.tmp sd hd).trans (Step.tmp (Step.tmp (W := NoW) sd hd).dh x1)
  have t2 : Step (· = x) D3 H3 D' H' := (t1.any).trans st'
  have t3 : Step NoW D3 H3 D' H' := t2.fresh fun b e => by rw [e]; exact hx
  have sD : Same D' (upd D' x (.ins (a_Machine K) dx (fM z a b))) := same_new dx'
  exact ⟨t3.settle hx hx' dx', ⟨dx, a, b, upd_same, dp_mono sD _ _ da, dp_mono sD _ _ db⟩, gz, gr⟩
def spWithForm (K : PySem.W.Frag) : Sp := fun vs H Q _ => ∃ (D : Hp) (x t a b : Addr) (z : Str) (r : List (List Int)) (m : List Bool) (rows : List (List Int)) (ms : List Bool), vs = [.ref x, .ref t] ∧ Same D H ∧ Mach K D x z r m ∧ D t = some (.tup [.ref a, .ref b]) ∧ Dp K D (.ref a) (rowsD rows) ∧ Dp K D (.ref b) (marksD ms) ∧ GoodRows z.cps.toList.length rows ms ∧
  ∀ (D' H' : Hp) (x' : Addr), Step NoW D H D' H' → Mach K D' x' z rows ms → Q (.ref x') H'
theorem ok_mwithForm {f : Addr} {fd : FuncData} (F : FunD K "with_form" "Machine.with_form" (defArgs s_mwithForm) (defBody s_mwithForm) (defScope s_mwithForm) [] [] f fd) (T : Tx K mg) : FnOk P w K mg base CX0 5 f fd ["self", "form"] (spWithForm K) := by
  refine F.ok sc_mwithForm (fun vs H Q E h => ?_) (fun cdv A outer s H vs Q E hr h => ?_)
  · obtain ⟨D, x, t, a, b, z, r, m, rows, ms, rfl, _⟩ := h
    rfl
  · obtain ⟨D, x, t, a, b, z, r, m, rows, ms, rfl, sd, M, ht, da, db, gr, k⟩ := h
    obtain ⟨⟨dx, xa, xb, hx, _, _⟩, gz, _⟩ := M
    obtain ⟨a', us, e, sa, ua⟩ := dp_tup da
    cases e
    obtain ⟨b', bs, e, sb, ub⟩ := dp_tup db
    cases e
    have eb := dpAll_bools_eq ub
    subst eb
    refine ⟨_, PSs.nox (pss_one (ps_ret (pe_mkX (cMk T) hr (by decide) (by rfl) pass0 (pa_cons (pe_fldK K (pv 0)) (pa_cons (pe_ix (ix_tupK K) (pv 1) pe_int (fun _ _ => rfl)) (pa_cons (pe_ix (ix_tupK K) (pv 1) pe_int (fun _ _ => rfl)) pa_nil)))))), ?_⟩
    refine ⟨_, rfl, x, _, dx, _, _, rfl, sd _ _ hx, T.cl_Machine, T.n_Machine_signs, rfl, ?_⟩
    refine ⟨_, rfl, t, _, _, .ref a, rfl, rfl, SqT.of (sd _ _ ht), rfl, ?_⟩
    refine ⟨_, rfl, t, _, _, .ref b, rfl, rfl, SqT.of (sd _ _ ht), rfl, ?_⟩
    refine fun x' dx' hx' hd' ne => ?_
    have x1 : (upd H dx' (.own x')) x' = none := by rw [upd_ne (Ne.symm ne)]; exact hx'
    have sN : Same H (upd (upd H dx' (.own x')) x' (.ins (a_Machine K) dx' [])) := (same_new hd').trans (same_new x1)
    have ul : us.length = rows.length := by rw [dpAll_len ua, List.length_map]
    refine ⟨D, x', dx', z, .ref a, .ref b, rows, ms, rfl, sd.trans sN, sd.free hx', upd_same, gz, gr, ⟨a, us, rfl, .inr (sqT_mono (sd.trans sN) sa), ul, fun i u r hu hr' => ?_⟩, ⟨b, rfl, .inr sb⟩, fun D' H' a2 b2 st' dx2 hx2 da2 db2 => ⟨rfl, ?_⟩⟩
    · obtain ⟨v, h1, h2⟩ := dpAll_at ua (show (rows.map rowD)[i]? = some (rowD r) by rw [List.getElem?_map, hr']; rfl)
      rw [hu] at h1
      cases h1
      obtain ⟨q, ws, rfl, sq, wq⟩ := dp_tup h2
      have ew := dpAll_ints_eq wq
      subst ew
      exact ⟨q, rfl, .inr sq⟩
    · obtain ⟨m1, m2⟩ := made_new (K := K) sd hx' hd' ne gz gr st' dx2 hx2 da2 db2
      exact k _ _ x' m1 m2
theorem cWithForm (T : Tx K mg) : MetX P w K mg base CX0 5 (a_Machine K) "with_form" (spWithForm K) := c_mwithForm T fun _ F => ok_mwithForm F T
def Two (K : PySem.W.Frag) (D H : Hp) (x y : Addr) (z : Str) (r1 : List (List Int)) (m1 : List Bool) (r2 : List (List Int)) (m2 : List Bool) : Prop := Same D H ∧ Mach K D x z r1 m1 ∧ Mach K D y z r2 m2 ∧ r1.length * r2.length ≤ 200
theorem Two.swap {D H : Hp} {x y : Addr} {z : Str} {r1 : List (List Int)} {m1 : List Bool} {r2 : List (List Int)} {m2 : List Bool} (h : Two K D H x y z r1 m1 r2 m2) : Two K D H y x z r2 m2 r1 m1 := ⟨h.1, h.2.2.1, h.2.1, by rw [Nat.mul_comm]; exact h.2.2.2⟩
theorem Two.mono {D H H' : Hp} {x y : Addr} {z : Str} {r1 : List (List Int)} {m1 : List Bool} {r2 : List (List Int)} {m2 : List Bool} (h : Two K D H x y z r1 m1 r2 m2) (e : Same H H') : Two K D H' x y z r1 m1 r2 m2 := ⟨h.1.trans e, h.2⟩
def spWithOther (K : PySem.W.Frag) : Sp := fun vs H Q _ => ∃ (D : Hp) (x y : Addr) (z rule : Str) (r1 : List (List Int)) (m1 : List Bool) (r2 : List (List Int)) (m2 : List Bool), vs = [.ref x, .ref y, .str rule] ∧ Two K D H x y z r1 m1 r2 m2 ∧
  ∀ (D' H' : Hp) (x' : Addr) (rows : List (List Int)) (ms : List Bool), Step NoW D H D' H' → Mach K D' x' z rows ms → JoinOk r1 m1 r2 m2 z.cps.toList.length rule rows ms → Q (.ref x') H'
theorem ok_mwithOther {f : Addr} {fd : FuncData} (F : FunD K "with_other" "Machine.with_other" (defArgs s_mwithOther) (defBody s_mwithOther) (defScope s_mwithOther) [] [] f fd) (T : Tx K mg) : FnOk P w K mg base CX0 6 f fd ["self", "other", "rule"] (spWithOther K) := by
  refine F.ok sc_mwithOther (fun vs H Q E h => ?_) (fun cdv A outer s H vs Q E hr h => ?_)
  · obtain ⟨D, x, y, z, rule, r1, m1, r2, m2, rfl, _⟩ := h
    rfl
  · obtain ⟨D, x, y, z, rule, r1, m1, r2, m2, rfl, ⟨sd, M1, M2, small⟩, k⟩ := h
    obtain ⟨dx, xa, xb, hx, _, _⟩ := M1.ex
    obtain ⟨dy, ya, yb, hy, _, _⟩ := M2.ex
    refine ⟨_, PSs.nox (pss_cons (ps_if (pt_cmpR op_ne (pe_fldK K (pv 0)) (pe_fldK K (pv 1)) (nomark _))
      (pss_one ps_never) pss_nil)
      (pss_one (ps_ret (pe_mX (pv 0) T.cl_Machine (cWithForm T) hr (by decide) pass0 (pa_cons (pe_cX (cJoined T) hr (by decide) (by rfl) pass0 (pa_cons (pv 0) (pa_cons (pv 1) (pa_cons (pv 2) pa_nil)))) pa_nil))))), ?_⟩
    refine ⟨_, rfl, x, _, dx, _, _, rfl, sd _ _ hx, T.cl_Machine, T.n_Machine_signs, rfl, _, rfl, y, _, dy, _, _, rfl, sd _ _ hy, T.cl_Machine, T.n_Machine_signs, rfl, rfl, _, rfl, ?_⟩
    refine iteNS rfl ?_
    refine ⟨_, rfl, x, dx, _, rfl, sd _ _ hx, rfl, _, rfl, _, rfl, _, rfl, D, x, y, z, rule, r1, m1, r2, m2, rfl, sd, M1, M2, small, fun D' H' t a b rows ms st ht da db jo => ?_⟩
    refine ⟨D', x, t, a, b, z, r1, m1, rows, ms, rfl, st.dh, M1.mono st.dd, ht, da, db, jo.good, fun D2 H2 x' st2 M' => ?_⟩
    exact k _ _ x' rows ms (st.trans st2) M' jo
theorem cWithOther (T : Tx K mg) : MetX P w K mg base CX0 6 (a_Machine K) "with_other" (spWithOther K) := c_mwithOther T fun _ F => ok_mwithOther F T
def spOp (K : PySem.W.Frag) (rule : Str) : Sp := fun vs H Q _ => ∃ (D : Hp) (x y : Addr) (z : Str) (r1 : List (List Int)) (m1 : List Bool) (r2 : List (List Int)) (m2 : List Bool), vs = [.ref x, .ref y] ∧ Two K D H x y z r1 m1 r2 m2 ∧
  ∀ (D' H' : Hp) (x' : Addr) (rows : List (List Int)) (ms : List Bool), Step NoW D H D' H' → Mach K D' x' z rows ms → JoinOk r1 m1 r2 m2 z.cps.toList.length rule rows ms → Q (.ref x') H'
theorem ok_msub {f : Addr} {fd : FuncData} (F : FunD K "__sub__" "Machine.__sub__" (defArgs s_msub) (defBody s_msub) (defScope s_msub) [] [] f fd) (T : Tx K mg) : FnOk P w K mg base CX0 7 f fd ["self", "other"] (spOp K "first") := by
  refine F.ok sc_msub (fun vs H Q E h => ?_) (fun cdv A outer s H vs Q E hr h => ?_)
  · obtain ⟨D, x, y, z, r1, m1, r2, m2, rfl, _⟩ := h
    rfl
  · obtain ⟨D, x, y, z, r1, m1, r2, m2, rfl, tw, k⟩ := h
    obtain ⟨dx, xa, xb, hx, _, _⟩ := tw.2.1.ex
    refine ⟨_, PSs.nox (pss_one (ps_ret (pe_mX (pv 0) T.cl_Machine (cWithOther T) hr (by decide) pass0 (pa_cons (pv 1) (pa_cons pe_str pa_nil))))), ?_⟩
    exact ⟨_, rfl, x, dx, _, rfl, tw.1 _ _ hx, rfl, _, rfl, D, x, y, z, _, r1, m1, r2, m2, rfl, tw, k⟩
theorem cMSub (T : Tx K mg) : MetX P w K mg base CX0 7 (a_Machine K) "__sub__" (spOp K "first") := c_msub T fun _ F => ok_msub F T
theorem ok_mxor {f : Addr} {fd : FuncData} (F : FunD K "__xor__" "Machine.__xor__" (defArgs s_mxor) (defBody s_mxor) (defScope s_mxor) [] [] f fd) (T : Tx K mg) : FnOk P w K mg base CX0 7 f fd ["self", "other"] (spOp K "one") := by
  refine F.ok sc_mxor (fun vs H Q E h => ?_) (fun cdv A outer s H vs Q E hr h => ?_)
  · obtain ⟨D, x, y, z, r1, m1, r2, m2, rfl, _⟩ := h
    rfl
  · obtain ⟨D, x, y, z, r1, m1, r2, m2, rfl, tw, k⟩ := h
    obtain ⟨dx, xa, xb, hx, _, _⟩ := tw.2.1.ex
    refine ⟨_, PSs.nox (pss_one (ps_ret (pe_mX (pv 0) T.cl_Machine (cWithOther T) hr (by decide) pass0 (pa_cons (pv 1) (pa_cons pe_str pa_nil))))), ?_⟩
    exact ⟨_, rfl, x, dx, _, rfl, tw.1 _ _ hx, rfl, _, rfl, D, x, y, z, _, r1, m1, r2, m2, rfl, tw, k⟩
theorem cMXor (T : Tx K mg) : MetX P w K mg base CX0 7 (a_Machine K) "__xor__" (spOp K "one") := c_mxor T fun _ F => ok_mxor F T
/-! ### first, bool -/
def spMFirst (K : PySem.W.Frag) : Sp := fun vs H Q _ => ∃ (x : Addr) (z : Str) (rows : List (List Int)) (ms : List Bool), vs = [.ref x] ∧ Mach K H x z rows ms ∧ ∀ (H' : Hp) (v : V), Same H H' → firstAns rows ms z.cps.toList.length v → Q v H'
theorem ok_mfirst {f : Addr} {fd : FuncData} (F : FunD K "first" "Machine.first" (defArgs s_mfirst) (defBody s_mfirst) (defScope s_mfirst) [] [] f fd) (T : Tx K mg) : FnOk P w K mg base CX0 2 f fd ["self"] (spMFirst K) := by
  refine F.ok sc_mfirst (fun vs H Q E h => ?_) (fun cdv A outer s H vs Q E hr h => ?_)
  · obtain ⟨x, z, rows, ms, rfl, _⟩ := h
    rfl
  · obtain ⟨x, z, rows, ms, rfl, M, k⟩ := h
    obtain ⟨⟨dx, a, b, hx, da, db⟩, gz, gr⟩ := M
    refine ⟨_, PSs.nox (pss_one (ps_ret (pe_cX (cFirstRow T) hr (by decide) (by rfl) pass0 (pa_cons (pe_fldK K (pv 0)) (pa_cons (pe_fldK K (pv 0)) (pa_cons (pe_fldK K (pv 0)) pa_nil)))))), ?_⟩
    refine ⟨_, rfl, x, _, dx, _, _, rfl, hx, T.cl_Machine, T.n_Machine_signs, rfl, _, rfl, x, _, dx, _, _, rfl, hx, T.cl_Machine, T.n_Machine_steps, rfl, _, rfl, x, _, dx, _, _, rfl, hx, T.cl_Machine, T.n_Machine_told, rfl, ?_⟩
    exact ⟨z, a, b, rows, ms, rfl, da, db, gz, gr, k⟩
theorem cMFirst (T : Tx K mg) : MetX P w K mg base CX0 2 (a_Machine K) "first" (spMFirst K) := c_mfirst T fun _ F => ok_mfirst F T
def spMBool (K : PySem.W.Frag) : Sp := fun vs H Q _ => ∃ (x : Addr) (z : Str) (rows : List (List Int)) (ms : List Bool), vs = [.ref x] ∧ Mach K H x z rows ms ∧ ∀ (H' : Hp) (b : Bool), Same H H' → (b = true ↔ ToldSome rows ms z.cps.toList.length) → Q (.bl b) H'
theorem ok_mbool {f : Addr} {fd : FuncData} (F : FunD K "__bool__" "Machine.__bool__" (defArgs s_mbool) (defBody s_mbool) (defScope s_mbool) [] [] f fd) (T : Tx K mg) : FnOk P w K mg base CX0 3 f fd ["self"] (spMBool K) := by
  refine F.ok sc_mbool (fun vs H Q E h => ?_) (fun cdv A outer s H vs Q E hr h => ?_)
  · obtain ⟨x, z, rows, ms, rfl, _⟩ := h
    rfl
  · obtain ⟨x, z, rows, ms, rfl, M, k⟩ := h
    obtain ⟨dx, a, b, hx, _, _⟩ := M.ex
    refine ⟨_, PSs.nox (pss_one (ps_ret (pe_cmpR op_notN (pe_mX0 (pv 0) T.cl_Machine (cMFirst T) hr (by decide) pass0) pe_non (nomark _)))), ?_⟩
    refine ⟨_, rfl, x, dx, _, rfl, hx, rfl, x, z, rows, ms, rfl, M, fun H' v sH ans => ⟨rfl, ?_⟩⟩
    rcases ans with ⟨rfl, no⟩ | ⟨⟨t, rfl⟩, yes⟩
    · exact k _ _ sH ⟨fun e => by simp at e, fun e => absurd e no⟩
    · exact k _ _ sH ⟨fun _ => yes, fun _ => by simp⟩
theorem cMBool (T : Tx K mg) : MetX P w K mg base CX0 3 (a_Machine K) "__bool__" (spMBool K) := c_mbool T fun _ F => ok_mbool F T
/-! ### comparisons -/
def Below (r1 : List (List Int)) (m1 : List Bool) (r2 : List (List Int)) (m2 : List Bool) (n : Nat) : Prop := ∀ p, RPair r1 r2 n p → tld m1 p.1 = true → tld m2 p.2 = true
def Alike (r1 : List (List Int)) (m1 : List Bool) (r2 : List (List Int)) (m2 : List Bool) (n : Nat) : Prop := ∀ p, RPair r1 r2 n p → tld m1 p.1 = tld m2 p.2
theorem JoinOk.below {r1 r2 rows : List (List Int)} {m1 m2 ms : List Bool} {n : Nat} (h : JoinOk r1 m1 r2 m2 n "first" rows ms) : ToldSome rows ms n ↔ ¬ Below r1 m1 r2 m2 n := by
  rw [h.told]
  have e : ∀ a b : Bool, chosen "first" a b = (a && !b) := fun a b => by
    unfold chosen
    rw [if_neg (by decide), if_neg (by decide), if_pos rfl]
  constructor
  · rintro ⟨p, hp, hc⟩ bl
    rw [e] at hc
    obtain ⟨h1, h2⟩ := Bool.and_eq_true_iff.mp hc
    rw [bl p hp h1] at h2
    cases h2
  · intro nb
    refine Classical.byContradiction fun no => nb fun p hp h1 => ?_
    cases h2 : tld m2 p.2 with
    | true => rfl
    | false => exact absurd ⟨p, hp, by rw [e, h1, h2]; rfl⟩ no
theorem JoinOk.alike {r1 r2 rows : List (List Int)} {m1 m2 ms : List Bool} {n : Nat} (h : JoinOk r1 m1 r2 m2 n "one" rows ms) : ToldSome rows ms n ↔ ¬ Alike r1 m1 r2 m2 n := by
  rw [h.told]
  have e : ∀ a b : Bool, chosen "one" a b = (a != b) := fun a b => by
    unfold chosen
    rw [if_neg (by decide), if_neg (by decide), if_neg (by decide)]
  constructor
  · rintro ⟨p, hp, hc⟩ al
    rw [e, al p hp] at hc
    simp at hc
  · intro nb
    refine Classical.byContradiction fun no => nb fun p hp => ?_
    refine Classical.byContradiction fun ne => no ⟨p, hp, ?_⟩
    rw [e]
    exact bne_iff_ne.mpr ne
def spCmp (K : PySem.W.Frag) (R : List (List Int) → List Bool → List (List Int) → List Bool → Nat → Prop) : Sp := fun vs H Q _ => ∃ (D : Hp) (x y : Addr) (z : Str) (r1 : List (List Int)) (m1 : List Bool) (r2 : List (List Int)) (m2 : List Bool), vs = [.ref x, .ref y] ∧ Two K D H x y z r1 m1 r2 m2 ∧
  ∀ (H' : Hp) (b : Bool), Same H H' → (b = true ↔ R r1 m1 r2 m2 z.cps.toList.length) → Q (.bl b) H'
theorem not_iff' {b : Bool} {p : Prop} (h : b = true ↔ ¬ p) : ((!b) = true) ↔ p := by
  cases b with
  | true => exact ⟨fun e => (by cases e), fun e => absurd e (h.mp rfl)⟩
  | false => exact ⟨fun _ => Classical.byContradiction fun n => (by cases h.mpr n), fun _ => rfl⟩
theorem sub_read {T : Tx K mg} {D H : Hp} {x y : Addr} {z : Str} {r1 : List (List Int)} {m1 : List Bool} {r2 : List (List Int)} {m2 : List Bool} (tw : Two K D H x y z r1 m1 r2 m2) {Q : Bool → Hp → Prop} (k : ∀ (H' : Hp) (b : Bool), Same H H' → (b = true ↔ ¬ Below r1 m1 r2 m2 z.cps.toList.length) → Q b H') :
    rBinO (a_Machine K) (spOp K "first") E0 (.ref x) (.ref y) H fun v H1 => rTruO (a_Machine K) (spMBool K) E0 v H1 Q := by
  obtain ⟨dx, xa, xb, hx, _, _⟩ := tw.2.1.ex
  obtain ⟨dy, ya, yb, hy, _, _⟩ := tw.2.2.1.ex
  refine ⟨x, dx, _, y, dy, _, rfl, rfl, tw.1 _ _ hx, tw.1 _ _ hy, D, x, y, z, r1, m1, r2, m2, rfl, tw, fun D' H' x' rows ms st M jo => ?_⟩
  obtain ⟨dx', a', b', hx', _, _⟩ := M.ex
  exact ⟨x', dx', _, rfl, st.dh _ _ hx', x', z, rows, ms, rfl, M.mono st.dh, fun H2 b s2 iff => ⟨b, rfl, k _ _ (st.same.trans s2) (iff.trans jo.below)⟩⟩
theorem sub_readB {T : Tx K mg} {D H : Hp} {x y : Addr} {z : Str} {r1 : List (List Int)} {m1 : List Bool} {r2 : List (List Int)} {m2 : List Bool} (tw : Two K D H x y z r1 m1 r2 m2) {Q : Bool → Hp → Prop} {R : V → Hp → Prop} (hR : ∀ v H1, rTruO (a_Machine K) (spMBool K) E0 v H1 Q → R v H1)
    (k : ∀ (H' : Hp) (b : Bool), Same H H' → (b = true ↔ ¬ Below r1 m1 r2 m2 z.cps.toList.length) → Q b H') : rBinO (a_Machine K) (spOp K "first") E0 (.ref x) (.ref y) H R := by
  obtain ⟨a, dx, fs, b, dy, gs, e1, e2, h1, h2, D', x', y', z', a1, a2, a3, a4, e3, tw', kk⟩ := sub_read (T := T) tw k
  exact ⟨a, dx, fs, b, dy, gs, e1, e2, h1, h2, D', x', y', z', a1, a2, a3, a4, e3, tw', fun p q r s t u v w => hR _ _ (kk p q r s t u v w)⟩
theorem ok_mle {f : Addr} {fd : FuncData} (F : FunD K "__le__" "Machine.__le__" (defArgs s_mle) (defBody s_mle) (defScope s_mle) [] [] f fd) (T : Tx K mg) : FnOk P w K mg base CX0 8 f fd ["self", "other"] (spCmp K Below) := by
  refine F.ok sc_mle (fun vs H Q E h => ?_) (fun cdv A outer s H vs Q E hr h => ?_)
  · obtain ⟨D, x, y, z, r1, m1, r2, m2, rfl, _⟩ := h
    rfl
  · obtain ⟨D, x, y, z, r1, m1, r2, m2, rfl, tw, k⟩ := h
    obtain ⟨dx, xa, xb, hx, _, _⟩ := tw.2.1.ex
    obtain ⟨dy, ya, yb, hy, _, _⟩ := tw.2.2.1.ex
    refine ⟨_, PSs.nox (pss_one (ps_ret (pe_notO (cMBool T) hr (by decide) pass0 (pe_op (op_binO (op := .Sub) (cMSub T) T.first_Machine hr (by decide) pass0) (pv 0) (pv 1))))), ?_⟩
    exact ⟨_, rfl, _, rfl, sub_read (T := T) tw fun H' b sH iff => k _ _ sH (not_iff' iff)⟩
theorem cMLe (T : Tx K mg) : MetX P w K mg base CX0 8 (a_Machine K) "__le__" (spCmp K Below) := c_mle T fun _ F => ok_mle F T
theorem ok_mge {f : Addr} {fd : FuncData} (F : FunD K "__ge__" "Machine.__ge__" (defArgs s_mge) (defBody s_mge) (defScope s_mge) [] [] f fd) (T : Tx K mg) : FnOk P w K mg base CX0 8 f fd ["self", "other"] (spCmp K (fun r1 m1 r2 m2 n => Below r2 m2 r1 m1 n)) := by
  refine F.ok sc_mge (fun vs H Q E h => ?_) (fun cdv A outer s H vs Q E hr h => ?_)
  · obtain ⟨D, x, y, z, r1, m1, r2, m2, rfl, _⟩ := h
    rfl
  · obtain ⟨D, x, y, z, r1, m1, r2, m2, rfl, tw, k⟩ := h
    obtain ⟨dx, xa, xb, hx, _, _⟩ := tw.2.1.ex
    obtain ⟨dy, ya, yb, hy, _, _⟩ := tw.2.2.1.ex
    refine ⟨_, PSs.nox (pss_one (ps_ret (pe_notO (cMBool T) hr (by decide) pass0 (pe_op (op_binO (op := .Sub) (cMSub T) T.first_Machine hr (by decide) pass0) (pv 1) (pv 0))))), ?_⟩
    exact ⟨_, rfl, _, rfl, sub_read (T := T) tw.swap fun H' b sH iff => k _ _ sH (not_iff' iff)⟩
theorem cMGe (T : Tx K mg) : MetX P w K mg base CX0 8 (a_Machine K) "__ge__" (spCmp K fun r1 m1 r2 m2 n => Below r2 m2 r1 m1 n) := c_mge T fun _ F => ok_mge F T
theorem ok_mlt {f : Addr} {fd : FuncData} (F : FunD K "__lt__" "Machine.__lt__" (defArgs s_mlt) (defBody s_mlt) (defScope s_mlt) [] [] f fd) (T : Tx K mg) : FnOk P w K mg base CX0 8 f fd ["self", "other"] (spCmp K (fun r1 m1 r2 m2 n => Below r1 m1 r2 m2 n ∧ ¬ Below r2 m2 r1 m1 n)) := by
  refine F.ok sc_mlt (fun vs H Q E h => ?_) (fun cdv A outer s H vs Q E hr h => ?_)
  · obtain ⟨D, x, y, z, r1, m1, r2, m2, rfl, _⟩ := h
    rfl
  · obtain ⟨D, x, y, z, r1, m1, r2, m2, rfl, tw, k⟩ := h
    obtain ⟨dx, xa, xb, hx, _, _⟩ := tw.2.1.ex
    obtain ⟨dy, ya, yb, hy, _, _⟩ := tw.2.2.1.ex
    refine ⟨_, PSs.nox (pss_one (ps_ret (pe_and (pe_notO (cMBool T) hr (by decide) pass0 (pe_op (op_binO (op := .Sub) (cMSub T) T.first_Machine hr (by decide) pass0) (pv 0) (pv 1))) (pe_one (pe_callTy (call_boolO (cMBool T) hr (by decide) pass0) (by rfl) T.f_bool (by decide +kernel) (pa_cons (pe_op (op_binO (op := .Sub) (cMSub T) T.first_Machine hr (by decide) pass0) (pv 1) (pv 0)) pa_nil)))))), ?_⟩
    refine ⟨_, rfl, _, rfl, sub_read (T := T) tw fun H1 b s1 iff => ⟨_, rfl, ?_⟩⟩
    refine ite2 (fun h1 => ?_) (fun h1 => ?_)
    · have bl := (not_iff' iff).mp h1
      refine ⟨_, rfl, _, rfl, sub_readB (T := T) (tw.swap.mono s1) (fun v H1 q => ⟨v, rfl, q⟩) fun H2 b2 s2 iff2 => ?_⟩
      exact k _ _ (s1.trans s2) ⟨fun e => ⟨bl, iff2.mp e⟩, fun e => iff2.mpr e.2⟩
    · have nb : ¬ Below r1 m1 r2 m2 z.cps.toList.length := fun e => h1 ((not_iff' iff).mpr e)
      exact k _ _ s1 ⟨fun e => (by cases e), fun e => absurd e.1 nb⟩
theorem cMLt (T : Tx K mg) : MetX P w K mg base CX0 8 (a_Machine K) "__lt__" (spCmp K fun r1 m1 r2 m2 n => Below r1 m1 r2 m2 n ∧ ¬ Below r2 m2 r1 m1 n) := c_mlt T fun _ F => ok_mlt F T
theorem ok_mgt {f : Addr} {fd : FuncData} (F : FunD K "__gt__" "Machine.__gt__" (defArgs s_mgt) (defBody s_mgt) (defScope s_mgt) [] [] f fd) (T : Tx K mg) : FnOk P w K mg base CX0 8 f fd ["self", "other"] (spCmp K (fun r1 m1 r2 m2 n => Below r2 m2 r1 m1 n ∧ ¬ Below r1 m1 r2 m2 n)) := by
  refine F.ok sc_mgt (fun vs H Q E h => ?_) (fun cdv A outer s H vs Q E hr h => ?_)
  · obtain ⟨D, x, y, z, r1, m1, r2, m2, rfl, _⟩ := h
    rfl
  · obtain ⟨D, x, y, z, r1, m1, r2, m2, rfl, tw, k⟩ := h
    obtain ⟨dx, xa, xb, hx, _, _⟩ := tw.2.1.ex
    obtain ⟨dy, ya, yb, hy, _, _⟩ := tw.2.2.1.ex
    refine ⟨_, PSs.nox (pss_one (ps_ret (pe_and (pe_notO (cMBool T) hr (by decide) pass0 (pe_op (op_binO (op := .Sub) (cMSub T) T.first_Machine hr (by decide) pass0) (pv 1) (pv 0))) (pe_one (pe_callTy (call_boolO (cMBool T) hr (by decide) pass0) (by rfl) T.f_bool (by decide +kernel) (pa_cons (pe_op (op_binO (op := .Sub) (cMSub T) T.first_Machine hr (by decide) pass0) (pv 0) (pv 1)) pa_nil)))))), ?_⟩
    refine ⟨_, rfl, _, rfl, sub_read (T := T) tw.swap fun H1 b s1 iff => ⟨_, rfl, ?_⟩⟩
    refine ite2 (fun h1 => ?_) (fun h1 => ?_)
    · have bl := (not_iff' iff).mp h1
      refine ⟨_, rfl, _, rfl, sub_readB (T := T) (tw.mono s1) (fun v H1 q => ⟨v, rfl, q⟩) fun H2 b2 s2 iff2 => ?_⟩
      exact k _ _ (s1.trans s2) ⟨fun e => ⟨bl, iff2.mp e⟩, fun e => iff2.mpr e.2⟩
    · have nb : ¬ Below r2 m2 r1 m1 z.cps.toList.length := fun e => h1 ((not_iff' iff).mpr e)
      exact k _ _ s1 ⟨fun e => (by cases e), fun e => absurd e.1 nb⟩
theorem cMGt (T : Tx K mg) : MetX P w K mg base CX0 8 (a_Machine K) "__gt__" (spCmp K fun r1 m1 r2 m2 n => Below r2 m2 r1 m1 n ∧ ¬ Below r1 m1 r2 m2 n) := c_mgt T fun _ F => ok_mgt F T
theorem ok_meq {f : Addr} {fd : FuncData} (F : FunD K "__eq__" "Machine.__eq__" (defArgs s_meq) (defBody s_meq) (defScope s_meq) [] [] f fd) (T : Tx K mg) : FnOk P w K mg base CX0 8 f fd ["self", "other"] (spCmp K Alike) := by
  refine F.ok sc_meq (fun vs H Q E h => ?_) (fun cdv A outer s H vs Q E hr h => ?_)
  · obtain ⟨D, x, y, z, r1, m1, r2, m2, rfl, _⟩ := h
    rfl
  · obtain ⟨D, x, y, z, r1, m1, r2, m2, rfl, tw, k⟩ := h
    obtain ⟨dx, xa, xb, hx, _, _⟩ := tw.2.1.ex
    obtain ⟨dy, ya, yb, hy, _, _⟩ := tw.2.2.1.ex
    refine ⟨_, PSs.nox (pss_one (ps_ret (pe_and (pe_callB (call_isiK' K) (by rfl) T.f_isinstance (by decide +kernel) (pa_cons (pv 1) (pa_cons (pe_glob (v := .ref _) (by rfl) T.g_Machine rfl) pa_nil))) (pe_and (pe_cmpR op_eq (pe_fldK K (pv 0)) (pe_fldK K (pv 1)) (nomark _)) (pe_one (pe_notO (cMBool T) hr (by decide) pass0 (pe_op (op_binO (op := .BitXor) (cMXor T) T.first_Machine hr (by decide) pass0) (pv 0) (pv 1)))))))), ?_⟩
    refine ⟨_, rfl, _, _, _, _, _, rfl, .own _, T.tyM (tw.1 _ _ hy), of_decide_eq_true T.kiM, _, rfl, iteT ?_⟩
    refine ⟨_, rfl, x, _, dx, _, _, rfl, tw.1 _ _ hx, T.cl_Machine, T.n_Machine_signs, rfl, _, rfl, y, _, dy, _, _, rfl, tw.1 _ _ hy, T.cl_Machine, T.n_Machine_signs, rfl, rfl, _, rfl, ?_⟩
    have e1 : decide (V.str z = V.str z) = true := decide_eq_true rfl
    rw [e1]
    refine iteT ?_
    refine ⟨_, rfl, _, rfl, x, dx, _, y, dy, _, rfl, rfl, tw.1 _ _ hx, tw.1 _ _ hy, D, x, y, z, r1, m1, r2, m2, rfl, tw, fun D' H' x' rows ms st M jo => ?_⟩
    obtain ⟨dx', a', b', hx', _, _⟩ := M.ex
    exact ⟨x', dx', _, rfl, st.dh _ _ hx', x', z, rows, ms, rfl, M.mono st.dh, fun H2 b s2 iff => ⟨b, rfl, k _ _ (st.same.trans s2) (not_iff' (iff.trans jo.alike))⟩⟩
theorem cMEq (T : Tx K mg) : MetX P w K mg base CX0 8 (a_Machine K) "__eq__" (spCmp K Alike) := c_meq T fun _ F => ok_meq F T
/-- a machine equals nothing else -/
def spEqNo (K : PySem.W.Frag) : Sp := fun vs H Q _ => ∃ (x : Addr) (y : V) (t : Value), vs = [.ref x, y] ∧ TyX K H y t ∧ PySem.W.kitOne K t (.ref (a_Machine K)) = some false ∧ Q (.bl false) H
theorem ok_meqNo {f : Addr} {fd : FuncData} (F : FunD K "__eq__" "Machine.__eq__" (defArgs s_meq) (defBody s_meq) (defScope s_meq) [] [] f fd) (T : Tx K mg) : FnOk P w K mg base CX0 8 f fd ["self", "other"] (spEqNo K) := by
  refine F.ok sc_meq (fun vs H Q E h => ?_) (fun cdv A outer s H vs Q E hr h => ?_)
  · obtain ⟨x, y, t, rfl, _⟩ := h
    rfl
  · obtain ⟨x, y, t, rfl, ty, ki, k⟩ := h
    refine ⟨_, PSs.nox (pss_one (ps_ret (pe_and (pe_callB (call_isiK' K) (by rfl) T.f_isinstance (by decide +kernel) (pa_cons (pv 1) (pa_cons (pe_glob (v := .ref _) (by rfl) T.g_Machine rfl) pa_nil))) (pe_and (pe_cmpR op_eq (pe_fldK K (pv 0)) (pe_fldK K (pv 1)) (nomark _)) (pe_one (pe_notO (cMBool T) hr (by decide) pass0 (pe_op (op_binO (op := .BitXor) (cMXor T) T.first_Machine hr (by decide) pass0) (pv 0) (pv 1)))))))), ?_⟩
    exact ⟨_, rfl, _, _, _, _, _, rfl, .own _, ty, ki, _, rfl, iteF k⟩
theorem cMEqNo (T : Tx K mg) : MetX P w K mg base CX0 8 (a_Machine K) "__eq__" (spEqNo K) := c_meq T fun _ F => ok_meqNo F T
end
end Rg
namespace Rg
open PySem PySem.Spec PyProof.Rows L2
section
variable {P : Program} {w : World} {K : PySem.W.Frag} {mg : Str → Option Value} {base : Heap}
/-! ### data of pairs -/
theorem shaped_list {ds : List PyData} (h : ∀ d ∈ ds, d.canLay0 = true ∧ d.depth ≤ 62) : SeqAt.shaped (.list ds) = true := by
  have a : ∀ l : List PyData, (∀ d ∈ l, d.canLay0 = true ∧ d.depth ≤ 62) → PyData.canLayAll0 l = true ∧ PyData.depthAll l ≤ 62 := by
    intro l
    induction l with
    | nil => intro _; exact ⟨rfl, by show (0 : Nat) ≤ 62; decide⟩
    | cons x r ih =>
      intro hl
      obtain ⟨i1, i2⟩ := ih fun d hd => hl d (List.mem_cons_of_mem _ hd)
      obtain ⟨j1, j2⟩ := hl x List.mem_cons_self
      refine ⟨?_, ?_⟩
      · show (x.canLay0 && PyData.canLayAll0 r) = true
        rw [j1, i1]
        rfl
      · show max x.depth (PyData.depthAll r) ≤ 62
        exact Nat.max_le.mpr ⟨j2, i2⟩
  obtain ⟨h1, h2⟩ := a ds h
  unfold SeqAt.shaped
  have e1 : (PyData.list ds).canLay0 = true := h1
  have e2 : (PyData.list ds).depth ≤ 64 := by
    show PyData.depthAll ds + 1 ≤ 64
    omega
  rw [e1, decide_eq_true e2]
  rfl
theorem pair_shape (p : Int × Int) : (pairD p).canLay0 = true ∧ (pairD p).depth ≤ 62 := ⟨rfl, by show (1 : Nat) ≤ 62; decide⟩
theorem pair_shaped (p : Int × Int) : SeqAt.shaped (pairD p) = true := rfl
theorem pairs_shaped (ps : List (Int × Int)) : SeqAt.shaped (.list (ps.map pairD)) = true := shaped_list fun d hd => by
  obtain ⟨p, _, rfl⟩ := List.mem_map.mp hd
  exact pair_shape p
theorem pair_eqv (p q : Int × Int) : PyData.eqv (pairD p) (pairD q) = decide (p = q) := by
  show ((p.1 == q.1) && ((p.2 == q.2) && true)) = decide (p = q)
  obtain ⟨a, b⟩ := p
  obtain ⟨c, d⟩ := q
  by_cases h1 : a = c
  · by_cases h2 : b = d
    · subst h1 h2
      simp
    · rw [decide_eq_false (fun e => h2 (Prod.mk.inj e).2)]
      simp [h2]
  · rw [decide_eq_false (fun e => h1 (Prod.mk.inj e).1)]
    simp [h1]
theorem pairs_any (ps : List (Int × Int)) (q : Int × Int) : ((ps.map pairD).any fun z => PyData.eqv z (pairD q)) = decide (q ∈ ps) := by
  induction ps with
  | nil => simp
  | cons p r ih =>
    rw [List.map_cons, List.any_cons, ih, pair_eqv]
    by_cases h1 : p = q
    · subst h1
      simp
    · have h2 : ¬ q = p := fun e => h1 e.symm
      simp [h1, h2]
theorem dpAll_take {D : Hp} : ∀ (c : Nat) {vs : List V} {ds : List PyData}, DpAll K D vs ds → DpAll K D (vs.take c) (ds.take c)
  | 0, _, _, _ => .nil
  | c + 1, _, _, .nil => .nil
  | c + 1, _, _, .cons a b => .cons a (dpAll_take c b)
/-! ### plans -/
structure PlanAt (K : PySem.W.Frag) (D : Hp) (t : Addr) (n : Nat) (rows : List (List Int)) (ms : List Bool) : Prop where
  ex : ∃ a c, D t = some (.tup [.ref a, .ref c]) ∧ (∃ us, D a = some (.lst us) ∧ DpAll K D us (rows.map lineD)) ∧ D c = some (.lst (ms.map V.bl))
  gr : GoodRows n rows ms
theorem PlanAt.mono {D D' : Hp} {t : Addr} {n : Nat} {rows : List (List Int)} {ms : List Bool} (h : PlanAt K D t n rows ms) (e : Same D D') : PlanAt K D' t n rows ms := by
  obtain ⟨⟨a, c, h1, h2, h3⟩, gr⟩ := h
  obtain ⟨us, h4, h5⟩ := h2
  exact ⟨⟨a, c, e _ _ h1, ⟨us, e _ _ h4, dp_monoAll e _ _ h5⟩, e _ _ h3⟩, gr⟩
theorem tab_dp {D : Hp} {a : Addr} {us : List V} {rows : List (List Int)} (h : D a = some (.lst us)) (d : DpAll K D us (rows.map lineD)) : Dp K D (.ref a) (tableD rows) := .lst (SqL.of h) d
theorem line_of {D : Hp} {a : Addr} {rows : List (List Int)} {i : Int} {r : List Int} (h : Dp K D (.ref a) (tableD rows)) (h0 : 0 ≤ i) (hr : rows[i.toNat]? = some r) : ∃ us q, SqL K D a us ∧ atI us i = some (.ref q) ∧ SqL K D q (r.map V.int) := by
  obtain ⟨a', us, e, sa, ua⟩ := dp_list h
  cases e
  obtain ⟨v, h1, h2⟩ := dpAll_at ua (show (rows.map lineD)[i.toNat]? = some (lineD r) by rw [List.getElem?_map, hr]; rfl)
  obtain ⟨q, ws, rfl, sq, wq⟩ := dp_list h2
  have ew := dpAll_ints_eq wq
  subst ew
  exact ⟨us, q, sa, atI_of h0 h1, sq⟩
/-! ### the pairs that are met, by the law -/
structure FoundSt (r1 r2 : List (List Int)) (n : Nat) (ps : List (Int × Int)) (i : Nat) : Prop where
  nd : ps.Nodup
  z : ps[0]? = some (0, 0)
  rch : ∀ p ∈ ps, RPair r1 r2 n p
  cl : ∀ (j : Nat) (p : Int × Int), j < i → ps[j]? = some p → ∀ c, c < n → succP r1 r2 p c ∈ ps
theorem FoundSt.all {r1 r2 : List (List Int)} {n i : Nat} {ps : List (Int × Int)} (h : FoundSt r1 r2 n ps i) (e : ps.length ≤ i) : ∀ p, p ∈ ps ↔ RPair r1 r2 n p := by
  intro p
  refine ⟨h.rch p, fun hp => ?_⟩
  induction hp with
  | z => exact mem_of_at h.z
  | @s p c _ hc ih =>
    obtain ⟨j, hj⟩ := List.mem_iff_getElem?.mp ih
    exact h.cl j p (Nat.lt_of_lt_of_le (List.getElem?_eq_some_iff.mp hj).1 e) hj c hc
def spPairs (K : PySem.W.Frag) : Sp := fun vs H Q _ => ∃ (D : Hp) (z : Str) (t1 t2 : Addr) (r1 : List (List Int)) (m1 : List Bool) (r2 : List (List Int)) (m2 : List Bool), vs = [.str z, .ref t1, .ref t2] ∧ Same D H ∧ GoodSigns z ∧ PlanAt K D t1 z.cps.toList.length r1 m1 ∧ PlanAt K D t2 z.cps.toList.length r2 m2 ∧ r1.length * r2.length ≤ 200 ∧
  ∀ (D' H' : Hp) (fa : Addr) (ps : List (Int × Int)), Step NoW D H D' H' → Dp K D' (.ref fa) (.list (ps.map pairD)) → (∀ p, p ∈ ps ↔ RPair r1 r2 z.cps.toList.length p) → ps.length ≤ 200 → Q (.ref fa) H'
theorem ok_pairs {f : Addr} {fd : FuncData} (F : FunD K "_law_pairs" "_law_pairs" (defArgs s_pairs) (defBody s_pairs) (defScope s_pairs) [] [] f fd) (T : Tx K mg) : FnOk P w K mg base CX0 1 f fd ["_law_letters_here", "_law_first", "_law_second_here"] (spPairs K) := by
  refine F.ok sc_pairs (fun vs H Q E h => ?_) (fun cdv A outer s H vs Q E hr h => ?_)
  · obtain ⟨D, z, t1, t2, r1, m1, r2, m2, rfl, _⟩ := h
    rfl
  · obtain ⟨D, z, t1, t2, r1, m1, r2, m2, rfl, sd, gz, P1, P2, small, k⟩ := h
    obtain ⟨⟨a1, c1, ht1, ⟨us1, ra1, ua1⟩, _⟩, g1⟩ := P1
    obtain ⟨⟨a2, c2, ht2, ⟨us2, ra2, ua2⟩, _⟩, g2⟩ := P2
    have da1 := tab_dp ra1 ua1
    have da2 := tab_dp ra2 ua2
    have sa1 : SqL K D a1 us1 := SqL.of ra1
    have sa2 : SqL K D a2 us2 := SqL.of ra2
    have l1 : us1.length = r1.length := by rw [dpAll_len ua1, List.length_map]
    have l2 : us2.length = r2.length := by rw [dpAll_len ua2, List.length_map]
    have zs : z.length ≤ sizeLine := small_line (by have := gz.few; have := len_tl z; omega)
    refine ⟨_, PSs.nox (pss_cons (ps_set (i := 3) sc_pairs.nd rfl (Or.inr rfl) (pe_lst (pa_cons (pe_tup (pa_cons pe_int (pa_cons pe_int pa_nil))) pa_nil)))
      (pss_cons (ps_for PassesOwn.never rfl (pi_range1 (by rfl) T.f_range (pa_cons (pe_op op_mul (pe_callB (call_len_seqK K) (by rfl) T.f_len (by decide +kernel) (pa_cons (pe_ix (ix_tupK K) (pv 1) pe_int (fun _ _ => rfl)) pa_nil)) (pe_callB (call_len_seqK K) (by rfl) T.f_len (by decide +kernel) (pa_cons (pe_ix (ix_tupK K) (pv 2) pe_int (fun _ _ => rfl)) pa_nil))) pa_nil)) (pg_name (i := 4) sc_pairs.nd rfl (Or.inl rfl))
      (pss_one (ps_if (pt_cmpR op_lt (pv 4) (pe_callB (call_len_seqK K) (by rfl) T.f_len (by decide +kernel) (pa_cons (pv 3) pa_nil)) (nomark _))
      (pss_cons (ps_asg (pe_ix (ix_listK K) (pv 3) (pv 4) (fun _ _ => rfl)) (pg_tupK K (n := 2) rfl (pgs_cons (pg_name (i := 5) sc_pairs.nd rfl (Or.inr rfl)) (pgs_cons (pg_name (i := 6) sc_pairs.nd rfl (Or.inr rfl)) pgs_nil))))
      (pss_cons (ps_set (i := 7) sc_pairs.nd rfl (Or.inr rfl) (pe_lc (own := [("_law_at", 8)]) (g := _) (tt := tYes) (by rfl) sc_pairs.nd (pi_range1 (by rfl) T.f_range (pa_cons (pe_callB call_len_str (by rfl) T.f_len (by decide +kernel) (pa_cons (pv 0) pa_nil)) pa_nil)) (blkOk_by (by kernel_rfl)) (fun _ _ _ _ _ => (pg_name (i := 8) sc_pairs.nd rfl (Or.inl rfl))) (fun _ _ _ _ _ => pts_nil) (fun _ _ _ _ _ => (pe_tup (pa_cons (pe_ix (ix_listK K) (pe_ix (ix_listK K) (pe_ix (ix_tupK K) (pv 1) pe_int (fun _ _ => rfl)) (pv 5) (fun _ _ => rfl)) (pv 8) (fun _ _ => rfl)) (pa_cons (pe_ix (ix_listK K) (pe_ix (ix_listK K) (pe_ix (ix_tupK K) (pv 2) pe_int (fun _ _ => rfl)) (pv 6) (fun _ _ => rfl)) (pv 8) (fun _ _ => rfl)) pa_nil))))))
      (pss_one (ps_set (i := 3) sc_pairs.nd rfl (Or.inr rfl) (pe_op op_cat (pv 3) (pe_lc (own := [("_law_k", 9), ("_law_pair", 10)]) (g := _) (by rfl) sc_pairs.nd (pi_enum (by rfl) T.f_enumerate (pa_cons (pv 7) pa_nil)) (blkOk_by (by kernel_rfl)) (fun _ _ _ _ _ => (pg_tupK K (n := 2) rfl (pgs_cons (pg_name (i := 9) sc_pairs.nd rfl (Or.inl rfl)) (pgs_cons (pg_name (i := 10) sc_pairs.nd rfl (Or.inl rfl)) pgs_nil)))) (fun _ _ _ _ _ => (pts_one (PW.pt (pw_and (pt_cmpR (op_notInDK K (hu65 hr)) (pv 10) (pv 3) (by rfl)) (pw_and1 (pt_cmpR (op_notInDK K (hu65 hr)) (pv 10) (pe_slice (sl_listK K) (pv 7) po_none (po_some (pv 9))) (by rfl))))))) (fun _ _ _ _ _ => (pv 10)))))))) pss_nil)))
      (pss_one (ps_ret (pv 3))))), ?_⟩
    refine ⟨(by show 2 ≤ sizeLine; decide), fun t0 ht0 => ⟨(by show 1 ≤ sizeLine; decide), fun L hL => ?_⟩⟩
    have st1 : Step NoW D H (upd D t0 (.tup [.int 0, .int 0])) (upd H t0 (.tup [.int 0, .int 0])) := Step.new sd ht0
    have p0 : DpAll K (upd D t0 (.tup [.int 0, .int 0])) [.ref t0] ([((0 : Int), (0 : Int))].map pairD) := dpAll_one (.tup (SqT.of upd_same) (.cons (.int _) (.cons (.int _) .nil)))
    generalize upd D t0 (.tup [.int 0, .int 0]) = D1 at st1 p0
    generalize upd H t0 (.tup [.int 0, .int 0]) = H1 at st1 hL
    have n2 := Step.new (W := NoW) (o := .lst [.ref t0]) st1.dh hL
    have st2 := st1.trans n2
    have dp2 : ∃ vs, (upd D1 L (.lst [.ref t0])) L = some (.lst vs) ∧ DpAll K (upd D1 L (.lst [.ref t0])) vs ([((0 : Int), (0 : Int))].map pairD) := ⟨_, upd_same, dp_monoAll n2.dd _ _ p0⟩
    have sH2 := st2.dd.trans st2.dh
    -- for turn in range(len(first[0]) * len(second[0]))
    refine ⟨_, rfl, t1, _, _, .ref a1, rfl, rfl, SqT.of (sH2 _ _ ht1), rfl, a1, us1, rfl, .inl (sH2.seq sa1), _, rfl, t2, _, _, .ref a2, rfl, rfl, SqT.of (sH2 _ _ ht2), rfl, a2, us2, rfl, .inl (sH2.seq sa2), _, _, rfl, rfl, ?_, ?_⟩
    · exact Or.inr ⟨by have := g1.few; omega, by have := g2.few; omega⟩
    have hN : ((us1.length : Int) * (us2.length : Int)) = ((r1.length * r2.length : Nat) : Int) := by rw [l1, l2, Int.natCast_mul]
    show ∃ j : Int, [V.int ((us1.length : Int) * (us2.length : Int))] = [.int j] ∧ _
    rw [hN]
    refine ⟨_, rfl, by omega, by omega, for_it walk_range (fun i σ H' => ∃ (Di : Hp) (fa : Addr) (ps : List (Int × Int)) (v4 v5 v6 v7 : Option V), σ = [some (.str z), some (.ref t1), some (.ref t2), some (.ref fa), v4, v5, v6, v7, none, none, none] ∧ Step NoW D H Di H' ∧ (∃ vs, Di fa = some (.lst vs) ∧ DpAll K Di vs (ps.map pairD)) ∧ FoundSt r1 r2 z.cps.toList.length ps i)
      ⟨_, L, [(0, 0)], none, none, none, none, rfl, st2, dp2, ⟨by simp, rfl, fun p hp => by rw [List.mem_singleton.mp hp]; exact .z, fun j p hj => absurd hj (Nat.not_lt_zero _)⟩⟩ (fun _ _ _ _ _ => trivial) ?_ ?_⟩
    · rintro i v σ H3 H4 hi ⟨Di, fa, ps, v4, v5, v6, v7, rfl, st, dfa, fs⟩ ⟨rfl, rfl⟩
      have dfa0 := dfa
      obtain ⟨vs, rfa, pv⟩ := dfa
      have sfa : SqL K Di fa vs := SqL.of rfa
      have vl : vs.length = ps.length := by rw [dpAll_len pv, List.length_map]
      have bd := pairs_le fs.nd fun p hp => (fs.rch p hp).rng g1 g2
      refine ⟨_, rfl, _, rfl, fa, vs, rfl, .inl (st.dh.seq sfa), _, _, rfl, rfl, _, rfl, ?_⟩
      refine ite2 (fun h1 => ?_) (fun h1 => ?_)
      · have lt : i < ps.length := by
          have h2 : (0 : Int) + (i : Int) < (vs.length : Int) := of_decide_eq_true h1
          omega
        have ep := List.getElem?_eq_getElem lt
        generalize ps[i] = p at ep
        have hr' := fs.rch p (mem_of_at ep)
        have ip := hr'.rng g1 g2
        obtain ⟨vp, ev, dv⟩ := dpAll_at pv (show (ps.map pairD)[i]? = some (pairD p) by rw [List.getElem?_map, ep]; rfl)
        obtain ⟨tp, ws, rfl, sw, aw⟩ := dp_tup dv
        cases aw with
        | cons b1 b2 =>
        cases b2 with
        | cons b2 b3 =>
        cases b3
        have e1 := dp_int b1
        have e2 := dp_int b2
        subst e1 e2
        -- one, other = found[turn]
        refine ⟨_, rfl, _, rfl, fa, vs, _, .ref tp, rfl, rfl, st.dh.seq sfa, by rw [Int.zero_add]; exact atI_nat ev, tp, _, rfl, sqT_mono st.dh sw, rfl, _, _, rfl, _, _, rfl, rfl, ?_⟩
        -- more = [..]
        obtain ⟨ra, era⟩ : ∃ ra, r1[p.1.toNat]? = some ra := ⟨_, List.getElem?_eq_getElem (show p.1.toNat < r1.length by have := ip.1; have := ip.2.1; omega)⟩
        obtain ⟨rb, erb⟩ : ∃ rb, r2[p.2.toNat]? = some rb := ⟨_, List.getElem?_eq_getElem (show p.2.toNat < r2.length by have := ip.2.2.1; have := ip.2.2.2; omega)⟩
        obtain ⟨x1, qa, sx1, at1, sqa⟩ := line_of da1 ip.1 era
        obtain ⟨x2, qb, sx2, at2, sqb⟩ := line_of da2 ip.2.2.1 erb
        have la := g1.wid ra (mem_of_at era)
        have lb := g2.wid rb (mem_of_at erb)
        have gf := gz.few
        have zl := len_tl z
        refine ⟨_, rfl, z, rfl, zs, ?_⟩
        refine ⟨_, rfl, by omega, by omega, fun M hM => ?_⟩
        have dM := st.dh.free hM
        have hM0 := st.free hM
        refine lc_it walk_range (fun c H' => ∃ (Dc : Hp) (acc : List V), Step NoW D H Dc H' ∧ Same Di Dc ∧ H' M = some (.lst acc) ∧ Dc M = none ∧ acc.length = c ∧ DpAll K Dc acc (((List.range c).map (succP r1 r2 p)).map pairD))
          ⟨Di, [], st.trans (Step.tmp st.dh hM), Same.refl Di, upd_same, dM, rfl, .nil⟩ (fun _ _ _ _ => trivial) ?_ ?_
        · rintro c v H5 H6 hc ⟨Dc, acc, stc, dfc, hMc, dMc, alc, dac⟩ ⟨rfl, rfl⟩
          have hc' : c < z.cps.toList.length := by
            have h3 : c < ((z.length : Nat) : Int).toNat := hc
            omega
          have sDc := stc.dd.trans stc.dh
          obtain ⟨y1, f1, y2, y3, y4⟩ := cell_at g1 ip.1 ip.2.1 hc'
          obtain ⟨w1, k1, w2, w3, w4⟩ := cell_at g2 ip.2.2.1 ip.2.2.2 hc'
          rw [era] at f1
          cases f1
          rw [erb] at k1
          cases k1
          refine ⟨rfl, ?_⟩
          refine ⟨_, rfl, t1, _, _, .ref a1, rfl, rfl, SqT.of (sDc _ _ ht1), rfl, _, rfl, a1, x1, _, .ref qa, rfl, rfl, sDc.seq sx1, at1, _, rfl, qa, _, _, .int (cellM r1 p.1 c), rfl, rfl, sDc.seq sqa, ?_, ?_⟩
          · rw [Int.zero_add]
            exact atI_nat (by rw [List.getElem?_map, y2]; rfl)
          refine ⟨_, rfl, t2, _, _, .ref a2, rfl, rfl, SqT.of (sDc _ _ ht2), rfl, _, rfl, a2, x2, _, .ref qb, rfl, rfl, sDc.seq sx2, at2, _, rfl, qb, _, _, .int (cellM r2 p.2 c), rfl, rfl, sDc.seq sqb, ?_, ?_⟩
          · rw [Int.zero_add]
            exact atI_nat (by rw [List.getElem?_map, w2]; rfl)
          refine ⟨(by show 2 ≤ sizeLine; decide), fun tn htn => ?_⟩
          have sT : Step NoW Dc H6 (upd Dc tn (.tup [.int (cellM r1 p.1 c), .int (cellM r2 p.2 c)])) (upd H6 tn (.tup [.int (cellM r1 p.1 c), .int (cellM r2 p.2 c)])) := Step.new stc.dh htn
          have nM : M ≠ tn := ne_of_none hMc htn
          have dM8 : (upd Dc tn (.tup [.int (cellM r1 p.1 c), .int (cellM r2 p.2 c)])) M = none := by rw [upd_ne nM]; exact dMc
          refine ⟨acc, by rw [upd_ne nM]; exact hMc, Nat.lt_of_le_of_lt (show acc.length ≤ 1000 by omega) (by decide), _, acc ++ [.ref tn], (stc.trans sT).write (.inr hM0) dM8, dfc.trans sT.dd, upd_same, dM8, by rw [List.length_append, alc]; rfl, ?_⟩
          rw [List.range_succ, List.map_append, List.map_append]
          exact dpAll_app (dp_monoAll sT.dd _ _ dac) (dpAll_one (.tup (SqT.of upd_same) (.cons (.int _) (.cons (.int _) .nil))))
        rintro H5 ⟨D5, acc, st5, df5, hM5, dM5, al5, da5⟩
        have hz : ((z.length : Nat) : Int).toNat = z.cps.toList.length := by omega
        rw [hz] at da5 al5
        generalize hmo : (List.range z.cps.toList.length).map (succP r1 r2 p) = mo at da5
        have mol : mo.length = z.cps.toList.length := by rw [← hmo, List.length_map, List.length_range]
        have st6 : Step NoW D H (upd D5 M (.lst acc)) H5 := st5.settle hM0 hM5 dM5
        have sD6 : Same D5 (upd D5 M (.lst acc)) := same_new dM5
        have dm6 : Dp K (upd D5 M (.lst acc)) (.ref M) (.list (mo.map pairD)) := .lst (SqL.of upd_same) (dp_monoAll sD6 _ _ da5)
        have df6 := df5.trans sD6
        have rM6 : (upd D5 M (.lst acc)) M = some (.lst acc) := upd_same
        have dd6 := dp_monoAll sD6 _ _ da5
        generalize upd D5 M (.lst acc) = D6 at st6 dm6 df6 rM6 dd6
        have mom : ∀ q ∈ mo, RPair r1 r2 z.cps.toList.length q := fun q hq => by
          rw [← hmo] at hq
          obtain ⟨c, hc, rfl⟩ := List.mem_map.mp hq
          exact .s c hr' (List.mem_range.mp hc)
        have rfa6 := df6 _ _ rfa
        have pv6 := dp_monoAll df6 _ _ pv
        -- found = found + [..]
        refine ⟨_, rfl, ?_⟩
        refine ⟨_, rfl, M, acc, rfl, SqL.of (st6.dh _ _ rM6), fun B hB => ?_⟩
        have dB := st6.dh.free hB
        refine lc_it (walk_enum (xs := acc)) (fun c H' => ∃ (ns : List (Int × Int)) (ab : List V), Step NoW D6 H5 D6 H' ∧ H' B = some (.lst ab) ∧ DpAll K D6 ab (ns.map pairD) ∧ ns.length ≤ c ∧ ns.Nodup ∧ (∀ q ∈ ns, q ∉ ps ∧ q ∈ mo.take c) ∧ ∀ q ∈ mo.take c, q ∈ ps ∨ q ∈ ns)
          ⟨[], [], Step.tmp st6.dh hB, upd_same, .nil, Nat.le_refl _, by simp, by simp, by simp⟩ (fun _ _ _ ⟨_, _, q, _⟩ => SqL.of (q.dh _ _ rM6)) ?_ ?_
        · rintro c v H7 H8 hc ⟨ns, ab, s7, hB7, dab, nl, p1, p2, p3⟩ ⟨tn, vx, vy, rfl, htn, rfl, ex, ey⟩
          cases ex
          obtain ⟨dq, hdq, dvy⟩ := dpAll_get dd6 ey
          rw [List.getElem?_map] at hdq
          obtain ⟨q, hq, rfl⟩ := Option.map_eq_some_iff.mp hdq
          refine ⟨tn, _, rfl, SqT.of upd_same, rfl, _, _, rfl, _, _, rfl, rfl, ?_⟩
          have s8 := s7.trans (Step.tmp (o := .tup [.int (c : Nat), vy]) s7.dh htn)
          have hB8 : (upd H7 tn (.tup [.int (c : Nat), vy])) B = some (.lst ab) := by rw [upd_ne (ne_of_none hB7 htn)]; exact hB7
          generalize upd H7 tn (.tup [.int (c : Nat), vy]) = H8 at s8 hB8
          refine ⟨rfl, ?_⟩
          have dv8 : Dp K H8 vy (pairD q) := dp_mono s8.dh _ _ dvy
          have df8 : Dp K H8 (.ref fa) (.list (ps.map pairD)) := .lst (SqL.of (s8.dh _ _ rfa6)) (dp_monoAll s8.dh _ _ pv6)
          have tk : mo.take (c + 1) = mo.take c ++ [q] := take_more hq
          have skip : q ∈ ps ∨ q ∈ mo.take c → ∀ H', Step NoW D6 H5 D6 H' → H' B = some (.lst ab) → ∃ (ns : List (Int × Int)) (ab : List V), Step NoW D6 H5 D6 H' ∧ H' B = some (.lst ab) ∧ DpAll K D6 ab (ns.map pairD) ∧ ns.length ≤ c + 1 ∧ ns.Nodup ∧ (∀ q ∈ ns, q ∉ ps ∧ q ∈ mo.take (c + 1)) ∧ ∀ q ∈ mo.take (c + 1), q ∈ ps ∨ q ∈ ns := fun hor H' sH hB' => by
            refine ⟨ns, ab, sH, hB', dab, by omega, p1, fun q' hq' => ⟨(p2 q' hq').1, by rw [tk]; exact List.mem_append_left _ (p2 q' hq').2⟩, fun q' hq' => ?_⟩
            rw [tk] at hq'
            rcases List.mem_append.mp hq' with h | h
            · exact p3 q' h
            · rw [List.mem_singleton.mp h]
              rcases hor with h2 | h2
              · exact .inl h2
              · exact p3 q h2
          refine ⟨_, rfl, _, rfl, pairD q, ps.map pairD, dv8, df8, pair_shaped q, pairs_shaped ps, _, rfl, ?_⟩
          rw [pairs_any]
          by_cases hm : q ∈ ps
          · rw [decide_eq_true hm]
            exact iteF (iteF (skip (.inl hm) _ s8 hB8))
          · rw [decide_eq_false hm]
            refine iteT ?_
            refine ⟨_, rfl, _, rfl, _, rfl, _, rfl, M, acc, rfl, SqL.of (s8.dh _ _ rM6), fun sl hsl => ?_⟩
            have ecut : cutV acc none (some ((c : Nat) : Int)) = acc.take c := by
              unfold cutV
              rw [HT.sIx_none, HT.sIx_nat, List.drop_zero, Nat.sub_zero, List.take_eq_take_min]
              congr 1
              have : acc.length = mo.length := by rw [dpAll_len dd6, List.length_map]
              omega
            rw [ecut] at *
            have s9 := s8.trans (Step.tmp (o := .lst (acc.take c)) s8.dh hsl)
            have hB9 : (upd H8 sl (.lst (acc.take c))) B = some (.lst ab) := by rw [upd_ne (ne_of_none hB8 hsl)]; exact hB8
            have dsl : Dp K (upd H8 sl (.lst (acc.take c))) (.ref sl) (.list ((mo.take c).map pairD)) := .lst (SqL.of upd_same) (by rw [List.map_take]; exact dpAll_take c (dp_monoAll s9.dh _ _ dd6))
            generalize upd H8 sl (.lst (acc.take c)) = H9 at s9 hB9 dsl
            refine ⟨pairD q, (mo.take c).map pairD, dp_mono s9.dh _ _ dvy, dsl, pair_shaped q, pairs_shaped _, _, rfl, ?_⟩
            rw [pairs_any]
            by_cases hm2 : q ∈ mo.take c
            · rw [decide_eq_true hm2]
              exact iteF (skip (.inr hm2) _ s9 hB9)
            · rw [decide_eq_false hm2]
              refine iteT ?_
              have abl : ab.length = ns.length := by rw [dpAll_len dab, List.length_map]
              refine ⟨_, rfl, ab, hB9, Nat.lt_of_le_of_lt (show ab.length ≤ 1000 by omega) (by decide), ns ++ [q], ab ++ [vy], s9.write (.inr hB) dB, upd_same, ?_, ?_, ?_, ?_, ?_⟩
              · rw [List.map_append]
                exact dpAll_app dab (dpAll_one dvy)
              · rw [List.length_append]
                show ns.length + 1 ≤ _
                omega
              · rw [List.nodup_append]
                exact ⟨p1, by simp, fun a ha b hb e => hm2 (by rw [← List.mem_singleton.mp hb, ← e]; exact (p2 a ha).2)⟩
              · intro q' hq'
                rw [tk]
                rcases List.mem_append.mp hq' with h | h
                · exact ⟨(p2 q' h).1, List.mem_append_left _ (p2 q' h).2⟩
                · rw [List.mem_singleton.mp h]
                  exact ⟨hm, by simp⟩
              · intro q' hq'
                rw [tk] at hq'
                rcases List.mem_append.mp hq' with h | h
                · exact (p3 q' h).elim .inl fun x => .inr (List.mem_append_left _ x)
                · exact .inr (List.mem_append_right _ h)
        · rintro H6 ⟨ns, ab, s6, hB6, dab, nl, p1, p2, p3⟩
          have acl : acc.length = mo.length := by rw [dpAll_len dd6, List.length_map]
          rw [acl, List.take_length] at p2 p3
          have abl : ab.length = ns.length := by rw [dpAll_len dab, List.length_map]
          refine ⟨fa, B, vs, ab, rfl, rfl, s6.dh _ _ rfa6, hB6, small_line (by omega), fun L2 hL2 => ?_⟩
          have st7 := (st6.trans s6).trans (Step.new (o := .lst (vs ++ ab)) s6.dh hL2)
          have sL : Same D6 (upd D6 L2 (.lst (vs ++ ab))) := same_new (s6.dh.free hL2)
          refine ⟨_, L2, ps ++ ns, _, _, _, _, rfl, st7, ⟨_, upd_same, by rw [List.map_append]; exact dpAll_app (dp_monoAll sL _ _ pv6) (dp_monoAll sL _ _ dab)⟩, ?_, get_app fs.z, ?_, ?_⟩
          · rw [List.nodup_append]
            exact ⟨fs.nd, p1, fun a ha b hb e => (p2 b hb).1 (by rw [← e]; exact ha)⟩
          · intro q hq
            rcases List.mem_append.mp hq with h | h
            · exact fs.rch q h
            · exact mom q (p2 q h).2
          · intro j q hj hq c hc
            have hq' := get_app_inv (show j < ps.length by omega) hq
            rcases Nat.lt_or_eq_of_le (Nat.le_of_lt_succ hj) with h | h
            · exact List.mem_append_left _ (fs.cl j q h hq' c hc)
            · subst h
              rw [ep] at hq'
              cases hq'
              have hmq : succP r1 r2 p c ∈ mo := by
                rw [← hmo]
                exact List.mem_map.mpr ⟨c, List.mem_range.mpr hc, rfl⟩
              exact (p3 _ hmq).elim (List.mem_append_left _) (List.mem_append_right _)
      · have h2 : ps.length ≤ i := by
          have h3 : ¬ ((0 : Int) + (i : Int) < (vs.length : Int)) := fun z => h1 (decide_eq_true z)
          omega
        refine ⟨Di, fa, ps, _, _, _, _, rfl, st, dfa0, fs.nd, fs.z, fs.rch, fun j p hj hp => ?_⟩
        exact fs.cl j p (Nat.lt_of_lt_of_le (List.getElem?_eq_some_iff.mp hp).1 h2) hp
    · rintro σ H3 ⟨Di, fa, ps, v4, v5, v6, v7, rfl, st, dfa, fs⟩
      have bd := pairs_le fs.nd fun p hp => (fs.rch p hp).rng g1 g2
      obtain ⟨vs, rfa, pv⟩ := dfa
      refine ⟨_, rfl, k _ _ fa ps st (.lst (SqL.of rfa) pv) (fs.all ?_) (by omega)⟩
      show ps.length ≤ ((r1.length * r2.length : Nat) : Int).toNat
      omega
theorem cPairs (T : Tx K mg) : CalX P w K mg base CX0 1 "_law_pairs" (spPairs K) := c_pairs T fun _ F => ok_pairs F T
/-! ### a plan with each state twice -/
def spDouble (K : PySem.W.Frag) : Sp := fun vs H Q _ => ∃ (D : Hp) (p t : Addr) (nn : Nat) (rows : List (List Int)) (ms : List Bool) (n : Nat), vs = [.ref p, .ref t] ∧ Same D H ∧ PenAt K D H p (n + 100) ∧ PlanAt K D t nn rows ms ∧ nn ≤ 4 ∧ rows.length ≤ 6 ∧
  ∀ (D' H' : Hp) (t' : Addr) (rows' : List (List Int)) (ms' : List Bool), Step (· = p) D H D' H' → PenAt K D' H' p n → PlanAt K D' t' nn rows' ms' → rows'.length ≤ 12 → Q (.ref t') H'
theorem ok_double {f : Addr} {fd : FuncData} (F : FunD K "_law_double" "_law_double" (defArgs s_double) (defBody s_double) (defScope s_double) [] [] f fd) (T : Tx K mg) : FnOk P w K mg base CX0 2 f fd ["_law_pen_here", "_law_plan_here"] (spDouble K) := by
  refine F.ok sc_double (fun vs H Q E h => ?_) (fun cdv A outer s H vs Q E hr h => ?_)
  · obtain ⟨D, p, t, nn, rows, ms, n, rfl, _⟩ := h
    rfl
  · obtain ⟨D, p, t, nn, rows, ms, n, rfl, sd, pen, PL, nn4, r6, k⟩ := h
    obtain ⟨⟨a, c, ht, ⟨us, ra, ua⟩, rc⟩, gr⟩ := PL
    have ul : us.length = rows.length := by rw [dpAll_len ua, List.length_map]
    have q1 := gr.mrk
    have q2 := gr.pos
    refine ⟨_, PSs.nox (pss_cons (ps_set (i := 2) sc_double.nd rfl (Or.inr rfl) (pe_callB (call_len_seqK K) (by rfl) T.f_len (by decide +kernel) (pa_cons (pe_ix (ix_tupK K) (pv 1) pe_int (fun _ _ => rfl)) pa_nil)))
      (pss_cons (ps_setLc (i := 3) (own := [("_law_line", 4)]) (g := _) (tt := tYes) (by rfl) sc_double.nd rfl rfl (sw_true rfl rfl rfl (by decide +kernel)) (pi_listK K (pe_op op_cat (pe_ix (ix_tupK K) (pv 1) pe_int (fun _ _ => rfl)) (pe_ix (ix_tupK K) (pv 1) pe_int (fun _ _ => rfl)))) (blkOk_by (by kernel_rfl)) (fun _ _ _ _ _ => (pg_name (i := 4) sc_double.nd rfl (Or.inl rfl))) (fun _ _ _ _ _ => pts_nil) (fun _ _ _ _ _ => (pe_lc (own := [("_law_goal", 5)]) (g := _) (tt := tYes) (by rfl) sc_double.nd (pi_listK K (pv 4)) (blkOk_by (by kernel_rfl)) (fun _ _ _ _ _ => (pg_name (i := 5) sc_double.nd rfl (Or.inl rfl))) (fun _ _ _ _ _ => pts_nil) (fun _ _ _ _ _ => (pe_op op_add (pv 5) (pe_op op_mul (pv 2) (pe_cX (cDraw T) hr (by decide) (by rfl) pass0 (pa_cons (pv 0) (pa_cons pe_int pa_nil)))))))))
      (pss_one (ps_ret (pe_tup (pa_cons (pv 3) (pa_cons (pe_op op_cat (pe_ix (ix_tupK K) (pv 1) pe_int (fun _ _ => rfl)) (pe_ix (ix_tupK K) (pv 1) pe_int (fun _ _ => rfl))) pa_nil))))))), ?_⟩
    -- many = len(plan[0])
    refine ⟨_, rfl, t, _, _, .ref a, rfl, rfl, SqT.of (sd _ _ ht), rfl, a, us, rfl, .inl (sd.seq (SqL.of ra)), ?_⟩
    -- plan[0] + plan[0]
    refine ⟨_, rfl, t, _, _, .ref a, rfl, rfl, SqT.of (sd _ _ ht), rfl, _, rfl, t, _, _, .ref a, rfl, rfl, SqT.of (sd _ _ ht), rfl, a, a, us, us, rfl, rfl, sd _ _ ra, sd _ _ ra, small_line (by omega), fun C hC => ?_⟩
    have n1 := Step.new (W := (· = p)) (o := .lst (us ++ us)) sd hC
    have pen1 := pen.keep (Step.new (W := NoW) (o := .lst (us ++ us)) sd hC) (fun z => z)
    have rC : (upd D C (.lst (us ++ us))) C = some (.lst (us ++ us)) := upd_same
    have dC : DpAll K (upd D C (.lst (us ++ us))) (us ++ us) ((rows ++ rows).map lineD) := by
      rw [List.map_append]
      exact dpAll_app (dp_monoAll n1.dd _ _ ua) (dp_monoAll n1.dd _ _ ua)
    generalize upd D C (.lst (us ++ us)) = D1 at n1 pen1 rC dC
    generalize upd H C (.lst (us ++ us)) = H1 at n1 pen1
    refine ⟨C, rfl, ⟨_, SqL.of (n1.dh _ _ rC)⟩, fun L hL => ?_⟩
    have pL : p ≠ L := fun e => pen1.there (by rw [e]; exact hL)
    have hL0 := n1.free hL
    have rrl : (rows ++ rows).length = 2 * rows.length := by rw [List.length_append]; omega
    refine lc_it (walk_list (xs := us ++ us)) (fun i H' => ∃ (Di : Hp) (acc : List V) (rs : List (List Int)), Step (· = p) D1 H1 Di H' ∧ PenAt K Di H' p (n + 100 - 4 * i) ∧ H' L = some (.lst acc) ∧ Di L = none ∧ acc.length = i ∧ rs.length = i ∧ DpAll K Di acc (rs.map lineD) ∧ ∀ r ∈ rs, r.length = nn ∧ ∀ x ∈ r, 0 ≤ x ∧ x < 2 * (rows.length : Int))
      ⟨D1, [], [], Step.tmp n1.dh hL, pen1.keep (Step.tmp (W := NoW) n1.dh hL) (fun z => z), upd_same, n1.dh.free hL, rfl, rfl, .nil, by simp⟩ (fun _ _ _ ⟨_, _, _, q, _⟩ => SqL.of ((q.dd.trans q.dh) _ _ rC)) ?_ ?_
    · rintro i v H2 H3 hi ⟨Di, acc, rs, st2, pen2, h2, dL, al, rl, hd, hw⟩ ⟨rfl, hv⟩
      obtain ⟨dq, hdq, dvy⟩ := dpAll_get dC hv
      rw [List.getElem?_map] at hdq
      obtain ⟨r, hr', rfl⟩ := Option.map_eq_some_iff.mp hdq
      have hrm : r ∈ rows := (List.mem_append.mp (mem_of_at hr')).elim id id
      obtain ⟨q, ws, rfl, sq, wq⟩ := dp_list dvy
      have ew := dpAll_ints_eq wq
      subst ew
      have il : i < 2 * rows.length := by rw [← rrl]; exact (List.getElem?_eq_some_iff.mp hr').1
      refine ⟨rfl, ?_⟩
      refine ⟨_, rfl, q, rfl, ⟨_, (st2.dd.trans st2.dh).seq sq⟩, fun M hM => ?_⟩
      have pM : p ≠ M := fun e => pen2.there (by rw [e]; exact hM)
      have LM : L ≠ M := ne_of_none h2 hM
      refine lc_it (walk_list (xs := r.map V.int)) (fun j H' => ∃ (xs : List Int), Step (· = p) Di H3 Di H' ∧ PenAt K Di H' p (n + 100 - 4 * i - j) ∧ H' M = some (.lst (xs.map V.int)) ∧ xs.length = j ∧ ∀ x ∈ xs, 0 ≤ x ∧ x < 2 * (rows.length : Int))
        ⟨[], Step.tmp st2.dh hM, pen2.keep (Step.tmp (W := NoW) st2.dh hM) (fun z => z), upd_same, rfl, by simp⟩ (fun _ _ _ ⟨_, q', _⟩ => (st2.dd.trans q'.dh).seq sq) ?_ ?_
      · rintro j v H4 H5 hj ⟨xs, st4, pen4, h4, xl, hx⟩ ⟨rfl, hv2⟩
        rw [List.getElem?_map] at hv2
        obtain ⟨x, hx2, rfl⟩ := Option.map_eq_some_iff.mp hv2
        rw [List.length_map, gr.wid r hrm] at hj
        have xb := gr.rng r hrm x (mem_of_at hx2)
        refine ⟨rfl, ?_⟩
        refine ⟨_, rfl, _, rfl, _, rfl, Di, p, 2, n + 100 - 4 * i - (j + 1), rfl, st4.dh, pen4.less (by omega), by decide, by decide, fun H6 g st6 pen6 g0 g1 => ?_⟩
        refine ⟨_, _, rfl, rfl, Or.inr ⟨by omega, by omega⟩, _, _, rfl, rfl, ?_⟩
        have gb : (0 : Int) ≤ (us.length : Int) * g ∧ (us.length : Int) * g ≤ (us.length : Int) := by
          rcases (show g = 0 ∨ g = 1 by omega) with rfl | rfl
          · rw [Int.mul_zero]; omega
          · rw [Int.mul_one]; omega
        refine ⟨_, st6.kp M _ (fun e => pM e.symm) h4, Nat.lt_of_le_of_lt (show (xs.map V.int).length ≤ 1000 by rw [List.length_map]; omega) (by decide), xs ++ [x + (us.length : Int) * g], ?_, ?_, by rw [upd_same, List.map_append]; rfl, by rw [List.length_append, xl]; rfl, ?_⟩
        · exact (st4.trans st6).write (.inr hM) (st2.dh.free hM)
        · exact pen6.keep (Step.write (W := (· = M)) (Step.refl st6.dh) (.inl rfl) (st2.dh.free hM)) pM
        · intro y hy
          rcases List.mem_append.mp hy with h | h
          · exact hx y h
          · rw [List.mem_singleton.mp h]
            omega
      · rintro H4 ⟨xs, st4, pen4, h4, xl, hx⟩
        rw [List.length_map, gr.wid r hrm] at xl pen4
        have h4L := st4.kp L _ (fun e => pL e.symm) h2
        have st5 : Step (· = p) Di H3 (upd Di M (.lst (xs.map V.int))) H4 := st4.settle hM h4 (st2.dh.free hM)
        have d5L : (upd Di M (.lst (xs.map V.int))) L = none := by rw [upd_ne LM]; exact dL
        have sD : Same Di (upd Di M (.lst (xs.map V.int))) := same_new (st2.dh.free hM)
        refine ⟨acc, h4L, Nat.lt_of_le_of_lt (show acc.length ≤ 1000 by omega) (by decide), upd Di M (.lst (xs.map V.int)), acc ++ [.ref M], rs ++ [xs], ?_, ?_, upd_same, d5L, by rw [List.length_append, al]; rfl, by rw [List.length_append, rl]; rfl, ?_, ?_⟩
        · exact (st2.trans st5).write (.inr hL) d5L
        · have p5 : PenAt K (upd Di M (.lst (xs.map V.int))) H4 p (n + 100 - 4 * i - nn) := by
            obtain ⟨o, q, ns, t, g, e1, e2, e3, e4⟩ := pen4
            exact ⟨by rw [upd_ne pM]; exact o, q, ns, t, g, e1, sD.seq e2, e3, e4⟩
          exact (p5.less (by omega)).keep (Step.write (W := (· = L)) (Step.refl st5.dh) (.inl rfl) d5L) pL
        · rw [List.map_append]
          exact dpAll_app (dp_monoAll sD _ _ hd) (dpAll_one (.lst (SqL.of upd_same) (dpAll_ints _)))
        · intro r hr'
          rcases List.mem_append.mp hr' with h | h
          · exact hw r h
          · rw [List.mem_singleton.mp h]
            exact ⟨xl, hx⟩
    rintro H2 ⟨D2, acc, rs, st2, pen2, h2, dL, al, rl, hd, hw⟩
    have usl : (us ++ us).length = 2 * rows.length := by rw [List.length_append]; omega
    rw [usl] at al rl pen2
    have st3 : Step (· = p) D1 H1 (upd D2 L (.lst acc)) H2 := st2.settle hL h2 dL
    have sD3 : Same D2 (upd D2 L (.lst acc)) := same_new dL
    have rawL : (upd D2 L (.lst acc)) L = some (.lst acc) := upd_same
    have pen3 : PenAt K (upd D2 L (.lst acc)) H2 p (n + 100 - 4 * (2 * rows.length)) := by
      obtain ⟨o, q, ns, t, g, e1, e2, e3, e4⟩ := pen2
      exact ⟨by rw [upd_ne pL]; exact o, q, ns, t, g, e1, sD3.seq e2, e3, e4⟩
    have hd3 := dp_monoAll sD3 _ _ hd
    generalize upd D2 L (.lst acc) = D3 at st3 rawL pen3 hd3
    have st4 := n1.trans st3
    have sD4 := st4.dd
    -- (table, plan[1] + plan[1])
    refine ⟨_, rfl, _, rfl, t, _, _, .ref c, rfl, rfl, SqT.of ((sD4.trans st4.dh) _ _ ht), rfl, _, rfl, t, _, _, .ref c, rfl, rfl, SqT.of ((sD4.trans st4.dh) _ _ ht), rfl, c, c, _, _, rfl, rfl, (sD4.trans st4.dh) _ _ rc, (sD4.trans st4.dh) _ _ rc, small_line (by rw [List.length_map]; omega), fun B hB => ⟨(by show 2 ≤ sizeLine; decide), fun t' ht' => ?_⟩⟩
    have e5 : ms.map V.bl ++ ms.map V.bl = (ms ++ ms).map V.bl := by rw [List.map_append]
    rw [e5] at ht' ⊢
    have n5 := Step.new (W := NoW) (o := .lst ((ms ++ ms).map V.bl)) st4.dh hB
    have n6 := Step.new (W := NoW) (o := .tup [.ref L, .ref B]) n5.dh ht'
    have n56 := n5.trans n6
    refine k _ _ t' rs (ms ++ ms) (st4.trans n56.any) ((pen3.keep n56 (fun z => z)).less (by omega)) ⟨⟨L, B, upd_same, ⟨acc, n56.dd _ _ rawL, dp_monoAll n56.dd _ _ hd3⟩, n6.dd _ _ upd_same⟩, ⟨by omega, by omega, fun r h => (hw r h).1, fun r h x hx => ?_, by rw [List.length_append]; omega⟩⟩ (by omega)
    have b := (hw r h).2 x hx
    omega
theorem cDouble (T : Tx K mg) : CalX P w K mg base CX0 2 "_law_double" (spDouble K) := c_double T fun _ F => ok_double F T
/-! ### a second plan -/
theorem cut_to {xs : List V} {k : Nat} (h : k ≤ xs.length) : cutV xs none (some (k : Int)) = xs.take k := by
  unfold cutV
  rw [HT.sIx_none, HT.sIx_nat, List.drop_zero, Nat.sub_zero, Nat.min_eq_left h]
theorem cut_from {xs : List V} {k : Nat} (h : k ≤ xs.length) : cutV xs (some (k : Int)) none = xs.drop k := by
  unfold cutV
  rw [HT.sIx_none, HT.sIx_nat, Nat.min_eq_left h]
  exact List.take_of_length_le (by rw [List.length_drop]; omega)
def spSecond (K : PySem.W.Frag) : Sp := fun vs H Q _ => ∃ (D : Hp) (p t : Addr) (z : Str) (rows : List (List Int)) (ms : List Bool) (n : Nat), vs = [.ref p, .str z, .ref t] ∧ Same D H ∧ PenAt K D H p (n + 800) ∧ GoodSigns z ∧ PlanAt K D t z.cps.toList.length rows ms ∧ rows.length ≤ 6 ∧
  ∀ (D' H' : Hp) (t' : Addr) (rows' : List (List Int)) (ms' : List Bool), Step (· = p) D H D' H' → PenAt K D' H' p n → PlanAt K D' t' z.cps.toList.length rows' ms' → rows'.length ≤ 12 → Q (.ref t') H'
theorem ok_second {f : Addr} {fd : FuncData} (F : FunD K "_law_second" "_law_second" (defArgs s_second) (defBody s_second) (defScope s_second) [] [] f fd) (T : Tx K mg) : FnOk P w K mg base CX0 3 f fd ["_law_pen_here", "_law_letters_here", "_law_first"] (spSecond K) := by
  refine F.ok sc_second (fun vs H Q E h => ?_) (fun cdv A outer s H vs Q E hr h => ?_)
  · obtain ⟨D, p, t, z, rows, ms, n, rfl, _⟩ := h
    rfl
  · obtain ⟨D, p, t, z, rows, ms, n, rfl, sd, pen, gz, PL, r6, k⟩ := h
    refine ⟨_, PSs.nox (pss_cons (ps_set (i := 3) sc_second.nd rfl (Or.inl rfl) (pe_cX (cDraw T) hr (by decide) (by rfl) pass0 (pa_cons (pv 0) (pa_cons pe_int pa_nil))))
      (pss_cons (ps_if (pt_cmpR op_eq (pv 3) pe_int (nomark _))
      (pss_one (ps_ret (pe_cX (cPlan T) hr (by decide) (by rfl) pass0 (pa_cons (pv 0) (pa_cons (pv 1) (pa_cons pe_int pa_nil)))))) pss_nil)
      (C8.pss_cut (ps_set (i := 4) sc_second.nd rfl (Or.inl rfl) (pe_ifExp (pt_cmpR op_lt (pv 3) pe_int (nomark _)) (pe_cX (cDouble T) hr (by decide) (by rfl) pass0 (pa_cons (pv 0) (pa_cons (pv 2) pa_nil))) (pv 2)))
      (pss_cons (ps_if (pt_cmpR op_eq (pv 3) pe_int (nomark _))
      (pss_one (ps_ret (pv 4))) pss_nil)
      (pss_cons (ps_set (i := 5) sc_second.nd rfl (Or.inl rfl) (pe_cX (cDraw T) hr (by decide) (by rfl) pass0 (pa_cons (pv 0) (pa_cons (pe_callB (call_len_seqK K) (by rfl) T.f_len (by decide +kernel) (pa_cons (pe_ix (ix_tupK K) (pv 4) pe_int (fun _ _ => rfl)) pa_nil)) pa_nil))))
      (pss_one (ps_ret (pe_tup (pa_cons (pe_ix (ix_tupK K) (pv 4) pe_int (fun _ _ => rfl)) (pa_cons (pe_op op_cat (pe_op op_cat (pe_slice (sl_listK K) (pe_ix (ix_tupK K) (pv 4) pe_int (fun _ _ => rfl)) po_none (po_some (pv 5))) (pe_lst (pa_cons (pe_cmpR op_eq (pe_cX (cDraw T) hr (by decide) (by rfl) pass0 (pa_cons (pv 0) (pa_cons pe_int pa_nil))) pe_int (nomark _)) pa_nil))) (pe_slice (sl_listK K) (pe_ix (ix_tupK K) (pv 4) pe_int (fun _ _ => rfl)) (po_some (pe_op op_add (pv 5) pe_int)) po_none)) pa_nil)))))))))), ?_⟩
    refine ⟨_, rfl, D, p, 6, n + 799, rfl, sd, pen, by decide, by decide, fun H1 g st1 pen1 g0 g1 => ?_⟩
    refine ⟨_, rfl, rfl, _, rfl, ?_⟩
    refine ite2 (fun _ => ?_) (fun _ => ?_)
    · refine ⟨_, rfl, _, rfl, D, p, z, 6, n + 199, rfl, st1.dh, pen1, gz.few, by decide, by decide, fun D2 H2 t2 a c rows2 ms2 st2 pen2 gr2 le2 ht2 da2 db2 ra2 rc2 => ?_⟩
      exact k _ _ t2 rows2 ms2 (st1.trans st2) (pen2.less (by omega)) ⟨⟨a, c, ht2, ra2, rc2⟩, gr2⟩ (by omega)
    -- made
    refine ⟨fun σ' H' => ∃ (Dm : Hp) (tm : Addr) (rows' : List (List Int)) (ms' : List Bool), σ' = [some (.ref p), some (.str z), some (.ref t), some (.int g), some (.ref tm), none] ∧ Step (· = p) D H Dm H' ∧ PenAt K Dm H' p (n + 600) ∧ PlanAt K Dm tm z.cps.toList.length rows' ms' ∧ rows'.length ≤ 12, ?_, ?_⟩
    · refine ⟨_, rfl, _, _, rfl, rfl, _, rfl, ?_⟩
      refine ite2 (fun _ => ?_) (fun _ => ?_)
      · refine ⟨_, rfl, _, rfl, D, p, t, _, rows, ms, n + 600, rfl, st1.dh, pen1.less (by omega), PL, gz.few, r6, fun D2 H2 t2 rows2 ms2 st2 pen2 P2 le2 => ?_⟩
        exact ⟨D2, t2, rows2, ms2, rfl, st1.trans st2, pen2, P2, le2⟩
      · exact ⟨_, rfl, D, t, rows, ms, rfl, st1, pen1.less (by omega), PL, by omega⟩
    rintro σ' H2 ⟨D2, tm, rows2, ms2, rfl, st2, pen2, P2, le2⟩
    -- if turn == 1
    refine ⟨_, rfl, rfl, _, rfl, ?_⟩
    refine ite2 (fun _ => ?_) (fun _ => ?_)
    · exact ⟨_, rfl, k _ _ tm rows2 ms2 st2 (pen2.less (by omega)) P2 le2⟩
    obtain ⟨⟨a, c, ht, ⟨us, ra, ua⟩, rc⟩, gr⟩ := P2
    have q1 := gr.mrk
    have q2 := gr.pos
    -- at = draw(pen, len(made[1]))
    refine ⟨_, rfl, _, rfl, tm, _, _, .ref c, rfl, rfl, SqT.of (st2.dh _ _ ht), rfl, c, _, rfl, .inl (SqL.of (st2.dh _ _ rc)), D2, p, _, n + 599, rfl, st2.dh, pen2, by rw [List.length_map]; omega, by rw [List.length_map]; omega, fun H3 e st3 pen3 e0 e1 => ?_⟩
    rw [List.length_map] at e1
    obtain ⟨m, rfl⟩ : ∃ m : Nat, e = (m : Int) := ⟨e.toNat, by omega⟩
    have hm : m < ms2.length := by omega
    -- the tuple
    refine ⟨_, rfl, tm, _, _, .ref a, rfl, rfl, SqT.of (st3.dh _ _ ht), rfl, ?_⟩
    refine ⟨_, rfl, tm, _, _, .ref c, rfl, rfl, SqT.of (st3.dh _ _ ht), rfl, _, rfl, _, rfl, c, _, rfl, SqL.of (st3.dh _ _ rc), fun S1 hS1 => ?_⟩
    rw [cut_to (by rw [List.length_map]; omega), ← List.map_take]
    have s4 := Step.tmp (W := (· = p)) (o := .lst ((ms2.take m).map V.bl)) st3.dh hS1
    have pen4 := pen3.keep (Step.tmp (W := NoW) (o := .lst ((ms2.take m).map V.bl)) st3.dh hS1) (fun z => z)
    have hS4 : (upd H3 S1 (.lst ((ms2.take m).map V.bl))) S1 = some (.lst ((ms2.take m).map V.bl)) := upd_same
    generalize upd H3 S1 (.lst ((ms2.take m).map V.bl)) = H4 at s4 pen4 hS4
    have pS1 : S1 ≠ p := fun e => pen3.there (by rw [← e]; exact hS1)
    refine ⟨_, rfl, D2, p, 2, n + 598, rfl, s4.dh, pen4, by decide, by decide, fun H5 b st5 pen5 b0 b1 => ⟨rfl, (by show 1 ≤ sizeLine; decide), fun S2 hS2 => ?_⟩⟩
    have hS5 := st5.kp S1 _ pS1 hS4
    have s6 := Step.tmp (W := NoW) (o := .lst [.bl (decide (V.int b = V.int 0))]) st5.dh hS2
    have hS6 : (upd H5 S2 (.lst [.bl (decide (V.int b = V.int 0))])) S1 = some (.lst ((ms2.take m).map V.bl)) := by rw [upd_ne (ne_of_none hS5 hS2)]; exact hS5
    refine ⟨S1, S2, _, _, rfl, rfl, hS6, upd_same, small_line (by rw [List.length_map, List.length_take]; show _ + 1 ≤ _; omega), fun S3 hS3 => ?_⟩
    have s7 := s6.trans (Step.tmp (o := .lst ((ms2.take m).map V.bl ++ [.bl (decide (V.int b = V.int 0))])) s6.dh hS3)
    have hS7 : (upd (upd H5 S2 (.lst [.bl (decide (V.int b = V.int 0))])) S3 (.lst ((ms2.take m).map V.bl ++ [.bl (decide (V.int b = V.int 0))]))) S3 = some (.lst ((ms2.take m).map V.bl ++ [.bl (decide (V.int b = V.int 0))])) := upd_same
    generalize upd (upd H5 S2 (.lst [.bl (decide (V.int b = V.int 0))])) S3 (.lst ((ms2.take m).map V.bl ++ [.bl (decide (V.int b = V.int 0))])) = H7 at s7 hS7
    refine ⟨_, rfl, tm, _, _, .ref c, rfl, rfl, SqT.of (s7.dh _ _ ht), rfl, _, rfl, _, _, rfl, rfl, _, rfl, c, _, rfl, SqL.of (s7.dh _ _ rc), fun S4 hS4' => ?_⟩
    have em : ((m : Int) + 1) = ((m + 1 : Nat) : Int) := by omega
    rw [em, cut_from (by rw [List.length_map]; omega), ← List.map_drop]
    have s8 := s7.trans (Step.tmp (o := .lst ((ms2.drop (m + 1)).map V.bl)) s7.dh hS4')
    have hS8 : (upd H7 S4 (.lst ((ms2.drop (m + 1)).map V.bl))) S3 = some (.lst ((ms2.take m).map V.bl ++ [.bl (decide (V.int b = V.int 0))])) := by rw [upd_ne (ne_of_none hS7 hS4')]; exact hS7
    refine ⟨S3, S4, _, _, rfl, rfl, hS8, upd_same, small_line (by rw [List.length_append, List.length_map, List.length_map, List.length_take, List.length_drop]; show _ + 1 + _ ≤ _; omega), fun S5 hS5' => ⟨(by show 2 ≤ sizeLine; decide), fun t' ht' => ?_⟩⟩
    have e5 : (ms2.take m).map V.bl ++ [V.bl (decide (V.int b = V.int 0))] ++ (ms2.drop (m + 1)).map V.bl = (ms2.take m ++ [decide (V.int b = V.int 0)] ++ ms2.drop (m + 1)).map V.bl := by
      rw [List.map_append, List.map_append]
      rfl
    rw [e5] at ht' ⊢
    have n5 := s8.trans (Step.new (o := .lst ((ms2.take m ++ [decide (V.int b = V.int 0)] ++ ms2.drop (m + 1)).map V.bl)) s8.dh hS5')
    have n6 := n5.trans (Step.new (o := .tup [.ref a, .ref S5]) n5.dh ht')
    have stA := (st2.trans st3).trans (s4.trans st5)
    refine k _ _ t' rows2 _ (stA.trans n6.any) ((pen5.keep n6 (fun z => z)).less (by omega)) ⟨⟨a, S5, upd_same, ⟨us, n6.dd _ _ ra, dp_monoAll n6.dd _ _ ua⟩, (Step.new (W := NoW) n5.dh ht').dd _ _ upd_same⟩, ⟨gr.pos, gr.few, gr.wid, gr.rng, ?_⟩⟩ le2
    rw [List.length_append, List.length_append, List.length_take, List.length_drop]
    show min m ms2.length + 1 + (ms2.length - (m + 1)) = _
    omega
theorem cSecond (T : Tx K mg) : CalX P w K mg base CX0 3 "_law_second" (spSecond K) := c_second T fun _ F => ok_second F T
end
end Rg
namespace Rg
open PySem PySem.Spec PyProof.Rows L2
section
variable {P : Program} {w : World} {K : PySem.W.Frag} {mg : Str → Option Value} {base : Heap}
/-! ### what pairs tell -/
theorem RPair.left {r1 r2 : List (List Int)} {n : Nat} {p : Int × Int} (h : RPair r1 r2 n p) : RSt r1 n p.1 := by
  induction h with
  | z => exact .z
  | s c _ hc ih => exact .s c ih hc
theorem RSt.pair {r1 r2 : List (List Int)} {n : Nat} {k : Int} (h : RSt r1 n k) : ∃ b, RPair r1 r2 n (k, b) := by
  induction h with
  | z => exact ⟨0, .z⟩
  | s c _ hc ih =>
    obtain ⟨b, hb⟩ := ih
    exact ⟨_, .s c hb hc⟩
theorem RPair.swap {r1 r2 : List (List Int)} {n : Nat} {p : Int × Int} (h : RPair r1 r2 n p) : RPair r2 r1 n (p.2, p.1) := by
  induction h with
  | z => exact .z
  | s c _ hc ih => exact .s c ih hc
theorem RPair.self {r : List (List Int)} {n : Nat} {p : Int × Int} (h : RPair r r n p) : p.1 = p.2 := by
  induction h with
  | z => rfl
  | @s p c _ hc ih =>
    show cellM r p.1 c = cellM r p.2 c
    rw [ih]
def bpD (b : Bool × Bool) : PyData := .tuple [.bool b.1, .bool b.2]
theorem bp_eqv (p q : Bool × Bool) : PyData.eqv (bpD p) (bpD q) = decide (p = q) := by
  obtain ⟨a, b⟩ := p
  obtain ⟨c, d⟩ := q
  cases a <;> cases b <;> cases c <;> cases d <;> rfl
theorem bps_any (ps : List (Bool × Bool)) (q : Bool × Bool) : ((ps.map bpD).any fun z => PyData.eqv z (bpD q)) = decide (q ∈ ps) := by
  induction ps with
  | nil => simp
  | cons p r ih =>
    rw [List.map_cons, List.any_cons, ih, bp_eqv]
    by_cases h1 : p = q
    · subst h1
      simp
    · have h2 : ¬ q = p := fun e => h1 e.symm
      simp [h1, h2]
theorem bps_shaped (ps : List (Bool × Bool)) : SeqAt.shaped (.list (ps.map bpD)) = true := shaped_list fun d hd => by
  obtain ⟨p, _, rfl⟩ := List.mem_map.mp hd
  exact ⟨rfl, by show (1 : Nat) ≤ 62; decide⟩
theorem bool_iff {a b : Bool} (h : a = true ↔ b = true) : a = b := by
  cases a <;> cases b
  · rfl
  · exact absurd (h.mpr rfl) (by decide)
  · exact absurd (h.mp rfl) (by decide)
  · rfl
theorem below_iff {r1 r2 : List (List Int)} {m1 m2 : List Bool} {n : Nat} {ps : List (Int × Int)} (h : ∀ p, p ∈ ps ↔ RPair r1 r2 n p) : ((!decide ((true, false) ∈ ps.map fun p => (tld m1 p.1, tld m2 p.2))) = true) ↔ Below r1 m1 r2 m2 n := by
  constructor
  · intro e p hp h1
    cases h2 : tld m2 p.2 with
    | true => rfl
    | false =>
      have hm : ((true, false) : Bool × Bool) ∈ ps.map fun p => (tld m1 p.1, tld m2 p.2) := List.mem_map.mpr ⟨p, (h p).mpr hp, by rw [h1, h2]⟩
      rw [decide_eq_true hm] at e
      cases e
  · intro bl
    have hn : ¬ ((true, false) : Bool × Bool) ∈ ps.map fun p => (tld m1 p.1, tld m2 p.2) := fun hm => by
      obtain ⟨p, hp, e⟩ := List.mem_map.mp hm
      have e1 := (Prod.mk.inj e).1
      have e2 := (Prod.mk.inj e).2
      rw [bl p ((h p).mp hp) e1] at e2
      cases e2
    rw [decide_eq_false hn]
    rfl
theorem above_iff {r1 r2 : List (List Int)} {m1 m2 : List Bool} {n : Nat} {ps : List (Int × Int)} (h : ∀ p, p ∈ ps ↔ RPair r1 r2 n p) : ((!decide ((false, true) ∈ ps.map fun p => (tld m1 p.1, tld m2 p.2))) = true) ↔ Below r2 m2 r1 m1 n := by
  constructor
  · intro e p hp h1
    cases h2 : tld m1 p.2 with
    | true => rfl
    | false =>
      have hm : ((false, true) : Bool × Bool) ∈ ps.map fun p => (tld m1 p.1, tld m2 p.2) := List.mem_map.mpr ⟨(p.2, p.1), (h _).mpr hp.swap, by show (tld m1 p.2, tld m2 p.1) = _; rw [h1, h2]⟩
      rw [decide_eq_true hm] at e
      cases e
  · intro bl
    have hn : ¬ ((false, true) : Bool × Bool) ∈ ps.map fun p => (tld m1 p.1, tld m2 p.2) := fun hm => by
      obtain ⟨p, hp, e⟩ := List.mem_map.mp hm
      have e1 := (Prod.mk.inj e).1
      have e2 := (Prod.mk.inj e).2
      have := bl (p.2, p.1) (((h p).mp hp).swap) e2
      rw [show tld m1 p.1 = true from this] at e1
      cases e1
    rw [decide_eq_false hn]
    rfl
theorem alike_iff {r1 r2 : List (List Int)} {m1 m2 : List Bool} {n : Nat} : Alike r1 m1 r2 m2 n ↔ Below r1 m1 r2 m2 n ∧ Below r2 m2 r1 m1 n := by
  constructor
  · exact fun h => ⟨fun p hp e => by rw [← h p hp]; exact e, fun p hp e => by rw [h (p.2, p.1) hp.swap]; exact e⟩
  · rintro ⟨a, b⟩ p hp
    exact bool_iff ⟨a p hp, b (p.2, p.1) hp.swap⟩
theorem told_left {r1 r2 : List (List Int)} {m1 : List Bool} {n : Nat} {ps : List (Int × Int)} (h : ∀ p, p ∈ ps ↔ RPair r1 r2 n p) : ToldSome r1 m1 n ↔ ∃ p ∈ ps, tld m1 p.1 = true := by
  constructor
  · rintro ⟨k, hk, ht⟩
    obtain ⟨b, hb⟩ := hk.pair (r2 := r2)
    exact ⟨(k, b), (h _).mpr hb, ht⟩
  · rintro ⟨p, hp, ht⟩
    exact ⟨p.1, ((h p).mp hp).left, ht⟩
theorem self_below {r : List (List Int)} {m : List Bool} {n : Nat} : Below r m r m n := fun p hp e => by rw [← hp.self]; exact e
theorem bools_small {bs : List Bool} (h : bs.length ≤ 100) : Sm 60 10000000 (.list (bs.map PyData.bool)) := by
  have e : ∀ d ∈ bs.map PyData.bool, Sm 0 5 d := fun d hd => by
    obtain ⟨x, hx, rfl⟩ := List.mem_map.mp hd
    exact sm_bool x
  refine (sm_list e).mono (by decide) ?_
  rw [List.length_map]
  omega
/-! ### a machine of a plan -/
theorem init_plan {D H : Hp} {a c x dx : Addr} {us : List V} {rows : List (List Int)} {ms : List Bool} {z : Str} {E : XK} {Q : Hp → Prop} (sd : Same D H) (ra : D a = some (.lst us)) (ua : DpAll K D us (rows.map lineD)) (rc : D c = some (.lst (ms.map V.bl))) (gz : GoodSigns z) (gr : GoodRows z.cps.toList.length rows ms)
    (hx : H x = none) (hd : H dx = none) (ne : dx ≠ x) (k : ∀ D' H', Step NoW D H D' H' → Mach K D' x z rows ms → Q H') :
    spInit K [.ref x, .str z, .ref a, .ref c] (upd (upd H dx (.own x)) x (.ins (a_Machine K) dx [])) (fun v H2 => v = .non ∧ Q H2) E := by
  have x1 : (upd H dx (.own x)) x = none := by rw [upd_ne (Ne.symm ne)]; exact hx
  have sN : Same H (upd (upd H dx (.own x)) x (.ins (a_Machine K) dx [])) := (same_new hd).trans (same_new x1)
  have sdN := sd.trans sN
  refine ⟨D, x, dx, z, .ref a, .ref c, rows, ms, rfl, sdN, sd.free hx, upd_same, gz, gr, ⟨a, us, rfl, .inl (SqL.of (sdN _ _ ra)), by rw [dpAll_len ua, List.length_map], fun i u r hu hr => ?_⟩, ⟨c, rfl, .inl (SqL.of (sdN _ _ rc))⟩, fun D' H' a2 b2 st' dx2 hx2 da2 db2 => ⟨rfl, ?_⟩⟩
  · obtain ⟨v, h1, h2⟩ := dpAll_at ua (show (rows.map lineD)[i]? = some (lineD r) by rw [List.getElem?_map, hr]; rfl)
    rw [hu] at h1
    cases h1
    obtain ⟨q, ws, rfl, sq, wq⟩ := dp_list h2
    have ew := dpAll_ints_eq wq
    subst ew
    exact ⟨q, rfl, .inl (sdN.seq sq)⟩
  · obtain ⟨m1, m2⟩ := made_new (K := K) sd hx hd ne gz gr st' dx2 hx2 da2 db2
    exact k _ _ m1 m2
theorem cmp_rd (T : Tx K mg) {R : List (List Int) → List Bool → List (List Int) → List Bool → Nat → Prop} {D H : Hp} {x y : Addr} {z : Str} {r1 : List (List Int)} {m1 : List Bool} {r2 : List (List Int)} {m2 : List Bool} (tw : Two K D H x y z r1 m1 r2 m2) {Q : VK} (k : ∀ (H' : Hp) (b : Bool), Same H H' → (b = true ↔ R r1 m1 r2 m2 z.cps.toList.length) → Q (.bl b) H') :
    rCmpO K (a_Machine K) (spCmp K R) E0 (.ref x) (.ref y) H Q := by
  obtain ⟨dx, xa, xb, hx, _, _⟩ := tw.2.1.ex
  obtain ⟨dy, ya, yb, hy, _, _⟩ := tw.2.2.1.ex
  exact ⟨x, dx, _, _, rfl, tw.1 _ _ hx, T.tyM (tw.1 _ _ hy), T.nfM, D, x, y, z, r1, m1, r2, m2, rfl, tw, k⟩
theorem ne_rd (T : Tx K mg) {D H : Hp} {x y : Addr} {z : Str} {r1 : List (List Int)} {m1 : List Bool} {r2 : List (List Int)} {m2 : List Bool} (tw : Two K D H x y z r1 m1 r2 m2) {Q : VK} (k : ∀ (H' : Hp) (b : Bool), Same H H' → (b = true ↔ Alike r1 m1 r2 m2 z.cps.toList.length) → Q (.bl (!b)) H') :
    rNeO K (a_Machine K) (spCmp K Alike) E0 (.ref x) (.ref y) H Q := by
  obtain ⟨dx, xa, xb, hx, _, _⟩ := tw.2.1.ex
  obtain ⟨dy, ya, yb, hy, _, _⟩ := tw.2.2.1.ex
  exact ⟨x, dx, _, _, rfl, tw.1 _ _ hx, T.tyM (tw.1 _ _ hy), T.nfM, D, x, y, z, r1, m1, r2, m2, rfl, tw, fun H' b s i => ⟨b, rfl, k H' b s i⟩⟩
theorem and_iff' {a b : Bool} {p q : Prop} (h1 : a = true ↔ p) (h2 : b = true ↔ q) : ((a && b) = true) ↔ p ∧ q := by
  rw [Bool.and_eq_true]
  exact ⟨fun h => ⟨h1.mp h.1, h2.mp h.2⟩, fun h => ⟨h1.mpr h.1, h2.mpr h.2⟩⟩
theorem neg_iff {a : Bool} {p : Prop} (h : a = true ↔ p) : ((!a) = true) ↔ ¬ p := by
  cases a with
  | true => exact ⟨fun e => (by cases e), fun e => absurd (h.mp rfl) e⟩
  | false => exact ⟨fun _ e => (by cases h.mpr e), fun _ => rfl⟩
theorem of_iffs {a b : Bool} {p : Prop} (h1 : a = true ↔ p) (h2 : b = true ↔ p) : a = b := bool_iff (h1.trans h2.symm)
def spRight (K : PySem.W.Frag) : Sp := fun vs H Q _ => ∃ (D : Hp) (z : Str) (t1 t2 : Addr) (r1 : List (List Int)) (m1 : List Bool) (r2 : List (List Int)) (m2 : List Bool), vs = [.str z, .ref t1, .ref t2] ∧ Same D H ∧ GoodSigns z ∧ PlanAt K D t1 z.cps.toList.length r1 m1 ∧ PlanAt K D t2 z.cps.toList.length r2 m2 ∧ r1.length ≤ 12 ∧ r2.length ≤ 12 ∧
  ∀ (D' H' : Hp), Step NoW D H D' H' → Q (.bl true) H'
theorem ok_right {f : Addr} {fd : FuncData} (F : FunD K "_law_right" "_law_right" (defArgs s_right) (defBody s_right) (defScope s_right) [] [] f fd) (T : Tx K mg) : FnG P w K mg base CX0 10 f fd ["_law_letters_here", "_law_first", "_law_second_here"] (spRight K) := by
  refine FunD.okG F sc_right (fun vs H Q E h => ?_) (fun cdv A outer s H vs Q E hr hG h => ?_)
  · obtain ⟨D, z, t1, t2, r1, m1, r2, m2, rfl, _⟩ := h
    rfl
  · obtain ⟨D, z, t1, t2, r1, m1, r2, m2, rfl, sd, gz, P1, P2, b1, b2, k⟩ := h
    obtain ⟨⟨a1, c1, ht1, ⟨us1, ra1, ua1⟩, rc1⟩, g1⟩ := id P1
    obtain ⟨⟨a2, c2, ht2, ⟨us2, ra2, ua2⟩, rc2⟩, g2⟩ := id P2
    have small : r1.length * r2.length ≤ 200 := Nat.le_trans (Nat.mul_le_mul b1 b2) (by decide)
    have small1 : r1.length * r1.length ≤ 200 := Nat.le_trans (Nat.mul_le_mul b1 b1) (by decide)
    have q1 := g1.mrk
    have q2 := g2.mrk
    refine ⟨_, PSs.nox (pss_cons (ps_par (i := 3) (j := 4) (by rfl) sc_right.nd rfl rfl (by decide) rfl rfl (pa_cons (pe_mkX (cMk T) hr (by decide) (by rfl) pass0 (pa_cons (pv 0) (pa_cons (pe_ix (ix_tupK K) (pv 1) pe_int (fun _ _ => rfl)) (pa_cons (pe_ix (ix_tupK K) (pv 1) pe_int (fun _ _ => rfl)) pa_nil)))) (pa_cons (pe_mkX (cMk T) hr (by decide) (by rfl) pass0 (pa_cons (pv 0) (pa_cons (pe_ix (ix_tupK K) (pv 2) pe_int (fun _ _ => rfl)) (pa_cons (pe_ix (ix_tupK K) (pv 2) pe_int (fun _ _ => rfl)) pa_nil)))) pa_nil)) (by rfl))
      (pss_cons (ps_setLc (i := 5) (own := [("_law_mine", 11), ("_law_others", 12)]) (g := _) (tt := tYes) (by rfl) sc_right.nd rfl rfl (sw_true rfl rfl rfl (by decide +kernel)) (pi_listK K (pe_cX (cPairs T) hr (by decide) (by rfl) pass0 (pa_cons (pv 0) (pa_cons (pv 1) (pa_cons (pv 2) pa_nil))))) (blkOk_by (by kernel_rfl)) (fun _ _ _ _ _ => (pg_tupK K (n := 2) rfl (pgs_cons (pg_name (i := 11) sc_right.nd rfl (Or.inl rfl)) (pgs_cons (pg_name (i := 12) sc_right.nd rfl (Or.inl rfl)) pgs_nil)))) (fun _ _ _ _ _ => pts_nil) (fun _ _ _ _ _ => (pe_tup (pa_cons (pe_ix (ix_listK K) (pe_ix (ix_tupK K) (pv 1) pe_int (fun _ _ => rfl)) (pv 11) (fun _ _ => rfl)) (pa_cons (pe_ix (ix_listK K) (pe_ix (ix_tupK K) (pv 2) pe_int (fun _ _ => rfl)) (pv 12) (fun _ _ => rfl)) pa_nil)))))
      (pss_cons (ps_par (i := 6) (j := 7) (by rfl) sc_right.nd rfl rfl (by decide) rfl rfl (pa_cons (pe_cmpR (op_notInDK K (hu65 hr)) (pe_tup (pa_cons pe_bl (pa_cons pe_bl pa_nil))) (pv 5) (by rfl)) (pa_cons (pe_cmpR (op_notInDK K (hu65 hr)) (pe_tup (pa_cons pe_bl (pa_cons pe_bl pa_nil))) (pv 5) (by rfl)) pa_nil)) (by rfl))
      (pss_cons (ps_set (i := 8) sc_right.nd rfl (Or.inl rfl) (pe_lst (pa_cons (pe_cmpR (op_cmpO (op := .Eq) (cMEq T) hr (by decide) pass0) (pv 3) (pv 4) (nomark _)) (pa_cons (pe_cmpR (op_neO (cMEq T) T.ne_Machine hr (by decide) pass0) (pv 3) (pv 4) (nomark _)) (pa_cons (pe_cmpR (op_cmpO (op := .LtE) (cMLe T) hr (by decide) pass0) (pv 3) (pv 4) (nomark _)) (pa_cons (pe_cmpR (op_cmpO (op := .Lt) (cMLt T) hr (by decide) pass0) (pv 3) (pv 4) (nomark _)) (pa_cons (pe_cmpR (op_cmpO (op := .GtE) (cMGe T) hr (by decide) pass0) (pv 3) (pv 4) (nomark _)) (pa_cons (pe_cmpR (op_cmpO (op := .Gt) (cMGt T) hr (by decide) pass0) (pv 3) (pv 4) (nomark _)) pa_nil))))))))
      (C8.pss_cut (ps_set (i := 9) sc_right.nd rfl (Or.inl rfl) (pe_lst (pa_cons (pe_and (pv 6) (pe_one (pv 7))) (pa_cons (pe_or (pe_not (pv 6)) (pe_one (pe_not (pv 7)))) (pa_cons (pv 6) (pa_cons (pe_and (pv 6) (pe_one (pe_not (pv 7)))) (pa_cons (pv 7) (pa_cons (pe_and (pv 7) (pe_one (pe_not (pv 6)))) pa_nil))))))))
      (pss_cons (ps_if (pt_cmpR op_ne (pe_callB (call_reprK K hG hr.units) (by rfl) T.f_repr (by decide +kernel) (pa_cons (pv 8) pa_nil)) (pe_callB (call_reprK K hG hr.units) (by rfl) T.f_repr (by decide +kernel) (pa_cons (pv 9) pa_nil)) (nomark _))
      (pss_one (ps_ret pe_bl)) pss_nil)
      (C8.pss_cut (ps_if (pt_cmpR op_ne (pe_callB (call_reprK K hG hr.units) (by rfl) T.f_repr (by decide +kernel) (pa_cons (pe_lst (pa_cons (pe_cmpR (op_cmpO (op := .LtE) (cMLe T) hr (by decide) pass0) (pv 4) (pv 3) (nomark _)) (pa_cons (pe_cmpR (op_cmpO (op := .Gt) (cMGt T) hr (by decide) pass0) (pv 4) (pv 3) (nomark _)) pa_nil))) pa_nil)) (pe_callB (call_reprK K hG hr.units) (by rfl) T.f_repr (by decide +kernel) (pa_cons (pe_lst (pa_cons (pv 7) (pa_cons (pe_and (pv 6) (pe_one (pe_not (pv 7)))) pa_nil))) pa_nil)) (nomark _))
      (pss_one (ps_ret pe_bl)) pss_nil)
      (pss_cons (ps_setLc (i := 10) (own := [("_law_mine", 11), ("_law_others", 12)]) (g := _) (by rfl) sc_right.nd rfl rfl (sw_true rfl rfl rfl (by decide +kernel)) (pi_listK K (pv 5)) (blkOk_by (by kernel_rfl)) (fun _ _ _ _ _ => (pg_tupK K (n := 2) rfl (pgs_cons (pg_name (i := 11) sc_right.nd rfl (Or.inl rfl)) (pgs_cons (pg_name (i := 12) sc_right.nd rfl (Or.inl rfl)) pgs_nil)))) (fun _ _ _ _ _ => (pts_one (pt_val (pv 11)))) (fun _ _ _ _ _ => (pv 11)))
      (C8.pss_cut (ps_if (pt_cmpR op_ne (pe_callB (call_reprK K hG hr.units) (by rfl) T.f_repr (by decide +kernel) (pa_cons (pe_lst (pa_cons (pe_cmpR op_isN (pe_mX0 (pv 3) T.cl_Machine (cMFirst T) hr (by decide) pass0) pe_non (nomark _)) (pa_cons (pe_mX0 (pe_op (op_binO (op := .Sub) (cMSub T) T.first_Machine hr (by decide) pass0) (pv 3) (pv 3)) T.cl_Machine (cMFirst T) hr (by decide) pass0) pa_nil))) pa_nil)) (pe_callB (call_reprK K hG hr.units) (by rfl) T.f_repr (by decide +kernel) (pa_cons (pe_lst (pa_cons (pe_cmpR (op_eqDK K hr.units) (pv 10) (pe_lst pa_nil) (nomark _)) (pa_cons pe_non pa_nil))) pa_nil)) (nomark _))
      (pss_one (ps_ret pe_bl)) pss_nil)
      (pss_cons (ps_if (pt_cmpR op_ne (pe_callB (call_reprK K hG hr.units) (by rfl) T.f_repr (by decide +kernel) (pa_cons (pe_lst (pa_cons (pe_callTy (call_boolO (cMBool T) hr (by decide) pass0) (by rfl) T.f_bool (by decide +kernel) (pa_cons (pv 3) pa_nil)) (pa_cons (pe_cmpR (op_cmpO (op := .Eq) (cMEq T) hr (by decide) pass0) (pv 3) (pv 3) (nomark _)) (pa_cons (pe_cmpR (op_cmpO (op := .Lt) (cMLt T) hr (by decide) pass0) (pv 3) (pv 3) (nomark _)) (pa_cons (pe_cmpR (op_cmpO (op := .GtE) (cMGe T) hr (by decide) pass0) (pv 3) (pv 3) (nomark _)) pa_nil))))) pa_nil)) (pe_callB (call_reprK K hG hr.units) (by rfl) T.f_repr (by decide +kernel) (pa_cons (pe_lst (pa_cons (pe_cmpR (op_neDK K hr.units) (pv 10) (pe_lst pa_nil) (nomark _)) (pa_cons pe_bl (pa_cons pe_bl (pa_cons pe_bl pa_nil))))) pa_nil)) (nomark _))
      (pss_one (ps_ret pe_bl)) pss_nil)
      (pss_one (ps_ret (pe_and (pe_cmpR (op_neO (cMEqNo T) T.ne_Machine hr (by decide) pass0) (pv 3) pe_non (nomark _)) (pe_and (pe_cmpR (op_neO (cMEqNo T) T.ne_Machine hr (by decide) pass0) (pv 3) (pv 0) (nomark _)) (pe_and (pe_cmpR (op_neO (cMEqNo T) T.ne_Machine hr (by decide) pass0) (pv 3) (pv 1) (nomark _)) (pe_one (pe_not (pe_cmpR (op_cmpO (op := .Eq) (cMEqNo T) hr (by decide) pass0) (pv 3) (pe_tup (pa_cons (pv 0) (pa_cons (pe_ix (ix_tupK K) (pv 1) pe_int (fun _ _ => rfl)) (pa_cons (pe_ix (ix_tupK K) (pv 1) pe_int (fun _ _ => rfl)) pa_nil)))) (nomark _))))))))))))))))))), ?_⟩
    -- one, other = Machine(..), Machine(..)
    refine ⟨_, rfl, _, rfl, t1, _, _, .ref a1, rfl, rfl, SqT.of (sd _ _ ht1), rfl, _, rfl, t1, _, _, .ref c1, rfl, rfl, SqT.of (sd _ _ ht1), rfl, ?_⟩
    intro x dx hx hd ne
    refine init_plan (K := K) sd ra1 ua1 rc1 gz g1 hx hd ne fun D1 H1 st1 M1 => ?_
    refine ⟨_, rfl, _, rfl, t2, _, _, .ref a2, rfl, rfl, SqT.of ((st1.dd.trans st1.dh) _ _ ht2), rfl, _, rfl, t2, _, _, .ref c2, rfl, rfl, SqT.of ((st1.dd.trans st1.dh) _ _ ht2), rfl, ?_⟩
    intro y dy hy hdy ney
    refine init_plan (K := K) st1.dh (st1.dd _ _ ra2) (dp_monoAll st1.dd _ _ ua2) (st1.dd _ _ rc2) gz g2 hy hdy ney fun D2 H2 st2 M2 => ?_
    have M1' := M1.mono st2.dd
    have stA := st1.trans st2
    refine ⟨_, _, rfl, ?_⟩
    -- pairs
    refine ⟨_, rfl, _, rfl, _, rfl, D2, z, t1, t2, r1, m1, r2, m2, rfl, stA.dh, gz, P1.mono stA.dd, P2.mono stA.dd, small, fun D3 H3 fa ps st3 dfa iff pl => ?_⟩
    obtain ⟨fa', vs, e, sfa, pv⟩ := dp_list dfa
    cases e
    have vl : vs.length = ps.length := by rw [dpAll_len pv, List.length_map]
    have stB := stA.trans st3
    refine ⟨fa, rfl, ⟨vs, st3.dh.seq sfa⟩, fun B hB => ?_⟩
    refine lc_it (walk_list (xs := vs)) (fun j H' => ∃ (Dj : Hp) (ab : List V), Step NoW D3 H3 Dj H' ∧ H' B = some (.lst ab) ∧ Dj B = none ∧ ab.length = j ∧ DpAll K Dj ab (((ps.take j).map fun p => (tld m1 p.1, tld m2 p.2)).map bpD)) ⟨D3, [], Step.tmp st3.dh hB, upd_same, st3.dh.free hB, rfl, .nil⟩ (fun _ _ _ ⟨_, _, q, _⟩ => (q.dd.trans q.dh).seq sfa) ?_ ?_
    · rintro j v H5 H6 hj ⟨Dj, ab, s5, hB5, dB5, abl, dab⟩ ⟨rfl, hv⟩
      have ej := List.getElem?_eq_getElem (show j < ps.length by omega)
      generalize ps[j]'(by omega) = p at ej
      have ip := ((iff p).mp (mem_of_at ej)).rng g1 g2
      obtain ⟨vp, ev, dv⟩ := dpAll_at pv (show (ps.map pairD)[j]? = some (pairD p) by rw [List.getElem?_map, ej]; rfl)
      rw [hv] at ev
      cases ev
      obtain ⟨tp, ws, rfl, sw, aw⟩ := dp_tup dv
      cases aw with
      | cons w1 w2 =>
      cases w2 with
      | cons w2 w3 =>
      cases w3
      have e1 := dp_int w1
      have e2 := dp_int w2
      subst e1 e2
      have sD6 : Same D H6 := stB.dd.trans (s5.dd.trans s5.dh)
      have am : ∀ (ms : List Bool) (i : Int), 0 ≤ i → i < ms.length → atI (ms.map V.bl) i = some (.bl (tld ms i)) := fun ms i h0 h1 => by
        have hl : i.toNat < ms.length := by omega
        refine atI_of h0 ?_
        rw [List.getElem?_map, List.getElem?_eq_getElem hl]
        unfold tld
        rw [getD_of (List.getElem?_eq_getElem hl)]
        rfl
      refine ⟨tp, _, rfl, sqT_mono (s5.dd.trans s5.dh) sw, rfl, _, _, rfl, _, _, rfl, rfl, ?_⟩
      refine ⟨rfl, ?_⟩
      refine ⟨_, rfl, t1, _, _, .ref c1, rfl, rfl, SqT.of (sD6 _ _ ht1), rfl, _, rfl, c1, _, _, _, rfl, rfl, SqL.of (sD6 _ _ rc1), am m1 _ ip.1 (by have := ip.2.1; omega), ?_⟩
      refine ⟨_, rfl, t2, _, _, .ref c2, rfl, rfl, SqT.of (sD6 _ _ ht2), rfl, _, rfl, c2, _, _, _, rfl, rfl, SqL.of (sD6 _ _ rc2), am m2 _ ip.2.2.1 (by have := ip.2.2.2; omega), ?_⟩
      refine ⟨(by show 2 ≤ sizeLine; decide), fun tn htn => ?_⟩
      have sT := Step.new (W := NoW) (o := .tup [.bl (tld m1 p.1), .bl (tld m2 p.2)]) s5.dh htn
      have nB : B ≠ tn := ne_of_none hB5 htn
      have dB6 : (upd Dj tn (.tup [.bl (tld m1 p.1), .bl (tld m2 p.2)])) B = none := by rw [upd_ne nB]; exact dB5
      refine ⟨ab, by rw [upd_ne nB]; exact hB5, Nat.lt_of_le_of_lt (show ab.length ≤ 1000 by omega) (by decide), _, ab ++ [.ref tn], (s5.trans sT).write (.inr hB) dB6, upd_same, dB6, by rw [List.length_append, abl]; rfl, ?_⟩
      rw [take_more ej, List.map_append, List.map_append]
      exact dpAll_app (dp_monoAll sT.dd _ _ dab) (dpAll_one (.tup (SqT.of upd_same) (.cons (.bl _) (.cons (.bl _) .nil))))
    rintro H4 ⟨D4, ab, st4, hB4, dB4, abl, dab⟩
    rw [vl, List.take_length] at dab
    have st5 : Step NoW D3 H3 (upd D4 B (.lst ab)) H4 := st4.settle hB hB4 dB4
    have dBp : Dp K (upd D4 B (.lst ab)) (.ref B) (.list ((ps.map fun p => (tld m1 p.1, tld m2 p.2)).map bpD)) := .lst (SqL.of upd_same) (dp_monoAll (same_new dB4) _ _ dab)
    generalize upd D4 B (.lst ab) = D5 at st5 dBp
    have stC := stB.trans st5
    have tw : Two K D5 H4 x y z r1 m1 r2 m2 := ⟨st5.dh, M1'.mono (st3.dd.trans st5.dd), M2.mono (st3.dd.trans st5.dd), small⟩
    have tw1 : Two K D5 H4 x x z r1 m1 r1 m1 := ⟨st5.dh, tw.2.1, tw.2.1, small1⟩
    obtain ⟨dx', xa, xb, hxD, _, _⟩ := tw.2.1.ex
    obtain ⟨dy', ya, yb, hyD, _, _⟩ := tw.2.2.1.ex
    -- below, above
    refine ⟨(by show 2 ≤ sizeLine; decide), fun tq htq => ?_⟩
    have s6 := Step.tmp (W := NoW) (o := .tup [.bl true, .bl false]) st5.dh htq
    refine ⟨_, rfl, bpD (true, false), (ps.map fun p => (tld m1 p.1, tld m2 p.2)).map bpD, .tup (SqT.of upd_same) (.cons (.bl _) (.cons (.bl _) .nil)), dp_mono s6.dh _ _ dBp, rfl, bps_shaped _, ?_⟩
    refine ⟨(by show 2 ≤ sizeLine; decide), fun tr htr => ?_⟩
    have s7 := s6.trans (Step.tmp (o := .tup [.bl false, .bl true]) s6.dh htr)
    refine ⟨_, rfl, bpD (false, true), (ps.map fun p => (tld m1 p.1, tld m2 p.2)).map bpD, .tup (SqT.of upd_same) (.cons (.bl _) (.cons (.bl _) .nil)), dp_mono s7.dh _ _ dBp, rfl, bps_shaped _, ?_⟩
    rw [bps_any, bps_any]
    have iB := below_iff (m1 := m1) (m2 := m2) iff
    have iA := above_iff (m1 := m1) (m2 := m2) iff
    generalize (!decide ((true, false) ∈ ps.map fun p => (tld m1 p.1, tld m2 p.2))) = bB at iB
    generalize (!decide ((false, true) ∈ ps.map fun p => (tld m1 p.1, tld m2 p.2))) = bA at iA
    refine ⟨_, _, rfl, ?_⟩
    have tw7 := tw.mono s7.same
    have tw17 := tw1.mono s7.same
    have stD := stC.trans s7
    generalize upd (upd H4 tq (.tup [.bl true, .bl false])) tr (.tup [.bl false, .bl true]) = H7 at s7 tw7 tw17 stD
    -- heard
    refine ⟨_, rfl, _, rfl, cmp_rd (R := Alike) T tw7 fun H8 h1 s8 i1 => ?_⟩
    refine ⟨_, rfl, _, rfl, ne_rd T (tw7.mono s8) fun H9 h2 s9 i2 => ?_⟩
    have s9' := s8.trans s9
    refine ⟨_, rfl, _, rfl, cmp_rd (R := Below) T (tw7.mono s9') fun H10 h3 s10 i3 => ?_⟩
    have s10' := s9'.trans s10
    refine ⟨_, rfl, _, rfl, cmp_rd (R := fun r1 m1 r2 m2 n => Below r1 m1 r2 m2 n ∧ ¬ Below r2 m2 r1 m1 n) T (tw7.mono s10') fun H11 h4 s11 i4 => ?_⟩
    have s11' := s10'.trans s11
    refine ⟨_, rfl, _, rfl, cmp_rd (R := fun r1 m1 r2 m2 n => Below r2 m2 r1 m1 n) T (tw7.mono s11') fun H12 h5 s12 i5 => ?_⟩
    have s12' := s11'.trans s12
    refine ⟨_, rfl, _, rfl, cmp_rd (R := fun r1 m1 r2 m2 n => Below r2 m2 r1 m1 n ∧ ¬ Below r1 m1 r2 m2 n) T (tw7.mono s12') fun H13 h6 s13 i6 => ?_⟩
    have s13' := s12'.trans s13
    have e1 : h1 = (bB && bA) := of_iffs i1 ((and_iff' iB iA).trans alike_iff.symm)
    have e2 : (!h2) = (!bB || !bA) := by
      have q : h2 = (bB && bA) := of_iffs i2 ((and_iff' iB iA).trans alike_iff.symm)
      rw [q]
      cases bB <;> cases bA <;> rfl
    have e3 : h3 = bB := of_iffs i3 iB
    have e4 : h4 = (bB && !bA) := of_iffs i4 (and_iff' iB (neg_iff iA))
    have e5 : h5 = bA := of_iffs i5 iA
    have e6 : h6 = (bA && !bB) := of_iffs i6 (and_iff' iA (neg_iff iB))
    rw [e1, e2, e3, e4, e5, e6]
    refine ⟨(by show 6 ≤ sizeLine; decide), fun hl hhl => ?_⟩
    have s14 := s13'.trans (same_new (o := .lst [.bl (bB && bA), .bl (!bB || !bA), .bl bB, .bl (bB && !bA), .bl bA, .bl (bA && !bB)]) hhl)
    have hl14 : (upd H13 hl (.lst [.bl (bB && bA), .bl (!bB || !bA), .bl bB, .bl (bB && !bA), .bl bA, .bl (bA && !bB)])) hl = some (.lst ([bB && bA, !bB || !bA, bB, bB && !bA, bA, bA && !bB].map V.bl)) := upd_same
    generalize upd H13 hl (.lst [.bl (bB && bA), .bl (!bB || !bA), .bl bB, .bl (bB && !bA), .bl bA, .bl (bA && !bB)]) = H14 at s14 hl14
    -- due
    refine ⟨fun σ' H' => ∃ du, σ' = [some (.str z), some (.ref t1), some (.ref t2), some (.ref x), some (.ref y), some (.ref B), some (.bl bB), some (.bl bA), some (.ref hl), some (.ref du), none, none, none] ∧ Same H14 H' ∧ H' du = some (.lst ([bB && bA, !bB || !bA, bB, bB && !bA, bA, bA && !bB].map V.bl)), ?_, ?_⟩
    · cases bB with
      | true =>
        cases bA with
        | true =>
          refine ⟨_, rfl, _, rfl, iteT ⟨_, rfl, ?_⟩⟩
          refine ⟨_, rfl, _, rfl, _, rfl, iteF ⟨_, rfl, _, rfl, ?_⟩⟩
          refine ⟨_, rfl, ?_⟩
          refine ⟨_, rfl, _, rfl, iteT ⟨_, rfl, _, rfl, ?_⟩⟩
          refine ⟨_, rfl, ?_⟩
          refine ⟨_, rfl, _, rfl, iteT ⟨_, rfl, _, rfl, ?_⟩⟩
          refine ⟨(by show 6 ≤ sizeLine; decide), fun du hdu => ?_⟩
          exact ⟨du, rfl, same_new hdu, upd_same⟩
        | false =>
          refine ⟨_, rfl, _, rfl, iteT ⟨_, rfl, ?_⟩⟩
          refine ⟨_, rfl, _, rfl, _, rfl, iteF ⟨_, rfl, _, rfl, ?_⟩⟩
          refine ⟨_, rfl, ?_⟩
          refine ⟨_, rfl, _, rfl, iteT ⟨_, rfl, _, rfl, ?_⟩⟩
          refine ⟨_, rfl, ?_⟩
          refine ⟨_, rfl, _, rfl, iteF ?_⟩
          refine ⟨(by show 6 ≤ sizeLine; decide), fun du hdu => ?_⟩
          exact ⟨du, rfl, same_new hdu, upd_same⟩
      | false =>
        cases bA with
        | true =>
          refine ⟨_, rfl, _, rfl, iteF ?_⟩
          refine ⟨_, rfl, _, rfl, _, rfl, iteT ?_⟩
          refine ⟨_, rfl, ?_⟩
          refine ⟨_, rfl, _, rfl, iteF ?_⟩
          refine ⟨_, rfl, ?_⟩
          refine ⟨_, rfl, _, rfl, iteT ⟨_, rfl, _, rfl, ?_⟩⟩
          refine ⟨(by show 6 ≤ sizeLine; decide), fun du hdu => ?_⟩
          exact ⟨du, rfl, same_new hdu, upd_same⟩
        | false =>
          refine ⟨_, rfl, _, rfl, iteF ?_⟩
          refine ⟨_, rfl, _, rfl, _, rfl, iteT ?_⟩
          refine ⟨_, rfl, ?_⟩
          refine ⟨_, rfl, _, rfl, iteF ?_⟩
          refine ⟨_, rfl, ?_⟩
          refine ⟨_, rfl, _, rfl, iteF ?_⟩
          refine ⟨(by show 6 ≤ sizeLine; decide), fun du hdu => ?_⟩
          exact ⟨du, rfl, same_new hdu, upd_same⟩
    rintro σ' H15 ⟨du, rfl, s15, hdu⟩
    -- if repr(heard) != repr(due)
    refine ⟨_, rfl, .ref hl, .list ([bB && bA, !bB || !bA, bB, bB && !bA, bA, bA && !bB].map PyData.bool), rfl, .lst (SqL.of (s15 _ _ hl14)) (dpAll_bools _), bools_small (by show 6 ≤ 100; decide), ?_⟩
    refine ⟨_, rfl, .ref du, .list ([bB && bA, !bB || !bA, bB, bB && !bA, bA, bA && !bB].map PyData.bool), rfl, .lst (SqL.of hdu) (dpAll_bools _), bools_small (by show 6 ≤ 100; decide), rfl, _, rfl, ?_⟩
    refine iteNS rfl ?_
    have s15' := s14.trans s15
    -- the other way round
    refine ⟨fun σ' H' => σ' = [some (.str z), some (.ref t1), some (.ref t2), some (.ref x), some (.ref y), some (.ref B), some (.bl bB), some (.bl bA), some (.ref hl), some (.ref du), none, none, none] ∧ Same H15 H', ?_, ?_⟩
    · refine ⟨_, rfl, _, rfl, cmp_rd (R := Below) T (tw7.swap.mono s15') fun H16 h7 s16 i7 => ?_⟩
      refine ⟨_, rfl, _, rfl, cmp_rd (R := fun r1 m1 r2 m2 n => Below r2 m2 r1 m1 n ∧ ¬ Below r1 m1 r2 m2 n) T (tw7.swap.mono (s15'.trans s16)) fun H17 h8 s17 i8 => ?_⟩
      have e7 : h7 = bA := of_iffs i7 iA
      have e8 : h8 = (bB && !bA) := of_iffs i8 (and_iff' iB (neg_iff iA))
      rw [e7, e8]
      have s17' := s16.trans s17
      refine ⟨(by show 2 ≤ sizeLine; decide), fun l1 hl1 => ?_⟩
      refine ⟨.ref l1, .list ([bA, bB && !bA].map PyData.bool), rfl, .lst (SqL.of upd_same) (dpAll_bools [bA, bB && !bA]), bools_small (by show 2 ≤ 100; decide), ?_⟩
      have s18 := s17'.trans (same_new (o := .lst [.bl bA, .bl (bB && !bA)]) hl1)
      generalize upd H17 l1 (.lst [.bl bA, .bl (bB && !bA)]) = H18 at s18
      refine ⟨_, rfl, ?_⟩
      cases bB with
      | true =>
        refine ⟨_, rfl, _, rfl, iteT ⟨_, rfl, _, rfl, (by show 2 ≤ sizeLine; decide), fun l2 hl2 => ?_⟩⟩
        refine ⟨.ref l2, .list ([bA, true && !bA].map PyData.bool), rfl, .lst (SqL.of upd_same) (dpAll_bools [bA, true && !bA]), bools_small (by show 2 ≤ 100; decide), rfl, _, rfl, ?_⟩
        exact iteNS rfl ⟨rfl, s18.trans (same_new hl2)⟩
      | false =>
        refine ⟨_, rfl, _, rfl, iteF ⟨(by show 2 ≤ sizeLine; decide), fun l2 hl2 => ?_⟩⟩
        refine ⟨.ref l2, .list ([bA, false && !bA].map PyData.bool), rfl, .lst (SqL.of upd_same) (dpAll_bools [bA, false && !bA]), bools_small (by show 2 ≤ 100; decide), rfl, _, rfl, ?_⟩
        exact iteNS rfl ⟨rfl, s18.trans (same_new hl2)⟩
    rintro σ' H16 ⟨rfl, s16⟩
    have s16' := s15'.trans s16
    -- told
    obtain ⟨B', vb, e, sB, pb⟩ := dp_list dBp
    cases e
    have sD16 : Same D5 H16 := s7.dh.trans s16'
    have vbl : vb.length = ps.length := by rw [dpAll_len pb, List.length_map, List.length_map]
    refine ⟨_, rfl, B, rfl, ⟨vb, sD16.seq sB⟩, fun L hL => ?_⟩
    refine lc_it (walk_list (xs := vb)) (fun j H' => Same H16 H' ∧ ∃ ts : List Bool, H' L = some (.lst (ts.map V.bl)) ∧ ts.length ≤ j ∧ (ts = [] ↔ ∀ p ∈ ps.take j, tld m1 p.1 = false)) ⟨same_new hL, [], upd_same, Nat.le_refl _, by simp⟩ (fun _ _ _ q => (sD16.trans q.1).seq sB) ?_ ?_
    · rintro j v H17 H18 hj ⟨s17, ts, hL17, tl, ti⟩ ⟨rfl, hv⟩
      obtain ⟨dq, hdq, dvy⟩ := dpAll_get pb hv
      rw [List.getElem?_map, List.getElem?_map] at hdq
      obtain ⟨bq, hbq, rfl⟩ := Option.map_eq_some_iff.mp hdq
      obtain ⟨p, hp, rfl⟩ := Option.map_eq_some_iff.mp hbq
      obtain ⟨tp, ws, rfl, sw, aw⟩ := dp_tup dvy
      cases aw with
      | cons w1 w2 =>
      cases w2 with
      | cons w2 w3 =>
      cases w3
      have w1e := dp_bool w1
      have w2e := dp_bool w2
      subst w1e w2e
      refine ⟨tp, _, rfl, sqT_mono (sD16.trans s17) sw, rfl, _, _, rfl, _, _, rfl, rfl, ?_⟩
      refine ⟨rfl, ?_⟩
      refine ⟨_, rfl, _, rfl, ?_⟩
      have tk : ps.take (j + 1) = ps.take j ++ [p] := take_more hp
      cases hb : tld m1 p.1 with
      | true =>
        refine iteT ⟨_, rfl, _, hL17, Nat.lt_of_le_of_lt (show (ts.map V.bl).length ≤ 1000 by rw [List.length_map]; omega) (by decide), Same.put s17 hL, ts ++ [true], by rw [upd_same, List.map_append]; rfl, by rw [List.length_append]; show ts.length + 1 ≤ _; omega, ?_⟩
        constructor
        · intro e
          simp at e
        · intro h
          have := h p (by rw [tk]; simp)
          rw [hb] at this
          cases this
      | false =>
        refine iteF ⟨s17, ts, hL17, by omega, ?_⟩
        rw [ti, tk]
        constructor
        · intro h q hq
          rcases List.mem_append.mp hq with h2 | h2
          · exact h q h2
          · rw [List.mem_singleton.mp h2]
            exact hb
        · exact fun h q hq => h q (List.mem_append_left _ hq)
    rintro H17 ⟨s17, ts, hL17, tl, ti⟩
    rw [vbl, List.take_length] at ti
    have s17' := s16'.trans s17
    have tsl : ts.length ≤ 200 := by omega
    have tN : ts = [] ↔ ¬ ToldSome r1 m1 z.cps.toList.length := by
      rw [ti, told_left (m1 := m1) iff]
      constructor
      · rintro h ⟨p, hp, e⟩
        rw [h p hp] at e
        cases e
      · intro h p hp
        cases q : tld m1 p.1 with
        | true => exact absurd ⟨p, hp, q⟩ h
        | false => rfl
    have dTold : ∀ H', Same H17 H' → Dp K H' (.ref L) (.list (ts.map PyData.bool)) := fun H' e => .lst (SqL.of (e _ _ hL17)) (dpAll_bools _)
    have shT : SeqAt.shaped (.list (ts.map PyData.bool)) = true := shaped_list fun d hd => by
      obtain ⟨b, _, rfl⟩ := List.mem_map.mp hd
      exact ⟨rfl, by show (0 : Nat) ≤ 62; decide⟩
    have eqT : PyData.eqv (.list (ts.map PyData.bool)) (.list []) = decide (ts = []) := by
      cases ts <;> rfl
    have Mx : Mach K D5 x z r1 m1 := tw.2.1
    have sD17 : Same D5 H17 := s7.dh.trans s17'
    have smN : ∀ b : Bool, Sm 60 10000000 (.list [.bool b, .none]) := fun b => by
      have e : ∀ d ∈ [PyData.bool b, .none], Sm 0 5 d := fun d hd => by
        simp only [List.mem_cons, List.not_mem_nil, or_false] at hd
        rcases hd with rfl | rfl
        · exact sm_bool b
        · exact sm_none
      refine (sm_list e).mono (by decide) ?_
      show 2 * (5 + 2) + 3 ≤ _
      decide
    refine ⟨fun σ' H' => σ' = [some (.str z), some (.ref t1), some (.ref t2), some (.ref x), some (.ref y), some (.ref B), some (.bl bB), some (.bl bA), some (.ref hl), some (.ref du), some (.ref L), none, none] ∧ Same H17 H', ?_, ?_⟩
    · refine ⟨_, rfl, x, dx', _, rfl, sD17 _ _ hxD, rfl, x, z, r1, m1, rfl, Mx.mono sD17, fun H18 v s18 ans => ⟨rfl, ?_⟩⟩
      have ev : decide (v = V.non) = decide (ts = []) := by
        rcases ans with ⟨rfl, no⟩ | ⟨⟨t, rfl⟩, yes⟩
        · rw [decide_eq_true rfl, decide_eq_true (tN.mpr no)]
        · rw [decide_eq_false (fun e => nomatch e), decide_eq_false (fun e => (tN.mp e) yes)]
      rw [ev]
      have sD18 := sD17.trans s18
      have tw18 := tw17.mono (s17'.trans s18)
      refine ⟨_, rfl, _, rfl, x, dx', _, x, dx', _, rfl, rfl, sD18 _ _ hxD, sD18 _ _ hxD, D5, x, x, z, r1, m1, r1, m1, rfl, tw18, fun D6 H19 x6 rows6 ms6 st6 M6 jo => ?_⟩
      obtain ⟨dx6, _, _, hx6, _, _⟩ := M6.ex
      refine ⟨x6, dx6, _, rfl, st6.dh _ _ hx6, rfl, x6, z, rows6, ms6, rfl, M6.mono st6.dh, fun H20 v2 s20 ans2 => ?_⟩
      have no6 : ¬ ToldSome rows6 ms6 z.cps.toList.length := fun e => (jo.below.mp e) self_below
      rcases ans2 with ⟨rfl, _⟩ | ⟨_, yes⟩
      rotate_left
      · exact absurd yes no6
      have s20' := s18.trans (st6.same.trans s20)
      refine ⟨(by show 2 ≤ sizeLine; decide), fun l1 hl1 => ?_⟩
      refine ⟨.ref l1, .list [.bool (decide (ts = [])), .none], rfl, .lst (SqL.of upd_same) (.cons (.bl _) (.cons .non .nil)), smN _, ?_⟩
      have s21 := s20'.trans (same_new (o := .lst [.bl (decide (ts = [])), .non]) hl1)
      generalize upd H20 l1 (.lst [.bl (decide (ts = [])), .non]) = H21 at s21
      refine ⟨_, rfl, (by show 0 ≤ sizeLine; decide), fun l2 hl2 => ?_⟩
      have s22 := s21.trans (same_new (o := .lst []) hl2)
      refine ⟨_, _, dTold _ s22, .lst (SqL.of upd_same) .nil, shT, rfl, ?_⟩
      rw [eqT]
      generalize upd H21 l2 (.lst []) = H22 at s22
      refine ⟨(by show 2 ≤ sizeLine; decide), fun l3 hl3 => ?_⟩
      refine ⟨.ref l3, .list [.bool (decide (ts = [])), .none], rfl, .lst (SqL.of upd_same) (.cons (.bl _) (.cons .non .nil)), smN _, rfl, _, rfl, ?_⟩
      exact iteNS rfl ⟨rfl, s22.trans (same_new hl3)⟩
    rintro σ' H18 ⟨rfl, s18⟩
    have s18' := s17'.trans s18
    have sD18 := sD17.trans s18
    -- bool(one), one == one, ..
    refine ⟨_, rfl, .ref x, rfl, x, dx', _, rfl, sD18 _ _ hxD, x, z, r1, m1, rfl, Mx.mono sD18, fun H19 k1 s19 j1 => ⟨k1, rfl, ?_⟩⟩
    have s19' := s18'.trans s19
    refine ⟨_, rfl, _, rfl, cmp_rd (R := Alike) T (tw17.mono s19') fun H20 k2 s20 j2 => ?_⟩
    have s20' := s19'.trans s20
    refine ⟨_, rfl, _, rfl, cmp_rd (R := fun r1 m1 r2 m2 n => Below r1 m1 r2 m2 n ∧ ¬ Below r2 m2 r1 m1 n) T (tw17.mono s20') fun H21 k3 s21 j3 => ?_⟩
    have s21' := s20'.trans s21
    refine ⟨_, rfl, _, rfl, cmp_rd (R := fun r1 m1 r2 m2 n => Below r2 m2 r1 m1 n) T (tw17.mono s21') fun H22 k4 s22 j4 => ?_⟩
    have s22' := s21'.trans s22
    have f1 : k1 = !decide (ts = []) := by
      refine of_iffs j1 ?_
      by_cases q : ts = []
      · rw [decide_eq_true q]
        exact ⟨fun e => (by cases e), fun e => absurd e (tN.mp q)⟩
      · rw [decide_eq_false q]
        exact ⟨fun _ => Classical.byContradiction fun n => q (tN.mpr n), fun _ => rfl⟩
    have f2 : k2 = true := j2.mpr fun p hp => by rw [hp.self]
    have f3 : k3 = false := by
      cases q : k3 with
      | true => exact absurd self_below (j3.mp q).2
      | false => rfl
    have f4 : k4 = true := j4.mpr self_below
    rw [f1, f2, f3, f4]
    refine ⟨(by show 4 ≤ sizeLine; decide), fun l1 hl1 => ?_⟩
    obtain ⟨dd, hdd⟩ : ∃ dd : PyData, dd = .list ([!decide (ts = []), true, false, true].map PyData.bool) := ⟨_, rfl⟩
    have smd : Sm 60 10000000 dd := by rw [hdd]; exact bools_small (by show 4 ≤ 100; decide)
    have dpd : ∀ (H' : Hp) (l : Addr), H' l = some (.lst [.bl (!decide (ts = [])), .bl true, .bl false, .bl true]) → Dp K H' (.ref l) dd := fun H' l e => by rw [hdd]; exact .lst (SqL.of e) (dpAll_bools [!decide (ts = []), true, false, true])
    refine ⟨.ref l1, dd, rfl, dpd _ _ upd_same, smd, ?_⟩
    have s23 := (s19.trans (s20.trans (s21.trans s22))).trans (same_new (o := .lst [.bl (!decide (ts = [])), .bl true, .bl false, .bl true]) hl1)
    generalize upd H22 l1 (.lst [.bl (!decide (ts = [])), .bl true, .bl false, .bl true]) = H23 at s23
    refine ⟨_, rfl, (by show 0 ≤ sizeLine; decide), fun l2 hl2 => ?_⟩
    have s24 := s23.trans (same_new (o := .lst []) hl2)
    refine ⟨_, _, dTold _ (s18.trans s24), .lst (SqL.of upd_same) .nil, shT, rfl, ?_⟩
    rw [eqT]
    generalize upd H23 l2 (.lst []) = H24 at s24
    refine ⟨(by show 4 ≤ sizeLine; decide), fun l3 hl3 => ?_⟩
    refine ⟨.ref l3, dd, rfl, dpd _ _ upd_same, smd, rfl, _, rfl, ?_⟩
    refine iteNS rfl ?_
    have s25 := s24.trans (same_new (o := .lst [.bl (!decide (ts = [])), .bl true, .bl false, .bl true]) hl3)
    generalize upd H24 l3 (.lst [.bl (!decide (ts = [])), .bl true, .bl false, .bl true]) = H25 at s25
    have sD25 := sD18.trans s25
    have nfO : ∀ n ∈ (["NoneType", "str", "tuple", "list", "int", "bool"] : List String), PySem.W.notFirst K (a_Machine K) (.type n) = true := fun n hn => List.all_eq_true.mp T.nfO n hn
    have kiO : ∀ n ∈ (["NoneType", "str", "tuple", "list", "int", "bool"] : List String), PySem.W.kitOne K (.type n) (.ref (a_Machine K)) = some false := fun n hn => of_decide_eq_true (List.all_eq_true.mp T.kiO n hn)
    -- a machine equals nothing else
    refine ⟨_, rfl, x, dx', _, _, rfl, sD25 _ _ hxD, .base .non, nfO _ (by simp), x, .non, _, rfl, .base .non, kiO _ (by simp), _, rfl, _, rfl, iteT ?_⟩
    refine ⟨_, rfl, _, rfl, x, dx', _, _, rfl, sD25 _ _ hxD, .base (.str _), nfO _ (by simp), x, .str z, _, rfl, .base (.str _), kiO _ (by simp), _, rfl, _, rfl, iteT ?_⟩
    have ht25 : H25 t1 = some (.tup [.ref a1, .ref c1]) := sD25 _ _ (stC.dd _ _ ht1)
    refine ⟨_, rfl, _, rfl, x, dx', _, _, rfl, sD25 _ _ hxD, .base (.tup ht25), nfO _ (by simp), x, .ref t1, _, rfl, .base (.tup ht25), kiO _ (by simp), _, rfl, _, rfl, iteT ?_⟩
    refine ⟨_, rfl, _, rfl, _, rfl, t1, _, _, .ref a1, rfl, rfl, SqT.of ht25, rfl, _, rfl, t1, _, _, .ref c1, rfl, rfl, SqT.of ht25, rfl, (by show 3 ≤ sizeLine; decide), fun tz htz => ?_⟩
    have s26 := same_new (o := .tup [.str z, .ref a1, .ref c1]) htz
    refine ⟨x, dx', _, _, rfl, (sD25.trans s26) _ _ hxD, .base (.tup upd_same), nfO _ (by simp), x, .ref tz, _, rfl, .base (.tup upd_same), kiO _ (by simp), _, rfl, ?_⟩
    have fin : Step NoW D5 H7 D5 _ := Step.of_same s7.dh (s18'.trans (s25.trans s26))
    exact k _ _ (stD.trans fin)
theorem cRight (T : Tx K mg) : CalG P w K mg base CX0 10 "_law_right" (spRight K) := c_right T fun _ F => ok_right F T
/-! ### the law -/
def spLaw (K : PySem.W.Frag) : Sp := fun vs H Q _ => ∃ (a : Addr) (ns : List Int), vs = [.ref a] ∧ SqL K H a (ns.map V.int) ∧ ∀ H', Q (.bl true) H'
theorem ok_law {f : Addr} {fd : FuncData} (F : FunD K "law" "law" (defArgs s_law) (defBody s_law) (defScope s_law) [] [] f fd) (T : Tx K mg) : FnG P w K mg base CX0 11 f fd ["_law_script"] (spLaw K) := by
  refine FunD.okG F sc_law (fun vs H Q E h => ?_) (fun cdv A outer s H vs Q E hr hG h => ?_)
  · obtain ⟨a, ns, rfl, _⟩ := h
    rfl
  · obtain ⟨a, ns, rfl, hS, k⟩ := h
    refine ⟨_, PSs.nox (pss_cons (ps_set (i := 1) sc_law.nd rfl (Or.inl rfl) (pe_cX (cPen T) hr (by decide) (by rfl) pass0 (pa_cons (pv 0) pa_nil)))
      (pss_cons (ps_for PassesOwn.never rfl (pi_range1 (by rfl) T.f_range (pa_cons pe_int pa_nil)) (pg_name (i := 2) sc_law.nd rfl (Or.inl rfl))
      (pss_cons (ps_set (i := 3) sc_law.nd rfl (Or.inl rfl) (pe_cX (cLets T) hr (by decide) (by rfl) pass0 (pa_cons (pv 1) pa_nil)))
      (pss_cons (ps_set (i := 4) sc_law.nd rfl (Or.inl rfl) (pe_cX (cPlan T) hr (by decide) (by rfl) pass0 (pa_cons (pv 1) (pa_cons (pv 3) (pa_cons pe_int pa_nil)))))
      (pss_cons (ps_set (i := 5) sc_law.nd rfl (Or.inl rfl) (pe_cX (cSecond T) hr (by decide) (by rfl) pass0 (pa_cons (pv 1) (pa_cons (pv 3) (pa_cons (pv 4) pa_nil)))))
      (pss_one (ps_if (PW.pt (pw_or (pt_not (pt_val (pe_cG (cRight T) hG hr (by decide) (by rfl) pass0 (pa_cons (pv 3) (pa_cons (pv 4) (pa_cons (pv 5) pa_nil)))))) (pw_or1 (pt_not (pt_val (pe_cG (cRight T) hG hr (by decide) (by rfl) pass0 (pa_cons (pv 3) (pa_cons (pv 5) (pa_cons (pv 4) pa_nil)))))))))
      (pss_one (ps_ret pe_bl)) pss_nil))))))
      (pss_one (ps_ret pe_bl)))), ?_⟩
    refine ⟨_, rfl, a, ns, rfl, hS, fun D1 H1 p st1 pen1 => ?_⟩
    refine ⟨6, rfl, by decide, by decide, for_it walk_range (fun i σ H' => ∃ v2 v3 v4 v5, σ = [some (.ref a), some (.ref p), v2, v3, v4, v5] ∧ ∃ D', Same D' H' ∧ PenAt K D' H' p (900000 - 3000 * i))
      ⟨none, none, none, none, rfl, D1, st1.dh, pen1⟩ (fun _ _ _ _ _ => trivial) ?_ ?_⟩
    · rintro i v σ H2 H3 hi ⟨v2, v3, v4, v5, rfl, D2, sd2, pen2⟩ ⟨rfl, rfl⟩
      have hi' : i < 6 := hi
      refine ⟨_, rfl, D2, p, 900000 - 3000 * i - 1, rfl, sd2, pen2.less (by omega), fun D3 H4 z st4 pen4 gz => ?_⟩
      refine ⟨_, rfl, _, rfl, D3, p, z, 6, 900000 - 3000 * i - 601, rfl, st4.dh, pen4.less (by omega), gz.few, by decide, by decide, fun D5 H5 t ta tb rows ms st5 pen5 gr le5 ht da db ra rc => ?_⟩
      have PL : PlanAt K D5 t z.cps.toList.length rows ms := ⟨⟨ta, tb, ht, ra, rc⟩, gr⟩
      refine ⟨_, rfl, _, rfl, _, rfl, D5, p, t, z, rows, ms, 900000 - 3000 * i - 1401, rfl, st5.dh, pen5.less (by omega), gz, PL, by omega, fun D6 H6 t6 rows6 ms6 st6 pen6 P6 le6 => ?_⟩
      have PL6 := PL.mono st6.dd
      refine ⟨_, rfl, _, rfl, _, rfl, D6, z, t, t6, rows, ms, rows6, ms6, rfl, st6.dh, gz, PL6, P6, by omega, le6, fun D7 H7 st7 => ⟨_, rfl, iteF ?_⟩⟩
      refine ⟨_, rfl, _, rfl, _, rfl, D7, z, t6, t, rows6, ms6, rows, ms, rfl, st7.dh, gz, P6.mono st7.dd, PL6.mono st7.dd, le6, by omega, fun D8 H8 st8 => ⟨_, rfl, iteF ?_⟩⟩
      exact ⟨_, _, _, _, rfl, D8, st8.dh, ((pen6.keep st7 (fun z => z)).keep st8 (fun z => z)).less (by omega)⟩
    · rintro σ H2 ⟨v2, v3, v4, v5, rfl, D2, sd2, pen2⟩
      exact k _
end
end Rg
namespace Rg
open PySem PySem.Spec PyProof.Rows L2

/-! ### the head -/
def hd_draw : He.DefD := ⟨("_law_draw", none), "_law_draw", "_law_draw", defArgs s_draw, defBody s_draw, defScope s_draw, [], []⟩
def hd_isLetter : He.DefD := ⟨("is_letter", none), "is_letter", "is_letter", defArgs s_isLetter, defBody s_isLetter, defScope s_isLetter, [], []⟩
def hd_isRow : He.DefD := ⟨("is_row", none), "is_row", "is_row", defArgs s_isRow, defBody s_isRow, defScope s_isRow, [], []⟩
def hd_needRow : He.DefD := ⟨("need_row", none), "need_row", "need_row", defArgs s_needRow, defBody s_needRow, defScope s_needRow, [], []⟩
def hd_isWhole : He.DefD := ⟨("is_whole", none), "is_whole", "is_whole", defArgs s_isWhole, defBody s_isWhole, defScope s_isWhole, [.non], []⟩
def hd_needSigns : He.DefD := ⟨("need_signs", none), "need_signs", "need_signs", defArgs s_needSigns, defBody s_needSigns, defScope s_needSigns, [], []⟩
def hd_isStep : He.DefD := ⟨("is_step", none), "is_step", "is_step", defArgs s_isStep, defBody s_isStep, defScope s_isStep, [], []⟩
def hd_init : He.DefD := ⟨("Machine", some "__init__"), "__init__", "Machine.__init__", defArgs s_init, defBody s_init, defScope s_init, [], []⟩
def hd_step : He.DefD := ⟨("Machine", some "step"), "step", "Machine.step", defArgs s_step, defBody s_step, defScope s_step, [], []⟩
def hd_state : He.DefD := ⟨("Machine", some "state"), "state", "Machine.state", defArgs s_state, defBody s_state, defScope s_state, [], []⟩
def hd_mlen : He.DefD := ⟨("Machine", some "__len__"), "__len__", "Machine.__len__", defArgs s_mlen, defBody s_mlen, defScope s_mlen, [], []⟩
def hd_mget : He.DefD := ⟨("Machine", some "__getitem__"), "__getitem__", "Machine.__getitem__", defArgs s_mget, defBody s_mget, defScope s_mget, [], []⟩
def hd_mcon : He.DefD := ⟨("Machine", some "__contains__"), "__contains__", "Machine.__contains__", defArgs s_mcon, defBody s_mcon, defScope s_mcon, [], []⟩
def hd_pen : He.DefD := ⟨("_law_pen", none), "_law_pen", "_law_pen", defArgs s_pen, defBody s_pen, defScope s_pen, [], []⟩
def hd_pick : He.DefD := ⟨("_law_pick", none), "_law_pick", "_law_pick", defArgs s_pick, defBody s_pick, defScope s_pick, [], []⟩
def hd_lets : He.DefD := ⟨("_law_letters", none), "_law_letters", "_law_letters", defArgs s_lets, defBody s_lets, defScope s_lets, [], []⟩
def hd_plan : He.DefD := ⟨("_law_plan", none), "_law_plan", "_law_plan", defArgs s_plan, defBody s_plan, defScope s_plan, [], []⟩
def hd_chosen : He.DefD := ⟨("is_chosen", none), "is_chosen", "is_chosen", defArgs s_chosen, defBody s_chosen, defScope s_chosen, [], []⟩
def hd_joined : He.DefD := ⟨("joined", none), "joined", "joined", defArgs s_joined, defBody s_joined, defScope s_joined, [], []⟩
def hd_firstRow : He.DefD := ⟨("first_row", none), "first_row", "first_row", defArgs s_firstRow, defBody s_firstRow, defScope s_firstRow, [], []⟩
def hd_mwithForm : He.DefD := ⟨("Machine", some "with_form"), "with_form", "Machine.with_form", defArgs s_mwithForm, defBody s_mwithForm, defScope s_mwithForm, [], []⟩
def hd_mwithOther : He.DefD := ⟨("Machine", some "with_other"), "with_other", "Machine.with_other", defArgs s_mwithOther, defBody s_mwithOther, defScope s_mwithOther, [], []⟩
def hd_mfirst : He.DefD := ⟨("Machine", some "first"), "first", "Machine.first", defArgs s_mfirst, defBody s_mfirst, defScope s_mfirst, [], []⟩
def hd_msub : He.DefD := ⟨("Machine", some "__sub__"), "__sub__", "Machine.__sub__", defArgs s_msub, defBody s_msub, defScope s_msub, [], []⟩
def hd_mxor : He.DefD := ⟨("Machine", some "__xor__"), "__xor__", "Machine.__xor__", defArgs s_mxor, defBody s_mxor, defScope s_mxor, [], []⟩
def hd_mbool : He.DefD := ⟨("Machine", some "__bool__"), "__bool__", "Machine.__bool__", defArgs s_mbool, defBody s_mbool, defScope s_mbool, [], []⟩
def hd_mle : He.DefD := ⟨("Machine", some "__le__"), "__le__", "Machine.__le__", defArgs s_mle, defBody s_mle, defScope s_mle, [], []⟩
def hd_mlt : He.DefD := ⟨("Machine", some "__lt__"), "__lt__", "Machine.__lt__", defArgs s_mlt, defBody s_mlt, defScope s_mlt, [], []⟩
def hd_mge : He.DefD := ⟨("Machine", some "__ge__"), "__ge__", "Machine.__ge__", defArgs s_mge, defBody s_mge, defScope s_mge, [], []⟩
def hd_mgt : He.DefD := ⟨("Machine", some "__gt__"), "__gt__", "Machine.__gt__", defArgs s_mgt, defBody s_mgt, defScope s_mgt, [], []⟩
def hd_meq : He.DefD := ⟨("Machine", some "__eq__"), "__eq__", "Machine.__eq__", defArgs s_meq, defBody s_meq, defScope s_meq, [], []⟩
def hd_pairs : He.DefD := ⟨("_law_pairs", none), "_law_pairs", "_law_pairs", defArgs s_pairs, defBody s_pairs, defScope s_pairs, [], []⟩
def hd_double : He.DefD := ⟨("_law_double", none), "_law_double", "_law_double", defArgs s_double, defBody s_double, defScope s_double, [], []⟩
def hd_second : He.DefD := ⟨("_law_second", none), "_law_second", "_law_second", defArgs s_second, defBody s_second, defScope s_second, [], []⟩
def hd_right : He.DefD := ⟨("_law_right", none), "_law_right", "_law_right", defArgs s_right, defBody s_right, defScope s_right, [], []⟩
def hd_law : He.DefD := ⟨("law", none), "law", "law", defArgs s_law, defBody s_law, defScope s_law, [], []⟩
def hdefs : List He.DefD := [hd_draw, hd_isLetter, hd_isRow, hd_needRow, hd_isWhole, hd_needSigns, hd_isStep, hd_init, hd_step, hd_state, hd_mlen, hd_mget, hd_mcon, hd_pen, hd_pick, hd_lets, hd_plan, hd_chosen, hd_joined, hd_firstRow, hd_mwithForm, hd_mwithOther, hd_mfirst, hd_msub, hd_mxor, hd_mbool, hd_mle, hd_mlt, hd_mge, hd_mgt, hd_meq, hd_pairs, hd_double, hd_second, hd_right, hd_law]
def hfacts : List He.Fa := [.free "len", .free "int", .free "abs", .free "isinstance", .free "str", .free "bool", .free "list", .free "tuple", .free "all", .free "enumerate", .free "range", .free "set", .free "repr", .free "zip", .str "LETTERS" "abcdefghijklmnopqrstuvwxyz", .int "MOST_SIGNS" 4, .glo "Machine", .cls "Machine", .mkr "Machine", .noat "Machine" "signs", .noat "Machine" "steps", .noat "Machine" "told", .glo "_law_draw", .glo "is_letter", .glo "is_row", .glo "need_row", .glo "is_whole", .glo "need_signs", .glo "is_step", .meth "Machine" "step", .meth "Machine" "state", .meth "Machine" "__len__", .meth "Machine" "__getitem__", .meth "Machine" "__contains__", .glo "_law_pen", .glo "_law_pick", .glo "_law_letters", .glo "_law_plan", .glo "is_chosen", .glo "joined", .glo "first_row", .meth "Machine" "with_form", .meth "Machine" "with_other", .meth "Machine" "first", .meth "Machine" "__sub__", .meth "Machine" "__xor__", .meth "Machine" "__bool__", .meth "Machine" "__le__", .meth "Machine" "__lt__", .meth "Machine" "__ge__", .meth "Machine" "__gt__", .meth "Machine" "__eq__", .glo "_law_pairs", .glo "_law_double", .glo "_law_second", .glo "_law_right", .glo "law"]
def hmore (K : PySem.W.Frag) : Bool := (PySem.W.fnIn K (He.ma K (a_Machine K) "__getitem__") && (PySem.W.selfFirst K (a_Machine K) && (He.eqO (PySem.W.findIn K (.ref (a_Machine K)) "__ne__") (some (some (.builtin "object.__ne__"))) && (decide (PySem.W.mroIn K (a_Machine K) (.type "object") = some true) && (He.eqO (PySem.W.findIn K (.ref (a_Machine K)) "__class__") (some (some (.builtin "object.__class__"))) && (He.eqO (PySem.W.specialIn K (.builtin "object.__class__") "__get__") (some (some (.builtin "getset_descriptor.__get__"))) && (decide (PySem.W.takesIn K (.builtin "object.__class__") = some true) && (decide (PySem.W.kitOne K (.ref (a_Machine K)) (.ref (a_Machine K)) = some true) && (((["NoneType", "str", "tuple", "list", "int", "bool"] : List String).all fun n => decide (PySem.W.kitOne K (.type n) (.ref (a_Machine K)) = some false)) && (PySem.W.notFirst K (a_Machine K) (.ref (a_Machine K)) && (((["NoneType", "str", "tuple", "list", "int", "bool"] : List String).all fun n => PySem.W.notFirst K (a_Machine K) (.type n)) && true)))))))))))
abbrev hrow : PySem.W.OpenRow := PySem.W.OpenLaw.row PySem.Challenge.rw_rowgames_k21_machines_compared
abbrev hhook : PySem.W.Hook := He.hookX 6 hfacts hdefs [] [] hmore
def hobs (s : PySem.W.SharedT) : He.AlX := He.obsX 6 hfacts hdefs [] [] hmore (HandSHeadRun.getT s)
theorem hobs_eq (s : PySem.W.SharedT) : hobs s = hhook.obs s.abs := He.obsX_eq (HandSHeadRun.getT_eq s)
def hnames0 : List PySem.Str := ["_wall", "reached", "classes_of", "restricted", "least_form", "is_chosen", "joined", "first_row", "able", "GameError", "BadInput", "BadRow", "BadMachine", "OtherSigns", "BadNumber", "LETTERS", "MOST_SIGNS", "is_letter", "is_row", "need_row", "is_whole", "MOST_LENGTH", "need_signs", "is_step", "Machine", "_law_pen", "_law_draw", "_law_pick", "_law_letters", "_law_plan"]
def hnames1 : List PySem.Str := ["_law_pairs", "_law_double", "_law_second", "_law_right"]
def hnames : List PySem.Str := hnames0 ++ hnames1
set_option maxHeartbeats 0 in
theorem hrun (w : World) : HandSHeadRun.RunEq hrow (PySem.W.view hrow.prog [40]) hhook hobs 20000 hnames w := by
  intro os
  kernel_rfl
theorem hsays {w : World} {K : PySem.W.Frag} {h : Heap} {mg : Str → Option Value} (X : K.In h) (G : h.Ns mainGlobals mg) (c : He.SaysX hfacts hdefs [] [] hmore w h K) : Tx K mg where
  f_len := He.free_ok X G (c.t.d.fact 0 (f := .free "len") rfl)
  f_int := He.free_ok X G (c.t.d.fact 1 (f := .free "int") rfl)
  f_abs := He.free_ok X G (c.t.d.fact 2 (f := .free "abs") rfl)
  f_isinstance := He.free_ok X G (c.t.d.fact 3 (f := .free "isinstance") rfl)
  f_str := He.free_ok X G (c.t.d.fact 4 (f := .free "str") rfl)
  f_bool := He.free_ok X G (c.t.d.fact 5 (f := .free "bool") rfl)
  f_list := He.free_ok X G (c.t.d.fact 6 (f := .free "list") rfl)
  f_tuple := He.free_ok X G (c.t.d.fact 7 (f := .free "tuple") rfl)
  f_all := He.free_ok X G (c.t.d.fact 8 (f := .free "all") rfl)
  f_enumerate := He.free_ok X G (c.t.d.fact 9 (f := .free "enumerate") rfl)
  f_range := He.free_ok X G (c.t.d.fact 10 (f := .free "range") rfl)
  f_set := He.free_ok X G (c.t.d.fact 11 (f := .free "set") rfl)
  f_repr := He.free_ok X G (c.t.d.fact 12 (f := .free "repr") rfl)
  f_zip := He.free_ok X G (c.t.d.fact 13 (f := .free "zip") rfl)
  g_LETTERS := let ⟨t, e⟩ := He.str_ok X G (c.t.d.fact 14 (f := .str "LETTERS" "abcdefghijklmnopqrstuvwxyz") rfl); ⟨_, e, t, rfl⟩
  g_MOST_SIGNS := let ⟨t, e⟩ := He.int_ok X G (c.t.d.fact 15 (f := .int "MOST_SIGNS" 4) rfl); ⟨_, e, t, rfl⟩
  g_Machine := He.glo_ok X G (c.t.d.fact 16 (f := .glo "Machine") rfl)
  cl_Machine := He.cls_ok (c.t.d.fact 17 (f := .cls "Machine") rfl)
  mk_Machine := He.mkr_ok (c.t.d.fact 18 (f := .mkr "Machine") rfl)
  n_Machine_signs := He.noat_ok (c.t.d.fact 19 (f := .noat "Machine" "signs") rfl)
  n_Machine_steps := He.noat_ok (c.t.d.fact 20 (f := .noat "Machine" "steps") rfl)
  n_Machine_told := He.noat_ok (c.t.d.fact 21 (f := .noat "Machine" "told") rfl)
  g_draw := He.glo_ok X G (c.t.d.fact 22 (f := .glo "_law_draw") rfl)
  d_draw := c.t.d.def_ 0 (d := hd_draw) rfl
  g_isLetter := He.glo_ok X G (c.t.d.fact 23 (f := .glo "is_letter") rfl)
  d_isLetter := c.t.d.def_ 1 (d := hd_isLetter) rfl
  g_isRow := He.glo_ok X G (c.t.d.fact 24 (f := .glo "is_row") rfl)
  d_isRow := c.t.d.def_ 2 (d := hd_isRow) rfl
  g_needRow := He.glo_ok X G (c.t.d.fact 25 (f := .glo "need_row") rfl)
  d_needRow := c.t.d.def_ 3 (d := hd_needRow) rfl
  g_isWhole := He.glo_ok X G (c.t.d.fact 26 (f := .glo "is_whole") rfl)
  d_isWhole := c.t.d.def_ 4 (d := hd_isWhole) rfl
  g_needSigns := He.glo_ok X G (c.t.d.fact 27 (f := .glo "need_signs") rfl)
  d_needSigns := c.t.d.def_ 5 (d := hd_needSigns) rfl
  g_isStep := He.glo_ok X G (c.t.d.fact 28 (f := .glo "is_step") rfl)
  d_isStep := c.t.d.def_ 6 (d := hd_isStep) rfl
  d_init := c.t.d.def_ 7 (d := hd_init) rfl
  m_step := He.meth_ok (c.t.d.fact 29 (f := .meth "Machine" "step") rfl)
  d_step := c.t.d.def_ 8 (d := hd_step) rfl
  m_state := He.meth_ok (c.t.d.fact 30 (f := .meth "Machine" "state") rfl)
  d_state := c.t.d.def_ 9 (d := hd_state) rfl
  m_mlen := He.meth_ok (c.t.d.fact 31 (f := .meth "Machine" "__len__") rfl)
  d_mlen := c.t.d.def_ 10 (d := hd_mlen) rfl
  m_mget := He.meth_ok (c.t.d.fact 32 (f := .meth "Machine" "__getitem__") rfl)
  d_mget := c.t.d.def_ 11 (d := hd_mget) rfl
  m_mcon := He.meth_ok (c.t.d.fact 33 (f := .meth "Machine" "__contains__") rfl)
  d_mcon := c.t.d.def_ 12 (d := hd_mcon) rfl
  g_pen := He.glo_ok X G (c.t.d.fact 34 (f := .glo "_law_pen") rfl)
  d_pen := c.t.d.def_ 13 (d := hd_pen) rfl
  g_pick := He.glo_ok X G (c.t.d.fact 35 (f := .glo "_law_pick") rfl)
  d_pick := c.t.d.def_ 14 (d := hd_pick) rfl
  g_lets := He.glo_ok X G (c.t.d.fact 36 (f := .glo "_law_letters") rfl)
  d_lets := c.t.d.def_ 15 (d := hd_lets) rfl
  g_plan := He.glo_ok X G (c.t.d.fact 37 (f := .glo "_law_plan") rfl)
  d_plan := c.t.d.def_ 16 (d := hd_plan) rfl
  g_chosen := He.glo_ok X G (c.t.d.fact 38 (f := .glo "is_chosen") rfl)
  d_chosen := c.t.d.def_ 17 (d := hd_chosen) rfl
  g_joined := He.glo_ok X G (c.t.d.fact 39 (f := .glo "joined") rfl)
  d_joined := c.t.d.def_ 18 (d := hd_joined) rfl
  g_firstRow := He.glo_ok X G (c.t.d.fact 40 (f := .glo "first_row") rfl)
  d_firstRow := c.t.d.def_ 19 (d := hd_firstRow) rfl
  m_mwithForm := He.meth_ok (c.t.d.fact 41 (f := .meth "Machine" "with_form") rfl)
  d_mwithForm := c.t.d.def_ 20 (d := hd_mwithForm) rfl
  m_mwithOther := He.meth_ok (c.t.d.fact 42 (f := .meth "Machine" "with_other") rfl)
  d_mwithOther := c.t.d.def_ 21 (d := hd_mwithOther) rfl
  m_mfirst := He.meth_ok (c.t.d.fact 43 (f := .meth "Machine" "first") rfl)
  d_mfirst := c.t.d.def_ 22 (d := hd_mfirst) rfl
  m_msub := He.meth_ok (c.t.d.fact 44 (f := .meth "Machine" "__sub__") rfl)
  d_msub := c.t.d.def_ 23 (d := hd_msub) rfl
  m_mxor := He.meth_ok (c.t.d.fact 45 (f := .meth "Machine" "__xor__") rfl)
  d_mxor := c.t.d.def_ 24 (d := hd_mxor) rfl
  m_mbool := He.meth_ok (c.t.d.fact 46 (f := .meth "Machine" "__bool__") rfl)
  d_mbool := c.t.d.def_ 25 (d := hd_mbool) rfl
  m_mle := He.meth_ok (c.t.d.fact 47 (f := .meth "Machine" "__le__") rfl)
  d_mle := c.t.d.def_ 26 (d := hd_mle) rfl
  m_mlt := He.meth_ok (c.t.d.fact 48 (f := .meth "Machine" "__lt__") rfl)
  d_mlt := c.t.d.def_ 27 (d := hd_mlt) rfl
  m_mge := He.meth_ok (c.t.d.fact 49 (f := .meth "Machine" "__ge__") rfl)
  d_mge := c.t.d.def_ 28 (d := hd_mge) rfl
  m_mgt := He.meth_ok (c.t.d.fact 50 (f := .meth "Machine" "__gt__") rfl)
  d_mgt := c.t.d.def_ 29 (d := hd_mgt) rfl
  m_meq := He.meth_ok (c.t.d.fact 51 (f := .meth "Machine" "__eq__") rfl)
  d_meq := c.t.d.def_ 30 (d := hd_meq) rfl
  g_pairs := He.glo_ok X G (c.t.d.fact 52 (f := .glo "_law_pairs") rfl)
  d_pairs := c.t.d.def_ 31 (d := hd_pairs) rfl
  g_double := He.glo_ok X G (c.t.d.fact 53 (f := .glo "_law_double") rfl)
  d_double := c.t.d.def_ 32 (d := hd_double) rfl
  g_second := He.glo_ok X G (c.t.d.fact 54 (f := .glo "_law_second") rfl)
  d_second := c.t.d.def_ 33 (d := hd_second) rfl
  g_right := He.glo_ok X G (c.t.d.fact 55 (f := .glo "_law_right") rfl)
  d_right := c.t.d.def_ 34 (d := hd_right) rfl
  g_law := He.glo_ok X G (c.t.d.fact 56 (f := .glo "law") rfl)
  d_law := c.t.d.def_ 35 (d := hd_law) rfl
  getIn := (Bool.and_eq_true_iff.mp c.more).1
  first_Machine := (Bool.and_eq_true_iff.mp (Bool.and_eq_true_iff.mp c.more).2).1
  neB := (Bool.and_eq_true_iff.mp (Bool.and_eq_true_iff.mp (Bool.and_eq_true_iff.mp c.more).2).2).1
  obB := (Bool.and_eq_true_iff.mp (Bool.and_eq_true_iff.mp (Bool.and_eq_true_iff.mp (Bool.and_eq_true_iff.mp c.more).2).2).2).1
  caB := (Bool.and_eq_true_iff.mp (Bool.and_eq_true_iff.mp (Bool.and_eq_true_iff.mp (Bool.and_eq_true_iff.mp (Bool.and_eq_true_iff.mp c.more).2).2).2).2).1
  cnB := (Bool.and_eq_true_iff.mp (Bool.and_eq_true_iff.mp (Bool.and_eq_true_iff.mp (Bool.and_eq_true_iff.mp (Bool.and_eq_true_iff.mp (Bool.and_eq_true_iff.mp c.more).2).2).2).2).2).1
  ctB := (Bool.and_eq_true_iff.mp (Bool.and_eq_true_iff.mp (Bool.and_eq_true_iff.mp (Bool.and_eq_true_iff.mp (Bool.and_eq_true_iff.mp (Bool.and_eq_true_iff.mp (Bool.and_eq_true_iff.mp c.more).2).2).2).2).2).2).1
  kiM := (Bool.and_eq_true_iff.mp (Bool.and_eq_true_iff.mp (Bool.and_eq_true_iff.mp (Bool.and_eq_true_iff.mp (Bool.and_eq_true_iff.mp (Bool.and_eq_true_iff.mp (Bool.and_eq_true_iff.mp (Bool.and_eq_true_iff.mp c.more).2).2).2).2).2).2).2).1
  kiO := (Bool.and_eq_true_iff.mp (Bool.and_eq_true_iff.mp (Bool.and_eq_true_iff.mp (Bool.and_eq_true_iff.mp (Bool.and_eq_true_iff.mp (Bool.and_eq_true_iff.mp (Bool.and_eq_true_iff.mp (Bool.and_eq_true_iff.mp (Bool.and_eq_true_iff.mp c.more).2).2).2).2).2).2).2).2).1
  nfM := (Bool.and_eq_true_iff.mp (Bool.and_eq_true_iff.mp (Bool.and_eq_true_iff.mp (Bool.and_eq_true_iff.mp (Bool.and_eq_true_iff.mp (Bool.and_eq_true_iff.mp (Bool.and_eq_true_iff.mp (Bool.and_eq_true_iff.mp (Bool.and_eq_true_iff.mp (Bool.and_eq_true_iff.mp c.more).2).2).2).2).2).2).2).2).2).1
  nfO := (Bool.and_eq_true_iff.mp (Bool.and_eq_true_iff.mp (Bool.and_eq_true_iff.mp (Bool.and_eq_true_iff.mp (Bool.and_eq_true_iff.mp (Bool.and_eq_true_iff.mp (Bool.and_eq_true_iff.mp (Bool.and_eq_true_iff.mp (Bool.and_eq_true_iff.mp (Bool.and_eq_true_iff.mp (Bool.and_eq_true_iff.mp c.more).2).2).2).2).2).2).2).2).2).2).1
end Rg
open PySem PySem.W PySem.Calls PyProof.Rows
set_option maxHeartbeats 0 in
theorem PySem.Challenge.cw_rowgames_k21_machines_compared_holds : PySem.Challenge.rw_rowgames_k21_machines_compared.Holds := by
  w_on; o_law
  refine HandSHeadRun.head_any (r := Rg.hrow) (q := view Rg.hrow.prog [40]) (H := Rg.hhook) (ob := Rg.hobs) (M := 20000) (loose := Rg.hnames) (d := HandSHeadRun.topDef Rg.hrow.prog 40) (kwd := []) Rg.hobs_eq
    (by kernel_rfl) (fun s => by kernel_rfl) Rg.hrun (by kernel_rfl) (by kernel_rfl) (by kernel_rfl) (by rfl) (by first | assumption | decide +kernel) (by decide +kernel) ⟨rfl, rfl, rfl, rfl, rfl, by decide +kernel⟩ ?wit ?walk
  case wit => w_witness2
  case walk =>
    refine Rg.walk_ofG (l := PySem.Challenge.rw_rowgames_k21_machines_compared) (n := 63) (k := 11) (x := "_law_script") rfl (by decide) (by kernel_rfl) ⟨rfl, by decide, by decide⟩ ?_
    intro w mg fa h Y G g0
    obtain ⟨K, KX, c⟩ := Y
    have T := Rg.hsays KX G c
    have g1 : mg ("law" : PySem.Str) = some (.ref fa) := by
      have e : (HandSHeadRun.topDef Rg.hrow.prog 40).name = ("law" : PySem.Str) := by kernel_rfl
      rw [e] at g0
      exact g0
    have e := g1.symm.trans T.g_law
    cases e
    obtain ⟨fd, F⟩ := T.d_law
    have b := L2.FunD.bindsA (ps := ["_law_script"]) F fun _ _ _ _ _ _ us hl => match us, hl with | [_], _ => rfl
    exact ⟨K, fd, Rg.spLaw K, KX, fun s v => b s [v] rfl, fun H a ns hl _ hS => ⟨a, ns, rfl, hS, fun _ => rfl⟩, fun base _ _ => Rg.ok_law F T⟩
