import PyProof.Rows.All
import Wide.All
import OpenK.AllK
import Wide.FinOn
import HandS.ForMost
import HandS.Defaults
import HandS.IsInst
import HandS.Walk
import HandS.Codes
import HandS.DictComp
import HandS.MakeKwOnly
import HandS.Property
import HandS.Replace
import HandS.TupSets
import HandS.HeadEnd
import HandS.HeadHook1
import HandS.HeadHook2
import HandS.HeadHook4
import HandS.Head0
import HandS.Head1
import HandS.Head2
import KE.KOpsOwn
import PySem.Challenge.RW_rowgames_k17_machines_made
import PyProof.EqAt
import PyProof.EqKinds
import PyProof.TupleCall
import PyProof.Draws
import PyProof.EnumMake
import PyProof.EnumFor
import PyProof.ReprRoads
import PyProof.StrLaws
import PyProof.CallFns
import PyProof.Rows.SetFrom
import PyProof.ListStr
import PyProof.Rows.StrLawsPart
set_option Elab.async false
set_option linter.all false
set_option maxRecDepth 100000
set_option maxHeartbeats 4000000
set_option Elab.async false
set_option linter.all false
set_option maxRecDepth 100000
set_option maxHeartbeats 2000000
/-! Shared layer of the rowgames proofs: settled heaps, the pen, calls by name. -/
namespace Rg
open PySem PySem.Spec PyProof.Rows L2

/-! ### settled heaps: D is what stays for ever, H the whole -/
structure Step (W : Addr → Prop) (D H D' H' : Hp) : Prop where
  dd : Same D D'
  dh : Same D' H'
  kp : ∀ b o, ¬ W b → H b = some o → H' b = some o
  ns : ∀ b, H b ≠ none → H' b ≠ none
  fr : ∀ b, H b ≠ none → D b = none → D' b = none
abbrev NoW : Addr → Prop := fun _ => False
section
variable {W W' : Addr → Prop} {D H D1 H1 D2 H2 : Hp} {K : PySem.W.Frag}
theorem Step.refl (h : Same D H) : Step W D H D H := ⟨Same.refl D, h, fun _ _ _ e => e, fun _ e => e, fun _ _ e => e⟩
theorem Step.trans (a : Step W D H D1 H1) (b : Step W D1 H1 D2 H2) : Step W D H D2 H2 :=
  ⟨a.dd.trans b.dd, b.dh, fun c o hc e => b.kp c o hc (a.kp c o hc e), fun c e => b.ns c (a.ns c e), fun c e d => b.fr c (a.ns c e) (a.fr c e d)⟩
theorem Step.mono (a : Step W D H D1 H1) (h : ∀ b, W b → W' b) : Step W' D H D1 H1 :=
  ⟨a.dd, a.dh, fun c o hc e => a.kp c o (fun z => hc (h c z)) e, a.ns, a.fr⟩
theorem Step.any (a : Step NoW D H D1 H1) : Step W D H D1 H1 := a.mono fun _ z => z.elim
theorem same_new {p : Addr} {o : HO} (h : H p = none) : Same H (upd H p o) := fun b u e => by
  rw [upd_ne (ne_of_none e h)]
  exact e
theorem upd_ne_none {p b : Addr} {o : HO} (h : H b ≠ none) : upd H p o b ≠ none := by
  by_cases e : b = p
  · rw [e, upd_same]
    exact fun z => by cases z
  · rw [upd_ne e]
    exact h
/-- a new object, to stay -/
theorem Step.new {p : Addr} {o : HO} (s : Same D H) (h : H p = none) : Step W D H (upd D p o) (upd H p o) := by
  have hd : D p = none := s.free h
  refine ⟨same_new hd, fun b u e => ?_, fun b u _ e => same_new h b u e, fun b e => upd_ne_none e, fun b e d => ?_⟩
  · by_cases q : b = p
    · rw [q, upd_same] at e ⊢
      exact e
    · rw [upd_ne q] at e ⊢
      exact s b u e
  · have q : b ≠ p := fun z => e (z ▸ h)
    rw [upd_ne q]
    exact d
/-- a new object, not (yet) to stay -/
theorem Step.tmp {p : Addr} {o : HO} (s : Same D H) (h : H p = none) : Step W D H D (upd H p o) :=
  ⟨Same.refl D, s.trans (same_new h), fun b u _ e => same_new h b u e, fun b e => upd_ne_none e, fun _ _ d => d⟩
/-- an object that came behind the start is settled -/
theorem Step.settle {p : Addr} {o : HO} (a : Step W D H D1 H1) (h0 : H p = none) (h1 : H1 p = some o) (hd : D1 p = none) : Step W D H (upd D1 p o) H1 := by
  refine ⟨a.dd.trans (same_new hd), fun b u e => ?_, a.kp, a.ns, fun b e d => ?_⟩
  · by_cases q : b = p
    · rw [q, upd_same] at e
      rw [q, h1]
      exact e
    · rw [upd_ne q] at e
      exact a.dh b u e
  · have q : b ≠ p := fun z => e (z ▸ h0)
    rw [upd_ne q]
    exact a.fr b e d
/-- an object outside D that may be written (it is W's, or it came behind the start) changes -/
theorem Step.write {p : Addr} {o : HO} (a : Step W D H D1 H1) (hw : W p ∨ H p = none) (hd : D1 p = none) : Step W D H D1 (upd H1 p o) := by
  refine ⟨a.dd, fun b u e => ?_, fun b u hb e => ?_, fun b e => upd_ne_none (a.ns b e), a.fr⟩
  · have q : b ≠ p := fun z => by
      rw [z, hd] at e
      cases e
    rw [upd_ne q]
    exact a.dh b u e
  · have q : b ≠ p := fun z => by
      rcases hw with w | w
      · exact hb (z ▸ w)
      · rw [z, w] at e
        cases e
    rw [upd_ne q]
    exact a.kp b u hb e
theorem Step.free {p : Addr} (a : Step W D H D1 H1) (h : H1 p = none) : H p = none := by
  cases e : H p with
  | none => rfl
  | some o => exact absurd h (a.ns p (by rw [e]; exact fun z => by cases z))
theorem Step.dfree {p : Addr} (a : Step W D H D1 H1) (h : H1 p = none) : D1 p = none := a.dh.free h
end

/-! ### data -/
theorem sqT_mono {K : PySem.W.Frag} {D D' : Hp} {a : Addr} {xs : List V} (e : Same D D') (h : SqT K D a xs) : SqT K D' a xs := by
  rcases h with (h | ⟨o, h⟩) | h
  · exact .inl (.inl (e _ _ h))
  · exact .inl (.inr ⟨o, e _ _ h⟩)
  · exact .inr h
mutual
theorem dp_mono {K : PySem.W.Frag} {D D' : Hp} (e : Same D D') : ∀ (d : PyData) (v : V), Dp K D v d → Dp K D' v d
  | .none, _, h => by cases h; exact .non
  | .bool _, _, h => by cases h; exact .bl _
  | .int _, _, h => by cases h; exact .int _
  | .str _, _, h => by cases h; exact .str _
  | .list ds, _, h => by
    cases h with
    | lst h1 h2 => exact .lst (e.seq h1) (dp_monoAll e ds _ h2)
  | .tuple ds, _, h => by
    cases h with
    | tup h1 h2 => exact .tup (sqT_mono e h1) (dp_monoAll e ds _ h2)
  | .dict _, _, h => by cases h
theorem dp_monoAll {K : PySem.W.Frag} {D D' : Hp} (e : Same D D') : ∀ (ds : List PyData) (vs : List V), DpAll K D vs ds → DpAll K D' vs ds
  | [], _, h => by cases h; exact .nil
  | d :: ds, _, h => by
    cases h with
    | cons h1 h2 => exact .cons (dp_mono e d _ h1) (dp_monoAll e ds _ h2)
end
section
variable {K : PySem.W.Frag} {D : Hp}
theorem dpAll_get : ∀ {vs : List V} {ds : List PyData} {i : Nat} {v : V}, DpAll K D vs ds → vs[i]? = some v → ∃ d, ds[i]? = some d ∧ Dp K D v d
  | _, _, _, _, .nil, e => by simp at e
  | _, _, 0, _, .cons r _, e => by simp at e; subst e; exact ⟨_, rfl, r⟩
  | _, _, i + 1, v, .cons _ t, e => by
    obtain ⟨d, h1, h2⟩ := dpAll_get (i := i) (v := v) t (by simpa using e)
    exact ⟨d, by simpa using h1, h2⟩
theorem dpAll_at : ∀ {vs : List V} {ds : List PyData} {i : Nat} {d : PyData}, DpAll K D vs ds → ds[i]? = some d → ∃ v, vs[i]? = some v ∧ Dp K D v d
  | _, _, _, _, .nil, e => by simp at e
  | _, _, 0, _, .cons r _, e => by simp at e; subst e; exact ⟨_, rfl, r⟩
  | _, _, i + 1, d, .cons _ t, e => by
    obtain ⟨v, h1, h2⟩ := dpAll_at (i := i) (d := d) t (by simpa using e)
    exact ⟨v, by simpa using h1, h2⟩
theorem dpAll_len : ∀ {vs : List V} {ds : List PyData}, DpAll K D vs ds → vs.length = ds.length
  | _, _, .nil => rfl
  | _, _, .cons _ t => congrArg Nat.succ (dpAll_len t)
theorem dpAll_app : ∀ {vs ws : List V} {ds es : List PyData}, DpAll K D vs ds → DpAll K D ws es → DpAll K D (vs ++ ws) (ds ++ es)
  | _, _, _, _, .nil, h => h
  | _, _, _, _, .cons r t, h => .cons r (dpAll_app t h)
theorem dpAll_one {v : V} {d : PyData} (h : Dp K D v d) : DpAll K D [v] [d] := .cons h .nil
theorem dpAll_ints : ∀ ns : List Int, DpAll K D (ns.map V.int) (ns.map PyData.int)
  | [] => .nil
  | n :: r => .cons (.int n) (dpAll_ints r)
theorem dpAll_bools : ∀ ns : List Bool, DpAll K D (ns.map V.bl) (ns.map PyData.bool)
  | [] => .nil
  | n :: r => .cons (.bl n) (dpAll_bools r)
theorem dpAll_strs : ∀ ns : List Str, DpAll K D (ns.map V.str) (ns.map PyData.str)
  | [] => .nil
  | n :: r => .cons (.str n) (dpAll_strs r)
theorem dpAll_ints_eq : ∀ {vs : List V} {ns : List Int}, DpAll K D vs (ns.map PyData.int) → vs = ns.map V.int
  | [], [], _ => rfl
  | [], _ :: _, h => by cases h
  | _ :: _, [], h => by cases h
  | v :: vs, n :: ns, h => by
    cases h with
    | cons h1 h2 =>
      cases h1
      rw [dpAll_ints_eq h2]
      rfl
theorem dpAll_bools_eq : ∀ {vs : List V} {ns : List Bool}, DpAll K D vs (ns.map PyData.bool) → vs = ns.map V.bl
  | [], [], _ => rfl
  | [], _ :: _, h => by cases h
  | _ :: _, [], h => by cases h
  | v :: vs, n :: ns, h => by
    cases h with
    | cons h1 h2 =>
      cases h1
      rw [dpAll_bools_eq h2]
      rfl
theorem dp_list {v : V} {ds : List PyData} (h : Dp K D v (.list ds)) : ∃ a vs, v = .ref a ∧ SqL K D a vs ∧ DpAll K D vs ds := by
  cases h with
  | lst h1 h2 => exact ⟨_, _, rfl, h1, h2⟩
theorem dp_tup {v : V} {ds : List PyData} (h : Dp K D v (.tuple ds)) : ∃ a vs, v = .ref a ∧ SqT K D a vs ∧ DpAll K D vs ds := by
  cases h with
  | tup h1 h2 => exact ⟨_, _, rfl, h1, h2⟩
theorem dp_int {v : V} {i : Int} (h : Dp K D v (.int i)) : v = .int i := by cases h; rfl
theorem dp_str {v : V} {i : Str} (h : Dp K D v (.str i)) : v = .str i := by cases h; rfl
theorem dp_bool {v : V} {i : Bool} (h : Dp K D v (.bool i)) : v = .bl i := by cases h; rfl
end

/-! ### the pen: p holds [the script's cells at q, taken, great]; n draws are left -/
structure PenAt (K : PySem.W.Frag) (D H : Hp) (p : Addr) (n : Nat) : Prop where
  out : D p = none
  ex : ∃ (q : Addr) (ns : List Int) (t g : Int), H p = some (.lst [.ref q, .int t, .int g]) ∧ SqL K D q (ns.map V.int) ∧ 0 ≤ t ∧ t + n ≤ 1000000
theorem PenAt.less {K : PySem.W.Frag} {D H : Hp} {p : Addr} {n m : Nat} (h : PenAt K D H p n) (hm : m ≤ n) : PenAt K D H p m := by
  obtain ⟨o, q, ns, t, g, h1, h2, h3, h4⟩ := h
  exact ⟨o, q, ns, t, g, h1, h2, h3, by omega⟩
theorem PenAt.there {K : PySem.W.Frag} {D H : Hp} {p : Addr} {n : Nat} (h : PenAt K D H p n) : H p ≠ none := by
  obtain ⟨o, q, ns, t, g, h1, h2, h3, h4⟩ := h
  rw [h1]
  exact fun z => by cases z
/-- a step that does not write the pen leaves it -/
theorem PenAt.keep {K : PySem.W.Frag} {W : Addr → Prop} {D H D' H' : Hp} {p : Addr} {n : Nat} (h : PenAt K D H p n) (s : Step W D H D' H') (hw : ¬ W p) : PenAt K D' H' p n := by
  have hn := h.there
  obtain ⟨o, q, ns, t, g, h1, h2, h3, h4⟩ := h
  exact ⟨s.fr p hn o, q, ns, t, g, s.kp p _ hw h1, s.dd.seq h2, h3, h4⟩
/-- draw(pen, many): a number below many -/
def spDraw (K : PySem.W.Frag) : Sp := fun vs H Q _ => ∃ (D : Hp) (p : Addr) (m : Int) (n : Nat), vs = [.ref p, .int m] ∧ Same D H ∧ PenAt K D H p (n + 1) ∧ 1 ≤ m ∧ m < 1000000 ∧
  ∀ (H' : Hp) (r : Int), Step (· = p) D H D H' → PenAt K D H' p n → 0 ≤ r → r < m → Q (.int r) H'

/-! ### calls by name -/
structure CalX (P : Program) (w : World) (K : PySem.W.Frag) (mg : Str → Option Value) (base : Heap) (CX : CXT) (k : Nat) (x : Str) (sp : Sp) : Prop where
  ex : ∃ (f : Addr) (fd : FuncData) (ps : List Str), FnOk P w K mg base CX k f fd ps sp ∧ mg x = some (.ref f) ∧ PySem.W.keepIn K (.ref f) = true ∧ Binds K fd ps []
section
variable {X : Cx} {CX : CXT} {k j : Nat} {sp : Sp} {E : XK} {x : Str} {p pos : Pos} {e : Expr} {es : List Expr} {t : TA}
theorem pe_cX (c : CalX X.prog X.w X.K X.mg X.base CX k x sp) (hr : Room j X.A) (hk : k ≤ j) (hg : Gl X x) (hx : Passes CX X E) (ha : PA X (e :: es) t)
    (hdb : (x == ("__debug__" : Str)) = false := by decide) (he : starEach (e :: es) X.env = (false, eval e X.env) :: starEach es X.env := by rfl) (hpl : (backTo pos (starEach es X.env)).any (·.1) = false := by rfl) :
    PE X (.Call (.Name x p) (e :: es) [] pos) (tCall sp [] E t) := by
  obtain ⟨f, fd, ps, F, g, kp, b⟩ := c.ex
  exact pe_call F (hr.mono hk) hg g kp b .nil hx ha hdb he hpl
end
end Rg

set_option Elab.async false
set_option linter.all false
set_option maxRecDepth 100000
set_option maxHeartbeats 2000000
namespace Rg
open PySem PySem.Spec PyProof.Rows L2
/-! ### enumerate of a text -/
def Ites (z : Str) : It :=
  ⟨fun i _ => i < z.cps.size, fun i H v H' => ∃ T c, v = .ref T ∧ H T = none ∧ H' = upd H T (.tup [.int (i : Nat), .str ⟨#[c]⟩]) ∧ z.cps[i]? = some c, fun i _ => i = z.cps.size⟩
theorem strTy (x : Str) : strIterType x = "str_ascii_iterator" ∨ strIterType x = "str_iterator" := by
  unfold strIterType
  split
  · exact .inl rfl
  · exact .inr rfl
theorem drawsStr {P : Program} {w : World} {A : Around} (hh : A.handled = none) (it : Addr) (x : Str) (t : Tok) {ty : String} (hty : ty = "str_ascii_iterator" ∨ ty = "str_iterator") :
    Draws P w A it [it] x.cps.size (fun i v => ∃ c u, x.cps[i]? = some c ∧ v = .str ⟨#[c]⟩ u) (fun i h => h.IsStrIter it ty x t i) := by
  rcases hty with rfl | rfl
  · exact Draws.strAscii hh it x t
  · exact Draws.strWide hh it x t
theorem turn_enumS {P : Program} {w : World} {K : PySem.W.Frag} {elts : List Expr} {kk : Nat} {tpos : Pos} (z : Str) (t : Tok) (ty : String) (hty : ty = "str_ascii_iterator" ∨ ty = "str_iterator") (e it : Addr) :
    Turn P w K (.Tuple elts kk tpos) (Ites z) [e, it] e (fun i h => (∃ old, IsEnum h e it ((i : Nat) : Int) old) ∧ h.IsStrIter it ty z t i ∧ e ≠ it) where
  mem := List.mem_cons_self
  obj := by
    rintro i h ⟨⟨old, he⟩, ⟨o, ho, hc, hd⟩, _⟩ b hb
    have hb' : b = e ∨ b = it := by simpa using hb
    rcases hb' with rfl | rfl
    · exact ⟨_, he, fun v q => nomatch q⟩
    · exact ⟨o, ho, fun v q => by rw [hd] at q; cases q⟩
  keep := by
    rintro i h h' ⟨⟨old, he⟩, ⟨o, ho, r⟩, hne⟩ kk
    exact ⟨⟨old, kk e (by simp) _ he⟩, ⟨o, kk it (by simp) o ho, r⟩, hne⟩
  item := by
    intro X hP hw hK hc i pins s σ H E I hf st hg
    subst hP hw hK
    obtain ⟨⟨old, he⟩, hit, hne⟩ := st
    have hel : e < s.heap.objs.size := Heap.lt_size he
    have hil : it < s.heap.objs.size := by
      obtain ⟨_, q, _⟩ := hit
      exact Heap.lt_size q
    have dr := drawsStr (P := X.prog) (w := X.w) (A := X.A.in1) (show X.A.in1.handled = none from I.ok.hd hc) it z t hty
    refine wpAny_pyNext_enum_itemD dr he hit hg hne (by simpa using hne) fun x h' tk hx ho hit' hT hsz hk => ?_
    obtain ⟨c, u, hcx, rfl⟩ := hx
    refine ⟨_, rfl, wpAny_letOwnedTupleGo_enum (s := { s with heap := h', toks := tk + 1 }) ho fun h2 he2 sb => ?_⟩
    have hT2 := (sb.2 _ (Nat.ne_of_gt hel)).trans hT
    have obj : ObjOk X.prog X.w (upd H s.heap.objs.size (.tup [.int (i : Nat), .str ⟨#[c]⟩])) h2 s.heap.objs.size (.tup [.int (i : Nat), .str ⟨#[c]⟩]) :=
      ⟨(by show 2 ≤ sizeLine; decide), [.int i tk, .str ⟨#[c]⟩ u], .cons ⟨tk, rfl⟩ (.cons ⟨u, rfl⟩ .nil), _, hT2, rfl, _, rfl⟩
    have kept : ∀ b o, b ∉ [e, it] → s.heap.get? b = some o → h2.get? b = some o := fun b o hb q => by
      have h1 : b ≠ e := fun z => hb (by simp [z])
      have h3 : b ≠ it := fun z => hb (by simp [z])
      exact (sb.2 b h1).trans (hk b o h1 h3 q)
    have J := I.turnedNew (t' := tk + 1) kept hf (Nat.le_refl _) obj
    refine ⟨.ref s.heap.objs.size, _, J, rfl, ⟨_, c, rfl, I.hok.fresh (Nat.le_refl _), rfl, hcx⟩, ⟨⟨.str ⟨#[c]⟩ u, ?_⟩, ?_, hne⟩, fun b hb => ?_⟩
    · have e1 : ((i + 1 : Nat) : Int) = (i : Int) + 1 := by omega
      rw [e1]
      exact he2
    · obtain ⟨o, ho', r⟩ := hit'
      exact ⟨o, (sb.2 it (Ne.symm hne)).trans ho', r⟩
    · have hlt : b < s.heap.objs.size := by
        have hb' : b = e ∨ b = it := by simpa using hb
        rcases hb' with rfl | rfl
        · exact hel
        · exact hil
      rw [upd_ne (Nat.ne_of_lt hlt)]
      exact (hf b hb).1
  done := by
    intro X hP hw hK hc i pins s σ H E I hf st hg
    subst hP hw hK
    obtain ⟨⟨old, he⟩, hit, hne⟩ := st
    obtain ⟨f0, f1, f2, f3, f4, f5⟩ := hf it (by simp)
    have dr := drawsStr (P := X.prog) (w := X.w) (A := X.A.in1) (show X.A.in1.handled = none from I.ok.hd hc) it z t hty
    have hi : i = z.cps.size := hg
    subst hi
    exact wpAny_pyNext_enum_endD dr he hit fun h' eb => ⟨rfl, I.turned (t' := s.toks) (fun b o hb q => eb b o hb q) f0 f1 f3 f4 f5⟩
  self := fun A i s Q E st h => let ⟨⟨_, he⟩, _⟩ := st; wpAny_pyIter_enum he h
def iEnumS (ta : TA) : TI := fun σ H R => ta σ H fun vs H1 => ∃ z : Str, vs = [.str z] ∧ R (Ites z) H1
theorem pi_enumS {X : Cx} {e : Expr} {ta : TA} {p pos tpos : Pos} {elts : List Expr} {kk : Nat} (hg : Gl X "enumerate") (hm : X.mg "enumerate" = none) (ha : PA X [e] ta) (hs : starEach [e] X.env = [(false, eval e X.env)] := by rfl) :
    PI X (.Tuple elts kk tpos) (.Call (.Name "enumerate" p) [e] [] pos) (iEnumS ta) := by
  refine ⟨fun pins s σ H R I h => ?_⟩
  refine Call_ (ld_blt I hg hm boot_enumerate (PyProof.Rows.callWith_type1 (thn (ha.run pos pins s σ H _ I h) fun us s1 hh => ?_) hs rfl))
  obtain ⟨vs, H1, I1, r1, z, rfl, q⟩ := hh
  cases r1 with
  | cons r rr =>
    cases rr
    obtain ⟨t, rfl⟩ := r
    refine call_enumerate_str fun h' he hit hsz hk => wpAny_pyIter_enum he ?_
    have I2 : Inv X pins σ H1 { s1 with heap := h' } := I1.kept (t' := s1.toks) hk
    refine ⟨s1.heap.objs.size + 1, [s1.heap.objs.size + 1, s1.heap.objs.size], _, _, H1, rfl, I2, turn_enumS z t (strIterType z) (strTy z) (s1.heap.objs.size + 1) s1.heap.objs.size, ⟨⟨.none, he⟩, hit, Nat.succ_ne_self _⟩, fun b hb => ?_, q⟩
    have hb' : b = s1.heap.objs.size + 1 ∨ b = s1.heap.objs.size := by simpa using hb
    have hle : s1.heap.objs.size ≤ b := by
      rcases hb' with z | z <;> rw [z]
      · exact Nat.le_add_right _ _
      · exact Nat.le_refl _
    exact I1.fpOk hle (I1.hok.fresh hle)
theorem walk_enumS {z : Str} : Walk (Ites z) z.cps.size (fun _ => True) (fun i H v H' => ∃ T c, v = .ref T ∧ H T = none ∧ H' = upd H T (.tup [.int (i : Nat), .str ⟨#[c]⟩]) ∧ z.cps[i]? = some c) :=
  ⟨fun _ _ hi _ => hi, fun _ _ => rfl, fun _ _ _ _ _ _ y => y⟩
end Rg

set_option Elab.async false
set_option linter.all false
set_option maxRecDepth 100000
set_option maxHeartbeats 2000000
namespace Rg
open PySem PySem.Spec PyProof.Rows L2
/-! ### data that is shown: its depth, the length of its text -/
structure Sm (n c : Nat) (d : PyData) : Prop where
  dp : d.depth ≤ n
  sh : d.showable = true
  nd : d.hasDict = false
  ln : d.shown.length ≤ c
theorem Sm.mono {n c n' c' : Nat} {d : PyData} (h : Sm n c d) (hn : n ≤ n') (hc : c ≤ c') : Sm n' c' d := ⟨Nat.le_trans h.dp hn, h.sh, h.nd, Nat.le_trans h.ln hc⟩
theorem sm_none : Sm 0 5 .none := ⟨Nat.le_refl _, rfl, rfl, by decide +kernel⟩
theorem sm_bool (b : Bool) : Sm 0 5 (.bool b) := ⟨Nat.le_refl _, rfl, rfl, by cases b <;> decide +kernel⟩
theorem sm_int {i : Int} (h : i.natAbs.log2 < 1920) : Sm 0 1921 (.int i) :=
  ⟨Nat.le_refl _, by simp [PyData.showable, h], rfl, by simp only [PyData.shown]; exact PyProof.Rows.int_text_len_1921 h⟩
theorem log2_small {i : Int} (h0 : 0 ≤ i) (h : i < 1000000000) : i.natAbs.log2 < 1920 := by
  by_cases e : i.natAbs = 0
  · rw [e]
    decide
  · rw [Nat.log2_lt e]
    exact Nat.lt_of_lt_of_le (show i.natAbs < 2 ^ 30 by omega) (Nat.pow_le_pow_right (by decide) (by decide))
theorem sm_nat {i : Int} (h0 : 0 ≤ i) (h : i < 1000000000) : Sm 0 1921 (.int i) := sm_int (log2_small h0 h)
theorem sm_str {x : Str} {l : Nat} (h : ∀ c ∈ x.cps.toList, c < 16 ^ 8) (hl : x.length ≤ l) : Sm 0 (10 * l + 2) (.str x) := by
  refine ⟨Nat.le_refl _, rfl, rfl, ?_⟩
  have e := StrLaws.reprText_len x h
  simp only [PyData.shown]
  omega
theorem textFrom_le : ∀ (ts : List Str) (k : Nat) (acc : Str), (textFrom k acc ts).length ≤ acc.length + piled ts
  | [], _, _ => Nat.le_add_right _ _
  | t :: r, k, acc => by
    have ih := textFrom_le r (k + 1) (acc ++ (if k > 0 then ", " else "" : String) ++ t)
    have e2 : ((if k > 0 then ", " else "" : String) : Str).length ≤ 2 := by split <;> decide +kernel
    show (textFrom (k + 1) (acc ++ (if k > 0 then ", " else "" : String) ++ t) r).length ≤ _
    rw [strLen_append, strLen_append] at ih
    rw [piled_cons]
    omega
theorem listText_le (ts : List Str) : (listText ts).length ≤ piled ts + 2 := by
  have h := textFrom_le ts 0 "["
  have e1 : (("[" : String) : Str).length = 1 := rfl
  have e2 : (("]" : String) : Str).length = 1 := rfl
  unfold listText
  rw [strLen_append, e2]
  omega
theorem tupleText_le (ts : List Str) : (tupleText ts).length ≤ piled ts + 3 := by
  have e3 : (((if ts.length == 1 then ",)" else ")" : String) : Str)).length ≤ 2 := by split <;> decide +kernel
  have e1 : ((("(" : String) : Str)).length = 1 := rfl
  unfold tupleText
  rw [strLen_append, strLen_append, e1]
  cases ts with
  | nil =>
    have e4 : (Str.join ", " []).length = 0 := by decide +kernel
    rw [e4]
    omega
  | cons t r =>
    have := join_length_add (t :: r) (by simp)
    omega
theorem sm_all {n c : Nat} : ∀ {ds : List PyData}, (∀ d ∈ ds, Sm n c d) → PyData.depthAll ds ≤ n ∧ PyData.showableAll ds = true ∧ PyData.hasDictAll ds = false ∧ piled (PyData.shownAll ds) ≤ ds.length * (c + 2)
  | [], _ => ⟨Nat.zero_le _, rfl, rfl, Nat.zero_le _⟩
  | d :: r, h => by
    obtain ⟨h1, h2, h3, h4⟩ := h d List.mem_cons_self
    obtain ⟨i1, i2, i3, i4⟩ := sm_all (ds := r) fun x hx => h x (List.mem_cons_of_mem _ hx)
    refine ⟨Nat.max_le.mpr ⟨h1, i1⟩, ?_, ?_, ?_⟩
    · show (PyData.showable d && PyData.showableAll r) = true
      rw [h2, i2] <;> rfl
    · show (PyData.hasDict d || PyData.hasDictAll r) = false
      rw [h3, i3] <;> rfl
    · show piled (PyData.shown d :: PyData.shownAll r) ≤ _
      rw [piled_cons, List.length_cons, Nat.add_mul]
      omega
theorem sm_list {n c : Nat} {ds : List PyData} (h : ∀ d ∈ ds, Sm n c d) : Sm (n + 1) (ds.length * (c + 2) + 3) (.list ds) := by
  obtain ⟨i1, i2, i3, i4⟩ := sm_all h
  refine ⟨?_, i2, i3, ?_⟩
  · show PyData.depthAll ds + 1 ≤ n + 1
    omega
  · have e := listText_le (PyData.shownAll ds)
    simp only [PyData.shown]
    omega
theorem sm_tup {n c : Nat} {ds : List PyData} (h : ∀ d ∈ ds, Sm n c d) : Sm (n + 1) (ds.length * (c + 2) + 3) (.tuple ds) := by
  obtain ⟨i1, i2, i3, i4⟩ := sm_all h
  refine ⟨?_, i2, i3, ?_⟩
  · show PyData.depthAll ds + 1 ≤ n + 1
    omega
  · have e := tupleText_le (PyData.shownAll ds)
    simp only [PyData.shown]
    omega
/-- repr of data -/
def rRepr (K : PySem.W.Frag) : List V → Hp → VK → Prop := fun xs H Q => ∃ (v : V) (d : PyData), xs = [v] ∧ Dp K H v d ∧ Sm 60 10000000 d ∧ Q (.str d.shown) H
theorem call_reprD {X : Cx} (hg : X.A.guards = some []) (hu : X.A.units + 64 < cLine) : CallR X (.builtin "repr") (rRepr X.K) := by
  intro pins s σ H xs us Q I r h
  obtain ⟨v, d, rfl, hd, sm, q⟩ := h
  cases r with
  | cons r1 r2 =>
    cases r2
    rename_i u
    obtain ⟨as, rd⟩ := Dp.reads I d v u hd r1
    have hsz : d.shown.length ≤ sizeLine := Nat.le_trans sm.ln (by decide)
    have fin : ∀ {h' : Heap} {t tk : Tok}, (∀ b o, s.heap.get? b = some o → h'.get? b = some o) → EP X pins σ Q (.str d.shown t) { s with heap := h', toks := tk } := fun {h' t tk} hk => ⟨.str d.shown, H, I.kept (t' := tk) hk, ⟨t, rfl⟩, q⟩
    cases hd with
    | non =>
      obtain rfl : u = Value.none := r1
      exact PySem.P.repr_of_none (fin (h' := s.heap) fun _ _ e => e)
    | bl b =>
      obtain rfl : u = Value.bool b := r1
      exact PySem.P.repr_of_bool (fin (h' := s.heap) fun _ _ e => e)
    | int i =>
      obtain ⟨t, rfl⟩ := r1
      exact PySem.P.repr_of_int (by simpa [PyData.showable] using sm.sh) (fin (h' := s.heap) fun _ _ e => e)
    | str x =>
      obtain ⟨t, rfl⟩ := r1
      exact PySem.P.repr_of_str (fin (h' := s.heap) fun _ _ e => e) hsz
    | lst h1 h2 =>
      obtain rfl := r1
      have hdp := sm.dp
      exact repr_of_reads' rd sm.sh (fun z => by rw [sm.nd] at z; cases z) hg (by omega) (fun _ _ e => e) (fun h' t tk hk => fin hk) hsz
    | tup h1 h2 =>
      obtain rfl := r1
      have hdp := sm.dp
      exact repr_of_reads' rd sm.sh (fun z => by rw [sm.nd] at z; cases z) hg (by omega) (fun _ _ e => e) (fun h' t tk hk => fin hk) hsz
end Rg

set_option Elab.async false
set_option linter.all false
set_option maxRecDepth 100000
set_option maxHeartbeats 2000000
namespace Rg
open PySem PySem.Spec PyProof.Rows L2
/-! ### promises of defs that show data: nothing is being shown around them -/
structure FnG (P : Program) (w : World) (K : PySem.W.Frag) (mg : Str → Option Value) (base : Heap) (CX : CXT) (k : Nat) (f : Addr) (fd : FuncData) (ps : List Str) (sp : Sp) : Prop where
  len : ∀ vs H Q E, sp vs H Q E → vs.length = ps.length
  run : ∀ (A : Around) (outer : List Env) (s : Shared) (H : Hp) (args : Args) (us : List Value) (vs : List V) (Q : VK) (E : XK),
    Room k A → A.guards = some [] → Env0 P w K mg base A outer s H → BindsTo s fd args (ps.zip us) → Vals vs us → sp vs H Q E →
    codeAny (model P w) A (.call (.ref f) args) (CR CX outer P w H s Q E) s
theorem FnG.of {P : Program} {w : World} {K : PySem.W.Frag} {mg : Str → Option Value} {base : Heap} {CX : CXT} {k : Nat} {f : Addr} {fd : FuncData} {ps : List Str} {sp : Sp}
    (F : FnOk P w K mg base CX k f fd ps sp) : FnG P w K mg base CX k f fd ps sp :=
  ⟨F.len, fun A outer s H args us vs Q E hr _ e0 hb r h => F.run A outer s H args us vs Q E hr e0 hb r h⟩
section
variable {P : Program} {w : World} {K : PySem.W.Frag} {mg : Str → Option Value} {base : Heap}
theorem fn_ofG {CX : CXT} {k : Nat} {f : Addr} {name qual : Str} {params : Arguments} {body : List Stmt} {scope : Scope} {dV kV doc pm cdv ct oc : Value} {an od : Option Addr} {osl : Array (Option Value)} {N ps : List Str} {sp : Sp}
    (lk : K.lookup f = some ⟨oc, od, .func (PySem.W.fnOf name qual params body scope dV kV doc pm an cdv ct), osl⟩)
    (hcd : PySem.W.codeIn K cdv qual = true) (S : FnScope N ps scope) (len : ∀ vs H Q E, sp vs H Q E → vs.length = ps.length)
    (hbody : ∀ (A : Around) (outer : List Env) (s : Shared) (H : Hp) (vs : List V) (Q : VK) (E : XK), Room k (A.deeper (envOfC qual scope s.heap.objs.size f cdv)) → A.guards = some [] → sp vs H Q E →
      ∃ t, PSs (cxOf CX P w K mg base N qual scope f cdv A outer s H E) body t ∧ t { nx := fun _ H' => Q .non H', rt := Q } (start N vs) H) :
    FnG P w K mg base CX (k + 1) f (PySem.W.fnOf name qual params body scope dV kV doc pm an cdv ct) ps sp := by
  constructor
  · exact len
  · intro A outer s H args us vs Q E hr hgd e0 hb r hsp
    have kin : K.In s.heap := e0.mod.kin.keeps fun b o q => (e0.bs b o q).1
    have nol : s.heap.NoLimit := e0.mod.nolimit.keeps fun b o q => (e0.bs b o q).1
    have kinds : ∀ y ∈ ps.zip us, scope.names.lookup y.1 = some .local ∨ (scope.names.lookup y.1 = some .cell ∧ ((cellsFrom (s.heap.objs.size + 1) scope.names []).lookup y.1).isSome = true) := by
      rintro ⟨n, v⟩ hy
      have hp := S.par n (List.of_mem_zip hy).1
      exact hp.elim Or.inl fun c => Or.inr ⟨c, PySem.W.cellsFrom_some _ _ _ (.inl c)⟩
    refine codeAny_call_function hr.depth (kin _ _ lk) rfl S.co S.gen rfl (PySem.W.codeRec_of kin hcd) (hb _ _ _ _ ?_)
    refine wpAny_newFunctionEnv_cells S.kind kinds fun env he s1 x => ?_
    subst he
    refine ⟨nol.keeps x.toInCall.keep, codeAny_func ?_⟩
    obtain ⟨t, ht, hq⟩ := hbody A outer s H vs Q E (hr.deeper _) hgd hsp
    have J := inv_start (CX := CX) (E := E) S hr.hd e0 (len _ _ _ _ hsp) r x
    refine wpAny_mono (ht.run [] s1 _ H _ J hq) ?_ fun e s' z => z
    intro fl s' z
    cases fl with
    | ret u =>
      obtain ⟨v, σ', H', J', rv, q⟩ := z
      exact ⟨v, H', J'.os, J'.bare, J'.base, J'.hok, rv, q⟩
    | next =>
      obtain ⟨σ', H', J', q⟩ := z
      exact ⟨.non, H', J'.os, J'.bare, J'.base, J'.hok, rfl, q⟩
    | brk =>
      obtain ⟨_, _, _, q⟩ := z
      exact q.elim
    | cont =>
      obtain ⟨_, _, _, q⟩ := z
      exact q.elim
theorem FunD.okG {CX : CXT} {x qual : Str} {params : Arguments} {body : List Stmt} {scope : Scope} {dvs : List V} {kws : List (Str × V)} {f : Addr} {fd : FuncData} {N ps : List Str} {k : Nat} {sp : Sp}
    (F : FunD K x qual params body scope dvs kws f fd) (S : FnScope N ps scope) (len : ∀ vs H Q E, sp vs H Q E → vs.length = ps.length)
    (hbody : ∀ (cdv : Value) (A : Around) (outer : List Env) (s : Shared) (H : Hp) (vs : List V) (Q : VK) (E : XK), Room k (A.deeper (envOfC qual scope s.heap.objs.size f cdv)) → A.guards = some [] → sp vs H Q E →
      ∃ t, PSs (cxOf CX P w K mg base N qual scope f cdv A outer s H E) body t ∧ t { nx := fun _ H' => Q .non H', rt := Q } (start N vs) H) :
    FnG P w K mg base CX (k + 1) f fd ps sp := by
  obtain ⟨oc, od, dV, kV, doc, pm, an, cdv, ct, osl, rfl, lk, hcd, _, _⟩ := F.ex
  exact fn_ofG lk hcd S len fun A outer s H vs Q E hr hgd hsp => hbody cdv A outer s H vs Q E hr hgd hsp
end
structure CalG (P : Program) (w : World) (K : PySem.W.Frag) (mg : Str → Option Value) (base : Heap) (CX : CXT) (k : Nat) (x : Str) (sp : Sp) : Prop where
  ex : ∃ (f : Addr) (fd : FuncData) (ps : List Str), FnG P w K mg base CX k f fd ps sp ∧ mg x = some (.ref f) ∧ PySem.W.keepIn K (.ref f) = true ∧ Binds K fd ps []
section
variable {X : Cx} {CX : CXT} {k j : Nat} {sp : Sp} {E : XK} {x : Str} {p pos : Pos} {e : Expr} {es : List Expr} {t : TA}
theorem pe_cG (c : CalG X.prog X.w X.K X.mg X.base CX k x sp) (hgd : X.A.guards = some []) (hr : Room j X.A) (hk : k ≤ j) (hg : Gl X x) (hx : Passes CX X E) (ha : PA X (e :: es) t)
    (hdb : (x == ("__debug__" : Str)) = false := by decide) (he : starEach (e :: es) X.env = (false, eval e X.env) :: starEach es X.env := by rfl) (hpl : (backTo pos (starEach es X.env)).any (·.1) = false := by rfl) :
    PE X (.Call (.Name x p) (e :: es) [] pos) (tCall sp [] E t) := by
  obtain ⟨f, fd, ps, F, g, kp, b⟩ := c.ex
  constructor
  intro pins s σ H Q I h
  refine wpAny_Call_Name_kw (ld_glob I hg g ?_ hdb)
  refine PySem.W.callWith_K (h₀ := X.base) I.ok.mod.kin kp (thn (ha.run pos pins s σ H _ I h) fun us s1 z => ?_) he hpl
  obtain ⟨vs, H1, I1, r, q⟩ := z
  refine ⟨I1.kIn, ?_⟩
  rw [List.append_nil] at q
  have hl : us.length = ps.length := r.length.symm.trans (F.len _ _ _ _ q)
  have bt := b s1 us I1.kIn (by rw [List.append_nil]; exact hl)
  rw [List.append_nil] at bt
  refine wpAny_call (codeAny_mono (F.run X.A X.stack s1 H1 ⟨us, []⟩ us vs Q E (hr.mono hk) hgd I1.env0 bt r q) fun o s' hq => ?_)
  cases o with
  | error e => exact hx pins σ H1 s1 e s' I1 hq
  | ok fl =>
    cases fl with
    | ret u => exact I1.after hq
    | next => exact hq.elim
    | brk => exact hq.elim
    | cont => exact hq.elim
end
/-! ### the end: the law's call, nothing shown around it -/
theorem law_callG {P : Program} {w : World} {K : PySem.W.Frag} {mg mb : Str → Option Value} {k : Nat} {fa a : Addr} {fd : FuncData} {x : Str} {sp : Sp} {s1 : Shared} {vs : List Value} {ns : List Int}
    (KX : K.In s1.heap) (hns : s1.heap.Ns mainGlobals mg) (hb : s1.heap.Ns builtinsNs mb) (hbb : ∀ y : Str, y ≠ "__name__" → mb y = bootBuiltins y) (hlim : s1.heap.NoLimit) (hg : s1.gens = #[])
    (ha : s1.heap.get? a = some { cls := .type "list", data := .seq vs.toArray }) (hi : IntsAre vs ns) (hl : ns.length ≤ sizeLine) (hr : Room k callerA)
    (F : ∀ base : Heap, K.In base → base.Ns mainGlobals mg → FnG P w K mg base CX0 k fa fd [x] sp) (hbind : ∀ (s : Shared) (u : Value), BindsTo s fd ⟨[u], []⟩ [(x, u)])
    (hsp : ∀ H : Hp, Only H → SqL K H a (ns.map V.int) → sp [.ref a] H (fun v _ => v = .bl true) fun _ _ _ => False) :
    codeAny (model P w) callerA (.call (.ref fa) ⟨[.ref a], []⟩) (fun r s' => r = .ok (.ret (.bool true)) ∧ OldK s1.heap s'.heap ∧ s'.os = s1.os ∧ AllBare s'.gens) s1 := by
  have rv := vals_ints hi
  have lenV := hi.length
  have main : ∀ H : Hp, Only H → SqL K H a (ns.map V.int) → HOk P w H s1.heap → (∀ b, H b ≠ none → b = a ∧ K.lookup a = none) →
      codeAny (model P w) callerA (.call (.ref fa) ⟨[.ref a], []⟩) (fun r s' => r = .ok (.ret (.bool true)) ∧ OldK s1.heap s'.heap ∧ s'.os = s1.os ∧ AllBare s'.gens) s1 := by
    intro H hO hS hok hA
    have free : ∀ {b : Addr} {o : Obj}, s1.heap.get? b = some o → (∀ its n, o.data ≠ .seq its n) → H b = none := by
      intro b o e nd
      cases q : H b with
      | none => rfl
      | some u =>
        obtain ⟨rfl, _⟩ := hA b (by rw [q]; exact fun z => by cases z)
        rw [ha] at e
        cases e
        exact absurd rfl (nd _ _)
    have inB : ∀ {b : Addr} {o : Obj}, s1.heap.get? b = some o → H b = none → (hidT s1.heap H).get? b = some o := fun e n => hidT_get e n
    have nsB : ∀ {b : Addr} {m : Str → Option Value}, s1.heap.Ns b m → (hidT s1.heap H).Ns b m := by
      rintro b m ⟨o, es, ep, e, d, r⟩
      exact ⟨o, es, ep, inB e (free e fun its n z => by rw [d] at z; cases z), d, r⟩
    have KB : K.In (hidT s1.heap H) := by
      intro b o e
      refine inB (KX b o e) ?_
      cases q : H b with
      | none => rfl
      | some u =>
        obtain ⟨rfl, z⟩ := hA b (by rw [q]; exact fun z => by cases z)
        rw [z] at e
        cases e
    have mod : Mod K mg (hidT s1.heap H) := by
      obtain ⟨mc, h1, h2⟩ := hlim
      exact ⟨KB, nsB hns, ⟨mb, nsB hb, hbb⟩, mc, nsB h1, h2⟩
    have e0 : Env0 P w K mg (hidT s1.heap H) callerA [] s1 H :=
      { frames := rfl, mod := mod, bs := fun b o e => of_hidT e, bsz := Nat.le_of_eq (hidT_size _ _), funs := trivial, frf := fun b z => absurd (show b ∈ ([] : List Addr) from z) (by simp), hok := hok, bare := .of_eq hg }
    refine codeAny_mono ((F _ KB (nsB hns)).run callerA [] s1 H ⟨[.ref a], []⟩ [.ref a] [.ref a] _ _ hr rfl e0 (hbind s1 (.ref a)) (.cons rfl .nil) (hsp H hO hS)) ?_
    intro o s' h
    cases o with
    | error e => exact h.elim
    | ok fl =>
      cases fl with
      | next => exact h.elim
      | brk => exact h.elim
      | cont => exact h.elim
      | ret u =>
        obtain ⟨v, H', os, bare, un, hok', r', q⟩ := h
        obtain rfl : v = .bl true := q
        obtain rfl : u = Value.bool true := r'
        refine ⟨rfl, OldK.of_keep fun b ob e => ?_, os, bare⟩
        rcases hO b with z | ⟨o2, xs, z⟩
        · exact un.keep b ob e z (fun y => absurd (show b ∈ ([] : List Addr) from y) (by simp)) (by simp)
        · have e1 := (hok b _ z).1
          have e2 := (hok' b _ (un.frzs b o2 _ z)).1
          rw [e] at e1
          cases e1
          exact e2
  cases hk : K.lookup a with
  | some o =>
    have e := KX a o hk
    rw [ha] at e
    cases e
    refine main (fun _ => none) (fun _ => .inl rfl) (.inr ⟨_, vs.toArray, _, hk, rfl, rfl, rfl, ?_, ?_⟩) (fun b u z => ?_) fun b z => absurd rfl z
    · rw [List.size_toArray, lenV]
      exact hl
    · simpa using rv
    · exact nomatch (show (none : Option HO) = some u from z)
  | none =>
    let o0 : Obj := { cls := .type "list", data := .seq vs.toArray }
    let H0 : Hp := fun b => if b = a then some (.frz o0 (.lst (ns.map V.int))) else none
    have at0 : H0 a = some (.frz o0 (.lst (ns.map V.int))) := if_pos rfl
    have off0 : ∀ b, b ≠ a → H0 b = none := fun b hb => if_neg hb
    refine main H0 (fun b => ?_) (.inl (.inr ⟨o0, at0⟩)) (fun b u z => ?_) fun b z => ⟨?_, hk⟩
    · by_cases hb : b = a
      · exact .inr ⟨o0, _, hb ▸ at0⟩
      · exact .inl (off0 b hb)
    · by_cases hb : b = a
      · subst hb
        rw [at0] at z
        cases z
        exact ⟨ha, by rw [List.length_map]; exact hl, vs, _, rv, ha⟩
      · rw [off0 b hb] at z
        cases z
    · by_cases hb : b = a
      · exact hb
      · exact absurd (off0 b hb) z
theorem walk_ofG {l : PySem.W.OpenLaw} {n k : Nat} {q : Program} {loose : List Str} {XP : (Str → Option Value) → Heap → Prop} {YP : World → Heap → Prop} {d : DefRec} {x : Str}
    (hn : l.most = some n) (hn2 : n ≤ sizeLine) (hdf : d.params.defaults = []) (hr : Room k callerA)
    (F : ∀ (w : World) (mg : Str → Option Value) (fa : Addr) (h : Heap), YP w h → h.Ns mainGlobals mg → mg d.name = some (.ref fa) →
      ∃ (K : PySem.W.Frag) (fd : FuncData) (sp : Sp), K.In h ∧ (∀ (s : Shared) (u : Value), BindsTo s fd ⟨[u], []⟩ [(x, u)]) ∧
        (∀ (H : Hp) (a : Addr) (ns : List Int), ns.length ≤ n → Only H → SqL K H a (ns.map V.int) → sp [.ref a] H (fun v _ => v = .bl true) fun _ _ _ => False) ∧
        ∀ base : Heap, K.In base → base.Ns mainGlobals mg → FnG l.prog w K mg base CX0 k fa fd [x] sp) :
    PySem.W.WalkO q loose XP YP l.row.toRowW d [] (fun f vs => PySem.call f vs) := by
  refine Att.attach_call hn hdf ?_
  intro w s0 s1 mg mb fa o pm cd doc a vs ns G Y ho hd hcd hmg hobj hints hlen hg
  obtain ⟨K, fd, sp, KX, hb, hsp, hF⟩ := F w mg fa _ Y G.T.g hmg
  exact law_callG KX G.T.g G.T.b G.T.builtins G.T.nolimit hg hobj hints (Nat.le_trans hlen hn2) hr hF hb fun H hO hS => hsp H a ns hlen hO hS
end Rg

set_option Elab.async false
set_option linter.all false
set_option maxRecDepth 100000
set_option maxHeartbeats 2000000
namespace Rg
open PySem PySem.Spec PyProof.Rows L2
/-! ### methods of an own class by name; its special methods -/
structure MetX (P : Program) (w : World) (K : PySem.W.Frag) (mg : Str → Option Value) (base : Heap) (CX : CXT) (k : Nat) (C : Addr) (m : Str) (sp : Sp) : Prop where
  ex : ∃ (f : Addr) (fd : FuncData) (ps : List Str), Meth K C m f ∧ FnOk P w K mg base CX k f fd ps sp ∧ Binds K fd ps []
section
variable {X : Cx} {CX : CXT} {k j : Nat} {C f a : Addr} {fd : FuncData} {ps : List Str} {sp : Sp} {E : XK} {m : Str} {p pos apos : Pos} {o e : Expr} {es : List Expr} {ta tb : TE} {t : TA}
/-- the callee runs, one C level deeper -/
theorem run_fn1 {pins : List (Addr × Obj)} {σ : L2.St} {H : Hp} {s : Shared} {Q : VK} {us : List Value} {vs : List V} (F : FnOk X.prog X.w X.K X.mg X.base CX k f fd ps sp) (hr : Room (k + 1) X.A) (hb : Binds X.K fd ps []) (hx : Passes CX X E)
    (I : Inv X pins σ H s) (r : Vals vs us) (h : sp vs H Q E) : wpAny (model X.prog X.w) X.A.in1 (call (.ref f) us) (EP X pins σ Q) X.xe s := by
  have hl : us.length = ps.length := r.length.symm.trans (F.len _ _ _ _ h)
  have bt := hb s us I.kIn (by rw [List.append_nil]; exact hl)
  rw [List.append_nil] at bt
  refine wpAny_call (codeAny_mono (F.run X.A.in1 X.stack s H ⟨us, []⟩ us vs Q E hr.in1 I.env0.in1 bt r h) fun z s' hq => ?_)
  cases z with
  | error e => exact hx pins σ H s e s' I hq
  | ok fl =>
    cases fl with
    | ret u => exact I.after hq
    | next => exact hq.elim
    | brk => exact hq.elim
    | cont => exact hq.elim
theorem run_fn0 {pins : List (Addr × Obj)} {σ : L2.St} {H : Hp} {s : Shared} {Q : VK} {us : List Value} {vs : List V} (F : FnOk X.prog X.w X.K X.mg X.base CX k f fd ps sp) (hr : Room k X.A) (hb : Binds X.K fd ps []) (hx : Passes CX X E)
    (I : Inv X pins σ H s) (r : Vals vs us) (h : sp vs H Q E) : wpAny (model X.prog X.w) X.A (call (.ref f) us) (EP X pins σ Q) X.xe s :=
  run_fn F hr hb .nil hx I r (by rw [List.append_nil]; exact h)
theorem inst_of {pins : List (Addr × Obj)} {σ : L2.St} {H : Hp} {s : Shared} {dx : Addr} {fs : List (Str × V)} (I : Inv X pins σ H s) (ea : H a = some (.ins C dx fs)) : ∃ ox od, PySem.W.InstAt s.heap a ox C od := by
  obtain ⟨mA, O, _, _, _, _⟩ := ins_get I.hok ea
  obtain ⟨od, J, _⟩ := O.look
  exact ⟨_, _, J⟩
/-- len(o) -/
def rLenO (C : Addr) (sp : Sp) (E : XK) : List V → Hp → VK → Prop := fun xs H Q => ∃ a dx fs, xs = [.ref a] ∧ H a = some (.ins C dx fs) ∧ sp [.ref a] H (fun v H' => ∃ n : Int, v = .int n ∧ 0 ≤ n ∧ n < 2 ^ 63 ∧ Q (.int n) H') E
theorem call_lenO (c : MetX X.prog X.w X.K X.mg X.base CX k C "__len__" sp) (hr : Room j X.A) (hk : k + 1 ≤ j) (hx : Passes CX X E) : CallR X (.builtin "len") (rLenO C sp E) := by
  intro pins s σ H xs us Q I r h
  obtain ⟨f, fd, ps, hm, F, b⟩ := c.ex
  obtain ⟨a, dx, fs, rfl, ea, q⟩ := h
  cases r with
  | cons r1 r2 =>
    cases r2
    obtain rfl := r1
    obtain ⟨ox, od, J⟩ := inst_of I ea
    obtain ⟨mf, hf⟩ := I.fr
    refine PySem.W.len_K hf I.mod.kin J hm.at_ hm.fn (wpAny_mono (run_fn1 (vs := [.ref a]) F (hr.mono hk) b hx I (.cons rfl .nil) q) ?_ fun _ _ z => z)
    rintro u s' ⟨v, H', I', rv, n, rfl, h0, h1, q'⟩
    obtain ⟨t, rfl⟩ := rv
    exact ⟨⟨h0, h1⟩, .int n, H', I'.tok _, ⟨_, rfl⟩, q'⟩
/-- x in o, x not in o -/
def rInO (C : Addr) (sp : Sp) (E : XK) (neg : Bool) : R2 := fun x y H Q => ∃ a dx fs, y = .ref a ∧ H a = some (.ins C dx fs) ∧ sp [.ref a, x] H (fun v H' => ∃ b : Bool, v = .bl b ∧ Q (.bl (if neg then !b else b)) H') E
theorem op_inO (c : MetX X.prog X.w X.K X.mg X.base CX k C "__contains__" sp) (hr : Room j X.A) (hk : k ≤ j) (hx : Passes CX X E) : OpR X (compareOp .In) (rInO C sp E false) := by
  intro pins s σ H x y v u Q I rx ry h
  obtain ⟨f, fd, ps, hm, F, b⟩ := c.ex
  obtain ⟨a, dx, fs, rfl, ea, q⟩ := h
  obtain rfl := ry
  obtain ⟨ox, od, J⟩ := inst_of I ea
  obtain ⟨mf, hf⟩ := I.fr
  refine PySem.W.in_K hf I.mod.kin J hm.at_ hm.fn (wpAny_mono (run_fn0 (vs := [.ref a, x]) F (hr.mono hk) b hx I (.cons rfl (.cons rx .nil)) q) ?_ fun _ _ z => z)
  rintro u s' ⟨v, H', I', rv, b, rfl, q'⟩
  obtain rfl := rv
  exact wpAny_pure ⟨.bl b, H', I', rfl, q'⟩
theorem op_notInO (c : MetX X.prog X.w X.K X.mg X.base CX k C "__contains__" sp) (hr : Room j X.A) (hk : k ≤ j) (hx : Passes CX X E) : OpR X (compareOp .NotIn) (rInO C sp E true) := by
  intro pins s σ H x y v u Q I rx ry h
  obtain ⟨f, fd, ps, hm, F, b⟩ := c.ex
  obtain ⟨a, dx, fs, rfl, ea, q⟩ := h
  obtain rfl := ry
  obtain ⟨ox, od, J⟩ := inst_of I ea
  obtain ⟨mf, hf⟩ := I.fr
  refine PySem.W.notIn_K hf I.mod.kin J hm.at_ hm.fn (wpAny_mono (run_fn0 (vs := [.ref a, x]) F (hr.mono hk) b hx I (.cons rfl (.cons rx .nil)) q) ?_ fun _ _ z => z)
  rintro u s' ⟨v, H', I', rv, b, rfl, q'⟩
  obtain rfl := rv
  exact wpAny_pure ⟨.bl (!b), H', I', rfl, q'⟩
/-- o[x] -/
def rIxO (C : Addr) (sp : Sp) (E : XK) : R2 := fun x y H Q => ∃ a dx fs, x = .ref a ∧ H a = some (.ins C dx fs) ∧ sp [.ref a, y] H Q E
theorem pe_ixO {a b : Expr} (c : MetX X.prog X.w X.K X.mg X.base CX k C "__getitem__" sp) (hfn : ∀ f, Meth X.K C "__getitem__" f → PySem.W.fnIn X.K f = true) (hr : Room j X.A) (hk : k + 1 ≤ j) (hx : Passes CX X E) (ha : PE X a ta) (hb : PE X b tb)
    (hsl : ∀ x i, subscripted b true (.ref x) i = runValue (.builtin "lifetime.subscript" ⟨[.ref x, i], []⟩) := by intro _ _; rfl) : PE X (.Subscript a b pos) (tOp (rIxO C sp E) ta tb) := by
  refine ⟨fun pins s σ H Q I h => ?_⟩
  refine Subscript_ (binT ha hb I h fun v u s2 x y H2 I2 rx ry q => ?_)
  obtain ⟨f, fd, ps, hm, F, b⟩ := c.ex
  obtain ⟨a, dx, fs, rfl, ea, q⟩ := q
  obtain rfl := rx
  obtain ⟨ox, od, J⟩ := inst_of I2 ea
  obtain ⟨mf, hf⟩ := I2.fr
  exact PySem.W.sub_K hf I2.mod.kin J hm.at_ (hfn f hm) hm.fn (run_fn1 (vs := [.ref a, y]) F (hr.mono hk) b hx I2 (.cons rfl (.cons ry .nil)) q) (hsl _ _)
/-- -o, ~o -/
def rUnO (C : Addr) (sp : Sp) (E : XK) : V → Hp → VK → Prop := fun x H Q => ∃ a dx fs, x = .ref a ∧ H a = some (.ins C dx fs) ∧ sp [.ref a] H Q E
theorem un_negO (c : MetX X.prog X.w X.K X.mg X.base CX k C "__neg__" sp) (hr : Room j X.A) (hk : k ≤ j) (hx : Passes CX X E) : UnR X (unaryOp .USub) (rUnO C sp E) := by
  intro pins s σ H x v Q I rx h
  obtain ⟨f, fd, ps, hm, F, b⟩ := c.ex
  obtain ⟨a, dx, fs, rfl, ea, q⟩ := h
  obtain rfl := rx
  obtain ⟨ox, od, J⟩ := inst_of I ea
  obtain ⟨mf, hf⟩ := I.fr
  exact PySem.W.ksp_neg hf I.mod.kin J hm.at_ hm.fn (run_fn0 (vs := [.ref a]) F (hr.mono hk) b hx I (.cons rfl .nil) q)
theorem un_invO (c : MetX X.prog X.w X.K X.mg X.base CX k C "__invert__" sp) (hr : Room j X.A) (hk : k ≤ j) (hx : Passes CX X E) : UnR X (unaryOp .Invert) (rUnO C sp E) := by
  intro pins s σ H x v Q I rx h
  obtain ⟨f, fd, ps, hm, F, b⟩ := c.ex
  obtain ⟨a, dx, fs, rfl, ea, q⟩ := h
  obtain rfl := rx
  obtain ⟨ox, od, J⟩ := inst_of I ea
  obtain ⟨mf, hf⟩ := I.fr
  exact PySem.W.ksp_inv hf I.mod.kin J hm.at_ hm.fn (run_fn0 (vs := [.ref a]) F (hr.mono hk) b hx I (.cons rfl .nil) q)
/-- o.m(e, ..) by name -/
theorem pe_mX {pl : Sem Bool} (he : PE X o ta) (c : Cls X.K C) (hm : MetX X.prog X.w X.K X.mg X.base CX k C m sp) (hr : Room j X.A) (hk : k ≤ j) (hx : Passes CX X E) (ha : PA X (e :: es) t)
    (hst : starEach (e :: es) X.env = (false, eval e X.env) :: starEach es X.env := by rfl) (hpl : (backTo pos (starEach es X.env)).any (·.1) = false := by rfl)
    (ht : eval (.Call (.Attribute o m apos) (e :: es) [] pos) X.env = (do
      let ov ← eval o X.env
      standAt apos.atName
      let fx ← holding [ov] (getMethod ov m pl)
      callWith pos fx.1 fx.2 (backTo pos (starEach (e :: es) X.env)) (backToKw pos (keywordEach [] X.env))) := by rfl) :
    PE X (.Call (.Attribute o m apos) (e :: es) [] pos) (tMeth C m sp [] E ta t) := by
  obtain ⟨f, fd, ps, hm', F, b⟩ := hm.ex
  exact pe_meth (pl := pl) he c hm' F (hr.mono hk) b .nil hx ha hst hpl ht
theorem pe_mX0 {pl : Sem Bool} (he : PE X o ta) (c : Cls X.K C) (hm : MetX X.prog X.w X.K X.mg X.base CX k C m sp) (hr : Room j X.A) (hk : k ≤ j) (hx : Passes CX X E)
    (ht : eval (.Call (.Attribute o m apos) [] [] pos) X.env = (do
      let ov ← eval o X.env
      standAt apos.atName
      let fx ← holding [ov] (getMethod ov m pl)
      callWith pos fx.1 fx.2 (backTo pos (starEach [] X.env)) (backToKw pos (keywordEach [] X.env))) := by rfl) :
    PE X (.Call (.Attribute o m apos) [] [] pos) (tMeth C m sp [] E ta tNil) := by
  obtain ⟨f, fd, ps, hm', F, b⟩ := hm.ex
  exact pe_meth0 (pl := pl) he c hm' F (hr.mono hk) b .nil hx ht
/-- o.m(k = v, ..): g puts the object and the keywords' values in the parameters' order -/
def tMethK (C : Addr) (m : Str) (sp : Sp) (n : Nat) (gV : List V → List V → List V) (E : XK) (ta : TE) (tk : TA) : TE := fun σ H Q => ta σ H fun x H1 => ∃ a dx fs, x = .ref a ∧ H1 a = some (.ins C dx fs) ∧ fs.lookup m = none ∧
  tk σ H1 fun zs H2 => zs.length = n ∧ sp (gV [x] zs) H2 Q E
theorem pe_mK {pl : Sem Bool} {kws : List Keyword} {tk : TA} {ks : List Str} {g : List Value → List Value → List Value} {gV : List V → List V → List V} (he : PE X o ta) (c : Cls X.K C) (hm : Meth X.K C m f) (F : FnOk X.prog X.w X.K X.mg X.base CX k f fd ps sp) (hr : Room k X.A)
    (hb : KBn X.K fd ps 1 ks g gV) (hx : Passes CX X E) (hkw : PK X kws tk)
    (hall : (backToKw pos (keywordEach kws X.env)).all (·.1.isSome) = true := by rfl) (hks : (backToKw pos (keywordEach kws X.env)).filterMap (·.1) = ks := by rfl)
    (hpl : ((backTo pos (starEach [] X.env)).any (·.1) || (backToKw pos (keywordEach kws X.env)).any (·.1.isNone)) = false := by rfl)
    (ht : eval (.Call (.Attribute o m apos) [] kws pos) X.env = (do
      let ov ← eval o X.env
      standAt apos.atName
      let fx ← holding [ov] (getMethod ov m pl)
      callWith pos fx.1 fx.2 (backTo pos (starEach [] X.env)) (backToKw pos (keywordEach kws X.env))) := by rfl) :
    PE X (.Call (.Attribute o m apos) [] kws pos) (tMethK C m sp ks.length gV E ta tk) := by
  refine ⟨fun pins s σ H Q I h => ?_⟩
  refine PySem.W.methodCall_KW (pl := pl) (thn (he.run pins s σ H _ I h) fun u s1 z => ?_) ht
  obtain ⟨x, H1, I1, rx, a, dx, fs, rfl, ea, l, q⟩ := z
  obtain rfl := rx
  refine getmeth_ok I1 ea c hm l ?_
  refine PySem.W.callWith_KW0 (first := [.ref a]) (h₀ := X.base) I.ok.mod.kin hm.kp hall ?_ hpl
  refine thn (hkw.run pos pins s1 σ H1 _ I1 q) fun ws s2 z2 => ?_
  obtain ⟨zs, H2, I2, rz, l2, q2⟩ := z2
  refine ⟨I2.kIn, ?_⟩
  rw [hks]
  exact run_fnN (us := [.ref a]) (vs := [.ref a]) F hr hb hx I2 (.cons rfl .nil) rz rfl l2 q2
end
end Rg

set_option Elab.async false
set_option linter.all false
set_option maxRecDepth 100000
set_option maxHeartbeats 4000000
namespace Rg
open PySem PySem.Spec PyProof.Rows L2
/-! ### len(set(list of ints and texts)): how many different ones -/
def hasK (acc : List Key) (k : Key) : Bool := acc.any fun j => decide (j = k)
theorem hasK_iff {acc : List Key} {k : Key} : hasK acc k = true ↔ k ∈ acc := by
  unfold hasK
  rw [List.any_eq_true]
  exact ⟨fun ⟨j, h1, h2⟩ => of_decide_eq_true h2 ▸ h1, fun h => ⟨k, h, decide_eq_true rfl⟩⟩
def metStep (acc : List Key) (k : Key) : List Key := if hasK acc k = true then acc else acc ++ [k]
def met (ks : List Key) : List Key := ks.foldl metStep []
theorem met_snoc (ks : List Key) (k : Key) : met (ks ++ [k]) = metStep (met ks) k := by
  unfold met
  rw [List.foldl_append]
  rfl
theorem metStep_len (acc : List Key) (k : Key) : (metStep acc k).length = if hasK acc k = true then acc.length else acc.length + 1 := by
  unfold metStep
  split
  · rfl
  · rw [List.length_append]
    rfl
theorem metStep_has (acc : List Key) (k j : Key) : hasK (metStep acc k) j = (hasK acc j || decide (j = k)) := by
  unfold metStep
  split
  · rename_i h
    by_cases e : j = k
    · rw [e, h]
      rfl
    · rw [decide_eq_false e, Bool.or_false]
  · unfold hasK
    rw [List.any_append]
    show (_ || (decide (k = j) || false)) = _
    rw [Bool.or_false]
    by_cases e : j = k
    · rw [e]
    · rw [decide_eq_false e, decide_eq_false (Ne.symm e)]
theorem met_fold_le : ∀ (ks acc : List Key), (ks.foldl metStep acc).length ≤ acc.length + ks.length
  | [], acc => Nat.le_add_right _ _
  | k :: r, acc => by
    have ih := met_fold_le r (metStep acc k)
    have e := metStep_len acc k
    show (r.foldl metStep (metStep acc k)).length ≤ _
    rw [List.length_cons]
    split at e <;> omega
theorem met_len_le (ks : List Key) : (met ks).length ≤ ks.length := by
  have := met_fold_le ks []
  simpa [met] using this
theorem take_snoc {ks : List Key} {i : Nat} {k : Key} (h : ks[i]? = some k) : ks.take (i + 1) = ks.take i ++ [k] := by
  rw [List.take_add_one, h]
  rfl
theorem setOf_to {P : Program} {w : World} {h : Heap} {a : Addr} {S S' : Key → Bool} {n n' : Nat} (x : h.SetOf (mixKind P w) a S n) (e : ∀ k, S k = S' k) (en : n = n') : h.SetOf (mixKind P w) a S' n' := by
  obtain rfl : S = S' := funext e
  subst en
  exact x
/-- a set that holds the met ones -/
def SetIs (P : Program) (w : World) (h : Heap) (a : Addr) (ks : List Key) : Prop := h.SetOf (mixKind P w) a (hasK (met ks)) (met ks).length
theorem SetIs.kept {P : Program} {w : World} {h h' : Heap} {a : Addr} {ks : List Key} (x : SetIs P w h a ks) (k : ∀ o, h.get? a = some o → h'.get? a = some o) : SetIs P w h' a ks := by
  obtain ⟨o, es, ep, t, ho, r⟩ := x
  exact ⟨o, es, ep, t, k o ho, r⟩
section
variable {P : Program} {w : World} {A : Around}
theorem setLoop {R : Result → Shared → Prop} {I S : Addr} {fp wr : List Addr} {G : Array GenState → Array GenState → Prop} {n : Nat} {Pv : Nat → Value → Prop} {St : Nat → Shared → Prop} (W : WalksS P w A.in1 I fp wr G n Pv St) (hS : S ∉ fp)
    (ks : List Key) (hn : ks.length = n) (h64 : n < 64) (hv : ∀ i v, Pv i v → ∃ k, ks[i]? = some k ∧ keyIs k v = true) :
    ∀ (m i : Nat) (s : Shared), n - i = m → i ≤ n → St i s → SetIs P w s.heap S (ks.take i) → (∀ s', Moved (S :: wr) G s s' → SetIs P w s'.heap S ks → R (.ok (.ret .none)) s') →
      codeAny (model P w) A (.builtin "set.update.loop" ⟨[.ref S, .ref I], []⟩) R s := by
  have nw : S ∉ wr := fun z => hS (W.sub _ z)
  have up : ∀ b ∈ wr, b ∈ S :: wr := fun b z => List.mem_cons_of_mem _ z
  intro m
  induction m with
  | zero =>
    intro i s hm hi st x hR
    have ei : i = n := by omega
    rw [ei] at st x
    refine codeAny_builtin PyProof.Rows.F.entry_set_update_loop ?_
    rw [Around.under_plainId PyProof.Rows.F.plain_set_update_loop _]
    show wpAny _ A.in1 (pyNext (.ref I) >>= _) _ _ s
    refine wpAny_bind (W.done s _ _ st fun s' mv => ?_)
    rw [← hn, List.take_length] at x
    exact wpAny_pure (hR s' (mv.mono up) (x.kept fun o q => mv.heap S o nw q))
  | succ m ih =>
    intro i s hm hi st x hR
    have lt : i < n := by omega
    refine codeAny_builtin PyProof.Rows.F.entry_set_update_loop ?_
    rw [Around.under_plainId PyProof.Rows.F.plain_set_update_loop _]
    show wpAny _ A.in1 (pyNext (.ref I) >>= _) _ _ s
    refine wpAny_bind (W.item i s _ _ lt st fun v s' hP st' mv => ?_)
    obtain ⟨k, ek, kv⟩ := hv i v hP
    have sc : v.scannable = true := by rcases keyIs_shape kv with ⟨_, _, rfl, rfl⟩ | ⟨_, _, rfl, rfl⟩ <;> rfl
    have x1 : SetIs P w s'.heap S (ks.take i) := x.kept fun o q => mv.heap S o nw q
    show wpAny _ A.in1 (holding [v] (setAdd S v) >>= _) _ _ s'
    refine wpAny_bind (wpAny_holding ?_)
    unfold setAdd
    refine wpAny_holding (wpAny_bind ((mixKind P w).pyHash (k := k) kv ?_))
    have few : (met (ks.take i)).length + 1 < scanBound := by
      have := met_len_le (ks.take i)
      rw [List.length_take] at this
      unfold scanBound
      omega
    refine wpAny_setAddHashed_of (knd := mixKind P w) (s := { s' with toks := s'.toks + 1 }) kv sc x1 few fun h2 sb x2 => ?_
    have x3 : SetIs P w h2 S (ks.take (i + 1)) := by
      refine setOf_to x2 (fun j => ?_) ?_
      · rw [take_snoc ek, met_snoc, metStep_has]
      · rw [take_snoc ek, met_snoc, metStep_len]
    refine wpAny_pure ⟨plainId_quiet PyProof.Rows.F.plain_set_update_loop _, ih (i + 1) _ (by omega) lt (W.frame _ s' _ _ st' (Nat.le_succ _) fun b hb o e => ?_) x3 fun s'' mv2 x4 => ?_⟩
    · have nb : b ≠ S := fun z => hS (z ▸ hb)
      exact (sb.2 b nb).trans e
    · refine hR s'' (Moved.trans W.gtrans ((mv.mono up).then_heap (Nat.le_succ _) fun b o hb e => ?_) mv2) x4
      have nb : b ≠ S := fun z => hb (z ▸ List.mem_cons_self)
      exact (sb.2 b nb).trans e

abbrev set0 (led : Bool) : Obj := { cls := .type "set", dict := none, data := .set #[] 0 (.fresh 0 0 led) }
set_option maxHeartbeats 3200000 in
theorem call_setK {E : Value → Shared → Prop} {s : Shared} {l : Addr} {us : List Value} {n0 : Nat} {ks : List Key} {Q : Value → Shared → Prop} (hh : A.handled = none) (hl : s.heap.IsList l us.toArray) (hk : Vals (ks.map kV) us) (h64 : ks.length < 64)
    (h : ∀ (h' : Heap) (tk : Nat), SetIs P w h' s.heap.objs.size ks → (∀ b o, s.heap.get? b = some o → h'.get? b = some o) → Q (.ref s.heap.objs.size) { s with heap := h', toks := tk }) :
    wpAny (model P w) A (call (.type "set") [.ref l]) Q E s := by
  have len : us.length = ks.length := by rw [← hk.length, List.length_map]
  obtain ⟨c, tl, hmro⟩ := PySem.F.called_set.mro
  have hmade := PySem.F.called_set.made
  have hsub := PySem.F.called_set.sub
  have ht := PySem.F.called_set.notType
  have hc := PySem.F.called_set.canCreate
  have hct := PySem.F.typeCall_set_1 (.ref l)
  refine wpAny_call (codeAny_of_tree ?_)
  show wpAny _ _ (callAny (.type "set") _) _ _ _
  refine wpAny_pure ⟨Code.quiet_builtin _ (by decide +kernel), codeAny_builtin PySem.F.entry_type_call ?_⟩
  rw [Around.under_plain (weight_type_call_type "set" [.ref l] []) rfl]
  repeat (any_goals (first | assumption | wp_step))
  refine codeAny_mono (code_set_new_1 (.ref l) (E := E) (Q₁ := fun ob s1 => ∃ led : Bool, ob = .ref s.heap.objs.size ∧ s1 = { s with heap := s.heap.push (set0 led) }) fun led => ⟨led, rfl, rfl⟩) fun r s1 hr => ?_
  cases r with
  | error e => exact hr
  | ok fl =>
    cases fl with
    | ret ob =>
      obtain ⟨led, rfl, rfl⟩ := hr
      have atS : (s.heap.push (set0 led)).get? s.heap.objs.size = some (set0 led) := Heap.get?_push_size _ rfl
      have tyS : Shared.TypeIs { s with heap := s.heap.push (set0 led) } (.ref s.heap.objs.size) "set" := ⟨_, atS, rfl⟩
      have hli := PySem.F.called_set.init.lookup
      have hbi := PySem.F.called_set.init.bind (.ref s.heap.objs.size)
      repeat (any_goals (first | assumption | wp_step))
      refine codeAny_mono (codeAny_call_builtin (R := wants (fun r s2 => r = .none ∧ ∃ h' tk, s2 = { s with heap := h', toks := tk } ∧ SetIs P w h' s.heap.objs.size ks ∧ (∀ b o, s.heap.get? b = some o → h'.get? b = some o)) E)
        PySem.F.called_set.init.plain PySem.F.entry_set_init (check_set_init_1 tyS ?_)) fun r2 s2 hr2 => ?_
      · obtain ⟨⟨ocls, odict, odata, oslots⟩, hol, hcl, nl, hdl⟩ := hl
        obtain rfl : ocls = _ := hcl
        obtain rfl : odata = _ := hdl
        have hol2 := Heap.get?_push_of_some (h := s.heap) (set0 led) hol
        have a1 := PySem.F.sub_list_set
        have a2 := PySem.F.sub_list_frozenset
        have a3 : (Value.type "list" == Value.type "dict") = false := by decide
        have hl2 : (s.heap.push (set0 led)).IsList l us.toArray := ⟨_, hol2, rfl, nl, rfl⟩
        unfold Builtin.«set.__init__» noKeywords Builtin.Frozenset.updateFrom
        generalize hPI : pyIter = PI
        wp_walk
        subst hPI
        refine wpAny_pyIter_list hl2 (wpAny_bind (wpAny_runValue ?_))
        have lS : l < s.heap.objs.size := Heap.lt_size hol
        have sz1 : (s.heap.push (set0 led)).objs.size = s.heap.objs.size + 1 := Heap.size_push _ _
        have h3 : A.in1.in1.in1.handled = none := by simp [hh]
        have nI : l ≠ (s.heap.push (set0 led)).objs.size := by rw [sz1]; exact Nat.ne_of_lt (Nat.lt_succ_of_lt lS)
        have nS : s.heap.objs.size ∉ [(s.heap.push (set0 led)).objs.size, l] := by
          rw [sz1]
          simp only [List.mem_cons, List.not_mem_nil, or_false, not_or]
          exact ⟨Nat.ne_of_lt (Nat.lt_succ_self _), Nat.ne_of_gt lS⟩
        have val : ∀ (i : Nat) (v : Value), us.toArray[i]? = some v → ∃ k, ks[i]? = some k ∧ keyIs k v = true := by
          intro i v hv
          have hv' : us[i]? = some v := by simpa using hv
          have hi : i < ks.length := by
            have := (List.getElem?_eq_some_iff.mp hv').1
            omega
          refine ⟨ks[i], List.getElem?_eq_getElem hi, ?_⟩
          obtain ⟨u, e1, rv⟩ := hk.get (i := i) (x := kV ks[i]) (by rw [List.getElem?_map, List.getElem?_eq_getElem hi]; rfl)
          rw [hv'] at e1
          cases e1
          cases hki : ks[i] with
          | inl n =>
            rw [hki] at rv
            obtain ⟨t, rfl⟩ := rv
            exact keyIs_int n t
          | inr z =>
            rw [hki] at rv
            obtain ⟨t, rfl⟩ := rv
            exact keyIs_str z t
        refine setLoop ((Walks.list h3 _ l nI us.toArray).toS) nS ks (by rw [List.size_toArray, len]) (by rw [List.size_toArray, len]; exact h64) val (us.toArray.size - 0) 0 _ rfl (Nat.zero_le _) ⟨⟨_, Heap.get?_push_size _ rfl, rfl, rfl⟩, hl2.push _⟩ ?hS0 ?hR
        case hS0 =>
          have got := Heap.get?_push_of_some { cls := .type "list_iterator", data := .fields #[.ref l, .int 0 0] } atS
          refine setOf_to (S := fun _ => false) (n := 0) ⟨_, #[], 0, _, got, ⟨rfl, rfl, rfl⟩, rfl, ?_, ?_, by decide, rfl, rfl⟩ (fun _ => rfl) rfl
          · intro e he
            exact absurd he (by simp)
          · intro k
            simp
        case hR =>
          intro s' mv x
          obtain ⟨h', g', d', tk', os'⟩ := s'
          obtain rfl : g' = s.gens := mv.gens
          obtain rfl : d' = s.drawn := mv.drawn
          obtain rfl : os' = s.os := mv.os
          show wpAny _ _ _ _ _ _
          refine wpAny_pure ?_
          show wpAny _ _ (ret Value.none) _ _ _
          refine wpAny_pure ⟨rfl, h', tk', rfl, x, fun b o e => ?_⟩
          have lb := Heap.lt_size e
          refine mv.heap b o ?_ (Heap.get?_push_of_some _ (Heap.get?_push_of_some _ e))
          rw [sz1]
          simp only [List.mem_cons, List.not_mem_nil, or_false, not_or]
          exact ⟨Nat.ne_of_lt lb, Nat.ne_of_lt (Nat.lt_succ_of_lt lb)⟩
      · cases r2 with
        | error e => exact hr2
        | ok fl2 =>
          cases fl2 with
          | ret r =>
            obtain ⟨rfl, h', tk, rfl, x, keep⟩ := hr2
            repeat (any_goals (first | assumption | wp_step))
            exact h _ _ x keep
          | _ => exact hr2.elim
    | _ => exact hr.elim
end
def tLenSetK (K : PySem.W.Frag) (ta : TE) : TE := fun σ H Q => ta σ H fun x H1 => ∃ (l : Addr) (ks : List Key), x = V.ref l ∧ SqL K H1 l (ks.map kV) ∧ ks.length < 64 ∧ Q (.int ((met ks).length : Nat)) H1
theorem pe_lenSetK {X : Cx} {a : Expr} {ta : TE} {p p2 q pos : Pos} (hc : X.calm = true) (hg : Gl X "len") (hm : X.mg "len" = none) (hg2 : Gl X "set") (hm2 : X.mg "set" = none) (ha : PE X a ta)
    (na : starEach [a] X.env = (false, eval a X.env) :: starEach [] X.env := by rfl) : PE X (.Call (.Name "len" p) [.Call (.Name "set" p2) [a] [] q] [] pos) (tLenSetK X.K ta) := by
  constructor
  intro pins s σ H Q I h
  refine Call_ (ld_blt I hg hm PySem.boot_len (PyProof.Rows.callWith_builtin1 (PyProof.Rows.args_cons ?_ rfl) rfl rfl))
  refine Call_ (ld_blt I hg2 hm2 PyProof.Rows.boot_set (PyProof.Rows.callWith_type1 (PyProof.Rows.args_cons (thn (ha.run pins s σ H _ I h) fun v s1 z => PyProof.Rows.args_nil ?_) na) na rfl))
  obtain ⟨x, H1, I1, r1, l, ks, rfl, hq, h64, q1⟩ := z
  obtain rfl := r1
  obtain ⟨its, r, pl, hz⟩ := I1.list hq
  refine call_setK (n0 := 0) (I1.ok.hd hc) pl.isList r h64 fun h' tk x keep => PyProof.Rows.args_nil ?_
  obtain ⟨o, es, ep, t, ho, hex, hd, _, _, _, hf, hn⟩ := x
  have few := met_len_le ks
  refine call_len_set ho hex hd hf (by rw [hn] <;> omega) ⟨.int (met ks).length, H1, (I1.kept (t' := tk) keep).tok _, ⟨_, by rw [hn]⟩, q1⟩
end Rg

set_option Elab.async false
set_option linter.all false
set_option maxRecDepth 100000
set_option maxHeartbeats 2000000
namespace Rg
open PySem PySem.Spec PyProof.Rows L2
/-! ### list of a text, the place of a sign -/
def sgn (c : Nat) : Str := ⟨#[c]⟩
theorem call_listS {X : Cx} (hc : X.calm = true) : CallR X (.type "list") (fun xs H Q => ∃ z : Str, xs = [.str z] ∧ z.length ≤ sizeLine ∧ ∀ l, H l = none → Q (.ref l) (upd H l (.lst (z.cps.toList.map fun c => V.str (sgn c))))) := by
  intro pins s σ H xs us Q I r h
  obtain ⟨z, rfl, hz, q⟩ := h
  cases r with
  | cons r1 r2 =>
    cases r2
    obtain ⟨t, rfl⟩ := r1
    have hz2 : z.cps.size ≤ sizeLine := hz
    refine call_list_str (I.ok.hd hc) z t (hn := hz2) fun h' tk acc c' hk hS hacc => ?_
    obtain ⟨e1, e2⟩ := hacc
    have vals : Vals (z.cps.toList.map fun c => V.str (sgn c)) acc.toList := by
      have gen : ∀ (l : List Nat) (us : List Value), l.length = us.length → (∀ (i : Nat) (u : Value), us[i]? = some u → ∃ (c : Nat) (k : Tok), l[i]? = some c ∧ u = Value.str ⟨#[c]⟩ k) → Vals (l.map fun c => V.str (sgn c)) us := by
        intro l
        induction l with
        | nil =>
          intro us hl _
          cases us with
          | nil => exact .nil
          | cons u r => cases hl
        | cons c l ih =>
          intro us hl hu
          cases us with
          | nil => cases hl
          | cons u r =>
            obtain ⟨c', k, h1, h2⟩ := hu 0 u rfl
            simp at h1
            subst h1
            refine .cons ⟨k, h2⟩ (ih r (Nat.succ.inj hl) fun i u' e => ?_)
            obtain ⟨c2, k2, h3, h4⟩ := hu (i + 1) u' (by simpa using e)
            exact ⟨c2, k2, by simpa using h3, h4⟩
      refine gen _ _ (by simp [e1]) fun i u e => ?_
      obtain ⟨c, k, h1, h2⟩ := e2 i u (by simpa using e)
      exact ⟨c, k, by simpa using h1, h2⟩
    refine ⟨.ref s.heap.objs.size, _, I.laid (t' := tk) hk (Nat.le_refl _) ?_, rfl, q _ (I.hok.fresh (Nat.le_refl _))⟩
    exact ⟨by simpa using hz2, acc.toList, c', vals, by simpa using hS⟩
theorem place_of {z : Str} {c : Nat} (h : c ∈ z.cps.toList) : ∃ i rest, Builtin.Str.occurrences z (sgn c) 0 z.length 1 = i :: rest ∧ z.cps[i]? = some c := by
  have h1 := StrLaws.found_one z c
  rw [decide_eq_true h] at h1
  cases e : Builtin.Str.occurrences z (sgn c) 0 z.length 1 with
  | nil =>
    have e' : Builtin.Str.occurrences z ⟨#[c]⟩ 0 z.length 1 = [] := e
    rw [e'] at h1
    cases h1
  | cons i rest =>
    refine ⟨i, rest, rfl, ?_⟩
    have h2 := PySem.StrLaws.occ_spec z (sgn c) 0 z.length 1 i (by rw [e]; exact List.mem_cons_self)
    have h3 := (StrLaws.subAt_one z c i).mp h2
    simpa using h3
end Rg

set_option Elab.async false
set_option linter.all false
set_option maxRecDepth 100000
set_option maxHeartbeats 2000000
namespace Rg
open PySem PySem.Spec PyProof.Rows L2
/-! ### a list or a tuple, walked -/
def SqA (K : PySem.W.Frag) (H : Hp) (a : Addr) (xs : List V) : Prop := SqL K H a xs ∨ SqT K H a xs
theorem SqA.mono {K : PySem.W.Frag} {H H' : Hp} {a : Addr} {xs : List V} (h : SqA K H a xs) (e : Same H H') : SqA K H' a xs := h.elim (fun z => .inl (e.seq z)) fun z => .inr (sqT_mono e z)
theorem SqA.len {K : PySem.W.Frag} {H : Hp} {a : Addr} {xs : List V} (h : SqA K H a xs) : SqL K H a xs ∨ SqT K H a xs := h
def SeqR (K : PySem.W.Frag) (a : Addr) (R : It → Hp → Prop) (H1 : Hp) : Prop := ((∃ xs, SqL K H1 a xs) ∧ R (Itl K a) H1) ∨ ((∃ xs, SqT K H1 a xs) ∧ R (Itt K a) H1)
def iSeq (K : PySem.W.Frag) (tl : TE) : TI := fun σ H R => tl σ H fun x H1 => ∃ a, x = .ref a ∧ SeqR K a R H1
theorem pi_seq {X : Cx} {tg l : Expr} {tl : TE} (hl : PE X l tl) : PI X tg l (iSeq X.K tl) := by
  constructor
  intro pins s σ H R I h
  refine thn (hl.run pins s σ H _ I h) ?_
  rintro v s1 ⟨x, H1, I1, r1, a, rfl, q⟩
  obtain rfl := r1
  have fp : ∀ b ∈ [s1.heap.objs.size], FpOk X pins H1 b := fun b hb => by
    obtain rfl : b = s1.heap.objs.size := by simpa using hb
    exact I1.fpOk (Nat.le_refl _) (I1.hok.fresh (Nat.le_refl _))
  have kp : ∀ ob : Obj, Inv X pins σ H1 { s1 with heap := s1.heap.push ob } := fun ob => I1.kept (t' := s1.toks) fun b o e => Heap.get?_push_of_some _ e
  rcases q with ⟨⟨xs, hq⟩, q⟩ | ⟨⟨xs, hq⟩, q⟩
  · obtain ⟨its, rv, p, hz⟩ := I1.list hq
    exact wpAny_pyIter_list p.isList ⟨_, [s1.heap.objs.size], _, _, H1, rfl, kp _, turn_list a _, ⟨_, Heap.get?_push_size _ rfl, rfl, rfl⟩, fp, q⟩
  · obtain ⟨its, rv, p, hz⟩ := I1.tuple hq
    exact wpAny_pyIter_tuple (show s1.heap.IsTuple a its.toArray from p) ⟨_, [s1.heap.objs.size], _, _, H1, rfl, kp _, turn_tuple a _, ⟨_, Heap.get?_push_size _ rfl, rfl, rfl⟩, fp, q⟩
theorem iSeq_of {K : PySem.W.Frag} {D H : Hp} {a : Addr} {xs : List V} {R : It → Hp → Prop} (h : SqA K D a xs) (sd : Same D H) (k : ∀ J, Walk J xs.length (fun H' => Same D H') (YAt xs) → R J H) : SeqR K a R H := by
  rcases h with h | h
  · exact .inl ⟨⟨xs, sd.seq h⟩, k _ (walk_list.mono (fun H' e => e.seq h) fun _ _ _ _ _ _ y => y)⟩
  · exact .inr ⟨⟨xs, sqT_mono sd h⟩, k _ (walk_tup.mono (fun H' e => sqT_mono e h) fun _ _ _ _ _ _ y => y)⟩
/-! ### kinds -/
theorem ty_list {K : PySem.W.Frag} {H : Hp} {a : Addr} {xs : List V} (h : SqL K H a xs) : TyX K H (.ref a) (.type "list") := by
  rcases h with (h | ⟨o, h⟩) | ⟨o, its, n, h1, h2, _⟩
  · exact .base (.lst h)
  · exact .base (.frz h)
  · exact .kList h1 h2
theorem ty_tup {K : PySem.W.Frag} {H : Hp} {a : Addr} {xs : List V} (h : SqT K H a xs) : TyX K H (.ref a) (.type "tuple") := by
  rcases h with (h | ⟨o, h⟩) | ⟨o, its, n, h1, h2, _⟩
  · exact .base (.tup h)
  · exact .fTuple h
  · exact .kTuple h1 h2
theorem kit_lt {K : PySem.W.Frag} {t : String} {r : Bool} (h1 : kitB t "list" = some false ∧ kitB t "tuple" = some r ∨ kitB t "list" = some true ∧ r = true) : PySem.W.kitAny K (.type t) [.type "list", .type "tuple"] = some r := by
  rcases h1 with ⟨a, b⟩ | ⟨a, b⟩
  · refine kitAny_cons (kit_ty a) (fun _ => kitAny_cons (kit_ty b) (fun z => ?_) fun z => z) fun z => by cases z
    rw [z]
    exact kitAny_nil
  · exact kitAny_cons (kit_ty a) (fun z => by cases z) fun _ => b
theorem isSeq_kit {K : PySem.W.Frag} {H : Hp} {a : Addr} {xs : List V} (h : SqA K H a xs) : ∃ t, TyX K H (.ref a) t ∧ PySem.W.kitAny K t [.type "list", .type "tuple"] = some true := by
  rcases h with h | h
  · exact ⟨_, ty_list h, kit_lt (.inr ⟨by decide +kernel, rfl⟩)⟩
  · exact ⟨_, ty_tup h, kit_lt (.inl ⟨by decide +kernel, by decide +kernel⟩)⟩
theorem cls_lt : Paired ClsV [V.ty "list", V.ty "tuple"] [.type "list", .type "tuple"] := .cons (.ty _) (.cons (.ty _) .nil)
/-! ### heaps of scalars -/
theorem Step.of_same {W : Addr → Prop} {D H H' : Hp} (s : Same D H) (e : Same H H') : Step W D H D H' := by
  refine ⟨Same.refl D, s.trans e, fun b o _ q => e b o q, fun b q => ?_, fun _ _ d => d⟩
  cases h : H b with
  | none => exact absurd h q
  | some o =>
    rw [e b o h]
    exact fun z => by cases z
theorem Same.new {H : Hp} {p : Addr} {o : HO} (h : H p = none) : Same H (upd H p o) := same_new h
/-- the list being made in a comprehension changes: what stood before it stands -/
theorem Same.put {H0 H : Hp} {D : Addr} {o : HO} (e : Same H0 H) (h : H0 D = none) : Same H0 (upd H D o) := fun b u q => by
  rw [upd_ne (ne_of_none q h)]
  exact e b u q
/-! ### GoodSigns -/
abbrev letters : List Nat := ("abcdefghijklmnopqrstuvwxyz" : Str).cps.toList
structure GoodSigns (z : Str) : Prop where
  pos : 1 ≤ z.cps.toList.length
  few : z.cps.toList.length ≤ 4
  nd : z.cps.toList.Nodup
  let_ : ∀ c ∈ z.cps.toList, c ∈ letters
theorem len_tl (z : Str) : z.length = z.cps.toList.length := by simp [Str.length]
theorem size_tl (z : Str) : z.cps.size = z.cps.toList.length := by simp
theorem get_tl {z : Str} {i : Nat} : z.cps[i]? = z.cps.toList[i]? := by simp
theorem small_line {n : Nat} (h : n ≤ 100000) : n ≤ sizeLine := Nat.le_trans h (by decide)
theorem take_more {α : Type} {l : List α} {i : Nat} {x : α} (h : l[i]? = some x) : l.take (i + 1) = l.take i ++ [x] := by
  rw [List.take_add_one, h]
  rfl
theorem mem_of_at {α : Type} {l : List α} {i : Nat} {x : α} (h : l[i]? = some x) : x ∈ l := List.mem_of_getElem? h
end Rg

set_option Elab.async false
set_option linter.all false
set_option maxRecDepth 100000
set_option maxHeartbeats 2000000
namespace Rg
open PySem PySem.Spec PyProof.Rows L2
/-! ### the rules with the written part named: within a comprehension's block it is the same one -/
section
variable {X : Cx} (K : PySem.W.Frag)
theorem ix_listK (h : X.K = K := by rfl) : IxR X (rIxL K) := h ▸ ix_list
theorem ix_tupK (h : X.K = K := by rfl) : IxR X (rIxT K) := h ▸ ix_tup
theorem sl_listK (h : X.K = K := by rfl) : SlR X (rSlL K) := h ▸ sl_list
theorem sl_tupK (h : X.K = K := by rfl) : SlR X (rSlT K) := h ▸ sl_tup
def rLenQ : List V → Hp → VK → Prop := fun xs H Q => ∃ p ys, xs = [.ref p] ∧ (SqL K H p ys ∨ SqT K H p ys) ∧ Q (.int ys.length) H
theorem call_len_seqK (h : X.K = K := by rfl) : CallR X (.builtin "len") (rLenQ K) := h ▸ call_len_seq
def rTupleQ : List V → Hp → VK → Prop := fun xs H Q => ∃ p ys, xs = [.ref p] ∧ ((SqL K H p ys ∧ ∀ l, H l = none → Q (.ref l) (upd H l (.tup ys))) ∨ (SqT K H p ys ∧ Q (.ref p) H))
theorem call_tuple_ofK (h : X.K = K := by rfl) : CallR X (.type "tuple") (rTupleQ K) := h ▸ call_tuple_of
def rListQ : List V → Hp → VK → Prop := fun xs H Q => ∃ p ys, xs = [.ref p] ∧ (SqL K H p ys ∨ SqT K H p ys) ∧ ∀ l, H l = none → Q (.ref l) (upd H l (.lst ys))
theorem call_list_ofK (h : X.K = K := by rfl) : CallR X (.type "list") (rListQ K) := h ▸ call_list_of
theorem cr_allK (hc : X.calm = true) (h : X.K = K := by rfl) : CallR X (.builtin "all") (rAll K) := h ▸ cr_all hc
theorem cr_anyK (hc : X.calm = true) (h : X.K = K := by rfl) : CallR X (.builtin "any") (rAny K) := h ▸ cr_any hc
theorem cr_sumK (hc : X.calm = true) (h : X.K = K := by rfl) : CallR X (.builtin "sum") (rSum K) := h ▸ cr_sum hc
theorem call_isiK' (h : X.K = K := by rfl) : CallR X (.builtin "isinstance") (rIsi K) := h ▸ call_isi
theorem call_isiTK (h : X.K = K := by rfl) : CallR X (.builtin "isinstance") (rIsiT K) := h ▸ call_isiT
theorem op_in_seqK (h : X.K = K := by rfl) : OpR X (compareOp .In) (rIn K false) := h ▸ op_in_seq
theorem op_notIn_seqK (h : X.K = K := by rfl) : OpR X (compareOp .NotIn) (rIn K true) := h ▸ op_notIn_seq
theorem op_eqDK (hu : X.A.units + 64 < cLine) (h : X.K = K := by rfl) : OpR X (compareOp .Eq) (rEqD K) := h ▸ op_eqD hu
theorem op_neDK (hu : X.A.units + 64 < cLine) (h : X.K = K := by rfl) : OpR X (compareOp .NotEq) (rNeD K) := h ▸ op_neD hu
theorem op_catTK (h : X.K = K := by rfl) : OpR X (binaryOp .Add) (rCatT K) := h ▸ op_catT
theorem call_reprK (hg : X.A.guards = some []) (hu : X.A.units + 64 < cLine) (h : X.K = K := by rfl) : CallR X (.builtin "repr") (rRepr K) := h ▸ call_reprD hg hu
theorem pi_listK {tg l : Expr} {tl : TE} (hl : PE X l tl) (h : X.K = K := by rfl) : PI X tg l (iList K tl) := h ▸ pi_list hl
theorem pi_tupK {tg l : Expr} {tl : TE} (hl : PE X l tl) (h : X.K = K := by rfl) : PI X tg l (iTup K tl) := h ▸ pi_tup hl
theorem pi_seqK {tg l : Expr} {tl : TE} (hl : PE X l tl) (h : X.K = K := by rfl) : PI X tg l (iSeq K tl) := h ▸ pi_seq hl
theorem pg_tupK {es : List Expr} {k : Nat} {pos : Pos} {t : TGs} {n : Nat} (hc : X.calm = true) (ht : PGs X es t) (h : X.K = K := by rfl)
    (hn : (assignEach es X.env).length = n := by rfl) (hst : (assignEach es X.env).findIdx? (·.1) = none := by rfl) : PG X (.Tuple es k pos) (gTup K n t) := h ▸ pg_tup hc ht hn hst
theorem pe_fldK {e : Expr} {f : Str} {pos : Pos} {ta : TE} (he : PE X e ta) (h : X.K = K := by rfl) (hb : attributeBase e f X.env (eval e X.env) = eval e X.env := by rfl) : PE X (.Attribute e f pos) (tFld K ta f) := h ▸ pe_fld he hb
def rJoin : V → List V → Hp → VK → Prop := fun x xs H Q => ∃ a p, ∃ ys : List Str, x = .str a ∧ xs = [.ref p] ∧ (SqL K H p (ys.map V.str) ∨ SqT K H p (ys.map V.str)) ∧ (ys.map (·.length)).sum + ys.length * a.length ≤ 16777216 ∧ Q (.str (Txt.join a ys)) H
theorem pe_joinK {o e : Expr} {apos pos : Pos} {to te : TE} (ho : PE X o to) (he : PE X e te) (h : X.K = K := by rfl) (b1 : starEach [e] X.env = [(false, eval e X.env)] := by rfl) (b2 : attributeBase o "join" X.env (eval o X.env) = eval o X.env := by rfl)
    (b3 : (apos.endLine == pos.line) = true := by rfl) : PE X (.Call (.Attribute o "join" apos) [e] [] pos) (tM1 (rJoin K) to te) := by
  subst h
  exact pe_join ho he b1 b2 b3
theorem pe_lenSetKK {a : Expr} {ta : TE} {p p2 q pos : Pos} (hc : X.calm = true) (hg : Gl X "len") (hm : X.mg "len" = none) (hg2 : Gl X "set") (hm2 : X.mg "set" = none) (ha : PE X a ta) (h : X.K = K := by rfl)
    (na : starEach [a] X.env = (false, eval a X.env) :: starEach [] X.env := by rfl) : PE X (.Call (.Name "len" p) [.Call (.Name "set" p2) [a] [] q] [] pos) (tLenSetK K ta) := h ▸ pe_lenSetK hc hg hm hg2 hm2 ha na
end
end Rg

set_option Elab.async false
set_option linter.all false
set_option maxRecDepth 100000
namespace Rg
open PySem PySem.Spec PyProof.Rows L2
theorem hu1 {n : Nat} (h : n + 64 < cLine) : n + 1 < cLine := by omega
section
variable {J : It} {n : Nat} {G : Hp → Prop} {Y : Nat → Hp → V → Hp → Prop}
/-- a dict comprehension over what is walked -/
theorem dc_it (w : Walk J n G Y) {g : TG} {tt : TT} {tk tv : TE} {vs : List Nat} {σ : L2.St} {H1 : Hp} {D : Addr} {Qd : Hp → Prop} (Pv : Nat → Hp → Prop) (h0 : Pv 0 (upd H1 D (.dK []))) (hG : ∀ i H, i ≤ n → Pv i H → G H)
    (hs : ∀ i x H H', i < n → Pv i H → Y i H x H' → g x (wipe σ vs) H' fun σ2 H2 => wipe σ2 vs = wipe σ vs ∧ tt σ2 H2 fun b H3 =>
      if b = true then tk σ2 H3 fun y H4 => tv σ2 H4 fun z H5 => ∃ kvs k, y = kV k ∧ H5 D = some (.dK kvs) ∧ kvs.length < sizeLine ∧ Pv (i + 1) (upd H5 D (.dK (putK kvs k z))) else Pv (i + 1) H3) (hd : ∀ H, Pv n H → Qd H) :
    ∃ W : Nat → Nat → Hp → Prop, (∃ m, W 0 m (upd H1 D (.dK []))) ∧ ∀ i m H, W i m H →
      (J.stop i H ∧ Qd H) ∨ (J.go i H ∧ ∃ Nx : Hp → Prop, (∀ H', Nx H' → ∃ m', m' < m ∧ W (i + 1) m' H') ∧ ∀ x H', J.yld i H x H' → g x (wipe σ vs) H' fun σ2 H2 => wipe σ2 vs = wipe σ vs ∧ tt σ2 H2 fun b H3 =>
        if b = true then tk σ2 H3 fun y H4 => tv σ2 H4 fun z H5 => ∃ kvs k, y = kV k ∧ H5 D = some (.dK kvs) ∧ kvs.length < sizeLine ∧ Nx (upd H5 D (.dK (putK kvs k z))) else Nx H3) := by
  refine ⟨fun i m H => i ≤ n ∧ Pv i H ∧ m + i = n, ⟨n, Nat.zero_le _, h0, rfl⟩, ?_⟩
  rintro i m H ⟨hi, p, hm⟩
  have q := hG i H hi p
  rcases Nat.lt_or_eq_of_le hi with hlt | e
  · exact .inr ⟨w.goes i H hlt q, Pv (i + 1), fun H' p' => ⟨m - 1, by omega, hlt, p', by omega⟩, fun x H' y => hs i x H H' hlt p (w.yields i H x H' hlt q y)⟩
  · subst e
    exact .inl ⟨w.stops H q, hd H p⟩
end
section
variable {X : Cx}
/-- y = {k: v for ..}, y a local of its own -/
theorem ps_setDc {j : Nat} {y : Str} {yp : Pos} {kx vx tg src : Expr} {ifs : List Expr} {sc : Scope} {own : List (Str × Nat)} {dp sp : Pos} {wi : TI} {g : TG} {tt : TT} {tk tv : TE} (calm : X.calm = true) (nd : X.N.Nodup) (hy : X.N[j]? = some y) (loc : X.env.scope.names.lookup y = some .local)
    (sw : swapsWith (.DictComp kx vx [⟨tg, src, ifs, 0⟩] sc dp) (some (.Name y yp)) sp.line X.env = pure true) (hi : PI X tg src wi) (ok : BlkOk X.N X.env.scope sc own)
    (hg : ∀ (s : Shared) (H : Hp) (C : Addr) (cl : List (Str × Addr)) (fp : List Addr), PG (X.blk s H sc (compEnvC sc cl C X.env) fp) tg g)
    (ht : ∀ (s : Shared) (H : Hp) (C : Addr) (cl : List (Str × Addr)) (fp : List Addr), PTs (X.blk s H sc (compEnvC sc cl C X.env) fp) ifs tt)
    (hk : ∀ (s : Shared) (H : Hp) (C : Addr) (cl : List (Str × Addr)) (fp : List Addr), PE (X.blk s H sc (compEnvC sc cl C X.env) fp) kx tk)
    (hv : ∀ (s : Shared) (H : Hp) (C : Addr) (cl : List (Str × Addr)) (fp : List Addr), PE (X.blk s H sc (compEnvC sc cl C X.env) fp) vx tv)
    (hs : ∀ x, foldedSetIterable src X.env x = pure x := by intro _; rfl) :
    PS X (.Assign [.Name y yp] (.DictComp kx vx [⟨tg, src, ifs, 0⟩] sc dp) sp) (tAsg (tDc wi g tt tk tv (own.map (·.2))) (gName j)) := by
  refine ⟨fun pins s σ H R I h => ?_⟩
  rw [exec_Assign_Name_used _ _ _ _ sw]
  refine wpAny_bind (wpAny_standAt (wpAny_bind ?_))
  show wpAny _ X.A (do let _ ← comprehension (.DictComp kx vx [⟨tg, src, ifs, 0⟩] sc dp) sc X.env (firstIterPos [⟨tg, src, ifs, 0⟩] dp) newDict false (eval src X.env) (some (assign (.Name y yp) X.env))) _ _ s
  have h : tDc wi g tt tk tv (own.map (·.2)) σ H (fun x H1 => gName j x σ H1 R.nx) := h
  refine wpAny_bind (thn (dc_core (Qf := fun _ s' => SP X pins R .next s') calm nd I hi ok hg ht hk hv hs h fun L C t m H' J q nC f => ?_) fun _ t z => wpAny_pure (wpAny_pure z))
  show wpAny _ _ (assign (.Name y yp) X.env (.ref L)) _ _ _
  refine wpAny_assign_Name (store_ok2 (v := V.ref L) J nd hy (.inl loc) rfl (fun t2 J2 ⟨a, sb, ha⟩ => ?_) (.inr loc))
  obtain ⟨f0, f1, f2, f3, f4, f5⟩ := f
  have ne : C ≠ a := ha.elim (fun z => by rw [z]; exact f1) fun z e => f4 y a z e.symm
  exact ⟨m, nC.sameBut sb ne, fun h3 sb3 => ⟨_, H', J2.turned (t' := t2.toks) (fun b o hb e => (sb3.2 b hb).trans e) f0 f1 f3 f4 f5, q⟩⟩
theorem sw_trueD {kx vx : Expr} {gs : List Comprehension} {sc : Scope} {pos py : Pos} {y : Str} {l : Nat} {env : Env} (fn : env.scope.kind = .function) (loc : env.scope.names.lookup y = some .local) (hl : (py.line == pos.line) = true)
    (no : (sc.names.any fun (n, k) => n == y && (k == .local || k == .cell)) = false) : swapsWith (.DictComp kx vx gs sc pos) (some (.Name y py)) l env = pure true := by
  have e1 : env.kindOf y = some .local := loc
  have e2 : env.blockKind = .function := by unfold Env.blockKind; rw [fn]; rfl
  unfold swapsWith
  simp only [e2, e1, no, Expr.pos, hl]
  rfl
end
theorem sgn_inj {a b : Nat} (h : sgn a = sgn b) : a = b := by
  have e2 : (#[a] : Array Nat) = #[b] := congrArg Str.cps h
  simpa using e2
theorem idx_at {z : List Nat} {c : Nat} (h : c ∈ z) : z[z.idxOf c]? = some c := by
  have hl := List.idxOf_lt_length_of_mem h
  rw [List.getElem?_eq_getElem hl]
  simp
theorem nd_at {z : List Nat} (h : z.Nodup) {i j : Nat} {c : Nat} (hi : z[i]? = some c) (hj : z[j]? = some c) : i = j := by
  obtain ⟨h1, e1⟩ := List.getElem?_eq_some_iff.mp hi
  obtain ⟨h2, e2⟩ := List.getElem?_eq_some_iff.mp hj
  have pw := List.pairwise_iff_getElem.mp h
  rcases Nat.lt_trichotomy i j with q | q | q
  · exact absurd (e1.trans e2.symm) (pw i j h1 h2 q)
  · exact q
  · exact absurd (e2.trans e1.symm) (pw j i h2 h1 q)
end Rg

set_option Elab.async false
set_option linter.all false
set_option maxRecDepth 100000
namespace Rg
open PySem PySem.Spec PyProof.Rows L2
/-! ### classes made by name -/
structure MkX (P : Program) (w : World) (K : PySem.W.Frag) (mg : Str → Option Value) (base : Heap) (CX : CXT) (k : Nat) (x : Str) (C : Addr) (sp : Sp) : Prop where
  ex : ∃ (f : Addr) (fd : FuncData) (ps : List Str), Mk K C f ∧ FnOk P w K mg base CX k f fd ps sp ∧ mg x = some (.ref C) ∧ Binds K fd ps []
section
variable {X : Cx} {CX : CXT} {k j : Nat} {C : Addr} {sp : Sp} {E : XK} {x : Str} {p pos : Pos} {e : Expr} {es : List Expr} {t : TA}
theorem pe_mkX (c : MkX X.prog X.w X.K X.mg X.base CX k x C sp) (hr : Room j X.A) (hk : k + 1 ≤ j) (hg : Gl X x) (hx : Passes CX X E) (ha : PA X (e :: es) t)
    (hdb : (x == ("__debug__" : Str)) = false := by decide) (he : starEach (e :: es) X.env = (false, eval e X.env) :: starEach es X.env := by rfl) (hpl : (backTo pos (starEach es X.env)).any (·.1) = false := by rfl) :
    PE X (.Call (.Name x p) (e :: es) [] pos) (tMake C sp [] E t) := by
  obtain ⟨f, fd, ps, M, F, hm, b⟩ := c.ex
  exact pe_make M F (hr.mono hk) hg hm b .nil hx ha hdb he hpl
end
/-- the keywords name parameters, nothing has a default -/
theorem FunD.kbindsP {K : PySem.W.Frag} {x qual : Str} {params : Arguments} {body : List Stmt} {scope : Scope} {f : Addr} {fd : FuncData} {ps : List Str} (F : FunD K x qual params body scope [] [] f fd) (n : Nat) (ks : List Str) (g : {α : Type} → List α → List α → List α)
    (hrel : ∀ {vs zs : List V} {us ws : List Value}, Vals vs us → Vals zs ws → Vals (g vs zs) (g us ws))
    (h : ∀ (kV doc pm : Value) (an : Option Addr) (cdv ct : Value) (us ws : List Value), us.length = n → ws.length = ks.length → bindArgs (PySem.W.fnOf x qual params body scope .none kV doc pm an cdv ct) ⟨us, ks.zip ws⟩ = pure (ps.zip (g us ws))) :
    KBn K fd ps n ks g g := by
  obtain ⟨oc, od, dV, kV, doc, pm, an, cdv, ct, osl, rfl, lk, hcd, hD, hK⟩ := F.ex
  rcases hD with ⟨_, rfl⟩ | ⟨e, _⟩
  · exact ⟨fun s us ws _ l1 l2 => .of_eq (h kV doc pm an cdv ct us ws l1 l2), fun r1 r2 => hrel r1 r2⟩
  · exact absurd rfl e
/-- the parameters in the order is of the written values -/
def byIx (is : List Nat) {α : Type} (us ws : List α) : List α := is.filterMap fun i => (us ++ ws)[i]?
theorem vals_app : ∀ {vs zs : List V} {us ws : List Value}, Vals vs us → Vals zs ws → Vals (vs ++ zs) (us ++ ws)
  | _, _, _, _, .nil, h => h
  | _, _, _, _, .cons a b, h => .cons a (vals_app b h)
theorem vals_get : ∀ {vs : List V} {us : List Value}, Vals vs us → ∀ i : Nat, (∃ v u, vs[i]? = some v ∧ us[i]? = some u ∧ RelV v u) ∨ (vs[i]? = none ∧ us[i]? = none)
  | _, _, .nil, i => .inr ⟨rfl, rfl⟩
  | _, _, .cons a b, 0 => .inl ⟨_, _, rfl, rfl, a⟩
  | _, _, .cons a b, i + 1 => vals_get b i
theorem vals_byIx {vs zs : List V} {us ws : List Value} (h1 : Vals vs us) (h2 : Vals zs ws) : ∀ is : List Nat, Vals (byIx is vs zs) (byIx is us ws)
  | [] => .nil
  | i :: is => by
    have r := vals_byIx h1 h2 is
    unfold byIx at r ⊢
    rcases vals_get (vals_app h1 h2) i with ⟨v, u, e1, e2, q⟩ | ⟨e1, e2⟩
    · rw [List.filterMap_cons_some e1, List.filterMap_cons_some e2]
      exact .cons q r
    · rw [List.filterMap_cons_none e1, List.filterMap_cons_none e2]
      exact r
/-! ### steps that write what was not there -/
theorem Step.fresh {W W' : Addr → Prop} {D H D' H' : Hp} (s : Step W D H D' H') (h : ∀ b, W b → H b = none) : Step W' D H D' H' := by
  obtain ⟨a, b, c, d, e⟩ := s
  refine ⟨a, b, fun x o _ q => c x o (fun z => ?_) q, d, e⟩
  rw [h x z] at q
  cases q
theorem ixN0 {n : Nat} (h : 0 < n) : ixN n 0 = some 0 := by
  unfold ixN
  rw [if_pos (Int.le_refl 0), if_pos (by omega)]
  rfl
/-! ### joined signs -/
theorem join_signs : ∀ cs : List Nat, TL.joinL [] (cs.map fun c => [c]) = cs
  | [] => rfl
  | [c] => rfl
  | c :: d :: r => by
    have e := join_signs (d :: r)
    show [c] ++ ([] ++ TL.joinL [] ((d :: r).map fun c => [c])) = _
    rw [e]
    rfl
theorem join_sgn (cs : List Nat) : Txt.join "" (cs.map sgn) = SX.S cs := by
  have e : cs.map sgn = (cs.map fun c => [c]).map SX.S := by
    rw [List.map_map]
    rfl
  have e0 : ("" : Str) = SX.S [] := rfl
  rw [e, e0, SX.join_S, join_signs]
theorem sum_sgn (cs : List Nat) : ((cs.map sgn).map (·.length)).sum = cs.length := by
  induction cs with
  | nil => rfl
  | cons c r ih =>
    rw [List.map_cons, List.map_cons, List.sum_cons, ih, List.length_cons]
    show 1 + r.length = _
    omega
end Rg

set_option Elab.async false
set_option linter.all false
set_option maxRecDepth 100000
set_option maxHeartbeats 4000000
namespace Rg
open PySem PySem.Spec PyProof.Rows L2

def topS (i : Nat) : Stmt := PySem.Challenge.pw_rowgames_k17_machines_made.main.body.getD i (.Pass ⟨0, 0, 0, 0⟩)
abbrev s_draw : Stmt := topS 32
theorem sc_draw : FnScope ["_law_pen_here", "_law_many", "_law_digit", "_law_at", "_law_cell", "_law_great", "_law_mixed"] ["_law_pen_here", "_law_many"] (defScope s_draw) := ⟨rfl, rfl, rfl, by decide +kernel, rfl, by decide +kernel, by decide +kernel⟩
abbrev s_isLetter : Stmt := topS 20
theorem sc_isLetter : FnScope ["thing"] ["thing"] (defScope s_isLetter) := ⟨rfl, rfl, rfl, by decide +kernel, rfl, by decide +kernel, by decide +kernel⟩
abbrev s_isRow : Stmt := topS 21
theorem sc_isRow : FnScope ["signs", "thing", "sign"] ["signs", "thing"] (defScope s_isRow) := ⟨rfl, rfl, rfl, by decide +kernel, rfl, by decide +kernel, by decide +kernel⟩
abbrev s_needRow : Stmt := topS 22
theorem sc_needRow : FnScope ["signs", "row", "at", "sign"] ["signs", "row"] (defScope s_needRow) := ⟨rfl, rfl, rfl, by decide +kernel, rfl, by decide +kernel, by decide +kernel⟩
abbrev s_isWhole : Stmt := topS 24
theorem sc_isWhole : FnScope ["thing", "least", "most"] ["thing", "least", "most"] (defScope s_isWhole) := ⟨rfl, rfl, rfl, by decide +kernel, rfl, by decide +kernel, by decide +kernel⟩
abbrev s_needSigns : Stmt := topS 27
theorem sc_needSigns : FnScope ["signs", "sign"] ["signs"] (defScope s_needSigns) := ⟨rfl, rfl, rfl, by decide +kernel, rfl, by decide +kernel, by decide +kernel⟩
abbrev s_isStep : Stmt := topS 28
theorem sc_isStep : FnScope ["thing", "many", "states", "state"] ["thing", "many", "states"] (defScope s_isStep) := ⟨rfl, rfl, rfl, by decide +kernel, rfl, by decide +kernel, by decide +kernel⟩
abbrev s_init : Stmt := inClass (topS 29) 0
theorem sc_init : FnScope ["self", "signs", "steps", "told", "step", "mark"] ["self", "signs", "steps", "told"] (defScope s_init) := ⟨rfl, rfl, rfl, by decide +kernel, rfl, by decide +kernel, by decide +kernel⟩
abbrev s_step : Stmt := inClass (topS 29) 7
theorem sc_step : FnScope ["self", "state", "text", "indexes", "sign", "at"] ["self", "state", "text"] (defScope s_step) := ⟨rfl, rfl, rfl, by decide +kernel, rfl, by decide +kernel, by decide +kernel⟩
abbrev s_state : Stmt := inClass (topS 29) 8
theorem sc_state : FnScope ["self", "row"] ["self", "row"] (defScope s_state) := ⟨rfl, rfl, rfl, by decide +kernel, rfl, by decide +kernel, by decide +kernel⟩
abbrev s_mlen : Stmt := inClass (topS 29) 16
theorem sc_mlen : FnScope ["self"] ["self"] (defScope s_mlen) := ⟨rfl, rfl, rfl, by decide +kernel, rfl, by decide +kernel, by decide +kernel⟩
abbrev s_mget : Stmt := inClass (topS 29) 17
theorem sc_mget : FnScope ["self", "row"] ["self", "row"] (defScope s_mget) := ⟨rfl, rfl, rfl, by decide +kernel, rfl, by decide +kernel, by decide +kernel⟩
abbrev s_mcon : Stmt := inClass (topS 29) 18
theorem sc_mcon : FnScope ["self", "thing"] ["self", "thing"] (defScope s_mcon) := ⟨rfl, rfl, rfl, by decide +kernel, rfl, by decide +kernel, by decide +kernel⟩
abbrev s_pen : Stmt := topS 31
theorem sc_pen : FnScope ["_law_script"] ["_law_script"] (defScope s_pen) := ⟨rfl, rfl, rfl, by decide +kernel, rfl, by decide +kernel, by decide +kernel⟩
abbrev s_pick : Stmt := topS 33
theorem sc_pick : FnScope ["_law_pen_here", "_law_some"] ["_law_pen_here", "_law_some"] (defScope s_pick) := ⟨rfl, rfl, rfl, by decide +kernel, rfl, by decide +kernel, by decide +kernel⟩
abbrev s_lets : Stmt := topS 34
theorem sc_lets : FnScope ["_law_pen_here"] ["_law_pen_here"] (defScope s_lets) := ⟨rfl, rfl, rfl, by decide +kernel, rfl, by decide +kernel, by decide +kernel⟩
abbrev s_plan : Stmt := topS 35
theorem sc_plan : FnScope ["_law_pen_here", "_law_letters_here", "_law_bound", "_law_many", "_law_table", "_law_spot_here", "_law_letter"] ["_law_pen_here", "_law_letters_here", "_law_bound"] (defScope s_plan) := ⟨rfl, rfl, rfl, by decide +kernel, rfl, by decide +kernel, by decide +kernel⟩
abbrev s_spot : Stmt := topS 36
theorem sc_spot : FnScope ["_law_letters_here", "_law_table", "_law_begin", "_law_word_here", "_law_spot_here", "_law_letter"] ["_law_letters_here", "_law_table", "_law_begin", "_law_word_here"] (defScope s_spot) := ⟨rfl, rfl, rfl, by decide +kernel, rfl, by decide +kernel, by decide +kernel⟩
abbrev s_word : Stmt := topS 37
theorem sc_word : FnScope ["_law_pen_here", "_law_letters_here", "_law_bound", "_law_k"] ["_law_pen_here", "_law_letters_here", "_law_bound"] (defScope s_word) := ⟨rfl, rfl, rfl, by decide +kernel, rfl, by decide +kernel, by decide +kernel⟩
abbrev s_made : Stmt := topS 38
theorem sc_made : FnScope ["_law_pen_here", "_law_letters_here", "_law_table", "_law_marks", "_law_lines", "_law_heard", "_law_turn", "_law_made_here", "_law_line"] ["_law_pen_here", "_law_letters_here", "_law_table", "_law_marks"] (defScope s_made) := ⟨rfl, rfl, rfl, by decide +kernel, rfl, by decide +kernel, by decide +kernel⟩
abbrev s_right : Stmt := topS 39
theorem sc_right : FnScope ["_law_pen_here", "_law_letters_here", "_law_table", "_law_marks", "_law_made_here", "_law_due", "_law_k", "_law_word_here", "_law_begin", "_law_end", "_law_other", "_law_line"] ["_law_pen_here", "_law_letters_here", "_law_table", "_law_marks", "_law_made_here"] (defScope s_right) := ⟨rfl, rfl, rfl, by decide +kernel, rfl, by decide +kernel, by decide +kernel⟩
abbrev s_law : Stmt := topS 40
theorem sc_law : FnScope ["_law_script", "_law_pen_here", "_law_turn", "_law_letters_here", "_law_table", "_law_marks", "_law_made_here", "_law_again"] ["_law_script"] (defScope s_law) := ⟨rfl, rfl, rfl, by decide +kernel, rfl, by decide +kernel, by decide +kernel⟩
abbrev a_Machine (K : PySem.W.Frag) : Addr := He.ga K "Machine"
structure Tx (K : PySem.W.Frag) (mg : Str → Option Value) : Prop where
  f_len : mg "len" = none
  f_int : mg "int" = none
  f_abs : mg "abs" = none
  f_isinstance : mg "isinstance" = none
  f_str : mg "str" = none
  f_bool : mg "bool" = none
  f_list : mg "list" = none
  f_tuple : mg "tuple" = none
  f_all : mg "all" = none
  f_enumerate : mg "enumerate" = none
  f_range : mg "range" = none
  f_set : mg "set" = none
  f_repr : mg "repr" = none
  g_LETTERS : ∃ u, mg "LETTERS" = some u ∧ RelV (.str "abcdefghijklmnopqrstuvwxyz") u
  g_MOST_SIGNS : ∃ u, mg "MOST_SIGNS" = some u ∧ RelV (.int 4) u
  g_Machine : mg "Machine" = some (.ref (a_Machine K))
  cl_Machine : Cls K (a_Machine K)
  mk_Machine : Mk K (a_Machine K) (He.ma K (a_Machine K) "__init__")
  n_Machine_signs : NoAttr K (a_Machine K) "signs"
  n_Machine_steps : NoAttr K (a_Machine K) "steps"
  n_Machine_told : NoAttr K (a_Machine K) "told"
  g_draw : mg "_law_draw" = some (.ref (He.ga K "_law_draw"))
  d_draw : ∃ fd, FunD K "_law_draw" "_law_draw" (defArgs s_draw) (defBody s_draw) (defScope s_draw) [] [] (He.ga K "_law_draw") fd
  g_isLetter : mg "is_letter" = some (.ref (He.ga K "is_letter"))
  d_isLetter : ∃ fd, FunD K "is_letter" "is_letter" (defArgs s_isLetter) (defBody s_isLetter) (defScope s_isLetter) [] [] (He.ga K "is_letter") fd
  g_isRow : mg "is_row" = some (.ref (He.ga K "is_row"))
  d_isRow : ∃ fd, FunD K "is_row" "is_row" (defArgs s_isRow) (defBody s_isRow) (defScope s_isRow) [] [] (He.ga K "is_row") fd
  g_needRow : mg "need_row" = some (.ref (He.ga K "need_row"))
  d_needRow : ∃ fd, FunD K "need_row" "need_row" (defArgs s_needRow) (defBody s_needRow) (defScope s_needRow) [] [] (He.ga K "need_row") fd
  g_isWhole : mg "is_whole" = some (.ref (He.ga K "is_whole"))
  d_isWhole : ∃ fd, FunD K "is_whole" "is_whole" (defArgs s_isWhole) (defBody s_isWhole) (defScope s_isWhole) [.non] [] (He.ga K "is_whole") fd
  g_needSigns : mg "need_signs" = some (.ref (He.ga K "need_signs"))
  d_needSigns : ∃ fd, FunD K "need_signs" "need_signs" (defArgs s_needSigns) (defBody s_needSigns) (defScope s_needSigns) [] [] (He.ga K "need_signs") fd
  g_isStep : mg "is_step" = some (.ref (He.ga K "is_step"))
  d_isStep : ∃ fd, FunD K "is_step" "is_step" (defArgs s_isStep) (defBody s_isStep) (defScope s_isStep) [] [] (He.ga K "is_step") fd
  d_init : ∃ fd, FunD K "__init__" "Machine.__init__" (defArgs s_init) (defBody s_init) (defScope s_init) [] [] (He.ma K (a_Machine K) "__init__") fd
  m_step : Meth K (a_Machine K) "step" (He.ma K (a_Machine K) "step")
  d_step : ∃ fd, FunD K "step" "Machine.step" (defArgs s_step) (defBody s_step) (defScope s_step) [] [] (He.ma K (a_Machine K) "step") fd
  m_state : Meth K (a_Machine K) "state" (He.ma K (a_Machine K) "state")
  d_state : ∃ fd, FunD K "state" "Machine.state" (defArgs s_state) (defBody s_state) (defScope s_state) [] [] (He.ma K (a_Machine K) "state") fd
  m_mlen : Meth K (a_Machine K) "__len__" (He.ma K (a_Machine K) "__len__")
  d_mlen : ∃ fd, FunD K "__len__" "Machine.__len__" (defArgs s_mlen) (defBody s_mlen) (defScope s_mlen) [] [] (He.ma K (a_Machine K) "__len__") fd
  m_mget : Meth K (a_Machine K) "__getitem__" (He.ma K (a_Machine K) "__getitem__")
  d_mget : ∃ fd, FunD K "__getitem__" "Machine.__getitem__" (defArgs s_mget) (defBody s_mget) (defScope s_mget) [] [] (He.ma K (a_Machine K) "__getitem__") fd
  m_mcon : Meth K (a_Machine K) "__contains__" (He.ma K (a_Machine K) "__contains__")
  d_mcon : ∃ fd, FunD K "__contains__" "Machine.__contains__" (defArgs s_mcon) (defBody s_mcon) (defScope s_mcon) [] [] (He.ma K (a_Machine K) "__contains__") fd
  g_pen : mg "_law_pen" = some (.ref (He.ga K "_law_pen"))
  d_pen : ∃ fd, FunD K "_law_pen" "_law_pen" (defArgs s_pen) (defBody s_pen) (defScope s_pen) [] [] (He.ga K "_law_pen") fd
  g_pick : mg "_law_pick" = some (.ref (He.ga K "_law_pick"))
  d_pick : ∃ fd, FunD K "_law_pick" "_law_pick" (defArgs s_pick) (defBody s_pick) (defScope s_pick) [] [] (He.ga K "_law_pick") fd
  g_lets : mg "_law_letters" = some (.ref (He.ga K "_law_letters"))
  d_lets : ∃ fd, FunD K "_law_letters" "_law_letters" (defArgs s_lets) (defBody s_lets) (defScope s_lets) [] [] (He.ga K "_law_letters") fd
  g_plan : mg "_law_plan" = some (.ref (He.ga K "_law_plan"))
  d_plan : ∃ fd, FunD K "_law_plan" "_law_plan" (defArgs s_plan) (defBody s_plan) (defScope s_plan) [] [] (He.ga K "_law_plan") fd
  g_spot : mg "_law_spot" = some (.ref (He.ga K "_law_spot"))
  d_spot : ∃ fd, FunD K "_law_spot" "_law_spot" (defArgs s_spot) (defBody s_spot) (defScope s_spot) [] [] (He.ga K "_law_spot") fd
  g_word : mg "_law_word" = some (.ref (He.ga K "_law_word"))
  d_word : ∃ fd, FunD K "_law_word" "_law_word" (defArgs s_word) (defBody s_word) (defScope s_word) [] [] (He.ga K "_law_word") fd
  g_made : mg "_law_made" = some (.ref (He.ga K "_law_made"))
  d_made : ∃ fd, FunD K "_law_made" "_law_made" (defArgs s_made) (defBody s_made) (defScope s_made) [] [] (He.ga K "_law_made") fd
  g_right : mg "_law_right" = some (.ref (He.ga K "_law_right"))
  d_right : ∃ fd, FunD K "_law_right" "_law_right" (defArgs s_right) (defBody s_right) (defScope s_right) [] [] (He.ga K "_law_right") fd
  g_law : mg "law" = some (.ref (He.ga K "law"))
  d_law : ∃ fd, FunD K "law" "law" (defArgs s_law) (defBody s_law) (defScope s_law) [] [] (He.ga K "law") fd
  getIn : PySem.W.fnIn K (He.ma K (a_Machine K) "__getitem__") = true
section
variable {P : Program} {w : World} {K : PySem.W.Frag} {mg : Str → Option Value} {base : Heap}
theorem c_draw {k : Nat} {sp : Sp} (T : Tx K mg) (h : ∀ fd, FunD K "_law_draw" "_law_draw" (defArgs s_draw) (defBody s_draw) (defScope s_draw) [] [] (He.ga K "_law_draw") fd → FnOk P w K mg base CX0 k (He.ga K "_law_draw") fd ["_law_pen_here", "_law_many"] sp) : CalX P w K mg base CX0 k "_law_draw" sp := by
  obtain ⟨fd, F⟩ := T.d_draw
  exact ⟨_, fd, _, h fd F, T.g_draw, F.kp, F.bindsN fun _ _ _ _ _ _ us hl => match us, hl with | [_, _], _ => rfl⟩
theorem c_isLetter {k : Nat} {sp : Sp} (T : Tx K mg) (h : ∀ fd, FunD K "is_letter" "is_letter" (defArgs s_isLetter) (defBody s_isLetter) (defScope s_isLetter) [] [] (He.ga K "is_letter") fd → FnOk P w K mg base CX0 k (He.ga K "is_letter") fd ["thing"] sp) : CalX P w K mg base CX0 k "is_letter" sp := by
  obtain ⟨fd, F⟩ := T.d_isLetter
  exact ⟨_, fd, _, h fd F, T.g_isLetter, F.kp, F.bindsN fun _ _ _ _ _ _ us hl => match us, hl with | [_], _ => rfl⟩
theorem c_isRow {k : Nat} {sp : Sp} (T : Tx K mg) (h : ∀ fd, FunD K "is_row" "is_row" (defArgs s_isRow) (defBody s_isRow) (defScope s_isRow) [] [] (He.ga K "is_row") fd → FnOk P w K mg base CX0 k (He.ga K "is_row") fd ["signs", "thing"] sp) : CalX P w K mg base CX0 k "is_row" sp := by
  obtain ⟨fd, F⟩ := T.d_isRow
  exact ⟨_, fd, _, h fd F, T.g_isRow, F.kp, F.bindsN fun _ _ _ _ _ _ us hl => match us, hl with | [_, _], _ => rfl⟩
theorem c_needRow {k : Nat} {sp : Sp} (T : Tx K mg) (h : ∀ fd, FunD K "need_row" "need_row" (defArgs s_needRow) (defBody s_needRow) (defScope s_needRow) [] [] (He.ga K "need_row") fd → FnOk P w K mg base CX0 k (He.ga K "need_row") fd ["signs", "row"] sp) : CalX P w K mg base CX0 k "need_row" sp := by
  obtain ⟨fd, F⟩ := T.d_needRow
  exact ⟨_, fd, _, h fd F, T.g_needRow, F.kp, F.bindsN fun _ _ _ _ _ _ us hl => match us, hl with | [_, _], _ => rfl⟩
theorem c_needSigns {k : Nat} {sp : Sp} (T : Tx K mg) (h : ∀ fd, FunD K "need_signs" "need_signs" (defArgs s_needSigns) (defBody s_needSigns) (defScope s_needSigns) [] [] (He.ga K "need_signs") fd → FnOk P w K mg base CX0 k (He.ga K "need_signs") fd ["signs"] sp) : CalX P w K mg base CX0 k "need_signs" sp := by
  obtain ⟨fd, F⟩ := T.d_needSigns
  exact ⟨_, fd, _, h fd F, T.g_needSigns, F.kp, F.bindsN fun _ _ _ _ _ _ us hl => match us, hl with | [_], _ => rfl⟩
theorem c_isStep {k : Nat} {sp : Sp} (T : Tx K mg) (h : ∀ fd, FunD K "is_step" "is_step" (defArgs s_isStep) (defBody s_isStep) (defScope s_isStep) [] [] (He.ga K "is_step") fd → FnOk P w K mg base CX0 k (He.ga K "is_step") fd ["thing", "many", "states"] sp) : CalX P w K mg base CX0 k "is_step" sp := by
  obtain ⟨fd, F⟩ := T.d_isStep
  exact ⟨_, fd, _, h fd F, T.g_isStep, F.kp, F.bindsN fun _ _ _ _ _ _ us hl => match us, hl with | [_, _, _], _ => rfl⟩
theorem b_init (T : Tx K mg) {fd : FuncData} (F : FunD K "__init__" "Machine.__init__" (defArgs s_init) (defBody s_init) (defScope s_init) [] [] (He.ma K (a_Machine K) "__init__") fd) : Binds K fd ["self", "signs", "steps", "told"] [] := F.bindsN fun _ _ _ _ _ _ us hl => match us, hl with | [_, _, _, _], _ => rfl
theorem c_step {k : Nat} {sp : Sp} (T : Tx K mg) (h : ∀ fd, FunD K "step" "Machine.step" (defArgs s_step) (defBody s_step) (defScope s_step) [] [] (He.ma K (a_Machine K) "step") fd → FnOk P w K mg base CX0 k (He.ma K (a_Machine K) "step") fd ["self", "state", "text"] sp) : MetX P w K mg base CX0 k (a_Machine K) "step" sp := by
  obtain ⟨fd, F⟩ := T.d_step
  exact ⟨_, fd, _, T.m_step, h fd F, F.bindsN fun _ _ _ _ _ _ us hl => match us, hl with | [_, _, _], _ => rfl⟩
theorem c_state {k : Nat} {sp : Sp} (T : Tx K mg) (h : ∀ fd, FunD K "state" "Machine.state" (defArgs s_state) (defBody s_state) (defScope s_state) [] [] (He.ma K (a_Machine K) "state") fd → FnOk P w K mg base CX0 k (He.ma K (a_Machine K) "state") fd ["self", "row"] sp) : MetX P w K mg base CX0 k (a_Machine K) "state" sp := by
  obtain ⟨fd, F⟩ := T.d_state
  exact ⟨_, fd, _, T.m_state, h fd F, F.bindsN fun _ _ _ _ _ _ us hl => match us, hl with | [_, _], _ => rfl⟩
theorem c_mlen {k : Nat} {sp : Sp} (T : Tx K mg) (h : ∀ fd, FunD K "__len__" "Machine.__len__" (defArgs s_mlen) (defBody s_mlen) (defScope s_mlen) [] [] (He.ma K (a_Machine K) "__len__") fd → FnOk P w K mg base CX0 k (He.ma K (a_Machine K) "__len__") fd ["self"] sp) : MetX P w K mg base CX0 k (a_Machine K) "__len__" sp := by
  obtain ⟨fd, F⟩ := T.d_mlen
  exact ⟨_, fd, _, T.m_mlen, h fd F, F.bindsN fun _ _ _ _ _ _ us hl => match us, hl with | [_], _ => rfl⟩
theorem c_mget {k : Nat} {sp : Sp} (T : Tx K mg) (h : ∀ fd, FunD K "__getitem__" "Machine.__getitem__" (defArgs s_mget) (defBody s_mget) (defScope s_mget) [] [] (He.ma K (a_Machine K) "__getitem__") fd → FnOk P w K mg base CX0 k (He.ma K (a_Machine K) "__getitem__") fd ["self", "row"] sp) : MetX P w K mg base CX0 k (a_Machine K) "__getitem__" sp := by
  obtain ⟨fd, F⟩ := T.d_mget
  exact ⟨_, fd, _, T.m_mget, h fd F, F.bindsN fun _ _ _ _ _ _ us hl => match us, hl with | [_, _], _ => rfl⟩
theorem c_mcon {k : Nat} {sp : Sp} (T : Tx K mg) (h : ∀ fd, FunD K "__contains__" "Machine.__contains__" (defArgs s_mcon) (defBody s_mcon) (defScope s_mcon) [] [] (He.ma K (a_Machine K) "__contains__") fd → FnOk P w K mg base CX0 k (He.ma K (a_Machine K) "__contains__") fd ["self", "thing"] sp) : MetX P w K mg base CX0 k (a_Machine K) "__contains__" sp := by
  obtain ⟨fd, F⟩ := T.d_mcon
  exact ⟨_, fd, _, T.m_mcon, h fd F, F.bindsN fun _ _ _ _ _ _ us hl => match us, hl with | [_, _], _ => rfl⟩
theorem c_pen {k : Nat} {sp : Sp} (T : Tx K mg) (h : ∀ fd, FunD K "_law_pen" "_law_pen" (defArgs s_pen) (defBody s_pen) (defScope s_pen) [] [] (He.ga K "_law_pen") fd → FnOk P w K mg base CX0 k (He.ga K "_law_pen") fd ["_law_script"] sp) : CalX P w K mg base CX0 k "_law_pen" sp := by
  obtain ⟨fd, F⟩ := T.d_pen
  exact ⟨_, fd, _, h fd F, T.g_pen, F.kp, F.bindsN fun _ _ _ _ _ _ us hl => match us, hl with | [_], _ => rfl⟩
theorem c_pick {k : Nat} {sp : Sp} (T : Tx K mg) (h : ∀ fd, FunD K "_law_pick" "_law_pick" (defArgs s_pick) (defBody s_pick) (defScope s_pick) [] [] (He.ga K "_law_pick") fd → FnOk P w K mg base CX0 k (He.ga K "_law_pick") fd ["_law_pen_here", "_law_some"] sp) : CalX P w K mg base CX0 k "_law_pick" sp := by
  obtain ⟨fd, F⟩ := T.d_pick
  exact ⟨_, fd, _, h fd F, T.g_pick, F.kp, F.bindsN fun _ _ _ _ _ _ us hl => match us, hl with | [_, _], _ => rfl⟩
theorem c_lets {k : Nat} {sp : Sp} (T : Tx K mg) (h : ∀ fd, FunD K "_law_letters" "_law_letters" (defArgs s_lets) (defBody s_lets) (defScope s_lets) [] [] (He.ga K "_law_letters") fd → FnOk P w K mg base CX0 k (He.ga K "_law_letters") fd ["_law_pen_here"] sp) : CalX P w K mg base CX0 k "_law_letters" sp := by
  obtain ⟨fd, F⟩ := T.d_lets
  exact ⟨_, fd, _, h fd F, T.g_lets, F.kp, F.bindsN fun _ _ _ _ _ _ us hl => match us, hl with | [_], _ => rfl⟩
theorem c_plan {k : Nat} {sp : Sp} (T : Tx K mg) (h : ∀ fd, FunD K "_law_plan" "_law_plan" (defArgs s_plan) (defBody s_plan) (defScope s_plan) [] [] (He.ga K "_law_plan") fd → FnOk P w K mg base CX0 k (He.ga K "_law_plan") fd ["_law_pen_here", "_law_letters_here", "_law_bound"] sp) : CalX P w K mg base CX0 k "_law_plan" sp := by
  obtain ⟨fd, F⟩ := T.d_plan
  exact ⟨_, fd, _, h fd F, T.g_plan, F.kp, F.bindsN fun _ _ _ _ _ _ us hl => match us, hl with | [_, _, _], _ => rfl⟩
theorem c_spot {k : Nat} {sp : Sp} (T : Tx K mg) (h : ∀ fd, FunD K "_law_spot" "_law_spot" (defArgs s_spot) (defBody s_spot) (defScope s_spot) [] [] (He.ga K "_law_spot") fd → FnOk P w K mg base CX0 k (He.ga K "_law_spot") fd ["_law_letters_here", "_law_table", "_law_begin", "_law_word_here"] sp) : CalX P w K mg base CX0 k "_law_spot" sp := by
  obtain ⟨fd, F⟩ := T.d_spot
  exact ⟨_, fd, _, h fd F, T.g_spot, F.kp, F.bindsN fun _ _ _ _ _ _ us hl => match us, hl with | [_, _, _, _], _ => rfl⟩
theorem c_word {k : Nat} {sp : Sp} (T : Tx K mg) (h : ∀ fd, FunD K "_law_word" "_law_word" (defArgs s_word) (defBody s_word) (defScope s_word) [] [] (He.ga K "_law_word") fd → FnOk P w K mg base CX0 k (He.ga K "_law_word") fd ["_law_pen_here", "_law_letters_here", "_law_bound"] sp) : CalX P w K mg base CX0 k "_law_word" sp := by
  obtain ⟨fd, F⟩ := T.d_word
  exact ⟨_, fd, _, h fd F, T.g_word, F.kp, F.bindsN fun _ _ _ _ _ _ us hl => match us, hl with | [_, _, _], _ => rfl⟩
theorem c_made {k : Nat} {sp : Sp} (T : Tx K mg) (h : ∀ fd, FunD K "_law_made" "_law_made" (defArgs s_made) (defBody s_made) (defScope s_made) [] [] (He.ga K "_law_made") fd → FnOk P w K mg base CX0 k (He.ga K "_law_made") fd ["_law_pen_here", "_law_letters_here", "_law_table", "_law_marks"] sp) : CalX P w K mg base CX0 k "_law_made" sp := by
  obtain ⟨fd, F⟩ := T.d_made
  exact ⟨_, fd, _, h fd F, T.g_made, F.kp, F.bindsN fun _ _ _ _ _ _ us hl => match us, hl with | [_, _, _, _], _ => rfl⟩
theorem c_right {k : Nat} {sp : Sp} (T : Tx K mg) (h : ∀ fd, FunD K "_law_right" "_law_right" (defArgs s_right) (defBody s_right) (defScope s_right) [] [] (He.ga K "_law_right") fd → FnG P w K mg base CX0 k (He.ga K "_law_right") fd ["_law_pen_here", "_law_letters_here", "_law_table", "_law_marks", "_law_made_here"] sp) : CalG P w K mg base CX0 k "_law_right" sp := by
  obtain ⟨fd, F⟩ := T.d_right
  exact ⟨_, fd, _, h fd F, T.g_right, F.kp, F.bindsN fun _ _ _ _ _ _ us hl => match us, hl with | [_, _, _, _, _], _ => rfl⟩
end
end Rg
namespace Rg
open PySem PySem.Spec PyProof.Rows L2
section
variable {P : Program} {w : World} {K : PySem.W.Frag} {mg : Str → Option Value} {base : Heap}
theorem canLay_ints : ∀ ns : List Int, PyData.canLayAll0 (ns.map PyData.int) = true
  | [] => rfl
  | n :: r => by
    show (true && PyData.canLayAll0 (r.map PyData.int)) = true
    rw [canLay_ints r] <;> rfl
theorem depth_ints : ∀ ns : List Int, PyData.depthAll (ns.map PyData.int) = 0
  | [] => rfl
  | n :: r => by
    show max 0 (PyData.depthAll (r.map PyData.int)) = 0
    rw [depth_ints r] <;> rfl
theorem shaped_ints (ns : List Int) : SeqAt.shaped (.list (ns.map PyData.int)) = true := by
  unfold SeqAt.shaped
  rw [Bool.and_eq_true]
  refine ⟨canLay_ints ns, decide_eq_true ?_⟩
  show PyData.depthAll (ns.map PyData.int) + 1 ≤ 64
  rw [depth_ints]
  decide
theorem mul_bd {a b A B : Int} (a0 : 0 ≤ a) (aA : a ≤ A) (b0 : 0 ≤ b) (bB : b ≤ B) : 0 ≤ a * b ∧ a * b ≤ A * B :=
  ⟨Int.mul_nonneg a0 b0, Int.le_trans (Int.mul_le_mul_of_nonneg_right aA b0) (Int.mul_le_mul_of_nonneg_left bB (Int.le_trans a0 aA))⟩
theorem ok_draw {f : Addr} {fd : FuncData} (F : FunD K "_law_draw" "_law_draw" (defArgs s_draw) (defBody s_draw) (defScope s_draw) [] [] f fd) (T : Tx K mg) : FnOk P w K mg base CX0 1 f fd ["_law_pen_here", "_law_many"] (spDraw K) := by
  refine F.ok sc_draw (fun vs H Q E h => ?_) (fun cdv A outer s H vs Q E hr h => ?_)
  · obtain ⟨D, p, m, n, rfl, _⟩ := h
    rfl
  · obtain ⟨D, p, m, n, rfl, sd, pn, hm1, hm2, k⟩ := h
    obtain ⟨out, q, ns, t, g, hp, hq, t0, tn⟩ := id pn
    refine ⟨_, PSs.nox (pss_cons (ps_if (pt_cmpR op_gt (pe_ix (ix_listK K) (pv 0) pe_int (fun _ _ => rfl)) pe_int (nomark _))
      (pss_cons (ps_set (i := 2) sc_draw.nd rfl (Or.inl rfl) (pe_op op_mod (pe_callTy call_int1 (by rfl) T.f_int (by decide +kernel) (pa_cons (pe_ix (ix_listK K) (pv 0) pe_int (fun _ _ => rfl)) pa_nil)) (pv 1)))
      (pss_cons (ps_asg (pe_op op_fdiv (pe_callTy call_int1 (by rfl) T.f_int (by decide +kernel) (pa_cons (pe_ix (ix_listK K) (pv 0) pe_int (fun _ _ => rfl)) pa_nil)) (pv 1)) (pg_sub (pv 0) pe_int set_list))
      (pss_one (ps_ret (pv 2))))) pss_nil)
      (pss_cons (ps_set (i := 3) sc_draw.nd rfl (Or.inl rfl) (pe_ix (ix_listK K) (pv 0) pe_int (fun _ _ => rfl)))
      (pss_cons (ps_asg (pe_op op_add (pv 3) pe_int) (pg_sub (pv 0) pe_int set_list))
      (pss_cons (ps_set (i := 4) sc_draw.nd rfl (Or.inl rfl) (pe_op op_add (pe_op op_mul pe_int (pv 3)) pe_int))
      (C8.pss_cut (ps_if (pt_cmpR (op_neDK K hr.units) (pe_ix (ix_listK K) (pv 0) pe_int (fun _ _ => rfl)) (pe_lst pa_nil) (nomark _))
      (pss_one (ps_set (i := 4) sc_draw.nd rfl (Or.inl rfl) (pe_ix (ix_listK K) (pe_ix (ix_listK K) (pv 0) pe_int (fun _ _ => rfl)) (pe_op op_mod (pe_callTy call_int1 (by rfl) T.f_int (by decide +kernel) (pa_cons (pv 3) pa_nil)) (pe_callB (call_len_seqK K) (by rfl) T.f_len (by decide +kernel) (pa_cons (pe_ix (ix_listK K) (pv 0) pe_int (fun _ _ => rfl)) pa_nil))) (fun _ _ => rfl)))) pss_nil)
      (C8.pss_cut (ps_if (PW.pt (pw_and (pt_cmpR op_lt (pv 3) (pe_callB (call_len_seqK K) (by rfl) T.f_len (by decide +kernel) (pa_cons (pe_ix (ix_listK K) (pv 0) pe_int (fun _ _ => rfl)) pa_nil)) (nomark _)) (pw_and1 (pt_cmpR op_ge (pe_callB call_abs (by rfl) T.f_abs (by decide +kernel) (pa_cons (pv 4) pa_nil)) (pe_op op_pow pe_int pe_int) (nomark _)))))
      (pss_cons (ps_set (i := 5) sc_draw.nd rfl (Or.inl rfl) (pe_op op_add (pe_op op_mul pe_int (pe_op op_sub (pe_callB call_abs (by rfl) T.f_abs (by decide +kernel) (pa_cons (pv 4) pa_nil)) (pe_op op_pow pe_int pe_int))) (pe_callTy call_int1 (by rfl) T.f_int (by decide +kernel) (pa_cons (pe_cmpR op_lt (pv 4) pe_int (nomark _)) pa_nil))))
      (pss_cons (ps_asg (pe_op op_fdiv (pe_callTy call_int1 (by rfl) T.f_int (by decide +kernel) (pa_cons (pv 5) pa_nil)) (pv 1)) (pg_sub (pv 0) pe_int set_list))
      (pss_one (ps_ret (pe_op op_mod (pe_callTy call_int1 (by rfl) T.f_int (by decide +kernel) (pa_cons (pv 5) pa_nil)) (pv 1)))))) pss_nil)
      (pss_cons (ps_set (i := 6) sc_draw.nd rfl (Or.inl rfl) (pe_op op_mod (pe_callTy call_int1 (by rfl) T.f_int (by decide +kernel) (pa_cons (pe_op op_pow (pe_op op_add (pe_op op_add (pe_op op_mod (pe_callTy call_int1 (by rfl) T.f_int (by decide +kernel) (pa_cons (pv 4) pa_nil)) pe_int) (pe_op op_mul pe_int (pv 3))) pe_int) pe_int) pa_nil)) pe_int))
      (pss_cons (ps_set (i := 6) sc_draw.nd rfl (Or.inl rfl) (pe_op op_mod (pe_callTy call_int1 (by rfl) T.f_int (by decide +kernel) (pa_cons (pe_op op_pow (pe_op op_add (pe_op op_add (pe_op op_mul (pv 6) (pe_op op_add (pe_op op_mul pe_int (pv 3)) pe_int)) (pe_op op_mul (pe_op op_mul pe_int (pv 3)) (pv 3))) pe_int) pe_int) pa_nil)) pe_int))
      (pss_one (ps_ret (pe_op op_mod (pe_callTy call_int1 (by rfl) T.f_int (by decide +kernel) (pa_cons (pe_op op_fdiv (pv 6) pe_int) pa_nil)) (pv 1)))))))))))), ?_⟩
    -- if pen[2] > 0
    refine ⟨_, rfl, p, _, _, _, rfl, rfl, SqL.of hp, rfl, _, _, rfl, rfl, _, rfl, ?_⟩
    refine ite2 (fun hg => ?_) (fun hg => ?_)
    · refine ⟨_, rfl, p, _, _, _, rfl, rfl, SqL.of hp, rfl, Or.inl ⟨_, rfl, _, rfl, _, _, rfl, rfl, (show (0 : Int) < m by omega), ?_⟩⟩
      refine ⟨_, rfl, p, _, _, _, rfl, rfl, SqL.of hp, rfl, Or.inl ⟨_, rfl, _, rfl, _, _, rfl, rfl, ⟨(show (0 : Int) < m by omega), (show m < 1073741824 by omega)⟩, _, rfl, p, _, _, _, rfl, rfl, hp, rfl, _, rfl, ?_⟩⟩
      refine k _ _ ((Step.refl sd).write (.inl rfl) out) ⟨out, q, ns, t, _, upd_same, hq, t0, by omega⟩ (Int.emod_nonneg _ (by omega)) (Int.emod_lt_of_pos _ (by omega))
    · -- at = pen[1]; pen[1] = at + 1; cell = ..
      refine ⟨_, rfl, p, _, _, _, rfl, rfl, SqL.of hp, rfl, ?_⟩
      refine ⟨_, rfl, _, _, rfl, rfl, _, rfl, p, _, _, _, rfl, rfl, hp, rfl, ?_⟩
      have hp1 : (upd H p (.lst [.ref q, .int (t + 1), .int g])) p = some (.lst [.ref q, .int (t + 1), .int g]) := upd_same
      have st1 : Step (· = p) D H D (upd H p (.lst [.ref q, .int (t + 1), .int g])) := (Step.refl sd).write (.inl rfl) out
      have hq1 : SqL K (upd H p (.lst [.ref q, .int (t + 1), .int g])) q (ns.map V.int) := st1.dh.seq hq
      refine ⟨_, rfl, _, _, rfl, rfl, Or.inl ⟨by decide, by decide⟩, _, _, rfl, rfl, ?_⟩
      refine ⟨fun σ' H' => ∃ (c : Int), σ' = [some (.ref p), some (.int m), none, some (.int t), some (.int c), none, none] ∧ Step (· = p) D H D H' ∧ H' p = some (.lst [.ref q, .int (t + 1), .int g]), ?_, ?_⟩
      · -- if pen[0] != []
        refine ⟨_, rfl, p, _, _, _, rfl, rfl, SqL.of hp1, rfl, (by decide), fun l hl => ?_⟩
        have st2 : Step (· = p) D H D (upd (upd H p (.lst [.ref q, .int (t + 1), .int g])) l (.lst [])) := st1.trans (Step.tmp st1.dh hl)
        have npl : p ≠ l := ne_of_none hp1 hl
        have hp2 : (upd (upd H p (.lst [.ref q, .int (t + 1), .int g])) l (.lst [])) p = some (.lst [.ref q, .int (t + 1), .int g]) := by rw [upd_ne npl]; exact hp1
        have hq2 := st2.dh.seq hq
        refine ⟨.list (ns.map PyData.int), .list [], .lst hq2 (dpAll_ints ns), .lst (SqL.of upd_same) .nil, shaped_ints ns, rfl, _, rfl, ?_⟩
        cases ns with
        | nil =>
          refine iteF ?_
          exact ⟨_, rfl, st2, hp2⟩
        | cons n0 nr =>
          refine iteT ?_
          have hlen : (0 : Int) < (((n0 :: nr).map V.int).length : Int) := by simp
          have hmod := Int.emod_nonneg t (show (((n0 :: nr).map V.int).length : Int) ≠ 0 by omega)
          have hlt := Int.emod_lt_of_pos t hlen
          obtain ⟨c, hc⟩ : ∃ c : Int, ((n0 :: nr).map V.int)[(t % (((n0 :: nr).map V.int).length : Int)).toNat]? = some (.int c) := by
            have hb : (t % (((n0 :: nr).map V.int).length : Int)).toNat < (n0 :: nr).length := by
              rw [List.length_map] at hmod hlt ⊢
              omega
            exact ⟨_, by rw [List.getElem?_map, List.getElem?_eq_getElem hb] <;> rfl⟩
          refine ⟨_, rfl, p, _, _, _, rfl, rfl, SqL.of hp2, rfl, _, rfl, Or.inl ⟨_, rfl, _, rfl, p, _, _, _, rfl, rfl, SqL.of hp2, rfl, q, _, rfl, .inl hq2, _, _, rfl, rfl, hlen, q, _, _, .int c, rfl, rfl, hq2, ?_, ?_⟩⟩
          · have e := atI_nat hc
            rw [Int.toNat_of_nonneg hmod] at e
            exact e
          · exact ⟨c, rfl, st2, hp2⟩
      · rintro σ' H' ⟨c, rfl, st, hpp⟩
        have hqq := st.dh.seq hq
        have pen' : ∀ (H2 : Hp) (g' : Int), Step (· = p) D H D H2 → H2 p = some (.lst [.ref q, .int (t + 1), .int g']) → PenAt K D H2 p n := fun H2 g' _ e => ⟨out, q, ns, t + 1, g', e, hq, by omega, by omega⟩
        -- if at < len(pen[0]) and abs(cell) >= 10 ** 18
        refine ⟨fun σ' H2 => σ' = [some (.ref p), some (.int m), none, some (.int t), some (.int c), none, none] ∧ H2 = H', ?_, ?_⟩
        · refine ⟨_, rfl, _, rfl, p, _, _, _, rfl, rfl, SqL.of hpp, rfl, q, _, rfl, .inl hqq, _, _, rfl, rfl, _, rfl, ?_⟩
          refine ite2 (fun h1 => ?_) (fun h1 => iteF ⟨rfl, rfl⟩)
          refine ⟨_, rfl, _, rfl, _, _, rfl, rfl, ⟨by decide, by decide, by decide⟩, _, _, rfl, rfl, _, rfl, ?_⟩
          refine ite2 (fun h2 => ?_) (fun h2 => ⟨rfl, rfl⟩)
          refine ⟨_, rfl, _, rfl, _, _, rfl, rfl, ⟨by decide, by decide, by decide⟩, _, _, rfl, rfl, _, _, rfl, rfl, Or.inl ⟨by decide, by decide⟩, _, rfl, _, _, rfl, rfl, Or.inr ⟨_, rfl, _, _, rfl, rfl, ?_⟩⟩
          refine ⟨_, rfl, Or.inl ⟨_, rfl, _, rfl, _, _, rfl, rfl, ⟨(show (0 : Int) < m by omega), (show m < 1073741824 by omega)⟩, _, rfl, p, _, _, _, rfl, rfl, hpp, rfl, ?_⟩⟩
          refine ⟨_, rfl, Or.inl ⟨_, rfl, _, rfl, _, _, rfl, rfl, (show (0 : Int) < m by omega), ?_⟩⟩
          have st3 := st.write (o := .lst [.ref q, .int (t + 1), .int ((2 * ((if c < 0 then -c else c) - 10 ^ 18) + if decide (c < 0) = true then 1 else 0) / m)]) (.inl rfl) out
          exact k _ _ st3 (pen' _ _ st3 upd_same) (Int.emod_nonneg _ (by omega)) (Int.emod_lt_of_pos _ (by omega))
        · rintro σ' H2 ⟨rfl, rfl⟩
          -- mixed = int((int(cell) % .. + .. * at + ..) ** 5) % ..
          refine ⟨_, rfl, Or.inl ⟨_, rfl, _, _, rfl, rfl, (by show (0 : Int) < _; decide), _, rfl, _, _, rfl, rfl, Or.inl ⟨by decide, by decide⟩, _, _, rfl, rfl, _, _, rfl, rfl, _, _, rfl, rfl, ⟨by decide, by decide, by omega⟩, Or.inl ⟨_, rfl, _, _, rfl, rfl, (by show (0 : Int) < _; decide), ?_⟩⟩⟩
          obtain ⟨x, hx⟩ : ∃ x : Int, x = (c % 2147483563 + 52791 * t + 469) ^ 5 % 2147483647 := ⟨_, rfl⟩
          have hx0 : 0 ≤ x := by rw [hx]; exact Int.emod_nonneg _ (by decide)
          have hx1 : x < 4294967296 := by rw [hx]; exact Int.lt_of_lt_of_le (Int.emod_lt_of_pos _ (by decide)) (by decide)
          have hy := mul_bd hx0 (Int.le_of_lt hx1) (show (0 : Int) ≤ 2 * t + 95 by omega) (show 2 * t + 95 ≤ 4000000 by omega)
          have hz := mul_bd (show (0 : Int) ≤ 66625 * t by omega) (show 66625 * t ≤ 100000 * 1000000 by omega) t0 (show t ≤ 1000000 by omega)
          refine ⟨_, rfl, _, rfl, _, _, rfl, rfl, Or.inl ⟨by decide, by decide⟩, _, _, rfl, rfl, _, _, rfl, rfl, Or.inr ⟨by omega, by omega⟩, _, rfl, _, _, rfl, rfl, Or.inl ⟨by decide, by decide⟩, _, rfl, _, _, rfl, rfl, Or.inr ⟨by omega, by omega⟩, _, _, rfl, rfl, _, _, rfl, rfl, _, _, rfl, rfl, ⟨by decide, by decide, ?_⟩, Or.inl ⟨_, rfl, _, _, rfl, rfl, (by show (0 : Int) < _; decide), ?_⟩⟩
          · show ((c % 2147483563 + 52791 * t + 469) ^ 5 % 2147483647 * (2 * t + 95) + 66625 * t * t + 41).natAbs < 2 ^ 64
            rw [← hx]
            omega
          refine ⟨_, rfl, _, _, rfl, rfl, ⟨by decide, by decide⟩, Or.inl ⟨_, rfl, _, rfl, _, _, rfl, rfl, (show (0 : Int) < m by omega), ?_⟩⟩
          exact k _ _ st (pen' _ _ st hpp) (Int.emod_nonneg _ (by omega)) (Int.emod_lt_of_pos _ (by omega))
theorem cDraw (T : Tx K mg) : CalX P w K mg base CX0 1 "_law_draw" (spDraw K) := c_draw T fun _ F => ok_draw F T
end
end Rg
namespace Rg
open PySem PySem.Spec PyProof.Rows L2
section
variable {P : Program} {w : World} {K : PySem.W.Frag} {mg : Str → Option Value} {base : Heap}
/-! ### is_letter -/
def spLetter : Sp := fun vs H Q _ => ∃ c : Nat, vs = [.str (sgn c)] ∧ Q (.bl (decide (c ∈ letters))) H
theorem ok_isLetter {f : Addr} {fd : FuncData} (F : FunD K "is_letter" "is_letter" (defArgs s_isLetter) (defBody s_isLetter) (defScope s_isLetter) [] [] f fd) (T : Tx K mg) : FnOk P w K mg base CX0 1 f fd ["thing"] spLetter := by
  refine F.ok sc_isLetter (fun vs H Q E h => ?_) (fun cdv A outer s H vs Q E hr h => ?_)
  · obtain ⟨c, rfl, _⟩ := h
    rfl
  · obtain ⟨c, rfl, k⟩ := h
    refine ⟨_, PSs.nox (pss_one (ps_ret (pe_and (pe_callB (call_isiK' K) (by rfl) T.f_isinstance (by decide +kernel) (pa_cons (pv 0) (pa_cons (pe_bltn (v := .ty "str") (by rfl) T.f_str (by decide +kernel) rfl) pa_nil))) (pe_and (pe_cmpR op_eq (pe_callB call_len_str (by rfl) T.f_len (by decide +kernel) (pa_cons (pv 0) pa_nil)) pe_int (nomark _)) (pe_one (pe_cmpR op_in_sign (pv 0) (C8.pe_gc (by rfl) T.g_LETTERS) (by rfl))))))), ?_⟩
    refine ⟨_, rfl, _, _, _, _, _, rfl, .ty _, .base (.str _), kit_ty (r := true) (by decide +kernel), _, rfl, iteT ?_⟩
    refine ⟨_, rfl, _, rfl, (by show 1 ≤ sizeLine; decide), rfl, _, rfl, iteT ?_⟩
    exact ⟨_, rfl, c, _, rfl, rfl, k⟩
theorem cLetter (T : Tx K mg) : CalX P w K mg base CX0 1 "is_letter" spLetter := c_isLetter T fun _ F => ok_isLetter F T
/-! ### is_row, need_row -/
def spRow : Sp := fun vs H Q _ => ∃ z x : Str, vs = [.str z, .str x] ∧ x.cps.toList.length ≤ 1000 ∧ ∀ H', Same H H' → Q (.bl (x.cps.toList.all fun c => decide (c ∈ z.cps.toList))) H'
theorem ok_isRow {f : Addr} {fd : FuncData} (F : FunD K "is_row" "is_row" (defArgs s_isRow) (defBody s_isRow) (defScope s_isRow) [] [] f fd) (T : Tx K mg) : FnOk P w K mg base CX0 1 f fd ["signs", "thing"] spRow := by
  refine F.ok sc_isRow (fun vs H Q E h => ?_) (fun cdv A outer s H vs Q E hr h => ?_)
  · obtain ⟨z, x, rfl, _⟩ := h
    rfl
  · obtain ⟨z, x, rfl, hx, k⟩ := h
    refine ⟨_, PSs.nox (pss_one (ps_ret (pe_and (pe_callB (call_isiK' K) (by rfl) T.f_isinstance (by decide +kernel) (pa_cons (pv 1) (pa_cons (pe_bltn (v := .ty "str") (by rfl) T.f_str (by decide +kernel) rfl) pa_nil))) (pe_one (pe_callB (cr_allK K (by rfl)) (by rfl) T.f_all (by decide +kernel) (pa_cons (pe_lc (own := [("sign", 2)]) (g := _) (tt := tYes) (by rfl) sc_isRow.nd (pi_str (pv 1)) (blkOk_by (by kernel_rfl)) (fun _ _ _ _ _ => (pg_name (i := 2) sc_isRow.nd rfl (Or.inl rfl))) (fun _ _ _ _ _ => pts_nil) (fun _ _ _ _ _ => (pe_cmpR op_in_sign (pv 2) (pv 0) (by rfl)))) pa_nil)))))), ?_⟩
    refine ⟨_, rfl, _, _, _, _, _, rfl, .ty _, .base (.str _), kit_ty (r := true) (by decide +kernel), _, rfl, iteT ?_⟩
    -- all([sign in signs for sign in thing])
    refine ⟨_, rfl, x, rfl, fun D hD => lc_it walk_str (fun i H' => Same H H' ∧ H' D = some (.lst ((x.cps.toList.take i).map fun c => V.bl (decide (c ∈ z.cps.toList))))) ⟨Same.new hD, upd_same⟩ (fun _ _ _ _ => trivial) ?_ ?_⟩
    · rintro i v H1 H2 hi ⟨s1, h1⟩ ⟨rfl, c, hc, rfl⟩
      have hc' : x.cps.toList[i]? = some c := by rw [← get_tl]; exact hc
      refine ⟨rfl, ?_⟩
      refine ⟨_, rfl, _, rfl, c, _, rfl, rfl, _, h1, ?_, Same.put s1 hD, ?_⟩
      · refine Nat.lt_of_le_of_lt ?_ (show 1000 < sizeLine by decide)
        rw [List.length_map, List.length_take]
        omega
      · rw [upd_same, take_more hc', List.map_append]
        rfl
    · rintro H1 ⟨s1, h1⟩
      rw [size_tl, List.take_length] at h1
      refine ⟨D, x.cps.toList.map fun c => decide (c ∈ z.cps.toList), rfl, SqL.of ?_, ?_⟩
      · rw [h1, List.map_map]
        rfl
      · have e : ((x.cps.toList.map fun c => decide (c ∈ z.cps.toList)).all id) = x.cps.toList.all fun c => decide (c ∈ z.cps.toList) := by
          rw [List.all_map]
          rfl
        rw [e]
        exact k H1 s1
theorem cRow (T : Tx K mg) : CalX P w K mg base CX0 1 "is_row" spRow := c_isRow T fun _ F => ok_isRow F T
def spNeedRow : Sp := fun vs H Q _ => ∃ z x : Str, vs = [.str z, .str x] ∧ (∀ c ∈ x.cps.toList, c ∈ z.cps.toList) ∧ ∀ H', Same H H' → Q .non H'
theorem ok_needRow {f : Addr} {fd : FuncData} (F : FunD K "need_row" "need_row" (defArgs s_needRow) (defBody s_needRow) (defScope s_needRow) [] [] f fd) (T : Tx K mg) : FnOk P w K mg base CX0 1 f fd ["signs", "row"] spNeedRow := by
  refine F.ok sc_needRow (fun vs H Q E h => ?_) (fun cdv A outer s H vs Q E hr h => ?_)
  · obtain ⟨z, x, rfl, _⟩ := h
    rfl
  · obtain ⟨z, x, rfl, hx, k⟩ := h
    refine ⟨_, PSs.nox (pss_cons (ps_if (pt_not (pt_val (pe_callB (call_isiK' K) (by rfl) T.f_isinstance (by decide +kernel) (pa_cons (pv 1) (pa_cons (pe_bltn (v := .ty "str") (by rfl) T.f_str (by decide +kernel) rfl) pa_nil)))))
      (pss_one ps_never) pss_nil)
      (pss_one (ps_for PassesOwn.never rfl (pi_enumS (by rfl) T.f_enumerate (pa_cons (pv 1) pa_nil)) (pg_tupK K (n := 2) rfl (pgs_cons (pg_name (i := 2) sc_needRow.nd rfl (Or.inl rfl)) (pgs_cons (pg_name (i := 3) sc_needRow.nd rfl (Or.inl rfl)) pgs_nil)))
      (pss_one (ps_if (pt_cmpR op_notIn_sign (pv 3) (pv 0) (by rfl))
      (pss_one ps_never) pss_nil))))), ?_⟩
    refine ⟨_, rfl, _, _, _, _, _, rfl, .ty _, .base (.str _), kit_ty (r := true) (by decide +kernel), _, rfl, iteF ?_⟩
    refine ⟨_, rfl, x, rfl, for_it walk_enumS (fun i σ H' => ∃ v1 v2, σ = [some (.str z), some (.str x), v1, v2] ∧ Same H H') ⟨none, none, rfl, Same.refl H⟩ (fun _ _ _ _ _ => trivial) ?_ ?_⟩
    · rintro i v σ H1 H2 hi ⟨v1, v2, rfl, s1⟩ ⟨t, c, rfl, ht, rfl, hc⟩
      have hc' : x.cps.toList[i]? = some c := by rw [← get_tl]; exact hc
      refine ⟨t, _, rfl, SqT.of upd_same, rfl, _, _, rfl, _, _, rfl, rfl, ?_⟩
      refine ⟨_, rfl, _, rfl, c, _, rfl, rfl, _, rfl, ?_⟩
      refine iteNS (hx c (mem_of_at hc')) ?_
      exact ⟨_, _, rfl, s1.trans (Same.new ht)⟩
    · rintro σ H1 ⟨v1, v2, rfl, s1⟩
      exact k H1 s1
theorem cNeedRow (T : Tx K mg) : CalX P w K mg base CX0 1 "need_row" spNeedRow := c_needRow T fun _ F => ok_needRow F T
/-! ### is_whole -/
def spWhole : Sp := fun vs H Q _ => ∃ i l m : Int, vs = [.int i, .int l, .int m] ∧ Q (.bl (decide (l ≤ i ∧ i ≤ m))) H
theorem ok_isWhole {f : Addr} {fd : FuncData} (F : FunD K "is_whole" "is_whole" (defArgs s_isWhole) (defBody s_isWhole) (defScope s_isWhole) [.non] [] f fd) (T : Tx K mg) : FnOk P w K mg base CX0 1 f fd ["thing", "least", "most"] spWhole := by
  refine F.ok sc_isWhole (fun vs H Q E h => ?_) (fun cdv A outer s H vs Q E hr h => ?_)
  · obtain ⟨i, l, m, rfl, _⟩ := h
    rfl
  · obtain ⟨i, l, m, rfl, k⟩ := h
    refine ⟨_, PSs.nox (pss_cons (ps_if (PW.pt (pw_or (pt_not (pt_val (pe_callB (call_isiK' K) (by rfl) T.f_isinstance (by decide +kernel) (pa_cons (pv 0) (pa_cons (pe_bltn (v := .ty "int") (by rfl) T.f_int (by decide +kernel) rfl) pa_nil))))) (pw_or (pt_val (pe_callB (call_isiK' K) (by rfl) T.f_isinstance (by decide +kernel) (pa_cons (pv 0) (pa_cons (pe_bltn (v := .ty "bool") (by rfl) T.f_bool (by decide +kernel) rfl) pa_nil)))) (pw_or1 (pt_cmpR op_lt (pv 0) (pv 1) (nomark _))))))
      (pss_one (ps_ret pe_bl)) pss_nil)
      (pss_one (ps_ret (pe_or (pe_cmpR op_isN (pv 2) pe_non (nomark _)) (pe_one (pe_cmpR op_le (pv 0) (pv 2) (nomark _))))))), ?_⟩
    refine ⟨_, rfl, _, _, _, _, _, rfl, .ty _, .base (.int _), kit_ty (r := true) (by decide +kernel), _, rfl, iteF ?_⟩
    refine ⟨_, rfl, _, _, _, _, _, rfl, .ty _, .base (.int _), kit_ty (r := false) (by decide +kernel), _, rfl, iteF ?_⟩
    refine ⟨_, rfl, _, rfl, _, _, rfl, rfl, _, rfl, ?_⟩
    refine ite2 (fun h1 => ?_) (fun h1 => ?_)
    · have h2 : i < l := of_decide_eq_true h1
      have e : decide (l ≤ i ∧ i ≤ m) = false := decide_eq_false (by omega)
      rw [e] at k
      exact k
    · have h2 : ¬ i < l := fun z => h1 (decide_eq_true z)
      refine ⟨_, rfl, rfl, _, rfl, iteF ?_⟩
      refine ⟨_, rfl, _, rfl, _, _, rfl, rfl, ?_⟩
      have e : decide (l ≤ i ∧ i ≤ m) = decide (i ≤ m) := by
        by_cases q : i ≤ m
        · rw [decide_eq_true q, decide_eq_true ⟨by omega, q⟩]
        · rw [decide_eq_false q, decide_eq_false fun z => q z.2]
      rw [e] at k
      exact k
theorem cWhole (T : Tx K mg) : CalX P w K mg base CX0 1 "is_whole" spWhole := by
  obtain ⟨fd, F⟩ := T.d_isWhole
  obtain ⟨ds, r, b⟩ := F.binds1 (ps := ["thing", "least", "most"]) 3 1 (by simp) rfl fun T0 kV doc pm an cdv ct us its hl hi => match us, hl, its, hi with | [_, _, _], _, [_], _ => ⟨_, rfl, rfl⟩
  cases r
  exact ⟨_, fd, _, ok_isWhole F T, T.g_isWhole, F.kp, b⟩
/-! ### need_signs -/
theorem met_nodup : ∀ (ks acc : List Key), (acc ++ ks).Nodup → (ks.foldl metStep acc) = acc ++ ks
  | [], acc, _ => by simp
  | k :: r, acc, h => by
    have hk : hasK acc k = false := by
      cases e : hasK acc k with
      | false => rfl
      | true =>
        have hm := hasK_iff.mp e
        exact absurd hm (fun z => (List.nodup_append.mp h).2.2 k z k List.mem_cons_self rfl)
    have e : metStep acc k = acc ++ [k] := by
      unfold metStep
      rw [hk]
      rfl
    show r.foldl metStep (metStep acc k) = _
    rw [e, met_nodup r (acc ++ [k]) (by simpa using h)]
    simp
theorem met_signs {z : List Nat} (h : z.Nodup) : (met (z.map fun c => (Sum.inr (sgn c) : Key))).length = z.length := by
  have nd : (z.map fun c => (Sum.inr (sgn c) : Key)).Nodup := by
    rw [List.Nodup, List.pairwise_map]
    refine List.Pairwise.imp ?_ h
    intro a b hab e
    have e1 : sgn a = sgn b := Sum.inr.inj e
    have e2 : (#[a] : Array Nat) = #[b] := congrArg Str.cps e1
    exact hab (by simpa using e2)
  unfold met
  rw [met_nodup _ [] (by simpa using nd)]
  simp
def spNeedSigns : Sp := fun vs H Q _ => ∃ z : Str, vs = [.str z] ∧ GoodSigns z ∧ ∀ H', Same H H' → Q .non H'
theorem ok_needSigns {f : Addr} {fd : FuncData} (F : FunD K "need_signs" "need_signs" (defArgs s_needSigns) (defBody s_needSigns) (defScope s_needSigns) [] [] f fd) (T : Tx K mg) : FnOk P w K mg base CX0 2 f fd ["signs"] spNeedSigns := by
  refine F.ok sc_needSigns (fun vs H Q E h => ?_) (fun cdv A outer s H vs Q E hr h => ?_)
  · obtain ⟨z, rfl, _⟩ := h
    rfl
  · obtain ⟨z, rfl, g, k⟩ := h
    have hlen := len_tl z
    have g1 := g.pos
    have g2 := g.few
    have hz : z.length ≤ sizeLine := small_line (by omega)
    refine ⟨_, PSs.nox (pss_cons (ps_if (PW.pt (pw_or (pt_not (pt_val (pe_callB (call_isiK' K) (by rfl) T.f_isinstance (by decide +kernel) (pa_cons (pv 0) (pa_cons (pe_bltn (v := .ty "str") (by rfl) T.f_str (by decide +kernel) rfl) pa_nil))))) (pw_or1 (pt_not (pt_chain op_le op_le pe_int (pe_callB call_len_str (by rfl) T.f_len (by decide +kernel) (pa_cons (pv 0) pa_nil)) (C8.pe_gc (by rfl) T.g_MOST_SIGNS))))))
      (pss_one ps_never) pss_nil)
      (pss_one (ps_if (PW.pt (pw_or (pt_cmpR op_lt (pe_lenSetKK K rfl (by rfl) T.f_len (by rfl) T.f_set (pe_callTy (call_listS rfl) (by rfl) T.f_list (by decide +kernel) (pa_cons (pv 0) pa_nil))) (pe_callB call_len_str (by rfl) T.f_len (by decide +kernel) (pa_cons (pv 0) pa_nil)) (nomark _)) (pw_or1 (pt_not (pt_val (pe_callB (cr_allK K (by rfl)) (by rfl) T.f_all (by decide +kernel) (pa_cons (pe_lc (own := [("sign", 1)]) (g := _) (tt := tYes) (by rfl) sc_needSigns.nd (pi_str (pv 0)) (blkOk_by (by kernel_rfl)) (fun _ _ _ _ _ => (pg_name (i := 1) sc_needSigns.nd rfl (Or.inl rfl))) (fun _ _ _ _ _ => pts_nil) (fun _ _ _ _ _ => (pe_cX (cLetter T) hr (by decide) (by rfl) pass0 (pa_cons (pv 1) pa_nil)))) pa_nil)))))))
      (pss_one ps_never) pss_nil))), ?_⟩
    refine ⟨_, rfl, _, _, _, _, _, rfl, .ty _, .base (.str _), kit_ty (r := true) (by decide +kernel), _, rfl, iteF ?_⟩
    refine ⟨_, rfl, _, rfl, hz, _, _, rfl, rfl, _, rfl, ?_⟩
    have e1 : decide ((1 : Int) ≤ (z.length : Int)) = true := decide_eq_true (by omega)
    have e2 : decide ((z.length : Int) ≤ 4) = true := decide_eq_true (by omega)
    rw [e1]
    refine iteT ⟨_, _, rfl, rfl, _, rfl, ?_⟩
    rw [e2]
    refine iteF ?_
    -- len(set(list(signs))) < len(signs)
    refine ⟨_, rfl, _, rfl, hz, fun l hl => ⟨l, z.cps.toList.map fun c => (Sum.inr (sgn c) : Key), rfl, SqL.of ?_, ?_, ?_⟩⟩
    · rw [upd_same, List.map_map]
      rfl
    · rw [List.length_map]
      omega
    rw [met_signs g.nd]
    refine ⟨_, rfl, _, rfl, hz, _, _, rfl, rfl, _, rfl, ?_⟩
    have e3 : decide (((z.cps.toList.length : Nat) : Int) < (z.length : Int)) = false := decide_eq_false (by omega)
    rw [e3]
    refine iteF ?_
    -- all([is_letter(sign) for sign in signs])
    have s0 : Same H (upd H l (.lst (z.cps.toList.map fun c => V.str (sgn c)))) := Same.new hl
    refine ⟨_, rfl, z, rfl, fun D hD => lc_it walk_str (fun i H' => Same H H' ∧ H' D = some (.lst ((z.cps.toList.take i).map fun c => V.bl (decide (c ∈ letters))))) ⟨s0.trans (Same.new hD), upd_same⟩ (fun _ _ _ _ => trivial) ?_ ?_⟩
    · rintro i v H1 H2 hi ⟨s1, h1⟩ ⟨rfl, c, hc, rfl⟩
      have hc' : z.cps.toList[i]? = some c := by rw [← get_tl]; exact hc
      refine ⟨rfl, ?_⟩
      refine ⟨_, rfl, c, rfl, _, h1, ?_, Same.put s1 (s0.free hD), ?_⟩
      · refine Nat.lt_of_le_of_lt ?_ (show 1000 < sizeLine by decide)
        rw [List.length_map, List.length_take]
        omega
      · rw [upd_same, take_more hc', List.map_append]
        rfl
    · rintro H1 ⟨s1, h1⟩
      rw [size_tl, List.take_length] at h1
      refine ⟨D, z.cps.toList.map fun c => decide (c ∈ letters), rfl, SqL.of ?_, _, rfl, ?_⟩
      · rw [h1, List.map_map]
        rfl
      · have e : ((z.cps.toList.map fun c => decide (c ∈ letters)).all id) = true := by
          rw [List.all_map, List.all_eq_true]
          intro c hc
          exact decide_eq_true (g.let_ c hc)
        rw [e]
        exact iteF (k H1 s1)
theorem cNeedSigns (T : Tx K mg) : CalX P w K mg base CX0 2 "need_signs" spNeedSigns := c_needSigns T fun _ F => ok_needSigns F T
/-! ### is_step -/
def spStepOk (K : PySem.W.Frag) : Sp := fun vs H Q _ => ∃ (a : Addr) (r : List Int) (m n : Int), vs = [.ref a, .int m, .int n] ∧ SqA K H a (r.map V.int) ∧ (r.length : Int) = m ∧ r.length ≤ 100 ∧ (∀ x ∈ r, 0 ≤ x ∧ x < n) ∧ ∀ H', Same H H' → Q (.bl true) H'
theorem ok_isStep {f : Addr} {fd : FuncData} (F : FunD K "is_step" "is_step" (defArgs s_isStep) (defBody s_isStep) (defScope s_isStep) [] [] f fd) (T : Tx K mg) : FnOk P w K mg base CX0 2 f fd ["thing", "many", "states"] (spStepOk K) := by
  refine F.ok sc_isStep (fun vs H Q E h => ?_) (fun cdv A outer s H vs Q E hr h => ?_)
  · obtain ⟨a, r, m, n, rfl, _⟩ := h
    rfl
  · obtain ⟨a, r, m, n, rfl, hS, hm, hl, hx, k⟩ := h
    refine ⟨_, PSs.nox (pss_cons (ps_if (PW.pt (pw_or (pt_not (pt_val (pe_callB (call_isiTK K) (by rfl) T.f_isinstance (by decide +kernel) (pa_cons (pv 0) (pa_cons (pe_tup (pa_cons (pe_bltn (v := .ty "list") (by rfl) T.f_list (by decide +kernel) rfl) (pa_cons (pe_bltn (v := .ty "tuple") (by rfl) T.f_tuple (by decide +kernel) rfl) pa_nil))) pa_nil))))) (pw_or1 (pt_cmpR op_ne (pe_callB (call_len_seqK K) (by rfl) T.f_len (by decide +kernel) (pa_cons (pv 0) pa_nil)) (pv 1) (nomark _)))))
      (pss_one (ps_ret pe_bl)) pss_nil)
      (pss_one (ps_ret (pe_callB (cr_allK K (by rfl)) (by rfl) T.f_all (by decide +kernel) (pa_cons (pe_lc (own := [("state", 3)]) (g := _) (tt := tYes) (by rfl) sc_isStep.nd (pi_seqK K (pv 0)) (blkOk_by (by kernel_rfl)) (fun _ _ _ _ _ => (pg_name (i := 3) sc_isStep.nd rfl (Or.inl rfl))) (fun _ _ _ _ _ => pts_nil) (fun _ _ _ _ _ => (pe_cX (cWhole T) hr (by decide) (by rfl) pass0 (pa_cons (pv 3) (pa_cons pe_int (pa_cons (pe_op op_sub (pv 2) pe_int) pa_nil)))))) pa_nil))))), ?_⟩
    refine ⟨_, rfl, (by show 2 ≤ sizeLine; decide), fun tp htp => ?_⟩
    have s0 : Same H (upd H tp (.tup [.ty "list", .ty "tuple"])) := Same.new htp
    have hS0 := hS.mono s0
    obtain ⟨t, ht, hk⟩ := isSeq_kit hS0
    refine ⟨_, tp, _, t, _, _, rfl, upd_same, cls_lt, ht, hk, _, rfl, iteF ?_⟩
    refine ⟨_, rfl, a, _, rfl, hS0, _, rfl, rfl, _, rfl, ?_⟩
    refine iteNS (by rw [List.length_map, hm]) ?_
    refine ⟨_, rfl, a, rfl, ?_⟩
    refine iSeq_of hS s0 fun J wk => ?_
    intro D hD
    refine lc_it wk (fun i H' => Same H H' ∧ H' D = some (.lst (List.replicate i (V.bl true)))) ⟨s0.trans (Same.new hD), upd_same⟩ (fun _ _ _ z => z.1) ?_ ?_
    · rintro i v H1 H2 hi ⟨s1, h1⟩ ⟨rfl, hv⟩
      rw [List.getElem?_map] at hv
      obtain ⟨x, hx', rfl⟩ := Option.map_eq_some_iff.mp hv
      have b := hx x (mem_of_at hx')
      rw [List.length_map] at hi
      refine ⟨rfl, ?_⟩
      refine ⟨_, rfl, _, rfl, _, _, rfl, rfl, x, 0, n - 1, rfl, _, h1, ?_, Same.put s1 (s0.free hD), ?_⟩
      · rw [List.length_replicate]
        exact Nat.lt_of_le_of_lt (show i ≤ 1000 by omega) (by decide)
      · rw [upd_same, decide_eq_true (show (0 : Int) ≤ x ∧ x ≤ n - 1 by omega), ← List.replicate_succ']
    · rintro H1 ⟨s1, h1⟩
      refine ⟨D, List.replicate (r.map V.int).length true, rfl, SqL.of ?_, ?_⟩
      · rw [h1, List.map_replicate]
      · have e : (List.replicate (r.map V.int).length true).all id = true := by simp
        rw [e]
        exact k H1 s1
theorem cStep (T : Tx K mg) : CalX P w K mg base CX0 2 "is_step" (spStepOk K) := c_isStep T fun _ F => ok_isStep F T
end
end Rg
namespace Rg
open PySem PySem.Spec PyProof.Rows L2
section
variable {P : Program} {w : World} {K : PySem.W.Frag} {mg : Str → Option Value} {base : Heap}
/-! ### what is handed to Machine -/
def RowIn (K : PySem.W.Frag) (D H : Hp) (u : V) (r : List Int) : Prop := ∃ a, u = .ref a ∧ (SqL K H a (r.map V.int) ∨ SqT K D a (r.map V.int))
structure StepsIn (K : PySem.W.Frag) (D H : Hp) (v : V) (rows : List (List Int)) : Prop where
  ex : ∃ (a : Addr) (us : List V), v = .ref a ∧ SqA K H a us ∧ us.length = rows.length ∧ ∀ (i : Nat) (u : V) (r : List Int), us[i]? = some u → rows[i]? = some r → RowIn K D H u r
def ToldIn (K : PySem.W.Frag) (D H : Hp) (v : V) (ms : List Bool) : Prop := ∃ a, v = .ref a ∧ (SqL K H a (ms.map V.bl) ∨ SqT K D a (ms.map V.bl))
def rowD (r : List Int) : PyData := .tuple (r.map PyData.int)
def rowsD (rows : List (List Int)) : PyData := .tuple (rows.map rowD)
def marksD (ms : List Bool) : PyData := .tuple (ms.map PyData.bool)
structure GoodRows (n : Nat) (rows : List (List Int)) (ms : List Bool) : Prop where
  pos : 1 ≤ rows.length
  few : rows.length ≤ 100
  wid : ∀ r ∈ rows, r.length = n
  rng : ∀ r ∈ rows, ∀ x ∈ r, 0 ≤ x ∧ x < (rows.length : Int)
  mrk : ms.length = rows.length
def off (x : Addr) (H : Hp) : Hp := fun b => if b = x then none else H b
theorem off_ne {x b : Addr} {H : Hp} (h : b ≠ x) : off x H b = H b := if_neg h
theorem off_eq {x : Addr} {H : Hp} : off x H x = none := if_pos rfl
theorem off_same {x : Addr} {H : Hp} : Same (off x H) H := fun b o e => by
  by_cases q : b = x
  · rw [q, off_eq] at e
    cases e
  · rwa [off_ne q] at e
theorem off_sqL {K : PySem.W.Frag} {H : Hp} {x a C dx : Addr} {fs : List (Str × V)} {xs : List V} (hx : H x = some (.ins C dx fs)) (h : SqL K H a xs) : SqL K (off x H) a xs := by
  rcases h with (h | ⟨o, h⟩) | h
  · exact .inl (.inl (by rw [off_ne (ne_of h hx (by intro z; cases z))]; exact h))
  · exact .inl (.inr ⟨o, by rw [off_ne (ne_of h hx (by intro z; cases z))]; exact h⟩)
  · exact .inr h
theorem off_sqT {K : PySem.W.Frag} {H : Hp} {x a C dx : Addr} {fs : List (Str × V)} {xs : List V} (hx : H x = some (.ins C dx fs)) (h : SqT K H a xs) : SqT K (off x H) a xs := by
  rcases h with (h | ⟨o, h⟩) | h
  · exact .inl (.inl (by rw [off_ne (ne_of h hx (by intro z; cases z))]; exact h))
  · exact .inl (.inr ⟨o, by rw [off_ne (ne_of h hx (by intro z; cases z))]; exact h⟩)
  · exact .inr h
theorem Step.off {D H D' H' : Hp} {x : Addr} (s : Step (· = x) D H D' H') : Same (off x H) H' := fun b o e => by
  have q : b ≠ x := fun z => by
    rw [z, off_eq] at e
    cases e
  rw [off_ne q] at e
  exact s.kp b o q e
def fM2 (z : Str) (a : Addr) : List (Str × V) := [("signs", V.str z), ("steps", V.ref a)]
def fM (z : Str) (a b : Addr) : List (Str × V) := [("signs", V.str z), ("steps", V.ref a), ("told", V.ref b)]
def spInit (K : PySem.W.Frag) : Sp := fun vs H Q _ => ∃ (D : Hp) (x dx : Addr) (z : Str) (u v : V) (rows : List (List Int)) (ms : List Bool), vs = [.ref x, .str z, u, v] ∧ Same D H ∧ D x = none ∧ H x = some (.ins (a_Machine K) dx []) ∧
  GoodSigns z ∧ GoodRows z.cps.toList.length rows ms ∧ StepsIn K D H u rows ∧ ToldIn K D H v ms ∧
  ∀ (D' H' : Hp) (a b : Addr), Step (· = x) D H D' H' → D' x = none → H' x = some (.ins (a_Machine K) dx (fM z a b)) → Dp K D' (.ref a) (rowsD rows) → Dp K D' (.ref b) (marksD ms) → Q .non H'
theorem ok_init {f : Addr} {fd : FuncData} (F : FunD K "__init__" "Machine.__init__" (defArgs s_init) (defBody s_init) (defScope s_init) [] [] f fd) (T : Tx K mg) : FnOk P w K mg base CX0 3 f fd ["self", "signs", "steps", "told"] (spInit K) := by
  refine F.ok sc_init (fun vs H Q E h => ?_) (fun cdv A outer s H vs Q E hr h => ?_)
  · obtain ⟨D, x, dx, z, u, v, rows, ms, rfl, _⟩ := h
    rfl
  · obtain ⟨D, x, dx, z, u, v, rows, ms, rfl, sd, dx0, hx, gz, gr, ⟨sa, us, rfl, hS, hul, hrow⟩, ⟨ta, rfl, hT⟩, k⟩ := h
    have zl := len_tl z
    have g1 := gz.pos
    have g2 := gz.few
    have p1 := gr.pos
    have p2 := gr.few
    refine ⟨_, PSs.nox (pss_cons (ps_expr (pe_cX (cNeedSigns T) hr (by decide) (by rfl) pass0 (pa_cons (pv 1) pa_nil)))
      (pss_cons (ps_if (PW.pt (pw_or (pt_not (pt_val (pe_callB (call_isiTK K) (by rfl) T.f_isinstance (by decide +kernel) (pa_cons (pv 2) (pa_cons (pe_tup (pa_cons (pe_bltn (v := .ty "list") (by rfl) T.f_list (by decide +kernel) rfl) (pa_cons (pe_bltn (v := .ty "tuple") (by rfl) T.f_tuple (by decide +kernel) rfl) pa_nil))) pa_nil))))) (pw_or1 (pt_cmpR op_eq (pe_callB (call_len_seqK K) (by rfl) T.f_len (by decide +kernel) (pa_cons (pv 2) pa_nil)) pe_int (nomark _)))))
      (pss_one ps_never) pss_nil)
      (pss_cons (ps_if (pt_not (pt_val (pe_callB (cr_allK K (by rfl)) (by rfl) T.f_all (by decide +kernel) (pa_cons (pe_lc (own := [("step", 4)]) (g := _) (tt := tYes) (by rfl) sc_init.nd (pi_seqK K (pv 2)) (blkOk_by (by kernel_rfl)) (fun _ _ _ _ _ => (pg_name (i := 4) sc_init.nd rfl (Or.inl rfl))) (fun _ _ _ _ _ => pts_nil) (fun _ _ _ _ _ => (pe_cX (cStep T) hr (by decide) (by rfl) pass0 (pa_cons (pv 4) (pa_cons (pe_callB call_len_str (by rfl) T.f_len (by decide +kernel) (pa_cons (pv 1) pa_nil)) (pa_cons (pe_callB (call_len_seqK K) (by rfl) T.f_len (by decide +kernel) (pa_cons (pv 2) pa_nil)) pa_nil)))))) pa_nil))))
      (pss_one ps_never) pss_nil)
      (pss_cons (ps_if (PW.pt (pw_or (pt_not (pt_val (pe_callB (call_isiTK K) (by rfl) T.f_isinstance (by decide +kernel) (pa_cons (pv 3) (pa_cons (pe_tup (pa_cons (pe_bltn (v := .ty "list") (by rfl) T.f_list (by decide +kernel) rfl) (pa_cons (pe_bltn (v := .ty "tuple") (by rfl) T.f_tuple (by decide +kernel) rfl) pa_nil))) pa_nil))))) (pw_or1 (pt_cmpR op_ne (pe_callB (call_len_seqK K) (by rfl) T.f_len (by decide +kernel) (pa_cons (pv 3) pa_nil)) (pe_callB (call_len_seqK K) (by rfl) T.f_len (by decide +kernel) (pa_cons (pv 2) pa_nil)) (nomark _)))))
      (pss_one ps_never) pss_nil)
      (pss_cons (ps_if (pt_not (pt_val (pe_callB (cr_allK K (by rfl)) (by rfl) T.f_all (by decide +kernel) (pa_cons (pe_lc (own := [("mark", 5)]) (g := _) (tt := tYes) (by rfl) sc_init.nd (pi_seqK K (pv 3)) (blkOk_by (by kernel_rfl)) (fun _ _ _ _ _ => (pg_name (i := 5) sc_init.nd rfl (Or.inl rfl))) (fun _ _ _ _ _ => pts_nil) (fun _ _ _ _ _ => (pe_callB (call_isiK' K) (by rfl) T.f_isinstance (by decide +kernel) (pa_cons (pv 5) (pa_cons (pe_bltn (v := .ty "bool") (by rfl) T.f_bool (by decide +kernel) rfl) pa_nil))))) pa_nil))))
      (pss_one ps_never) pss_nil)
      (pss_cons (ps_fld (pv 0) (pv 1) rfl)
      (pss_cons (ps_fld (pv 0) (pe_callTy (call_tuple_ofK K) (by rfl) T.f_tuple (by decide +kernel) (pa_cons (pe_lc (own := [("step", 4)]) (g := _) (tt := tYes) (by rfl) sc_init.nd (pi_seqK K (pv 2)) (blkOk_by (by kernel_rfl)) (fun _ _ _ _ _ => (pg_name (i := 4) sc_init.nd rfl (Or.inl rfl))) (fun _ _ _ _ _ => pts_nil) (fun _ _ _ _ _ => (pe_callTy (call_tuple_ofK K) (by rfl) T.f_tuple (by decide +kernel) (pa_cons (pv 4) pa_nil)))) pa_nil)) rfl)
      (pss_one (ps_fld (pv 0) (pe_callTy (call_tuple_ofK K) (by rfl) T.f_tuple (by decide +kernel) (pa_cons (pv 3) pa_nil)) rfl))))))))), ?_⟩
    -- need_signs(signs)
    refine ⟨_, rfl, z, rfl, gz, fun H1 s1 => ?_⟩
    -- if not isinstance(steps, (list, tuple)) or len(steps) == 0
    refine ⟨_, rfl, (by show 2 ≤ sizeLine; decide), fun t1 ht1 => ?_⟩
    have s2 := s1.trans (Same.new (o := .tup [.ty "list", .ty "tuple"]) ht1)
    obtain ⟨t, hty, hk⟩ := isSeq_kit (hS.mono s2)
    refine ⟨_, t1, _, t, _, _, rfl, upd_same, cls_lt, hty, hk, _, rfl, iteF ?_⟩
    refine ⟨_, rfl, sa, _, rfl, hS.mono s2, rfl, _, rfl, ?_⟩
    have e1 : decide (V.int (us.length : Int) = V.int 0) = false := decide_eq_false (fun q => by injection q with q; omega)
    rw [e1]
    refine iteF ?_
    -- all([is_step(step, len(signs), len(steps)) for step in steps])
    have zsz : z.length ≤ sizeLine := small_line (by omega)
    refine ⟨_, rfl, sa, rfl, ?_⟩
    refine iSeq_of hS s2 fun J wk => ?_
    intro D1 hD1
    refine lc_it wk (fun i H' => Same H H' ∧ H' D1 = some (.lst (List.replicate i (V.bl true)))) ⟨s2.trans (Same.new hD1), upd_same⟩ (fun _ _ _ z => z.1) ?_ ?_
    · rintro i v H3 H4 hi ⟨s3, h3⟩ ⟨rfl, hv⟩
      have hi2 : i < rows.length := by rw [← hul]; exact hi
      obtain ⟨a, rfl, ha⟩ := hrow i v rows[i] hv (List.getElem?_eq_getElem hi2)
      have hm := List.getElem_mem hi2
      have ha2 : SqA K H4 a (rows[i].map V.int) := ha.elim (fun q => .inl (s3.seq q)) fun q => .inr (sqT_mono (sd.trans s3) q)
      have hw := gr.wid _ hm
      refine ⟨rfl, ?_⟩
      refine ⟨_, rfl, _, rfl, z, rfl, zsz, _, rfl, sa, us, rfl, hS.mono s3, a, rows[i], _, _, rfl, ha2, by rw [hw, zl], by omega, fun y hy => ?_, fun H5 s5 => ?_⟩
      · rw [hul]
        exact gr.rng _ hm y hy
      · refine ⟨_, s5 _ _ h3, ?_, Same.put (s3.trans s5) (s2.free hD1), ?_⟩
        · rw [List.length_replicate]
          exact Nat.lt_of_le_of_lt (show i ≤ 1000 by omega) (by decide)
        · rw [upd_same, ← List.replicate_succ']
    rintro H3 ⟨s3, h3⟩
    refine ⟨D1, List.replicate us.length true, rfl, SqL.of (by rw [h3, List.map_replicate]), _, rfl, ?_⟩
    have e2 : (List.replicate us.length true).all id = true := by simp
    rw [e2]
    refine iteF ?_
    -- if not isinstance(told, (list, tuple)) or len(told) != len(steps)
    have hTA : SqA K H ta (ms.map V.bl) := hT.elim .inl fun q => .inr (sqT_mono sd q)
    refine ⟨_, rfl, (by show 2 ≤ sizeLine; decide), fun t2 ht2 => ?_⟩
    have s4 := s3.trans (Same.new (o := .tup [.ty "list", .ty "tuple"]) ht2)
    obtain ⟨tt, htt, hkt⟩ := isSeq_kit (hTA.mono s4)
    refine ⟨_, t2, _, tt, _, _, rfl, upd_same, cls_lt, htt, hkt, _, rfl, iteF ?_⟩
    refine ⟨_, rfl, ta, _, rfl, hTA.mono s4, _, rfl, sa, us, rfl, hS.mono s4, rfl, _, rfl, ?_⟩
    refine iteNS (by rw [List.length_map, gr.mrk, hul]) ?_
    -- all([isinstance(mark, bool) for mark in told])
    refine ⟨_, rfl, ta, rfl, ?_⟩
    refine iSeq_of hTA s4 fun J wk => ?_
    intro D2 hD2
    refine lc_it wk (fun i H' => Same H H' ∧ H' D2 = some (.lst (List.replicate i (V.bl true)))) ⟨s4.trans (Same.new hD2), upd_same⟩ (fun _ _ _ z => z.1) ?_ ?_
    · rintro i v H5 H6 hi ⟨s5, h5⟩ ⟨rfl, hv⟩
      rw [List.getElem?_map] at hv
      obtain ⟨b, hb, rfl⟩ := Option.map_eq_some_iff.mp hv
      rw [List.length_map, gr.mrk] at hi
      refine ⟨rfl, ?_⟩
      refine ⟨_, rfl, _, _, _, _, _, rfl, .ty _, .base (.bl _), kit_ty (r := true) (by decide +kernel), _, h5, ?_, Same.put s5 (s4.free hD2), ?_⟩
      · rw [List.length_replicate]
        exact Nat.lt_of_le_of_lt (show i ≤ 1000 by omega) (by decide)
      · rw [upd_same, ← List.replicate_succ']
    rintro H5 ⟨s5, h5⟩
    refine ⟨D2, List.replicate (ms.map V.bl).length true, rfl, SqL.of (by rw [h5, List.map_replicate]), _, rfl, ?_⟩
    have e3 : (List.replicate (ms.map V.bl).length true).all id = true := by simp
    rw [e3]
    refine iteF ?_
    -- self.signs = signs
    refine ⟨_, rfl, _, rfl, x, _, dx, [], rfl, s5 _ _ hx, T.cl_Machine, T.n_Machine_signs, (by show 0 < 1000; decide), ?_⟩
    have st1 : Step (· = x) D H D (upd H5 x (.ins (a_Machine K) dx [("signs", .str z)])) := (Step.of_same sd s5).write (.inl rfl) dx0
    have offS : SqA K (off x H) sa us := hS.elim (fun q => .inl (off_sqL hx q)) fun q => .inr (off_sqT hx q)
    have hx1 : (upd H5 x (.ins (a_Machine K) dx [("signs", .str z)])) x = some (.ins (a_Machine K) dx [("signs", .str z)]) := upd_same
    -- self.steps = tuple([tuple(step) for step in steps])
    refine ⟨_, rfl, sa, rfl, ?_⟩
    refine iSeq_of offS st1.off fun J wk => ?_
    intro D3 hD3
    have h03 := st1.free hD3
    have ne3 : x ≠ D3 := ne_of_none hx1 hD3
    refine lc_it wk (fun i H' => ∃ (Di : Hp) (acc : List V), Step (· = x) D H Di H' ∧ H' x = some (.ins (a_Machine K) dx [("signs", .str z)]) ∧ Di x = none ∧ H' D3 = some (.lst acc) ∧ Di D3 = none ∧ acc.length = i ∧ DpAll K Di acc ((rows.take i).map rowD))
      ⟨D, [], st1.trans (Step.tmp st1.dh hD3), by rw [upd_ne ne3]; exact hx1, dx0, upd_same, sd.free h03, rfl, .nil⟩ (fun _ _ _ ⟨_, _, q, _⟩ => q.off) ?_ ?_
    · rintro i v H7 H8 hi ⟨Di, acc, st, hx7, dix, h7, di3, hl, hd⟩ ⟨rfl, hv⟩
      have hi2 : i < rows.length := by rw [← hul]; exact hi
      have ei := List.getElem?_eq_getElem hi2
      obtain ⟨a, rfl, ha⟩ := hrow i v rows[i] hv ei
      have alen : acc.length < sizeLine := by rw [hl]; exact Nat.lt_of_le_of_lt (show i ≤ 1000 by omega) (by decide)
      have etk : ((rows.take (i + 1)).map rowD) = (rows.take i).map rowD ++ [rowD rows[i]] := by
        rw [take_more ei, List.map_append]
        rfl
      refine ⟨rfl, ?_⟩
      refine ⟨_, rfl, a, rows[i].map V.int, rfl, ?_⟩
      rcases ha with ha | ha
      · refine .inl ⟨st.off.seq (off_sqL hx ha), fun l hl8 => ?_⟩
        have n3l : D3 ≠ l := ne_of_none h7 hl8
        have nxl : x ≠ l := ne_of_none hx7 hl8
        refine ⟨acc, by rw [upd_ne n3l]; exact h7, alen, ?_⟩
        have sn : Step (· = x) D H (upd Di l (.tup (rows[i].map V.int))) (upd H8 l (.tup (rows[i].map V.int))) := st.trans (Step.new st.dh hl8)
        refine ⟨_, _, sn.write (.inr h03) (by rw [upd_ne n3l]; exact di3), by rw [upd_ne ne3, upd_ne nxl]; exact hx7, by rw [upd_ne nxl]; exact dix, upd_same, by rw [upd_ne n3l]; exact di3, by rw [List.length_append, hl]; rfl, ?_⟩
        rw [etk]
        exact dpAll_app (dp_monoAll (same_new (st.dh.free hl8)) _ _ hd) (dpAll_one (.tup (SqT.of upd_same) (dpAll_ints _)))
      · refine .inr ⟨sqT_mono (st.dd.trans st.dh) ha, ?_⟩
        refine ⟨acc, h7, alen, ?_⟩
        refine ⟨Di, _, st.write (.inr h03) di3, by rw [upd_ne ne3]; exact hx7, dix, upd_same, di3, by rw [List.length_append, hl]; rfl, ?_⟩
        rw [etk]
        exact dpAll_app hd (dpAll_one (.tup (sqT_mono st.dd ha) (dpAll_ints _)))
    rintro H7 ⟨D7, acc, st7, hx7, d7x, h7, d73, hl7, hd7⟩
    rw [hul, List.take_length] at hd7
    refine ⟨D3, acc, rfl, .inl ⟨SqL.of h7, fun a1 ha1 => ?_⟩⟩
    have nxa : x ≠ a1 := ne_of_none hx7 ha1
    have st8 : Step (· = x) D H (upd D7 a1 (.tup acc)) (upd H7 a1 (.tup acc)) := st7.trans (Step.new st7.dh ha1)
    have d8 : Dp K (upd D7 a1 (.tup acc)) (.ref a1) (rowsD rows) := .tup (SqT.of upd_same) (dp_monoAll (same_new (st7.dh.free ha1)) _ _ hd7)
    refine ⟨_, rfl, x, _, dx, _, rfl, by rw [upd_ne nxa]; exact hx7, T.cl_Machine, T.n_Machine_steps, (by show 1 < 1000; decide), ?_⟩
    have ep : putF "steps" (V.ref a1) [(("signs" : Str), V.str z)] = fM2 z a1 := by kernel_rfl
    rw [ep]
    have d8x : (upd D7 a1 (.tup acc)) x = none := by rw [upd_ne nxa]; exact d7x
    have st9 := st8.write (o := .ins (a_Machine K) dx (fM2 z a1)) (.inl rfl) d8x
    generalize hH9 : upd (upd H7 a1 (.tup acc)) x (.ins (a_Machine K) dx (fM2 z a1)) = H9 at st9 ⊢
    have hx9 : H9 x = some (.ins (a_Machine K) dx (fM2 z a1)) := by rw [← hH9]; exact upd_same
    -- self.told = tuple(told)
    have ep2 : ∀ b : Addr, putF "told" (V.ref b) (fM2 z a1) = fM z a1 b := fun b => by kernel_rfl
    refine ⟨_, rfl, ta, ms.map V.bl, rfl, ?_⟩
    rcases hT with hT | hT
    · refine .inl ⟨st9.off.seq (off_sqL hx hT), fun b hb => ?_⟩
      have nxb : x ≠ b := ne_of_none hx9 hb
      refine ⟨_, rfl, x, _, dx, _, rfl, by rw [upd_ne nxb]; exact hx9, T.cl_Machine, T.n_Machine_told, (by show 2 < 1000; decide), ?_⟩
      rw [ep2]
      have st10 : Step (· = x) D H (upd (upd D7 a1 (.tup acc)) b (.tup (ms.map V.bl))) (upd H9 b (.tup (ms.map V.bl))) := st9.trans (Step.new st9.dh hb)
      have dbx : (upd (upd D7 a1 (.tup acc)) b (.tup (ms.map V.bl))) x = none := by rw [upd_ne nxb]; exact d8x
      exact k _ _ a1 b (st10.write (.inl rfl) dbx) dbx upd_same (dp_mono (same_new (st9.dh.free hb)) _ _ d8) (.tup (SqT.of upd_same) (dpAll_bools _))
    · refine .inr ⟨sqT_mono (st9.dd.trans st9.dh) hT, ?_⟩
      refine ⟨_, rfl, x, _, dx, _, rfl, hx9, T.cl_Machine, T.n_Machine_told, (by show 2 < 1000; decide), ?_⟩
      rw [ep2]
      exact k _ _ a1 ta (st9.write (.inl rfl) d8x) d8x upd_same d8 (.tup (sqT_mono st9.dd hT) (dpAll_bools _))
end
end Rg
namespace Rg
open PySem PySem.Spec PyProof.Rows L2
section
variable {P : Program} {w : World} {K : PySem.W.Frag} {mg : Str → Option Value} {base : Heap}
/-! ### a machine that is made -/
structure Mach (K : PySem.W.Frag) (H : Hp) (x : Addr) (z : Str) (rows : List (List Int)) (ms : List Bool) : Prop where
  ex : ∃ (dx a b : Addr), H x = some (.ins (a_Machine K) dx (fM z a b)) ∧ Dp K H (.ref a) (rowsD rows) ∧ Dp K H (.ref b) (marksD ms)
  gz : GoodSigns z
  gr : GoodRows z.cps.toList.length rows ms
theorem Mach.mono {H H' : Hp} {x : Addr} {z : Str} {rows : List (List Int)} {ms : List Bool} (h : Mach K H x z rows ms) (e : Same H H') : Mach K H' x z rows ms := by
  obtain ⟨⟨dx, a, b, h1, h2, h3⟩, gz, gr⟩ := h
  exact ⟨⟨dx, a, b, e _ _ h1, dp_mono e _ _ h2, dp_mono e _ _ h3⟩, gz, gr⟩
def nextM (z : List Nat) (rows : List (List Int)) (i : Int) (c : Nat) : Int := ((rows.getD i.toNat []).getD (z.idxOf c) 0)
def runM (z : List Nat) (rows : List (List Int)) (i : Int) (t : List Nat) : Int := t.foldl (nextM z rows) i
theorem getD_of {α : Type} {l : List α} {i : Nat} {x d : α} (h : l[i]? = some x) : l.getD i d = x := by rw [List.getD_eq_getElem?_getD, h]; rfl
theorem next_at {z : List Nat} {rows : List (List Int)} {ms : List Bool} {i : Int} {c : Nat} (g : GoodRows z.length rows ms) (h0 : 0 ≤ i) (h1 : i < rows.length) (hc : c ∈ z) : ∃ r, rows[i.toNat]? = some r ∧ r[z.idxOf c]? = some (nextM z rows i c) ∧ 0 ≤ nextM z rows i c ∧ nextM z rows i c < rows.length := by
  have hi : i.toNat < rows.length := by omega
  have e1 := List.getElem?_eq_getElem hi
  have hm := List.getElem_mem hi
  have hl : z.idxOf c < (rows[i.toNat]).length := by
    rw [g.wid _ hm]
    exact List.idxOf_lt_length_of_mem hc
  have e2 := List.getElem?_eq_getElem hl
  have e3 : nextM z rows i c = (rows[i.toNat])[z.idxOf c] := by
    unfold nextM
    rw [getD_of e1, getD_of e2]
  exact ⟨_, e1, by rw [e2, e3], by rw [e3]; exact (g.rng _ hm _ (List.getElem_mem hl)).1, by rw [e3]; exact (g.rng _ hm _ (List.getElem_mem hl)).2⟩
theorem run_snoc {z : List Nat} {rows : List (List Int)} {i : Int} {t : List Nat} {c : Nat} : runM z rows i (t ++ [c]) = nextM z rows (runM z rows i t) c := by
  unfold runM
  rw [List.foldl_append]
  rfl
theorem run_rng {z : List Nat} {rows : List (List Int)} {ms : List Bool} (g : GoodRows z.length rows ms) : ∀ (t : List Nat) (i : Int), 0 ≤ i → i < rows.length → (∀ c ∈ t, c ∈ z) → 0 ≤ runM z rows i t ∧ runM z rows i t < rows.length
  | [], i, h0, h1, _ => ⟨h0, h1⟩
  | c :: t, i, h0, h1, ht => by
    obtain ⟨r, _, _, e3, e4⟩ := next_at g h0 h1 (ht c List.mem_cons_self)
    exact run_rng g t _ e3 e4 fun c' hc => ht c' (List.mem_cons_of_mem _ hc)
theorem atI_of {α : Type} {xs : List α} {i : Int} {v : α} (h0 : 0 ≤ i) (h : xs[i.toNat]? = some v) : atI xs i = some v := by
  have e := atI_nat h
  rw [Int.toNat_of_nonneg h0] at e
  exact e
/-! ### Machine.step -/
def spMStep (K : PySem.W.Frag) : Sp := fun vs H Q _ => ∃ (x : Addr) (z : Str) (rows : List (List Int)) (ms : List Bool) (i : Int) (t : Str), vs = [.ref x, .int i, .str t] ∧ Mach K H x z rows ms ∧ 0 ≤ i ∧ i < rows.length ∧ (∀ c ∈ t.cps.toList, c ∈ z.cps.toList) ∧
  ∀ H', Same H H' → Q (.int (runM z.cps.toList rows i t.cps.toList)) H'
theorem ok_step {f : Addr} {fd : FuncData} (F : FunD K "step" "Machine.step" (defArgs s_step) (defBody s_step) (defScope s_step) [] [] f fd) (T : Tx K mg) : FnOk P w K mg base CX0 2 f fd ["self", "state", "text"] (spMStep K) := by
  refine F.ok sc_step (fun vs H Q E h => ?_) (fun cdv A outer s H vs Q E hr h => ?_)
  · obtain ⟨x, z, rows, ms, i, t, rfl, _⟩ := h
    rfl
  · obtain ⟨x, z, rows, ms, i, t, rfl, ⟨⟨dx, a, b, hx, da, db⟩, gz, gr⟩, i0, i1, ht, k⟩ := h
    obtain ⟨a', us, ea, sa, ua⟩ := dp_tup da
    cases ea
    have ul : us.length = rows.length := by rw [dpAll_len ua, List.length_map]
    have p1 := gr.pos
    refine ⟨_, PSs.nox (pss_cons (ps_if (pt_not (pt_val (pe_cX (cWhole T) hr (by decide) (by rfl) pass0 (pa_cons (pv 1) (pa_cons pe_int (pa_cons (pe_op op_sub (pe_callB (call_len_seqK K) (by rfl) T.f_len (by decide +kernel) (pa_cons (pe_fldK K (pv 0)) pa_nil)) pe_int) pa_nil))))))
      (pss_one ps_never) pss_nil)
      (pss_cons (ps_expr (pe_cX (cNeedRow T) hr (by decide) (by rfl) pass0 (pa_cons (pe_fldK K (pv 0)) (pa_cons (pv 2) pa_nil))))
      (pss_cons (ps_setDc (j := 3) (own := [("at", 5), ("sign", 4)]) (tt := tYes) (by rfl) sc_step.nd rfl rfl (sw_trueD rfl rfl rfl (by decide +kernel)) (pi_enumS (by rfl) T.f_enumerate (pa_cons (pe_fldK K (pv 0)) pa_nil)) (blkOk_by (by kernel_rfl)) (fun _ _ _ _ _ => (pg_tupK K (n := 2) rfl (pgs_cons (pg_name (i := 5) sc_step.nd rfl (Or.inl rfl)) (pgs_cons (pg_name (i := 4) sc_step.nd rfl (Or.inl rfl)) pgs_nil)))) (fun _ _ _ _ _ => pts_nil) (fun _ _ _ _ _ => (pv 4)) (fun _ _ _ _ _ => (pv 5)))
      (pss_cons (ps_for PassesOwn.never rfl (pi_str (pv 2)) (pg_name (i := 4) sc_step.nd rfl (Or.inl rfl))
      (pss_one (ps_set (i := 1) sc_step.nd rfl (Or.inl rfl) (pe_ix (ix_tupK K) (pe_ix (ix_tupK K) (pe_fldK K (pv 0)) (pv 1) (fun _ _ => rfl)) (pe_dget (hu1 hr.units) (pv 3) (pv 4) (fun _ _ => rfl)) (fun _ _ => rfl)))))
      (pss_one (ps_ret (pv 1))))))), ?_⟩
    -- if not is_whole(state, 0, len(self.steps) - 1)
    refine ⟨_, rfl, _, rfl, x, _, dx, _, _, rfl, hx, T.cl_Machine, T.n_Machine_steps, rfl, a, us, rfl, .inr sa, _, _, rfl, rfl, i, 0, _, rfl, _, rfl, ?_⟩
    have e1 : decide (0 ≤ i ∧ i ≤ (us.length : Int) - 1) = true := decide_eq_true ⟨i0, by omega⟩
    rw [e1]
    refine iteF ?_
    -- need_row(self.signs, text)
    refine ⟨_, rfl, x, _, dx, _, _, rfl, hx, T.cl_Machine, T.n_Machine_signs, rfl, _, rfl, z, t, rfl, ht, fun H1 s1 => ?_⟩
    -- indexes = {sign: at for at, sign in enumerate(self.signs)}
    refine ⟨_, rfl, x, _, dx, _, _, rfl, s1 _ _ hx, T.cl_Machine, T.n_Machine_signs, rfl, z, rfl, fun D hD => ?_⟩
    refine dc_it walk_enumS (fun j H' => Same H H' ∧ ∃ kvs, H' D = some (.dK kvs) ∧ kvs.length ≤ j ∧ ∀ n c, n < j → z.cps.toList[n]? = some c → valV kvs (Sum.inr (sgn c)) = some (V.int n)) ⟨s1.trans (Same.new hD), [], upd_same, Nat.le_refl _, fun _ _ h => absurd h (Nat.not_lt_zero _)⟩ (fun _ _ _ _ => trivial) ?_ ?_
    · rintro j v H2 H3 hj ⟨s2, kvs, h2, hl, hk⟩ ⟨u, c, rfl, hu, rfl, hc⟩
      have hc' : z.cps.toList[j]? = some c := by rw [← get_tl]; exact hc
      refine ⟨u, _, rfl, SqT.of upd_same, rfl, _, _, rfl, _, _, rfl, rfl, ?_⟩
      have g2 := gz.few
      rw [size_tl] at hj
      refine ⟨rfl, ?_⟩
      refine ⟨_, rfl, _, rfl, kvs, Sum.inr (sgn c), rfl, by rw [upd_ne (ne_of_none h2 hu)]; exact h2, Nat.lt_of_le_of_lt (show kvs.length ≤ 1000 by omega) (by decide), Same.put (s2.trans (Same.new hu)) (s1.free hD), _, upd_same, Nat.le_trans (length_putK _ _ _) (by omega), ?_⟩
      intro n c' hn hc2
      rw [valV_put]
      by_cases q : c' = c
      · subst q
        rw [nd_at gz.nd hc2 hc', if_pos rfl]
      · rw [if_neg (fun e => q (sgn_inj (Sum.inr.inj e)))]
        refine hk n c' ?_ hc2
        rcases Nat.lt_or_eq_of_le (Nat.le_of_lt_succ hn) with h | h
        · exact h
        · subst h
          rw [hc'] at hc2
          exact absurd (Option.some.inj hc2).symm q
    rintro H2 ⟨s2, kvs, h2, hl, hk⟩
    -- for sign in text
    refine ⟨_, rfl, t, rfl, for_it walk_str (fun j σ H' => ∃ v, σ = [some (.ref x), some (.int (runM z.cps.toList rows i (t.cps.toList.take j))), some (.str t), some (.ref D), v, none] ∧ H' = H2) ⟨none, rfl, rfl⟩ (fun _ _ _ _ _ => trivial) ?_ ?_⟩
    · rintro j v σ H3 H4 hj ⟨v0, rfl, rfl⟩ ⟨rfl, c, hc, rfl⟩
      have hc' : t.cps.toList[j]? = some c := by rw [← get_tl]; exact hc
      have hcz := ht c (mem_of_at hc')
      obtain ⟨r0, r1⟩ := run_rng gr (t.cps.toList.take j) i i0 i1 fun c' h => ht c' (List.mem_of_mem_take h)
      obtain ⟨r, e1, e2, _, _⟩ := next_at gr r0 r1 hcz
      obtain ⟨uv, hu1', hu2⟩ := dpAll_at ua (show (rows.map rowD)[(runM z.cps.toList rows i (t.cps.toList.take j)).toNat]? = some (rowD r) by rw [List.getElem?_map, e1]; rfl)
      obtain ⟨q, ws, rfl, sq, wq⟩ := dp_tup hu2
      have ew := dpAll_ints_eq wq
      subst ew
      refine ⟨_, rfl, x, _, dx, _, _, rfl, s2 _ _ hx, T.cl_Machine, T.n_Machine_steps, rfl, _, rfl, a, us, _, .ref q, rfl, rfl, sqT_mono s2 sa, atI_of r0 hu1', ?_⟩
      have hkc := hk _ _ (by rw [size_tl]; exact List.idxOf_lt_length_of_mem hcz) (idx_at hcz)
      refine ⟨_, rfl, _, rfl, D, .int (z.cps.toList.idxOf c : Nat), rfl, ?_, q, _, _, .int (nextM z.cps.toList rows (runM z.cps.toList rows i (t.cps.toList.take j)) c), rfl, rfl, sqT_mono s2 sq, ?_, ?_⟩
      · have dg := DGet.k (k := Sum.inr (sgn c)) h2
        rw [hkc] at dg
        exact dg
      · refine atI_nat ?_
        rw [List.getElem?_map, e2]
        rfl
      · rw [← run_snoc, ← take_more hc']
        exact ⟨_, rfl, rfl⟩
    · rintro σ H3 ⟨v, rfl, rfl⟩
      rw [size_tl, List.take_length]
      exact ⟨_, rfl, k _ s2⟩
theorem cMStep (T : Tx K mg) : MetX P w K mg base CX0 2 (a_Machine K) "step" (spMStep K) := c_step T fun _ F => ok_step F T
/-! ### state, len, [ ], in -/
def spMState (K : PySem.W.Frag) : Sp := fun vs H Q _ => ∃ (x : Addr) (z : Str) (rows : List (List Int)) (ms : List Bool) (t : Str), vs = [.ref x, .str t] ∧ Mach K H x z rows ms ∧ (∀ c ∈ t.cps.toList, c ∈ z.cps.toList) ∧
  ∀ H', Same H H' → Q (.int (runM z.cps.toList rows 0 t.cps.toList)) H'
theorem pos_len {z : Str} {rows : List (List Int)} {ms : List Bool} {n : Nat} (g : GoodRows n rows ms) : (0 : Int) < rows.length := by
  have := g.pos
  omega
theorem ok_state {f : Addr} {fd : FuncData} (F : FunD K "state" "Machine.state" (defArgs s_state) (defBody s_state) (defScope s_state) [] [] f fd) (T : Tx K mg) : FnOk P w K mg base CX0 3 f fd ["self", "row"] (spMState K) := by
  refine F.ok sc_state (fun vs H Q E h => ?_) (fun cdv A outer s H vs Q E hr h => ?_)
  · obtain ⟨x, z, rows, ms, t, rfl, _⟩ := h
    rfl
  · obtain ⟨x, z, rows, ms, t, rfl, M, ht, k⟩ := h
    obtain ⟨dx, a, b, hx, _, _⟩ := M.ex
    refine ⟨_, PSs.nox (pss_one (ps_ret (pe_mX (pv 0) T.cl_Machine (cMStep T) hr (by decide) pass0 (pa_cons pe_int (pa_cons (pv 1) pa_nil))))), ?_⟩
    exact ⟨_, rfl, x, dx, _, rfl, hx, rfl, _, rfl, x, z, rows, ms, 0, t, rfl, M, Int.le_refl 0, pos_len (z := z) M.gr, ht, k⟩
theorem cMState (T : Tx K mg) : MetX P w K mg base CX0 3 (a_Machine K) "state" (spMState K) := c_state T fun _ F => ok_state F T
def spMLen (K : PySem.W.Frag) : Sp := fun vs H Q _ => ∃ (x : Addr) (z : Str) (rows : List (List Int)) (ms : List Bool), vs = [.ref x] ∧ Mach K H x z rows ms ∧ Q (.int rows.length) H
theorem ok_mlen {f : Addr} {fd : FuncData} (F : FunD K "__len__" "Machine.__len__" (defArgs s_mlen) (defBody s_mlen) (defScope s_mlen) [] [] f fd) (T : Tx K mg) : FnOk P w K mg base CX0 1 f fd ["self"] (spMLen K) := by
  refine F.ok sc_mlen (fun vs H Q E h => ?_) (fun cdv A outer s H vs Q E hr h => ?_)
  · obtain ⟨x, z, rows, ms, rfl, _⟩ := h
    rfl
  · obtain ⟨x, z, rows, ms, rfl, M, k⟩ := h
    obtain ⟨dx, a, b, hx, da, _⟩ := M.ex
    obtain ⟨a', us, ea, sa, ua⟩ := dp_tup da
    cases ea
    have ul : us.length = rows.length := by rw [dpAll_len ua, List.length_map]
    refine ⟨_, PSs.nox (pss_one (ps_ret (pe_callB (call_len_seqK K) (by rfl) T.f_len (by decide +kernel) (pa_cons (pe_fldK K (pv 0)) pa_nil)))), ?_⟩
    refine ⟨_, rfl, x, _, dx, _, _, rfl, hx, T.cl_Machine, T.n_Machine_steps, rfl, a, us, rfl, .inr sa, ?_⟩
    rw [ul]
    exact k
theorem cMLen (T : Tx K mg) : MetX P w K mg base CX0 1 (a_Machine K) "__len__" (spMLen K) := c_mlen T fun _ F => ok_mlen F T
def toldM (z : List Nat) (rows : List (List Int)) (ms : List Bool) (t : List Nat) : Bool := ms.getD (runM z rows 0 t).toNat false
theorem told_at {z : Str} {rows : List (List Int)} {ms : List Bool} {t : List Nat} (g : GoodRows z.cps.toList.length rows ms) (ht : ∀ c ∈ t, c ∈ z.cps.toList) : 0 ≤ runM z.cps.toList rows 0 t ∧ ms[(runM z.cps.toList rows 0 t).toNat]? = some (toldM z.cps.toList rows ms t) := by
  obtain ⟨r0, r1⟩ := run_rng g t 0 (Int.le_refl 0) (pos_len (z := z) g) ht
  have hm := g.mrk
  have hl : (runM z.cps.toList rows 0 t).toNat < ms.length := by omega
  refine ⟨r0, ?_⟩
  unfold toldM
  rw [List.getElem?_eq_getElem hl, getD_of (List.getElem?_eq_getElem hl)]
def spMGet (K : PySem.W.Frag) : Sp := fun vs H Q _ => ∃ (x : Addr) (z : Str) (rows : List (List Int)) (ms : List Bool) (t : Str), vs = [.ref x, .str t] ∧ Mach K H x z rows ms ∧ (∀ c ∈ t.cps.toList, c ∈ z.cps.toList) ∧
  ∀ H', Same H H' → Q (.bl (toldM z.cps.toList rows ms t.cps.toList)) H'
theorem ok_mget {f : Addr} {fd : FuncData} (F : FunD K "__getitem__" "Machine.__getitem__" (defArgs s_mget) (defBody s_mget) (defScope s_mget) [] [] f fd) (T : Tx K mg) : FnOk P w K mg base CX0 4 f fd ["self", "row"] (spMGet K) := by
  refine F.ok sc_mget (fun vs H Q E h => ?_) (fun cdv A outer s H vs Q E hr h => ?_)
  · obtain ⟨x, z, rows, ms, t, rfl, _⟩ := h
    rfl
  · obtain ⟨x, z, rows, ms, t, rfl, M, ht, k⟩ := h
    obtain ⟨dx, a, b, hx, _, db⟩ := M.ex
    obtain ⟨b', us, eb, sb, ub⟩ := dp_tup db
    cases eb
    have ew := dpAll_bools_eq ub
    subst ew
    obtain ⟨r0, r1⟩ := told_at M.gr ht
    refine ⟨_, PSs.nox (pss_one (ps_ret (pe_ix (ix_tupK K) (pe_fldK K (pv 0)) (pe_mX (pv 0) T.cl_Machine (cMState T) hr (by decide) pass0 (pa_cons (pv 1) pa_nil)) (fun _ _ => rfl)))), ?_⟩
    refine ⟨_, rfl, x, _, dx, _, _, rfl, hx, T.cl_Machine, T.n_Machine_told, rfl, _, rfl, x, dx, _, rfl, hx, rfl, _, rfl, x, z, rows, ms, t, rfl, M, ht, fun H1 s1 => ?_⟩
    refine ⟨b, _, _, _, rfl, rfl, sqT_mono s1 sb, atI_of r0 ?_, k _ s1⟩
    rw [List.getElem?_map, r1]
    rfl
theorem cMGet (T : Tx K mg) : MetX P w K mg base CX0 4 (a_Machine K) "__getitem__" (spMGet K) := c_mget T fun _ F => ok_mget F T
def spMIn (K : PySem.W.Frag) : Sp := fun vs H Q _ => ∃ (x : Addr) (z : Str) (rows : List (List Int)) (ms : List Bool) (t : Str), vs = [.ref x, .str t] ∧ Mach K H x z rows ms ∧ (∀ c ∈ t.cps.toList, c ∈ z.cps.toList) ∧ t.cps.toList.length ≤ 1000 ∧
  ∀ H', Same H H' → Q (.bl (toldM z.cps.toList rows ms t.cps.toList)) H'
theorem ok_mcon {f : Addr} {fd : FuncData} (F : FunD K "__contains__" "Machine.__contains__" (defArgs s_mcon) (defBody s_mcon) (defScope s_mcon) [] [] f fd) (T : Tx K mg) : FnOk P w K mg base CX0 4 f fd ["self", "thing"] (spMIn K) := by
  refine F.ok sc_mcon (fun vs H Q E h => ?_) (fun cdv A outer s H vs Q E hr h => ?_)
  · obtain ⟨x, z, rows, ms, t, rfl, _⟩ := h
    rfl
  · obtain ⟨x, z, rows, ms, t, rfl, M, ht, hl, k⟩ := h
    obtain ⟨dx, a, b, hx, _, db⟩ := M.ex
    obtain ⟨b', us, eb, sb, ub⟩ := dp_tup db
    cases eb
    have ew := dpAll_bools_eq ub
    subst ew
    obtain ⟨r0, r1⟩ := told_at M.gr ht
    refine ⟨_, PSs.nox (pss_one (ps_ret (pe_and (pe_cX (cRow T) hr (by decide) (by rfl) pass0 (pa_cons (pe_fldK K (pv 0)) (pa_cons (pv 1) pa_nil))) (pe_one (pe_ix (ix_tupK K) (pe_fldK K (pv 0)) (pe_mX (pv 0) T.cl_Machine (cMState T) hr (by decide) pass0 (pa_cons (pv 1) pa_nil)) (fun _ _ => rfl)))))), ?_⟩
    refine ⟨_, rfl, x, _, dx, _, _, rfl, hx, T.cl_Machine, T.n_Machine_signs, rfl, _, rfl, z, t, rfl, hl, fun H1 s1 => ?_⟩
    have e1 : (t.cps.toList.all fun c => decide (c ∈ z.cps.toList)) = true := List.all_eq_true.mpr fun c hc => decide_eq_true (ht c hc)
    rw [e1]
    refine ⟨_, rfl, iteT ?_⟩
    refine ⟨_, rfl, x, _, dx, _, _, rfl, s1 _ _ hx, T.cl_Machine, T.n_Machine_told, rfl, _, rfl, x, dx, _, rfl, s1 _ _ hx, rfl, _, rfl, x, z, rows, ms, t, rfl, M.mono s1, ht, fun H2 s2 => ?_⟩
    refine ⟨b, _, _, _, rfl, rfl, sqT_mono (s1.trans s2) sb, atI_of r0 ?_, k _ (s1.trans s2)⟩
    rw [List.getElem?_map, r1]
    rfl
theorem cMIn (T : Tx K mg) : MetX P w K mg base CX0 4 (a_Machine K) "__contains__" (spMIn K) := c_mcon T fun _ F => ok_mcon F T
theorem getIn (T : Tx K mg) : ∀ f, Meth K (a_Machine K) "__getitem__" f → PySem.W.fnIn K f = true := fun f h => by
  have e := h.at_
  rw [T.m_mget.at_] at e
  cases e
  exact T.getIn
end
end Rg
namespace Rg
open PySem PySem.Spec PyProof.Rows L2
section
variable {P : Program} {w : World} {K : PySem.W.Frag} {mg : Str → Option Value} {base : Heap}
/-! ### the pen -/
theorem cut_ints (ns : List Int) (lo hi : Option Int) : ∃ ms : List Int, cutV (ns.map V.int) lo hi = ms.map V.int := by
  unfold cutV
  rw [← List.map_drop, ← List.map_take]
  exact ⟨_, rfl⟩
def spPen (K : PySem.W.Frag) : Sp := fun vs H Q _ => ∃ (a : Addr) (ns : List Int), vs = [.ref a] ∧ SqL K H a (ns.map V.int) ∧ ∀ (D' H' : Hp) (p : Addr), Step NoW H H D' H' → PenAt K D' H' p 900000 → Q (.ref p) H'
theorem ok_pen {f : Addr} {fd : FuncData} (F : FunD K "_law_pen" "_law_pen" (defArgs s_pen) (defBody s_pen) (defScope s_pen) [] [] f fd) (T : Tx K mg) : FnOk P w K mg base CX0 1 f fd ["_law_script"] (spPen K) := by
  refine F.ok sc_pen (fun vs H Q E h => ?_) (fun cdv A outer s H vs Q E hr h => ?_)
  · obtain ⟨a, ns, rfl, _⟩ := h
    rfl
  · obtain ⟨a, ns, rfl, hS, k⟩ := h
    refine ⟨_, PSs.nox (pss_one (ps_ret (pe_lst (pa_cons (pe_callTy (call_list_ofK K) (by rfl) T.f_list (by decide +kernel) (pa_cons (pe_slice (sl_listK K) (pv 0) po_none (po_some pe_int)) pa_nil)) (pa_cons pe_int (pa_cons pe_int pa_nil)))))), ?_⟩
    obtain ⟨ms, em⟩ := cut_ints ns none (some 63)
    refine ⟨_, rfl, _, rfl, a, _, rfl, hS, fun p1 h1 => ⟨p1, _, rfl, .inl (SqL.of upd_same), fun p2 h2 => ⟨(by show 3 ≤ sizeLine; decide), fun p3 h3 => ?_⟩⟩⟩
    rw [em] at h2 h3 ⊢
    have st1 : Step NoW H H H (upd H p1 (.lst (ms.map V.int))) := Step.tmp (Same.refl H) h1
    have st2 := st1.trans (Step.new (o := .lst (ms.map V.int)) st1.dh h2)
    have st3 := st2.trans (Step.tmp (o := .lst [.ref p2, .int 0, .int 0]) st2.dh h3)
    exact k _ _ p3 st3 ⟨st2.dh.free h3, p2, ms, 0, 0, upd_same, SqL.of upd_same, Int.le_refl 0, by decide⟩
theorem cPen (T : Tx K mg) : CalX P w K mg base CX0 1 "_law_pen" (spPen K) := c_pen T fun _ F => ok_pen F T
/-! ### one of some things: of a list, of a text -/
def spPickL (K : PySem.W.Frag) : Sp := fun vs H Q _ => ∃ (D : Hp) (p a : Addr) (xs : List V) (n : Nat), vs = [.ref p, .ref a] ∧ Same D H ∧ PenAt K D H p (n + 1) ∧ SqL K D a xs ∧ 1 ≤ xs.length ∧ xs.length < 1000000 ∧
  ∀ (H' : Hp) (v : V), Step (· = p) D H D H' → PenAt K D H' p n → v ∈ xs → Q v H'
theorem at_mem {α : Type} {xs : List α} {r : Int} (h0 : 0 ≤ r) (h1 : r < xs.length) : ∃ v, v ∈ xs ∧ atI xs r = some v := by
  have hl : r.toNat < xs.length := by omega
  exact ⟨xs[r.toNat], List.getElem_mem hl, atI_of h0 (List.getElem?_eq_getElem hl)⟩
theorem ok_pick {f : Addr} {fd : FuncData} (F : FunD K "_law_pick" "_law_pick" (defArgs s_pick) (defBody s_pick) (defScope s_pick) [] [] f fd) (T : Tx K mg) : FnOk P w K mg base CX0 2 f fd ["_law_pen_here", "_law_some"] (spPickL K) := by
  refine F.ok sc_pick (fun vs H Q E h => ?_) (fun cdv A outer s H vs Q E hr h => ?_)
  · obtain ⟨D, p, a, xs, n, rfl, _⟩ := h
    rfl
  · obtain ⟨D, p, a, xs, n, rfl, sd, pen, hS, l1, l2, k⟩ := h
    refine ⟨_, PSs.nox (pss_one (ps_ret (pe_ix (ix_listK K) (pv 1) (pe_cX (cDraw T) hr (by decide) (by rfl) pass0 (pa_cons (pv 0) (pa_cons (pe_callB (call_len_seqK K) (by rfl) T.f_len (by decide +kernel) (pa_cons (pv 1) pa_nil)) pa_nil))) (fun _ _ => rfl)))), ?_⟩
    refine ⟨_, rfl, _, rfl, _, rfl, a, _, rfl, .inl (sd.seq hS), D, p, _, n, rfl, sd, pen, by omega, by omega, fun H' r st pen' r0 r1 => ?_⟩
    obtain ⟨v, hv, ha⟩ := at_mem r0 r1
    exact ⟨a, _, _, v, rfl, rfl, st.dh.seq hS, ha, k _ v st pen' hv⟩
theorem cPick (T : Tx K mg) : CalX P w K mg base CX0 2 "_law_pick" (spPickL K) := c_pick T fun _ F => ok_pick F T
def spPickS (K : PySem.W.Frag) : Sp := fun vs H Q _ => ∃ (D : Hp) (p : Addr) (z : Str) (n : Nat), vs = [.ref p, .str z] ∧ Same D H ∧ PenAt K D H p (n + 1) ∧ 1 ≤ z.cps.toList.length ∧ z.cps.toList.length ≤ 1000 ∧
  ∀ (H' : Hp) (c : Nat), Step (· = p) D H D H' → PenAt K D H' p n → c ∈ z.cps.toList → Q (.str (sgn c)) H'
theorem ok_pickS {f : Addr} {fd : FuncData} (F : FunD K "_law_pick" "_law_pick" (defArgs s_pick) (defBody s_pick) (defScope s_pick) [] [] f fd) (T : Tx K mg) : FnOk P w K mg base CX0 2 f fd ["_law_pen_here", "_law_some"] (spPickS K) := by
  refine F.ok sc_pick (fun vs H Q E h => ?_) (fun cdv A outer s H vs Q E hr h => ?_)
  · obtain ⟨D, p, z, n, rfl, _⟩ := h
    rfl
  · obtain ⟨D, p, z, n, rfl, sd, pen, l1, l2, k⟩ := h
    have zl := len_tl z
    have zs : z.length ≤ sizeLine := small_line (by omega)
    refine ⟨_, PSs.nox (pss_one (ps_ret (pe_ix ix_str (pv 1) (pe_cX (cDraw T) hr (by decide) (by rfl) pass0 (pa_cons (pv 0) (pa_cons (pe_callB call_len_str (by rfl) T.f_len (by decide +kernel) (pa_cons (pv 1) pa_nil)) pa_nil))) (fun _ _ => rfl)))), ?_⟩
    refine ⟨_, rfl, _, rfl, _, rfl, z, rfl, zs, D, p, _, n, rfl, sd, pen, by omega, by omega, fun H' r st pen' r0 r1 => ?_⟩
    rw [zl] at r1
    obtain ⟨c, hc, ha⟩ := at_mem r0 r1
    exact ⟨z, _, c, rfl, rfl, zs, ha, k _ c st pen' hc⟩
theorem cPickS (T : Tx K mg) : CalX P w K mg base CX0 2 "_law_pick" (spPickS K) := c_pick T fun _ F => ok_pickS F T
/-! ### one to four letters -/
def spLets (K : PySem.W.Frag) : Sp := fun vs H Q _ => ∃ (D : Hp) (p : Addr) (n : Nat), vs = [.ref p] ∧ Same D H ∧ PenAt K D H p (n + 1) ∧
  ∀ (D' H' : Hp) (z : Str), Step (· = p) D H D' H' → PenAt K D' H' p n → GoodSigns z → Q (.str z) H'
def someSigns : List Str := ["xo", "xo", "ox", "a", "abc", "zyxw"]
theorem some_good : ∀ z ∈ someSigns, GoodSigns z := by
  intro z hz
  simp only [someSigns, List.mem_cons, List.not_mem_nil, or_false] at hz
  rcases hz with rfl | rfl | rfl | rfl | rfl | rfl <;> exact ⟨by decide +kernel, by decide +kernel, by decide +kernel, by decide +kernel⟩
theorem ok_lets {f : Addr} {fd : FuncData} (F : FunD K "_law_letters" "_law_letters" (defArgs s_lets) (defBody s_lets) (defScope s_lets) [] [] f fd) (T : Tx K mg) : FnOk P w K mg base CX0 3 f fd ["_law_pen_here"] (spLets K) := by
  refine F.ok sc_lets (fun vs H Q E h => ?_) (fun cdv A outer s H vs Q E hr h => ?_)
  · obtain ⟨D, p, n, rfl, _⟩ := h
    rfl
  · obtain ⟨D, p, n, rfl, sd, pen, k⟩ := h
    refine ⟨_, PSs.nox (pss_one (ps_ret (pe_cX (cPick T) hr (by decide) (by rfl) pass0 (pa_cons (pv 0) (pa_cons (pe_lst (pa_cons pe_str (pa_cons pe_str (pa_cons pe_str (pa_cons pe_str (pa_cons pe_str (pa_cons pe_str pa_nil))))))) pa_nil))))), ?_⟩
    refine ⟨_, rfl, (by show 6 ≤ sizeLine; decide), fun l hl => ?_⟩
    have st : Step (· = p) D H (upd D l (.lst (someSigns.map V.str))) (upd H l (.lst (someSigns.map V.str))) := Step.new sd hl
    have pl : p ≠ l := fun e => pen.there (by rw [e]; exact hl)
    have pen1 : PenAt K (upd D l (.lst (someSigns.map V.str))) (upd H l (.lst (someSigns.map V.str))) p (n + 1) := pen.keep (Step.new (W := NoW) sd hl) (fun z => z)
    refine ⟨upd D l (.lst (someSigns.map V.str)), p, l, someSigns.map V.str, n, rfl, st.dh, pen1, SqL.of upd_same, by decide, by decide, fun H' v st' pen' hv => ?_⟩
    obtain ⟨z, hz, rfl⟩ := List.mem_map.mp hv
    exact k _ _ z (st.trans st') pen' (some_good z hz)
theorem cLets (T : Tx K mg) : CalX P w K mg base CX0 3 "_law_letters" (spLets K) := c_lets T fun _ F => ok_lets F T
/-! ### the plan of a machine -/
def lineD (r : List Int) : PyData := .list (r.map PyData.int)
def tableD (rows : List (List Int)) : PyData := .list (rows.map lineD)
def listD (ms : List Bool) : PyData := .list (ms.map PyData.bool)
def spPlan (K : PySem.W.Frag) : Sp := fun vs H Q _ => ∃ (D : Hp) (p : Addr) (z : Str) (b : Int) (n : Nat), vs = [.ref p, .str z, .int b] ∧ Same D H ∧ PenAt K D H p (n + 600) ∧ z.cps.toList.length ≤ 4 ∧ 1 ≤ b ∧ b ≤ 100 ∧
  ∀ (D' H' : Hp) (t a c : Addr) (rows : List (List Int)) (ms : List Bool), Step (· = p) D H D' H' → PenAt K D' H' p n → GoodRows z.cps.toList.length rows ms → (rows.length : Int) ≤ b →
    D' t = some (.tup [.ref a, .ref c]) → Dp K D' (.ref a) (tableD rows) → Dp K D' (.ref c) (listD ms) → Q (.ref t) H'
theorem ok_plan {f : Addr} {fd : FuncData} (F : FunD K "_law_plan" "_law_plan" (defArgs s_plan) (defBody s_plan) (defScope s_plan) [] [] f fd) (T : Tx K mg) : FnOk P w K mg base CX0 2 f fd ["_law_pen_here", "_law_letters_here", "_law_bound"] (spPlan K) := by
  refine F.ok sc_plan (fun vs H Q E h => ?_) (fun cdv A outer s H vs Q E hr h => ?_)
  · obtain ⟨D, p, z, b, n, rfl, _⟩ := h
    rfl
  · obtain ⟨D, p, z, b, n, rfl, sd, pen, zl, b1, b2, k⟩ := h
    refine ⟨_, PSs.nox (pss_cons (ps_set (i := 3) sc_plan.nd rfl (Or.inr rfl) (pe_op op_add pe_int (pe_cX (cDraw T) hr (by decide) (by rfl) pass0 (pa_cons (pv 0) (pa_cons (pv 2) pa_nil)))))
      (pss_cons (ps_setLc (i := 4) (own := [("_law_spot_here", 5)]) (g := _) (tt := tYes) (by rfl) sc_plan.nd rfl rfl (sw_true rfl rfl rfl (by decide +kernel)) (pi_range1 (by rfl) T.f_range (pa_cons (pv 3) pa_nil)) (blkOk_by (by kernel_rfl)) (fun _ _ _ _ _ => (pg_name (i := 5) sc_plan.nd rfl (Or.inl rfl))) (fun _ _ _ _ _ => pts_nil) (fun _ _ _ _ _ => (pe_lc (own := [("_law_letter", 6)]) (g := _) (tt := tYes) (by rfl) sc_plan.nd (pi_str (pv 1)) (blkOk_by (by kernel_rfl)) (fun _ _ _ _ _ => (pg_name (i := 6) sc_plan.nd rfl (Or.inl rfl))) (fun _ _ _ _ _ => pts_nil) (fun _ _ _ _ _ => (pe_cX (cDraw T) hr (by decide) (by rfl) pass0 (pa_cons (pv 0) (pa_cons (pv 3) pa_nil)))))))
      (pss_one (ps_ret (pe_tup (pa_cons (pv 4) (pa_cons (pe_lc (own := [("_law_spot_here", 5)]) (g := _) (tt := tYes) (by rfl) sc_plan.nd (pi_range1 (by rfl) T.f_range (pa_cons (pv 3) pa_nil)) (blkOk_by (by kernel_rfl)) (fun _ _ _ _ _ => (pg_name (i := 5) sc_plan.nd rfl (Or.inl rfl))) (fun _ _ _ _ _ => pts_nil) (fun _ _ _ _ _ => (pe_cmpR op_eq (pe_cX (cDraw T) hr (by decide) (by rfl) pass0 (pa_cons (pv 0) (pa_cons pe_int pa_nil))) pe_int (nomark _)))) pa_nil))))))), ?_⟩
    -- many = 1 + draw(pen, bound)
    refine ⟨_, rfl, _, rfl, D, p, b, n + 599, rfl, sd, pen, b1, by omega, fun H1 r st1 pen1 r0 r1 => ?_⟩
    refine ⟨_, _, rfl, rfl, ?_⟩
    obtain ⟨m, hm⟩ : ∃ m : Nat, 1 + r = (m : Int) := ⟨(1 + r).toNat, by omega⟩
    show gName 3 (V.int (1 + r)) _ _ _
    rw [hm]
    have m1 : 1 ≤ m := by omega
    have m2 : m ≤ 100 := by omega
    -- the table
    refine ⟨_, rfl, (m : Int), rfl, (by omega), (by omega), fun L hL => ?_⟩
    have pL : p ≠ L := fun e => pen1.there (by rw [e]; exact hL)
    refine lc_it walk_range (fun i H' => ∃ (Di : Hp) (acc : List V) (rs : List (List Int)), Step (· = p) D H Di H' ∧ PenAt K Di H' p (n + 599 - 4 * i) ∧ H' L = some (.lst acc) ∧ Di L = none ∧ acc.length = i ∧ rs.length = i ∧ DpAll K Di acc (rs.map lineD) ∧ ∀ r ∈ rs, r.length = z.cps.toList.length ∧ ∀ x ∈ r, 0 ≤ x ∧ x < (m : Int))
      ⟨D, [], [], st1.trans (Step.tmp st1.dh hL), pen1.keep (Step.tmp (W := NoW) st1.dh hL) (fun z => z), upd_same, st1.dh.free hL, rfl, rfl, .nil, by simp⟩ (fun _ _ _ _ => trivial) ?_ ?_
    · rintro i v H2 H3 hi ⟨Di, acc, rs, st2, pen2, h2, dL, al, rl, hd, hw⟩ ⟨rfl, rfl⟩
      rw [Int.toNat_natCast] at hi
      refine ⟨rfl, ?_⟩
      -- one line
      refine ⟨_, rfl, z, rfl, fun M hM => ?_⟩
      have pM : p ≠ M := fun e => pen2.there (by rw [e]; exact hM)
      have LM : L ≠ M := ne_of_none h2 hM
      refine lc_it walk_str (fun j H' => ∃ (xs : List Int), Step (· = p) Di H3 Di H' ∧ PenAt K Di H' p (n + 599 - 4 * i - j) ∧ H' M = some (.lst (xs.map V.int)) ∧ xs.length = j ∧ ∀ x ∈ xs, 0 ≤ x ∧ x < (m : Int))
        ⟨[], Step.tmp st2.dh hM, pen2.keep (Step.tmp (W := NoW) st2.dh hM) (fun z => z), upd_same, rfl, by simp⟩ (fun _ _ _ _ => trivial) ?_ ?_
      · rintro j v H4 H5 hj ⟨xs, st4, pen4, h4, xl, hx⟩ ⟨rfl, c, hc, rfl⟩
        rw [size_tl] at hj
        refine ⟨rfl, ?_⟩
        refine ⟨_, rfl, _, rfl, Di, p, (m : Int), n + 599 - 4 * i - (j + 1), rfl, st4.dh, pen4.less (by omega), by omega, by omega, fun H6 q st6 pen6 q0 q1 => ?_⟩
        refine ⟨_, st6.kp M _ (fun e => pM e.symm) h4, Nat.lt_of_le_of_lt (show (xs.map V.int).length ≤ 1000 by rw [List.length_map]; omega) (by decide), xs ++ [q], ?_, ?_, by rw [upd_same, List.map_append]; rfl, by rw [List.length_append, xl]; rfl, ?_⟩
        · exact (st4.trans st6).write (.inr hM) (st2.dh.free hM)
        · exact pen6.keep (Step.write (W := (· = M)) (Step.refl st6.dh) (.inl rfl) (st2.dh.free hM)) pM
        · intro x hx'
          rcases List.mem_append.mp hx' with h | h
          · exact hx x h
          · rw [List.mem_singleton.mp h]
            exact ⟨q0, q1⟩
      · rintro H4 ⟨xs, st4, pen4, h4, xl, hx⟩
        rw [size_tl] at xl pen4
        have h4L := st4.kp L _ (fun e => pL e.symm) h2
        have st5 : Step (· = p) Di H3 (upd Di M (.lst (xs.map V.int))) H4 := st4.settle hM h4 (st2.dh.free hM)
        have d5L : (upd Di M (.lst (xs.map V.int))) L = none := by rw [upd_ne LM]; exact dL
        have sD : Same Di (upd Di M (.lst (xs.map V.int))) := same_new (st2.dh.free hM)
        refine ⟨acc, h4L, Nat.lt_of_le_of_lt (show acc.length ≤ 1000 by omega) (by decide), upd Di M (.lst (xs.map V.int)), acc ++ [.ref M], rs ++ [xs], ?_, ?_, upd_same, d5L, by rw [List.length_append, al]; rfl, by rw [List.length_append, rl]; rfl, ?_, ?_⟩
        · exact (st2.trans st5).write (.inr (st1.free hL)) d5L
        · have p5 : PenAt K (upd Di M (.lst (xs.map V.int))) H4 p (n + 599 - 4 * i - z.cps.toList.length) := by
            obtain ⟨o, q, ns, t, g, e1, e2, e3, e4⟩ := pen4
            exact ⟨by rw [upd_ne pM]; exact o, q, ns, t, g, e1, sD.seq e2, e3, e4⟩
          exact (p5.less (by omega)).keep (Step.write (W := (· = L)) (Step.refl st5.dh) (.inl rfl) d5L) pL
        · rw [List.map_append]
          exact dpAll_app (dp_monoAll sD _ _ hd) (dpAll_one (.lst (SqL.of upd_same) (dpAll_ints _)))
        · intro r hr'
          rcases List.mem_append.mp hr' with h | h
          · exact hw r h
          · rw [List.mem_singleton.mp h]
            exact ⟨xl, hx⟩
    rintro H2 ⟨D2, acc, rows, st2, pen2, h2, dL, al, rl, hd, hw⟩
    rw [Int.toNat_natCast] at al rl pen2
    have st3 : Step (· = p) D H (upd D2 L (.lst acc)) H2 := st2.settle (st1.free hL) h2 dL
    have sD3 : Same D2 (upd D2 L (.lst acc)) := same_new dL
    generalize hD3 : upd D2 L (.lst acc) = D3 at st3 sD3
    have dT : Dp K D3 (.ref L) (tableD rows) := .lst (SqL.of (by rw [← hD3]; exact upd_same)) (dp_monoAll sD3 _ _ hd)
    have pen3 : PenAt K D3 H2 p (n + 599 - 4 * m) := by
      obtain ⟨o, q, ns, t, g, e1, e2, e3, e4⟩ := pen2
      exact ⟨by rw [← hD3, upd_ne pL]; exact o, q, ns, t, g, e1, sD3.seq e2, e3, e4⟩
    -- the marks
    refine ⟨_, rfl, _, rfl, (m : Int), rfl, (by omega), (by omega), fun M hM => ?_⟩
    have pM : p ≠ M := fun e => pen3.there (by rw [e]; exact hM)
    refine lc_it walk_range (fun i H' => ∃ (ms : List Bool), Step (· = p) D3 H2 D3 H' ∧ PenAt K D3 H' p (n + 599 - 4 * m - i) ∧ H' M = some (.lst (ms.map V.bl)) ∧ ms.length = i)
      ⟨[], Step.tmp st3.dh hM, pen3.keep (Step.tmp (W := NoW) st3.dh hM) (fun z => z), upd_same, rfl⟩ (fun _ _ _ _ => trivial) ?_ ?_
    · rintro i v H4 H5 hi ⟨ms, st4, pen4, h4, ml⟩ ⟨rfl, rfl⟩
      rw [Int.toNat_natCast] at hi
      refine ⟨rfl, ?_⟩
      refine ⟨_, rfl, D3, p, 2, n + 599 - 4 * m - (i + 1), rfl, st4.dh, pen4.less (by omega), by decide, by decide, fun H6 q st6 pen6 q0 q1 => ?_⟩
      refine ⟨rfl, _, st6.kp M _ (fun e => pM e.symm) h4, Nat.lt_of_le_of_lt (show (ms.map V.bl).length ≤ 1000 by rw [List.length_map]; omega) (by decide), ms ++ [decide (V.int q = V.int 0)], ?_, ?_, by rw [upd_same, List.map_append]; rfl, by rw [List.length_append, ml]; rfl⟩
      · exact (st4.trans st6).write (.inr hM) (st3.dh.free hM)
      · exact pen6.keep (Step.write (W := (· = M)) (Step.refl st6.dh) (.inl rfl) (st3.dh.free hM)) pM
    rintro H4 ⟨ms, st4, pen4, h4, ml⟩
    rw [Int.toNat_natCast] at ml pen4
    have d3M := st3.dh.free hM
    have st5 : Step (· = p) D3 H2 (upd D3 M (.lst (ms.map V.bl))) H4 := st4.settle hM h4 d3M
    have sD5 : Same D3 (upd D3 M (.lst (ms.map V.bl))) := same_new d3M
    refine ⟨(by show 2 ≤ sizeLine; decide), fun t ht => ?_⟩
    have st6 : Step (· = p) (upd D3 M (.lst (ms.map V.bl))) H4 (upd (upd D3 M (.lst (ms.map V.bl))) t (.tup [.ref L, .ref M])) (upd H4 t (.tup [.ref L, .ref M])) := Step.new st5.dh ht
    have pen5 : PenAt K (upd D3 M (.lst (ms.map V.bl))) H4 p n := by
      obtain ⟨o, q, ns, t, g, e1, e2, e3, e4⟩ := pen4.less (show n ≤ n + 599 - 4 * m - m by omega)
      exact ⟨by rw [upd_ne pM]; exact o, q, ns, t, g, e1, sD5.seq e2, e3, e4⟩
    refine k _ _ t L M rows ms ((st3.trans st5).trans st6) (pen5.keep (Step.new (W := NoW) st5.dh ht) (fun z => z)) ⟨by omega, by omega, fun r h => (hw r h).1, fun r h x hx => ?_, by omega⟩ (by omega) upd_same (dp_mono (sD5.trans st6.dd) _ _ dT) (dp_mono st6.dd _ _ (.lst (SqL.of upd_same) (dpAll_bools _)))
    rw [rl]
    exact (hw r h).2 x hx
theorem cPlan (T : Tx K mg) : CalX P w K mg base CX0 2 "_law_plan" (spPlan K) := c_plan T fun _ F => ok_plan F T
end
end Rg
namespace Rg
open PySem PySem.Spec PyProof.Rows L2
section
variable {P : Program} {w : World} {K : PySem.W.Frag} {mg : Str → Option Value} {base : Heap}
/-! ### the state behind a word, by the plan -/
theorem table_at {D : Hp} {a : Addr} {rows : List (List Int)} {i : Nat} {r : List Int} (h : Dp K D (.ref a) (tableD rows)) (hr : rows[i]? = some r) : ∃ us q, SqL K D a us ∧ us.length = rows.length ∧ us[i]? = some (.ref q) ∧ SqL K D q (r.map V.int) := by
  obtain ⟨a', us, e, sa, ua⟩ := dp_list h
  cases e
  obtain ⟨v, h1, h2⟩ := dpAll_at ua (show (rows.map lineD)[i]? = some (lineD r) by rw [List.getElem?_map, hr]; rfl)
  obtain ⟨q, ws, rfl, sq, wq⟩ := dp_list h2
  have ew := dpAll_ints_eq wq
  subst ew
  exact ⟨us, q, sa, by rw [dpAll_len ua, List.length_map], h1, sq⟩
def spSpot (K : PySem.W.Frag) : Sp := fun vs H Q _ => ∃ (z : Str) (a : Addr) (rows : List (List Int)) (ms : List Bool) (i : Int) (t : Str), vs = [.str z, .ref a, .int i, .str t] ∧ Dp K H (.ref a) (tableD rows) ∧ GoodSigns z ∧ GoodRows z.cps.toList.length rows ms ∧ 0 ≤ i ∧ i < rows.length ∧ (∀ c ∈ t.cps.toList, c ∈ z.cps.toList) ∧
  Q (.int (runM z.cps.toList rows i t.cps.toList)) H
theorem ok_spot {f : Addr} {fd : FuncData} (F : FunD K "_law_spot" "_law_spot" (defArgs s_spot) (defBody s_spot) (defScope s_spot) [] [] f fd) (T : Tx K mg) : FnOk P w K mg base CX0 1 f fd ["_law_letters_here", "_law_table", "_law_begin", "_law_word_here"] (spSpot K) := by
  refine F.ok sc_spot (fun vs H Q E h => ?_) (fun cdv A outer s H vs Q E hr h => ?_)
  · obtain ⟨z, a, rows, ms, i, t, rfl, _⟩ := h
    rfl
  · obtain ⟨z, a, rows, ms, i, t, rfl, da, gz, gr, i0, i1, ht, k⟩ := h
    refine ⟨_, PSs.nox (pss_cons (ps_set (i := 4) sc_spot.nd rfl (Or.inl rfl) (pv 2))
      (pss_cons (ps_for PassesOwn.never rfl (pi_str (pv 3)) (pg_name (i := 5) sc_spot.nd rfl (Or.inl rfl))
      (pss_one (ps_set (i := 4) sc_spot.nd rfl (Or.inl rfl) (pe_ix (ix_listK K) (pe_ix (ix_listK K) (pv 1) (pv 4) (fun _ _ => rfl)) (pe_bm PySem.F.plainAttrs_str PySem.F.slot_str_index PySem.F.type_str_index mt_sindex (pv 0) (pa_cons (pv 5) pa_nil)) (fun _ _ => rfl)))))
      (pss_one (ps_ret (pv 4))))), ?_⟩
    refine ⟨_, rfl, ?_⟩
    refine ⟨_, rfl, t, rfl, for_it walk_str (fun j σ H' => ∃ v, σ = [some (.str z), some (.ref a), some (.int i), some (.str t), some (.int (runM z.cps.toList rows i (t.cps.toList.take j))), v] ∧ H' = H) ⟨none, rfl, rfl⟩ (fun _ _ _ _ _ => trivial) ?_ ?_⟩
    · rintro j v σ H3 H4 hj ⟨v0, rfl, rfl⟩ ⟨rfl, c, hc, rfl⟩
      have hc' : t.cps.toList[j]? = some c := by rw [← get_tl]; exact hc
      have hcz := ht c (mem_of_at hc')
      obtain ⟨r0, r1⟩ := run_rng gr (t.cps.toList.take j) i i0 i1 fun c' h => ht c' (List.mem_of_mem_take h)
      obtain ⟨r, e1, e2, _, _⟩ := next_at gr r0 r1 hcz
      obtain ⟨us, q, sa, ul, uq, sq⟩ := table_at da e1
      obtain ⟨n, rest, ho, hn⟩ := place_of hcz
      have en : n = z.cps.toList.idxOf c := nd_at gz.nd (by rw [← get_tl]; exact hn) (idx_at hcz)
      subst en
      refine ⟨_, rfl, _, rfl, a, us, _, .ref q, rfl, rfl, sa, atI_of r0 uq, ?_⟩
      refine ⟨_, rfl, rfl, _, rfl, z, sgn c, _, rest, rfl, rfl, ho, q, _, _, .int (nextM z.cps.toList rows (runM z.cps.toList rows i (t.cps.toList.take j)) c), rfl, rfl, sq, ?_, ?_⟩
      · refine atI_nat ?_
        rw [List.getElem?_map, e2]
        rfl
      · rw [← run_snoc, ← take_more hc']
        exact ⟨_, rfl, rfl⟩
    · rintro σ H3 ⟨v, rfl, rfl⟩
      rw [size_tl, List.take_length]
      exact ⟨_, rfl, k⟩
theorem cSpot (T : Tx K mg) : CalX P w K mg base CX0 1 "_law_spot" (spSpot K) := c_spot T fun _ F => ok_spot F T
/-! ### a word -/
def spWord (K : PySem.W.Frag) : Sp := fun vs H Q _ => ∃ (D : Hp) (p : Addr) (z : Str) (b : Int) (n : Nat), vs = [.ref p, .str z, .int b] ∧ Same D H ∧ PenAt K D H p (n + 101) ∧ GoodSigns z ∧ 0 ≤ b ∧ b ≤ 100 ∧
  ∀ (H' : Hp) (t : Str), Step (· = p) D H D H' → PenAt K D H' p n → (∀ c ∈ t.cps.toList, c ∈ z.cps.toList) → t.cps.toList.length ≤ 100 → Q (.str t) H'
theorem ok_word {f : Addr} {fd : FuncData} (F : FunD K "_law_word" "_law_word" (defArgs s_word) (defBody s_word) (defScope s_word) [] [] f fd) (T : Tx K mg) : FnOk P w K mg base CX0 3 f fd ["_law_pen_here", "_law_letters_here", "_law_bound"] (spWord K) := by
  refine F.ok sc_word (fun vs H Q E h => ?_) (fun cdv A outer s H vs Q E hr h => ?_)
  · obtain ⟨D, p, z, b, n, rfl, _⟩ := h
    rfl
  · obtain ⟨D, p, z, b, n, rfl, sd, pen, gz, b0, b1, k⟩ := h
    have g1 := gz.pos
    have g2 := gz.few
    refine ⟨_, PSs.nox (pss_one (ps_ret (pe_joinK K pe_str (pe_lc (own := [("_law_k", 3)]) (g := _) (tt := tYes) (by rfl) sc_word.nd (pi_range1 (by rfl) T.f_range (pa_cons (pe_cX (cDraw T) hr (by decide) (by rfl) pass0 (pa_cons (pv 0) (pa_cons (pe_op op_add (pv 2) pe_int) pa_nil))) pa_nil)) (blkOk_by (by kernel_rfl)) (fun _ _ _ _ _ => (pg_name (i := 3) sc_word.nd rfl (Or.inl rfl))) (fun _ _ _ _ _ => pts_nil) (fun _ _ _ _ _ => (pe_cX (cPickS T) hr (by decide) (by rfl) pass0 (pa_cons (pv 0) (pa_cons (pv 1) pa_nil)))))))), ?_⟩
    refine ⟨⟨_, rfl⟩, ?_⟩
    refine ⟨_, rfl, _, rfl, _, _, rfl, rfl, D, p, b + 1, n + 100, rfl, sd, pen, by omega, by omega, fun H1 r st1 pen1 r0 r1 => ?_⟩
    refine ⟨r, rfl, by omega, by omega, fun L hL => ?_⟩
    have pL : p ≠ L := fun e => pen1.there (by rw [e]; exact hL)
    have dL := st1.dh.free hL
    refine lc_it walk_range (fun i H' => ∃ cs : List Nat, Step (· = p) D H D H' ∧ PenAt K D H' p (n + 100 - i) ∧ H' L = some (.lst ((cs.map sgn).map V.str)) ∧ cs.length = i ∧ ∀ c ∈ cs, c ∈ z.cps.toList)
      ⟨[], st1.trans (Step.tmp st1.dh hL), pen1.keep (Step.tmp (W := NoW) st1.dh hL) (fun z => z), upd_same, rfl, by simp⟩ (fun _ _ _ _ => trivial) ?_ ?_
    · rintro i v H2 H3 hi ⟨cs, st2, pen2, h2, cl, hc⟩ ⟨rfl, rfl⟩
      have hi' : i < r.toNat := hi
      refine ⟨rfl, ?_⟩
      refine ⟨_, rfl, _, rfl, D, p, z, n + 100 - (i + 1), rfl, st2.dh, pen2.less (by omega), g1, by omega, fun H4 c st4 pen4 hcz => ?_⟩
      refine ⟨_, st4.kp L _ (fun e => pL e.symm) h2, Nat.lt_of_le_of_lt (show ((cs.map sgn).map V.str).length ≤ 1000 by rw [List.length_map, List.length_map]; omega) (by decide), cs ++ [c], ?_, ?_, by rw [upd_same, List.map_append, List.map_append]; rfl, by rw [List.length_append, cl]; rfl, ?_⟩
      · exact (st2.trans st4).write (.inr (st1.free hL)) dL
      · exact pen4.keep (Step.write (W := (· = L)) (Step.refl st4.dh) (.inl rfl) dL) pL
      · intro c' h
        rcases List.mem_append.mp h with h | h
        · exact hc c' h
        · rw [List.mem_singleton.mp h]
          exact hcz
    · rintro H2 ⟨cs, st2, pen2, h2, cl, hc⟩
      refine ⟨"", L, cs.map sgn, rfl, rfl, .inl (SqL.of h2), ?_, ?_⟩
      · rw [sum_sgn, List.length_map]
        show cs.length + cs.length * 0 ≤ _
        omega
      · rw [join_sgn]
        exact k _ _ st2 (pen2.less (by omega)) (by simpa [SX.S] using hc) (by simp [SX.S]; omega)
theorem cWord (T : Tx K mg) : CalX P w K mg base CX0 3 "_law_word" (spWord K) := c_word T fun _ F => ok_word F T
/-! ### the machine of a plan -/
theorem cMk (T : Tx K mg) : MkX P w K mg base CX0 3 "Machine" (a_Machine K) (spInit K) := by
  obtain ⟨fd, F⟩ := T.d_init
  exact ⟨_, fd, _, T.mk_Machine, ok_init F T, T.g_Machine, b_init T F⟩
theorem kbMk {f : Addr} {fd : FuncData} (F : FunD K "__init__" "Machine.__init__" (defArgs s_init) (defBody s_init) (defScope s_init) [] [] f fd) : KBn K fd ["self", "signs", "steps", "told"] 1 ["told", "steps", "signs"] (byIx [0, 3, 2, 1]) (byIx [0, 3, 2, 1]) :=
  FunD.kbindsP F 1 _ (byIx [0, 3, 2, 1]) (fun h1 h2 => vals_byIx h1 h2 _) fun _ _ _ _ _ _ us ws h1 h2 => match us, h1, ws, h2 with | [_], _, [_, _, _], _ => rfl
/-- what is known when the machine has been made: it is settled -/
theorem made_end {D H D3 H3 D' H' : Hp} {p x dx a b : Addr} {z : Str} {rows : List (List Int)} {ms : List Bool} {n : Nat} (st : Step (· = p) D H D3 H3) (pen : PenAt K D3 H3 p n) (hx : H3 x = none) (hd : H3 dx = none) (ne : dx ≠ x)
    (gz : GoodSigns z) (gr : GoodRows z.cps.toList.length rows ms)
    (st' : Step (· = x) D3 (upd (upd H3 dx (.own x)) x (.ins (a_Machine K) dx [])) D' H') (dx' : D' x = none) (hx' : H' x = some (.ins (a_Machine K) dx (fM z a b))) (da : Dp K D' (.ref a) (rowsD rows)) (db : Dp K D' (.ref b) (marksD ms)) :
    Step (· = p) D H (upd D' x (.ins (a_Machine K) dx (fM z a b))) H' ∧ PenAt K (upd D' x (.ins (a_Machine K) dx (fM z a b))) H' p n ∧ Mach K (upd D' x (.ins (a_Machine K) dx (fM z a b))) x z rows ms ∧
      (∀ c o, H c = none → H3 c = some o → D3 c = none → H' c = some o ∧ (upd D' x (.ins (a_Machine K) dx (fM z a b))) c = none) := by
  have x1 : (upd H3 dx (.own x)) x = none := by rw [upd_ne (Ne.symm ne)]; exact hx
  have t1 : Step NoW D3 H3 D3 (upd (upd H3 dx (.own x)) x (.ins (a_Machine K) dx [])) := (Step.tmp st.dh hd).trans (Step.tmp (Step.tmp (W := NoW) st.dh hd).dh x1)
  have t2 : Step (· = x) D3 H3 D' H' := (t1.any).trans st'
  have t3 : Step NoW D3 H3 D' H' := t2.fresh fun b e => by rw [e]; exact hx
  have t4 : Step NoW D3 H3 (upd D' x (.ins (a_Machine K) dx (fM z a b))) H' := t3.settle hx hx' dx'
  have sD : Same D' (upd D' x (.ins (a_Machine K) dx (fM z a b))) := same_new dx'
  refine ⟨st.trans t4.any, pen.keep t4 (fun z => z), ⟨⟨dx, a, b, upd_same, dp_mono sD _ _ da, dp_mono sD _ _ db⟩, gz, gr⟩, fun c o _ h3 d3 => ⟨t4.kp c o (fun z => z) h3, t4.fr c (by rw [h3]; exact fun z => by cases z) d3⟩⟩
def spMade (K : PySem.W.Frag) : Sp := fun vs H Q _ => ∃ (D : Hp) (p ta tb : Addr) (z : Str) (rows : List (List Int)) (ms : List Bool) (n : Nat), vs = [.ref p, .str z, .ref ta, .ref tb] ∧ Same D H ∧ PenAt K D H p (n + 1) ∧ Dp K D (.ref ta) (tableD rows) ∧ Dp K D (.ref tb) (listD ms) ∧ GoodSigns z ∧ GoodRows z.cps.toList.length rows ms ∧
  ∀ (D' H' : Hp) (x : Addr), Step (· = p) D H D' H' → PenAt K D' H' p n → Mach K D' x z rows ms → Q (.ref x) H'
theorem ok_made {f : Addr} {fd : FuncData} (F : FunD K "_law_made" "_law_made" (defArgs s_made) (defBody s_made) (defScope s_made) [] [] f fd) (T : Tx K mg) : FnOk P w K mg base CX0 5 f fd ["_law_pen_here", "_law_letters_here", "_law_table", "_law_marks"] (spMade K) := by
  refine F.ok sc_made (fun vs H Q E h => ?_) (fun cdv A outer s H vs Q E hr h => ?_)
  · obtain ⟨D, p, ta, tb, z, rows, ms, n, rfl, _⟩ := h
    rfl
  · obtain ⟨D, p, ta, tb, z, rows, ms, n, rfl, sd, pen, da, db, gz, gr, k⟩ := h
    obtain ⟨fdi, Fi⟩ := T.d_init
    have q1 := gz.pos
    have p1 := gr.pos
    have p2 := gr.few
    obtain ⟨ta', us, e, sa, ua⟩ := dp_list da
    cases e
    have ul : us.length = rows.length := by rw [dpAll_len ua, List.length_map]
    obtain ⟨tb', bs, e, sb, ub⟩ := dp_list db
    cases e
    have eb := dpAll_bools_eq ub
    subst eb
    have line : ∀ (i : Nat) (v : V), us[i]? = some v → ∃ (q : Addr) (r : List Int), v = .ref q ∧ rows[i]? = some r ∧ SqL K D q (r.map V.int) := by
      intro i v hv
      obtain ⟨d, h1, h2⟩ := dpAll_get ua hv
      rw [List.getElem?_map] at h1
      obtain ⟨r, hr', rfl⟩ := Option.map_eq_some_iff.mp h1
      obtain ⟨q, ws, rfl, sq, wq⟩ := dp_list h2
      have ew := dpAll_ints_eq wq
      subst ew
      exact ⟨q, r, rfl, hr', sq⟩
    refine ⟨_, PSs.nox (pss_cons (ps_setLc (i := 4) (own := [("_law_line", 8)]) (g := _) (tt := tYes) (by rfl) sc_made.nd rfl rfl (sw_true rfl rfl rfl (by decide +kernel)) (pi_listK K (pv 2)) (blkOk_by (by kernel_rfl)) (fun _ _ _ _ _ => (pg_name (i := 8) sc_made.nd rfl (Or.inl rfl))) (fun _ _ _ _ _ => pts_nil) (fun _ _ _ _ _ => (pe_callTy (call_list_ofK K) (by rfl) T.f_list (by decide +kernel) (pa_cons (pv 8) pa_nil))))
      (pss_cons (ps_set (i := 5) sc_made.nd rfl (Or.inl rfl) (pe_callTy (call_list_ofK K) (by rfl) T.f_list (by decide +kernel) (pa_cons (pv 3) pa_nil)))
      (pss_cons (ps_set (i := 6) sc_made.nd rfl (Or.inl rfl) (pe_cX (cDraw T) hr (by decide) (by rfl) pass0 (pa_cons (pv 0) (pa_cons pe_int pa_nil))))
      (pss_cons (ps_if (pt_cmpR op_eq (pv 6) pe_int (nomark _))
      (pss_cons (ps_set (i := 7) sc_made.nd rfl (Or.inl rfl) (pe_mkX (cMk T) hr (by decide) (by rfl) pass0 (pa_cons (pv 1) (pa_cons (pv 4) (pa_cons (pv 5) pa_nil)))))
      (pss_cons (ps_asg pe_int (pg_sub (pe_ix (ix_listK K) (pv 4) pe_int (fun _ _ => rfl)) pe_int set_list))
      (pss_cons (ps_expr (pe_bm PySem.F.plainAttrs_list PySem.F.slot_list_append PySem.F.type_list_append mt_append (pv 4) (pa_cons (pe_lst pa_nil) pa_nil)))
      (pss_cons (ps_asg pe_non (pg_sub (pv 5) pe_int set_list))
      (pss_one (ps_ret (pv 7))))))) pss_nil)
      (pss_cons (ps_if (pt_cmpR op_eq (pv 6) pe_int (nomark _))
      (pss_one (ps_ret (pe_mkX (cMk T) hr (by decide) (by rfl) pass0 (pa_cons (pv 1) (pa_cons (pe_callTy (call_tuple_ofK K) (by rfl) T.f_tuple (by decide +kernel) (pa_cons (pe_lc (own := [("_law_line", 8)]) (g := _) (tt := tYes) (by rfl) sc_made.nd (pi_listK K (pv 2)) (blkOk_by (by kernel_rfl)) (fun _ _ _ _ _ => (pg_name (i := 8) sc_made.nd rfl (Or.inl rfl))) (fun _ _ _ _ _ => pts_nil) (fun _ _ _ _ _ => (pe_callTy (call_tuple_ofK K) (by rfl) T.f_tuple (by decide +kernel) (pa_cons (pv 8) pa_nil)))) pa_nil)) (pa_cons (pe_callTy (call_tuple_ofK K) (by rfl) T.f_tuple (by decide +kernel) (pa_cons (pv 3) pa_nil)) pa_nil)))))) pss_nil)
      (pss_cons (ps_set (i := 7) sc_made.nd rfl (Or.inl rfl) (pe_makeK0 T.mk_Machine (ok_init Fi T) (hr.mono (by decide)) (by rfl) T.g_Machine (kbMk Fi) pass0 (pk_cons (pv 5) (pk_cons (pv 4) (pk_cons (pv 1) pk_nil)))))
      (pss_cons (ps_expr (pe_bm PySem.F.plainAttrs_list PySem.F.slot_list_append PySem.F.type_list_append mt_append (pv 5) (pa_cons pe_bl pa_nil)))
      (pss_one (ps_ret (pv 7)))))))))), ?_⟩
    -- lines = [list(line) for line in table]
    refine ⟨_, rfl, ta, rfl, ⟨us, sd.seq sa⟩, fun L hL => ?_⟩
    have dL := sd.free hL
    refine lc_it walk_list (fun i H' => ∃ as : List Addr, Step NoW D H D H' ∧ H' L = some (.lst (as.map V.ref)) ∧ as.length = i ∧ ∀ (j : Nat) (a : Addr) (r : List Int), as[j]? = some a → rows[j]? = some r → H a = none ∧ a ≠ L ∧ H' a = some (.lst (r.map V.int)))
      ⟨[], Step.tmp sd hL, upd_same, rfl, by simp⟩ (fun _ _ _ ⟨_, q, _⟩ => q.dh.seq sa) ?_ ?_
    · rintro i v H2 H3 hi ⟨as, st2, h2, al, hA⟩ ⟨rfl, hv⟩
      obtain ⟨q, r, rfl, hr', sq⟩ := line i v hv
      refine ⟨rfl, ?_⟩
      refine ⟨_, rfl, q, _, rfl, .inl (st2.dh.seq sq), fun a ha => ?_⟩
      have aL : L ≠ a := ne_of_none h2 ha
      refine ⟨as.map V.ref, by rw [upd_ne aL]; exact h2, Nat.lt_of_le_of_lt (show (as.map V.ref).length ≤ 1000 by rw [List.length_map]; omega) (by decide), as ++ [a], ?_, by rw [upd_same, List.map_append]; rfl, by rw [List.length_append, al]; rfl, ?_⟩
      · exact (st2.trans (Step.tmp st2.dh ha)).write (.inr hL) dL
      · intro j b r' hb hr2
        by_cases hj : j < as.length
        · rw [List.getElem?_append_left hj] at hb
          obtain ⟨c1, c2, c3⟩ := hA j b r' hb hr2
          exact ⟨c1, c2, by rw [upd_ne c2, upd_ne (ne_of_none c3 ha)]; exact c3⟩
        · have hj2 : j = i := by
            obtain ⟨hl, _⟩ := List.getElem?_eq_some_iff.mp hb
            rw [List.length_append, List.length_singleton] at hl
            omega
          subst hj2
          rw [List.getElem?_append_right (by omega), al, Nat.sub_self] at hb
          cases hb
          rw [hr'] at hr2
          cases hr2
          exact ⟨st2.free ha, Ne.symm aL, by rw [upd_ne (Ne.symm aL), upd_same]⟩
    rintro H1 ⟨as, st1, h1L, al, hA⟩
    -- heard = list(marks)
    refine ⟨_, rfl, tb, _, rfl, .inl (st1.dh.seq sb), fun B hB => ?_⟩
    have BL : L ≠ B := ne_of_none h1L hB
    have st2 : Step NoW D H D (upd H1 B (.lst (ms.map V.bl))) := st1.trans (Step.tmp st1.dh hB)
    -- turn = draw(pen, 3)
    refine ⟨_, rfl, D, p, 3, n, rfl, st2.dh, pen.keep st2 (fun z => z), by decide, by decide, fun H3 q st3' pen3 q0 q1' => ?_⟩
    have st3 : Step (· = p) D H D H3 := st2.any.trans st3'
    have hpn := pen.there
    have kp3 : ∀ (c : Addr) (o : HO), H c = none → (upd H1 B (.lst (ms.map V.bl))) c = some o → H3 c = some o := fun c o hc e => st3'.kp c o (fun z => hpn (by rw [← z]; exact hc)) e
    have hB0 : H B = none := st1.free hB
    have h3L : H3 L = some (.lst (as.map V.ref)) := kp3 L _ hL (by rw [upd_ne BL]; exact h1L)
    have h3B : H3 B = some (.lst (ms.map V.bl)) := kp3 B _ hB0 upd_same
    have h3A : ∀ (j : Nat) (a : Addr) (r : List Int), as[j]? = some a → rows[j]? = some r → H a = none ∧ H3 a = some (.lst (r.map V.int)) := fun j a r h1 h2 => by
      obtain ⟨c1, c2, c3⟩ := hA j a r h1 h2
      exact ⟨c1, kp3 a _ c1 (by rw [upd_ne (ne_of_none c3 hB)]; exact c3)⟩
    have asl : as.length = rows.length := by rw [al, ul]
    have stepsIn : ∀ H4, Same H3 H4 → StepsIn K D H4 (.ref L) rows := fun H4 e => ⟨L, as.map V.ref, rfl, .inl (SqL.of (e _ _ h3L)), by rw [List.length_map, asl], fun i u r hu hr' => by
      rw [List.getElem?_map] at hu
      obtain ⟨a, ha, rfl⟩ := Option.map_eq_some_iff.mp hu
      exact ⟨a, rfl, .inl (SqL.of (e _ _ (h3A i a r ha hr').2))⟩⟩
    have toldIn : ∀ H4, Same H3 H4 → ToldIn K D H4 (.ref B) ms := fun H4 e => ⟨B, rfl, .inl (SqL.of (e _ _ h3B))⟩
    have sameNew : ∀ {H3 : Hp} (x dx : Addr), H3 x = none → H3 dx = none → dx ≠ x → Same H3 (upd (upd H3 dx (.own x)) x (.ins (a_Machine K) dx [])) := fun x dx hx hd ne => (same_new hd).trans (same_new (by rw [upd_ne (Ne.symm ne)]; exact hx))
    -- if turn == 0
    refine ⟨_, rfl, rfl, _, rfl, ?_⟩
    refine ite2 (fun _ => ?_) (fun _ => ?_)
    · refine ⟨_, rfl, _, rfl, _, rfl, fun x dx hx hd ne => ?_⟩
      have sN := sameNew x dx hx hd ne
      refine ⟨D, x, dx, z, .ref L, .ref B, rows, ms, rfl, st3.dh.trans sN, st3.dh.free hx, upd_same, gz, gr, stepsIn _ sN, toldIn _ sN, fun D' H' a b st' dx' hx' da' db' => ⟨rfl, ?_⟩⟩
      obtain ⟨m1, m2, m3, m4⟩ := made_end (K := K) st3 pen3 hx hd ne gz gr st' dx' hx' da' db'
      generalize upd D' x (.ins (a_Machine K) dx (fM z a b)) = D5 at m1 m2 m3 m4
      obtain ⟨l5, d5⟩ := m4 L _ hL h3L dL
      -- lines[0][0] = 99
      obtain ⟨a0, ha0⟩ : ∃ a0, as[0]? = some a0 := ⟨as[0]'(by omega), List.getElem?_eq_getElem _⟩
      obtain ⟨r0, hr0⟩ : ∃ r0, rows[0]? = some r0 := ⟨rows[0]'(by omega), List.getElem?_eq_getElem _⟩
      obtain ⟨a01, a02⟩ := h3A 0 a0 r0 ha0 hr0
      obtain ⟨a5, da5⟩ := m4 a0 _ a01 a02 (sd.free a01)
      have r0l : 0 < (r0.map V.int).length := by
        rw [List.length_map, gr.wid r0 (mem_of_at hr0)]
        exact q1
      refine ⟨_, rfl, L, _, 0, .ref a0, rfl, rfl, SqL.of l5, atI_of (Int.le_refl 0) (by show (as.map V.ref)[0]? = _; rw [List.getElem?_map, ha0]; rfl), a0, _, 0, 0, rfl, rfl, a5, ixN0 r0l, ?_⟩
      have st6 := m1.write (o := .lst ((r0.map V.int).set 0 (.int 99))) (.inr a01) da5
      have aL : L ≠ a0 := fun e => by
        rw [← e, h3L] at a02
        have e2 := Option.some.inj a02
        injection e2 with e2
        have e3 := congrArg (fun l : List V => l[0]?) e2
        simp only [List.getElem?_map, ha0] at e3
        cases r0 with
        | nil => simp at r0l
        | cons c rest => simp at e3
      have l6 : (upd H' a0 (.lst ((r0.map V.int).set 0 (.int 99)))) L = some (.lst (as.map V.ref)) := by rw [upd_ne aL]; exact l5
      -- lines.append([])
      refine ⟨_, rfl, .inl ⟨rfl, _, SqL.of l6⟩, (by show 0 ≤ sizeLine; decide), fun M hM => ?_⟩
      have st7 := st6.trans (Step.tmp (o := .lst []) st6.dh hM)
      refine ⟨L, _, _, rfl, rfl, by rw [upd_ne (ne_of_none l6 hM)]; exact l6, Nat.lt_of_le_of_lt (show (as.map V.ref).length ≤ 1000 by rw [List.length_map]; omega) (by decide), ?_⟩
      have st8 := st7.write (o := .lst (as.map V.ref ++ [.ref M])) (.inr hL) d5
      -- heard[0] = None
      obtain ⟨b5, db5⟩ := m4 B _ hB0 h3B (sd.free hB0)
      have b0l : 0 < (ms.map V.bl).length := by
        rw [List.length_map, gr.mrk]
        exact p1
      have aB : B ≠ a0 := fun e => by
        rw [← e, h3B] at a02
        have e2 := Option.some.inj a02
        injection e2 with e2
        have e3 := congrArg (fun l : List V => l[0]?) e2
        cases r0 with
        | nil => simp at r0l
        | cons c rest => 
          cases ms with
          | nil => simp at b0l
          | cons d rest2 => simp at e3
      refine ⟨_, rfl, B, _, 0, 0, rfl, rfl, ?_, ixN0 b0l, ?_⟩
      · rw [upd_ne (Ne.symm BL), upd_ne, upd_ne aB]
        · exact b5
        · intro e
          subst e
          rw [upd_ne aB, b5] at hM
          cases hM
      have st9 := st8.write (o := .lst ((ms.map V.bl).set 0 .non)) (.inr hB0) db5
      refine ⟨_, rfl, k _ _ x st9 ?_ m3⟩
      have w1 : Step (fun b => b = a0 ∨ b = L ∨ b = B) D5 H' D5 _ := (Step.refl m1.dh).write (o := .lst ((r0.map V.int).set 0 (.int 99))) (Or.inl (Or.inl rfl)) da5
      have w2 := w1.trans (Step.tmp (o := .lst []) st6.dh hM)
      have w3 := w2.write (o := .lst (as.map V.ref ++ [.ref M])) (Or.inl (Or.inr (Or.inl rfl))) d5
      have stp := w3.write (o := .lst ((ms.map V.bl).set 0 .non)) (Or.inl (Or.inr (Or.inr rfl))) db5
      refine m2.keep stp ?_
      rintro (e | e | e)
      · exact hpn (by rw [e]; exact a01)
      · exact hpn (by rw [e]; exact hL)
      · exact hpn (by rw [e]; exact hB0)
    -- if turn == 1
    refine ⟨_, rfl, rfl, _, rfl, ?_⟩
    refine ite2 (fun _ => ?_) (fun _ => ?_)
    · -- Machine(letters, tuple([tuple(line) for line in table]), tuple(marks))
      refine ⟨_, rfl, ?_⟩
      refine ⟨_, rfl, ta, rfl, ⟨us, st3.dh.seq sa⟩, fun L2 hL2 => ?_⟩
      have dL2 := st3.dh.free hL2
      refine lc_it walk_list (fun i H' => ∃ (Di : Hp) (as2 : List Addr), Step NoW D H3 Di H' ∧ H' L2 = some (.lst (as2.map V.ref)) ∧ Di L2 = none ∧ as2.length = i ∧ ∀ (j : Nat) (a : Addr) (r : List Int), as2[j]? = some a → rows[j]? = some r → SqT K Di a (r.map V.int))
        ⟨D, [], Step.tmp st3.dh hL2, upd_same, dL2, rfl, by simp⟩ (fun _ _ _ ⟨_, _, q, _⟩ => (q.dd.trans q.dh).seq sa) ?_ ?_
      · rintro i v H4 H5 hi ⟨Di, as2, st4, h4, d4, al2, hA2⟩ ⟨rfl, hv⟩
        obtain ⟨q, r, rfl, hr', sq⟩ := line i v hv
        refine ⟨rfl, ?_⟩
        refine ⟨_, rfl, q, r.map V.int, rfl, .inl ⟨(st4.dd.trans st4.dh).seq sq, fun a ha => ?_⟩⟩
        have aL : L2 ≠ a := ne_of_none h4 ha
        have sn : Step NoW D H3 (upd Di a (.tup (r.map V.int))) (upd H5 a (.tup (r.map V.int))) := st4.trans (Step.new st4.dh ha)
        have d5 : (upd Di a (.tup (r.map V.int))) L2 = none := by rw [upd_ne aL]; exact d4
        refine ⟨as2.map V.ref, by rw [upd_ne aL]; exact h4, Nat.lt_of_le_of_lt (show (as2.map V.ref).length ≤ 1000 by rw [List.length_map]; omega) (by decide), upd Di a (.tup (r.map V.int)), as2 ++ [a], sn.write (.inr hL2) d5, by rw [upd_same, List.map_append]; rfl, d5, by rw [List.length_append, al2]; rfl, ?_⟩
        intro j b r' hb hr2
        by_cases hj : j < as2.length
        · rw [List.getElem?_append_left hj] at hb
          exact sqT_mono (same_new (st4.dh.free ha)) (hA2 j b r' hb hr2)
        · have hj2 : j = i := by
            obtain ⟨hl, _⟩ := List.getElem?_eq_some_iff.mp hb
            rw [List.length_append, List.length_singleton] at hl
            omega
          subst hj2
          rw [List.getElem?_append_right (by omega), al2, Nat.sub_self] at hb
          cases hb
          rw [hr'] at hr2
          cases hr2
          exact SqT.of upd_same
      rintro H4 ⟨D4, as2, st4, h4, d4, al2, hA2⟩
      refine ⟨L2, _, rfl, .inl ⟨SqL.of h4, fun t1 ht1 => ?_⟩⟩
      have st5 : Step NoW D H3 (upd D4 t1 (.tup (as2.map V.ref))) (upd H4 t1 (.tup (as2.map V.ref))) := st4.trans (Step.new st4.dh ht1)
      refine ⟨_, rfl, tb, ms.map V.bl, rfl, .inl ⟨(st5.dd.trans st5.dh).seq sb, fun t2 ht2 => ?_⟩⟩
      have st6 := st5.trans (Step.new (o := .tup (ms.map V.bl)) st5.dh ht2)
      have st6' : Step (· = p) D H _ _ := st3.trans st6.any
      refine fun x dx hx hd ne => ?_
      have sN := sameNew x dx hx hd ne
      refine ⟨_, x, dx, z, .ref t1, .ref t2, rows, ms, rfl, st6.dh.trans sN, st6.dh.free hx, upd_same, gz, gr, ?_, ?_, fun D' H' a b st' dx' hx' da' db' => ⟨rfl, ?_⟩⟩
      · refine ⟨t1, as2.map V.ref, rfl, .inr (SqT.of (sN _ _ ?_)), by rw [List.length_map, al2, ul], fun i u r hu hr' => ?_⟩
        · rw [upd_ne (ne_of_none (show (upd H4 t1 (.tup (as2.map V.ref))) t1 = some _ from upd_same) ht2)]
          exact upd_same
        · rw [List.getElem?_map] at hu
          obtain ⟨a, ha, rfl⟩ := Option.map_eq_some_iff.mp hu
          exact ⟨a, rfl, .inr (sqT_mono ((same_new (st4.dh.free ht1)).trans (same_new (st5.dh.free ht2))) (hA2 i a r ha hr'))⟩
      · exact ⟨t2, rfl, .inr (SqT.of upd_same)⟩
      · obtain ⟨m1, m2, m3, _⟩ := made_end (K := K) st6' (pen3.keep st6 (fun z => z)) hx hd ne gz gr st' dx' hx' da' db'
        exact k _ _ x m1 m2 m3
    -- Machine(told=.., steps=.., signs=..)
    refine ⟨_, rfl, _, rfl, _, rfl, rfl, rfl, fun x dx hx hd ne => ?_⟩
    have sN := sameNew x dx hx hd ne
    refine ⟨D, x, dx, z, .ref L, .ref B, rows, ms, rfl, st3.dh.trans sN, st3.dh.free hx, upd_same, gz, gr, stepsIn _ sN, toldIn _ sN, fun D' H' a b st' dx' hx' da' db' => ⟨rfl, ?_⟩⟩
    obtain ⟨m1, m2, m3, m4⟩ := made_end (K := K) st3 pen3 hx hd ne gz gr st' dx' hx' da' db'
    generalize upd D' x (.ins (a_Machine K) dx (fM z a b)) = D5 at m1 m2 m3 m4
    obtain ⟨b5, db5⟩ := m4 B _ hB0 h3B (sd.free hB0)
    have hml := gr.mrk
    refine ⟨_, rfl, .inl ⟨rfl, _, SqL.of b5⟩, B, _, _, rfl, rfl, b5, Nat.lt_of_le_of_lt (show (ms.map V.bl).length ≤ 1000 by rw [List.length_map]; omega) (by decide), ?_⟩
    have pB : p ≠ B := fun e => hpn (by rw [e]; exact hB0)
    exact ⟨_, rfl, k _ _ x (m1.write (.inr hB0) db5) (m2.keep (Step.write (W := (· = B)) (Step.refl m1.dh) (.inl rfl) db5) pB) m3⟩
theorem cMade (T : Tx K mg) : CalX P w K mg base CX0 5 "_law_made" (spMade K) := c_made T fun _ F => ok_made F T
end
end Rg
namespace Rg
open PySem PySem.Spec PyProof.Rows L2
section
variable {P : Program} {w : World} {K : PySem.W.Frag} {mg : Str → Option Value} {base : Heap}
/-! ### what is shown is small -/
theorem sm_row {n : Nat} {rows : List (List Int)} {ms : List Bool} (g : GoodRows n rows ms) (hn : n ≤ 4) : ∀ r ∈ rows, Sm 1 8000 (rowD r) := fun r h => by
  have e : ∀ d ∈ r.map PyData.int, Sm 0 1921 d := fun d hd => by
    obtain ⟨x, hx, rfl⟩ := List.mem_map.mp hd
    have b := g.rng r h x hx
    have f := g.few
    exact sm_nat b.1 (by omega)
  refine (sm_tup e).mono (Nat.le_refl _) ?_
  rw [List.length_map, g.wid r h]
  omega
theorem sm_rows {n : Nat} {rows : List (List Int)} {ms : List Bool} (g : GoodRows n rows ms) (hn : n ≤ 4) : Sm 2 900000 (rowsD rows) := by
  have e : ∀ d ∈ rows.map rowD, Sm 1 8000 d := fun d hd => by
    obtain ⟨r, hr, rfl⟩ := List.mem_map.mp hd
    exact sm_row g hn r hr
  refine (sm_tup e).mono (Nat.le_refl _) ?_
  rw [List.length_map]
  have f := g.few
  omega
theorem sm_marks {ms : List Bool} (h : ms.length ≤ 100) : Sm 1 900000 (marksD ms) := by
  have e : ∀ d ∈ ms.map PyData.bool, Sm 0 5 d := fun d hd => by
    obtain ⟨x, hx, rfl⟩ := List.mem_map.mp hd
    exact sm_bool x
  refine (sm_tup e).mono (Nat.le_refl _) ?_
  rw [List.length_map]
  omega
theorem sm_signs {z : Str} (g : GoodSigns z) : Sm 0 42 (.str z) := by
  refine (sm_str (l := 4) (fun c hc => ?_) (by rw [len_tl]; exact g.few)).mono (Nat.le_refl _) (Nat.le_refl _)
  have h : ∀ c ∈ letters, c < 16 ^ 8 := by decide +kernel
  exact h c (g.let_ c hc)
def dueD (z : Str) (rows : List (List Int)) (ms : List Bool) : PyData := .list [.str z, rowsD rows, marksD ms, .int rows.length]
theorem sm_due {z : Str} {rows : List (List Int)} {ms : List Bool} (gz : GoodSigns z) (gr : GoodRows z.cps.toList.length rows ms) : Sm 60 10000000 (dueD z rows ms) := by
  have f := gr.few
  have m := gr.mrk
  have e : ∀ d ∈ [PyData.str z, rowsD rows, marksD ms, .int rows.length], Sm 2 900000 d := fun d hd => by
    simp only [List.mem_cons, List.not_mem_nil, or_false] at hd
    rcases hd with rfl | rfl | rfl | rfl
    · exact (sm_signs gz).mono (by decide) (by decide)
    · exact sm_rows gr gz.few
    · exact (sm_marks (by omega)).mono (by decide) (Nat.le_refl _)
    · exact (sm_nat (by omega) (by omega)).mono (by decide) (by decide)
  refine (sm_list e).mono (by decide) ?_
  show 4 * (900000 + 2) + 3 ≤ _
  decide
theorem sm_list3 {d1 d2 d3 : PyData} (h1 : Sm 0 1921 d1) (h2 : Sm 0 1921 d2) (h3 : Sm 0 1921 d3) : Sm 60 10000000 (.list [d1, d2, d3]) := by
  have e : ∀ d ∈ [d1, d2, d3], Sm 0 1921 d := fun d hd => by
    simp only [List.mem_cons, List.not_mem_nil, or_false] at hd
    rcases hd with rfl | rfl | rfl
    · exact h1
    · exact h2
    · exact h3
  refine (sm_list e).mono (by decide) ?_
  show 3 * (1921 + 2) + 3 ≤ _
  decide
theorem sm_b (b : Bool) : Sm 0 1921 (.bool b) := (sm_bool b).mono (Nat.le_refl _) (by decide)
/-! ### by name -/
theorem kbState {f : Addr} {fd : FuncData} (F : FunD K "state" "Machine.state" (defArgs s_state) (defBody s_state) (defScope s_state) [] [] f fd) : KBn K fd ["self", "row"] 1 ["row"] (byIx [0, 1]) (byIx [0, 1]) :=
  FunD.kbindsP F 1 _ (byIx [0, 1]) (fun h1 h2 => vals_byIx h1 h2 _) fun _ _ _ _ _ _ us ws h1 h2 => match us, h1, ws, h2 with | [_], _, [_], _ => rfl
theorem kbStep {f : Addr} {fd : FuncData} (F : FunD K "step" "Machine.step" (defArgs s_step) (defBody s_step) (defScope s_step) [] [] f fd) : KBn K fd ["self", "state", "text"] 1 ["state", "text"] (byIx [0, 1, 2]) (byIx [0, 1, 2]) :=
  FunD.kbindsP F 1 _ (byIx [0, 1, 2]) (fun h1 h2 => vals_byIx h1 h2 _) fun _ _ _ _ _ _ us ws h1 h2 => match us, h1, ws, h2 with | [_], _, [_, _], _ => rfl
/-! ### whether a machine tells what its plan tells -/
def spRight (K : PySem.W.Frag) : Sp := fun vs H Q _ => ∃ (D : Hp) (p ta tb x : Addr) (z : Str) (rows : List (List Int)) (ms : List Bool) (n : Nat), vs = [.ref p, .str z, .ref ta, .ref tb, .ref x] ∧ Same D H ∧ PenAt K D H p (n + 900) ∧ Dp K D (.ref ta) (tableD rows) ∧ Dp K D (.ref tb) (listD ms) ∧ Mach K D x z rows ms ∧
  ∀ (D' H' : Hp), Step (· = p) D H D' H' → PenAt K D' H' p n → Q (.bl true) H'
theorem ok_right {f : Addr} {fd : FuncData} (F : FunD K "_law_right" "_law_right" (defArgs s_right) (defBody s_right) (defScope s_right) [] [] f fd) (T : Tx K mg) : FnG P w K mg base CX0 7 f fd ["_law_pen_here", "_law_letters_here", "_law_table", "_law_marks", "_law_made_here"] (spRight K) := by
  refine FunD.okG F sc_right (fun vs H Q E h => ?_) (fun cdv A outer s H vs Q E hr hG h => ?_)
  · obtain ⟨D, p, ta, tb, x, z, rows, ms, n, rfl, _⟩ := h
    rfl
  · obtain ⟨D, p, ta, tb, x, z, rows, ms, n, rfl, sd, pen, da, db, M, k⟩ := h
    obtain ⟨fds, Fs⟩ := T.d_state
    obtain ⟨fdt, Ft⟩ := T.d_step
    have gz := M.gz
    have gr := M.gr
    have q1 := gz.pos
    have p1 := gr.pos
    have p2 := gr.few
    have p3 := gr.mrk
    obtain ⟨ta', us, e, sa, ua⟩ := dp_list da
    cases e
    have ul : us.length = rows.length := by rw [dpAll_len ua, List.length_map]
    obtain ⟨tb', bs, e, sb, ub⟩ := dp_list db
    cases e
    have eb := dpAll_bools_eq ub
    subst eb
    have line : ∀ (i : Nat) (v : V), us[i]? = some v → ∃ (q : Addr) (r : List Int), v = .ref q ∧ rows[i]? = some r ∧ SqL K D q (r.map V.int) := by
      intro i v hv
      obtain ⟨d, h1, h2⟩ := dpAll_get ua hv
      rw [List.getElem?_map] at h1
      obtain ⟨r, hr', rfl⟩ := Option.map_eq_some_iff.mp h1
      obtain ⟨q, ws, rfl, sq, wq⟩ := dp_list h2
      have ew := dpAll_ints_eq wq
      subst ew
      exact ⟨q, r, rfl, hr', sq⟩
    obtain ⟨dx, am, bm, hxD, dam, dbm⟩ := M.ex
    refine ⟨_, PSs.nox (pss_cons (ps_set (i := 5) sc_right.nd rfl (Or.inl rfl) (pe_lst (pa_cons (pv 1) (pa_cons (pe_callTy (call_tuple_ofK K) (by rfl) T.f_tuple (by decide +kernel) (pa_cons (pe_lc (own := [("_law_line", 11)]) (g := _) (tt := tYes) (by rfl) sc_right.nd (pi_listK K (pv 2)) (blkOk_by (by kernel_rfl)) (fun _ _ _ _ _ => (pg_name (i := 11) sc_right.nd rfl (Or.inl rfl))) (fun _ _ _ _ _ => pts_nil) (fun _ _ _ _ _ => (pe_callTy (call_tuple_ofK K) (by rfl) T.f_tuple (by decide +kernel) (pa_cons (pv 11) pa_nil)))) pa_nil)) (pa_cons (pe_callTy (call_tuple_ofK K) (by rfl) T.f_tuple (by decide +kernel) (pa_cons (pv 3) pa_nil)) (pa_cons (pe_callB (call_len_seqK K) (by rfl) T.f_len (by decide +kernel) (pa_cons (pv 2) pa_nil)) pa_nil))))))
      (pss_cons (ps_if (pt_cmpR op_ne (pe_callB (call_reprK K hG hr.units) (by rfl) T.f_repr (by decide +kernel) (pa_cons (pe_lst (pa_cons (pe_fldK K (pv 4)) (pa_cons (pe_fldK K (pv 4)) (pa_cons (pe_fldK K (pv 4)) (pa_cons (pe_callB (call_lenO (cMLen T) hr (by decide) pass0) (by rfl) T.f_len (by decide +kernel) (pa_cons (pv 4) pa_nil)) pa_nil))))) pa_nil)) (pe_callB (call_reprK K hG hr.units) (by rfl) T.f_repr (by decide +kernel) (pa_cons (pv 5) pa_nil)) (nomark _))
      (pss_one (ps_ret pe_bl)) pss_nil)
      (pss_cons (ps_for PassesOwn.never rfl (pi_range1 (by rfl) T.f_range (pa_cons pe_int pa_nil)) (pg_name (i := 6) sc_right.nd rfl (Or.inl rfl))
      (pss_cons (ps_set (i := 7) sc_right.nd rfl (Or.inl rfl) (pe_cX (cWord T) hr (by decide) (by rfl) pass0 (pa_cons (pv 0) (pa_cons (pv 1) (pa_cons (pe_ix (ix_listK K) (pe_lst (pa_cons pe_int (pa_cons pe_int pa_nil))) (pe_cX (cDraw T) hr (by decide) (by rfl) pass0 (pa_cons (pv 0) (pa_cons pe_int pa_nil))) (fun _ _ => rfl)) pa_nil)))))
      (pss_cons (ps_set (i := 8) sc_right.nd rfl (Or.inl rfl) (pe_cX (cDraw T) hr (by decide) (by rfl) pass0 (pa_cons (pv 0) (pa_cons (pe_callB (call_len_seqK K) (by rfl) T.f_len (by decide +kernel) (pa_cons (pv 2) pa_nil)) pa_nil))))
      (pss_cons (ps_par (i := 9) (j := 10) (by rfl) sc_right.nd rfl rfl (by decide) rfl rfl (pa_cons (pe_cX (cSpot T) hr (by decide) (by rfl) pass0 (pa_cons (pv 1) (pa_cons (pv 2) (pa_cons pe_int (pa_cons (pv 7) pa_nil))))) (pa_cons (pe_cX (cSpot T) hr (by decide) (by rfl) pass0 (pa_cons (pv 1) (pa_cons (pv 2) (pa_cons (pv 8) (pa_cons (pv 7) pa_nil))))) pa_nil)) (by rfl))
      (pss_cons (ps_if (pt_cmpR op_ne (pe_callB (call_reprK K hG hr.units) (by rfl) T.f_repr (by decide +kernel) (pa_cons (pe_lst (pa_cons (pe_mX (pv 4) T.cl_Machine (cMState T) hr (by decide) pass0 (pa_cons (pv 7) pa_nil)) (pa_cons (pe_mX (pv 4) T.cl_Machine (cMStep T) hr (by decide) pass0 (pa_cons (pv 8) (pa_cons (pv 7) pa_nil))) (pa_cons (pe_mX (pv 4) T.cl_Machine (cMStep T) hr (by decide) pass0 (pa_cons pe_int (pa_cons (pv 7) pa_nil))) pa_nil)))) pa_nil)) (pe_callB (call_reprK K hG hr.units) (by rfl) T.f_repr (by decide +kernel) (pa_cons (pe_lst (pa_cons (pv 9) (pa_cons (pv 10) (pa_cons (pv 9) pa_nil)))) pa_nil)) (nomark _))
      (pss_one (ps_ret pe_bl)) pss_nil)
      (pss_cons (ps_if (pt_cmpR op_ne (pe_callB (call_reprK K hG hr.units) (by rfl) T.f_repr (by decide +kernel) (pa_cons (pe_lst (pa_cons (pe_ixO (cMGet T) (getIn T) hr (by decide) pass0 (pv 4) (pv 7)) (pa_cons (pe_cmpR (op_inO (cMIn T) hr (by decide) pass0) (pv 7) (pv 4) (by rfl)) (pa_cons (pe_cmpR (op_notInO (cMIn T) hr (by decide) pass0) (pv 7) (pv 4) (by rfl)) pa_nil)))) pa_nil)) (pe_callB (call_reprK K hG hr.units) (by rfl) T.f_repr (by decide +kernel) (pa_cons (pe_lst (pa_cons (pe_ix (ix_listK K) (pv 3) (pv 9) (fun _ _ => rfl)) (pa_cons (pe_ix (ix_listK K) (pv 3) (pv 9) (fun _ _ => rfl)) (pa_cons (pe_not (pe_ix (ix_listK K) (pv 3) (pv 9) (fun _ _ => rfl))) pa_nil)))) pa_nil)) (nomark _))
      (pss_one (ps_ret pe_bl)) pss_nil)
      (pss_one (ps_if (PW.pt (pw_or (pt_cmpR op_ne (pe_mK (pv 4) T.cl_Machine T.m_state (ok_state Fs T) (hr.mono (by decide)) (kbState Fs) pass0 (pk_cons (pv 7) pk_nil)) (pv 9) (nomark _)) (pw_or1 (pt_cmpR op_ne (pe_mK (pv 4) T.cl_Machine T.m_step (ok_step Ft T) (hr.mono (by decide)) (kbStep Ft) pass0 (pk_cons (pv 8) (pk_cons (pv 7) pk_nil))) (pv 10) (nomark _)))))
      (pss_one (ps_ret pe_bl)) pss_nil))))))))
      (pss_one (ps_ret (pe_cmpR op_eq (pe_callB (call_reprK K hG hr.units) (by rfl) T.f_repr (by decide +kernel) (pa_cons (pe_lst (pa_cons (pe_mX (pv 4) T.cl_Machine (cMState T) hr (by decide) pass0 (pa_cons pe_str pa_nil)) (pa_cons (pe_ixO (cMGet T) (getIn T) hr (by decide) pass0 (pv 4) pe_str) (pa_cons (pe_mX (pv 4) T.cl_Machine (cMStep T) hr (by decide) pass0 (pa_cons pe_int (pa_cons pe_str pa_nil))) pa_nil)))) pa_nil)) (pe_callB (call_reprK K hG hr.units) (by rfl) T.f_repr (by decide +kernel) (pa_cons (pe_lst (pa_cons pe_int (pa_cons (pe_ix (ix_listK K) (pv 3) pe_int (fun _ _ => rfl)) (pa_cons pe_int pa_nil)))) pa_nil)) (nomark _))))))), ?_⟩
    -- due
    refine ⟨_, rfl, ?_⟩
    refine ⟨_, rfl, ta, rfl, ⟨us, sd.seq sa⟩, fun L hL => ?_⟩
    have dL := sd.free hL
    refine lc_it walk_list (fun i H' => ∃ (Di : Hp) (acc : List V), Step NoW D H Di H' ∧ H' L = some (.lst acc) ∧ Di L = none ∧ acc.length = i ∧ DpAll K Di acc ((rows.take i).map rowD))
      ⟨D, [], Step.tmp sd hL, upd_same, dL, rfl, .nil⟩ (fun _ _ _ ⟨_, _, q, _⟩ => (q.dd.trans q.dh).seq sa) ?_ ?_
    · rintro i v H4 H5 hi ⟨Di, acc, st4, h4, d4, al2, hd⟩ ⟨rfl, hv⟩
      obtain ⟨q, r, rfl, hr', sq⟩ := line i v hv
      refine ⟨rfl, ?_⟩
      refine ⟨_, rfl, q, r.map V.int, rfl, .inl ⟨(st4.dd.trans st4.dh).seq sq, fun a ha => ?_⟩⟩
      have aL : L ≠ a := ne_of_none h4 ha
      have sn : Step NoW D H (upd Di a (.tup (r.map V.int))) (upd H5 a (.tup (r.map V.int))) := st4.trans (Step.new st4.dh ha)
      have d5 : (upd Di a (.tup (r.map V.int))) L = none := by rw [upd_ne aL]; exact d4
      refine ⟨acc, by rw [upd_ne aL]; exact h4, Nat.lt_of_le_of_lt (show acc.length ≤ 1000 by omega) (by decide), upd Di a (.tup (r.map V.int)), acc ++ [.ref a], sn.write (.inr hL) d5, upd_same, d5, by rw [List.length_append, al2]; rfl, ?_⟩
      rw [take_more hr', List.map_append]
      exact dpAll_app (dp_monoAll (same_new (st4.dh.free ha)) _ _ hd) (dpAll_one (.tup (SqT.of upd_same) (dpAll_ints _)))
    rintro H1 ⟨D1, acc, st1, h1, d1, al, hd1⟩
    rw [ul, List.take_length] at hd1
    refine ⟨L, _, rfl, .inl ⟨SqL.of h1, fun t1 ht1 => ?_⟩⟩
    have st2 : Step NoW D H (upd D1 t1 (.tup acc)) (upd H1 t1 (.tup acc)) := st1.trans (Step.new st1.dh ht1)
    have dR : Dp K (upd D1 t1 (.tup acc)) (.ref t1) (rowsD rows) := .tup (SqT.of upd_same) (dp_monoAll (same_new (st1.dh.free ht1)) _ _ hd1)
    generalize upd D1 t1 (.tup acc) = D2 at st2 dR
    generalize upd H1 t1 (.tup acc) = H2 at st2
    refine ⟨_, rfl, tb, ms.map V.bl, rfl, .inl ⟨(st2.dd.trans st2.dh).seq sb, fun t2 ht2 => ?_⟩⟩
    have n2 := Step.new (W := NoW) (o := .tup (ms.map V.bl)) st2.dh ht2
    have st3 := st2.trans n2
    have dM : Dp K (upd D2 t2 (.tup (ms.map V.bl))) (.ref t2) (marksD ms) := .tup (SqT.of upd_same) (dpAll_bools _)
    have dR := dp_mono n2.dd _ _ dR
    generalize upd D2 t2 (.tup (ms.map V.bl)) = D3 at st3 dR dM
    generalize upd H2 t2 (.tup (ms.map V.bl)) = H3 at st3
    refine ⟨_, rfl, ta, _, rfl, .inl ((st3.dd.trans st3.dh).seq sa), (by show 4 ≤ sizeLine; decide), fun due hdue => ?_⟩
    rw [ul]
    have n4 := Step.new (W := NoW) (o := .lst [.str z, .ref t1, .ref t2, .int rows.length]) st3.dh hdue
    have st4 := st3.trans n4
    have dD : Dp K (upd D3 due (.lst [.str z, .ref t1, .ref t2, .int rows.length])) (.ref due) (dueD z rows ms) := .lst (SqL.of upd_same) (.cons (.str _) (.cons (dp_mono n4.dd _ _ dR) (.cons (dp_mono n4.dd _ _ dM) (.cons (.int _) .nil))))
    generalize upd D3 due (.lst [.str z, .ref t1, .ref t2, .int rows.length]) = D4 at st4 dD
    generalize upd H3 due (.lst [.str z, .ref t1, .ref t2, .int rows.length]) = H4 at st4
    have M4 : Mach K D4 x z rows ms := M.mono st4.dd
    have pen4 := pen.keep st4 (fun z => z)
    -- if repr([..]) != repr(due)
    have hx4 := (st4.dd.trans st4.dh) _ _ hxD
    refine ⟨_, rfl, x, _, dx, _, _, rfl, hx4, T.cl_Machine, T.n_Machine_signs, rfl, ?_⟩
    refine ⟨_, rfl, x, _, dx, _, _, rfl, hx4, T.cl_Machine, T.n_Machine_steps, rfl, ?_⟩
    refine ⟨_, rfl, x, _, dx, _, _, rfl, hx4, T.cl_Machine, T.n_Machine_told, rfl, ?_⟩
    refine ⟨_, rfl, x, dx, _, rfl, hx4, x, z, rows, ms, rfl, M4.mono st4.dh, _, rfl, by omega, by omega, ?_⟩
    refine ⟨(by show 4 ≤ sizeLine; decide), fun l1 hl1 => ?_⟩
    have n5 := Step.tmp (W := NoW) (o := .lst [.str z, .ref am, .ref bm, .int rows.length]) st4.dh hl1
    have st5 : Step NoW D H D4 _ := st4.trans n5
    have dX : Dp K (upd H4 l1 (.lst [.str z, .ref am, .ref bm, .int rows.length])) (.ref l1) (dueD z rows ms) := .lst (SqL.of upd_same) (.cons (.str _) (.cons (dp_mono (st4.dd.trans n5.dh) _ _ dam) (.cons (dp_mono (st4.dd.trans n5.dh) _ _ dbm) (.cons (.int _) .nil))))
    refine ⟨.ref l1, dueD z rows ms, rfl, dX, sm_due gz gr, ?_⟩
    refine ⟨_, rfl, .ref due, dueD z rows ms, rfl, dp_mono st5.dh _ _ dD, sm_due gz gr, rfl, _, rfl, ?_⟩
    refine iteNS rfl ?_
    have pen5 := pen4.keep n5 (fun z => z)
    generalize upd H4 l1 (.lst [.str z, .ref am, .ref bm, .int rows.length]) = H5 at st5 pen5
    -- the words
    refine ⟨6, rfl, by decide, by decide, for_it walk_range (fun i σ H' => ∃ v6 v7 v8 v9 v10, σ = [some (.ref p), some (.str z), some (.ref ta), some (.ref tb), some (.ref x), some (.ref due), v6, v7, v8, v9, v10, none] ∧ Step (· = p) D4 H5 D4 H' ∧ PenAt K D4 H' p (n + 900 - 110 * i))
      ⟨none, none, none, none, none, rfl, Step.refl st5.dh, pen5⟩ (fun _ _ _ _ _ => trivial) ?_ ?_⟩
    · rintro i v σ H6 H7 hi ⟨v6, v7, v8, v9, v10, rfl, st6, pen6⟩ ⟨rfl, rfl⟩
      have hi' : i < 6 := hi
      -- word
      refine ⟨_, rfl, _, rfl, (by show 2 ≤ sizeLine; decide), fun l hl => ?_⟩
      have s7 := Step.tmp (W := (· = p)) (o := .lst [.int 3, .int 40]) st6.dh hl
      have pen7 := pen6.keep (Step.tmp (W := NoW) (o := .lst [.int 3, .int 40]) st6.dh hl) (fun z => z)
      have pl : l ≠ p := fun e => pen6.there (by rw [← e]; exact hl)
      refine ⟨_, rfl, D4, p, 2, n + 900 - 110 * i - 1, rfl, s7.dh, pen7.less (by omega), by decide, by decide, fun H8 r st8 pen8 r0 r1 => ?_⟩
      obtain ⟨v, hv, ha⟩ := at_mem (xs := [V.int 3, V.int 40]) r0 (by show r < 2; exact r1)
      obtain ⟨b, rfl, b0, b1⟩ : ∃ b : Int, v = .int b ∧ 0 ≤ b ∧ b ≤ 100 := by
        simp only [List.mem_cons, List.not_mem_nil, or_false] at hv
        rcases hv with rfl | rfl
        · exact ⟨3, rfl, by decide, by decide⟩
        · exact ⟨40, rfl, by decide, by decide⟩
      refine ⟨l, _, _, .int b, rfl, rfl, SqL.of (st8.kp l _ pl upd_same), ha, ?_⟩
      refine ⟨D4, p, z, b, n + 900 - 110 * i - 102, rfl, st8.dh, pen8.less (by omega), gz, b0, b1, fun H9 t st9 pen9 ht htl => ?_⟩
      -- begin
      refine ⟨_, rfl, _, rfl, ta, _, rfl, .inl ((st4.dd.trans st9.dh).seq sa), D4, p, _, n + 900 - 110 * i - 103, rfl, st9.dh, pen9.less (by omega), by omega, by omega, fun H10 g st10 pen10 g0 g1 => ?_⟩
      rw [ul] at g1
      have st11 : Step (· = p) D4 H5 D4 H10 := ((st6.trans s7).trans (st8.trans st9)).trans st10
      have dT10 : Dp K H10 (.ref ta) (tableD rows) := dp_mono (st4.dd.trans st11.dh) _ _ da
      -- end, other
      refine ⟨_, rfl, _, rfl, _, rfl, z, ta, rows, ms, 0, t, rfl, dT10, gz, gr, Int.le_refl 0, pos_len (z := z) gr, ht, ?_⟩
      refine ⟨_, rfl, _, rfl, _, rfl, _, rfl, z, ta, rows, ms, g, t, rfl, dT10, gz, gr, g0, g1, ht, ?_⟩
      obtain ⟨c0, c1⟩ := run_rng gr t.cps.toList 0 (Int.le_refl 0) (pos_len (z := z) gr) ht
      obtain ⟨d0, d1⟩ := run_rng gr t.cps.toList g g0 g1 ht
      obtain ⟨_, tld⟩ := told_at gr ht
      have atM : atI (ms.map V.bl) (runM z.cps.toList rows 0 t.cps.toList) = some (.bl (toldM z.cps.toList rows ms t.cps.toList)) := atI_of c0 (by rw [List.getElem?_map, tld]; rfl)
      generalize hE : runM z.cps.toList rows 0 t.cps.toList = eE at c0 c1 atM
      generalize hO : runM z.cps.toList rows g t.cps.toList = eO at d0 d1
      generalize hT : toldM z.cps.toList rows ms t.cps.toList = eT at atM
      refine ⟨_, _, rfl, ?_⟩
      -- the first comparison
      have M10 : Mach K H10 x z rows ms := M4.mono st11.dh
      have hx10 := st11.dh _ _ (st4.dd _ _ hxD)
      refine ⟨_, rfl, x, dx, _, rfl, hx10, rfl, _, rfl, x, z, rows, ms, t, rfl, M10, ht, fun H11 s11 => ?_⟩
      refine ⟨_, rfl, x, dx, _, rfl, s11 _ _ hx10, rfl, _, rfl, _, rfl, x, z, rows, ms, g, t, rfl, M10.mono s11, g0, g1, ht, fun H12 s12 => ?_⟩
      have s12' := s11.trans s12
      refine ⟨_, rfl, x, dx, _, rfl, s12' _ _ hx10, rfl, _, rfl, x, z, rows, ms, 0, t, rfl, M10.mono s12', Int.le_refl 0, pos_len (z := z) gr, ht, fun H13 s13 => ?_⟩
      have s13' := s12'.trans s13
      rw [hE, hO]
      refine ⟨(by show 3 ≤ sizeLine; decide), fun l2 hl2 => ?_⟩
      refine ⟨.ref l2, .list [.int eE, .int eO, .int eE], rfl, .lst (SqL.of upd_same) (.cons (.int _) (.cons (.int _) (.cons (.int _) .nil))), sm_list3 (sm_nat c0 (by omega)) (sm_nat d0 (by omega)) (sm_nat c0 (by omega)), ?_⟩
      refine ⟨_, rfl, _, rfl, _, rfl, (by show 3 ≤ sizeLine; decide), fun l3 hl3 => ?_⟩
      refine ⟨.ref l3, .list [.int eE, .int eO, .int eE], rfl, .lst (SqL.of upd_same) (.cons (.int _) (.cons (.int _) (.cons (.int _) .nil))), sm_list3 (sm_nat c0 (by omega)) (sm_nat d0 (by omega)) (sm_nat c0 (by omega)), rfl, _, rfl, ?_⟩
      refine iteNS rfl ?_
      have s14 := (s13'.trans (same_new (o := .lst [.int eE, .int eO, .int eE]) hl2)).trans (same_new (o := .lst [.int eE, .int eO, .int eE]) hl3)
      generalize upd (upd H13 l2 (.lst [.int eE, .int eO, .int eE])) l3 (.lst [.int eE, .int eO, .int eE]) = H14 at s14
      -- the second one
      have M14 := M10.mono s14
      have hx14 := s14 _ _ hx10
      refine ⟨_, rfl, _, rfl, x, dx, _, rfl, hx14, x, z, rows, ms, t, rfl, M14, ht, fun H15 s15 => ?_⟩
      refine ⟨_, rfl, _, rfl, x, dx, _, rfl, s15 _ _ hx14, x, z, rows, ms, t, rfl, M14.mono s15, ht, by omega, fun H16 s16 => ⟨_, rfl, ?_⟩⟩
      have s16' := s15.trans s16
      refine ⟨_, rfl, _, rfl, x, dx, _, rfl, s16' _ _ hx14, x, z, rows, ms, t, rfl, M14.mono s16', ht, by omega, fun H17 s17 => ⟨_, rfl, ?_⟩⟩
      have s17' := s14.trans (s16'.trans s17)
      rw [hT]
      refine ⟨(by show 3 ≤ sizeLine; decide), fun l4 hl4 => ?_⟩
      refine ⟨.ref l4, .list [.bool eT, .bool eT, .bool (!eT)], rfl, .lst (SqL.of upd_same) (.cons (.bl _) (.cons (.bl _) (.cons (.bl _) .nil))), sm_list3 (sm_b _) (sm_b _) (sm_b _), ?_⟩
      have s18 := s17'.trans (same_new (o := .lst [.bl eT, .bl eT, .bl (!eT)]) hl4)
      have sb18 := s18.seq (st11.dh.seq (st4.dd.seq sb))
      refine ⟨_, rfl, _, rfl, tb, _, _, .bl eT, rfl, rfl, sb18, atM, ?_⟩
      refine ⟨_, rfl, _, rfl, tb, _, _, .bl eT, rfl, rfl, sb18, atM, ?_⟩
      refine ⟨_, rfl, _, rfl, tb, _, _, .bl eT, rfl, rfl, sb18, atM, _, rfl, ?_⟩
      refine ⟨(by show 3 ≤ sizeLine; decide), fun l5 hl5 => ?_⟩
      refine ⟨.ref l5, .list [.bool eT, .bool eT, .bool (!eT)], rfl, .lst (SqL.of upd_same) (.cons (.bl _) (.cons (.bl _) (.cons (.bl _) .nil))), sm_list3 (sm_b _) (sm_b _) (sm_b _), rfl, _, rfl, ?_⟩
      refine iteNS rfl ?_
      have s19 := s18.trans (same_new (o := .lst [.bl eT, .bl eT, .bl (!eT)]) hl5)
      -- by name
      refine ⟨_, rfl, x, dx, _, rfl, s19 _ _ hx10, rfl, _, rfl, rfl, x, z, rows, ms, t, rfl, M10.mono s19, ht, fun H20 s20 => ?_⟩
      rw [hE]
      refine ⟨_, rfl, rfl, _, rfl, ?_⟩
      refine iteNS rfl ?_
      have s20' := s19.trans s20
      refine ⟨_, rfl, x, dx, _, rfl, s20' _ _ hx10, rfl, _, rfl, _, rfl, rfl, x, z, rows, ms, g, t, rfl, M10.mono s20', g0, g1, ht, fun H21 s21 => ?_⟩
      rw [hO]
      refine ⟨_, rfl, rfl, _, rfl, ?_⟩
      refine iteNS rfl ?_
      have s21' := s20'.trans s21
      have fin : Step NoW D4 H10 D4 H21 := Step.of_same st11.dh s21'
      exact ⟨_, _, _, _, _, rfl, st11.trans fin.any, (pen10.keep fin (fun z => z)).less (by omega)⟩
    -- the empty word
    rintro σ H6 ⟨v6, v7, v8, v9, v10, rfl, st6, pen6⟩
    have M6 : Mach K H6 x z rows ms := M4.mono st6.dh
    have hx6 := st6.dh _ _ (st4.dd _ _ hxD)
    have ht : ∀ c ∈ ("" : Str).cps.toList, c ∈ z.cps.toList := fun c hc => absurd (show c ∈ ([] : List Nat) from hc) (List.not_mem_nil)
    have hE : runM z.cps.toList rows 0 ("" : Str).cps.toList = 0 := rfl
    obtain ⟨_, tld⟩ := told_at gr ht
    generalize hT : toldM z.cps.toList rows ms ("" : Str).cps.toList = eT at tld
    rw [hE] at tld
    refine ⟨_, rfl, x, dx, _, rfl, hx6, rfl, x, z, rows, ms, "", rfl, M6, ht, fun H7 s7 => ?_⟩
    refine ⟨_, rfl, x, dx, _, rfl, s7 _ _ hx6, x, z, rows, ms, "", rfl, M6.mono s7, ht, fun H8 s8 => ?_⟩
    have s8' := s7.trans s8
    refine ⟨_, rfl, x, dx, _, rfl, s8' _ _ hx6, rfl, x, z, rows, ms, 0, "", rfl, M6.mono s8', Int.le_refl 0, pos_len (z := z) gr, ht, fun H9 s9 => ?_⟩
    have s9' := s8'.trans s9
    rw [hE, hT]
    refine ⟨(by show 3 ≤ sizeLine; decide), fun l2 hl2 => ?_⟩
    refine ⟨.ref l2, .list [.int 0, .bool eT, .int 0], rfl, .lst (SqL.of upd_same) (.cons (.int _) (.cons (.bl _) (.cons (.int _) .nil))), sm_list3 (sm_nat (by decide) (by decide)) (sm_b _) (sm_nat (by decide) (by decide)), ?_⟩
    have s10 := s9'.trans (same_new (o := .lst [.int 0, .bl eT, .int 0]) hl2)
    refine ⟨_, rfl, tb, _, _, .bl eT, rfl, rfl, s10.seq (st6.dh.seq (st4.dd.seq sb)), atI_of (Int.le_refl 0) (by rw [List.getElem?_map, tld]; rfl), ?_⟩
    refine ⟨(by show 3 ≤ sizeLine; decide), fun l3 hl3 => ?_⟩
    refine ⟨.ref l3, .list [.int 0, .bool eT, .int 0], rfl, .lst (SqL.of upd_same) (.cons (.int _) (.cons (.bl _) (.cons (.int _) .nil))), sm_list3 (sm_nat (by decide) (by decide)) (sm_b _) (sm_nat (by decide) (by decide)), rfl, ?_⟩
    have s11 := s10.trans (same_new (o := .lst [.int 0, .bl eT, .int 0]) hl3)
    have fin : Step NoW D4 H6 D4 _ := Step.of_same st6.dh s11
    have e1 : ∀ y : V, decide (y = y) = true := fun y => decide_eq_true rfl
    rw [e1]
    exact k D4 _ ((st5.any.trans st6).trans fin.any) ((pen6.keep fin (fun z => z)).less (by show n ≤ n + 900 - 110 * 6; omega))
theorem cRight (T : Tx K mg) : CalG P w K mg base CX0 7 "_law_right" (spRight K) := c_right T fun _ F => ok_right F T
/-! ### the law -/
def spLaw (K : PySem.W.Frag) : Sp := fun vs H Q _ => ∃ (a : Addr) (ns : List Int), vs = [.ref a] ∧ SqL K H a (ns.map V.int) ∧ ∀ H', Q (.bl true) H'
theorem ok_law {f : Addr} {fd : FuncData} (F : FunD K "law" "law" (defArgs s_law) (defBody s_law) (defScope s_law) [] [] f fd) (T : Tx K mg) : FnG P w K mg base CX0 8 f fd ["_law_script"] (spLaw K) := by
  refine FunD.okG F sc_law (fun vs H Q E h => ?_) (fun cdv A outer s H vs Q E hr hG h => ?_)
  · obtain ⟨a, ns, rfl, _⟩ := h
    rfl
  · obtain ⟨a, ns, rfl, hS, k⟩ := h
    refine ⟨_, PSs.nox (pss_cons (ps_set (i := 1) sc_law.nd rfl (Or.inl rfl) (pe_cX (cPen T) hr (by decide) (by rfl) pass0 (pa_cons (pv 0) pa_nil)))
      (pss_cons (ps_for PassesOwn.never rfl (pi_range1 (by rfl) T.f_range (pa_cons pe_int pa_nil)) (pg_name (i := 2) sc_law.nd rfl (Or.inl rfl))
      (pss_cons (ps_set (i := 3) sc_law.nd rfl (Or.inl rfl) (pe_cX (cLets T) hr (by decide) (by rfl) pass0 (pa_cons (pv 1) pa_nil)))
      (pss_cons (ps_asg (pe_cX (cPlan T) hr (by decide) (by rfl) pass0 (pa_cons (pv 1) (pa_cons (pv 3) (pa_cons pe_int pa_nil)))) (pg_tupK K (n := 2) rfl (pgs_cons (pg_name (i := 4) sc_law.nd rfl (Or.inl rfl)) (pgs_cons (pg_name (i := 5) sc_law.nd rfl (Or.inl rfl)) pgs_nil))))
      (pss_cons (ps_set (i := 6) sc_law.nd rfl (Or.inl rfl) (pe_cX (cMade T) hr (by decide) (by rfl) pass0 (pa_cons (pv 1) (pa_cons (pv 3) (pa_cons (pv 4) (pa_cons (pv 5) pa_nil))))))
      (pss_one (ps_for PassesOwn.never rfl (pi_range1 (by rfl) T.f_range (pa_cons pe_int pa_nil)) (pg_name (i := 7) sc_law.nd rfl (Or.inl rfl))
      (pss_one (ps_if (pt_not (pt_val (pe_cG (cRight T) hG hr (by decide) (by rfl) pass0 (pa_cons (pv 1) (pa_cons (pv 3) (pa_cons (pv 4) (pa_cons (pv 5) (pa_cons (pv 6) pa_nil))))))))
      (pss_one (ps_ret pe_bl)) pss_nil))))))))
      (pss_one (ps_ret pe_bl)))), ?_⟩
    refine ⟨_, rfl, a, ns, rfl, hS, fun D1 H1 p st1 pen1 => ?_⟩
    refine ⟨5, rfl, by decide, by decide, for_it walk_range (fun i σ H' => ∃ v2 v3 v4 v5 v6 v7, σ = [some (.ref a), some (.ref p), v2, v3, v4, v5, v6, v7] ∧ ∃ D', Same D' H' ∧ PenAt K D' H' p (900000 - 3000 * i))
      ⟨none, none, none, none, none, none, rfl, D1, st1.dh, pen1⟩ (fun _ _ _ _ _ => trivial) ?_ ?_⟩
    · rintro i v σ H2 H3 hi ⟨v2, v3, v4, v5, v6, v7, rfl, D2, sd2, pen2⟩ ⟨rfl, rfl⟩
      have hi' : i < 5 := hi
      refine ⟨_, rfl, D2, p, 900000 - 3000 * i - 1, rfl, sd2, pen2.less (by omega), fun D3 H4 z st4 pen4 gz => ?_⟩
      refine ⟨_, rfl, _, rfl, D3, p, z, 8, 900000 - 3000 * i - 601, rfl, st4.dh, pen4.less (by omega), gz.few, by decide, by decide, fun D5 H5 t ta tb rows ms st5 pen5 gr _ ht da db => ?_⟩
      refine ⟨t, _, rfl, SqT.of (st5.dh _ _ ht), rfl, _, _, rfl, _, _, rfl, rfl, ?_⟩
      refine ⟨_, rfl, _, rfl, _, rfl, _, rfl, D5, p, ta, tb, z, rows, ms, 900000 - 3000 * i - 602, rfl, st5.dh, pen5.less (by omega), da, db, gz, gr, fun D6 H6 x st6 pen6 M => ?_⟩
      refine ⟨2, rfl, by decide, by decide, for_it walk_range (fun j σ H' => ∃ v7, σ = [some (.ref a), some (.ref p), some (.int (0 + i)), some (.str z), some (.ref ta), some (.ref tb), some (.ref x), v7] ∧ ∃ D', Same D6 D' ∧ Same D' H' ∧ PenAt K D' H' p (900000 - 3000 * i - 602 - 900 * j))
        ⟨v7, rfl, D6, Same.refl D6, st6.dh, pen6⟩ (fun _ _ _ _ _ => trivial) ?_ ?_⟩
      · rintro j v σ H7 H8 hj ⟨v7, rfl, D7, sd7, sh7, pen7⟩ ⟨rfl, rfl⟩
        have hj' : j < 2 := hj
        have sd := st6.dd.trans sd7
        refine ⟨_, rfl, _, rfl, _, rfl, _, rfl, _, rfl, D7, p, ta, tb, x, z, rows, ms, 900000 - 3000 * i - 602 - 900 * (j + 1), rfl, sh7, pen7.less (by omega), dp_mono sd _ _ da, dp_mono sd _ _ db, M.mono sd7, fun D8 H9 st8 pen8 => ?_⟩
        exact ⟨_, rfl, iteF ⟨_, rfl, D8, sd7.trans st8.dd, st8.dh, pen8⟩⟩
      · rintro σ H7 ⟨v7, rfl, D7, sd7, sh7, pen7⟩
        exact ⟨_, _, _, _, _, _, rfl, D7, sh7, pen7.less (by show 900000 - 3000 * (i + 1) ≤ 900000 - 3000 * i - 602 - 900 * 2; omega)⟩
    · rintro σ H2 ⟨v2, v3, v4, v5, v6, v7, rfl, D2, sd2, pen2⟩
      exact k _
end
end Rg
namespace Rg
open PySem PySem.Spec PyProof.Rows L2

/-! ### the head -/
def hd_draw : He.DefD := ⟨("_law_draw", none), "_law_draw", "_law_draw", defArgs s_draw, defBody s_draw, defScope s_draw, [], []⟩
def hd_isLetter : He.DefD := ⟨("is_letter", none), "is_letter", "is_letter", defArgs s_isLetter, defBody s_isLetter, defScope s_isLetter, [], []⟩
def hd_isRow : He.DefD := ⟨("is_row", none), "is_row", "is_row", defArgs s_isRow, defBody s_isRow, defScope s_isRow, [], []⟩
def hd_needRow : He.DefD := ⟨("need_row", none), "need_row", "need_row", defArgs s_needRow, defBody s_needRow, defScope s_needRow, [], []⟩
def hd_isWhole : He.DefD := ⟨("is_whole", none), "is_whole", "is_whole", defArgs s_isWhole, defBody s_isWhole, defScope s_isWhole, [.non], []⟩
def hd_needSigns : He.DefD := ⟨("need_signs", none), "need_signs", "need_signs", defArgs s_needSigns, defBody s_needSigns, defScope s_needSigns, [], []⟩
def hd_isStep : He.DefD := ⟨("is_step", none), "is_step", "is_step", defArgs s_isStep, defBody s_isStep, defScope s_isStep, [], []⟩
def hd_init : He.DefD := ⟨("Machine", some "__init__"), "__init__", "Machine.__init__", defArgs s_init, defBody s_init, defScope s_init, [], []⟩
def hd_step : He.DefD := ⟨("Machine", some "step"), "step", "Machine.step", defArgs s_step, defBody s_step, defScope s_step, [], []⟩
def hd_state : He.DefD := ⟨("Machine", some "state"), "state", "Machine.state", defArgs s_state, defBody s_state, defScope s_state, [], []⟩
def hd_mlen : He.DefD := ⟨("Machine", some "__len__"), "__len__", "Machine.__len__", defArgs s_mlen, defBody s_mlen, defScope s_mlen, [], []⟩
def hd_mget : He.DefD := ⟨("Machine", some "__getitem__"), "__getitem__", "Machine.__getitem__", defArgs s_mget, defBody s_mget, defScope s_mget, [], []⟩
def hd_mcon : He.DefD := ⟨("Machine", some "__contains__"), "__contains__", "Machine.__contains__", defArgs s_mcon, defBody s_mcon, defScope s_mcon, [], []⟩
def hd_pen : He.DefD := ⟨("_law_pen", none), "_law_pen", "_law_pen", defArgs s_pen, defBody s_pen, defScope s_pen, [], []⟩
def hd_pick : He.DefD := ⟨("_law_pick", none), "_law_pick", "_law_pick", defArgs s_pick, defBody s_pick, defScope s_pick, [], []⟩
def hd_lets : He.DefD := ⟨("_law_letters", none), "_law_letters", "_law_letters", defArgs s_lets, defBody s_lets, defScope s_lets, [], []⟩
def hd_plan : He.DefD := ⟨("_law_plan", none), "_law_plan", "_law_plan", defArgs s_plan, defBody s_plan, defScope s_plan, [], []⟩
def hd_spot : He.DefD := ⟨("_law_spot", none), "_law_spot", "_law_spot", defArgs s_spot, defBody s_spot, defScope s_spot, [], []⟩
def hd_word : He.DefD := ⟨("_law_word", none), "_law_word", "_law_word", defArgs s_word, defBody s_word, defScope s_word, [], []⟩
def hd_made : He.DefD := ⟨("_law_made", none), "_law_made", "_law_made", defArgs s_made, defBody s_made, defScope s_made, [], []⟩
def hd_right : He.DefD := ⟨("_law_right", none), "_law_right", "_law_right", defArgs s_right, defBody s_right, defScope s_right, [], []⟩
def hd_law : He.DefD := ⟨("law", none), "law", "law", defArgs s_law, defBody s_law, defScope s_law, [], []⟩
def hdefs : List He.DefD := [hd_draw, hd_isLetter, hd_isRow, hd_needRow, hd_isWhole, hd_needSigns, hd_isStep, hd_init, hd_step, hd_state, hd_mlen, hd_mget, hd_mcon, hd_pen, hd_pick, hd_lets, hd_plan, hd_spot, hd_word, hd_made, hd_right, hd_law]
def hfacts : List He.Fa := [.free "len", .free "int", .free "abs", .free "isinstance", .free "str", .free "bool", .free "list", .free "tuple", .free "all", .free "enumerate", .free "range", .free "set", .free "repr", .str "LETTERS" "abcdefghijklmnopqrstuvwxyz", .int "MOST_SIGNS" 4, .glo "Machine", .cls "Machine", .mkr "Machine", .noat "Machine" "signs", .noat "Machine" "steps", .noat "Machine" "told", .glo "_law_draw", .glo "is_letter", .glo "is_row", .glo "need_row", .glo "is_whole", .glo "need_signs", .glo "is_step", .meth "Machine" "step", .meth "Machine" "state", .meth "Machine" "__len__", .meth "Machine" "__getitem__", .meth "Machine" "__contains__", .glo "_law_pen", .glo "_law_pick", .glo "_law_letters", .glo "_law_plan", .glo "_law_spot", .glo "_law_word", .glo "_law_made", .glo "_law_right", .glo "law"]
def hmore (K : PySem.W.Frag) : Bool := (PySem.W.fnIn K (He.ma K (a_Machine K) "__getitem__") && true)
abbrev hrow : PySem.W.OpenRow := PySem.W.OpenLaw.row PySem.Challenge.rw_rowgames_k17_machines_made
abbrev hhook : PySem.W.Hook := He.hookX 6 hfacts hdefs [] [] hmore
def hobs (s : PySem.W.SharedT) : He.AlX := He.obsX 6 hfacts hdefs [] [] hmore (HandSHeadRun.getT s)
theorem hobs_eq (s : PySem.W.SharedT) : hobs s = hhook.obs s.abs := He.obsX_eq (HandSHeadRun.getT_eq s)
def hnames0 : List PySem.Str := ["_wall", "reached", "classes_of", "restricted", "least_form", "is_chosen", "joined", "first_row", "able", "GameError", "BadInput", "BadRow", "BadMachine", "OtherSigns", "BadNumber", "LETTERS", "MOST_SIGNS", "is_letter", "is_row", "need_row", "is_whole", "MOST_LENGTH", "need_signs", "is_step", "Machine", "_law_pen", "_law_draw", "_law_pick", "_law_letters", "_law_plan"]
def hnames1 : List PySem.Str := ["_law_spot", "_law_word", "_law_made", "_law_right"]
def hnames : List PySem.Str := hnames0 ++ hnames1
set_option maxHeartbeats 0 in
theorem hrun (w : World) : HandSHeadRun.RunEq hrow (PySem.W.view hrow.prog [40]) hhook hobs 20000 hnames w := by
  intro os
  kernel_rfl
theorem hsays {w : World} {K : PySem.W.Frag} {h : Heap} {mg : Str → Option Value} (X : K.In h) (G : h.Ns mainGlobals mg) (c : He.SaysX hfacts hdefs [] [] hmore w h K) : Tx K mg where
  f_len := He.free_ok X G (c.t.d.fact 0 (f := .free "len") rfl)
  f_int := He.free_ok X G (c.t.d.fact 1 (f := .free "int") rfl)
  f_abs := He.free_ok X G (c.t.d.fact 2 (f := .free "abs") rfl)
  f_isinstance := He.free_ok X G (c.t.d.fact 3 (f := .free "isinstance") rfl)
  f_str := He.free_ok X G (c.t.d.fact 4 (f := .free "str") rfl)
  f_bool := He.free_ok X G (c.t.d.fact 5 (f := .free "bool") rfl)
  f_list := He.free_ok X G (c.t.d.fact 6 (f := .free "list") rfl)
  f_tuple := He.free_ok X G (c.t.d.fact 7 (f := .free "tuple") rfl)
  f_all := He.free_ok X G (c.t.d.fact 8 (f := .free "all") rfl)
  f_enumerate := He.free_ok X G (c.t.d.fact 9 (f := .free "enumerate") rfl)
  f_range := He.free_ok X G (c.t.d.fact 10 (f := .free "range") rfl)
  f_set := He.free_ok X G (c.t.d.fact 11 (f := .free "set") rfl)
  f_repr := He.free_ok X G (c.t.d.fact 12 (f := .free "repr") rfl)
  g_LETTERS := let ⟨t, e⟩ := He.str_ok X G (c.t.d.fact 13 (f := .str "LETTERS" "abcdefghijklmnopqrstuvwxyz") rfl); ⟨_, e, t, rfl⟩
  g_MOST_SIGNS := let ⟨t, e⟩ := He.int_ok X G (c.t.d.fact 14 (f := .int "MOST_SIGNS" 4) rfl); ⟨_, e, t, rfl⟩
  g_Machine := He.glo_ok X G (c.t.d.fact 15 (f := .glo "Machine") rfl)
  cl_Machine := He.cls_ok (c.t.d.fact 16 (f := .cls "Machine") rfl)
  mk_Machine := He.mkr_ok (c.t.d.fact 17 (f := .mkr "Machine") rfl)
  n_Machine_signs := He.noat_ok (c.t.d.fact 18 (f := .noat "Machine" "signs") rfl)
  n_Machine_steps := He.noat_ok (c.t.d.fact 19 (f := .noat "Machine" "steps") rfl)
  n_Machine_told := He.noat_ok (c.t.d.fact 20 (f := .noat "Machine" "told") rfl)
  g_draw := He.glo_ok X G (c.t.d.fact 21 (f := .glo "_law_draw") rfl)
  d_draw := c.t.d.def_ 0 (d := hd_draw) rfl
  g_isLetter := He.glo_ok X G (c.t.d.fact 22 (f := .glo "is_letter") rfl)
  d_isLetter := c.t.d.def_ 1 (d := hd_isLetter) rfl
  g_isRow := He.glo_ok X G (c.t.d.fact 23 (f := .glo "is_row") rfl)
  d_isRow := c.t.d.def_ 2 (d := hd_isRow) rfl
  g_needRow := He.glo_ok X G (c.t.d.fact 24 (f := .glo "need_row") rfl)
  d_needRow := c.t.d.def_ 3 (d := hd_needRow) rfl
  g_isWhole := He.glo_ok X G (c.t.d.fact 25 (f := .glo "is_whole") rfl)
  d_isWhole := c.t.d.def_ 4 (d := hd_isWhole) rfl
  g_needSigns := He.glo_ok X G (c.t.d.fact 26 (f := .glo "need_signs") rfl)
  d_needSigns := c.t.d.def_ 5 (d := hd_needSigns) rfl
  g_isStep := He.glo_ok X G (c.t.d.fact 27 (f := .glo "is_step") rfl)
  d_isStep := c.t.d.def_ 6 (d := hd_isStep) rfl
  d_init := c.t.d.def_ 7 (d := hd_init) rfl
  m_step := He.meth_ok (c.t.d.fact 28 (f := .meth "Machine" "step") rfl)
  d_step := c.t.d.def_ 8 (d := hd_step) rfl
  m_state := He.meth_ok (c.t.d.fact 29 (f := .meth "Machine" "state") rfl)
  d_state := c.t.d.def_ 9 (d := hd_state) rfl
  m_mlen := He.meth_ok (c.t.d.fact 30 (f := .meth "Machine" "__len__") rfl)
  d_mlen := c.t.d.def_ 10 (d := hd_mlen) rfl
  m_mget := He.meth_ok (c.t.d.fact 31 (f := .meth "Machine" "__getitem__") rfl)
  d_mget := c.t.d.def_ 11 (d := hd_mget) rfl
  m_mcon := He.meth_ok (c.t.d.fact 32 (f := .meth "Machine" "__contains__") rfl)
  d_mcon := c.t.d.def_ 12 (d := hd_mcon) rfl
  g_pen := He.glo_ok X G (c.t.d.fact 33 (f := .glo "_law_pen") rfl)
  d_pen := c.t.d.def_ 13 (d := hd_pen) rfl
  g_pick := He.glo_ok X G (c.t.d.fact 34 (f := .glo "_law_pick") rfl)
  d_pick := c.t.d.def_ 14 (d := hd_pick) rfl
  g_lets := He.glo_ok X G (c.t.d.fact 35 (f := .glo "_law_letters") rfl)
  d_lets := c.t.d.def_ 15 (d := hd_lets) rfl
  g_plan := He.glo_ok X G (c.t.d.fact 36 (f := .glo "_law_plan") rfl)
  d_plan := c.t.d.def_ 16 (d := hd_plan) rfl
  g_spot := He.glo_ok X G (c.t.d.fact 37 (f := .glo "_law_spot") rfl)
  d_spot := c.t.d.def_ 17 (d := hd_spot) rfl
  g_word := He.glo_ok X G (c.t.d.fact 38 (f := .glo "_law_word") rfl)
  d_word := c.t.d.def_ 18 (d := hd_word) rfl
  g_made := He.glo_ok X G (c.t.d.fact 39 (f := .glo "_law_made") rfl)
  d_made := c.t.d.def_ 19 (d := hd_made) rfl
  g_right := He.glo_ok X G (c.t.d.fact 40 (f := .glo "_law_right") rfl)
  d_right := c.t.d.def_ 20 (d := hd_right) rfl
  g_law := He.glo_ok X G (c.t.d.fact 41 (f := .glo "law") rfl)
  d_law := c.t.d.def_ 21 (d := hd_law) rfl
  getIn := (Bool.and_eq_true_iff.mp c.more).1
end Rg
open PySem PySem.W PySem.Calls PyProof.Rows
set_option maxHeartbeats 0 in
theorem PySem.Challenge.cw_rowgames_k17_machines_made_holds : PySem.Challenge.rw_rowgames_k17_machines_made.Holds := by
  w_on; o_law
  refine HandSHeadRun.head_any (r := Rg.hrow) (q := view Rg.hrow.prog [40]) (H := Rg.hhook) (ob := Rg.hobs) (M := 20000) (loose := Rg.hnames) (d := HandSHeadRun.topDef Rg.hrow.prog 40) (kwd := []) Rg.hobs_eq
    (by kernel_rfl) (fun s => by kernel_rfl) Rg.hrun (by kernel_rfl) (by kernel_rfl) (by kernel_rfl) (by rfl) (by first | assumption | decide +kernel) (by decide +kernel) ⟨rfl, rfl, rfl, rfl, rfl, by decide +kernel⟩ ?wit ?walk
  case wit => w_witness2
  case walk =>
    refine Rg.walk_ofG (l := PySem.Challenge.rw_rowgames_k17_machines_made) (n := 63) (k := 8) (x := "_law_script") rfl (by decide) (by kernel_rfl) ⟨rfl, by decide, by decide⟩ ?_
    intro w mg fa h Y G g0
    obtain ⟨K, KX, c⟩ := Y
    have T := Rg.hsays KX G c
    have g1 : mg ("law" : PySem.Str) = some (.ref fa) := by
      have e : (HandSHeadRun.topDef Rg.hrow.prog 40).name = ("law" : PySem.Str) := by kernel_rfl
      rw [e] at g0
      exact g0
    have e := g1.symm.trans T.g_law
    cases e
    obtain ⟨fd, F⟩ := T.d_law
    have b := L2.FunD.bindsA (ps := ["_law_script"]) F fun _ _ _ _ _ _ us hl => match us, hl with | [_], _ => rfl
    exact ⟨K, fd, Rg.spLaw K, KX, fun s v => b s [v] rfl, fun H a ns hl _ hS => ⟨a, ns, rfl, hS, fun _ => rfl⟩, fun base _ _ => Rg.ok_law F T⟩
