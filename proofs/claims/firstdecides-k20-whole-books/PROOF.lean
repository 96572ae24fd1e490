import PyProof.Rows.All
import Wide.All
import OpenK.AllK
import Wide.FinOn
import HandS.ForMost
import HandS.More
import HandS.Codes
import HandS.Star
import HandS.Defaults
import HandS.ClsMeth
import HandS.FStr
import HandS.IsInst
import HandS.TryMany
import HandS.ExcField
import HandS.ExcInit
import HandS.DictComp
import HandS.ListItems
import HandS.Strs
import HandS.Zip
import HandS.Lambda
import HandS.Flow
import HandS.TupAny
import HandS.WideBits
import HandS.EndTab
import HandS.HeadWalk
import HandS.HeadHook4
import PySem.Challenge.RW_firstdecides_k20_whole_books_that_an_ord
import KE.KOpsOwn
import KE.GoesMore
import KE.KDictList
import KE.GoesEnum
import KE.KStateDown
import Lean
import HandS.Head0
import HandS.Head1
import HandS.Head2
import HandS.Walk
import PyProof.Rows.StrJoinRep
import KE.KTryMore
import HandS.ExcOwn
import HandS.TryOnly
set_option Elab.async false
set_option linter.all false
set_option maxRecDepth 100000
set_option maxHeartbeats 4000000
/-! ### FdBase: the text by places, heaps, steps through readings -/
namespace Fd
open PySem PySem.Spec PyProof.Rows L2 SX
/-! the text -/
def top (i : Nat) : Stmt := PySem.Challenge.pw_firstdecides_k20_whole_books_that_an_ord.main.body.getD i (.Pass ⟨0, 0, 0, 0⟩)
abbrev KF := PySem.W.Frag
/-! heaps -/
theorem Same.upd' {H H1 : Hp} {p : Addr} {o : HO} (h : H p = none) (e : Same H H1) : Same H (upd H1 p o) := fun a u x => by
  rw [upd_ne (ne_of_none x h)]
  exact e a u x
theorem same_at {H H' : Hp} {a : Addr} {o : HO} (e : Same H H') (h : H a = some o) : H' a = some o := e a o h
theorem at_upd {H : Hp} {p a : Addr} {o u : HO} (hp : H p = none) (h : H a = some u) : upd H p o a = some u := by
  rw [upd_ne (ne_of_none h hp)]
  exact h
theorem at_mut {H : Hp} {p a : Addr} {o u : HO} (n : a ≠ p) (h : H a = some u) : upd H p o a = some u := by
  rw [upd_ne n]
  exact h
/-- the bag's list, by its form -/
def Hard (o : HO) : Prop := ∀ (h : Addr) (a b c d : Int), o ≠ .lst [.ref h, .int a, .int b, .int c, .int d]
/-- all is kept but what looks like a bag -/
def Keep (H H' : Hp) : Prop := ∀ a o, H a = some o → Hard o → H' a = some o
theorem Keep.refl (H : Hp) : Keep H H := fun _ _ h _ => h
theorem Keep.trans {H H1 H2 : Hp} (a : Keep H H1) (b : Keep H1 H2) : Keep H H2 := fun x o h n => b x o (a x o h n) n
theorem Keep.of {H H1 : Hp} (a : Same H H1) : Keep H H1 := fun x o h _ => a x o h
theorem Keep.upd' {H H1 : Hp} {p : Addr} {o : HO} (h : H p = none) (e : Keep H H1) : Keep H (upd H1 p o) := fun a u x n => by
  rw [upd_ne (ne_of_none x h)]
  exact e a u x n
theorem keep_at {H H' : Hp} {a : Addr} {o : HO} (e : Keep H H') (n : Hard o) (h : H a = some o) : H' a = some o := e a o h n
theorem hard_strs (xs : List Str) : Hard (.lst (xs.map V.str)) := fun h a b c d z => by
  cases xs <;> cases z
theorem hard_ints (xs : List Int) : Hard (.lst (xs.map V.int)) := fun h a b c d z => by
  cases xs <;> cases z
theorem hard_bls (xs : List Bool) : Hard (.lst (xs.map V.bl)) := fun h a b c d z => by
  cases xs <;> cases z
theorem hard_refs (xs : List Addr) : Hard (.lst (xs.map V.ref)) := fun h a b c d z => by
  match xs, z with
  | [], z => cases z
  | [_], z => cases z
  | _ :: _ :: _, z => cases z
theorem hard_tup (xs : List V) : Hard (.tup xs) := fun _ _ _ _ _ z => by cases z
theorem hard_ins (C dx : Addr) (fs : List (Str × V)) : Hard (.ins C dx fs) := fun _ _ _ _ _ z => by cases z
theorem hard_dK (kvs : List (Key × V)) : Hard (.dK kvs) := fun _ _ _ _ _ z => by cases z
theorem hard_own (x : Addr) : Hard (.own x) := fun _ _ _ _ _ z => by cases z
/-- the bag at b: its cells at h are ns -/
structure Bag (b h : Addr) (ns : List Int) (H : Hp) : Prop where
  at_ : ∃ i big st cnt : Int, 0 ≤ i ∧ H b = some (.lst [.ref h, .int i, .int big, .int st, .int cnt])
  held : H h = some (.lst (ns.map V.int))
theorem Bag.same {b h : Addr} {ns : List Int} {H H' : Hp} (B : Bag b h ns H) (e : Same H H') : Bag b h ns H' := by
  obtain ⟨⟨i, x, y, z, h1, h2⟩, h3⟩ := B
  exact ⟨⟨i, x, y, z, h1, e _ _ h2⟩, e _ _ h3⟩
theorem Bag.upd {b h : Addr} {ns : List Int} {H : Hp} {p : Addr} {o : HO} (B : Bag b h ns H) (nb : b ≠ p) (nh : h ≠ p) : Bag b h ns (L2.upd H p o) := by
  obtain ⟨⟨i, x, y, z, h1, h2⟩, h3⟩ := B
  exact ⟨⟨i, x, y, z, h1, at_mut nb h2⟩, at_mut nh h3⟩
theorem Bag.some {b h : Addr} {ns : List Int} {H : Hp} (B : Bag b h ns H) : ∃ o, H b = some o := by
  obtain ⟨⟨i, x, y, z, h1, h2⟩, h3⟩ := B
  exact ⟨_, h2⟩
theorem Bag.ne {b h p : Addr} {ns : List Int} {H0 : Hp} (B : Bag b h ns H0) (n : H0 p = none) : b ≠ p ∧ h ≠ p := by
  obtain ⟨⟨i, x, y, z, h1, h2⟩, h3⟩ := B
  exact ⟨ne_of_none h2 n, ne_of_none h3 n⟩
/-- a list of ours that was new when the bag stood already is written -/
theorem Bag.mut {b h : Addr} {ns : List Int} {H0 H : Hp} {p : Addr} {o : HO} (B0 : Bag b h ns H0) (n : H0 p = none) (B : Bag b h ns H) : Bag b h ns (L2.upd H p o) := B.upd (B0.ne n).1 (B0.ne n).2
theorem none_same {H H' : Hp} {l : Addr} (e : Same H H') (h : H' l = none) : H l = none := e.free h
theorem none_upd {H : Hp} {p l : Addr} {o : HO} (h : upd H p o l = none) : H l = none := by
  by_cases e : l = p
  · rw [e, upd_same] at h
    cases h
  · rw [upd_ne e] at h
    exact h
/-! readings: one step -/
section
variable {K : KF} {σ : L2.St} {H : Hp} {Q : VK} {ta tb tc te to : TE} {v x y : V} {D : Ends} {ts tu : TS}
theorem g_var {i : Nat} (h : σ[i]? = some (some v)) (q : Q v H) : tVar i σ H Q := ⟨v, h, q⟩
theorem g_c (q : Q v H) : tC v σ H Q := q
theorem g_op {r : R2} (q : ta σ H fun x H1 => tb σ H1 fun y H2 => r x y H2 Q) : tOp r ta tb σ H Q := q
theorem g_un {r : V → Hp → VK → Prop} (q : ta σ H fun x H1 => r x H1 Q) : tUn r ta σ H Q := q
theorem g_seq (q : ts { D with nx := tu D } σ H) : tSeq ts tu D σ H := q
theorem g_asg {g : TG} (q : te σ H fun x H1 => g x σ H1 D.nx) : tAsg te g D σ H := q
theorem g_name {i : Nat} {Q : L2.St → Hp → Prop} (q : Q (σ.set i (some v)) H) : gName i v σ H Q := q
theorem g_ret (q : te σ H D.rt) : tRet te D σ H := q
theorem g_drop (q : te σ H fun _ H1 => D.nx σ H1) : tDrop te D σ H := q
theorem g_next (q : D.nx σ H) : tNext D σ H := q
theorem g_ifS {c : TT} (q : c σ H fun b H1 => if b = true then ts D σ H1 else tu D σ H1) : tIfS c ts tu D σ H := q
theorem g_if {c : TT} (q : c σ H fun b H1 => if b = true then ta σ H1 Q else tb σ H1 Q) : tIf c ta tb σ H Q := q
theorem g_cons {tr : TA} {Q : List V → Hp → Prop} (q : te σ H fun x H1 => tr σ H1 fun xs H2 => Q (x :: xs) H2) : tCons te tr σ H Q := q
theorem g_nil {Q : List V → Hp → Prop} (q : Q [] H) : tNil σ H Q := q
theorem g_tup {t : TA} (q : t σ H fun xs H1 => xs.length ≤ sizeLine ∧ ∀ p, H1 p = none → Q (.ref p) (upd H1 p (.tup xs))) : tTup t σ H Q := q
theorem g_lst {t : TA} (q : t σ H fun xs H1 => xs.length ≤ sizeLine ∧ ∀ p, H1 p = none → Q (.ref p) (upd H1 p (.lst xs))) : tLst t σ H Q := q
theorem g_cb {r : List V → Hp → VK → Prop} {t : TA} (q : t σ H fun vs H1 => r vs H1 Q) : tCB r t σ H Q := q
theorem g_call {sp : Sp} {dvs : List V} {E : XK} {t : TA} (q : t σ H fun vs H1 => sp (vs ++ dvs) H1 Q E) : tCall sp dvs E t σ H Q := q
theorem g_tB {Q : Bool → Hp → Prop} (q : te σ H fun x H1 => ∃ c, x = .bl c ∧ Q c H1) : tB te σ H Q := q
theorem g_test {Q : Bool → Hp → Prop} (q : te σ H fun x H1 => ∃ c, x = .bl c ∧ Q c H1) : tTest te σ H Q := q
theorem g_bl {b : Bool} {Q : Bool → Hp → Prop} (q : Q b H) : ∃ c, V.bl b = V.bl c ∧ Q c H := ⟨b, rfl, q⟩
theorem g_and {t u : TT} {Q : Bool → Hp → Prop} (q : t σ H fun c H1 => if c = true then u σ H1 Q else Q false H1) : tAnd t u σ H Q := q
theorem g_or {t u : TT} {Q : Bool → Hp → Prop} (q : t σ H fun c H1 => if c = true then Q true H1 else u σ H1 Q) : tOr t u σ H Q := q
theorem g_not {t : TT} {Q : Bool → Hp → Prop} (q : t σ H fun c H1 => Q (!c) H1) : tNot t σ H Q := q
theorem g_andV (q : ta σ H fun x H1 => ∃ c, x = .bl c ∧ if c = true then tb σ H1 Q else Q (.bl false) H1) : tAndV ta tb σ H Q := q
theorem g_orV (q : ta σ H fun x H1 => ∃ c, x = .bl c ∧ if c = true then Q (.bl true) H1 else tb σ H1 Q) : tOrV ta tb σ H Q := q
theorem g_notV (q : ta σ H fun x H1 => ∃ c, x = .bl c ∧ Q (.bl (!c)) H1) : tNotV ta σ H Q := q
theorem g_yes {Q : Bool → Hp → Prop} (q : Q true H) : tYes σ H Q := q
theorem g_I0 {g : Int → Int → V} {i j : Int} (q : Q (g i j) H) : rI0 g (.int i) (.int j) H Q := ⟨i, j, rfl, rfl, q⟩
theorem g_I {C : Int → Int → Prop} {g : Int → Int → V} {i j : Int} (c : C i j) (q : Q (g i j) H) : rI C g (.int i) (.int j) H Q := ⟨i, j, rfl, rfl, c, q⟩
theorem g_eq (s : scal x y = true) (q : Q (.bl (decide (x = y))) H) : rEq x y H Q := ⟨s, q⟩
theorem g_ne (s : scal x y = true) (q : Q (.bl (!decide (x = y))) H) : rNe x y H Q := ⟨s, q⟩
theorem g_fld {a C dx : Addr} {f : Str} {fs : List (Str × V)} (q : ta σ H fun x H1 => ∃ a C dx fs v, x = .ref a ∧ H1 a = some (.ins C dx fs) ∧ Cls K C ∧ NoAttr K C f ∧ fs.lookup f = some v ∧ Q v H1) : tFld K ta f σ H Q := q
theorem g_gnil {Q : L2.St → Hp → Prop} (q : Q σ H) : gNil [] σ H Q := ⟨rfl, q⟩
theorem g_gcons {t : TG} {u : TGs} {r : List V} {Q : L2.St → Hp → Prop} (q : t v σ H fun σ' H' => u r σ' H' Q) : gCons t u (v :: r) σ H Q := ⟨v, r, rfl, q⟩
end
end Fd
set_option Elab.async false
set_option linter.all false
set_option maxRecDepth 100000
set_option maxHeartbeats 4000000
/-! ### FdRules1: calls of defs, methods, static methods, classes; own operators -/
namespace Fd
open PySem PySem.Spec PyProof.Rows L2 SX
/-- a def of the module that may be called by its name -/
structure Cal (P : Program) (w : World) (K : KF) (mg : Str → Option Value) (base : Heap) (k : Nat) (x : Str) (sp : Sp) : Prop where
  ex : ∃ (f : Addr) (fd : FuncData) (ps : List Str), FnOk P w K mg base L2.CX0 k f fd ps sp ∧ mg x = some (.ref f) ∧ PySem.W.keepIn K (.ref f) = true ∧ L2.Binds K fd ps []
/-- a method of the class at C -/
structure Met (P : Program) (w : World) (K : KF) (mg : Str → Option Value) (base : Heap) (k : Nat) (C : Addr) (m : Str) (sp : Sp) : Prop where
  ex : ∃ (f : Addr) (fd : FuncData) (ps : List Str), Cls K C ∧ Meth K C m f ∧ FnOk P w K mg base L2.CX0 k f fd ps sp ∧ L2.Binds K fd ps []
/-- a class that is made by its name; sp: its __init__, told of the written arguments -/
structure Mak (P : Program) (w : World) (K : KF) (mg : Str → Option Value) (base : Heap) (k : Nat) (x : Str) (C : Addr) (sp : Sp) : Prop where
  ex : ∃ f : Addr, Mk K C f ∧ FnR P w K mg base L2.CX0 k f sp ∧ mg x = some (.ref C)
/-- C.m is a static method: its record at p, its def at g -/
structure SMet (K : KF) (C : Addr) (mc : Value) (m : Str) (p g : Addr) : Prop where
  at_ : PySem.W.findCls K (.ref C) mc m = some (.get (.builtin "staticmethod.__get__") (.ref p) .none (.ref C))
  rc : ∃ rest, PySem.W.recIn K p "staticmethod" = some (.ref g :: rest)
  kp : PySem.W.keepIn K (.ref g) = true
structure Stm (P : Program) (w : World) (K : KF) (mg : Str → Option Value) (base : Heap) (k : Nat) (x : Str) (m : Str) (sp : Sp) : Prop where
  ex : ∃ (C : Addr) (mc : Value) (p g : Addr) (fd : FuncData) (ps : List Str), mg x = some (.ref C) ∧ ClX.CRead K C mc ∧ SMet K C mc m p g ∧ FnOk P w K mg base L2.CX0 k g fd ps sp ∧ L2.Binds K fd ps []
section
variable {X : Cx} {k j : Nat} {C : Addr} {x m : Str} {sp : Sp} {p pos apos : Pos} {e o : Expr} {es : List Expr} {ta te : TE} {t : TA}
theorem pc (c : Cal X.prog X.w X.K X.mg X.base k x sp) (hr : Room j X.A) (ha : PA X (e :: es) t) (hk : k ≤ j := by decide) (hg : Gl X x := by rfl)
    (hdb : (x == ("__debug__" : Str)) = false := by decide) (he : starEach (e :: es) X.env = (false, eval e X.env) :: starEach es X.env := by rfl) (hpl : (backTo pos (starEach es X.env)).any (·.1) = false := by rfl) :
    PE X (.Call (.Name x p) (e :: es) [] pos) (tCall sp [] L2.E0 t) := by
  obtain ⟨f, fd, ps, F, hm, kp, b⟩ := c.ex
  exact pe_call F (hr.mono hk) hg hm kp b .nil L2.pass0 ha hdb he hpl
theorem pmt {pl : Sem Bool} (c : Met X.prog X.w X.K X.mg X.base k C m sp) (hr : Room j X.A) (he : PE X o ta) (ha : PA X (e :: es) t) (hk : k ≤ j := by decide)
    (hst : starEach (e :: es) X.env = (false, eval e X.env) :: starEach es X.env := by rfl) (hpl : (backTo pos (starEach es X.env)).any (·.1) = false := by rfl)
    (ht : eval (.Call (.Attribute o m apos) (e :: es) [] pos) X.env = (do
      let ov ← eval o X.env
      standAt apos.atName
      let (f, first) ← holding [ov] (getMethod ov m pl)
      callWith pos f first (backTo pos (starEach (e :: es) X.env)) (backToKw pos (keywordEach [] X.env))) := by rfl) :
    PE X (.Call (.Attribute o m apos) (e :: es) [] pos) (tMeth C m sp [] L2.E0 ta t) := by
  obtain ⟨f, fd, ps, hc, hm, F, b⟩ := c.ex
  exact pe_meth (pl := pl) he hc hm F (hr.mono hk) b .nil L2.pass0 ha hst hpl ht
theorem pmt0 {pl : Sem Bool} (c : Met X.prog X.w X.K X.mg X.base k C m sp) (hr : Room j X.A) (he : PE X o ta) (hk : k ≤ j := by decide)
    (ht : eval (.Call (.Attribute o m apos) [] [] pos) X.env = (do
      let ov ← eval o X.env
      standAt apos.atName
      let (f, first) ← holding [ov] (getMethod ov m pl)
      callWith pos f first (backTo pos (starEach [] X.env)) (backToKw pos (keywordEach [] X.env))) := by rfl) :
    PE X (.Call (.Attribute o m apos) [] [] pos) (tMeth C m sp [] L2.E0 ta tNil) := by
  obtain ⟨f, fd, ps, hc, hm, F, b⟩ := c.ex
  exact pe_meth0 (pl := pl) he hc hm F (hr.mono hk) b .nil L2.pass0 ht
/-- C(e, ..) -/
theorem pmk (c : Mak X.prog X.w X.K X.mg X.base k x C sp) (hr : Room j X.A) (ha : PA X (e :: es) t) (hk : k + 1 ≤ j := by decide) (hg : Gl X x := by rfl)
    (hdb : (x == ("__debug__" : Str)) = false := by decide) (he : starEach (e :: es) X.env = (false, eval e X.env) :: starEach es X.env := by rfl) (hpl : (backTo pos (starEach es X.env)).any (·.1) = false := by rfl) :
    PE X (.Call (.Name x p) (e :: es) [] pos) (StX.tMakeR C sp L2.E0 t) := by
  obtain ⟨f, M, F, hm⟩ := c.ex
  exact StX.pe_makeR M F (hr.mono hk) hg hm L2.pass0 ha hdb he hpl
/-- C(), the arguments all by default -/
theorem pmk0 (c : Mak X.prog X.w X.K X.mg X.base k x C sp) (hr : Room j X.A) (hk : k + 1 ≤ j := by decide) (hg : Gl X x := by rfl)
    (hdb : (x == ("__debug__" : Str)) = false := by decide) : PE X (.Call (.Name x p) [] [] pos) (StX.tMakeR C sp L2.E0 tNil) := by
  obtain ⟨f, M, F, hm⟩ := c.ex
  refine ⟨fun pins s σ H Q I h => ?_⟩
  refine wpAny_Call_Name_kw (ld_glob I hg hm ?_ hdb)
  exact PySem.W.callWith_K0 I.kIn M.kp (StX.run_makeR (us := []) (vs := []) M F (hr.mono hk) L2.pass0 I .nil h)
/-- C(e, .., *y): one written argument ahead -/
theorem pmkS (c : Mak X.prog X.w X.K X.mg X.base k x C sp) (hr : Room j X.A) (ha : PA X (e :: es) t) (hk : k + 1 ≤ j := by decide) (hg : Gl X x := by rfl)
    (hdb : (x == ("__debug__" : Str)) = false := by decide) (he : starEach (e :: es) X.env = (false, eval e X.env) :: starEach es X.env := by rfl) (hst : (backTo pos (starEach es X.env)).any (·.1) = true := by rfl) :
    PE X (.Call (.Name x p) (e :: es) [] pos) (StX.tMakeR C sp L2.E0 t) := by
  obtain ⟨f, M, F, hm⟩ := c.ex
  refine ⟨fun pins s σ H Q I h => ?_⟩
  refine wpAny_Call_Name_kw (ld_glob I hg hm ?_ hdb)
  refine PySem.W.callWith_S2 (h₀ := X.base) I.ok.mod.kin M.kp (thn (ha.run pos pins s σ H _ I h) fun us s1 ⟨vs, H1, I1, r, q⟩ => ⟨I1.kIn, ?_⟩) he hst
  exact StX.run_makeR M F (hr.mono hk) L2.pass0 I1 r q
/-- C(*y) -/
theorem pmkS1 {sp_ : Pos} (c : Mak X.prog X.w X.K X.mg X.base k x C sp) (hr : Room j X.A) (he : PE X e te) (hk : k + 1 ≤ j := by decide) (hg : Gl X x := by rfl)
    (hdb : (x == ("__debug__" : Str)) = false := by decide) (hst : starEach [.Starred e sp_] X.env = [(true, eval e X.env)] := by rfl) :
    PE X (.Call (.Name x p) [.Starred e sp_] [] pos) (StX.tMakeR C sp L2.E0 (StX.tStar X.K te tNil)) := by
  obtain ⟨f, M, F, hm⟩ := c.ex
  refine ⟨fun pins s σ H Q I h => ?_⟩
  refine wpAny_Call_Name_kw (ld_glob I hg hm ?_ hdb)
  refine PySem.W.callWith_S (h₀ := X.base) I.ok.mod.kin M.kp (thn (he.run pins s σ H _ I h) fun v s1 ⟨y, H1, I1, ry, a, xs, ey, hxs, q⟩ => ?_) hst
  subst ey
  obtain rfl : v = Value.ref a := ry
  refine StX.star_any I1 hxs fun us s2 I2 rv => ⟨I2.kIn, ?_⟩
  exact StX.run_makeR M F (hr.mono hk) L2.pass0 I2 rv (by
    have q' : tNil σ H1 fun ys H2 => ∀ x dx, H2 x = none → H2 dx = none → dx ≠ x → sp (V.ref x :: (xs ++ ys)) (upd (upd H2 dx (.own x)) x (.ins C dx [])) (fun v H3 => v = .non ∧ Q (.ref x) H3) L2.E0 := q
    have q2 : ∀ x dx, H1 x = none → H1 dx = none → dx ≠ x → sp (V.ref x :: (xs ++ [])) (upd (upd H1 dx (.own x)) x (.ins C dx [])) (fun v H3 => v = .non ∧ Q (.ref x) H3) L2.E0 := q'
    rw [List.append_nil] at q2
    exact q2)
/-- C.m(e, ..), m a static method of C -/
theorem pst {pl : Sem Bool} (c : Stm X.prog X.w X.K X.mg X.base k x m sp) (hr : Room j X.A) (ha : PA X (e :: es) t) (hk : k ≤ j := by decide) (hg : Gl X x := by rfl)
    (hdb : (x == ("__debug__" : Str)) = false := by decide)
    (hst : starEach (e :: es) X.env = (false, eval e X.env) :: starEach es X.env := by rfl) (hpl : (backTo pos (starEach es X.env)).any (·.1) = false := by rfl)
    (ht : eval (.Call (.Attribute (.Name x p) m apos) (e :: es) [] pos) X.env = (do
      let ov ← eval (.Name x p) X.env
      standAt apos.atName
      let (f, first) ← holding [ov] (getMethod ov m pl)
      callWith pos f first (backTo pos (starEach (e :: es) X.env)) (backToKw pos (keywordEach [] X.env))) := by rfl) :
    PE X (.Call (.Attribute (.Name x p) m apos) (e :: es) [] pos) (tCall sp [] L2.E0 t) := by
  obtain ⟨C, mc, rp, g, fd, ps, hm, rd, S, F, b⟩ := c.ex
  refine ⟨fun pins s σ H Q I h => ?_⟩
  refine PySem.W.methodCall_KW (pl := pl) (ld_glob I hg hm ?_ hdb) ht
  obtain ⟨rest, hp⟩ := S.rc
  refine PySem.W.method_cls I.kIn rd.ga (PySem.W.cls_bind I.kIn rd.rd S.at_ ?_)
  refine wpAny_call (PySem.W.sm_get (s := { s with toks := s.toks + 1 }) I.kIn hp (PySem.W.handed_on rfl ?_))
  have I1 : Inv X pins σ H { s with toks := s.toks + 1 } := I.tok _
  refine PySem.W.callWith_K (first := []) (h₀ := X.base) I.ok.mod.kin S.kp (thn (ha.run pos pins _ σ H _ I1 h) fun us s2 ⟨vs, H2, I2, r, q2⟩ => ⟨I2.kIn, ?_⟩) hst hpl
  exact run_fn F (hr.mono hk) b .nil L2.pass0 I2 r q2
end
end Fd
set_option Elab.async false
set_option linter.all false
set_option maxRecDepth 100000
set_option maxHeartbeats 4000000
/-! ### FdRules2: own operators, raise C() without arguments -/
namespace Fd
open PySem PySem.Spec PyProof.Rows L2 SX
/-- an own operator's def: the class's name for it at f -/
structure Own (P : Program) (w : World) (K : KF) (mg : Str → Option Value) (base : Heap) (k : Nat) (C : Addr) (m : Str) (sp : Sp) : Prop where
  ex : ∃ (f : Addr) (fd : FuncData) (ps : List Str), PySem.W.findIn K (.ref C) m = some (some (.ref f)) ∧ PySem.W.isFn K (.ref f) = true ∧ FnOk P w K mg base L2.CX0 k f fd ps sp ∧ L2.Binds K fd ps []
section
variable {X : Cx} {k j : Nat} {C : Addr} {sp : Sp}
/-- -x -/
def rNeg (C : Addr) (sp : Sp) : V → Hp → VK → Prop := fun x H Q => ∃ a dx fs, x = .ref a ∧ H a = some (.ins C dx fs) ∧ sp [.ref a] H Q L2.E0
theorem un_negO (c : Own X.prog X.w X.K X.mg X.base k C "__neg__" sp) (hr : Room j X.A) (hk : k ≤ j := by decide) : UnR X (unaryOp .USub) (rNeg C sp) := by
  intro pins s σ H x v Q I rx h
  obtain ⟨a, dx, fs, rfl, ha, q⟩ := h
  obtain ⟨f, fd, ps, hs, hf, F, b⟩ := c.ex
  cases rx
  obtain ⟨mA, J, _⟩ := ins_get I.hok ha
  obtain ⟨od, J, _⟩ := J.look
  obtain ⟨m, hF⟩ := I.fr
  exact PySem.W.ksp_neg hF I.ok.mod.kin J hs hf (run_fn (us := [.ref a]) (vs := [.ref a]) F (hr.mono hk) b .nil L2.pass0 I (.cons rfl .nil) q)
/-- x in o, x not in o -/
def rHasNot (C : Addr) (sp : Sp) : R2 := fun x y H Q => ∃ a dx fs, y = .ref a ∧ H a = some (.ins C dx fs) ∧ sp [.ref a, x] H (fun v H' => ∃ c, v = .bl c ∧ Q (.bl (!c)) H') L2.E0
theorem op_hasNot (c : Own X.prog X.w X.K X.mg X.base k C "__contains__" sp) (hr : Room j X.A) (hk : k ≤ j := by decide) : OpR X (compareOp .NotIn) (rHasNot C sp) := by
  intro pins s σ H x y v u Q I rx ry h
  obtain ⟨a, dx, fs, rfl, ha, q⟩ := h
  obtain ⟨f, fd, ps, hs, hf, F, b⟩ := c.ex
  cases ry
  obtain ⟨mA, J, _⟩ := ins_get I.hok ha
  obtain ⟨od, J, _⟩ := J.look
  obtain ⟨m, hF⟩ := I.fr
  refine PySem.W.notIn_K hF I.ok.mod.kin J hs hf (thn (run_fn (us := [.ref a, v]) (vs := [.ref a, x]) F (hr.mono hk) b .nil L2.pass0 I (.cons rfl (.cons rx .nil)) q) fun r s1 hz => ?_)
  obtain ⟨z, H1, I1, rz, cb, ez, qz⟩ := hz
  subst ez
  cases rz
  exact wpAny_truthy_bool ⟨.bl (!cb), H1, I1, rfl, qz⟩
end
/-- a value of the layer is not NotImplemented -/
theorem rel_back {v : V} {u : Value} {Q : Value → Shared → Prop} {s : Shared} (r : RelV v u) (q : Q u s) : PySem.W.CmpBack Q u s := by
  cases v with
  | non => cases r; exact q
  | bl _ => cases r; exact q
  | int _ => obtain ⟨t, rfl⟩ := r; exact q
  | str _ => obtain ⟨t, rfl⟩ := r; exact q
  | byt _ => obtain ⟨t, rfl⟩ := r; exact q
  | flt _ => obtain ⟨t, rfl⟩ := r; exact q
  | ref _ => cases r; exact q
  | ty _ => cases r; exact q
end Fd
set_option Elab.async false
set_option linter.all false
set_option maxRecDepth 100000
set_option maxHeartbeats 4000000
/-! ### FdRules3: x + t by an own __add__, t a tuple; raise C() without arguments -/
namespace PySem.W
open Lean Elab Tactic Meta PySem PySem.Calls PyProof.Rows
section
variable {prog : Program} {w : World} {A : Around} {E : Value → Shared → Prop} {s : Shared} {K : Frag} {x C L f : Addr} {h₀ : Heap} {m : Str → Option Value} {ox : Obj} {od : Option Obj} {T : String}
theorem fd_bin {op : Operator} {b : Value} {fo ro rc : Option Value} {Q : Value → Shared → Prop} (F : Fr h₀ L s.heap m) (X₀ : K.In h₀) (I : InstAt s.heap x ox C od) (hb : Looks (model prog w) s.heap (typeOf b) (.type T)) (hc : selfFirst K C = true)
    (hs : findIn K (.ref C) (PySem.dunder op.info.2) = some (some (.ref f))) (hf : isFn K (.ref f) = true) (hr : findIn K (.ref C) (dunderR op.info.2) = some rc) (hp : rc = none ∨ ∃ g : Addr, rc = some (.ref g))
    (h1 : findIn K (.type T) (PySem.dunder op.info.2) = some fo) (h2 : findIn K (.type T) (dunderR op.info.2) = some ro) (hsub : subIn K (.type T) (.ref C) = some false)
    (h : wpAny (model prog w) A (call (.ref f) [.ref x, b]) (CmpBack Q) E s) : wpAny (model prog w) A (binaryOp op (.ref x) b) Q E s := by
  have KX := X₀.keeps F.keep
  obtain ⟨cd, rest, hcd, hm⟩ := ksp_first hc
  rcases hi : op.info with ⟨sym, nm⟩
  rw [hi] at hs hr h1 h2
  dsimp only at hs hr h1 h2
  have one := ksp_try KX I hs hf h
  obtain ⟨hh, g, d, tt, os⟩ := s
  have M1 : Looks (model prog w) hh (typeOf (.ref x)) (.ref C) := I.type
  have M2 : Looks (model prog w) hh (typeOf b) (.type T) := hb
  have M3 : Looks (model prog w) hh (fillsNumberSlot (.ref C) nm) true := fills_K KX hcd hm hs
  have M4 : Looks (model prog w) hh (fillsNumberSlot (.type T) nm) ((fo.isSome && !isSeqSlot fo) || (ro.isSome && !isSeqSlot ro)) := ksp_fillsT KX h1 h2
  have M5 : Looks (model prog w) hh (isSubtype (.type T) (.ref C)) false := looks_subIn KX hsub
  have M6 : Looks (model prog w) hh (numberSlotInPython (.ref C) nm) true := ksp_inPy KX hs hr hp
  have M7 : Looks (model prog w) hh (numberSlotInPython (.type T) nm) false := Looks.of_pure rfl
  have M8 : Looks (model prog w) hh (typeLookup (.type T) (dunderR nm)) ro := looks_findIn KX h2
  generalize ((fo.isSome && !isSeqSlot fo) || (ro.isSome && !isSeqSlot ro)) = right at M4
  have ne : (Value.ref C == Value.type T) = false := Bool.eq_false_iff.mpr fun q => by cases beq_iff_eq.mp q
  simp only [binaryOp, hi]
  refine wpAny_holding (wpAny_bind ?_)
  unfold binaryOp1
  refine wpAny_bind (M1.at (wpAny_bind (M2.at (wpAny_bind (M3.at ?_)))))
  simp only [ne, Bool.false_eq_true, if_false]
  cases right
  all_goals
    ksp_lk
    refine wpAny_mono one (fun r s' hz => ?_) fun _ _ e => e
    obtain ⟨v, rfl, hq⟩ := hz
    ksp_lk
    exact hq
/-- what the written part says of an own + beside a right operand of the built-in type T -/
structure FdPlus (K : Frag) (C f : Addr) (T : String) : Prop where
  first : selfFirst K C = true
  hs : findIn K (.ref C) "__add__" = some (some (.ref f))
  hf : isFn K (.ref f) = true
  hr : findIn K (.ref C) "__radd__" = some none
  h1 : ∃ fo, findIn K (.type T) "__add__" = some fo
  h2 : ∃ ro, findIn K (.type T) "__radd__" = some ro
  sub : subIn K (.type T) (.ref C) = some false
theorem fd_plus {b : Value} {Q : Value → Shared → Prop} (F : Fr h₀ L s.heap m) (X₀ : K.In h₀) (I : InstAt s.heap x ox C od) (hb : Looks (model prog w) s.heap (typeOf b) (.type T)) (c : FdPlus K C f T)
    (h : wpAny (model prog w) A (call (.ref f) [.ref x, b]) (CmpBack Q) E s) : wpAny (model prog w) A (binaryOp .Add (.ref x) b) Q E s := by
  obtain ⟨hc, hs, hf, hr, ⟨fo, h1⟩, ⟨ro, h2⟩, hsub⟩ := c
  exact fd_bin (op := .Add) (rc := none) F X₀ I hb hc hs hf hr (Or.inl rfl) h1 h2 hsub h
end
end PySem.W
namespace Fd
open PySem PySem.Spec PyProof.Rows L2 SX
structure OwnPlus (P : Program) (w : World) (K : KF) (mg : Str → Option Value) (base : Heap) (k : Nat) (C : Addr) (sp : Sp) : Prop where
  ex : ∃ (f : Addr) (fd : FuncData) (ps : List Str), PySem.W.FdPlus K C f "tuple" ∧ FnOk P w K mg base L2.CX0 k f fd ps sp ∧ L2.Binds K fd ps []
section
variable {X : Cx} {k j : Nat} {C : Addr} {sp : Sp}
/-- x + t -/
def rPlusT (C : Addr) (sp : Sp) : R2 := fun x y H Q => ∃ a dx fs t xs, x = .ref a ∧ H a = some (.ins C dx fs) ∧ y = .ref t ∧ H t = some (.tup xs) ∧ sp [.ref a, .ref t] H Q L2.E0
theorem op_plusT (c : OwnPlus X.prog X.w X.K X.mg X.base k C sp) (hr : Room j X.A) (hk : k ≤ j := by decide) : OpR X (binaryOp .Add) (rPlusT C sp) := by
  intro pins s σ H x y v u Q I rx ry h
  obtain ⟨a, dx, fs, t, xs, rfl, ha, rfl, ht, q⟩ := h
  obtain ⟨f, fd, ps, hp, F, b⟩ := c.ex
  cases rx
  cases ry
  obtain ⟨mA, J, _⟩ := ins_get I.hok ha
  obtain ⟨od, J, _⟩ := J.look
  obtain ⟨m, hF⟩ := I.fr
  obtain ⟨_, its, rv, o, ho, hcl, hd⟩ := I.hok t _ ht
  refine PySem.W.fd_plus hF I.ok.mod.kin J ?_ hp (thn (run_fn (us := [.ref a, .ref t]) (vs := [.ref a, .ref t]) F (hr.mono hk) b .nil L2.pass0 I (.cons rfl (.cons rfl .nil)) q) fun r s1 hz => ?_)
  · exact fun A Q E s k q => wpAny_typeOf_ref (k _ _ ho) (by rw [hcl]; exact q)
  · obtain ⟨z, H1, I1, rz, qz⟩ := hz
    exact rel_back rz ⟨z, H1, I1, rz, qz⟩
end
end Fd
set_option Elab.async false
set_option linter.all false
set_option maxRecDepth 100000
set_option maxHeartbeats 4000000
/-! ### FdSet: len(set(xs)), xs a list or a tuple of different texts (printed by gen_set.py; the walk is the library's for ints and for one text, turned to many texts) -/
namespace FdSet
open PySem PySem.Spec PyProof.Rows L2
theorem strs_at {us : List Value} {xs : List Str} (h : StrsAre us xs) (i : Nat) (v : Value) (e : us[i]? = some v) : ∃ t, v = .str (xs.getD i Str.empty) t := by
  induction h generalizing i with
  | nil => simp at e
  | cons y k _ ih =>
    cases i with
    | zero =>
      have e' := Option.some.inj e
      exact ⟨k, by rw [← e'] <;> rfl⟩
    | succ i =>
      obtain ⟨t, q⟩ := ih i e
      exact ⟨t, by rw [q] <;> rfl⟩
theorem take_any {xs : List Str} {i : Nat} (hi : i < xs.length) (hn : xs.Nodup) : (xs.take i).any (· == xs.getD i Str.empty) = false := by
  have e1 : xs.getD i Str.empty = xs[i] := by
    rw [List.getD_eq_getElem?_getD, List.getElem?_eq_getElem hi] <;> rfl
  rw [e1]
  cases hb : (xs.take i).any (· == xs[i]) with
  | false => rfl
  | true =>
    obtain ⟨y, hy, ey⟩ := List.any_eq_true.mp hb
    have ey2 : y = xs[i] := eq_of_beq ey
    rw [ey2] at hy
    obtain ⟨j, hj, ej⟩ := List.mem_take_iff_getElem.mp hy
    have hji : j < i := by omega
    exact absurd ej (List.pairwise_iff_getElem.mp hn j i (by omega) hi hji)
theorem take_more {xs : List Str} {i : Nat} (hi : i < xs.length) (k : Str) : ((xs.take i).any (· == k) || decide (k = xs.getD i Str.empty)) = (xs.take (i + 1)).any (· == k) := by
  have e1 : xs.getD i Str.empty = xs[i] := by
    rw [List.getD_eq_getElem?_getD, List.getElem?_eq_getElem hi] <;> rfl
  rw [e1, List.take_succ, List.getElem?_eq_getElem hi, List.any_append]
  congr 1
  show decide (k = xs[i]) = ((xs[i] == k) || false)
  rw [Bool.or_false]
  by_cases e : k = xs[i]
  · rw [decide_eq_true e, e]
    simp
  · rw [decide_eq_false e]
    exact (beq_eq_false_iff_ne.mpr fun q => e q.symm).symm
section
variable {prog : Program} {w : World} {A : Around} {R : Result → Shared → Prop} {J : Addr} {fp wr : List Addr} {G : Array GenState → Array GenState → Prop} {n : Nat} {P : Nat → Value → Prop} {St : Nat → Shared → Prop}
/-- the loop of set.update over different texts -/
theorem loop_many (W : WalksS prog w A.in1 J fp wr G n P St) (S : Addr) (hSf : S ∉ fp) (xs : List Str) (hsz : xs.length = n) (hn : xs.Nodup) (hb : n < 1000)
    (hval : ∀ i v, P i v → ∃ t, v = .str (xs.getD i Str.empty) t) : ∀ (k i : Nat) (s : Shared), n - i = k → i ≤ n → St i s →
      s.heap.SetOf (PySem.strKind prog w) S (fun z => (xs.take i).any (· == z)) i →
      (∀ s', Moved (S :: wr) G s s' → s'.heap.SetOf (PySem.strKind prog w) S (fun z => (xs.take n).any (· == z)) n → R (.ok (.ret .none)) s') →
      codeAny (model prog w) A (.builtin "set.update.loop" ⟨[.ref S, .ref J], []⟩) R s := by
  have nW : S ∉ wr := fun h => hSf (W.sub _ h)
  have up : ∀ b ∈ wr, b ∈ S :: wr := fun b h => List.mem_cons_of_mem _ h
  have keepS : ∀ {s s' : Shared} {f : Str → Bool} {c : Nat}, Moved wr G s s' → s.heap.SetOf (PySem.strKind prog w) S f c → s'.heap.SetOf (PySem.strKind prog w) S f c := fun hm ⟨o, es, ep, t, ho, r⟩ => ⟨o, es, ep, t, hm.heap S _ nW ho, r⟩
  intro k
  induction k with
  | zero =>
    intro i s hk hi hst hS hR
    obtain rfl : i = n := by omega
    refine codeAny_builtin PyProof.Rows.F.entry_set_update_loop ?_
    rw [Around.under_plainId PyProof.Rows.F.plain_set_update_loop _]
    show wpAny _ A.in1 (pyNext (.ref J) >>= _) _ _ s
    refine wpAny_bind (W.done s _ _ hst fun s' hm => ?_)
    show wpAny _ A.in1 (ret Value.none) _ _ s'
    exact wpAny_pure (hR s' (hm.mono up) (keepS hm hS))
  | succ k ih =>
    intro i s hk hi hst hS hR
    have hlt : i < n := by omega
    refine codeAny_builtin PyProof.Rows.F.entry_set_update_loop ?_
    rw [Around.under_plainId PyProof.Rows.F.plain_set_update_loop _]
    show wpAny _ A.in1 (pyNext (.ref J) >>= _) _ _ s
    refine wpAny_bind (W.item i s _ _ hlt hst fun v s' hP hst' hm => ?_)
    obtain ⟨t, rfl⟩ := hval i v hP
    have hS1 := keepS hm hS
    show wpAny _ A.in1 (holding [Value.str (xs.getD i Str.empty) t] (setAdd S (.str (xs.getD i Str.empty) t)) >>= _) _ _ s'
    refine wpAny_bind (wpAny_holding ?_)
    unfold setAdd
    refine wpAny_holding (wpAny_bind ((PySem.strKind prog w).pyHash (k := xs.getD i Str.empty) (strKind_is _ _ _ _) ?_))
    refine wpAny_setAddHashed_of (knd := PySem.strKind prog w) (s := { s' with toks := s'.toks + 1 }) (strKind_is _ _ _ _) rfl hS1 (by unfold scanBound; omega) fun h2 sb hS2 => ?_
    have hx : i < xs.length := by omega
    have hS3 : h2.SetOf (PySem.strKind prog w) S (fun z => (xs.take (i + 1)).any (· == z)) (i + 1) := by
      refine SetOf_congr hS2 (fun z => take_more hx z) ?_
      show (if (xs.take i).any (· == xs.getD i Str.empty) = true then i else i + 1) = i + 1
      rw [take_any hx hn]
      rfl
    refine wpAny_pure ⟨plainId_quiet PyProof.Rows.F.plain_set_update_loop _, ih (i + 1) _ (by omega) hlt (W.frame _ s' _ _ hst' (Nat.le_succ _) fun b hb o e => ?_) hS3 fun s4 hm4 hS4 => ?_⟩
    · rw [sb.2 b (fun h : b = S => hSf (by rw [← h]; exact hb))]
      exact e
    · refine hR s4 (Moved.trans W.gtrans ((hm.mono up).then_heap (Nat.le_succ _) fun b o hb e => ?_) hm4) hS4
      rw [sb.2 b (fun h : b = S => hb (by rw [h]; exact List.mem_cons_self))]
      exact e
end
section
variable {prog : Program} {w : World} {A : Around} {E : Value → Shared → Prop} {s : Shared}
abbrev newS (led : Bool) : Obj := { cls := .type "set", dict := none, data := .set #[] 0 (.fresh 0 0 led) }
set_option maxHeartbeats 8000000 in
/-- set(v): a new set, and its __init__ -/
theorem set_call {v : Value} {Q : Value → Shared → Prop} (h : ∀ led : Bool, codeAny (model prog w) A.in1 (.call (.builtin "set.__init__") ⟨[.ref s.heap.objs.size, v], []⟩) (wants (fun r s₂ => r = .none ∧ Q (.ref s.heap.objs.size) s₂) E) { s with heap := s.heap.push (newS led) }) :
    wpAny (model prog w) A (call (.type "set") [v]) Q E s := by
  obtain ⟨c, tl, hmro⟩ := PySem.F.called_set.mro
  have hmade := PySem.F.called_set.made
  have hsub := PySem.F.called_set.sub
  refine wpAny_call (codeAny_of_tree ?_)
  show wpAny _ _ (callAny (.type "set") _) _ _ _
  refine wpAny_pure ⟨Code.quiet_builtin _ (by decide +kernel), codeAny_builtin PySem.F.entry_type_call ?_⟩
  rw [Around.under_plain (weight_type_call_type "set" [v] []) rfl]
  have h1 := PySem.F.called_set.notType
  have h2 := PySem.F.called_set.canCreate
  have hct := PySem.F.typeCall_set_1 v
  repeat (any_goals (first | assumption | wp_step))
  refine codeAny_mono (code_set_new_1 v (E := E) (Q₁ := fun obj s₁ => ∃ led : Bool, obj = .ref s.heap.objs.size ∧ s₁ = { s with heap := s.heap.push (newS led) }) fun led => ⟨led, rfl, rfl⟩) fun r s₁ hr => ?_
  rcases r with e | fl
  · exact hr
  cases fl with
  | ret obj =>
    obtain ⟨led, rfl, rfl⟩ := hr
    have hS : (s.heap.push (newS led)).get? s.heap.objs.size = some (newS led) := Heap.get?_push_size _ rfl
    have hT : Shared.TypeIs { s with heap := s.heap.push (newS led) } (.ref s.heap.objs.size) "set" := ⟨_, hS, rfl⟩
    have hli := PySem.F.called_set.init.lookup
    have hbi := PySem.F.called_set.init.bind (.ref s.heap.objs.size)
    repeat (any_goals (first | assumption | wp_step))
    refine codeAny_mono (h led) fun r₂ s₂ hr₂ => ?_
    rcases r₂ with e | fl₂
    · exact hr₂
    cases fl₂ with
    | ret r =>
      obtain ⟨rfl, hq⟩ := hr₂
      repeat (any_goals (first | assumption | wp_step))
    | _ => exact hr₂.elim
  | _ => exact hr.elim
set_option maxHeartbeats 8000000 in
theorem init_list {l S : Addr} {items : Array Value} {E : Value → Shared → Prop} {R : Fin → Shared → Prop} {led : Bool} {hp : Heap} {g : Array GenState} {d : Drawn} {tk : Nat} {os : OsState} (hS : hp.get? S = some (newS led)) (hl : hp.IsList l items)
    (h : codeAny (model prog w) A (.builtin "set.update.loop" ⟨[.ref S, .ref hp.objs.size], []⟩) (fun r s' => match r with | .ok (.ret _) => R (.done (.ret .none)) s' | .ok _ => False | .error e => E e s') ⟨hp.push { cls := .type "list_iterator", data := .fields #[.ref l, .int 0 0] }, g, d, tk, os⟩) :
    wpAny (model prog w) A (Builtin.«set.__init__» ⟨[.ref S, .ref l], []⟩) R E ⟨hp, g, d, tk, os⟩ := by
  have hl1 := hl
  obtain ⟨⟨ocls, odict, odata, oslots⟩, hol, hcl, nl, hdl⟩ := hl
  simp only at hcl hdl
  subst hcl; subst hdl
  have hsls := PySem.F.sub_list_set
  have hslf := PySem.F.sub_list_frozenset
  have hne : (Value.type "list" == Value.type "dict") = false := by decide
  unfold Builtin.«set.__init__» noKeywords Builtin.Frozenset.updateFrom
  generalize hPI : pyIter = PI
  wp_walk
  subst hPI
  refine wpAny_pyIter_list hl1 ?_
  refine wpAny_bind (wpAny_runValue ?_)
  refine codeAny_mono h fun r s' z => ?_
  rcases r with e | fl
  · exact z
  cases fl with
  | ret v => exact wpAny_pure (wpAny_pure z)
  | _ => exact z.elim
theorem set_list {l : Addr} {items : Array Value} {xs : List Str} {Q : Value → Shared → Prop} (hh : A.handled = none) (hl : s.heap.IsList l items) (hi : StrsAre items.toList xs) (hn : xs.Nodup) (hb1000 : xs.length < 1000)
    (h : ∀ (h' : Heap) (tk : Nat), h'.SetOf (PySem.strKind prog w) s.heap.objs.size (fun z => (xs.take items.size).any (· == z)) items.size →
      (∀ b o, b < s.heap.objs.size → s.heap.get? b = some o → h'.get? b = some o) → Q (.ref s.heap.objs.size) { s with heap := h', toks := tk }) :
    wpAny (model prog w) A (call (.type "set") [.ref l]) Q E s := by
  refine set_call fun led => ?_
  have hS : (s.heap.push (newS led)).get? s.heap.objs.size = some (newS led) := Heap.get?_push_size _ rfl
  have hT : Shared.TypeIs { s with heap := s.heap.push (newS led) } (.ref s.heap.objs.size) "set" := ⟨_, hS, rfl⟩
  have hlS : l < s.heap.objs.size := by
    obtain ⟨o, e, _⟩ := hl
    exact Heap.lt_size e
  have hl1 : (s.heap.push (newS led)).IsList l items := hl.push _
  refine codeAny_call_builtin PySem.F.called_set.init.plain PySem.F.entry_set_init (check_set_init_1 hT (init_list hS hl1 ?_))
  have hh3 : A.in1.in1.in1.handled = none := by simp [hh]
  have size1 : (s.heap.push (newS led)).objs.size = s.heap.objs.size + 1 := Heap.size_push ..
  have hneI : l ≠ (s.heap.push (newS led)).objs.size := by
    rw [size1]
    exact Nat.ne_of_lt (Nat.lt_succ_of_lt hlS)
  have hSf : s.heap.objs.size ∉ [(s.heap.push (newS led)).objs.size, l] := by
    rw [size1]
    simp only [List.mem_cons, List.mem_singleton, List.not_mem_nil, or_false, not_or]
    exact ⟨Nat.ne_of_lt (Nat.lt_succ_self _), Nat.ne_of_gt hlS⟩
  have hsz : xs.length = items.size := by rw [← StrsAre.len_eq hi, Array.length_toList]
  have hval : ∀ (i : Nat) (v : Value), items[i]? = some v → ∃ t, v = .str (xs.getD i Str.empty) t := fun i v hv => strs_at hi i v (by rw [Array.getElem?_toList]; exact hv)
  refine loop_many ((Walks.list hh3 _ l hneI items).toS) s.heap.objs.size hSf xs hsz hn (by omega) hval (items.size - 0) 0 _ (by omega) (Nat.zero_le _) ⟨⟨_, Heap.get?_push_size _ rfl, rfl, rfl⟩, (hl1.push _)⟩ ?hS0 ?hR
  case hS0 =>
    have hget : ((s.heap.push (newS led)).push { cls := .type "list_iterator", data := .fields #[.ref l, .int 0 0] }).get? s.heap.objs.size = some (newS led) := Heap.get?_push_of_some _ hS
    exact SetOf_congr ((setObjOf_fresh (knd := PySem.strKind prog w) led).setOf hget (by unfold scanBound; omega)) (fun _ => rfl) rfl
  case hR =>
    intro s' hm hS'
    obtain ⟨h', g', d', tk', os'⟩ := s'
    obtain rfl : g' = s.gens := hm.gens
    obtain rfl : d' = s.drawn := hm.drawn
    obtain rfl : os' = s.os := hm.os
    refine ⟨rfl, h h' tk' hS' fun b o hb e => ?_⟩
    refine hm.heap b o ?_ (Heap.get?_push_of_some _ (Heap.get?_push_of_some _ e))
    rw [size1]
    simp only [List.mem_cons, List.mem_singleton, List.not_mem_nil, or_false, not_or]
    exact ⟨Nat.ne_of_lt hb, Nat.ne_of_lt (Nat.lt_succ_of_lt hb)⟩
set_option maxHeartbeats 8000000 in
theorem init_tuple {l S : Addr} {items : Array Value} {E : Value → Shared → Prop} {R : Fin → Shared → Prop} {led : Bool} {hp : Heap} {g : Array GenState} {d : Drawn} {tk : Nat} {os : OsState} (hS : hp.get? S = some (newS led)) (hl : hp.IsTuple l items)
    (h : codeAny (model prog w) A (.builtin "set.update.loop" ⟨[.ref S, .ref hp.objs.size], []⟩) (fun r s' => match r with | .ok (.ret _) => R (.done (.ret .none)) s' | .ok _ => False | .error e => E e s') ⟨hp.push { cls := .type "tuple_iterator", data := .fields #[.ref l, .int 0 0] }, g, d, tk, os⟩) :
    wpAny (model prog w) A (Builtin.«set.__init__» ⟨[.ref S, .ref l], []⟩) R E ⟨hp, g, d, tk, os⟩ := by
  have hl1 := hl
  obtain ⟨⟨ocls, odict, odata, oslots⟩, hol, hcl, nl, hdl⟩ := hl
  simp only at hcl hdl
  subst hcl; subst hdl
  have hsls := PySem.F.sub_tuple_set
  have hslf := PySem.F.sub_tuple_frozenset
  have hne : (Value.type "tuple" == Value.type "dict") = false := by decide
  unfold Builtin.«set.__init__» noKeywords Builtin.Frozenset.updateFrom
  generalize hPI : pyIter = PI
  wp_walk
  subst hPI
  refine wpAny_pyIter_tuple hl1 ?_
  refine wpAny_bind (wpAny_runValue ?_)
  refine codeAny_mono h fun r s' z => ?_
  rcases r with e | fl
  · exact z
  cases fl with
  | ret v => exact wpAny_pure (wpAny_pure z)
  | _ => exact z.elim
theorem set_tuple {l : Addr} {items : Array Value} {xs : List Str} {Q : Value → Shared → Prop} (hh : A.handled = none) (hl : s.heap.IsTuple l items) (hi : StrsAre items.toList xs) (hn : xs.Nodup) (hb1000 : xs.length < 1000)
    (h : ∀ (h' : Heap) (tk : Nat), h'.SetOf (PySem.strKind prog w) s.heap.objs.size (fun z => (xs.take items.size).any (· == z)) items.size →
      (∀ b o, b < s.heap.objs.size → s.heap.get? b = some o → h'.get? b = some o) → Q (.ref s.heap.objs.size) { s with heap := h', toks := tk }) :
    wpAny (model prog w) A (call (.type "set") [.ref l]) Q E s := by
  refine set_call fun led => ?_
  have hS : (s.heap.push (newS led)).get? s.heap.objs.size = some (newS led) := Heap.get?_push_size _ rfl
  have hT : Shared.TypeIs { s with heap := s.heap.push (newS led) } (.ref s.heap.objs.size) "set" := ⟨_, hS, rfl⟩
  have hlS : l < s.heap.objs.size := by
    obtain ⟨o, e, _⟩ := hl
    exact Heap.lt_size e
  have hl1 : (s.heap.push (newS led)).IsTuple l items := hl.push _
  refine codeAny_call_builtin PySem.F.called_set.init.plain PySem.F.entry_set_init (check_set_init_1 hT (init_tuple hS hl1 ?_))
  have hh3 : A.in1.in1.in1.handled = none := by simp [hh]
  have size1 : (s.heap.push (newS led)).objs.size = s.heap.objs.size + 1 := Heap.size_push ..
  have hneI : l ≠ (s.heap.push (newS led)).objs.size := by
    rw [size1]
    exact Nat.ne_of_lt (Nat.lt_succ_of_lt hlS)
  have hSf : s.heap.objs.size ∉ [(s.heap.push (newS led)).objs.size, l] := by
    rw [size1]
    simp only [List.mem_cons, List.mem_singleton, List.not_mem_nil, or_false, not_or]
    exact ⟨Nat.ne_of_lt (Nat.lt_succ_self _), Nat.ne_of_gt hlS⟩
  have hsz : xs.length = items.size := by rw [← StrsAre.len_eq hi, Array.length_toList]
  have hval : ∀ (i : Nat) (v : Value), items[i]? = some v → ∃ t, v = .str (xs.getD i Str.empty) t := fun i v hv => strs_at hi i v (by rw [Array.getElem?_toList]; exact hv)
  refine loop_many ((Walks.tuple hh3 _ l hneI items).toS) s.heap.objs.size hSf xs hsz hn (by omega) hval (items.size - 0) 0 _ (by omega) (Nat.zero_le _) ⟨⟨_, Heap.get?_push_size _ rfl, rfl, rfl⟩, (hl1.push _)⟩ ?hS0 ?hR
  case hS0 =>
    have hget : ((s.heap.push (newS led)).push { cls := .type "tuple_iterator", data := .fields #[.ref l, .int 0 0] }).get? s.heap.objs.size = some (newS led) := Heap.get?_push_of_some _ hS
    exact SetOf_congr ((setObjOf_fresh (knd := PySem.strKind prog w) led).setOf hget (by unfold scanBound; omega)) (fun _ => rfl) rfl
  case hR =>
    intro s' hm hS'
    obtain ⟨h', g', d', tk', os'⟩ := s'
    obtain rfl : g' = s.gens := hm.gens
    obtain rfl : d' = s.drawn := hm.drawn
    obtain rfl : os' = s.os := hm.os
    refine ⟨rfl, h h' tk' hS' fun b o hb e => ?_⟩
    refine hm.heap b o ?_ (Heap.get?_push_of_some _ (Heap.get?_push_of_some _ e))
    rw [size1]
    simp only [List.mem_cons, List.mem_singleton, List.not_mem_nil, or_false, not_or]
    exact ⟨Nat.ne_of_lt hb, Nat.ne_of_lt (Nat.lt_succ_of_lt hb)⟩
end
end FdSet
namespace Fd
open PySem PySem.Spec PyProof.Rows L2 SX
/-- len(set(xs)) -/
def tLenSetN (K : KF) (ta : TE) : TE := fun σ H Q => ta σ H fun x H1 => ∃ (l : Addr) (xs : List Str), x = .ref l ∧ (SqL K H1 l (xs.map V.str) ∨ SqT K H1 l (xs.map V.str)) ∧ xs.Nodup ∧ xs.length < 1000 ∧ Q (.int (xs.length : Nat)) H1
theorem pe_lenSetN {X : Cx} {a : Expr} {ta : TE} {p p2 q pos : Pos} (hm : X.mg "len" = none) (hm2 : X.mg "set" = none) (ha : PE X a ta) (hg : Gl X "len" := by rfl) (hg2 : Gl X "set" := by rfl) (hc : X.calm = true := by rfl)
    (na : starEach [a] X.env = (false, eval a X.env) :: starEach [] X.env := by rfl) : PE X (.Call (.Name "len" p) [.Call (.Name "set" p2) [a] [] q] [] pos) (tLenSetN X.K ta) := by
  refine ⟨fun pins s σ H Q I h => ?_⟩
  refine Call_ (ld_blt I hg hm boot_len (PyProof.Rows.callWith_builtin1 (PyProof.Rows.args_cons ?_ rfl) rfl rfl))
  refine Call_ (ld_blt I hg2 hm2 boot_set (PyProof.Rows.callWith_type1 (PyProof.Rows.args_cons (thn (ha.run pins s σ H _ I h) fun v s1 ⟨x, H1, I1, r1, q1⟩ => PyProof.Rows.args_nil ?_) na) na rfl))
  obtain ⟨l, xs, rfl, hq, hn, hb, q1⟩ := q1
  cases r1
  have fin : ∀ (its : List Value), Vals (xs.map V.str) its → ∀ (h' : Heap) (tk : Nat), h'.SetOf (PySem.strKind X.prog X.w) s1.heap.objs.size (fun z => (xs.take its.toArray.size).any (· == z)) its.toArray.size →
      (∀ b o, b < s1.heap.objs.size → s1.heap.get? b = some o → h'.get? b = some o) →
      wpAny (model X.prog X.w) X.A (spliced (backTo pos (starEach [] X.env))) (fun vs s₂ => wpAny (model X.prog X.w) X.A (call (.builtin "len") (Value.ref s1.heap.objs.size :: vs)) (EP X pins σ Q) X.xe s₂) X.xe { s1 with heap := h', toks := tk } := fun its r h' tk hS hk => by
    refine PyProof.Rows.args_nil ?_
    have hl : its.toArray.size = xs.length := by rw [List.size_toArray, ← r.length, List.length_map]
    rw [hl] at hS
    obtain ⟨o, es, ep, t, ho, hex, hd, _, _, _, hf, hc2⟩ := hS
    have I2 : Inv X pins σ H1 { s1 with heap := h', toks := tk } := I1.kept fun b o e => hk b o (Heap.lt_size e) e
    exact call_len_set ho hex hd hf (by rw [hc2] <;> omega) ⟨.int xs.length, H1, I2.tok _, ⟨_, by rw [hc2]⟩, q1⟩
  rcases hq with hq | hq
  · obtain ⟨its, r, pl, hz⟩ := I1.list hq
    exact FdSet.set_list (I1.ok.hd hc) pl.isList (by simpa using strsAre_of r) hn hb fun h' tk hS hk => fin its r h' tk hS hk
  · obtain ⟨its, r, pl, hz⟩ := I1.tuple hq
    exact FdSet.set_tuple (I1.ok.hd hc) pl (by simpa using strsAre_of r) hn hb fun h' tk hS hk => fin its r h' tk hS hk
end Fd
set_option Elab.async false
set_option linter.all false
set_option maxRecDepth 100000
set_option maxHeartbeats 4000000
/-! ### FdRules4: raise C() without arguments; for over a list or tuple; enumerate(tuple); list(d.values()); text * int -/
namespace Fd
open PySem PySem.Spec PyProof.Rows L2 SX
/-! C(), an exception with its own __init__ -/
def tMkO0 (C : Addr) (sp : Sp) : L2.St → Hp → XK → Prop := fun _ H Q => ∀ a, H a = none → sp [.ref a] (upd H a (exo a C none))
  (fun v H2 => v = .non ∧ ∃ (d : Addr) (fs : List (Str × V)), H2 a = some (exo a C (some d)) ∧ H2 d = some (exd d fs) ∧ H d = none ∧ Q (.ref C) (some d) (upd (del H2 a) d (.xd fs))) (fun _ _ _ => False)
theorem pmk_oex0 {X : Cx} {CX : CXT} {x : Str} {C fI : Addr} {k : Nat} {fd : FuncData} {ps : List Str} {sp : Sp} {p pos : Pos} (T : OexC X.K C) (iC : PySem.W.findIn X.K (.ref C) "__init__" = some (some (.ref fI))) (tI : PySem.W.typeIn X.K (.ref fI) = some (.type "function"))
    (F1 : FnOk X.prog X.w X.K X.mg X.base CX k fI fd ps sp) (hr : Room (k + 1) X.A) (hb : L2.Binds X.K fd ps []) (hx : Passes CX X (fun _ _ _ => False)) (hg : Gl X x) (hm : X.mg x = some (.ref C))
    (hdb : (x == ("__debug__" : Str)) = false := by decide) : PMk X (.Call (.Name x p) [] [] pos) (tMkO0 C sp) := by
  intro pins s σ H Q I h
  obtain ⟨nm, q, N, bs, bm, sn, sub, ab, col, dd, k0, k1, k2, k3, k5, hC, hbm⟩ := T.cls
  refine wpAny_Call_Name_kw (ld_glob I hg hm ?_ hdb)
  refine PySem.W.callWith_K0 I.kIn T.kC ?_
  show wpAny _ _ (call (.ref C) []) _ _ _
  obtain ⟨hp, g, dr, tk, os⟩ := s
  have hsz : hp.objs.size ≤ hp.objs.size + 1 := Nat.le_succ _
  have hn : H (hp.objs.size + 1) = none := I.hok.fresh hsz
  have hq := h (hp.objs.size + 1) hn
  have kk : ∀ b o, hp.get? b = some o → ((hp.push (PySem.W.kdv_tup [])).push (PySem.HandSPX.excO C hp.objs.size)).get? b = some o := fun b o e => Heap.get?_push_of_some _ (Heap.get?_push_of_some _ e)
  have hget : ((hp.push (PySem.W.kdv_tup [])).push (PySem.HandSPX.excO C hp.objs.size)).get? (hp.objs.size + 1) = some (PySem.HandSPX.excO C hp.objs.size) := by heap_get
  have I2 : Inv X pins σ (upd H (hp.objs.size + 1) (exo (hp.objs.size + 1) C none)) ⟨(hp.push (PySem.W.kdv_tup [])).push (PySem.HandSPX.excO C hp.objs.size), g, dr, tk, os⟩ :=
    I.laid (t' := tk) (a := hp.objs.size + 1) (o := exo (hp.objs.size + 1) C none) (h' := (hp.push (PySem.W.kdv_tup [])).push (PySem.HandSPX.excO C hp.objs.size)) kk hsz (exo_ok hget)
  have r2 : Vals [V.ref (hp.objs.size + 1)] [Value.ref (hp.objs.size + 1)] := .cons rfl .nil
  have hl : ([Value.ref (hp.objs.size + 1)] ++ ([] : List Value)).length = ps.length := by
    have e := F1.len _ _ _ _ hq
    simpa using e
  refine wpAny_call (PySem.HandSPX.call_own F.excBase_ValueError (fun Y => PySem.HandSPX.refsVE_contains Y bm hbm) (I.kIn _ _ hC) (PySem.W.looks_findIn I.kIn iC) (fun self => PySem.W.bind_fn I.kIn self tI) (by simp)
    (codeAny_mono (F1.run _ X.stack _ _ ⟨[Value.ref (hp.objs.size + 1)], []⟩ [Value.ref (hp.objs.size + 1)] _ _ (fun _ _ _ => False) (hr.make C [] []) (I2.env0.make C [] []) (by have b1 := hb ⟨(hp.push (PySem.W.kdv_tup [])).push (PySem.HandSPX.excO C hp.objs.size), g, dr, tk, os⟩ [Value.ref (hp.objs.size + 1)] I2.kIn (by simpa using hl); simpa using b1) r2 hq) fun r s' hq' => ?_))
  rcases r with er | fl
  · exact hx pins σ _ _ er s' I2 hq'
  cases fl with
  | ret u =>
    obtain ⟨v, H2, os2, bare2, un2, hok2, rv, ev, d, fs, ea, ed, hd1, q2⟩ := hq'
    subst ev
    obtain ⟨h2, g2, d2, t2, os'⟩ := s'
    exact ⟨rv, mk_end (raises_own T.exC T.tyC) I hsz kk un2 hok2 os2 bare2 ea ed hd1 q2⟩
  | _ => exact False.elim hq'
/-! for x in l, l a list or a tuple -/
def iSeq (K : KF) (tl : TE) : TI := fun σ H R => tl σ H fun x H1 => ∃ a, x = .ref a ∧ (((∃ xs, SqL K H1 a xs) ∧ R (Itl K a) H1) ∨ ((∃ xs, SqT K H1 a xs) ∧ R (Itt K a) H1))
theorem pi_seq {X : Cx} {tg l : Expr} {tl : TE} (hl : PE X l tl) : PI X tg l (iSeq X.K tl) := by
  refine ⟨fun pins s σ H R I h => ?_⟩
  refine thn (hl.run pins s σ H _ I h) fun v s1 ⟨x, H1, I1, r1, q1⟩ => ?_
  obtain ⟨a, e, q⟩ := q1
  subst e
  obtain rfl : v = Value.ref a := r1
  have fr : ∀ b ∈ [s1.heap.objs.size], FpOk X pins H1 b := fun b hb => by
    have e : b = s1.heap.objs.size := by simpa using hb
    subst e
    exact I1.fpOk (Nat.le_refl _) (I1.hok.fresh (Nat.le_refl _))
  rcases q with ⟨⟨xs, hq⟩, q⟩ | ⟨⟨xs, hq⟩, q⟩
  · obtain ⟨its, rv, p, hz⟩ := I1.list hq
    exact wpAny_pyIter_list p.isList ⟨s1.heap.objs.size, [s1.heap.objs.size], _, _, H1, rfl, I1.kept (t' := s1.toks) fun b o e => Heap.get?_push_of_some _ e, turn_list a _, ⟨_, Heap.get?_push_size _ rfl, rfl, rfl⟩, fr, q⟩
  · obtain ⟨its, rv, p, hz⟩ := I1.tuple hq
    exact wpAny_pyIter_tuple p ⟨s1.heap.objs.size, [s1.heap.objs.size], _, _, H1, rfl, I1.kept (t' := s1.toks) fun b o e => Heap.get?_push_of_some _ e, turn_tuple a _, ⟨_, Heap.get?_push_size _ rfl, rfl, rfl⟩, fr, q⟩
/-! text * int -/
def rMulS : R2 := fun x y H Q => ∃ (z : Str) (n : Int), x = .str z ∧ y = .int n ∧ MulOk z n ∧ Q (.str (Txt.mul z n)) H
theorem op_mulS {X : Cx} : OpR X (binaryOp .Mult) rMulS := by
  intro pins s σ H x y v u Q I rx ry h
  obtain ⟨z, n, rfl, rfl, ok, q⟩ := h
  obtain ⟨t, rfl⟩ := rx
  obtain ⟨t', rfl⟩ := ry
  exact SB.mul ok fun tk k => ⟨.str _, H, I.tok k, ⟨tk, rfl⟩, q⟩
/-! list(d.values()) -/
def rValsL : V → Hp → VK → Prop := fun x H Q => ∃ (d : Addr) (kvs : List (Key × V)), x = .ref d ∧ H d = some (.dK kvs) ∧ ∀ p, H p = none → Q (.ref p) (upd H p (.lst (kvs.map (·.2))))
def tListValues (te : TE) : TE := fun σ H Q => te σ H fun x H1 => rValsL x H1 Q
theorem kv_vals : ∀ {kvs : List (Key × V)} {vs : List (Key × Value)}, KV kvs vs → Vals (kvs.map (·.2)) (vs.map (·.2))
  | _, _, .nil => .nil
  | _, _, .cons r t => .cons r.2 (kv_vals t)
theorem pe_listValues {X : Cx} {e : Expr} {te : TE} {p apos cpos pos : Pos} (he : PE X e te) (hm : X.mg "list" = none) (hg : Gl X "list" := by rfl) (hc : X.calm = true := by rfl) (hbase : attributeBase e "values" X.env (eval e X.env) = eval e X.env := by rfl) (hline : (apos.endLine == cpos.line) = true := by rfl)
    (hs : starEach [.Call (.Attribute e "values" apos) [] [] cpos] X.env = (false, eval (.Call (.Attribute e "values" apos) [] [] cpos) X.env) :: starEach [] X.env := by rfl) :
    PE X (.Call (.Name "list" p) [.Call (.Attribute e "values" apos) [] [] cpos] [] pos) (tListValues te) := by
  refine ⟨fun pins s σ H Q I hq => ?_⟩
  refine wpAny_Call_Name_kw (ld_blt I hg hm boot_list (PyProof.Rows.callWith_type1 ?_ hs rfl))
  rw [hs]
  show wpAny _ _ (spliced ((false, eval (.Call (.Attribute e "values" apos) [] [] cpos) X.env) :: backTo pos (starEach [] X.env))) _ _ s
  refine Calls.spliced_cons ?_
  refine wpAny_Call_method (T := "dict") (id := "dict.values") hbase rfl hline PySem.F.plainAttrs_dict PySem.F.slot_dict_values PySem.F.type_dict_values (thn (he.run pins s σ H _ I hq) fun u s1 ⟨x, H1, I1, rx, d, kvs, ex, hd, q⟩ => ?_)
  subst ex
  obtain rfl : u = Value.ref d := rx
  obtain ⟨hz, hs0, vs, kv, hdo⟩ := I1.hok d _ hd
  obtain ⟨ep, hat⟩ := hdo.dictAt
  have lk : kvs.length = vs.length := Paired.length kv
  have I2 : Inv X pins σ H1 { s1 with heap := s1.heap.push { cls := .type "dict_values", data := .fields #[.ref d] } } := I1.kept (t' := s1.toks) fun b ob q => Heap.get?_push_of_some _ q
  refine ⟨hdo.typeIs, hdo.mapOf.noDict, ?_⟩
  show wpAny _ _ (callWith cpos (.builtin "dict.values") [.ref d] [] []) _ X.xe s1
  refine method_meetsIn PySem.F.slot_dict_values PySem.F.entry_dict_values rfl (PySem.evalArgs_none ⟨rfl, hdo.typeIs, PySem.F.args_dict_values_1 _, _, meets_dict_values (mixKind X.prog X.w) d hs0, ⟨vs, hdo⟩, ?_⟩)
  refine Calls.spliced_nil ?_
  refine PySem.W.kdl_call (PySem.W.kdl_values (knd := mixKind X.prog X.w) (kvs := vs) (ep := ep) (d := d)) (I1.ok.hd hc) ⟨⟨_, Heap.get?_push_size _ rfl, rfl, rfl⟩, hat.push _⟩ (by rw [← lk]; exact hz) fun h' tk acc c hkeep hS hacc => ?_
  have ea : acc.toList = vs.map (·.2) := PySem.W.kdl_vals_eq acc.toList (by simpa using hacc.1) fun j v hv => hacc.2 j v (by rw [← Array.getElem?_toList]; exact hv)
  refine ⟨.ref _, upd H1 _ (.lst (kvs.map (·.2))), I2.laid hkeep (Nat.le_refl _) ⟨by rw [List.length_map]; exact hz, acc.toList, c, by rw [ea]; exact kv_vals kv, ?_⟩, rfl, q _ (I2.hok.fresh (Nat.le_refl _))⟩
  rw [Array.toArray_toList]
  exact hS
/-! enumerate(t), t a tuple -/
def IteT (K : KF) (a : Addr) : It :=
  ⟨fun i H => ∃ (xs : List V) (x : V), SqT K H a xs ∧ xs[i]? = some x, fun i H v H' => ∃ T x, v = .ref T ∧ H T = none ∧ H' = upd H T (.tup [.int (i : Nat), x]) ∧ ∀ xs, SqT K H a xs → xs[i]? = some x, fun i H => ∃ xs : List V, SqT K H a xs ∧ xs.length = i⟩
end Fd
set_option Elab.async false
set_option linter.all false
set_option maxRecDepth 100000
set_option maxHeartbeats 4000000
/-! ### FdRules5: enumerate(t), t a tuple -/
namespace PySem
open Sem (wp)
open Builtin Builtin.Str
open PyProof.Rows
theorem fd_enum_newT (l : Addr) (items : Array Value) (n : Nat) (dct : Option Addr) (sl : Array (Option Value)) :
    Meets (Builtin.«enumerate.__new__» ⟨[.type "enumerate", .ref l], []⟩) (fun _ R s => s.heap.get? l = some { cls := .type "tuple", dict := dct, data := .seq items n, slots := sl } ∧
      R (.ok (.ret (.ref (s.heap.push { cls := .type "tuple_iterator", data := .fields #[.ref l, .int 0 0] }).objs.size)))
        { s with heap := (s.heap.push { cls := .type "tuple_iterator", data := .fields #[.ref l, .int 0 0] }).push { cls := .type "enumerate", data := .fields #[.none, .bool false, .ref s.heap.objs.size, rawInt 0, .none, .none] } }) :=
  .of_wp fun prog w A R s h => by
    obtain ⟨hp, g, d, tk, os⟩ := s; obtain ⟨hl, h⟩ := h
    have hsub := sub_enumerate
    have hT : Heap.IsTuple (Shared.heap ⟨hp, g, d, tk, os⟩) l items := ⟨_, hl, rfl, n, rfl⟩
    wp_walk using wpAny_loadPart' hl
    refine wpAny_stack_any fun st => wpAny_pure ?_
    split
    · rename_i c _ _ _ _ _
      cases (c == Value.type "enumerate")
      · wp_walk using wpAny_loadPart' hl, wpAny_pyIter_tuple hT
        exact ⟨_, rfl, h⟩
      · wp_walk using wpAny_loadPart' hl, wpAny_pyIter_tuple hT
        exact ⟨_, rfl, h⟩
    · wp_walk using wpAny_loadPart' hl, wpAny_pyIter_tuple hT
      exact ⟨_, rfl, h⟩
theorem fd_enum_tuple {prog : Program} {w : World} {A : Around} {E : Value → Shared → Prop} {s : Shared} {l : Addr} {items : Array Value} {Q : Value → Shared → Prop} (hL : s.heap.IsTuple l items)
    (h : ∀ h', IsEnum h' (s.heap.objs.size + 1) s.heap.objs.size 0 .none → h'.IsTupleIter s.heap.objs.size l 0 → h'.objs.size = s.heap.objs.size + 2 →
      (∀ b o, s.heap.get? b = some o → h'.get? b = some o) → Q (.ref (s.heap.objs.size + 1)) { s with heap := h' }) :
    wpAny (model prog w) A (call (.type "enumerate") [.ref l]) Q E s := by
  obtain ⟨⟨c, dct, dt, sl⟩, hl, hc, n, hd⟩ := hL
  obtain rfl : c = .type "tuple" := hc
  obtain rfl : dt = .seq items n := hd
  refine callType_new F.called_enumerate (by decide) (F.typeCall_enumerate_1 _) (F.newCall_enumerate_1 _) (fun obj => F.args_object_init_2 obj _) F.entry_enumerate_new (fd_enum_newT l items n dct sl) ⟨hl, ?_⟩
  have hz : (s.heap.push { cls := .type "tuple_iterator", data := .fields #[.ref l, .int 0 0] }).objs.size = s.heap.objs.size + 1 := Heap.size_push ..
  show _ ∧ _
  rw [hz]
  have he : IsEnum ((s.heap.push { cls := .type "tuple_iterator", data := .fields #[.ref l, .int 0 0] }).push { cls := .type "enumerate", data := .fields #[.none, .bool false, .ref s.heap.objs.size, rawInt 0, .none, .none] }) (s.heap.objs.size + 1) s.heap.objs.size 0 .none := by
    have q := Heap.get?_push_size (s.heap.push { cls := .type "tuple_iterator", data := .fields #[.ref l, .int 0 0] }) (o := { cls := .type "enumerate", data := .fields #[.none, .bool false, .ref s.heap.objs.size, rawInt 0, .none, .none] }) rfl
    rw [hz] at q
    exact q
  exact ⟨⟨_, he, rfl⟩, h _ he ⟨_, Heap.get?_push_of_some _ (Heap.get?_push_size _ rfl), rfl, rfl⟩ (by rw [Heap.size_push, hz]) fun b o x => Heap.get?_push_of_some _ (Heap.get?_push_of_some _ x)⟩
end PySem
namespace Fd
open PySem PySem.Spec PyProof.Rows L2 SX
theorem turn_enumT {P : Program} {w : World} {K : KF} {elts : List Expr} {kk : Nat} {tpos : Pos} (a e it : Addr) :
    Turn P w K (.Tuple elts kk tpos) (IteT K a) [e, it] e (fun i h => (∃ old, IsEnum h e it ((i : Nat) : Int) old) ∧ h.IsTupleIter it a i ∧ e ≠ it ∧ a ≠ it ∧ e ≠ a) where
  mem := by simp
  obj := fun i h st b hb => by
    obtain ⟨⟨old, he⟩, ⟨o, ho, hc, hd⟩, _⟩ := st
    rcases (by simpa using hb : b = e ∨ b = it) with z | z
    · rw [z]; exact ⟨_, he, fun v q => nomatch q⟩
    · rw [z]; exact ⟨o, ho, fun v q => by rw [hd] at q; cases q⟩
  keep := fun i h h' st k => let ⟨⟨old, he⟩, hi, hne⟩ := st; ⟨⟨old, k e (by simp) _ he⟩, hi.at fun o q => k it (by simp) o q, hne⟩
  item := by
    intro X hP hw hK hc i pins s σ H E I hf st hg
    subst hP hw hK
    obtain ⟨⟨old, he⟩, hit, hne, hai, hea⟩ := st
    obtain ⟨xs, x, hq, hx⟩ := hg
    obtain ⟨its, rv, p, hz⟩ := I.tuple hq
    obtain ⟨u, hu, ru⟩ := rv.get hx
    have hel : e < s.heap.objs.size := Heap.lt_size he
    have hil : it < s.heap.objs.size := by obtain ⟨_, q, _⟩ := hit; exact Heap.lt_size q
    have hlt : i < its.toArray.size := by
      have q := (List.getElem?_eq_some_iff.mp hu).1
      simpa using q
    have hef : e ∉ [it, a] := by simp [hne, hea]
    refine wpAny_pyNext_enum_itemD (Draws.tuple (show X.A.in1.handled = none from I.ok.hd hc) it a hai its.toArray) he ⟨hit, p⟩ hlt hne hef fun y h' tk hy ho hst' hT hsz hk => ?_
    have ey : y = u := by
      have q : its.toArray[i]? = some u := by simpa using hu
      exact Option.some.inj (hy.symm.trans q)
    subst ey
    refine ⟨_, rfl, wpAny_letOwnedTupleGo_enum (s := { s with heap := h', toks := tk + 1 }) ho fun h'' he' sb => ?_⟩
    have hT2 : h''.get? s.heap.objs.size = some { cls := .type "tuple", data := .seq #[.int i tk, y] } := (sb.2 _ (Nat.ne_of_gt hel)).trans hT
    have new : ObjOk X.prog X.w (upd H s.heap.objs.size (.tup [.int (i : Nat), x])) h'' s.heap.objs.size (.tup [.int (i : Nat), x]) :=
      ⟨by show 2 ≤ sizeLine; decide, [.int i tk, y], .cons ⟨_, rfl⟩ (.cons ru .nil), ⟨_, hT2, rfl, _, rfl⟩⟩
    have I1 : Inv X pins σ (upd H s.heap.objs.size (.tup [.int (i : Nat), x])) { s with heap := h'', toks := tk + 1 } :=
      I.turnedNew (ch := [e, it]) (fun b ob hb q => (sb.2 b (fun z => hb (by simp [z]))).trans (hk b ob (fun z => hb (by simp [z])) (fun z => hb (by simp [z])) q)) hf (Nat.le_refl _) new
    refine ⟨.ref s.heap.objs.size, _, I1, rfl, ⟨_, x, rfl, I.hok.fresh (Nat.le_refl _), rfl, fun ys hy => by rw [I.tuple_inj hy hq]; exact hx⟩, ⟨⟨y, ?_⟩, hst'.1.at fun o q => (sb.2 it (Ne.symm hne)).trans q, hne, hai, hea⟩, fun b hb => ?_⟩
    · have e1 : ((i + 1 : Nat) : Int) = (i : Int) + 1 := by omega
      rw [e1]; exact he'
    · have hb' : b < s.heap.objs.size := by
        rcases (by simpa using hb : b = e ∨ b = it) with z | z
        · rw [z]; exact hel
        · rw [z]; exact hil
      rw [upd_ne (Nat.ne_of_lt hb')]
      exact (hf b hb).1
  done := by
    intro X hP hw hK hc i pins s σ H E I hf st hg
    subst hP hw hK
    obtain ⟨⟨old, he⟩, hit, hne, hai, hea⟩ := st
    obtain ⟨xs, hq, hx⟩ := hg
    obtain ⟨its, rv, p, hz⟩ := I.tuple hq
    obtain ⟨f0, f1, f2, f3, f4, f5⟩ := hf it (by simp)
    have hl : i = its.toArray.size := by
      have q := rv.length
      rw [List.size_toArray]
      omega
    subst hl
    exact wpAny_pyNext_enum_endD (Draws.tuple (show X.A.in1.handled = none from I.ok.hd hc) it a hai its.toArray) he ⟨hit, p⟩ fun h' eb => ⟨rfl, I.turned (t' := s.toks) (fun b o hb q => eb b o hb q) f0 f1 f3 f4 f5⟩
  self := fun A i s Q E st h => let ⟨⟨_, he⟩, _⟩ := st; wpAny_pyIter_enum he h
def iEnumT (K : KF) (ta : TA) : TI := fun σ H R => ta σ H fun vs H1 => ∃ a xs, vs = [.ref a] ∧ SqT K H1 a xs ∧ R (IteT K a) H1
theorem pi_enumT {X : Cx} {e : Expr} {ta : TA} {p pos tpos : Pos} {elts : List Expr} {kk : Nat} (hm : X.mg "enumerate" = none) (ha : PA X [e] ta) (hg : Gl X "enumerate" := by rfl) (hs : starEach [e] X.env = [(false, eval e X.env)] := by rfl) :
    PI X (.Tuple elts kk tpos) (.Call (.Name "enumerate" p) [e] [] pos) (iEnumT X.K ta) := by
  refine ⟨fun pins s σ H R I h => ?_⟩
  refine Call_ (ld_blt I hg hm boot_enumerate (PyProof.Rows.callWith_type1 (thn (ha.run pos pins s σ H _ I h) fun us s1 ⟨vs, H1, I1, r1, q1⟩ => ?_) hs rfl))
  obtain ⟨a, xs, ex, hq, q⟩ := q1
  subst ex
  obtain ⟨u, rfl, r⟩ := vals1 r1
  obtain rfl : u = Value.ref a := r
  obtain ⟨its, rv, p', hz⟩ := I1.tuple hq
  have la : a < s1.heap.objs.size := p'.lt
  refine fd_enum_tuple (show s1.heap.IsTuple a its.toArray from p') fun h' he hit hsz hk => wpAny_pyIter_enum he ?_
  have I2 : Inv X pins σ H1 { s1 with heap := h' } := I1.kept (t' := s1.toks) hk
  refine ⟨s1.heap.objs.size + 1, [s1.heap.objs.size + 1, s1.heap.objs.size], _, _, H1, rfl, I2, turn_enumT a (s1.heap.objs.size + 1) s1.heap.objs.size, ⟨⟨.none, he⟩, hit, Nat.succ_ne_self _, Nat.ne_of_lt la, Nat.ne_of_gt (Nat.lt_succ_of_lt la)⟩, fun b hb => ?_, q⟩
  have hle : s1.heap.objs.size ≤ b := by
    rcases (by simpa using hb : b = s1.heap.objs.size + 1 ∨ b = s1.heap.objs.size) with z | z
    · rw [z]; exact Nat.le_succ _
    · rw [z]; exact Nat.le_refl _
  exact I1.fpOk hle (I1.hok.fresh hle)
/-- a loop over enumerate of a tuple -/
theorem for_enumT {K : KF} {a : Addr} {xs : List V} {g : TG} {tb : TS} {D : Ends} {σ : L2.St} {H : Hp} (Pv : Nat → L2.St → Hp → Prop) (h0 : Pv 0 σ H) (hl : ∀ i σ H, Pv i σ H → SqT K H a xs)
    (hs : ∀ i x σ H T, xs[i]? = some x → Pv i σ H → H T = none → g (.ref T) σ (upd H T (.tup [.int (i : Nat), x])) fun σ2 H2 => tb { D with nx := Pv (i + 1), ct := Pv (i + 1), bk := D.nx } σ2 H2) (hd : ∀ σ H, Pv xs.length σ H → D.nx σ H) :
    ∃ W : Nat → Nat → L2.St → Hp → Prop, (∃ m, W 0 m σ H) ∧ ∀ i m σ H, W i m σ H →
      ((IteT K a).stop i H ∧ D.nx σ H) ∨ ((IteT K a).go i H ∧ ∃ N : L2.St → Hp → Prop, (∀ σ' H', N σ' H' → ∃ m', m' < m ∧ W (i + 1) m' σ' H') ∧ ∀ x H', (IteT K a).yld i H x H' → g x σ H' fun σ2 H2 => tb { D with nx := N, ct := N, bk := D.nx } σ2 H2) := by
  refine ⟨fun i m σ H => m = xs.length - i ∧ i ≤ xs.length ∧ Pv i σ H, ⟨xs.length, by simp, Nat.zero_le _, h0⟩, ?_⟩
  rintro i m σ H ⟨rfl, hi, p⟩
  have q := hl i σ H p
  by_cases hlt : i < xs.length
  · refine .inr ⟨⟨xs, xs[i], q, by simp [hlt]⟩, Pv (i + 1), fun σ' H' p' => ⟨xs.length - (i + 1), by omega, rfl, hlt, p'⟩, fun x H' y => ?_⟩
    obtain ⟨T, x1, rfl, hT, rfl, f⟩ := y
    exact hs i x1 σ H T (f xs q) p hT
  · obtain rfl : i = xs.length := by omega
    exact .inl ⟨⟨xs, q, rfl⟩, hd σ H p⟩
end Fd
set_option Elab.async false
set_option linter.all false
set_option maxRecDepth 100000
set_option maxHeartbeats 4000000
/-! ### FdMath1: the order of texts, sorting, names -/
namespace Fd
open PySem PySem.Spec PyProof.Rows SX
/-- the text's codes -/
abbrev cp (z : Str) : List Nat := z.cps.toList
theorem cp_inj {a b : Str} (h : cp a = cp b) : a = b := by
  rw [← S_tl a, ← S_tl b]
  exact congrArg S h
theorem cp_S (l : List Nat) : cp (S l) = l := rfl
theorem len_cp (z : Str) : z.length = (cp z).length := by
  show z.cps.size = z.cps.toList.length
  simp
theorem lt_irrefl : ∀ a : List Nat, ltCps a a = false
  | [] => rfl
  | a :: r => by
    show (decide (a < a) || (a == a && ltCps r r)) = false
    rw [lt_irrefl r]
    simp
theorem lt_trans : ∀ {a b c : List Nat}, ltCps a b = true → ltCps b c = true → ltCps a c = true
  | [], [], _, h, _ => by cases h
  | [], _ :: _, [], _, h => by cases h
  | [], _ :: _, _ :: _, _, _ => rfl
  | _ :: _, [], _, h, _ => by cases h
  | _ :: _, _ :: _, [], _, h => by cases h
  | a :: r, b :: t, c :: u, h1, h2 => by
    have e1 : a < b ∨ (a = b ∧ ltCps r t = true) := by simpa [ltCps] using h1
    have e2 : b < c ∨ (b = c ∧ ltCps t u = true) := by simpa [ltCps] using h2
    show (decide (a < c) || (a == c && ltCps r u)) = true
    rcases e1 with e1 | ⟨rfl, e1⟩
    · rcases e2 with e2 | ⟨rfl, e2⟩
      · simp [Nat.lt_trans e1 e2]
      · simp [e1]
    · rcases e2 with e2 | ⟨rfl, e2⟩
      · simp [e2]
      · simp [lt_trans e1 e2]
theorem lt_total : ∀ (a b : List Nat), ltCps a b = false → ltCps b a = false → a = b
  | [], [], _, _ => rfl
  | [], _ :: _, h, _ => by cases h
  | _ :: _, [], _, h => by cases h
  | a :: r, b :: t, h1, h2 => by
    have e1 : b ≤ a ∧ (a = b → ltCps r t = false) := by simpa [ltCps] using h1
    have e2 : a ≤ b ∧ (b = a → ltCps t r = false) := by simpa [ltCps] using h2
    obtain rfl : a = b := Nat.le_antisymm e2.1 e1.1
    rw [lt_total r t (e1.2 rfl) (e2.2 rfl)]
/-- strictly ascending -/
def ltS (a b : Str) : Prop := ltCps (cp a) (cp b) = true
instance (a b : Str) : Decidable (ltS a b) := inferInstanceAs (Decidable (_ = true))
abbrev Srt (l : List Str) : Prop := l.Pairwise ltS
theorem ltS.ne {a b : Str} (h : ltS a b) : a ≠ b := fun e => by
  unfold ltS at h
  rw [e, lt_irrefl] at h
  cases h
theorem ltS.trans {a b c : Str} (h : ltS a b) (k : ltS b c) : ltS a c := lt_trans h k
theorem ltS.asymm {a b : Str} (h : ltS a b) (k : ltS b a) : False := (h.trans k).ne rfl
theorem Srt.nodup {l : List Str} (h : Srt l) : l.Nodup := List.Pairwise.imp (fun h => h.ne) h
theorem srt_uniq : ∀ {l m : List Str}, Srt l → Srt m → l.Perm m → l = m
  | [], m, _, _, p => (List.Perm.nil_eq p)
  | a :: l, [], _, _, p => by
    have := p.length_eq
    simp at this
  | a :: l, b :: m, h1, h2, p => by
    have ha := List.pairwise_cons.mp h1
    have hb := List.pairwise_cons.mp h2
    have e : a = b := by
      have i1 : a ∈ b :: m := p.subset List.mem_cons_self
      have i2 : b ∈ a :: l := p.symm.subset List.mem_cons_self
      rcases List.mem_cons.mp i1 with e | i1
      · exact e
      · rcases List.mem_cons.mp i2 with e | i2
        · exact e.symm
        · exact (ltS.asymm (ha.1 b i2) (hb.1 a i1)).elim
    subst e
    rw [srt_uniq ha.2 hb.2 (List.Perm.cons_inv p)]
/-- sorting by insertion -/
def ins (a : Str) : List Str → List Str
  | [] => [a]
  | b :: r => if ltS a b then a :: b :: r else b :: ins a r
def isort : List Str → List Str
  | [] => []
  | a :: r => ins a (isort r)
theorem ins_perm (a : Str) : ∀ l, (ins a l).Perm (a :: l)
  | [] => List.Perm.refl _
  | b :: r => by
    unfold ins
    split
    · exact List.Perm.refl _
    · exact ((ins_perm a r).cons b).trans (List.Perm.swap a b r)
theorem isort_perm : ∀ l, (isort l).Perm l
  | [] => List.Perm.refl _
  | a :: r => (ins_perm a (isort r)).trans ((isort_perm r).cons a)
theorem ins_srt {a : Str} : ∀ {l : List Str}, Srt l → a ∉ l → Srt (ins a l)
  | [], _, _ => List.pairwise_singleton _ _
  | b :: r, h, hn => by
    have hb := List.pairwise_cons.mp h
    unfold ins
    split
    · rename_i q
      refine List.pairwise_cons.mpr ⟨fun c hc => ?_, h⟩
      rcases List.mem_cons.mp hc with e | hc
      · rw [e]; exact q
      · exact q.trans (hb.1 c hc)
    · rename_i q
      refine List.pairwise_cons.mpr ⟨fun c hc => ?_, ins_srt hb.2 fun z => hn (List.mem_cons_of_mem _ z)⟩
      rcases List.mem_cons.mp ((ins_perm a r).subset hc) with e | hc
      · subst e
        have nb : ¬ c = b := fun e => hn (by rw [e]; exact List.mem_cons_self)
        unfold ltS
        cases z : ltCps (cp b) (cp c) with
        | true => rfl
        | false => exact absurd (cp_inj (lt_total _ _ (by cases y : ltCps (cp c) (cp b) with | false => rfl | true => exact absurd y q) z)) nb
      · exact hb.1 c hc
theorem isort_srt : ∀ {l : List Str}, l.Nodup → Srt (isort l)
  | [], _ => List.Pairwise.nil
  | a :: r, h => by
    have hn := List.nodup_cons.mp h
    exact ins_srt (isort_srt hn.2) fun z => hn.1 ((isort_perm r).subset z)
theorem rising_srt : ∀ {p : Str} {l : List Str}, risingS p l = true → (p :: l).Nodup → Srt (p :: l)
  | p, [], _, _ => List.pairwise_singleton _ _
  | p, x :: r, h, hn => by
    have e : ltCps (cp x) (cp p) = false ∧ risingS x r = true := by simpa [risingS] using h
    have n1 := List.nodup_cons.mp hn
    have ih := rising_srt e.2 n1.2
    have hx := List.pairwise_cons.mp ih
    have px : ltS p x := by
      unfold ltS
      cases z : ltCps (cp p) (cp x) with
      | true => rfl
      | false => exact absurd (cp_inj (lt_total _ _ z e.1)) fun q => n1.1 (by rw [q]; exact List.mem_cons_self)
    refine List.pairwise_cons.mpr ⟨fun c hc => ?_, ih⟩
    rcases List.mem_cons.mp hc with q | hc
    · rw [q]; exact px
    · exact px.trans (hx.1 c hc)
/-- what Python's sorted hands back of different texts -/
theorem sorted_isort {xs ys : List Str} (p : ys.Perm xs) (s : sortedS ys = true) (n : xs.Nodup) : ys = isort xs := by
  have ny : ys.Nodup := p.nodup_iff.mpr n
  have sy : Srt ys := by
    cases ys with
    | nil => exact List.Pairwise.nil
    | cons a r => exact rising_srt s ny
  exact srt_uniq sy (isort_srt n) (p.trans (isort_perm xs).symm)
theorem isort_of {xs l : List Str} (p : xs.Perm l) (s : Srt l) : isort xs = l := srt_uniq (isort_srt (p.nodup_iff.mpr s.nodup)) s ((isort_perm xs).trans p)
theorem isort_len (l : List Str) : (isort l).length = l.length := (isort_perm l).length_eq
theorem isort_mem {l : List Str} {z : Str} : z ∈ isort l ↔ z ∈ l := (isort_perm l).mem_iff
theorem isort_self {l : List Str} (s : Srt l) : isort l = l := isort_of (List.Perm.refl l) s
theorem isort_congr {l m : List Str} (p : l.Perm m) (n : m.Nodup) : isort l = isort m := isort_of (p.trans (isort_perm m).symm) (isort_srt n)
/-- a name -/
structure isNm (z : Str) : Prop where
  lo : 1 ≤ (cp z).length
  hi : (cp z).length ≤ 6
  ch : ∀ c ∈ cp z, 97 ≤ c ∧ c ≤ 122
theorem isNm.len {z : Str} (h : isNm z) : z.length ≤ 6 := by
  rw [len_cp]
  exact h.hi
/-- letters of the alphabet -/
def abc : Str := "abcdefghijklmnopqrstuvwxyz"
theorem abc_cp : cp abc = List.range' 97 26 := by decide +kernel
theorem mem_abc {c : Nat} : c ∈ cp abc ↔ 97 ≤ c ∧ c ≤ 122 := by
  rw [abc_cp, List.mem_range'_1]
  omega
end Fd
set_option Elab.async false
set_option linter.all false
set_option maxRecDepth 100000
set_option maxHeartbeats 4000000
/-! ### FdRead: named readings with their rules, and steps through them -/
namespace Fd
open PySem PySem.Spec PyProof.Rows L2 SX
/-! operators on ints -/
abbrev rAddI : R2 := rI0 fun i j => .int (i + j)
abbrev rSubI : R2 := rI0 fun i j => .int (i - j)
abbrev rMulI : R2 := rI CMul fun i j => .int (i * j)
abbrev rModI : R2 := rI (fun _ j => 0 < j) fun i j => .int (i % j)
abbrev rFdivI : R2 := rI CDiv fun i j => .int (i / j)
abbrev rPowI : R2 := rI CPow fun i j => .int (i ^ j.toNat)
abbrev rShlI : R2 := rI CPow fun i j => .int (i * 2 ^ j.toNat)
abbrev rShrI : R2 := rI (fun _ j => 0 ≤ j) fun i j => .int (i / 2 ^ j.toNat)
abbrev rAndI : R2 := rI0 fun i j => .int (Builtin.bitAnd i j)
abbrev rOrI : R2 := rI0 fun i j => .int (Builtin.bitOr i j)
abbrev rLtI : R2 := rI0 fun i j => .bl (decide (i < j))
abbrev rLeI : R2 := rI0 fun i j => .bl (decide (i ≤ j))
abbrev rGtI : R2 := rI0 fun i j => .bl (decide (j < i))
abbrev rGeI : R2 := rI0 fun i j => .bl (decide (j ≤ i))
abbrev rInvI : V → Hp → VK → Prop := rU fun i => .int (Builtin.bitNot i)
def rAddS : R2 := fun x y H Q => ∃ i j, x = .str i ∧ y = .str j ∧ i.length + j.length ≤ sizeLine ∧ Q (.str (i ++ j)) H
def rIsN : R2 := fun x y H Q => y = .non ∧ Q (.bl (decide (x = .non))) H
def rNotN : R2 := fun x y H Q => y = .non ∧ Q (.bl (!decide (x = .non))) H
def rInC : R2 := fun x y H Q => ∃ (c : Nat) (z : Str), x = .str ⟨#[c]⟩ ∧ y = .str z ∧ Q (.bl (decide (c ∈ z.cps.toList))) H
def rLenS : List V → Hp → VK → Prop := fun xs H Q => ∃ z, xs = [.str z] ∧ z.length ≤ sizeLine ∧ Q (.int z.length) H
def rLenQ (K : KF) : List V → Hp → VK → Prop := fun xs H Q => ∃ p ys, xs = [.ref p] ∧ (SqL K H p ys ∨ SqT K H p ys) ∧ Q (.int ys.length) H
def rLenA (K : KF) : List V → Hp → VK → Prop := fun xs H Q => ∃ x n, xs = [x] ∧ LenV K x H n ∧ Q (.int n) H
def rListQ (K : KF) : List V → Hp → VK → Prop := fun xs H Q => ∃ p ys, xs = [.ref p] ∧ (SqL K H p ys ∨ SqT K H p ys) ∧ ∀ l, H l = none → Q (.ref l) (upd H l (.lst ys))
def rTupQ (K : KF) : List V → Hp → VK → Prop := fun xs H Q => ∃ p ys, xs = [.ref p] ∧ ((SqL K H p ys ∧ ∀ l, H l = none → Q (.ref l) (upd H l (.tup ys))) ∨ (SqT K H p ys ∧ Q (.ref p) H))
def rIntQ : List V → Hp → VK → Prop := fun xs H Q => (∃ i, xs = [.int i] ∧ Q (.int i) H) ∨ ∃ k, xs = [.bl k] ∧ Q (.int (if k then 1 else 0)) H
def rDivm : List V → Hp → VK → Prop := fun xs H Q => ∃ i j, xs = [.int i, .int j] ∧ CDiv i j ∧ ∀ p, H p = none → Q (.ref p) (upd H p (.tup [.int (i / j), .int (i % j)]))
def rSplit : V → List V → Hp → VK → Prop := fun x xs H Q => ∃ a b, x = .str a ∧ xs = [.str b] ∧ (b.length == 0) = false ∧ a.length + 2 ≤ sizeLine ∧ rNewStrs (Txt.split a b) H Q
def rJoin (K : KF) : V → List V → Hp → VK → Prop := fun x xs H Q => ∃ a p, ∃ ys : List Str, x = .str a ∧ xs = [.ref p] ∧ (SqL K H p (ys.map V.str) ∨ SqT K H p (ys.map V.str)) ∧ (ys.map (·.length)).sum + ys.length * a.length ≤ 16777216 ∧ Q (.str (Txt.join a ys)) H
def rInsert : V → List V → Hp → VK → Prop := fun x vs H Q => ∃ (l : Addr) (xs : List V) (i : Int) (y : V), x = .ref l ∧ vs = [.int i, y] ∧ H l = some (.lst xs) ∧ xs.length < sizeLine ∧ 0 ≤ i ∧ i < 2 ^ 63 ∧ Q .non (upd H l (.lst (xs.take i.toNat ++ [y] ++ xs.drop i.toNat)))
def rTIndex (K : KF) : V → List V → Hp → VK → Prop := fun x xs H Q => ∃ p, ∃ ys : List Str, ∃ z j, x = .ref p ∧ xs = [.str z] ∧ SqT K H p (ys.map V.str) ∧ ys[j]? = some z ∧ (∀ m, m < j → ys[m]? ≠ some z) ∧ Q (.int (j : Nat)) H
def tJoined (ts : List TE) : TE := fun σ H Q => tJs ts Str.empty σ H fun out H1 => Q (.str out) H1
section
variable {X : Cx} {a b e o i : Expr} {es : List Expr} {ta tb te to ty td : TE} {t : TA} {p pos apos cpos : Pos}
theorem o_addS : OpR X (binaryOp .Add) rAddS := op_add_str
theorem o_isN : OpR X (compareOp .Is) rIsN := op_isN
theorem o_notN : OpR X (compareOp .IsNot) rNotN := op_notN
theorem o_inC : OpR X (compareOp .In) rInC := op_in_sign
/-- a built-in function, class by its name -/
theorem bf {x : Str} {id : String} {r : List V → Hp → VK → Prop} (hc : CallR X (.builtin id) r) (hm : X.mg x = none) (ha : PA X (e :: es) t) (hv : bootBuiltins x = some (.builtin id) := by decide +kernel) (hg : Gl X x := by rfl)
    (hn : x ≠ "__name__" := by decide) (hdb : (x == ("__debug__" : Str)) = false := by decide) (he : starEach (e :: es) X.env = (false, eval e X.env) :: starEach es X.env := by rfl) (hpl : (backTo pos (starEach es X.env)).any (·.1) = false := by rfl) :
    PE X (.Call (.Name x p) (e :: es) [] pos) (tCB r t) := pe_callB hc hg hm hv ha (hn := hn) (hdb := hdb) (he := he) (hpl := hpl)
theorem bt {x : Str} {T : String} {r : List V → Hp → VK → Prop} (hc : CallR X (.type T) r) (hm : X.mg x = none) (ha : PA X (e :: es) t) (hv : bootBuiltins x = some (.type T) := by decide +kernel) (hg : Gl X x := by rfl)
    (hn : x ≠ "__name__" := by decide) (hdb : (x == ("__debug__" : Str)) = false := by decide) (he : starEach (e :: es) X.env = (false, eval e X.env) :: starEach es X.env := by rfl) (hpl : (backTo pos (starEach es X.env)).any (·.1) = false := by rfl) :
    PE X (.Call (.Name x p) (e :: es) [] pos) (tCB r t) := pe_callTy hc hg hm hv ha (hn := hn) (hdb := hdb) (he := he) (hpl := hpl)
theorem c_lenS : CallR X (.builtin "len") rLenS := call_len_str
theorem c_lenQ : CallR X (.builtin "len") (rLenQ X.K) := call_len_seq
theorem c_lenA : CallR X (.builtin "len") (rLenA X.K) := call_len
theorem c_listQ : CallR X (.type "list") (rListQ X.K) := call_list_of
theorem c_tupQ : CallR X (.type "tuple") (rTupQ X.K) := call_tuple_of
theorem c_intQ : CallR X (.type "int") rIntQ := call_int1
theorem c_divm : CallR X (.builtin "divmod") rDivm := call_divmod
/-- the name of a built-in type, as a value -/
theorem bty {x : Str} {T : String} (hm : X.mg x = none) (hv : bootBuiltins x = some (.type T) := by decide +kernel) (hg : Gl X x := by rfl) (hn : x ≠ "__name__" := by decide) (hdb : (x == ("__debug__" : Str)) = false := by decide) : PE X (.Name x pos) (tC (.ty T)) :=
  pe_bltn hg hm hv rfl (hn := hn) (hd := hdb)
theorem p_split (ho : PE X o to) (he : PE X e te) (hs : starEach [e] X.env = [(false, eval e X.env)] := by rfl) (hbase : attributeBase o "split" X.env (eval o X.env) = eval o X.env := by rfl) (hline : (apos.endLine == pos.line) = true := by rfl) :
    PE X (.Call (.Attribute o "split" apos) [e] [] pos) (tM1 rSplit to te) := pe_split ho he hs hbase hline
theorem p_join (ho : PE X o to) (he : PE X e te) (hs : starEach [e] X.env = [(false, eval e X.env)] := by rfl) (hbase : attributeBase o "join" X.env (eval o X.env) = eval o X.env := by rfl) (hline : (apos.endLine == pos.line) = true := by rfl) :
    PE X (.Call (.Attribute o "join" apos) [e] [] pos) (tM1 (rJoin X.K) to te) := pe_join ho he hs hbase hline
theorem p_joined {v1 v2 : Expr} {rest : List Expr} {ts : List TE} (h : PJ X (v1 :: v2 :: rest) ts) : PE X (.JoinedStr (v1 :: v2 :: rest) pos) (tJoined ts) := pe_joined h
theorem m_insert : MtR X "list.insert" rInsert := mt_insert
theorem m_tindex : MtR X "tuple.index" (rTIndex X.K) := mt_tup_index
end
end Fd
set_option Elab.async false
set_option linter.all false
set_option maxRecDepth 100000
set_option maxHeartbeats 4000000
/-! ### FdRules6: a tuple whose object is known, its index -/
namespace Fd
open PySem PySem.Spec PyProof.Rows L2 SX
/-- the tuple xs at a, its object plain -/
def TupZ (H : Hp) (a : Addr) (xs : List V) : Prop := ∃ o : Obj, o.dict = none ∧ H a = some (.frz o (.tup xs))
theorem TupZ.sq {K : KF} {H : Hp} {a : Addr} {xs : List V} (h : TupZ H a xs) : SqT K H a xs := by
  obtain ⟨o, _, e⟩ := h
  exact .inl (.inr ⟨o, e⟩)
def rTupZ (K : KF) : List V → Hp → VK → Prop := fun xs H Q => ∃ p ys, xs = [.ref p] ∧ SqL K H p ys ∧ ∀ l (o : Obj), o.dict = none → H l = none → Q (.ref l) (upd H l (.frz o (.tup ys)))
theorem c_tupZ {X : Cx} : CallR X (.type "tuple") (rTupZ X.K) := by
  intro pins s σ H xs us Q I r h
  obtain ⟨p, ys, rfl, hq, q⟩ := h
  obtain ⟨u, rfl, rx⟩ := vals1 r
  cases rx
  obtain ⟨its, r', pl, hz⟩ := I.list hq
  have hlen := r'.length
  refine call_tuple_list pl.isList (fun h' kp => ?_) (by simp only [List.size_toArray] <;> omega)
  have I1 : Inv X pins σ H { s with heap := h' } := I.kept (t' := s.toks) kp
  have I2 : Inv X pins σ (upd H h'.objs.size (.frz { cls := .type "tuple", data := .seq its.toArray } (.tup ys))) { s with heap := h'.push { cls := .type "tuple", data := .seq its.toArray } } :=
    I1.laid (t' := s.toks) (fun b o e => Heap.get?_push_of_some _ e) (Nat.le_refl _) (show ObjOk X.prog X.w _ _ _ (.frz _ (.tup ys)) from ⟨Heap.get?_push_size _ rfl, hz, its, r', IsTup.new _ _⟩)
  exact ⟨.ref h'.objs.size, _, I2, rfl, q _ _ rfl (I1.hok.fresh (Nat.le_refl _))⟩
/-- t.index(x), t such a tuple -/
def tTIx (K : KF) (to : TE) (t : TA) : TE := fun σ H Q => to σ H fun x H1 => (∃ p ys, x = .ref p ∧ TupZ H1 p ys) ∧ t σ H1 fun xs H2 => rTIndex K x xs H2 Q
theorem pe_tindex {X : Cx} {o e : Expr} {to : TE} {t : TA} {apos cpos : Pos} (ho : PE X o to) (ha : PA X [e] t)
    (hbase : attributeBase o "index" X.env (eval o X.env) = eval o X.env := by rfl)
    (hfew : ((backTo cpos (starEach [e] X.env)).all (fun x => !x.1) && (backToKw cpos (keywordEach [] X.env)).all (fun x => x.1.isSome)
      && decide ([e].length + ([] : List Keyword).length + (if ([] : List Keyword).isEmpty then 0 else 1) < 30)) = true := by rfl)
    (hline : (apos.endLine == cpos.line) = true := by rfl) (hs : starEach [e] X.env = (false, eval e X.env) :: starEach [] X.env := by rfl) (hplain : (backTo cpos (starEach [] X.env)).any (·.1) = false := by rfl) :
    PE X (.Call (.Attribute o "index" apos) [e] [] cpos) (tTIx X.K to t) := by
  refine ⟨fun pins s σ H Q I h => ?_⟩
  refine wpAny_Call_method_late hbase hfew hline rfl (thn (ho.run pins s σ H _ I h) fun v s1 ⟨x, H1, I1, r1, ty, q1⟩ => ?_)
  obtain ⟨p, ys, rfl, ob, hd, hp⟩ := ty
  cases r1
  obtain ⟨hg, _, its, _, ⟨o2, ho2, hc2, _⟩⟩ := I1.hok p _ hp
  refine ⟨"tuple", "tuple.index", PySem.F.plainAttrs_tuple, PySem.F.slot_tuple_index, PySem.F.type_tuple_index, ⟨o2, ho2, hc2⟩, fun a e => ?_, ?_⟩
  · cases e
    exact ⟨ob, hg, hd⟩
  have hA := ha.run cpos pins s1 σ H1 _ I1 q1
  rw [hs] at hA ⊢
  refine Calls.callWith_builtin (by show (false || (backTo cpos (starEach [] X.env)).any (·.1)) = false; rw [hplain] <;> rfl) (Calls.evalArgs_plain ?_)
  exact thn hA fun us s2 ⟨vs, H2, I2, r2, q2⟩ => m_tindex pins s2 σ H2 (.ref p) vs (.ref p) us Q I2 rfl r2 q2
end Fd
set_option Elab.async false
set_option linter.all false
set_option maxRecDepth 100000
set_option maxHeartbeats 4000000
/-! ### FdSp: the data, the plain functions, the promises -/
namespace Fd
open PySem PySem.Spec PyProof.Rows L2 SX
/-! lists of things -/
def All2 {α β : Type} (P : α → β → Prop) : List α → List β → Prop
  | [], [] => True
  | a :: l, b :: m => P a b ∧ All2 P l m
  | _, _ => False
section
variable {α β : Type} {P R : α → β → Prop}
theorem All2.mono (h : ∀ a b, P a b → R a b) : ∀ {l : List α} {m : List β}, All2 P l m → All2 R l m
  | [], [], _ => trivial
  | [], _ :: _, q => q
  | _ :: _, [], q => q
  | _ :: _, _ :: _, q => ⟨h _ _ q.1, All2.mono h q.2⟩
theorem All2.len : ∀ {l : List α} {m : List β}, All2 P l m → l.length = m.length
  | [], [], _ => rfl
  | [], _ :: _, q => q.elim
  | _ :: _, [], q => q.elim
  | _ :: _, _ :: _, q => congrArg (· + 1) (All2.len q.2)
theorem All2.app : ∀ {l l' : List α} {m m' : List β}, All2 P l m → All2 P l' m' → All2 P (l ++ l') (m ++ m')
  | [], _, [], _, _, q => q
  | [], _, _ :: _, _, q, _ => q.elim
  | _ :: _, _, [], _, q, _ => q.elim
  | _ :: _, _, _ :: _, _, q, r => ⟨q.1, All2.app q.2 r⟩
theorem All2.snoc {l : List α} {m : List β} {a : α} {b : β} (h : All2 P l m) (q : P a b) : All2 P (l ++ [a]) (m ++ [b]) := h.app ⟨q, trivial⟩
theorem All2.get : ∀ {l : List α} {m : List β} {i : Nat} {a : α}, All2 P l m → l[i]? = some a → ∃ b, m[i]? = some b ∧ P a b
  | [], [], _, _, _, e => by simp at e
  | [], _ :: _, _, _, q, _ => q.elim
  | _ :: _, [], _, _, q, _ => q.elim
  | x :: _, y :: _, 0, a, q, e => by
    have e2 : x = a := by simpa using e
    subst e2
    exact ⟨y, rfl, q.1⟩
  | _ :: l, _ :: m, i + 1, a, q, e => by
    have e2 : l[i]? = some a := by simpa using e
    obtain ⟨b, h1, h2⟩ := q.2.get e2
    exact ⟨b, by simpa using h1, h2⟩
theorem All2.get' : ∀ {l : List α} {m : List β} {i : Nat} {b : β}, All2 P l m → m[i]? = some b → ∃ a, l[i]? = some a ∧ P a b
  | [], [], _, _, _, e => by simp at e
  | [], _ :: _, _, _, q, _ => q.elim
  | _ :: _, [], _, _, q, _ => q.elim
  | x :: _, y :: _, 0, b, q, e => by
    have e2 : y = b := by simpa using e
    subst e2
    exact ⟨x, rfl, q.1⟩
  | _ :: l, _ :: m, i + 1, b, q, e => by
    have e2 : m[i]? = some b := by simpa using e
    obtain ⟨a, h1, h2⟩ := q.2.get' e2
    exact ⟨a, by simpa using h1, h2⟩
theorem All2.of_get : ∀ {l : List α} {m : List β}, l.length = m.length → (∀ (i : Nat) (a : α) (b : β), l[i]? = some a → m[i]? = some b → P a b) → All2 P l m
  | [], [], _, _ => trivial
  | [], _ :: _, e, _ => by simp at e
  | _ :: _, [], e, _ => by simp at e
  | x :: l, y :: m, e, h => ⟨h 0 x y rfl rfl, All2.of_get (by simpa using e) fun i a b h1 h2 => h (i + 1) a b (by simpa using h1) (by simpa using h2)⟩
theorem All2.perm {l l' : List α} {m : List β} (h : All2 P l m) (p : l'.Perm l) : ∃ m', m'.Perm m ∧ All2 P l' m' := by
  induction p generalizing m with
  | nil => exact ⟨m, .refl _, h⟩
  | @cons x l1 l2 _ ih =>
    match m, h with
    | y :: m, h =>
      obtain ⟨m', p', h'⟩ := ih h.2
      exact ⟨y :: m', p'.cons y, h.1, h'⟩
  | swap x y l =>
    match m, h with
    | b :: c :: m, h => exact ⟨c :: b :: m, .swap b c m, h.2.1, h.1, h.2.2⟩
  | trans _ _ ih1 ih2 =>
    obtain ⟨m1, p1, h1⟩ := ih2 h
    obtain ⟨m2, p2, h2⟩ := ih1 h1
    exact ⟨m2, p2.trans p1, h2⟩
end
/-! heaps: all but lists (and tables) is kept; all but one thing is kept -/
def KeepT (H H' : Hp) : Prop := ∀ a o, H a = some o → (∀ xs, o ≠ .lst xs) → (∀ ps, o ≠ .tbl ps) → H' a = some o
/-- all but what looks like a bag and tables -/
def KeepN (H H' : Hp) : Prop := ∀ a o, H a = some o → Hard o → (∀ ps, o ≠ .tbl ps) → H' a = some o
def Butx (x : Addr) (H H' : Hp) : Prop := ∀ a o, H a = some o → a ≠ x → H' a = some o
theorem KeepT.refl (H : Hp) : KeepT H H := fun _ _ h _ _ => h
theorem KeepT.trans {H H1 H2 : Hp} (a : KeepT H H1) (b : KeepT H1 H2) : KeepT H H2 := fun x o h n m => b x o (a x o h n m) n m
theorem KeepN.refl (H : Hp) : KeepN H H := fun _ _ h _ _ => h
theorem KeepN.trans {H H1 H2 : Hp} (a : KeepN H H1) (b : KeepN H1 H2) : KeepN H H2 := fun x o h n m => b x o (a x o h n m) n m
theorem Keep.n {H H' : Hp} (e : Keep H H') : KeepN H H' := fun x o h n _ => e x o h n
theorem KeepN.t {H H' : Hp} (e : KeepN H H') : KeepT H H' := fun x o h n m => e x o h (fun h a b c d z => n _ z) m
theorem Keep.t {H H' : Hp} (e : Keep H H') : KeepT H H' := e.n.t
theorem Same.t {H H' : Hp} (e : Same H H') : KeepT H H' := fun x o h _ _ => e x o h
theorem Same.k {H H' : Hp} (e : Same H H') : Keep H H' := fun x o h _ => e x o h
theorem KeepT.upd {H H1 : Hp} {p : Addr} {o : HO} (h : H p = none) (e : KeepT H H1) : KeepT H (L2.upd H1 p o) := fun a u x n m => by
  rw [upd_ne (ne_of_none x h)]
  exact e a u x n m
/-- a list is written -/
theorem KeepT.mut {H H1 : Hp} {p : Addr} {o : HO} {xs : List V} (h : H1 p = some (.lst xs)) (e : KeepT H H1) : KeepT H (L2.upd H1 p o) := fun a u x n m => by
  have y := e a u x n m
  rw [upd_ne (fun z => by rw [z, h] at y; exact n _ (Option.some.inj y).symm)]
  exact y
/-! the plain functions -/
abbrev Rec : Type := Str × List Str × List Str
abbrev Pr : Type := Nat × Nat
def rowNamed (pro con : List Str) : List Str := isort (pro ++ con)
def wordOf (pro : List Str) (z : Str) : Str := z ++ (if z ∈ pro then ("+" : Str) else "-")
def rowText (pro con : List Str) : Str := if rowNamed pro con = [] then "even" else Txt.join " " ((rowNamed pro con).map (wordOf pro))
def lineOf (c : Rec) : Str := ("row " : Str) ++ c.1 ++ " " ++ rowText c.2.1 c.2.2
def headOf (xs : List Str) : Str := ("reasons " : Str) ++ Txt.join " " xs
def bookLines (xs : List Str) (recs : List Rec) : List Str := headOf xs :: recs.map lineOf
def catS : List Str → Str
  | [] => Str.empty
  | x :: l => x ++ catS l
def bookText (xs : List Str) (recs : List Rec) : Str := catS ((bookLines xs recs).map (· ++ "\n"))
def decL (xs pro con : List Str) : Option Str := xs.find? fun z => decide (z ∈ pro ++ con)
def bearsL (xs pro con : List Str) : Bool := match decL xs pro con with
  | none => true
  | some z => decide (z ∈ pro)
def vOpt : Option Str → V
  | none => .non
  | some z => .str z
/-- marks in the order of nth_mark -/
def letsL : List Str := (List.range' 97 26).map fun c => S [c]
def allMarks : List Str := letsL ++ letsL.flatMap fun x => letsL.map fun y => x ++ y
def freshM (old : List Str) (n : Nat) : List Str := (allMarks.filter fun z => decide (z ∉ old)).take n
/-- masks -/
def idxOfS (xs : List Str) (z : Str) : Nat := xs.findIdx fun y => decide (y = z)
def maskL (xs ys : List Str) : Nat := ys.foldl (fun m y => m ||| 2 ^ idxOfS xs y) 0
def rowPr (xs : List Str) (c : Rec) : Pr := (maskL xs c.2.1, maskL xs c.2.2)
def blockedL (ps : List Pr) (t : Nat) : Nat := ps.foldl (fun b p => if p.1 &&& t = 0 then b ||| p.2 else b) 0
/-- room & ~taken & ~blocked, told by bits -/
def minusN (a b : Nat) : Nat := a - (a &&& b)
def comingL (ps : List Pr) (t room : Nat) : Nat := minusN (minusN room t) (blockedL ps t)
/-- the greatest within, by turns -/
def growL (ps : List Pr) (room : Nat) : Nat → Nat → Nat
  | 0, t => t
  | n + 1, t => if comingL ps t room = 0 then t else growL ps room n (t ||| comingL ps t room)
def standsL (xs : List Str) (recs : List Rec) : Bool := decide (growL (recs.map (rowPr xs)) (2 ^ xs.length - 1) (2 ^ xs.length) 0 = 2 ^ xs.length - 1)
def unborneL (recs : List Rec) (xs : List Str) : List Str := (recs.filter fun c => !bearsL xs c.2.1 c.2.2).map (·.1)
/-- the law's own -/
def bitN (m k : Nat) : Bool := m.testBit k
def grp (ns : List Str) (m : Nat) : List Str := ((List.range ns.length).filter (bitN m)).map fun k => ns.getD k Str.empty
def leadsP : List Nat → Pr → Bool
  | [], _ => true
  | k :: l, p => if bitN p.1 k then true else if bitN p.2 k then false else leadsP l p
def flipP (p : Pr) : Pr := (p.2, p.1)
def recOf (ns : List Str) (m : Str) (p : Pr) : Rec := (m, grp ns p.1, grp ns p.2)
def recsOf (ns : List Str) (ms : List Str) (ps : List Pr) : List Rec := (ms.zip ps).map fun q => recOf ns q.1 q.2
def lineNames (ns : List Str) (l : List Nat) : List Str := l.map fun k => ns.getD k Str.empty
def growLine (n : Nat) (l : List Nat) : List (List Nat) := ((List.range n).filter fun k => decide (k ∉ l)).map fun k => l ++ [k]
def triesL (n : Nat) : Nat → List (List Nat)
  | 0 => [[]]
  | t + 1 => (triesL n t).flatMap (growLine n)
def fittingL (ls : List (List Nat)) (ps : List Pr) : List (List Nat) := ls.filter fun l => ps.all fun p => leadsP l p
/-! words of validity -/
structure NmL (xs : List Str) : Prop where
  nm : ∀ z ∈ xs, isNm z
  nd : xs.Nodup
structure RowV (pro con : List Str) : Prop where
  nm : ∀ z ∈ pro ++ con, isNm z
  nd : (pro ++ con).Nodup
  sp : Srt pro
  sc : Srt con
  le : (pro ++ con).length ≤ 7
structure BookV (xs : List Str) (recs : List Rec) : Prop where
  nx : NmL xs
  sx : Srt xs
  lo : 1 ≤ xs.length
  hi : xs.length ≤ 7
  rv : ∀ c ∈ recs, RowV c.2.1 c.2.2
  sub : ∀ c ∈ recs, ∀ z ∈ c.2.1 ++ c.2.2, z ∈ xs
  mks : ∀ c ∈ recs, isNm c.1
  nd : (recs.map (·.1)).Nodup
  le : recs.length ≤ 100
/-- a pair of masks over n names -/
structure PrV (n : Nat) (p : Pr) : Prop where
  l1 : p.1 < 2 ^ n
  l2 : p.2 < 2 ^ n
  dj : p.1 &&& p.2 = 0
/-! the data -/
structure Ax where
  K : KF
  R : Addr
  O : Addr
  B : Addr
  X : Addr
  t1 : Addr
  t2 : Addr
  tb : List (Addr × Str)
abbrev LS (H : Hp) (l : Addr) (xs : List Str) : Prop := H l = some (.lst (xs.map V.str))
abbrev LI (H : Hp) (l : Addr) (xs : List Nat) : Prop := H l = some (.lst (xs.map fun k => V.int (k : Nat)))
def ObjL {α : Type} (P : Addr → α → Prop) (H : Hp) (l : Addr) (xs : List α) : Prop := ∃ ts : List Addr, H l = some (.lst (ts.map V.ref)) ∧ All2 P ts xs
def PrAt (H : Hp) (t : Addr) (p : Pr) : Prop := H t = some (.tup [.int (p.1 : Nat), .int (p.2 : Nat)])
abbrev PrL (H : Hp) (l : Addr) (ps : List Pr) : Prop := ObjL (PrAt H) H l ps
def RowAt (a : Ax) (H : Hp) (r : Addr) (pro con : List Str) : Prop := ∃ dx tp tc tn, H r = some (.ins a.R dx [("pro", .ref tp), ("con", .ref tc), ("named", .ref tn)]) ∧
  H tp = some (.tup (pro.map V.str)) ∧ H tc = some (.tup (con.map V.str)) ∧ H tn = some (.tup ((rowNamed pro con).map V.str)) ∧ RowV pro con
def RecAt (a : Ax) (H : Hp) (t : Addr) (c : Rec) : Prop := ∃ r, H t = some (.tup [.str c.1, .ref r]) ∧ RowAt a H r c.2.1 c.2.2
abbrev RecL (a : Ax) (H : Hp) (l : Addr) (cs : List Rec) : Prop := ObjL (RecAt a H) H l cs
abbrev RowL (a : Ax) (H : Hp) (l : Addr) (cs : List (List Str × List Str)) : Prop := ObjL (fun r c => RowAt a H r c.1 c.2) H l cs
def OrdAt (a : Ax) (H : Hp) (o : Addr) (xs : List Str) : Prop := ∃ (dx l d t : Addr) (kvs : List (Key × V)), H o = some (.ins a.O dx [("ranked", .ref l), ("spots", .ref d), ("reasons", .ref t)]) ∧
  LS H l xs ∧ H d = some (.dK kvs) ∧ kvs.map (·.1) = xs.map Sum.inr ∧ H t = some (.tup ((isort xs).map V.str)) ∧ NmL xs ∧ xs.length ≤ 7
def DictB (rs : List Addr) (recs : List Rec) : List (Key × V) := (rs.zip recs).map fun q => (Sum.inr q.2.1, .ref q.1)
def BookAt (a : Ax) (H : Hp) (b : Addr) (xs : List Str) (recs : List Rec) : Prop := ∃ (dx t d : Addr) (rs : List Addr), H b = some (.ins a.B dx [("reasons", .ref t), ("by_mark", .ref d)]) ∧
  TupZ H t (xs.map V.str) ∧ H d = some (.dK (DictB rs recs)) ∧ All2 (fun r c => RowAt a H r c.2.1 c.2.2) rs recs ∧ BookV xs recs
/-- lists of lines (tuples of places) -/
def LnAt (H : Hp) (t : Addr) (l : List Nat) : Prop := H t = some (.tup (l.map fun k => V.int (k : Nat)))
/-! what is kept -/
theorem PrAt.t {H H' : Hp} {t : Addr} {p : Pr} (h : PrAt H t p) (e : KeepT H H') : PrAt H' t p := e _ _ h (fun _ z => nomatch z) (fun _ z => nomatch z)
theorem LnAt.t {H H' : Hp} {t : Addr} {l : List Nat} (h : LnAt H t l) (e : KeepT H H') : LnAt H' t l := e _ _ h (fun _ z => nomatch z) (fun _ z => nomatch z)
theorem tupT {H H' : Hp} {t : Addr} {xs : List V} (h : H t = some (.tup xs)) (e : KeepT H H') : H' t = some (.tup xs) := e _ _ h (fun _ z => nomatch z) (fun _ z => nomatch z)
theorem insT {H H' : Hp} {t C dx : Addr} {fs : List (Str × V)} (h : H t = some (.ins C dx fs)) (e : KeepT H H') : H' t = some (.ins C dx fs) := e _ _ h (fun _ z => nomatch z) (fun _ z => nomatch z)
theorem dkT {H H' : Hp} {t : Addr} {kvs : List (Key × V)} (h : H t = some (.dK kvs)) (e : KeepT H H') : H' t = some (.dK kvs) := e _ _ h (fun _ z => nomatch z) (fun _ z => nomatch z)
theorem TupZ.t {H H' : Hp} {t : Addr} {xs : List V} (h : TupZ H t xs) (e : KeepT H H') : TupZ H' t xs := by
  obtain ⟨o, h1, h2⟩ := h
  exact ⟨o, h1, e _ _ h2 (fun _ z => nomatch z) (fun _ z => nomatch z)⟩
theorem RowAt.t {a : Ax} {H H' : Hp} {r : Addr} {pro con : List Str} (h : RowAt a H r pro con) (e : KeepT H H') : RowAt a H' r pro con := by
  obtain ⟨dx, tp, tc, tn, h1, h2, h3, h4, h5⟩ := h
  exact ⟨dx, tp, tc, tn, insT h1 e, tupT h2 e, tupT h3 e, tupT h4 e, h5⟩
theorem RecAt.t {a : Ax} {H H' : Hp} {t : Addr} {c : Rec} (h : RecAt a H t c) (e : KeepT H H') : RecAt a H' t c := by
  obtain ⟨r, h1, h2⟩ := h
  exact ⟨r, tupT h1 e, h2.t e⟩
theorem BookAt.t {a : Ax} {H H' : Hp} {b : Addr} {xs : List Str} {recs : List Rec} (h : BookAt a H b xs recs) (e : KeepT H H') : BookAt a H' b xs recs := by
  obtain ⟨dx, t, d, rs, h1, h2, h3, h4, h5⟩ := h
  exact ⟨dx, t, d, rs, insT h1 e, h2.t e, dkT h3 e, h4.mono fun _ _ q => q.t e, h5⟩
theorem LS.n {H H' : Hp} {l : Addr} {xs : List Str} (h : LS H l xs) (e : KeepN H H') : LS H' l xs := e _ _ h (hard_strs xs) (fun _ z => nomatch z)
theorem hard_nats (xs : List Nat) : Hard (.lst (xs.map fun k => V.int (k : Nat))) := fun h a b c d z => by
  cases xs <;> cases z
theorem LI.n {H H' : Hp} {l : Addr} {xs : List Nat} (h : LI H l xs) (e : KeepN H H') : LI H' l xs := e _ _ h (hard_nats xs) (fun _ z => nomatch z)
theorem ObjL.n {α : Type} {P P' : Addr → α → Prop} {H H' : Hp} {l : Addr} {xs : List α} (h : ObjL P H l xs) (e : KeepN H H') (k : ∀ t x, P t x → P' t x) : ObjL P' H' l xs := by
  obtain ⟨ts, h1, h2⟩ := h
  exact ⟨ts, e _ _ h1 (hard_refs ts) (fun _ z => nomatch z), h2.mono k⟩
theorem PrL.n {H H' : Hp} {l : Addr} {ps : List Pr} (h : PrL H l ps) (e : KeepN H H') : PrL H' l ps := ObjL.n h e fun _ _ q => q.t e.t
theorem RecL.n {a : Ax} {H H' : Hp} {l : Addr} {ps : List Rec} (h : RecL a H l ps) (e : KeepN H H') : RecL a H' l ps := ObjL.n h e fun _ _ q => q.t e.t
theorem RowL.n {a : Ax} {H H' : Hp} {l : Addr} {ps : List (List Str × List Str)} (h : RowL a H l ps) (e : KeepN H H') : RowL a H' l ps := ObjL.n h e fun _ _ q => RowAt.t q e.t
theorem OrdAt.n {a : Ax} {H H' : Hp} {o : Addr} {xs : List Str} (h : OrdAt a H o xs) (e : KeepN H H') : OrdAt a H' o xs := by
  obtain ⟨dx, l, d, t, kvs, h1, h2, h3, h4, h5, h6⟩ := h
  exact ⟨dx, l, d, t, kvs, insT h1 e.t, LS.n h2 e, dkT h3 e.t, h4, tupT h5 e.t, h6⟩
theorem LS.sq {K : KF} {H : Hp} {l : Addr} {xs : List Str} (h : LS H l xs) : SqL K H l (xs.map V.str) := .inl (.inl h)
theorem sqt {K : KF} {H : Hp} {l : Addr} {xs : List V} (h : H l = some (.tup xs)) : SqT K H l xs := .inl (.inl h)
theorem sql {K : KF} {H : Hp} {l : Addr} {xs : List V} (h : H l = some (.lst xs)) : SqL K H l xs := .inl (.inl h)
/-- a list or tuple -/
abbrev Sq (K : KF) (H : Hp) (p : Addr) (xs : List V) : Prop := SqL K H p xs ∨ SqT K H p xs
/-! the promises -/
/-- letters, so many -/
structure isSp (z : Str) (n : Nat) : Prop where
  lo : 1 ≤ (cp z).length
  hi : (cp z).length ≤ n
  ch : ∀ c ∈ cp z, 97 ≤ c ∧ c ≤ 122
def sp_is_spelled (a : Ax) : Sp := fun vs H Q _ => ∃ (z : Str) (n : Nat), vs = [.str z, .int (n : Nat)] ∧ isSp z n ∧ n ≤ 100 ∧ ∀ H', Same H H' → Q (.bl true) H'
def sp_is_name (a : Ax) : Sp := fun vs H Q _ => ∃ z, vs = [.str z] ∧ isNm z ∧ ∀ H', Same H H' → Q (.bl true) H'
def sp_is_names (a : Ax) : Sp := fun vs H Q _ => ∃ p, ∃ xs : List Str, vs = [.ref p] ∧ Sq a.K H p (xs.map V.str) ∧ NmL xs ∧ xs.length ≤ 50 ∧ ∀ H', Same H H' → Q (.bl true) H'
def sp_is_group (a : Ax) : Sp := fun vs H Q _ => ∃ p, ∃ xs : List Str, vs = [.ref p] ∧ SqT a.K H p (xs.map V.str) ∧ NmL xs ∧ Srt xs ∧ xs.length ≤ 50 ∧ ∀ H', Same H H' → Q (.bl true) H'
def sp_nth_mark (a : Ax) : Sp := fun vs H Q _ => ∃ (i : Nat) (z : Str), vs = [.int (i : Nat)] ∧ allMarks[i]? = some z ∧ ∀ H', Same H H' → Q (.str z) H'
def sp_row_init (a : Ax) : Sp := fun vs H Q _ => ∃ x dx p c, ∃ pro con : List Str, vs = [.ref x, .ref p, .ref c] ∧ H x = some (.ins a.R dx []) ∧ Sq a.K H p (pro.map V.str) ∧ Sq a.K H c (con.map V.str) ∧
  (∀ z ∈ pro ++ con, isNm z) ∧ (pro ++ con).Nodup ∧ (pro ++ con).length ≤ 7 ∧ ∀ H', Butx x H H' → RowAt a H' x (isort pro) (isort con) → Q .non H'
/-- Row(): the defaults stand for what is not written -/
def spRow (a : Ax) : Sp := fun vs H Q E => sp_row_init a vs H Q E ∨ ∃ x, vs = [x] ∧ sp_row_init a [x, .ref a.t1, .ref a.t2] H Q E
def sp_row_sign (a : Ax) : Sp := fun vs H Q _ => ∃ r z, ∃ pro con : List Str, vs = [.ref r, .str z] ∧ RowAt a H r pro con ∧ z ∈ pro ++ con ∧ ∀ H', Same H H' → Q (.str (if z ∈ pro then ("+" : Str) else "-")) H'
def sp_row_text (a : Ax) : Sp := fun vs H Q _ => ∃ r pro con, vs = [.ref r] ∧ RowAt a H r pro con ∧ ∀ H', Same H H' → Q (.str (rowText pro con)) H'
def sp_row_read (a : Ax) : Sp := fun vs H Q _ => ∃ pro con, vs = [.str (rowText pro con)] ∧ RowV pro con ∧ ∀ r H', Same H H' → H r = none → RowAt a H' r pro con → Q (.ref r) H'
def sp_row_neg (a : Ax) : Sp := fun vs H Q _ => ∃ r pro con, vs = [.ref r] ∧ RowAt a H r pro con ∧ ∀ r' H', Same H H' → H r' = none → RowAt a H' r' con pro → Q (.ref r') H'
def sp_row_contains (a : Ax) : Sp := fun vs H Q _ => ∃ r z, ∃ pro con : List Str, vs = [.ref r, .str z] ∧ RowAt a H r pro con ∧ isNm z ∧ ∀ H', Same H H' → Q (.bl (decide (z ∈ pro ++ con))) H'
/-- Order.__init__, its names as one tuple -/
def sp_order_init (a : Ax) : Sp := fun vs H Q _ => ∃ x dx t, ∃ xs : List Str, vs = [.ref x, .ref t] ∧ H x = some (.ins a.O dx []) ∧ H t = some (.tup (xs.map V.str)) ∧ NmL xs ∧ 1 ≤ xs.length ∧ xs.length ≤ 7 ∧
  ∀ H', Butx x H H' → OrdAt a H' x xs → Q .non H'
def spOrd (a : Ax) : Sp := fun vs H Q E => ∃ ws rest, vs = ws ++ rest ∧ ws.length = 1 ∧ rest.length ≤ sizeLine ∧ ∀ p, H p = none → sp_order_init a (ws ++ [V.ref p]) (upd H p (.tup rest)) Q E
def sp_order_decides (a : Ax) : Sp := fun vs H Q _ => ∃ o r, ∃ xs pro con : List Str, vs = [.ref o, .ref r] ∧ OrdAt a H o xs ∧ RowAt a H r pro con ∧ (∀ z ∈ pro ++ con, z ∈ xs) ∧ ∀ H', Same H H' → Q (vOpt (decL xs pro con)) H'
def sp_order_bears (a : Ax) : Sp := fun vs H Q _ => ∃ o r, ∃ xs pro con : List Str, vs = [.ref o, .ref r] ∧ OrdAt a H o xs ∧ RowAt a H r pro con ∧ (∀ z ∈ pro ++ con, z ∈ xs) ∧ ∀ H', Same H H' → Q (.bl (bearsL xs pro con)) H'
def sp_order_read (a : Ax) : Sp := fun vs H Q _ => ∃ xs, vs = [.str (Txt.join " > " xs)] ∧ NmL xs ∧ 1 ≤ xs.length ∧ xs.length ≤ 7 ∧ ∀ o H', Same H H' → H o = none → OrdAt a H' o xs → Q (.ref o) H'
def LineAt (H : Hp) (t : Addr) (z : Str) : Prop := H t = some (.tup [.str z, .bl true])
def sp_lines_of (a : Ax) : Sp := fun vs H Q _ => ∃ ls : List Str, vs = [.str (catS (ls.map (· ++ "\n")))] ∧ (∀ z ∈ ls, 10 ∉ cp z) ∧ (catS (ls.map (· ++ "\n"))).length ≤ 1000000 ∧ ls.length ≤ 1000 ∧
  ∀ p H', Same H H' → H p = none → ObjL (LineAt H') H' p ls → Q (.ref p) H'
def sp_is_record (a : Ax) : Sp := fun vs H Q _ => ∃ t c, vs = [.ref t] ∧ RecAt a H t c ∧ isNm c.1 ∧ ∀ H', Same H H' → Q (.bl true) H'
def sp_stranger (a : Ax) : Sp := fun vs H Q _ => ∃ r p, ∃ pro con xs : List Str, vs = [.ref r, .ref p] ∧ RowAt a H r pro con ∧ Sq a.K H p (xs.map V.str) ∧ (∀ z ∈ pro ++ con, z ∈ xs) ∧ Q .non H
/-- Book.__init__, the records as one tuple -/
def sp_book_init (a : Ax) : Sp := fun vs H Q _ => ∃ x dx p t, ∃ xs : List Str, ∃ recs, ∃ ts : List Addr, vs = [.ref x, .ref p, .ref t] ∧ H x = some (.ins a.B dx []) ∧ Sq a.K H p (xs.map V.str) ∧ H t = some (.tup (ts.map V.ref)) ∧ All2 (RecAt a H) ts recs ∧
  BookV (isort xs) recs ∧ NmL xs ∧ recs.length ≤ 40 ∧ ∀ H', Butx x H H' → BookAt a H' x (isort xs) recs → Q .non H'
def spBook (a : Ax) : Sp := fun vs H Q E => ∃ ws rest, vs = ws ++ rest ∧ ws.length = 2 ∧ rest.length ≤ sizeLine ∧ ∀ p, H p = none → sp_book_init a (ws ++ [V.ref p]) (upd H p (.tup rest)) Q E
def sp_book_records (a : Ax) : Sp := fun vs H Q _ => ∃ b xs recs, vs = [.ref b] ∧ BookAt a H b xs recs ∧ ∀ l H', Same H H' → H l = none → RecL a H' l recs → Q (.ref l) H'
def sp_book_rows (a : Ax) : Sp := fun vs H Q _ => ∃ b xs recs, vs = [.ref b] ∧ BookAt a H b xs recs ∧ ∀ l H', Same H H' → H l = none → RowL a H' l (recs.map (·.2)) → Q (.ref l) H'
def sp_book_grown (a : Ax) : Sp := fun vs H Q _ => ∃ b l xs recs rws, vs = [.ref b, .ref l] ∧ BookAt a H b xs recs ∧ RowL a H l rws ∧ (∀ c ∈ rws, ∀ z ∈ c.1 ++ c.2, z ∈ xs) ∧ recs.length + rws.length ≤ 100 ∧
  ∀ b' H', Same H H' → H b' = none → BookAt a H' b' xs (recs ++ (freshM (recs.map (·.1)) rws.length).zip rws) → Q (.ref b') H'
def sp_book_text (a : Ax) : Sp := fun vs H Q _ => ∃ b xs recs, vs = [.ref b] ∧ BookAt a H b xs recs ∧ ∀ H', Same H H' → Q (.str (bookText xs recs)) H'
def sp_book_read (a : Ax) : Sp := fun vs H Q _ => ∃ xs recs, vs = [.str (bookText xs recs)] ∧ BookV xs recs ∧ recs.length ≤ 40 ∧ ∀ b H', Same H H' → H b = none → BookAt a H' b xs recs → Q (.ref b) H'
def sp_book_add (a : Ax) : Sp := fun vs H Q _ => ∃ b t xs recs c, vs = [.ref b, .ref t] ∧ BookAt a H b xs recs ∧ RecAt a H t c ∧ BookV xs (recs ++ [c]) ∧ recs.length < 40 ∧ ∀ b' H', Same H H' → H b' = none → BookAt a H' b' xs (recs ++ [c]) → Q (.ref b') H'
def sp_book_with (a : Ax) : Sp := fun vs H Q _ => ∃ p l, ∃ xs : List Str, ∃ recs, vs = [.ref p, .ref l] ∧ SqT a.K H p (xs.map V.str) ∧ RecL a H l recs ∧ BookV xs recs ∧ ∀ b' H', Same H H' → H b' = none → BookAt a H' b' xs recs → Q (.ref b') H'
def sp_head_flaw (a : Ax) : Sp := fun vs H Q _ => ∃ xs, vs = [.str (headOf xs)] ∧ NmL xs ∧ Srt xs ∧ 1 ≤ xs.length ∧ xs.length ≤ 7 ∧ ∀ H', Same H H' → Q .non H'
def sp_record_of (a : Ax) : Sp := fun vs H Q _ => ∃ c, vs = [.str (lineOf c)] ∧ isNm c.1 ∧ RowV c.2.1 c.2.2 ∧ ∀ t H', Same H H' → H t = none → RecAt a H' t c → Q (.ref t) H'
def sp_record_flaw (a : Ax) : Sp := fun vs H Q _ => ∃ c p l xs recs, vs = [.str (lineOf c), .ref p, .ref l] ∧ isNm c.1 ∧ RowV c.2.1 c.2.2 ∧ (∀ z ∈ c.2.1 ++ c.2.2, z ∈ xs) ∧ LS H p xs ∧ RecL a H l recs ∧ c.1 ∉ recs.map (·.1) ∧ recs.length < 40 ∧
  ∀ H', Same H H' → Q .non H'
def sp_full_mask (a : Ax) : Sp := fun vs H Q _ => ∃ p, ∃ xs : List V, vs = [.ref p] ∧ SqT a.K H p xs ∧ xs.length ≤ 7 ∧ Q (.int ((2 ^ xs.length - 1 : Nat) : Nat)) H
def sp_mask_of (a : Ax) : Sp := fun vs H Q _ => ∃ p q, ∃ xs ys : List Str, vs = [.ref p, .ref q] ∧ TupZ H p (xs.map V.str) ∧ SqT a.K H q (ys.map V.str) ∧ xs.length ≤ 7 ∧ (∀ y ∈ ys, y ∈ xs) ∧ Q (.int (maskL xs ys : Nat)) H
def sp_side_masks (a : Ax) : Sp := fun vs H Q _ => ∃ p r, ∃ xs pro con : List Str, vs = [.ref p, .ref r] ∧ TupZ H p (xs.map V.str) ∧ RowAt a H r pro con ∧ xs.length ≤ 7 ∧ (∀ y ∈ pro ++ con, y ∈ xs) ∧ ∀ t, H t = none → Q (.ref t) (upd H t (.tup [.int (maskL xs pro : Nat), .int (maskL xs con : Nat)]))
def sp_row_masks (a : Ax) : Sp := fun vs H Q _ => ∃ b xs recs, vs = [.ref b] ∧ BookAt a H b xs recs ∧ ∀ l H', Same H H' → PrL H' l (recs.map (rowPr xs)) → Q (.ref l) H'
def sp_blocked_mask (a : Ax) : Sp := fun vs H Q _ => ∃ l ps t, vs = [.ref l, .int (t : Nat)] ∧ PrL H l ps ∧ Q (.int (blockedL ps t : Nat)) H
def sp_coming_mask (a : Ax) : Sp := fun vs H Q _ => ∃ l ps t m, vs = [.ref l, .int (t : Nat), .int (m : Nat)] ∧ PrL H l ps ∧ Q (.int (comingL ps t m : Nat)) H
def sp_greatest_within (a : Ax) : Sp := fun vs H Q _ => ∃ l ps n, vs = [.ref l, .int ((2 ^ n - 1 : Nat) : Nat)] ∧ n ≤ 7 ∧ PrL H l ps ∧ Q (.int (growL ps (2 ^ n - 1) (2 ^ n) 0 : Nat)) H
def sp_layered_mask (a : Ax) : Sp := fun vs H Q _ => ∃ b xs recs, vs = [.ref b] ∧ BookAt a H b xs recs ∧ ∀ H', Same H H' → Q (.int (growL (recs.map (rowPr xs)) (2 ^ xs.length - 1) (2 ^ xs.length) 0 : Nat)) H'
def sp_stands (a : Ax) : Sp := fun vs H Q _ => ∃ b xs recs, vs = [.ref b] ∧ BookAt a H b xs recs ∧ ∀ H', Same H H' → Q (.bl (standsL xs recs)) H'
def sp_unborne (a : Ax) : Sp := fun vs H Q _ => ∃ b o xs ys recs, vs = [.ref b, .ref o] ∧ BookAt a H b xs recs ∧ OrdAt a H o ys ∧ isort ys = xs ∧ ∀ t H', Same H H' → H' t = some (.tup ((unborneL recs ys).map V.str)) → Q (.ref t) H'
def sp_fits (a : Ax) : Sp := fun vs H Q _ => ∃ b o xs ys recs, vs = [.ref b, .ref o] ∧ BookAt a H b xs recs ∧ OrdAt a H o ys ∧ isort ys = xs ∧ ∀ H', Same H H' → Q (.bl (decide (unborneL recs ys = []))) H'
/-! .. of the law's own defs -/
def sp_law_bag (a : Ax) : Sp := fun vs H Q _ => ∃ s, ∃ ns : List Int, vs = [.ref s] ∧ SqL a.K H s (ns.map V.int) ∧ ∀ b h ms H', Same H H' → Bag b h ms H' → Q (.ref b) H'
def sp_law_take (a : Ax) : Sp := fun vs H Q _ => ∃ b h ns m, vs = [.ref b, .int m] ∧ Bag b h ns H ∧ 1 ≤ m ∧ m < 1000000 ∧ ∀ r H', 0 ≤ r → r < m → Bag b h ns H' → Keep H H' → Q (.int r) H'
def sp_law_pick (a : Ax) : Sp := fun vs H Q _ => ∃ b h ns x, vs = [.ref b, x] ∧ Bag b h ns H ∧
  ((∃ z : Str, x = .str z ∧ 1 ≤ z.length ∧ z.length ≤ 1000 ∧ ∀ c H', c ∈ cp z → Bag b h ns H' → Keep H H' → Q (.str (S [c])) H') ∨
   ∃ p, ∃ xs : List V, x = .ref p ∧ H p = some (.lst xs) ∧ Hard (.lst xs) ∧ 1 ≤ xs.length ∧ xs.length ≤ 1000 ∧ ∀ v H', v ∈ xs → Bag b h ns H' → Keep H H' → Q v H')
/-- all texts, or all ints -/
def Hom (xs : List V) : Prop := (∀ v ∈ xs, ∃ z, v = .str z) ∨ ∀ v ∈ xs, ∃ i, v = .int i
theorem Hom.hard {xs : List V} (h : Hom xs) : Hard (.lst xs) := fun p a b c d z => by
  have e := HO.lst.inj z
  subst e
  rcases h with h | h
  · obtain ⟨y, e⟩ := h (.ref p) (by simp)
    cases e
  · obtain ⟨y, e⟩ := h (.ref p) (by simp)
    cases e
theorem Hom.sub {xs ys : List V} (h : Hom xs) (k : ∀ v ∈ ys, v ∈ xs) : Hom ys := by
  rcases h with h | h
  · exact .inl fun v hv => h v (k v hv)
  · exact .inr fun v hv => h v (k v hv)
theorem hom_strs (xs : List Str) : Hom (xs.map V.str) := .inl fun v hv => by
  obtain ⟨z, _, e⟩ := List.mem_map.mp hv
  exact ⟨z, e.symm⟩
theorem hom_nats (xs : List Nat) : Hom (xs.map fun k => V.int (k : Nat)) := .inr fun v hv => by
  obtain ⟨z, _, e⟩ := List.mem_map.mp hv
  exact ⟨_, e.symm⟩
def sp_law_mixed (a : Ax) : Sp := fun vs H Q _ => ∃ b h ns p, ∃ xs : List V, vs = [.ref b, .ref p] ∧ Bag b h ns H ∧ (H p = some (.lst xs) ∨ H p = some (.tup xs)) ∧ Hom xs ∧ xs.length ≤ 1000 ∧
  ∀ l ys H', Keep H H' → Bag b h ns H' → H l = none → H' l = some (.lst ys) → ys.Perm xs → Q (.ref l) H'
def sp_law_letters (a : Ax) : Sp := fun vs H Q _ => ∃ b h ns n, vs = [.ref b, .int (n : Nat)] ∧ Bag b h ns H ∧ n ≤ 10 ∧
  ∀ z H', (cp z).length = n → (∀ c ∈ cp z, 97 ≤ c ∧ c ≤ 122) → Keep H H' → Bag b h ns H' → Q (.str z) H'
def sp_law_signs (a : Ax) : Sp := fun vs H Q _ => ∃ b h ns n, vs = [.ref b, .int (n : Nat)] ∧ Bag b h ns H ∧ n ≤ 26 ∧
  ∀ (l : Addr) (cs : List Nat) H', Keep H H' → Bag b h ns H' → cs.length = n → cs.Nodup → (∀ c ∈ cs, 97 ≤ c ∧ c ≤ 122) → LS H' l (cs.map fun c => S [c]) → Q (.ref l) H'
def sp_law_names (a : Ax) : Sp := fun vs H Q _ => ∃ b h ns n, vs = [.ref b, .int (n : Nat)] ∧ Bag b h ns H ∧ 1 ≤ n ∧ n ≤ 7 ∧
  ∀ l xs H', Keep H H' → Bag b h ns H' → LS H' l xs → NmL xs → xs.length = n → Q (.ref l) H'
def sp_law_stranger (a : Ax) : Sp := fun vs H Q _ => ∃ b h ns p xs, vs = [.ref b, .ref p] ∧ Bag b h ns H ∧ LS H p xs ∧ xs.length ≤ 7 ∧ ∀ z H', Keep H H' → Bag b h ns H' → isNm z → z ∉ xs → Q (.str z) H'
def sp_law_marks (a : Ax) : Sp := fun vs H Q _ => ∃ b h ns p xs n, vs = [.ref b, .ref p, .int (n : Nat)] ∧ Bag b h ns H ∧ LS H p xs ∧ NmL xs ∧ xs.length ≤ 7 ∧ n ≤ 40 ∧
  ∀ l ys H', Keep H H' → Bag b h ns H' → LS H' l ys → NmL ys → ys.length = n → Q (.ref l) H'
def sp_law_fresh (a : Ax) : Sp := fun vs H Q _ => ∃ p xs n, vs = [.ref p, .int (n : Nat)] ∧ LS H p xs ∧ n ≤ 700 ∧ ∀ l H', Same H H' → H l = none → LS H' l (freshM xs n) → Q (.ref l) H'
def sp_law_group (a : Ax) : Sp := fun vs H Q _ => ∃ p xs m, vs = [.ref p, .int (m : Nat)] ∧ LS H p xs ∧ xs.length ≤ 7 ∧ ∀ t H', Same H H' → H t = none → H' t = some (.tup ((grp xs m).map V.str)) → Q (.ref t) H'
def sp_law_sides (a : Ax) : Sp := fun vs H Q _ => ∃ b h ns n d, vs = [.ref b, .int (n : Nat), .int (d : Int)] ∧ Bag b h ns H ∧ n ≤ 7 ∧ 1 ≤ d ∧ d ≤ 100 ∧ ∀ t p H', Keep H H' → Bag b h ns H' → PrAt H' t p → PrV n p → Q (.ref t) H'
def sp_law_both (a : Ax) : Sp := fun vs H Q _ => ∃ t u n p q, vs = [.ref t, .ref u] ∧ PrAt H t p ∧ PrAt H u q ∧ PrV n p ∧ PrV n q ∧ ∀ r w H', Same H H' → H r = none → PrAt H' r w → PrV n w → Q (.ref r) H'
def sp_law_leads (a : Ax) : Sp := fun vs H Q _ => ∃ l t ks p, vs = [.ref l, .ref t] ∧ (LI H l ks ∨ LnAt H l ks) ∧ PrAt H t p ∧ Q (.bl (leadsP ks p)) H
def sp_law_drawn (a : Ax) : Sp := fun vs H Q _ => ∃ b h ns n lo hi l ks, vs = [.ref b, .int (n : Nat), .int (lo : Nat), .int (hi : Nat), .ref l] ∧ Bag b h ns H ∧ n ≤ 7 ∧ lo ≤ hi ∧ hi ≤ 100 ∧ LI H l ks ∧
  ∀ p ps H', Keep H H' → Bag b h ns H' → PrL H' p ps → (∀ q ∈ ps, PrV n q) → lo ≤ ps.length → ps.length ≤ hi → (∀ q ∈ ps, leadsP ks q = true) → Q (.ref p) H'
def sp_law_row (a : Ax) : Sp := fun vs H Q _ => ∃ b h ns p xs t q, vs = [.ref b, .ref p, .ref t] ∧ Bag b h ns H ∧ LS H p xs ∧ NmL xs ∧ Srt xs ∧ xs.length ≤ 7 ∧ PrAt H t q ∧ PrV xs.length q ∧
  ∀ r H', Keep H H' → Bag b h ns H' → RowAt a H' r (grp xs q.1) (grp xs q.2) → Q (.ref r) H'
def sp_law_page (a : Ax) : Sp := fun vs H Q _ => ∃ b h ns p xs s ms l ps, vs = [.ref b, .ref p, .ref s, .ref l] ∧ Bag b h ns H ∧ LS H p xs ∧ NmL xs ∧ 1 ≤ xs.length ∧ xs.length ≤ 7 ∧ LS H s ms ∧ NmL ms ∧ PrL H l ps ∧ (∀ q ∈ ps, PrV xs.length q) ∧ ps.length ≤ ms.length ∧ ps.length ≤ 40 ∧
  ∀ k H', Keep H H' → Bag b h ns H' → BookAt a H' k (isort xs) (recsOf (isort xs) ms ps) → Q (.ref k) H'
def sp_law_words (a : Ax) : Sp := fun vs H Q _ => ∃ p xs t q, vs = [.ref p, .ref t] ∧ LS H p xs ∧ NmL xs ∧ Srt xs ∧ xs.length ≤ 7 ∧ PrAt H t q ∧ PrV xs.length q ∧ ∀ H', Same H H' → Q (.str (rowText (grp xs q.1) (grp xs q.2))) H'
def sp_law_text (a : Ax) : Sp := fun vs H Q _ => ∃ p xs s ms l ps, vs = [.ref p, .ref s, .ref l] ∧ LS H p xs ∧ NmL xs ∧ Srt xs ∧ 1 ≤ xs.length ∧ xs.length ≤ 7 ∧ LS H s ms ∧ NmL ms ∧ PrL H l ps ∧ (∀ q ∈ ps, PrV xs.length q) ∧ ps.length ≤ ms.length ∧ ps.length ≤ 40 ∧
  ∀ H', Same H H' → Q (.str (bookText xs (recsOf xs ms ps))) H'
def sp_law_line (a : Ax) : Sp := fun vs H Q _ => ∃ p xs l ks, vs = [.ref p, .ref l] ∧ LS H p xs ∧ NmL xs ∧ LI H l ks ∧ ks.Nodup ∧ (∀ k ∈ ks, k < xs.length) ∧ 1 ≤ ks.length ∧ ks.length ≤ 7 ∧ ∀ o H', Same H H' → OrdAt a H' o (lineNames xs ks) → Q (.ref o) H'
def sp_law_tries (a : Ax) : Sp := fun vs H Q _ => ∃ n, vs = [.int (n : Nat)] ∧ n ≤ 5 ∧ ∀ l H', Same H H' → ObjL (LnAt H') H' l (triesL n n) → Q (.ref l) H'
def sp_law_fitting (a : Ax) : Sp := fun vs H Q _ => ∃ t l ls ps, vs = [.ref t, .ref l] ∧ ObjL (LnAt H) H t ls ∧ ls.length ≤ 10000 ∧ PrL H l ps ∧ ∀ r H', Same H H' → ObjL (LnAt H') H' r (fittingL ls ps) → Q (.ref r) H'
/-- the same thing on both sides -/
def Sm (H : Hp) : Nat → V → V → Prop
  | 0, x, y => x = y ∧ (x = .non ∨ (∃ b, x = .bl b) ∨ ∃ z, x = .str z)
  | n + 1, x, y => (x = y ∧ (x = .non ∨ (∃ b, x = .bl b) ∨ ∃ z, x = .str z)) ∨ ∃ p q, ∃ xs ys : List V, x = .ref p ∧ y = .ref q ∧ ((H p = some (.lst xs) ∧ H q = some (.lst ys)) ∨ (H p = some (.tup xs) ∧ H q = some (.tup ys))) ∧ xs.length ≤ 1000 ∧ All2 (Sm H n) xs ys
def sp_law_same (a : Ax) : Nat → Sp
  | 0 => fun _ _ _ _ => False
  | n + 1 => fun vs H Q _ => ∃ x y, vs = [x, y] ∧ Sm H n x y ∧ ∀ H', Same H H' → Q (.bl true) H'
def sp_law_line_so (a : Ax) : Sp := fun vs H Q _ => ∃ b p s l i xs ms ps ks, vs = [.ref b, .ref p, .ref s, .ref l, .ref i] ∧ BookAt a H b xs (recsOf xs ms ps) ∧ LS H p xs ∧ LS H s ms ∧ PrL H l ps ∧ ps.length ≤ ms.length ∧ ps.length ≤ 100 ∧ (∀ q ∈ ps, PrV xs.length q) ∧ LI H i ks ∧ ks.Perm (List.range xs.length) ∧
  ∀ H', Same H H' → Q (.bl true) H'
def sp_law_built (a : Ax) : Sp := sp_law_page a
def sp_law_wide_so (a : Ax) : Sp := fun vs H Q _ => ∃ b h ns g p s l i xs ms ps ks, vs = [.ref b, .ref g, .ref p, .ref s, .ref l, .ref i] ∧ Bag b h ns H ∧ BookAt a H g xs (recsOf xs ms ps) ∧ LS H p xs ∧ LS H s ms ∧ NmL ms ∧ ms.length = 40 ∧ PrL H l ps ∧ ps.length ≤ 40 ∧ (∀ q ∈ ps, PrV xs.length q) ∧ LI H i ks ∧ ks.Perm (List.range xs.length) ∧
  ∀ H', Keep H H' → Bag b h ns H' → Q (.bl true) H'
def sp_law_others_so (a : Ax) : Sp := fun vs H Q _ => ∃ b h ns g p xs recs, vs = [.ref b, .ref g, .ref p] ∧ Bag b h ns H ∧ BookAt a H g xs recs ∧ LS H p xs ∧ LamX.Tabs a.tb H ∧
  ∀ H', KeepN H H' → Bag b h ns H' → LamX.Tabs a.tb H' → Q (.bl true) H'
end Fd
set_option Elab.async false
set_option linter.all false
set_option maxRecDepth 100000
set_option maxHeartbeats 4000000
/-! ### FdTop: what the top leaves; a promise from a body -/
namespace Fd
open PySem PySem.Spec PyProof.Rows L2 SX
structure Df (K : KF) (mg : Str → Option Value) (x : Str) (st : Stmt) : Prop where
  ex : ∃ f fd, FunD K x x (C8.fnArgs st) (C8.fnBody st) (defScope st) [] [] f fd ∧ mg x = some (.ref f)
structure Dm (K : KF) (C : Addr) (m qual : Str) (st : Stmt) : Prop where
  ex : ∃ f fd, FunD K m qual (C8.fnArgs st) (C8.fnBody st) (defScope st) [] [] f fd ∧ Cls K C ∧ Meth K C m f
structure Ds (K : KF) (mg : Str → Option Value) (x m qual : Str) (st : Stmt) : Prop where
  ex : ∃ C mc p g fd, mg x = some (.ref C) ∧ ClX.CRead K C mc ∧ SMet K C mc m p g ∧ FunD K m qual (C8.fnArgs st) (C8.fnBody st) (defScope st) [] [] g fd
structure Di (K : KF) (mg : Str → Option Value) (x : Str) (C : Addr) (qual : Str) (st : Stmt) (dvs : List V) : Prop where
  ex : ∃ f fd, FunD K "__init__" qual (C8.fnArgs st) (C8.fnBody st) (defScope st) dvs [] f fd ∧ Mk K C f ∧ mg x = some (.ref C)
structure Dw (K : KF) (C : Addr) (m qual : Str) (st : Stmt) : Prop where
  ex : ∃ f fd, FunD K m qual (C8.fnArgs st) (C8.fnBody st) (defScope st) [] [] f fd ∧ PySem.W.findIn K (.ref C) m = some (some (.ref f)) ∧ PySem.W.isFn K (.ref f) = true
structure Da (K : KF) (C : Addr) (qual : Str) (st : Stmt) : Prop where
  ex : ∃ f fd, FunD K "__add__" qual (C8.fnArgs st) (C8.fnBody st) (defScope st) [] [] f fd ∧ PySem.W.FdPlus K C f "tuple"
/-- an own exception class with its __init__ -/
structure Dx (K : KF) (mg : Str → Option Value) (x : Str) (C : Addr) (qual : Str) (st : Stmt) : Prop where
  ex : ∃ f fd, FunD K "__init__" qual (C8.fnArgs st) (C8.fnBody st) (defScope st) [] [] f fd ∧ OexC K C ∧ PySem.W.findIn K (.ref C) "__init__" = some (some (.ref f)) ∧ PySem.W.typeIn K (.ref f) = some (.type "function") ∧ mg x = some (.ref C)
/-- a class that the exceptions of the class at C do not belong to -/
def NotEx (K : KF) (mg : Str → Option Value) (C : Addr) (x : Str) : Prop := ∃ c : Addr, mg x = some (.ref c) ∧ PySem.W.exmOne K (.ref C) (.ref c) = some false
def EmptyT (K : KF) (t : Addr) : Prop := ∀ H, SqT K H t []
/-- what the top leaves -/
structure Top (a : Ax) (mg : Str → Option Value) : Prop where
  d_is_spelled : Df a.K mg "is_spelled" (top 27)
  d_is_name : Df a.K mg "is_name" (top 28)
  d_is_names : Df a.K mg "is_names" (top 30)
  d_is_group : Df a.K mg "is_group" (top 31)
  d_nth_mark : Df a.K mg "nth_mark" (top 32)
  d_lines_of : Df a.K mg "lines_of" (top 39)
  d_is_record : Df a.K mg "is_record" (top 42)
  d_stranger : Df a.K mg "stranger" (top 43)
  d_book_with : Df a.K mg "book_with" (top 45)
  d_head_flaw : Df a.K mg "head_flaw" (top 46)
  d_record_of : Df a.K mg "record_of" (top 47)
  d_record_flaw : Df a.K mg "record_flaw" (top 48)
  d_full_mask : Df a.K mg "full_mask" (top 50)
  d_mask_of : Df a.K mg "mask_of" (top 51)
  d_side_masks : Df a.K mg "side_masks" (top 52)
  d_row_masks : Df a.K mg "row_masks" (top 53)
  d_blocked_mask : Df a.K mg "blocked_mask" (top 54)
  d_coming_mask : Df a.K mg "coming_mask" (top 55)
  d_greatest_within : Df a.K mg "greatest_within" (top 56)
  d_layered_mask : Df a.K mg "layered_mask" (top 58)
  d_stands : Df a.K mg "stands" (top 59)
  d_unborne : Df a.K mg "unborne" (top 22)
  d_fits : Df a.K mg "fits" (top 23)
  d_law_bag : Df a.K mg "_law_bag" (top 61)
  d_law_take : Df a.K mg "_law_take" (top 62)
  d_law_pick : Df a.K mg "_law_pick" (top 63)
  d_law_mixed : Df a.K mg "_law_mixed" (top 64)
  d_law_letters : Df a.K mg "_law_letters" (top 65)
  d_law_signs : Df a.K mg "_law_signs" (top 66)
  d_law_names : Df a.K mg "_law_names" (top 67)
  d_law_stranger : Df a.K mg "_law_stranger" (top 68)
  d_law_marks : Df a.K mg "_law_marks" (top 69)
  d_law_fresh : Df a.K mg "_law_fresh" (top 70)
  d_law_group : Df a.K mg "_law_group" (top 71)
  d_law_sides : Df a.K mg "_law_sides" (top 72)
  d_law_both : Df a.K mg "_law_both" (top 73)
  d_law_leads : Df a.K mg "_law_leads" (top 74)
  d_law_drawn : Df a.K mg "_law_drawn" (top 75)
  d_law_row : Df a.K mg "_law_row" (top 76)
  d_law_page : Df a.K mg "_law_page" (top 77)
  d_law_words : Df a.K mg "_law_words" (top 78)
  d_law_text : Df a.K mg "_law_text" (top 79)
  d_law_line : Df a.K mg "_law_line" (top 80)
  d_law_tries : Df a.K mg "_law_tries" (top 81)
  d_law_fitting : Df a.K mg "_law_fitting" (top 82)
  d_law_same : Df a.K mg "_law_same" (top 83)
  d_law_got : Df a.K mg "_law_got" (top 84)
  d_law_line_so : Df a.K mg "_law_line_so" (top 85)
  d_law_built : Df a.K mg "_law_built" (top 86)
  d_law_others_so : Df a.K mg "_law_others_so" (top 87)
  d_law_wide_so : Df a.K mg "_law_wide_so" (top 88)
  d_law : Df a.K mg "law" (top 89)
  d_row_sign : Dm a.K a.R "sign" "Row.sign" (inClass (top 34) 3)
  d_row_text : Dm a.K a.R "text" "Row.text" (inClass (top 34) 6)
  d_order_decides : Dm a.K a.O "decides" "Order.decides" (inClass (top 37) 4)
  d_order_bears : Dm a.K a.O "bears" "Order.bears" (inClass (top 37) 5)
  d_book_records : Dm a.K a.B "records" "Book.records" (inClass (top 44) 2)
  d_book_rows : Dm a.K a.B "rows" "Book.rows" (inClass (top 44) 4)
  d_book_grown : Dm a.K a.B "grown" "Book.grown" (inClass (top 44) 8)
  d_book_text : Dm a.K a.B "text" "Book.text" (inClass (top 44) 11)
  d_row_read : Ds a.K mg "Row" "read" "Row.read" (inClass (top 34) 7)
  d_order_read : Ds a.K mg "Order" "read" "Order.read" (inClass (top 37) 8)
  d_book_read : Ds a.K mg "Book" "read" "Book.read" (inClass (top 44) 12)
  d_row_init : Di a.K mg "Row" a.R "Row.__init__" (inClass (top 34) 0) [.ref a.t1, .ref a.t2]
  d_order_init : Di a.K mg "Order" a.O "Order.__init__" (inClass (top 37) 0) []
  d_book_init : Di a.K mg "Book" a.B "Book.__init__" (inClass (top 44) 1) []
  d_row_neg : Dw a.K a.R "__neg__" "Row.__neg__" (inClass (top 34) 9)
  d_row_contains : Dw a.K a.R "__contains__" "Row.__contains__" (inClass (top 34) 11)
  d_book_add : Da a.K a.B "Book.__add__" (inClass (top 44) 13)
  b_len : mg "len" = none
  b_list : mg "list" = none
  b_tuple : mg "tuple" = none
  b_int : mg "int" = none
  b_divmod : mg "divmod" = none
  b_sorted : mg "sorted" = none
  b_all : mg "all" = none
  b_any : mg "any" = none
  b_isinstance : mg "isinstance" = none
  b_set : mg "set" = none
  b_range : mg "range" = none
  b_enumerate : mg "enumerate" = none
  b_str : mg "str" = none
  b_bool : mg "bool" = none
  vLETTERS : (∃ t, mg "LETTERS" = some (.str abc t))
  vNAME : (∃ t, mg "NAME_LENGTH" = some (.int 6 t))
  vRANKED : (∃ t, mg "MOST_RANKED" = some (.int 7 t))
  vREASONS : (∃ t, mg "MOST_REASONS" = some (.int 7 t))
  gRow : mg "Row" = some (.ref a.R)
  gOrder : mg "Order" = some (.ref a.O)
  gBook : mg "Book" = some (.ref a.B)
  cR : Cls a.K a.R
  cO : Cls a.K a.O
  cB : Cls a.K a.B
  nRpro : NoAttr a.K a.R "pro"
  nRcon : NoAttr a.K a.R "con"
  nRnamed : NoAttr a.K a.R "named"
  nOranked : NoAttr a.K a.O "ranked"
  nOspots : NoAttr a.K a.O "spots"
  nOreasons : NoAttr a.K a.O "reasons"
  nBreasons : NoAttr a.K a.B "reasons"
  nBmark : NoAttr a.K a.B "by_mark"
  et1 : EmptyT a.K a.t1
  et2 : EmptyT a.K a.t2
  most : ∃ mc u, ClX.CRead a.K a.B mc ∧ ClX.CVal a.K a.B mc "MOST" (.int 40) u
  iR : C8.InsC a.K a.R
  d_oex : Dx a.K mg "OtherReasons" a.X "OtherReasons.__init__" (inClass (top 14) 0)
  xX : XfC a.K a.X
  nXcode : PySem.W.findIn a.K (.ref a.X) "code" = some none
  no1 : NotEx a.K mg a.X "Stuck"
  no2 : NotEx a.K mg a.X "UnknownReason"
  no3 : NotEx a.K mg a.X "InvalidGroup"
  no4 : NotEx a.K mg a.X "NotGood"
  no5 : NotEx a.K mg a.X "InvalidNumber"
  no6 : NotEx a.K mg a.X "Unfit"
  no7 : NotEx a.K mg a.X "TooMany"
  no8 : NotEx a.K mg a.X "InvalidWait"
  yes : ∃ c1 c2 : Addr, mg "ChoiceError" = some (.ref c1) ∧ mg "Missing" = some (.ref c2) ∧ PySem.W.exmAny a.K (.ref a.X) [.ref c1, .ref c2] = some true

theorem gI {mg : Str → Option Value} {x : Str} {i : Int} (h : ∃ t, mg x = some (.int i t)) : ∃ u, mg x = some u ∧ RelV (.int i) u := by
  obtain ⟨t, h⟩ := h
  exact ⟨_, h, t, rfl⟩
theorem gS {mg : Str → Option Value} {x i : Str} (h : ∃ t, mg x = some (.str i t)) : ∃ u, mg x = some u ∧ RelV (.str i) u := by
  obtain ⟨t, h⟩ := h
  exact ⟨_, h, t, rfl⟩

section
variable {P : Program} {w : World} {K : KF} {mg : Str → Option Value} {base : Heap} {x m qual : Str} {C : Addr} {st : Stmt} {N ps : List Str} {k : Nat} {sp : Sp}
/-- the body, walked -/
abbrev Body (P : Program) (w : World) (K : KF) (mg : Str → Option Value) (base : Heap) (N : List Str) (qual : Str) (st : Stmt) (k : Nat) (sp : Sp) : Prop := ∀ (f : Addr) (cdv : Value) (A : Around) (outer : List Env) (s : Shared) (H : Hp) (vs : List V) (Q : VK) (E : XK),
  Room k (A.deeper (envOfC qual (defScope st) s.heap.objs.size f cdv)) → sp vs H Q E →
  ∃ t, PSs (cxOf L2.CX0 P w K mg base N qual (defScope st) f cdv A outer s H E).nox (C8.fnBody st) t ∧ t { nx := fun _ H' => Q .non H', rt := Q } (start N vs) H
/-- all parameters are written -/
abbrev BindsP (qual nm : Str) (st : Stmt) (ps : List Str) : Prop := ∀ (kV doc pm : Value) (an : Option Addr) (cdv ct : Value) (us : List Value), us.length = ps.length → bindArgs (PySem.W.fnOf nm qual (C8.fnArgs st) (C8.fnBody st) (defScope st) .none kV doc pm an cdv ct) ⟨us, []⟩ = pure (ps.zip us)
theorem fn_body {f : Addr} {fd : FuncData} {nm : Str} {dvs : List V} (F : FunD K nm qual (C8.fnArgs st) (C8.fnBody st) (defScope st) dvs [] f fd) (S : FnScope N ps (defScope st)) (len : ∀ vs H Q E, sp vs H Q E → vs.length = ps.length) (hb : Body P w K mg base N qual st k sp) :
    FnOk P w K mg base L2.CX0 (k + 1) f fd ps sp := F.ok S len fun cdv A outer s H vs Q E hr h => by
  obtain ⟨t, h1, h2⟩ := hb f cdv A outer s H vs Q E hr h
  exact ⟨t, h1.nox, h2⟩
theorem cal_of (D : Df K mg x st) (S : FnScope N ps (defScope st)) (hB : BindsP x x st ps) (len : ∀ vs H Q E, sp vs H Q E → vs.length = ps.length) (hb : Body P w K mg base N x st k sp) : Cal P w K mg base (k + 1) x sp := by
  obtain ⟨f, fd, F, hm⟩ := D.ex
  exact ⟨f, fd, ps, fn_body F S len hb, hm, F.kp, F.bindsN hB⟩
theorem met_of (D : Dm K C m qual st) (S : FnScope N ps (defScope st)) (hB : BindsP qual m st ps) (len : ∀ vs H Q E, sp vs H Q E → vs.length = ps.length) (hb : Body P w K mg base N qual st k sp) : Met P w K mg base (k + 1) C m sp := by
  obtain ⟨f, fd, F, hc, hm⟩ := D.ex
  exact ⟨f, fd, ps, hc, hm, fn_body F S len hb, F.bindsN hB⟩
theorem stm_of (D : Ds K mg x m qual st) (S : FnScope N ps (defScope st)) (hB : BindsP qual m st ps) (len : ∀ vs H Q E, sp vs H Q E → vs.length = ps.length) (hb : Body P w K mg base N qual st k sp) : Stm P w K mg base (k + 1) x m sp := by
  obtain ⟨C, mc, p, g, fd, hm, rd, S1, F⟩ := D.ex
  exact ⟨C, mc, p, g, fd, ps, hm, rd, S1, fn_body F S len hb, F.bindsN hB⟩
theorem own_of (D : Dw K C m qual st) (S : FnScope N ps (defScope st)) (hB : BindsP qual m st ps) (len : ∀ vs H Q E, sp vs H Q E → vs.length = ps.length) (hb : Body P w K mg base N qual st k sp) : Own P w K mg base (k + 1) C m sp := by
  obtain ⟨f, fd, F, h1, h2⟩ := D.ex
  exact ⟨f, fd, ps, h1, h2, fn_body F S len hb, F.bindsN hB⟩
theorem plus_of (D : Da K C qual st) (S : FnScope N ps (defScope st)) (hB : BindsP qual "__add__" st ps) (len : ∀ vs H Q E, sp vs H Q E → vs.length = ps.length) (hb : Body P w K mg base N qual st k sp) : OwnPlus P w K mg base (k + 1) C sp := by
  obtain ⟨f, fd, F, h⟩ := D.ex
  exact ⟨f, fd, ps, h, fn_body F S len hb, F.bindsN hB⟩
end
end Fd
set_option Elab.async false
set_option linter.all false
set_option maxRecDepth 100000
set_option maxHeartbeats 4000000
/-! ### FdHook: what the head looks at (printed by mkhead.py from FdHeadF.tpl) -/
namespace Fd
open PySem PySem.Spec PyProof.Rows L2 SX
def dfD (x : Str) (st : Stmt) : He.DefD := ⟨(x, none), x, x, C8.fnArgs st, C8.fnBody st, defScope st, [], []⟩
def dmD (C m q : Str) (st : Stmt) (dv : List He.Dv) : He.DefD := ⟨(C, some m), m, q, C8.fnArgs st, C8.fnBody st, defScope st, dv, []⟩
/-- a static method -/
structure StD where
  C : Str
  m : Str
  qual : Str
  st : Stmt
def spAd (K : KF) (d : StD) : Addr := He.ma K (He.ga K d.C) d.m
def sAd (K : KF) (d : StD) : Addr := match PySem.W.recIn K (spAd K d) "staticmethod" with
  | some (.ref g :: _) => g
  | _ => 0
def fnWa (K : KF) (f : Addr) : He.FnW := match K.lookup f with
  | some ⟨_, _, .func fd, _⟩ => some (fd.name, fd.qualname, fd.params, fd.body, fd.scope, fd.globals, fd.closure, fd.builtins)
  | _ => none
def StD.val (d : StD) : He.FnW := some (d.m, d.qual, C8.fnArgs d.st, .stmts (C8.fnBody d.st), defScope d.st, mainGlobals, [], builtinsNs)
def tyT : Value := .type "type"
def creadB (K : KF) (C : Addr) : Bool := PySem.W.readsIn K C tyT && decide (PySem.W.specialIn K (.ref C) "__getattribute__" = some (some (.builtin "type.__getattribute__")))
theorem cread_ok {K : KF} {C : Addr} (h : creadB K C = true) : ClX.CRead K C tyT := ⟨(Bool.and_eq_true_iff.mp h).1, of_decide_eq_true (Bool.and_eq_true_iff.mp h).2⟩
def StD.ok (K : KF) (d : StD) : Bool := creadB K (He.ga K d.C) && (PySem.W.keepIn K (.ref (sAd K d)) && ((match PySem.W.findCls K (.ref (He.ga K d.C)) tyT d.m with
  | some (.get (.builtin "staticmethod.__get__") (.ref p) .none (.ref C)) => decide (p = spAd K d) && decide (C = He.ga K d.C)
  | _ => false) && ((match PySem.W.recIn K (spAd K d) "staticmethod" with
  | some (.ref g :: _) => decide (g = sAd K d)
  | _ => false) && (match K.lookup (sAd K d) with
  | some ⟨_, _, .func fd, _⟩ => PySem.W.codeIn K fd.code d.qual && (He.dflB K fd.defaults [] && He.kwdB K fd.kwdefaults [])
  | _ => false))))
theorem st_funD {K : KF} {f : Addr} {nm q : Str} {ps : Arguments} {bd : List Stmt} {sc : Scope} (e : fnWa K f = some (nm, q, ps, .stmts bd, sc, mainGlobals, [], builtinsNs)) (kp : PySem.W.keepIn K (.ref f) = true)
    (c : (match K.lookup f with
      | some ⟨_, _, .func fd, _⟩ => PySem.W.codeIn K fd.code q && (He.dflB K fd.defaults [] && He.kwdB K fd.kwdefaults [])
      | _ => false) = true) : ∃ fd, FunD K nm q ps bd sc [] [] f fd := by
  unfold fnWa at e
  cases z : K.lookup f with
  | none =>
    rw [z] at c
    cases c
  | some o =>
    obtain ⟨oc, od, dt, osl⟩ := o
    rw [z] at c e
    cases dt with
    | func fd =>
      obtain ⟨n1, n2, n3, n4, n5, n6, n7, n8, n9, n10, n11, n12, n13, n14, n15⟩ := fd
      have e2 : (some (n1, n2, n3, n4, n5, n6, n7, n15) : He.FnW) = some (nm, q, ps, .stmts bd, sc, mainGlobals, [], builtinsNs) := e
      simp only [Option.some.injEq, Prod.mk.injEq] at e2
      obtain ⟨h1, h2, h3, h4, h5, h6, h7, h8⟩ := e2
      subst h1 h2 h3 h4 h5 h6 h7 h8
      obtain ⟨k1, k2⟩ := He.ba (show (PySem.W.codeIn K n13 n2 && (He.dflB K n8 [] && He.kwdB K n9 [])) = true from c)
      obtain ⟨k3, k4⟩ := He.ba k2
      exact ⟨_, ⟨oc, od, n8, n9, n10, n11, n12, n13, n14, osl, rfl, z, k1, He.dflB_ok k3, He.kwdB_ok k4⟩, kp⟩
    | _ => cases c
theorem st_ok {K : KF} {d : StD} {mg : Str → Option Value} (e : fnWa K (sAd K d) = d.val) (c : d.ok K = true) (hm : mg d.C = some (.ref (He.ga K d.C))) : Ds K mg d.C d.m d.qual d.st := by
  obtain ⟨c1, c⟩ := He.ba c
  obtain ⟨c2, c⟩ := He.ba c
  obtain ⟨c3, c⟩ := He.ba c
  obtain ⟨c4, c5⟩ := He.ba c
  obtain ⟨fd, F⟩ := st_funD e c2 c5
  refine ⟨_, tyT, spAd K d, sAd K d, fd, hm, cread_ok c1, ⟨?_, ?_, c2⟩, F⟩
  · split at c3
    · rename_i p C q
      obtain ⟨k1, k2⟩ := He.ba c3
      rw [← of_decide_eq_true k1]
      have k3 := of_decide_eq_true k2
      rw [k3] at q
      exact q
    · cases c3
  · split at c4
    · rename_i g r q
      rw [← of_decide_eq_true c4]
      exact ⟨r, q⟩
    · cases c4
/-! further facts -/
def exOwn (C m : Str) (K : KF) : Bool := decide (PySem.W.findIn K (.ref (He.ga K C)) m = some (some (.ref (He.ma K (He.ga K C) m)))) && PySem.W.isFn K (.ref (He.ma K (He.ga K C) m))
theorem own_ok {C m : Str} {K : KF} (h : exOwn C m K = true) : PySem.W.findIn K (.ref (He.ga K C)) m = some (some (.ref (He.ma K (He.ga K C) m))) ∧ PySem.W.isFn K (.ref (He.ma K (He.ga K C) m)) = true := ⟨of_decide_eq_true (He.ba h).1, (He.ba h).2⟩
def exPlus (C : Str) (K : KF) : Bool := PySem.W.selfFirst K (He.ga K C) && (exOwn C "__add__" K && (decide (PySem.W.findIn K (.ref (He.ga K C)) "__radd__" = some none) && ((PySem.W.findIn K (.type "tuple") "__add__").isSome && ((PySem.W.findIn K (.type "tuple") "__radd__").isSome && decide (PySem.W.subIn K (.type "tuple") (.ref (He.ga K C)) = some false)))))
theorem plus_ok {C : Str} {K : KF} (h : exPlus C K = true) : PySem.W.FdPlus K (He.ga K C) (He.ma K (He.ga K C) "__add__") "tuple" := by
  obtain ⟨h1, h⟩ := He.ba h
  obtain ⟨h2, h⟩ := He.ba h
  obtain ⟨h3, h⟩ := He.ba h
  obtain ⟨h4, h⟩ := He.ba h
  obtain ⟨h5, h6⟩ := He.ba h
  exact ⟨h1, (own_ok h2).1, (own_ok h2).2, of_decide_eq_true h3, Option.isSome_iff_exists.mp h4, Option.isSome_iff_exists.mp h5, of_decide_eq_true h6⟩
abbrev gX (K : KF) : Addr := He.ga K "OtherReasons"
def oexC (K : KF) (C : Addr) : Bool := match K.lookup C with
  | some ⟨.type "type", _, .cls cd, sl⟩ => (match cd.mro, sl.toList with
    | .ref C' :: bm, [_, _, _, _, some (.builtin n), _] => decide (C' = C) && (decide (n = "ValueError.__new__") && (cd.hasDict && (!cd.hasDel && PySem.HandSPX.refsVE bm)))
    | _, _ => false)
  | _ => false
def exOex (K : KF) : Bool := oexC K (gX K) && (decide (PySem.W.findIn K (.ref (gX K)) "__setattr__" = some (some (.builtin "object.__setattr__"))) && (decide (PySem.W.subIn K (.ref (gX K)) (.type "BaseException") = some true) && (decide (PySem.W.typeIn K (.ref (gX K)) = some (.type "type")) && PySem.W.keepIn K (.ref (gX K)))))
theorem oex_ok {K : KF} (h : exOex K = true) : OexC K (gX K) := by
  obtain ⟨q, h⟩ := He.ba h
  obtain ⟨h2, h⟩ := He.ba h
  obtain ⟨h3, h⟩ := He.ba h
  obtain ⟨h4, h5⟩ := He.ba h
  refine ⟨?_, of_decide_eq_true h2, of_decide_eq_true h3, of_decide_eq_true h4, h5⟩
  unfold oexC at q
  split at q
  · rename_i dd cd sl ho
    split at q
    · rename_i C' bm k0 k1 k2 k3 n k5 hm hs
      obtain ⟨q1, q⟩ := He.ba q
      obtain ⟨q2, q⟩ := He.ba q
      obtain ⟨q3, q⟩ := He.ba q
      obtain ⟨q4, q5⟩ := He.ba q
      have q1 := of_decide_eq_true q1
      have q2 := of_decide_eq_true q2
      have q4f : cd.hasDel = false := by
        cases z : cd.hasDel with
        | false => rfl
        | true => rw [z] at q4; cases q4
      obtain ⟨nm, bs, mro, ns, qn, hd, sn, sub, ab, col, del⟩ := cd
      dsimp only at hm q3 q4f
      subst hm q3 q4f q2
      have hsl : sl = #[k0, k1, k2, k3, some (.builtin "ValueError.__new__"), k5] := by
        obtain ⟨l⟩ := sl
        simp only at hs
        rw [hs]
      subst hsl
      rw [q1] at ho
      exact ⟨nm, qn, ns, bs, bm, sn, sub, ab, col, dd, k0, k1, k2, k3, k5, ho, q5⟩
    · cases q
  · cases q
def exIni (K : KF) : Bool := decide (PySem.W.findIn K (.ref (gX K)) "__init__" = some (some (.ref (He.ma K (gX K) "__init__")))) && decide (PySem.W.typeIn K (.ref (He.ma K (gX K) "__init__")) = some (.type "function"))
theorem oini_ok {K : KF} (h : exIni K = true) : PySem.W.findIn K (.ref (gX K)) "__init__" = some (some (.ref (He.ma K (gX K) "__init__"))) ∧ PySem.W.typeIn K (.ref (He.ma K (gX K) "__init__")) = some (.type "function") := ⟨of_decide_eq_true (He.ba h).1, of_decide_eq_true (He.ba h).2⟩
def tAd (i : Nat) (K : KF) : Addr := He.dflAt ("Row", some "__init__") i K
def exEmp (i : Nat) (K : KF) : Bool := match K.lookup (tAd i K) with
  | some ⟨.type c, _, .seq its _, _⟩ => decide (c = "tuple") && decide (its.toList.length = 0)
  | _ => false
theorem emp_ok {i : Nat} {K : KF} (h : exEmp i K = true) : EmptyT K (tAd i K) := fun H => by
  unfold exEmp at h
  cases q : K.lookup (tAd i K) with
  | none =>
    rw [q] at h
    cases h
  | some o =>
    obtain ⟨oc, od, dt, osl⟩ := o
    rw [q] at h
    cases oc with
    | type c =>
      cases dt with
      | seq its n =>
        obtain ⟨h1, h2⟩ := He.ba h
        have hl := List.length_eq_zero_iff.mp (of_decide_eq_true h2)
        refine .inr ⟨_, its, n, q, congrArg Value.type (of_decide_eq_true h1), rfl, ?_, ?_⟩
        · rw [← Array.length_toList, hl]
          exact Nat.zero_le _
        · rw [hl]
          exact .nil
      | _ => cases h
    | _ => cases dt <;> cases h
def exMost (K : KF) : Bool := creadB K (He.ga K "Book") && (match PySem.W.findCls K (.ref (He.ga K "Book")) tyT "MOST" with
  | some (.val (.int i _)) => decide (i = 40)
  | _ => false)
theorem most_ok {K : KF} (h : exMost K = true) : ∃ mc u, ClX.CRead K (He.ga K "Book") mc ∧ ClX.CVal K (He.ga K "Book") mc "MOST" (.int 40) u := by
  obtain ⟨h1, h2⟩ := He.ba h
  split at h2
  · rename_i i t q
    have e := of_decide_eq_true h2
    rw [e] at q
    exact ⟨tyT, _, cread_ok h1, q, t, rfl⟩
  · cases h2
abbrev gRow (K : KF) : Addr := He.ga K "Row"
def exIns (K : KF) : Bool := decide (PySem.W.findIn K (.ref (gRow K)) "__class__" = some (some (.builtin "object.__class__"))) && (decide (PySem.W.specialIn K (.builtin "object.__class__") "__get__" = some (some (.builtin "getset_descriptor.__get__"))) && (decide (PySem.W.takesIn K (.builtin "object.__class__") = some true) && (decide (PySem.W.mroIn K (gRow K) (.type "object") = some true) && decide (PySem.W.kitOne K (.ref (gRow K)) (.ref (gRow K)) = some true))))
theorem insc_ok {K : KF} (hc : Cls K (gRow K)) (h : exIns K = true) : C8.InsC K (gRow K) := by
  obtain ⟨h1, h⟩ := He.ba h
  obtain ⟨h2, h⟩ := He.ba h
  obtain ⟨h3, h⟩ := He.ba h
  obtain ⟨h4, h5⟩ := He.ba h
  exact ⟨hc, of_decide_eq_true h1, of_decide_eq_true h2, of_decide_eq_true h3, of_decide_eq_true h4, of_decide_eq_true h5⟩
def exXf (K : KF) : Bool := xfB K (gX K)
theorem xf_ok {K : KF} (h : exXf K = true) : XfC K (gX K) := xfB_ok h
def exYes (K : KF) : Bool := decide (PySem.W.exmAny K (.ref (gX K)) [.ref (He.ga K "ChoiceError"), .ref (He.ga K "Missing")] = some true)
theorem yes_ok {K : KF} (h : exYes K = true) : PySem.W.exmAny K (.ref (gX K)) [.ref (He.ga K "ChoiceError"), .ref (He.ga K "Missing")] = some true := of_decide_eq_true h
def faL0 : List He.Fa := [.glo "is_spelled", .glo "is_name", .glo "is_names", .glo "is_group", .glo "nth_mark", .glo "lines_of", .glo "is_record", .glo "stranger", .glo "book_with", .glo "head_flaw", .glo "record_of", .glo "record_flaw"]
def faL1 : List He.Fa := [.glo "full_mask", .glo "mask_of", .glo "side_masks", .glo "row_masks", .glo "blocked_mask", .glo "coming_mask", .glo "greatest_within", .glo "layered_mask", .glo "stands", .glo "unborne", .glo "fits", .glo "_law_bag"]
def faL2 : List He.Fa := [.glo "_law_take", .glo "_law_pick", .glo "_law_mixed", .glo "_law_letters", .glo "_law_signs", .glo "_law_names", .glo "_law_stranger", .glo "_law_marks", .glo "_law_fresh", .glo "_law_group", .glo "_law_sides", .glo "_law_both"]
def faL3 : List He.Fa := [.glo "_law_leads", .glo "_law_drawn", .glo "_law_row", .glo "_law_page", .glo "_law_words", .glo "_law_text", .glo "_law_line", .glo "_law_tries", .glo "_law_fitting", .glo "_law_same", .glo "_law_got", .glo "_law_line_so"]
def faL4 : List He.Fa := [.glo "_law_built", .glo "_law_others_so", .glo "_law_wide_so", .glo "law", .cls "Row", .meth "Row" "sign", .meth "Row" "text", .cls "Order", .meth "Order" "decides", .meth "Order" "bears", .cls "Book", .meth "Book" "records"]
def faL5 : List He.Fa := [.meth "Book" "rows", .meth "Book" "grown", .meth "Book" "text", .glo "Row", .glo "Order", .glo "Book", .mkr "Row", .mkr "Order", .mkr "Book", .free "len", .free "list", .free "tuple"]
def faL6 : List He.Fa := [.free "int", .free "divmod", .free "sorted", .free "all", .free "any", .free "isinstance", .free "set", .free "range", .free "enumerate", .free "str", .free "bool", .str "LETTERS" abc]
def faL7 : List He.Fa := [.int "NAME_LENGTH" 6, .int "MOST_RANKED" 7, .int "MOST_REASONS" 7, .noat "Row" "pro", .noat "Row" "con", .noat "Row" "named", .noat "Order" "ranked", .noat "Order" "spots", .noat "Order" "reasons", .noat "Book" "reasons", .noat "Book" "by_mark", .glo "OtherReasons"]
def faL8 : List He.Fa := [.noat "OtherReasons" "code", .glo "Stuck", .exm "OtherReasons" "Stuck" false, .glo "UnknownReason", .exm "OtherReasons" "UnknownReason" false, .glo "InvalidGroup", .exm "OtherReasons" "InvalidGroup" false, .glo "NotGood", .exm "OtherReasons" "NotGood" false, .glo "InvalidNumber", .exm "OtherReasons" "InvalidNumber" false, .glo "Unfit"]
def faL9 : List He.Fa := [.exm "OtherReasons" "Unfit" false, .glo "TooMany", .exm "OtherReasons" "TooMany" false, .glo "InvalidWait", .exm "OtherReasons" "InvalidWait" false, .glo "ChoiceError", .glo "Missing"]
def faL : List He.Fa := faL0 ++ (faL1 ++ (faL2 ++ (faL3 ++ (faL4 ++ (faL5 ++ (faL6 ++ (faL7 ++ (faL8 ++ (faL9)))))))))
def fnL0 : List He.DefD := [dfD "is_spelled" (top 27), dfD "is_name" (top 28), dfD "is_names" (top 30), dfD "is_group" (top 31), dfD "nth_mark" (top 32), dfD "lines_of" (top 39), dfD "is_record" (top 42), dfD "stranger" (top 43), dfD "book_with" (top 45), dfD "head_flaw" (top 46), dfD "record_of" (top 47), dfD "record_flaw" (top 48)]
def fnL1 : List He.DefD := [dfD "full_mask" (top 50), dfD "mask_of" (top 51), dfD "side_masks" (top 52), dfD "row_masks" (top 53), dfD "blocked_mask" (top 54), dfD "coming_mask" (top 55), dfD "greatest_within" (top 56), dfD "layered_mask" (top 58), dfD "stands" (top 59), dfD "unborne" (top 22), dfD "fits" (top 23), dfD "_law_bag" (top 61)]
def fnL2 : List He.DefD := [dfD "_law_take" (top 62), dfD "_law_pick" (top 63), dfD "_law_mixed" (top 64), dfD "_law_letters" (top 65), dfD "_law_signs" (top 66), dfD "_law_names" (top 67), dfD "_law_stranger" (top 68), dfD "_law_marks" (top 69), dfD "_law_fresh" (top 70), dfD "_law_group" (top 71), dfD "_law_sides" (top 72), dfD "_law_both" (top 73)]
def fnL3 : List He.DefD := [dfD "_law_leads" (top 74), dfD "_law_drawn" (top 75), dfD "_law_row" (top 76), dfD "_law_page" (top 77), dfD "_law_words" (top 78), dfD "_law_text" (top 79), dfD "_law_line" (top 80), dfD "_law_tries" (top 81), dfD "_law_fitting" (top 82), dfD "_law_same" (top 83), dfD "_law_got" (top 84), dfD "_law_line_so" (top 85)]
def fnL4 : List He.DefD := [dfD "_law_built" (top 86), dfD "_law_others_so" (top 87), dfD "_law_wide_so" (top 88), dfD "law" (top 89), dmD "Row" "sign" "Row.sign" (inClass (top 34) 3) [], dmD "Row" "text" "Row.text" (inClass (top 34) 6) [], dmD "Order" "decides" "Order.decides" (inClass (top 37) 4) [], dmD "Order" "bears" "Order.bears" (inClass (top 37) 5) [], dmD "Book" "records" "Book.records" (inClass (top 44) 2) [], dmD "Book" "rows" "Book.rows" (inClass (top 44) 4) [], dmD "Book" "grown" "Book.grown" (inClass (top 44) 8) [], dmD "Book" "text" "Book.text" (inClass (top 44) 11) []]
def fnL5 : List He.DefD := [dmD "Row" "__init__" "Row.__init__" (inClass (top 34) 0) [.adr (He.dflAt ("Row", some "__init__") 0), .adr (He.dflAt ("Row", some "__init__") 1)], dmD "Order" "__init__" "Order.__init__" (inClass (top 37) 0) [], dmD "Book" "__init__" "Book.__init__" (inClass (top 44) 1) [], dmD "Row" "__neg__" "Row.__neg__" (inClass (top 34) 9) [], dmD "Row" "__contains__" "Row.__contains__" (inClass (top 34) 11) [], dmD "Book" "__add__" "Book.__add__" (inClass (top 44) 13) [], dmD "OtherReasons" "__init__" "OtherReasons.__init__" (inClass (top 14) 0) []]
def fnL : List He.DefD := fnL0 ++ (fnL1 ++ (fnL2 ++ (fnL3 ++ (fnL4 ++ (fnL5)))))
def stL0 : List StD := [⟨"Row", "read", "Row.read", inClass (top 34) 7⟩, ⟨"Order", "read", "Order.read", inClass (top 37) 8⟩, ⟨"Book", "read", "Book.read", inClass (top 44) 12⟩]
def stL : List StD := stL0
def exL0 : List (KF → Bool) := [exOwn "Row" "__neg__", exOwn "Row" "__contains__", exPlus "Book", exEmp 0, exEmp 1, exMost, exIns, exOex, exIni, exXf, exYes]
def exL : List (KF → Bool) := exL0
abbrev tfL : List He.Defn := [("_law_others_so", none)]
/-! the Hook -/
def frS (g : Addr → Option Obj) (n : List Addr) : KF := He.frT g n
abbrev AlS : Type := He.AlT × (List He.FnW × Bool)
def obsK (g : Addr → Option Obj) (K : KF) : AlS := (He.obsT faL fnL [] K, stL.map (fun d => fnWa K (sAd K d)), (stL.all fun d => d.ok K) && ((exL.all fun f => f K) && He.tabsB g tfL K))
def obsS (n : List Addr) (g : Addr → Option Obj) : AlS := obsK g (frS g n)
def valS (w : World) : AlS := (He.valT fnL [] w, stL.map StD.val, true)
structure SaysS (w : World) (h : Heap) (K : KF) : Prop where
  t : He.SaysT faL fnL [] w K
  s : stL.map (fun d => fnWa K (sAd K d)) = stL.map StD.val
  sk : (stL.all fun d => d.ok K) = true
  more : (exL.all fun f => f K) = true
  hd : ∀ p ∈ tfL, PySem.W.codeHdIn K (He.cT K p).1 (He.cT K p).2 = true
  out : ∀ p ∈ tfL, K.lookup (He.cT K p).2 = none
  empty : ∀ p ∈ tfL, h.get? (He.cT K p).2 = some { cls := .none, data := .fields #[] }
theorem saysS_of {n : List Addr} {w : World} {h : Heap} (e : obsS n h.get? = valS w) : SaysS w h (frS h.get? n) := by
  have e1 : He.obsT faL fnL [] (frS h.get? n) = He.valT fnL [] w := congrArg (fun z : AlS => z.1) e
  have e2 : stL.map (fun d => fnWa (frS h.get? n) (sAd (frS h.get? n) d)) = stL.map StD.val := congrArg (fun z : AlS => z.2.1) e
  have e3 : ((stL.all fun d => d.ok (frS h.get? n)) && ((exL.all fun f => f (frS h.get? n)) && He.tabsB h.get? tfL (frS h.get? n))) = true := congrArg (fun z : AlS => z.2.2) e
  obtain ⟨h0, h3⟩ := He.ba e3
  obtain ⟨h1, h2⟩ := He.ba h3
  have key : ∀ p ∈ tfL, PySem.W.codeHdIn (frS h.get? n) (He.cT (frS h.get? n) p).1 (He.cT (frS h.get? n) p).2 = true ∧ ∃ o, h.get? (He.cT (frS h.get? n) p).2 = some o ∧ He.emptyTab o = true := fun p hp => by
    obtain ⟨h3, h4⟩ := He.ba (List.all_eq_true.mp h2 p hp)
    refine ⟨h3, ?_⟩
    cases q : h.get? (He.cT (frS h.get? n) p).2 with
    | none =>
      rw [q] at h4
      cases h4
    | some o =>
      rw [q] at h4
      exact ⟨o, rfl, h4⟩
  exact ⟨e1, e2, h0, h1, fun p hp => (key p hp).1, fun p hp => by
    obtain ⟨_, o, q, z⟩ := key p hp
    exact He.frT_none q z, fun p hp => by
    obtain ⟨_, o, q, z⟩ := key p hp
    rw [q, He.emptyTab_eq z]⟩
def hookS (n : List Addr) : PySem.W.Hook where
  α := AlS
  obs := fun s => obsS n s.heap.get?
  val := fun w => valS w
  says := fun w h => ∃ K : KF, K.In h ∧ SaysS w h K
  of := fun _ _ e => ⟨_, He.frT_in, saysS_of e⟩
  keeps := fun _ _ _ ⟨K, hK, c⟩ k => ⟨K, PySem.W.Frag.In.keeps hK k, ⟨c.t, c.s, c.sk, c.more, c.hd, c.out, fun p hp => k _ _ (c.empty p hp)⟩⟩
theorem obsS_eq {n : List Addr} {g : Addr → Option Obj} {s : Shared} (h : ∀ a, g a = s.heap.get? a) : obsS n g = (hookS n).obs s := by
  have e : g = s.heap.get? := funext h
  rw [e] <;> rfl
section
variable {w : World} {h : Heap} {K : KF}
theorem SaysS.fa_ (c : SaysS w h K) (i : Nat) {f : He.Fa} (e : faL[i]? = some f := by rfl) : f.ok K = true := c.t.d.fact i e
theorem SaysS.fn_ (c : SaysS w h K) (i : Nat) {d : He.DefD} (e : fnL[i]? = some d := by rfl) : ∃ fd, FunD K d.name d.qual d.params d.body d.scope (d.dvs K) (d.kws K) (He.fAd K d.at_) fd := c.t.d.def_ i e
theorem SaysS.ex_ (c : SaysS w h K) (i : Nat) {f : KF → Bool} (e : exL[i]? = some f := by rfl) : f K = true := List.all_eq_true.mp c.more f (List.mem_of_getElem? e)
theorem SaysS.st_ {mg : Str → Option Value} (c : SaysS w h K) (_ : K.In h) (_ : h.Ns mainGlobals mg) (i : Nat) {d : StD} (hm : mg d.C = some (.ref (He.ga K d.C))) (e : stL[i]? = some d := by rfl) : Ds K mg d.C d.m d.qual d.st := by
  have e2 : (stL.map fun d => fnWa K (sAd K d))[i]? = (stL.map StD.val)[i]? := by rw [c.s]
  rw [List.getElem?_map, List.getElem?_map, e] at e2
  exact st_ok (Option.some.inj e2) (List.all_eq_true.mp c.sk d (List.mem_of_getElem? e)) hm
end
end Fd
set_option Elab.async false
set_option linter.all false
set_option maxRecDepth 100000
set_option maxHeartbeats 0
/-! ### FdHead1: the top's run -/
namespace FdHead
open PySem PySem.W PySem.Calls PyProof.Rows
abbrev R : OpenRow := OpenLaw.row PySem.Challenge.rw_firstdecides_k20_whole_books_that_an_ord
abbrev qv : Program := view R.prog [89]
def names0 : List PySem.Str := ["_wall", "ChoiceError", "Missing", "InvalidNumber", "InvalidSide", "InvalidReasons", "InvalidRecord", "InvalidOrder", "InvalidGroup", "InvalidWait", "InvalidText", "DuplicateName", "TooMany", "OtherReasons", "Stuck", "NotGood"]
def names1 : List PySem.Str := ["Unfit", "LastReason", "UnknownMark", "UnknownReason", "unborne", "fits", "LETTERS", "NAME_LENGTH", "is_spelled", "is_name", "is_number", "is_names", "is_group", "nth_mark", "Row", "MOST_RANKED"]
def names2 : List PySem.Str := ["Order", "lines_of", "MOST_REASONS", "is_record", "stranger", "Book", "book_with", "head_flaw", "record_of", "record_flaw", "full_mask", "mask_of", "side_masks", "row_masks", "blocked_mask", "coming_mask"]
def names3 : List PySem.Str := ["greatest_within", "layered_mask", "stands", "_law_bag", "_law_take", "_law_pick", "_law_mixed", "_law_letters", "_law_signs", "_law_names", "_law_stranger", "_law_marks", "_law_fresh", "_law_group", "_law_sides", "_law_both"]
def names4 : List PySem.Str := ["_law_leads", "_law_drawn", "_law_row", "_law_page", "_law_words", "_law_text", "_law_line", "_law_tries", "_law_fitting", "_law_same", "_law_got", "_law_line_so", "_law_built", "_law_others_so", "_law_wide_so"]
def names : List PySem.Str := names0 ++ (names1 ++ (names2 ++ (names3 ++ (names4))))
def aL0 : List Addr := [3, 2, 6, 4, 21, 31, 44, 64, 83, 102, 121, 140, 159, 178, 197, 216, 235, 254, 273, 292, 311, 330, 349, 368, 375, 382, 387, 394, 401, 406]
def aL1 : List Addr := [413, 420, 543, 663, 672, 679, 686, 828, 837, 844, 851, 856, 863, 870, 877, 882, 889, 896, 903, 910, 917, 922, 929, 936, 943, 948, 953, 958, 963, 968]
def aL2 : List Addr := [973, 978, 985, 992, 999, 1006, 1013, 1020, 1027, 1034, 1039, 1046, 1051, 1058, 1065, 1070, 1077, 1082, 1087, 1092, 0, 20, 30, 43, 63, 82, 101, 120, 139, 158]
def aL3 : List Addr := [177, 196, 215, 234, 253, 272, 291, 310, 329, 348, 367, 374, 381, 386, 393, 400, 405, 412, 419, 542, 662, 671, 678, 685, 827, 836, 843, 850, 855, 862]
def aL4 : List Addr := [869, 876, 881, 888, 895, 902, 909, 916, 921, 928, 935, 942, 947, 952, 957, 962, 967, 972, 977, 984, 991, 998, 1005, 1012, 1019, 1026, 1033, 1038, 1045, 1050]
def aL5 : List Addr := [1057, 1064, 1069, 1076, 1081, 1086, 1091, 15, 16, 17, 18, 19, 29, 32, 42, 45, 61, 62, 80, 81, 99, 100, 118, 119, 137, 138, 156, 157, 175, 176]
def aL6 : List Addr := [194, 195, 213, 214, 232, 233, 251, 252, 270, 271, 289, 290, 308, 309, 327, 328, 346, 347, 365, 366, 371, 372, 373, 376, 377, 378, 379, 380, 383, 384]
def aL7 : List Addr := [385, 388, 389, 390, 391, 392, 395, 396, 397, 398, 399, 402, 403, 404, 407, 408, 409, 410, 411, 414, 415, 416, 417, 418, 435, 443, 451, 458, 463, 470]
def aL8 : List Addr := [475, 482, 492, 500, 505, 512, 519, 526, 533, 540, 541, 544, 545, 561, 568, 575, 582, 589, 596, 601, 608, 617, 625, 632, 639, 646, 653, 660, 661, 664]
def aL9 : List Addr := [665, 668, 669, 670, 673, 674, 675, 676, 677, 680, 681, 682, 683, 684, 700, 707, 714, 721, 728, 733, 738, 745, 752, 759, 766, 775, 783, 790, 797, 804]
def aL10 : List Addr := [811, 818, 825, 826, 829, 830, 833, 834, 835, 838, 839, 840, 841, 842, 845, 846, 847, 848, 849, 852, 853, 854, 857, 858, 859, 860, 861, 864, 865, 866]
def aL11 : List Addr := [867, 868, 871, 872, 873, 874, 875, 878, 879, 880, 883, 884, 885, 886, 887, 890, 891, 892, 893, 894, 897, 898, 899, 900, 901, 904, 905, 906, 907, 908]
def aL12 : List Addr := [911, 912, 913, 914, 915, 918, 919, 920, 923, 924, 925, 926, 927, 930, 931, 932, 933, 934, 937, 938, 939, 940, 941, 944, 945, 946, 949, 950, 951, 954]
def aL13 : List Addr := [955, 956, 959, 960, 961, 964, 965, 966, 969, 970, 971, 974, 975, 976, 979, 980, 981, 982, 983, 986, 987, 988, 989, 990, 993, 994, 995, 996, 997, 1000]
def aL14 : List Addr := [1001, 1002, 1003, 1004, 1007, 1008, 1009, 1010, 1011, 1014, 1015, 1016, 1017, 1018, 1021, 1022, 1023, 1024, 1025, 1028, 1029, 1030, 1031, 1032, 1035, 1036, 1037, 1040, 1041, 1042]
def aL15 : List Addr := [1043, 1044, 1047, 1048, 1049, 1052, 1053, 1054, 1055, 1056, 1059, 1060, 1061, 1062, 1063, 1066, 1067, 1068, 1071, 1072, 1073, 1074, 1075, 1078, 1079, 1080, 1083, 1084, 1085, 1088]
def aL16 : List Addr := [1089, 1090, 60, 79, 98, 117, 136, 155, 174, 193, 212, 231, 250, 269, 288, 307, 326, 345, 364, 434, 430, 442, 450, 457, 462, 469, 474, 480, 481, 490]
def aL17 : List Addr := [491, 499, 504, 511, 518, 525, 532, 539, 560, 567, 574, 581, 588, 595, 600, 607, 615, 616, 624, 631, 638, 645, 652, 659, 699, 706, 713, 720, 727, 732]
def aL18 : List Addr := [737, 744, 751, 758, 765, 773, 774, 782, 789, 796, 803, 810, 817, 824, 426, 427, 428, 429, 431, 476, 477, 478, 479, 483, 484, 485, 610, 611, 612, 613]
def aL19 : List Addr := [614, 618, 619, 620, 768, 769, 770, 771, 772, 776, 777, 778]
def aL : List Addr := aL0 ++ (aL1 ++ (aL2 ++ (aL3 ++ (aL4 ++ (aL5 ++ (aL6 ++ (aL7 ++ (aL8 ++ (aL9 ++ (aL10 ++ (aL11 ++ (aL12 ++ (aL13 ++ (aL14 ++ (aL15 ++ (aL16 ++ (aL17 ++ (aL18 ++ (aL19)))))))))))))))))))
abbrev hk : Hook := Fd.hookS aL
def ob (s : SharedT) : Fd.AlS := Fd.obsS aL (HandSHeadRun.getT s)
theorem ob_eq (s : SharedT) : ob s = hk.obs s.abs := Fd.obsS_eq (HandSHeadRun.getT_eq s)
noncomputable abbrev endO (w : World) (os : OsState) : Option SharedT := HandSHeadRun.endF (HandSHeadRun.stepQ (HandSHeadRun.denQ HandSHeadRun.tabQ) R.prog w) 20000 R.prog w os
theorem map_three {α β γ δ : Type} {x : Option α} {f : α → β} {g : α → γ} {k : α → δ} {b : β} {c : γ} {d : δ} (h1 : x.map (fun s => (f s, g s)) = some (b, c)) (h2 : x.map k = some d) : x.map (fun s => (f s, g s, k s)) = some (b, c, d) := by
  cases x with
  | none => cases h1
  | some s =>
    obtain ⟨e1, e3⟩ := Prod.mk.inj (show (f s, g s) = (b, c) from Option.some.inj h1)
    have e2 : k s = d := Option.some.inj h2
    subst e1 e2 e3
    rfl
theorem run_looks (w : World) (os : OsState) : (endO w os).map (fun s => (HandSHeadRun.looksF R.prog (boot_heap w.params) s.abs, HandSHeadRun.seenQ qv names (importedModules R.prog.main.body) (fun s => xlAt qv [] s && recOk R.toRowW.records s) s.abs)) = some (true, openGood qv names) := by
  kernel_rfl
theorem run_obs (w : World) (os : OsState) : (endO w os).map ob = some (hk.val w) := by
  kernel_rfl
theorem run (w : World) : HandSHeadRun.RunEq R qv hk ob 20000 names w := fun os => map_three (run_looks w os) (run_obs w os)
end FdHead
set_option Elab.async false
set_option linter.all false
set_option maxRecDepth 100000
set_option maxHeartbeats 8000000
/-! ### FdT: slots, scopes, readings (printed by gen.py) -/
namespace Fd
open PySem PySem.Spec PyProof.Rows L2 SX
abbrev s_is_spelled : Stmt := top 27
abbrev n_is_spelled : List Str := ["value", "most", "letter"]
theorem sc_is_spelled : FnScope n_is_spelled ["value", "most"] (defScope s_is_spelled) := C8.fnScope_by (by decide +kernel)
def t_is_spelled (a : Ax) : TS :=
  (tSeq (tIfS (tOr (tNot (tB (tCB (rIsi a.K) (tCons (tVar 0) (tCons (tC (.ty "str")) tNil))))) (tNot (tTest (tChain rLeI rLeI (tC (.int 1)) (tCB rLenS (tCons (tVar 0) tNil)) (tVar 1)))))
      (tRet (tC (.bl false)))
      tNext)
    (tRet (tCB (rAll a.K) (tCons (tLc (iStr (tVar 0)) (gName 2) tYes (tOp rInC (tVar 2) (tC (.str abc))) [2]) tNil))))
abbrev s_is_name : Stmt := top 28
abbrev n_is_name : List Str := ["value"]
theorem sc_is_name : FnScope n_is_name ["value"] (defScope s_is_name) := C8.fnScope_by (by decide +kernel)
def t_is_name (a : Ax) : TS :=
  (tRet (tCall (sp_is_spelled a) [] L2.E0 (tCons (tVar 0) (tCons (tC (.int 6)) tNil))))
abbrev s_is_names : Stmt := top 30
abbrev n_is_names : List Str := ["value", "item"]
theorem sc_is_names : FnScope n_is_names ["value"] (defScope s_is_names) := C8.fnScope_by (by decide +kernel)
def t_is_names (a : Ax) : TS :=
  (tSeq (tIfS (tOr (tNot (tB (tCB (rIsiT a.K) (tCons (tVar 0) (tCons (tTup (tCons (tC (.ty "list")) (tCons (tC (.ty "tuple")) tNil))) tNil))))) (tNot (tB (tCB (rAll a.K) (tCons (tLc (iSeq a.K (tVar 0)) (gName 1) tYes (tCall (sp_is_name a) [] L2.E0 (tCons (tVar 1) tNil)) [1]) tNil)))))
      (tRet (tC (.bl false)))
      tNext)
    (tRet (tOp rEq (tLenSetN a.K (tVar 0)) (tCB (rLenQ a.K) (tCons (tVar 0) tNil)))))
abbrev s_is_group : Stmt := top 31
abbrev n_is_group : List Str := ["value"]
theorem sc_is_group : FnScope n_is_group ["value"] (defScope s_is_group) := C8.fnScope_by (by decide +kernel)
def t_is_group (a : Ax) : TS :=
  (tRet (tAndV (tCB (rIsi a.K) (tCons (tVar 0) (tCons (tC (.ty "tuple")) tNil))) (tAndV (tCall (sp_is_names a) [] L2.E0 (tCons (tVar 0) tNil)) (tOp (rEqD a.K) (tCB (rListQ a.K) (tCons (tVar 0) tNil)) (tCB (rSortedS a.K) (tCons (tCB (rListQ a.K) (tCons (tVar 0) tNil)) tNil))))))
abbrev s_nth_mark : Stmt := top 32
abbrev n_nth_mark : List Str := ["index", "mark", "rest", "letter"]
theorem sc_nth_mark : FnScope n_nth_mark ["index"] (defScope s_nth_mark) := C8.fnScope_by (by decide +kernel)
def t_nth_mark (a : Ax) : TS :=
  (tSeq (tAsg (tC (.str "")) (gName 1))
    (tSeq (tAsg (tOp rAddI (tVar 0) (tC (.int 1))) (gName 2))
    (tSeq (tWhile (tTest (tOp rGtI (tVar 2) (tC (.int 0))))
      (tSeq (tAsg (tCB rDivm (tCons (tOp rSubI (tVar 2) (tC (.int 1))) (tCons (tCB rLenS (tCons (tC (.str abc)) tNil)) tNil))) (gTup a.K 2 (gCons (gName 2) (gCons (gName 3) gNil))))
      (tAsg (tJoined [(tFmt (tOp rIxS (tC (.str abc)) (tVar 3))), (tFmt (tVar 1))]) (gName 1))))
    (tRet (tVar 1)))))
abbrev s_row_init : Stmt := inClass (top 34) 0
abbrev n_row_init : List Str := ["self", "pro", "con", "name"]
theorem sc_row_init : FnScope n_row_init ["self", "pro", "con"] (defScope s_row_init) := C8.fnScope_by (by decide +kernel)
def t_row_init (a : Ax) : TS :=
  (tSeq (tIfS (tNot (tB (tCall (sp_is_names a) [] L2.E0 (tCons (tVar 1) tNil))))
      tNever
      tNext)
    (tSeq (tIfS (tNot (tB (tCall (sp_is_names a) [] L2.E0 (tCons (tVar 2) tNil))))
      tNever
      tNext)
    (tSeq (tIfS (tB (tCB (rAny a.K) (tCons (tLc (iSeq a.K (tVar 1)) (gName 3) tYes (tOp (rIn a.K false) (tVar 3) (tVar 2)) [3]) tNil)))
      tNever
      tNext)
    (tSeq (sFld a.K (tVar 0) (tCB (rTupQ a.K) (tCons (tCB (rSortedS a.K) (tCons (tCB (rListQ a.K) (tCons (tVar 1) tNil)) tNil)) tNil)) "pro")
    (tSeq (sFld a.K (tVar 0) (tCB (rTupQ a.K) (tCons (tCB (rSortedS a.K) (tCons (tCB (rListQ a.K) (tCons (tVar 2) tNil)) tNil)) tNil)) "con")
    (sFld a.K (tVar 0) (tCB (rTupQ a.K) (tCons (tCB (rSortedS a.K) (tCons (tLst (StX.tStar a.K (tFld a.K (tVar 0) "pro") (StX.tStar a.K (tFld a.K (tVar 0) "con") tNil))) tNil)) tNil)) "named"))))))
abbrev s_row_contains : Stmt := inClass (top 34) 11
abbrev n_row_contains : List Str := ["self", "reason"]
theorem sc_row_contains : FnScope n_row_contains ["self", "reason"] (defScope s_row_contains) := C8.fnScope_by (by decide +kernel)
def t_row_contains (a : Ax) : TS :=
  (tRet (tAndV (tCall (sp_is_name a) [] L2.E0 (tCons (tVar 1) tNil)) (tOp (rIn a.K false) (tVar 1) (tFld a.K (tVar 0) "named"))))
abbrev s_row_sign : Stmt := inClass (top 34) 3
abbrev n_row_sign : List Str := ["self", "reason"]
theorem sc_row_sign : FnScope n_row_sign ["self", "reason"] (defScope s_row_sign) := C8.fnScope_by (by decide +kernel)
def t_row_sign (a : Ax) : TS :=
  (tSeq (tIfS (tTest (tOp (rHasNot a.R (sp_row_contains a)) (tVar 1) (tVar 0)))
      (tRet (tC (.str "0")))
      tNext)
    (tRet (tIf (tTest (tOp (rIn a.K false) (tVar 1) (tFld a.K (tVar 0) "pro"))) (tC (.str "+")) (tC (.str "-")))))
abbrev s_row_text : Stmt := inClass (top 34) 6
abbrev n_row_text : List Str := ["self", "name"]
theorem sc_row_text : FnScope n_row_text ["self"] (defScope s_row_text) := C8.fnScope_by (by decide +kernel)
def t_row_text (a : Ax) : TS :=
  (tSeq (tIfS (tTest (tOp (rEqD a.K) (tFld a.K (tVar 0) "named") (tTup tNil)))
      (tRet (tC (.str "even")))
      tNext)
    (tRet (tM1 (rJoin a.K) (tC (.str " ")) (tLc (iTup a.K (tFld a.K (tVar 0) "named")) (gName 1) tYes (tJoined [(tFmt (tVar 1)), (tFmt (tMeth a.R "sign" (sp_row_sign a) [] L2.E0 (tVar 0) (tCons (tVar 1) tNil)))]) [1]))))
abbrev s_row_read : Stmt := inClass (top 34) 7
abbrev n_row_read : List Str := ["text", "words", "pro", "con", "word"]
theorem sc_row_read : FnScope n_row_read ["text"] (defScope s_row_read) := C8.fnScope_by (by decide +kernel)
def t_row_read (a : Ax) : TS :=
  (tSeq (tIfS (tNot (tB (tCB (rIsi a.K) (tCons (tVar 0) (tCons (tC (.ty "str")) tNil)))))
      (tRet (tC .non))
      tNext)
    (tSeq (tIfS (tTest (tOp rEq (tVar 0) (tC (.str "even"))))
      (tRet (StX.tMakeR a.R (spRow a) L2.E0 tNil))
      tNext)
    (tSeq (tAsg (tM1 rSplit (tVar 0) (tC (.str " "))) (gName 1))
    (tSeq (tIfS (tNot (tB (tCall (sp_is_group a) [] L2.E0 (tCons (tCB (rTupQ a.K) (tCons (tLc (iList a.K (tVar 1)) (gName 4) tYes (tSl rSlS (tVar 4) tNoPart (tPart (tUn (rU fun i => .int (-i)) (tC (.int 1))))) [4]) tNil)) tNil))))
      (tRet (tC .non))
      tNext)
    (tSeq (tAsg (tLc (iList a.K (tVar 1)) (gName 4) (tTest (tOp rEq (tOp rIxS (tVar 4) (tUn (rU fun i => .int (-i)) (tC (.int 1)))) (tC (.str "+")))) (tSl rSlS (tVar 4) tNoPart (tPart (tUn (rU fun i => .int (-i)) (tC (.int 1))))) [4]) (gName 2))
    (tSeq (tAsg (tLc (iList a.K (tVar 1)) (gName 4) (tTest (tOp rEq (tOp rIxS (tVar 4) (tUn (rU fun i => .int (-i)) (tC (.int 1)))) (tC (.str "-")))) (tSl rSlS (tVar 4) tNoPart (tPart (tUn (rU fun i => .int (-i)) (tC (.int 1))))) [4]) (gName 3))
    (tSeq (tIfS (tTest (tOp rNe (tOp rAddI (tCB (rLenQ a.K) (tCons (tVar 2) tNil)) (tCB (rLenQ a.K) (tCons (tVar 3) tNil))) (tCB (rLenQ a.K) (tCons (tVar 1) tNil))))
      (tRet (tC .non))
      tNext)
    (tRet (StX.tMakeR a.R (spRow a) L2.E0 (tCons (tVar 2) (tCons (tVar 3) tNil)))))))))))
abbrev s_row_neg : Stmt := inClass (top 34) 9
abbrev n_row_neg : List Str := ["self"]
theorem sc_row_neg : FnScope n_row_neg ["self"] (defScope s_row_neg) := C8.fnScope_by (by decide +kernel)
def t_row_neg (a : Ax) : TS :=
  (tRet (StX.tMakeR a.R (spRow a) L2.E0 (tCons (tFld a.K (tVar 0) "con") (tCons (tFld a.K (tVar 0) "pro") tNil))))
abbrev s_order_init : Stmt := inClass (top 37) 0
abbrev n_order_init : List Str := ["self", "reasons", "spots", "at", "reason"]
theorem sc_order_init : FnScope n_order_init ["self", "reasons"] (defScope s_order_init) := C8.fnScope_by (by decide +kernel)
def t_order_init (a : Ax) : TS :=
  (tSeq (tIfS (tTest (tOp rEq (tCB (rLenQ a.K) (tCons (tVar 1) tNil)) (tC (.int 0))))
      tNever
      tNext)
    (tSeq (tAsg tDNewK (gName 2))
    (tSeq (tFor (iEnumT a.K (tCons (tVar 1) tNil)) (gTup a.K 2 (gCons (gName 3) (gCons (gName 4) gNil)))
      (tSeq (tIfS (tOr (tNot (tB (tCall (sp_is_name a) [] L2.E0 (tCons (tVar 4) tNil)))) (tOr (tB (tDIn (tVar 4) (tVar 2))) (tTest (tOp rEq (tVar 3) (tC (.int 7))))))
        tNever
        tNext)
      (sDPut (tVar 2) (tVar 4) (tVar 3))))
    (tSeq (sFld a.K (tVar 0) (tCB (rListQ a.K) (tCons (tVar 1) tNil)) "ranked")
    (tSeq (sFld a.K (tVar 0) (tVar 2) "spots")
    (sFld a.K (tVar 0) (tCB (rTupQ a.K) (tCons (tCB (rSortedS a.K) (tCons (tCB (rListQ a.K) (tCons (tVar 1) tNil)) tNil)) tNil)) "reasons"))))))
abbrev s_order_decides : Stmt := inClass (top 37) 4
abbrev n_order_decides : List Str := ["self", "row", "reason"]
theorem sc_order_decides : FnScope n_order_decides ["self", "row"] (defScope s_order_decides) := C8.fnScope_by (by decide +kernel)
def t_order_decides (a : Ax) : TS :=
  (tSeq (tFor (iTup a.K (tFld a.K (tVar 1) "named")) (gName 2)
      (tIfS (tB (tDNotIn (tVar 2) (tFld a.K (tVar 0) "spots")))
        tNever
        tNext))
    (tSeq (tFor (iList a.K (tFld a.K (tVar 0) "ranked")) (gName 2)
      (tIfS (tTest (tOp (rIn a.K false) (tVar 2) (tFld a.K (tVar 1) "named")))
        (tRet (tVar 2))
        tNext))
    (tRet (tC .non))))
abbrev s_order_bears : Stmt := inClass (top 37) 5
abbrev n_order_bears : List Str := ["self", "row", "reason"]
theorem sc_order_bears : FnScope n_order_bears ["self", "row"] (defScope s_order_bears) := C8.fnScope_by (by decide +kernel)
def t_order_bears (a : Ax) : TS :=
  (tSeq (tAsg (tMeth a.O "decides" (sp_order_decides a) [] L2.E0 (tVar 0) (tCons (tVar 1) tNil)) (gName 2))
    (tRet (tOrV (tOp rIsN (tVar 2) (tC .non)) (tOp (rIn a.K false) (tVar 2) (tFld a.K (tVar 1) "pro")))))
abbrev s_order_read : Stmt := inClass (top 37) 8
abbrev n_order_read : List Str := ["text", "reasons"]
theorem sc_order_read : FnScope n_order_read ["text"] (defScope s_order_read) := C8.fnScope_by (by decide +kernel)
def t_order_read (a : Ax) : TS :=
  (tSeq (tIfS (tNot (tB (tCB (rIsi a.K) (tCons (tVar 0) (tCons (tC (.ty "str")) tNil)))))
      (tRet (tC .non))
      tNext)
    (tSeq (tAsg (tM1 rSplit (tVar 0) (tC (.str " > "))) (gName 1))
    (tSeq (tIfS (tOr (tTest (tOp rGtI (tCB (rLenQ a.K) (tCons (tVar 1) tNil)) (tC (.int 7)))) (tNot (tB (tCall (sp_is_names a) [] L2.E0 (tCons (tVar 1) tNil)))))
      (tRet (tC .non))
      tNext)
    (tRet (StX.tMakeR a.O (spOrd a) L2.E0 (StX.tStar a.K (tVar 1) tNil))))))
abbrev s_lines_of : Stmt := top 39
abbrev n_lines_of : List Str := ["text", "parts", "last", "lines", "part"]
theorem sc_lines_of : FnScope n_lines_of ["text"] (defScope s_lines_of) := C8.fnScope_by (by decide +kernel)
def t_lines_of (a : Ax) : TS :=
  (tSeq (tAsg (tM1 rSplit (tVar 0) (tC (.str "\n"))) (gName 1))
    (tSeq (tAsg (tBM0 a.K "list" rPop (tVar 1)) (gName 2))
    (tSeq (tAsg (tLc (iList a.K (tVar 1)) (gName 4) tYes (tTup (tCons (tVar 4) (tCons (tC (.bl true)) tNil))) [4]) (gName 3))
    (tSeq (tIfS (tTest (tOp rNe (tVar 2) (tC (.str ""))))
      (tDrop (tBM a.K "list" rAppend (tVar 3) (tCons (tTup (tCons (tVar 2) (tCons (tC (.bl false)) tNil))) tNil)))
      tNext)
    (tRet (tVar 3))))))
abbrev s_is_record : Stmt := top 42
abbrev n_is_record : List Str := ["value"]
theorem sc_is_record : FnScope n_is_record ["value"] (defScope s_is_record) := C8.fnScope_by (by decide +kernel)
def t_is_record (a : Ax) : TS :=
  (tSeq (tIfS (tOr (tNot (tB (tCB (rIsi a.K) (tCons (tVar 0) (tCons (tC (.ty "tuple")) tNil))))) (tTest (tOp rNe (tCB (rLenQ a.K) (tCons (tVar 0) tNil)) (tC (.int 2)))))
      (tRet (tC (.bl false)))
      tNext)
    (tRet (tAndV (tCall (sp_is_name a) [] L2.E0 (tCons (tOp (rIxT a.K) (tVar 0) (tC (.int 0))) tNil)) (tCB (rIsi a.K) (tCons (tOp (rIxT a.K) (tVar 0) (tC (.int 1))) (tCons (tC (.ref a.R)) tNil))))))
abbrev s_stranger : Stmt := top 43
abbrev n_stranger : List Str := ["row", "reasons", "reason"]
theorem sc_stranger : FnScope n_stranger ["row", "reasons"] (defScope s_stranger) := C8.fnScope_by (by decide +kernel)
def t_stranger (a : Ax) : TS :=
  (tSeq (tFor (iTup a.K (tFld a.K (tVar 0) "named")) (gName 2)
      (tIfS (tTest (tOp (rIn a.K true) (tVar 2) (tVar 1)))
        (tRet (tVar 2))
        tNext))
    (tRet (tC .non)))
abbrev s_book_init : Stmt := inClass (top 44) 1
abbrev n_book_init : List Str := ["self", "reasons", "records", "at", "record", "by_mark", "mark", "row", "reason"]
theorem sc_book_init : FnScope n_book_init ["self", "reasons", "records"] (defScope s_book_init) := C8.fnScope_by (by decide +kernel)
def t_book_init (a : Ax) : TS :=
  (tSeq (tIfS (tOr (tNot (tB (tCall (sp_is_names a) [] L2.E0 (tCons (tVar 1) tNil)))) (tNot (tTest (tChain rLeI rLeI (tC (.int 1)) (tCB (rLenQ a.K) (tCons (tVar 1) tNil)) (tC (.int 7))))))
      tNever
      tNext)
    (tSeq (tFor (iEnumT a.K (tCons (tVar 2) tNil)) (gTup a.K 2 (gCons (gName 3) (gCons (gName 4) gNil)))
      (tIfS (tNot (tB (tCall (sp_is_record a) [] L2.E0 (tCons (tVar 4) tNil))))
        tNever
        tNext))
    (tSeq (tIfS (tTest (tOp rGtI (tCB (rLenQ a.K) (tCons (tVar 2) tNil)) (ClX.tCVal a.K (tC (.ref a.B)) "MOST")))
      tNever
      tNext)
    (tSeq (tAsg tDNewK (gName 5))
    (tSeq (tFor (iTup a.K (tVar 2)) (gTup a.K 2 (gCons (gName 6) (gCons (gName 7) gNil)))
      (tSeq (tIfS (tB (tDIn (tVar 6) (tVar 5)))
        tNever
        tNext)
      (sDPut (tVar 5) (tVar 6) (tVar 7))))
    (tSeq (tFor (iTup a.K (tVar 2)) (gTup a.K 2 (gCons (gName 6) (gCons (gName 7) gNil)))
      (tSeq (tAsg (tCall (sp_stranger a) [] L2.E0 (tCons (tVar 7) (tCons (tVar 1) tNil))) (gName 8))
      (tIfS (tTest (tOp rNotN (tVar 8) (tC .non)))
        tNever
        tNext)))
    (tSeq (sFld a.K (tVar 0) (tCB (rTupZ a.K) (tCons (tCB (rSortedS a.K) (tCons (tCB (rListQ a.K) (tCons (tVar 1) tNil)) tNil)) tNil)) "reasons")
    (sFld a.K (tVar 0) (tVar 5) "by_mark"))))))))
abbrev s_book_records : Stmt := inClass (top 44) 2
abbrev n_book_records : List Str := ["self"]
theorem sc_book_records : FnScope n_book_records ["self"] (defScope s_book_records) := C8.fnScope_by (by decide +kernel)
def t_book_records (a : Ax) : TS :=
  (tRet (LiI.tListItems (tFld a.K (tVar 0) "by_mark")))
abbrev s_book_rows : Stmt := inClass (top 44) 4
abbrev n_book_rows : List Str := ["self"]
theorem sc_book_rows : FnScope n_book_rows ["self"] (defScope s_book_rows) := C8.fnScope_by (by decide +kernel)
def t_book_rows (a : Ax) : TS :=
  (tRet (tListValues (tFld a.K (tVar 0) "by_mark")))
abbrev s_book_with : Stmt := top 45
abbrev n_book_with : List Str := ["reasons", "records", "book", "mark", "row"]
theorem sc_book_with : FnScope n_book_with ["reasons", "records"] (defScope s_book_with) := C8.fnScope_by (by decide +kernel)
def t_book_with (a : Ax) : TS :=
  (tSeq (tAsg (StX.tMakeR a.B (spBook a) L2.E0 (tCons (tVar 0) tNil)) (gName 2))
    (tSeq (sFld a.K (tVar 2) (tDc (iList a.K (tVar 1)) (gTup a.K 2 (gCons (gName 3) (gCons (gName 4) gNil))) tYes (tVar 3) (tVar 4) [3, 4]) "by_mark")
    (tRet (tVar 2))))
abbrev s_book_grown : Stmt := inClass (top 44) 8
abbrev n_book_grown : List Str := ["self", "rows", "row", "reason", "records", "index"]
theorem sc_book_grown : FnScope n_book_grown ["self", "rows"] (defScope s_book_grown) := C8.fnScope_by (by decide +kernel)
def t_book_grown (a : Ax) : TS :=
  (tSeq (tFor (iList a.K (tVar 1)) (gName 2)
      (tSeq (tAsg (tCall (sp_stranger a) [] L2.E0 (tCons (tVar 2) (tCons (tFld a.K (tVar 0) "reasons") tNil))) (gName 3))
      (tIfS (tTest (tOp rNotN (tVar 3) (tC .non)))
        tNever
        tNext)))
    (tSeq (tAsg (tMeth a.B "records" (sp_book_records a) [] L2.E0 (tVar 0) tNil) (gName 4))
    (tSeq (tAsg (tC (.int 0)) (gName 5))
    (tSeq (tFor (iList a.K (tVar 1)) (gName 2)
      (tSeq (tWhile (tB (tDIn (tCall (sp_nth_mark a) [] L2.E0 (tCons (tVar 5) tNil)) (tFld a.K (tVar 0) "by_mark")))
        (tAug 5 (tC (.int 1)) (ipI fun i j => i + j)))
      (tSeq (tDrop (tBM a.K "list" rAppend (tVar 4) (tCons (tTup (tCons (tCall (sp_nth_mark a) [] L2.E0 (tCons (tVar 5) tNil)) (tCons (tVar 2) tNil))) tNil)))
      (tAug 5 (tC (.int 1)) (ipI fun i j => i + j)))))
    (tRet (tCall (sp_book_with a) [] L2.E0 (tCons (tFld a.K (tVar 0) "reasons") (tCons (tVar 4) tNil))))))))
abbrev s_book_text : Stmt := inClass (top 44) 11
abbrev n_book_text : List Str := ["self", "reasons", "lines", "mark", "row"]
theorem sc_book_text : FnScope n_book_text ["self"] (defScope s_book_text) := C8.fnScope_by (by decide +kernel)
def t_book_text (a : Ax) : TS :=
  (tSeq (tAsg (tM1 (rJoin a.K) (tC (.str " ")) (tFld a.K (tVar 0) "reasons")) (gName 1))
    (tSeq (tAsg (tLst (tCons (tJoined [(tC (.str "reasons ")), (tFmt (tVar 1)), (tC (.str "\n"))]) tNil)) (gName 2))
    (tSeq (tLock (tFor (iItems (tFld a.K (tVar 0) "by_mark")) (gTup a.K 2 (gCons (gName 3) (gCons (gName 4) gNil)))
      (tDrop (tBM a.K "list" rAppend (tVar 2) (tCons (tJoined [(tC (.str "row ")), (tFmt (tVar 3)), (tC (.str " ")), (tFmt (tMeth a.R "text" (sp_row_text a) [] L2.E0 (tVar 4) tNil)), (tC (.str "\n"))]) tNil)))))
    (tRet (tM1 (rJoin a.K) (tC (.str "")) (tVar 2))))))
abbrev s_head_flaw : Stmt := top 46
abbrev n_head_flaw : List Str := ["line", "words", "reasons"]
theorem sc_head_flaw : FnScope n_head_flaw ["line"] (defScope s_head_flaw) := C8.fnScope_by (by decide +kernel)
def t_head_flaw (a : Ax) : TS :=
  (tSeq (tAsg (tM1 rSplit (tVar 0) (tC (.str " "))) (gName 1))
    (tSeq (tAsg (tSl (rSlL a.K) (tVar 1) (tPart (tC (.int 1))) tNoPart) (gName 2))
    (tSeq (tIfS (tOr (tTest (tOp rNe (tOp (rIxL a.K) (tVar 1) (tC (.int 0))) (tC (.str "reasons")))) (tOr (tTest (tOp (rEqD a.K) (tVar 2) (tLst tNil))) (tNot (tB (tCall (sp_is_group a) [] L2.E0 (tCons (tCB (rTupQ a.K) (tCons (tVar 2) tNil)) tNil))))))
      (tRet (tC (.str "form")))
      tNext)
    (tRet (tIf (tTest (tOp rGtI (tCB (rLenQ a.K) (tCons (tVar 2) tNil)) (tC (.int 7)))) (tC (.str "many")) (tC .non))))))
abbrev s_record_of : Stmt := top 47
abbrev n_record_of : List Str := ["line", "words", "row"]
theorem sc_record_of : FnScope n_record_of ["line"] (defScope s_record_of) := C8.fnScope_by (by decide +kernel)
def t_record_of (a : Ax) : TS :=
  (tSeq (tAsg (tM1 rSplit (tVar 0) (tC (.str " "))) (gName 1))
    (tSeq (tIfS (tOr (tTest (tOp rLtI (tCB (rLenQ a.K) (tCons (tVar 1) tNil)) (tC (.int 3)))) (tOr (tTest (tOp rNe (tOp (rIxL a.K) (tVar 1) (tC (.int 0))) (tC (.str "row")))) (tNot (tB (tCall (sp_is_name a) [] L2.E0 (tCons (tOp (rIxL a.K) (tVar 1) (tC (.int 1))) tNil))))))
      (tRet (tC .non))
      tNext)
    (tSeq (tAsg (tCall (sp_row_read a) [] L2.E0 (tCons (tM1 (rJoin a.K) (tC (.str " ")) (tSl (rSlL a.K) (tVar 1) (tPart (tC (.int 2))) tNoPart)) tNil)) (gName 2))
    (tRet (tIf (tTest (tOp rIsN (tVar 2) (tC .non))) (tC .non) (tTup (tCons (tOp (rIxL a.K) (tVar 1) (tC (.int 1))) (tCons (tVar 2) tNil))))))))
abbrev s_record_flaw : Stmt := top 48
abbrev n_record_flaw : List Str := ["line", "reasons", "records", "record", "mark", "row"]
theorem sc_record_flaw : FnScope n_record_flaw ["line", "reasons", "records"] (defScope s_record_flaw) := C8.fnScope_by (by decide +kernel)
def t_record_flaw (a : Ax) : TS :=
  (tSeq (tAsg (tCall (sp_record_of a) [] L2.E0 (tCons (tVar 0) tNil)) (gName 3))
    (tSeq (tIfS (tTest (tOp rIsN (tVar 3) (tC .non)))
      (tRet (tC (.str "form")))
      tNext)
    (tSeq (tIfS (tTest (tOp rEq (tCB (rLenQ a.K) (tCons (tVar 2) tNil)) (ClX.tCVal a.K (tC (.ref a.B)) "MOST")))
      (tRet (tC (.str "many")))
      tNext)
    (tSeq (tIfS (tTest (tOp (rIn a.K false) (tOp (rIxT a.K) (tVar 3) (tC (.int 0))) (tLc (iList a.K (tVar 2)) (gTup a.K 2 (gCons (gName 4) (gCons (gName 5) gNil))) tYes (tVar 4) [4, 5])))
      (tRet (tC (.str "double")))
      tNext)
    (tRet (tIf (tTest (tOp rIsN (tCall (sp_stranger a) [] L2.E0 (tCons (tOp (rIxT a.K) (tVar 3) (tC (.int 1))) (tCons (tVar 1) tNil))) (tC .non))) (tC .non) (tC (.str "unknown"))))))))
abbrev s_book_read : Stmt := inClass (top 44) 12
abbrev n_book_read : List Str := ["text", "reasons", "records", "at", "line", "whole", "why"]
theorem sc_book_read : FnScope n_book_read ["text"] (defScope s_book_read) := C8.fnScope_by (by decide +kernel)
def t_book_read (a : Ax) : TS :=
  (tSeq (tIfS (tNot (tB (tCB (rIsi a.K) (tCons (tVar 0) (tCons (tC (.ty "str")) tNil)))))
      tNever
      tNext)
    (tSeq (tIfS (tTest (tOp rEq (tVar 0) (tC (.str ""))))
      tNever
      tNext)
    (tSeq (tAsg (tLst tNil) (gName 1))
    (tSeq (tAsg (tLst tNil) (gName 2))
    (tSeq (tFor (iEnum a.K (tCons (tCall (sp_lines_of a) [] L2.E0 (tCons (tVar 0) tNil)) tNil)) (gTup a.K 2 (gCons (gName 3) (gCons (gTup a.K 2 (gCons (gName 4) (gCons (gName 5) gNil))) gNil)))
      (tSeq (tIfS (tNot (tB (tVar 5)))
        tNever
        tNext)
      (tSeq (tAsg (tIf (tTest (tOp rEq (tVar 3) (tC (.int 0)))) (tCall (sp_head_flaw a) [] L2.E0 (tCons (tVar 4) tNil)) (tCall (sp_record_flaw a) [] L2.E0 (tCons (tVar 4) (tCons (tVar 1) (tCons (tVar 2) tNil))))) (gName 6))
      (tSeq (tIfS (tTest (tOp rNotN (tVar 6) (tC .non)))
        tNever
        tNext)
      (tIfS (tTest (tOp rEq (tVar 3) (tC (.int 0))))
        (tAsg (tSl (rSlL a.K) (tM1 rSplit (tVar 4) (tC (.str " "))) (tPart (tC (.int 1))) tNoPart) (gName 1))
        (tDrop (tBM a.K "list" rAppend (tVar 2) (tCons (tCall (sp_record_of a) [] L2.E0 (tCons (tVar 4) tNil)) tNil))))))))
    (tRet (StX.tMakeR a.B (spBook a) L2.E0 (tCons (tVar 1) (StX.tStar a.K (tVar 2) tNil)))))))))
abbrev s_book_add : Stmt := inClass (top 44) 13
abbrev n_book_add : List Str := ["self", "record", "records"]
theorem sc_book_add : FnScope n_book_add ["self", "record"] (defScope s_book_add) := C8.fnScope_by (by decide +kernel)
def t_book_add (a : Ax) : TS :=
  (tSeq (tAsg (tLst (StX.tStar a.K (tMeth a.B "records" (sp_book_records a) [] L2.E0 (tVar 0) tNil) (tCons (tVar 1) tNil))) (gName 2))
    (tRet (StX.tMakeR a.B (spBook a) L2.E0 (tCons (tFld a.K (tVar 0) "reasons") (StX.tStar a.K (tVar 2) tNil)))))
abbrev s_full_mask : Stmt := top 50
abbrev n_full_mask : List Str := ["reasons"]
theorem sc_full_mask : FnScope n_full_mask ["reasons"] (defScope s_full_mask) := C8.fnScope_by (by decide +kernel)
def t_full_mask (a : Ax) : TS :=
  (tRet (tOp rSubI (tOp rShlI (tC (.int 1)) (tCB (rLenQ a.K) (tCons (tVar 0) tNil))) (tC (.int 1))))
abbrev s_mask_of : Stmt := top 51
abbrev n_mask_of : List Str := ["reasons", "names", "mask", "name"]
theorem sc_mask_of : FnScope n_mask_of ["reasons", "names"] (defScope s_mask_of) := C8.fnScope_by (by decide +kernel)
def t_mask_of (a : Ax) : TS :=
  (tSeq (tAsg (tC (.int 0)) (gName 2))
    (tSeq (tFor (iTup a.K (tVar 1)) (gName 3)
      (tAsg (tOp rOrI (tVar 2) (tOp rShlI (tC (.int 1)) (tTIx a.K (tVar 0) (tCons (tVar 3) tNil)))) (gName 2)))
    (tRet (tVar 2))))
abbrev s_side_masks : Stmt := top 52
abbrev n_side_masks : List Str := ["reasons", "row"]
theorem sc_side_masks : FnScope n_side_masks ["reasons", "row"] (defScope s_side_masks) := C8.fnScope_by (by decide +kernel)
def t_side_masks (a : Ax) : TS :=
  (tRet (tTup (tCons (tCall (sp_mask_of a) [] L2.E0 (tCons (tVar 0) (tCons (tFld a.K (tVar 1) "pro") tNil))) (tCons (tCall (sp_mask_of a) [] L2.E0 (tCons (tVar 0) (tCons (tFld a.K (tVar 1) "con") tNil))) tNil))))
abbrev s_row_masks : Stmt := top 53
abbrev n_row_masks : List Str := ["book", "row"]
theorem sc_row_masks : FnScope n_row_masks ["book"] (defScope s_row_masks) := C8.fnScope_by (by decide +kernel)
def t_row_masks (a : Ax) : TS :=
  (tRet (tLc (iList a.K (tMeth a.B "rows" (sp_book_rows a) [] L2.E0 (tVar 0) tNil)) (gName 1) tYes (tCall (sp_side_masks a) [] L2.E0 (tCons (tFld a.K (tVar 0) "reasons") (tCons (tVar 1) tNil))) [1]))
abbrev s_blocked_mask : Stmt := top 54
abbrev n_blocked_mask : List Str := ["pairs", "taken", "blocked", "pro", "con"]
theorem sc_blocked_mask : FnScope n_blocked_mask ["pairs", "taken"] (defScope s_blocked_mask) := C8.fnScope_by (by decide +kernel)
def t_blocked_mask (a : Ax) : TS :=
  (tSeq (tAsg (tC (.int 0)) (gName 2))
    (tSeq (tFor (iList a.K (tVar 0)) (gTup a.K 2 (gCons (gName 3) (gCons (gName 4) gNil)))
      (tIfS (tTest (tOp rEq (tOp rAndI (tVar 3) (tVar 1)) (tC (.int 0))))
        (tAsg (tOp rOrI (tVar 2) (tVar 4)) (gName 2))
        tNext))
    (tRet (tVar 2))))
abbrev s_coming_mask : Stmt := top 55
abbrev n_coming_mask : List Str := ["pairs", "taken", "room"]
theorem sc_coming_mask : FnScope n_coming_mask ["pairs", "taken", "room"] (defScope s_coming_mask) := C8.fnScope_by (by decide +kernel)
def t_coming_mask (a : Ax) : TS :=
  (tRet (tOp rAndI (tOp rAndI (tVar 2) (tUn rInvI (tVar 1))) (tUn rInvI (tCall (sp_blocked_mask a) [] L2.E0 (tCons (tVar 0) (tCons (tVar 1) tNil))))))
abbrev s_greatest_within : Stmt := top 56
abbrev n_greatest_within : List Str := ["pairs", "room", "taken", "coming"]
theorem sc_greatest_within : FnScope n_greatest_within ["pairs", "room"] (defScope s_greatest_within) := C8.fnScope_by (by decide +kernel)
def t_greatest_within (a : Ax) : TS :=
  (tSeq (tAsg (tC (.int 0)) (gName 2))
    (tSeq (tAsg (tCall (sp_coming_mask a) [] L2.E0 (tCons (tVar 0) (tCons (tVar 2) (tCons (tVar 1) tNil)))) (gName 3))
    (tSeq (tWhile (tTest (tOp rNe (tVar 3) (tC (.int 0))))
      (tSeq (tAsg (tOp rOrI (tVar 2) (tVar 3)) (gName 2))
      (tAsg (tCall (sp_coming_mask a) [] L2.E0 (tCons (tVar 0) (tCons (tVar 2) (tCons (tVar 1) tNil)))) (gName 3))))
    (tRet (tVar 2)))))
abbrev s_layered_mask : Stmt := top 58
abbrev n_layered_mask : List Str := ["book"]
theorem sc_layered_mask : FnScope n_layered_mask ["book"] (defScope s_layered_mask) := C8.fnScope_by (by decide +kernel)
def t_layered_mask (a : Ax) : TS :=
  (tRet (tCall (sp_greatest_within a) [] L2.E0 (tCons (tCall (sp_row_masks a) [] L2.E0 (tCons (tVar 0) tNil)) (tCons (tCall (sp_full_mask a) [] L2.E0 (tCons (tFld a.K (tVar 0) "reasons") tNil)) tNil))))
abbrev s_stands : Stmt := top 59
abbrev n_stands : List Str := ["book"]
theorem sc_stands : FnScope n_stands ["book"] (defScope s_stands) := C8.fnScope_by (by decide +kernel)
def t_stands (a : Ax) : TS :=
  (tRet (tOp rEq (tCall (sp_layered_mask a) [] L2.E0 (tCons (tVar 0) tNil)) (tCall (sp_full_mask a) [] L2.E0 (tCons (tFld a.K (tVar 0) "reasons") tNil))))
abbrev s_unborne : Stmt := top 22
abbrev n_unborne : List Str := ["book", "order", "mark", "row"]
theorem sc_unborne : FnScope n_unborne ["book", "order"] (defScope s_unborne) := C8.fnScope_by (by decide +kernel)
def t_unborne (a : Ax) : TS :=
  (tSeq (tIfS (tTest (tOp (rNeD a.K) (tFld a.K (tVar 1) "reasons") (tFld a.K (tVar 0) "reasons")))
      tNever
      tNext)
    (tRet (tCB (rTupQ a.K) (tCons (tLc (iList a.K (tMeth a.B "records" (sp_book_records a) [] L2.E0 (tVar 0) tNil)) (gTup a.K 2 (gCons (gName 2) (gCons (gName 3) gNil))) (tNot (tB (tMeth a.O "bears" (sp_order_bears a) [] L2.E0 (tVar 1) (tCons (tVar 3) tNil)))) (tVar 2) [2, 3]) tNil))))
abbrev s_fits : Stmt := top 23
abbrev n_fits : List Str := ["book", "order"]
theorem sc_fits : FnScope n_fits ["book", "order"] (defScope s_fits) := C8.fnScope_by (by decide +kernel)
def t_fits (a : Ax) : TS :=
  (tRet (tOp rEq (tCB (rLenQ a.K) (tCons (tCall (sp_unborne a) [] L2.E0 (tCons (tVar 0) (tCons (tVar 1) tNil))) tNil)) (tC (.int 0))))
abbrev s_law_bag : Stmt := top 61
abbrev n_law_bag : List Str := ["_law_script", "_law_held", "_law_start", "_law_cell"]
theorem sc_law_bag : FnScope n_law_bag ["_law_script"] (defScope s_law_bag) := C8.fnScope_by (by decide +kernel)
def t_law_bag (a : Ax) : TS :=
  (tSeq (tAsg (tLc (iList a.K (tSl (rSlL a.K) (tVar 0) tNoPart (tPart (tC (.int 63))))) (gName 3) tYes (tCB rIntQ (tCons (tVar 3) tNil)) [3]) (gName 1))
    (tSeq (tAsg (tC (.int 12034345)) (gName 2))
    (tSeq (tFor (iList a.K (tVar 1)) (gName 3)
      (tAsg (tOp rModI (tCB rIntQ (tCons (tOp rAddI (tOp rAddI (tOp rMulI (tVar 2) (tC (.int 40507))) (tOp rModI (tCB rIntQ (tCons (tVar 3) tNil)) (tC (.int 2147483587)))) (tC (.int 59))) tNil)) (tC (.int 2147483629))) (gName 2)))
    (tRet (tLst (tCons (tVar 1) (tCons (tC (.int 0)) (tCons (tC (.int 0)) (tCons (tVar 2) (tCons (tC (.int 0)) tNil))))))))))
abbrev s_law_take : Stmt := top 62
abbrev n_law_take : List Str := ["_law_bag_here", "_law_many", "_law_cell", "_law_digit", "_law_blend"]
theorem sc_law_take : FnScope n_law_take ["_law_bag_here", "_law_many"] (defScope s_law_take) := C8.fnScope_by (by decide +kernel)
def t_law_take (a : Ax) : TS :=
  (C8.tCut (tIfS (tAnd (tTest (tOp rEq (tOp (rIxL a.K) (tVar 0) (tC (.int 2))) (tC (.int 0)))) (tTest (tOp rLtI (tOp (rIxL a.K) (tVar 0) (tC (.int 1))) (tCB (rLenA a.K) (tCons (tOp (rIxL a.K) (tVar 0) (tC (.int 0))) tNil)))))
      (tSeq (tAsg (tOp (rIx a.K) (tOp (rIxL a.K) (tVar 0) (tC (.int 0))) (tOp (rIxL a.K) (tVar 0) (tC (.int 1)))) (gName 2))
      (tSeq (tAsg (tOp rAddI (tOp (rIxL a.K) (tVar 0) (tC (.int 1))) (tC (.int 1))) (gSub (tVar 0) (tC (.int 1)) rSetL))
      (tIfS (tTest (tOp rGeI (tVar 2) (tOp rPowI (tC (.int 10)) (tC (.int 18)))))
        (tAsg (tVar 2) (gSub (tVar 0) (tC (.int 2)) rSetL))
        (tAsg (tOp rModI (tCB rIntQ (tCons (tOp rAddI (tOp rAddI (tOp rMulI (tOp (rIxL a.K) (tVar 0) (tC (.int 3))) (tC (.int 30871))) (tOp rModI (tCB rIntQ (tCons (tVar 2) tNil)) (tC (.int 2147483477)))) (tC (.int 17))) tNil)) (tC (.int 2147483587))) (gSub (tVar 0) (tC (.int 3)) rSetL)))))
      tNext)
    (tSeq (tIfS (tTest (tOp rGtI (tOp (rIxL a.K) (tVar 0) (tC (.int 2))) (tC (.int 0))))
      (tSeq (tAsg (tOp rModI (tCB rIntQ (tCons (tOp (rIxL a.K) (tVar 0) (tC (.int 2))) tNil)) (tVar 1)) (gName 3))
      (tSeq (tAsg (tOp rFdivI (tCB rIntQ (tCons (tOp (rIxL a.K) (tVar 0) (tC (.int 2))) tNil)) (tVar 1)) (gSub (tVar 0) (tC (.int 2)) rSetL))
      (tRet (tVar 3))))
      tNext)
    (tSeq (tAsg (tOp rAddI (tOp (rIxL a.K) (tVar 0) (tC (.int 4))) (tC (.int 1))) (gSub (tVar 0) (tC (.int 4)) rSetL))
    (tSeq (tAsg (tOp rModI (tCB rIntQ (tCons (tOp rAddI (tOp (rIxL a.K) (tVar 0) (tC (.int 3))) (tOp rMulI (tOp (rIxL a.K) (tVar 0) (tC (.int 4))) (tC (.int 6947)))) tNil)) (tC (.int 2147483563))) (gName 4))
    (tSeq (tAsg (tOp rModI (tCB rIntQ (tCons (tOp rAddI (tOp rAddI (tOp rPowI (tVar 4) (tC (.int 3))) (tOp rMulI (tC (.int 50821)) (tVar 4))) (tC (.int 2309))) tNil)) (tC (.int 2147483563))) (gSub (tVar 0) (tC (.int 3)) rSetL))
    (tRet (tOp rModI (tCB rIntQ (tCons (tOp rAddI (tOp rFdivI (tOp (rIxL a.K) (tVar 0) (tC (.int 3))) (tC (.int 59))) (tOp rMulI (tOp rModI (tCB rIntQ (tCons (tOp (rIxL a.K) (tVar 0) (tC (.int 3))) tNil)) (tC (.int 6971))) (tC (.int 41)))) tNil)) (tVar 1))))))))
abbrev s_law_pick : Stmt := top 63
abbrev n_law_pick : List Str := ["_law_bag_here", "_law_some"]
theorem sc_law_pick : FnScope n_law_pick ["_law_bag_here", "_law_some"] (defScope s_law_pick) := C8.fnScope_by (by decide +kernel)
def t_law_pick (a : Ax) : TS :=
  (tRet (tOp (rIx a.K) (tVar 1) (tCall (sp_law_take a) [] L2.E0 (tCons (tVar 0) (tCons (tCB (rLenA a.K) (tCons (tVar 1) tNil)) tNil)))))
abbrev s_law_mixed : Stmt := top 64
abbrev n_law_mixed : List Str := ["_law_bag_here", "_law_some", "_law_found", "_law_thing"]
theorem sc_law_mixed : FnScope n_law_mixed ["_law_bag_here", "_law_some"] (defScope s_law_mixed) := C8.fnScope_by (by decide +kernel)
def t_law_mixed (a : Ax) : TS :=
  (tSeq (tAsg (tLst tNil) (gName 2))
    (tSeq (tFor (iSeq a.K (tVar 1)) (gName 3)
      (tDrop (tBM a.K "list" rInsert (tVar 2) (tCons (tCall (sp_law_take a) [] L2.E0 (tCons (tVar 0) (tCons (tOp rAddI (tCB (rLenQ a.K) (tCons (tVar 2) tNil)) (tC (.int 1))) tNil))) (tCons (tVar 3) tNil)))))
    (tRet (tVar 2))))
abbrev s_law_letters : Stmt := top 65
abbrev n_law_letters : List Str := ["_law_bag_here", "_law_many", "_law_k"]
theorem sc_law_letters : FnScope n_law_letters ["_law_bag_here", "_law_many"] (defScope s_law_letters) := C8.fnScope_by (by decide +kernel)
def t_law_letters (a : Ax) : TS :=
  (tRet (tM1 (rJoin a.K) (tC (.str "")) (tLc (iRng1 (tCons (tVar 1) tNil)) (gName 2) tYes (tCall (sp_law_pick a) [] L2.E0 (tCons (tVar 0) (tCons (tC (.str abc)) tNil))) [2])))
abbrev s_law_signs : Stmt := top 66
abbrev n_law_signs : List Str := ["_law_bag_here", "_law_many", "_law_first", "_law_stride", "_law_k"]
theorem sc_law_signs : FnScope n_law_signs ["_law_bag_here", "_law_many"] (defScope s_law_signs) := C8.fnScope_by (by decide +kernel)
def t_law_signs (a : Ax) : TS :=
  (tSeq (tAsg (tTup (tCons (tCall (sp_law_take a) [] L2.E0 (tCons (tVar 0) (tCons (tC (.int 26)) tNil))) (tCons (tCall (sp_law_pick a) [] L2.E0 (tCons (tVar 0) (tCons (tLst (tCons (tC (.int 1)) (tCons (tC (.int 3)) (tCons (tC (.int 5)) (tCons (tC (.int 7)) (tCons (tC (.int 9)) (tCons (tC (.int 11)) (tCons (tC (.int 15)) (tCons (tC (.int 17)) (tCons (tC (.int 19)) (tCons (tC (.int 21)) (tCons (tC (.int 23)) (tCons (tC (.int 25)) tNil))))))))))))) tNil))) tNil))) (gTup a.K 2 (gCons (gName 2) (gCons (gName 3) gNil))))
    (tRet (tLc (iRng1 (tCons (tVar 1) tNil)) (gName 4) tYes (tOp rIxS (tC (.str abc)) (tOp rModI (tCB rIntQ (tCons (tOp rAddI (tVar 2) (tOp rMulI (tVar 3) (tVar 4))) tNil)) (tC (.int 26)))) [4])))
abbrev s_law_names : Stmt := top 67
abbrev n_law_names : List Str := ["_law_bag_here", "_law_many", "_law_signs_here", "_law_manner", "_law_stem", "_law_at", "_law_known", "_law_found", "_law_k", "_law_free", "_law_sign", "_law_word"]
theorem sc_law_names : FnScope n_law_names ["_law_bag_here", "_law_many"] (defScope s_law_names) := C8.fnScope_by (by decide +kernel)
def t_law_names (a : Ax) : TS :=
  (tSeq (tAsg (tTup (tCons (tCall (sp_law_signs a) [] L2.E0 (tCons (tVar 0) (tCons (tC (.int 7)) tNil))) (tCons (tCall (sp_law_take a) [] L2.E0 (tCons (tVar 0) (tCons (tC (.int 5)) tNil))) tNil))) (gTup a.K 2 (gCons (gName 2) (gCons (gName 3) gNil))))
    (tSeq (tIfS (tTest (tOp rEq (tVar 3) (tC (.int 0))))
      (tSeq (tAsg (tCall (sp_law_letters a) [] L2.E0 (tCons (tVar 0) (tCons (tCall (sp_law_take a) [] L2.E0 (tCons (tVar 0) (tCons (tC (.int 6)) tNil))) tNil))) (gName 4))
      (tSeq (tAsg (tCall (sp_law_take a) [] L2.E0 (tCons (tVar 0) (tCons (tOp rAddI (tCB rLenS (tCons (tVar 4) tNil)) (tC (.int 1))) tNil))) (gName 5))
      (tRet (tLc (iList a.K (tSl (rSlL a.K) (tVar 2) tNoPart (tPart (tVar 1)))) (gName 10) tYes (tOp rAddS (tOp rAddS (tSl rSlS (tVar 4) tNoPart (tPart (tVar 5))) (tVar 10)) (tSl rSlS (tVar 4) (tPart (tVar 5)) tNoPart)) [10]))))
      tNext)
    (tSeq (tIfS (tTest (tOp rEq (tVar 3) (tC (.int 1))))
      (tRet (tLc (iList a.K (tSl (rSlL a.K) (tVar 2) tNoPart (tPart (tVar 1)))) (gName 10) tYes (tOp rAddS (tCall (sp_law_letters a) [] L2.E0 (tCons (tVar 0) (tCons (tCall (sp_law_take a) [] L2.E0 (tCons (tVar 0) (tCons (tC (.int 6)) tNil))) tNil))) (tVar 10)) [10]))
      tNext)
    (tSeq (tIfS (tTest (tOp rEq (tVar 3) (tC (.int 2))))
      (tRet (tCall (sp_law_mixed a) [] L2.E0 (tCons (tVar 0) (tCons (tLc (iRng1 (tCons (tVar 1) tNil)) (gName 8) tYes (tOp rMulS (tOp (rIxL a.K) (tVar 2) (tOp rFdivI (tVar 8) (tC (.int 6)))) (tOp rAddI (tOp rModI (tCB rIntQ (tCons (tVar 8) tNil)) (tC (.int 6))) (tC (.int 1)))) [8]) tNil))))
      tNext)
    (tSeq (tIfS (tTest (tOp rEq (tVar 3) (tC (.int 3))))
      (tSeq (tAsg (tLst (tCons (tC (.str "self")) (tCons (tC (.str "row")) (tCons (tC (.str "book")) (tCons (tC (.str "lot")) (tCons (tC (.str "even")) (tCons (tC (.str "a")) (tCons (tC (.str "b")) (tCons (tC (.str "order")) (tCons (tC (.str "none")) (tCons (tC (.str "true")) (tCons (tC (.str "pro")) (tCons (tC (.str "group")) tNil))))))))))))) (gName 6))
      (tRet (tSl (rSlL a.K) (tCall (sp_law_mixed a) [] L2.E0 (tCons (tVar 0) (tCons (tVar 6) tNil))) tNoPart (tPart (tVar 1)))))
      tNext)
    (tSeq (tAsg (tLst tNil) (gName 7))
    (tSeq (tFor (iRng1 (tCons (tVar 1) tNil)) (gName 8)
      (tSeq (tAsg (tOp rCat (tLst (tCons (tCall (sp_law_letters a) [] L2.E0 (tCons (tVar 0) (tCons (tOp rAddI (tC (.int 1)) (tCall (sp_law_take a) [] L2.E0 (tCons (tVar 0) (tCons (tC (.int 6)) tNil)))) tNil))) tNil)) (tLc (iList a.K (tVar 2)) (gName 10) tYes (tOp rMulS (tVar 10) (tC (.int 6))) [10])) (gName 9))
      (tDrop (tBM a.K "list" rAppend (tVar 7) (tCons (tOp (rIxL a.K) (tLc (iList a.K (tVar 9)) (gName 11) (tTest (tOp (rIn a.K true) (tVar 11) (tVar 7))) (tVar 11) [11]) (tC (.int 0))) tNil)))))
    (tRet (tVar 7)))))))))
abbrev s_law_stranger : Stmt := top 68
abbrev n_law_stranger : List Str := ["_law_bag_here", "_law_names_z", "_law_free", "_law_word"]
theorem sc_law_stranger : FnScope n_law_stranger ["_law_bag_here", "_law_names_z"] (defScope s_law_stranger) := C8.fnScope_by (by decide +kernel)
def t_law_stranger (a : Ax) : TS :=
  (tSeq (tAsg (tLst (tCons (tCall (sp_law_letters a) [] L2.E0 (tCons (tVar 0) (tCons (tOp rAddI (tC (.int 1)) (tCall (sp_law_take a) [] L2.E0 (tCons (tVar 0) (tCons (tC (.int 6)) tNil)))) tNil))) (tCons (tC (.str "z")) (tCons (tC (.str "p")) (tCons (tC (.str "q")) (tCons (tC (.str "zz")) (tCons (tC (.str "none")) (tCons (tC (.str "abcdef")) (tCons (tC (.str "y")) (tCons (tC (.str "self")) tNil)))))))))) (gName 2))
    (tRet (tOp (rIxL a.K) (tLc (iList a.K (tVar 2)) (gName 3) (tTest (tOp (rIn a.K true) (tVar 3) (tVar 1))) (tVar 3) [3]) (tC (.int 0)))))
abbrev s_law_marks : Stmt := top 69
abbrev n_law_marks : List Str := ["_law_bag_here", "_law_names_z", "_law_many", "_law_signs_here", "_law_stem", "_law_fresh_here", "_law_sign"]
theorem sc_law_marks : FnScope n_law_marks ["_law_bag_here", "_law_names_z", "_law_many"] (defScope s_law_marks) := C8.fnScope_by (by decide +kernel)
def t_law_marks (a : Ax) : TS :=
  (tSeq (tAsg (tCall (sp_law_signs a) [] L2.E0 (tCons (tVar 0) (tCons (tC (.int 26)) tNil))) (gName 3))
    (tSeq (tAsg (tIf (tTest (tOp rGtI (tCall (sp_law_take a) [] L2.E0 (tCons (tVar 0) (tCons (tC (.int 3)) tNil))) (tC (.int 0)))) (tCall (sp_law_letters a) [] L2.E0 (tCons (tVar 0) (tCons (tCall (sp_law_take a) [] L2.E0 (tCons (tVar 0) (tCons (tC (.int 5)) tNil))) tNil))) (tC (.str ""))) (gName 4))
    (tSeq (tAsg (tOp rCat (tLc (iList a.K (tVar 3)) (gName 6) tYes (tOp rAddS (tVar 4) (tVar 6)) [6]) (tLc (iList a.K (tVar 3)) (gName 6) tYes (tOp rAddS (tOp rAddS (tVar 4) (tVar 6)) (tOp (rIxL a.K) (tVar 3) (tC (.int 0)))) [6])) (gName 5))
    (tSeq (tIfS (tTest (tOp rEq (tCall (sp_law_take a) [] L2.E0 (tCons (tVar 0) (tCons (tC (.int 3)) tNil))) (tC (.int 0))))
      (tAsg (tOp rCat (tCall (sp_law_mixed a) [] L2.E0 (tCons (tVar 0) (tCons (tVar 1) tNil))) (tLc (iList a.K (tVar 5)) (gName 6) (tTest (tOp (rIn a.K true) (tVar 6) (tVar 1))) (tVar 6) [6])) (gName 5))
      tNext)
    (tRet (tSl (rSlL a.K) (tVar 5) tNoPart (tPart (tVar 2))))))))
abbrev s_law_fresh : Stmt := top 70
abbrev n_law_fresh : List Str := ["_law_signs_here", "_law_many", "_law_letters_here", "_law_found", "_law_sign", "_law_late"]
theorem sc_law_fresh : FnScope n_law_fresh ["_law_signs_here", "_law_many"] (defScope s_law_fresh) := C8.fnScope_by (by decide +kernel)
def t_law_fresh (a : Ax) : TS :=
  (tSeq (tAsg (tLc (iStr (tC (.str abc))) (gName 4) tYes (tVar 4) [4]) (gName 2))
    (tSeq (tAsg (tCB (rListQ a.K) (tCons (tVar 2) tNil)) (gName 3))
    (tSeq (tFor (iList a.K (tVar 2)) (gName 4)
      (tAsg (tOp rCat (tVar 3) (tLc (iList a.K (tVar 2)) (gName 5) tYes (tOp rAddS (tVar 4) (tVar 5)) [5])) (gName 3)))
    (tRet (tSl (rSlL a.K) (tLc (iList a.K (tVar 3)) (gName 4) (tTest (tOp (rIn a.K true) (tVar 4) (tVar 0))) (tVar 4) [4]) tNoPart (tPart (tVar 1)))))))
abbrev s_law_group : Stmt := top 71
abbrev n_law_group : List Str := ["_law_names_z", "_law_mask", "_law_k"]
theorem sc_law_group : FnScope n_law_group ["_law_names_z", "_law_mask"] (defScope s_law_group) := C8.fnScope_by (by decide +kernel)
def t_law_group (a : Ax) : TS :=
  (tRet (tCB (rTupQ a.K) (tCons (tLc (iRng1 (tCons (tCB (rLenQ a.K) (tCons (tVar 0) tNil)) tNil)) (gName 2) (tTest (tOp rEq (tOp rAndI (tOp rShrI (tVar 1) (tVar 2)) (tC (.int 1))) (tC (.int 1)))) (tOp (rIxL a.K) (tVar 0) (tVar 2)) [2]) tNil)))
abbrev s_law_sides : Stmt := top 72
abbrev n_law_sides : List Str := ["_law_bag_here", "_law_many", "_law_dense", "_law_pro_z", "_law_con_z", "_law_k", "_law_sign"]
theorem sc_law_sides : FnScope n_law_sides ["_law_bag_here", "_law_many", "_law_dense"] (defScope s_law_sides) := C8.fnScope_by (by decide +kernel)
def t_law_sides (a : Ax) : TS :=
  (tSeq (tAsg (tTup (tCons (tC (.int 0)) (tCons (tC (.int 0)) tNil))) (gTup a.K 2 (gCons (gName 3) (gCons (gName 4) gNil))))
    (tSeq (tFor (iRng1 (tCons (tVar 1) tNil)) (gName 5)
      (tSeq (tAsg (tCall (sp_law_take a) [] L2.E0 (tCons (tVar 0) (tCons (tVar 2) tNil))) (gName 6))
      (tSeq (tIfS (tTest (tOp rEq (tVar 6) (tC (.int 0))))
        (tAsg (tOp rOrI (tVar 3) (tOp rShlI (tC (.int 1)) (tVar 5))) (gName 3))
        tNext)
      (tIfS (tTest (tOp rEq (tVar 6) (tC (.int 1))))
        (tAsg (tOp rOrI (tVar 4) (tOp rShlI (tC (.int 1)) (tVar 5))) (gName 4))
        tNext))))
    (tRet (tTup (tCons (tVar 3) (tCons (tVar 4) tNil))))))
abbrev s_law_both : Stmt := top 73
abbrev n_law_both : List Str := ["_law_one_z", "_law_late", "_law_con_z"]
theorem sc_law_both : FnScope n_law_both ["_law_one_z", "_law_late"] (defScope s_law_both) := C8.fnScope_by (by decide +kernel)
def t_law_both (a : Ax) : TS :=
  (tSeq (tAsg (tOp rOrI (tOp (rIxT a.K) (tVar 0) (tC (.int 1))) (tOp (rIxT a.K) (tVar 1) (tC (.int 1)))) (gName 2))
    (tRet (tTup (tCons (tOp rAndI (tOp rOrI (tOp (rIxT a.K) (tVar 0) (tC (.int 0))) (tOp (rIxT a.K) (tVar 1) (tC (.int 0)))) (tUn rInvI (tVar 2))) (tCons (tVar 2) tNil)))))
abbrev s_law_leads : Stmt := top 74
abbrev n_law_leads : List Str := ["_law_line_here", "_law_pair", "_law_k"]
theorem sc_law_leads : FnScope n_law_leads ["_law_line_here", "_law_pair"] (defScope s_law_leads) := C8.fnScope_by (by decide +kernel)
def t_law_leads (a : Ax) : TS :=
  (tSeq (tFor (iSeq a.K (tVar 0)) (gName 2)
      (tSeq (tIfS (tTest (tOp rEq (tOp rAndI (tOp rShrI (tOp (rIxT a.K) (tVar 1) (tC (.int 0))) (tVar 2)) (tC (.int 1))) (tC (.int 1))))
        (tRet (tC (.bl true)))
        tNext)
      (tIfS (tTest (tOp rEq (tOp rAndI (tOp rShrI (tOp (rIxT a.K) (tVar 1) (tC (.int 1))) (tVar 2)) (tC (.int 1))) (tC (.int 1))))
        (tRet (tC (.bl false)))
        tNext)))
    (tRet (tC (.bl true))))
abbrev s_law_drawn : Stmt := top 75
abbrev n_law_drawn : List Str := ["_law_bag_here", "_law_many", "_law_low", "_law_most", "_law_line_here", "_law_dense", "_law_found", "_law_k", "_law_act", "_law_pair"]
theorem sc_law_drawn : FnScope n_law_drawn ["_law_bag_here", "_law_many", "_law_low", "_law_most", "_law_line_here"] (defScope s_law_drawn) := C8.fnScope_by (by decide +kernel)
def t_law_drawn (a : Ax) : TS :=
  (tSeq (tPar 5 6 (tCons (tCall (sp_law_pick a) [] L2.E0 (tCons (tVar 0) (tCons (tLst (tCons (tC (.int 3)) (tCons (tC (.int 4)) (tCons (tC (.int 6)) (tCons (tC (.int 3)) tNil))))) tNil))) (tCons (tLst tNil) tNil)))
    (tSeq (tFor (iRng1 (tCons (tOp rAddI (tVar 2) (tCall (sp_law_take a) [] L2.E0 (tCons (tVar 0) (tCons (tOp rSubI (tOp rAddI (tVar 3) (tC (.int 1))) (tVar 2)) tNil)))) tNil)) (gName 7)
      (tSeq (tPar 8 9 (tCons (tCall (sp_law_take a) [] L2.E0 (tCons (tVar 0) (tCons (tC (.int 12)) tNil))) (tCons (tCall (sp_law_sides a) [] L2.E0 (tCons (tVar 0) (tCons (tVar 1) (tCons (tVar 5) tNil)))) tNil)))
      (C8.tCut (tIfS (tTest (tOp rEq (tVar 8) (tC (.int 0))))
        (tAsg (tTup (tCons (tC (.int 0)) (tCons (tC (.int 0)) tNil))) (gName 9))
        tNext)
      (C8.tCut (tIfS (tAnd (tTest (tOp (rNeD a.K) (tVar 6) (tLst tNil))) (tAnd (tTest (tOp rGtI (tVar 8) (tC (.int 0)))) (tTest (tOp rLtI (tVar 8) (tC (.int 4))))))
        (tSeq (tAsg (tCall (sp_law_pick a) [] L2.E0 (tCons (tVar 0) (tCons (tVar 6) tNil))) (gName 9))
        (tSeq (tIfS (tTest (tOp rEq (tVar 8) (tC (.int 2))))
          (tAsg (tTup (tCons (tOp (rIxT a.K) (tVar 9) (tC (.int 1))) (tCons (tOp (rIxT a.K) (tVar 9) (tC (.int 0))) tNil))) (gName 9))
          tNext)
        (tIfS (tTest (tOp rEq (tVar 8) (tC (.int 3))))
          (tAsg (tCall (sp_law_both a) [] L2.E0 (tCons (tVar 9) (tCons (tCall (sp_law_pick a) [] L2.E0 (tCons (tVar 0) (tCons (tVar 6) tNil))) tNil))) (gName 9))
          tNext)))
        tNext)
      (C8.tCut (tIfS (tAnd (tTest (tOp rGtI (tCB (rLenQ a.K) (tCons (tVar 4) tNil)) (tC (.int 0)))) (tNot (tB (tCall (sp_law_leads a) [] L2.E0 (tCons (tVar 4) (tCons (tVar 9) tNil))))))
        (tAsg (tTup (tCons (tOp (rIxT a.K) (tVar 9) (tC (.int 1))) (tCons (tOp (rIxT a.K) (tVar 9) (tC (.int 0))) tNil))) (gName 9))
        tNext)
      (tDrop (tBM a.K "list" rAppend (tVar 6) (tCons (tVar 9) tNil))))))))
    (tRet (tVar 6))))
abbrev s_law_row : Stmt := top 76
abbrev n_law_row : List Str := ["_law_bag_here", "_law_names_z", "_law_pair", "_law_left", "_law_right", "_law_found"]
theorem sc_law_row : FnScope n_law_row ["_law_bag_here", "_law_names_z", "_law_pair"] (defScope s_law_row) := C8.fnScope_by (by decide +kernel)
def t_law_row (a : Ax) : TS :=
  (tSeq (tAsg (tCall (sp_law_mixed a) [] L2.E0 (tCons (tVar 0) (tCons (tCall (sp_law_group a) [] L2.E0 (tCons (tVar 1) (tCons (tOp (rIxT a.K) (tVar 2) (tC (.int 0))) tNil))) tNil))) (gName 3))
    (tSeq (tAsg (tCall (sp_law_mixed a) [] L2.E0 (tCons (tVar 0) (tCons (tCall (sp_law_group a) [] L2.E0 (tCons (tVar 1) (tCons (tOp (rIxT a.K) (tVar 2) (tC (.int 1))) tNil))) tNil))) (gName 4))
    (tSeq (tIfS (tTest (tOp rEq (tCall (sp_law_take a) [] L2.E0 (tCons (tVar 0) (tCons (tC (.int 4)) tNil))) (tC (.int 0))))
      (tRet (tUn (rNeg a.R (sp_row_neg a)) (StX.tMakeR a.R (spRow a) L2.E0 (tCons (tVar 4) (tCons (tVar 3) tNil)))))
      tNext)
    (tSeq (tAsg (StX.tMakeR a.R (spRow a) L2.E0 (tCons (tVar 3) (tCons (tVar 4) tNil))) (gName 5))
    (tSeq (tDrop (tBM a.K "list" rAppend (tVar 3) (tCons (tC (.str "Odd")) tNil)))
    (tRet (tVar 5)))))))
abbrev s_law_page : Stmt := top 77
abbrev n_law_page : List Str := ["_law_bag_here", "_law_pool", "_law_signs_here", "_law_pairs", "_law_names_z", "_law_handed", "_law_page_here", "_law_k"]
theorem sc_law_page : FnScope n_law_page ["_law_bag_here", "_law_pool", "_law_signs_here", "_law_pairs"] (defScope s_law_page) := C8.fnScope_by (by decide +kernel)
def t_law_page (a : Ax) : TS :=
  (tSeq (tPar 4 5 (tCons (tCB (rSortedS a.K) (tCons (tVar 1) tNil)) (tCons (tCB (rListQ a.K) (tCons (tVar 1) tNil)) tNil)))
    (tSeq (tAsg (StX.tMakeR a.B (spBook a) L2.E0 (tCons (tVar 5) tNil)) (gName 6))
    (tSeq (tDrop (tBM a.K "list" rAppend (tVar 5) (tCons (tC (.str "Odd")) tNil)))
    (tSeq (tFor (iRng1 (tCons (tCB (rLenQ a.K) (tCons (tVar 3) tNil)) tNil)) (gName 7)
      (tAsg (tOp (rPlusT a.B (sp_book_add a)) (tVar 6) (tTup (tCons (tOp (rIxL a.K) (tVar 2) (tVar 7)) (tCons (tCall (sp_law_row a) [] L2.E0 (tCons (tVar 0) (tCons (tVar 4) (tCons (tOp (rIxL a.K) (tVar 3) (tVar 7)) tNil)))) tNil)))) (gName 6)))
    (tRet (tVar 6))))))
abbrev s_law_words : Stmt := top 78
abbrev n_law_words : List Str := ["_law_names_z", "_law_pair", "_law_found", "_law_k"]
theorem sc_law_words : FnScope n_law_words ["_law_names_z", "_law_pair"] (defScope s_law_words) := C8.fnScope_by (by decide +kernel)
def t_law_words (a : Ax) : TS :=
  (tSeq (tAsg (tLst tNil) (gName 2))
    (tSeq (tFor (iRng1 (tCons (tCB (rLenQ a.K) (tCons (tVar 0) tNil)) tNil)) (gName 3)
      (tSeq (tIfS (tTest (tOp rEq (tOp rAndI (tOp rShrI (tOp (rIxT a.K) (tVar 1) (tC (.int 0))) (tVar 3)) (tC (.int 1))) (tC (.int 1))))
        (tDrop (tBM a.K "list" rAppend (tVar 2) (tCons (tOp rAddS (tOp (rIxL a.K) (tVar 0) (tVar 3)) (tC (.str "+"))) tNil)))
        tNext)
      (tIfS (tTest (tOp rEq (tOp rAndI (tOp rShrI (tOp (rIxT a.K) (tVar 1) (tC (.int 1))) (tVar 3)) (tC (.int 1))) (tC (.int 1))))
        (tDrop (tBM a.K "list" rAppend (tVar 2) (tCons (tOp rAddS (tOp (rIxL a.K) (tVar 0) (tVar 3)) (tC (.str "-"))) tNil)))
        tNext)))
    (tRet (tIf (tTest (tOp (rNeD a.K) (tVar 2) (tLst tNil))) (tM1 (rJoin a.K) (tC (.str " ")) (tVar 2)) (tC (.str "even"))))))
abbrev s_law_text : Stmt := top 79
abbrev n_law_text : List Str := ["_law_names_z", "_law_signs_here", "_law_pairs", "_law_found", "_law_k"]
theorem sc_law_text : FnScope n_law_text ["_law_names_z", "_law_signs_here", "_law_pairs"] (defScope s_law_text) := C8.fnScope_by (by decide +kernel)
def t_law_text (a : Ax) : TS :=
  (tSeq (tAsg (tOp rAddS (tOp rAddS (tC (.str "reasons ")) (tM1 (rJoin a.K) (tC (.str " ")) (tVar 0))) (tC (.str "\n"))) (gName 3))
    (tSeq (tFor (iRng1 (tCons (tCB (rLenQ a.K) (tCons (tVar 2) tNil)) tNil)) (gName 4)
      (tAsg (tOp rAddS (tOp rAddS (tOp rAddS (tOp rAddS (tOp rAddS (tVar 3) (tC (.str "row "))) (tOp (rIxL a.K) (tVar 1) (tVar 4))) (tC (.str " "))) (tCall (sp_law_words a) [] L2.E0 (tCons (tVar 0) (tCons (tOp (rIxL a.K) (tVar 2) (tVar 4)) tNil)))) (tC (.str "\n"))) (gName 3)))
    (tRet (tVar 3))))
abbrev s_law_line : Stmt := top 80
abbrev n_law_line : List Str := ["_law_names_z", "_law_line_here", "_law_seq", "_law_k"]
theorem sc_law_line : FnScope n_law_line ["_law_names_z", "_law_line_here"] (defScope s_law_line) := C8.fnScope_by (by decide +kernel)
def t_law_line (a : Ax) : TS :=
  (tSeq (tAsg (tLc (iList a.K (tVar 1)) (gName 3) tYes (tOp (rIxL a.K) (tVar 0) (tVar 3)) [3]) (gName 2))
    (tSeq (tIfS (tTest (tOp rEq (tCB (rLenQ a.K) (tCons (tVar 2) tNil)) (tC (.int 1))))
      (tRet (StX.tMakeR a.O (spOrd a) L2.E0 (tCons (tOp (rIxL a.K) (tVar 2) (tC (.int 0))) tNil)))
      tNext)
    (tSeq (tIfS (tTest (tOp rEq (tCB (rLenQ a.K) (tCons (tVar 2) tNil)) (tC (.int 2))))
      (tRet (StX.tMakeR a.O (spOrd a) L2.E0 (tCons (tOp (rIxL a.K) (tVar 2) (tC (.int 0))) (tCons (tOp (rIxL a.K) (tVar 2) (tC (.int 1))) tNil))))
      tNext)
    (tSeq (tIfS (tTest (tOp rEq (tCB (rLenQ a.K) (tCons (tVar 2) tNil)) (tC (.int 3))))
      (tRet (StX.tMakeR a.O (spOrd a) L2.E0 (tCons (tOp (rIxL a.K) (tVar 2) (tC (.int 0))) (tCons (tOp (rIxL a.K) (tVar 2) (tC (.int 1))) (tCons (tOp (rIxL a.K) (tVar 2) (tC (.int 2))) tNil)))))
      tNext)
    (tSeq (tIfS (tTest (tOp rEq (tCB (rLenQ a.K) (tCons (tVar 2) tNil)) (tC (.int 4))))
      (tRet (StX.tMakeR a.O (spOrd a) L2.E0 (tCons (tOp (rIxL a.K) (tVar 2) (tC (.int 0))) (tCons (tOp (rIxL a.K) (tVar 2) (tC (.int 1))) (tCons (tOp (rIxL a.K) (tVar 2) (tC (.int 2))) (tCons (tOp (rIxL a.K) (tVar 2) (tC (.int 3))) tNil))))))
      tNext)
    (tRet (tCall (sp_order_read a) [] L2.E0 (tCons (tM1 (rJoin a.K) (tC (.str " > ")) (tVar 2)) tNil))))))))
abbrev s_law_tries : Stmt := top 81
abbrev n_law_tries : List Str := ["_law_many", "_law_found", "_law_turn", "_law_longer", "_law_line_here", "_law_k"]
theorem sc_law_tries : FnScope n_law_tries ["_law_many"] (defScope s_law_tries) := C8.fnScope_by (by decide +kernel)
def t_law_tries (a : Ax) : TS :=
  (tSeq (tAsg (tLst (tCons (tTup tNil) tNil)) (gName 1))
    (tSeq (tFor (iRng1 (tCons (tVar 0) tNil)) (gName 2)
      (tSeq (tAsg (tLst tNil) (gName 3))
      (tSeq (tFor (iList a.K (tVar 1)) (gName 4)
        (tFor (iRng1 (tCons (tVar 0) tNil)) (gName 5)
          (tIfS (tTest (tOp (rIn a.K true) (tVar 5) (tVar 4)))
            (tDrop (tBM a.K "list" rAppend (tVar 3) (tCons (tOp (rCatA a.K) (tVar 4) (tTup (tCons (tVar 5) tNil))) tNil)))
            tNext)))
      (tAsg (tCB (rListQ a.K) (tCons (tVar 3) tNil)) (gName 1)))))
    (tRet (tVar 1))))
abbrev s_law_fitting : Stmt := top 82
abbrev n_law_fitting : List Str := ["_law_tries_here", "_law_pairs", "_law_found", "_law_pair", "_law_line_here"]
theorem sc_law_fitting : FnScope n_law_fitting ["_law_tries_here", "_law_pairs"] (defScope s_law_fitting) := C8.fnScope_by (by decide +kernel)
def t_law_fitting (a : Ax) : TS :=
  (tSeq (tAsg (tVar 0) (gName 2))
    (tSeq (tFor (iList a.K (tVar 1)) (gName 3)
      (tAsg (tLc (iList a.K (tVar 2)) (gName 4) (tB (tCall (sp_law_leads a) [] L2.E0 (tCons (tVar 4) (tCons (tVar 3) tNil)))) (tVar 4) [4]) (gName 2)))
    (tRet (tVar 2))))
abbrev s_law_same : Stmt := top 83
abbrev n_law_same : List Str := ["_law_found", "_law_due", "_law_k"]
theorem sc_law_same : FnScope n_law_same ["_law_found", "_law_due"] (defScope s_law_same) := C8.fnScope_by (by decide +kernel)
def t_law_same (a : Ax) (n : Nat) : TS :=
  (tSeq (tIfS (tOr (tTest (tOp rIsN (tVar 1) (tC .non))) (tTest (tOp rIsN (tVar 0) (tC .non))))
      (tRet (tAndV (tOp rIsN (tVar 1) (tC .non)) (tOp rIsN (tVar 0) (tC .non))))
      tNext)
    (tSeq (tIfS (tB (tCB (rIsiT a.K) (tCons (tVar 1) (tCons (tTup (tCons (tC (.ty "list")) (tCons (tC (.ty "tuple")) tNil))) tNil))))
      (tSeq (tIfS (tOr (tNot (tB (tCB (rIsiT a.K) (tCons (tVar 0) (tCons (tTup (tCons (tC (.ty "list")) (tCons (tC (.ty "tuple")) tNil))) tNil))))) (tTest (tOp rNe (tCB (rIsi a.K) (tCons (tVar 0) (tCons (tC (.ty "list")) tNil))) (tCB (rIsi a.K) (tCons (tVar 1) (tCons (tC (.ty "list")) tNil))))))
        (tRet (tC (.bl false)))
        tNext)
      (tSeq (tIfS (tTest (tOp rNe (tCB (rLenA a.K) (tCons (tVar 0) tNil)) (tCB (rLenA a.K) (tCons (tVar 1) tNil))))
        (tRet (tC (.bl false)))
        tNext)
      (tSeq (tFor (iRng1 (tCons (tCB (rLenA a.K) (tCons (tVar 1) tNil)) tNil)) (gName 2)
        (tIfS (tNot (tB (tCall (sp_law_same a n) [] L2.E0 (tCons (tOp (rIx a.K) (tVar 0) (tVar 2)) (tCons (tOp (rIx a.K) (tVar 1) (tVar 2)) tNil)))))
          (tRet (tC (.bl false)))
          tNext))
      (tRet (tC (.bl true))))))
      tNext)
    (tSeq (tIfS (tOr (tB (tCB (rIsiT a.K) (tCons (tVar 0) (tCons (tTup (tCons (tC (.ty "list")) (tCons (tC (.ty "tuple")) tNil))) tNil)))) (tTest (tOp rNe (tCB (rIsi a.K) (tCons (tVar 1) (tCons (tC (.ty "bool")) tNil))) (tCB (rIsi a.K) (tCons (tVar 0) (tCons (tC (.ty "bool")) tNil))))))
      (tRet (tC (.bl false)))
      tNext)
    (tSeq (tIfS (tOr (tTest (tOp rNe (tCB (rIsi a.K) (tCons (tVar 1) (tCons (tC (.ty "int")) tNil))) (tCB (rIsi a.K) (tCons (tVar 0) (tCons (tC (.ty "int")) tNil))))) (tTest (tOp rNe (tCB (rIsi a.K) (tCons (tVar 1) (tCons (tC (.ty "str")) tNil))) (tCB (rIsi a.K) (tCons (tVar 0) (tCons (tC (.ty "str")) tNil))))))
      (tRet (tC (.bl false)))
      tNext)
    (tRet (tOp rEq (tVar 0) (tVar 1)))))))
abbrev s_law_line_so : Stmt := top 85
abbrev n_law_line_so : List Str := ["_law_page_here", "_law_names_z", "_law_signs_here", "_law_pairs", "_law_line_here", "_law_told", "_law_due", "_law_k"]
theorem sc_law_line_so : FnScope n_law_line_so ["_law_page_here", "_law_names_z", "_law_signs_here", "_law_pairs", "_law_line_here"] (defScope s_law_line_so) := C8.fnScope_by (by decide +kernel)
def t_law_line_so (a : Ax) : TS :=
  (tSeq (tAsg (tCall (sp_law_line a) [] L2.E0 (tCons (tVar 1) (tCons (tVar 4) tNil))) (gName 5))
    (tSeq (tAsg (tCB (rTupQ a.K) (tCons (tLc (iRng1 (tCons (tCB (rLenQ a.K) (tCons (tVar 3) tNil)) tNil)) (gName 7) (tNot (tB (tCall (sp_law_leads a) [] L2.E0 (tCons (tVar 4) (tCons (tOp (rIxL a.K) (tVar 3) (tVar 7)) tNil))))) (tOp (rIxL a.K) (tVar 2) (tVar 7)) [7]) tNil)) (gName 6))
    (tRet (tCall (sp_law_same a 3) [] L2.E0 (tCons (tLst (tCons (tCall (sp_fits a) [] L2.E0 (tCons (tVar 0) (tCons (tVar 5) tNil))) (tCons (tCall (sp_unborne a) [] L2.E0 (tCons (tVar 0) (tCons (tVar 5) tNil))) (tCons (tCall (sp_fits a) [] L2.E0 (tCons (tVar 0) (tCons (tVar 5) tNil))) tNil)))) (tCons (tLst (tCons (tOp (rEqD a.K) (tVar 6) (tTup tNil)) (tCons (tVar 6) (tCons (tOp (rEqD a.K) (tVar 6) (tTup tNil)) tNil)))) tNil))))))
abbrev s_law_built : Stmt := top 86
abbrev n_law_built : List Str := ["_law_bag_here", "_law_pool", "_law_signs_here", "_law_pairs"]
theorem sc_law_built : FnScope n_law_built ["_law_bag_here", "_law_pool", "_law_signs_here", "_law_pairs"] (defScope s_law_built) := C8.fnScope_by (by decide +kernel)
def t_law_built (a : Ax) : TS :=
  (tSeq (tIfS (tAnd (tTest (tOp rLtI (tCB (rLenQ a.K) (tCons (tVar 3) tNil)) (tC (.int 8)))) (tTest (tOp rGtI (tCall (sp_law_take a) [] L2.E0 (tCons (tVar 0) (tCons (tC (.int 4)) tNil))) (tC (.int 0)))))
      (tRet (tCall (sp_law_page a) [] L2.E0 (tCons (tVar 0) (tCons (tVar 1) (tCons (tVar 2) (tCons (tVar 3) tNil))))))
      tNext)
    (tRet (tCall (sp_book_read a) [] L2.E0 (tCons (tCall (sp_law_text a) [] L2.E0 (tCons (tCB (rSortedS a.K) (tCons (tVar 1) tNil)) (tCons (tVar 2) (tCons (tVar 3) tNil)))) tNil))))
abbrev s_law_wide_so : Stmt := top 88
abbrev n_law_wide_so : List Str := ["_law_bag_here", "_law_page_here", "_law_names_z", "_law_signs_here", "_law_pairs", "_law_line_here", "_law_more", "_law_wide", "_law_marks_z", "_law_late", "_law_pair", "_law_some"]
theorem sc_law_wide_so : FnScope n_law_wide_so ["_law_bag_here", "_law_page_here", "_law_names_z", "_law_signs_here", "_law_pairs", "_law_line_here"] (defScope s_law_wide_so) := C8.fnScope_by (by decide +kernel)
def t_law_wide_so (a : Ax) : TS :=
  (tSeq (tAsg (tCall (sp_law_drawn a) [] L2.E0 (tCons (tVar 0) (tCons (tCB (rLenQ a.K) (tCons (tVar 2) tNil)) (tCons (tOp rSubI (tC (.int 41)) (tCB (rLenQ a.K) (tCons (tVar 4) tNil))) (tCons (tOp rSubI (tC (.int 60)) (tCB (rLenQ a.K) (tCons (tVar 4) tNil))) (tCons (tLst tNil) tNil)))))) (gName 6))
    (tSeq (tAsg (tMeth a.B "grown" (sp_book_grown a) [] L2.E0 (tVar 1) (tCons (tLc (iList a.K (tVar 6)) (gName 10) tYes (tCall (sp_law_row a) [] L2.E0 (tCons (tVar 0) (tCons (tVar 2) (tCons (tVar 10) tNil)))) [10]) tNil)) (gName 7))
    (tSeq (tAsg (tOp rCat (tSl (rSlL a.K) (tVar 3) tNoPart (tPart (tCB (rLenQ a.K) (tCons (tVar 4) tNil)))) (tCall (sp_law_fresh a) [] L2.E0 (tCons (tSl (rSlL a.K) (tVar 3) tNoPart (tPart (tCB (rLenQ a.K) (tCons (tVar 4) tNil)))) (tCons (tCB (rLenQ a.K) (tCons (tVar 6) tNil)) tNil)))) (gName 8))
    (tSeq (tAsg (tCall (sp_law_mixed a) [] L2.E0 (tCons (tVar 0) (tCons (tVar 5) tNil))) (gName 9))
    (tRet (tCB (rAll a.K) (tCons (tLc (iTup a.K (tTup (tCons (tVar 5) (tCons (tVar 9) tNil)))) (gName 11) tYes (tCall (sp_law_line_so a) [] L2.E0 (tCons (tVar 7) (tCons (tVar 2) (tCons (tVar 8) (tCons (tOp rCat (tVar 4) (tVar 6)) (tCons (tVar 11) tNil)))))) [11]) tNil)))))))
end Fd
set_option Elab.async false
set_option linter.all false
set_option maxRecDepth 100000
set_option maxHeartbeats 4000000
/-! ### FdMarks: the marks in order -/
namespace Fd
open PySem PySem.Spec PyProof.Rows L2 SX
theorem marks1 : ∀ i : Nat, i < 26 → allMarks[i]? = some (S [97 + i]) := by decide +kernel
theorem marks2 : ∀ i : Nat, i < 702 → 26 ≤ i → allMarks[i]? = some (S [97 + (i / 26 - 1), 97 + i % 26]) := by decide +kernel
theorem marks_len : allMarks.length = 702 := by decide +kernel
theorem nodup_sub_len {α : Type} [DecidableEq α] : ∀ {l m : List α}, l.Nodup → (∀ x ∈ l, x ∈ m) → l.length ≤ m.length
  | [], _, _, _ => Nat.zero_le _
  | x :: l, m, n, h => by
    have hx := h x (by simp)
    have n2 := List.nodup_cons.mp n
    have ih := nodup_sub_len (l := l) (m := m.erase x) n2.2 fun y hy => (List.mem_erase_of_ne fun e => n2.1 (by rw [← e]; exact hy)).mpr (h y (by simp [hy]))
    rw [List.length_erase_of_mem hx] at ih
    have := List.length_pos_of_mem hx
    rw [List.length_cons]
    omega
theorem filter_split {α : Type} (p : α → Bool) : ∀ l : List α, l.length = (l.filter p).length + (l.filter fun z => !p z).length
  | [] => rfl
  | x :: l => by
    have ih := filter_split p l
    cases h : p x with
    | true =>
      rw [List.filter_cons_of_pos h, List.filter_cons_of_neg (by rw [h]; decide), List.length_cons, List.length_cons]
      omega
    | false =>
      rw [List.filter_cons_of_neg (by rw [h]; decide), List.filter_cons_of_pos (by rw [h]; rfl), List.length_cons, List.length_cons]
      omega
theorem marks_nm {z : Str} (h : z ∈ allMarks) : isNm z := by
  obtain ⟨i, hi, e⟩ := List.mem_iff_getElem.mp h
  have hi2 := hi
  rw [marks_len] at hi2
  have g : allMarks[i]? = some z := by rw [List.getElem?_eq_getElem hi, e]
  by_cases hl : i < 26
  · rw [marks1 i hl] at g
    have ez := Option.some.inj g
    subst ez
    refine ⟨by simp, by simp, fun c hc => ?_⟩
    have : c = 97 + i := by simpa using hc
    omega
  · rw [marks2 i hi2 (by omega)] at g
    have ez := Option.some.inj g
    subst ez
    refine ⟨by simp, by simp, fun c hc => ?_⟩
    have : c = 97 + (i / 26 - 1) ∨ c = 97 + i % 26 := by simpa using hc
    omega
theorem marks_nd : allMarks.Nodup := by
  rw [List.nodup_iff_pairwise_ne, List.pairwise_iff_getElem]
  intro i j hi0 hj0 hij e
  have hi := hi0
  have hj := hj0
  rw [marks_len] at hi hj
  have g : allMarks[i]? = allMarks[j]? := (List.getElem?_eq_getElem hi0).trans ((congrArg some e).trans (List.getElem?_eq_getElem hj0).symm)
  by_cases h1 : i < 26
  · rw [marks1 i h1] at g
    by_cases h2 : j < 26
    · rw [marks1 j h2] at g
      have := S_inj (Option.some.inj g)
      simp at this
      omega
    · rw [marks2 j hj (by omega)] at g
      have := S_inj (Option.some.inj g)
      simp at this
  · rw [marks2 i hi (by omega), marks2 j hj (by omega)] at g
    have := S_inj (Option.some.inj g)
    simp at this
    omega
/-- counted: what is skipped is old -/
theorem marks_take {old : List Str} {k : Nat} (hk : k ≤ 702) (nd : old.Nodup) : k ≤ ((allMarks.take k).filter fun z => decide (z ∉ old)).length + old.length := by
  have h1 : ((allMarks.take k).filter fun z => decide (z ∈ old)).length ≤ old.length := by
    have n1 : ((allMarks.take k).filter fun z => decide (z ∈ old)).Nodup := (marks_nd.sublist (List.take_sublist _ _)).sublist List.filter_sublist
    exact nodup_sub_len n1 fun z hz => of_decide_eq_true (List.mem_filter.mp hz).2
  have h2 := filter_split (fun z => decide (z ∈ old)) (allMarks.take k)
  rw [List.length_take, marks_len] at h2
  have e : ((allMarks.take k).filter fun z => !decide (z ∈ old)) = (allMarks.take k).filter fun z => decide (z ∉ old) := by
    congr 1
    funext z
    simp
  rw [e] at h2
  omega
theorem filter_prefix {α : Type} (p : α → Bool) (l : List α) (k : Nat) : (l.filter p).take (((l.take k).filter p).length) = (l.take k).filter p := by
  have e := List.take_append_drop k l
  have e2 : l.filter p = (l.take k).filter p ++ (l.drop k).filter p := by rw [← List.filter_append, e]
  rw [e2, List.take_left]
end Fd
set_option Elab.async false
set_option linter.all false
set_option maxRecDepth 100000
set_option maxHeartbeats 4000000
/-! ### FdLib: words for the walks -/
namespace Fd
open PySem PySem.Spec PyProof.Rows L2 SX
theorem Same.new {H H1 : Hp} {p : Addr} {o : HO} (e : Same H H1) (h : H1 p = none) : Same H (upd H1 p o) := Same.upd' (e.free h) e
/-- a thing of ours is written -/
theorem Same.mut {H H1 : Hp} {p : Addr} {o : HO} (e : Same H H1) (h : H p = none) : Same H (upd H1 p o) := Same.upd' h e
theorem Butx.of {x : Addr} {H H' : Hp} (e : Same H H') : Butx x H H' := fun a o h _ => e a o h
theorem Butx.trans {x : Addr} {H H1 H2 : Hp} (e : Butx x H H1) (f : Butx x H1 H2) : Butx x H H2 := fun a o h n => f a o (e a o h n) n
theorem Butx.put {x : Addr} {H H1 : Hp} {o : HO} (e : Butx x H H1) : Butx x H (upd H1 x o) := fun a u h n => by
  rw [upd_ne n]
  exact e a u h n
theorem Butx.new {x p : Addr} {H H1 : Hp} {o : HO} (e : Butx x H H1) (h : H1 p = none) : Butx x H (upd H1 p o) := fun a u ha n => by
  have e1 := e a u ha n
  rw [upd_ne (ne_of_none e1 h)]
  exact e1
theorem Butx.made {x dx C : Addr} {H H1 : Hp} (nx : H x = none) (nd : H dx = none) (k : Butx x (upd (upd H dx (.own x)) x (.ins C dx [])) H1) : Same H H1 := fun b o e =>
  k b o (by rw [upd_ne (ne_of_none e nx), upd_ne (ne_of_none e nd)]; exact e) (ne_of_none e nx)
theorem sq_same {K : KF} {H H' : Hp} {a : Addr} {xs : List V} (e : Same H H') (h : Sq K H a xs) : Sq K H' a xs := by
  rcases h with h | h
  · exact .inl (Same.seq e h)
  · rcases h with (h | ⟨o, h⟩) | h
    · exact .inr (.inl (.inl (e _ _ h)))
    · exact .inr (.inl (.inr ⟨o, e _ _ h⟩))
    · exact .inr (.inr h)
theorem sqt_same {K : KF} {H H' : Hp} {a : Addr} {xs : List V} (e : Same H H') (h : SqT K H a xs) : SqT K H' a xs := by
  rcases h with (h | ⟨o, h⟩) | h
  · exact .inl (.inl (e _ _ h))
  · exact .inl (.inr ⟨o, e _ _ h⟩)
  · exact .inr h
/-! isinstance -/
theorem isi_str {K : KF} {H : Hp} {z : Str} {Q : VK} (q : Q (.bl true) H) : rIsi K [.str z, .ty "str"] H Q := ⟨_, _, _, _, _, rfl, .ty _, .base (.str z), kit_ty (by decide +kernel), q⟩
theorem tyx_list {K : KF} {H : Hp} {p : Addr} {xs : List V} (h : SqL K H p xs) : TyX K H (.ref p) (.type "list") := by
  rcases h with (h | ⟨o, h⟩) | ⟨o, its, n, h, c, _⟩
  · exact .base (.lst h)
  · exact .base (.frz h)
  · exact .kList h c
theorem tyx_tup {K : KF} {H : Hp} {p : Addr} {xs : List V} (h : SqT K H p xs) : TyX K H (.ref p) (.type "tuple") := by
  rcases h with (h | ⟨o, h⟩) | ⟨o, its, n, h, c, _⟩
  · exact .base (.tup h)
  · exact .fTuple h
  · exact .kTuple h c
theorem isi_tup {K : KF} {H : Hp} {p : Addr} {xs : List V} {Q : VK} (h : SqT K H p xs) (q : Q (.bl true) H) : rIsi K [.ref p, .ty "tuple"] H Q := ⟨_, _, _, _, _, rfl, .ty _, tyx_tup h, kit_ty (by decide +kernel), q⟩
theorem kit_lt (K : KF) {t : String} {b : Bool} (h1 : kitB t "list" = some b) (h2 : b = false → kitB t "tuple" = some true) : PySem.W.kitAny K (.type t) [.type "list", .type "tuple"] = some true := by
  refine kitAny_cons (kit_ty h1) (fun e => ?_) fun _ => rfl
  exact kitAny_cons (kit_ty (h2 e)) (fun z => nomatch z) fun _ => rfl
theorem isiT_seq {K : KF} {H : Hp} {p tp : Addr} {xs : List V} {Q : VK} (h : Sq K H p xs) (ht : H tp = some (.tup [.ty "list", .ty "tuple"])) (q : Q (.bl true) H) : rIsiT K [.ref p, .ref tp] H Q := by
  rcases h with h | h
  · exact ⟨_, _, _, _, [.type "list", .type "tuple"], _, rfl, ht, .cons (.ty _) (.cons (.ty _) .nil), tyx_list h, kit_lt K (b := true) (by decide +kernel) (fun z => nomatch z), q⟩
  · exact ⟨_, _, _, _, [.type "list", .type "tuple"], _, rfl, ht, .cons (.ty _) (.cons (.ty _) .nil), tyx_tup h, kit_lt K (b := false) (by decide +kernel) (fun _ => by decide +kernel), q⟩
/-! comprehensions -/
/-! steps by the head of the reading -/
section
variable {K : KF} {σ : L2.St} {H : Hp} {Q : VK} {ta tb tc te to : TE} {v x y : V} {D : Ends} {ts tu : TS}
theorem k_var {i : Nat} (q : ∃ v, σ[i]? = some (some v) ∧ Q v H) : tVar i σ H Q := q
theorem k_I0 {g : Int → Int → V} (q : ∃ i j, x = .int i ∧ y = .int j ∧ Q (g i j) H) : rI0 g x y H Q := q
theorem k_I {C : Int → Int → Prop} {g : Int → Int → V} (q : ∃ i j, x = .int i ∧ y = .int j ∧ C i j ∧ Q (g i j) H) : rI C g x y H Q := q
theorem k_U {g : Int → V} (q : ∃ i, x = .int i ∧ Q (g i) H) : rU g x H Q := q
theorem k_eq (q : scal x y = true ∧ Q (.bl (decide (x = y))) H) : rEq x y H Q := q
theorem k_ne (q : scal x y = true ∧ Q (.bl (!decide (x = y))) H) : rNe x y H Q := q
theorem k_isN (q : y = .non ∧ Q (.bl (decide (x = .non))) H) : rIsN x y H Q := q
theorem k_notN (q : y = .non ∧ Q (.bl (!decide (x = .non))) H) : rNotN x y H Q := q
theorem k_chain {r r' : R2} (q : ta σ H fun x H1 => tb σ H1 fun y H2 => r x y H2 fun z H3 => ∃ k, z = .bl k ∧ (if k = true then tc σ H3 fun w' H4 => r' y w' H4 Q else Q (.bl false) H3)) : tChain r r' ta tb tc σ H Q := q
theorem k_fld {f : Str} (q : ta σ H fun x H1 => ∃ a C dx fs v, x = .ref a ∧ H1 a = some (.ins C dx fs) ∧ Cls K C ∧ NoAttr K C f ∧ fs.lookup f = some v ∧ Q v H1) : tFld K ta f σ H Q := q
theorem k_sfld {f : Str} (q : tb σ H fun y H1 => ta σ H1 fun x H2 => ∃ a C dx fs, x = .ref a ∧ H2 a = some (.ins C dx fs) ∧ Cls K C ∧ NoAttr K C f ∧ fs.length < 1000 ∧ D.nx σ (upd H2 a (.ins C dx (putF f y fs)))) : sFld K ta tb f D σ H := q
theorem k_iteT {A B : Prop} (q : A) : if true = true then A else B := by rw [if_pos rfl]; exact q
theorem k_iteF {A B : Prop} (q : B) : if false = true then A else B := by rw [if_neg Bool.false_ne_true]; exact q
theorem k_bl {b : Bool} {Q : Bool → Prop} (q : Q b) : ∃ c, V.bl b = V.bl c ∧ Q c := ⟨b, rfl, q⟩
theorem k_iteNT {A B : Prop} (q : B) : if (!true) = true then A else B := by rw [if_neg (by decide)]; exact q
theorem k_iteNF {A B : Prop} (q : A) : if (!false) = true then A else B := by rw [if_pos (by decide)]; exact q
/-- a test whose outcome is known -/
theorem k_iteY {A B : Prop} {b : Bool} (h : b = true) (q : A) : if b = true then A else B := by rw [if_pos h]; exact q
theorem k_iteZ {A B : Prop} {b : Bool} (h : b = false) (q : B) : if b = true then A else B := by rw [if_neg (by rw [h]; decide)]; exact q
theorem k_isS {z : Str} {A : Prop} (q : A) : (∃ a, V.str z = V.str a) ∧ A := ⟨⟨z, rfl⟩, q⟩
theorem k_int {i : Int} {Q : Int → Prop} (q : Q i) : ∃ j, V.int i = V.int j ∧ Q j := ⟨i, rfl, q⟩
theorem k_wipe {σ2 σ3 : L2.St} {vs : List Nat} {A : Prop} (h : wipe σ2 vs = wipe σ3 vs) (q : A) : wipe σ2 vs = wipe σ3 vs ∧ A := ⟨h, q⟩
theorem k_tup {t : TA} (q : t σ H fun xs H1 => xs.length ≤ sizeLine ∧ ∀ p, H1 p = none → Q (.ref p) (upd H1 p (.tup xs))) : tTup t σ H Q := q
theorem k_lst {t : TA} (q : t σ H fun xs H1 => xs.length ≤ sizeLine ∧ ∀ p, H1 p = none → Q (.ref p) (upd H1 p (.lst xs))) : tLst t σ H Q := q
theorem k_meth {C : Addr} {m : Str} {sp : Sp} {dvs : List V} {E : XK} {t : TA} (q : ta σ H fun x H1 => ∃ a dx fs, x = .ref a ∧ H1 a = some (.ins C dx fs) ∧ fs.lookup m = none ∧ t σ H1 fun vs H2 => sp (x :: (vs ++ dvs)) H2 Q E) : tMeth C m sp dvs E ta t σ H Q := q
theorem k_bm {T : String} {r : V → List V → Hp → VK → Prop} {t : TA} (q : to σ H fun x H1 => tyV K T x H1 ∧ t σ H1 fun xs H2 => r x xs H2 Q) : tBM K T r to t σ H Q := q
theorem k_bm0 {T : String} {r : V → List V → Hp → VK → Prop} (q : to σ H fun x H1 => tyV K T x H1 ∧ r x [] H1 Q) : tBM0 K T r to σ H Q := q
theorem k_m1 {r : V → List V → Hp → VK → Prop} (q : to σ H fun x H1 => (∃ a, x = .str a) ∧ te σ H1 fun y H2 => r x [y] H2 Q) : tM1 r to te σ H Q := q
theorem k_fmt (q : te σ H fun x H1 => (∃ y : Str, x = .str y ∧ y.length ≤ sizeLine ∧ Q (.str y) H1) ∨ ∃ i : Int, x = .int i ∧ i.natAbs.log2 < 1920 ∧ Q (.str (toString i)) H1) : tFmt te σ H Q := q
theorem k_joined {l : List TE} (q : tJs l Str.empty σ H fun out H1 => Q (.str out) H1) : tJoined l σ H Q := q
theorem k_js0 {acc : Str} {Q : Str → Hp → Prop} (q : Q acc H) : tJs [] acc σ H Q := q
theorem k_js1 {acc : Str} {l : List TE} {Q : Str → Hp → Prop} (q : te σ H fun x H1 => ∃ y : Str, x = .str y ∧ (acc ++ y).length ≤ sizeLine ∧ tJs l (acc ++ y) σ H1 Q) : tJs (te :: l) acc σ H Q := q
theorem k_mkR {C : Addr} {sp : Sp} {E : XK} {t : TA} (q : t σ H fun vs H1 => ∀ x dx, H1 x = none → H1 dx = none → dx ≠ x → sp (V.ref x :: vs) (upd (upd H1 dx (.own x)) x (.ins C dx [])) (fun v H2 => v = .non ∧ Q (.ref x) H2) E) : StX.tMakeR C sp E t σ H Q := q
theorem k_sl {r : V → Option Int → Option Int → Hp → VK → Prop} {tl th : TO} (q : te σ H fun x H1 => tl σ H1 fun l H2 => th σ H2 fun u H3 => r x l u H3 Q) : L2.tSl r te tl th σ H Q := q
theorem k_part {Q : Option Int → Hp → Prop} (q : te σ H fun x H1 => ∃ i, x = .int i ∧ Q (some i) H1) : tPart te σ H Q := q
theorem k_nopart {Q : Option Int → Hp → Prop} (q : Q none H) : tNoPart σ H Q := q
theorem k_gtup {n : Nat} {t : TGs} {Q : L2.St → Hp → Prop} (q : ∃ a xs, v = .ref a ∧ SqT K H a xs ∧ xs.length = n ∧ t xs σ H Q) : gTup K n t v σ H Q := q
theorem k_aug {i : Nat} {ti : TIp} (q : ∃ x, σ[i]? = some (some x) ∧ te σ H fun y H1 => ti x y H1 fun z H2 => D.nx (σ.set i (some z)) H2) : tAug i te ti D σ H := q
theorem k_ipI {f : Int → Int → Int} (q : ∃ i j, x = .int i ∧ y = .int j ∧ Q (.int (f i j)) H) : ipI f x y H Q := q
theorem k_par {i j : Nat} {t : TA} (q : t σ H fun vs H1 => ∃ v w, vs = [v, w] ∧ D.nx ((σ.set i (some v)).set j (some w)) H1) : tPar i j t D σ H := q
theorem k_din (q : ta σ H fun y H1 => tb σ H1 fun x H2 => ∃ a o, x = .ref a ∧ DGet H2 a y o ∧ Q (.bl o.isSome) H2) : tDIn ta tb σ H Q := q
theorem k_dnin (q : ta σ H fun y H1 => tb σ H1 fun x H2 => ∃ a o, x = .ref a ∧ DGet H2 a y o ∧ Q (.bl (!o.isSome)) H2) : tDNotIn ta tb σ H Q := q
theorem k_dput (q : tc σ H fun v H1 => ta σ H1 fun x H2 => tb σ H2 fun y H3 => ∃ a H4, x = .ref a ∧ DPut H3 a y v H4 ∧ D.nx σ H4) : sDPut ta tb tc D σ H := q
theorem k_retN (q : D.rt .non H) : tRetN D σ H := q
theorem k_cval {f : Str} (q : ta σ H fun x H1 => ∃ C mc v u, x = .ref C ∧ ClX.CRead K C mc ∧ ClX.CVal K C mc f v u ∧ Q v H1) : ClX.tCVal K ta f σ H Q := q
theorem k_dnew (q : ∀ p, H p = none → Q (.ref p) (upd H p (.dK []))) : tDNewK σ H Q := q
end
/-- an item is put behind the list of a comprehension -/
theorem lc_add {H0 H4 : Hp} {D : Addr} {l l' : List V} {y : V} (e : Same H0 H4) (n : H0 D = none) (h : H4 D = some (.lst l)) (hl : l.length < sizeLine) (e2 : l' = l ++ [y]) :
    ∃ acc, H4 D = some (.lst acc) ∧ acc.length < sizeLine ∧ Same H0 (upd H4 D (.lst (acc ++ [y]))) ∧ upd H4 D (.lst (acc ++ [y])) D = some (.lst l') := ⟨l, h, hl, Same.mut e n, by rw [e2]; exact upd_same⟩
theorem take_snoc {α : Type} {l : List α} {i : Nat} {x : α} (h : l[i]? = some x) : l.take (i + 1) = l.take i ++ [x] := by
  rw [List.take_succ, h] <;> rfl
theorem map_take_snoc {α β : Type} (f : α → β) {l : List α} {i : Nat} {x : α} (h : l[i]? = some x) : (l.take (i + 1)).map f = (l.take i).map f ++ [f x] := by
  rw [take_snoc h, List.map_append] <;> rfl
theorem map_get {α β : Type} {f : α → β} {l : List α} {i : Nat} {y : β} (h : (l.map f)[i]? = some y) : ∃ x, l[i]? = some x ∧ y = f x := by
  rw [List.getElem?_map] at h
  cases e : l[i]? with
  | none => rw [e] at h; cases h
  | some x =>
    rw [e] at h
    exact ⟨x, rfl, (Option.some.inj h).symm⟩
theorem take_full {α : Type} (l : List α) : l.take l.length = l := List.take_of_length_le (Nat.le_refl _)
theorem line_big : sizeLine = 16777216 := by decide +kernel
theorem len_take_le {α : Type} (l : List α) (i : Nat) : (l.take i).length ≤ l.length := by
  rw [List.length_take] <;> omega
section
variable {K : KF} {g : TG} {tt : TT} {te tl : TE} {vs : List Nat} {σ : L2.St} {H : Hp} {Q : VK}
/-- what a comprehension asks behind its iterator -/
abbrev LcIn (g : TG) (tt : TT) (te : TE) (vs : List Nat) (σ : L2.St) (Qd : Addr → Hp → Prop) (J : It) (H1 : Hp) : Prop := ∀ D, H1 D = none → ∃ W : Nat → Nat → Hp → Prop, (∃ m, W 0 m (upd H1 D (.lst []))) ∧ ∀ i m H, W i m H →
      (J.stop i H ∧ Qd D H) ∨ (J.go i H ∧ ∃ Nx : Hp → Prop, (∀ H', Nx H' → ∃ m', m' < m ∧ W (i + 1) m' H') ∧ ∀ x H', J.yld i H x H' → g x (wipe σ vs) H' fun σ2 H2 => wipe σ2 vs = wipe σ vs ∧ tt σ2 H2 fun b H3 =>
        if b = true then te σ2 H3 fun y H4 => ∃ acc, H4 D = some (.lst acc) ∧ acc.length < sizeLine ∧ Nx (upd H4 D (.lst (acc ++ [y]))) else Nx H3)
theorem k_lcL (q : tl σ H fun x H1 => ∃ a, x = .ref a ∧ ((∃ xs, SqL K H1 a xs) ∧ LcIn g tt te vs σ (fun D H => Q (.ref D) H) (Itl K a) H1)) : tLc (iList K tl) g tt te vs σ H Q := q
theorem k_lcT (q : tl σ H fun x H1 => ∃ a, x = .ref a ∧ ((∃ xs, SqT K H1 a xs) ∧ LcIn g tt te vs σ (fun D H => Q (.ref D) H) (Itt K a) H1)) : tLc (iTup K tl) g tt te vs σ H Q := q
theorem k_lcQ (q : tl σ H fun x H1 => ∃ a, x = .ref a ∧ (((∃ xs, SqL K H1 a xs) ∧ LcIn g tt te vs σ (fun D H => Q (.ref D) H) (Itl K a) H1) ∨ ((∃ xs, SqT K H1 a xs) ∧ LcIn g tt te vs σ (fun D H => Q (.ref D) H) (Itt K a) H1))) : tLc (iSeq K tl) g tt te vs σ H Q := q
theorem k_lcS (q : tl σ H fun x H1 => ∃ z, x = .str z ∧ LcIn g tt te vs σ (fun D H => Q (.ref D) H) (Its z) H1) : tLc (iStr tl) g tt te vs σ H Q := q
theorem k_lcR {ta : TA} (q : ta σ H fun us H1 => ∃ j : Int, us = [.int j] ∧ -(2 ^ 62) ≤ j ∧ j < 2 ^ 62 ∧ LcIn g tt te vs σ (fun D H => Q (.ref D) H) (Itr 0 j.toNat) H1) : tLc (iRng1 ta) g tt te vs σ H Q := q
end
section
variable {K : KF} {g : TG} {tb : TS} {tl : TE} {ta : TA} {D : Ends} {σ : L2.St} {H : Hp}
/-- what a for asks behind its iterator -/
abbrev ForIn (g : TG) (tb : TS) (D : Ends) (σ : L2.St) (J : It) (H1 : Hp) : Prop := ∃ W : Nat → Nat → L2.St → Hp → Prop, (∃ m, W 0 m σ H1) ∧ ∀ i m σ H, W i m σ H →
  (J.stop i H ∧ D.nx σ H) ∨ (J.go i H ∧ ∃ N : L2.St → Hp → Prop, (∀ σ' H', N σ' H' → ∃ m', m' < m ∧ W (i + 1) m' σ' H') ∧ ∀ x H', J.yld i H x H' → g x σ H' fun σ2 H2 => tb { D with nx := N, ct := N, bk := D.nx } σ2 H2)
theorem k_forL (q : tl σ H fun x H1 => ∃ a, x = .ref a ∧ ((∃ xs, SqL K H1 a xs) ∧ ForIn g tb D σ (Itl K a) H1)) : tFor (iList K tl) g tb D σ H := q
theorem k_forT (q : tl σ H fun x H1 => ∃ a, x = .ref a ∧ ((∃ xs, SqT K H1 a xs) ∧ ForIn g tb D σ (Itt K a) H1)) : tFor (iTup K tl) g tb D σ H := q
theorem k_forQ (q : tl σ H fun x H1 => ∃ a, x = .ref a ∧ (((∃ xs, SqL K H1 a xs) ∧ ForIn g tb D σ (Itl K a) H1) ∨ ((∃ xs, SqT K H1 a xs) ∧ ForIn g tb D σ (Itt K a) H1))) : tFor (iSeq K tl) g tb D σ H := q
theorem k_forS (q : tl σ H fun x H1 => ∃ z, x = .str z ∧ ForIn g tb D σ (Its z) H1) : tFor (iStr tl) g tb D σ H := q
theorem k_forR (q : ta σ H fun us H1 => ∃ j : Int, us = [.int j] ∧ -(2 ^ 62) ≤ j ∧ j < 2 ^ 62 ∧ ForIn g tb D σ (Itr 0 j.toNat) H1) : tFor (iRng1 ta) g tb D σ H := q
theorem k_forE (q : ta σ H fun us H1 => ∃ a xs, us = [.ref a] ∧ SqL K H1 a xs ∧ ForIn g tb D σ (Ite K a) H1) : tFor (iEnum K ta) g tb D σ H := q
theorem k_forET (q : ta σ H fun us H1 => ∃ a xs, us = [.ref a] ∧ SqT K H1 a xs ∧ ForIn g tb D σ (IteT K a) H1) : tFor (iEnumT K ta) g tb D σ H := q
theorem k_forI (q : tl σ H fun x H1 => ∃ d o kvs, x = .ref d ∧ H1 d = some (.frz o (.dK kvs)) ∧ ForIn g tb D σ (Iti d o kvs) H1) : tFor (iItems tl) g tb D σ H := q
theorem k_star {Q : List V → Hp → Prop} (q : tl σ H fun x H1 => ∃ p xs, x = V.ref p ∧ (SqT K H1 p xs ∨ SqL K H1 p xs) ∧ ta σ H1 fun ys H2 => Q (xs ++ ys) H2) : StX.tStar K tl ta σ H Q := q
/-- a for: Pv by the turn, the slots, the heap -/
theorem fL {a : Addr} {xs : List V} (h : SqL K H a xs) (Pv : Nat → L2.St → Hp → Prop) (h0 : Pv 0 σ H) (hl : ∀ i σ H, Pv i σ H → SqL K H a xs)
    (hs : ∀ i x σ H, xs[i]? = some x → Pv i σ H → g x σ H fun σ2 H2 => tb { D with nx := Pv (i + 1), ct := Pv (i + 1), bk := D.nx } σ2 H2) (hd : ∀ σ H, Pv xs.length σ H → D.nx σ H) :
    (∃ xs, SqL K H a xs) ∧ ForIn g tb D σ (Itl K a) H := ⟨⟨xs, h⟩, for_list Pv h0 (fun i σ H _ p => hl i σ H p) hs hd⟩
theorem fT {a : Addr} {xs : List V} (h : SqT K H a xs) (Pv : Nat → L2.St → Hp → Prop) (h0 : Pv 0 σ H) (hl : ∀ i σ H, Pv i σ H → SqT K H a xs)
    (hs : ∀ i x σ H, xs[i]? = some x → Pv i σ H → g x σ H fun σ2 H2 => tb { D with nx := Pv (i + 1), ct := Pv (i + 1), bk := D.nx } σ2 H2) (hd : ∀ σ H, Pv xs.length σ H → D.nx σ H) :
    (∃ xs, SqT K H a xs) ∧ ForIn g tb D σ (Itt K a) H := ⟨⟨xs, h⟩, for_tup Pv h0 (fun i σ H _ p => hl i σ H p) hs hd⟩
theorem fQ {a : Addr} {xs : List V} (h : Sq K H a xs) (Pv : Nat → L2.St → Hp → Prop) (h0 : Pv 0 σ H)
    (hs : ∀ i x σ H, xs[i]? = some x → Pv i σ H → g x σ H fun σ2 H2 => tb { D with nx := Pv (i + 1), ct := Pv (i + 1), bk := D.nx } σ2 H2) (hd : ∀ σ H, Pv xs.length σ H → D.nx σ H)
    (kl : ∀ i σ H', SqL K H a xs → Pv i σ H' → SqL K H' a xs) (kt : ∀ i σ H', SqT K H a xs → Pv i σ H' → SqT K H' a xs) :
    ((∃ xs, SqL K H a xs) ∧ ForIn g tb D σ (Itl K a) H) ∨ ((∃ xs, SqT K H a xs) ∧ ForIn g tb D σ (Itt K a) H) := by
  rcases h with h | h
  · exact .inl (fL h Pv h0 (fun i σ H' p => kl i σ H' h p) hs hd)
  · exact .inr (fT h Pv h0 (fun i σ H' p => kt i σ H' h p) hs hd)
end
/-! dicts -/
section
variable {κ : Type} [DecidableEq κ] {kvs : List (κ × V)} {k : κ} {v : V}
theorem valV_none (h : k ∉ kvs.map (·.1)) : valV kvs k = none := by
  unfold valV
  rw [List.find?_eq_none.mpr fun x hx => ?_]
  · rfl
  · intro e
    exact h (List.mem_map.mpr ⟨x, hx, of_decide_eq_true e⟩)
theorem valV_some (h : k ∈ kvs.map (·.1)) : ∃ v, valV kvs k = some v := by
  unfold valV
  cases e : kvs.find? (fun kv => decide (kv.1 = k)) with
  | some x => exact ⟨x.2, rfl⟩
  | none =>
    obtain ⟨x, hx, e2⟩ := List.mem_map.mp h
    have := List.find?_eq_none.mp e x hx
    exact absurd (decide_eq_true e2) this
theorem putK_new (h : k ∉ kvs.map (·.1)) : putK kvs k v = kvs ++ [(k, v)] := by
  unfold putK
  rw [if_neg]
  intro e
  obtain ⟨x, hx, e2⟩ := List.any_eq_true.mp e
  exact h (List.mem_map.mpr ⟨x, hx, of_decide_eq_true e2⟩)
end
section
variable {K : KF} {g : TG} {tt : TT} {te tk tv tl : TE} {vs : List Nat} {σ : L2.St} {H : Hp} {Q : VK} {D : Ends} {t : TS}
/-- what a dict comprehension asks behind its iterator -/
abbrev DcIn (g : TG) (tt : TT) (tk tv : TE) (vs : List Nat) (σ : L2.St) (Qd : Addr → Hp → Prop) (J : It) (H1 : Hp) : Prop := ∀ D, H1 D = none → ∃ W : Nat → Nat → Hp → Prop, (∃ m, W 0 m (upd H1 D (.dK []))) ∧ ∀ i m H, W i m H →
  (J.stop i H ∧ Qd D H) ∨ (J.go i H ∧ ∃ Nx : Hp → Prop, (∀ H', Nx H' → ∃ m', m' < m ∧ W (i + 1) m' H') ∧ ∀ x H', J.yld i H x H' → g x (wipe σ vs) H' fun σ2 H2 => wipe σ2 vs = wipe σ vs ∧ tt σ2 H2 fun b H3 =>
    if b = true then tk σ2 H3 fun y H4 => tv σ2 H4 fun z H5 => ∃ kvs k, y = kV k ∧ H5 D = some (.dK kvs) ∧ kvs.length < sizeLine ∧ Nx (upd H5 D (.dK (putK kvs k z))) else Nx H3)
theorem k_dcL (q : tl σ H fun x H1 => ∃ a, x = .ref a ∧ ((∃ xs, SqL K H1 a xs) ∧ DcIn g tt tk tv vs σ (fun D H => Q (.ref D) H) (Itl K a) H1)) : tDc (iList K tl) g tt tk tv vs σ H Q := q
theorem k_listItems (q : tl σ H fun x H1 => LiI.rItemsL x H1 Q) : LiI.tListItems tl σ H Q := q
theorem k_dget (q : tl σ H fun x H1 => te σ H1 fun y H2 => ∃ a v, x = .ref a ∧ DGet H2 a y (some v) ∧ Q v H2) : tDGet tl te σ H Q := q
theorem k_lock (q : ∃ d u, H d = some u ∧ Mut (some u) ∧ ∀ od, t ⟨fun σ' H' => H' d = some (.frz od u) ∧ D.nx σ' (upd H' d u), fun v H' => H' d = some (.frz od u) ∧ D.rt v (upd H' d u), fun σ' H' => H' d = some (.frz od u) ∧ D.bk σ' (upd H' d u), fun σ' H' => H' d = some (.frz od u) ∧ D.ct σ' (upd H' d u)⟩ σ (upd H d (.frz od u))) : tLock t D σ H := q
theorem dcL {a : Addr} {xs : List V} {Qd : Addr → Hp → Prop} (h : SqL K H a xs) (Pv : Nat → Addr → Hp → Prop) (h0 : ∀ D, H D = none → Pv 0 D (upd H D (.dK []))) (hk : ∀ i D H, Pv i D H → SqL K H a xs)
    (stp : ∀ i x D H2, H D = none → xs[i]? = some x → Pv i D H2 → g x (wipe σ vs) H2 fun σ2 H3 => wipe σ2 vs = wipe σ vs ∧ tt σ2 H3 fun b H4 => if b = true then tk σ2 H4 fun y H5 => tv σ2 H5 fun z H6 => ∃ kvs k, y = kV k ∧ H6 D = some (.dK kvs) ∧ kvs.length < sizeLine ∧ Pv (i + 1) D (upd H6 D (.dK (putK kvs k z))) else Pv (i + 1) D H4)
    (fin : ∀ D H2, H D = none → Pv xs.length D H2 → Qd D H2) : (∃ xs, SqL K H a xs) ∧ DcIn g tt tk tv vs σ Qd (Itl K a) H := by
  refine ⟨⟨xs, h⟩, fun D hD => ⟨fun i m H => m = xs.length - i ∧ i ≤ xs.length ∧ Pv i D H, ⟨xs.length, by simp, Nat.zero_le _, h0 D hD⟩, ?_⟩⟩
  rintro i m H2 ⟨rfl, hi, p⟩
  have q := hk i D H2 p
  by_cases hlt : i < xs.length
  · refine .inr ⟨⟨xs, xs[i], q, by simp [hlt]⟩, Pv (i + 1) D, fun H' p' => ⟨xs.length - (i + 1), by omega, rfl, hlt, p'⟩, fun x H' y => ?_⟩
    obtain ⟨e, y⟩ := y
    subst e
    exact stp i x D _ hD (y xs q) p
  · have e : i = xs.length := by omega
    subst e
    exact .inl ⟨⟨xs, q, Nat.le_refl _⟩, fin D H2 hD p⟩
end
end Fd
set_option Elab.async false
set_option linter.all false
set_option maxRecDepth 100000
set_option maxHeartbeats 4000000
/-! ### FdText: texts, joined and split -/
namespace Fd
open PySem PySem.Spec PyProof.Rows L2 SX
theorem cp_cat (x y : Str) : cp (x ++ y) = cp x ++ cp y := by
  have := S_cat (cp x) (cp y)
  rw [S_tl, S_tl] at this
  rw [this]
theorem strs_S (ws : List Str) : (ws.map cp).map S = ws := by
  rw [List.map_map]
  induction ws with
  | nil => rfl
  | cons w r ih =>
    rw [List.map_cons, ih]
    show S (cp w) :: r = w :: r
    rw [S_tl]
theorem join_cp (s : Str) (ws : List Str) : Txt.join s ws = S (TL.joinL (cp s) (ws.map cp)) := by
  have := join_S (cp s) (ws.map cp)
  rw [strs_S, S_tl] at this
  exact this
theorem cp_join (s : Str) (ws : List Str) : cp (Txt.join s ws) = TL.joinL (cp s) (ws.map cp) := by rw [join_cp]
/-- a text that was joined, split at the same sign(s) -/
theorem split_join {c : Nat} {sep : List Nat} {ws : List Str} (hs : (c :: sep).all (· < 256) = true) (hne : ws ≠ []) (h : ∀ w ∈ ws, c ∉ cp w) : Txt.split (Txt.join (S (c :: sep)) ws) (S (c :: sep)) = ws := by
  rw [join_cp, split_S (List.cons_ne_nil _ _) hs, spl_join (by simpa using hne) fun p hp => ?_, strs_S]
  obtain ⟨w, hw, e⟩ := List.mem_map.mp hp
  rw [← e]
  exact h w hw
theorem mem_joinL {sep : List Nat} {c : Nat} : ∀ {ws : List (List Nat)} {w : List Nat}, w ∈ ws → c ∈ w → c ∈ TL.joinL sep ws
  | [], _, h, _ => by cases h
  | [x], w, h, hc => by
    have e : w = x := by simpa using h
    rw [e] at hc
    simpa [TL.joinL] using hc
  | x :: y :: r, w, h, hc => by
    show c ∈ x ++ (sep ++ TL.joinL sep (y :: r))
    rcases List.mem_cons.mp h with e | h
    · rw [e] at hc
      simp [hc]
    · have := mem_joinL (sep := sep) h hc
      simp [this]
theorem mem_join {s : Str} {ws : List Str} {w : Str} {c : Nat} (h : w ∈ ws) (hc : c ∈ cp w) : c ∈ cp (Txt.join s ws) := by
  rw [cp_join]
  exact mem_joinL (List.mem_map_of_mem h) hc
theorem len_joinL (sep : List Nat) : ∀ ws : List (List Nat), (TL.joinL sep ws).length ≤ (ws.map (·.length)).sum + ws.length * sep.length
  | [] => by simp [TL.joinL]
  | [x] => by simp [TL.joinL]
  | x :: y :: r => by
    have ih := len_joinL sep (y :: r)
    show (x ++ (sep ++ TL.joinL sep (y :: r))).length ≤ _
    rw [List.length_append, List.length_append, List.map_cons, List.sum_cons, List.length_cons, Nat.add_mul]
    omega
theorem sum_le {n : Nat} : ∀ {l : List Nat}, (∀ x ∈ l, x ≤ n) → l.sum ≤ l.length * n
  | [], _ => by simp
  | x :: r, h => by
    have h1 := h x (by simp)
    have h2 := sum_le (l := r) fun y hy => h y (by simp [hy])
    rw [List.sum_cons, List.length_cons, Nat.add_mul]
    omega
theorem len_join {s : Str} {ws : List Str} {n k m : Nat} (h : ∀ w ∈ ws, w.length ≤ n) (hs : s.length ≤ m) (hk : ws.length ≤ k) : (Txt.join s ws).length ≤ k * n + k * m := by
  rw [len_cp, cp_join]
  have a1 := len_joinL (cp s) (ws.map cp)
  have a2 : ((ws.map cp).map (·.length)).sum ≤ ((ws.map cp).map (·.length)).length * n := sum_le fun x hx => by
    rw [List.map_map] at hx
    obtain ⟨w, hw, e⟩ := List.mem_map.mp hx
    have := h w hw
    rw [len_cp] at this
    rw [← e]
    exact this
  rw [List.length_map, List.length_map] at a2
  rw [List.length_map, ← len_cp] at a1
  have a3 : ws.length * n ≤ k * n := Nat.mul_le_mul_right _ hk
  have a4 : ws.length * s.length ≤ k * m := Nat.mul_le_mul hk hs
  omega
theorem joinL_nil : ∀ ws : List (List Nat), TL.joinL [] ws = ws.flatten
  | [] => by simp [TL.joinL]
  | [x] => by simp [TL.joinL]
  | x :: y :: r => by
    show x ++ ([] ++ TL.joinL [] (y :: r)) = _
    rw [joinL_nil (y :: r)]
    simp
theorem cp_catS : ∀ ws : List Str, cp (catS ws) = (ws.map cp).flatten
  | [] => rfl
  | w :: r => by
    rw [catS, cp_cat, cp_catS r] <;> rfl
theorem join_catS (ws : List Str) : Txt.join (Str.ofString "") ws = catS ws := cp_inj (by
  rw [cp_join, cp_catS]
  exact joinL_nil _)
theorem catS_app (a b : List Str) : catS (a ++ b) = catS a ++ catS b := cp_inj (by
  rw [cp_cat, cp_catS, cp_catS, cp_catS, List.map_append, List.flatten_append])
theorem cat_assoc (a b c : Str) : a ++ b ++ c = a ++ (b ++ c) := cp_inj (by rw [cp_cat, cp_cat, cp_cat, cp_cat, List.append_assoc])
theorem catS_one (a : Str) : catS [a] = a := cp_inj (by rw [cp_catS]; simp)
/-- words of rows -/
theorem sgn_len (z : Str) (pro : List Str) : (if z ∈ pro then ("+" : Str) else "-").length = 1 := by
  split <;> decide +kernel
theorem wordOf_S (pro : List Str) (z : Str) : wordOf pro z = S (cp z ++ [if z ∈ pro then 43 else 45]) := cp_inj (by
  unfold wordOf
  rw [cp_cat]
  split <;> rfl)
theorem wordOf_cp (pro : List Str) (z : Str) : cp (wordOf pro z) = cp z ++ [if z ∈ pro then 43 else 45] := by rw [wordOf_S]
theorem word_len {pro : List Str} {z : Str} (h : isNm z) : (wordOf pro z).length ≤ 7 := by
  rw [len_cp, wordOf_cp, List.length_append]
  have := h.hi
  simp only [List.length_singleton]
  omega
theorem word_no {pro : List Str} {z : Str} {c : Nat} (h : isNm z) (h1 : c < 43) : c ∉ cp (wordOf pro z) := by
  rw [wordOf_cp, List.mem_append, List.mem_singleton]
  rintro (k | k)
  · have := h.ch c k
    omega
  · split at k <;> omega
theorem RowV.nmd {pro con : List Str} (h : RowV pro con) : ∀ z ∈ rowNamed pro con, isNm z := fun z hz => h.nm z (isort_mem.mp hz)
theorem RowV.lenN {pro con : List Str} (h : RowV pro con) : (rowNamed pro con).length ≤ 7 := by
  unfold rowNamed
  rw [isort_len]
  exact h.le
theorem RowV.srt {pro con : List Str} (h : RowV pro con) : Srt (rowNamed pro con) := isort_srt h.nd
theorem srt_filter {l : List Str} (p : Str → Bool) (h : Srt l) : Srt (l.filter p) := h.sublist List.filter_sublist
theorem RowV.fp {pro con : List Str} (h : RowV pro con) : (rowNamed pro con).filter (fun z => decide (z ∈ pro)) = pro := by
  refine srt_uniq (srt_filter _ h.srt) h.sp ?_
  obtain ⟨n1, n2, dj⟩ := List.nodup_append.mp h.nd
  have p1 := (isort_perm (pro ++ con)).filter (fun z => decide (z ∈ pro))
  refine p1.trans ?_
  rw [List.filter_append]
  have e1 : pro.filter (fun z => decide (z ∈ pro)) = pro := List.filter_eq_self.mpr fun z hz => decide_eq_true hz
  have e2 : con.filter (fun z => decide (z ∈ pro)) = [] := List.filter_eq_nil_iff.mpr fun z hz => by
    rw [decide_eq_false (fun hp => dj z hp z hz rfl)]
    decide
  rw [e1, e2, List.append_nil]
theorem RowV.fc {pro con : List Str} (h : RowV pro con) : (rowNamed pro con).filter (fun z => !decide (z ∈ pro)) = con := by
  refine srt_uniq (srt_filter _ h.srt) h.sc ?_
  obtain ⟨n1, n2, dj⟩ := List.nodup_append.mp h.nd
  have p1 := (isort_perm (pro ++ con)).filter (fun z => !decide (z ∈ pro))
  refine p1.trans ?_
  rw [List.filter_append]
  have e1 : pro.filter (fun z => !decide (z ∈ pro)) = [] := List.filter_eq_nil_iff.mpr fun z hz => by
    rw [decide_eq_true hz]
    decide
  have e2 : con.filter (fun z => !decide (z ∈ pro)) = con := List.filter_eq_self.mpr fun z hz => by
    rw [decide_eq_false (fun hp => dj z hp z hz rfl)]
    decide
  rw [e1, e2, List.nil_append]
theorem RowV.nil {pro con : List Str} (h : rowNamed pro con = []) : pro = [] ∧ con = [] := by
  have := (isort_len (pro ++ con)).symm
  unfold rowNamed at h
  rw [h, List.length_append] at this
  exact ⟨List.length_eq_zero_iff.mp (by simp at this; simp [this]), List.length_eq_zero_iff.mp (by simp at this; simp [this])⟩
theorem rowText_len {pro con : List Str} (h : RowV pro con) : (rowText pro con).length ≤ 56 := by
  unfold rowText
  split
  · decide +kernel
  · have := len_join (s := (" " : Str)) (ws := (rowNamed pro con).map (wordOf pro)) (n := 7) (k := 7) (m := 1) (fun w hw => by
      obtain ⟨z, hz, e⟩ := List.mem_map.mp hw
      rw [← e]
      exact word_len (h.nmd z hz)) (by decide +kernel) (by rw [List.length_map]; exact h.lenN)
    exact this
theorem rowText_ne {pro con : List Str} (h : rowNamed pro con ≠ []) : rowText pro con = Txt.join " " ((rowNamed pro con).map (wordOf pro)) := by
  unfold rowText
  rw [if_neg h]
theorem rowText_even {pro con : List Str} (h : rowNamed pro con ≠ []) : rowText pro con ≠ "even" := fun e => by
  rw [rowText_ne h] at e
  obtain ⟨z, r, e2⟩ := List.exists_cons_of_ne_nil h
  have m1 : (if z ∈ pro then 43 else 45) ∈ cp (Txt.join " " ((rowNamed pro con).map (wordOf pro))) := mem_join (w := wordOf pro z) (by rw [e2]; simp) (by rw [wordOf_cp]; simp)
  rw [e] at m1
  have m2 : cp (Str.ofString "even") = [101, 118, 101, 110] := by decide +kernel
  rw [m2] at m1
  split at m1 <;> simp at m1
end Fd
set_option Elab.async false
set_option linter.all false
set_option maxRecDepth 100000
set_option maxHeartbeats 4000000
/-! ### FdBits: bits of natural numbers -/
namespace Fd
open PySem PySem.Spec PyProof.Rows L2 SX
theorem band_nn (a b : Nat) : Builtin.bitAnd (a : Int) (b : Int) = ((a &&& b : Nat) : Int) := by
  unfold Builtin.bitAnd
  simp
theorem bor_nn (a b : Nat) : Builtin.bitOr (a : Int) (b : Int) = ((a ||| b : Nat) : Int) := by
  rw [bitOr_nn (by omega) (by omega)]
  simp
theorem band_not (a b : Nat) : Builtin.bitAnd (a : Int) (Builtin.bitNot (b : Int)) = ((minusN a b : Nat) : Int) := by
  have h1 : decide (0 ≤ (a : Int)) = true := decide_eq_true (by omega)
  have h2 : decide (0 ≤ Builtin.bitNot (b : Int)) = false := decide_eq_false (by unfold Builtin.bitNot; omega)
  have h3 : (Builtin.bitNot (Builtin.bitNot (b : Int))).toNat = b := by unfold Builtin.bitNot; omega
  unfold Builtin.bitAnd
  rw [h1, h2]
  show (a : Int) - (((a : Int).toNat &&& (Builtin.bitNot (Builtin.bitNot (b : Int))).toNat : Nat) : Int) = _
  rw [h3, Int.toNat_natCast]
  have : a &&& b ≤ a := Nat.and_le_left
  unfold minusN
  omega
theorem and_half (a b : Nat) : (a &&& b) / 2 = a / 2 &&& b / 2 := by
  apply Nat.eq_of_testBit_eq
  intro i
  rw [Nat.testBit_div_two, Nat.testBit_and, Nat.testBit_and, Nat.testBit_div_two, Nat.testBit_div_two]
theorem minus_bit : ∀ (i a b : Nat), (minusN a b).testBit i = (a.testBit i && !b.testBit i)
  | 0, a, b => by
    unfold minusN
    have h1 : a &&& b ≤ a := Nat.and_le_left
    have h2 := and_half a b
    have h3 : (a &&& b).testBit 0 = (a.testBit 0 && b.testBit 0) := Nat.testBit_and ..
    have h4 : a / 2 &&& b / 2 ≤ a / 2 := Nat.and_le_left
    rw [Nat.testBit_zero, Nat.testBit_zero, Nat.testBit_zero] at h3 ⊢
    rcases Nat.mod_two_eq_zero_or_one a with ha | ha <;> rcases Nat.mod_two_eq_zero_or_one b with hb | hb <;> rcases Nat.mod_two_eq_zero_or_one (a &&& b) with hc | hc <;> rw [ha, hb] at h3 ⊢ <;> rw [hc] at h3 <;> simp at h3 ⊢ <;> omega
  | i + 1, a, b => by
    have ih := minus_bit i (a / 2) (b / 2)
    rw [Nat.testBit_div_two, Nat.testBit_div_two] at ih
    rw [← ih, ← Nat.testBit_div_two]
    congr 1
    unfold minusN
    have h1 : a &&& b ≤ a := Nat.and_le_left
    have h2 := and_half a b
    have h3 : (a &&& b).testBit 0 = (a.testBit 0 && b.testBit 0) := Nat.testBit_and ..
    have h4 : a / 2 &&& b / 2 ≤ a / 2 := Nat.and_le_left
    rw [Nat.testBit_zero, Nat.testBit_zero, Nat.testBit_zero] at h3
    rcases Nat.mod_two_eq_zero_or_one a with ha | ha <;> rcases Nat.mod_two_eq_zero_or_one b with hb | hb <;> rcases Nat.mod_two_eq_zero_or_one (a &&& b) with hc | hc <;> rw [ha, hb, hc] at h3 <;> simp at h3 <;> omega
theorem minus_or (r t c : Nat) : minusN r (t ||| c) = minusN (minusN r t) c := by
  apply Nat.eq_of_testBit_eq
  intro i
  rw [minus_bit, minus_bit, minus_bit, Nat.testBit_or]
  cases r.testBit i <;> cases t.testBit i <;> cases c.testBit i <;> rfl
theorem minus_sub (r b : Nat) : r &&& minusN r b = minusN r b := by
  apply Nat.eq_of_testBit_eq
  intro i
  rw [Nat.testBit_and, minus_bit]
  cases r.testBit i <;> rfl
theorem grow_less {ps : List Pr} {t room : Nat} (h : comingL ps t room ≠ 0) : minusN room (t ||| comingL ps t room) < minusN room t := by
  rw [minus_or]
  have e : minusN room t &&& comingL ps t room = comingL ps t room := minus_sub _ _
  have l : comingL ps t room ≤ minusN room t := by rw [← e]; exact Nat.and_le_left
  show minusN room t - (minusN room t &&& comingL ps t room) < _
  rw [e]
  omega
theorem grow_fuel (ps : List Pr) (room : Nat) : ∀ (f g t : Nat), minusN room t < f → minusN room t < g → growL ps room f t = growL ps room g t
  | 0, _, _, h, _ => absurd h (Nat.not_lt_zero _)
  | _, 0, _, _, h => absurd h (Nat.not_lt_zero _)
  | f + 1, g + 1, t, h1, h2 => by
    unfold growL
    by_cases c : comingL ps t room = 0
    · rw [if_pos c, if_pos c]
    · rw [if_neg c, if_neg c]
      have := grow_less c
      exact grow_fuel ps room f g _ (by omega) (by omega)
theorem grow_step {ps : List Pr} {room f t : Nat} (h : minusN room t < f) (c : comingL ps t room ≠ 0) : growL ps room f t = growL ps room f (t ||| comingL ps t room) := by
  cases f with
  | zero => exact absurd h (Nat.not_lt_zero _)
  | succ f =>
    have e : growL ps room (f + 1) t = growL ps room f (t ||| comingL ps t room) := by
      conv => lhs; unfold growL
      rw [if_neg c]
    have := grow_less c
    rw [e, grow_fuel ps room f (f + 1) _ (by omega) (by omega)]
theorem grow_end {ps : List Pr} {room f t : Nat} (h : minusN room t < f) (c : comingL ps t room = 0) : growL ps room f t = t := by
  cases f with
  | zero => exact absurd h (Nat.not_lt_zero _)
  | succ f =>
    unfold growL
    rw [if_pos c]
theorem shl_one (j : Nat) : (1 : Int) * 2 ^ ((j : Nat) : Int).toNat = ((2 ^ j : Nat) : Int) := by
  rw [Int.toNat_natCast, Int.one_mul]
  simp
theorem idxOfS_at {xs : List Str} {z : Str} (h : z ∈ xs) : xs[idxOfS xs z]? = some z ∧ ∀ m, m < idxOfS xs z → xs[m]? ≠ some z := by
  unfold idxOfS
  have hl : xs.findIdx (fun y => decide (y = z)) < xs.length := List.findIdx_lt_length_of_exists ⟨z, h, decide_eq_true rfl⟩
  refine ⟨?_, fun m hm e => ?_⟩
  · rw [List.getElem?_eq_getElem hl]
    have := List.findIdx_getElem (w := hl)
    exact congrArg some (of_decide_eq_true this)
  · have hm2 : m < xs.length := by omega
    have := List.not_of_lt_findIdx hm
    rw [List.getElem?_eq_getElem hm2] at e
    have e2 := Option.some.inj e
    simp [e2] at this
theorem idxOfS_lt {xs : List Str} {z : Str} (h : z ∈ xs) : idxOfS xs z < xs.length := (List.getElem?_eq_some_iff.mp (idxOfS_at h).1).1
end Fd
set_option Elab.async false
set_option linter.all false
set_option maxRecDepth 100000
set_option maxHeartbeats 4000000
/-! ### FdLib2: equality of lists and tuples of texts; names -/
namespace Fd
open PySem PySem.Spec PyProof.Rows L2 SX
theorem isNm.sp {z : Str} (h : isNm z) : isSp z 6 := ⟨h.lo, h.hi, h.ch⟩
theorem isNm.ok {z : Str} (h : isNm z) : PyData.strOk z = true := by
  unfold PyData.strOk
  rw [← Array.all_toList, List.all_eq_true]
  intro c hc
  have := h.ch c hc
  exact decide_eq_true (by omega)
theorem dp_strs {K : KF} {H : Hp} : ∀ xs : List Str, DpAll K H (xs.map V.str) (xs.map PyData.str)
  | [] => .nil
  | _ :: xs => .cons (.str _) (dp_strs xs)
theorem lay_strs : ∀ {xs : List Str}, (∀ z ∈ xs, PyData.strOk z = true) → PyData.canLayAll0 (xs.map PyData.str) = true
  | [], _ => by simp [PyData.canLayAll0]
  | z :: xs, h => by
    rw [List.map_cons, PyData.canLayAll0, PyData.canLay0, h z (by simp), lay_strs fun y hy => h y (by simp [hy])] <;> rfl
theorem depth_strs : ∀ xs : List Str, PyData.depthAll (xs.map PyData.str) = 0
  | [] => by simp [PyData.depthAll]
  | z :: xs => by rw [List.map_cons, PyData.depthAll, PyData.depth, depth_strs xs] <;> rfl
theorem shaped_l {xs : List Str} (h : ∀ z ∈ xs, PyData.strOk z = true) : SeqAt.shaped (.list (xs.map PyData.str)) = true := by
  unfold SeqAt.shaped
  rw [PyData.canLay0, PyData.depth, lay_strs h, depth_strs] <;> rfl
theorem shaped_t {xs : List Str} (h : ∀ z ∈ xs, PyData.strOk z = true) : SeqAt.shaped (.tuple (xs.map PyData.str)) = true := by
  unfold SeqAt.shaped
  rw [PyData.canLay0, PyData.depth, lay_strs h, depth_strs] <;> rfl
theorem eqv_strs : ∀ xs ys : List Str, PyData.eqvAll (xs.map PyData.str) (ys.map PyData.str) = decide (xs = ys)
  | [], [] => by simp [PyData.eqvAll]
  | [], _ :: _ => by simp [PyData.eqvAll]
  | _ :: _, [] => by simp [PyData.eqvAll]
  | x :: xs, y :: ys => by
    rw [List.map_cons, List.map_cons, PyData.eqvAll, PyData.eqv, eqv_strs xs ys]
    by_cases e : x = y
    · subst e
      simp
    · have e2 : (x == y) = false := beq_eq_false_iff_ne.mpr e
      rw [e2]
      simp [e]
section
variable {K : KF} {H : Hp} {Q : VK} {p q : Addr} {xs ys : List Str}
theorem eq_ll (h : SqL K H p (xs.map V.str)) (k : SqL K H q (ys.map V.str)) (sx : ∀ z ∈ xs, PyData.strOk z = true) (sy : ∀ z ∈ ys, PyData.strOk z = true) (r : Q (.bl (decide (xs = ys))) H) : rEqD K (.ref p) (.ref q) H Q :=
  ⟨_, _, .lst h (dp_strs xs), .lst k (dp_strs ys), shaped_l sx, shaped_l sy, by rw [PyData.eqv, eqv_strs]; exact r⟩
theorem eq_tt (h : SqT K H p (xs.map V.str)) (k : SqT K H q (ys.map V.str)) (sx : ∀ z ∈ xs, PyData.strOk z = true) (sy : ∀ z ∈ ys, PyData.strOk z = true) (r : Q (.bl (decide (xs = ys))) H) : rEqD K (.ref p) (.ref q) H Q :=
  ⟨_, _, .tup h (dp_strs xs), .tup k (dp_strs ys), shaped_t sx, shaped_t sy, by rw [PyData.eqv, eqv_strs]; exact r⟩
theorem ne_tt (h : SqT K H p (xs.map V.str)) (k : SqT K H q (ys.map V.str)) (sx : ∀ z ∈ xs, PyData.strOk z = true) (sy : ∀ z ∈ ys, PyData.strOk z = true) (r : Q (.bl (!decide (xs = ys))) H) : rNeD K (.ref p) (.ref q) H Q :=
  ⟨_, _, .tup h (dp_strs xs), .tup k (dp_strs ys), shaped_t sx, shaped_t sy, by rw [PyData.eqv, eqv_strs]; exact r⟩
theorem ne_ll (h : SqL K H p (xs.map V.str)) (k : SqL K H q (ys.map V.str)) (sx : ∀ z ∈ xs, PyData.strOk z = true) (sy : ∀ z ∈ ys, PyData.strOk z = true) (r : Q (.bl (!decide (xs = ys))) H) : rNeD K (.ref p) (.ref q) H Q :=
  ⟨_, _, .lst h (dp_strs xs), .lst k (dp_strs ys), shaped_l sx, shaped_l sy, by rw [PyData.eqv, eqv_strs]; exact r⟩
end
theorem inV_strs (z : Str) (xs : List Str) : inV (.str z) (xs.map V.str) = decide (z ∈ xs) := by
  unfold inV
  rw [List.any_map]
  induction xs with
  | nil => simp
  | cons y r ih =>
    rw [List.any_cons, ih]
    have e : (eqV (V.str y) (V.str z)) = decide (y = z) := rfl
    show (eqV (V.str y) (V.str z) || decide (z ∈ r)) = _
    rw [e]
    by_cases h : y = z
    · subst h
      simp
    · have h2 : ¬ z = y := fun e => h e.symm
      simp [h, h2]
theorem in_strs {K : KF} {H : Hp} {p : Addr} {z : Str} {xs : List Str} {Q : VK} (h : Sq K H p (xs.map V.str)) (q : Q (.bl (decide (z ∈ xs))) H) : rIn K false (.str z) (.ref p) H Q :=
  ⟨p, _, rfl, h, rfl, flat_strs xs, by rw [inV_strs]; exact q⟩
theorem notin_strs {K : KF} {H : Hp} {p : Addr} {z : Str} {xs : List Str} {Q : VK} (h : Sq K H p (xs.map V.str)) (q : Q (.bl (!decide (z ∈ xs))) H) : rIn K true (.str z) (.ref p) H Q :=
  ⟨p, _, rfl, h, rfl, flat_strs xs, by rw [inV_strs]; exact q⟩
theorem sorted_of {K : KF} {H : Hp} {p : Addr} {xs : List Str} {Q : VK} (h : SqL K H p (xs.map V.str)) (n : xs.Nodup) (l : xs.length < 64) (q : ∀ p, H p = none → Q (.ref p) (upd H p (.lst ((isort xs).map V.str)))) : rSortedS K [.ref p] H Q :=
  ⟨p, xs, rfl, h, l, fun ys p' py s hp => by rw [sorted_isort py s n]; exact q p' hp⟩
theorem S_one (c : Nat) : (⟨#[c]⟩ : Str) = S [c] := rfl
theorem cps_get {z : Str} {i c : Nat} (h : z.cps[i]? = some c) : (cp z)[i]? = some c := by
  rw [Array.getElem?_toList]
  exact h
theorem all_rep (n : Nat) : (List.replicate n true).all id = true := by
  induction n with
  | zero => rfl
  | succ n ih => rw [List.replicate_succ, List.all_cons, ih] <;> rfl
theorem any_rep (n : Nat) : (List.replicate n false).any id = false := by
  induction n with
  | zero => rfl
  | succ n ih => rw [List.replicate_succ, List.any_cons, ih] <;> rfl
theorem rep_bl (n : Nat) : List.replicate n (V.bl true) = (List.replicate n true).map V.bl := by rw [List.map_replicate]
theorem rep_bf (n : Nat) : List.replicate n (V.bl false) = (List.replicate n false).map V.bl := by rw [List.map_replicate]
theorem rep_snoc {α : Type} (n : Nat) (x : α) : List.replicate (n + 1) x = List.replicate n x ++ [x] := List.replicate_succ'

section
variable {J : It} {n : Nat} {G : Hp → Prop} {Y : Nat → Hp → V → Hp → Prop} {g : TG} {tt : TT} {te : TE} {vs : List Nat} {σ : L2.St} {H0 : Hp} {D : Addr} {Qd : Hp → Prop}
theorem lcS (w : Walk J n G Y) (hD : H0 D = none) (acc : Nat → List V) (a0 : acc 0 = []) (hG : ∀ H, Same H0 H → G H)
    (hs : ∀ i x H H', i < n → Same H0 H → H D = some (.lst (acc i)) → Y i H x H' → g x (wipe σ vs) H' fun σ2 H2 => wipe σ2 vs = wipe σ vs ∧ tt σ2 H2 fun b H3 =>
      if b = true then te σ2 H3 fun y H4 => ∃ l, H4 D = some (.lst l) ∧ l.length < sizeLine ∧ Same H0 (upd H4 D (.lst (l ++ [y]))) ∧ upd H4 D (.lst (l ++ [y])) D = some (.lst (acc (i + 1))) else Same H0 H3 ∧ H3 D = some (.lst (acc (i + 1))))
    (hd : ∀ H, Same H0 H → H D = some (.lst (acc n)) → Qd H) :
    ∃ W : Nat → Nat → Hp → Prop, (∃ m, W 0 m (upd H0 D (.lst []))) ∧ ∀ i m H, W i m H →
      (J.stop i H ∧ Qd H) ∨ (J.go i H ∧ ∃ Nx : Hp → Prop, (∀ H', Nx H' → ∃ m', m' < m ∧ W (i + 1) m' H') ∧ ∀ x H', J.yld i H x H' → g x (wipe σ vs) H' fun σ2 H2 => wipe σ2 vs = wipe σ vs ∧ tt σ2 H2 fun b H3 =>
        if b = true then te σ2 H3 fun y H4 => ∃ acc, H4 D = some (.lst acc) ∧ acc.length < sizeLine ∧ Nx (upd H4 D (.lst (acc ++ [y]))) else Nx H3) :=
  lc_it w (fun i H => Same H0 H ∧ H D = some (.lst (acc i))) ⟨Same.new (Same.refl _) hD, by rw [a0]; exact upd_same⟩ (fun i H _ c => hG H c.1) (fun i x H H' hi c y => hs i x H H' hi c.1 c.2 y) fun H c => hd H c.1 c.2
end
section
variable {K : KF} {g : TG} {tt : TT} {te : TE} {vs : List Nat} {σ : L2.St} {H1 : Hp} {Qd : Addr → Hp → Prop} {p : Addr} {xs : List V}
theorem lW {J : It} {n : Nat} {G : Hp → Prop} {Yv : Nat → V → Prop} (w : Walk J n G (fun i H x H' => H' = H ∧ Yv i x)) (hG : ∀ H, Same H1 H → G H) (acc : Nat → List V) (a0 : acc 0 = [])
    (stp : ∀ i x D H2, H1 D = none → (i < n ∧ Yv i x) → Same H1 H2 → H2 D = some (.lst (acc i)) → g x (wipe σ vs) H2 fun σ2 H3 => wipe σ2 vs = wipe σ vs ∧ tt σ2 H3 fun b H4 => if b = true then te σ2 H4 fun y H5 => ∃ l, H5 D = some (.lst l) ∧ l.length < sizeLine ∧ Same H1 (upd H5 D (.lst (l ++ [y]))) ∧ upd H5 D (.lst (l ++ [y])) D = some (.lst (acc (i + 1))) else Same H1 H4 ∧ H4 D = some (.lst (acc (i + 1))))
    (fin : ∀ D H2, H1 D = none → Same H1 H2 → H2 D = some (.lst (acc n)) → Qd D H2) : LcIn g tt te vs σ Qd J H1 :=
  fun D hD => lcS w hD acc a0 hG (fun i x H H' hi e hd ⟨eH, y⟩ => by subst eH; exact stp i x D _ hD ⟨hi, y⟩ e hd) fun H e hd => fin D H hD e hd
theorem lL (h : SqL K H1 p xs) (acc : Nat → List V) (a0 : acc 0 = [])
    (stp : ∀ i x D H2, H1 D = none → xs[i]? = some x → Same H1 H2 → H2 D = some (.lst (acc i)) → g x (wipe σ vs) H2 fun σ2 H3 => wipe σ2 vs = wipe σ vs ∧ tt σ2 H3 fun b H4 => if b = true then te σ2 H4 fun y H5 => ∃ l, H5 D = some (.lst l) ∧ l.length < sizeLine ∧ Same H1 (upd H5 D (.lst (l ++ [y]))) ∧ upd H5 D (.lst (l ++ [y])) D = some (.lst (acc (i + 1))) else Same H1 H4 ∧ H4 D = some (.lst (acc (i + 1))))
    (fin : ∀ D H2, H1 D = none → Same H1 H2 → H2 D = some (.lst (acc xs.length)) → Qd D H2) : (∃ xs, SqL K H1 p xs) ∧ LcIn g tt te vs σ Qd (Itl K p) H1 :=
  ⟨⟨xs, h⟩, lW (Yv := fun i x => xs[i]? = some x) walk_list (fun H e => Same.seq e h) acc a0 (fun i x D H2 hD y e hd => stp i x D H2 hD y.2 e hd) fin⟩
theorem lT (h : SqT K H1 p xs) (acc : Nat → List V) (a0 : acc 0 = [])
    (stp : ∀ i x D H2, H1 D = none → xs[i]? = some x → Same H1 H2 → H2 D = some (.lst (acc i)) → g x (wipe σ vs) H2 fun σ2 H3 => wipe σ2 vs = wipe σ vs ∧ tt σ2 H3 fun b H4 => if b = true then te σ2 H4 fun y H5 => ∃ l, H5 D = some (.lst l) ∧ l.length < sizeLine ∧ Same H1 (upd H5 D (.lst (l ++ [y]))) ∧ upd H5 D (.lst (l ++ [y])) D = some (.lst (acc (i + 1))) else Same H1 H4 ∧ H4 D = some (.lst (acc (i + 1))))
    (fin : ∀ D H2, H1 D = none → Same H1 H2 → H2 D = some (.lst (acc xs.length)) → Qd D H2) : (∃ xs, SqT K H1 p xs) ∧ LcIn g tt te vs σ Qd (Itt K p) H1 :=
  ⟨⟨xs, h⟩, lW (Yv := fun i x => xs[i]? = some x) walk_tup (fun H e => sqt_same e h) acc a0 (fun i x D H2 hD y e hd => stp i x D H2 hD y.2 e hd) fin⟩
theorem lQ (h : Sq K H1 p xs) (acc : Nat → List V) (a0 : acc 0 = [])
    (stp : ∀ i x D H2, H1 D = none → xs[i]? = some x → Same H1 H2 → H2 D = some (.lst (acc i)) → g x (wipe σ vs) H2 fun σ2 H3 => wipe σ2 vs = wipe σ vs ∧ tt σ2 H3 fun b H4 => if b = true then te σ2 H4 fun y H5 => ∃ l, H5 D = some (.lst l) ∧ l.length < sizeLine ∧ Same H1 (upd H5 D (.lst (l ++ [y]))) ∧ upd H5 D (.lst (l ++ [y])) D = some (.lst (acc (i + 1))) else Same H1 H4 ∧ H4 D = some (.lst (acc (i + 1))))
    (fin : ∀ D H2, H1 D = none → Same H1 H2 → H2 D = some (.lst (acc xs.length)) → Qd D H2) : ((∃ xs, SqL K H1 p xs) ∧ LcIn g tt te vs σ Qd (Itl K p) H1) ∨ ((∃ xs, SqT K H1 p xs) ∧ LcIn g tt te vs σ Qd (Itt K p) H1) := by
  rcases h with h | h
  · exact .inl (lL h acc a0 stp fin)
  · exact .inr (lT h acc a0 stp fin)
theorem lR {lo : Int} {n : Nat} (acc : Nat → List V) (a0 : acc 0 = [])
    (stp : ∀ i x D H2, H1 D = none → (i < n ∧ x = .int (lo + i)) → Same H1 H2 → H2 D = some (.lst (acc i)) → g x (wipe σ vs) H2 fun σ2 H3 => wipe σ2 vs = wipe σ vs ∧ tt σ2 H3 fun b H4 => if b = true then te σ2 H4 fun y H5 => ∃ l, H5 D = some (.lst l) ∧ l.length < sizeLine ∧ Same H1 (upd H5 D (.lst (l ++ [y]))) ∧ upd H5 D (.lst (l ++ [y])) D = some (.lst (acc (i + 1))) else Same H1 H4 ∧ H4 D = some (.lst (acc (i + 1))))
    (fin : ∀ D H2, H1 D = none → Same H1 H2 → H2 D = some (.lst (acc n)) → Qd D H2) : LcIn g tt te vs σ Qd (Itr lo n) H1 :=
  lW (Yv := fun i x => x = .int (lo + i)) walk_range (fun _ _ => trivial) acc a0 (fun i x D H2 hD y e hd => stp i x D H2 hD y e hd) fin
theorem lStr {z : Str} (acc : Nat → List V) (a0 : acc 0 = [])
    (stp : ∀ i x D H2, H1 D = none → (∃ c, (cp z)[i]? = some c ∧ x = .str (S [c])) → Same H1 H2 → H2 D = some (.lst (acc i)) → g x (wipe σ vs) H2 fun σ2 H3 => wipe σ2 vs = wipe σ vs ∧ tt σ2 H3 fun b H4 => if b = true then te σ2 H4 fun y H5 => ∃ l, H5 D = some (.lst l) ∧ l.length < sizeLine ∧ Same H1 (upd H5 D (.lst (l ++ [y]))) ∧ upd H5 D (.lst (l ++ [y])) D = some (.lst (acc (i + 1))) else Same H1 H4 ∧ H4 D = some (.lst (acc (i + 1))))
    (fin : ∀ D H2, H1 D = none → Same H1 H2 → H2 D = some (.lst (acc (cp z).length)) → Qd D H2) : LcIn g tt te vs σ Qd (Its z) H1 :=
  lW (n := (cp z).length) (Yv := fun i x => ∃ c, (cp z)[i]? = some c ∧ x = .str (S [c])) (G := fun _ => True) (by
    have w := (walk_str (z := z)).mono (G' := fun _ => True) (fun _ h => h) (Y' := fun i H x H' => H' = H ∧ ∃ c, (cp z)[i]? = some c ∧ x = .str (S [c])) (fun i H x H' _ _ ⟨e, c, hc, ex⟩ => ⟨e, c, cps_get hc, ex⟩)
    rw [show (cp z).length = z.cps.size by simp]
    exact w) (fun _ _ => trivial) acc a0 (fun i x D H2 hD y e hd => stp i x D H2 hD y.2 e hd) fin
end
theorem atI_nat {α : Type} (xs : List α) (k : Nat) : atI xs ((k : Nat) : Int) = xs[k]? := by
  unfold atI ixN
  by_cases h : k < xs.length
  · simp [h]
  · have h2 : xs[k]? = none := List.getElem?_eq_none (by omega)
    simp [h, h2]
theorem at0 {α : Type} {x : α} {xs : List α} : atI (x :: xs) 0 = some x := by
  rw [show (0 : Int) = ((0 : Nat) : Int) from rfl, Fd.atI_nat] <;> rfl
theorem at1 {α : Type} {x y : α} {xs : List α} : atI (x :: y :: xs) 1 = some y := by
  rw [show (1 : Int) = ((1 : Nat) : Int) from rfl, Fd.atI_nat] <;> rfl
theorem cat_nil (z : Str) : Str.empty ++ z = z := by
  have := S_cat [] (cp z)
  rw [S_tl] at this
  exact this
theorem cat_cp (x y : Str) : cp (x ++ y) = cp x ++ cp y := by
  have := S_cat (cp x) (cp y)
  rw [S_tl, S_tl] at this
  rw [this]
theorem cat_len (x y : Str) : (x ++ y).length = x.length + y.length := by rw [len_cp, len_cp, len_cp, cat_cp, List.length_append]
/-- tuple(sorted(list(x))) -/
theorem k_tsl {K : KF} {σ : L2.St} {H : Hp} {Q : VK} {p : Addr} {xs : List Str} (h : Sq K H p (xs.map V.str)) (n : xs.Nodup) (l : xs.length < 64)
    (q : ∀ t H', Same H H' → H t = none → H' t = some (.tup ((isort xs).map V.str)) → Q (.ref t) H') : rListQ K [.ref p] H fun x H1 => tNil σ H1 fun xs H2 => (fun vs H1 => rSortedS K vs H1 fun x H1 => tNil σ H1 fun xs H2 => (fun vs H1 => rTupQ K vs H1 Q) (x :: xs) H2) (x :: xs) H2 := by
  refine ⟨p, _, rfl, h, fun a ha => ?_⟩
  refine (show rSortedS K [.ref a] (upd H a (.lst (xs.map V.str))) fun x H1 => rTupQ K [x] H1 Q from ?_)
  refine sorted_of (xs := xs) (.inl (.inl upd_same)) n l fun b hb => ⟨b, _, rfl, .inl ⟨.inl (.inl upd_same), fun t ht => ?_⟩⟩
  have e : Same H (upd (upd H a (.lst (xs.map V.str))) b (.lst ((isort xs).map V.str))) := Same.new (Same.new (Same.refl _) ha) hb
  exact q t _ (Same.new e ht) (e.free ht) upd_same
theorem sq_but {K : KF} {x c C dx : Addr} {fs : List (Str × V)} {H H' : Hp} {xs : List V} (e : Butx x H H') (hx : H x = some (.ins C dx fs)) (h : Sq K H c xs) : Sq K H' c xs := by
  have ne : ∀ {o : HO}, H c = some o → (∀ fs, o ≠ .ins C dx fs) → c ≠ x := fun h n z => by
    rw [z, hx] at h
    exact n fs (Option.some.inj h).symm
  rcases h with ((h | ⟨o, h⟩) | h) | ((h | ⟨o, h⟩) | h)
  · exact .inl (.inl (.inl (e _ _ h (ne h fun _ z => nomatch z))))
  · exact .inl (.inl (.inr ⟨o, e _ _ h (ne h fun _ z => nomatch z)⟩))
  · exact .inl (.inr h)
  · exact .inr (.inl (.inl (e _ _ h (ne h fun _ z => nomatch z))))
  · exact .inr (.inl (.inr ⟨o, e _ _ h (ne h fun _ z => nomatch z)⟩))
  · exact .inr (.inr h)
theorem tup_ne {x c C dx : Addr} {fs : List (Str × V)} {H : Hp} {xs : List V} (hx : H x = some (.ins C dx fs)) (h : H c = some (.tup xs)) : c ≠ x := fun z => by
  rw [z, hx] at h
  cases h
theorem perm_app_isort {l m : List Str} : (isort l ++ isort m).Perm (l ++ m) := (isort_perm l).append (isort_perm m)
theorem rowV_of {pro con : List Str} (nm : ∀ z ∈ pro ++ con, isNm z) (nd : (pro ++ con).Nodup) (le : (pro ++ con).length ≤ 7) : RowV (isort pro) (isort con) := by
  obtain ⟨ndp, ndc, dj⟩ := List.nodup_append.mp nd
  exact ⟨fun z hz => nm z (perm_app_isort.mem_iff.mp hz), perm_app_isort.nodup_iff.mpr nd, isort_srt ndp, isort_srt ndc, by rw [perm_app_isort.length_eq]; exact le⟩
theorem abc_at {k : Nat} (h : k < 26) : (cp abc)[k]? = some (97 + k) := by
  rw [abc_cp, List.getElem?_range' h] <;> simp
theorem filt_snoc {α β : Type} (f : α → β) (p : α → Bool) {l : List α} {i : Nat} {x : α} (h : l[i]? = some x) : ((l.take (i + 1)).filter p).map f = ((l.take i).filter p).map f ++ (if p x = true then [f x] else []) := by
  rw [take_snoc h, List.filter_append, List.map_append]
  by_cases c : p x = true
  · simp [c]
  · simp [c]
theorem filt_le {α : Type} (p : α → Bool) (l : List α) (i : Nat) : ((l.take i).filter p).length ≤ l.length := Nat.le_trans (List.length_filter_le _ _) (len_take_le l i)
end Fd
set_option Elab.async false
set_option linter.all false
set_option maxRecDepth 100000
set_option maxHeartbeats 4000000
/-! ### FdLib3: comprehensions of objects; records -/
namespace Fd
open PySem PySem.Spec PyProof.Rows L2 SX
section
variable {K : KF} {g : TG} {tt : TT} {te : TE} {vs : List Nat} {σ : L2.St} {H1 : Hp} {Qd : Addr → Hp → Prop} {p : Addr} {xs : List V}
theorem gL (h : SqL K H1 p xs) (Pv : Nat → Addr → Hp → Prop) (h0 : ∀ D, H1 D = none → Pv 0 D (upd H1 D (.lst []))) (hk : ∀ i D H, Pv i D H → SqL K H p xs)
    (stp : ∀ i x D H2, H1 D = none → xs[i]? = some x → Pv i D H2 → g x (wipe σ vs) H2 fun σ2 H3 => wipe σ2 vs = wipe σ vs ∧ tt σ2 H3 fun b H4 => if b = true then te σ2 H4 fun y H5 => ∃ l, H5 D = some (.lst l) ∧ l.length < sizeLine ∧ Pv (i + 1) D (upd H5 D (.lst (l ++ [y]))) else Pv (i + 1) D H4)
    (fin : ∀ D H2, H1 D = none → Pv xs.length D H2 → Qd D H2) : (∃ xs, SqL K H1 p xs) ∧ LcIn g tt te vs σ Qd (Itl K p) H1 :=
  ⟨⟨xs, h⟩, fun D hD => lc_it walk_list (fun i H => Pv i D H) (h0 D hD) (fun i H _ c => hk i D H c) (fun i x H H' hi c ⟨eH, hx⟩ => by subst eH; exact stp i x D _ hD hx c) fun H c => fin D H hD c⟩
theorem gT (h : SqT K H1 p xs) (Pv : Nat → Addr → Hp → Prop) (h0 : ∀ D, H1 D = none → Pv 0 D (upd H1 D (.lst []))) (hk : ∀ i D H, Pv i D H → SqT K H p xs)
    (stp : ∀ i x D H2, H1 D = none → xs[i]? = some x → Pv i D H2 → g x (wipe σ vs) H2 fun σ2 H3 => wipe σ2 vs = wipe σ vs ∧ tt σ2 H3 fun b H4 => if b = true then te σ2 H4 fun y H5 => ∃ l, H5 D = some (.lst l) ∧ l.length < sizeLine ∧ Pv (i + 1) D (upd H5 D (.lst (l ++ [y]))) else Pv (i + 1) D H4)
    (fin : ∀ D H2, H1 D = none → Pv xs.length D H2 → Qd D H2) : (∃ xs, SqT K H1 p xs) ∧ LcIn g tt te vs σ Qd (Itt K p) H1 :=
  ⟨⟨xs, h⟩, fun D hD => lc_it walk_tup (fun i H => Pv i D H) (h0 D hD) (fun i H _ c => hk i D H c) (fun i x H H' hi c ⟨eH, hx⟩ => by subst eH; exact stp i x D _ hD hx c) fun H c => fin D H hD c⟩
theorem gR {lo : Int} {n : Nat} (Pv : Nat → Addr → Hp → Prop) (h0 : ∀ D, H1 D = none → Pv 0 D (upd H1 D (.lst [])))
    (stp : ∀ i x D H2, H1 D = none → (i < n ∧ x = .int (lo + i)) → Pv i D H2 → g x (wipe σ vs) H2 fun σ2 H3 => wipe σ2 vs = wipe σ vs ∧ tt σ2 H3 fun b H4 => if b = true then te σ2 H4 fun y H5 => ∃ l, H5 D = some (.lst l) ∧ l.length < sizeLine ∧ Pv (i + 1) D (upd H5 D (.lst (l ++ [y]))) else Pv (i + 1) D H4)
    (fin : ∀ D H2, H1 D = none → Pv n D H2 → Qd D H2) : LcIn g tt te vs σ Qd (Itr lo n) H1 :=
  fun D hD => lc_it walk_range (fun i H => Pv i D H) (h0 D hD) (fun _ _ _ _ => trivial) (fun i x H H' hi c ⟨eH, hx⟩ => by subst eH; exact stp i x D _ hD ⟨hi, hx⟩ c) fun H c => fin D H hD c
end
/-- a new list of things at D -/
def OL {α : Type} (P : Hp → Addr → α → Prop) (H1 H : Hp) (D : Addr) (xs : List α) : Prop := Same H1 H ∧ ∃ ts : List Addr, H D = some (.lst (ts.map V.ref)) ∧ All2 (P H) ts xs
theorem OL.nil {α : Type} {P : Hp → Addr → α → Prop} {H1 : Hp} {D : Addr} (h : H1 D = none) : OL P H1 (upd H1 D (.lst [])) D [] := ⟨Same.new (Same.refl _) h, [], upd_same, trivial⟩
theorem OL.obj {α : Type} {P : Hp → Addr → α → Prop} {H1 H : Hp} {D : Addr} {xs : List α} (h : OL P H1 H D xs) : ObjL (P H) H D xs := h.2
theorem OL.add {α : Type} {P : Hp → Addr → α → Prop} (st : ∀ {H H' t x}, P H t x → KeepT H H' → P H' t x) {H1 H H5 : Hp} {D t : Addr} {xs : List α} {x : α} (h : OL P H1 H D xs) (e : Same H H5) (hD : H1 D = none) (hp : P H5 t x) (hl : xs.length < sizeLine) :
    ∃ l, H5 D = some (.lst l) ∧ l.length < sizeLine ∧ OL P H1 (upd H5 D (.lst (l ++ [V.ref t]))) D (xs ++ [x]) := by
  obtain ⟨e1, ts, h1, h2⟩ := h
  have k : KeepT H5 (upd H5 D (.lst (ts.map V.ref ++ [V.ref t]))) := KeepT.mut (e _ _ h1) (KeepT.refl _)
  refine ⟨_, e _ _ h1, by rw [List.length_map, h2.len]; exact hl, Same.mut (e1.trans e) hD, ts ++ [t], ?_, (h2.mono fun _ _ q => st q ((Same.t e).trans k)).snoc (st hp k)⟩
  rw [upd_same, List.map_append] <;> rfl
theorem LineAt.t {H H' : Hp} {t : Addr} {z : Str} (h : LineAt H t z) (e : KeepT H H') : LineAt H' t z := tupT h e
/-- the rows of records -/
theorem recs_rows {a : Ax} {H : Hp} : ∀ {ts : List Addr} {recs : List Rec}, All2 (RecAt a H) ts recs → ∃ rs : List Addr, All2 (fun r c => RowAt a H r c.2.1 c.2.2) rs recs ∧ rs.length = ts.length ∧
    ∀ (i : Nat) (t : Addr), ts[i]? = some t → ∃ r c, rs[i]? = some r ∧ recs[i]? = some c ∧ H t = some (.tup [.str c.1, .ref r]) ∧ RowAt a H r c.2.1 c.2.2
  | [], [], _ => ⟨[], trivial, rfl, fun i t h => by simp at h⟩
  | [], _ :: _, h => h.elim
  | _ :: _, [], h => h.elim
  | t :: ts, c :: recs, h => by
    obtain ⟨⟨r, h1, h2⟩, h3⟩ := h
    obtain ⟨rs, a1, a2, a3⟩ := recs_rows h3
    refine ⟨r :: rs, ⟨h2, a1⟩, by simp [a2], fun i t' ht => ?_⟩
    cases i with
    | zero =>
      have e : t = t' := by simpa using ht
      subst e
      exact ⟨r, c, rfl, rfl, h1, h2⟩
    | succ i =>
      obtain ⟨r', c', b1, b2, b3, b4⟩ := a3 i t' (by simpa using ht)
      exact ⟨r', c', by simpa using b1, by simpa using b2, b3, b4⟩
theorem dictB_snoc {rs : List Addr} {recs : List Rec} {i : Nat} {r : Addr} {c : Rec} (h1 : rs[i]? = some r) (h2 : recs[i]? = some c) : DictB (rs.take (i + 1)) (recs.take (i + 1)) = DictB (rs.take i) (recs.take i) ++ [(Sum.inr c.1, .ref r)] := by
  unfold DictB
  have l1 := (List.getElem?_eq_some_iff.mp h1).1
  have l2 := (List.getElem?_eq_some_iff.mp h2).1
  rw [take_snoc h1, take_snoc h2, List.zip_append (by rw [List.length_take, List.length_take]; omega), List.map_append] <;> rfl
theorem dictB_keys : ∀ {rs : List Addr} {recs : List Rec}, rs.length = recs.length → (DictB rs recs).map (·.1) = recs.map fun c => (Sum.inr c.1 : Key)
  | [], [], _ => rfl
  | [], _ :: _, h => by simp at h
  | _ :: _, [], h => by simp at h
  | r :: rs, c :: recs, h => by
    have ih := dictB_keys (rs := rs) (recs := recs) (by simpa using h)
    unfold DictB at ih ⊢
    rw [List.zip_cons_cons, List.map_cons, List.map_cons, List.map_cons, ih]
theorem dictB_vals : ∀ {rs : List Addr} {recs : List Rec}, rs.length = recs.length → (DictB rs recs).map (·.2) = rs.map V.ref
  | [], [], _ => rfl
  | [], _ :: _, h => by simp at h
  | _ :: _, [], h => by simp at h
  | r :: rs, c :: recs, h => by
    have ih := dictB_vals (rs := rs) (recs := recs) (by simpa using h)
    unfold DictB at ih ⊢
    rw [List.zip_cons_cons, List.map_cons, List.map_cons, List.map_cons, ih]
theorem dictB_len {rs : List Addr} {recs : List Rec} (h : rs.length = recs.length) : (DictB rs recs).length = recs.length := by
  unfold DictB
  rw [List.length_map, List.length_zip]
  omega
theorem fresh_key {rs : List Addr} {recs : List Rec} {i : Nat} {c : Rec} (hl : rs.length = recs.length) (nd : (recs.map (·.1)).Nodup) (h : recs[i]? = some c) : (Sum.inr c.1 : Key) ∉ (DictB (rs.take i) (recs.take i)).map (·.1) := by
  rw [dictB_keys (by rw [List.length_take, List.length_take, hl])]
  intro hm
  obtain ⟨d, hd, e⟩ := List.mem_map.mp hm
  obtain ⟨j, hj, ej⟩ := List.mem_take_iff_getElem.mp hd
  have hi := (List.getElem?_eq_some_iff.mp h).1
  have ec := (List.getElem?_eq_some_iff.mp h).2
  have e2 : d.1 = c.1 := Sum.inr.inj e
  have := List.pairwise_iff_getElem.mp nd j i (by rw [List.length_map]; omega) (by rw [List.length_map]; exact hi) (by omega)
  rw [List.getElem_map, List.getElem_map, ej, ec] at this
  exact this e2
theorem valV_at {rs : List Addr} {recs : List Rec} {m : Str} (hl : rs.length = recs.length) : (valV (DictB rs recs) (Sum.inr m)).isSome = decide (m ∈ recs.map (·.1)) := by
  by_cases h : m ∈ recs.map (·.1)
  · obtain ⟨v, hv⟩ := valV_some (kvs := DictB rs recs) (k := (Sum.inr m : Key)) (by
      rw [dictB_keys hl]
      obtain ⟨c, hc, e⟩ := List.mem_map.mp h
      exact List.mem_map.mpr ⟨c, hc, by rw [e]⟩)
    rw [hv, decide_eq_true h] <;> rfl
  · rw [valV_none, decide_eq_false h]
    · rfl
    · rw [dictB_keys hl]
      intro hm
      obtain ⟨c, hc, e⟩ := List.mem_map.mp hm
      exact h (List.mem_map.mpr ⟨c, hc, Sum.inr.inj e⟩)
theorem isort_nm {xs : List Str} (h : NmL xs) : NmL (isort xs) := ⟨fun z hz => h.nm z (isort_mem.mp hz), (isort_srt h.nd).nodup⟩
/-- lines of texts -/
theorem lines_join : ∀ ls : List Str, catS (ls.map (· ++ "\n")) = Txt.join (S [10]) (ls ++ [Str.ofString ""])
  | [] => by decide +kernel
  | [x] => cp_inj (by rw [cp_catS, cp_join]; simp [TL.joinL, cp_cat]; rfl)
  | x :: y :: r => by
    have ih := lines_join (y :: r)
    apply cp_inj
    rw [cp_join]
    have ih2 := congrArg cp ih
    rw [cp_join] at ih2
    rw [List.map_cons, catS, cp_cat, ih2, cp_cat]
    show _ = cp x ++ (cp (S [10]) ++ TL.joinL (cp (S [10])) _)
    rw [← List.append_assoc]
    rfl
theorem lines_split {ls : List Str} (h : ∀ z ∈ ls, 10 ∉ cp z) : Txt.split (catS (ls.map (· ++ "\n"))) (S [10]) = ls ++ [Str.ofString ""] := by
  rw [lines_join]
  refine split_join (c := 10) (sep := []) (by decide) (by simp) fun w hw => ?_
  rcases List.mem_append.mp hw with k | k
  · exact h w k
  · have e : w = Str.ofString "" := by simpa using k
    rw [e]
    decide +kernel
theorem join_cons {s : Str} {x : Str} {r : List Str} (h : r ≠ []) : Txt.join s (x :: r) = x ++ s ++ Txt.join s r := by
  obtain ⟨y, t, rfl⟩ := List.exists_cons_of_ne_nil h
  apply cp_inj
  rw [cp_join, cp_cat, cp_cat, cp_join]
  show cp x ++ (cp s ++ TL.joinL (cp s) _) = _
  rw [List.append_assoc] <;> rfl
theorem headOf_join {xs : List Str} (h : xs ≠ []) : headOf xs = Txt.join " " (Str.ofString "reasons" :: xs) := by
  rw [join_cons h]
  rfl
def rowWords (pro con : List Str) : List Str := if rowNamed pro con = [] then [Str.ofString "even"] else (rowNamed pro con).map (wordOf pro)
theorem rowWords_ne {pro con : List Str} : rowWords pro con ≠ [] := by
  unfold rowWords
  split
  · simp
  · simpa using ‹_›
theorem rowWords_join {pro con : List Str} : Txt.join " " (rowWords pro con) = rowText pro con := by
  unfold rowWords rowText
  split
  · decide +kernel
  · rfl
theorem lineOf_join (c : Rec) : lineOf c = Txt.join " " (Str.ofString "row" :: c.1 :: rowWords c.2.1 c.2.2) := by
  rw [join_cons (List.cons_ne_nil _ _), join_cons rowWords_ne, rowWords_join]
  unfold lineOf
  apply cp_inj
  simp only [cp_cat, List.append_assoc]
  rfl
theorem rowWords_no {pro con : List Str} (h : RowV pro con) : ∀ w ∈ rowWords pro con, 32 ∉ cp w := fun w hw => by
  unfold rowWords at hw
  split at hw
  · have e : w = Str.ofString "even" := by simpa using hw
    rw [e]
    decide +kernel
  · obtain ⟨z, hz, e⟩ := List.mem_map.mp hw
    rw [← e]
    exact word_no (h.nmd z hz) (by decide)
theorem nm_no {z : Str} {c : Nat} (h : isNm z) (hc : c < 97) : c ∉ cp z := fun k => by
  have := h.ch c k
  omega
theorem line_split {c : Rec} (h : isNm c.1) (hr : RowV c.2.1 c.2.2) : Txt.split (lineOf c) " " = Str.ofString "row" :: c.1 :: rowWords c.2.1 c.2.2 := by
  rw [lineOf_join]
  refine split_join (c := 32) (sep := []) (by decide) (List.cons_ne_nil _ _) fun w hw => ?_
  rcases List.mem_cons.mp hw with e | hw
  · rw [e]
    decide +kernel
  rcases List.mem_cons.mp hw with e | hw
  · rw [e]
    exact nm_no h (by decide)
  · exact rowWords_no hr w hw
theorem line_len {c : Rec} (h : isNm c.1) (hr : RowV c.2.1 c.2.2) : (lineOf c).length ≤ 67 := by
  have h1 := h.len
  have h2 := rowText_len hr
  have e : (lineOf c).length = 4 + c.1.length + 1 + (rowText c.2.1 c.2.2).length := by
    unfold lineOf
    simp only [len_cp, cp_cat, List.length_append]
    rfl
  omega
theorem head_len {xs : List Str} (h : NmL xs) (l : xs.length ≤ 7) : (headOf xs).length ≤ 57 := by
  have h2 := len_join (s := (" " : Str)) (ws := xs) (n := 6) (k := 7) (m := 1) (fun w hw => (h.nm w hw).len) (by decide +kernel) l
  have e : (headOf xs).length = 8 + (Txt.join " " xs).length := by
    unfold headOf
    simp only [len_cp, cp_cat, List.length_append]
    rfl
  omega
theorem head_split {xs : List Str} (h : NmL xs) (l : 1 ≤ xs.length) : Txt.split (headOf xs) " " = Str.ofString "reasons" :: xs := by
  have hne : xs ≠ [] := fun e => by rw [e] at l; exact absurd l (by decide)
  rw [headOf_join hne]
  refine split_join (c := 32) (sep := []) (by decide) (List.cons_ne_nil _ _) fun w hw => ?_
  rcases List.mem_cons.mp hw with e | hw
  · rw [e]
    decide +kernel
  · exact nm_no (h.nm w hw) (by decide)
theorem join_chars {s : Str} {c : Nat} (hs : c ∉ cp s) : ∀ {ws : List Str}, (∀ w ∈ ws, c ∉ cp w) → c ∉ cp (Txt.join s ws)
  | [], _ => by rw [cp_join]; simp [TL.joinL]
  | [x], h => by rw [cp_join]; simpa [TL.joinL] using h x (by simp)
  | x :: y :: r, h => by
    rw [join_cons (List.cons_ne_nil _ _), cp_cat, cp_cat, List.mem_append, List.mem_append]
    rintro ((k | k) | k)
    · exact h x (by simp) k
    · exact hs k
    · exact join_chars hs (ws := y :: r) (fun w hw => h w (by simp at hw ⊢; exact .inr hw)) k
theorem rowText_no10 {pro con : List Str} (h : RowV pro con) : 10 ∉ cp (rowText pro con) := by
  rw [← rowWords_join]
  refine join_chars (by decide +kernel) fun w hw => ?_
  unfold rowWords at hw
  split at hw
  · have e : w = Str.ofString "even" := by simpa using hw
    rw [e]
    decide +kernel
  · obtain ⟨z, hz, e⟩ := List.mem_map.mp hw
    rw [← e]
    exact word_no (h.nmd z hz) (by decide)
theorem line_no10 {c : Rec} (h : isNm c.1) (hr : RowV c.2.1 c.2.2) : 10 ∉ cp (lineOf c) := by
  unfold lineOf
  simp only [cp_cat, List.mem_append]
  rintro (((k | k) | k) | k)
  · exact absurd k (by decide +kernel)
  · exact nm_no h (by decide) k
  · exact absurd k (by decide +kernel)
  · exact rowText_no10 hr k
theorem head_no10 {xs : List Str} (h : NmL xs) : 10 ∉ cp (headOf xs) := by
  unfold headOf
  rw [cp_cat, List.mem_append]
  rintro (k | k)
  · exact absurd k (by decide +kernel)
  · exact join_chars (by decide +kernel) (fun w hw => nm_no (h.nm w hw) (by decide)) k
theorem catS_len {n : Nat} : ∀ {ws : List Str}, (∀ w ∈ ws, w.length ≤ n) → (catS ws).length ≤ ws.length * n
  | [], _ => by simp [catS, Str.length, Str.empty]
  | w :: r, h => by
    have h1 := h w (by simp)
    have h2 := catS_len (ws := r) fun y hy => h y (by simp [hy])
    rw [catS, len_cp, cp_cat, List.length_append, ← len_cp, ← len_cp, List.length_cons, Nat.add_mul]
    omega
end Fd
set_option Elab.async false
set_option linter.all false
set_option maxRecDepth 100000
set_option maxHeartbeats 4000000
/-! ### FdL1: words, rows, orders -/
namespace Fd
open PySem PySem.Spec PyProof.Rows L2 SX
section
local macro_rules | `(tactic| walk_at "sm") => `(tactic| first | exact Same.refl _ | assumption | (refine Same.new ?_ ‹_›; walk_at "sm") | (refine Same.trans ?_ ‹Same _ _›; walk_at "sm"))
local macro_rules | `(tactic| walk_at "s1") => `(tactic| first
  | with_reducible refine g_seq ?_ | with_reducible refine g_asg ?_ | with_reducible refine g_name ?_ | with_reducible refine g_cons ?_ | with_reducible refine g_nil ?_
  | ((with_reducible refine k_var ?_); refine ⟨_, rfl, ?_⟩) | with_reducible refine g_c ?_ | with_reducible refine g_op ?_ | with_reducible refine g_un ?_
  | with_reducible refine g_cb ?_ | with_reducible refine g_call ?_ | with_reducible refine g_ifS ?_ | with_reducible refine g_if ?_ | with_reducible refine g_tB ?_ | with_reducible refine g_test ?_
  | with_reducible refine k_bl ?_ | with_reducible refine k_iteT ?_ | with_reducible refine k_iteF ?_ | with_reducible refine k_iteNT ?_ | with_reducible refine k_iteNF ?_
  | with_reducible refine g_and ?_ | with_reducible refine g_or ?_ | with_reducible refine g_not ?_ | with_reducible refine g_andV ?_ | with_reducible refine g_orV ?_ | with_reducible refine g_notV ?_ | with_reducible refine g_yes ?_)
local macro_rules | `(tactic| walk_at "s2") => `(tactic| first
  | with_reducible refine g_ret ?_ | with_reducible refine g_drop ?_ | with_reducible refine g_next ?_ | with_reducible refine k_retN ?_
  | ((with_reducible refine k_I0 ?_); refine ⟨_, _, rfl, rfl, ?_⟩) | ((with_reducible refine k_U ?_); refine ⟨_, rfl, ?_⟩) | ((with_reducible refine k_eq ?_); refine ⟨rfl, ?_⟩) | ((with_reducible refine k_ne ?_); refine ⟨rfl, ?_⟩)
  | ((with_reducible refine k_isN ?_); refine ⟨rfl, ?_⟩) | ((with_reducible refine k_notN ?_); refine ⟨rfl, ?_⟩) | with_reducible refine k_chain ?_ | with_reducible refine k_fld ?_ | with_reducible refine k_sfld ?_
  | with_reducible refine k_tup ?_ | with_reducible refine k_lst ?_ | with_reducible refine k_meth ?_ | with_reducible refine k_bm ?_ | with_reducible refine k_bm0 ?_ | with_reducible refine k_m1 ?_ | with_reducible refine k_fmt ?_ | with_reducible refine k_joined ?_
  | with_reducible refine k_js0 ?_ | with_reducible refine k_js1 ?_ | with_reducible refine k_mkR ?_ | with_reducible refine k_sl ?_ | with_reducible refine k_part ?_ | with_reducible refine k_nopart ?_ | with_reducible refine k_gtup ?_
  | ((with_reducible refine k_aug ?_); refine ⟨_, rfl, ?_⟩) | ((with_reducible refine k_ipI ?_); refine ⟨_, _, rfl, rfl, ?_⟩) | with_reducible refine k_par ?_ | with_reducible refine k_din ?_ | with_reducible refine k_dnin ?_ | with_reducible refine k_dput ?_
  | with_reducible refine g_gcons ?_ | with_reducible refine g_gnil ?_ | with_reducible refine k_cval ?_ | with_reducible refine k_dnew ?_ | with_reducible refine k_isS ?_ | with_reducible refine k_int ?_ | with_reducible refine k_lcL ?_ | with_reducible refine k_lcT ?_ | with_reducible refine k_lcQ ?_ | with_reducible refine k_lcS ?_ | with_reducible refine k_lcR ?_ | with_reducible refine k_forL ?_ | with_reducible refine k_forT ?_ | with_reducible refine k_forQ ?_ | with_reducible refine k_forS ?_ | with_reducible refine k_forR ?_ | with_reducible refine k_forE ?_ | with_reducible refine k_forET ?_ | with_reducible refine k_forI ?_ | with_reducible refine k_star ?_ | with_reducible refine k_dcL ?_ | with_reducible refine k_listItems ?_ | with_reducible refine k_dget ?_ | ((with_reducible refine k_wipe ?_ ?_); exact rfl))
local macro_rules | `(tactic| walk_at "go") => `(tactic| repeat (first | walk_at "s1" | walk_at "s2"))
variable {a : Ax} {mg : Str → Option Value} (T : Top a mg) {vs : List V} {H : Hp} {Q : VK} {E : XK}
include T
theorem rd_is_spelled (h : sp_is_spelled a vs H Q E) : t_is_spelled a { nx := fun _ H' => Q .non H', rt := Q } (start n_is_spelled vs) H := by
  obtain ⟨z, n, rfl, sz, hn, q⟩ := h
  have hl : z.length = (cp z).length := len_cp z
  have h1 := sz.lo
  have h2 := sz.hi
  have lb := line_big
  unfold t_is_spelled
  walk_at "go"
  refine isi_str ?_
  walk_at "go"
  refine ⟨z, rfl, by omega, ?_⟩
  walk_at "go"
  refine k_iteY (decide_eq_true (by omega)) ?_
  walk_at "go"
  refine k_iteZ (by rw [decide_eq_true (by omega)] <;> rfl) ?_
  walk_at "go"
  refine ⟨_, rfl, fun D hD => ?_⟩
  refine lc_it walk_str (fun i H' => Same H H' ∧ H' D = some (.lst (List.replicate i (V.bl true)))) ⟨Same.new (Same.refl _) hD, upd_same⟩ (fun _ _ _ _ => trivial) (fun i x H1 H2 hi ⟨e, hd⟩ ⟨eH, c, hc, ex⟩ => ?_) (fun H1 ⟨e, hd⟩ => ?_)
  · subst eH ex
    walk_at "go"
    refine ⟨c, abc, rfl, rfl, ?_⟩
    rw [decide_eq_true (mem_abc.mpr (sz.ch c (List.mem_of_getElem? (cps_get hc))))]
    exact lc_add e hD hd (by rw [List.length_replicate]; have := hi; have : z.cps.size = z.length := rfl; omega) (rep_snoc _ _)
  · walk_at "go"
    refine ⟨D, List.replicate z.cps.size true, rfl, .inl (.inl (by rw [← rep_bl]; exact hd)), ?_⟩
    rw [all_rep]
    exact q _ e
theorem rd_is_name (h : sp_is_name a vs H Q E) : t_is_name a { nx := fun _ H' => Q .non H', rt := Q } (start n_is_name vs) H := by
  obtain ⟨z, rfl, hz, q⟩ := h
  unfold t_is_name
  walk_at "go"
  exact ⟨z, 6, rfl, hz.sp, by omega, fun H' e => q H' e⟩
theorem rd_is_names (h : sp_is_names a vs H Q E) : t_is_names a { nx := fun _ H' => Q .non H', rt := Q } (start n_is_names vs) H := by
  obtain ⟨p, xs, rfl, hq, hx, hn, q⟩ := h
  have lb := line_big
  unfold t_is_names
  walk_at "go"
  refine ⟨by decide +kernel, fun tp ht => ?_⟩
  walk_at "go"
  have e0 : Same H (upd H tp (.tup [.ty "list", .ty "tuple"])) := Same.new (Same.refl _) ht
  generalize hH : upd H tp (.tup [.ty "list", .ty "tuple"]) = Hz at *
  have hz : Hz tp = some (.tup [.ty "list", .ty "tuple"]) := by rw [← hH]; exact upd_same
  refine isiT_seq (sq_same e0 hq) hz ?_
  walk_at "go"
  refine ⟨p, rfl, ?_⟩
  have key : ∀ (J : It) (G : Hp → Prop), Walk J (xs.map V.str).length G (YAt (xs.map V.str)) → (∀ H', Same Hz H' → G H') → ∀ D, Hz D = none → ∀ (Qd : Hp → Prop), (∀ H', Same Hz H' → H' D = some (.lst ((List.replicate xs.length true).map V.bl)) → Qd H') → 
      ∃ W : Nat → Nat → Hp → Prop, (∃ m, W 0 m (upd Hz D (.lst []))) ∧ ∀ i m H, W i m H → (J.stop i H ∧ Qd H) ∨ (J.go i H ∧ ∃ Nx : Hp → Prop, (∀ H', Nx H' → ∃ m', m' < m ∧ W (i + 1) m' H') ∧ ∀ x H', J.yld i H x H' → gName 1 x (wipe (L2.start n_is_names [.ref p]) [1]) H' fun σ2 H2 => wipe σ2 [1] = wipe (L2.start n_is_names [.ref p]) [1] ∧ tYes σ2 H2 fun b H3 =>
        if b = true then tCall (sp_is_name a) [] L2.E0 (tCons (tVar 1) tNil) σ2 H3 fun y H4 => ∃ acc, H4 D = some (.lst acc) ∧ acc.length < sizeLine ∧ Nx (upd H4 D (.lst (acc ++ [y]))) else Nx H3) := fun J G w hG D hD Qd hQ => by
    refine lc_it w (fun i H' => Same Hz H' ∧ H' D = some (.lst (List.replicate i (V.bl true)))) ⟨Same.new (Same.refl _) hD, upd_same⟩ (fun i H' _ c => hG H' c.1) (fun i x H1 H2 hi ⟨e, hd⟩ ⟨eH, ex⟩ => ?_) (fun H1 ⟨e, hd⟩ => ?_)
    · subst eH
      obtain ⟨z, hz, rfl⟩ := map_get ex
      walk_at "go"
      refine ⟨z, rfl, hx.nm z (List.mem_of_getElem? hz), fun H' e2 => ?_⟩
      rw [List.length_map] at hi
      exact lc_add (e.trans e2) hD (e2 _ _ hd) (by rw [List.length_replicate]; omega) (rep_snoc _ _)
    · refine hQ H1 e ?_
      rw [List.length_map, rep_bl] at hd
      exact hd
  have fin : ∀ D, Hz D = none → ∀ H', Same Hz H' → H' D = some (.lst ((List.replicate xs.length true).map V.bl)) → tNot (tB (tCB (rAll a.K) fun σ H Q => Q [.ref D] H)) (L2.start n_is_names [.ref p]) H' (fun b H1 => if b = true then tRet (tC (V.bl false)) { nx := tRet (tOp rEq (tLenSetN a.K (tVar 0)) (tCB (rLenQ a.K) (tCons (tVar 0) tNil))) { nx := fun _ H' => Q .non H', rt := Q }, rt := Q } (L2.start n_is_names [.ref p]) H1 else tNext { nx := tRet (tOp rEq (tLenSetN a.K (tVar 0)) (tCB (rLenQ a.K) (tCons (tVar 0) tNil))) { nx := fun _ H' => Q .non H', rt := Q }, rt := Q } (L2.start n_is_names [.ref p]) H1) := fun D hD H' e hd => by
    walk_at "go"
    refine ⟨D, _, rfl, .inl (.inl hd), ?_⟩
    rw [all_rep]
    walk_at "go"
    have hq2 := sq_same (e0.trans e) hq
    refine ⟨_, rfl, p, xs, rfl, hq2, hx.nd, by omega, ?_⟩
    walk_at "go"
    refine ⟨p, _, rfl, hq2, ?_⟩
    walk_at "go"
    rw [List.length_map, decide_eq_true rfl]
    exact q _ (e0.trans e)
  rcases hq with hl | ht2
  · exact .inl ⟨⟨_, Same.seq e0 hl⟩, fun D hD => key _ _ walk_list (fun H' e => Same.seq e (Same.seq e0 hl)) D hD _ fun H' e hd => fin D hD H' e hd⟩
  · exact .inr ⟨⟨_, sqt_same e0 ht2⟩, fun D hD => key _ _ walk_tup (fun H' e => sqt_same e (sqt_same e0 ht2)) D hD _ fun H' e hd => fin D hD H' e hd⟩
theorem rd_is_group (h : sp_is_group a vs H Q E) : t_is_group a { nx := fun _ H' => Q .non H', rt := Q } (start n_is_group vs) H := by
  obtain ⟨p, xs, rfl, hq, hx, sx, hn, q⟩ := h
  unfold t_is_group
  walk_at "go"
  refine isi_tup hq ?_
  walk_at "go"
  refine ⟨p, xs, rfl, .inr hq, hx, hn, fun H1 e1 => ?_⟩
  walk_at "go"
  refine ⟨p, _, rfl, .inr (sqt_same e1 hq), fun l hl => ?_⟩
  have e2 : Same H (upd H1 l (.lst (xs.map V.str))) := Same.new e1 hl
  have l2 : upd H1 l (.lst (xs.map V.str)) l = some (.lst (xs.map V.str)) := upd_same
  generalize upd H1 l (.lst (xs.map V.str)) = H2 at *
  walk_at "go"
  refine ⟨p, _, rfl, .inr (sqt_same e2 hq), fun m hm => ?_⟩
  walk_at "go"
  refine sorted_of (xs := xs) (.inl (.inl upd_same)) hx.nd (by omega) fun r hr => ?_
  have e3 : Same H2 (upd (upd H2 m (.lst (xs.map V.str))) r (.lst ((isort xs).map V.str))) := by walk_at "sm"
  rw [isort_self sx] at e3 ⊢
  walk_at "go"
  refine eq_ll (xs := xs) (ys := xs) (.inl (.inl (e3 _ _ l2))) (.inl (.inl upd_same)) (fun z hz => (hx.nm z hz).ok) (fun z hz => (hx.nm z hz).ok) ?_
  rw [decide_eq_true rfl]
  exact q _ (e2.trans e3)
theorem rd_nth_mark (h : sp_nth_mark a vs H Q E) : t_nth_mark a { nx := fun _ H' => Q .non H', rt := Q } (start n_nth_mark vs) H := by
  obtain ⟨i, z, rfl, hi, q⟩ := h
  have lb := line_big
  have hi7 : i < 702 := by
    have := (List.getElem?_eq_some_iff.mp hi).1
    rw [marks_len] at this
    exact this
  have sig : ∀ (mk : Str) (n : Nat) (l : Option V) (H1 : Hp), n < 702 → (cp mk).length ≤ 1000 → Same H H1 → ∀ (D : Ends), (∀ H2, Same H H2 → D.nx [some (.int (i : Nat)), some (.str (S [97 + n % 26] ++ mk)), some (.int (n / 26 : Nat)), some (.int (n % 26 : Nat))] H2) →
      tSeq (tAsg (tCB rDivm (tCons (tOp rSubI (tVar 2) (tC (V.int 1))) (tCons (tCB rLenS (tCons (tC (V.str abc)) tNil)) tNil))) (gTup a.K 2 (gCons (gName 2) (gCons (gName 3) gNil))))
      (tAsg (tJoined [tFmt (tOp rIxS (tC (V.str abc)) (tVar 3)), tFmt (tVar 1)]) (gName 1)) D [some (.int (i : Nat)), some (.str mk), some (.int ((n : Nat) + 1 : Int)), l] H1 := fun mk n l H1 hn hmk e D hD => by
    walk_at "go"
    refine ⟨abc, rfl, by rw [line_big]; decide +kernel, ?_⟩
    walk_at "go"
    refine ⟨_, _, rfl, by constructor <;> decide +kernel, fun p hp => ?_⟩
    walk_at "go"
    refine ⟨p, _, rfl, .inl (.inl upd_same), rfl, ?_⟩
    have e26 : (abc.length : Int) = 26 := by decide +kernel
    have d1 : ((n : Int) + 1 - 1) / (abc.length : Int) = ((n / 26 : Nat) : Int) := by rw [e26]; omega
    have d2 : ((n : Int) + 1 - 1) % (abc.length : Int) = ((n % 26 : Nat) : Int) := by rw [e26]; omega
    rw [d1, d2]
    walk_at "go"
    refine ⟨abc, _, 97 + n % 26, rfl, rfl, by rw [line_big]; decide +kernel, by rw [Fd.atI_nat]; exact abc_at (Nat.mod_lt _ (by decide)), ?_⟩
    rw [S_one]
    refine .inl ⟨_, rfl, by rw [S_len, line_big]; exact Nat.le_of_ble_eq_true rfl, ?_⟩
    refine ⟨_, rfl, by rw [cat_nil, S_len, line_big]; exact Nat.le_of_ble_eq_true rfl, ?_⟩
    rw [cat_nil]
    walk_at "go"
    refine .inl ⟨_, rfl, by rw [len_cp]; omega, ?_⟩
    refine ⟨_, rfl, by rw [cat_len, S_len, len_cp, line_big, List.length_singleton]; omega, ?_⟩
    walk_at "go"
    exact hD _ (e.trans (Same.new (Same.refl _) hp))
  unfold t_nth_mark
  walk_at "go"
  refine ⟨fun m σ H1 => Same H H1 ∧ ((m = 2 ∧ σ = [some (.int (i : Nat)), some (.str (Str.ofString "")), some (.int ((i : Nat) + 1 : Int)), none]) ∨
    (m = 1 ∧ 26 ≤ i ∧ σ = [some (.int (i : Nat)), some (.str (S [97 + i % 26])), some (.int ((i / 26 : Nat) : Int)), some (.int (i % 26 : Nat))]) ∨
    (m = 0 ∧ ∃ l, σ = [some (.int (i : Nat)), some (.str z), some (.int 0), l])), ⟨2, Same.refl H, .inl ⟨rfl, rfl⟩⟩, ?_⟩
  rintro m σ H1 ⟨e, c⟩
  rcases c with ⟨rfl, rfl⟩ | ⟨rfl, h26, rfl⟩ | ⟨rfl, l, rfl⟩
  · walk_at "go"
    refine k_iteY (decide_eq_true (by omega)) ?_
    refine ⟨_, fun σ' H' w => w, ?_⟩
    refine sig _ i _ H1 hi7 (by decide +kernel) e _ fun H2 e2 => ?_
    by_cases hlt : i < 26
    · refine ⟨0, by decide, e2, .inr (.inr ⟨rfl, some (.int (i % 26 : Nat)), ?_⟩)⟩
      rw [marks1 i hlt] at hi
      have ez := (Option.some.inj hi).symm
      rw [ez, Nat.mod_eq_of_lt hlt, Nat.div_eq_of_lt hlt]
      rfl
    · exact ⟨1, by decide, e2, .inr (.inl ⟨rfl, by omega, rfl⟩)⟩
  · walk_at "go"
    refine k_iteY (decide_eq_true (by omega)) ?_
    refine ⟨_, fun σ' H' w => w, ?_⟩
    have e3 : ((i / 26 : Nat) : Int) = ((i / 26 - 1 : Nat) : Int) + 1 := by omega
    rw [e3]
    refine sig _ (i / 26 - 1) _ H1 (by omega) (Nat.le_of_ble_eq_true rfl) e _ fun H2 e2 => ?_
    refine ⟨0, by decide, e2, .inr (.inr ⟨rfl, some (.int ((i / 26 - 1) % 26 : Nat)), ?_⟩)⟩
    rw [marks2 i hi7 h26] at hi
    have ez := (Option.some.inj hi).symm
    have m1 : (i / 26 - 1) % 26 = i / 26 - 1 := Nat.mod_eq_of_lt (by omega)
    have m2 : (i / 26 - 1) / 26 = 0 := Nat.div_eq_of_lt (by omega)
    rw [ez, m1, m2, S_cat]
    rfl
  · walk_at "go"
    refine k_iteZ (by decide) ?_
    walk_at "go"
    exact q _ e
theorem rd_row_contains (h : sp_row_contains a vs H Q E) : t_row_contains a { nx := fun _ H' => Q .non H', rt := Q } (start n_row_contains vs) H := by
  obtain ⟨r, z, pro, con, rfl, hr, hz, q⟩ := h
  unfold t_row_contains
  walk_at "go"
  refine ⟨z, rfl, hz, fun H1 e1 => ?_⟩
  walk_at "go"
  obtain ⟨dx, tp, tc, tn, h1, h2, h3, h4, h5⟩ := hr
  refine ⟨_, _, _, _, _, rfl, e1 _ _ h1, T.cR, T.nRnamed, rfl, ?_⟩
  refine in_strs (.inr (.inl (.inl (e1 _ _ h4)))) ?_
  have e : decide (z ∈ rowNamed pro con) = decide (z ∈ pro ++ con) := by
    unfold rowNamed
    exact decide_eq_decide.mpr isort_mem
  rw [e]
  exact q _ e1
theorem rd_row_init (h : sp_row_init a vs H Q E) : t_row_init a { nx := fun _ H' => Q .non H', rt := Q } (start n_row_init vs) H := by
  obtain ⟨x, dx, p, c, pro, con, rfl, hx, hp, hc, nm, nd, le, q⟩ := h
  obtain ⟨ndp, ndc, dj⟩ := List.nodup_append.mp nd
  rw [List.length_append] at le
  have lb := line_big
  have np : NmL pro := ⟨fun z hz => nm z (List.mem_append_left _ hz), ndp⟩
  have nc : NmL con := ⟨fun z hz => nm z (List.mem_append_right _ hz), ndc⟩
  unfold t_row_init
  walk_at "go"
  refine ⟨p, pro, rfl, hp, np, by omega, fun H1 e1 => ?_⟩
  walk_at "go"
  refine ⟨c, con, rfl, sq_same e1 hc, nc, by omega, fun H2 e2 => ?_⟩
  walk_at "go"
  have e02 := e1.trans e2
  refine ⟨p, rfl, ?_⟩
  refine lQ (sq_same e02 hp) (fun i => List.replicate i (V.bl false)) rfl (fun i v D H3 hD hv e3 hd => ?_) fun D H3 hD e3 hd => ?_
  · obtain ⟨z, hz, rfl⟩ := map_get hv
    walk_at "go"
    refine in_strs (sq_same (e02.trans e3) hc) ?_
    have hz2 := List.mem_of_getElem? hz
    rw [decide_eq_false fun hm => dj z hz2 z hm rfl]
    exact lc_add e3 hD hd (by rw [List.length_replicate]; have := (List.getElem?_eq_some_iff.mp hz).1; omega) (rep_snoc _ _)
  have e03 := e02.trans e3
  walk_at "go"
  refine ⟨D, List.replicate pro.length false, rfl, .inl (.inl (by rw [← rep_bf]; rw [List.length_map] at hd; exact hd)), ?_⟩
  rw [any_rep]
  walk_at "go"
  refine k_tsl (sq_same e03 hp) ndp (by omega) fun t1 H4 e4 n4 h4 => ?_
  have e04 := e03.trans e4
  walk_at "go"
  have x4 := e04 _ _ hx
  refine ⟨x, _, _, _, rfl, x4, T.cR, T.nRpro, by decide, ?_⟩
  have b5 : Butx x H (upd H4 x (.ins a.R dx (putF "pro" (.ref t1) []))) := (Butx.of e04).put
  have x5 : upd H4 x (.ins a.R dx (putF "pro" (.ref t1) [])) x = some (.ins a.R dx [("pro", .ref t1)]) := upd_same
  have t5 : upd H4 x (.ins a.R dx (putF "pro" (.ref t1) [])) t1 = some (.tup ((isort pro).map V.str)) := by rw [upd_ne (tup_ne x4 h4)]; exact h4
  generalize upd H4 x (.ins a.R dx (putF "pro" (.ref t1) [])) = H5 at *
  walk_at "go"
  refine k_tsl (sq_but b5 hx hc) ndc (by omega) fun t2 H6 e6 n6 h6 => ?_
  walk_at "go"
  have x6 := e6 _ _ x5
  refine ⟨x, _, _, _, rfl, x6, T.cR, T.nRcon, by simp, ?_⟩
  have b7 : Butx x H (upd H6 x (.ins a.R dx (putF "con" (.ref t2) [("pro", .ref t1)]))) := (b5.trans (Butx.of e6)).put
  have x7 : upd H6 x (.ins a.R dx (putF "con" (.ref t2) [("pro", .ref t1)])) x = some (.ins a.R dx [("pro", .ref t1), ("con", .ref t2)]) := upd_same
  have t7 : upd H6 x (.ins a.R dx (putF "con" (.ref t2) [("pro", .ref t1)])) t1 = some (.tup ((isort pro).map V.str)) := by rw [upd_ne (tup_ne x6 (e6 _ _ t5))]; exact e6 _ _ t5
  have u7 : upd H6 x (.ins a.R dx (putF "con" (.ref t2) [("pro", .ref t1)])) t2 = some (.tup ((isort con).map V.str)) := by rw [upd_ne (tup_ne x6 h6)]; exact h6
  generalize upd H6 x (.ins a.R dx (putF "con" (.ref t2) [("pro", .ref t1)])) = H7 at *
  walk_at "go"
  refine ⟨_, _, _, _, _, rfl, x7, T.cR, T.nRpro, rfl, t1, _, rfl, .inl (.inl (.inl t7)), ?_⟩
  walk_at "go"
  refine ⟨_, _, _, _, _, rfl, x7, T.cR, T.nRcon, rfl, t2, _, rfl, .inl (.inl (.inl u7)), ?_⟩
  walk_at "go"
  refine ⟨by rw [List.append_nil, List.length_append, List.length_map, List.length_map, isort_len, isort_len]; omega, fun l hl => ?_⟩
  walk_at "go"
  refine sorted_of (xs := isort pro ++ isort con) (.inl (.inl (by rw [List.append_nil, ← List.map_append]; exact upd_same))) (perm_app_isort.nodup_iff.mpr nd) (by rw [List.length_append, isort_len, isort_len]; omega) fun m hm => ?_
  walk_at "go"
  refine ⟨m, _, rfl, .inl ⟨.inl (.inl upd_same), fun t3 h3 => ?_⟩⟩
  have e8 : Same H7 (upd (upd (upd H7 l (.lst ((isort pro).map V.str ++ ((isort con).map V.str ++ [])))) m (.lst ((isort (isort pro ++ isort con)).map V.str))) t3 (.tup ((isort (isort pro ++ isort con)).map V.str))) := by walk_at "sm"
  have h8 : upd (upd (upd H7 l (.lst ((isort pro).map V.str ++ ((isort con).map V.str ++ [])))) m (.lst ((isort (isort pro ++ isort con)).map V.str))) t3 (.tup ((isort (isort pro ++ isort con)).map V.str)) t3 = some (.tup ((isort (isort pro ++ isort con)).map V.str)) := upd_same
  generalize upd (upd (upd H7 l (.lst ((isort pro).map V.str ++ ((isort con).map V.str ++ [])))) m (.lst ((isort (isort pro ++ isort con)).map V.str))) t3 (.tup ((isort (isort pro ++ isort con)).map V.str)) = H8 at *
  walk_at "go"
  have x8 := e8 _ _ x7
  refine ⟨x, _, _, _, rfl, x8, T.cR, T.nRnamed, by simp, ?_⟩
  refine q _ ((b7.trans (Butx.of e8)).put) ⟨dx, t1, t2, t3, upd_same, ?_, ?_, ?_, rowV_of nm nd (by rw [List.length_append]; omega)⟩
  · rw [upd_ne (tup_ne x8 (e8 _ _ t7))]; exact e8 _ _ t7
  · rw [upd_ne (tup_ne x8 (e8 _ _ u7))]; exact e8 _ _ u7
  · rw [upd_ne (tup_ne x8 h8)]; exact h8
end
end Fd
set_option Elab.async false
set_option linter.all false
set_option maxRecDepth 100000
set_option maxHeartbeats 4000000
/-! ### FdL1b: rows, orders -/
namespace Fd
open PySem PySem.Spec PyProof.Rows L2 SX
theorem named_mem {pro con : List Str} {z : Str} : z ∈ rowNamed pro con ↔ z ∈ pro ++ con := isort_mem
section
local macro_rules | `(tactic| walk_at "sm") => `(tactic| first | exact Same.refl _ | assumption | (refine Same.new ?_ ‹_›; walk_at "sm") | (refine Same.trans ?_ ‹Same _ _›; walk_at "sm"))
local macro_rules | `(tactic| walk_at "s1") => `(tactic| first
  | with_reducible refine g_seq ?_ | with_reducible refine g_asg ?_ | with_reducible refine g_name ?_ | with_reducible refine g_cons ?_ | with_reducible refine g_nil ?_
  | ((with_reducible refine k_var ?_); refine ⟨_, rfl, ?_⟩) | with_reducible refine g_c ?_ | with_reducible refine g_op ?_ | with_reducible refine g_un ?_
  | with_reducible refine g_cb ?_ | with_reducible refine g_call ?_ | with_reducible refine g_ifS ?_ | with_reducible refine g_if ?_ | with_reducible refine g_tB ?_ | with_reducible refine g_test ?_
  | with_reducible refine k_bl ?_ | with_reducible refine k_iteT ?_ | with_reducible refine k_iteF ?_ | with_reducible refine k_iteNT ?_ | with_reducible refine k_iteNF ?_
  | with_reducible refine g_and ?_ | with_reducible refine g_or ?_ | with_reducible refine g_not ?_ | with_reducible refine g_andV ?_ | with_reducible refine g_orV ?_ | with_reducible refine g_notV ?_ | with_reducible refine g_yes ?_)
local macro_rules | `(tactic| walk_at "s2") => `(tactic| first
  | with_reducible refine g_ret ?_ | with_reducible refine g_drop ?_ | with_reducible refine g_next ?_ | with_reducible refine k_retN ?_
  | ((with_reducible refine k_I0 ?_); refine ⟨_, _, rfl, rfl, ?_⟩) | ((with_reducible refine k_U ?_); refine ⟨_, rfl, ?_⟩) | ((with_reducible refine k_eq ?_); refine ⟨rfl, ?_⟩) | ((with_reducible refine k_ne ?_); refine ⟨rfl, ?_⟩)
  | ((with_reducible refine k_isN ?_); refine ⟨rfl, ?_⟩) | ((with_reducible refine k_notN ?_); refine ⟨rfl, ?_⟩) | with_reducible refine k_chain ?_ | with_reducible refine k_fld ?_ | with_reducible refine k_sfld ?_
  | with_reducible refine k_tup ?_ | with_reducible refine k_lst ?_ | with_reducible refine k_meth ?_ | with_reducible refine k_bm ?_ | with_reducible refine k_bm0 ?_ | with_reducible refine k_m1 ?_ | with_reducible refine k_fmt ?_ | with_reducible refine k_joined ?_
  | with_reducible refine k_js0 ?_ | with_reducible refine k_js1 ?_ | with_reducible refine k_mkR ?_ | with_reducible refine k_sl ?_ | with_reducible refine k_part ?_ | with_reducible refine k_nopart ?_ | with_reducible refine k_gtup ?_
  | ((with_reducible refine k_aug ?_); refine ⟨_, rfl, ?_⟩) | ((with_reducible refine k_ipI ?_); refine ⟨_, _, rfl, rfl, ?_⟩) | with_reducible refine k_par ?_ | with_reducible refine k_din ?_ | with_reducible refine k_dnin ?_ | with_reducible refine k_dput ?_
  | with_reducible refine g_gcons ?_ | with_reducible refine g_gnil ?_ | with_reducible refine k_cval ?_ | with_reducible refine k_dnew ?_ | with_reducible refine k_isS ?_ | with_reducible refine k_int ?_ | with_reducible refine k_lcL ?_ | with_reducible refine k_lcT ?_ | with_reducible refine k_lcQ ?_ | with_reducible refine k_lcS ?_ | with_reducible refine k_lcR ?_ | with_reducible refine k_forL ?_ | with_reducible refine k_forT ?_ | with_reducible refine k_forQ ?_ | with_reducible refine k_forS ?_ | with_reducible refine k_forR ?_ | with_reducible refine k_forE ?_ | with_reducible refine k_forET ?_ | with_reducible refine k_forI ?_ | with_reducible refine k_star ?_ | with_reducible refine k_dcL ?_ | with_reducible refine k_listItems ?_ | with_reducible refine k_dget ?_ | ((with_reducible refine k_wipe ?_ ?_); exact rfl))
local macro_rules | `(tactic| walk_at "go") => `(tactic| repeat (first | walk_at "s1" | walk_at "s2"))
variable {a : Ax} {mg : Str → Option Value} (T : Top a mg) {vs : List V} {H : Hp} {Q : VK} {E : XK}
include T
theorem rd_row_sign (h : sp_row_sign a vs H Q E) : t_row_sign a { nx := fun _ H' => Q .non H', rt := Q } (start n_row_sign vs) H := by
  obtain ⟨r, z, pro, con, rfl, hr, hz, q⟩ := h
  have hr0 := hr
  obtain ⟨dx, tp, tc, tn, h1, h2, h3, h4, h5⟩ := hr0
  unfold t_row_sign
  walk_at "go"
  refine ⟨_, _, _, rfl, h1, r, z, pro, con, rfl, hr, h5.nm z hz, fun H1 e1 => ⟨_, rfl, ?_⟩⟩
  rw [decide_eq_true hz]
  walk_at "go"
  refine ⟨_, _, _, _, _, rfl, e1 _ _ h1, T.cR, T.nRpro, rfl, ?_⟩
  refine in_strs (xs := pro) (.inr (.inl (.inl (e1 _ _ h2)))) ?_
  have q1 := q H1 e1
  by_cases hp : z ∈ pro
  · rw [decide_eq_true hp]
    rw [if_pos hp] at q1
    walk_at "go"
    exact q1
  · rw [decide_eq_false hp]
    rw [if_neg hp] at q1
    walk_at "go"
    exact q1
theorem rd_row_neg (h : sp_row_neg a vs H Q E) : t_row_neg a { nx := fun _ H' => Q .non H', rt := Q } (start n_row_neg vs) H := by
  obtain ⟨r, pro, con, rfl, hr, q⟩ := h
  obtain ⟨dx, tp, tc, tn, h1, h2, h3, h4, h5⟩ := hr
  obtain ⟨n1, n2, dj⟩ := List.nodup_append.mp h5.nd
  unfold t_row_neg
  walk_at "go"
  refine ⟨_, _, _, _, _, rfl, h1, T.cR, T.nRcon, rfl, ?_⟩
  walk_at "go"
  refine ⟨_, _, _, _, _, rfl, h1, T.cR, T.nRpro, rfl, ?_⟩
  walk_at "go"
  intro x dy nx nd ne
  have e0 : Same H (upd (upd H dy (.own x)) x (.ins a.R dy [])) := Same.new (Same.new (Same.refl _) nd) (by rw [upd_ne (fun e => ne e.symm)]; exact nx)
  refine .inl ⟨x, dy, tc, tp, con, pro, rfl, upd_same, .inr (.inl (.inl (e0 _ _ h3))), .inr (.inl (.inl (e0 _ _ h2))), fun z hz => h5.nm z (by rcases List.mem_append.mp hz with k | k <;> simp [k]), ?_, by have := h5.le; rw [List.length_append] at this ⊢; omega, fun H' b hx => ⟨rfl, ?_⟩⟩
  · exact (List.perm_append_comm.nodup_iff).mp h5.nd
  · rw [isort_self h5.sp, isort_self h5.sc] at hx
    exact q x H' (Butx.made nx nd b) nx hx
theorem rd_row_text (h : sp_row_text a vs H Q E) : t_row_text a { nx := fun _ H' => Q .non H', rt := Q } (start n_row_text vs) H := by
  obtain ⟨r, pro, con, rfl, hr, q⟩ := h
  have hr0 := hr
  obtain ⟨dx, tp, tc, tn, h1, h2, h3, h4, h5⟩ := hr0
  have lb := line_big
  have ln := h5.lenN
  unfold t_row_text
  walk_at "go"
  refine ⟨_, _, _, _, _, rfl, h1, T.cR, T.nRnamed, rfl, ?_⟩
  walk_at "go"
  refine ⟨Nat.zero_le _, fun p hp => ?_⟩
  have e0 : Same H (upd H p (.tup [])) := Same.new (Same.refl _) hp
  have hp0 : upd H p (.tup []) p = some (.tup []) := upd_same
  generalize upd H p (.tup []) = H1 at *
  refine eq_tt (xs := rowNamed pro con) (ys := []) (.inl (.inl (e0 _ _ h4))) (.inl (.inl hp0)) (fun z hz => (h5.nmd z hz).ok) (fun _ hz => nomatch hz) ?_
  by_cases hn : rowNamed pro con = []
  · rw [decide_eq_true hn]
    walk_at "go"
    have q1 := q H1 e0
    unfold rowText at q1
    rw [if_pos hn] at q1
    exact q1
  rw [decide_eq_false hn]
  walk_at "go"
  refine ⟨_, _, _, _, _, rfl, e0 _ _ h1, T.cR, T.nRnamed, rfl, ?_⟩
  walk_at "go"
  refine ⟨_, rfl, ?_⟩
  refine lT (xs := (rowNamed pro con).map V.str) (.inl (.inl (e0 _ _ h4))) (fun i => ((rowNamed pro con).take i).map fun z => V.str (wordOf pro z)) rfl (fun i v D H3 hD hv e3 hd => ?_) fun D H3 hD e3 hd => ?_
  · obtain ⟨z, hz, rfl⟩ := map_get hv
    have hz2 := List.mem_of_getElem? hz
    have nz := h5.nmd z hz2
    have lz := nz.len
    walk_at "go"
    refine .inl ⟨z, rfl, by omega, ?_⟩
    refine ⟨_, rfl, by rw [cat_nil]; omega, ?_⟩
    walk_at "go"
    have hr3 := RowAt.t hr (Same.t (e0.trans e3))
    refine ⟨_, _, _, rfl, (e0.trans e3) _ _ h1, rfl, ?_⟩
    walk_at "go"
    refine ⟨r, z, pro, con, rfl, hr3, named_mem.mp hz2, fun H4 e4 => ?_⟩
    have ls := sgn_len z pro
    refine .inl ⟨_, rfl, by omega, ?_⟩
    refine ⟨_, rfl, by rw [cat_nil, cat_len]; omega, ?_⟩
    walk_at "go"
    rw [cat_nil]
    exact lc_add (e3.trans e4) hD (e4 _ _ hd) (by rw [List.length_map]; have := len_take_le (rowNamed pro con) i; omega) (map_take_snoc (fun z => V.str (wordOf pro z)) hz)
  rw [List.length_map, take_full] at hd
  refine ⟨_, D, (rowNamed pro con).map (wordOf pro), rfl, rfl, .inl (.inl (.inl (by rw [List.map_map]; exact hd))), ?_, ?_⟩
  · have := sum_le (n := 7) (l := ((rowNamed pro con).map (wordOf pro)).map (·.length)) (fun x hx => by
      rw [List.map_map] at hx
      obtain ⟨z, hz, e⟩ := List.mem_map.mp hx
      rw [← e]
      exact word_len (h5.nmd z hz))
    rw [List.length_map, List.length_map] at this
    rw [List.length_map]
    have l1 : (Str.ofString " ").length = 1 := by decide +kernel
    rw [l1]
    omega
  have q1 := q H3 (e0.trans e3)
  rw [rowText_ne hn] at q1
  exact q1
theorem rd_row_read (h : sp_row_read a vs H Q E) : t_row_read a { nx := fun _ H' => Q .non H', rt := Q } (start n_row_read vs) H := by
  obtain ⟨pro, con, rfl, h5, q⟩ := h
  have lb := line_big
  have ln := h5.lenN
  have lt := rowText_len h5
  unfold t_row_read
  walk_at "go"
  refine isi_str ?_
  walk_at "go"
  by_cases hn : rowNamed pro con = []
  · have ht : rowText pro con = "even" := by
      unfold rowText
      rw [if_pos hn]
    obtain ⟨rfl, rfl⟩ := RowV.nil hn
    refine k_iteY (decide_eq_true (by rw [ht])) ?_
    walk_at "go"
    intro x dx nx nd ne
    refine .inr ⟨_, rfl, x, dx, a.t1, a.t2, [], [], rfl, upd_same, .inr (T.et1 _), .inr (T.et2 _), fun _ hz => (nomatch hz), List.nodup_nil, Nat.zero_le _, fun H' b hx => ⟨rfl, ?_⟩⟩
    exact q x H' (Butx.made nx nd b) nx hx
  refine k_iteZ (decide_eq_false fun e => rowText_even hn (V.str.inj e)) ?_
  walk_at "go"
  have hw : ∀ w ∈ (rowNamed pro con).map (wordOf pro), 32 ∉ cp w := fun w hw => by
    obtain ⟨z, hz, e⟩ := List.mem_map.mp hw
    rw [← e]
    exact word_no (h5.nmd z hz) (by decide)
  have sp1 : Txt.split (rowText pro con) " " = (rowNamed pro con).map (wordOf pro) := by
    rw [rowText_ne hn]
    exact split_join (c := 32) (sep := []) (by decide) (by simpa using hn) hw
  refine ⟨_, _, rfl, rfl, by decide +kernel, by omega, fun w hw0 => ?_⟩
  rw [sp1]
  have e1 : Same H (upd H w (.lst (((rowNamed pro con).map (wordOf pro)).map V.str))) := Same.new (Same.refl _) hw0
  have h1 : upd H w (.lst (((rowNamed pro con).map (wordOf pro)).map V.str)) w = some (.lst ((rowNamed pro con).map fun z => V.str (wordOf pro z))) := by rw [upd_same, List.map_map] <;> rfl
  generalize upd H w (.lst (((rowNamed pro con).map (wordOf pro)).map V.str)) = H1 at *
  walk_at "go"
  have wl : ∀ z ∈ rowNamed pro con, (wordOf pro z).length ≤ sizeLine := fun z hz => by
    have := word_len (pro := pro) (h5.nmd z hz)
    omega
  have wc : ∀ z, cutS (wordOf pro z) none (some (-1)) = z := fun z => by rw [C8.cutS_slice, wordOf_S, butlast_snoc, S_tl]
  refine ⟨w, rfl, ?_⟩
  refine lL (.inl (.inl h1)) (fun i => ((rowNamed pro con).take i).map V.str) rfl (fun i v D H3 hD hv e3 hd => ?_) fun D H3 hD e3 hd => ?_
  · obtain ⟨z, hz, rfl⟩ := map_get hv
    walk_at "go"
    refine ⟨_, rfl, wl z (List.mem_of_getElem? hz), ?_⟩
    have w1 : cutS (wordOf pro z) none (some (-1)) = z := wc z
    rw [show (-(1 : Int)) = -1 from rfl, w1]
    exact lc_add e3 hD hd (by rw [List.length_map]; have := len_take_le (rowNamed pro con) i; omega) (map_take_snoc _ hz)
  rw [List.length_map, take_full] at hd
  walk_at "go"
  refine ⟨D, _, rfl, .inl ⟨.inl (.inl hd), fun tt ht => ?_⟩⟩
  have e4 : Same H (upd H3 tt (.tup ((rowNamed pro con).map V.str))) := Same.new (e1.trans e3) ht
  have h4w : upd H3 tt (.tup ((rowNamed pro con).map V.str)) w = some (.lst ((rowNamed pro con).map fun z => V.str (wordOf pro z))) := (Same.new e3 ht) _ _ h1
  have h4t : upd H3 tt (.tup ((rowNamed pro con).map V.str)) tt = some (.tup ((rowNamed pro con).map V.str)) := upd_same
  generalize upd H3 tt (.tup ((rowNamed pro con).map V.str)) = H4 at *
  walk_at "go"
  refine ⟨tt, rowNamed pro con, rfl, .inl (.inl h4t), ⟨h5.nmd, h5.srt.nodup⟩, h5.srt, by omega, fun H5 e5 => ?_⟩
  walk_at "go"
  have h5w := e5 _ _ h4w
  have sgn : ∀ z, atI (wordOf pro z).cps.toList (-1) = some (if z ∈ pro then 43 else 45) := fun z => by
    rw [show (wordOf pro z).cps.toList = cp z ++ [if z ∈ pro then 43 else 45] from wordOf_cp pro z]
    exact atI_last _ _
  refine ⟨w, rfl, ?_⟩
  refine lL (.inl (.inl h5w)) (fun i => (((rowNamed pro con).take i).filter (fun z => decide (z ∈ pro))).map V.str) rfl (fun i v D2 H6 hD2 hv e6 hd6 => ?_) fun D2 H6 hD2 e6 hd6 => ?_
  · obtain ⟨z, hz, rfl⟩ := map_get hv
    have fs := filt_snoc V.str (fun z => decide (z ∈ pro)) hz
    have fl := filt_le (fun z => decide (z ∈ pro)) (rowNamed pro con) i
    walk_at "go"
    refine ⟨_, _, _, rfl, rfl, wl z (List.mem_of_getElem? hz), sgn z, ?_⟩
    rw [S_one]
    by_cases hp : z ∈ pro
    · rw [if_pos hp]
      rw [if_pos (decide_eq_true hp)] at fs
      walk_at "go"
      refine k_iteY (decide_eq_true (by rfl)) ?_
      walk_at "go"
      refine ⟨_, rfl, wl z (List.mem_of_getElem? hz), ?_⟩
      rw [show (-(1 : Int)) = -1 from rfl, wc z]
      exact lc_add e6 hD2 hd6 (by rw [List.length_map]; omega) fs
    · rw [if_neg hp]
      rw [if_neg (by rw [decide_eq_false hp]; decide), List.append_nil] at fs
      walk_at "go"
      refine k_iteZ (decide_eq_false (fun e => absurd (congrArg cp (V.str.inj e)) (by decide +kernel))) ?_
      exact ⟨e6, by rw [fs]; exact hd6⟩
  rw [List.length_map, take_full, h5.fp] at hd6
  walk_at "go"
  refine ⟨w, rfl, ?_⟩
  refine lL (.inl (.inl (e6 _ _ h5w))) (fun i => (((rowNamed pro con).take i).filter (fun z => !decide (z ∈ pro))).map V.str) rfl (fun i v D3 H7 hD3 hv e7 hd7 => ?_) fun D3 H7 hD3 e7 hd7 => ?_
  · obtain ⟨z, hz, rfl⟩ := map_get hv
    have fs := filt_snoc V.str (fun z => !decide (z ∈ pro)) hz
    have fl := filt_le (fun z => !decide (z ∈ pro)) (rowNamed pro con) i
    walk_at "go"
    refine ⟨_, _, _, rfl, rfl, wl z (List.mem_of_getElem? hz), sgn z, ?_⟩
    rw [S_one]
    by_cases hp : z ∈ pro
    · rw [if_pos hp]
      rw [if_neg (by rw [decide_eq_true hp]; decide), List.append_nil] at fs
      walk_at "go"
      refine k_iteZ (decide_eq_false (fun e => absurd (congrArg cp (V.str.inj e)) (by decide +kernel))) ?_
      exact ⟨e7, by rw [fs]; exact hd7⟩
    · rw [if_neg hp]
      rw [if_pos (by rw [decide_eq_false hp]; decide)] at fs
      walk_at "go"
      refine k_iteY (decide_eq_true (by rfl)) ?_
      walk_at "go"
      refine ⟨_, rfl, wl z (List.mem_of_getElem? hz), ?_⟩
      rw [show (-(1 : Int)) = -1 from rfl, wc z]
      exact lc_add e7 hD3 hd7 (by rw [List.length_map]; omega) fs
  rw [List.length_map, take_full, h5.fc] at hd7
  have e07 : Same H H7 := ((e4.trans e5).trans e6).trans e7
  walk_at "go"
  refine ⟨D2, _, rfl, .inl (.inl (.inl (e7 _ _ hd6))), ?_⟩
  walk_at "go"
  refine ⟨D3, _, rfl, .inl (.inl (.inl hd7)), ?_⟩
  walk_at "go"
  refine ⟨w, _, rfl, .inl (.inl (.inl (e7 _ _ (e6 _ _ h5w)))), ?_⟩
  have ll : (pro.map V.str).length + (con.map V.str).length = ((rowNamed pro con).map fun z => V.str (wordOf pro z)).length := by
    unfold rowNamed
    rw [List.length_map, List.length_map, List.length_map, isort_len, List.length_append]
  walk_at "go"
  refine k_iteZ (by rw [decide_eq_true (by rw [← ll]; rfl)] <;> rfl) ?_
  walk_at "go"
  intro x dy nx nd ne
  have e8 : Same H7 (upd (upd H7 dy (.own x)) x (.ins a.R dy [])) := Same.new (Same.new (Same.refl _) nd) (by rw [upd_ne (fun e => ne e.symm)]; exact nx)
  refine .inl ⟨x, dy, D2, D3, pro, con, rfl, upd_same, .inl (.inl (.inl (e8 _ _ (e7 _ _ hd6)))), .inl (.inl (.inl (e8 _ _ hd7))), h5.nm, h5.nd, h5.le, fun H' b hx => ⟨rfl, ?_⟩⟩
  rw [isort_self h5.sp, isort_self h5.sc] at hx
  exact q x H' (e07.trans (Butx.made nx nd b)) (e07.free nx) hx
end
end Fd
set_option Elab.async false
set_option linter.all false
set_option maxRecDepth 100000
set_option maxHeartbeats 4000000
/-! ### FdL1c: orders -/
namespace Fd
open PySem PySem.Spec PyProof.Rows L2 SX
theorem named_mem' {pro con : List Str} {z : Str} : z ∈ rowNamed pro con ↔ z ∈ pro ++ con := isort_mem
theorem inr_mem {z : Str} {xs : List Str} : (Sum.inr z : Key) ∈ xs.map Sum.inr ↔ z ∈ xs := by
  constructor
  · intro h
    obtain ⟨y, hy, e⟩ := List.mem_map.mp h
    rw [← Sum.inr.inj e]
    exact hy
  · exact fun h => List.mem_map_of_mem h
section
local macro_rules | `(tactic| walk_at "sm") => `(tactic| first | exact Same.refl _ | assumption | (refine Same.new ?_ ‹_›; walk_at "sm") | (refine Same.trans ?_ ‹Same _ _›; walk_at "sm"))
local macro_rules | `(tactic| walk_at "s1") => `(tactic| first
  | with_reducible refine g_seq ?_ | with_reducible refine g_asg ?_ | with_reducible refine g_name ?_ | with_reducible refine g_cons ?_ | with_reducible refine g_nil ?_
  | ((with_reducible refine k_var ?_); refine ⟨_, rfl, ?_⟩) | with_reducible refine g_c ?_ | with_reducible refine g_op ?_ | with_reducible refine g_un ?_
  | with_reducible refine g_cb ?_ | with_reducible refine g_call ?_ | with_reducible refine g_ifS ?_ | with_reducible refine g_if ?_ | with_reducible refine g_tB ?_ | with_reducible refine g_test ?_
  | with_reducible refine k_bl ?_ | with_reducible refine k_iteT ?_ | with_reducible refine k_iteF ?_ | with_reducible refine k_iteNT ?_ | with_reducible refine k_iteNF ?_
  | with_reducible refine g_and ?_ | with_reducible refine g_or ?_ | with_reducible refine g_not ?_ | with_reducible refine g_andV ?_ | with_reducible refine g_orV ?_ | with_reducible refine g_notV ?_ | with_reducible refine g_yes ?_)
local macro_rules | `(tactic| walk_at "s2") => `(tactic| first
  | with_reducible refine g_ret ?_ | with_reducible refine g_drop ?_ | with_reducible refine g_next ?_ | with_reducible refine k_retN ?_
  | ((with_reducible refine k_I0 ?_); refine ⟨_, _, rfl, rfl, ?_⟩) | ((with_reducible refine k_U ?_); refine ⟨_, rfl, ?_⟩) | ((with_reducible refine k_eq ?_); refine ⟨rfl, ?_⟩) | ((with_reducible refine k_ne ?_); refine ⟨rfl, ?_⟩)
  | ((with_reducible refine k_isN ?_); refine ⟨rfl, ?_⟩) | ((with_reducible refine k_notN ?_); refine ⟨rfl, ?_⟩) | with_reducible refine k_chain ?_ | with_reducible refine k_fld ?_ | with_reducible refine k_sfld ?_
  | with_reducible refine k_tup ?_ | with_reducible refine k_lst ?_ | with_reducible refine k_meth ?_ | with_reducible refine k_bm ?_ | with_reducible refine k_bm0 ?_ | with_reducible refine k_m1 ?_ | with_reducible refine k_fmt ?_ | with_reducible refine k_joined ?_
  | with_reducible refine k_js0 ?_ | with_reducible refine k_js1 ?_ | with_reducible refine k_mkR ?_ | with_reducible refine k_sl ?_ | with_reducible refine k_part ?_ | with_reducible refine k_nopart ?_ | with_reducible refine k_gtup ?_
  | ((with_reducible refine k_aug ?_); refine ⟨_, rfl, ?_⟩) | ((with_reducible refine k_ipI ?_); refine ⟨_, _, rfl, rfl, ?_⟩) | with_reducible refine k_par ?_ | with_reducible refine k_din ?_ | with_reducible refine k_dnin ?_ | with_reducible refine k_dput ?_
  | with_reducible refine g_gcons ?_ | with_reducible refine g_gnil ?_ | with_reducible refine k_cval ?_ | with_reducible refine k_dnew ?_ | with_reducible refine k_isS ?_ | with_reducible refine k_int ?_ | with_reducible refine k_lcL ?_ | with_reducible refine k_lcT ?_ | with_reducible refine k_lcQ ?_ | with_reducible refine k_lcS ?_ | with_reducible refine k_lcR ?_ | with_reducible refine k_forL ?_ | with_reducible refine k_forT ?_ | with_reducible refine k_forQ ?_ | with_reducible refine k_forS ?_ | with_reducible refine k_forR ?_ | with_reducible refine k_forE ?_ | with_reducible refine k_forET ?_ | with_reducible refine k_forI ?_ | with_reducible refine k_star ?_ | with_reducible refine k_dcL ?_ | with_reducible refine k_listItems ?_ | with_reducible refine k_dget ?_ | ((with_reducible refine k_wipe ?_ ?_); exact rfl))
local macro_rules | `(tactic| walk_at "go") => `(tactic| repeat (first | walk_at "s1" | walk_at "s2"))
variable {a : Ax} {mg : Str → Option Value} (T : Top a mg) {vs : List V} {H : Hp} {Q : VK} {E : XK}
include T
theorem rd_order_init (h : sp_order_init a vs H Q E) : t_order_init a { nx := fun _ H' => Q .non H', rt := Q } (start n_order_init vs) H := by
  obtain ⟨x, dx, t, xs, rfl, hx, ht, nx, l1, l7, q⟩ := h
  have lb := line_big
  unfold t_order_init
  walk_at "go"
  refine ⟨t, _, rfl, .inr (.inl (.inl ht)), ?_⟩
  walk_at "go"
  rw [List.length_map]
  refine k_iteZ (decide_eq_false (fun e => by have := V.int.inj e; omega)) ?_
  walk_at "go"
  intro D hD
  walk_at "go"
  have e0 : Same H (upd H D (.dK [])) := Same.new (Same.refl _) hD
  refine ⟨t, xs.map V.str, rfl, .inl (.inl (e0 _ _ ht)), ?_⟩
  refine for_enumT (fun i σ H1 => Same H H1 ∧ (∃ kvs : List (Key × V), H1 D = some (.dK kvs) ∧ kvs.map (·.1) = (xs.take i).map Sum.inr) ∧ ∃ u v, σ = [some (.ref x), some (.ref t), some (.ref D), u, v]) ⟨e0, ⟨[], upd_same, rfl⟩, _, _, rfl⟩ (fun i σ H1 p => .inl (.inl (p.1 _ _ ht))) (fun i v σ H1 Tt hv p hT => ?_) fun σ H1 p => ?_
  · obtain ⟨e, ⟨kvs, hk, ek⟩, u, w, rfl⟩ := p
    obtain ⟨z, hz, rfl⟩ := map_get hv
    have hi := (List.getElem?_eq_some_iff.mp hz).1
    have e2 : Same H1 (upd H1 Tt (.tup [.int (i : Nat), .str z])) := Same.new (Same.refl _) hT
    walk_at "go"
    refine ⟨Tt, _, rfl, .inl (.inl upd_same), rfl, ?_⟩
    generalize upd H1 Tt (.tup [.int (i : Nat), .str z]) = H2 at *
    walk_at "go"
    refine ⟨z, rfl, nx.nm z (List.mem_of_getElem? hz), fun H3 e3 => ?_⟩
    have hk3 := e3 _ _ (e2 _ _ hk)
    have nk : (Sum.inr z : Key) ∉ kvs.map (·.1) := by
      rw [ek, inr_mem]
      intro hm
      obtain ⟨j, hj, ej⟩ := List.mem_take_iff_getElem.mp hm
      have hz' : xs[i] = z := (List.getElem?_eq_some_iff.mp hz).2
      exact absurd (ej.trans hz'.symm) (List.pairwise_iff_getElem.mp nx.nd j i (by omega) hi (by omega))
    walk_at "go"
    refine ⟨D, _, rfl, .inl ⟨kvs, .inr z, .inl hk3, rfl, rfl⟩, ?_⟩
    rw [valV_none nk]
    walk_at "go"
    refine k_iteZ (by rw [Option.isSome_none]) ?_
    walk_at "go"
    refine k_iteZ (decide_eq_false (fun e => by have := V.int.inj e; omega)) ?_
    walk_at "go"
    have hkl : kvs.length ≤ xs.length := by
      have := congrArg List.length ek
      rw [List.length_map, List.length_map] at this
      rw [this]
      exact len_take_le _ _
    refine ⟨D, _, rfl, .inl ⟨kvs, .inr z, hk3, rfl, by omega, rfl⟩, ?_⟩
    refine ⟨Same.mut ((e.trans e2).trans e3) hD, ⟨_, upd_same, ?_⟩, _, _, rfl⟩
    rw [putK_new nk, List.map_append, ek, map_take_snoc _ hz] <;> rfl
  · obtain ⟨e, ⟨kvs, hk, ek⟩, u, w, rfl⟩ := p
    rw [List.length_map, take_full] at ek
    walk_at "go"
    refine ⟨t, _, rfl, .inr (.inl (.inl (e _ _ ht))), fun l hl => ?_⟩
    have e2 : Same H1 (upd H1 l (.lst (xs.map V.str))) := Same.new (Same.refl _) hl
    have h2 : upd H1 l (.lst (xs.map V.str)) l = some (.lst (xs.map V.str)) := upd_same
    generalize upd H1 l (.lst (xs.map V.str)) = H2 at *
    walk_at "go"
    have x2 := e2 _ _ (e _ _ hx)
    refine ⟨x, _, _, _, rfl, x2, T.cO, T.nOranked, by simp, ?_⟩
    have nl : l ≠ x := fun z => by
      rw [z, x2] at h2
      cases h2
    have nD : D ≠ x := fun z => by
      rw [z, e _ _ hx] at hk
      cases hk
    have b3 : Butx x H (upd H2 x (.ins a.O dx (putF "ranked" (.ref l) []))) := (Butx.of (e.trans e2)).put
    have x3 : upd H2 x (.ins a.O dx (putF "ranked" (.ref l) [])) x = some (.ins a.O dx [("ranked", .ref l)]) := upd_same
    have l3 : upd H2 x (.ins a.O dx (putF "ranked" (.ref l) [])) l = some (.lst (xs.map V.str)) := by rw [upd_ne nl]; exact h2
    have d3 : upd H2 x (.ins a.O dx (putF "ranked" (.ref l) [])) D = some (.dK kvs) := by rw [upd_ne nD]; exact e2 _ _ hk
    have t3 : upd H2 x (.ins a.O dx (putF "ranked" (.ref l) [])) t = some (.tup (xs.map V.str)) := by rw [upd_ne (tup_ne hx ht)]; exact e2 _ _ (e _ _ ht)
    generalize upd H2 x (.ins a.O dx (putF "ranked" (.ref l) [])) = H3 at *
    walk_at "go"
    refine ⟨x, _, _, _, rfl, x3, T.cO, T.nOspots, by simp, ?_⟩
    have b4 : Butx x H (upd H3 x (.ins a.O dx (putF "spots" (.ref D) [("ranked", .ref l)]))) := b3.put
    have x4 : upd H3 x (.ins a.O dx (putF "spots" (.ref D) [("ranked", .ref l)])) x = some (.ins a.O dx [("ranked", .ref l), ("spots", .ref D)]) := upd_same
    have l4 : upd H3 x (.ins a.O dx (putF "spots" (.ref D) [("ranked", .ref l)])) l = some (.lst (xs.map V.str)) := by rw [upd_ne nl]; exact l3
    have d4 : upd H3 x (.ins a.O dx (putF "spots" (.ref D) [("ranked", .ref l)])) D = some (.dK kvs) := by rw [upd_ne nD]; exact d3
    have t4 : upd H3 x (.ins a.O dx (putF "spots" (.ref D) [("ranked", .ref l)])) t = some (.tup (xs.map V.str)) := by rw [upd_ne (tup_ne hx ht)]; exact t3
    generalize upd H3 x (.ins a.O dx (putF "spots" (.ref D) [("ranked", .ref l)])) = H4 at *
    walk_at "go"
    refine k_tsl (xs := xs) (.inr (.inl (.inl t4))) nx.nd (by omega) fun r H5 e5 nr hr => ?_
    walk_at "go"
    have x5 := e5 _ _ x4
    refine ⟨x, _, _, _, rfl, x5, T.cO, T.nOreasons, by simp, ?_⟩
    refine q _ (b4.trans (Butx.of e5)).put ⟨dx, l, D, r, kvs, upd_same, ?_, ?_, ek, ?_, nx, l7⟩
    · show upd _ _ _ _ = _
      rw [upd_ne nl]; exact e5 _ _ l4
    · rw [upd_ne nD]; exact e5 _ _ d4
    · rw [upd_ne (tup_ne x5 hr)]; exact hr
theorem rd_order_decides (h : sp_order_decides a vs H Q E) : t_order_decides a { nx := fun _ H' => Q .non H', rt := Q } (start n_order_decides vs) H := by
  obtain ⟨o, r, xs, pro, con, rfl, ho, hr, hsub, q⟩ := h
  obtain ⟨dx, l, d, t, kvs, h1, h2, h3, h4, h5, h6, h7⟩ := ho
  obtain ⟨dy, tp, tc, tn, r1, r2, r3, r4, r5⟩ := hr
  unfold t_order_decides
  walk_at "go"
  refine ⟨_, _, _, _, _, rfl, r1, T.cR, T.nRnamed, rfl, _, rfl, ?_⟩
  refine fT (.inl (.inl r4)) (fun i σ H1 => H1 = H ∧ ∃ u, σ = [some (.ref o), some (.ref r), u]) ⟨rfl, _, rfl⟩ (fun i σ H1 p => by rw [p.1]; exact .inl (.inl r4)) (fun i v σ H1 hv p => ?_) fun σ H1 p => ?_
  · obtain ⟨rfl, u, rfl⟩ := p
    obtain ⟨z, hz, rfl⟩ := map_get hv
    walk_at "go"
    refine ⟨_, _, _, _, _, rfl, h1, T.cO, T.nOspots, rfl, ?_⟩
    obtain ⟨w, hw⟩ := valV_some (kvs := kvs) (k := Sum.inr z) (by rw [h4, inr_mem]; exact hsub z (isort_mem.mp (List.mem_of_getElem? hz)))
    refine ⟨d, some w, rfl, .inl ⟨kvs, .inr z, .inl h3, rfl, hw.symm⟩, ?_⟩
    walk_at "go"
    refine k_iteZ rfl ?_
    walk_at "go"
    exact ⟨rfl, _, rfl⟩
  obtain ⟨rfl, u, rfl⟩ := p
  walk_at "go"
  refine ⟨_, _, _, _, _, rfl, h1, T.cO, T.nOranked, rfl, _, rfl, ?_⟩
  refine fL (.inl (.inl h2)) (fun i σ H2 => H2 = H1 ∧ (∀ z ∈ xs.take i, z ∉ pro ++ con) ∧ ∃ u, σ = [some (.ref o), some (.ref r), u]) ⟨rfl, by simp, _, rfl⟩ (fun i σ H2 p => by rw [p.1]; exact .inl (.inl h2)) (fun i v σ H2 hv p => ?_) fun σ H2 p => ?_
  · obtain ⟨rfl, hn, u, rfl⟩ := p
    obtain ⟨z, hz, rfl⟩ := map_get hv
    walk_at "go"
    refine ⟨_, _, _, _, _, rfl, r1, T.cR, T.nRnamed, rfl, ?_⟩
    refine in_strs (.inr (.inl (.inl r4))) ?_
    by_cases hm : z ∈ pro ++ con
    · rw [decide_eq_true (named_mem'.mpr hm)]
      walk_at "go"
      have e : decL xs pro con = some z := by
        unfold decL
        have hi := (List.getElem?_eq_some_iff.mp hz).1
        rw [← List.take_append_drop i xs, List.find?_append, List.find?_eq_none.mpr fun y hy => by
          rw [decide_eq_false (hn y hy)]
          decide]
        have ed : xs.drop i = z :: xs.drop (i + 1) := by
          rw [List.drop_eq_getElem_cons hi, (List.getElem?_eq_some_iff.mp hz).2]
        rw [ed, List.find?_cons_of_pos (by exact decide_eq_true hm)] <;> rfl
      have q1 := q H2 (Same.refl _)
      rw [e] at q1
      exact q1
    · rw [decide_eq_false fun k => hm (named_mem'.mp k)]
      walk_at "go"
      refine ⟨rfl, fun y hy => ?_, _, rfl⟩
      rw [take_snoc hz, List.mem_append, List.mem_singleton] at hy
      rcases hy with hy | rfl
      · exact hn y hy
      · exact hm
  · obtain ⟨rfl, hn, u, rfl⟩ := p
    rw [List.length_map, take_full] at hn
    walk_at "go"
    have e : decL xs pro con = none := List.find?_eq_none.mpr fun y hy => by
      rw [decide_eq_false (hn y hy)]
      decide
    have q1 := q H2 (Same.refl _)
    rw [e] at q1
    exact q1
theorem rd_order_bears (h : sp_order_bears a vs H Q E) : t_order_bears a { nx := fun _ H' => Q .non H', rt := Q } (start n_order_bears vs) H := by
  obtain ⟨o, r, xs, pro, con, rfl, ho, hr, hsub, q⟩ := h
  have ho0 := ho
  have hr0 := hr
  obtain ⟨dx, l, d, t, kvs, h1, h2, h3, h4, h5, h6, h7⟩ := ho0
  obtain ⟨dy, tp, tc, tn, r1, r2, r3, r4, r5⟩ := hr0
  unfold t_order_bears
  walk_at "go"
  refine ⟨_, _, _, rfl, h1, rfl, ?_⟩
  walk_at "go"
  refine ⟨o, r, xs, pro, con, rfl, ho, hr, hsub, fun H1 e1 => ?_⟩
  have q1 := q H1 e1
  unfold bearsL at q1
  cases e : decL xs pro con with
  | none =>
    rw [e] at q1
    walk_at "go"
    rw [show (vOpt none) = V.non from rfl, decide_eq_true rfl]
    walk_at "go"
    exact q1
  | some z =>
    rw [e] at q1
    walk_at "go"
    rw [show (vOpt (some z)) = V.str z from rfl, decide_eq_false (fun k => nomatch k)]
    walk_at "go"
    refine ⟨_, _, _, _, _, rfl, e1 _ _ r1, T.cR, T.nRpro, rfl, ?_⟩
    exact in_strs (.inr (.inl (.inl (e1 _ _ r2)))) q1
theorem rd_order_read (h : sp_order_read a vs H Q E) : t_order_read a { nx := fun _ H' => Q .non H', rt := Q } (start n_order_read vs) H := by
  obtain ⟨xs, rfl, nx, l1, l7, q⟩ := h
  have lb := line_big
  unfold t_order_read
  walk_at "go"
  refine isi_str ?_
  walk_at "go"
  have ll := len_join (s := (" > " : Str)) (ws := xs) (n := 6) (k := 7) (m := 3) (fun w hw => (nx.nm w hw).len) (by decide +kernel) l7
  refine ⟨_, _, rfl, rfl, by decide +kernel, by omega, fun w hw => ?_⟩
  have sp1 : Txt.split (Txt.join (Str.ofString " > ") xs) (Str.ofString " > ") = xs := split_join (c := 32) (sep := [62, 32]) (by decide) (fun e => by rw [e] at l1; exact absurd l1 (by decide)) fun z hz hc => by
    have := (nx.nm z hz).ch 32 hc
    omega
  rw [sp1]
  have e1 : Same H (upd H w (.lst (xs.map V.str))) := Same.new (Same.refl _) hw
  have h1 : upd H w (.lst (xs.map V.str)) w = some (.lst (xs.map V.str)) := upd_same
  generalize upd H w (.lst (xs.map V.str)) = H1 at *
  walk_at "go"
  refine ⟨w, _, rfl, .inl (.inl (.inl h1)), ?_⟩
  walk_at "go"
  refine k_iteZ (decide_eq_false (by rw [List.length_map]; omega)) ?_
  walk_at "go"
  refine ⟨w, xs, rfl, .inl (.inl (.inl h1)), nx, by omega, fun H2 e2 => ?_⟩
  walk_at "go"
  refine ⟨w, _, rfl, .inr (.inl (.inl (e2 _ _ h1))), ?_⟩
  walk_at "go"
  intro x dx nx' nd ne
  have e3 : Same H2 (upd (upd H2 dx (.own x)) x (.ins a.O dx [])) := Same.new (Same.new (Same.refl _) nd) (by rw [upd_ne (fun e => ne e.symm)]; exact nx')
  have x3 : upd (upd H2 dx (.own x)) x (.ins a.O dx []) x = some (.ins a.O dx []) := upd_same
  refine ⟨[.ref x], xs.map V.str, by rw [List.append_nil] <;> rfl, rfl, by rw [List.length_map]; omega, fun p hp => ?_⟩
  refine ⟨x, dx, p, xs, rfl, Same.new (Same.refl _) hp _ _ x3, upd_same, nx, l1, l7, fun H' b ho => ⟨rfl, ?_⟩⟩
  refine q x H' ((e1.trans e2).trans (Butx.made (C := a.O) nx' nd ?_)) ((e1.trans e2).free nx') ho
  exact fun b' o' hb n => b b' o' (Same.new (Same.refl _) hp _ _ hb) n
end
end Fd
set_option Elab.async false
set_option linter.all false
set_option maxRecDepth 100000
set_option maxHeartbeats 4000000
/-! ### FdL2a: books made -/
namespace Fd
open PySem PySem.Spec PyProof.Rows L2 SX
theorem all2_butx {a : Ax} {x : Addr} {C dx : Addr} {fs : List (Str × V)} {H H' : Hp} : ∀ {rs : List Addr} {recs : List Rec}, (∀ r pro con, RowAt a H r pro con → RowAt a H' r pro con) → All2 (fun r c => RowAt a H r c.2.1 c.2.2) rs recs → All2 (fun r c => RowAt a H' r c.2.1 c.2.2) rs recs :=
  fun h q => q.mono fun _ _ k => h _ _ _ k
/-- a row stays while something else is written that is no part of a row -/
theorem RowAt.but {a : Ax} {H H' : Hp} {x r : Addr} {pro con : List Str} (h : RowAt a H r pro con) (e : Butx x H H') (n1 : x ≠ r) (n2 : ∀ xs, H x ≠ some (.tup xs)) : RowAt a H' r pro con := by
  obtain ⟨dx, tp, tc, tn, h1, h2, h3, h4, h5⟩ := h
  have nt : ∀ {t : Addr} {xs : List V}, H t = some (.tup xs) → t ≠ x := fun h z => n2 _ (by rw [← z]; exact h)
  exact ⟨dx, tp, tc, tn, e _ _ h1 n1.symm, e _ _ h2 (nt h2), e _ _ h3 (nt h3), e _ _ h4 (nt h4), h5⟩
section
local macro_rules | `(tactic| walk_at "sm") => `(tactic| first | exact Same.refl _ | assumption | (refine Same.new ?_ ‹_›; walk_at "sm") | (refine Same.trans ?_ ‹Same _ _›; walk_at "sm"))
local macro_rules | `(tactic| walk_at "s1") => `(tactic| first
  | with_reducible refine g_seq ?_ | with_reducible refine g_asg ?_ | with_reducible refine g_name ?_ | with_reducible refine g_cons ?_ | with_reducible refine g_nil ?_
  | ((with_reducible refine k_var ?_); refine ⟨_, rfl, ?_⟩) | with_reducible refine g_c ?_ | with_reducible refine g_op ?_ | with_reducible refine g_un ?_
  | with_reducible refine g_cb ?_ | with_reducible refine g_call ?_ | with_reducible refine g_ifS ?_ | with_reducible refine g_if ?_ | with_reducible refine g_tB ?_ | with_reducible refine g_test ?_
  | with_reducible refine k_bl ?_ | with_reducible refine k_iteT ?_ | with_reducible refine k_iteF ?_ | with_reducible refine k_iteNT ?_ | with_reducible refine k_iteNF ?_
  | with_reducible refine g_and ?_ | with_reducible refine g_or ?_ | with_reducible refine g_not ?_ | with_reducible refine g_andV ?_ | with_reducible refine g_orV ?_ | with_reducible refine g_notV ?_ | with_reducible refine g_yes ?_)
local macro_rules | `(tactic| walk_at "s2") => `(tactic| first
  | with_reducible refine g_ret ?_ | with_reducible refine g_drop ?_ | with_reducible refine g_next ?_ | with_reducible refine k_retN ?_
  | ((with_reducible refine k_I0 ?_); refine ⟨_, _, rfl, rfl, ?_⟩) | ((with_reducible refine k_U ?_); refine ⟨_, rfl, ?_⟩) | ((with_reducible refine k_eq ?_); refine ⟨rfl, ?_⟩) | ((with_reducible refine k_ne ?_); refine ⟨rfl, ?_⟩)
  | ((with_reducible refine k_isN ?_); refine ⟨rfl, ?_⟩) | ((with_reducible refine k_notN ?_); refine ⟨rfl, ?_⟩) | with_reducible refine k_chain ?_ | with_reducible refine k_fld ?_ | with_reducible refine k_sfld ?_
  | with_reducible refine k_tup ?_ | with_reducible refine k_lst ?_ | with_reducible refine k_meth ?_ | with_reducible refine k_bm ?_ | with_reducible refine k_bm0 ?_ | with_reducible refine k_m1 ?_ | with_reducible refine k_fmt ?_ | with_reducible refine k_joined ?_
  | with_reducible refine k_js0 ?_ | with_reducible refine k_js1 ?_ | with_reducible refine k_mkR ?_ | with_reducible refine k_sl ?_ | with_reducible refine k_part ?_ | with_reducible refine k_nopart ?_ | with_reducible refine k_gtup ?_
  | ((with_reducible refine k_aug ?_); refine ⟨_, rfl, ?_⟩) | ((with_reducible refine k_ipI ?_); refine ⟨_, _, rfl, rfl, ?_⟩) | with_reducible refine k_par ?_ | with_reducible refine k_din ?_ | with_reducible refine k_dnin ?_ | with_reducible refine k_dput ?_
  | with_reducible refine g_gcons ?_ | with_reducible refine g_gnil ?_ | with_reducible refine k_cval ?_ | with_reducible refine k_dnew ?_ | with_reducible refine k_isS ?_ | with_reducible refine k_int ?_ | with_reducible refine k_lcL ?_ | with_reducible refine k_lcT ?_ | with_reducible refine k_lcQ ?_ | with_reducible refine k_lcS ?_ | with_reducible refine k_lcR ?_ | with_reducible refine k_forL ?_ | with_reducible refine k_forT ?_ | with_reducible refine k_forQ ?_ | with_reducible refine k_forS ?_ | with_reducible refine k_forR ?_ | with_reducible refine k_forE ?_ | with_reducible refine k_forET ?_ | with_reducible refine k_forI ?_ | with_reducible refine k_star ?_ | with_reducible refine k_dcL ?_ | with_reducible refine k_listItems ?_ | with_reducible refine k_dget ?_ | ((with_reducible refine k_wipe ?_ ?_); exact rfl))
local macro_rules | `(tactic| walk_at "go") => `(tactic| repeat (first | walk_at "s1" | walk_at "s2"))
variable {a : Ax} {mg : Str → Option Value} (T : Top a mg) {vs : List V} {H : Hp} {Q : VK} {E : XK}
include T
theorem isi_row {r dx : Addr} {fs : List (Str × V)} (h : H r = some (.ins a.R dx fs)) (q : Q (.bl true) H) : rIsi a.K [.ref r, .ref a.R] H Q :=
  ⟨_, _, _, _, _, rfl, .own _, .base (.ins h T.iR.cl T.iR.ha T.iR.hn T.iR.htk T.iR.hm), T.iR.me, q⟩
theorem rd_is_record (h : sp_is_record a vs H Q E) : t_is_record a { nx := fun _ H' => Q .non H', rt := Q } (start n_is_record vs) H := by
  obtain ⟨t, c, rfl, ⟨r, ht, hr⟩, hm, q⟩ := h
  obtain ⟨dx, tp, tc, tn, h1, h2, h3, h4, h5⟩ := hr
  unfold t_is_record
  walk_at "go"
  refine isi_tup (.inl (.inl ht)) ?_
  walk_at "go"
  refine ⟨t, _, rfl, .inr (.inl (.inl ht)), ?_⟩
  walk_at "go"
  refine k_iteZ (by rw [decide_eq_true (by rfl)] <;> rfl) ?_
  walk_at "go"
  refine ⟨t, _, _, _, rfl, rfl, .inl (.inl ht), rfl, ?_⟩
  walk_at "go"
  refine ⟨c.1, rfl, hm, fun H1 e1 => ?_⟩
  walk_at "go"
  refine ⟨t, _, _, _, rfl, rfl, .inl (.inl (e1 _ _ ht)), rfl, ?_⟩
  walk_at "go"
  exact isi_row T (e1 _ _ h1) (q _ e1)
theorem rd_stranger (h : sp_stranger a vs H Q E) : t_stranger a { nx := fun _ H' => Q .non H', rt := Q } (start n_stranger vs) H := by
  obtain ⟨r, p, pro, con, xs, rfl, hr, hp, hsub, q⟩ := h
  obtain ⟨dx, tp, tc, tn, h1, h2, h3, h4, h5⟩ := hr
  unfold t_stranger
  walk_at "go"
  refine ⟨_, _, _, _, _, rfl, h1, T.cR, T.nRnamed, rfl, _, rfl, ?_⟩
  refine fT (.inl (.inl h4)) (fun i σ H1 => H1 = H ∧ ∃ u, σ = [some (.ref r), some (.ref p), u]) ⟨rfl, _, rfl⟩ (fun i σ H1 c => by rw [c.1]; exact .inl (.inl h4)) (fun i v σ H1 hv c => ?_) fun σ H1 c => ?_
  · obtain ⟨rfl, u, rfl⟩ := c
    obtain ⟨z, hz, rfl⟩ := map_get hv
    walk_at "go"
    refine notin_strs (xs := xs) hp ?_
    rw [decide_eq_true (hsub z (isort_mem.mp (List.mem_of_getElem? hz)))]
    walk_at "go"
    exact ⟨rfl, _, rfl⟩
  · obtain ⟨rfl, u, rfl⟩ := c
    walk_at "go"
    exact q
theorem rd_book_records (h : sp_book_records a vs H Q E) : t_book_records a { nx := fun _ H' => Q .non H', rt := Q } (start n_book_records vs) H := by
  obtain ⟨b, xs, recs, rfl, hb, q⟩ := h
  obtain ⟨dx, t, d, rs, h1, h2, h3, h4, h5⟩ := hb
  unfold t_book_records
  walk_at "go"
  refine ⟨_, _, _, _, _, rfl, h1, T.cB, T.nBmark, rfl, ?_⟩
  refine ⟨d, _, rfl, h3, fun H' p ts e np nts npt hp pr => ?_⟩
  refine q p H' e np ⟨ts, hp, ?_⟩
  have hl := h4.len
  have pl : ts.length = (DictB rs recs).length := Paired.length pr
  refine All2.of_get (by rw [pl, dictB_len hl]) fun i t' c ht hc => ?_
  have hi := (List.getElem?_eq_some_iff.mp hc).1
  obtain ⟨r, hr, hra⟩ := h4.get' hc
  have hz : (DictB rs recs)[i]? = some (Sum.inr c.1, V.ref r) := by
    unfold DictB
    rw [List.getElem?_map, (List.getElem?_zip_eq_some (z := (r, c))).mpr ⟨hr, hc⟩] <;> rfl
  obtain ⟨kv, hkv, this⟩ := paired_get pr ht
  rw [hz] at hkv
  rw [← Option.some.inj hkv] at this
  exact ⟨r, this, hra.t (Same.t e)⟩
theorem rd_book_rows (h : sp_book_rows a vs H Q E) : t_book_rows a { nx := fun _ H' => Q .non H', rt := Q } (start n_book_rows vs) H := by
  obtain ⟨b, xs, recs, rfl, hb, q⟩ := h
  obtain ⟨dx, t, d, rs, h1, h2, h3, h4, h5⟩ := hb
  unfold t_book_rows
  walk_at "go"
  refine ⟨_, rfl, _, _, _, _, _, rfl, h1, T.cB, T.nBmark, rfl, d, _, rfl, h3, fun p np => ?_⟩
  rw [dictB_vals h4.len]
  have e : Same H (upd H p (.lst (rs.map V.ref))) := Same.new (Same.refl _) np
  refine q p _ e np ⟨rs, upd_same, ?_⟩
  have h6 := h4.mono (R := fun r c => RowAt a (upd H p (.lst (rs.map V.ref))) r c.2.1 c.2.2) fun _ _ k => k.t (Same.t e)
  exact All2.of_get (by rw [List.length_map]; exact h4.len) fun i r c hr hc => by
    obtain ⟨c', hc', rfl⟩ := map_get hc
    obtain ⟨c2, e2, k⟩ := h6.get hr
    rw [e2] at hc'
    rw [← Option.some.inj hc']
    exact k
theorem rd_book_init (h : sp_book_init a vs H Q E) : t_book_init a { nx := fun _ H' => Q .non H', rt := Q } (start n_book_init vs) H := by
  obtain ⟨x, dx, p, t, xs, recs, ts, rfl, hx, hp, ht, ha, hv, nx, le, q⟩ := h
  have lb := line_big
  have hlx : (isort xs).length = xs.length := isort_len xs
  have l1 := hv.lo
  have l7 := hv.hi
  have hlen := ha.len
  obtain ⟨rs, a1, a2, a3⟩ := recs_rows ha
  have hrl : rs.length = recs.length := a1.len
  unfold t_book_init
  walk_at "go"
  refine ⟨p, xs, rfl, hp, nx, by omega, fun H1 e1 => ?_⟩
  walk_at "go"
  refine ⟨p, _, rfl, sq_same e1 hp, ?_⟩
  rw [List.length_map]
  walk_at "go"
  refine k_iteY (decide_eq_true (by omega)) ?_
  walk_at "go"
  refine k_iteZ (by rw [decide_eq_true (by omega)] <;> rfl) ?_
  walk_at "go"
  refine ⟨t, _, rfl, .inl (.inl (e1 _ _ ht)), ?_⟩
  refine for_enumT (fun i σ H2 => Same H H2 ∧ ∃ u v, σ = [some (.ref x), some (.ref p), some (.ref t), u, v, none, none, none, none]) ⟨e1, _, _, rfl⟩ (fun i σ H2 c => .inl (.inl (c.1 _ _ ht))) (fun i v σ H2 Tt hvv c hT => ?_) fun σ H2 c => ?_
  · obtain ⟨e2, u, v, rfl⟩ := c
    obtain ⟨t', ht', rfl⟩ := map_get hvv
    obtain ⟨r, c, b1, b2, b3, b4⟩ := a3 i t' ht'
    have e3 : Same H2 (upd H2 Tt (.tup [.int (i : Nat), .ref t'])) := Same.new (Same.refl _) hT
    walk_at "go"
    refine ⟨Tt, _, rfl, .inl (.inl upd_same), rfl, ?_⟩
    generalize upd H2 Tt (.tup [.int (i : Nat), .ref t']) = H3 at *
    walk_at "go"
    have e03 := e2.trans e3
    refine ⟨t', c, rfl, ⟨r, e03 _ _ b3, b4.t (Same.t e03)⟩, hv.mks c (List.mem_of_getElem? b2), fun H4 e4 => ?_⟩
    walk_at "go"
    exact ⟨e03.trans e4, _, _, rfl⟩
  obtain ⟨e2, u, v, rfl⟩ := c
  walk_at "go"
  refine ⟨t, _, rfl, .inr (.inl (.inl (e2 _ _ ht))), ?_⟩
  rw [List.length_map]
  walk_at "go"
  obtain ⟨mc, mu, m1, m2⟩ := T.most
  refine ⟨_, mc, _, mu, rfl, m1, m2, ?_⟩
  walk_at "go"
  refine k_iteZ (decide_eq_false (by omega)) ?_
  walk_at "go"
  intro D hD
  walk_at "go"
  have e3 : Same H (upd H2 D (.dK [])) := Same.new e2 hD
  have hD0 : H D = none := e2.free hD
  refine ⟨t, rfl, ?_⟩
  refine fT (.inl (.inl (e3 _ _ ht))) (fun i σ H4 => Same H H4 ∧ H4 D = some (.dK (DictB (rs.take i) (recs.take i))) ∧ ∃ u v w y, σ = [some (.ref x), some (.ref p), some (.ref t), u, v, some (.ref D), w, y, none]) ⟨e3, upd_same, _, _, _, _, rfl⟩ (fun i σ H4 c => .inl (.inl (c.1 _ _ ht))) (fun i v σ H4 hvv c => ?_) fun σ H4 c => ?_
  · obtain ⟨e4, hd, u, v, w, y, rfl⟩ := c
    obtain ⟨t', ht', rfl⟩ := map_get hvv
    obtain ⟨r, c, b1, b2, b3, b4⟩ := a3 i t' ht'
    walk_at "go"
    refine ⟨t', _, rfl, .inl (.inl (e4 _ _ b3)), rfl, ?_⟩
    walk_at "go"
    have nk := fresh_key hrl hv.nd b2
    refine ⟨D, _, rfl, .inl ⟨_, .inr c.1, .inl hd, rfl, rfl⟩, ?_⟩
    rw [valV_none nk]
    walk_at "go"
    refine k_iteZ (by rw [Option.isSome_none]) ?_
    walk_at "go"
    refine ⟨D, _, rfl, .inl ⟨_, .inr c.1, hd, rfl, ?_, rfl⟩, ?_⟩
    · rw [dictB_len (by rw [List.length_take, List.length_take, hrl])]
      have := len_take_le recs i
      omega
    refine ⟨Same.mut e4 hD0, ?_, _, _, _, _, rfl⟩
    rw [upd_same, putK_new nk, dictB_snoc b1 b2]
  obtain ⟨e4, hd, u, v, w, y, rfl⟩ := c
  rw [List.length_map] at hd
  rw [List.take_of_length_le (by omega), List.take_of_length_le (by omega)] at hd
  walk_at "go"
  refine ⟨t, rfl, ?_⟩
  refine fT (.inl (.inl (e4 _ _ ht))) (fun i σ H5 => H5 = H4 ∧ ∃ u v w y s, σ = [some (.ref x), some (.ref p), some (.ref t), u, v, some (.ref D), w, y, s]) ⟨rfl, _, _, _, _, _, rfl⟩ (fun i σ H4 c => by rw [c.1]; exact .inl (.inl (e4 _ _ ht))) (fun i v σ H5 hvv c => ?_) fun σ H5 c => ?_
  · obtain ⟨rfl, u, v, w, y, s, rfl⟩ := c
    obtain ⟨t', ht', rfl⟩ := map_get hvv
    obtain ⟨r, c, b1, b2, b3, b4⟩ := a3 i t' ht'
    walk_at "go"
    refine ⟨t', _, rfl, .inl (.inl (e4 _ _ b3)), rfl, ?_⟩
    walk_at "go"
    refine ⟨r, p, c.2.1, c.2.2, xs, rfl, b4.t (Same.t e4), sq_same e4 hp, fun z hz => isort_mem.mp (hv.sub c (List.mem_of_getElem? b2) z hz), ?_⟩
    walk_at "go"
    rw [decide_eq_true rfl]
    walk_at "go"
    exact ⟨rfl, _, _, _, _, _, rfl⟩
  obtain ⟨rfl, u, v, w, y, s, rfl⟩ := c
  walk_at "go"
  refine ⟨p, _, rfl, sq_same e4 hp, fun l hl => ?_⟩
  walk_at "go"
  refine sorted_of (xs := xs) (.inl (.inl upd_same)) nx.nd (by omega) fun m hm => ?_
  walk_at "go"
  refine ⟨m, _, rfl, .inl (.inl upd_same), fun tz o ho hz => ?_⟩
  have e6 : Same H5 (upd (upd (upd H5 l (.lst (xs.map V.str))) m (.lst ((isort xs).map V.str))) tz (.frz o (.tup ((isort xs).map V.str)))) := by walk_at "sm"
  have z6 : TupZ (upd (upd (upd H5 l (.lst (xs.map V.str))) m (.lst ((isort xs).map V.str))) tz (.frz o (.tup ((isort xs).map V.str)))) tz ((isort xs).map V.str) := ⟨o, ho, upd_same⟩
  generalize upd (upd (upd H5 l (.lst (xs.map V.str))) m (.lst ((isort xs).map V.str))) tz (.frz o (.tup ((isort xs).map V.str))) = H6 at *
  walk_at "go"
  have e06 := e4.trans e6
  have x6 := e06 _ _ hx
  refine ⟨x, _, _, _, rfl, x6, T.cB, T.nBreasons, by simp, ?_⟩
  obtain ⟨oz, oz1, oz2⟩ := z6
  have nz : tz ≠ x := fun z => by
    rw [z, x6] at oz2
    cases oz2
  have d6 := e6 _ _ hd
  have nD : D ≠ x := fun z => by
    rw [z, x6] at d6
    cases d6
  have b7 : Butx x H (upd H6 x (.ins a.B dx (putF "reasons" (.ref tz) []))) := (Butx.of e06).put
  have x7 : upd H6 x (.ins a.B dx (putF "reasons" (.ref tz) [])) x = some (.ins a.B dx [("reasons", .ref tz)]) := upd_same
  have z7 : upd H6 x (.ins a.B dx (putF "reasons" (.ref tz) [])) tz = some (.frz oz (.tup ((isort xs).map V.str))) := by rw [upd_ne nz]; exact oz2
  have d7 : upd H6 x (.ins a.B dx (putF "reasons" (.ref tz) [])) D = some (.dK (DictB rs recs)) := by rw [upd_ne nD]; exact d6
  generalize upd H6 x (.ins a.B dx (putF "reasons" (.ref tz) [])) = H7 at *
  walk_at "go"
  refine ⟨x, _, _, _, rfl, x7, T.cB, T.nBmark, by simp, ?_⟩
  refine q _ b7.put ⟨dx, tz, D, rs, upd_same, ⟨oz, oz1, by rw [upd_ne nz]; exact z7⟩, by rw [upd_ne nD]; exact d7, ?_, hv⟩
  refine a1.mono fun r c k => ?_
  refine k.but b7.put (fun z => ?_) fun xs z => ?_
  · obtain ⟨dy, tp, tc, tn, k1, _⟩ := k
    rw [← z, hx] at k1
    have := (HO.ins.inj (Option.some.inj k1)).2.2
    cases this
  · rw [hx] at z
    cases z
theorem rd_book_with (h : sp_book_with a vs H Q E) : t_book_with a { nx := fun _ H' => Q .non H', rt := Q } (start n_book_with vs) H := by
  obtain ⟨p, l, xs, recs, rfl, hp, ⟨ts, hl, ha⟩, hv, q⟩ := h
  have lb := line_big
  obtain ⟨rs, a1, a2, a3⟩ := recs_rows ha
  have hrl : rs.length = recs.length := a1.len
  have hle := hv.le
  unfold t_book_with
  walk_at "go"
  intro x dx nx nd ne
  have e1 : Same H (upd (upd H dx (.own x)) x (.ins a.B dx [])) := Same.new (Same.new (Same.refl _) nd) (by rw [upd_ne (fun e => ne e.symm)]; exact nx)
  have x1 : upd (upd H dx (.own x)) x (.ins a.B dx []) x = some (.ins a.B dx []) := upd_same
  refine ⟨[.ref x, .ref p], [], rfl, rfl, Nat.zero_le _, fun u hu => ?_⟩
  have e2 := Same.new (o := HO.tup []) (Same.refl _) hu
  refine ⟨x, dx, p, u, xs, [], [], rfl, e2 _ _ x1, .inr (sqt_same (e1.trans e2) hp), upd_same, trivial, ?_, hv.nx, Nat.zero_le _, fun H3 b3 hb => ⟨rfl, ?_⟩⟩
  · rw [isort_self hv.sx]
    exact ⟨hv.nx, hv.sx, hv.lo, hv.hi, fun _ h => (nomatch h), fun _ h => (nomatch h), fun _ h => (nomatch h), List.nodup_nil, Nat.zero_le _⟩
  rw [isort_self hv.sx] at hb
  have b03 : Same H H3 := Butx.made (C := a.B) nx nd fun b' o' hb n => b3 b' o' (e2 _ _ hb) n
  obtain ⟨dy, t, d, rs0, h1, h2, h3, h4, h5⟩ := hb
  generalize upd (upd (upd H dx (.own x)) x (.ins a.B dx [])) u (.tup []) = Hj at *
  walk_at "go"
  have hl3 := b03 _ _ hl
  refine ⟨l, rfl, ?_⟩
  refine dcL (.inl (.inl hl3)) (fun i D H4 => Same H3 H4 ∧ H4 D = some (.dK (DictB (rs.take i) (recs.take i)))) (fun D hD => ⟨Same.new (Same.refl _) hD, upd_same⟩) (fun i D H4 c => .inl (.inl (c.1 _ _ hl3))) (fun i v D H4 hD hvv c => ?_) fun D H4 hD c => ?_
  · obtain ⟨e4, hd⟩ := c
    obtain ⟨t', ht', rfl⟩ := map_get hvv
    obtain ⟨r, c, b1, b2, b4, b5⟩ := a3 i t' ht'
    walk_at "go"
    refine ⟨t', _, rfl, .inl (.inl (e4 _ _ (b03 _ _ b4))), rfl, ?_⟩
    walk_at "go"
    refine ⟨_, .inr c.1, rfl, hd, ?_, Same.mut e4 hD, ?_⟩
    · rw [dictB_len (by rw [List.length_take, List.length_take, hrl])]
      have := len_take_le recs i
      omega
    · rw [upd_same, putK_new (fresh_key hrl hv.nd b2), dictB_snoc b1 b2]
  obtain ⟨e4, hd⟩ := c
  rw [List.length_map] at hd
  rw [List.take_of_length_le (by omega), List.take_of_length_le (by omega)] at hd
  walk_at "go"
  have x4 := e4 _ _ h1
  refine ⟨x, _, _, _, rfl, x4, T.cB, T.nBmark, by simp, ?_⟩
  walk_at "go"
  obtain ⟨oz, oz1, oz2⟩ := h2
  have z4 := e4 _ _ oz2
  have nz : t ≠ x := fun z => by
    rw [z, x4] at z4
    cases z4
  have nD : D ≠ x := fun z => by
    rw [z, x4] at hd
    cases hd
  have e05 : Same H (upd H4 x (.ins a.B dy (putF "by_mark" (.ref D) [("reasons", .ref t), ("by_mark", .ref d)]))) := Same.mut (b03.trans e4) nx
  refine q x _ e05 nx ⟨dy, t, D, rs, upd_same, ⟨oz, oz1, by rw [upd_ne nz]; exact z4⟩, by rw [upd_ne nD]; exact hd, a1.mono fun r c k => k.t (Same.t e05), hv⟩
theorem rd_book_add (h : sp_book_add a vs H Q E) : t_book_add a { nx := fun _ H' => Q .non H', rt := Q } (start n_book_add vs) H := by
  obtain ⟨b, t, xs, recs, c, rfl, hb, hc, hv, hlt, q⟩ := h
  have lb := line_big
  have hb0 := hb
  obtain ⟨dx, tr, d, rs, h1, h2, h3, h4, h5⟩ := hb0
  unfold t_book_add
  walk_at "go"
  refine ⟨_, _, _, rfl, h1, rfl, ?_⟩
  walk_at "go"
  refine ⟨b, xs, recs, rfl, hb, fun l H1 e1 nl hl => ?_⟩
  obtain ⟨ts, hl1, hl2⟩ := hl
  refine ⟨l, _, rfl, .inr (.inl (.inl hl1)), ?_⟩
  walk_at "go"
  have hln := hl2.len
  refine ⟨by rw [List.length_append, List.length_map, hln, List.length_singleton]; omega, fun m hm => ?_⟩
  have e2 : Same H (upd H1 m (.lst (ts.map V.ref ++ [V.ref t]))) := Same.new e1 hm
  have m2 : upd H1 m (.lst (ts.map V.ref ++ [V.ref t])) m = some (.lst ((ts ++ [t]).map V.ref)) := by rw [upd_same, List.map_append] <;> rfl
  have k2 : Same H1 (upd H1 m (.lst (ts.map V.ref ++ [V.ref t]))) := Same.new (Same.refl _) hm
  generalize upd H1 m (.lst (ts.map V.ref ++ [V.ref t])) = H2 at *
  walk_at "go"
  refine ⟨_, _, _, _, _, rfl, e2 _ _ h1, T.cB, T.nBreasons, rfl, ?_⟩
  walk_at "go"
  refine ⟨m, _, rfl, .inr (.inl (.inl m2)), ?_⟩
  walk_at "go"
  intro x dy nx nd ne
  have e3 : Same H2 (upd (upd H2 dy (.own x)) x (.ins a.B dy [])) := Same.new (Same.new (Same.refl _) nd) (by rw [upd_ne (fun e => ne e.symm)]; exact nx)
  have x3 : upd (upd H2 dy (.own x)) x (.ins a.B dy []) x = some (.ins a.B dy []) := upd_same
  refine ⟨[.ref x, .ref tr], (ts ++ [t]).map V.ref, by rw [List.append_nil] <;> rfl, rfl, by rw [List.length_map, List.length_append, hln, List.length_singleton]; omega, fun p hp => ?_⟩
  have e4 := Same.new (o := HO.tup ((ts ++ [t]).map V.ref)) (Same.refl _) hp
  have e24 := e3.trans e4
  have sx : isort xs = xs := isort_self hv.sx
  refine ⟨x, dy, tr, p, xs, recs ++ [c], ts ++ [t], rfl, e4 _ _ x3, .inr ((h2.t (Same.t (e2.trans e24))).sq), upd_same, ?_, by rw [sx]; exact hv, hv.nx, by rw [List.length_append, List.length_singleton]; omega, fun H5 b5 hb5 => ⟨rfl, ?_⟩⟩
  · exact (hl2.mono fun _ _ k => k.t (Same.t (k2.trans e24))).snoc (hc.t (Same.t (e2.trans e24)))
  · rw [sx] at hb5
    exact q x H5 (e2.trans (Butx.made (C := a.B) nx nd fun b' o' hb n => b5 b' o' (e4 _ _ hb) n)) (e2.free nx) hb5
end
end Fd
set_option Elab.async false
set_option linter.all false
set_option maxRecDepth 100000
set_option maxHeartbeats 4000000
/-! ### FdL2b: lines and records read -/
namespace Fd
open PySem PySem.Spec PyProof.Rows L2 SX
section
local macro_rules | `(tactic| walk_at "sm") => `(tactic| first | exact Same.refl _ | assumption | (refine Same.new ?_ ‹_›; walk_at "sm") | (refine Same.trans ?_ ‹Same _ _›; walk_at "sm"))
local macro_rules | `(tactic| walk_at "s1") => `(tactic| first
  | with_reducible refine g_seq ?_ | with_reducible refine g_asg ?_ | with_reducible refine g_name ?_ | with_reducible refine g_cons ?_ | with_reducible refine g_nil ?_
  | ((with_reducible refine k_var ?_); refine ⟨_, rfl, ?_⟩) | with_reducible refine g_c ?_ | with_reducible refine g_op ?_ | with_reducible refine g_un ?_
  | with_reducible refine g_cb ?_ | with_reducible refine g_call ?_ | with_reducible refine g_ifS ?_ | with_reducible refine g_if ?_ | with_reducible refine g_tB ?_ | with_reducible refine g_test ?_
  | with_reducible refine k_bl ?_ | with_reducible refine k_iteT ?_ | with_reducible refine k_iteF ?_ | with_reducible refine k_iteNT ?_ | with_reducible refine k_iteNF ?_
  | with_reducible refine g_and ?_ | with_reducible refine g_or ?_ | with_reducible refine g_not ?_ | with_reducible refine g_andV ?_ | with_reducible refine g_orV ?_ | with_reducible refine g_notV ?_ | with_reducible refine g_yes ?_)
local macro_rules | `(tactic| walk_at "s2") => `(tactic| first
  | with_reducible refine g_ret ?_ | with_reducible refine g_drop ?_ | with_reducible refine g_next ?_ | with_reducible refine k_retN ?_
  | ((with_reducible refine k_I0 ?_); refine ⟨_, _, rfl, rfl, ?_⟩) | ((with_reducible refine k_U ?_); refine ⟨_, rfl, ?_⟩) | ((with_reducible refine k_eq ?_); refine ⟨rfl, ?_⟩) | ((with_reducible refine k_ne ?_); refine ⟨rfl, ?_⟩)
  | ((with_reducible refine k_isN ?_); refine ⟨rfl, ?_⟩) | ((with_reducible refine k_notN ?_); refine ⟨rfl, ?_⟩) | with_reducible refine k_chain ?_ | with_reducible refine k_fld ?_ | with_reducible refine k_sfld ?_
  | with_reducible refine k_tup ?_ | with_reducible refine k_lst ?_ | with_reducible refine k_meth ?_ | with_reducible refine k_bm ?_ | with_reducible refine k_bm0 ?_ | with_reducible refine k_m1 ?_ | with_reducible refine k_fmt ?_ | with_reducible refine k_joined ?_
  | with_reducible refine k_js0 ?_ | with_reducible refine k_js1 ?_ | with_reducible refine k_mkR ?_ | with_reducible refine k_sl ?_ | with_reducible refine k_part ?_ | with_reducible refine k_nopart ?_ | with_reducible refine k_gtup ?_
  | ((with_reducible refine k_aug ?_); refine ⟨_, rfl, ?_⟩) | ((with_reducible refine k_ipI ?_); refine ⟨_, _, rfl, rfl, ?_⟩) | with_reducible refine k_par ?_ | with_reducible refine k_din ?_ | with_reducible refine k_dnin ?_ | with_reducible refine k_dput ?_
  | with_reducible refine g_gcons ?_ | with_reducible refine g_gnil ?_ | with_reducible refine k_cval ?_ | with_reducible refine k_dnew ?_ | with_reducible refine k_isS ?_ | with_reducible refine k_int ?_ | with_reducible refine k_lcL ?_ | with_reducible refine k_lcT ?_ | with_reducible refine k_lcQ ?_ | with_reducible refine k_lcS ?_ | with_reducible refine k_lcR ?_ | with_reducible refine k_forL ?_ | with_reducible refine k_forT ?_ | with_reducible refine k_forQ ?_ | with_reducible refine k_forS ?_ | with_reducible refine k_forR ?_ | with_reducible refine k_forE ?_ | with_reducible refine k_forET ?_ | with_reducible refine k_forI ?_ | with_reducible refine k_star ?_ | with_reducible refine k_dcL ?_ | with_reducible refine k_listItems ?_ | with_reducible refine k_dget ?_ | ((with_reducible refine k_wipe ?_ ?_); exact rfl))
local macro_rules | `(tactic| walk_at "go") => `(tactic| repeat (first | walk_at "s1" | walk_at "s2"))
variable {a : Ax} {mg : Str → Option Value} (T : Top a mg) {vs : List V} {H : Hp} {Q : VK} {E : XK}
include T
theorem rd_lines_of (h : sp_lines_of a vs H Q E) : t_lines_of a { nx := fun _ H' => Q .non H', rt := Q } (start n_lines_of vs) H := by
  obtain ⟨ls, rfl, no, ll, lk, q⟩ := h
  have lb := line_big
  unfold t_lines_of
  walk_at "go"
  refine ⟨_, _, rfl, rfl, by decide +kernel, by omega, fun w hw => ?_⟩
  rw [show Txt.split (catS (ls.map (· ++ ("\n" : Str)))) (Str.ofString "\n") = ls ++ [Str.ofString ""] from lines_split no]
  have e1 : Same H (upd H w (.lst ((ls ++ [Str.ofString ""]).map V.str))) := Same.new (Same.refl _) hw
  have w1 : upd H w (.lst ((ls ++ [Str.ofString ""]).map V.str)) w = some (.lst (ls.map V.str ++ [V.str (Str.ofString "")])) := by rw [upd_same, List.map_append] <;> rfl
  generalize upd H w (.lst ((ls ++ [Str.ofString ""]).map V.str)) = H1 at *
  walk_at "go"
  refine ⟨.inl ⟨rfl, _, .inl (.inl w1)⟩, ?_⟩
  refine ⟨w, _, .str (Str.ofString ""), rfl, rfl, w1, by simp, ?_⟩
  have e2 : Same H (upd H1 w (.lst ((ls.map V.str ++ [V.str (Str.ofString "")]).dropLast))) := Same.mut e1 hw
  have w2 : upd H1 w (.lst ((ls.map V.str ++ [V.str (Str.ofString "")]).dropLast)) w = some (.lst (ls.map V.str)) := by rw [upd_same, List.dropLast_concat]
  generalize upd H1 w (.lst ((ls.map V.str ++ [V.str (Str.ofString "")]).dropLast)) = H2 at *
  walk_at "go"
  refine ⟨w, rfl, ?_⟩
  refine gL (.inl (.inl w2)) (fun i D H3 => OL LineAt H2 H3 D (ls.take i)) (fun D hD => OL.nil hD) (fun i D H3 c => .inl (.inl (c.1 _ _ w2))) (fun i v D H3 hD hv c => ?_) fun D H3 hD c => ?_
  · obtain ⟨z, hz, rfl⟩ := map_get hv
    walk_at "go"
    refine ⟨by rw [lb]; simp, fun p hp => ?_⟩
    rw [take_snoc hz]
    have := len_take_le ls i
    exact OL.add (P := LineAt) (xs := ls.take i) (fun h e => LineAt.t h e) c (Same.new (Same.refl _) hp) hD upd_same (by omega)
  rw [List.length_map, take_full] at c
  walk_at "go"
  refine k_iteZ (by rw [decide_eq_true rfl] <;> rfl) ?_
  walk_at "go"
  exact q D H3 (e2.trans c.1) (e2.free hD) c.obj
theorem rd_head_flaw (h : sp_head_flaw a vs H Q E) : t_head_flaw a { nx := fun _ H' => Q .non H', rt := Q } (start n_head_flaw vs) H := by
  obtain ⟨xs, rfl, nx, sx, l1, l7, q⟩ := h
  have lb := line_big
  have hl := head_len nx l7
  unfold t_head_flaw
  walk_at "go"
  refine ⟨_, _, rfl, rfl, by decide +kernel, by omega, fun w hw => ?_⟩
  rw [head_split nx l1]
  have e1 : Same H (upd H w (.lst ((Str.ofString "reasons" :: xs).map V.str))) := Same.new (Same.refl _) hw
  have w1 : upd H w (.lst ((Str.ofString "reasons" :: xs).map V.str)) w = some (.lst (V.str (Str.ofString "reasons") :: xs.map V.str)) := upd_same
  generalize upd H w (.lst ((Str.ofString "reasons" :: xs).map V.str)) = H1 at *
  walk_at "go"
  refine ⟨w, _, rfl, .inl (.inl w1), fun r hr => ?_⟩
  have cut1 : cutV (V.str (Str.ofString "reasons") :: xs.map V.str) (some 1) none = xs.map V.str := by
    have e : HT.sIx (xs.length + 1) 0 (some 1) = 1 := by unfold HT.sIx; simp
    unfold cutV
    rw [List.length_cons, List.length_map, e]
    show ((xs.map V.str).drop 0).take ((xs.length + 1) - 1) = _
    rw [List.drop_zero, List.take_of_length_le (by rw [List.length_map]; omega)]
  rw [cut1]
  have e2 : Same H1 (upd H1 r (.lst (xs.map V.str))) := Same.new (Same.refl _) hr
  have r2 : upd H1 r (.lst (xs.map V.str)) r = some (.lst (xs.map V.str)) := upd_same
  generalize upd H1 r (.lst (xs.map V.str)) = H2 at *
  walk_at "go"
  refine ⟨w, _, _, _, rfl, rfl, .inl (.inl (e2 _ _ w1)), at0, ?_⟩
  walk_at "go"
  refine k_iteZ (by rw [decide_eq_true (by rfl)] <;> rfl) ?_
  walk_at "go"
  refine ⟨Nat.zero_le _, fun m hm => ?_⟩
  have e3 : Same H2 (upd H2 m (.lst [])) := Same.new (Same.refl _) hm
  refine eq_ll (xs := xs) (ys := []) (.inl (.inl (e3 _ _ r2))) (.inl (.inl upd_same)) (fun z hz => (nx.nm z hz).ok) (fun _ hz => nomatch hz) ?_
  rw [decide_eq_false (fun e => by rw [e] at l1; exact absurd l1 (by decide))]
  generalize upd H2 m (.lst []) = H3 at *
  walk_at "go"
  refine ⟨r, _, rfl, .inl ⟨.inl (.inl (e3 _ _ r2)), fun t ht => ?_⟩⟩
  have e4 : Same H3 (upd H3 t (.tup (xs.map V.str))) := Same.new (Same.refl _) ht
  refine ⟨t, xs, rfl, .inl (.inl upd_same), nx, sx, by omega, fun H5 e5 => ?_⟩
  generalize upd H3 t (.tup (xs.map V.str)) = H4 at *
  have e05 := (((e1.trans e2).trans e3).trans e4).trans e5
  walk_at "go"
  refine ⟨r, _, rfl, .inl (.inl (.inl (e5 _ _ (e4 _ _ (e3 _ _ r2))))), ?_⟩
  rw [List.length_map]
  walk_at "go"
  refine k_iteZ (decide_eq_false (by omega)) ?_
  walk_at "go"
  exact q H5 e05
theorem rd_record_of (h : sp_record_of a vs H Q E) : t_record_of a { nx := fun _ H' => Q .non H', rt := Q } (start n_record_of vs) H := by
  obtain ⟨c, rfl, hm, hr, q⟩ := h
  have lb := line_big
  have hl := line_len hm hr
  unfold t_record_of
  walk_at "go"
  refine ⟨_, _, rfl, rfl, by decide +kernel, by omega, fun w hw => ?_⟩
  rw [line_split hm hr]
  have e1 : Same H (upd H w (.lst ((Str.ofString "row" :: c.1 :: rowWords c.2.1 c.2.2).map V.str))) := Same.new (Same.refl _) hw
  have w1 : upd H w (.lst ((Str.ofString "row" :: c.1 :: rowWords c.2.1 c.2.2).map V.str)) w = some (.lst (V.str (Str.ofString "row") :: V.str c.1 :: (rowWords c.2.1 c.2.2).map V.str)) := upd_same
  generalize upd H w (.lst ((Str.ofString "row" :: c.1 :: rowWords c.2.1 c.2.2).map V.str)) = H1 at *
  have wl : 1 ≤ (rowWords c.2.1 c.2.2).length := List.length_pos_iff.mpr rowWords_ne
  have wl2 : (rowWords c.2.1 c.2.2).length ≤ 7 := by
    have := hr.lenN
    unfold rowWords
    split
    · decide
    · rw [List.length_map]
      exact this
  walk_at "go"
  refine ⟨w, _, rfl, .inl (.inl (.inl w1)), ?_⟩
  walk_at "go"
  refine k_iteZ (decide_eq_false (by simp only [List.length_cons, List.length_map]; omega)) ?_
  walk_at "go"
  refine ⟨w, _, _, _, rfl, rfl, .inl (.inl w1), at0, ?_⟩
  walk_at "go"
  refine k_iteZ (by rw [decide_eq_true (by rfl)] <;> rfl) ?_
  walk_at "go"
  refine ⟨w, _, _, _, rfl, rfl, .inl (.inl w1), at1, ?_⟩
  walk_at "go"
  refine ⟨c.1, rfl, hm, fun H2 e2 => ?_⟩
  have w2 := e2 _ _ w1
  walk_at "go"
  refine ⟨w, _, rfl, .inl (.inl w2), fun r hr' => ?_⟩
  have cut2 : cutV (V.str (Str.ofString "row") :: V.str c.1 :: (rowWords c.2.1 c.2.2).map V.str) (some 2) none = (rowWords c.2.1 c.2.2).map V.str := by
    have e : HT.sIx ((rowWords c.2.1 c.2.2).length + 1 + 1) 0 (some 2) = 2 := by unfold HT.sIx; simp
    unfold cutV
    rw [List.length_cons, List.length_cons, List.length_map, e]
    show (((rowWords c.2.1 c.2.2).map V.str).drop 0).take (((rowWords c.2.1 c.2.2).length + 1 + 1) - 2) = _
    rw [List.drop_zero, List.take_of_length_le (by rw [List.length_map]; omega)]
  rw [cut2]
  have e3 : Same H2 (upd H2 r (.lst ((rowWords c.2.1 c.2.2).map V.str))) := Same.new (Same.refl _) hr'
  refine ⟨_, r, rowWords c.2.1 c.2.2, rfl, rfl, .inl (.inl (.inl upd_same)), ?_, ?_⟩
  · have h1 := sum_le (n := 67) (l := (rowWords c.2.1 c.2.2).map (·.length)) (fun x hx => by
      obtain ⟨z, hz, e⟩ := List.mem_map.mp hx
      rw [← e]
      unfold rowWords at hz
      split at hz
      · have ez : z = Str.ofString "even" := by simpa using hz
        rw [ez]
        decide +kernel
      · obtain ⟨y, hy, e⟩ := List.mem_map.mp hz
        rw [← e]
        have := word_len (pro := c.2.1) (hr.nmd y hy)
        omega)
    rw [List.length_map] at h1
    have l1 : (Str.ofString " ").length = 1 := by decide +kernel
    rw [l1]
    omega
  generalize upd H2 r (.lst ((rowWords c.2.1 c.2.2).map V.str)) = H3 at *
  rw [show Txt.join (Str.ofString " ") (rowWords c.2.1 c.2.2) = rowText c.2.1 c.2.2 from rowWords_join]
  walk_at "go"
  refine ⟨c.2.1, c.2.2, rfl, hr, fun r4 H4 e4 n4 hr4 => ?_⟩
  have e04 := ((e1.trans e2).trans e3).trans e4
  walk_at "go"
  rw [decide_eq_false (fun k => nomatch k)]
  walk_at "go"
  refine ⟨w, _, _, _, rfl, rfl, .inl (.inl (e4 _ _ (e3 _ _ w2))), at1, ?_⟩
  walk_at "go"
  refine ⟨by rw [lb]; simp, fun t ht => ?_⟩
  have e5 : Same H4 (upd H4 t (.tup [.str c.1, .ref r4])) := Same.new (Same.refl _) ht
  exact q t _ (e04.trans e5) (e04.free ht) ⟨r4, upd_same, hr4.t (Same.t e5)⟩
theorem rd_record_flaw (h : sp_record_flaw a vs H Q E) : t_record_flaw a { nx := fun _ H' => Q .non H', rt := Q } (start n_record_flaw vs) H := by
  obtain ⟨c, p, l, xs, recs, rfl, hm, hr, hsub, hp, hl, hnm, hlt, q⟩ := h
  have lb := line_big
  obtain ⟨ts, hl1, hl2⟩ := hl
  have hln := hl2.len
  obtain ⟨rs, a1, a2, a3⟩ := recs_rows hl2
  unfold t_record_flaw
  walk_at "go"
  refine ⟨c, rfl, hm, hr, fun t H1 e1 nt ht => ?_⟩
  obtain ⟨r, ht1, ht2⟩ := ht
  walk_at "go"
  rw [decide_eq_false (fun k => nomatch k)]
  walk_at "go"
  refine ⟨l, _, rfl, .inl (.inl (.inl (e1 _ _ hl1))), ?_⟩
  rw [List.length_map, hln]
  walk_at "go"
  obtain ⟨mc, mu, m1, m2⟩ := T.most
  refine ⟨_, mc, _, mu, rfl, m1, m2, ?_⟩
  walk_at "go"
  refine k_iteZ (decide_eq_false (fun e => by have := V.int.inj e; omega)) ?_
  walk_at "go"
  refine ⟨t, _, _, _, rfl, rfl, .inl (.inl ht1), rfl, ?_⟩
  walk_at "go"
  have hl3 := e1 _ _ hl1
  refine ⟨l, rfl, ?_⟩
  refine lL (.inl (.inl hl3)) (fun i => ((recs.map (·.1)).take i).map V.str) rfl (fun i v D H3 hD hv e3 hd => ?_) fun D H3 hD e3 hd => ?_
  · obtain ⟨t', ht', rfl⟩ := map_get hv
    obtain ⟨r', c', b1, b2, b3, b4⟩ := a3 i t' ht'
    walk_at "go"
    refine ⟨t', _, rfl, .inl (.inl (e3 _ _ (e1 _ _ b3))), rfl, ?_⟩
    walk_at "go"
    have hz : (recs.map (·.1))[i]? = some c'.1 := by rw [List.getElem?_map, b2] <;> rfl
    exact lc_add e3 hD hd (by rw [List.length_map]; have := len_take_le (recs.map (·.1)) i; rw [List.length_map] at this; omega) (map_take_snoc _ hz)
  rw [List.length_map, hln, ← List.length_map (f := fun c : Rec => c.1), take_full] at hd
  refine in_strs (xs := recs.map (·.1)) (.inl (.inl (.inl hd))) ?_
  rw [decide_eq_false hnm]
  walk_at "go"
  refine ⟨t, _, _, _, rfl, rfl, .inl (.inl (e3 _ _ ht1)), rfl, ?_⟩
  walk_at "go"
  refine ⟨r, p, c.2.1, c.2.2, xs, rfl, ht2.t (Same.t e3), .inl (.inl (.inl (e3 _ _ (e1 _ _ hp)))), hsub, ?_⟩
  walk_at "go"
  rw [decide_eq_true rfl]
  walk_at "go"
  exact q H3 (e1.trans e3)
theorem rd_book_text (h : sp_book_text a vs H Q E) : t_book_text a { nx := fun _ H' => Q .non H', rt := Q } (start n_book_text vs) H := by
  obtain ⟨b, xs, recs, rfl, hb, q⟩ := h
  have lb := line_big
  obtain ⟨dx, t, d, rs, h1, h2, h3, h4, h5⟩ := hb
  have hle := h5.le
  have hrl := h4.len
  have hh := head_len h5.nx h5.hi
  unfold t_book_text
  walk_at "go"
  refine ⟨_, _, _, _, _, rfl, h1, T.cB, T.nBreasons, rfl, ?_⟩
  have sl := sum_le (n := 6) (l := xs.map (·.length)) (fun x hx => by
    obtain ⟨z, hz, e⟩ := List.mem_map.mp hx
    rw [← e]
    exact (h5.nx.nm z hz).len)
  rw [List.length_map] at sl
  have l1 : (Str.ofString " ").length = 1 := by decide +kernel
  have hi := h5.hi
  refine ⟨_, t, xs, rfl, rfl, .inr h2.sq, by rw [l1]; omega, ?_⟩
  walk_at "go"
  have lj : (Txt.join (Str.ofString " ") xs).length ≤ 57 := by
    have e : (headOf xs).length = 8 + (Txt.join (Str.ofString " ") xs).length := by
      unfold headOf
      simp only [len_cp, cp_cat, List.length_append]
      rfl
    omega
  refine ⟨_, rfl, by rw [cat_nil, lb]; decide +kernel, ?_⟩
  walk_at "go"
  have l8 : (Str.ofString "reasons ").length = 8 := by decide +kernel
  refine .inl ⟨_, rfl, by omega, ?_⟩
  refine ⟨_, rfl, by rw [cat_nil, cat_len]; omega, ?_⟩
  walk_at "go"
  have lnl : (Str.ofString "\n").length = 1 := by decide +kernel
  refine ⟨_, rfl, by rw [cat_nil, cat_len, cat_len]; omega, ?_⟩
  rw [cat_nil]
  walk_at "go"
  refine ⟨by rw [lb]; simp, fun L hL => ?_⟩
  have e1 : Same H (upd H L (.lst [.str (Str.ofString "reasons " ++ Txt.join (Str.ofString " ") xs ++ Str.ofString "\n")])) := Same.new (Same.refl _) hL
  have L1 : upd H L (.lst [.str (Str.ofString "reasons " ++ Txt.join (Str.ofString " ") xs ++ Str.ofString "\n")]) L = some (.lst [.str (headOf xs ++ "\n")]) := upd_same
  generalize upd H L (.lst [.str (Str.ofString "reasons " ++ Txt.join (Str.ofString " ") xs ++ Str.ofString "\n")]) = H1 at *
  walk_at "go"
  have d1 := e1 _ _ h3
  refine k_lock ⟨d, .dK (DictB rs recs), d1, trivial, fun od => ?_⟩
  walk_at "go"
  have nLd : L ≠ d := fun e => by
    rw [e, d1] at L1
    cases L1
  have b2 : Butx d H (upd H1 d (.frz od (.dK (DictB rs recs)))) := (Butx.of e1).put
  have d2 : upd H1 d (.frz od (.dK (DictB rs recs))) d = some (.frz od (.dK (DictB rs recs))) := upd_same
  have L2 : upd H1 d (.frz od (.dK (DictB rs recs))) L = some (.lst [.str (headOf xs ++ "\n")]) := by rw [upd_ne nLd]; exact L1
  have u2 : ∀ H', Butx d H H' → H' d = some (.frz od (.dK (DictB rs recs))) → Same H (upd H' d (.dK (DictB rs recs))) := fun H' b hd c o hc => by
    by_cases z : c = d
    · rw [z, upd_same, ← h3, ← z]
      exact hc
    · rw [upd_ne z]
      exact b _ _ hc z
  generalize upd H1 d (.frz od (.dK (DictB rs recs))) = H2 at *
  have nbd : b ≠ d := fun z => by
    rw [z, h3] at h1
    cases h1
  refine ⟨_, _, _, _, _, rfl, b2 _ _ h1 nbd, T.cB, T.nBmark, rfl, d, od, _, rfl, d2, ?_⟩
  refine for_it (walk_items (kvs := DictB rs recs)) (fun i σ H3 => Butx d H H3 ∧ H3 d = some (.frz od (.dK (DictB rs recs))) ∧ H3 L = some (.lst (((headOf xs ++ ("\n" : Str)) :: (recs.take i).map fun c => lineOf c ++ ("\n" : Str)).map V.str)) ∧ ∃ u v w, σ = [some (.ref b), u, some (.ref L), v, w]) ⟨b2, d2, L2, _, _, _, rfl⟩ (fun i σ H3 _ c => c.2.1) (fun i x σ H3 H4 hi c y => ?_) fun σ H3 c => ?_
  · obtain ⟨b3, d3, L3, u, v, w, rfl⟩ := c
    obtain ⟨Tt, kx, vx, rfl, hT, rfl, k1, k2⟩ := y
    rw [dictB_len hrl] at hi
    have hc : recs[i]? = some recs[i] := List.getElem?_eq_getElem hi
    generalize recs[i] = c at hc
    obtain ⟨r, hr, hra⟩ := h4.get' hc
    have hz : (DictB rs recs)[i]? = some (Sum.inr c.1, V.ref r) := by
      unfold DictB
      rw [List.getElem?_map, (List.getElem?_zip_eq_some (z := (r, c))).mpr ⟨hr, hc⟩] <;> rfl
    dsimp only at k1 k2
    rw [hz] at k1 k2
    have k1 : V.str c.1 = kx := Option.some.inj k1
    have k2 : V.ref r = vx := Option.some.inj k2
    subst k1 k2
    have cm := List.mem_of_getElem? hc
    have cn := (h5.mks c cm).len
    have cr := rowText_len (h5.rv c cm)
    have e4 : Same H3 (upd H3 Tt (.tup [.str c.1, .ref r])) := Same.new (Same.refl _) hT
    walk_at "go"
    refine ⟨Tt, _, rfl, .inl (.inl upd_same), rfl, ?_⟩
    generalize upd H3 Tt (.tup [.str c.1, .ref r]) = H4 at *
    have b4 := b3.trans (Butx.of e4)
    have hrd : d ≠ r := fun z => by
      obtain ⟨dy, tp, tc, tn, k1, _⟩ := hra
      rw [← z, h3] at k1
      cases k1
    have ra4 : RowAt a H4 r c.2.1 c.2.2 := by
      obtain ⟨dy, tp, tc, tn, k1, k2, k3, k4, k5⟩ := hra
      have nt : ∀ {t : Addr} {ys : List V}, H t = some (.tup ys) → t ≠ d := fun h z => by
        rw [z, h3] at h
        cases h
      exact ⟨dy, tp, tc, tn, b4 _ _ k1 hrd.symm, b4 _ _ k2 (nt k2), b4 _ _ k3 (nt k3), b4 _ _ k4 (nt k4), k5⟩
    have ra40 := ra4
    obtain ⟨dy, tp, tc, tn, g1, g2, g3, g4, g5⟩ := ra40
    have L4 := e4 _ _ L3
    walk_at "go"
    refine ⟨.inl ⟨rfl, _, .inl (.inl L4)⟩, ?_⟩
    walk_at "go"
    have lr : (Str.ofString "row ").length = 4 := by decide +kernel
    refine ⟨_, rfl, by rw [cat_nil]; omega, ?_⟩
    walk_at "go"
    refine .inl ⟨_, rfl, by omega, ?_⟩
    refine ⟨_, rfl, by rw [cat_nil, cat_len]; omega, ?_⟩
    walk_at "go"
    refine ⟨_, rfl, by rw [cat_nil, cat_len, cat_len]; omega, ?_⟩
    walk_at "go"
    refine ⟨_, _, _, rfl, g1, rfl, ?_⟩
    walk_at "go"
    refine ⟨r, c.2.1, c.2.2, rfl, ra4, fun H5 e5 => ?_⟩
    refine .inl ⟨_, rfl, by omega, ?_⟩
    refine ⟨_, rfl, by rw [cat_nil, cat_len, cat_len, cat_len]; omega, ?_⟩
    walk_at "go"
    refine ⟨_, rfl, by rw [cat_nil, cat_len, cat_len, cat_len, cat_len]; omega, ?_⟩
    walk_at "go"
    rw [cat_nil]
    have L5 := e5 _ _ L4
    have tk := len_take_le recs i
    refine ⟨L, _, _, rfl, rfl, L5, by rw [List.length_map, List.length_cons, List.length_map]; omega, ?_⟩
    have nH : H L = none := hL
    refine ⟨fun p o hp np => ?_, ?_, ?_, _, _, _, rfl⟩
    · rw [upd_ne (fun z => by rw [z, nH] at hp; cases hp)]
      exact e5 _ _ (b4 _ _ hp np)
    · rw [upd_ne nLd.symm]
      exact e5 _ _ (e4 _ _ d3)
    · rw [upd_same, map_take_snoc _ hc]
      show some (HO.lst (_ ++ [V.str (lineOf c ++ "\n")])) = _
      rw [← List.cons_append, List.map_append] <;> rfl
  · obtain ⟨b3, d3, L3, u, v, w, rfl⟩ := c
    rw [dictB_len hrl, take_full] at L3
    refine ⟨d3, ?_⟩
    have e6 := u2 H3 b3 d3
    have L6 : upd H3 d (.dK (DictB rs recs)) L = some (.lst (((bookLines xs recs).map (· ++ ("\n" : Str))).map V.str)) := by
      rw [upd_ne nLd, L3]
      unfold bookLines
      rw [List.map_cons, List.map_cons, List.map_cons, List.map_map, List.map_map, List.map_map] <;> rfl
    generalize upd H3 d (.dK (DictB rs recs)) = H6 at *
    walk_at "go"
    have ln : ∀ w ∈ (bookLines xs recs).map (· ++ ("\n" : Str)), w.length ≤ 68 := fun w hw => by
      obtain ⟨z, hz, e⟩ := List.mem_map.mp hw
      rw [← e, cat_len, lnl]
      unfold bookLines at hz
      rcases List.mem_cons.mp hz with rfl | hz
      · omega
      · obtain ⟨c, hc, e⟩ := List.mem_map.mp hz
        rw [← e]
        have := line_len (h5.mks c hc) (h5.rv c hc)
        omega
    have sl2 := sum_le (n := 68) (l := ((bookLines xs recs).map (· ++ ("\n" : Str))).map (·.length)) (fun x hx => by
      obtain ⟨z, hz, e⟩ := List.mem_map.mp hx
      rw [← e]
      exact ln z hz)
    have bl : (bookLines xs recs).length = recs.length + 1 := by
      unfold bookLines
      rw [List.length_cons, List.length_map]
    rw [List.length_map, List.length_map, bl] at sl2
    have l0 : (Str.ofString "").length = 0 := by decide +kernel
    refine ⟨_, L, _, rfl, rfl, .inl (.inl (.inl L6)), by rw [l0]; omega, ?_⟩
    rw [join_catS]
    exact q H6 e6
theorem rd_book_read (h : sp_book_read a vs H Q E) : t_book_read a { nx := fun _ H' => Q .non H', rt := Q } (start n_book_read vs) H := by
  obtain ⟨xs, recs, rfl, hv, h40, q⟩ := h
  have lb := line_big
  have hle := hv.le
  have l1 := hv.lo
  have l7 := hv.hi
  have hh := head_len hv.nx hv.hi
  have lnl : (Str.ofString "\n").length = 1 := by decide +kernel
  have bl : (bookLines xs recs).length = recs.length + 1 := by
    unfold bookLines
    rw [List.length_cons, List.length_map]
  have lnw : ∀ z ∈ bookLines xs recs, z.length ≤ 67 ∧ 10 ∉ cp z := fun z hz => by
    unfold bookLines at hz
    rcases List.mem_cons.mp hz with rfl | hz
    · exact ⟨by omega, head_no10 hv.nx⟩
    · obtain ⟨c, hc, e⟩ := List.mem_map.mp hz
      rw [← e]
      exact ⟨line_len (hv.mks c hc) (hv.rv c hc), line_no10 (hv.mks c hc) (hv.rv c hc)⟩
  have tl : (bookText xs recs).length ≤ 7000 := by
    have := catS_len (n := 68) (ws := (bookLines xs recs).map (· ++ ("\n" : Str))) (fun w hw => by
      obtain ⟨z, hz, e⟩ := List.mem_map.mp hw
      rw [← e, cat_len, lnl]
      have := (lnw z hz).1
      omega)
    rw [List.length_map, bl] at this
    unfold bookText
    omega
  have tne : bookText xs recs ≠ Str.ofString "" := fun e => by
    have := congrArg (fun z => (cp z).length) e
    unfold bookText bookLines headOf at this
    simp only [List.map_cons, catS, cp_cat, List.length_append] at this
    have e8 : (cp (Str.ofString "reasons ")).length = 8 := by decide +kernel
    have e0 : (cp (Str.ofString "")).length = 0 := by decide +kernel
    omega
  unfold t_book_read
  walk_at "go"
  refine isi_str ?_
  walk_at "go"
  refine k_iteZ (decide_eq_false fun e => tne (V.str.inj e)) ?_
  walk_at "go"
  refine ⟨Nat.zero_le _, fun A hA => ?_⟩
  walk_at "go"
  refine ⟨Nat.zero_le _, fun R hR => ?_⟩
  walk_at "go"
  have eR : Same H (upd (upd H A (.lst [])) R (.lst [])) := Same.new (Same.new (Same.refl _) hA) hR
  have nR : H R = none := (Same.new (Same.refl _) hA : Same H _).free hR
  have R1 : upd (upd H A (.lst [])) R (.lst []) R = some (.lst []) := upd_same
  generalize upd (upd H A (.lst [])) R (.lst []) = H1 at *
  refine ⟨bookLines xs recs, rfl, fun z hz => (lnw z hz).2, by have := tl; unfold bookText at this; omega, by omega, fun Lp H2 e2 nL hL => ?_⟩
  walk_at "go"
  obtain ⟨ts, hL1, hL2⟩ := hL
  refine ⟨Lp, _, rfl, .inl (.inl hL1), ?_⟩
  have hLn := hL2.len
  have nLR : Lp ≠ R := fun z => by
    rw [z, R1] at nL
    cases nL
  refine for_it (walk_enum (xs := ts.map V.ref)) (fun i σ H3 => Same H H3 ∧ H3 Lp = some (.lst (ts.map V.ref)) ∧ All2 (LineAt H3) ts (bookLines xs recs) ∧ (∃ rt : List Addr, H3 R = some (.lst (rt.map V.ref)) ∧ All2 (RecAt a H3) rt (recs.take (i - 1))) ∧
    ∃ A' u v w y, (i ≠ 0 → LS H3 A' xs) ∧ σ = [some (.str (bookText xs recs)), some (.ref A'), some (.ref R), u, v, w, y])
    ⟨eR.trans e2, hL1, hL2, ⟨[], e2 _ _ R1, by simp [All2]⟩, A, _, _, _, _, fun z => absurd rfl z, rfl⟩ (fun i σ H3 _ c => .inl (.inl c.2.1)) (fun i x σ H3 H4 hi c y => ?_) fun σ H3 c => ?_
  · obtain ⟨e3, L3, A3, ⟨rt, R3, hrt⟩, A', u, v, w, yy, hA', rfl⟩ := c
    obtain ⟨Tt, kx, vx, rfl, hT, rfl, k1, k2⟩ := y
    have k1 : V.int (i : Nat) = kx := Option.some.inj k1
    subst k1
    obtain ⟨t', ht', rfl⟩ := map_get k2
    obtain ⟨z, hz, hzl⟩ := A3.get ht'
    have e4 : Same H3 (upd H3 Tt (.tup [.int (i : Nat), .ref t'])) := Same.new (Same.refl _) hT
    walk_at "go"
    refine ⟨Tt, _, rfl, .inl (.inl upd_same), rfl, ?_⟩
    generalize upd H3 Tt (.tup [.int (i : Nat), .ref t']) = H4 at *
    walk_at "go"
    refine ⟨t', _, rfl, .inl (.inl (e4 _ _ hzl)), rfl, ?_⟩
    walk_at "go"
    have e04 := e3.trans e4
    have hrl : rt.length ≤ recs.length := by
      rw [hrt.len]
      exact len_take_le _ _
    cases i with
    | zero =>
      have ez : headOf xs = z := Option.some.inj hz
      subst ez
      refine k_iteY (decide_eq_true rfl) ?_
      walk_at "go"
      refine ⟨xs, rfl, hv.nx, hv.sx, l1, l7, fun H5 e5 => ?_⟩
      walk_at "go"
      rw [decide_eq_true rfl]
      walk_at "go"
      refine k_iteY (decide_eq_true rfl) ?_
      walk_at "go"
      refine ⟨_, _, rfl, rfl, by decide +kernel, by omega, fun s hs => ?_⟩
      rw [head_split hv.nx l1]
      have e6 : Same H5 (upd H5 s (.lst ((Str.ofString "reasons" :: xs).map V.str))) := Same.new (Same.refl _) hs
      have s6 : upd H5 s (.lst ((Str.ofString "reasons" :: xs).map V.str)) s = some (.lst (V.str (Str.ofString "reasons") :: xs.map V.str)) := upd_same
      generalize upd H5 s (.lst ((Str.ofString "reasons" :: xs).map V.str)) = H6 at *
      walk_at "go"
      refine ⟨s, _, rfl, .inl (.inl s6), fun r hr => ?_⟩
      have cut1 : cutV (V.str (Str.ofString "reasons") :: xs.map V.str) (some 1) none = xs.map V.str := by
        have e : HT.sIx (xs.length + 1) 0 (some 1) = 1 := by unfold HT.sIx; simp
        unfold cutV
        rw [List.length_cons, List.length_map, e]
        show ((xs.map V.str).drop 0).take ((xs.length + 1) - 1) = _
        rw [List.drop_zero, List.take_of_length_le (by rw [List.length_map]; omega)]
      rw [cut1]
      have e7 : Same H6 (upd H6 r (.lst (xs.map V.str))) := Same.new (Same.refl _) hr
      have e37 : Same H3 (upd H6 r (.lst (xs.map V.str))) := ((e4.trans e5).trans e6).trans e7
      walk_at "go"
      exact ⟨e3.trans e37, e37 _ _ L3, A3.mono fun _ _ k => k.t (Same.t e37), ⟨rt, e37 _ _ R3, hrt.mono fun _ _ k => k.t (Same.t e37)⟩, r, _, _, _, _, fun _ => upd_same, rfl⟩
    | succ i =>
      have hzc : (recs.map lineOf)[i]? = some z := hz
      obtain ⟨c, hc, rfl⟩ := map_get hzc
      have cm := List.mem_of_getElem? hc
      have hi2 := (List.getElem?_eq_some_iff.mp hc).1
      have hrt2 : All2 (RecAt a H3) rt (recs.take i) := hrt
      refine k_iteZ (decide_eq_false (fun e => by have := V.int.inj e; omega)) ?_
      walk_at "go"
      have lsA := hA' (Nat.succ_ne_zero i)
      refine ⟨c, A', R, xs, recs.take i, rfl, hv.mks c cm, hv.rv c cm, hv.sub c cm, e4 _ _ lsA, ⟨rt, e4 _ _ R3, hrt2.mono fun _ _ k => k.t (Same.t e4)⟩, ?_, by rw [List.length_take]; omega, fun H5 e5 => ?_⟩
      · intro hm
        obtain ⟨d, hd, e⟩ := List.mem_map.mp hm
        obtain ⟨j, hj, ej⟩ := List.mem_take_iff_getElem.mp hd
        have ec := (List.getElem?_eq_some_iff.mp hc).2
        have := List.pairwise_iff_getElem.mp hv.nd j i (by rw [List.length_map]; omega) (by rw [List.length_map]; exact hi2) (by omega)
        rw [List.getElem_map, List.getElem_map, ej, ec] at this
        exact this e
      walk_at "go"
      rw [decide_eq_true rfl]
      walk_at "go"
      refine k_iteZ (decide_eq_false (fun e => by have := V.int.inj e; omega)) ?_
      walk_at "go"
      have R5 := e5 _ _ (e4 _ _ R3)
      refine ⟨.inl ⟨rfl, _, .inl (.inl R5)⟩, ?_⟩
      walk_at "go"
      refine ⟨c, rfl, hv.mks c cm, hv.rv c cm, fun rt' H6 e6 nrt hr6 => ?_⟩
      have R6 := e6 _ _ R5
      refine ⟨R, _, _, rfl, rfl, R6, by rw [List.length_map]; omega, ?_⟩
      have e36 := (e4.trans e5).trans e6
      have k7 : KeepT H6 (upd H6 R (.lst (rt.map V.ref ++ [V.ref rt']))) := KeepT.mut R6 (KeepT.refl _)
      have k37 := (Same.t e36).trans k7
      have s07 := Same.mut (o := .lst (rt.map V.ref ++ [V.ref rt'])) (e3.trans e36) nR
      have nAR : A' ≠ R := fun z => by
        have q1 : H3 A' = some (.lst (xs.map V.str)) := lsA
        rw [z, R3] at q1
        have q2 := HO.lst.inj (Option.some.inj q1)
        obtain ⟨x0, xr, ex⟩ := List.exists_cons_of_length_pos (l := xs) (by omega)
        rw [ex] at q2
        cases rt with
        | nil => cases q2
        | cons _ _ => cases q2
      refine ⟨s07, ?_, A3.mono fun _ _ k => k.t k37, ⟨rt ++ [rt'], ?_, ?_⟩, A', _, _, _, _, fun _ => ?_, rfl⟩
      · rw [upd_ne nLR]
        exact e36 _ _ L3
      · rw [upd_same, List.map_append] <;> rfl
      · show All2 _ _ (recs.take (i + 1))
        rw [take_snoc hc]
        exact (hrt2.mono fun _ _ k => k.t k37).snoc (hr6.t k7)
      · show upd _ _ _ _ = _
        rw [upd_ne nAR]
        exact e36 _ _ lsA
  · obtain ⟨e3, L3, A3, ⟨rt, R3, hrt⟩, A', u, v, w, yy, hA', rfl⟩ := c
    rw [List.length_map, hLn, bl] at hrt hA'
    have lsA := hA' (Nat.succ_ne_zero _)
    have hrt2 : All2 (RecAt a H3) rt recs := by
      rw [show recs.length + 1 - 1 = recs.length by omega, take_full] at hrt
      exact hrt
    have hrl := hrt2.len
    walk_at "go"
    refine ⟨R, _, rfl, .inr (.inl (.inl R3)), ?_⟩
    walk_at "go"
    intro x dy nx nd ne
    have e4 : Same H3 (upd (upd H3 dy (.own x)) x (.ins a.B dy [])) := Same.new (Same.new (Same.refl _) nd) (by rw [upd_ne (fun e => ne e.symm)]; exact nx)
    have x4 : upd (upd H3 dy (.own x)) x (.ins a.B dy []) x = some (.ins a.B dy []) := upd_same
    refine ⟨[.ref x, .ref A'], rt.map V.ref, by rw [List.append_nil] <;> rfl, rfl, by rw [List.length_map]; omega, fun p hp => ?_⟩
    have e5 := Same.new (o := HO.tup (rt.map V.ref)) (Same.refl _) hp
    have e35 := e4.trans e5
    have sx : isort xs = xs := isort_self hv.sx
    refine ⟨x, dy, A', p, xs, recs, rt, rfl, e5 _ _ x4, .inl (.inl (.inl (e35 _ _ lsA))), upd_same, hrt2.mono fun _ _ k => k.t (Same.t e35), by rw [sx]; exact hv, hv.nx, h40, fun H6 b6 hb6 => ⟨rfl, ?_⟩⟩
    rw [sx] at hb6
    exact q x H6 (e3.trans (Butx.made (C := a.B) nx nd fun b' o' hb n => b6 b' o' (e5 _ _ hb) n)) (e3.free nx) hb6
end
end Fd
set_option Elab.async false
set_option linter.all false
set_option maxRecDepth 100000
set_option maxHeartbeats 4000000
/-! ### FdL2c: a book grown -/
namespace Fd
open PySem PySem.Spec PyProof.Rows L2 SX
theorem freshM_zip {recs : List Rec} {rws : List (List Str × List Str)} {xs : List Str} (hv : BookV xs recs) (hr : ∀ c ∈ rws, RowV c.1 c.2) (hs : ∀ c ∈ rws, ∀ z ∈ c.1 ++ c.2, z ∈ xs) (hle : recs.length + rws.length ≤ 100) :
    BookV xs (recs ++ (freshM (recs.map (·.1)) rws.length).zip rws) := by
  have fm : ∀ z ∈ freshM (recs.map (·.1)) rws.length, z ∈ allMarks ∧ z ∉ recs.map (·.1) := fun z hz => by
    have h := List.mem_of_mem_take hz
    exact ⟨(List.mem_filter.mp h).1, of_decide_eq_true (List.mem_filter.mp h).2⟩
  have lf : (freshM (recs.map (·.1)) rws.length).length ≤ rws.length := by
    unfold freshM
    rw [List.length_take]
    omega
  have nf : (freshM (recs.map (·.1)) rws.length).Nodup := (marks_nd.sublist List.filter_sublist).sublist (List.take_sublist _ _)
  refine ⟨hv.nx, hv.sx, hv.lo, hv.hi, fun c hc => ?_, fun c hc => ?_, fun c hc => ?_, ?_, ?_⟩
  · rcases List.mem_append.mp hc with k | k
    · exact hv.rv c k
    · exact hr _ (List.of_mem_zip k).2
  · rcases List.mem_append.mp hc with k | k
    · exact hv.sub c k
    · exact hs _ (List.of_mem_zip k).2
  · rcases List.mem_append.mp hc with k | k
    · exact hv.mks c k
    · exact marks_nm (fm _ (List.of_mem_zip k).1).1
  · rw [List.map_append, List.nodup_append]
    have e : ((freshM (recs.map (·.1)) rws.length).zip rws).map (fun c : Rec => c.1) = freshM (recs.map (·.1)) rws.length := by
      have := List.map_fst_zip (l₁ := freshM (recs.map (·.1)) rws.length) (l₂ := rws) lf
      exact this
    rw [e]
    exact ⟨hv.nd, nf, fun x hx y hy z => (fm y hy).2 (by rw [← z]; exact hx)⟩
  · rw [List.length_append, List.length_zip]
    omega
section
local macro_rules | `(tactic| walk_at "sm") => `(tactic| first | exact Same.refl _ | assumption | (refine Same.new ?_ ‹_›; walk_at "sm") | (refine Same.trans ?_ ‹Same _ _›; walk_at "sm"))
local macro_rules | `(tactic| walk_at "s1") => `(tactic| first
  | with_reducible refine g_seq ?_ | with_reducible refine g_asg ?_ | with_reducible refine g_name ?_ | with_reducible refine g_cons ?_ | with_reducible refine g_nil ?_
  | ((with_reducible refine k_var ?_); refine ⟨_, rfl, ?_⟩) | with_reducible refine g_c ?_ | with_reducible refine g_op ?_ | with_reducible refine g_un ?_
  | with_reducible refine g_cb ?_ | with_reducible refine g_call ?_ | with_reducible refine g_ifS ?_ | with_reducible refine g_if ?_ | with_reducible refine g_tB ?_ | with_reducible refine g_test ?_
  | with_reducible refine k_bl ?_ | with_reducible refine k_iteT ?_ | with_reducible refine k_iteF ?_ | with_reducible refine k_iteNT ?_ | with_reducible refine k_iteNF ?_
  | with_reducible refine g_and ?_ | with_reducible refine g_or ?_ | with_reducible refine g_not ?_ | with_reducible refine g_andV ?_ | with_reducible refine g_orV ?_ | with_reducible refine g_notV ?_ | with_reducible refine g_yes ?_)
local macro_rules | `(tactic| walk_at "s2") => `(tactic| first
  | with_reducible refine g_ret ?_ | with_reducible refine g_drop ?_ | with_reducible refine g_next ?_ | with_reducible refine k_retN ?_
  | ((with_reducible refine k_I0 ?_); refine ⟨_, _, rfl, rfl, ?_⟩) | ((with_reducible refine k_U ?_); refine ⟨_, rfl, ?_⟩) | ((with_reducible refine k_eq ?_); refine ⟨rfl, ?_⟩) | ((with_reducible refine k_ne ?_); refine ⟨rfl, ?_⟩)
  | ((with_reducible refine k_isN ?_); refine ⟨rfl, ?_⟩) | ((with_reducible refine k_notN ?_); refine ⟨rfl, ?_⟩) | with_reducible refine k_chain ?_ | with_reducible refine k_fld ?_ | with_reducible refine k_sfld ?_
  | with_reducible refine k_tup ?_ | with_reducible refine k_lst ?_ | with_reducible refine k_meth ?_ | with_reducible refine k_bm ?_ | with_reducible refine k_bm0 ?_ | with_reducible refine k_m1 ?_ | with_reducible refine k_fmt ?_ | with_reducible refine k_joined ?_
  | with_reducible refine k_js0 ?_ | with_reducible refine k_js1 ?_ | with_reducible refine k_mkR ?_ | with_reducible refine k_sl ?_ | with_reducible refine k_part ?_ | with_reducible refine k_nopart ?_ | with_reducible refine k_gtup ?_
  | ((with_reducible refine k_aug ?_); refine ⟨_, rfl, ?_⟩) | ((with_reducible refine k_ipI ?_); refine ⟨_, _, rfl, rfl, ?_⟩) | with_reducible refine k_par ?_ | with_reducible refine k_din ?_ | with_reducible refine k_dnin ?_ | with_reducible refine k_dput ?_
  | with_reducible refine g_gcons ?_ | with_reducible refine g_gnil ?_ | with_reducible refine k_cval ?_ | with_reducible refine k_dnew ?_ | with_reducible refine k_isS ?_ | with_reducible refine k_int ?_ | with_reducible refine k_lcL ?_ | with_reducible refine k_lcT ?_ | with_reducible refine k_lcQ ?_ | with_reducible refine k_lcS ?_ | with_reducible refine k_lcR ?_ | with_reducible refine k_forL ?_ | with_reducible refine k_forT ?_ | with_reducible refine k_forQ ?_ | with_reducible refine k_forS ?_ | with_reducible refine k_forR ?_ | with_reducible refine k_forE ?_ | with_reducible refine k_forET ?_ | with_reducible refine k_forI ?_ | with_reducible refine k_star ?_ | with_reducible refine k_dcL ?_ | with_reducible refine k_listItems ?_ | with_reducible refine k_dget ?_ | ((with_reducible refine k_wipe ?_ ?_); exact rfl))
local macro_rules | `(tactic| walk_at "go") => `(tactic| repeat (first | walk_at "s1" | walk_at "s2"))
variable {a : Ax} {mg : Str → Option Value} (T : Top a mg) {vs : List V} {H : Hp} {Q : VK} {E : XK}
include T
theorem rd_book_grown (h : sp_book_grown a vs H Q E) : t_book_grown a { nx := fun _ H' => Q .non H', rt := Q } (start n_book_grown vs) H := by
  obtain ⟨b, l, xs, recs, rws, rfl, hb, ⟨rt, hl, hrt⟩, hsub, hle, q⟩ := h
  have lb := line_big
  have hb0 := hb
  obtain ⟨dx, t, d, rs, h1, h2, h3, h4, h5⟩ := hb0
  have hrl := h4.len
  have hrtl := hrt.len
  have rvr : ∀ c ∈ rws, RowV c.1 c.2 := fun c hc => by
    obtain ⟨i, hi, e⟩ := List.mem_iff_getElem.mp hc
    obtain ⟨r, _, _, _, _, _, _, _, _, _, k⟩ := hrt.get' (i := i) (b := c) (by rw [List.getElem?_eq_getElem hi, e])
    exact k
  unfold t_book_grown
  walk_at "go"
  refine ⟨l, rfl, ?_⟩
  refine fL (.inl (.inl hl)) (fun i σ H1 => H1 = H ∧ ∃ u v, σ = [some (.ref b), some (.ref l), u, v, none, none]) ⟨rfl, _, _, rfl⟩ (fun i σ H1 c => by rw [c.1]; exact .inl (.inl hl)) (fun i v σ H1 hv c => ?_) fun σ H1 c => ?_
  · obtain ⟨rfl, u, w, rfl⟩ := c
    obtain ⟨r, hr, rfl⟩ := map_get hv
    obtain ⟨c, hc, hra⟩ := hrt.get hr
    walk_at "go"
    refine ⟨_, _, _, _, _, rfl, h1, T.cB, T.nBreasons, rfl, ?_⟩
    walk_at "go"
    refine ⟨r, t, c.1, c.2, xs, rfl, hra, .inr h2.sq, hsub c (List.mem_of_getElem? hc), ?_⟩
    walk_at "go"
    rw [decide_eq_true rfl]
    walk_at "go"
    exact ⟨rfl, _, _, rfl⟩
  obtain ⟨eH, u, w, rfl⟩ := c
  replace eH := eH.symm
  subst eH
  walk_at "go"
  refine ⟨_, _, _, rfl, h1, rfl, ?_⟩
  walk_at "go"
  refine ⟨b, xs, recs, rfl, hb, fun R H2 e2 nR hR => ?_⟩
  obtain ⟨ts, hR1, hR2⟩ := hR
  have hRl := hR2.len
  walk_at "go"
  have hl2 := e2 _ _ hl
  have h12 := e2 _ _ h1
  have h32 := e2 _ _ h3
  have nlR : l ≠ R := ne_of_none hl nR
  generalize hold : recs.map (·.1) = old at *
  have lold : old.length = recs.length := by rw [← hold, List.length_map]
  have ndo : old.Nodup := by rw [← hold]; exact h5.nd
  -- what the places say
  let F : Nat → List Str := fun k => (allMarks.take k).filter fun z => decide (z ∉ old)
  refine ⟨l, rfl, ?_⟩
  refine fL (.inl (.inl hl2)) (fun i σ H3 => Same H H3 ∧ ∃ (k : Nat) (tr : List Addr), (F k).length = i ∧ i ≤ rws.length ∧ k ≤ 702 ∧ H3 R = some (.lst (tr.map V.ref)) ∧ All2 (RecAt a H3) tr (recs ++ (F k).zip (rws.take i)) ∧ ∃ u v, σ = [some (.ref b), some (.ref l), u, v, some (.ref R), some (.int (k : Nat))])
    ⟨e2, 0, ts, rfl, Nat.zero_le _, Nat.zero_le _, hR1, by simpa [F] using hR2, _, _, rfl⟩ (fun i σ H3 c => .inl (.inl (c.1 _ _ hl))) (fun i v σ H3 hv c => ?_) fun σ H3 c => ?_
  · obtain ⟨e3, k, tr, hk, hi, hk7, R3, hA, u, w, rfl⟩ := c
    obtain ⟨r, hr, rfl⟩ := map_get hv
    obtain ⟨c, hc, hra⟩ := hrt.get hr
    have hi2 := (List.getElem?_eq_some_iff.mp hc).1
    walk_at "go"
    refine ⟨fun m σ H4 => Same H3 H4 ∧ ∃ k' : Nat, m = 702 - k' ∧ F k' = F k ∧ k' ≤ 702 ∧ ∃ w, σ = [some (.ref b), some (.ref l), some (.ref r), w, some (.ref R), some (.int (k' : Nat))], ⟨702 - k, Same.refl _, k, rfl, rfl, hk7, _, rfl⟩, ?_⟩
    rintro m σ H4 ⟨e4, k', rfl, hF, hk', w', rfl⟩
    have hkt := marks_take hk' ndo
    have hkt2 : k' ≤ (F k').length + old.length := hkt
    rw [hF, hk] at hkt2
    have hlt : k' < 702 := by omega
    have hz : allMarks[k']? = some (allMarks[k']'(by rw [marks_len]; exact hlt)) := List.getElem?_eq_getElem _
    generalize allMarks[k']'(by rw [marks_len]; exact hlt) = z at hz
    walk_at "go"
    refine ⟨k', z, rfl, hz, fun H5 e5 => ?_⟩
    walk_at "go"
    have e05 := (e3.trans e4).trans e5
    refine ⟨_, _, _, _, _, rfl, e05 _ _ h1, T.cB, T.nBmark, rfl, ?_⟩
    refine ⟨d, _, rfl, .inl ⟨_, .inr z, .inl (e05 _ _ h3), rfl, rfl⟩, ?_⟩
    rw [valV_at hrl, hold]
    by_cases hm : z ∈ old
    · rw [decide_eq_true hm]
      walk_at "go"
      refine ⟨_, fun σ' H' w => w, ?_⟩
      walk_at "go"
      refine ⟨702 - (k' + 1), by omega, e4.trans e5, k' + 1, rfl, ?_, by omega, _, rfl⟩
      show (allMarks.take (k' + 1)).filter _ = _
      rw [take_snoc hz, List.filter_append]
      have : [z].filter (fun z => decide (z ∉ old)) = [] := by simp [hm]
      rw [this, List.append_nil]
      exact hF
    · rw [decide_eq_false hm]
      walk_at "go"
      have R5 := e5 _ _ (e4 _ _ R3)
      refine ⟨.inl ⟨rfl, _, .inl (.inl R5)⟩, ?_⟩
      walk_at "go"
      refine ⟨k', z, rfl, hz, fun H6 e6 => ?_⟩
      walk_at "go"
      refine ⟨by rw [lb]; simp, fun p hp => ?_⟩
      have e7 : Same H6 (upd H6 p (.tup [.str z, .ref r])) := Same.new (Same.refl _) hp
      have p7 : upd H6 p (.tup [.str z, .ref r]) p = some (.tup [.str z, .ref r]) := upd_same
      generalize upd H6 p (.tup [.str z, .ref r]) = H7 at *
      walk_at "go"
      have e37 := ((e4.trans e5).trans e6).trans e7
      have R7 := e37 _ _ R3
      have trl := hA.len
      rw [List.length_append, List.length_zip, hk, List.length_take] at trl
      refine ⟨R, _, _, rfl, rfl, R7, by rw [List.length_map]; omega, ?_⟩
      walk_at "go"
      have nR0 : H R = none := nR
      have k8 : KeepT H7 (upd H7 R (.lst (tr.map V.ref ++ [V.ref p]))) := KeepT.mut R7 (KeepT.refl _)
      have hF2 : F (k' + 1) = F k ++ [z] := by
        show (allMarks.take (k' + 1)).filter _ = _
        rw [take_snoc hz, List.filter_append]
        have : [z].filter (fun z => decide (z ∉ old)) = [z] := by simp [hm]
        rw [this]
        exact congrArg (· ++ [z]) hF
      refine ⟨Same.mut (e3.trans e37) nR0, k' + 1, tr ++ [p], by rw [hF2, List.length_append, hk] <;> rfl, by omega, by omega, ?_, ?_, _, _, rfl⟩
      · rw [upd_same, List.map_append] <;> rfl
      · rw [hF2, take_snoc hc, List.zip_append (by rw [hk, List.length_take]; omega), ← List.append_assoc]
        refine (hA.mono fun _ _ kk => kk.t ((Same.t e37).trans k8)).snoc ?_
        exact ⟨r, tupT p7 k8, RowAt.t hra ((Same.t (e3.trans e37)).trans k8)⟩
  · obtain ⟨e3, k, tr, hk, hi, hk7, R3, hA, u, w, rfl⟩ := c
    rw [List.length_map, hrtl] at hk
    rw [List.length_map, hrtl, take_full] at hA
    have hF : F k = freshM old rws.length := by
      unfold freshM
      have := filter_prefix (fun z => decide (z ∉ old)) allMarks k
      rw [show ((allMarks.take k).filter fun z => decide (z ∉ old)).length = rws.length from hk] at this
      exact this.symm
    rw [hF] at hA
    have bv := freshM_zip h5 rvr hsub hle
    rw [hold] at bv
    walk_at "go"
    refine ⟨_, _, _, _, _, rfl, e3 _ _ h1, T.cB, T.nBreasons, rfl, ?_⟩
    walk_at "go"
    refine ⟨t, R, xs, _, rfl, (h2.t (Same.t e3)).sq, ⟨tr, R3, hA⟩, bv, fun b' H4 e4 nb hb4 => ?_⟩
    exact q b' H4 (e3.trans e4) (e3.free nb) hb4
end
end Fd
set_option Elab.async false
set_option linter.all false
set_option maxRecDepth 100000
set_option maxHeartbeats 4000000
/-! ### FdL3: masks, what is borne -/
namespace Fd
open PySem PySem.Spec PyProof.Rows L2 SX
section
local macro_rules | `(tactic| walk_at "sm") => `(tactic| first | exact Same.refl _ | assumption | (refine Same.new ?_ ‹_›; walk_at "sm") | (refine Same.trans ?_ ‹Same _ _›; walk_at "sm"))
local macro_rules | `(tactic| walk_at "s1") => `(tactic| first
  | with_reducible refine g_seq ?_ | with_reducible refine g_asg ?_ | with_reducible refine g_name ?_ | with_reducible refine g_cons ?_ | with_reducible refine g_nil ?_
  | ((with_reducible refine k_var ?_); refine ⟨_, rfl, ?_⟩) | with_reducible refine g_c ?_ | with_reducible refine g_op ?_ | with_reducible refine g_un ?_
  | with_reducible refine g_cb ?_ | with_reducible refine g_call ?_ | with_reducible refine g_ifS ?_ | with_reducible refine g_if ?_ | with_reducible refine g_tB ?_ | with_reducible refine g_test ?_
  | with_reducible refine k_bl ?_ | with_reducible refine k_iteT ?_ | with_reducible refine k_iteF ?_ | with_reducible refine k_iteNT ?_ | with_reducible refine k_iteNF ?_
  | with_reducible refine g_and ?_ | with_reducible refine g_or ?_ | with_reducible refine g_not ?_ | with_reducible refine g_andV ?_ | with_reducible refine g_orV ?_ | with_reducible refine g_notV ?_ | with_reducible refine g_yes ?_)
local macro_rules | `(tactic| walk_at "s2") => `(tactic| first
  | with_reducible refine g_ret ?_ | with_reducible refine g_drop ?_ | with_reducible refine g_next ?_ | with_reducible refine k_retN ?_
  | ((with_reducible refine k_I0 ?_); refine ⟨_, _, rfl, rfl, ?_⟩) | ((with_reducible refine k_U ?_); refine ⟨_, rfl, ?_⟩) | ((with_reducible refine k_eq ?_); refine ⟨rfl, ?_⟩) | ((with_reducible refine k_ne ?_); refine ⟨rfl, ?_⟩)
  | ((with_reducible refine k_isN ?_); refine ⟨rfl, ?_⟩) | ((with_reducible refine k_notN ?_); refine ⟨rfl, ?_⟩) | with_reducible refine k_chain ?_ | with_reducible refine k_fld ?_ | with_reducible refine k_sfld ?_
  | with_reducible refine k_tup ?_ | with_reducible refine k_lst ?_ | with_reducible refine k_meth ?_ | with_reducible refine k_bm ?_ | with_reducible refine k_bm0 ?_ | with_reducible refine k_m1 ?_ | with_reducible refine k_fmt ?_ | with_reducible refine k_joined ?_
  | with_reducible refine k_js0 ?_ | with_reducible refine k_js1 ?_ | with_reducible refine k_mkR ?_ | with_reducible refine k_sl ?_ | with_reducible refine k_part ?_ | with_reducible refine k_nopart ?_ | with_reducible refine k_gtup ?_
  | ((with_reducible refine k_aug ?_); refine ⟨_, rfl, ?_⟩) | ((with_reducible refine k_ipI ?_); refine ⟨_, _, rfl, rfl, ?_⟩) | with_reducible refine k_par ?_ | with_reducible refine k_din ?_ | with_reducible refine k_dnin ?_ | with_reducible refine k_dput ?_
  | with_reducible refine g_gcons ?_ | with_reducible refine g_gnil ?_ | with_reducible refine k_cval ?_ | with_reducible refine k_dnew ?_ | with_reducible refine k_isS ?_ | with_reducible refine k_int ?_ | with_reducible refine k_lcL ?_ | with_reducible refine k_lcT ?_ | with_reducible refine k_lcQ ?_ | with_reducible refine k_lcS ?_ | with_reducible refine k_lcR ?_ | with_reducible refine k_forL ?_ | with_reducible refine k_forT ?_ | with_reducible refine k_forQ ?_ | with_reducible refine k_forS ?_ | with_reducible refine k_forR ?_ | with_reducible refine k_forE ?_ | with_reducible refine k_forET ?_ | with_reducible refine k_forI ?_ | with_reducible refine k_star ?_ | with_reducible refine k_dcL ?_ | with_reducible refine k_listItems ?_ | with_reducible refine k_dget ?_ | ((with_reducible refine k_wipe ?_ ?_); exact rfl))
local macro_rules | `(tactic| walk_at "go") => `(tactic| repeat (first | walk_at "s1" | walk_at "s2"))
variable {a : Ax} {mg : Str → Option Value} (T : Top a mg) {vs : List V} {H : Hp} {Q : VK} {E : XK}
include T
theorem rd_full_mask (h : sp_full_mask a vs H Q E) : t_full_mask a { nx := fun _ H' => Q .non H', rt := Q } (start n_full_mask vs) H := by
  obtain ⟨p, xs, rfl, hp, l7, q⟩ := h
  unfold t_full_mask
  walk_at "go"
  refine ⟨p, xs, rfl, .inr hp, ?_⟩
  refine ⟨1, (xs.length : Nat), rfl, rfl, ⟨by omega, by omega, by decide⟩, ?_⟩
  walk_at "go"
  have e : (1 : Int) * 2 ^ ((xs.length : Nat) : Int).toNat - 1 = ((2 ^ xs.length - 1 : Nat) : Int) := by
    rw [shl_one]
    have := Nat.one_le_two_pow (n := xs.length)
    omega
  rw [e]
  exact q
theorem rd_mask_of (h : sp_mask_of a vs H Q E) : t_mask_of a { nx := fun _ H' => Q .non H', rt := Q } (start n_mask_of vs) H := by
  obtain ⟨p, r, xs, ys, rfl, hp, hr, l7, hsub, q⟩ := h
  unfold t_mask_of
  walk_at "go"
  refine ⟨r, rfl, ?_⟩
  refine fT hr (fun i σ H1 => H1 = H ∧ ∃ u, σ = [some (.ref p), some (.ref r), some (.int (maskL xs (ys.take i) : Nat)), u]) ⟨rfl, _, rfl⟩ (fun i σ H1 c => by rw [c.1]; exact hr) (fun i v σ H1 hv c => ?_) fun σ H1 c => ?_
  · obtain ⟨eH, u, rfl⟩ := c
    obtain ⟨z, hz, rfl⟩ := map_get hv
    have hzm := hsub z (List.mem_of_getElem? hz)
    have il := idxOfS_lt hzm
    replace eH := eH.symm
    subst eH
    walk_at "go"
    refine ⟨_, rfl, ⟨p, _, rfl, hp⟩, ?_⟩
    walk_at "go"
    refine ⟨p, xs, z, _, rfl, rfl, hp.sq, (idxOfS_at hzm).1, (idxOfS_at hzm).2, ?_⟩
    refine ⟨1, _, rfl, rfl, ⟨by omega, by omega, by decide⟩, ?_⟩
    walk_at "go"
    rw [shl_one, bor_nn]
    have e : maskL xs (ys.take (i + 1)) = maskL xs (ys.take i) ||| 2 ^ idxOfS xs z := by
      unfold maskL
      rw [take_snoc hz, List.foldl_append] <;> rfl
    exact ⟨rfl, some (.str z), by rw [e] <;> rfl⟩
  · obtain ⟨eH, u, rfl⟩ := c
    rw [List.length_map, take_full, eH]
    walk_at "go"
    exact q
theorem rd_side_masks (h : sp_side_masks a vs H Q E) : t_side_masks a { nx := fun _ H' => Q .non H', rt := Q } (start n_side_masks vs) H := by
  obtain ⟨p, r, xs, pro, con, rfl, hp, hr, l7, hsub, q⟩ := h
  obtain ⟨dx, tp, tc, tn, h1, h2, h3, h4, h5⟩ := hr
  unfold t_side_masks
  walk_at "go"
  refine ⟨_, _, _, _, _, rfl, h1, T.cR, T.nRpro, rfl, ?_⟩
  walk_at "go"
  refine ⟨p, tp, xs, pro, rfl, hp, .inl (.inl h2), l7, fun y hy => hsub y (List.mem_append_left _ hy), ?_⟩
  walk_at "go"
  refine ⟨_, _, _, _, _, rfl, h1, T.cR, T.nRcon, rfl, ?_⟩
  walk_at "go"
  refine ⟨p, tc, xs, con, rfl, hp, .inl (.inl h3), l7, fun y hy => hsub y (List.mem_append_right _ hy), ?_⟩
  walk_at "go"
  exact ⟨by rw [line_big]; simp, fun t ht => q t ht⟩
theorem rd_row_masks (h : sp_row_masks a vs H Q E) : t_row_masks a { nx := fun _ H' => Q .non H', rt := Q } (start n_row_masks vs) H := by
  obtain ⟨b, xs, recs, rfl, hb, q⟩ := h
  have hb0 := hb
  obtain ⟨dx, t, d, rs, h1, h2, h3, h4, h5⟩ := hb0
  have lb := line_big
  have hle := h5.le
  unfold t_row_masks
  walk_at "go"
  refine ⟨_, _, _, rfl, h1, rfl, ?_⟩
  walk_at "go"
  refine ⟨b, xs, recs, rfl, hb, fun l H1 e1 nl hl => ?_⟩
  obtain ⟨rt, hl1, hl2⟩ := hl
  have hll := hl2.len
  rw [List.length_map] at hll
  refine ⟨l, rfl, ?_⟩
  refine gL (.inl (.inl hl1)) (fun i D H2 => OL PrAt H1 H2 D ((recs.take i).map (rowPr xs))) (fun D hD => OL.nil hD) (fun i D H2 c => .inl (.inl (c.1 _ _ hl1))) (fun i v D H2 hD hv c => ?_) fun D H2 hD c => ?_
  · obtain ⟨r, hr, rfl⟩ := map_get hv
    obtain ⟨c2, hc2, hra⟩ := hl2.get hr
    obtain ⟨c3, hc3, rfl⟩ := map_get hc2
    have e2 := c.1
    have e02 := e1.trans e2
    walk_at "go"
    refine ⟨_, _, _, _, _, rfl, e02 _ _ h1, T.cB, T.nBreasons, rfl, ?_⟩
    walk_at "go"
    refine ⟨t, r, xs, c3.2.1, c3.2.2, rfl, h2.t (Same.t e02), RowAt.t hra (Same.t e2), h5.hi, fun y hy => h5.sub c3 (List.mem_of_getElem? hc3) y hy, fun u hu => ?_⟩
    rw [map_take_snoc _ hc3]
    have := len_take_le recs i
    exact OL.add (P := PrAt) (xs := (recs.take i).map (rowPr xs)) (x := rowPr xs c3) (fun h e => PrAt.t h e) c (Same.new (Same.refl _) hu) hD upd_same (by rw [List.length_map]; omega)
  · rw [List.length_map, hll, take_full] at c
    exact q D H2 (e1.trans c.1) c.obj
theorem rd_blocked_mask (h : sp_blocked_mask a vs H Q E) : t_blocked_mask a { nx := fun _ H' => Q .non H', rt := Q } (start n_blocked_mask vs) H := by
  obtain ⟨l, ps, t, rfl, ⟨ts, hl, hA⟩, q⟩ := h
  have hll := hA.len
  unfold t_blocked_mask
  walk_at "go"
  refine ⟨l, rfl, ?_⟩
  refine fL (.inl (.inl hl)) (fun i σ H1 => H1 = H ∧ ∃ u v, σ = [some (.ref l), some (.int (t : Nat)), some (.int (blockedL (ps.take i) t : Nat)), u, v]) ⟨rfl, _, _, rfl⟩ (fun i σ H1 c => by rw [c.1]; exact .inl (.inl hl)) (fun i v σ H1 hv c => ?_) fun σ H1 c => ?_
  · obtain ⟨eH, u, w, rfl⟩ := c
    obtain ⟨x, hx, rfl⟩ := map_get hv
    obtain ⟨p, hp, hpa⟩ := hA.get hx
    replace eH := eH.symm
    subst eH
    walk_at "go"
    refine ⟨x, _, rfl, .inl (.inl hpa), rfl, ?_⟩
    walk_at "go"
    rw [band_nn]
    have e : blockedL (ps.take (i + 1)) t = if p.1 &&& t = 0 then blockedL (ps.take i) t ||| p.2 else blockedL (ps.take i) t := by
      unfold blockedL
      rw [take_snoc hp, List.foldl_append] <;> rfl
    by_cases h0 : p.1 &&& t = 0
    · refine k_iteY (decide_eq_true (by rw [h0] <;> rfl)) ?_
      walk_at "go"
      rw [if_pos h0] at e
      rw [bor_nn]
      exact ⟨rfl, some (.int (p.1 : Nat)), some (.int (p.2 : Nat)), by rw [e] <;> rfl⟩
    · refine k_iteZ (decide_eq_false (fun z => h0 (by have := V.int.inj z; omega))) ?_
      walk_at "go"
      rw [if_neg h0] at e
      exact ⟨rfl, _, _, by rw [e] <;> rfl⟩
  · obtain ⟨eH, u, w, rfl⟩ := c
    rw [List.length_map, hll, take_full, eH]
    walk_at "go"
    exact q
theorem rd_coming_mask (h : sp_coming_mask a vs H Q E) : t_coming_mask a { nx := fun _ H' => Q .non H', rt := Q } (start n_coming_mask vs) H := by
  obtain ⟨l, ps, t, m, rfl, hl, q⟩ := h
  unfold t_coming_mask
  walk_at "go"
  refine ⟨l, ps, t, rfl, hl, ?_⟩
  walk_at "go"
  rw [band_not, band_not]
  exact q
theorem rd_greatest_within (h : sp_greatest_within a vs H Q E) : t_greatest_within a { nx := fun _ H' => Q .non H', rt := Q } (start n_greatest_within vs) H := by
  obtain ⟨l, ps, n, rfl, n7, hl, q⟩ := h
  unfold t_greatest_within
  walk_at "go"
  refine ⟨l, ps, 0, 2 ^ n - 1, rfl, hl, ?_⟩
  walk_at "go"
  have lm : ∀ t, minusN (2 ^ n - 1) t < 2 ^ n := fun t => by
    have := Nat.one_le_two_pow (n := n)
    unfold minusN
    omega
  refine ⟨fun m σ H1 => H1 = H ∧ ∃ t : Nat, m = minusN (2 ^ n - 1) t ∧ growL ps (2 ^ n - 1) (2 ^ n) t = growL ps (2 ^ n - 1) (2 ^ n) 0 ∧ σ = [some (.ref l), some (.int ((2 ^ n - 1 : Nat) : Nat)), some (.int (t : Nat)), some (.int (comingL ps t (2 ^ n - 1) : Nat))], ⟨_, rfl, 0, rfl, rfl, rfl⟩, ?_⟩
  rintro m σ H1 ⟨eH, t, rfl, hg, rfl⟩
  replace eH := eH.symm
  subst eH
  walk_at "go"
  by_cases c : comingL ps t (2 ^ n - 1) = 0
  · refine k_iteZ (by rw [decide_eq_true (by rw [c] <;> rfl)] <;> rfl) ?_
    walk_at "go"
    rw [grow_end (lm t) c] at hg
    rw [← hg] at q
    exact q
  · refine k_iteY (by rw [decide_eq_false (fun z => c (by have := V.int.inj z; omega))] <;> rfl) ?_
    refine ⟨_, fun σ' H' w => w, ?_⟩
    walk_at "go"
    rw [bor_nn]
    refine ⟨l, ps, t ||| comingL ps t (2 ^ n - 1), 2 ^ n - 1, rfl, hl, ?_⟩
    walk_at "go"
    exact ⟨_, grow_less c, rfl, _, rfl, by rw [← hg]; exact (grow_step (lm t) c).symm, rfl⟩
theorem rd_layered_mask (h : sp_layered_mask a vs H Q E) : t_layered_mask a { nx := fun _ H' => Q .non H', rt := Q } (start n_layered_mask vs) H := by
  obtain ⟨b, xs, recs, rfl, hb, q⟩ := h
  have hb0 := hb
  obtain ⟨dx, t, d, rs, h1, h2, h3, h4, h5⟩ := hb0
  unfold t_layered_mask
  walk_at "go"
  refine ⟨b, xs, recs, rfl, hb, fun l H1 e1 hl => ?_⟩
  walk_at "go"
  refine ⟨_, _, _, _, _, rfl, e1 _ _ h1, T.cB, T.nBreasons, rfl, ?_⟩
  walk_at "go"
  refine ⟨t, _, rfl, (h2.t (Same.t e1)).sq, by rw [List.length_map]; exact h5.hi, ?_⟩
  rw [List.length_map]
  walk_at "go"
  exact ⟨l, _, xs.length, rfl, h5.hi, hl, q H1 e1⟩
theorem rd_stands (h : sp_stands a vs H Q E) : t_stands a { nx := fun _ H' => Q .non H', rt := Q } (start n_stands vs) H := by
  obtain ⟨b, xs, recs, rfl, hb, q⟩ := h
  have hb0 := hb
  obtain ⟨dx, t, d, rs, h1, h2, h3, h4, h5⟩ := hb0
  unfold t_stands
  walk_at "go"
  refine ⟨b, xs, recs, rfl, hb, fun H1 e1 => ?_⟩
  walk_at "go"
  refine ⟨_, _, _, _, _, rfl, e1 _ _ h1, T.cB, T.nBreasons, rfl, ?_⟩
  walk_at "go"
  refine ⟨t, _, rfl, (h2.t (Same.t e1)).sq, by rw [List.length_map]; exact h5.hi, ?_⟩
  rw [List.length_map]
  walk_at "go"
  have q1 := q H1 e1
  unfold standsL at q1
  have e : ∀ u v : Nat, decide (V.int (u : Nat) = V.int (v : Nat)) = decide (u = v) := fun u v => decide_eq_decide.mpr ⟨fun z => by have := V.int.inj z; omega, fun z => by rw [z]⟩
  rw [e]
  exact q1
theorem rd_unborne (h : sp_unborne a vs H Q E) : t_unborne a { nx := fun _ H' => Q .non H', rt := Q } (start n_unborne vs) H := by
  obtain ⟨b, o, xs, ys, recs, rfl, hb, ho, hxy, q⟩ := h
  have hb0 := hb
  obtain ⟨dx, t, d, rs, h1, h2, h3, h4, h5⟩ := hb0
  have ho0 := ho
  obtain ⟨dy, l, d', t', kvs, o1, o2, o3, o4, o5, o6, o7⟩ := ho0
  have lb := line_big
  have hle := h5.le
  unfold t_unborne
  walk_at "go"
  refine ⟨_, _, _, _, _, rfl, o1, T.cO, T.nOreasons, rfl, ?_⟩
  walk_at "go"
  refine ⟨_, _, _, _, _, rfl, h1, T.cB, T.nBreasons, rfl, ?_⟩
  refine ne_tt (xs := isort ys) (ys := xs) (.inl (.inl o5)) h2.sq (fun z hz => (o6.nm z (isort_mem.mp hz)).ok) (fun z hz => (h5.nx.nm z hz).ok) ?_
  rw [decide_eq_true hxy]
  walk_at "go"
  refine ⟨_, _, _, rfl, h1, rfl, ?_⟩
  walk_at "go"
  refine ⟨b, xs, recs, rfl, hb, fun L H1 e1 nl hl => ?_⟩
  obtain ⟨ts, hl1, hl2⟩ := hl
  have hll := hl2.len
  obtain ⟨rs2, a1, a2, a3⟩ := recs_rows hl2
  refine ⟨L, rfl, ?_⟩
  refine lL (.inl (.inl hl1)) (fun i => (unborneL (recs.take i) ys).map V.str) rfl (fun i v D H2 hD hv e2 hd => ?_) fun D H2 hD e2 hd => ?_
  · obtain ⟨t', ht', rfl⟩ := map_get hv
    obtain ⟨r, c, b1, b2, b3, b4⟩ := a3 i t' ht'
    have cm := List.mem_of_getElem? b2
    walk_at "go"
    refine ⟨t', _, rfl, .inl (.inl (e2 _ _ b3)), rfl, ?_⟩
    walk_at "go"
    have e02 := e1.trans e2
    refine ⟨_, _, _, rfl, e02 _ _ o1, rfl, ?_⟩
    walk_at "go"
    refine ⟨o, r, ys, c.2.1, c.2.2, rfl, ho.n (Same.k e02).n, b4.t (Same.t e2), fun z hz => by have := h5.sub c cm z hz; rw [← hxy] at this; exact isort_mem.mp this, fun H3 e3 => ?_⟩
    have eu : unborneL (recs.take (i + 1)) ys = unborneL (recs.take i) ys ++ (if (!bearsL ys c.2.1 c.2.2) = true then [c.1] else []) := filt_snoc (fun c : Rec => c.1) (fun c => !bearsL ys c.2.1 c.2.2) b2
    have ul : (unborneL (recs.take i) ys).length ≤ recs.length := by
      unfold unborneL
      rw [List.length_map]
      exact filt_le _ _ _
    cases hbr : bearsL ys c.2.1 c.2.2 with
    | true =>
      rw [hbr, if_neg (by decide), List.append_nil] at eu
      walk_at "go"
      refine ⟨e2.trans e3, ?_⟩
      rw [eu]
      exact e3 _ _ hd
    | false =>
      rw [hbr, if_pos (by decide)] at eu
      walk_at "go"
      exact lc_add (e2.trans e3) hD (e3 _ _ hd) (by rw [List.length_map]; omega) (by rw [eu, List.map_append] <;> rfl)
  · rw [List.length_map, hll, take_full] at hd
    walk_at "go"
    refine ⟨D, _, rfl, .inl ⟨.inl (.inl hd), fun u hu => ?_⟩⟩
    exact q u _ (Same.new (e1.trans e2) hu) upd_same
theorem rd_fits (h : sp_fits a vs H Q E) : t_fits a { nx := fun _ H' => Q .non H', rt := Q } (start n_fits vs) H := by
  obtain ⟨b, o, xs, ys, recs, rfl, hb, ho, hxy, q⟩ := h
  unfold t_fits
  walk_at "go"
  refine ⟨b, o, xs, ys, recs, rfl, hb, ho, hxy, fun t H1 e1 ht => ?_⟩
  walk_at "go"
  refine ⟨t, _, rfl, .inr (.inl (.inl ht)), ?_⟩
  walk_at "go"
  have q1 := q H1 e1
  have e : decide (V.int (((unborneL recs ys).map V.str).length : Nat) = V.int 0) = decide (unborneL recs ys = []) := decide_eq_decide.mpr ⟨fun z => by
    have := V.int.inj z
    rw [List.length_map] at this
    exact List.length_eq_zero_iff.mp (by omega), fun z => by rw [z] <;> rfl⟩
  rw [e]
  exact q1
end
end Fd
set_option Elab.async false
set_option linter.all false
set_option maxRecDepth 100000
set_option maxHeartbeats 4000000
/-! ### FdL4a: the bag, draws -/
namespace Fd
open PySem PySem.Spec PyProof.Rows L2 SX
theorem bag_hard {b h : Addr} {H : Hp} {i x y z : Int} (hb : H b = some (.lst [.ref h, .int i, .int x, .int y, .int z])) {H1 : Hp} {i' x' y' z' : Int} (e : Keep H H1) (hb1 : H1 b = some (.lst [.ref h, .int i', .int x', .int y', .int z'])) (o : HO) : Keep H (upd H1 b o) := fun a u hu n => by
  have ne : a ≠ b := fun k => by
    rw [k, hb] at hu
    exact n h i x y z (Option.some.inj hu).symm
  rw [upd_ne ne]
  exact e a u hu n
theorem bag_ne {b h : Addr} {H : Hp} {ns : List Int} {i x y z : Int} (hb : H b = some (.lst [.ref h, .int i, .int x, .int y, .int z])) (hh : H h = some (.lst (ns.map V.int))) : h ≠ b := fun k => by
  rw [k, hb] at hh
  have := HO.lst.inj (Option.some.inj hh)
  cases ns <;> cases this
theorem Bag.keep {b h : Addr} {ns : List Int} {H H' : Hp} (B : Bag b h ns H) (e : Same H H') : Bag b h ns H' := B.same e
section
local macro_rules | `(tactic| walk_at "sm") => `(tactic| first | exact Same.refl _ | assumption | (refine Same.new ?_ ‹_›; walk_at "sm") | (refine Same.trans ?_ ‹Same _ _›; walk_at "sm"))
local macro_rules | `(tactic| walk_at "s1") => `(tactic| first
  | with_reducible refine g_seq ?_ | with_reducible refine g_asg ?_ | with_reducible refine g_name ?_ | with_reducible refine g_cons ?_ | with_reducible refine g_nil ?_
  | ((with_reducible refine k_var ?_); refine ⟨_, rfl, ?_⟩) | with_reducible refine g_c ?_ | with_reducible refine g_op ?_ | with_reducible refine g_un ?_
  | with_reducible refine g_cb ?_ | with_reducible refine g_call ?_ | with_reducible refine g_ifS ?_ | with_reducible refine g_if ?_ | with_reducible refine g_tB ?_ | with_reducible refine g_test ?_
  | with_reducible refine k_bl ?_ | with_reducible refine k_iteT ?_ | with_reducible refine k_iteF ?_ | with_reducible refine k_iteNT ?_ | with_reducible refine k_iteNF ?_
  | with_reducible refine g_and ?_ | with_reducible refine g_or ?_ | with_reducible refine g_not ?_ | with_reducible refine g_andV ?_ | with_reducible refine g_orV ?_ | with_reducible refine g_notV ?_ | with_reducible refine g_yes ?_)
local macro_rules | `(tactic| walk_at "s2") => `(tactic| first
  | with_reducible refine g_ret ?_ | with_reducible refine g_drop ?_ | with_reducible refine g_next ?_ | with_reducible refine k_retN ?_
  | ((with_reducible refine k_I0 ?_); refine ⟨_, _, rfl, rfl, ?_⟩) | ((with_reducible refine k_U ?_); refine ⟨_, rfl, ?_⟩) | ((with_reducible refine k_eq ?_); refine ⟨rfl, ?_⟩) | ((with_reducible refine k_ne ?_); refine ⟨rfl, ?_⟩)
  | ((with_reducible refine k_isN ?_); refine ⟨rfl, ?_⟩) | ((with_reducible refine k_notN ?_); refine ⟨rfl, ?_⟩) | with_reducible refine k_chain ?_ | with_reducible refine k_fld ?_ | with_reducible refine k_sfld ?_
  | with_reducible refine k_tup ?_ | with_reducible refine k_lst ?_ | with_reducible refine k_meth ?_ | with_reducible refine k_bm ?_ | with_reducible refine k_bm0 ?_ | with_reducible refine k_m1 ?_ | with_reducible refine k_fmt ?_ | with_reducible refine k_joined ?_
  | with_reducible refine k_js0 ?_ | with_reducible refine k_js1 ?_ | with_reducible refine k_mkR ?_ | with_reducible refine k_sl ?_ | with_reducible refine k_part ?_ | with_reducible refine k_nopart ?_ | with_reducible refine k_gtup ?_
  | ((with_reducible refine k_aug ?_); refine ⟨_, rfl, ?_⟩) | ((with_reducible refine k_ipI ?_); refine ⟨_, _, rfl, rfl, ?_⟩) | with_reducible refine k_par ?_ | with_reducible refine k_din ?_ | with_reducible refine k_dnin ?_ | with_reducible refine k_dput ?_
  | with_reducible refine g_gcons ?_ | with_reducible refine g_gnil ?_ | with_reducible refine k_cval ?_ | with_reducible refine k_dnew ?_ | with_reducible refine k_isS ?_ | with_reducible refine k_int ?_ | with_reducible refine k_lcL ?_ | with_reducible refine k_lcT ?_ | with_reducible refine k_lcQ ?_ | with_reducible refine k_lcS ?_ | with_reducible refine k_lcR ?_ | with_reducible refine k_forL ?_ | with_reducible refine k_forT ?_ | with_reducible refine k_forQ ?_ | with_reducible refine k_forS ?_ | with_reducible refine k_forR ?_ | with_reducible refine k_forE ?_ | with_reducible refine k_forET ?_ | with_reducible refine k_forI ?_ | with_reducible refine k_star ?_ | with_reducible refine k_dcL ?_ | with_reducible refine k_listItems ?_ | with_reducible refine k_dget ?_ | ((with_reducible refine k_wipe ?_ ?_); exact rfl))
local macro_rules | `(tactic| walk_at "go") => `(tactic| repeat (first | walk_at "s1" | walk_at "s2"))
variable {a : Ax} {mg : Str → Option Value} (T : Top a mg) {vs : List V} {H : Hp} {Q : VK} {E : XK}
include T
theorem rd_law_bag (h : sp_law_bag a vs H Q E) : t_law_bag a { nx := fun _ H' => Q .non H', rt := Q } (start n_law_bag vs) H := by
  obtain ⟨s, ns, rfl, hs, q⟩ := h
  have lb := line_big
  unfold t_law_bag
  walk_at "go"
  refine ⟨s, _, rfl, hs, fun p hp => ?_⟩
  have ec : ∃ ms : List Int, cutV (ns.map V.int) none (some 63) = ms.map V.int ∧ ms.length ≤ 63 := by
    unfold cutV
    rw [← List.map_drop, ← List.map_take]
    refine ⟨_, rfl, ?_⟩
    rw [List.length_take]
    have : HT.sIx (ns.map V.int).length (ns.map V.int).length (some 63) ≤ 63 := by
      unfold HT.sIx
      simp
      omega
    omega
  obtain ⟨ms, em, lm⟩ := ec
  rw [em]
  have e1 : Same H (upd H p (.lst (ms.map V.int))) := Same.new (Same.refl _) hp
  have p1 : upd H p (.lst (ms.map V.int)) p = some (.lst (ms.map V.int)) := upd_same
  generalize upd H p (.lst (ms.map V.int)) = H1 at *
  refine ⟨p, rfl, ?_⟩
  refine lL (.inl (.inl p1)) (fun i => (ms.take i).map V.int) rfl (fun i v D H2 hD hv e2 hd => ?_) fun D H2 hD e2 hd => ?_
  · obtain ⟨z, hz, rfl⟩ := map_get hv
    walk_at "go"
    refine .inl ⟨z, rfl, ?_⟩
    have := len_take_le ms i
    exact lc_add e2 hD hd (by rw [List.length_map]; omega) (map_take_snoc _ hz)
  rw [List.length_map, take_full] at hd
  walk_at "go"
  refine ⟨D, rfl, ?_⟩
  refine fL (.inl (.inl hd)) (fun i σ H3 => H3 = H2 ∧ ∃ (st : Int) (u : Option V), σ = [some (.ref s), some (.ref D), some (.int st), u]) ⟨rfl, _, _, rfl⟩ (fun i σ H3 c => by rw [c.1]; exact .inl (.inl hd)) (fun i v σ H3 hv c => ?_) fun σ H3 c => ?_
  · obtain ⟨rfl, st, u, rfl⟩ := c
    obtain ⟨z, hz, rfl⟩ := map_get hv
    walk_at "go"
    refine ⟨_, _, rfl, rfl, .inr (by decide), ?_⟩
    walk_at "go"
    refine .inl ⟨z, rfl, ?_⟩
    refine ⟨_, _, rfl, rfl, (by show (0 : Int) < _; decide), ?_⟩
    walk_at "go"
    refine .inl ⟨_, rfl, ?_⟩
    walk_at "go"
    refine ⟨_, _, rfl, rfl, (by show (0 : Int) < _; decide), ?_⟩
    walk_at "go"
    exact ⟨rfl, _, _, rfl⟩
  · obtain ⟨rfl, st, u, rfl⟩ := c
    walk_at "go"
    refine ⟨by rw [lb]; simp, fun b hb => ?_⟩
    have e4 : Same H3 (upd H3 b (.lst [.ref D, .int 0, .int 0, .int st, .int 0])) := Same.new (Same.refl _) hb
    exact q b D ms _ ((e1.trans e2).trans e4) ⟨⟨0, 0, st, 0, by omega, upd_same⟩, e4 _ _ hd⟩
theorem rd_law_take (h : sp_law_take a vs H Q E) : t_law_take a { nx := fun _ H' => Q .non H', rt := Q } (start n_law_take vs) H := by
  obtain ⟨b, h, ns, m, rfl, B, m1, m2, q⟩ := h
  obtain ⟨⟨i, x, y, z, hi, hb⟩, hh⟩ := B
  have nhb := bag_ne hb hh
  unfold t_law_take
  refine ⟨fun σ' H' => Keep H H' ∧ H' h = some (.lst (ns.map V.int)) ∧ ∃ (i x y z : Int) (u v w : Option V), 0 ≤ i ∧ H' b = some (.lst [.ref h, .int i, .int x, .int y, .int z]) ∧ σ' = [some (.ref b), some (.int m), u, v, w], ?_, ?_⟩
  · walk_at "go"
    refine ⟨b, _, _, _, rfl, rfl, .inl (.inl hb), rfl, ?_⟩
    walk_at "go"
    by_cases hx : x = 0
    · subst hx
      rw [decide_eq_true rfl]
      walk_at "go"
      refine ⟨b, _, _, _, rfl, rfl, .inl (.inl hb), rfl, ?_⟩
      walk_at "go"
      refine ⟨b, _, _, _, rfl, rfl, .inl (.inl hb), rfl, ?_⟩
      walk_at "go"
      refine ⟨.ref h, ns.length, rfl, .inl ⟨_, .inl (.inl hh), by rw [List.length_map]⟩, ?_⟩
      walk_at "go"
      by_cases hlt : i < (ns.length : Int)
      · refine k_iteY (decide_eq_true hlt) ?_
        walk_at "go"
        refine ⟨b, _, _, _, rfl, rfl, .inl (.inl hb), rfl, ?_⟩
        walk_at "go"
        refine ⟨b, _, _, _, rfl, rfl, .inl (.inl hb), rfl, ?_⟩
        have hg : ∃ c, ns[i.toNat]? = some c := ⟨_, List.getElem?_eq_getElem (by omega)⟩
        obtain ⟨c, hc⟩ := hg
        refine .inl ⟨h, _, _, .int c, rfl, rfl, .inl (.inl hh), ?_, ?_⟩
        · rw [show i = ((i.toNat : Nat) : Int) by omega, Fd.atI_nat, List.getElem?_map, hc] <;> rfl
        walk_at "go"
        refine ⟨b, _, _, _, rfl, rfl, .inl (.inl hb), rfl, ?_⟩
        walk_at "go"
        refine ⟨_, rfl, b, _, 1, 1, rfl, rfl, hb, rfl, ?_⟩
        have k1 : Keep H (upd H b (.lst (List.set [V.ref h, V.int i, V.int 0, V.int y, V.int z] 1 (V.int (i + 1))))) := bag_hard hb (Keep.refl _) hb _
        have h1 : upd H b (.lst (List.set [V.ref h, V.int i, V.int 0, V.int y, V.int z] 1 (V.int (i + 1)))) h = some (.lst (ns.map V.int)) := by rw [upd_ne nhb]; exact hh
        have b1 : upd H b (.lst (List.set [V.ref h, V.int i, V.int 0, V.int y, V.int z] 1 (V.int (i + 1)))) b = some (.lst [.ref h, .int (i + 1), .int 0, .int y, .int z]) := upd_same
        generalize upd H b (.lst (List.set [V.ref h, V.int i, V.int 0, V.int y, V.int z] 1 (V.int (i + 1)))) = H1 at *
        walk_at "go"
        refine ⟨10, 18, rfl, rfl, ⟨by decide, by decide, by decide⟩, ?_⟩
        walk_at "go"
        by_cases hbig : (10 : Int) ^ (18 : Int).toNat ≤ c
        · refine k_iteY (decide_eq_true hbig) ?_
          walk_at "go"
          refine ⟨_, rfl, b, _, 2, 2, rfl, rfl, b1, rfl, ?_⟩
          refine ⟨bag_hard hb k1 b1 _, by rw [upd_ne nhb]; exact h1, i + 1, c, y, z, _, _, _, by omega, upd_same, rfl⟩
        · refine k_iteZ (decide_eq_false hbig) ?_
          walk_at "go"
          refine ⟨b, _, _, _, rfl, rfl, .inl (.inl b1), rfl, ?_⟩
          refine ⟨_, _, rfl, rfl, .inr (by decide), ?_⟩
          walk_at "go"
          refine .inl ⟨c, rfl, ?_⟩
          refine ⟨_, _, rfl, rfl, (by show (0 : Int) < _; decide), ?_⟩
          walk_at "go"
          refine .inl ⟨_, rfl, ?_⟩
          walk_at "go"
          refine ⟨_, _, rfl, rfl, (by show (0 : Int) < _; decide), ?_⟩
          refine ⟨_, rfl, b, _, 3, 3, rfl, rfl, b1, rfl, ?_⟩
          refine ⟨bag_hard hb k1 b1 _, by rw [upd_ne nhb]; exact h1, i + 1, 0, _, z, _, _, _, by omega, upd_same, rfl⟩
      · refine k_iteZ (decide_eq_false hlt) ?_
        walk_at "go"
        exact ⟨Keep.refl _, hh, i, 0, y, z, _, _, _, hi, hb, rfl⟩
    · rw [decide_eq_false (fun e => hx (V.int.inj e))]
      walk_at "go"
      exact ⟨Keep.refl _, hh, i, x, y, z, _, _, _, hi, hb, rfl⟩
  · rintro σ' H1 ⟨k1, h1, i, x, y, z, u, v, w, hi, b1, rfl⟩
    walk_at "go"
    refine ⟨b, _, _, _, rfl, rfl, .inl (.inl b1), rfl, ?_⟩
    walk_at "go"
    by_cases hx : 0 < x
    · refine k_iteY (decide_eq_true hx) ?_
      walk_at "go"
      refine ⟨b, _, _, _, rfl, rfl, .inl (.inl b1), rfl, ?_⟩
      walk_at "go"
      refine .inl ⟨x, rfl, ?_⟩
      refine ⟨_, rfl, _, _, rfl, rfl, by omega, ?_⟩
      walk_at "go"
      refine ⟨b, _, _, _, rfl, rfl, .inl (.inl b1), rfl, ?_⟩
      walk_at "go"
      refine .inl ⟨x, rfl, ?_⟩
      refine ⟨_, rfl, _, _, rfl, rfl, ⟨by omega, by omega⟩, ?_⟩
      refine ⟨_, rfl, b, _, 2, 2, rfl, rfl, b1, rfl, ?_⟩
      walk_at "go"
      exact q _ _ (Int.emod_nonneg _ (by omega)) (Int.emod_lt_of_pos _ (by omega)) ⟨⟨i, _, y, z, hi, upd_same⟩, by rw [upd_ne nhb]; exact h1⟩ (bag_hard hb k1 b1 _)
    · refine k_iteZ (decide_eq_false hx) ?_
      walk_at "go"
      refine ⟨b, _, _, _, rfl, rfl, .inl (.inl b1), rfl, ?_⟩
      walk_at "go"
      refine ⟨_, rfl, b, _, 4, 4, rfl, rfl, b1, rfl, ?_⟩
      have k2 : Keep H (upd H1 b (.lst (List.set [V.ref h, V.int i, V.int x, V.int y, V.int z] 4 (V.int (z + 1))))) := bag_hard hb k1 b1 _
      have h2 : upd H1 b (.lst (List.set [V.ref h, V.int i, V.int x, V.int y, V.int z] 4 (V.int (z + 1)))) h = some (.lst (ns.map V.int)) := by rw [upd_ne nhb]; exact h1
      have b2 : upd H1 b (.lst (List.set [V.ref h, V.int i, V.int x, V.int y, V.int z] 4 (V.int (z + 1)))) b = some (.lst [.ref h, .int i, .int x, .int y, .int (z + 1)]) := upd_same
      generalize upd H1 b (.lst (List.set [V.ref h, V.int i, V.int x, V.int y, V.int z] 4 (V.int (z + 1)))) = H2 at *
      walk_at "go"
      refine ⟨b, _, _, _, rfl, rfl, .inl (.inl b2), rfl, ?_⟩
      walk_at "go"
      refine ⟨b, _, _, _, rfl, rfl, .inl (.inl b2), rfl, ?_⟩
      refine ⟨_, _, rfl, rfl, .inr (by decide), ?_⟩
      walk_at "go"
      refine .inl ⟨_, rfl, ?_⟩
      refine ⟨_, _, rfl, rfl, (by show (0 : Int) < _; decide), ?_⟩
      walk_at "go"
      have p1 : ∀ n : Int, 0 ≤ n % 2147483563 ∧ n % 2147483563 < 2147483563 := fun n => ⟨Int.emod_nonneg _ (by decide), Int.emod_lt_of_pos _ (by decide)⟩
      have p2 := p1 (y + (z + 1) * 6947)
      generalize (y + (z + 1) * 6947) % 2147483563 = bl at *
      refine ⟨_, _, rfl, rfl, ⟨by decide, by decide, by omega⟩, ?_⟩
      walk_at "go"
      refine ⟨_, _, rfl, rfl, .inl (by decide), ?_⟩
      walk_at "go"
      refine .inl ⟨_, rfl, ?_⟩
      walk_at "go"
      refine ⟨_, _, rfl, rfl, (by show (0 : Int) < _; decide), ?_⟩
      refine ⟨_, rfl, b, _, 3, 3, rfl, rfl, b2, rfl, ?_⟩
      walk_at "go"
      refine ⟨b, _, _, _, rfl, rfl, .inl (.inl upd_same), rfl, ?_⟩
      refine ⟨_, _, rfl, rfl, ⟨by decide, by decide⟩, ?_⟩
      walk_at "go"
      refine ⟨b, _, _, _, rfl, rfl, .inl (.inl upd_same), rfl, ?_⟩
      walk_at "go"
      refine .inl ⟨_, rfl, ?_⟩
      refine ⟨_, _, rfl, rfl, (by show (0 : Int) < _; decide), ?_⟩
      refine ⟨_, _, rfl, rfl, .inr (by decide), ?_⟩
      walk_at "go"
      refine .inl ⟨_, rfl, ?_⟩
      refine ⟨_, rfl, _, _, rfl, rfl, by omega, ?_⟩
      exact q _ _ (Int.emod_nonneg _ (by omega)) (Int.emod_lt_of_pos _ (by omega)) ⟨⟨i, x, _, _, hi, upd_same⟩, by rw [upd_ne nhb]; exact h2⟩ (bag_hard hb k2 b2 _)
end
end Fd
set_option Elab.async false
set_option linter.all false
set_option maxRecDepth 100000
set_option maxHeartbeats 4000000
/-! ### FdL4b: pick, mixed, letters, signs -/
namespace Fd
open PySem PySem.Spec PyProof.Rows L2 SX
theorem stride_nd : ∀ s ∈ [1, 3, 5, 7, 9, 11, 15, 17, 19, 21, 23, 25], ∀ f, f < 26 → ((List.range 26).map fun k => 97 + (f + s * k) % 26).Nodup := by decide +kernel
theorem perm_ins {α : Type} (xs : List α) (k : Nat) (y : α) : (xs.take k ++ [y] ++ xs.drop k).Perm (xs ++ [y]) := by
  have h : (xs.take k ++ [y] ++ xs.drop k).Perm (xs.take k ++ xs.drop k ++ [y]) := by
    rw [List.append_assoc, List.append_assoc]
    exact List.Perm.append_left _ List.perm_append_comm
  rw [List.take_append_drop] at h
  exact h
theorem Keep.new {H H1 : Hp} {p : Addr} {o : HO} (e : Keep H H1) (h : H p = none) : Keep H (upd H1 p o) := Keep.upd' h e
theorem kq {K : KF} {H H' : Hp} {p : Addr} {xs : List V} (e : Keep H H') (n : Hard (.lst xs)) (h : H p = some (.lst xs) ∨ H p = some (.tup xs)) : H' p = some (.lst xs) ∨ H' p = some (.tup xs) := by
  rcases h with h | h
  · exact .inl (e _ _ h n)
  · exact .inr (e _ _ h (hard_tup _))
theorem sq_of {K : KF} {H : Hp} {p : Addr} {xs : List V} (h : H p = some (.lst xs) ∨ H p = some (.tup xs)) : Sq K H p xs := by
  rcases h with h | h
  · exact .inl (.inl (.inl h))
  · exact .inr (.inl (.inl h))
theorem catS_ones (cs : List Nat) : catS (cs.map fun c => S [c]) = S cs := cp_inj (by
  rw [cp_catS, List.map_map]
  show (cs.map fun c => [c]).flatten = cs
  induction cs with
  | nil => rfl
  | cons c r ih => rw [List.map_cons, List.flatten_cons, ih] <;> rfl)
section
local macro_rules | `(tactic| walk_at "sm") => `(tactic| first | exact Same.refl _ | assumption | (refine Same.new ?_ ‹_›; walk_at "sm") | (refine Same.trans ?_ ‹Same _ _›; walk_at "sm"))
local macro_rules | `(tactic| walk_at "s1") => `(tactic| first
  | with_reducible refine g_seq ?_ | with_reducible refine g_asg ?_ | with_reducible refine g_name ?_ | with_reducible refine g_cons ?_ | with_reducible refine g_nil ?_
  | ((with_reducible refine k_var ?_); refine ⟨_, rfl, ?_⟩) | with_reducible refine g_c ?_ | with_reducible refine g_op ?_ | with_reducible refine g_un ?_
  | with_reducible refine g_cb ?_ | with_reducible refine g_call ?_ | with_reducible refine g_ifS ?_ | with_reducible refine g_if ?_ | with_reducible refine g_tB ?_ | with_reducible refine g_test ?_
  | with_reducible refine k_bl ?_ | with_reducible refine k_iteT ?_ | with_reducible refine k_iteF ?_ | with_reducible refine k_iteNT ?_ | with_reducible refine k_iteNF ?_
  | with_reducible refine g_and ?_ | with_reducible refine g_or ?_ | with_reducible refine g_not ?_ | with_reducible refine g_andV ?_ | with_reducible refine g_orV ?_ | with_reducible refine g_notV ?_ | with_reducible refine g_yes ?_)
local macro_rules | `(tactic| walk_at "s2") => `(tactic| first
  | with_reducible refine g_ret ?_ | with_reducible refine g_drop ?_ | with_reducible refine g_next ?_ | with_reducible refine k_retN ?_
  | ((with_reducible refine k_I0 ?_); refine ⟨_, _, rfl, rfl, ?_⟩) | ((with_reducible refine k_U ?_); refine ⟨_, rfl, ?_⟩) | ((with_reducible refine k_eq ?_); refine ⟨rfl, ?_⟩) | ((with_reducible refine k_ne ?_); refine ⟨rfl, ?_⟩)
  | ((with_reducible refine k_isN ?_); refine ⟨rfl, ?_⟩) | ((with_reducible refine k_notN ?_); refine ⟨rfl, ?_⟩) | with_reducible refine k_chain ?_ | with_reducible refine k_fld ?_ | with_reducible refine k_sfld ?_
  | with_reducible refine k_tup ?_ | with_reducible refine k_lst ?_ | with_reducible refine k_meth ?_ | with_reducible refine k_bm ?_ | with_reducible refine k_bm0 ?_ | with_reducible refine k_m1 ?_ | with_reducible refine k_fmt ?_ | with_reducible refine k_joined ?_
  | with_reducible refine k_js0 ?_ | with_reducible refine k_js1 ?_ | with_reducible refine k_mkR ?_ | with_reducible refine k_sl ?_ | with_reducible refine k_part ?_ | with_reducible refine k_nopart ?_ | with_reducible refine k_gtup ?_
  | ((with_reducible refine k_aug ?_); refine ⟨_, rfl, ?_⟩) | ((with_reducible refine k_ipI ?_); refine ⟨_, _, rfl, rfl, ?_⟩) | with_reducible refine k_par ?_ | with_reducible refine k_din ?_ | with_reducible refine k_dnin ?_ | with_reducible refine k_dput ?_
  | with_reducible refine g_gcons ?_ | with_reducible refine g_gnil ?_ | with_reducible refine k_cval ?_ | with_reducible refine k_dnew ?_ | with_reducible refine k_isS ?_ | with_reducible refine k_int ?_ | with_reducible refine k_lcL ?_ | with_reducible refine k_lcT ?_ | with_reducible refine k_lcQ ?_ | with_reducible refine k_lcS ?_ | with_reducible refine k_lcR ?_ | with_reducible refine k_forL ?_ | with_reducible refine k_forT ?_ | with_reducible refine k_forQ ?_ | with_reducible refine k_forS ?_ | with_reducible refine k_forR ?_ | with_reducible refine k_forE ?_ | with_reducible refine k_forET ?_ | with_reducible refine k_forI ?_ | with_reducible refine k_star ?_ | with_reducible refine k_dcL ?_ | with_reducible refine k_listItems ?_ | with_reducible refine k_dget ?_ | ((with_reducible refine k_wipe ?_ ?_); exact rfl))
local macro_rules | `(tactic| walk_at "go") => `(tactic| repeat (first | walk_at "s1" | walk_at "s2"))
variable {a : Ax} {mg : Str → Option Value} (T : Top a mg) {vs : List V} {H : Hp} {Q : VK} {E : XK}
include T
theorem rd_law_pick (h : sp_law_pick a vs H Q E) : t_law_pick a { nx := fun _ H' => Q .non H', rt := Q } (start n_law_pick vs) H := by
  obtain ⟨b, h, ns, x, rfl, B, hx⟩ := h
  have lb := line_big
  unfold t_law_pick
  walk_at "go"
  rcases hx with ⟨z, rfl, l1, l2, q⟩ | ⟨p, xs, rfl, hp, hd, l1, l2, q⟩
  · refine ⟨.str z, z.length, rfl, ⟨by omega, rfl⟩, ?_⟩
    walk_at "go"
    refine ⟨b, h, ns, _, rfl, B, by omega, by omega, fun r H1 r0 r1 B1 k1 => ?_⟩
    have hz : z.length = (cp z).length := len_cp z
    have hg : (cp z)[r.toNat]? = some ((cp z)[r.toNat]'(by omega)) := List.getElem?_eq_getElem _
    generalize (cp z)[r.toNat]'(by omega) = c at hg
    refine .inr (.inr ⟨z, r, c, rfl, rfl, by omega, ?_, ?_⟩)
    · rw [show r = ((r.toNat : Nat) : Int) by omega, Fd.atI_nat]
      exact hg
    · exact q c H1 (List.mem_of_getElem? hg) B1 k1
  · refine ⟨.ref p, xs.length, rfl, .inl ⟨_, .inl (.inl hp), rfl⟩, ?_⟩
    walk_at "go"
    refine ⟨b, h, ns, _, rfl, B, by omega, by omega, fun r H1 r0 r1 B1 k1 => ?_⟩
    have hg : xs[r.toNat]? = some (xs[r.toNat]'(by omega)) := List.getElem?_eq_getElem _
    generalize xs[r.toNat]'(by omega) = v at hg
    refine .inl ⟨p, xs, r, v, rfl, rfl, .inl (.inl (k1 _ _ hp hd)), ?_, q v H1 (List.mem_of_getElem? hg) B1 k1⟩
    rw [show r = ((r.toNat : Nat) : Int) by omega, Fd.atI_nat]
    exact hg
theorem rd_law_mixed (h : sp_law_mixed a vs H Q E) : t_law_mixed a { nx := fun _ H' => Q .non H', rt := Q } (start n_law_mixed vs) H := by
  obtain ⟨b, h, ns, p, xs, rfl, B, hp, hm, l1, q⟩ := h
  have lb := line_big
  unfold t_law_mixed
  walk_at "go"
  refine ⟨Nat.zero_le _, fun l hl => ?_⟩
  walk_at "go"
  have e1 : Same H (upd H l (.lst [])) := Same.new (Same.refl _) hl
  refine ⟨p, rfl, ?_⟩
  have kk : ∀ H', Keep H H' → Sq a.K H' p xs := fun H' k => sq_of (kq (K := a.K) k hm.hard hp)
  refine fQ (kk _ (Keep.of e1)) (fun i σ H1 => Keep H H1 ∧ Bag b h ns H1 ∧ ∃ ys, H1 l = some (.lst ys) ∧ ys.Perm (xs.take i) ∧ ∃ u, σ = [some (.ref b), some (.ref p), some (.ref l), u]) ⟨Keep.of e1, B.same e1, [], upd_same, .nil, _, rfl⟩ (fun i v σ H1 hv c => ?_) (fun σ H1 c => ?_) (fun i σ H' hs c => ?_) (fun i σ H' hs c => ?_)
  · obtain ⟨k, B1, ys, hy, py, u, rfl⟩ := c
    have hyl : ys.length ≤ xs.length := by
      rw [py.length_eq]
      exact len_take_le _ _
    have hom : Hom ys := hm.sub fun v hv => List.mem_of_mem_take (py.subset hv)
    walk_at "go"
    refine ⟨.inl ⟨rfl, _, .inl (.inl hy)⟩, ?_⟩
    walk_at "go"
    refine ⟨l, _, rfl, .inl (.inl (.inl hy)), ?_⟩
    walk_at "go"
    refine ⟨b, h, ns, _, rfl, B1, by omega, by omega, fun r H2 r0 r1 B2 k2 => ?_⟩
    walk_at "go"
    have hy2 := k2 _ _ hy hom.hard
    refine ⟨l, ys, r, v, rfl, rfl, hy2, by omega, r0, by omega, ?_⟩
    refine ⟨Keep.new (k.trans k2) hl, ?_, _, upd_same, ?_, _, rfl⟩
    · exact B2.upd (B.ne hl).1 (B.ne hl).2
    · rw [take_snoc hv]
      exact (perm_ins ys r.toNat v).trans (py.append_right [v])
  · obtain ⟨k, B1, ys, hy, py, u, rfl⟩ := c
    rw [take_full] at py
    walk_at "go"
    exact q l ys H1 k B1 hl hy py
  · have := kk H' c.1
    rcases this with t | t
    · exact t
    · rcases hp with hp | hp
      · exact .inl (.inl (c.1 _ _ hp hm.hard))
      · have := Keep.of e1 _ _ hp (hard_tup _)
        rcases hs with (hs | ⟨o, hs⟩) | ⟨o, its, n, h1, h2, _⟩
        · rw [this] at hs; cases hs
        · rw [this] at hs; cases hs
        · exact .inr ⟨o, its, n, h1, h2, by assumption⟩
  · rcases hp with hp | hp
    · have := Keep.of e1 _ _ hp hm.hard
      rcases hs with (hs | ⟨o, hs⟩) | ⟨o, its, n, h1, h2, h3⟩
      · rw [this] at hs; cases hs
      · rw [this] at hs; cases hs
      · exact .inr ⟨o, its, n, h1, h2, h3⟩
    · exact .inl (.inl (c.1 _ _ hp (hard_tup _)))
theorem rd_law_letters (h : sp_law_letters a vs H Q E) : t_law_letters a { nx := fun _ H' => Q .non H', rt := Q } (start n_law_letters vs) H := by
  obtain ⟨b, h, ns, n, rfl, B, hn, q⟩ := h
  have lb := line_big
  unfold t_law_letters
  walk_at "go"
  refine ⟨_, rfl, by omega, by omega, ?_⟩
  rw [Int.toNat_natCast]
  refine gR (fun i D H1 => Keep H H1 ∧ Bag b h ns H1 ∧ ∃ cs : List Nat, cs.length = i ∧ i ≤ n ∧ (∀ c ∈ cs, 97 ≤ c ∧ c ≤ 122) ∧ H1 D = some (.lst ((cs.map fun c => S [c]).map V.str))) (fun D hD => ⟨Keep.of (Same.new (Same.refl _) hD), B.same (Same.new (Same.refl _) hD), [], rfl, Nat.zero_le _, (fun _ h => by cases h), upd_same⟩) (fun i v D H1 hD hv c => ?_) fun D H1 hD c => ?_
  · obtain ⟨k, B1, cs, hl, hi, hc, hd⟩ := c
    obtain ⟨hi2, rfl⟩ := hv
    walk_at "go"
    refine ⟨b, h, ns, _, rfl, B1, .inl ⟨abc, rfl, by decide +kernel, by decide +kernel, fun c H2 hcm B2 k2 => ?_⟩⟩
    have hd2 := k2 _ _ hd (hard_strs _)
    refine ⟨_, hd2, by rw [List.length_map, List.length_map]; omega, Keep.new (k.trans k2) hD, B2.upd (B.ne hD).1 (B.ne hD).2, cs ++ [c], by rw [List.length_append, hl] <;> rfl, by omega, fun d hdm => ?_, ?_⟩
    · rcases List.mem_append.mp hdm with hdm | hdm
      · exact hc d hdm
      · have : d = c := by simpa using hdm
        rw [this]
        exact mem_abc.mp hcm
    · rw [upd_same, List.map_append, List.map_append] <;> rfl
  · obtain ⟨k, B1, cs, hl, hi, hc, hd⟩ := c
    have sl := sum_le (n := 1) (l := (cs.map fun c => S [c]).map (·.length)) (fun x hx => by
      rw [List.map_map] at hx
      obtain ⟨z, hz, e⟩ := List.mem_map.mp hx
      rw [← e]
      exact Nat.le_refl 1)
    rw [List.length_map, List.length_map] at sl
    have l0 : (Str.ofString "").length = 0 := by decide +kernel
    refine ⟨_, D, _, rfl, rfl, .inl (.inl (.inl hd)), by rw [List.length_map, l0]; omega, ?_⟩
    rw [join_catS, catS_ones]
    exact q (S cs) H1 (by rw [cp_S]; exact hl) (by rw [cp_S]; exact hc) k B1
theorem rd_law_signs (h : sp_law_signs a vs H Q E) : t_law_signs a { nx := fun _ H' => Q .non H', rt := Q } (start n_law_signs vs) H := by
  obtain ⟨b, h, ns, n, rfl, B, hn, q⟩ := h
  have lb := line_big
  unfold t_law_signs
  walk_at "go"
  refine ⟨b, h, ns, _, rfl, B, by decide, by decide, fun f H1 f0 f1 B1 k1 => ?_⟩
  walk_at "go"
  refine ⟨by rw [lb]; simp, fun p hp => ?_⟩
  have e2 : Same H1 (upd H1 p (.lst [.int 1, .int 3, .int 5, .int 7, .int 9, .int 11, .int 15, .int 17, .int 19, .int 21, .int 23, .int 25])) := Same.new (Same.refl _) hp
  have p2 : upd H1 p (.lst [.int 1, .int 3, .int 5, .int 7, .int 9, .int 11, .int 15, .int 17, .int 19, .int 21, .int 23, .int 25]) p = some (.lst [.int 1, .int 3, .int 5, .int 7, .int 9, .int 11, .int 15, .int 17, .int 19, .int 21, .int 23, .int 25]) := upd_same
  generalize upd H1 p (.lst [.int 1, .int 3, .int 5, .int 7, .int 9, .int 11, .int 15, .int 17, .int 19, .int 21, .int 23, .int 25]) = H2 at *
  walk_at "go"
  refine ⟨b, h, ns, _, rfl, B1.same e2, .inr ⟨p, _, rfl, p2, fun _ _ _ _ _ z => (nomatch z), by decide, by simp, fun v H3 hv B3 k3 => ?_⟩⟩
  have hs : ∃ s : Nat, s ∈ [1, 3, 5, 7, 9, 11, 15, 17, 19, 21, 23, 25] ∧ v = .int (s : Nat) := by
    simp only [List.mem_cons, List.not_mem_nil, or_false] at hv
    rcases hv with h | h | h | h | h | h | h | h | h | h | h | h
    · exact ⟨1, by decide, h⟩
    · exact ⟨3, by decide, h⟩
    · exact ⟨5, by decide, h⟩
    · exact ⟨7, by decide, h⟩
    · exact ⟨9, by decide, h⟩
    · exact ⟨11, by decide, h⟩
    · exact ⟨15, by decide, h⟩
    · exact ⟨17, by decide, h⟩
    · exact ⟨19, by decide, h⟩
    · exact ⟨21, by decide, h⟩
    · exact ⟨23, by decide, h⟩
    · exact ⟨25, by decide, h⟩
  obtain ⟨s, hsm, rfl⟩ := hs
  obtain ⟨f', rfl⟩ : ∃ f' : Nat, f = (f' : Nat) := ⟨f.toNat, by omega⟩
  have k03 := (k1.trans (Keep.of e2)).trans k3
  walk_at "go"
  refine ⟨by rw [lb]; simp, fun t ht => ?_⟩
  walk_at "go"
  refine ⟨t, _, rfl, .inl (.inl upd_same), rfl, ?_⟩
  have e4 : Same H3 (upd H3 t (.tup [.int (f' : Nat), .int (s : Nat)])) := Same.new (Same.refl _) ht
  generalize upd H3 t (.tup [.int (f' : Nat), .int (s : Nat)]) = H4 at *
  walk_at "go"
  refine ⟨_, rfl, by omega, by omega, ?_⟩
  rw [Int.toNat_natCast]
  have k04 := k03.trans (Keep.of e4)
  have al : (cp abc).length = 26 := by decide +kernel
  have al2 : abc.length = 26 := by decide +kernel
  have nd := stride_nd s hsm f' (by omega)
  refine lR (fun i => (((List.range i).map fun k => 97 + (f' + s * k) % 26).map fun c => V.str (S [c]))) rfl (fun i v D H5 hD hv e5 hd => ?_) fun D H5 hD e5 hd => ?_
  · obtain ⟨hi, rfl⟩ := hv
    walk_at "go"
    rw [Int.zero_add]
    refine ⟨_, _, rfl, rfl, .inr (by omega), ?_⟩
    walk_at "go"
    refine .inl ⟨_, rfl, ?_⟩
    refine ⟨_, _, rfl, rfl, (by show (0 : Int) < _; decide), ?_⟩
    have em : ((f' : Nat) + (s : Nat) * (i : Nat) : Int) % 26 = (((f' + s * i) % 26 : Nat) : Int) := by omega
    refine ⟨abc, _, 97 + (f' + s * i) % 26, rfl, rfl, by omega, ?_, ?_⟩
    · rw [em, Fd.atI_nat]
      exact abc_at (Nat.mod_lt _ (by decide))
    · exact lc_add e5 hD hd (by rw [List.length_map, List.length_map, List.length_range]; omega) (by rw [List.range_succ, List.map_append, List.map_append] <;> rfl)
  · have k05 := k04.trans (Keep.of e5)
    refine q D ((List.range n).map fun k => 97 + (f' + s * k) % 26) H5 k05 ((B3.same e4).same e5) (by rw [List.length_map, List.length_range]) ?_ ?_ ?_
    · exact (nd.sublist ((List.range_sublist.mpr hn).map _))
    · intro c hc
      obtain ⟨k, _, e⟩ := List.mem_map.mp hc
      omega
    · show H5 D = _
      rw [hd, List.map_map, List.map_map, List.map_map] <;> rfl
end
end Fd
set_option Elab.async false
set_option linter.all false
set_option maxRecDepth 100000
set_option maxHeartbeats 4000000
/-! ### FdNames: names made of letters -/
namespace Fd
open PySem PySem.Spec PyProof.Rows L2 SX
theorem nm_S {l : List Nat} (h1 : 1 ≤ l.length) (h2 : l.length ≤ 6) (h : ∀ c ∈ l, 97 ≤ c ∧ c ≤ 122) : isNm (S l) := ⟨h1, h2, h⟩
theorem mulOk1 (c n : Nat) (h1 : 1 ≤ n) (h6 : n ≤ 6) : MulOk (S [c]) ((n : Nat) : Int) := by
  have l1 : (S [c]).length = 1 := rfl
  unfold MulOk
  rw [l1]
  have : n = 1 ∨ n = 2 ∨ n = 3 ∨ n = 4 ∨ n = 5 ∨ n = 6 := by omega
  rcases this with rfl | rfl | rfl | rfl | rfl | rfl <;> decide +kernel
theorem mul1 (c n : Nat) : Txt.mul (S [c]) ((n : Nat) : Int) = S (List.replicate n c) := cp_inj (by
  have := mul_one_list c ((n : Nat) : Int)
  rw [Int.toNat_natCast] at this
  exact this)
theorem rep_nm {c n : Nat} (h1 : 1 ≤ n) (h6 : n ≤ 6) (hc : 97 ≤ c ∧ c ≤ 122) : isNm (S (List.replicate n c)) := nm_S (by rw [List.length_replicate]; exact h1) (by rw [List.length_replicate]; exact h6) fun d hd => by rw [(List.mem_replicate.mp hd).2]; exact hc
theorem cut_take (xs : List V) (n : Nat) : cutV xs none (some ((n : Nat) : Int)) = xs.take n := by
  unfold cutV
  rw [HT.sIx_nat, HT.sIx_none, List.drop_zero]
  show xs.take (min n xs.length - 0) = _
  rw [Nat.sub_zero]
  by_cases h : n ≤ xs.length
  · rw [Nat.min_eq_left h]
  · rw [Nat.min_eq_right (by omega), List.take_of_length_le (Nat.le_refl _), List.take_of_length_le (by omega)]
theorem cut_drop (xs : List V) (n : Nat) : cutV xs (some ((n : Nat) : Int)) none = xs.drop n := by
  unfold cutV
  rw [HT.sIx_nat, HT.sIx_none]
  by_cases h : n ≤ xs.length
  · rw [Nat.min_eq_left h, List.take_of_length_le (by rw [List.length_drop]; omega)]
  · rw [Nat.min_eq_right (by omega), List.drop_eq_nil_of_le (Nat.le_refl _), List.drop_eq_nil_of_le (by omega), List.take_nil]
theorem cutS_take (z : Str) (n : Nat) : cutS z none (some ((n : Nat) : Int)) = S ((cp z).take n) := by
  rw [C8.cutS_slice]
  have := slice_to (a := cp z) (i := ((n : Nat) : Int)) (by omega)
  rw [S_tl, Int.toNat_natCast] at this
  exact this
theorem cutS_drop (z : Str) (n : Nat) : cutS z (some ((n : Nat) : Int)) none = S ((cp z).drop n) := by
  rw [C8.cutS_slice]
  have := slice_from (a := cp z) (i := ((n : Nat) : Int)) (by omega)
  rw [S_tl, Int.toNat_natCast] at this
  exact this
/-- texts told by letters: different letters, different texts -/
theorem all2_nodup {α β : Type} {R : α → β → Prop} (inj : ∀ x c d, R x c → R x d → c = d) : ∀ {xs : List α} {cs : List β}, All2 R xs cs → cs.Nodup → xs.Nodup
  | [], [], _, _ => List.nodup_nil
  | [], _ :: _, h, _ => h.elim
  | _ :: _, [], h, _ => h.elim
  | x :: xs, c :: cs, h, n => by
    have n2 := List.nodup_cons.mp n
    refine List.nodup_cons.mpr ⟨fun hx => ?_, all2_nodup inj h.2 n2.2⟩
    obtain ⟨j, hj, e⟩ := List.mem_iff_getElem.mp hx
    obtain ⟨d, hd, hr⟩ := h.2.get (i := j) (a := x) (by rw [List.getElem?_eq_getElem hj, e])
    exact n2.1 (by rw [inj x c d h.1 hr]; exact List.mem_of_getElem? hd)
theorem all2_mem {α β : Type} {R : α → β → Prop} {P : α → Prop} (h : ∀ x c, R x c → P x) {xs : List α} {cs : List β} (a : All2 R xs cs) : ∀ x ∈ xs, P x := fun x hx => by
  obtain ⟨j, hj, e⟩ := List.mem_iff_getElem.mp hx
  obtain ⟨d, _, hr⟩ := a.get (i := j) (a := x) (by rw [List.getElem?_eq_getElem hj, e])
  exact h x d hr
/-- a name that ends in / holds this letter -/
def Ends (z : Str) (c : Nat) : Prop := ∃ pre : List Nat, z = S (pre ++ [c]) ∧ pre.length ≤ 5 ∧ (∀ d ∈ pre, 97 ≤ d ∧ d ≤ 122) ∧ 97 ≤ c ∧ c ≤ 122
theorem Ends.nm {z : Str} {c : Nat} (h : Ends z c) : isNm z := by
  obtain ⟨pre, rfl, l, hp, hc⟩ := h
  refine nm_S (by simp) (by simp; omega) fun d hd => ?_
  rcases List.mem_append.mp hd with k | k
  · exact hp d k
  · have e : d = c := by simpa using k
    rw [e]
    exact hc
theorem Ends.inj {z : Str} {c d : Nat} (h : Ends z c) (k : Ends z d) : c = d := by
  obtain ⟨p, rfl, _⟩ := h
  obtain ⟨q, e, _⟩ := k
  have e2 := S_inj e
  have := (List.append_inj' e2 rfl).2
  simpa using this
theorem ends_nmL {xs : List Str} {cs : List Nat} (h : All2 Ends xs cs) (n : cs.Nodup) : NmL xs := ⟨all2_mem (fun _ _ k => k.nm) h, all2_nodup (fun _ _ _ a b => a.inj b) h n⟩
/-- the letter stands between a front and a back that are the same for all -/
theorem mid_nmL {cs pre post : List Nat} (n : cs.Nodup) (hc : ∀ c ∈ cs, 97 ≤ c ∧ c ≤ 122) (h1 : ∀ c ∈ pre, 97 ≤ c ∧ c ≤ 122) (h2 : ∀ c ∈ post, 97 ≤ c ∧ c ≤ 122) (l : pre.length + post.length ≤ 5) : NmL (cs.map fun c => S (pre ++ [c] ++ post)) := by
  refine ⟨fun z hz => ?_, ?_⟩
  · obtain ⟨c, hcm, e⟩ := List.mem_map.mp hz
    rw [← e]
    refine nm_S (by simp; omega) (by simp; omega) fun d hd => ?_
    simp only [List.mem_append, List.mem_singleton] at hd
    rcases hd with (k | k) | k
    · exact h1 d k
    · rw [k]
      exact hc c hcm
    · exact h2 d k
  · rw [List.nodup_iff_pairwise_ne, List.pairwise_map]
    refine (List.nodup_iff_pairwise_ne.mp n).imp fun {c d} hne e => hne ?_
    have e2 := S_inj e
    rw [List.append_assoc, List.append_assoc] at e2
    have e3 := List.append_cancel_left e2
    simpa using e3
/-- the second manner: a letter, so many times -/
def rep6 (cs : List Nat) (k : Nat) : Str := S (List.replicate (k % 6 + 1) (cs.getD (k / 6) 97))
theorem rep6_nmL {cs : List Nat} {n : Nat} (nd : cs.Nodup) (l : cs.length = 7) (hc : ∀ c ∈ cs, 97 ≤ c ∧ c ≤ 122) (hn : n ≤ 7) : NmL ((List.range n).map (rep6 cs)) := by
  have at_ : ∀ k, k < 7 → 97 ≤ cs.getD (k / 6) 97 ∧ cs.getD (k / 6) 97 ≤ 122 := fun k hk => by
    have hlt : k / 6 < cs.length := by omega
    rw [List.getD_eq_getElem?_getD, List.getElem?_eq_getElem hlt]
    exact hc _ (List.getElem_mem hlt)
  refine ⟨fun z hz => ?_, ?_⟩
  · obtain ⟨k, hk, e⟩ := List.mem_map.mp hz
    rw [← e]
    exact rep_nm (by omega) (by omega) (at_ k (by have := List.mem_range.mp hk; omega))
  · rw [List.nodup_iff_pairwise_ne, List.pairwise_map]
    refine List.Pairwise.imp_of_mem (R := (· < ·)) (fun {i j} hi hj hij e => ?_) List.pairwise_lt_range
    have hi := List.mem_range.mp hi
    have hj := List.mem_range.mp hj
    have e2 := S_inj e
    have e3 := congrArg List.length e2
    rw [List.length_replicate, List.length_replicate] at e3
    have hi0 : i = 0 := by omega
    have hj6 : j = 6 := by omega
    subst hi0 hj6
    have e4 : cs.getD 0 97 = cs.getD 1 97 := by
      have := congrArg List.head? e2
      simpa using this
    rw [List.getD_eq_getElem?_getD, List.getD_eq_getElem?_getD, List.getElem?_eq_getElem (by omega : 0 < cs.length), List.getElem?_eq_getElem (by omega : 1 < cs.length)] at e4
    exact List.pairwise_iff_getElem.mp (List.nodup_iff_pairwise_ne.mp nd) 0 1 (by omega) (by omega) (by decide) e4
/-- of more names than are taken one is free -/
theorem free_one {ws old : List Str} (n : ws.Nodup) (h : old.length < ws.length) : (ws.filter fun z => !decide (z ∈ old)) ≠ [] := fun e => by
  have := filter_split (fun z => decide (z ∈ old)) ws
  rw [e] at this
  have h1 : (ws.filter fun z => decide (z ∈ old)).length ≤ old.length := nodup_sub_len (n.sublist List.filter_sublist) fun z hz => of_decide_eq_true (List.mem_filter.mp hz).2
  rw [List.length_nil] at this
  omega
theorem filter_len {ws old : List Str} (n : ws.Nodup) : ws.length ≤ (ws.filter fun z => !decide (z ∈ old)).length + old.length := by
  have := filter_split (fun z => decide (z ∈ old)) ws
  have h1 : (ws.filter fun z => decide (z ∈ old)).length ≤ old.length := nodup_sub_len (n.sublist List.filter_sublist) fun z hz => of_decide_eq_true (List.mem_filter.mp hz).2
  omega
/-- [z for z in xs if z not in ys] -/
theorem lFlt {K : KF} {i j : Nat} {σ : L2.St} {H1 : Hp} {Qd : Addr → Hp → Prop} {p q : Addr} {xs ys : List Str} (hp : SqL K H1 p (xs.map V.str)) (hq : ∀ H2, Same H1 H2 → Sq K H2 q (ys.map V.str)) (lx : xs.length ≤ 10000)
    (hi : ∀ z, ((wipe σ [i]).set i (some (.str z)))[i]? = some (some (.str z))) (hj : ∀ z, ((wipe σ [i]).set i (some (.str z)))[j]? = some (some (.ref q))) (hw : ∀ z, wipe ((wipe σ [i]).set i (some (.str z))) [i] = wipe σ [i])
    (fin : ∀ D H2, H1 D = none → Same H1 H2 → H2 D = some (.lst ((xs.filter fun z => !decide (z ∈ ys)).map V.str)) → Qd D H2) :
    (∃ xs, SqL K H1 p xs) ∧ LcIn (gName i) (tTest (tOp (rIn K true) (tVar i) (tVar j))) (tVar i) [i] σ Qd (Itl K p) H1 := by
  have lb := line_big
  refine lL hp (fun i => ((xs.take i).filter (fun z => !decide (z ∈ ys))).map V.str) rfl (fun k v D H2 hD hv e2 hd => ?_) fun D H2 hD e2 hd => ?_
  · obtain ⟨z, hz, rfl⟩ := map_get hv
    refine ⟨hw z, _, hi z, _, hj z, notin_strs (hq H2 e2) ⟨_, rfl, ?_⟩⟩
    have fs := filt_snoc V.str (fun z => !decide (z ∈ ys)) hz
    have fl := filt_le (fun z => !decide (z ∈ ys)) xs k
    by_cases hm : z ∈ ys
    · rw [decide_eq_true hm]
      rw [if_neg (by rw [decide_eq_true hm]; decide), List.append_nil] at fs
      refine k_iteNT ⟨e2, by rw [fs]; exact hd⟩
    · rw [decide_eq_false hm]
      rw [if_pos (by rw [decide_eq_false hm]; decide)] at fs
      refine k_iteNF ⟨_, hi z, ?_⟩
      exact lc_add e2 hD hd (by rw [List.length_map]; omega) fs
  · rw [List.length_map, take_full] at hd
    exact fin D H2 hD e2 hd
end Fd
set_option Elab.async false
set_option linter.all false
set_option maxRecDepth 100000
set_option maxHeartbeats 4000000
/-! ### FdL4c: names, marks -/
namespace Fd
open PySem PySem.Spec PyProof.Rows L2 SX
theorem known_nd : (["self", "row", "book", "lot", "even", "a", "b", "order", "none", "true", "pro", "group"] : List Str).Nodup := by decide +kernel
theorem nm_dec (z : Str) (h : (1 ≤ (cp z).length ∧ (cp z).length ≤ 6 ∧ ∀ c ∈ cp z, 97 ≤ c ∧ c ≤ 122)) : isNm z := ⟨h.1, h.2.1, h.2.2⟩
theorem known_nm : ∀ z ∈ (["self", "row", "book", "lot", "even", "a", "b", "order", "none", "true", "pro", "group"] : List Str), isNm z := fun z hz => nm_dec z ((by decide +kernel : ∀ z ∈ (["self", "row", "book", "lot", "even", "a", "b", "order", "none", "true", "pro", "group"] : List Str), (1 ≤ (cp z).length ∧ (cp z).length ≤ 6 ∧ ∀ c ∈ cp z, 97 ≤ c ∧ c ≤ 122)) z hz)
theorem far_nd : (["z", "p", "q", "zz", "none", "abcdef", "y", "self"] : List Str).Nodup := by decide +kernel
theorem far_nm : ∀ z ∈ (["z", "p", "q", "zz", "none", "abcdef", "y", "self"] : List Str), isNm z := fun z hz => nm_dec z ((by decide +kernel : ∀ z ∈ (["z", "p", "q", "zz", "none", "abcdef", "y", "self"] : List Str), (1 ≤ (cp z).length ∧ (cp z).length ≤ 6 ∧ ∀ c ∈ cp z, 97 ≤ c ∧ c ≤ 122)) z hz)
theorem NmL.take {xs : List Str} (h : NmL xs) (n : Nat) : NmL (xs.take n) := ⟨fun z hz => h.nm z (List.mem_of_mem_take hz), h.nd.sublist (List.take_sublist _ _)⟩
theorem NmL.perm {xs ys : List Str} (h : NmL xs) (p : ys.Perm xs) : NmL ys := ⟨fun z hz => h.nm z (p.subset hz), p.nodup_iff.mpr h.nd⟩
theorem LS.k {H H' : Hp} {l : Addr} {xs : List Str} (h : LS H l xs) (e : Keep H H') : LS H' l xs := h.n e.n
theorem kadd {H0 H4 : Hp} {D : Addr} {o : HO} (e : Keep H0 H4) (n : H0 D = none) : Keep H0 (upd H4 D o) := Keep.upd' n e
theorem strs_perm {ys : List V} {xs : List Str} (pM : ys.Perm (xs.map V.str)) : ∃ zs : List Str, ys = zs.map V.str ∧ zs.Perm xs := by
  refine ⟨ys.map fun v => match v with | .str z => z | _ => Str.empty, ?_, ?_⟩
  · rw [List.map_map]
    have : ∀ v ∈ ys, (V.str ∘ fun v => match v with | .str z => z | _ => Str.empty) v = v := fun v hv => by
      obtain ⟨z, _, e⟩ := List.mem_map.mp (pM.subset hv)
      rw [← e] <;> rfl
    rw [List.map_congr_left this, List.map_id']
  · have := pM.map (fun v => match v with | V.str z => z | _ => Str.empty)
    rw [List.map_map] at this
    have e : xs.map ((fun v => match v with | V.str z => z | _ => Str.empty) ∘ V.str) = xs := by
      rw [show ((fun v => match v with | V.str z => z | _ => Str.empty) ∘ V.str) = id from rfl, List.map_id]
    rw [e] at this
    exact this
theorem cons_of_ne {α : Type} {l : List α} (h : l ≠ []) : ∃ x r, l = x :: r := by
  cases l with
  | nil => exact absurd rfl h
  | cons x r => exact ⟨x, r, rfl⟩
section
local macro_rules | `(tactic| walk_at "sm") => `(tactic| first | exact Same.refl _ | assumption | (refine Same.new ?_ ‹_›; walk_at "sm") | (refine Same.trans ?_ ‹Same _ _›; walk_at "sm"))
local macro_rules | `(tactic| walk_at "s1") => `(tactic| first
  | with_reducible refine g_seq ?_ | with_reducible refine g_asg ?_ | with_reducible refine g_name ?_ | with_reducible refine g_cons ?_ | with_reducible refine g_nil ?_
  | ((with_reducible refine k_var ?_); refine ⟨_, rfl, ?_⟩) | with_reducible refine g_c ?_ | with_reducible refine g_op ?_ | with_reducible refine g_un ?_
  | with_reducible refine g_cb ?_ | with_reducible refine g_call ?_ | with_reducible refine g_ifS ?_ | with_reducible refine g_if ?_ | with_reducible refine g_tB ?_ | with_reducible refine g_test ?_
  | with_reducible refine k_bl ?_ | with_reducible refine k_iteT ?_ | with_reducible refine k_iteF ?_ | with_reducible refine k_iteNT ?_ | with_reducible refine k_iteNF ?_
  | with_reducible refine g_and ?_ | with_reducible refine g_or ?_ | with_reducible refine g_not ?_ | with_reducible refine g_andV ?_ | with_reducible refine g_orV ?_ | with_reducible refine g_notV ?_ | with_reducible refine g_yes ?_)
local macro_rules | `(tactic| walk_at "s2") => `(tactic| first
  | with_reducible refine g_ret ?_ | with_reducible refine g_drop ?_ | with_reducible refine g_next ?_ | with_reducible refine k_retN ?_
  | ((with_reducible refine k_I0 ?_); refine ⟨_, _, rfl, rfl, ?_⟩) | ((with_reducible refine k_U ?_); refine ⟨_, rfl, ?_⟩) | ((with_reducible refine k_eq ?_); refine ⟨rfl, ?_⟩) | ((with_reducible refine k_ne ?_); refine ⟨rfl, ?_⟩)
  | ((with_reducible refine k_isN ?_); refine ⟨rfl, ?_⟩) | ((with_reducible refine k_notN ?_); refine ⟨rfl, ?_⟩) | with_reducible refine k_chain ?_ | with_reducible refine k_fld ?_ | with_reducible refine k_sfld ?_
  | with_reducible refine k_tup ?_ | with_reducible refine k_lst ?_ | with_reducible refine k_meth ?_ | with_reducible refine k_bm ?_ | with_reducible refine k_bm0 ?_ | with_reducible refine k_m1 ?_ | with_reducible refine k_fmt ?_ | with_reducible refine k_joined ?_
  | with_reducible refine k_js0 ?_ | with_reducible refine k_js1 ?_ | with_reducible refine k_mkR ?_ | with_reducible refine k_sl ?_ | with_reducible refine k_part ?_ | with_reducible refine k_nopart ?_ | with_reducible refine k_gtup ?_
  | ((with_reducible refine k_aug ?_); refine ⟨_, rfl, ?_⟩) | ((with_reducible refine k_ipI ?_); refine ⟨_, _, rfl, rfl, ?_⟩) | with_reducible refine k_par ?_ | with_reducible refine k_din ?_ | with_reducible refine k_dnin ?_ | with_reducible refine k_dput ?_
  | with_reducible refine g_gcons ?_ | with_reducible refine g_gnil ?_ | with_reducible refine k_cval ?_ | with_reducible refine k_dnew ?_ | with_reducible refine k_isS ?_ | with_reducible refine k_int ?_ | with_reducible refine k_lcL ?_ | with_reducible refine k_lcT ?_ | with_reducible refine k_lcQ ?_ | with_reducible refine k_lcS ?_ | with_reducible refine k_lcR ?_ | with_reducible refine k_forL ?_ | with_reducible refine k_forT ?_ | with_reducible refine k_forQ ?_ | with_reducible refine k_forS ?_ | with_reducible refine k_forR ?_ | with_reducible refine k_forE ?_ | with_reducible refine k_forET ?_ | with_reducible refine k_forI ?_ | with_reducible refine k_star ?_ | with_reducible refine k_dcL ?_ | with_reducible refine k_listItems ?_ | with_reducible refine k_dget ?_ | ((with_reducible refine k_wipe ?_ ?_); exact rfl))
local macro_rules | `(tactic| walk_at "go") => `(tactic| repeat (first | walk_at "s1" | walk_at "s2"))
variable {a : Ax} {mg : Str → Option Value} (T : Top a mg) {vs : List V} {H : Hp} {Q : VK} {E : XK}
include T
theorem rd_law_stranger (h : sp_law_stranger a vs H Q E) : t_law_stranger a { nx := fun _ H' => Q .non H', rt := Q } (start n_law_stranger vs) H := by
  obtain ⟨b, h, ns, p, xs, rfl, B, hp, l7, q⟩ := h
  have lb := line_big
  unfold t_law_stranger
  walk_at "go"
  refine ⟨b, h, ns, _, rfl, B, by decide, by decide, fun r H1 r0 r1 B1 k1 => ?_⟩
  walk_at "go"
  refine ⟨b, h, ns, (1 + r).toNat, by rw [Int.toNat_of_nonneg (by omega)] <;> rfl, B1, by omega, fun z H2 zl zc k2 B2 => ?_⟩
  walk_at "go"
  refine ⟨by rw [lb]; simp, fun l hl => ?_⟩
  have k02 := k1.trans k2
  have e3 : Same H2 (upd H2 l (.lst [.str z, .str "z", .str "p", .str "q", .str "zz", .str "none", .str "abcdef", .str "y", .str "self"])) := Same.new (Same.refl _) hl
  have l3 : upd H2 l (.lst [.str z, .str "z", .str "p", .str "q", .str "zz", .str "none", .str "abcdef", .str "y", .str "self"]) l = some (.lst ((z :: ["z", "p", "q", "zz", "none", "abcdef", "y", "self"]).map V.str)) := upd_same
  generalize upd H2 l (.lst [.str z, .str "z", .str "p", .str "q", .str "zz", .str "none", .str "abcdef", .str "y", .str "self"]) = H3 at *
  have hp3 : LS H3 p xs := e3 _ _ (LS.k hp k02)
  walk_at "go"
  refine ⟨l, rfl, ?_⟩
  refine lFlt (xs := z :: ["z", "p", "q", "zz", "none", "abcdef", "y", "self"]) (ys := xs) (.inl (.inl l3)) (fun H4 e4 => .inl (.inl (.inl (e4 _ _ hp3)))) (by simp) (fun _ => rfl) (fun _ => rfl) (fun _ => rfl) fun D H4 hD e4 hd => ?_
  walk_at "go"
  have hne : ((z :: ["z", "p", "q", "zz", "none", "abcdef", "y", "self"]).filter fun z => !decide (z ∈ xs)) ≠ [] := fun e => by
    have f1 := free_one (ws := ["z", "p", "q", "zz", "none", "abcdef", "y", "self"]) (old := xs) far_nd (by show _ < 8; omega)
    rw [List.filter_cons] at e
    split at e
    · cases e
    · exact f1 e
  obtain ⟨y, r', er⟩ := cons_of_ne hne
  have hy : y ∈ (z :: ["z", "p", "q", "zz", "none", "abcdef", "y", "self"]).filter fun z => !decide (z ∈ xs) := by rw [er]; simp
  have hy1 := List.mem_filter.mp hy
  rw [er] at hd
  refine ⟨D, _, _, .str y, rfl, rfl, .inl (.inl hd), at0, ?_⟩
  refine q y H4 ((k02.trans (Keep.of e3)).trans (Keep.of e4)) ((B2.same e3).same e4) ?_ (fun hm => by
    have := hy1.2
    rw [decide_eq_true hm] at this
    cases this)
  rcases List.mem_cons.mp hy1.1 with e | hm
  · rw [e]
    exact ⟨by omega, by omega, zc⟩
  · exact far_nm y hm
theorem rd_law_fresh (h : sp_law_fresh a vs H Q E) : t_law_fresh a { nx := fun _ H' => Q .non H', rt := Q } (start n_law_fresh vs) H := by
  obtain ⟨p, xs, n, rfl, hp, hn, q⟩ := h
  have lb := line_big
  have ll : letsL.length = 26 := by decide +kernel
  unfold t_law_fresh
  walk_at "go"
  refine ⟨_, rfl, ?_⟩
  have ea : (cp abc).map (fun c => S [c]) = letsL := by rw [abc_cp] <;> rfl
  have la : (cp abc).length = 26 := by decide +kernel
  refine lStr (z := abc) (fun i => ((cp abc).take i).map fun c => V.str (S [c])) rfl (fun i v D H1 hD hv e hd => ?_) fun D H1 hD e hd => ?_
  · obtain ⟨c, hc, rfl⟩ := hv
    walk_at "go"
    exact lc_add e hD hd (by rw [List.length_map]; have := len_take_le (cp abc) i; omega) (map_take_snoc (fun c => V.str (S [c])) hc)
  have hd1 : H1 D = some (.lst (letsL.map V.str)) := by
    rw [take_full] at hd
    rw [hd, ← ea, List.map_map] <;> rfl
  walk_at "go"
  refine ⟨D, _, rfl, .inl (.inl (.inl hd1)), fun F hF => ?_⟩
  have e2 : Same H1 (upd H1 F (.lst (letsL.map V.str))) := Same.new (Same.refl _) hF
  have F2 : upd H1 F (.lst (letsL.map V.str)) F = some (.lst (letsL.map V.str)) := upd_same
  generalize upd H1 F (.lst (letsL.map V.str)) = H2 at *
  walk_at "go"
  have hd2 := e2 _ _ hd1
  refine ⟨D, rfl, ?_⟩
  refine fL (.inl (.inl hd2)) (fun i σ H3 => Same H2 H3 ∧ ∃ F', H3 F' = some (.lst ((letsL ++ (letsL.take i).flatMap fun x => letsL.map fun y => x ++ y).map V.str)) ∧ ∃ u v, σ = [some (.ref p), some (.int (n : Nat)), some (.ref D), some (.ref F'), u, v]) ⟨Same.refl _, F, by simpa using F2, _, _, rfl⟩ (fun i σ H3 c => .inl (.inl (c.1 _ _ hd2))) (fun i v σ H3 hv c => ?_) fun σ H3 c => ?_
  · obtain ⟨e3, F', F3, u, w, rfl⟩ := c
    obtain ⟨z, hz, rfl⟩ := map_get hv
    have hi := (List.getElem?_eq_some_iff.mp hz).1
    have zl : z.length = 1 := (by decide +kernel : ∀ z ∈ letsL, z.length = 1) z (List.mem_of_getElem? hz)
    walk_at "go"
    have hd3 := e3 _ _ hd2
    refine ⟨D, rfl, ?_⟩
    refine lL (.inl (.inl hd3)) (fun j => (letsL.take j).map fun y => V.str (z ++ y)) rfl (fun j v D2 H4 hD2 hv2 e4 hd4 => ?_) fun D2 H4 hD2 e4 hd4 => ?_
    · obtain ⟨y, hy, rfl⟩ := map_get hv2
      have yl : y.length = 1 := (by decide +kernel : ∀ z ∈ letsL, z.length = 1) y (List.mem_of_getElem? hy)
      walk_at "go"
      refine ⟨z, y, rfl, rfl, by omega, ?_⟩
      exact lc_add e4 hD2 hd4 (by rw [List.length_map]; have := len_take_le letsL j; omega) (map_take_snoc (fun y => V.str (z ++ y)) hy)
    rw [List.length_map, take_full] at hd4
    have fl : (letsL ++ (letsL.take i).flatMap fun x => letsL.map fun y => x ++ y).length ≤ 1000 := by
      rw [List.length_append, List.length_flatMap]
      have := sum_le (n := 26) (l := (letsL.take i).map fun x => (letsL.map fun y => x ++ y).length) (fun x hx => by
        obtain ⟨w, _, e⟩ := List.mem_map.mp hx
        rw [← e, List.length_map, ll]
        exact Nat.le_refl _)
      rw [List.length_map] at this
      have t := len_take_le letsL i
      omega
    refine ⟨F', D2, _, _, rfl, rfl, e4 _ _ F3, hd4, by rw [List.length_map, List.length_map, ll]; omega, fun G hG => ?_⟩
    walk_at "go"
    refine ⟨Same.new (e3.trans e4) hG, G, ?_, _, _, rfl⟩
    rw [upd_same, take_snoc hz, List.flatMap_append, ← List.append_assoc, List.map_append (l₁ := letsL ++ _)]
    simp [List.map_map]
  · obtain ⟨e3, F', F3, u, w, rfl⟩ := c
    rw [List.length_map, take_full] at F3
    have F4 : H3 F' = some (.lst (allMarks.map V.str)) := F3
    walk_at "go"
    have e03 := (e.trans e2).trans e3
    have hp3 := e03 _ _ hp
    refine ⟨F', rfl, ?_⟩
    refine lFlt (xs := allMarks) (ys := xs) (.inl (.inl F4)) (fun H5 e5 => .inl (.inl (.inl (e5 _ _ hp3)))) (by rw [marks_len]; decide) (fun _ => rfl) (fun _ => rfl) (fun _ => rfl) fun D5 H5 hD5 e5 hd5 => ?_
    walk_at "go"
    refine ⟨D5, _, rfl, .inl (.inl hd5), fun r hr => ?_⟩
    rw [cut_take, ← List.map_take]
    have ef : (allMarks.filter fun z => !decide (z ∈ xs)) = allMarks.filter fun z => decide (z ∉ xs) := by
      congr 1
      funext z
      simp
    rw [ef]
    exact q r _ (Same.new (e03.trans e5) hr) ((e03.trans e5).free hr) upd_same
theorem rd_law_marks (h : sp_law_marks a vs H Q E) : t_law_marks a { nx := fun _ H' => Q .non H', rt := Q } (start n_law_marks vs) H := by
  obtain ⟨b, h, ns, p, xs, n, rfl, B, hp, nx, l7, hn, q⟩ := h
  have lb := line_big
  unfold t_law_marks
  walk_at "go"
  refine ⟨b, h, ns, 26, rfl, B, by decide, fun L cs H1 k1 B1 cl cn cc hL => ?_⟩
  walk_at "go"
  refine ⟨b, h, ns, _, rfl, B1, by decide, by decide, fun r H2 r0 r1 B2 k2 => ?_⟩
  walk_at "go"
  -- behind the stem
  have key : ∀ (stem : List Nat) (H3 : Hp), stem.length ≤ 4 → (∀ c ∈ stem, 97 ≤ c ∧ c ≤ 122) → Keep H H3 → Bag b h ns H3 → LS H3 L (cs.map fun c => S [c]) → tSeq (tAsg (tOp rCat (tLc (iList a.K (tVar 3)) (gName 6) tYes (tOp rAddS (tVar 4) (tVar 6)) [6]) (tLc (iList a.K (tVar 3)) (gName 6) tYes (tOp rAddS (tOp rAddS (tVar 4) (tVar 6)) (tOp (rIxL a.K) (tVar 3) (tC (.int 0)))) [6])) (gName 5))
    (tSeq (tIfS (tTest (tOp rEq (tCall (sp_law_take a) [] L2.E0 (tCons (tVar 0) (tCons (tC (.int 3)) tNil))) (tC (.int 0))))
      (tAsg (tOp rCat (tCall (sp_law_mixed a) [] L2.E0 (tCons (tVar 0) (tCons (tVar 1) tNil))) (tLc (iList a.K (tVar 5)) (gName 6) (tTest (tOp (rIn a.K true) (tVar 6) (tVar 1))) (tVar 6) [6])) (gName 5))
      tNext)
    (tRet (tSl (rSlL a.K) (tVar 5) tNoPart (tPart (tVar 2))))) { nx := fun _ H' => Q .non H', rt := Q } [some (.ref b), some (.ref p), some (.int (n : Nat)), some (.ref L), some (.str (S stem)), none, none] H3 := fun stem H3 sl sc k3 B3 hL3 => by
    have hp3 : LS H3 p xs := LS.k hp k3
    have sl2 : (S stem).length ≤ 4 := by rw [S_len]; exact sl
    walk_at "go"
    refine ⟨L, rfl, ?_⟩
    refine lL (xs := (cs.map fun c => S [c]).map V.str) (.inl (.inl hL3)) (fun i => ((cs.take i).map fun c => S (stem ++ [c])).map V.str) rfl (fun i v D H4 hD hv e hd => ?_) fun D H4 hD e4 hd4 => ?_
    · obtain ⟨z, hz, rfl⟩ := map_get hv
      obtain ⟨c, hc, rfl⟩ := map_get hz
      walk_at "go"
      refine ⟨S stem, S [c], rfl, rfl, by rw [show (S [c]).length = 1 from rfl]; omega, ?_⟩
      rw [S_cat]
      exact lc_add e hD hd (by rw [List.length_map, List.length_map]; have := len_take_le cs i; omega) (by rw [map_take_snoc _ hc, List.map_append] <;> rfl)
    rw [List.length_map, List.length_map, take_full] at hd4
    walk_at "go"
    have hL4 := e4 _ _ hL3
    refine ⟨L, rfl, ?_⟩
    have hc0 : ∃ c0 cr, cs = c0 :: cr := cons_of_ne (fun e => by rw [e] at cl; cases cl)
    obtain ⟨c0, cr, ec0⟩ := hc0
    have c0l : 97 ≤ c0 ∧ c0 ≤ 122 := cc c0 (by rw [ec0]; simp)
    refine lL (xs := (cs.map fun c => S [c]).map V.str) (.inl (.inl hL4)) (fun i => ((cs.take i).map fun c => S (stem ++ [c] ++ [c0])).map V.str) rfl (fun i v D2 H5 hD2 hv e hd => ?_) fun D2 H5 hD2 e5 hd5 => ?_
    · obtain ⟨z, hz, rfl⟩ := map_get hv
      obtain ⟨c, hc, rfl⟩ := map_get hz
      walk_at "go"
      refine ⟨S stem, S [c], rfl, rfl, by rw [show (S [c]).length = 1 from rfl]; omega, ?_⟩
      rw [S_cat]
      have hL5 : H5 L = some (.lst (V.str (S [c0]) :: (cr.map fun c => S [c]).map V.str)) := by
        have := e _ _ hL4
        rw [ec0] at this
        exact this
      walk_at "go"
      refine ⟨L, _, _, _, rfl, rfl, .inl (.inl hL5), at0, ?_⟩
      refine ⟨S (stem ++ [c]), S [c0], rfl, rfl, by rw [S_len, List.length_append, show (S [c0]).length = 1 from rfl]; simp; omega, ?_⟩
      rw [S_cat]
      exact lc_add e hD2 hd (by rw [List.length_map, List.length_map]; have := len_take_le cs i; omega) (by rw [map_take_snoc _ hc, List.map_append] <;> rfl)
    rw [List.length_map, List.length_map, take_full] at hd5
    refine ⟨D, D2, _, _, rfl, rfl, e5 _ _ hd4, hd5, by simp only [List.length_map]; omega, fun W hW => ?_⟩
    have ew : ((cs.map fun c => S (stem ++ [c])).map V.str ++ (cs.map fun c => S (stem ++ [c] ++ [c0])).map V.str) = ((cs.map fun c => S (stem ++ [c])) ++ cs.map fun c => S (stem ++ [c] ++ [c0])).map V.str := by rw [List.map_append]
    rw [ew]
    have nl : NmL ((cs.map fun c => S (stem ++ [c])) ++ cs.map fun c => S (stem ++ [c] ++ [c0])) := by
      have n1 := mid_nmL (pre := stem) (post := []) cn cc sc (fun _ h => by cases h) (by simp; omega)
      have n2 := mid_nmL (pre := stem) (post := [c0]) cn cc sc (fun d hd => (List.mem_singleton.mp hd).symm ▸ c0l) (by simp; omega)
      simp only [List.append_nil] at n1
      refine ⟨fun z hz => ?_, List.nodup_append.mpr ⟨n1.nd, n2.nd, fun x hx y hy e => ?_⟩⟩
      · rcases List.mem_append.mp hz with k | k
        · exact n1.nm z k
        · exact n2.nm z k
      · obtain ⟨c, _, rfl⟩ := List.mem_map.mp hx
        obtain ⟨d, _, rfl⟩ := List.mem_map.mp hy
        have := congrArg List.length (S_inj e)
        simp at this
    have wl : ((cs.map fun c => S (stem ++ [c])) ++ cs.map fun c => S (stem ++ [c] ++ [c0])).length = 52 := by rw [List.length_append, List.length_map, List.length_map, cl]
    have e35 : Same H3 (upd H5 W (.lst (((cs.map fun c => S (stem ++ [c])) ++ cs.map fun c => S (stem ++ [c] ++ [c0])).map V.str))) := Same.new (e4.trans e5) hW
    have W6 : upd H5 W (.lst (((cs.map fun c => S (stem ++ [c])) ++ cs.map fun c => S (stem ++ [c] ++ [c0])).map V.str)) W = some (.lst (((cs.map fun c => S (stem ++ [c])) ++ cs.map fun c => S (stem ++ [c] ++ [c0])).map V.str)) := upd_same
    generalize upd H5 W (.lst (((cs.map fun c => S (stem ++ [c])) ++ cs.map fun c => S (stem ++ [c] ++ [c0])).map V.str)) = H6 at *
    generalize ((cs.map fun c => S (stem ++ [c])) ++ cs.map fun c => S (stem ++ [c] ++ [c0])) = ws at *
    have k6 := k3.trans (Keep.of e35)
    walk_at "go"
    refine ⟨b, h, ns, _, rfl, B3.same e35, by decide, by decide, fun r2 H7 _ _ B7 k7 => ?_⟩
    have hp7 : LS H7 p xs := LS.k hp (k6.trans k7)
    have W7 : H7 W = some (.lst (ws.map V.str)) := k7 _ _ W6 (hard_strs _)
    walk_at "go"
    by_cases hr2 : r2 = 0
    · subst hr2
      refine k_iteY (decide_eq_true rfl) ?_
      walk_at "go"
      refine ⟨b, h, ns, p, xs.map V.str, rfl, B7, .inl hp7, hom_strs _, by rw [List.length_map]; omega, fun M ys H8 k8 B8 nM hM pM => ?_⟩
      walk_at "go"
      have W8 : H8 W = some (.lst (ws.map V.str)) := k8 _ _ W7 (hard_strs _)
      have hp8 : LS H8 p xs := LS.k hp7 k8
      obtain ⟨zs, rfl, pz⟩ := strs_perm pM
      refine ⟨W, rfl, ?_⟩
      refine lFlt (xs := ws) (ys := xs) (.inl (.inl W8)) (fun H9 e9 => .inl (.inl (.inl (e9 _ _ hp8)))) (by omega) (fun _ => rfl) (fun _ => rfl) (fun _ => rfl) fun D9 H9 hD9 e9 hd9 => ?_
      have fle : (ws.filter fun z => !decide (z ∈ xs)).length ≤ 52 := by rw [← wl]; exact List.length_filter_le _ _
      have zl := pz.length_eq
      refine ⟨M, D9, _, _, rfl, rfl, e9 _ _ hM, hd9, by rw [List.length_map, List.length_map]; omega, fun X hX => ?_⟩
      rw [← List.map_append]
      walk_at "go"
      refine ⟨X, _, rfl, .inl (.inl upd_same), fun R hR => ?_⟩
      rw [cut_take, ← List.map_take]
      have e10 : Same H8 (upd (upd H9 X (.lst ((zs ++ ws.filter fun z => !decide (z ∈ xs)).map V.str))) R (.lst (((zs ++ ws.filter fun z => !decide (z ∈ xs)).take n).map V.str))) := Same.new (Same.new e9 hX) hR
      have flen := filter_len (ws := ws) (old := xs) nl.nd
      refine q R _ _ (((k6.trans k7).trans k8).trans (Keep.of e10)) (B8.same e10) upd_same (NmL.take ⟨fun z hz => ?_, List.nodup_append.mpr ⟨pz.nodup_iff.mpr nx.nd, nl.nd.sublist List.filter_sublist, fun x hx y hy e => ?_⟩⟩ n) ?_
      · rcases List.mem_append.mp hz with k | k
        · exact nx.nm z (pz.subset k)
        · exact nl.nm z (List.mem_filter.mp k).1
      · have h1 := (List.mem_filter.mp hy).2
        rw [← e, decide_eq_true (pz.subset hx)] at h1
        cases h1
      · rw [List.length_take, List.length_append]
        omega
    · refine k_iteZ (decide_eq_false fun e => hr2 (V.int.inj e)) ?_
      walk_at "go"
      refine ⟨W, _, rfl, .inl (.inl W7), fun R hR => ?_⟩
      rw [cut_take, ← List.map_take]
      have e8 : Same H7 (upd H7 R (.lst ((ws.take n).map V.str))) := Same.new (Same.refl _) hR
      exact q R (ws.take n) _ ((k6.trans k7).trans (Keep.of e8)) (B7.same e8) upd_same (nl.take n) (by rw [List.length_take]; omega)
  have k02 := k1.trans k2
  have hL2 := LS.k hL k2
  by_cases hr : 0 < r
  · refine k_iteY (decide_eq_true hr) ?_
    walk_at "go"
    refine ⟨b, h, ns, _, rfl, B2, by decide, by decide, fun r3 H3 r30 r31 B3 k3 => ?_⟩
    walk_at "go"
    refine ⟨b, h, ns, r3.toNat, by rw [Int.toNat_of_nonneg r30] <;> rfl, B3, by omega, fun z H4 zl zc k4 B4 => ?_⟩
    have := key (cp z) H4 (by omega) zc ((k02.trans k3).trans k4) B4 (LS.k (LS.k hL2 k3) k4)
    rw [S_tl] at this
    exact this
  · refine k_iteZ (decide_eq_false hr) ?_
    have := key [] H2 (by decide) (fun _ h => by cases h) k02 B2 hL2
    rw [show S [] = Str.ofString "" by decide +kernel] at this
    exact this
theorem rd_law_names (h : sp_law_names a vs H Q E) : t_law_names a { nx := fun _ H' => Q .non H', rt := Q } (start n_law_names vs) H := by
  obtain ⟨b, h, ns, n, rfl, B, hn1, hn, q⟩ := h
  have lb := line_big
  unfold t_law_names
  walk_at "go"
  refine ⟨b, h, ns, 7, rfl, B, by decide, fun L cs H1 k1 B1 cl cn cc hL => ?_⟩
  walk_at "go"
  refine ⟨b, h, ns, _, rfl, B1, by decide, by decide, fun r H2 r0 r1 B2 k2 => ?_⟩
  walk_at "go"
  refine ⟨by rw [lb]; simp, fun t ht => ?_⟩
  walk_at "go"
  refine ⟨t, _, rfl, .inl (.inl upd_same), rfl, ?_⟩
  have e3 : Same H2 (upd H2 t (.tup [.ref L, .int r])) := Same.new (Same.refl _) ht
  have B3 := B2.same e3
  have hL3 := LS.k (LS.k hL k2) (Keep.of e3)
  have k3 : Keep H _ := (k1.trans k2).trans (Keep.of e3)
  generalize upd H2 t (.tup [.ref L, .int r]) = H3 at *
  walk_at "go"
  have tkl : ((cs.take n).map fun c => S [c]).length = n := by rw [List.length_map, List.length_take]; omega
  have tnd : (cs.take n).Nodup := cn.sublist (List.take_sublist _ _)
  have tcc : ∀ c ∈ cs.take n, 97 ≤ c ∧ c ≤ 122 := fun c hc => cc c (List.mem_of_mem_take hc)
  have ectk : cutV ((cs.map fun c => S [c]).map V.str) none (some ((n : Nat) : Int)) = ((cs.take n).map fun c => S [c]).map V.str := by rw [cut_take, ← List.map_take, ← List.map_take]
  by_cases hr0 : r = 0
  · subst hr0
    refine k_iteY (decide_eq_true rfl) ?_
    walk_at "go"
    refine ⟨b, h, ns, _, rfl, B3, by decide, by decide, fun r4 H4 r40 r41 B4 k4 => ?_⟩
    walk_at "go"
    refine ⟨b, h, ns, r4.toNat, by rw [Int.toNat_of_nonneg r40] <;> rfl, B4, by omega, fun z H5 zl zc k5 B5 => ?_⟩
    have zl2 := len_cp z
    walk_at "go"
    refine ⟨z, rfl, by omega, ?_⟩
    walk_at "go"
    refine ⟨b, h, ns, _, rfl, B5, by omega, by omega, fun at_ H6 a0 a1 B6 k6 => ?_⟩
    obtain ⟨m, rfl⟩ : ∃ m : Nat, at_ = (m : Nat) := ⟨at_.toNat, by omega⟩
    have hL6 := LS.k (LS.k (LS.k hL3 k4) k5) k6
    walk_at "go"
    refine ⟨L, _, rfl, .inl (.inl hL6), fun M hM => ?_⟩
    rw [ectk]
    have e7 : Same H6 (upd H6 M (.lst (((cs.take n).map fun c => S [c]).map V.str))) := Same.new (Same.refl _) hM
    have M7 : upd H6 M (.lst (((cs.take n).map fun c => S [c]).map V.str)) M = some (.lst (((cs.take n).map fun c => S [c]).map V.str)) := upd_same
    generalize upd H6 M (.lst (((cs.take n).map fun c => S [c]).map V.str)) = H7 at *
    refine ⟨M, rfl, ?_⟩
    refine lL (.inl (.inl M7)) (fun i => (((cs.take n).take i).map fun c => S ((cp z).take m ++ [c] ++ (cp z).drop m)).map V.str) rfl (fun i v D H8 hD hv e hd => ?_) fun D H8 hD e8 hd => ?_
    · obtain ⟨y, hy, rfl⟩ := map_get hv
      obtain ⟨c, hc, rfl⟩ := map_get hy
      walk_at "go"
      refine ⟨z, rfl, by omega, ?_⟩
      rw [cutS_take]
      walk_at "go"
      refine ⟨_, _, rfl, rfl, by rw [S_len, show (S [c]).length = 1 from rfl, List.length_take]; omega, ?_⟩
      rw [S_cat]
      walk_at "go"
      refine ⟨z, rfl, by omega, ?_⟩
      rw [cutS_drop]
      refine ⟨_, _, rfl, rfl, by rw [S_len, S_len, List.length_append, List.length_take, List.length_drop, List.length_singleton]; omega, ?_⟩
      rw [S_cat]
      exact lc_add e hD hd (by rw [List.length_map, List.length_map]; have := len_take_le (cs.take n) i; have := len_take_le cs n; omega) (by rw [map_take_snoc _ hc, List.map_append] <;> rfl)
    rw [List.length_map, List.length_map, take_full] at hd
    have nl := mid_nmL (pre := (cp z).take m) (post := (cp z).drop m) tnd tcc (fun d hd => zc d (List.mem_of_mem_take hd)) (fun d hd => zc d (List.mem_of_mem_drop hd)) (by rw [List.length_take, List.length_drop]; omega)
    exact q D _ H8 ((((k3.trans k4).trans k5).trans k6).trans (Keep.of (e7.trans e8))) (B6.same (e7.trans e8)) hd nl (by rw [List.length_map, List.length_take]; omega)
  refine k_iteZ (decide_eq_false fun e => hr0 (V.int.inj e)) ?_
  walk_at "go"
  by_cases hr1 : r = 1
  · subst hr1
    refine k_iteY (decide_eq_true rfl) ?_
    walk_at "go"
    refine ⟨L, _, rfl, .inl (.inl hL3), fun M hM => ?_⟩
    rw [ectk]
    have e7 : Same H3 (upd H3 M (.lst (((cs.take n).map fun c => S [c]).map V.str))) := Same.new (Same.refl _) hM
    have M7 : LS (upd H3 M (.lst (((cs.take n).map fun c => S [c]).map V.str))) M ((cs.take n).map fun c => S [c]) := upd_same
    generalize upd H3 M (.lst (((cs.take n).map fun c => S [c]).map V.str)) = H7 at *
    have B7 := B3.same e7
    refine ⟨M, rfl, ?_⟩
    refine gL (.inl (.inl M7)) (fun i D H8 => Keep H7 H8 ∧ Bag b h ns H8 ∧ ∃ xs : List Str, All2 Ends xs ((cs.take n).take i) ∧ LS H8 D xs) (fun D hD => ⟨Keep.of (Same.new (Same.refl _) hD), B7.same (Same.new (Same.refl _) hD), [], by simp [All2], upd_same⟩) (fun i D H8 c => .inl (.inl (LS.k M7 c.1))) (fun i v D H8 hD hv c => ?_) fun D H8 hD c => ?_
    · obtain ⟨k8, B8, xs, hA, hd⟩ := c
      obtain ⟨y, hy, rfl⟩ := map_get hv
      obtain ⟨c, hc, rfl⟩ := map_get hy
      walk_at "go"
      refine ⟨b, h, ns, _, rfl, B8, by decide, by decide, fun r4 H9 r40 r41 B9 k9 => ?_⟩
      walk_at "go"
      refine ⟨b, h, ns, r4.toNat, by rw [Int.toNat_of_nonneg r40] <;> rfl, B9, by omega, fun z H10 zl zc k10 B10 => ?_⟩
      have zl2 := len_cp z
      walk_at "go"
      refine ⟨z, S [c], rfl, rfl, by rw [show (S [c]).length = 1 from rfl]; omega, ?_⟩
      have hd10 : LS H10 D xs := LS.k (LS.k hd k9) k10
      have xl := hA.len
      have tl1 := len_take_le (cs.take n) i
      have tl2 := len_take_le cs n
      refine ⟨_, hd10, by rw [List.length_map]; omega, kadd ((k8.trans k9).trans k10) hD, B10.upd (B7.ne hD).1 (B7.ne hD).2, xs ++ [z ++ S [c]], ?_, ?_⟩
      · rw [take_snoc hc]
        refine hA.snoc ⟨cp z, by rw [← S_cat, S_tl], by omega, zc, tcc c (List.mem_of_getElem? hc)⟩
      · show upd _ _ _ _ = _
        rw [upd_same, List.map_append] <;> rfl
    · obtain ⟨k8, B8, xs, hA, hd⟩ := c
      rw [List.length_map, List.length_map, take_full] at hA
      have xl := hA.len
      rw [List.length_take] at xl
      exact q D xs H8 (k3.trans ((Keep.of e7).trans k8)) B8 hd (ends_nmL hA tnd) (by omega)
  refine k_iteZ (decide_eq_false fun e => hr1 (V.int.inj e)) ?_
  walk_at "go"
  by_cases hr2 : r = 2
  · subst hr2
    refine k_iteY (decide_eq_true rfl) ?_
    walk_at "go"
    refine ⟨_, rfl, by omega, by omega, ?_⟩
    rw [Int.toNat_natCast]
    refine lR (fun i => ((List.range i).map (rep6 cs)).map V.str) rfl (fun i v D H4 hD hv e hd => ?_) fun D H4 hD e4 hd => ?_
    · obtain ⟨hi, rfl⟩ := hv
      walk_at "go"
      rw [Int.zero_add]
      refine ⟨_, _, rfl, rfl, ⟨by decide, by decide⟩, ?_⟩
      have hlt : i / 6 < cs.length := by omega
      refine ⟨L, _, _, .str (S [cs.getD (i / 6) 97]), rfl, rfl, .inl (.inl (e _ _ hL3)), ?_, ?_⟩
      · rw [show ((i : Nat) : Int) / 6 = ((i / 6 : Nat) : Int) by omega, Fd.atI_nat, List.getElem?_map, List.getElem?_map, List.getElem?_eq_getElem hlt, List.getD_eq_getElem?_getD, List.getElem?_eq_getElem hlt] <;> rfl
      walk_at "go"
      refine .inl ⟨_, rfl, ?_⟩
      refine ⟨_, _, rfl, rfl, (by show (0 : Int) < _; decide), ?_⟩
      walk_at "go"
      have em : ((i : Nat) : Int) % 6 + 1 = ((i % 6 + 1 : Nat) : Int) := by omega
      rw [em]
      refine ⟨_, _, rfl, rfl, mulOk1 _ _ (by omega) (by omega), ?_⟩
      rw [mul1]
      exact lc_add e hD hd (by rw [List.length_map, List.length_map, List.length_range]; omega) (by rw [List.range_succ, List.map_append, List.map_append] <;> rfl)
    walk_at "go"
    refine ⟨b, h, ns, D, _, rfl, B3.same e4, .inl hd, hom_strs _, by rw [List.length_map, List.length_map, List.length_range]; omega, fun M ys H5 k5 B5 nM hM pM => ?_⟩
    obtain ⟨zs, rfl, pz⟩ := strs_perm pM
    have nl := rep6_nmL (n := n) cn cl cc hn
    exact q M zs H5 ((k3.trans (Keep.of e4)).trans k5) B5 hM (nl.perm pz) (by rw [pz.length_eq, List.length_map, List.length_range])
  refine k_iteZ (decide_eq_false fun e => hr2 (V.int.inj e)) ?_
  walk_at "go"
  by_cases hr3 : r = 3
  · subst hr3
    refine k_iteY (decide_eq_true rfl) ?_
    walk_at "go"
    refine ⟨by rw [lb]; simp, fun l hl => ?_⟩
    walk_at "go"
    have e4 : Same H3 (upd H3 l (.lst ((["self", "row", "book", "lot", "even", "a", "b", "order", "none", "true", "pro", "group"] : List Str).map V.str))) := Same.new (Same.refl _) hl
    refine ⟨b, h, ns, l, (["self", "row", "book", "lot", "even", "a", "b", "order", "none", "true", "pro", "group"] : List Str).map V.str, rfl, B3.same e4, .inl upd_same, hom_strs _, by decide, fun M ys H5 k5 B5 nM hM pM => ?_⟩
    obtain ⟨zs, rfl, pz⟩ := strs_perm pM
    walk_at "go"
    refine ⟨M, _, rfl, .inl (.inl hM), fun R hR => ?_⟩
    rw [cut_take, ← List.map_take]
    have e6 : Same H5 (upd H5 R (.lst ((zs.take n).map V.str))) := Same.new (Same.refl _) hR
    have nl : NmL zs := NmL.perm ⟨known_nm, known_nd⟩ pz
    have zl := pz.length_eq
    exact q R (zs.take n) _ (((k3.trans (Keep.of e4)).trans k5).trans (Keep.of e6)) (B5.same e6) upd_same (nl.take n) (by rw [List.length_take, zl]; show min n 12 = n; omega)
  refine k_iteZ (decide_eq_false fun e => hr3 (V.int.inj e)) ?_
  walk_at "go"
  refine ⟨Nat.zero_le _, fun F hF => ?_⟩
  walk_at "go"
  have e4 : Same H3 (upd H3 F (.lst [])) := Same.new (Same.refl _) hF
  refine ⟨_, rfl, by omega, by omega, ?_⟩
  rw [Int.toNat_natCast]
  refine for_range (fun i σ H4 => Keep H3 H4 ∧ Bag b h ns H4 ∧ i ≤ n ∧ ∃ xs : List Str, LS H4 F xs ∧ NmL xs ∧ xs.length = i ∧ ∃ u v w x, σ = [some (.ref b), some (.int (n : Nat)), some (.ref L), some (.int r), none, none, none, some (.ref F), u, v, w, x]) ⟨Keep.of e4, B3.same e4, Nat.zero_le _, [], upd_same, ⟨(fun _ h => by cases h), List.nodup_nil⟩, rfl, _, _, _, _, rfl⟩ (fun i σ H4 hi c => ?_) fun σ H4 c => ?_
  · obtain ⟨k4, B4, _, xs, hxs, nx, xl, u, v, w, x, rfl⟩ := c
    walk_at "go"
    refine ⟨b, h, ns, _, rfl, B4, by decide, by decide, fun r5 H5 r50 r51 B5 k5 => ?_⟩
    walk_at "go"
    refine ⟨b, h, ns, (1 + r5).toNat, by rw [Int.toNat_of_nonneg (by omega)] <;> rfl, B5, by omega, fun z H6 zl zc k6 B6 => ?_⟩
    walk_at "go"
    refine ⟨by rw [lb]; simp, fun Z hZ => ?_⟩
    have e7 : Same H6 (upd H6 Z (.lst [.str z])) := Same.new (Same.refl _) hZ
    have Z7 : upd H6 Z (.lst [.str z]) Z = some (.lst [.str z]) := upd_same
    have hL6 := LS.k (LS.k (LS.k hL3 k4) k5) k6
    have hL7 := e7 _ _ hL6
    have hx6 := LS.k (LS.k hxs k5) k6
    have hx7 := e7 _ _ hx6
    generalize upd H6 Z (.lst [.str z]) = H7 at *
    walk_at "go"
    refine ⟨L, rfl, ?_⟩
    refine lL (.inl (.inl hL7)) (fun i => ((cs.take i).map fun c => S (List.replicate 6 c)).map V.str) rfl (fun i v D H8 hD hv e hd => ?_) fun D H8 hD e8 hd => ?_
    · obtain ⟨y, hy, rfl⟩ := map_get hv
      obtain ⟨c, hc, rfl⟩ := map_get hy
      walk_at "go"
      refine ⟨S [c], _, rfl, rfl, mulOk1 c 6 (by decide) (by decide), ?_⟩
      rw [show (6 : Int) = ((6 : Nat) : Int) from rfl, mul1]
      exact lc_add e hD hd (by rw [List.length_map, List.length_map]; have := len_take_le cs i; omega) (by rw [map_take_snoc _ hc, List.map_append] <;> rfl)
    rw [List.length_map, List.length_map, take_full] at hd
    refine ⟨Z, D, _, _, rfl, rfl, e8 _ _ Z7, hd, by simp only [List.length_map, List.length_cons, List.length_nil]; omega, fun W hW => ?_⟩
    walk_at "go"
    have e9 : Same H8 (upd H8 W (.lst ([V.str z] ++ (cs.map fun c => S (List.replicate 6 c)).map V.str))) := Same.new (Same.refl _) hW
    have W9 : upd H8 W (.lst ([V.str z] ++ (cs.map fun c => S (List.replicate 6 c)).map V.str)) W = some (.lst ((z :: cs.map fun c => S (List.replicate 6 c)).map V.str)) := upd_same
    have F9 := (e8.trans e9) _ _ hx7
    generalize upd H8 W (.lst ([V.str z] ++ (cs.map fun c => S (List.replicate 6 c)).map V.str)) = H9 at *
    refine ⟨.inl ⟨rfl, _, .inl (.inl F9)⟩, ?_⟩
    walk_at "go"
    refine ⟨W, rfl, ?_⟩
    refine lFlt (xs := z :: cs.map fun c => S (List.replicate 6 c)) (ys := xs) (.inl (.inl W9)) (fun H10 e10 => .inl (.inl (.inl (e10 _ _ F9)))) (by rw [List.length_cons, List.length_map]; omega) (fun _ => rfl) (fun _ => rfl) (fun _ => rfl) fun D2 H10 hD2 e10 hd10 => ?_
    walk_at "go"
    have snd : (cs.map fun c => S (List.replicate 6 c)).Nodup := by
      rw [List.nodup_iff_pairwise_ne, List.pairwise_map]
      refine (List.nodup_iff_pairwise_ne.mp cn).imp fun {c d} hne e => hne ?_
      have := congrArg List.head? (S_inj e)
      simpa using this
    have hne : ((z :: cs.map fun c => S (List.replicate 6 c)).filter fun z => !decide (z ∈ xs)) ≠ [] := fun e => by
      have f1 := free_one (ws := cs.map fun c => S (List.replicate 6 c)) (old := xs) snd (by rw [List.length_map]; omega)
      rw [List.filter_cons] at e
      split at e
      · cases e
      · exact f1 e
    obtain ⟨y, r', er⟩ := cons_of_ne hne
    have hy : y ∈ (z :: cs.map fun c => S (List.replicate 6 c)).filter fun z => !decide (z ∈ xs) := by rw [er]; simp
    have hy1 := List.mem_filter.mp hy
    rw [er] at hd10
    refine ⟨D2, _, _, .str y, rfl, rfl, .inl (.inl hd10), at0, ?_⟩
    have F10 := e10 _ _ F9
    have yn : isNm y := by
      rcases List.mem_cons.mp hy1.1 with e | hm
      · rw [e]
        exact ⟨by omega, by omega, zc⟩
      · obtain ⟨c, hc, e⟩ := List.mem_map.mp hm
        rw [← e]
        exact rep_nm (by decide) (by decide) (cc c hc)
    have yx : y ∉ xs := fun hm => by
      have := hy1.2
      rw [decide_eq_true hm] at this
      cases this
    have e610 : Same H6 H10 := ((e7.trans e8).trans e9).trans e10
    refine ⟨F, _, _, rfl, rfl, F10, by rw [List.length_map]; omega, ?_⟩
    refine ⟨kadd (((k4.trans k5).trans k6).trans (Keep.of e610)) hF, (B6.same e610).upd (B3.ne hF).1 (B3.ne hF).2, by omega, xs ++ [y], ?_, ⟨fun w hw => ?_, ?_⟩, by rw [List.length_append, xl] <;> rfl, _, _, _, _, rfl⟩
    · show upd _ _ _ _ = _
      rw [upd_same, List.map_append] <;> rfl
    · rcases List.mem_append.mp hw with k | k
      · exact nx.nm w k
      · rw [List.mem_singleton.mp k]
        exact yn
    · refine List.nodup_append.mpr ⟨nx.nd, by simp, fun w hw w2 hw2 e => yx ?_⟩
      rw [← List.mem_singleton.mp hw2, ← e]
      exact hw
  · obtain ⟨k4, B4, _, xs, hxs, nx, xl, u, v, w, x, rfl⟩ := c
    walk_at "go"
    exact q F xs H4 (k3.trans k4) B4 hxs nx xl
end
end Fd
set_option Elab.async false
set_option linter.all false
set_option maxRecDepth 100000
set_option maxHeartbeats 4000000
/-! ### FdGrp: groups by bits -/
namespace Fd
open PySem PySem.Spec PyProof.Rows L2 SX
theorem bit_test (p k : Nat) : decide (V.int (Builtin.bitAnd (((p : Nat) : Int) / 2 ^ ((k : Nat) : Int).toNat) 1) = V.int 1) = bitN p k := by
  rw [bitAnd_m1, Int.toNat_natCast]
  unfold bitN
  rw [Nat.testBit_eq_decide_div_mod_eq]
  refine decide_eq_decide.mpr ⟨fun h => ?_, fun h => ?_⟩
  · have := V.int.inj h
    have e : ((p : Nat) : Int) / 2 ^ k = ((p / 2 ^ k : Nat) : Int) := by simp
    rw [e] at this
    omega
  · have e : ((p : Nat) : Int) / 2 ^ k = ((p / 2 ^ k : Nat) : Int) := by simp
    rw [e]
    exact congrArg V.int (by omega)
theorem disj_iff {a b : Nat} : a &&& b = 0 ↔ ∀ k, ¬ (bitN a k = true ∧ bitN b k = true) := by
  constructor
  · intro h k ⟨h1, h2⟩
    have := congrArg (fun n => Nat.testBit n k) h
    simp only [Nat.testBit_and, Nat.zero_testBit] at this
    unfold bitN at h1 h2
    rw [h1, h2] at this
    cases this
  · intro h
    apply Nat.eq_of_testBit_eq
    intro k
    rw [Nat.testBit_and, Nat.zero_testBit]
    have := h k
    unfold bitN at this
    cases h1 : a.testBit k <;> cases h2 : b.testBit k <;> simp_all
theorem PrV.zero (n : Nat) : PrV n (0, 0) := ⟨Nat.two_pow_pos n, Nat.two_pow_pos n, rfl⟩
theorem PrV.flip {n : Nat} {p : Pr} (h : PrV n p) : PrV n (flipP p) := ⟨h.l2, h.l1, by rw [flipP, Nat.and_comm]; exact h.dj⟩
theorem PrV.up {n m : Nat} {p : Pr} (h : PrV n p) (l : n ≤ m) : PrV m p := ⟨Nat.lt_of_lt_of_le h.l1 (Nat.pow_le_pow_right (by decide) l), Nat.lt_of_lt_of_le h.l2 (Nat.pow_le_pow_right (by decide) l), h.dj⟩
theorem lt_bit {a n k : Nat} (h : a < 2 ^ n) (hk : bitN a k = true) : k < n := by
  cases Nat.lt_or_ge k n with
  | inl h => exact h
  | inr hge =>
    have : a < 2 ^ k := Nat.lt_of_lt_of_le h (Nat.pow_le_pow_right (by decide) hge)
    unfold bitN at hk
    rw [Nat.testBit_lt_two_pow this] at hk
    cases hk
theorem PrV.add1 {n : Nat} {p : Pr} (h : PrV n p) : PrV (n + 1) (p.1 ||| 2 ^ n, p.2) := by
  refine ⟨Nat.or_lt_two_pow (h.up (Nat.le_succ n)).l1 (Nat.pow_lt_pow_right (by decide) (Nat.lt_succ_self n)), (h.up (Nat.le_succ n)).l2, disj_iff.mpr fun k ⟨h1, h2⟩ => ?_⟩
  have hk := lt_bit h.l2 h2
  unfold bitN at h1
  rw [Nat.testBit_or, Nat.testBit_two_pow] at h1
  rw [decide_eq_false (by omega), Bool.or_false] at h1
  exact disj_iff.mp h.dj k ⟨h1, h2⟩
theorem PrV.add2 {n : Nat} {p : Pr} (h : PrV n p) : PrV (n + 1) (p.1, p.2 ||| 2 ^ n) := by
  have := (h.flip).add1.flip
  exact this
theorem PrV.both {n : Nat} {p q : Pr} (h : PrV n p) (k : PrV n q) : PrV n (minusN (p.1 ||| q.1) (p.2 ||| q.2), p.2 ||| q.2) := by
  refine ⟨?_, Nat.or_lt_two_pow h.l2 k.l2, disj_iff.mpr fun i ⟨h1, h2⟩ => ?_⟩
  · have := Nat.or_lt_two_pow h.l1 k.l1
    have e : minusN (p.1 ||| q.1) (p.2 ||| q.2) ≤ p.1 ||| q.1 := Nat.sub_le _ _
    exact Nat.lt_of_le_of_lt e this
  · unfold bitN at h1 h2
    rw [minus_bit, h2] at h1
    simp at h1
/-- groups -/
theorem getD_at {xs : List Str} {k : Nat} (h : k < xs.length) : xs[k]? = some (xs.getD k Str.empty) := by
  rw [List.getD_eq_getElem?_getD, List.getElem?_eq_getElem h] <;> rfl
theorem range_names (xs : List Str) : (List.range xs.length).map (fun k => xs.getD k Str.empty) = xs := by
  apply List.ext_getElem?
  intro i
  rw [List.getElem?_map]
  by_cases h : i < xs.length
  · rw [List.getElem?_range h, getD_at h] <;> rfl
  · rw [List.getElem?_eq_none (by rw [List.length_range]; omega), List.getElem?_eq_none (by omega)] <;> rfl
theorem grp_sub (xs : List Str) (m : Nat) : (grp xs m).Sublist xs := by
  have h : (grp xs m).Sublist ((List.range xs.length).map fun k => xs.getD k Str.empty) := List.filter_sublist.map _
  rw [range_names] at h
  exact h
theorem grp_srt {xs : List Str} (h : Srt xs) (m : Nat) : Srt (grp xs m) := h.sublist (grp_sub xs m)
theorem grp_mem_sub {xs : List Str} {m : Nat} {z : Str} (h : z ∈ grp xs m) : z ∈ xs := (grp_sub xs m).subset h
theorem grp_at {xs : List Str} (nd : xs.Nodup) {k m : Nat} (hk : k < xs.length) : xs.getD k Str.empty ∈ grp xs m ↔ bitN m k = true := by
  unfold grp
  constructor
  · intro h
    obtain ⟨j, hj, e⟩ := List.mem_map.mp h
    obtain ⟨hj1, hj2⟩ := List.mem_filter.mp hj
    have hj1 := List.mem_range.mp hj1
    have e2 : xs[j]? = xs[k]? := by rw [getD_at hj1, getD_at hk, e]
    have := (List.getElem?_inj hj1 nd).mp e2
    rw [← this]
    exact hj2
  · intro h
    exact List.mem_map.mpr ⟨k, List.mem_filter.mpr ⟨List.mem_range.mpr hk, h⟩, rfl⟩
theorem mem_at {xs : List Str} {z : Str} (h : z ∈ xs) : ∃ k, k < xs.length ∧ z = xs.getD k Str.empty := by
  obtain ⟨k, hk, e⟩ := List.mem_iff_getElem.mp h
  refine ⟨k, hk, ?_⟩
  rw [List.getD_eq_getElem?_getD, List.getElem?_eq_getElem hk, e] <;> rfl
theorem grp_disj {xs : List Str} (nd : xs.Nodup) {p q : Nat} (h : p &&& q = 0) : ∀ z ∈ grp xs p, z ∉ grp xs q := fun z h1 h2 => by
  obtain ⟨k, hk, rfl⟩ := mem_at (grp_mem_sub h1)
  exact disj_iff.mp h k ⟨(grp_at nd hk).mp h1, (grp_at nd hk).mp h2⟩
theorem grp_nodup {xs : List Str} (nd : xs.Nodup) (m : Nat) : (grp xs m).Nodup := nd.sublist (grp_sub xs m)
theorem grp_app_nodup {xs : List Str} (nd : xs.Nodup) {p q : Nat} (h : p &&& q = 0) : (grp xs p ++ grp xs q).Nodup := List.nodup_append.mpr ⟨grp_nodup nd p, grp_nodup nd q, fun z hz y hy e => grp_disj nd h z hz (by rw [e]; exact hy)⟩
theorem grp_or {xs : List Str} (sx : Srt xs) {p q : Nat} (h : p &&& q = 0) : rowNamed (grp xs p) (grp xs q) = grp xs (p ||| q) := by
  have nd := sx.nodup
  unfold rowNamed
  refine isort_of ?_ (grp_srt sx _)
  refine (List.perm_ext_iff_of_nodup (grp_app_nodup nd h) (grp_nodup nd _)).mpr fun z => ?_
  rw [List.mem_append]
  constructor
  · rintro (k | k)
    · obtain ⟨i, hi, rfl⟩ := mem_at (grp_mem_sub k)
      have := (grp_at nd hi).mp k
      refine (grp_at nd hi).mpr ?_
      unfold bitN at this ⊢
      rw [Nat.testBit_or, this] <;> rfl
    · obtain ⟨i, hi, rfl⟩ := mem_at (grp_mem_sub k)
      have := (grp_at nd hi).mp k
      refine (grp_at nd hi).mpr ?_
      unfold bitN at this ⊢
      rw [Nat.testBit_or, this, Bool.or_true]
  · intro k
    obtain ⟨i, hi, rfl⟩ := mem_at (grp_mem_sub k)
    have := (grp_at nd hi).mp k
    unfold bitN at this
    rw [Nat.testBit_or, Bool.or_eq_true] at this
    rcases this with t | t
    · exact .inl ((grp_at nd hi).mpr t)
    · exact .inr ((grp_at nd hi).mpr t)
theorem grp_len (xs : List Str) (m : Nat) : (grp xs m).length ≤ xs.length := (grp_sub xs m).length_le
theorem row_of {xs : List Str} (nx : NmL xs) (sx : Srt xs) (l7 : xs.length ≤ 7) {p : Pr} (h : PrV xs.length p) : RowV (grp xs p.1) (grp xs p.2) := by
  have e := grp_or sx h.dj
  have l := grp_len xs (p.1 ||| p.2)
  rw [← e] at l
  unfold rowNamed at l
  rw [isort_len] at l
  exact ⟨fun z hz => nx.nm z (by rcases List.mem_append.mp hz with k | k <;> exact grp_mem_sub k), grp_app_nodup sx.nodup h.dj, grp_srt sx _, grp_srt sx _, by omega⟩
/-- records by marks and masks -/
theorem recsOf_len (xs ms : List Str) (ps : List Pr) (h : ps.length ≤ ms.length) : (recsOf xs ms ps).length = ps.length := by
  unfold recsOf
  rw [List.length_map, List.length_zip]
  omega
theorem zip_take_r {α β : Type} : ∀ (k : Nat) (ms : List α) (ps : List β), ms.zip (ps.take k) = (ms.zip ps).take k
  | 0, ms, ps => by simp
  | k + 1, [], ps => by simp
  | k + 1, _ :: _, [] => by simp
  | k + 1, m :: ms, p :: ps => by
    rw [List.take_succ_cons, List.zip_cons_cons, List.zip_cons_cons, List.take_succ_cons, zip_take_r k ms ps]
theorem recsOf_take (xs ms : List Str) (ps : List Pr) (k : Nat) : recsOf xs ms (ps.take k) = (recsOf xs ms ps).take k := by
  unfold recsOf
  rw [zip_take_r, List.map_take]
theorem recsOf_at {xs ms : List Str} {ps : List Pr} {k : Nat} {m : Str} {p : Pr} (h1 : ms[k]? = some m) (h2 : ps[k]? = some p) : (recsOf xs ms ps)[k]? = some (recOf xs m p) := by
  unfold recsOf
  rw [List.getElem?_map, (List.getElem?_zip_eq_some (z := (m, p))).mpr ⟨h1, h2⟩] <;> rfl
theorem recsOf_snoc {xs ms : List Str} {ps : List Pr} {k : Nat} {m : Str} {p : Pr} (h1 : ms[k]? = some m) (h2 : ps[k]? = some p) : recsOf xs ms (ps.take (k + 1)) = recsOf xs ms (ps.take k) ++ [recOf xs m p] := by
  rw [recsOf_take, recsOf_take, take_snoc (recsOf_at h1 h2)]
theorem recsOf_marks (xs ms : List Str) (ps : List Pr) (h : ps.length ≤ ms.length) : (recsOf xs ms ps).map (·.1) = ms.take ps.length := by
  unfold recsOf
  rw [List.map_map]
  have e : ((fun c : Rec => c.1) ∘ fun q : Str × Pr => recOf xs q.1 q.2) = Prod.fst := rfl
  rw [e]
  have : ∀ (ms : List Str) (ps : List Pr), ps.length ≤ ms.length → (ms.zip ps).map Prod.fst = ms.take ps.length := by
    intro ms ps
    induction ps generalizing ms with
    | nil => intro _; simp
    | cons p ps ih =>
      intro h
      cases ms with
      | nil => simp at h
      | cons m ms => rw [List.zip_cons_cons, List.map_cons, List.length_cons, List.take_succ_cons, ih ms (by simpa using h)]
  exact this ms ps h
theorem recs_book {xs ms : List Str} {ps : List Pr} (nx : NmL xs) (sx : Srt xs) (l1 : 1 ≤ xs.length) (l7 : xs.length ≤ 7) (nm : NmL ms) (h : ps.length ≤ ms.length) (hp : ∀ q ∈ ps, PrV xs.length q) (le : ps.length ≤ 100) : BookV xs (recsOf xs ms ps) := by
  have mem : ∀ c ∈ recsOf xs ms ps, ∃ m p, m ∈ ms ∧ p ∈ ps ∧ c = recOf xs m p := fun c hc => by
    obtain ⟨q, hq, e⟩ := List.mem_map.mp hc
    have := List.of_mem_zip (a := q.1) (b := q.2) hq
    exact ⟨q.1, q.2, this.1, this.2, e.symm⟩
  refine ⟨nx, sx, l1, l7, fun c hc => ?_, fun c hc z hz => ?_, fun c hc => ?_, ?_, by rw [recsOf_len _ _ _ h]; exact le⟩
  · obtain ⟨m, p, _, hpm, rfl⟩ := mem c hc
    exact row_of nx sx l7 (hp p hpm)
  · obtain ⟨m, p, _, hpm, rfl⟩ := mem c hc
    rcases List.mem_append.mp hz with k | k <;> exact grp_mem_sub k
  · obtain ⟨m, p, hm, _, rfl⟩ := mem c hc
    exact nm.nm m hm
  · rw [recsOf_marks _ _ _ h]
    exact nm.nd.sublist (List.take_sublist _ _)
theorem BookV.take {xs : List Str} {recs : List Rec} (h : BookV xs recs) (k : Nat) : BookV xs (recs.take k) := by
  refine ⟨h.nx, h.sx, h.lo, h.hi, fun c hc => h.rv c (List.mem_of_mem_take hc), fun c hc => h.sub c (List.mem_of_mem_take hc), fun c hc => h.mks c (List.mem_of_mem_take hc), ?_, Nat.le_trans (len_take_le _ _) h.le⟩
  rw [List.map_take]
  exact h.nd.sublist (List.take_sublist _ _)
end Fd
set_option Elab.async false
set_option linter.all false
set_option maxRecDepth 100000
set_option maxHeartbeats 4000000
/-! ### FdL4d: groups, pairs, lines -/
namespace Fd
open PySem PySem.Spec PyProof.Rows L2 SX
theorem lead_at {ks : List Nat} {p : Pr} {i k : Nat} (h : ks[i]? = some k) : leadsP (ks.drop i) p = if bitN p.1 k then true else if bitN p.2 k then false else leadsP (ks.drop (i + 1)) p := by
  have hi := (List.getElem?_eq_some_iff.mp h).1
  have e : ks.drop i = k :: ks.drop (i + 1) := by rw [List.drop_eq_getElem_cons hi, (List.getElem?_eq_some_iff.mp h).2]
  rw [e]
  rfl
theorem lead_flip {ks : List Nat} {p : Pr} (h : leadsP ks p = false) : leadsP ks (flipP p) = true := by
  induction ks with
  | nil => cases h
  | cons k l ih =>
    unfold leadsP at h ⊢
    cases h1 : bitN p.1 k with
    | true => rw [h1] at h; cases h
    | false =>
      rw [h1] at h
      cases h2 : bitN p.2 k with
      | true =>
        show (if bitN p.2 k then true else _) = true
        rw [h2] <;> rfl
      | false =>
        rw [h2] at h
        show (if bitN p.2 k then true else if bitN p.1 k then false else leadsP l (flipP p)) = true
        rw [h1, h2]
        exact ih h
theorem dp_prs {K : KF} {H : Hp} : ∀ {ts : List Addr} {ps : List Pr}, All2 (PrAt H) ts ps → DpAll K H (ts.map V.ref) (ps.map fun p => PyData.tuple [.int (p.1 : Nat), .int (p.2 : Nat)])
  | [], [], _ => .nil
  | [], _ :: _, h => h.elim
  | _ :: _, [], h => h.elim
  | _ :: _, _ :: _, h => .cons (.tup (.inl (.inl h.1)) (.cons (.int _) (.cons (.int _) .nil))) (dp_prs h.2)
theorem lay_prs : ∀ ps : List Pr, PyData.canLayAll0 (ps.map fun p => PyData.tuple [.int (p.1 : Nat), .int (p.2 : Nat)]) = true
  | [] => by simp [PyData.canLayAll0]
  | p :: ps => by
    rw [List.map_cons, PyData.canLayAll0, lay_prs ps]
    simp [PyData.canLay0, PyData.canLayAll0]
theorem depth_prs : ∀ ps : List Pr, PyData.depthAll (ps.map fun p => PyData.tuple [.int (p.1 : Nat), .int (p.2 : Nat)]) ≤ 1
  | [] => by simp [PyData.depthAll]
  | p :: ps => by
    have ih := depth_prs ps
    rw [List.map_cons, PyData.depthAll]
    simp only [PyData.depth, PyData.depthAll]
    omega
theorem ne_prs {K : KF} {H : Hp} {f e : Addr} {ps : List Pr} {Q : VK} (h : PrL H f ps) (he : H e = some (.lst [])) (q : Q (.bl (!decide (ps = []))) H) : rNeD K (.ref f) (.ref e) H Q := by
  obtain ⟨ts, h1, h2⟩ := h
  refine ⟨_, .list [], .lst (.inl (.inl h1)) (dp_prs h2), .lst (.inl (.inl he)) .nil, ?_, by decide +kernel, ?_⟩
  · unfold SeqAt.shaped
    rw [PyData.canLay0, PyData.depth, lay_prs, decide_eq_true (by have := depth_prs ps; omega)] <;> rfl
  · have : PyData.eqv (.list (ps.map fun p => PyData.tuple [.int (p.1 : Nat), .int (p.2 : Nat)])) (.list []) = decide (ps = []) := by
      cases ps with
      | nil => simp [PyData.eqv, PyData.eqvAll]
      | cons p ps => simp [PyData.eqv, PyData.eqvAll]
    rw [this]
    exact q
theorem PrAt.k {H H' : Hp} {t : Addr} {p : Pr} (h : PrAt H t p) (e : Keep H H') : PrAt H' t p := h.t e.t
theorem PrL.k {H H' : Hp} {l : Addr} {ps : List Pr} (h : PrL H l ps) (e : Keep H H') : PrL H' l ps := h.n e.n
theorem LI.k {H H' : Hp} {l : Addr} {ps : List Nat} (h : LI H l ps) (e : Keep H H') : LI H' l ps := h.n e.n
theorem LS.k' {H H' : Hp} {l : Addr} {xs : List Str} (h : LS H l xs) (e : Keep H H') : LS H' l xs := h.n e.n
section
local macro_rules | `(tactic| walk_at "sm") => `(tactic| first | exact Same.refl _ | assumption | (refine Same.new ?_ ‹_›; walk_at "sm") | (refine Same.trans ?_ ‹Same _ _›; walk_at "sm"))
local macro_rules | `(tactic| walk_at "s1") => `(tactic| first
  | with_reducible refine g_seq ?_ | with_reducible refine g_asg ?_ | with_reducible refine g_name ?_ | with_reducible refine g_cons ?_ | with_reducible refine g_nil ?_
  | ((with_reducible refine k_var ?_); refine ⟨_, rfl, ?_⟩) | with_reducible refine g_c ?_ | with_reducible refine g_op ?_ | with_reducible refine g_un ?_
  | with_reducible refine g_cb ?_ | with_reducible refine g_call ?_ | with_reducible refine g_ifS ?_ | with_reducible refine g_if ?_ | with_reducible refine g_tB ?_ | with_reducible refine g_test ?_
  | with_reducible refine k_bl ?_ | with_reducible refine k_iteT ?_ | with_reducible refine k_iteF ?_ | with_reducible refine k_iteNT ?_ | with_reducible refine k_iteNF ?_
  | with_reducible refine g_and ?_ | with_reducible refine g_or ?_ | with_reducible refine g_not ?_ | with_reducible refine g_andV ?_ | with_reducible refine g_orV ?_ | with_reducible refine g_notV ?_ | with_reducible refine g_yes ?_)
local macro_rules | `(tactic| walk_at "s2") => `(tactic| first
  | with_reducible refine g_ret ?_ | with_reducible refine g_drop ?_ | with_reducible refine g_next ?_ | with_reducible refine k_retN ?_
  | ((with_reducible refine k_I0 ?_); refine ⟨_, _, rfl, rfl, ?_⟩) | ((with_reducible refine k_U ?_); refine ⟨_, rfl, ?_⟩) | ((with_reducible refine k_eq ?_); refine ⟨rfl, ?_⟩) | ((with_reducible refine k_ne ?_); refine ⟨rfl, ?_⟩)
  | ((with_reducible refine k_isN ?_); refine ⟨rfl, ?_⟩) | ((with_reducible refine k_notN ?_); refine ⟨rfl, ?_⟩) | with_reducible refine k_chain ?_ | with_reducible refine k_fld ?_ | with_reducible refine k_sfld ?_
  | with_reducible refine k_tup ?_ | with_reducible refine k_lst ?_ | with_reducible refine k_meth ?_ | with_reducible refine k_bm ?_ | with_reducible refine k_bm0 ?_ | with_reducible refine k_m1 ?_ | with_reducible refine k_fmt ?_ | with_reducible refine k_joined ?_
  | with_reducible refine k_js0 ?_ | with_reducible refine k_js1 ?_ | with_reducible refine k_mkR ?_ | with_reducible refine k_sl ?_ | with_reducible refine k_part ?_ | with_reducible refine k_nopart ?_ | with_reducible refine k_gtup ?_
  | ((with_reducible refine k_aug ?_); refine ⟨_, rfl, ?_⟩) | ((with_reducible refine k_ipI ?_); refine ⟨_, _, rfl, rfl, ?_⟩) | with_reducible refine k_par ?_ | with_reducible refine k_din ?_ | with_reducible refine k_dnin ?_ | with_reducible refine k_dput ?_
  | with_reducible refine g_gcons ?_ | with_reducible refine g_gnil ?_ | with_reducible refine k_cval ?_ | with_reducible refine k_dnew ?_ | with_reducible refine k_isS ?_ | with_reducible refine k_int ?_ | with_reducible refine k_lcL ?_ | with_reducible refine k_lcT ?_ | with_reducible refine k_lcQ ?_ | with_reducible refine k_lcS ?_ | with_reducible refine k_lcR ?_ | with_reducible refine k_forL ?_ | with_reducible refine k_forT ?_ | with_reducible refine k_forQ ?_ | with_reducible refine k_forS ?_ | with_reducible refine k_forR ?_ | with_reducible refine k_forE ?_ | with_reducible refine k_forET ?_ | with_reducible refine k_forI ?_ | with_reducible refine k_star ?_ | with_reducible refine k_dcL ?_ | with_reducible refine k_listItems ?_ | with_reducible refine k_dget ?_ | ((with_reducible refine k_wipe ?_ ?_); exact rfl))
local macro_rules | `(tactic| walk_at "go") => `(tactic| repeat (first | walk_at "s1" | walk_at "s2"))
variable {a : Ax} {mg : Str → Option Value} (T : Top a mg) {vs : List V} {H : Hp} {Q : VK} {E : XK}
include T
theorem rd_law_group (h : sp_law_group a vs H Q E) : t_law_group a { nx := fun _ H' => Q .non H', rt := Q } (start n_law_group vs) H := by
  obtain ⟨p, xs, m, rfl, hp, l7, q⟩ := h
  have lb := line_big
  unfold t_law_group
  walk_at "go"
  refine ⟨p, _, rfl, .inl (.inl (.inl hp)), ?_⟩
  walk_at "go"
  rw [List.length_map]
  refine ⟨_, rfl, by omega, by omega, ?_⟩
  rw [Int.toNat_natCast]
  refine lR (fun i => ((List.range i).filter (bitN m)).map fun k => V.str (xs.getD k Str.empty)) rfl (fun i v D H1 hD hv e hd => ?_) fun D H1 hD e hd => ?_
  · obtain ⟨hi, rfl⟩ := hv
    rw [Int.zero_add]
    walk_at "go"
    refine ⟨_, _, rfl, rfl, (by show (0 : Int) ≤ _; omega), ?_⟩
    walk_at "go"
    rw [bit_test]
    have er : (List.range (i + 1)).filter (bitN m) = (List.range i).filter (bitN m) ++ if bitN m i = true then [i] else [] := by
      rw [List.range_succ, List.filter_append]
      by_cases hb : bitN m i = true
      · rw [if_pos hb, List.filter_cons_of_pos hb] <;> rfl
      · rw [if_neg hb, List.filter_cons_of_neg hb] <;> rfl
    have lf : ((List.range i).filter (bitN m)).length ≤ i := by
      have := List.length_filter_le (bitN m) (List.range i)
      rw [List.length_range] at this
      exact this
    cases hb : bitN m i with
    | true =>
      rw [hb, if_pos rfl] at er
      walk_at "go"
      refine ⟨p, _, _, .str (xs.getD i Str.empty), rfl, rfl, .inl (.inl (e _ _ hp)), by rw [Fd.atI_nat, List.getElem?_map, getD_at hi] <;> rfl, ?_⟩
      exact lc_add e hD hd (by rw [List.length_map]; omega) (by rw [er, List.map_append] <;> rfl)
    | false =>
      rw [hb, if_neg (by decide), List.append_nil] at er
      walk_at "go"
      exact ⟨e, by rw [er]; exact hd⟩
  · walk_at "go"
    refine ⟨D, _, rfl, .inl ⟨.inl (.inl hd), fun t ht => ?_⟩⟩
    refine q t _ (Same.new e ht) (e.free ht) ?_
    rw [upd_same]
    unfold grp
    rw [List.map_map] <;> rfl
theorem rd_law_sides (h : sp_law_sides a vs H Q E) : t_law_sides a { nx := fun _ H' => Q .non H', rt := Q } (start n_law_sides vs) H := by
  obtain ⟨b, h, ns, n, d, rfl, B, hn, d1, d2, q⟩ := h
  have lb := line_big
  unfold t_law_sides
  walk_at "go"
  refine ⟨by rw [lb]; simp, fun t ht => ?_⟩
  have e1 : Same H (upd H t (.tup [.int 0, .int 0])) := Same.new (Same.refl _) ht
  walk_at "go"
  refine ⟨t, _, rfl, .inl (.inl upd_same), rfl, ?_⟩
  generalize upd H t (.tup [.int 0, .int 0]) = H1 at *
  walk_at "go"
  refine ⟨_, rfl, by omega, by omega, ?_⟩
  rw [Int.toNat_natCast]
  refine for_range (fun i σ H2 => Keep H H2 ∧ Bag b h ns H2 ∧ ∃ p : Pr, PrV i p ∧ ∃ u v, σ = [some (.ref b), some (.int (n : Nat)), some (.int d), some (.int (p.1 : Nat)), some (.int (p.2 : Nat)), u, v]) ⟨Keep.of e1, B.same e1, (0, 0), PrV.zero 0, _, _, rfl⟩ (fun i σ H2 hi c => ?_) fun σ H2 c => ?_
  · obtain ⟨k, B2, p, hp, u, v, rfl⟩ := c
    rw [Int.zero_add]
    walk_at "go"
    refine ⟨b, h, ns, d, rfl, B2, d1, by omega, fun r H3 r0 r1 B3 k3 => ?_⟩
    walk_at "go"
    have k03 := k.trans k3
    by_cases hr0 : r = 0
    · subst hr0
      refine k_iteY (decide_eq_true rfl) ?_
      walk_at "go"
      refine ⟨1, _, rfl, rfl, ⟨by omega, by omega, by decide⟩, ?_⟩
      walk_at "go"
      rw [shl_one, bor_nn]
      refine k_iteZ (decide_eq_false (by decide)) ?_
      walk_at "go"
      exact ⟨k03, B3, _, hp.add1, _, _, rfl⟩
    refine k_iteZ (decide_eq_false fun e => hr0 (V.int.inj e)) ?_
    walk_at "go"
    by_cases hr1 : r = 1
    · subst hr1
      refine k_iteY (decide_eq_true rfl) ?_
      walk_at "go"
      refine ⟨1, _, rfl, rfl, ⟨by omega, by omega, by decide⟩, ?_⟩
      walk_at "go"
      rw [shl_one, bor_nn]
      exact ⟨k03, B3, _, hp.add2, _, _, rfl⟩
    refine k_iteZ (decide_eq_false fun e => hr1 (V.int.inj e)) ?_
    walk_at "go"
    exact ⟨k03, B3, p, hp.up (Nat.le_succ i), _, _, rfl⟩
  · obtain ⟨k, B2, p, hp, u, v, rfl⟩ := c
    walk_at "go"
    refine ⟨by rw [lb]; simp, fun r hr => ?_⟩
    have e3 : Same H2 (upd H2 r (.tup [.int (p.1 : Nat), .int (p.2 : Nat)])) := Same.new (Same.refl _) hr
    exact q r p _ (k.trans (Keep.of e3)) (B2.same e3) upd_same hp
theorem rd_law_both (h : sp_law_both a vs H Q E) : t_law_both a { nx := fun _ H' => Q .non H', rt := Q } (start n_law_both vs) H := by
  obtain ⟨t, u, n, p, r, rfl, hp, hr, vp, vr, q⟩ := h
  unfold t_law_both
  walk_at "go"
  refine ⟨t, _, _, _, rfl, rfl, .inl (.inl hp), rfl, ?_⟩
  walk_at "go"
  refine ⟨u, _, _, _, rfl, rfl, .inl (.inl hr), rfl, ?_⟩
  walk_at "go"
  rw [bor_nn]
  refine ⟨t, _, _, _, rfl, rfl, .inl (.inl hp), rfl, ?_⟩
  walk_at "go"
  refine ⟨u, _, _, _, rfl, rfl, .inl (.inl hr), rfl, ?_⟩
  walk_at "go"
  rw [bor_nn, band_not]
  refine ⟨by rw [line_big]; simp, fun x hx => ?_⟩
  exact q x (minusN (p.1 ||| r.1) (p.2 ||| r.2), p.2 ||| r.2) _ (Same.new (Same.refl _) hx) hx upd_same (vp.both vr)
theorem rd_law_leads (h : sp_law_leads a vs H Q E) : t_law_leads a { nx := fun _ H' => Q .non H', rt := Q } (start n_law_leads vs) H := by
  obtain ⟨l, t, ks, p, rfl, hl, hp, q⟩ := h
  unfold t_law_leads
  walk_at "go"
  refine ⟨l, rfl, ?_⟩
  have hs : Sq a.K H l (ks.map fun k => V.int (k : Nat)) := by
    rcases hl with h | h
    · exact .inl (.inl (.inl h))
    · exact .inr (.inl (.inl h))
  refine fQ hs (fun i σ H1 => H1 = H ∧ leadsP ks p = leadsP (ks.drop i) p ∧ ∃ u, σ = [some (.ref l), some (.ref t), u]) ⟨rfl, by rw [List.drop_zero], _, rfl⟩ (fun i v σ H1 hv c => ?_) (fun σ H1 c => ?_) (fun i σ H' h1 c => by rw [c.1]; exact h1) (fun i σ H' h1 c => by rw [c.1]; exact h1)
  · obtain ⟨eH, el, u, rfl⟩ := c
    replace eH := eH.symm
    subst eH
    obtain ⟨k, hk, rfl⟩ := map_get hv
    rw [lead_at hk] at el
    walk_at "go"
    refine ⟨t, _, _, _, rfl, rfl, .inl (.inl hp), rfl, ?_⟩
    walk_at "go"
    refine ⟨_, _, rfl, rfl, (by show (0 : Int) ≤ _; omega), ?_⟩
    walk_at "go"
    rw [bit_test]
    cases h1 : bitN p.1 k with
    | true =>
      rw [h1] at el
      walk_at "go"
      rw [el] at q
      exact q
    | false =>
      rw [h1] at el
      walk_at "go"
      refine ⟨t, _, _, _, rfl, rfl, .inl (.inl hp), rfl, ?_⟩
      walk_at "go"
      refine ⟨_, _, rfl, rfl, (by show (0 : Int) ≤ _; omega), ?_⟩
      walk_at "go"
      rw [bit_test]
      cases h2 : bitN p.2 k with
      | true =>
        rw [h2] at el
        walk_at "go"
        rw [el] at q
        exact q
      | false =>
        rw [h2] at el
        walk_at "go"
        exact ⟨rfl, el, _, rfl⟩
  · obtain ⟨eH, el, u, rfl⟩ := c
    rw [List.length_map, List.drop_length] at el
    rw [eH]
    walk_at "go"
    rw [el] at q
    exact q
theorem rd_law_drawn (h : sp_law_drawn a vs H Q E) : t_law_drawn a { nx := fun _ H' => Q .non H', rt := Q } (start n_law_drawn vs) H := by
  obtain ⟨b, h, ns, n, lo, hi, l, ks, rfl, B, hn, hlo, hhi, hl, q⟩ := h
  have lb := line_big
  unfold t_law_drawn
  walk_at "go"
  refine ⟨by rw [lb]; simp, fun P hP => ?_⟩
  have e1 : Same H (upd H P (.lst [.int 3, .int 4, .int 6, .int 3])) := Same.new (Same.refl _) hP
  have P1 : upd H P (.lst [.int 3, .int 4, .int 6, .int 3]) P = some (.lst [.int 3, .int 4, .int 6, .int 3]) := upd_same
  generalize upd H P (.lst [.int 3, .int 4, .int 6, .int 3]) = H1 at *
  walk_at "go"
  refine ⟨b, h, ns, _, rfl, B.same e1, .inr ⟨P, _, rfl, P1, fun _ _ _ _ _ z => (nomatch z), by decide, by simp, fun v H2 hv B2 k2 => ?_⟩⟩
  have hd : ∃ d : Int, 1 ≤ d ∧ d ≤ 100 ∧ v = .int d := by
    simp only [List.mem_cons, List.not_mem_nil, or_false] at hv
    rcases hv with h | h | h | h
    · exact ⟨3, by decide, by decide, h⟩
    · exact ⟨4, by decide, by decide, h⟩
    · exact ⟨6, by decide, by decide, h⟩
    · exact ⟨3, by decide, by decide, h⟩
  obtain ⟨d, d1, d2, rfl⟩ := hd
  walk_at "go"
  refine ⟨Nat.zero_le _, fun F hF => ?_⟩
  walk_at "go"
  refine ⟨_, _, rfl, ?_⟩
  have e3 : Same H2 (upd H2 F (.lst [])) := Same.new (Same.refl _) hF
  have B3 := B2.same e3
  have k3 : Keep H2 (upd H2 F (.lst [])) := Keep.of e3
  have F3 : upd H2 F (.lst []) F = some (.lst []) := upd_same
  generalize upd H2 F (.lst []) = H3 at *
  walk_at "go"
  refine ⟨b, h, ns, _, rfl, B3, by omega, by omega, fun r H4 r0 r1 B4 k4 => ?_⟩
  walk_at "go"
  refine ⟨_, rfl, by omega, by omega, ?_⟩
  have k02 : Keep H H2 := (Keep.of e1).trans k2
  obtain ⟨m, hm⟩ : ∃ m : Nat, (lo : Int) + r = (m : Nat) := ⟨((lo : Int) + r).toNat, by omega⟩
  rw [hm, Int.toNat_natCast]
  have F4 := k4 _ _ F3 (hard_strs [])
  refine for_range (fun i σ H5 => Keep H2 H5 ∧ Bag b h ns H5 ∧ ∃ ps : List Pr, PrL H5 F ps ∧ ps.length = i ∧ (∀ q ∈ ps, PrV n q) ∧ (∀ q ∈ ps, leadsP ks q = true) ∧ ∃ u v w, σ = [some (.ref b), some (.int (n : Nat)), some (.int (lo : Nat)), some (.int (hi : Nat)), some (.ref l), some (.int d), some (.ref F), u, v, w])
    ⟨k3.trans k4, B4, [], ⟨[], F4, trivial⟩, rfl, (fun _ h => by cases h), (fun _ h => by cases h), _, _, _, rfl⟩ (fun i σ H5 hi5 c => ?_) fun σ H5 c => ?_
  · obtain ⟨k5, B5, ps, hF5, pl, pv5, pd, u, v, w, rfl⟩ := c
    walk_at "go"
    refine ⟨b, h, ns, _, rfl, B5, by decide, by decide, fun act H6 a0 a1 B6 k6 => ?_⟩
    walk_at "go"
    refine ⟨b, h, ns, n, d, rfl, B6, hn, d1, d2, fun t p H7 k7 B7 hp vp => ?_⟩
    walk_at "go"
    refine ⟨_, _, rfl, ?_⟩
    have k57 := k6.trans k7
    have hF7 := PrL.k hF5 k57
    -- what stands between the ifs
    refine ⟨fun σ' H8 => Keep H2 H8 ∧ Bag b h ns H8 ∧ PrL H8 F ps ∧ ∃ (t : Addr) (p : Pr) (u : Option V), PrAt H8 t p ∧ PrV n p ∧ σ' = [some (.ref b), some (.int (n : Nat)), some (.int (lo : Nat)), some (.int (hi : Nat)), some (.ref l), some (.int d), some (.ref F), u, some (.int act), some (.ref t)], ?_, ?_⟩
    · walk_at "go"
      by_cases ha : act = 0
      · subst ha
        refine k_iteY (decide_eq_true rfl) ?_
        walk_at "go"
        refine ⟨by rw [lb]; simp, fun t2 ht2 => ?_⟩
        have e8 : Same H7 (upd H7 t2 (.tup [.int 0, .int 0])) := Same.new (Same.refl _) ht2
        exact ⟨(k5.trans k57).trans (Keep.of e8), B7.same e8, PrL.k hF7 (Keep.of e8), t2, (0, 0), _, upd_same, PrV.zero n, rfl⟩
      · refine k_iteZ (decide_eq_false fun e => ha (V.int.inj e)) ?_
        walk_at "go"
        exact ⟨k5.trans k57, B7, hF7, t, p, _, hp, vp, rfl⟩
    rintro σ' H8 ⟨k8, B8, hF8, t, p, u, hp, vp, rfl⟩
    refine ⟨fun σ' H8 => Keep H2 H8 ∧ Bag b h ns H8 ∧ PrL H8 F ps ∧ ∃ (t : Addr) (p : Pr) (u : Option V), PrAt H8 t p ∧ PrV n p ∧ σ' = [some (.ref b), some (.int (n : Nat)), some (.int (lo : Nat)), some (.int (hi : Nat)), some (.ref l), some (.int d), some (.ref F), u, some (.int act), some (.ref t)], ?_, ?_⟩
    · walk_at "go"
      refine ⟨Nat.zero_le _, fun Em hEm => ?_⟩
      have e9 : Same H8 (upd H8 Em (.lst [])) := Same.new (Same.refl _) hEm
      have hF9 := PrL.k hF8 (Keep.of e9)
      have hp9 := PrAt.k hp (Keep.of e9)
      have B9 := B8.same e9
      have k9 := k8.trans (Keep.of e9)
      refine ne_prs hF9 upd_same ?_
      generalize upd H8 Em (.lst []) = H9 at *
      by_cases hps : ps = []
      · rw [decide_eq_true hps]
        walk_at "go"
        exact ⟨k9, B9, hF9, t, p, _, hp9, vp, rfl⟩
      rw [decide_eq_false hps]
      walk_at "go"
      by_cases h0 : 0 < act
      · refine k_iteY (decide_eq_true h0) ?_
        walk_at "go"
        by_cases h4 : act < 4
        · refine k_iteY (decide_eq_true h4) ?_
          walk_at "go"
          have hF90 := hF9
          obtain ⟨ts, hts, hA⟩ := hF90
          have tl := hA.len
          have pos : 1 ≤ ps.length := List.length_pos_iff.mpr hps
          refine ⟨b, h, ns, _, rfl, B9, .inr ⟨F, ts.map V.ref, rfl, hts, hard_refs ts, by rw [List.length_map]; omega, by rw [List.length_map]; omega, fun v H10 hv B10 k10 => ?_⟩⟩
          obtain ⟨t1, ht1, rfl⟩ := List.mem_map.mp hv
          obtain ⟨j, hj, ej⟩ := List.mem_iff_getElem.mp ht1
          obtain ⟨p1, hp1, hpa1⟩ := hA.get (i := j) (a := t1) (by rw [List.getElem?_eq_getElem hj, ej])
          have vp1 := pv5 p1 (List.mem_of_getElem? hp1)
          have hpa10 := PrAt.k hpa1 k10
          have hF10 := PrL.k hF9 k10
          walk_at "go"
          by_cases h2 : act = 2
          · refine k_iteY (decide_eq_true (congrArg V.int h2)) ?_
            walk_at "go"
            refine ⟨t1, _, _, _, rfl, rfl, .inl (.inl hpa10), rfl, ?_⟩
            walk_at "go"
            refine ⟨t1, _, _, _, rfl, rfl, .inl (.inl hpa10), rfl, ?_⟩
            walk_at "go"
            refine ⟨by rw [lb]; simp, fun t2 ht2 => ?_⟩
            have e11 : Same H10 (upd H10 t2 (.tup [.int (p1.2 : Nat), .int (p1.1 : Nat)])) := Same.new (Same.refl _) ht2
            walk_at "go"
            refine k_iteZ (decide_eq_false (fun e => by have := V.int.inj e; omega)) ?_
            walk_at "go"
            exact ⟨(k9.trans k10).trans (Keep.of e11), B10.same e11, PrL.k hF10 (Keep.of e11), t2, flipP p1, _, upd_same, vp1.flip, rfl⟩
          · refine k_iteZ (decide_eq_false fun e => h2 (V.int.inj e)) ?_
            walk_at "go"
            by_cases h3 : act = 3
            · refine k_iteY (decide_eq_true (congrArg V.int h3)) ?_
              walk_at "go"
              have hF100 := hF10
              obtain ⟨ts2, hts2, hA2⟩ := hF100
              have tl2 := hA2.len
              refine ⟨b, h, ns, _, rfl, B10, .inr ⟨F, ts2.map V.ref, rfl, hts2, hard_refs ts2, by rw [List.length_map]; omega, by rw [List.length_map]; omega, fun v H11 hv B11 k11 => ?_⟩⟩
              obtain ⟨t3, ht3, rfl⟩ := List.mem_map.mp hv
              obtain ⟨j, hj, ej⟩ := List.mem_iff_getElem.mp ht3
              obtain ⟨p3, hp3, hpa3⟩ := hA2.get (i := j) (a := t3) (by rw [List.getElem?_eq_getElem hj, ej])
              have vp3 := pv5 p3 (List.mem_of_getElem? hp3)
              walk_at "go"
              refine ⟨t1, t3, n, p1, p3, rfl, PrAt.k hpa10 k11, PrAt.k hpa3 k11, vp1, vp3, fun t2 w2 H12 e12 nt2 hp12 vp12 => ?_⟩
              walk_at "go"
              exact ⟨((k9.trans k10).trans k11).trans (Keep.of e12), B11.same e12, PrL.k (PrL.k hF10 k11) (Keep.of e12), t2, w2, _, hp12, vp12, rfl⟩
            · refine k_iteZ (decide_eq_false fun e => h3 (V.int.inj e)) ?_
              walk_at "go"
              exact ⟨k9.trans k10, B10, hF10, t1, p1, _, hpa10, vp1, rfl⟩
        · refine k_iteZ (decide_eq_false h4) ?_
          walk_at "go"
          exact ⟨k9, B9, hF9, t, p, _, hp9, vp, rfl⟩
      · refine k_iteZ (decide_eq_false h0) ?_
        walk_at "go"
        exact ⟨k9, B9, hF9, t, p, _, hp9, vp, rfl⟩
    clear hp vp
    rintro σ' H8 ⟨k8, B8, hF8, t, p, u, hp, vp, rfl⟩
    have hl8 : LI H8 l ks := LI.k hl (k02.trans k8)
    refine ⟨fun σ' H8 => Keep H2 H8 ∧ Bag b h ns H8 ∧ PrL H8 F ps ∧ ∃ (t : Addr) (p : Pr) (u : Option V), PrAt H8 t p ∧ PrV n p ∧ leadsP ks p = true ∧ σ' = [some (.ref b), some (.int (n : Nat)), some (.int (lo : Nat)), some (.int (hi : Nat)), some (.ref l), some (.int d), some (.ref F), u, some (.int act), some (.ref t)], ?_, ?_⟩
    · walk_at "go"
      refine ⟨l, _, rfl, .inl (.inl (.inl hl8)), ?_⟩
      rw [List.length_map]
      walk_at "go"
      by_cases hks : 0 < ks.length
      · refine k_iteY (decide_eq_true (by omega)) ?_
        walk_at "go"
        refine ⟨l, t, ks, p, rfl, .inl hl8, hp, ?_⟩
        cases hld : leadsP ks p with
        | true =>
          walk_at "go"
          exact ⟨k8, B8, hF8, t, p, _, hp, vp, hld, rfl⟩
        | false =>
          walk_at "go"
          refine ⟨t, _, _, _, rfl, rfl, .inl (.inl hp), rfl, ?_⟩
          walk_at "go"
          refine ⟨t, _, _, _, rfl, rfl, .inl (.inl hp), rfl, ?_⟩
          walk_at "go"
          refine ⟨by rw [lb]; simp, fun t2 ht2 => ?_⟩
          have e9 : Same H8 (upd H8 t2 (.tup [.int (p.2 : Nat), .int (p.1 : Nat)])) := Same.new (Same.refl _) ht2
          exact ⟨k8.trans (Keep.of e9), B8.same e9, PrL.k hF8 (Keep.of e9), t2, flipP p, _, upd_same, vp.flip, lead_flip hld, rfl⟩
      · refine k_iteZ (decide_eq_false (by omega)) ?_
        walk_at "go"
        refine ⟨k8, B8, hF8, t, p, _, hp, vp, ?_, rfl⟩
        have : ks = [] := List.length_eq_zero_iff.mp (by omega)
        rw [this]
        rfl
    clear hp vp
    rintro σ' H8 ⟨k8, B8, ⟨ts, hts, hA⟩, t, p, u, hp, vp, hld, rfl⟩
    have tl := hA.len
    walk_at "go"
    refine ⟨.inl ⟨rfl, _, .inl (.inl hts)⟩, ?_⟩
    walk_at "go"
    refine ⟨F, _, _, rfl, rfl, hts, by rw [List.length_map]; omega, ?_⟩
    have kt : KeepT H8 (upd H8 F (.lst (ts.map V.ref ++ [V.ref t]))) := KeepT.mut hts (KeepT.refl _)
    refine ⟨Keep.upd' hF k8, B8.upd (B2.ne hF).1 (B2.ne hF).2, ps ++ [p], ⟨ts ++ [t], by rw [upd_same, List.map_append] <;> rfl, (hA.mono fun _ _ k => k.t kt).snoc (PrAt.t hp kt)⟩, by rw [List.length_append, pl] <;> rfl, fun q hq => ?_, fun q hq => ?_, _, _, _, rfl⟩
    · rcases List.mem_append.mp hq with k | k
      · exact pv5 q k
      · rw [List.mem_singleton.mp k]
        exact vp
    · rcases List.mem_append.mp hq with k | k
      · exact pd q k
      · rw [List.mem_singleton.mp k]
        exact hld
  · obtain ⟨k5, B5, ps, hF5, pl, pv5, pd, u, v, w, rfl⟩ := c
    walk_at "go"
    exact q F ps H5 (k02.trans k5) B5 hF5 pv5 (by omega) (by omega) pd
end
end Fd
set_option Elab.async false
set_option linter.all false
set_option maxRecDepth 100000
set_option maxHeartbeats 4000000
/-! ### FdL4e: rows, pages, texts, lines of the law -/
namespace Fd
open PySem PySem.Spec PyProof.Rows L2 SX
theorem lineNames_nm {xs : List Str} {ks : List Nat} (nx : NmL xs) (nd : ks.Nodup) (h : ∀ k ∈ ks, k < xs.length) : NmL (lineNames xs ks) := by
  refine ⟨fun z hz => ?_, ?_⟩
  · obtain ⟨k, hk, e⟩ := List.mem_map.mp hz
    rw [← e]
    exact nx.nm _ (List.mem_of_getElem? (getD_at (h k hk)))
  · unfold lineNames
    rw [List.nodup_iff_pairwise_ne, List.pairwise_map]
    refine List.Pairwise.imp_of_mem (fun {i j} hi hj hij e => hij ?_) (List.nodup_iff_pairwise_ne.mp nd)
    have e2 : xs[i]? = xs[j]? := by rw [getD_at (h i hi), getD_at (h j hj), e]
    exact (List.getElem?_inj (h i hi) nx.nd).mp e2
theorem strs_perm' {ys : List V} {xs : List Str} (pM : ys.Perm (xs.map V.str)) : ∃ zs : List Str, ys = zs.map V.str ∧ zs.Perm xs := by
  refine ⟨ys.map fun v => match v with | .str z => z | _ => Str.empty, ?_, ?_⟩
  · rw [List.map_map]
    have : ∀ v ∈ ys, (V.str ∘ fun v => match v with | .str z => z | _ => Str.empty) v = v := fun v hv => by
      obtain ⟨z, _, e⟩ := List.mem_map.mp (pM.subset hv)
      rw [← e] <;> rfl
    rw [List.map_congr_left this, List.map_id']
  · have := pM.map (fun v => match v with | V.str z => z | _ => Str.empty)
    rw [List.map_map] at this
    have e : xs.map ((fun v => match v with | V.str z => z | _ => Str.empty) ∘ V.str) = xs := by
      rw [show ((fun v => match v with | V.str z => z | _ => Str.empty) ∘ V.str) = id from rfl, List.map_id]
    rw [e] at this
    exact this
/-- the words of a row, name by name -/
theorem words_snoc {xs : List Str} (nd : xs.Nodup) {p : Pr} {i : Nat} (hi : i < xs.length) (dj : p.1 &&& p.2 = 0) :
    ((List.range (i + 1)).filter (bitN (p.1 ||| p.2))).map (fun k => wordOf (grp xs p.1) (xs.getD k Str.empty)) = ((List.range i).filter (bitN (p.1 ||| p.2))).map (fun k => wordOf (grp xs p.1) (xs.getD k Str.empty)) ++
      (if bitN p.1 i = true then [xs.getD i Str.empty ++ ("+" : Str)] else if bitN p.2 i = true then [xs.getD i Str.empty ++ ("-" : Str)] else []) := by
  rw [List.range_succ, List.filter_append, List.map_append]
  congr 1
  have eb : bitN (p.1 ||| p.2) i = (bitN p.1 i || bitN p.2 i) := Nat.testBit_or ..
  have hg := grp_at nd (k := i) (m := p.1) hi
  unfold wordOf
  cases h1 : bitN p.1 i with
  | true =>
    have hm := hg.mpr h1
    rw [List.filter_cons_of_pos (by rw [eb, h1] <;> rfl), if_pos rfl]
    simp only [List.filter_nil, List.map_cons, List.map_nil]
    rw [if_pos hm]
  | false =>
    have hm : xs.getD i Str.empty ∉ grp xs p.1 := fun k => by
      have := hg.mp k
      rw [h1] at this
      cases this
    cases h2 : bitN p.2 i with
    | true =>
      rw [List.filter_cons_of_pos (by rw [eb, h1, h2] <;> rfl), if_neg (by decide), if_pos rfl]
      simp only [List.filter_nil, List.map_cons, List.map_nil]
      rw [if_neg hm]
    | false =>
      rw [List.filter_cons_of_neg (by rw [eb, h1, h2]; decide), if_neg (by decide), if_neg (by decide)] <;> rfl
theorem words_all {xs : List Str} (sx : Srt xs) {p : Pr} (dj : p.1 &&& p.2 = 0) : ((List.range xs.length).filter (bitN (p.1 ||| p.2))).map (fun k => wordOf (grp xs p.1) (xs.getD k Str.empty)) = (rowNamed (grp xs p.1) (grp xs p.2)).map (wordOf (grp xs p.1)) := by
  rw [grp_or sx dj]
  unfold grp
  rw [List.map_map] <;> rfl
section
local macro_rules | `(tactic| walk_at "sm") => `(tactic| first | exact Same.refl _ | assumption | (refine Same.new ?_ ‹_›; walk_at "sm") | (refine Same.trans ?_ ‹Same _ _›; walk_at "sm"))
local macro_rules | `(tactic| walk_at "s1") => `(tactic| first
  | with_reducible refine g_seq ?_ | with_reducible refine g_asg ?_ | with_reducible refine g_name ?_ | with_reducible refine g_cons ?_ | with_reducible refine g_nil ?_
  | ((with_reducible refine k_var ?_); refine ⟨_, rfl, ?_⟩) | with_reducible refine g_c ?_ | with_reducible refine g_op ?_ | with_reducible refine g_un ?_
  | with_reducible refine g_cb ?_ | with_reducible refine g_call ?_ | with_reducible refine g_ifS ?_ | with_reducible refine g_if ?_ | with_reducible refine g_tB ?_ | with_reducible refine g_test ?_
  | with_reducible refine k_bl ?_ | with_reducible refine k_iteT ?_ | with_reducible refine k_iteF ?_ | with_reducible refine k_iteNT ?_ | with_reducible refine k_iteNF ?_
  | with_reducible refine g_and ?_ | with_reducible refine g_or ?_ | with_reducible refine g_not ?_ | with_reducible refine g_andV ?_ | with_reducible refine g_orV ?_ | with_reducible refine g_notV ?_ | with_reducible refine g_yes ?_)
local macro_rules | `(tactic| walk_at "s2") => `(tactic| first
  | with_reducible refine g_ret ?_ | with_reducible refine g_drop ?_ | with_reducible refine g_next ?_ | with_reducible refine k_retN ?_
  | ((with_reducible refine k_I0 ?_); refine ⟨_, _, rfl, rfl, ?_⟩) | ((with_reducible refine k_U ?_); refine ⟨_, rfl, ?_⟩) | ((with_reducible refine k_eq ?_); refine ⟨rfl, ?_⟩) | ((with_reducible refine k_ne ?_); refine ⟨rfl, ?_⟩)
  | ((with_reducible refine k_isN ?_); refine ⟨rfl, ?_⟩) | ((with_reducible refine k_notN ?_); refine ⟨rfl, ?_⟩) | with_reducible refine k_chain ?_ | with_reducible refine k_fld ?_ | with_reducible refine k_sfld ?_
  | with_reducible refine k_tup ?_ | with_reducible refine k_lst ?_ | with_reducible refine k_meth ?_ | with_reducible refine k_bm ?_ | with_reducible refine k_bm0 ?_ | with_reducible refine k_m1 ?_ | with_reducible refine k_fmt ?_ | with_reducible refine k_joined ?_
  | with_reducible refine k_js0 ?_ | with_reducible refine k_js1 ?_ | with_reducible refine k_mkR ?_ | with_reducible refine k_sl ?_ | with_reducible refine k_part ?_ | with_reducible refine k_nopart ?_ | with_reducible refine k_gtup ?_
  | ((with_reducible refine k_aug ?_); refine ⟨_, rfl, ?_⟩) | ((with_reducible refine k_ipI ?_); refine ⟨_, _, rfl, rfl, ?_⟩) | with_reducible refine k_par ?_ | with_reducible refine k_din ?_ | with_reducible refine k_dnin ?_ | with_reducible refine k_dput ?_
  | with_reducible refine g_gcons ?_ | with_reducible refine g_gnil ?_ | with_reducible refine k_cval ?_ | with_reducible refine k_dnew ?_ | with_reducible refine k_isS ?_ | with_reducible refine k_int ?_ | with_reducible refine k_lcL ?_ | with_reducible refine k_lcT ?_ | with_reducible refine k_lcQ ?_ | with_reducible refine k_lcS ?_ | with_reducible refine k_lcR ?_ | with_reducible refine k_forL ?_ | with_reducible refine k_forT ?_ | with_reducible refine k_forQ ?_ | with_reducible refine k_forS ?_ | with_reducible refine k_forR ?_ | with_reducible refine k_forE ?_ | with_reducible refine k_forET ?_ | with_reducible refine k_forI ?_ | with_reducible refine k_star ?_ | with_reducible refine k_dcL ?_ | with_reducible refine k_listItems ?_ | with_reducible refine k_dget ?_ | ((with_reducible refine k_wipe ?_ ?_); exact rfl))
local macro_rules | `(tactic| walk_at "go") => `(tactic| repeat (first | walk_at "s1" | walk_at "s2"))
variable {a : Ax} {mg : Str → Option Value} (T : Top a mg) {vs : List V} {H : Hp} {Q : VK} {E : XK}
include T
theorem rd_law_row (h : sp_law_row a vs H Q E) : t_law_row a { nx := fun _ H' => Q .non H', rt := Q } (start n_law_row vs) H := by
  obtain ⟨b, h, ns, p, xs, t, r, rfl, B, hp, nx, sx, l7, ht, vr, q⟩ := h
  have rv := row_of nx sx l7 vr
  have lb := line_big
  have g1 := grp_len xs r.1
  have g2 := grp_len xs r.2
  unfold t_law_row
  walk_at "go"
  refine ⟨t, _, _, _, rfl, rfl, .inl (.inl ht), rfl, ?_⟩
  walk_at "go"
  refine ⟨p, xs, r.1, rfl, hp, l7, fun u H1 e1 nu hu => ?_⟩
  walk_at "go"
  refine ⟨b, h, ns, u, _, rfl, B.same e1, .inr hu, hom_strs _, by rw [List.length_map]; omega, fun L ys H2 k2 B2 nL hL pL => ?_⟩
  obtain ⟨zs, rfl, pz⟩ := strs_perm' pL
  have k02 : Keep H H2 := (Keep.of e1).trans k2
  walk_at "go"
  refine ⟨t, _, _, _, rfl, rfl, .inl (.inl (PrAt.k ht k02)), rfl, ?_⟩
  walk_at "go"
  refine ⟨p, xs, r.2, rfl, LS.k' hp k02, l7, fun u2 H3 e3 nu2 hu2 => ?_⟩
  walk_at "go"
  refine ⟨b, h, ns, u2, _, rfl, B2.same e3, .inr hu2, hom_strs _, by rw [List.length_map]; omega, fun R ys2 H4 k4 B4 nR hR pR => ?_⟩
  obtain ⟨ws, rfl, pw⟩ := strs_perm' pR
  have k04 : Keep H H4 := (k02.trans (Keep.of e3)).trans k4
  have hL4 : LS H4 L zs := LS.k' (LS.k' hL (Keep.of e3)) k4
  have hR4 : LS H4 R ws := hR
  walk_at "go"
  refine ⟨b, h, ns, _, rfl, B4, by decide, by decide, fun dr H5 _ _ B5 k5 => ?_⟩
  have hL5 := LS.k' hL4 k5
  have hR5 := LS.k' hR4 k5
  have k05 := k04.trans k5
  have iz : isort zs = grp xs r.1 := (isort_congr pz (pz.symm.nodup_iff.mpr (pz.nodup_iff.mpr (grp_nodup sx.nodup r.1)))).trans (isort_self (grp_srt sx _))
  have iw : isort ws = grp xs r.2 := (isort_congr pw (pw.symm.nodup_iff.mpr (pw.nodup_iff.mpr (grp_nodup sx.nodup r.2)))).trans (isort_self (grp_srt sx _))
  have pp : (zs ++ ws).Perm (grp xs r.1 ++ grp xs r.2) := pz.append pw
  have nm1 : ∀ z ∈ zs ++ ws, isNm z := fun z hz => rv.nm z (pp.subset hz)
  have nd1 : (zs ++ ws).Nodup := pp.nodup_iff.mpr rv.nd
  have le1 : (zs ++ ws).length ≤ 7 := by rw [pp.length_eq]; exact rv.le
  walk_at "go"
  by_cases hd : dr = 0
  · refine k_iteY (decide_eq_true (congrArg V.int hd)) ?_
    walk_at "go"
    intro x dy nx' nd' ne
    have e6 : Same H5 (upd (upd H5 dy (.own x)) x (.ins a.R dy [])) := Same.new (Same.new (Same.refl _) nd') (by rw [upd_ne (fun e => ne e.symm)]; exact nx')
    have pp2 : (ws ++ zs).Perm (zs ++ ws) := List.perm_append_comm
    refine .inl ⟨x, dy, R, L, ws, zs, rfl, upd_same, .inl (.inl (.inl (e6 _ _ hR5))), .inl (.inl (.inl (e6 _ _ hL5))), fun z hz => nm1 z (pp2.subset hz), pp2.nodup_iff.mpr nd1, by rw [pp2.length_eq]; exact le1, fun H7 b7 hx => ⟨rfl, ?_⟩⟩
    have hx0 := hx
    obtain ⟨dz, tp, tc, tn, x1, _⟩ := hx0
    refine ⟨x, _, _, rfl, x1, x, isort ws, isort zs, rfl, hx, fun r' H8 e8 nr' hr' => ?_⟩
    rw [iz, iw] at hr'
    have e58 : Same H5 H8 := (Butx.made (C := a.R) nx' nd' b7).trans e8
    exact q r' H8 (k05.trans (Keep.of e58)) (B5.same e58) hr'
  · refine k_iteZ (decide_eq_false fun e => hd (V.int.inj e)) ?_
    walk_at "go"
    intro x dy nx' nd' ne
    have e6 : Same H5 (upd (upd H5 dy (.own x)) x (.ins a.R dy [])) := Same.new (Same.new (Same.refl _) nd') (by rw [upd_ne (fun e => ne e.symm)]; exact nx')
    refine .inl ⟨x, dy, L, R, zs, ws, rfl, upd_same, .inl (.inl (.inl (e6 _ _ hL5))), .inl (.inl (.inl (e6 _ _ hR5))), nm1, nd1, le1, fun H7 b7 hx => ⟨rfl, ?_⟩⟩
    have e57 : Same H5 H7 := Butx.made (C := a.R) nx' nd' b7
    rw [iz, iw] at hx
    have hL7 := e57 _ _ hL5
    walk_at "go"
    refine ⟨.inl ⟨rfl, _, .inl (.inl hL7)⟩, ?_⟩
    walk_at "go"
    refine ⟨L, _, _, rfl, rfl, hL7, by rw [List.length_map]; have := pz.length_eq; omega, ?_⟩
    have nL0 : H1 L = none := nL
    have nLH : H L = none := e1.free nL0
    walk_at "go"
    refine q x _ (Keep.upd' nLH (k05.trans (Keep.of e57))) ((B5.same e57).upd (B.ne nLH).1 (B.ne nLH).2) (hx.t (KeepT.mut hL7 (KeepT.refl _)))
theorem rd_law_page (h : sp_law_page a vs H Q E) : t_law_page a { nx := fun _ H' => Q .non H', rt := Q } (start n_law_page vs) H := by
  obtain ⟨b, h, ns, p, xs, s, ms, l, ps, rfl, B, hp, nx, l1, l7, hs, nm, hl, vp, lm, l40, q⟩ := h
  have lb := line_big
  have snx := isort_nm nx
  have ssx := isort_srt nx.nd
  have il := isort_len xs
  have bv := recs_book (ps := ps) snx ssx (by omega) (by omega) nm lm (fun q hq => by rw [il]; exact vp q hq) (by omega)
  unfold t_law_page
  walk_at "go"
  refine sorted_of (xs := xs) (.inl (.inl hp)) nx.nd (by omega) fun S1 hS => ?_
  have e1 : Same H (upd H S1 (.lst ((isort xs).map V.str))) := Same.new (Same.refl _) hS
  have S11 : LS (upd H S1 (.lst ((isort xs).map V.str))) S1 (isort xs) := upd_same
  generalize upd H S1 (.lst ((isort xs).map V.str)) = H1 at *
  walk_at "go"
  refine ⟨p, _, rfl, .inl (.inl (.inl (e1 _ _ hp))), fun P hP => ?_⟩
  have e2 : Same H1 (upd H1 P (.lst (xs.map V.str))) := Same.new (Same.refl _) hP
  have P2 : LS (upd H1 P (.lst (xs.map V.str))) P xs := upd_same
  generalize upd H1 P (.lst (xs.map V.str)) = H2 at *
  have e02 := e1.trans e2
  walk_at "go"
  refine ⟨_, _, rfl, ?_⟩
  walk_at "go"
  intro x dx nx' nd ne
  have e3 : Same H2 (upd (upd H2 dx (.own x)) x (.ins a.B dx [])) := Same.new (Same.new (Same.refl _) nd) (by rw [upd_ne (fun e => ne e.symm)]; exact nx')
  have x3 : upd (upd H2 dx (.own x)) x (.ins a.B dx []) x = some (.ins a.B dx []) := upd_same
  refine ⟨[.ref x, .ref P], [], rfl, rfl, Nat.zero_le _, fun u hu => ?_⟩
  have e4 := Same.new (o := HO.tup []) (Same.refl _) hu
  refine ⟨x, dx, P, u, xs, [], [], rfl, e4 _ _ x3, .inl (.inl (.inl ((e3.trans e4) _ _ P2))), upd_same, trivial, ?_, nx, Nat.zero_le _, fun H5 b5 hb => ⟨rfl, ?_⟩⟩
  · have := bv.take 0
    rw [List.take_zero] at this
    exact this
  have e25 : Same H2 H5 := Butx.made (C := a.B) nx' nd fun b' o' hb n => b5 b' o' (e4 _ _ hb) n
  have e05 := e02.trans e25
  have P5 := e25 _ _ P2
  walk_at "go"
  refine ⟨.inl ⟨rfl, _, .inl (.inl P5)⟩, ?_⟩
  walk_at "go"
  refine ⟨P, _, _, rfl, rfl, P5, by rw [List.length_map]; omega, ?_⟩
  have nP0 : H P = none := e1.free hP
  have e6 : Same H (upd H5 P (.lst (xs.map V.str ++ [V.str (Str.ofString "Odd")]))) := Same.mut e05 nP0
  have hb6 : BookAt a (upd H5 P (.lst (xs.map V.str ++ [V.str (Str.ofString "Odd")]))) x (isort xs) [] := hb.t (KeepT.mut P5 (KeepT.refl _))
  have nSP : S1 ≠ P := ne_of_none S11 hP
  have S16 : LS (upd H5 P (.lst (xs.map V.str ++ [V.str (Str.ofString "Odd")]))) S1 (isort xs) := by
    show upd _ _ _ _ = _
    rw [upd_ne nSP]
    exact e25 _ _ (e2 _ _ S11)
  generalize upd H5 P (.lst (xs.map V.str ++ [V.str (Str.ofString "Odd")])) = H6 at *
  walk_at "go"
  have hl6 : PrL H6 l ps := PrL.k hl (Keep.of e6)
  obtain ⟨ts, hts, hA⟩ := hl6
  have tl := hA.len
  refine ⟨l, _, rfl, .inl (.inl (.inl hts)), ?_⟩
  rw [List.length_map, tl]
  refine ⟨_, rfl, by omega, by omega, ?_⟩
  rw [Int.toNat_natCast]
  refine for_range (fun i σ H7 => Keep H6 H7 ∧ Bag b h ns H7 ∧ ∃ (k : Addr) (u : Option V), BookAt a H7 k (isort xs) (recsOf (isort xs) ms (ps.take i)) ∧ σ = [some (.ref b), some (.ref p), some (.ref s), some (.ref l), some (.ref S1), some (.ref P), some (.ref k), u])
    ⟨Keep.refl _, B.same e6, x, _, by rw [List.take_zero]; simpa [recsOf] using hb6, rfl⟩ (fun i σ H7 hi c => ?_) fun σ H7 c => ?_
  · obtain ⟨k7, B7, k, u, hk, rfl⟩ := c
    rw [Int.zero_add]
    have hpi : ps[i]? = some ps[i] := List.getElem?_eq_getElem hi
    have him : i < ms.length := by omega
    have hmi : ms[i]? = some ms[i] := List.getElem?_eq_getElem him
    generalize ps[i] = pi at hpi
    generalize ms[i] = mi at hmi
    obtain ⟨ti, hti, hpa⟩ := hA.get' hpi
    have hs7 : LS H7 s ms := LS.k' (LS.k' hs (Keep.of e6)) k7
    have hts7 := k7 _ _ hts (hard_refs ts)
    walk_at "go"
    refine ⟨s, _, _, .str mi, rfl, rfl, .inl (.inl hs7), by rw [Fd.atI_nat, List.getElem?_map, hmi] <;> rfl, ?_⟩
    walk_at "go"
    refine ⟨l, _, _, .ref ti, rfl, rfl, .inl (.inl hts7), by rw [Fd.atI_nat, List.getElem?_map, hti] <;> rfl, ?_⟩
    walk_at "go"
    refine ⟨b, h, ns, S1, isort xs, ti, pi, rfl, B7, LS.k' S16 k7, snx, ssx, by omega, PrAt.k hpa k7, by rw [il]; exact vp pi (List.mem_of_getElem? hpi), fun r H8 k8 B8 hr => ?_⟩
    walk_at "go"
    refine ⟨by rw [lb]; simp, fun t ht => ?_⟩
    have e9 : Same H8 (upd H8 t (.tup [.str mi, .ref r])) := Same.new (Same.refl _) ht
    have t9 : upd H8 t (.tup [.str mi, .ref r]) t = some (.tup [.str mi, .ref r]) := upd_same
    generalize upd H8 t (.tup [.str mi, .ref r]) = H9 at *
    have hk9 := hk.t (k8.trans (Keep.of e9)).t
    have hk90 := hk9
    obtain ⟨dk, tk, ddk, rsk, hk1, _⟩ := hk90
    have ern := recsOf_snoc (xs := isort xs) hmi hpi
    have rl := recsOf_len (isort xs) ms (ps.take i) (by have := len_take_le ps i; omega)
    refine ⟨k, _, _, t, _, rfl, hk1, rfl, t9, ?_⟩
    refine ⟨k, t, isort xs, recsOf (isort xs) ms (ps.take i), recOf (isort xs) mi pi, rfl, hk9, ⟨r, t9, hr.t (Same.t e9)⟩, ?_, ?_, fun k' H10 e10 nk' hk' => ?_⟩
    · rw [← ern, recsOf_take]
      exact bv.take (i + 1)
    · rw [rl, List.length_take]
      omega
    · rw [← ern] at hk'
      exact ⟨((k7.trans k8).trans (Keep.of e9)).trans (Keep.of e10), (B8.same e9).same e10, k', _, hk', rfl⟩
  · obtain ⟨k7, B7, k, u, hk, rfl⟩ := c
    rw [take_full] at hk
    walk_at "go"
    exact q k H7 ((Keep.of e6).trans k7) B7 hk
theorem rd_law_words (h : sp_law_words a vs H Q E) : t_law_words a { nx := fun _ H' => Q .non H', rt := Q } (start n_law_words vs) H := by
  obtain ⟨p, xs, t, r, rfl, hp, nx, sx, l7, ht, vr, q⟩ := h
  have rv := row_of nx sx l7 vr
  have lb := line_big
  unfold t_law_words
  walk_at "go"
  refine ⟨Nat.zero_le _, fun F hF => ?_⟩
  have e1 : Same H (upd H F (.lst [])) := Same.new (Same.refl _) hF
  have F1 : LS (upd H F (.lst [])) F [] := upd_same
  generalize upd H F (.lst []) = H1 at *
  walk_at "go"
  refine ⟨p, _, rfl, .inl (.inl (.inl (e1 _ _ hp))), ?_⟩
  rw [List.length_map]
  refine ⟨_, rfl, by omega, by omega, ?_⟩
  rw [Int.toNat_natCast]
  refine for_range (fun i σ H2 => Same H H2 ∧ LS H2 F (((List.range i).filter (bitN (r.1 ||| r.2))).map (fun k => wordOf (grp xs r.1) (xs.getD k Str.empty))) ∧ ∃ u, σ = [some (.ref p), some (.ref t), some (.ref F), u]) ⟨e1, F1, _, rfl⟩ (fun i σ H2 hi c => ?_) fun σ H2 c => ?_
  · obtain ⟨e2, F2, u, rfl⟩ := c
    rw [Int.zero_add]
    have ht2 := e2 _ _ ht
    have hp2 := e2 _ _ hp
    have wsn := words_snoc nx.nd (p := r) hi vr.dj
    have zn := nx.nm _ (List.mem_of_getElem? (getD_at hi))
    have zl := zn.len
    have fl : (((List.range i).filter (bitN (r.1 ||| r.2))).map (fun k => wordOf (grp xs r.1) (xs.getD k Str.empty))).length ≤ i := by
      rw [List.length_map]
      have := List.length_filter_le (bitN (r.1 ||| r.2)) (List.range i)
      rw [List.length_range] at this
      exact this
    have l1 : (Str.ofString "+").length = 1 := by decide +kernel
    have l2 : (Str.ofString "-").length = 1 := by decide +kernel
    walk_at "go"
    refine ⟨t, _, _, _, rfl, rfl, .inl (.inl ht2), rfl, ?_⟩
    walk_at "go"
    refine ⟨_, _, rfl, rfl, (by show (0 : Int) ≤ _; omega), ?_⟩
    walk_at "go"
    rw [bit_test]
    cases h1 : bitN r.1 i with
    | true =>
      rw [h1, if_pos rfl] at wsn
      walk_at "go"
      refine ⟨.inl ⟨rfl, _, .inl (.inl F2)⟩, ?_⟩
      walk_at "go"
      refine ⟨p, _, _, .str (xs.getD i Str.empty), rfl, rfl, .inl (.inl hp2), by rw [Fd.atI_nat, List.getElem?_map, getD_at hi] <;> rfl, ?_⟩
      walk_at "go"
      refine ⟨_, _, rfl, rfl, by omega, ?_⟩
      walk_at "go"
      refine ⟨F, _, _, rfl, rfl, F2, by rw [List.length_map]; omega, ?_⟩
      have e3 : Same H _ := Same.mut (o := .lst ((((List.range i).filter (bitN (r.1 ||| r.2))).map (fun k => wordOf (grp xs r.1) (xs.getD k Str.empty))).map V.str ++ [V.str (xs.getD i Str.empty ++ Str.ofString "+")])) e2 hF
      have F3 : LS (upd H2 F (.lst ((((List.range i).filter (bitN (r.1 ||| r.2))).map (fun k => wordOf (grp xs r.1) (xs.getD k Str.empty))).map V.str ++ [V.str (xs.getD i Str.empty ++ Str.ofString "+")]))) F (((List.range (i + 1)).filter (bitN (r.1 ||| r.2))).map (fun k => wordOf (grp xs r.1) (xs.getD k Str.empty))) := by
        show upd _ _ _ _ = _
        rw [upd_same, wsn, List.map_append] <;> rfl
      walk_at "go"
      refine ⟨t, _, _, _, rfl, rfl, .inl (.inl (e3 _ _ ht)), rfl, ?_⟩
      walk_at "go"
      refine ⟨_, _, rfl, rfl, (by show (0 : Int) ≤ _; omega), ?_⟩
      walk_at "go"
      have h2 : bitN r.2 i = false := by
        cases h2 : bitN r.2 i with
        | true => exact absurd ⟨h1, h2⟩ (disj_iff.mp vr.dj i)
        | false => rfl
      rw [bit_test, h2]
      walk_at "go"
      exact ⟨e3, F3, _, rfl⟩
    | false =>
      rw [h1, if_neg (by decide)] at wsn
      walk_at "go"
      refine ⟨t, _, _, _, rfl, rfl, .inl (.inl ht2), rfl, ?_⟩
      walk_at "go"
      refine ⟨_, _, rfl, rfl, (by show (0 : Int) ≤ _; omega), ?_⟩
      walk_at "go"
      rw [bit_test]
      cases h2 : bitN r.2 i with
      | true =>
        rw [h2, if_pos rfl] at wsn
        walk_at "go"
        refine ⟨.inl ⟨rfl, _, .inl (.inl F2)⟩, ?_⟩
        walk_at "go"
        refine ⟨p, _, _, .str (xs.getD i Str.empty), rfl, rfl, .inl (.inl hp2), by rw [Fd.atI_nat, List.getElem?_map, getD_at hi] <;> rfl, ?_⟩
        walk_at "go"
        refine ⟨_, _, rfl, rfl, by omega, ?_⟩
        walk_at "go"
        refine ⟨F, _, _, rfl, rfl, F2, by rw [List.length_map]; omega, ?_⟩
        refine ⟨Same.mut e2 hF, ?_, _, rfl⟩
        show upd _ _ _ _ = _
        rw [upd_same, wsn, List.map_append] <;> rfl
      | false =>
        rw [h2, if_neg (by decide), List.append_nil] at wsn
        walk_at "go"
        exact ⟨e2, by rw [wsn]; exact F2, _, rfl⟩
  · obtain ⟨e2, F2, u, rfl⟩ := c
    rw [words_all sx vr.dj] at F2
    have ln := rv.lenN
    have wok : ∀ w ∈ (rowNamed (grp xs r.1) (grp xs r.2)).map (wordOf (grp xs r.1)), PyData.strOk w = true := fun w hw => by
      obtain ⟨z, hz, e⟩ := List.mem_map.mp hw
      have zn := rv.nmd z hz
      unfold PyData.strOk
      rw [← Array.all_toList, List.all_eq_true]
      intro c hc
      have hc' : c ∈ cp w := hc
      rw [← e, wordOf_cp] at hc'
      rcases List.mem_append.mp hc' with k | k
      · have := zn.ch c k
        exact decide_eq_true (by omega)
      · have := List.mem_singleton.mp k
        refine decide_eq_true ?_
        split at this <;> omega
    walk_at "go"
    refine ⟨Nat.zero_le _, fun Em hEm => ?_⟩
    have e3 : Same H2 (upd H2 Em (.lst [])) := Same.new (Same.refl _) hEm
    refine ne_ll (xs := (rowNamed (grp xs r.1) (grp xs r.2)).map (wordOf (grp xs r.1))) (ys := []) (.inl (.inl (e3 _ _ F2))) (.inl (.inl upd_same)) wok (fun _ h => by cases h) ?_
    have q1 := q _ (e2.trans e3)
    have F3 := e3 _ _ F2
    generalize upd H2 Em (.lst []) = H3 at *
    by_cases hne : rowNamed (grp xs r.1) (grp xs r.2) = []
    · rw [decide_eq_true (by rw [hne] <;> rfl)]
      unfold rowText at q1
      rw [if_pos hne] at q1
      walk_at "go"
      exact q1
    · rw [decide_eq_false (by simpa using hne)]
      rw [rowText_ne hne] at q1
      walk_at "go"
      refine ⟨_, F, _, rfl, rfl, .inl (.inl (.inl F3)), ?_, q1⟩
      have := sum_le (n := 7) (l := ((rowNamed (grp xs r.1) (grp xs r.2)).map (wordOf (grp xs r.1))).map (·.length)) (fun x hx => by
        rw [List.map_map] at hx
        obtain ⟨z, hz, e⟩ := List.mem_map.mp hx
        rw [← e]
        exact word_len (rv.nmd z hz))
      rw [List.length_map, List.length_map] at this
      rw [List.length_map]
      have l1 : (Str.ofString " ").length = 1 := by decide +kernel
      rw [l1]
      omega
theorem rd_law_text (h : sp_law_text a vs H Q E) : t_law_text a { nx := fun _ H' => Q .non H', rt := Q } (start n_law_text vs) H := by
  obtain ⟨p, xs, s, ms, l, ps, rfl, hp, nx, sx, l1, l7, hs, nm, hl, vp, lm, l40, q⟩ := h
  have lb := line_big
  have bv := recs_book (ps := ps) nx sx l1 l7 nm lm vp (by omega)
  have hh := head_len nx l7
  have ls1 : (Str.ofString " ").length = 1 := by decide +kernel
  have lnl : (Str.ofString "\n").length = 1 := by decide +kernel
  have l8 : (Str.ofString "reasons ").length = 8 := by decide +kernel
  have lr : (Str.ofString "row ").length = 4 := by decide +kernel
  have lj : (Txt.join (Str.ofString " ") xs).length ≤ 57 := by
    have e : (headOf xs).length = 8 + (Txt.join (Str.ofString " ") xs).length := by
      unfold headOf
      simp only [len_cp, cp_cat, List.length_append]
      rfl
    omega
  have sl := sum_le (n := 6) (l := xs.map (·.length)) (fun x hx => by
    obtain ⟨z, hz, e⟩ := List.mem_map.mp hx
    rw [← e]
    exact (nx.nm z hz).len)
  rw [List.length_map] at sl
  unfold t_law_text
  walk_at "go"
  refine ⟨_, p, xs, rfl, rfl, .inl (.inl (.inl hp)), by rw [ls1]; omega, ?_⟩
  refine ⟨_, _, rfl, rfl, by omega, ?_⟩
  walk_at "go"
  refine ⟨_, _, rfl, rfl, by rw [cat_len]; omega, ?_⟩
  walk_at "go"
  obtain ⟨ts, hts, hA⟩ := hl
  have tl := hA.len
  refine ⟨l, _, rfl, .inl (.inl (.inl hts)), ?_⟩
  rw [List.length_map, tl]
  refine ⟨_, rfl, by omega, by omega, ?_⟩
  rw [Int.toNat_natCast]
  have e0 : Str.ofString "reasons " ++ Txt.join (Str.ofString " ") xs ++ Str.ofString "\n" = bookText xs (recsOf xs ms (ps.take 0)) := by
    rw [List.take_zero]
    unfold bookText bookLines recsOf
    rw [List.zip_nil_right, List.map_nil, List.map_nil, List.map_cons, List.map_nil, catS_one] <;> rfl
  have tlen : ∀ i, (bookText xs (recsOf xs ms (ps.take i))).length ≤ 7000 := fun i => by
    have lt := len_take_le ps i
    have rl := recsOf_len xs ms (ps.take i) (by omega)
    rw [List.length_take] at rl
    have := catS_len (n := 68) (ws := (bookLines xs (recsOf xs ms (ps.take i))).map (· ++ ("\n" : Str))) (fun w hw => by
      obtain ⟨z, hz, e⟩ := List.mem_map.mp hw
      rw [← e, cat_len, lnl]
      unfold bookLines at hz
      rcases List.mem_cons.mp hz with rfl | hz
      · omega
      · obtain ⟨c, hc, e⟩ := List.mem_map.mp hz
        rw [← e]
        rw [recsOf_take] at hc
        have hc := List.mem_of_mem_take hc
        have := line_len (bv.mks c hc) (bv.rv c hc)
        omega)
    unfold bookText
    rw [List.length_map] at this
    have bl : (bookLines xs (recsOf xs ms (ps.take i))).length = (recsOf xs ms (ps.take i)).length + 1 := by
      unfold bookLines
      rw [List.length_cons, List.length_map]
    rw [bl, rl] at this
    omega
  refine for_range (fun i σ H1 => Same H H1 ∧ ∃ u, σ = [some (.ref p), some (.ref s), some (.ref l), some (.str (bookText xs (recsOf xs ms (ps.take i)))), u]) ⟨Same.refl _, _, by rw [← e0] <;> rfl⟩ (fun i σ H1 hi c => ?_) fun σ H1 c => ?_
  · obtain ⟨e1, u, rfl⟩ := c
    rw [Int.zero_add]
    have hpi : ps[i]? = some ps[i] := List.getElem?_eq_getElem hi
    have him : i < ms.length := by omega
    have hmi : ms[i]? = some ms[i] := List.getElem?_eq_getElem him
    generalize ps[i] = pi at hpi
    generalize ms[i] = mi at hmi
    obtain ⟨ti, hti, hpa⟩ := hA.get' hpi
    have vpi := vp pi (List.mem_of_getElem? hpi)
    have rvi := row_of nx sx l7 vpi
    have tli := tlen i
    have mn := (nm.nm mi (List.mem_of_getElem? hmi)).len
    have rt := rowText_len rvi
    walk_at "go"
    refine ⟨_, _, rfl, rfl, by omega, ?_⟩
    walk_at "go"
    refine ⟨s, _, _, .str mi, rfl, rfl, .inl (.inl (e1 _ _ hs)), by rw [Fd.atI_nat, List.getElem?_map, hmi] <;> rfl, ?_⟩
    refine ⟨_, _, rfl, rfl, by rw [cat_len]; omega, ?_⟩
    walk_at "go"
    refine ⟨_, _, rfl, rfl, by rw [cat_len, cat_len]; omega, ?_⟩
    walk_at "go"
    refine ⟨l, _, _, .ref ti, rfl, rfl, .inl (.inl (e1 _ _ hts)), by rw [Fd.atI_nat, List.getElem?_map, hti] <;> rfl, ?_⟩
    walk_at "go"
    refine ⟨p, xs, ti, pi, rfl, e1 _ _ hp, nx, sx, l7, e1 _ _ hpa, vpi, fun H2 e2 => ?_⟩
    refine ⟨_, _, rfl, rfl, by rw [cat_len, cat_len, cat_len]; omega, ?_⟩
    walk_at "go"
    refine ⟨_, _, rfl, rfl, by rw [cat_len, cat_len, cat_len, cat_len]; omega, ?_⟩
    walk_at "go"
    refine ⟨e1.trans e2, some (.int (i : Nat)), ?_⟩
    have en : bookText xs (recsOf xs ms (ps.take (i + 1))) = bookText xs (recsOf xs ms (ps.take i)) ++ Str.ofString "row " ++ mi ++ Str.ofString " " ++ rowText (grp xs pi.1) (grp xs pi.2) ++ Str.ofString "\n" := by
      rw [recsOf_snoc hmi hpi]
      unfold bookText bookLines
      rw [List.map_append, ← List.cons_append, List.map_append, catS_app]
      simp only [List.map_cons, List.map_nil, catS_one, lineOf, recOf, cat_assoc]
    rw [en]
    rfl
  · obtain ⟨e1, u, rfl⟩ := c
    rw [take_full]
    walk_at "go"
    exact q H1 e1
theorem rd_law_line (h : sp_law_line a vs H Q E) : t_law_line a { nx := fun _ H' => Q .non H', rt := Q } (start n_law_line vs) H := by
  obtain ⟨p, xs, l, ks, rfl, hp, nx, hl, nd, hk, l1, l7, q⟩ := h
  have lb := line_big
  have ln := lineNames_nm nx nd hk
  have ll : (lineNames xs ks).length = ks.length := by
    unfold lineNames
    rw [List.length_map]
  unfold t_law_line
  walk_at "go"
  refine ⟨l, rfl, ?_⟩
  refine lL (.inl (.inl hl)) (fun i => (lineNames xs (ks.take i)).map V.str) rfl (fun i v D H1 hD hv e hd => ?_) fun D H1 hD e1 hd => ?_
  · obtain ⟨k, hki, rfl⟩ := map_get hv
    have hk1 := hk k (List.mem_of_getElem? hki)
    walk_at "go"
    refine ⟨p, _, _, .str (xs.getD k Str.empty), rfl, rfl, .inl (.inl (e _ _ hp)), by rw [Fd.atI_nat, List.getElem?_map, getD_at hk1] <;> rfl, ?_⟩
    have := len_take_le ks i
    exact lc_add e hD hd (by unfold lineNames; rw [List.length_map, List.length_map]; omega) (by unfold lineNames; rw [take_snoc hki, List.map_append, List.map_append] <;> rfl)
  rw [List.length_map, take_full] at hd
  -- an order of such names, made
  have mk : ∀ (ws : List Str), lineNames xs ks = ws → ∀ (x dx : Addr), H1 x = none → H1 dx = none → dx ≠ x → spOrd a (V.ref x :: ws.map V.str) (upd (upd H1 dx (.own x)) x (.ins a.O dx [])) (fun v H2 => v = .non ∧ Q (.ref x) H2) L2.E0 := fun ws ew x dx nx' nd' ne => by
    subst ew
    refine ⟨[.ref x], (lineNames xs ks).map V.str, rfl, rfl, by rw [List.length_map]; omega, fun u hu => ?_⟩
    have x2 : upd (upd H1 dx (.own x)) x (.ins a.O dx []) x = some (.ins a.O dx []) := upd_same
    have e2 := Same.new (o := HO.tup ((lineNames xs ks).map V.str)) (Same.refl _) hu
    refine ⟨x, dx, u, lineNames xs ks, rfl, e2 _ _ x2, upd_same, ln, by omega, by omega, fun H3 b3 ho => ⟨rfl, ?_⟩⟩
    exact q x H3 (e1.trans (Butx.made (C := a.O) nx' nd' fun b' o' hb n => b3 b' o' (e2 _ _ hb) n)) ho
  walk_at "go"
  refine ⟨D, _, rfl, .inl (.inl (.inl hd)), ?_⟩
  rw [List.length_map]
  walk_at "go"
  generalize hw : lineNames xs ks = ws at *
  have ati : ∀ (i : Nat) (z : Str), ws[i]? = some z → atI (ws.map V.str) ((i : Nat) : Int) = some (V.str z) := fun i z h => by rw [Fd.atI_nat, List.getElem?_map, h] <;> rfl
  have noI : ∀ {m n : Nat}, m ≠ n → decide (V.int (m : Nat) = V.int (n : Nat)) = false := fun h => decide_eq_false fun e => h (by have := V.int.inj e; omega)
  match ws, hw, ll, hd, mk, ln, ati with
  | [], _, ll, _, _, _, _ => simp at ll; omega
  | [z1], hw, ll, hd, mk, ln, ati =>
    refine k_iteY (decide_eq_true rfl) ?_
    walk_at "go"
    refine ⟨D, _, _, .str z1, rfl, rfl, .inl (.inl hd), at0, ?_⟩
    walk_at "go"
    intro x dx nx' nd' ne
    exact mk [z1] rfl x dx nx' nd' ne
  | [z1, z2], hw, ll, hd, mk, ln, ati =>
    refine k_iteZ (noI (m := 2) (n := 1) (by decide)) ?_
    walk_at "go"
    refine ⟨D, _, rfl, .inl (.inl (.inl hd)), ?_⟩
    walk_at "go"
    refine k_iteY (decide_eq_true rfl) ?_
    walk_at "go"
    refine ⟨D, _, _, .str z1, rfl, rfl, .inl (.inl hd), at0, ?_⟩
    walk_at "go"
    refine ⟨D, _, _, .str z2, rfl, rfl, .inl (.inl hd), at1, ?_⟩
    walk_at "go"
    intro x dx nx' nd' ne
    exact mk [z1, z2] rfl x dx nx' nd' ne
  | [z1, z2, z3], hw, ll, hd, mk, ln, ati =>
    refine k_iteZ (noI (m := 3) (n := 1) (by decide)) ?_
    walk_at "go"
    refine ⟨D, _, rfl, .inl (.inl (.inl hd)), ?_⟩
    walk_at "go"
    refine k_iteZ (noI (m := 3) (n := 2) (by decide)) ?_
    walk_at "go"
    refine ⟨D, _, rfl, .inl (.inl (.inl hd)), ?_⟩
    walk_at "go"
    refine k_iteY (decide_eq_true rfl) ?_
    walk_at "go"
    refine ⟨D, _, _, .str z1, rfl, rfl, .inl (.inl hd), at0, ?_⟩
    walk_at "go"
    refine ⟨D, _, _, .str z2, rfl, rfl, .inl (.inl hd), at1, ?_⟩
    walk_at "go"
    refine ⟨D, _, _, .str z3, rfl, rfl, .inl (.inl hd), ati 2 z3 rfl, ?_⟩
    walk_at "go"
    intro x dx nx' nd' ne
    exact mk [z1, z2, z3] rfl x dx nx' nd' ne
  | [z1, z2, z3, z4], hw, ll, hd, mk, ln, ati =>
    refine k_iteZ (noI (m := 4) (n := 1) (by decide)) ?_
    walk_at "go"
    refine ⟨D, _, rfl, .inl (.inl (.inl hd)), ?_⟩
    walk_at "go"
    refine k_iteZ (noI (m := 4) (n := 2) (by decide)) ?_
    walk_at "go"
    refine ⟨D, _, rfl, .inl (.inl (.inl hd)), ?_⟩
    walk_at "go"
    refine k_iteZ (noI (m := 4) (n := 3) (by decide)) ?_
    walk_at "go"
    refine ⟨D, _, rfl, .inl (.inl (.inl hd)), ?_⟩
    walk_at "go"
    refine k_iteY (decide_eq_true rfl) ?_
    walk_at "go"
    refine ⟨D, _, _, .str z1, rfl, rfl, .inl (.inl hd), at0, ?_⟩
    walk_at "go"
    refine ⟨D, _, _, .str z2, rfl, rfl, .inl (.inl hd), at1, ?_⟩
    walk_at "go"
    refine ⟨D, _, _, .str z3, rfl, rfl, .inl (.inl hd), ati 2 z3 rfl, ?_⟩
    walk_at "go"
    refine ⟨D, _, _, .str z4, rfl, rfl, .inl (.inl hd), ati 3 z4 rfl, ?_⟩
    walk_at "go"
    intro x dx nx' nd' ne
    exact mk [z1, z2, z3, z4] rfl x dx nx' nd' ne
  | z1 :: z2 :: z3 :: z4 :: z5 :: zr, hw, ll, hd, mk, ln, ati =>
    have l5 : (z1 :: z2 :: z3 :: z4 :: z5 :: zr).length = zr.length + 5 := rfl
    refine k_iteZ (noI (n := 1) (by simp only [List.length_map, List.length_cons]; omega)) ?_
    walk_at "go"
    refine ⟨D, _, rfl, .inl (.inl (.inl hd)), ?_⟩
    walk_at "go"
    refine k_iteZ (noI (n := 2) (by simp only [List.length_map, List.length_cons]; omega)) ?_
    walk_at "go"
    refine ⟨D, _, rfl, .inl (.inl (.inl hd)), ?_⟩
    walk_at "go"
    refine k_iteZ (noI (n := 3) (by simp only [List.length_map, List.length_cons]; omega)) ?_
    walk_at "go"
    refine ⟨D, _, rfl, .inl (.inl (.inl hd)), ?_⟩
    walk_at "go"
    refine k_iteZ (noI (n := 4) (by simp only [List.length_map, List.length_cons]; omega)) ?_
    walk_at "go"
    generalize z1 :: z2 :: z3 :: z4 :: z5 :: zr = ws at *
    have sl := sum_le (n := 6) (l := ws.map (·.length)) (fun x hx => by
      obtain ⟨z, hz, e⟩ := List.mem_map.mp hx
      rw [← e]
      exact (ln.nm z hz).len)
    rw [List.length_map] at sl
    have l3 : (Str.ofString " > ").length = 3 := by decide +kernel
    refine ⟨_, D, ws, rfl, rfl, .inl (.inl (.inl hd)), by rw [l3]; omega, ?_⟩
    exact ⟨ws, rfl, ln, by omega, by omega, fun o H2 e2 no ho => q o H2 (e1.trans e2) ho⟩
end
end Fd
set_option Elab.async false
set_option linter.all false
set_option maxRecDepth 100000
set_option maxHeartbeats 4000000
/-! ### FdL4f: tries, fitting, same, lines so, books built -/
namespace Fd
open PySem PySem.Spec PyProof.Rows L2 SX
theorem inV_nats (k : Nat) (l : List Nat) : inV (.int (k : Nat)) (l.map fun j => V.int (j : Nat)) = decide (k ∈ l) := by
  unfold inV
  rw [List.any_map]
  induction l with
  | nil => simp
  | cons y r ih =>
    rw [List.any_cons, ih]
    show (eqV (V.int (y : Nat)) (V.int (k : Nat)) || decide (k ∈ r)) = _
    have e : (eqV (V.int (y : Nat)) (V.int (k : Nat))) = decide (y = k) := by
      show decide (((y : Nat) : Int) = ((k : Nat) : Int)) = _
      exact decide_eq_decide.mpr ⟨fun h => by omega, fun h => by omega⟩
    rw [e]
    by_cases h : y = k
    · subst h
      simp
    · have h2 : ¬ k = y := fun e => h e.symm
      simp [h, h2]
theorem flat_nats (l : List Nat) : (l.map fun j => V.int (j : Nat)).all flatV = true := by
  rw [List.all_map]
  exact List.all_eq_true.mpr fun _ _ => rfl
theorem notin_nats {K : KF} {H : Hp} {p : Addr} {k : Nat} {l : List Nat} {Q : VK} (h : Sq K H p (l.map fun j => V.int (j : Nat))) (q : Q (.bl (!decide (k ∈ l))) H) : rIn K true (.int (k : Nat)) (.ref p) H Q :=
  ⟨p, _, rfl, h, rfl, flat_nats l, by rw [inV_nats]; exact q⟩
theorem growLine_len (n : Nat) (l : List Nat) : (growLine n l).length ≤ n := by
  unfold growLine
  rw [List.length_map]
  have := List.length_filter_le (fun k => decide (k ∉ l)) (List.range n)
  rw [List.length_range] at this
  exact this
theorem flat_len {α β : Type} {n : Nat} {f : α → List β} (h : ∀ x, (f x).length ≤ n) : ∀ l : List α, (l.flatMap f).length ≤ l.length * n
  | [] => by simp
  | x :: l => by
    have h1 := h x
    have ih := flat_len h l
    rw [List.flatMap_cons, List.length_append, List.length_cons, Nat.add_mul]
    omega
theorem tries_len (n : Nat) (hn : n ≤ 5) : ∀ t, (triesL n t).length ≤ 5 ^ t
  | 0 => by simp [triesL]
  | t + 1 => by
    have ih := tries_len n hn t
    have := flat_len (growLine_len n) (triesL n t)
    show ((triesL n t).flatMap (growLine n)).length ≤ _
    rw [Nat.pow_succ]
    have h2 : (triesL n t).length * n ≤ 5 ^ t * 5 := Nat.mul_le_mul ih hn
    omega
theorem tries_mem (n : Nat) : ∀ t, ∀ l ∈ triesL n t, l.length = t
  | 0, l, h => by
    have e : l = [] := by simpa [triesL] using h
    rw [e]
    rfl
  | t + 1, l, h => by
    have h2 : l ∈ (triesL n t).flatMap (growLine n) := h
    obtain ⟨m, hm, hl⟩ := List.mem_flatMap.mp h2
    obtain ⟨k, _, e⟩ := List.mem_map.mp hl
    rw [← e, List.length_append, tries_mem n t m hm] <;> rfl
theorem flatMap_snoc {α β : Type} (f : α → List β) {l : List α} {i : Nat} {x : α} (h : l[i]? = some x) : (l.take (i + 1)).flatMap f = (l.take i).flatMap f ++ f x := by
  rw [take_snoc h, List.flatMap_append]
  simp
/-- isinstance of plain values -/
theorem isi_of {K : KF} {H : Hp} {x : V} {t c : String} {b : Bool} {Q : VK} (h : TyX K H x (.type t)) (k : kitB t c = some b) (q : Q (.bl b) H) : rIsi K [x, .ty c] H Q := ⟨_, _, _, _, _, rfl, .ty _, h, kit_ty k, q⟩
theorem isiT_of {K : KF} {H : Hp} {x : V} {tp : Addr} {t : String} {b1 b2 : Bool} {Q : VK} (h : TyX K H x (.type t)) (ht : H tp = some (.tup [.ty "list", .ty "tuple"])) (k1 : kitB t "list" = some b1) (k2 : kitB t "tuple" = some b2) (q : Q (.bl (b1 || b2)) H) : rIsiT K [x, .ref tp] H Q := by
  refine ⟨_, _, _, _, [.type "list", .type "tuple"], _, rfl, ht, .cons (.ty _) (.cons (.ty _) .nil), h, ?_, q⟩
  refine kitAny_cons (kit_ty k1) (fun e => ?_) fun e => by rw [e] <;> rfl
  rw [e, Bool.false_or]
  exact kitAny_cons (kit_ty k2) (fun e2 => by rw [e2]; exact kitAny_nil) fun e2 => e2
theorem Sm.same : ∀ {n : Nat} {H H' : Hp} {x y : V}, Same H H' → Sm H n x y → Sm H' n x y
  | 0, _, _, _, _, _, h => h
  | n + 1, H, H', x, y, e, h => by
    rcases h with h | ⟨p, q, xs, ys, h1, h2, h3, h4, h5⟩
    · exact .inl h
    · refine .inr ⟨p, q, xs, ys, h1, h2, ?_, h4, h5.mono fun _ _ k => Sm.same e k⟩
      rcases h3 with ⟨a, b⟩ | ⟨a, b⟩
      · exact .inl ⟨e _ _ a, e _ _ b⟩
      · exact .inr ⟨e _ _ a, e _ _ b⟩
/-- the marks that are due -/
def dueL (ms : List Str) (ps : List Pr) (ks : List Nat) : List Str := ((ms.zip ps).filter fun q => !leadsP ks q.2).map (·.1)
theorem bears_leads {xs : List Str} (nd : xs.Nodup) {p : Pr} (dj : p.1 &&& p.2 = 0) : ∀ {ks : List Nat}, (∀ k ∈ ks, k < xs.length) → bearsL (lineNames xs ks) (grp xs p.1) (grp xs p.2) = leadsP ks p
  | [], _ => rfl
  | k :: ks, h => by
    have hk := h k (by simp)
    have ih := bears_leads nd dj (ks := ks) fun j hj => h j (by simp [hj])
    have g1 := grp_at nd (k := k) (m := p.1) hk
    have g2 := grp_at nd (k := k) (m := p.2) hk
    unfold bearsL decL lineNames at ih ⊢
    rw [List.map_cons]
    unfold leadsP
    cases h1 : bitN p.1 k with
    | true =>
      have hm := g1.mpr h1
      rw [List.find?_cons_of_pos (by exact decide_eq_true (List.mem_append_left _ hm))]
      exact decide_eq_true hm
    | false =>
      have hm : xs.getD k Str.empty ∉ grp xs p.1 := fun z => by
        have := g1.mp z
        rw [h1] at this
        cases this
      cases h2 : bitN p.2 k with
      | true =>
        have hm2 := g2.mpr h2
        rw [List.find?_cons_of_pos (by exact decide_eq_true (List.mem_append_right _ hm2))]
        exact decide_eq_false hm
      | false =>
        have hm2 : xs.getD k Str.empty ∉ grp xs p.2 := fun z => by
          have := g2.mp z
          rw [h2] at this
          cases this
        rw [List.find?_cons_of_neg (by
          rw [decide_eq_false fun z => by
            rcases List.mem_append.mp z with z | z
            · exact hm z
            · exact hm2 z]
          decide)]
        exact ih
theorem unborne_due {xs ms : List Str} {ps : List Pr} {ks : List Nat} (nd : xs.Nodup) (hp : ∀ q ∈ ps, PrV xs.length q) (hk : ∀ k ∈ ks, k < xs.length) : unborneL (recsOf xs ms ps) (lineNames xs ks) = dueL ms ps ks := by
  unfold unborneL recsOf dueL
  rw [List.filter_map, List.map_map]
  have e : (ms.zip ps).filter ((fun c : Rec => !bearsL (lineNames xs ks) c.2.1 c.2.2) ∘ fun q => recOf xs q.1 q.2) = (ms.zip ps).filter fun q => !leadsP ks q.2 := by
    refine List.filter_congr fun q hq => ?_
    have hq2 := (List.of_mem_zip (a := q.1) (b := q.2) hq).2
    show (!bearsL (lineNames xs ks) (grp xs q.2.1) (grp xs q.2.2)) = _
    rw [bears_leads nd (hp q.2 hq2).dj hk]
  rw [e]
  rfl
theorem line_isort {xs : List Str} {ks : List Nat} (sx : Srt xs) (h : ks.Perm (List.range xs.length)) : isort (lineNames xs ks) = xs := by
  refine isort_of ?_ sx
  have := h.map fun k => xs.getD k Str.empty
  rw [range_names] at this
  exact this
theorem line_lt {n : Nat} {ks : List Nat} (h : ks.Perm (List.range n)) : ∀ k ∈ ks, k < n := fun k hk => List.mem_range.mp (h.subset hk)
theorem line_nd {n : Nat} {ks : List Nat} (h : ks.Perm (List.range n)) : ks.Nodup := h.nodup_iff.mpr List.nodup_range
section
local macro_rules | `(tactic| walk_at "sm") => `(tactic| first | exact Same.refl _ | assumption | (refine Same.new ?_ ‹_›; walk_at "sm") | (refine Same.trans ?_ ‹Same _ _›; walk_at "sm"))
local macro_rules | `(tactic| walk_at "s1") => `(tactic| first
  | with_reducible refine g_seq ?_ | with_reducible refine g_asg ?_ | with_reducible refine g_name ?_ | with_reducible refine g_cons ?_ | with_reducible refine g_nil ?_
  | ((with_reducible refine k_var ?_); refine ⟨_, rfl, ?_⟩) | with_reducible refine g_c ?_ | with_reducible refine g_op ?_ | with_reducible refine g_un ?_
  | with_reducible refine g_cb ?_ | with_reducible refine g_call ?_ | with_reducible refine g_ifS ?_ | with_reducible refine g_if ?_ | with_reducible refine g_tB ?_ | with_reducible refine g_test ?_
  | with_reducible refine k_bl ?_ | with_reducible refine k_iteT ?_ | with_reducible refine k_iteF ?_ | with_reducible refine k_iteNT ?_ | with_reducible refine k_iteNF ?_
  | with_reducible refine g_and ?_ | with_reducible refine g_or ?_ | with_reducible refine g_not ?_ | with_reducible refine g_andV ?_ | with_reducible refine g_orV ?_ | with_reducible refine g_notV ?_ | with_reducible refine g_yes ?_)
local macro_rules | `(tactic| walk_at "s2") => `(tactic| first
  | with_reducible refine g_ret ?_ | with_reducible refine g_drop ?_ | with_reducible refine g_next ?_ | with_reducible refine k_retN ?_
  | ((with_reducible refine k_I0 ?_); refine ⟨_, _, rfl, rfl, ?_⟩) | ((with_reducible refine k_U ?_); refine ⟨_, rfl, ?_⟩) | ((with_reducible refine k_eq ?_); refine ⟨rfl, ?_⟩) | ((with_reducible refine k_ne ?_); refine ⟨rfl, ?_⟩)
  | ((with_reducible refine k_isN ?_); refine ⟨rfl, ?_⟩) | ((with_reducible refine k_notN ?_); refine ⟨rfl, ?_⟩) | with_reducible refine k_chain ?_ | with_reducible refine k_fld ?_ | with_reducible refine k_sfld ?_
  | with_reducible refine k_tup ?_ | with_reducible refine k_lst ?_ | with_reducible refine k_meth ?_ | with_reducible refine k_bm ?_ | with_reducible refine k_bm0 ?_ | with_reducible refine k_m1 ?_ | with_reducible refine k_fmt ?_ | with_reducible refine k_joined ?_
  | with_reducible refine k_js0 ?_ | with_reducible refine k_js1 ?_ | with_reducible refine k_mkR ?_ | with_reducible refine k_sl ?_ | with_reducible refine k_part ?_ | with_reducible refine k_nopart ?_ | with_reducible refine k_gtup ?_
  | ((with_reducible refine k_aug ?_); refine ⟨_, rfl, ?_⟩) | ((with_reducible refine k_ipI ?_); refine ⟨_, _, rfl, rfl, ?_⟩) | with_reducible refine k_par ?_ | with_reducible refine k_din ?_ | with_reducible refine k_dnin ?_ | with_reducible refine k_dput ?_
  | with_reducible refine g_gcons ?_ | with_reducible refine g_gnil ?_ | with_reducible refine k_cval ?_ | with_reducible refine k_dnew ?_ | with_reducible refine k_isS ?_ | with_reducible refine k_int ?_ | with_reducible refine k_lcL ?_ | with_reducible refine k_lcT ?_ | with_reducible refine k_lcQ ?_ | with_reducible refine k_lcS ?_ | with_reducible refine k_lcR ?_ | with_reducible refine k_forL ?_ | with_reducible refine k_forT ?_ | with_reducible refine k_forQ ?_ | with_reducible refine k_forS ?_ | with_reducible refine k_forR ?_ | with_reducible refine k_forE ?_ | with_reducible refine k_forET ?_ | with_reducible refine k_forI ?_ | with_reducible refine k_star ?_ | with_reducible refine k_dcL ?_ | with_reducible refine k_listItems ?_ | with_reducible refine k_dget ?_ | ((with_reducible refine k_wipe ?_ ?_); exact rfl))
local macro_rules | `(tactic| walk_at "go") => `(tactic| repeat (first | walk_at "s1" | walk_at "s2"))
variable {a : Ax} {mg : Str → Option Value} (T : Top a mg) {vs : List V} {H : Hp} {Q : VK} {E : XK}
include T
theorem rd_law_tries (h : sp_law_tries a vs H Q E) : t_law_tries a { nx := fun _ H' => Q .non H', rt := Q } (start n_law_tries vs) H := by
  obtain ⟨n, rfl, hn, q⟩ := h
  have lb := line_big
  have tl : ∀ i, i ≤ n → (triesL n i).length ≤ 3125 := fun i hi => by
    have := tries_len n hn i
    have h2 : 5 ^ i ≤ 5 ^ 5 := Nat.pow_le_pow_right (by decide) (by omega)
    omega
  unfold t_law_tries
  walk_at "go"
  refine ⟨Nat.zero_le _, fun t0 ht0 => ?_⟩
  walk_at "go"
  refine ⟨by rw [lb]; simp, fun F hF => ?_⟩
  have e1 : Same H (upd (upd H t0 (.tup [])) F (.lst [.ref t0])) := Same.new (Same.new (Same.refl _) ht0) hF
  have F1 : ObjL (LnAt (upd (upd H t0 (.tup [])) F (.lst [.ref t0]))) (upd (upd H t0 (.tup [])) F (.lst [.ref t0])) F (triesL n 0) := ⟨[t0], upd_same, (Same.new (Same.refl _) hF : Same _ _) _ _ upd_same, trivial⟩
  generalize upd (upd H t0 (.tup [])) F (.lst [.ref t0]) = H1 at *
  walk_at "go"
  refine ⟨_, rfl, by omega, by omega, ?_⟩
  rw [Int.toNat_natCast]
  refine for_range (fun i σ H2 => Same H H2 ∧ ∃ F', ObjL (LnAt H2) H2 F' (triesL n i) ∧ ∃ u v w x, σ = [some (.int (n : Nat)), some (.ref F'), u, v, w, x]) ⟨e1, F, F1, _, _, _, _, rfl⟩ (fun i σ H2 hi c => ?_) fun σ H2 c => ?_
  · obtain ⟨e2, F', ⟨ts, hts, hA⟩, u, v, w, x, rfl⟩ := c
    have tsl := hA.len
    have tli := tl i (by omega)
    walk_at "go"
    refine ⟨Nat.zero_le _, fun G hG => ?_⟩
    have e3 : Same H2 (upd H2 G (.lst [])) := Same.new (Same.refl _) hG
    have G3 : upd H2 G (.lst []) G = some (.lst []) := upd_same
    generalize upd H2 G (.lst []) = H3 at *
    walk_at "go"
    refine ⟨F', rfl, ?_⟩
    refine fL (.inl (.inl (e3 _ _ hts))) (fun j σ H4 => OL LnAt H2 H4 G (((triesL n i).take j).flatMap (growLine n)) ∧ ∃ u w x, σ = [some (.int (n : Nat)), some (.ref F'), u, some (.ref G), w, x]) ⟨⟨e3, [], G3, trivial⟩, _, _, _, rfl⟩ (fun j σ H4 c => .inl (.inl (c.1.1 _ _ hts))) (fun j v σ H4 hv c => ?_) fun σ H4 c => ?_
    · obtain ⟨o4, u, w, x, rfl⟩ := c
      obtain ⟨t, ht, rfl⟩ := map_get hv
      obtain ⟨l, hl, hla⟩ := hA.get ht
      have fl := flat_len (growLine_len n) ((triesL n i).take j)
      have tj := len_take_le (triesL n i) j
      have fl2 : (((triesL n i).take j).flatMap (growLine n)).length ≤ 15625 := by
        have : ((triesL n i).take j).length * n ≤ 3125 * 5 := Nat.mul_le_mul (by omega) hn
        omega
      have hla4 : LnAt H4 t l := o4.1 _ _ hla
      walk_at "go"
      refine ⟨_, rfl, by omega, by omega, ?_⟩
      rw [Int.toNat_natCast]
      refine for_range (fun k σ H5 => OL LnAt H2 H5 G (((triesL n i).take j).flatMap (growLine n) ++ ((List.range k).filter fun m => decide (m ∉ l)).map fun m => l ++ [m]) ∧ ∃ u x, σ = [some (.int (n : Nat)), some (.ref F'), u, some (.ref G), some (.ref t), x]) ⟨by simpa using o4, _, _, rfl⟩ (fun k σ H5 hk c => ?_) fun σ H5 c => ?_
      · obtain ⟨o5, u, x, rfl⟩ := c
        rw [Int.zero_add]
        have hla5 : LnAt H5 t l := o5.1 _ _ hla
        have er : ((List.range (k + 1)).filter fun m => decide (m ∉ l)) = ((List.range k).filter fun m => decide (m ∉ l)) ++ if k ∈ l then [] else [k] := by
          rw [List.range_succ, List.filter_append]
          by_cases hkl : k ∈ l
          · rw [if_pos hkl, List.filter_cons_of_neg (by rw [decide_eq_false (fun z => z hkl)]; decide)] <;> rfl
          · rw [if_neg hkl, List.filter_cons_of_pos (by exact decide_eq_true hkl)] <;> rfl
        have rl : (((List.range k).filter fun m => decide (m ∉ l)).map fun m => l ++ [m]).length ≤ k := by
          rw [List.length_map]
          have := List.length_filter_le (fun m => decide (m ∉ l)) (List.range k)
          rw [List.length_range] at this
          exact this
        walk_at "go"
        refine notin_nats (l := l) (.inr (.inl (.inl hla5))) ?_
        by_cases hkl : k ∈ l
        · rw [decide_eq_true hkl]
          rw [if_pos hkl, List.append_nil] at er
          walk_at "go"
          exact ⟨by rw [er]; exact o5, _, _, rfl⟩
        · rw [decide_eq_false hkl]
          rw [if_neg hkl] at er
          walk_at "go"
          obtain ⟨ts5, g5, _⟩ := o5.2
          refine ⟨.inl ⟨rfl, _, .inl (.inl g5)⟩, ?_⟩
          walk_at "go"
          refine ⟨by rw [lb]; simp, fun b hb => ?_⟩
          have e6 : Same H5 (upd H5 b (.tup [.int (k : Nat)])) := Same.new (Same.refl _) hb
          have b6 : upd H5 b (.tup [.int (k : Nat)]) b = some (.tup [.int (k : Nat)]) := upd_same
          generalize upd H5 b (.tup [.int (k : Nat)]) = H6 at *
          have hla6 := e6 _ _ hla5
          have ll : l.length ≤ 1000000 := by
            have := tries_mem n i l (List.mem_of_getElem? hl)
            omega
          refine ⟨t, b, _, _, rfl, rfl, .inl (.inl hla6), .inl (.inl b6), by rw [List.length_map, lb]; simp; omega, fun e => ?_, fun _ e => (nomatch e), fun _ _ w hw => ?_⟩
          · have el : l = [] := by simpa using e
            subst el
            walk_at "go"
            obtain ⟨lst, g1, g2, g3⟩ := OL.add (P := LnAt) (x := [k]) (t := b) (fun h e => LnAt.t h e) o5 e6 hG b6 (by rw [List.length_append]; omega)
            refine ⟨G, lst, _, rfl, rfl, g1, g2, ?_⟩
            refine ⟨?_, _, _, rfl⟩
            rw [er, List.map_append, ← List.append_assoc]
            exact g3
          · have e7 : Same H6 (upd H6 w (.tup ((l.map fun j => V.int (j : Nat)) ++ [.int (k : Nat)]))) := Same.new (Same.refl _) hw
            have w7 : LnAt (upd H6 w (.tup ((l.map fun j => V.int (j : Nat)) ++ [.int (k : Nat)]))) w (l ++ [k]) := by
              unfold LnAt
              rw [upd_same, List.map_append] <;> rfl
            walk_at "go"
            obtain ⟨lst, g1, g2, g3⟩ := OL.add (P := LnAt) (x := l ++ [k]) (t := w) (fun h e => LnAt.t h e) o5 (e6.trans e7) hG w7 (by rw [List.length_append]; omega)
            refine ⟨G, lst, _, rfl, rfl, g1, g2, ?_⟩
            refine ⟨?_, _, _, rfl⟩
            rw [er, List.map_append, ← List.append_assoc]
            exact g3
      · obtain ⟨o5, u, x, rfl⟩ := c
        refine ⟨?_, _, _, _, rfl⟩
        rw [flatMap_snoc _ hl]
        exact o5
    · obtain ⟨o4, u, w, x, rfl⟩ := c
      rw [List.length_map, tsl, take_full] at o4
      walk_at "go"
      obtain ⟨ts4, g4, A4⟩ := o4.2
      refine ⟨G, _, rfl, .inl (.inl (.inl g4)), fun R hR => ?_⟩
      walk_at "go"
      have e5 : Same H4 (upd H4 R (.lst (ts4.map V.ref))) := Same.new (Same.refl _) hR
      exact ⟨(e2.trans o4.1).trans e5, R, ⟨ts4, upd_same, A4.mono fun _ _ k => LnAt.t k (Same.t e5)⟩, _, _, _, _, rfl⟩
  · obtain ⟨e2, F', hF', u, v, w, x, rfl⟩ := c
    walk_at "go"
    exact q F' H2 e2 hF'
theorem rd_law_fitting (h : sp_law_fitting a vs H Q E) : t_law_fitting a { nx := fun _ H' => Q .non H', rt := Q } (start n_law_fitting vs) H := by
  obtain ⟨t, l, ls, ps, rfl, ⟨ts, hts, hA⟩, hll, ⟨pt, hpt, hP⟩, q⟩ := h
  have lb := line_big
  have pl := hP.len
  unfold t_law_fitting
  walk_at "go"
  refine ⟨l, rfl, ?_⟩
  refine fL (.inl (.inl hpt)) (fun i σ H1 => Same H H1 ∧ ∃ F, ObjL (LnAt H1) H1 F (fittingL ls (ps.take i)) ∧ ∃ u v, σ = [some (.ref t), some (.ref l), some (.ref F), u, v]) ⟨Same.refl _, t, ⟨ts, hts, by
      have : fittingL ls (ps.take 0) = ls := by
        unfold fittingL
        rw [List.take_zero]
        exact List.filter_eq_self.mpr fun _ _ => rfl
      rw [this]
      exact hA⟩, _, _, rfl⟩ (fun i σ H1 c => .inl (.inl (c.1 _ _ hpt))) (fun i v σ H1 hv c => ?_) fun σ H1 c => ?_
  · obtain ⟨e1, F, ⟨fs, hfs, hF⟩, u, w, rfl⟩ := c
    obtain ⟨x, hx, rfl⟩ := map_get hv
    obtain ⟨p, hp, hpa⟩ := hP.get hx
    have fl := hF.len
    have fle : (fittingL ls (ps.take i)).length ≤ 10000 := Nat.le_trans (List.length_filter_le _ _) hll
    walk_at "go"
    refine ⟨F, rfl, ?_⟩
    refine gL (.inl (.inl hfs)) (fun j D H2 => OL LnAt H1 H2 D (((fittingL ls (ps.take i)).take j).filter fun l => leadsP l p)) (fun D hD => OL.nil hD) (fun j D H2 c => .inl (.inl (c.1 _ _ hfs))) (fun j v D H2 hD hv c => ?_) fun D H2 hD c => ?_
    · obtain ⟨y, hy, rfl⟩ := map_get hv
      obtain ⟨m, hm, hma⟩ := hF.get hy
      have hma2 : LnAt H2 y m := c.1 _ _ hma
      have fsn := filt_snoc id (fun l => leadsP l p) hm
      rw [List.map_id, List.map_id] at fsn
      walk_at "go"
      refine ⟨y, x, m, p, rfl, .inr hma2, (e1.trans c.1) _ _ hpa, ?_⟩
      cases hld : leadsP m p with
      | true =>
        rw [hld, if_pos rfl] at fsn
        walk_at "go"
        rw [fsn]
        have := filt_le (fun l => leadsP l p) (fittingL ls (ps.take i)) j
        exact OL.add (P := LnAt) (fun h e => LnAt.t h e) c (Same.refl _) hD hma2 (by omega)
      | false =>
        rw [hld, if_neg (by decide), List.append_nil] at fsn
        walk_at "go"
        rw [fsn]
        exact c
    · rw [List.length_map, fl, take_full] at c
      walk_at "go"
      refine ⟨e1.trans c.1, D, ?_, _, _, rfl⟩
      have ef : fittingL ls (ps.take (i + 1)) = (fittingL ls (ps.take i)).filter fun l => leadsP l p := by
        unfold fittingL
        rw [List.filter_filter, take_snoc hp]
        congr 1
        funext l
        rw [List.all_append]
        simp [Bool.and_comm]
      rw [ef]
      exact c.obj
  · obtain ⟨e1, F, hF, u, w, rfl⟩ := c
    rw [List.length_map, pl, take_full] at hF
    walk_at "go"
    exact q F H1 e1 hF
theorem rd_law_same (n : Nat) (h : sp_law_same a (n + 1) vs H Q E) : t_law_same a n { nx := fun _ H' => Q .non H', rt := Q } (start n_law_same vs) H := by
  obtain ⟨x, y, rfl, hs, q⟩ := h
  have lb := line_big
  -- plain values
  have plain : ∀ x, (x = .non ∨ (∃ b, x = .bl b) ∨ ∃ z, x = .str z) → t_law_same a n { nx := fun _ H' => Q .non H', rt := Q } (start n_law_same [x, x]) H := fun x hx => by
    unfold t_law_same
    rcases hx with rfl | ⟨b, rfl⟩ | ⟨z, rfl⟩
    · walk_at "go"
      rw [decide_eq_true rfl]
      walk_at "go"
      rw [decide_eq_true rfl]
      walk_at "go"
      rw [decide_eq_true rfl]
      exact q H (Same.refl _)
    · walk_at "go"
      rw [decide_eq_false (fun k => nomatch k)]
      walk_at "go"
      rw [decide_eq_false (fun k => nomatch k)]
      walk_at "go"
      refine ⟨by rw [lb]; simp, fun p hp => ?_⟩
      have e1 : Same H (upd H p (.tup [.ty "list", .ty "tuple"])) := Same.new (Same.refl _) hp
      have p1 : upd H p (.tup [.ty "list", .ty "tuple"]) p = some (.tup [.ty "list", .ty "tuple"]) := upd_same
      generalize upd H p (.tup [.ty "list", .ty "tuple"]) = H1 at *
      walk_at "go"
      refine isiT_of (b1 := false) (b2 := false) (.base (.bl b)) p1 (by decide +kernel) (by decide +kernel) ?_
      walk_at "go"
      refine k_iteZ rfl ?_
      walk_at "go"
      refine ⟨by rw [lb]; simp, fun p2 hp2 => ?_⟩
      have e2 : Same H1 (upd H1 p2 (.tup [.ty "list", .ty "tuple"])) := Same.new (Same.refl _) hp2
      have p12 : upd H1 p2 (.tup [.ty "list", .ty "tuple"]) p2 = some (.tup [.ty "list", .ty "tuple"]) := upd_same
      generalize upd H1 p2 (.tup [.ty "list", .ty "tuple"]) = H2 at *
      walk_at "go"
      refine isiT_of (b1 := false) (b2 := false) (.base (.bl b)) p12 (by decide +kernel) (by decide +kernel) ?_
      walk_at "go"
      refine k_iteZ rfl ?_
      walk_at "go"
      refine isi_of (b := true) (.base (.bl b)) (by decide +kernel) ?_
      walk_at "go"
      refine isi_of (b := true) (.base (.bl b)) (by decide +kernel) ?_
      walk_at "go"
      refine k_iteZ (by rw [decide_eq_true rfl] <;> rfl) ?_
      walk_at "go"
      refine isi_of (b := true) (.base (.bl b)) (by decide +kernel) ?_
      walk_at "go"
      refine isi_of (b := true) (.base (.bl b)) (by decide +kernel) ?_
      walk_at "go"
      refine k_iteZ (by rw [decide_eq_true rfl] <;> rfl) ?_
      walk_at "go"
      refine isi_of (b := false) (.base (.bl b)) (by decide +kernel) ?_
      walk_at "go"
      refine isi_of (b := false) (.base (.bl b)) (by decide +kernel) ?_
      walk_at "go"
      refine k_iteZ (by rw [decide_eq_true rfl] <;> rfl) ?_
      walk_at "go"
      rw [decide_eq_true rfl]
      exact q H2 (e1.trans e2)
    · walk_at "go"
      rw [decide_eq_false (fun k => nomatch k)]
      walk_at "go"
      rw [decide_eq_false (fun k => nomatch k)]
      walk_at "go"
      refine ⟨by rw [lb]; simp, fun p hp => ?_⟩
      have e1 : Same H (upd H p (.tup [.ty "list", .ty "tuple"])) := Same.new (Same.refl _) hp
      have p1 : upd H p (.tup [.ty "list", .ty "tuple"]) p = some (.tup [.ty "list", .ty "tuple"]) := upd_same
      generalize upd H p (.tup [.ty "list", .ty "tuple"]) = H1 at *
      walk_at "go"
      refine isiT_of (b1 := false) (b2 := false) (.base (.str z)) p1 (by decide +kernel) (by decide +kernel) ?_
      walk_at "go"
      refine k_iteZ rfl ?_
      walk_at "go"
      refine ⟨by rw [lb]; simp, fun p2 hp2 => ?_⟩
      have e2 : Same H1 (upd H1 p2 (.tup [.ty "list", .ty "tuple"])) := Same.new (Same.refl _) hp2
      have p12 : upd H1 p2 (.tup [.ty "list", .ty "tuple"]) p2 = some (.tup [.ty "list", .ty "tuple"]) := upd_same
      generalize upd H1 p2 (.tup [.ty "list", .ty "tuple"]) = H2 at *
      walk_at "go"
      refine isiT_of (b1 := false) (b2 := false) (.base (.str z)) p12 (by decide +kernel) (by decide +kernel) ?_
      walk_at "go"
      refine k_iteZ rfl ?_
      walk_at "go"
      refine isi_of (b := false) (.base (.str z)) (by decide +kernel) ?_
      walk_at "go"
      refine isi_of (b := false) (.base (.str z)) (by decide +kernel) ?_
      walk_at "go"
      refine k_iteZ (by rw [decide_eq_true rfl] <;> rfl) ?_
      walk_at "go"
      refine isi_of (b := false) (.base (.str z)) (by decide +kernel) ?_
      walk_at "go"
      refine isi_of (b := false) (.base (.str z)) (by decide +kernel) ?_
      walk_at "go"
      refine k_iteZ (by rw [decide_eq_true rfl] <;> rfl) ?_
      walk_at "go"
      refine isi_of (b := true) (.base (.str z)) (by decide +kernel) ?_
      walk_at "go"
      refine isi_of (b := true) (.base (.str z)) (by decide +kernel) ?_
      walk_at "go"
      refine k_iteZ (by rw [decide_eq_true rfl] <;> rfl) ?_
      walk_at "go"
      rw [decide_eq_true rfl]
      exact q H2 (e1.trans e2)
  cases n with
  | zero =>
    obtain ⟨rfl, hx⟩ := hs
    exact plain x hx
  | succ n =>
    rcases hs with ⟨rfl, hx⟩ | ⟨p, r, xs, ys, rfl, rfl, hpr, hl, hA⟩
    · exact plain x hx
    have hlen := hA.len
    have sqx : ∀ {H' : Hp}, Same H H' → Sq a.K H' p xs := fun e => by
      rcases hpr with ⟨h1, _⟩ | ⟨h1, _⟩
      · exact .inl (.inl (.inl (e _ _ h1)))
      · exact .inr (.inl (.inl (e _ _ h1)))
    have sqy : ∀ {H' : Hp}, Same H H' → Sq a.K H' r ys := fun e => by
      rcases hpr with ⟨_, h1⟩ | ⟨_, h1⟩
      · exact .inl (.inl (.inl (e _ _ h1)))
      · exact .inr (.inl (.inl (e _ _ h1)))
    have isl : ∃ b, kitB (if b then "list" else "tuple") "list" = some b ∧ (∀ {H' : Hp}, Same H H' → TyX a.K H' (.ref p) (.type (if b then "list" else "tuple"))) ∧ (∀ {H' : Hp}, Same H H' → TyX a.K H' (.ref r) (.type (if b then "list" else "tuple"))) := by
      rcases hpr with ⟨h1, h2⟩ | ⟨h1, h2⟩
      · exact ⟨true, by decide +kernel, fun e => .base (.lst (e _ _ h1)), fun e => .base (.lst (e _ _ h2))⟩
      · exact ⟨false, by decide +kernel, fun e => .base (.tup (e _ _ h1)), fun e => .base (.tup (e _ _ h2))⟩
    obtain ⟨bl, kb, tyx, tyy⟩ := isl
    have lenv : ∀ {H' : Hp} {u : Addr} {us : List V}, Sq a.K H' u us → LenV a.K (.ref u) H' us.length := fun h => by
      rcases h with h | h
      · exact .inl ⟨_, h, rfl⟩
      · exact .inr ⟨_, h, rfl⟩
    have ixv : ∀ {H' : Hp} {u : Addr} {us : List V} {i : Nat} {v : V} {Q' : VK}, Sq a.K H' u us → us[i]? = some v → Q' v H' → rIx a.K (.ref u) (.int (i : Nat)) H' Q' := fun h e q' => by
      rcases h with h | h
      · exact .inl ⟨_, _, _, _, rfl, rfl, h, by rw [Fd.atI_nat]; exact e, q'⟩
      · exact .inr (.inl ⟨_, _, _, _, rfl, rfl, h, by rw [Fd.atI_nat]; exact e, q'⟩)
    unfold t_law_same
    walk_at "go"
    rw [decide_eq_false (fun k => nomatch k)]
    walk_at "go"
    rw [decide_eq_false (fun k => nomatch k)]
    walk_at "go"
    refine ⟨by rw [lb]; simp, fun p1 hp1 => ?_⟩
    have e1 : Same H (upd H p1 (.tup [.ty "list", .ty "tuple"])) := Same.new (Same.refl _) hp1
    have t1 : upd H p1 (.tup [.ty "list", .ty "tuple"]) p1 = some (.tup [.ty "list", .ty "tuple"]) := upd_same
    generalize upd H p1 (.tup [.ty "list", .ty "tuple"]) = H1 at *
    walk_at "go"
    refine isiT_seq (sqy e1) t1 ?_
    walk_at "go"
    refine ⟨by rw [lb]; simp, fun p2 hp2 => ?_⟩
    have e2 : Same H1 (upd H1 p2 (.tup [.ty "list", .ty "tuple"])) := Same.new (Same.refl _) hp2
    have t2 : upd H1 p2 (.tup [.ty "list", .ty "tuple"]) p2 = some (.tup [.ty "list", .ty "tuple"]) := upd_same
    generalize upd H1 p2 (.tup [.ty "list", .ty "tuple"]) = H2 at *
    have e02 := e1.trans e2
    walk_at "go"
    refine isiT_seq (sqx e02) t2 ?_
    walk_at "go"
    refine isi_of (tyx e02) kb ?_
    walk_at "go"
    refine isi_of (tyy e02) kb ?_
    walk_at "go"
    refine k_iteZ (by rw [decide_eq_true rfl] <;> rfl) ?_
    walk_at "go"
    refine ⟨_, _, rfl, lenv (sqx e02), ?_⟩
    walk_at "go"
    refine ⟨_, _, rfl, lenv (sqy e02), ?_⟩
    rw [hlen]
    walk_at "go"
    refine k_iteZ (by rw [decide_eq_true rfl] <;> rfl) ?_
    walk_at "go"
    refine ⟨_, _, rfl, lenv (sqy e02), ?_⟩
    refine ⟨_, rfl, by omega, by omega, ?_⟩
    rw [Int.toNat_natCast]
    refine for_range (fun i σ H3 => Same H H3 ∧ ∃ u, σ = [some (.ref p), some (.ref r), u]) ⟨e02, _, rfl⟩ (fun i σ H3 hi c => ?_) fun σ H3 c => ?_
    · obtain ⟨e3, u, rfl⟩ := c
      rw [Int.zero_add]
      have hyi : ys[i]? = some ys[i] := List.getElem?_eq_getElem hi
      generalize ys[i] = yi at hyi
      obtain ⟨xi, hxi, hsm⟩ := hA.get' hyi
      walk_at "go"
      refine ixv (sqx e3) hxi ?_
      walk_at "go"
      refine ixv (sqy e3) hyi ?_
      walk_at "go"
      refine ⟨xi, yi, rfl, Sm.same e3 hsm, fun H4 e4 => ?_⟩
      walk_at "go"
      exact ⟨e3.trans e4, _, rfl⟩
    · obtain ⟨e3, u, rfl⟩ := c
      walk_at "go"
      exact q H3 e3
theorem rd_law_built (h : sp_law_built a vs H Q E) : t_law_built a { nx := fun _ H' => Q .non H', rt := Q } (start n_law_built vs) H := by
  have h0 := h
  obtain ⟨b, h, ns, p, xs, s, ms, l, ps, rfl, B, hp, nx, l1, l7, hs, nm, hl, vp, lm, l40, q⟩ := h
  have il := isort_len xs
  have bv := recs_book (ps := ps) (isort_nm nx) (isort_srt nx.nd) (by omega) (by omega) nm lm (fun q hq => by rw [il]; exact vp q hq) (by omega)
  -- the text, read
  have rd : ∀ H1, Keep H H1 → Bag b h ns H1 → tRet (tCall (sp_book_read a) [] L2.E0 (tCons (tCall (sp_law_text a) [] L2.E0 (tCons (tCB (rSortedS a.K) (tCons (tVar 1) tNil)) (tCons (tVar 2) (tCons (tVar 3) tNil)))) tNil)) { nx := fun _ H' => Q .non H', rt := Q } (start n_law_built [.ref b, .ref p, .ref s, .ref l]) H1 := fun H1 k1 B1 => by
    walk_at "go"
    refine sorted_of (xs := xs) (.inl (.inl (LS.k' hp k1))) nx.nd (by omega) fun S1 hS => ?_
    have e2 : Same H1 (upd H1 S1 (.lst ((isort xs).map V.str))) := Same.new (Same.refl _) hS
    have k2 := k1.trans (Keep.of e2)
    walk_at "go"
    refine ⟨S1, isort xs, s, ms, l, ps, rfl, upd_same, isort_nm nx, isort_srt nx.nd, by omega, by omega, LS.k' hs k2, nm, PrL.k hl k2, fun q hq => by rw [il]; exact vp q hq, lm, l40, fun H3 e3 => ?_⟩
    walk_at "go"
    refine ⟨isort xs, _, rfl, bv, by rw [recsOf_len _ _ _ lm]; exact l40, fun k H4 e4 nk hk => ?_⟩
    have e14 := (e2.trans e3).trans e4
    exact q k H4 (k1.trans (Keep.of e14)) (B1.same e14) hk
  obtain ⟨ts, hts, hA⟩ := hl
  have tl := hA.len
  unfold t_law_built
  walk_at "go"
  refine ⟨l, _, rfl, .inl (.inl (.inl hts)), ?_⟩
  walk_at "go"
  by_cases h8 : (((ts.map V.ref).length : Nat) : Int) < 8
  · refine k_iteY (decide_eq_true h8) ?_
    walk_at "go"
    refine ⟨b, h, ns, _, rfl, B, by decide, by decide, fun r H1 _ _ B1 k1 => ?_⟩
    walk_at "go"
    by_cases hr : 0 < r
    · refine k_iteY (decide_eq_true hr) ?_
      walk_at "go"
      exact ⟨b, h, ns, p, xs, s, ms, l, ps, rfl, B1, LS.k' hp k1, nx, l1, l7, LS.k' hs k1, nm, PrL.k ⟨ts, hts, hA⟩ k1, vp, lm, l40, fun k H2 k2 B2 hk => q k H2 (k1.trans k2) B2 hk⟩
    · refine k_iteZ (decide_eq_false hr) ?_
      exact rd H1 k1 B1
  · refine k_iteZ (decide_eq_false h8) ?_
    exact rd H (Keep.refl _) B
end
end Fd
set_option Elab.async false
set_option linter.all false
set_option maxRecDepth 100000
set_option maxHeartbeats 4000000
/-! ### FdL4g: lines so, wide so -/
namespace Fd
open PySem PySem.Spec PyProof.Rows L2 SX
theorem zip_at {ms : List Str} {ps : List Pr} {i : Nat} {m : Str} {p : Pr} (h1 : ms[i]? = some m) (h2 : ps[i]? = some p) : (ms.zip ps)[i]? = some (m, p) := (List.getElem?_zip_eq_some (z := (m, p))).mpr ⟨h1, h2⟩
theorem zip_app_take {α β : Type} : ∀ (ms : List α) (ps : List β) (ns : List α) (qs : List β), ps.length ≤ ms.length → (ms.take ps.length ++ ns).zip (ps ++ qs) = ms.zip ps ++ ns.zip qs
  | ms, [], ns, qs, _ => by simp
  | [], _ :: _, _, _, h => by simp at h
  | m :: ms, p :: ps, ns, qs, h => by
    rw [List.length_cons, List.take_succ_cons, List.cons_append, List.cons_append, List.zip_cons_cons, List.zip_cons_cons, List.cons_append, zip_app_take ms ps ns qs (by simpa using h)]
theorem zip_map_rec (xs : List Str) : ∀ (ns : List Str) (qs : List Pr), ns.zip (qs.map fun p => (grp xs p.1, grp xs p.2)) = (ns.zip qs).map fun q => recOf xs q.1 q.2
  | [], _ => rfl
  | _ :: _, [] => rfl
  | n :: ns, q :: qs => by
    rw [List.map_cons, List.zip_cons_cons, List.zip_cons_cons, List.map_cons, zip_map_rec xs ns qs] <;> rfl
theorem recs_wide {xs ms ns : List Str} {ps qs : List Pr} (h : ps.length ≤ ms.length) : recsOf xs ms ps ++ ns.zip (qs.map fun p => (grp xs p.1, grp xs p.2)) = recsOf xs (ms.take ps.length ++ ns) (ps ++ qs) := by
  unfold recsOf
  rw [zip_app_take ms ps ns qs h, List.map_append, zip_map_rec]
theorem fresh_len {old : List Str} {n : Nat} (nd : old.Nodup) (h : n + old.length ≤ 700) : (freshM old n).length = n := by
  unfold freshM
  have := marks_take (old := old) (k := 702) (by decide) nd
  rw [List.take_of_length_le (by rw [marks_len]; decide)] at this
  rw [List.length_take]
  omega
section
local macro_rules | `(tactic| walk_at "sm") => `(tactic| first | exact Same.refl _ | assumption | (refine Same.new ?_ ‹_›; walk_at "sm") | (refine Same.trans ?_ ‹Same _ _›; walk_at "sm"))
local macro_rules | `(tactic| walk_at "s1") => `(tactic| first
  | with_reducible refine g_seq ?_ | with_reducible refine g_asg ?_ | with_reducible refine g_name ?_ | with_reducible refine g_cons ?_ | with_reducible refine g_nil ?_
  | ((with_reducible refine k_var ?_); refine ⟨_, rfl, ?_⟩) | with_reducible refine g_c ?_ | with_reducible refine g_op ?_ | with_reducible refine g_un ?_
  | with_reducible refine g_cb ?_ | with_reducible refine g_call ?_ | with_reducible refine g_ifS ?_ | with_reducible refine g_if ?_ | with_reducible refine g_tB ?_ | with_reducible refine g_test ?_
  | with_reducible refine k_bl ?_ | with_reducible refine k_iteT ?_ | with_reducible refine k_iteF ?_ | with_reducible refine k_iteNT ?_ | with_reducible refine k_iteNF ?_
  | with_reducible refine g_and ?_ | with_reducible refine g_or ?_ | with_reducible refine g_not ?_ | with_reducible refine g_andV ?_ | with_reducible refine g_orV ?_ | with_reducible refine g_notV ?_ | with_reducible refine g_yes ?_)
local macro_rules | `(tactic| walk_at "s2") => `(tactic| first
  | with_reducible refine g_ret ?_ | with_reducible refine g_drop ?_ | with_reducible refine g_next ?_ | with_reducible refine k_retN ?_
  | ((with_reducible refine k_I0 ?_); refine ⟨_, _, rfl, rfl, ?_⟩) | ((with_reducible refine k_U ?_); refine ⟨_, rfl, ?_⟩) | ((with_reducible refine k_eq ?_); refine ⟨rfl, ?_⟩) | ((with_reducible refine k_ne ?_); refine ⟨rfl, ?_⟩)
  | ((with_reducible refine k_isN ?_); refine ⟨rfl, ?_⟩) | ((with_reducible refine k_notN ?_); refine ⟨rfl, ?_⟩) | with_reducible refine k_chain ?_ | with_reducible refine k_fld ?_ | with_reducible refine k_sfld ?_
  | with_reducible refine k_tup ?_ | with_reducible refine k_lst ?_ | with_reducible refine k_meth ?_ | with_reducible refine k_bm ?_ | with_reducible refine k_bm0 ?_ | with_reducible refine k_m1 ?_ | with_reducible refine k_fmt ?_ | with_reducible refine k_joined ?_
  | with_reducible refine k_js0 ?_ | with_reducible refine k_js1 ?_ | with_reducible refine k_mkR ?_ | with_reducible refine k_sl ?_ | with_reducible refine k_part ?_ | with_reducible refine k_nopart ?_ | with_reducible refine k_gtup ?_
  | ((with_reducible refine k_aug ?_); refine ⟨_, rfl, ?_⟩) | ((with_reducible refine k_ipI ?_); refine ⟨_, _, rfl, rfl, ?_⟩) | with_reducible refine k_par ?_ | with_reducible refine k_din ?_ | with_reducible refine k_dnin ?_ | with_reducible refine k_dput ?_
  | with_reducible refine g_gcons ?_ | with_reducible refine g_gnil ?_ | with_reducible refine k_cval ?_ | with_reducible refine k_dnew ?_ | with_reducible refine k_isS ?_ | with_reducible refine k_int ?_ | with_reducible refine k_lcL ?_ | with_reducible refine k_lcT ?_ | with_reducible refine k_lcQ ?_ | with_reducible refine k_lcS ?_ | with_reducible refine k_lcR ?_ | with_reducible refine k_forL ?_ | with_reducible refine k_forT ?_ | with_reducible refine k_forQ ?_ | with_reducible refine k_forS ?_ | with_reducible refine k_forR ?_ | with_reducible refine k_forE ?_ | with_reducible refine k_forET ?_ | with_reducible refine k_forI ?_ | with_reducible refine k_star ?_ | with_reducible refine k_dcL ?_ | with_reducible refine k_listItems ?_ | with_reducible refine k_dget ?_ | ((with_reducible refine k_wipe ?_ ?_); exact rfl))
local macro_rules | `(tactic| walk_at "go") => `(tactic| repeat (first | walk_at "s1" | walk_at "s2"))
variable {a : Ax} {mg : Str → Option Value} (T : Top a mg) {vs : List V} {H : Hp} {Q : VK} {E : XK}
include T
theorem rd_law_line_so (h : sp_law_line_so a vs H Q E) : t_law_line_so a { nx := fun _ H' => Q .non H', rt := Q } (start n_law_line_so vs) H := by
  obtain ⟨b, p, s, l, i, xs, ms, ps, ks, rfl, hb, hp, hs, hl, lm, lp, vp, hk, pk, q⟩ := h
  have lb := line_big
  have hb0 := hb
  obtain ⟨dx, tr, d, rs, b1, b2, b3, b4, bv⟩ := hb0
  have kl : ks.length = xs.length := by rw [pk.length_eq, List.length_range]
  have klt := line_lt pk
  have bl1 := bv.lo
  have bl7 := bv.hi
  unfold t_law_line_so
  walk_at "go"
  refine ⟨p, xs, i, ks, rfl, hp, bv.nx, hk, line_nd pk, klt, by omega, by omega, fun o H1 e1 ho => ?_⟩
  obtain ⟨ts, hts, hA⟩ := hl
  have tl := hA.len
  walk_at "go"
  refine ⟨l, _, rfl, .inl (.inl (.inl (e1 _ _ hts))), ?_⟩
  rw [List.length_map, tl]
  refine ⟨_, rfl, by omega, by omega, ?_⟩
  rw [Int.toNat_natCast]
  refine lR (fun i => (dueL ms (ps.take i) ks).map V.str) (by unfold dueL; rw [List.take_zero, List.zip_nil_right] <;> rfl) (fun j v D H2 hD hv e hd => ?_) fun D H2 hD e2 hd => ?_
  · obtain ⟨hj, rfl⟩ := hv
    rw [Int.zero_add]
    have hpj : ps[j]? = some ps[j] := List.getElem?_eq_getElem hj
    have hjm : j < ms.length := by omega
    have hmj : ms[j]? = some ms[j] := List.getElem?_eq_getElem hjm
    generalize ps[j] = pj at hpj
    generalize ms[j] = mj at hmj
    obtain ⟨tj, htj, hpa⟩ := hA.get' hpj
    have e02 := e1.trans e
    have ed : dueL ms (ps.take (j + 1)) ks = dueL ms (ps.take j) ks ++ if (!leadsP ks pj) = true then [mj] else [] := by
      unfold dueL
      rw [zip_take_r, zip_take_r]
      exact filt_snoc (fun q : Str × Pr => q.1) (fun q => !leadsP ks q.2) (zip_at hmj hpj)
    have dl : (dueL ms (ps.take j) ks).length ≤ 100 := by
      unfold dueL
      rw [List.length_map, zip_take_r]
      have := filt_le (fun q : Str × Pr => !leadsP ks q.2) (ms.zip ps) j
      rw [List.length_zip] at this
      omega
    walk_at "go"
    refine ⟨l, _, _, .ref tj, rfl, rfl, .inl (.inl (e02 _ _ hts)), by rw [Fd.atI_nat, List.getElem?_map, htj] <;> rfl, ?_⟩
    walk_at "go"
    refine ⟨i, tj, ks, pj, rfl, .inl (e02 _ _ hk), e02 _ _ hpa, ?_⟩
    cases hld : leadsP ks pj with
    | true =>
      rw [hld, if_neg (by decide), List.append_nil] at ed
      walk_at "go"
      exact ⟨e, by rw [ed]; exact hd⟩
    | false =>
      rw [hld, if_pos (by decide)] at ed
      walk_at "go"
      refine ⟨s, _, _, .str mj, rfl, rfl, .inl (.inl (e02 _ _ hs)), by rw [Fd.atI_nat, List.getElem?_map, hmj] <;> rfl, ?_⟩
      exact lc_add e hD hd (by rw [List.length_map]; omega) (by rw [ed, List.map_append] <;> rfl)
  rw [take_full] at hd
  walk_at "go"
  refine ⟨D, _, rfl, .inl ⟨.inl (.inl hd), fun du hdu => ?_⟩⟩
  have e3 : Same H2 (upd H2 du (.tup ((dueL ms ps ks).map V.str))) := Same.new (Same.refl _) hdu
  have du3 : upd H2 du (.tup ((dueL ms ps ks).map V.str)) du = some (.tup ((dueL ms ps ks).map V.str)) := upd_same
  generalize upd H2 du (.tup ((dueL ms ps ks).map V.str)) = H3 at *
  have e03 := (e1.trans e2).trans e3
  have ho3 := ho.n (Keep.of (e2.trans e3)).n
  have hb3 := hb.t (Same.t e03)
  have iso := line_isort bv.sx pk
  have eu := unborne_due (ms := ms) bv.nx.nd vp klt
  walk_at "go"
  refine ⟨b, o, xs, lineNames xs ks, _, rfl, hb3, ho3, iso, fun H4 e4 => ?_⟩
  walk_at "go"
  refine ⟨b, o, xs, lineNames xs ks, _, rfl, hb3.t (Same.t e4), ho3.n (Keep.of e4).n, iso, fun t H5 e5 ht => ?_⟩
  walk_at "go"
  have e35 := e4.trans e5
  refine ⟨b, o, xs, lineNames xs ks, _, rfl, hb3.t (Same.t e35), ho3.n (Keep.of e35).n, iso, fun H6 e6 => ?_⟩
  rw [eu] at ht
  rw [eu]
  walk_at "go"
  refine ⟨by rw [lb]; simp, fun A hA' => ?_⟩
  have e7 : Same H6 (upd H6 A (.lst [.bl (decide (dueL ms ps ks = [])), .ref t, .bl (decide (dueL ms ps ks = []))])) := Same.new (Same.refl _) hA'
  have A7 : upd H6 A (.lst [.bl (decide (dueL ms ps ks = [])), .ref t, .bl (decide (dueL ms ps ks = []))]) A = some (.lst [.bl (decide (dueL ms ps ks = [])), .ref t, .bl (decide (dueL ms ps ks = []))]) := upd_same
  generalize upd H6 A (.lst [.bl (decide (dueL ms ps ks = [])), .ref t, .bl (decide (dueL ms ps ks = []))]) = H7 at *
  have e37 := (e35.trans e6).trans e7
  have sok : ∀ z ∈ dueL ms ps ks, PyData.strOk z = true := fun z hz => by
    rw [← eu] at hz
    obtain ⟨c, hc, e⟩ := List.mem_map.mp hz
    rw [← e]
    exact (bv.mks c (List.mem_filter.mp hc).1).ok
  walk_at "go"
  refine ⟨Nat.zero_le _, fun z1 hz1 => ?_⟩
  have e8 : Same H7 (upd H7 z1 (.tup [])) := Same.new (Same.refl _) hz1
  refine eq_tt (xs := dueL ms ps ks) (ys := []) (.inl (.inl (e8 _ _ (e37 _ _ du3)))) (.inl (.inl upd_same)) sok (fun _ h => by cases h) ?_
  generalize upd H7 z1 (.tup []) = H8 at *
  walk_at "go"
  refine ⟨Nat.zero_le _, fun z2 hz2 => ?_⟩
  have e9 : Same H8 (upd H8 z2 (.tup [])) := Same.new (Same.refl _) hz2
  refine eq_tt (xs := dueL ms ps ks) (ys := []) (.inl (.inl (e9 _ _ (e8 _ _ (e37 _ _ du3))))) (.inl (.inl upd_same)) sok (fun _ h => by cases h) ?_
  generalize upd H8 z2 (.tup []) = H9 at *
  walk_at "go"
  refine ⟨by rw [lb]; simp, fun Bz hB => ?_⟩
  have e10 : Same H9 (upd H9 Bz (.lst [.bl (decide (dueL ms ps ks = [])), .ref du, .bl (decide (dueL ms ps ks = []))])) := Same.new (Same.refl _) hB
  have e79 := (e8.trans e9).trans e10
  walk_at "go"
  refine ⟨.ref A, .ref Bz, rfl, .inr ⟨A, Bz, _, _, rfl, rfl, .inl ⟨e79 _ _ A7, upd_same⟩, by simp, ?_⟩, fun H11 e11 => ?_⟩
  · have pl : ∀ z : Str, (V.str z = .non ∨ (∃ b, V.str z = .bl b) ∨ ∃ y, V.str z = .str y) := fun z => .inr (.inr ⟨z, rfl⟩)
    have all : ∀ (H' : Hp) (zs : List Str), All2 (Sm H' 0) (zs.map V.str) (zs.map V.str) := fun H' zs => by
      induction zs with
      | nil => trivial
      | cons z zs ih => exact ⟨⟨rfl, pl z⟩, ih⟩
    have dl : ((dueL ms ps ks).map V.str).length ≤ 1000 := by
      rw [List.length_map]
      unfold dueL
      rw [List.length_map]
      have := List.length_filter_le (fun q : Str × Pr => !leadsP ks q.2) (ms.zip ps)
      rw [List.length_zip] at this
      omega
    exact ⟨.inl ⟨rfl, .inr (.inl ⟨_, rfl⟩)⟩, .inr ⟨t, du, _, _, rfl, rfl, .inr ⟨(e79 _ _ (e7 _ _ (e6 _ _ ht))), e10 _ _ (e9 _ _ (e8 _ _ (e37 _ _ du3)))⟩, dl, all _ _⟩, .inl ⟨rfl, .inr (.inl ⟨_, rfl⟩)⟩, trivial⟩
  · exact q H11 ((e03.trans e37).trans (e79.trans e11))
theorem rd_law_wide_so (h : sp_law_wide_so a vs H Q E) : t_law_wide_so a { nx := fun _ H' => Q .non H', rt := Q } (start n_law_wide_so vs) H := by
  obtain ⟨b, h, ns, g, p, s, l, i, xs, ms, ps, ks, rfl, B, hb, hp, hs, nm, m40, hl, l40, vp, hk, pk, q⟩ := h
  have lb := line_big
  have hb0 := hb
  obtain ⟨dx, tr, d, rs, b1, b2, b3, b4, bv⟩ := hb0
  have bl1 := bv.lo
  have bl7 := bv.hi
  have lm : ps.length ≤ ms.length := by omega
  obtain ⟨ts, hts, hA⟩ := hl
  have hl : PrL H l ps := ⟨ts, hts, hA⟩
  have tl := hA.len
  unfold t_law_wide_so
  walk_at "go"
  refine ⟨p, _, rfl, .inl (.inl (.inl hp)), ?_⟩
  walk_at "go"
  refine ⟨l, _, rfl, .inl (.inl (.inl hts)), ?_⟩
  walk_at "go"
  refine ⟨l, _, rfl, .inl (.inl (.inl hts)), ?_⟩
  rw [List.length_map, List.length_map, tl]
  walk_at "go"
  refine ⟨Nat.zero_le _, fun Em hEm => ?_⟩
  have e1 : Same H (upd H Em (.lst [])) := Same.new (Same.refl _) hEm
  have E1 : LI (upd H Em (.lst [])) Em [] := upd_same
  generalize upd H Em (.lst []) = H1 at *
  walk_at "go"
  refine ⟨b, h, ns, xs.length, 41 - ps.length, 60 - ps.length, Em, [], ?_, B.same e1, bl7, by omega, by omega, E1, fun M mo H2 k2 B2 hM vm lo hi _ => ?_⟩
  · rw [show ((41 - ps.length : Nat) : Int) = 41 - (ps.length : Int) by omega, show ((60 - ps.length : Nat) : Int) = 60 - (ps.length : Int) by omega] <;> rfl
  have k02 : Keep H H2 := (Keep.of e1).trans k2
  walk_at "go"
  refine ⟨_, _, _, rfl, insT b1 k02.t, rfl, ?_⟩
  obtain ⟨tm, htm, hMA⟩ := hM
  have tml := hMA.len
  walk_at "go"
  refine ⟨M, rfl, ?_⟩
  have hp2 := LS.k' hp k02
  refine gL (.inl (.inl htm)) (fun j D H3 => Keep H2 H3 ∧ Bag b h ns H3 ∧ RowL a H3 D ((mo.take j).map fun p => (grp xs p.1, grp xs p.2))) (fun D hD => ⟨Keep.of (Same.new (Same.refl _) hD), B2.same (Same.new (Same.refl _) hD), [], upd_same, by simp [All2]⟩) (fun j D H3 c => .inl (.inl (c.1 _ _ htm (hard_refs tm)))) (fun j v D H3 hD hv c => ?_) fun D H3 hD c => ?_
  · obtain ⟨k3, B3, rt, hrt, hra⟩ := c
    obtain ⟨t, ht, rfl⟩ := map_get hv
    obtain ⟨pm, hpm, hpa⟩ := hMA.get ht
    have hj := (List.getElem?_eq_some_iff.mp hpm).1
    walk_at "go"
    refine ⟨b, h, ns, p, xs, t, pm, rfl, B3, LS.k' hp2 k3, bv.nx, bv.sx, bl7, PrAt.k hpa k3, vm pm (List.mem_of_getElem? hpm), fun r H4 k4 B4 hr => ?_⟩
    have hrt4 := k4 _ _ hrt (hard_refs rt)
    have rl := hra.len
    rw [List.length_map] at rl
    have tj := len_take_le mo j
    have kt : KeepT H4 (upd H4 D (.lst (rt.map V.ref ++ [V.ref r]))) := KeepT.mut hrt4 (KeepT.refl _)
    refine ⟨_, hrt4, by rw [List.length_map]; omega, Keep.upd' hD (k3.trans k4), B4.upd (B2.ne hD).1 (B2.ne hD).2, rt ++ [r], by rw [upd_same, List.map_append] <;> rfl, ?_⟩
    rw [map_take_snoc _ hpm]
    exact (hra.mono fun _ _ kk => RowAt.t kk (k4.t.trans kt)).snoc (RowAt.t hr kt)
  obtain ⟨k3, B3, hD3⟩ := c
  rw [List.length_map, tml, take_full] at hD3
  have k03 := k02.trans k3
  have hb3 := hb.t k03.t
  have hsub : ∀ c ∈ mo.map (fun p => (grp xs p.1, grp xs p.2)), ∀ z ∈ c.1 ++ c.2, z ∈ xs := fun c hc z hz => by
    obtain ⟨pm, _, e⟩ := List.mem_map.mp hc
    rw [← e] at hz
    rcases List.mem_append.mp hz with k | k <;> exact grp_mem_sub k
  have rl := recsOf_len xs ms ps lm
  walk_at "go"
  refine ⟨g, D, xs, recsOf xs ms ps, mo.map (fun p => (grp xs p.1, grp xs p.2)), rfl, hb3, hD3, hsub, by rw [rl, List.length_map]; omega, fun g' H4 e4 ng hg' => ?_⟩
  rw [recsOf_marks xs ms ps lm, List.length_map, recs_wide lm] at hg'
  have k04 := k03.trans (Keep.of e4)
  have B4 := B3.same e4
  walk_at "go"
  have hts4 := PrL.k hl k04
  obtain ⟨ts4, hts4', hA4⟩ := hts4
  have tl4 := hA4.len
  have M4 : H4 M = some (.lst (tm.map V.ref)) := e4 _ _ (k3 _ _ htm (hard_refs tm))
  refine ⟨l, _, rfl, .inl (.inl (.inl hts4')), ?_⟩
  rw [List.length_map, tl4]
  walk_at "go"
  refine ⟨s, _, rfl, .inl (.inl (LS.k' hs k04)), fun S1 hS1 => ?_⟩
  rw [cut_take, ← List.map_take]
  have e5 : Same H4 (upd H4 S1 (.lst ((ms.take ps.length).map V.str))) := Same.new (Same.refl _) hS1
  have S15 : LS (upd H4 S1 (.lst ((ms.take ps.length).map V.str))) S1 (ms.take ps.length) := upd_same
  generalize upd H4 S1 (.lst ((ms.take ps.length).map V.str)) = H5 at *
  walk_at "go"
  refine ⟨l, _, rfl, .inl (.inl (.inl (e5 _ _ hts4'))), ?_⟩
  rw [List.length_map, tl4]
  walk_at "go"
  refine ⟨s, _, rfl, .inl (.inl (e5 _ _ (LS.k' hs k04))), fun S2 hS2 => ?_⟩
  rw [cut_take, ← List.map_take]
  have e6 : Same H5 (upd H5 S2 (.lst ((ms.take ps.length).map V.str))) := Same.new (Same.refl _) hS2
  have S26 : LS (upd H5 S2 (.lst ((ms.take ps.length).map V.str))) S2 (ms.take ps.length) := upd_same
  generalize upd H5 S2 (.lst ((ms.take ps.length).map V.str)) = H6 at *
  walk_at "go"
  have M6 := e6 _ _ (e5 _ _ M4)
  refine ⟨M, _, rfl, .inl (.inl (.inl M6)), ?_⟩
  rw [List.length_map, tml]
  walk_at "go"
  refine ⟨S2, ms.take ps.length, mo.length, rfl, S26, by omega, fun F H7 e7 nF hF => ?_⟩
  have S17 : LS H7 S1 (ms.take ps.length) := e7 _ _ (e6 _ _ S15)
  have ndt : (ms.take ps.length).Nodup := nm.nd.sublist (List.take_sublist _ _)
  have ltk : (ms.take ps.length).length = ps.length := by rw [List.length_take]; omega
  have fl := fresh_len (old := ms.take ps.length) (n := mo.length) ndt (by omega)
  refine ⟨S1, F, _, _, rfl, rfl, S17, hF, by rw [List.length_map, List.length_map, ltk, fl, lb]; omega, fun Z hZ => ?_⟩
  rw [← List.map_append]
  have e8 : Same H7 (upd H7 Z (.lst ((ms.take ps.length ++ freshM (ms.take ps.length) mo.length).map V.str))) := Same.new (Same.refl _) hZ
  have Z8 : LS (upd H7 Z (.lst ((ms.take ps.length ++ freshM (ms.take ps.length) mo.length).map V.str))) Z (ms.take ps.length ++ freshM (ms.take ps.length) mo.length) := upd_same
  generalize upd H7 Z (.lst ((ms.take ps.length ++ freshM (ms.take ps.length) mo.length).map V.str)) = H8 at *
  have e48 := ((e5.trans e6).trans e7).trans e8
  have k08 := k04.trans (Keep.of e48)
  walk_at "go"
  have kl : ks.length = xs.length := by rw [pk.length_eq, List.length_range]
  refine ⟨b, h, ns, i, _, rfl, B4.same e48, .inl (LI.k hk k08), hom_nats ks, by rw [List.length_map]; omega, fun La ys H9 k9 B9 nL hL pL => ?_⟩
  have hys : ∃ qs : List Nat, ys = qs.map (fun k => V.int (k : Nat)) ∧ qs.Perm ks := by
    refine ⟨ys.map fun v => match v with | .int z => z.toNat | _ => 0, ?_, ?_⟩
    · rw [List.map_map]
      have : ∀ v ∈ ys, ((fun k : Nat => V.int (k : Nat)) ∘ fun v => match v with | .int z => z.toNat | _ => 0) v = v := fun v hv => by
        obtain ⟨z, _, e⟩ := List.mem_map.mp (pL.subset hv)
        rw [← e] <;> rfl
      rw [List.map_congr_left this, List.map_id']
    · have := pL.map (fun v => match v with | V.int z => z.toNat | _ => 0)
      rw [List.map_map] at this
      have e : ks.map ((fun v => match v with | V.int z => z.toNat | _ => 0) ∘ fun k : Nat => V.int (k : Nat)) = ks := by
        rw [show ((fun v => match v with | V.int z => z.toNat | _ => 0) ∘ fun k : Nat => V.int (k : Nat)) = id from rfl, List.map_id]
      rw [e] at this
      exact this
  obtain ⟨qs, rfl, pq⟩ := hys
  have k09 := k08.trans k9
  walk_at "go"
  refine ⟨by rw [lb]; simp, fun tt htt => ?_⟩
  have e10 : Same H9 (upd H9 tt (.tup [.ref i, .ref La])) := Same.new (Same.refl _) htt
  have t10 : upd H9 tt (.tup [.ref i, .ref La]) tt = some (.tup ([i, La].map V.ref)) := upd_same
  generalize upd H9 tt (.tup [.ref i, .ref La]) = H10 at *
  have k810 := k9.trans (Keep.of e10)
  have hg10 : BookAt a H10 g' xs (recsOf xs (ms.take ps.length ++ freshM (ms.take ps.length) mo.length) (ps ++ mo)) := hg'.t ((Same.t e48).trans k810.t)
  have Z10 := LS.k' Z8 k810
  have k010 := k08.trans k810
  have hl10 := PrL.k hl k010
  have hM10 : PrL H10 M mo := by
    have hM2 : PrL H2 M mo := ⟨tm, htm, hMA⟩
    exact PrL.k (PrL.k (PrL.k hM2 k3) (Keep.of (e4.trans e48))) k810
  have hi10 := LI.k hk k010
  have hL10 : LI H10 La qs := e10 _ _ hL
  have hp10 := LS.k' hp k010
  walk_at "go"
  refine ⟨tt, rfl, ?_⟩
  have lines : ∀ j, j < 2 → ∀ t, [i, La][j]? = some t → ∃ us : List Nat, us.Perm (List.range xs.length) ∧ LI H10 t us := fun j hj t ht => by
    have : j = 0 ∨ j = 1 := by omega
    rcases this with rfl | rfl
    · have e : i = t := by simpa using ht
      subst e
      exact ⟨ks, pk, hi10⟩
    · have e : La = t := by simpa using ht
      subst e
      exact ⟨qs, pq.trans pk, hL10⟩
  refine lT (xs := [i, La].map V.ref) (.inl (.inl t10)) (fun j => List.replicate j (V.bl true)) rfl (fun j v D2 H11 hD2 hv e11 hd => ?_) fun D2 H11 hD2 e11 hd => ?_
  · obtain ⟨t, ht, rfl⟩ := map_get hv
    have hj := (List.getElem?_eq_some_iff.mp ht).1
    have hj2 : j < 2 := hj
    obtain ⟨us, pus, hus⟩ := lines j hj2 t ht
    obtain ⟨tl1, hl1, hl2⟩ := hl10
    obtain ⟨tm1, hm1, hm2⟩ := hM10
    walk_at "go"
    refine ⟨l, M, _, _, rfl, rfl, e11 _ _ hl1, e11 _ _ hm1, by rw [List.length_map, List.length_map, hl2.len, hm2.len, lb]; omega, fun X hX => ?_⟩
    have e12 : Same H11 (upd H11 X (.lst (tl1.map V.ref ++ tm1.map V.ref))) := Same.new (Same.refl _) hX
    have e02 := e11.trans e12
    have X12 : PrL (upd H11 X (.lst (tl1.map V.ref ++ tm1.map V.ref))) X (ps ++ mo) := ⟨tl1 ++ tm1, by rw [upd_same, List.map_append], (hl2.mono fun _ _ k => PrAt.t k (Same.t e02)).app (hm2.mono fun _ _ k => PrAt.t k (Same.t e02))⟩
    have mzl : (ms.take ps.length ++ freshM (ms.take ps.length) mo.length).length = ps.length + mo.length := by rw [List.length_append, ltk, fl]
    walk_at "go"
    refine ⟨g', p, Z, X, t, xs, _, ps ++ mo, us, rfl, hg10.t (Same.t e02), e02 _ _ hp10, e02 _ _ Z10, X12, by rw [List.length_append, mzl]; exact Nat.le_refl _, by rw [List.length_append]; omega, fun q hq => ?_, e02 _ _ hus, pus, fun H13 e13 => ?_⟩
    · rcases List.mem_append.mp hq with k | k
      · exact vp q k
      · exact vm q k
    · exact lc_add (e02.trans e13) hD2 ((e12.trans e13) _ _ hd) (by rw [List.length_replicate]; omega) (rep_snoc _ _)
  · walk_at "go"
    refine ⟨D2, List.replicate 2 true, rfl, .inl (.inl (by rw [← rep_bl]; exact hd)), ?_⟩
    rw [all_rep]
    exact q H11 (k010.trans (Keep.of e11)) ((B9.same e10).same e11)
end
end Fd
set_option Elab.async false
set_option linter.all false
set_option maxRecDepth 100000
set_option maxHeartbeats 4000000
/-! ### FdExc1: try with many named clauses, the last one of two classes (the walk is that of the library's try with several clauses, turned to a clause of two classes with a name) -/
namespace Fd
open PySem PySem.Spec PyProof.Rows L2 SX
/-- clauses of one named class each -/
inductive OneHds (X : Cx) : List ExceptHandler → List Value → Prop
  | nil : OneHds X [] []
  | cons {x : Str} {c : Value} {nm : Option Str} {suite : List Stmt} {np pos' : Pos} {hds : List ExceptHandler} {cs : List Value} (hc : Names X x c) (r : OneHds X hds cs) : OneHds X (.ExceptHandler (some (.Name x np)) nm suite pos' :: hds) (c :: cs)
/-- none of the first, the last -/
def wGot (K : KF) (cs : List Value) (c1 c2 : Value) (i : Nat) (ts : Addr → Value → Option Addr → TS) (D : L2.Ends) : WX := fun cls d σ H =>
  (∀ c ∈ cs, PySem.W.exmOne K cls c = some false) ∧ PySem.W.exmAny K cls [c1, c2] = some true ∧
    ∀ a, H a = none → (σ.set i (some (.ref a)))[i]? = some (some (.ref a)) → ts a cls d { nx := fun σ' H' => D.nx (σ'.set i none) H', rt := D.rt, bk := fun σ' H' => D.bk (σ'.set i none) H', ct := fun σ' H' => D.ct (σ'.set i none) H' } (σ.set i (some (.ref a))) H
theorem flying_push {B h : Heap} {l : List Env} {a : Addr} {Z : Obj → Prop} {o : Obj} (f : HandSPX.FlyingZ B l a Z h) : HandSPX.FlyingZ B l a Z (h.push o) := by
  obtain ⟨h1, h2, h3, oe, vs, T, oT, ts, g1, g2, g3, g4, g5, g6, g7, g8, g9⟩ := f
  exact ⟨fun b o e => Heap.get?_push_of_some _ (h1 b o e), h2, Heap.FunFrames.of_keeps (fun b o e _ => ⟨o, Heap.get?_push_of_some _ e, rfl⟩) h3, oe, vs, T, oT, ts, Heap.get?_push_of_some _ g1, g2, g3, g4, g5, g6, Heap.get?_push_of_some _ g7, g8, g9⟩
section
variable {X : Cx} {x1 x2 n : Str} {c1 c2 : Value} {i kk : Nat} {body suite : List Stmt} {b₀ : Stmt} {p1 p2 tpos pos pos' : Pos} {tb : WX → TS} {ts : Addr → Value → Option Addr → TS} {hds hds' : List ExceptHandler} {h₀ : ExceptHandler} {cs : List Value}
theorem ps_try_got (hs : X.stack = X.env :: X.outer) (hf : X.env.frame = some X.env.locals) (hN : X.N.Nodup) (hi : X.N[i]? = some n) (hln : X.env.kindOf n = some .local) (n1 : Names X x1 c1) (n2 : Names X x2 c2) (ho : OneHds X hds cs)
    (el : h₀ :: hds' = hds ++ [.ExceptHandler (some (.Tuple [.Name x1 p1, .Name x2 p2] kk tpos)) (some n) (b₀ :: suite) pos'])
    (hb : ∀ (W : WX) (pn : List (Addr × Obj)) (xe : Value → Shared → Prop), Takes (X.tr pn xe) W → PassesOwn (model X.prog X.w) X.A X.env xe → PSs (X.tr pn xe) body (tb W))
    (hsu : ∀ (a : Addr) (oe : Obj) (cls : Value) (d : Option Addr) (pn : List (Addr × Obj)), Zc cls d oe → (∃ vs, oe.data = .fields vs) → PSs (X.suite a ((a, oe) :: pn)) (b₀ :: suite) (ts a cls d)) :
    PS X (.Try body (h₀ :: hds') [] [] pos) (fun D σ H => tb (wGot X.K cs c1 c2 i ts D) D σ H) := by
  refine ⟨fun pins s σ H D I h => ?_⟩
  have ok := I.ok
  have hfr : X.A.frames = some (X.env :: X.outer) := by rw [ok.frames, hs]
  have hloc : Loc X.env.scope n := .inl hln
  refine wpAny_Try_except ?_
  refine wpAny_mono ((hb (wGot X.K cs c1 c2 i ts D) (X.pn ++ pins) (fun e s₁ => wpAny (model X.prog X.w) X.A (noteFrame e X.env) (fun _ s₂ => wpAny (model X.prog X.w) X.A (setFlight e none) (fun _ s₃ =>
    wpAny (model X.prog X.w) X.A (handleBy e X.env (h₀ :: hds')) (SP X pins D) X.xe s₃) X.xe s₂) X.xe s₁) (fun u s' xx => ?_) PassesOwn.looking).run [] s σ H D (I.toTry _) h) (fun f s1 hsp => ?_) (fun e s1 he => he)
  · obtain ⟨a, B, sI, pins', σ', H', cls, d, rfl, J', nb, up, sky, na, os, ag, hno, hany, hyes⟩ := xx
    have J : Inv X pins σ' H' sI := J'.ofTry ok
    have sky' : Sky B (X.env :: X.outer) a (Zc cls d) X.env.locals s'.heap := by rw [← hs]; exact sky
    show wpAny (model X.prog X.w) X.A (noteFrame (.ref a) X.env) _ _ _
    refine Sky.land Zc.steady hfr hf sky' fun h3 fl3 up3 => ?_
    have J3 : Inv X pins σ' H' { s' with heap := h3 } := J.landed nb fl3.1 (up.trans up3) os ag
    obtain ⟨oe3, vs3, he3, hz3, hd3⟩ := fl3.there
    have notFr : ∀ {h : Heap} {o : Obj} {vs : Array Value}, h.FunFrames B (X.env :: X.outer) → h.get? a = some o → o.data = .fields vs → a ∉ frs (X.env :: X.outer) := fun {h o vs} ff e dd hm => by
      obtain ⟨_, o', e', hnf⟩ := ff.mem hm
      rw [e] at e'; cases e'
      exact hnf _ dd
    have nfr := notFr fl3.2.2.1 he3 hd3
    have nL : a ≠ X.env.locals := fun z => nfr (List.mem_filterMap.mpr ⟨X.env, List.mem_cons_self, by rw [hf, z]⟩)
    have nF : a ∉ X.fs := fun hm => by
      obtain ⟨e, he, q⟩ := List.mem_filterMap.mp hm
      exact nfr (List.mem_filterMap.mpr ⟨e, List.mem_cons_of_mem _ he, q⟩)
    have S3 := J3.suite he3 hd3 na nL nF
    have LT : PySem.W.Looks (model X.prog X.w) h3 (typeOf (.ref a)) cls := fun A Q E s k q => wpAny_typeOf_ref (k _ _ he3) (by rw [hz3.1]; exact q)
    have ev : ∀ {x : Str} {c : Value} {np : Pos} {Q : Value → Shared → Prop} {E : Value → Shared → Prop}, Names X x c → Q c { s' with heap := h3 } → wpAny (model X.prog X.w) (X.A.mark (some (.ref a))) (eval (.Name x np) X.env) Q E { s' with heap := h3 } := fun {x c np Q E} hc q => by
      obtain ⟨hg, hdbg, hm | ⟨hm, hv, hnn⟩⟩ := hc
      · exact ld_glob (X := X.suite a ((a, oe3) :: (X.pn ++ pins))) S3 hg hm q hdbg
      · exact ld_blt (X := X.suite a ((a, oe3) :: (X.pn ++ pins))) S3 hg hm hv q hnn hdbg
    -- the last clause
    have last : wpAny (model X.prog X.w) X.A (handleBy (.ref a) X.env [.ExceptHandler (some (.Tuple [.Name x1 p1, .Name x2 p2] kk tpos)) (some n) (b₀ :: suite) pos']) (SP X pins D) X.xe { s' with heap := h3 } := by
      refine wpAny_handleBy_cons (codeAny_handlers_test ?_) (by intro q; cases q)
      refine wpAny_Tuple (wpAny_items_cons (ev n1 (wpAny_items_cons (ev n2 (wpAny_items_nil ⟨by rw [line_big]; simp, ?_⟩)))))
      have kp : ∀ q o, h3.get? q = some o → (h3.push { cls := .type "tuple", data := .seq [c1, c2].toArray }).get? q = some o := fun _ _ z => Heap.get?_push_of_some _ z
      have LM := PySem.W.exm_tup2 (M := model X.prog X.w) (J3.kIn.keeps kp) (LT.keeps kp) (Heap.get?_push_size h3 rfl) hany
      refine LM.here ?_
      refine codeAny_handlers_suite_as ?_
      refine HandSPX.lands_againZ (flying_push fl3) fun h4 fl4 up4 => ?_
      have up3' : s'.heap.UpToSlots (h3.push { cls := .type "tuple", data := .seq [c1, c2].toArray }) := fun b o e dd => by
        obtain ⟨sl, q⟩ := up3 b o e dd
        exact ⟨sl, Heap.get?_push_of_some _ q⟩
      have J4 : Inv X pins σ' H' { s' with heap := h4 } := J.landed nb fl4.1 ((up.trans up3').trans up4) os ag
      obtain ⟨oe4, vs4, he4, hz4, hd4⟩ := fl4.there
      have S4 := J4.suite he4 hd4 na nL nF
      refine store_ok (X := X.suite a ((a, oe4) :: (X.pn ++ pins))) (v := .ref a) S4 hN hi hloc rfl (fun s5 S5 => ?_) (.inr hln)
      refine wpAny_mono ((hsu a oe4 cls d (X.pn ++ pins) hz4 ⟨_, hd4⟩).run [] s5 _ H' _ S5 (hyes a na (by rw [List.getElem?_set_self (by rw [J.len]; exact (List.getElem?_eq_some_iff.mp hi).1)]))) (fun f s6 hsp => ?_) (fun _ _ z => False.elim z)
      have end_ : ∀ {σ6 : L2.St} {H6 : Hp} {Q : Shared → Prop}, Inv (X.suite a ((a, oe4) :: (X.pn ++ pins))) [] σ6 H6 s6 → (∀ s7, Inv X pins (σ6.set i none) H6 s7 → Q s7) →
          wpAny (model X.prog X.w) X.A (do bindName X.env n .none; unbindBehindTheSuite X.env n pos') (fun _ s7 => Q s7) X.xe s6 := fun {σ6 H6 Q} S6 hq => gone_ok (S6.unsuite ok) hN hi hln hq
      cases f with
      | next =>
        obtain ⟨σ6, H6, S6, q6⟩ := hsp
        exact end_ S6 fun s7 J7 => ⟨_, _, J7, q6⟩
      | brk =>
        obtain ⟨σ6, H6, S6, q6⟩ := hsp
        exact end_ S6 fun s7 J7 => ⟨_, _, J7, q6⟩
      | cont =>
        obtain ⟨σ6, H6, S6, q6⟩ := hsp
        exact end_ S6 fun s7 J7 => ⟨_, _, J7, q6⟩
      | ret u =>
        obtain ⟨v6, σ6, H6, S6, r6, q6⟩ := hsp
        exact end_ S6 fun s7 J7 => ⟨_, _, _, J7, r6, q6⟩
    have go : ∀ {hs1 : List ExceptHandler} {cs1 : List Value}, OneHds X hs1 cs1 → (∀ c ∈ cs1, PySem.W.exmOne X.K cls c = some false) →
        wpAny (model X.prog X.w) X.A (handleBy (.ref a) X.env (hs1 ++ [.ExceptHandler (some (.Tuple [.Name x1 p1, .Name x2 p2] kk tpos)) (some n) (b₀ :: suite) pos'])) (SP X pins D) X.xe { s' with heap := h3 } := by
      intro hs1 cs1 hk
      induction hk with
      | nil => exact fun _ => last
      | cons hc r ih =>
        intro hall
        refine wpAny_handleBy_cons (codeAny_handlers_test ?_) (by intro q; cases q)
        have LM := PySem.W.exm_one (M := model X.prog X.w) (J3.kIn) LT (hall _ List.mem_cons_self)
        refine ev hc (LM.here ?_)
        exact ih fun c hcm => hall c (List.mem_cons_of_mem _ hcm)
    rw [el]
    exact go ho hno
  · cases f with
    | next =>
      obtain ⟨σ', H', J', q⟩ := hsp
      exact wpAny_execs_nil ⟨σ', H', J'.ofTry ok, q⟩
    | brk =>
      obtain ⟨σ', H', J', q⟩ := hsp
      exact ⟨σ', H', J'.ofTry ok, q⟩
    | cont =>
      obtain ⟨σ', H', J', q⟩ := hsp
      exact ⟨σ', H', J'.ofTry ok, q⟩
    | ret u =>
      obtain ⟨v, σ', H', J', r, q⟩ := hsp
      exact ⟨v, σ', H', J'.ofTry ok, r, q⟩
end
end Fd
set_option Elab.async false
set_option linter.all false
set_option maxRecDepth 100000
set_option maxHeartbeats 4000000
/-! ### FdExc2: OtherReasons raised and caught -/
namespace Fd
open PySem PySem.Spec PyProof.Rows L2 SX
def xFs : List (Str × V) := [("code", .str "OtherReasons")]
def sp_oex_init (a : Ax) : Sp := fun vs H Q _ => ∃ e, vs = [.ref e] ∧ H e = some (exo e a.X none) ∧ ∀ d, H d = none → d ≠ e → Q .non (upd (upd H d (exd d xFs)) e (exo e a.X (some d)))
def sp_unborne_x (a : Ax) : Sp := fun vs H _ E => ∃ b o xs ys recs, vs = [.ref b, .ref o] ∧ BookAt a H b xs recs ∧ OrdAt a H o ys ∧ isort ys ≠ xs ∧ ∀ d H', Same H H' → H' d = some (.xd xFs) → E (.ref a.X) (some d) H'
/-- .. raised out of the book and the order there -/
abbrev CalX (P : Program) (w : World) (K : KF) (mg : Str → Option Value) (base : Heap) (k : Nat) (x : Str) (sp : Sp) : Prop := ∃ (f : Addr) (fd : FuncData) (ps : List Str), FnOk P w K mg base (L2.CX P w) k f fd ps sp ∧ mg x = some (.ref f) ∧ PySem.W.keepIn K (.ref f) = true ∧ L2.Binds K fd ps []
abbrev s_oex : Stmt := inClass (top 14) 0
theorem sc_oex : FnScope ["self"] ["self"] (defScope s_oex) := C8.fnScope_by (by decide +kernel)
section
local macro_rules | `(tactic| walk_at "sm") => `(tactic| first | exact Same.refl _ | assumption | (refine Same.new ?_ ‹_›; walk_at "sm") | (refine Same.trans ?_ ‹Same _ _›; walk_at "sm"))
local macro_rules | `(tactic| walk_at "s1") => `(tactic| first
  | with_reducible refine g_seq ?_ | with_reducible refine g_asg ?_ | with_reducible refine g_name ?_ | with_reducible refine g_cons ?_ | with_reducible refine g_nil ?_
  | ((with_reducible refine k_var ?_); refine ⟨_, rfl, ?_⟩) | with_reducible refine g_c ?_ | with_reducible refine g_op ?_ | with_reducible refine g_un ?_
  | with_reducible refine g_cb ?_ | with_reducible refine g_call ?_ | with_reducible refine g_ifS ?_ | with_reducible refine g_if ?_ | with_reducible refine g_tB ?_ | with_reducible refine g_test ?_
  | with_reducible refine k_bl ?_ | with_reducible refine k_iteT ?_ | with_reducible refine k_iteF ?_ | with_reducible refine k_iteNT ?_ | with_reducible refine k_iteNF ?_
  | with_reducible refine g_and ?_ | with_reducible refine g_or ?_ | with_reducible refine g_not ?_ | with_reducible refine g_andV ?_ | with_reducible refine g_orV ?_ | with_reducible refine g_notV ?_ | with_reducible refine g_yes ?_)
local macro_rules | `(tactic| walk_at "s2") => `(tactic| first
  | with_reducible refine g_ret ?_ | with_reducible refine g_drop ?_ | with_reducible refine g_next ?_ | with_reducible refine k_retN ?_
  | ((with_reducible refine k_I0 ?_); refine ⟨_, _, rfl, rfl, ?_⟩) | ((with_reducible refine k_U ?_); refine ⟨_, rfl, ?_⟩) | ((with_reducible refine k_eq ?_); refine ⟨rfl, ?_⟩) | ((with_reducible refine k_ne ?_); refine ⟨rfl, ?_⟩)
  | ((with_reducible refine k_isN ?_); refine ⟨rfl, ?_⟩) | ((with_reducible refine k_notN ?_); refine ⟨rfl, ?_⟩) | with_reducible refine k_chain ?_ | with_reducible refine k_fld ?_ | with_reducible refine k_sfld ?_
  | with_reducible refine k_tup ?_ | with_reducible refine k_lst ?_ | with_reducible refine k_meth ?_ | with_reducible refine k_bm ?_ | with_reducible refine k_bm0 ?_ | with_reducible refine k_m1 ?_ | with_reducible refine k_fmt ?_ | with_reducible refine k_joined ?_
  | with_reducible refine k_js0 ?_ | with_reducible refine k_js1 ?_ | with_reducible refine k_mkR ?_ | with_reducible refine k_sl ?_ | with_reducible refine k_part ?_ | with_reducible refine k_nopart ?_ | with_reducible refine k_gtup ?_
  | ((with_reducible refine k_aug ?_); refine ⟨_, rfl, ?_⟩) | ((with_reducible refine k_ipI ?_); refine ⟨_, _, rfl, rfl, ?_⟩) | with_reducible refine k_par ?_ | with_reducible refine k_din ?_ | with_reducible refine k_dnin ?_ | with_reducible refine k_dput ?_
  | with_reducible refine g_gcons ?_ | with_reducible refine g_gnil ?_ | with_reducible refine k_cval ?_ | with_reducible refine k_dnew ?_ | with_reducible refine k_isS ?_ | with_reducible refine k_int ?_ | with_reducible refine k_lcL ?_ | with_reducible refine k_lcT ?_ | with_reducible refine k_lcQ ?_ | with_reducible refine k_lcS ?_ | with_reducible refine k_lcR ?_ | with_reducible refine k_forL ?_ | with_reducible refine k_forT ?_ | with_reducible refine k_forQ ?_ | with_reducible refine k_forS ?_ | with_reducible refine k_forR ?_ | with_reducible refine k_forE ?_ | with_reducible refine k_forET ?_ | with_reducible refine k_forI ?_ | with_reducible refine k_star ?_ | with_reducible refine k_dcL ?_ | with_reducible refine k_listItems ?_ | with_reducible refine k_dget ?_ | ((with_reducible refine k_wipe ?_ ?_); exact rfl))
local macro_rules | `(tactic| walk_at "go") => `(tactic| repeat (first | walk_at "s1" | walk_at "s2"))
variable {P : Program} {w : World} {mg : Str → Option Value} {base : Heap} {a : Ax}
theorem oex_of (T : Top a mg) : ∃ f fd, FnOk P w a.K mg base L2.CX0 1 f fd ["self"] (sp_oex_init a) ∧ L2.Binds a.K fd ["self"] [] ∧ OexC a.K a.X ∧ PySem.W.findIn a.K (.ref a.X) "__init__" = some (some (.ref f)) ∧ PySem.W.typeIn a.K (.ref f) = some (.type "function") ∧ mg "OtherReasons" = some (.ref a.X) := by
  obtain ⟨f, fd, F, ox, h1, h2, h3⟩ := T.d_oex.ex
  refine ⟨f, fd, fn_body (st := s_oex) F sc_oex (fun vs H Q E h => by obtain ⟨_, e, _⟩ := h; rw [e] <;> rfl) (fun f cdv A outer s H vs Q E hr h => ⟨_, pss_one (ps_ost (pv 0) pe_str), ?_⟩), F.bindsN (fun _ _ _ _ _ _ us h => match us, h with | [_], _ => rfl), ox, h1, h2, h3⟩
  obtain ⟨e, rfl, he, q⟩ := h
  refine ⟨.ref e, rfl, e, a.X, rfl, ox, T.nXcode, .inl ⟨he, fun d hd ne => ?_⟩⟩
  exact q d hd ne
/-- raise OtherReasons() -/
def tRaiseO (a : Ax) (E : XK) : TS := fun _ σ H => tMkO0 a.X (sp_oex_init a) σ H fun cls d H' => E cls d H'
theorem raise_o (T : Top a mg) {H : Hp} {σ : L2.St} {D : L2.Ends} {E : XK} (q : ∀ d H', Same H H' → H' d = some (.xd xFs) → E (.ref a.X) (some d) H') : tRaiseO a E D σ H := by
  intro e he
  refine ⟨e, rfl, upd_same, fun d hd ne => ⟨rfl, d, xFs, upd_same, ?_, ?_, ?_⟩⟩
  · rw [upd_ne ne, upd_same]
  · cases hz : H d with
    | none => rfl
    | some o =>
      rw [upd_ne ne, hz] at hd
      cases hd
  · have nd : H d = none := by
      cases hz : H d with
      | none => rfl
      | some o =>
        rw [upd_ne ne, hz] at hd
        cases hd
    refine q d _ (fun b o hb => ?_) upd_same
    have n1 : b ≠ d := ne_of_none hb nd
    have n2 : b ≠ e := ne_of_none hb he
    rw [upd_ne n1, del_ne n2, upd_ne n2, upd_ne n1, upd_ne n2]
    exact hb
theorem ok_unborne_x (T : Top a mg) : CalX P w a.K mg base 3 "unborne" (sp_unborne_x a) := by
  obtain ⟨f, fd, F, hm⟩ := T.d_unborne.ex
  obtain ⟨fo, fdo, Fo, bo, ox, i1, i2, i3⟩ := oex_of (P := P) (w := w) (base := base) T
  refine ⟨f, fd, ["book", "order"], F.ok (k := 2) (sp := sp_unborne_x a) sc_unborne (fun vs H Q E h => by obtain ⟨_, _, _, _, _, e, _⟩ := h; rw [e] <;> rfl) (fun cdv A outer s H vs Q E hr h => ?_), hm, F.kp, F.bindsN (fun _ _ _ _ _ _ us h => match us, h with | [_, _], _ => rfl)⟩
  refine ⟨tSeq (tIfS (tTest (tOp (rNeD a.K) (tFld a.K (tVar 1) "reasons") (tFld a.K (tVar 0) "reasons"))) (tRaiseO a E) tNext) tNever,
    pss_cons (ps_if (pt_cmpR (op_neD hr.units) (pe_fld (pv 1) rfl) (pe_fld (pv 0) rfl) (nomark _))
      (pss_one (ps_raise rfl (takes_of rfl rfl rfl rfl) (pmk_oex0 ox i1 i2 Fo (hr.mono (by decide)) bo L2.pass0 rfl i3))) pss_nil) (pss_one ps_never), ?_⟩
  obtain ⟨b, o, xs, ys, recs, rfl, hb, ho, hne, q⟩ := h
  obtain ⟨dx, t, d, rs, h1, h2, h3, h4, h5⟩ := hb
  obtain ⟨dy, l, d', t', kvs, o1, o2, o3, o4, o5, o6, o7⟩ := ho
  walk_at "go"
  refine ⟨_, _, _, _, _, rfl, o1, T.cO, T.nOreasons, rfl, ?_⟩
  walk_at "go"
  refine ⟨_, _, _, _, _, rfl, h1, T.cB, T.nBreasons, rfl, ?_⟩
  refine ne_tt (xs := isort ys) (ys := xs) (.inl (.inl o5)) h2.sq (fun z hz => (o6.nm z (isort_mem.mp hz)).ok) (fun z hz => (h5.nx.nm z hz).ok) ?_
  rw [decide_eq_false hne]
  walk_at "go"
  exact raise_o T q
theorem ok_fits_x (T : Top a mg) : CalX P w a.K mg base 4 "fits" (sp_unborne_x a) := by
  obtain ⟨f, fd, F, hm⟩ := T.d_fits.ex
  obtain ⟨fu, fdu, psu, Fu, mu, ku, bu⟩ := ok_unborne_x (P := P) (w := w) (base := base) T
  refine ⟨f, fd, ["book", "order"], F.ok (k := 3) (sp := sp_unborne_x a) sc_fits (fun vs H Q E h => by obtain ⟨_, _, _, _, _, e, _⟩ := h; rw [e] <;> rfl) (fun cdv A outer s H vs Q E hr h => ?_), hm, F.kp, F.bindsN (fun _ _ _ _ _ _ us h => match us, h with | [_, _], _ => rfl)⟩
  refine ⟨_, pss_one (ps_ret (pe_cmpR op_eq (bf c_lenQ T.b_len (pa_cons (pe_call Fu hr rfl mu ku bu .nil (passes_call (takes_of rfl rfl rfl rfl) (fun _ _ _ _ h => h)) (pa_cons (pv 0) (pa_cons (pv 1) pa_nil))) pa_nil)) pe_int (nomark _))), ?_⟩
  obtain ⟨b, o, xs, ys, recs, rfl, hb, ho, hne, q⟩ := h
  exact ⟨_, rfl, _, rfl, b, o, xs, ys, recs, rfl, hb, ho, hne, q⟩
end
end Fd
set_option Elab.async false
set_option linter.all false
set_option maxRecDepth 100000
set_option maxHeartbeats 4000000
/-! ### FdExc3: what _law_got makes of a lambda that raises OtherReasons -/
namespace Fd
open PySem PySem.Spec PyProof.Rows L2 SX
abbrev s_law_got : Stmt := top 84
abbrev n_law_got : List Str := ["_law_ask", "e"]
theorem sc_law_got : FnScope n_law_got ["_law_ask"] (defScope s_law_got) := C8.fnScope_by (by decide +kernel)
/-- told of the lambda's reading -/
def TTgot (a : Ax) : (XK → Hp → VK → Prop) → Hp → VK → Prop := fun tl H Q =>
  tl (fun cls d H' => cls = .ref a.X ∧ ∃ dd, d = some dd ∧ H' dd = some (.xd xFs) ∧ ∀ p, H' p = none → Q (.ref p) (upd H' p (.tup [.str "OtherReasons", .non]))) H fun v H1 => [V.str "", v].length ≤ sizeLine ∧ ∀ p, H1 p = none → Q (.ref p) (upd H1 p (.tup [.str "", v]))
section
variable {P : Program} {w : World} {mg : Str → Option Value} {base : Heap} {a : Ax}
theorem names_of {X : Cx} {x : Str} {c : Addr} (hg : Gl X x := by rfl) (hm : X.mg x = some (.ref c)) (hd : (x == ("__debug__" : Str)) = false := by decide) : Names X x (.ref c) := ⟨hg, hd, .inl hm⟩
theorem pss_exp {X : Cx} {body : List Stmt} {α : Type} {p : α → Prop} {t : α → TS} (h : ∀ x, p x → PSs X body (t x)) : PSs X body (fun D σ H => ∃ x, p x ∧ t x D σ H) :=
  ⟨fun pins s σ H D I ⟨x, hp, hq⟩ => (h x hp).run pins s σ H D I hq⟩
theorem got_gives (T : Top a mg) {N : List Str} {qual q : Str} {sc : Scope} {f0 g : Addr} {cdv cdg : Value} {A : Around} {outer : List Env} {s0 : Shared} {H0 : Hp} {E0 : XK} :
    LamX.GivesTo (cxOf L2.CX0 P w a.K mg base N qual sc f0 cdv A outer s0 H0 E0).nox n_law_got "_law_got" (defScope s_law_got) g cdg (C8.fnBody s_law_got) "_law_ask" q (TTgot a) := by
  intro f c' s H Q tl act hc h
  obtain ⟨k1, m1, x1⟩ := T.no1
  obtain ⟨k2, m2, x2⟩ := T.no2
  obtain ⟨k3, m3, x3⟩ := T.no3
  obtain ⟨k4, m4, x4⟩ := T.no4
  obtain ⟨k5, m5, x5⟩ := T.no5
  obtain ⟨k6, m6, x6⟩ := T.no6
  obtain ⟨k7, m7, x7⟩ := T.no7
  obtain ⟨k8, m8, x8⟩ := T.no8
  obtain ⟨c1, c2, y1, y2, yy⟩ := T.yes
  refine ⟨_, pss_one (ps_try_got (i := 1) (cs := [.ref k1, .ref k2, .ref k3, .ref k4, .ref k5, .ref k6, .ref k7, .ref k8]) (c1 := .ref c1) (c2 := .ref c2)
    (tb := fun W D σ H => ∃ Ech : XK, (∀ cls d σ' H', Ech cls d H' → W cls d σ' H') ∧ tRet (tTup (tCons (tC (.str "")) (tCons (fun σZ HZ Q => σZ[0]? = some (some (.ref f)) ∧ HZ c' = some (LamX.CodeO c' q) ∧ tl Ech HZ Q) tNil))) D σ H)
    rfl rfl sc_law_got.nd rfl rfl (names_of (hm := y1)) (names_of (hm := y2))
    (.cons (names_of (hm := m1)) (.cons (names_of (hm := m2)) (.cons (names_of (hm := m3)) (.cons (names_of (hm := m4)) (.cons (names_of (hm := m5)) (.cons (names_of (hm := m6)) (.cons (names_of (hm := m7)) (.cons (names_of (hm := m8)) .nil)))))))) rfl
    (fun W pn xe tk _ => ?_) (fun a' oe cls d pn hz hf => pss_one (ps_ret (pe_tup (pa_cons (pe_xf (C := a.X) T.xX T.nXcode hz hf (pv 1)) (pa_cons pe_non pa_nil)))))), ?_⟩
  · exact pss_exp fun Ech hW => pss_one (ps_ret (pe_tup (pa_cons pe_str (pa_cons (act W pn xe Ech _ _ tk hW) pa_nil))))
  · refine ⟨fun cls d H' => cls = .ref a.X ∧ ∃ dd, d = some dd ∧ H' dd = some (.xd xFs) ∧ ∀ p, H' p = none → Q (.ref p) (upd H' p (.tup [.str "OtherReasons", .non])), fun cls d σ' H' hx => ?_, rfl, hc, h⟩
    obtain ⟨rfl, dd, rfl, hd, hQ⟩ := hx
    refine ⟨fun c hcm => ?_, yy, fun e he hs => ⟨.ref e, hs, rfl, rfl, dd, xFs, .str "OtherReasons", rfl, hd, rfl, ?_⟩⟩
    · simp only [List.mem_cons, List.not_mem_nil, or_false] at hcm
      rcases hcm with rfl | rfl | rfl | rfl | rfl | rfl | rfl | rfl <;> assumption
    · exact ⟨by rw [line_big]; simp, hQ⟩
end
end Fd
set_option Elab.async false
set_option linter.all false
set_option maxRecDepth 100000
set_option maxHeartbeats 4000000
/-! ### FdOth: orders of other reasons -/
namespace Fd
open PySem PySem.Spec PyProof.Rows L2 SX
abbrev s_law_others_so : Stmt := top 87
abbrev n_law_others_so : List Str := ["_law_bag_here", "_law_page_here", "_law_names_z", "_law_seq", "_law_far", "_law_at", "_law_wrong", "_law_some", "_law_told", "_law_k"]
theorem sc_law_others_so : FnScope n_law_others_so ["_law_bag_here", "_law_page_here", "_law_names_z"] (defScope s_law_others_so) := C8.fnScope_by (by decide +kernel)
def t_law_others_so (a : Ax) : TS :=
  (tSeq (tPar 3 4 (tCons (tCall (sp_law_mixed a) [] L2.E0 (tCons (tVar 0) (tCons (tVar 2) tNil))) (tCons (tCall (sp_law_stranger a) [] L2.E0 (tCons (tVar 0) (tCons (tVar 2) tNil))) tNil)))
    (tSeq (tAsg (tCall (sp_law_take a) [] L2.E0 (tCons (tVar 0) (tCons (tCB (rLenQ a.K) (tCons (tVar 3) tNil)) tNil))) (gName 5))
    (tSeq (tAsg (tLst (tCons (tOp rCat (tOp rCat (tSl (rSlL a.K) (tVar 3) tNoPart (tPart (tVar 5))) (tLst (tCons (tVar 4) tNil))) (tSl (rSlL a.K) (tVar 3) (tPart (tOp rAddI (tVar 5) (tC (.int 1)))) tNoPart)) tNil)) (gName 6))
    (C8.tCut (tIfS (tTest (tOp rGtI (tCB (rLenQ a.K) (tCons (tVar 3) tNil)) (tC (.int 1))))
      (tDrop (tBM a.K "list" rAppend (tVar 6) (tCons (tOp rCat (tSl (rSlL a.K) (tVar 3) tNoPart (tPart (tVar 5))) (tSl (rSlL a.K) (tVar 3) (tPart (tOp rAddI (tVar 5) (tC (.int 1)))) tNoPart)) tNil)))
      tNext)
    (C8.tCut (tIfS (tTest (tOp rLtI (tCB (rLenQ a.K) (tCons (tVar 3) tNil)) (tC (.int 7))))
      (tDrop (tBM a.K "list" rAppend (tVar 6) (tCons (tOp rCat (tOp rCat (tSl (rSlL a.K) (tVar 3) tNoPart (tPart (tVar 5))) (tLst (tCons (tVar 4) tNil))) (tSl (rSlL a.K) (tVar 3) (tPart (tVar 5)) tNoPart)) tNil)))
      tNext)
    (tSeq (tFor (iList a.K (tVar 6)) (gName 7)
      (tSeq (tAsg (tCall (sp_law_line a) [] L2.E0 (tCons (tVar 7) (tCons (tLc (iRng1 (tCons (tCB (rLenA a.K) (tCons (tVar 7) tNil)) tNil)) (gName 9) tYes (tVar 9) [9]) tNil))) (gName 8))
      (tSeq (tIfS (tNot (tB (tCall (sp_law_same a 3) [] L2.E0 (tCons (LamX.tLam a.tb (TTgot a) (fun E => tCall (sp_unborne_x a) [] E (tCons (tVar 1) (tCons (tVar 8) tNil)))) (tCons (tTup (tCons (tC (.str "OtherReasons")) (tCons (tC .non) tNil))) tNil)))))
        (tRet (tC (.bl false)))
        tNext)
      (tIfS (tNot (tB (tCall (sp_law_same a 3) [] L2.E0 (tCons (LamX.tLam a.tb (TTgot a) (fun E => tCall (sp_unborne_x a) [] E (tCons (tVar 1) (tCons (tVar 8) tNil)))) (tCons (tTup (tCons (tC (.str "OtherReasons")) (tCons (tC .non) tNil))) tNil)))))
        (tRet (tC (.bl false)))
        tNext))))
    (tRet (tC (.bl true)))))))))

/-- the lambdas' name -/
abbrev QL : Str := (envOfC "_law_others_so" (defScope s_law_others_so) 0 0 .none).qual ++ "<lambda>"
theorem gotc {P : Program} {w : World} {mg : Str → Option Value} {base : Heap} {a : Ax} (T : Top a mg) {c Pt f : Addr} {A : Around} {outer : List Env} {s : Shared} {H : Hp} {E : XK} (TB : LamX.TabB base mg c Pt) (ht : a.tb = [(Pt, QL)]) {j : Nat} {params : Arguments} {body : Expr} {scope : Scope} {p lpos pos : Pos} {t : XK → TE}
    (hr : Room 6 (A.deeper (envOfC "_law_others_so" (defScope s_law_others_so) s.heap.objs.size f (.ref c))))
    (hL : LamX.lamSB (defScope s_law_others_so) scope = true) (hdef : defaultsOf params (cxOf L2.CX0 P w a.K mg base n_law_others_so "_law_others_so" (defScope s_law_others_so) f (.ref c) A outer s H E).nox.env = ([], []))
    (hbody : ∀ (A2 : Around) (outer2 : List Env) (s2 : Shared) (H2 : Hp) (E2 : XK) (f2 c2 : Addr), Room 4 (A2.deeper (LamX.lamEnv (cxOf L2.CX0 P w a.K mg base n_law_others_so "_law_others_so" (defScope s_law_others_so) f (.ref c) A outer s H E).nox scope s2.heap.objs.size f2 c2)) →
      PE (LamX.lamCx (cxOf L2.CX0 P w a.K mg base n_law_others_so "_law_others_so" (defScope s_law_others_so) f (.ref c) A outer s H E).nox A2 outer2 s2 H2 E2 scope f2 c2) body (t E2))
    (hbind : ∀ (q : Str) (cl : List (Str × Addr)) (pm cv ctv : Value), bindArgs (PySem.W.kla_fn "<lambda>" q params body scope cl pm cv ctv) ⟨[], []⟩ = pure [] := by intros; rfl) :
    PE (cxOf L2.CX0 P w a.K mg base n_law_others_so "_law_others_so" (defScope s_law_others_so) f (.ref c) A outer s H E).nox (.Call (.Name "_law_got" p) [.Lambda params body scope lpos] [] pos) (LamX.tLam a.tb (TTgot a) t) := by
  obtain ⟨g, fd, F, hm⟩ := T.d_law_got.ex
  have kp := F.kp
  obtain ⟨oc, od, dV, kV, doc, pm, an, cdv, ct, osl, rfl, lk, hcd, hD, hK⟩ := F.ex
  obtain rfl : dV = .none := by
    rcases hD with ⟨_, e⟩ | ⟨e, _⟩
    · exact e
    · exact absurd rfl e
  refine LamX.pe_lamcall (k := 4) (Ng := n_law_got) (a := "_law_ask") (c := c) (P := Pt) rfl hm kp lk hcd (F.bindsN (fun _ _ _ _ _ _ us h => match us, h with | [_], _ => rfl)) sc_law_got rfl (.inl (by decide +kernel)) (got_gives T) TB rfl (by rw [ht]; exact List.mem_cons_self) (fun q hq _ => by rw [ht] at hq; rw [List.mem_singleton.mp hq] <;> rfl) hr (LamX.lamS_by hL) hdef hbind hbody
/-- lists of names at addresses -/
def WL (H : Hp) (l : Addr) (wss : List (List Str)) : Prop := ∃ ts : List Addr, H l = some (.lst (ts.map V.ref)) ∧ All2 (fun t ws => LS H t ws) ts wss
theorem WL.n {H H' : Hp} {l : Addr} {wss : List (List Str)} (h : WL H l wss) (e : KeepN H H') : WL H' l wss := by
  obtain ⟨ts, h1, h2⟩ := h
  exact ⟨ts, e _ _ h1 (hard_refs ts) (fun _ z => nomatch z), h2.mono fun _ _ k => LS.n k e⟩
/-- names that are no order of xs -/
structure Wrg (xs ws : List Str) : Prop where
  nm : NmL ws
  lo : 1 ≤ ws.length
  hi : ws.length ≤ 7
  ne : isort ws ≠ xs
theorem WL.add {xs : List Str} {H H1 : Hp} {l t : Addr} {wss : List (List Str)} {ws : List Str} (h : WL H l wss) (e : Same H H1) (ht : LS H1 t ws) (hw : ∀ us ∈ wss, Wrg xs us) (w0 : Wrg xs ws) (hne : wss ≠ []) :
    ∃ ts : List Addr, H1 l = some (.lst (ts.map V.ref)) ∧ ts.length = wss.length ∧ WL (upd H1 l (.lst (ts.map V.ref ++ [V.ref t]))) l (wss ++ [ws]) := by
  obtain ⟨ts, h1, h2⟩ := h
  have h11 := e _ _ h1
  have tl := h2.len
  have keep : ∀ {t : Addr} {us : List Str}, LS H1 t us → Wrg xs us → LS (upd H1 l (.lst (ts.map V.ref ++ [V.ref t]))) t us ∧ t ≠ l := fun {t us} hu wu => by
    have n : t ≠ l := fun z => by
      have hu' : H1 t = some (.lst (us.map V.str)) := hu
      rw [z, h11] at hu'
      have e2 := HO.lst.inj (Option.some.inj hu')
      have := wu.lo
      cases us with
      | nil => simp at this
      | cons u us =>
        cases ts with
        | nil => cases e2
        | cons _ _ => cases e2
    refine ⟨?_, n⟩
    show upd _ _ _ _ = _
    rw [upd_ne n]
    exact hu
  refine ⟨ts, h11, tl, ts ++ [t], by rw [upd_same, List.map_append] <;> rfl, ?_⟩
  have all : All2 (fun t' ws => LS (upd H1 l (.lst (ts.map V.ref ++ [V.ref t]))) t' ws) ts wss := All2.of_get tl fun i t' us g1 g2 => by
    obtain ⟨us', g3, hu⟩ := h2.get g1
    rw [g2] at g3
    obtain rfl := Option.some.inj g3
    have k := keep (e _ _ hu) (hw us (List.mem_of_getElem? g2))
    show upd _ _ _ _ = _
    rw [upd_ne k.2]
    exact e _ _ hu
  refine all.snoc ?_
  have k := keep ht w0
  show upd _ _ _ _ = _
  rw [upd_ne k.2]
  exact ht
theorem isort_has {xs ws : List Str} {z : Str} (h : z ∈ ws) (n : z ∉ xs) : isort ws ≠ xs := fun e => n (by rw [← e]; exact isort_mem.mpr h)
theorem tabs_keep {T : List (Addr × Str)} {H H' : Hp} (e : Keep H H') (t : LamX.Tabs T H) : LamX.Tabs T H' := fun p hp => by
  obtain ⟨ps, h1, h2, h3⟩ := t p hp
  refine ⟨ps, e _ _ h1 (fun _ _ _ _ _ z => nomatch z), h2, fun pos cv hc => ?_⟩
  obtain ⟨c, e1, e2⟩ := h3 pos cv hc
  exact ⟨c, e1, e _ _ e2 (fun _ _ _ _ _ z => by unfold LamX.CodeO at z; cases z)⟩
theorem tabs_same {T : List (Addr × Str)} {H H' : Hp} (e : Same H H') (t : LamX.Tabs T H) : LamX.Tabs T H' := tabs_keep (Keep.of e) t
theorem extN_n {H H' : Hp} (e : LamX.ExtN H H') : KeepN H H' := fun b o h _ n => e b o h n
theorem Bag.ext {b h : Addr} {ns : List Int} {H H' : Hp} (B : Bag b h ns H) (e : LamX.ExtN H H') : Bag b h ns H' := by
  obtain ⟨⟨i, x, y, z, h1, h2⟩, h3⟩ := B
  exact ⟨⟨i, x, y, z, h1, e _ _ h2 (fun _ z => nomatch z)⟩, e _ _ h3 (fun _ z => nomatch z)⟩
section
local macro_rules | `(tactic| walk_at "sm") => `(tactic| first | exact Same.refl _ | assumption | (refine Same.new ?_ ‹_›; walk_at "sm") | (refine Same.trans ?_ ‹Same _ _›; walk_at "sm"))
local macro_rules | `(tactic| walk_at "s1") => `(tactic| first
  | with_reducible refine g_seq ?_ | with_reducible refine g_asg ?_ | with_reducible refine g_name ?_ | with_reducible refine g_cons ?_ | with_reducible refine g_nil ?_
  | ((with_reducible refine k_var ?_); refine ⟨_, rfl, ?_⟩) | with_reducible refine g_c ?_ | with_reducible refine g_op ?_ | with_reducible refine g_un ?_
  | with_reducible refine g_cb ?_ | with_reducible refine g_call ?_ | with_reducible refine g_ifS ?_ | with_reducible refine g_if ?_ | with_reducible refine g_tB ?_ | with_reducible refine g_test ?_
  | with_reducible refine k_bl ?_ | with_reducible refine k_iteT ?_ | with_reducible refine k_iteF ?_ | with_reducible refine k_iteNT ?_ | with_reducible refine k_iteNF ?_
  | with_reducible refine g_and ?_ | with_reducible refine g_or ?_ | with_reducible refine g_not ?_ | with_reducible refine g_andV ?_ | with_reducible refine g_orV ?_ | with_reducible refine g_notV ?_ | with_reducible refine g_yes ?_)
local macro_rules | `(tactic| walk_at "s2") => `(tactic| first
  | with_reducible refine g_ret ?_ | with_reducible refine g_drop ?_ | with_reducible refine g_next ?_ | with_reducible refine k_retN ?_
  | ((with_reducible refine k_I0 ?_); refine ⟨_, _, rfl, rfl, ?_⟩) | ((with_reducible refine k_U ?_); refine ⟨_, rfl, ?_⟩) | ((with_reducible refine k_eq ?_); refine ⟨rfl, ?_⟩) | ((with_reducible refine k_ne ?_); refine ⟨rfl, ?_⟩)
  | ((with_reducible refine k_isN ?_); refine ⟨rfl, ?_⟩) | ((with_reducible refine k_notN ?_); refine ⟨rfl, ?_⟩) | with_reducible refine k_chain ?_ | with_reducible refine k_fld ?_ | with_reducible refine k_sfld ?_
  | with_reducible refine k_tup ?_ | with_reducible refine k_lst ?_ | with_reducible refine k_meth ?_ | with_reducible refine k_bm ?_ | with_reducible refine k_bm0 ?_ | with_reducible refine k_m1 ?_ | with_reducible refine k_fmt ?_ | with_reducible refine k_joined ?_
  | with_reducible refine k_js0 ?_ | with_reducible refine k_js1 ?_ | with_reducible refine k_mkR ?_ | with_reducible refine k_sl ?_ | with_reducible refine k_part ?_ | with_reducible refine k_nopart ?_ | with_reducible refine k_gtup ?_
  | ((with_reducible refine k_aug ?_); refine ⟨_, rfl, ?_⟩) | ((with_reducible refine k_ipI ?_); refine ⟨_, _, rfl, rfl, ?_⟩) | with_reducible refine k_par ?_ | with_reducible refine k_din ?_ | with_reducible refine k_dnin ?_ | with_reducible refine k_dput ?_
  | with_reducible refine g_gcons ?_ | with_reducible refine g_gnil ?_ | with_reducible refine k_cval ?_ | with_reducible refine k_dnew ?_ | with_reducible refine k_isS ?_ | with_reducible refine k_int ?_ | with_reducible refine k_lcL ?_ | with_reducible refine k_lcT ?_ | with_reducible refine k_lcQ ?_ | with_reducible refine k_lcS ?_ | with_reducible refine k_lcR ?_ | with_reducible refine k_forL ?_ | with_reducible refine k_forT ?_ | with_reducible refine k_forQ ?_ | with_reducible refine k_forS ?_ | with_reducible refine k_forR ?_ | with_reducible refine k_forE ?_ | with_reducible refine k_forET ?_ | with_reducible refine k_forI ?_ | with_reducible refine k_star ?_ | with_reducible refine k_dcL ?_ | with_reducible refine k_listItems ?_ | with_reducible refine k_dget ?_ | ((with_reducible refine k_wipe ?_ ?_); exact rfl))
local macro_rules | `(tactic| walk_at "go") => `(tactic| repeat (first | walk_at "s1" | walk_at "s2"))
variable {a : Ax} {mg : Str → Option Value} (T : Top a mg) {vs : List V} {H : Hp} {Q : VK} {E : XK}
include T
theorem rd_law_others_so (h : sp_law_others_so a vs H Q E) : t_law_others_so a { nx := fun _ H' => Q .non H', rt := Q } (start n_law_others_so vs) H := by
  obtain ⟨b, h, ns, g, p, xs, recs, rfl, B, hb, hp, tb, q⟩ := h
  have lb := line_big
  have hb0 := hb
  obtain ⟨dx, tr, d, rs, b1, b2, b3, b4, bv⟩ := hb0
  have l1 := bv.lo
  have l7 := bv.hi
  unfold t_law_others_so
  walk_at "go"
  refine ⟨b, h, ns, p, xs.map V.str, rfl, B, .inl hp, hom_strs xs, by rw [List.length_map]; omega, fun L ys H1 k1 B1 nL hL pL => ?_⟩
  obtain ⟨zs, rfl, pz⟩ := strs_perm' pL
  have zl := pz.length_eq
  walk_at "go"
  refine ⟨b, h, ns, p, xs, rfl, B1, LS.k' hp k1, l7, fun far H2 k2 B2 fn fx => ?_⟩
  have hL2 : LS H2 L zs := LS.k' (show LS H1 L zs from hL) k2
  have zn : NmL zs := ⟨fun z hz => bv.nx.nm z (pz.subset hz), pz.nodup_iff.mpr bv.nx.nd⟩
  have fz : far ∉ zs := fun hm => fx (pz.subset hm)
  walk_at "go"
  refine ⟨_, _, rfl, ?_⟩
  walk_at "go"
  refine ⟨L, _, rfl, .inl (.inl (.inl hL2)), ?_⟩
  rw [List.length_map]
  walk_at "go"
  refine ⟨b, h, ns, _, rfl, B2, by omega, by omega, fun at0' H3 a0 a1 B3 k3 => ?_⟩
  obtain ⟨m, rfl⟩ : ∃ m : Nat, at0' = (m : Nat) := ⟨at0'.toNat, by omega⟩
  have hm : m < zs.length := by omega
  have k03 := (k1.trans k2).trans k3
  have hL3 := LS.k' hL2 k3
  have ct : ∀ n : Nat, cutV (zs.map V.str) none (some ((n : Nat) : Int)) = (zs.take n).map V.str := fun n => by rw [cut_take, ← List.map_take]
  have cd : ∀ n : Nat, cutV (zs.map V.str) (some ((n : Nat) : Int)) none = (zs.drop n).map V.str := fun n => by rw [cut_drop, ← List.map_drop]
  have m1 : ((m : Nat) : Int) + 1 = ((m + 1 : Nat) : Int) := by omega
  have tl : (zs.take m).length = m := by rw [List.length_take]; omega
  have nmt : ∀ z ∈ zs.take m, isNm z := fun z hz => zn.nm z (List.mem_of_mem_take hz)
  have nmd : ∀ n, ∀ z ∈ zs.drop n, isNm z := fun n z hz => zn.nm z (List.mem_of_mem_drop hz)
  have ndn : ∀ n, m ≤ n → (zs.take m ++ zs.drop n).Nodup := fun n hn => by
    have : (zs.take m ++ zs.drop n).Sublist zs := by
      have h1 : (zs.drop n).Sublist (zs.drop m) := by
        have : zs.drop n = (zs.drop m).drop (n - m) := by rw [List.drop_drop]; congr 1; omega
        rw [this]
        exact List.drop_sublist _ _
      have h2 := List.Sublist.append (List.Sublist.refl (zs.take m)) h1
      rw [List.take_append_drop] at h2
      exact h2
    exact zn.nd.sublist this
  have far_nm : ∀ n, m ≤ n → NmL (zs.take m ++ [far] ++ zs.drop n) := fun n hn => by
    have pp : (zs.take m ++ [far] ++ zs.drop n).Perm (far :: (zs.take m ++ zs.drop n)) := by
      rw [List.append_assoc]
      exact List.perm_middle
    refine ⟨fun z hz => ?_, pp.nodup_iff.mpr (List.nodup_cons.mpr ⟨fun hm => ?_, ndn n hn⟩)⟩
    · rcases List.mem_cons.mp (pp.subset hz) with e | hz
      · rw [e]
        exact fn
      · rcases List.mem_append.mp hz with k | k
        · exact nmt z k
        · exact nmd n z k
    · rcases List.mem_append.mp hm with k | k
      · exact fz (List.mem_of_mem_take k)
      · exact fz (List.mem_of_mem_drop k)
  have w1 : Wrg xs (zs.take m ++ [far] ++ zs.drop (m + 1)) := ⟨far_nm (m + 1) (by omega), by simp; omega, by simp only [List.length_append, List.length_drop, tl, List.length_singleton]; omega, isort_has (z := far) (by simp) fx⟩
  walk_at "go"
  refine ⟨L, _, rfl, .inl (.inl hL3), fun c1 n1 => ?_⟩
  rw [ct]
  have e4 : Same H3 (upd H3 c1 (.lst ((zs.take m).map V.str))) := Same.new (Same.refl _) n1
  have c14 : upd H3 c1 (.lst ((zs.take m).map V.str)) c1 = some (.lst ((zs.take m).map V.str)) := upd_same
  generalize upd H3 c1 (.lst ((zs.take m).map V.str)) = H4 at *
  walk_at "go"
  refine ⟨by rw [lb]; simp, fun c2 n2 => ?_⟩
  have e5 : Same H4 (upd H4 c2 (.lst [.str far])) := Same.new (Same.refl _) n2
  have c25 : upd H4 c2 (.lst [.str far]) c2 = some (.lst [.str far]) := upd_same
  generalize upd H4 c2 (.lst [.str far]) = H5 at *
  refine ⟨c1, c2, _, _, rfl, rfl, e5 _ _ c14, c25, by simp only [List.length_map, tl, List.length_singleton]; omega, fun c3 n3 => ?_⟩
  have e6 : Same H5 (upd H5 c3 (.lst ((zs.take m).map V.str ++ [.str far]))) := Same.new (Same.refl _) n3
  have c36 : upd H5 c3 (.lst ((zs.take m).map V.str ++ [.str far])) c3 = some (.lst ((zs.take m).map V.str ++ [.str far])) := upd_same
  generalize upd H5 c3 (.lst ((zs.take m).map V.str ++ [.str far])) = H6 at *
  walk_at "go"
  refine ⟨L, _, rfl, .inl (.inl (e6 _ _ (e5 _ _ (e4 _ _ hL3)))), fun c4 n4 => ?_⟩
  rw [m1, cd]
  have e7 : Same H6 (upd H6 c4 (.lst ((zs.drop (m + 1)).map V.str))) := Same.new (Same.refl _) n4
  have c47 : upd H6 c4 (.lst ((zs.drop (m + 1)).map V.str)) c4 = some (.lst ((zs.drop (m + 1)).map V.str)) := upd_same
  generalize upd H6 c4 (.lst ((zs.drop (m + 1)).map V.str)) = H7 at *
  refine ⟨c3, c4, _, _, rfl, rfl, e7 _ _ c36, c47, by simp only [List.length_append, List.length_map, tl, List.length_singleton, List.length_drop]; omega, fun c5 n5 => ?_⟩
  have e8 : Same H7 (upd H7 c5 (.lst ((zs.take m).map V.str ++ [.str far] ++ (zs.drop (m + 1)).map V.str))) := Same.new (Same.refl _) n5
  have c58 : LS (upd H7 c5 (.lst ((zs.take m).map V.str ++ [.str far] ++ (zs.drop (m + 1)).map V.str))) c5 (zs.take m ++ [far] ++ zs.drop (m + 1)) := by
    show upd _ _ _ _ = _
    rw [upd_same, List.map_append, List.map_append] <;> rfl
  generalize upd H7 c5 (.lst ((zs.take m).map V.str ++ [.str far] ++ (zs.drop (m + 1)).map V.str)) = H8 at *
  walk_at "go"
  refine ⟨by rw [lb]; simp, fun W hW => ?_⟩
  have e9 : Same H8 (upd H8 W (.lst [.ref c5])) := Same.new (Same.refl _) hW
  have W9 : WL (upd H8 W (.lst [.ref c5])) W [zs.take m ++ [far] ++ zs.drop (m + 1)] := ⟨[c5], upd_same, e9 _ _ c58, trivial⟩
  generalize upd H8 W (.lst [.ref c5]) = H9 at *
  have e39 := ((((e4.trans e5).trans e6).trans e7).trans e8).trans e9
  have nW3 : H3 W = none := ((((e4.trans e5).trans e6).trans e7).trans e8).free hW
  walk_at "go"
  have mid : ∀ (σ' : L2.St) (H' : Hp), (Same H3 H' ∧ ∃ wss, wss ≠ [] ∧ wss.length ≤ 10 ∧ WL H' W wss ∧ (∀ ws ∈ wss, Wrg xs ws) ∧ σ' = [some (.ref b), some (.ref g), some (.ref p), some (.ref L), some (.str far), some (.int (m : Nat)), some (.ref W), none, none, none]) → (Same H3 H' ∧ ∃ wss, wss ≠ [] ∧ wss.length ≤ 10 ∧ WL H' W wss ∧ (∀ ws ∈ wss, Wrg xs ws) ∧ σ' = [some (.ref b), some (.ref g), some (.ref p), some (.ref L), some (.str far), some (.int (m : Nat)), some (.ref W), none, none, none]) := fun _ _ h => h
  refine ⟨fun σ' H' => (Same H3 H' ∧ ∃ wss, wss ≠ [] ∧ wss.length ≤ 1 + 1 ∧ WL H' W wss ∧ (∀ ws ∈ wss, Wrg xs ws) ∧ σ' = [some (.ref b), some (.ref g), some (.ref p), some (.ref L), some (.str far), some (.int (m : Nat)), some (.ref W), none, none, none]), ?_, ?_⟩
  · walk_at "go"
    refine ⟨L, _, rfl, .inl (.inl (.inl (e39 _ _ hL3))), ?_⟩
    rw [List.length_map]
    walk_at "go"
    have one : ∀ ws ∈ [zs.take m ++ [far] ++ zs.drop (m + 1)], Wrg xs ws := fun ws hws => by
      rw [List.mem_singleton.mp hws]
      exact w1
    by_cases hz : (1 : Int) < (zs.length : Nat)
    · refine k_iteY (decide_eq_true hz) ?_
      walk_at "go"
      obtain ⟨tw, hw1, hw2⟩ := W9
      refine ⟨.inl ⟨rfl, _, .inl (.inl hw1)⟩, ?_⟩
      walk_at "go"
      refine ⟨L, _, rfl, .inl (.inl (e39 _ _ hL3)), fun d1 nd1 => ?_⟩
      rw [ct]
      have f1 : Same H9 (upd H9 d1 (.lst ((zs.take m).map V.str))) := Same.new (Same.refl _) nd1
      have d11 : upd H9 d1 (.lst ((zs.take m).map V.str)) d1 = some (.lst ((zs.take m).map V.str)) := upd_same
      generalize upd H9 d1 (.lst ((zs.take m).map V.str)) = G1 at *
      walk_at "go"
      refine ⟨L, _, rfl, .inl (.inl (f1 _ _ (e39 _ _ hL3))), fun d2 nd2 => ?_⟩
      rw [m1, cd]
      have f2 : Same G1 (upd G1 d2 (.lst ((zs.drop (m + 1)).map V.str))) := Same.new (Same.refl _) nd2
      have d22 : upd G1 d2 (.lst ((zs.drop (m + 1)).map V.str)) d2 = some (.lst ((zs.drop (m + 1)).map V.str)) := upd_same
      generalize upd G1 d2 (.lst ((zs.drop (m + 1)).map V.str)) = G2 at *
      refine ⟨d1, d2, _, _, rfl, rfl, f2 _ _ d11, d22, by simp only [List.length_map, tl, List.length_drop]; omega, fun d3 nd3 => ?_⟩
      rw [← List.map_append]
      have f3 : Same G2 (upd G2 d3 (.lst ((zs.take m ++ zs.drop (m + 1)).map V.str))) := Same.new (Same.refl _) nd3
      have d33 : LS (upd G2 d3 (.lst ((zs.take m ++ zs.drop (m + 1)).map V.str))) d3 (zs.take m ++ zs.drop (m + 1)) := upd_same
      generalize upd G2 d3 (.lst ((zs.take m ++ zs.drop (m + 1)).map V.str)) = G3 at *
      have f13 := (f1.trans f2).trans f3
      have dl : (zs.take m ++ zs.drop (m + 1)).length = zs.length - 1 := by rw [List.length_append, tl, List.length_drop]; omega
      have w2 : Wrg xs (zs.take m ++ zs.drop (m + 1)) := ⟨⟨fun z hz => by
        rcases List.mem_append.mp hz with k | k
        · exact nmt z k
        · exact nmd (m + 1) z k, ndn (m + 1) (by omega)⟩, by rw [dl]; omega, by rw [dl]; omega, fun e => by
          have := congrArg List.length e
          rw [isort_len, dl] at this
          omega⟩
      obtain ⟨ts, g1, g2, g3⟩ := WL.add (xs := xs) (show WL H9 W _ from ⟨tw, hw1, hw2⟩) f13 d33 one w2 (by simp)
      walk_at "go"
      refine ⟨W, _, _, rfl, rfl, g1, by rw [List.length_map, g2, lb]; simp, ?_⟩
      refine ⟨Same.mut (e39.trans f13) nW3, _, by simp, by simp, g3, fun ws hws => ?_, rfl⟩
      rcases List.mem_append.mp hws with k | k
      · exact one ws k
      · rw [List.mem_singleton.mp k]
        exact w2
    · refine k_iteZ (decide_eq_false hz) ?_
      walk_at "go"
      exact ⟨e39, _, by simp, by simp, W9, one, rfl⟩
  rintro σ' G ⟨eG, wss, wne, wl, hWL, hwr, rfl⟩
  refine ⟨fun σ' H' => (Same H3 H' ∧ ∃ wss, wss ≠ [] ∧ wss.length ≤ 3 ∧ WL H' W wss ∧ (∀ ws ∈ wss, Wrg xs ws) ∧ σ' = [some (.ref b), some (.ref g), some (.ref p), some (.ref L), some (.str far), some (.int (m : Nat)), some (.ref W), none, none, none]), ?_, ?_⟩
  · walk_at "go"
    refine ⟨L, _, rfl, .inl (.inl (.inl (eG _ _ hL3))), ?_⟩
    rw [List.length_map]
    walk_at "go"
    by_cases hz : ((zs.length : Nat) : Int) < 7
    · refine k_iteY (decide_eq_true hz) ?_
      walk_at "go"
      obtain ⟨tw, hw1, hw2⟩ := hWL
      refine ⟨.inl ⟨rfl, _, .inl (.inl hw1)⟩, ?_⟩
      walk_at "go"
      refine ⟨L, _, rfl, .inl (.inl (eG _ _ hL3)), fun d1 nd1 => ?_⟩
      rw [ct]
      have f1 : Same G (upd G d1 (.lst ((zs.take m).map V.str))) := Same.new (Same.refl _) nd1
      have d11 : upd G d1 (.lst ((zs.take m).map V.str)) d1 = some (.lst ((zs.take m).map V.str)) := upd_same
      generalize upd G d1 (.lst ((zs.take m).map V.str)) = G1 at *
      walk_at "go"
      refine ⟨by rw [lb]; simp, fun d2 nd2 => ?_⟩
      have f2 : Same G1 (upd G1 d2 (.lst [.str far])) := Same.new (Same.refl _) nd2
      have d22 : upd G1 d2 (.lst [.str far]) d2 = some (.lst [.str far]) := upd_same
      generalize upd G1 d2 (.lst [.str far]) = G2 at *
      refine ⟨d1, d2, _, _, rfl, rfl, f2 _ _ d11, d22, by simp only [List.length_map, tl, List.length_singleton]; omega, fun d3 nd3 => ?_⟩
      have f3 : Same G2 (upd G2 d3 (.lst ((zs.take m).map V.str ++ [.str far]))) := Same.new (Same.refl _) nd3
      have d33 : upd G2 d3 (.lst ((zs.take m).map V.str ++ [.str far])) d3 = some (.lst ((zs.take m).map V.str ++ [.str far])) := upd_same
      generalize upd G2 d3 (.lst ((zs.take m).map V.str ++ [.str far])) = G3 at *
      walk_at "go"
      refine ⟨L, _, rfl, .inl (.inl (f3 _ _ (f2 _ _ (f1 _ _ (eG _ _ hL3))))), fun d4 nd4 => ?_⟩
      rw [cd]
      have f4 : Same G3 (upd G3 d4 (.lst ((zs.drop m).map V.str))) := Same.new (Same.refl _) nd4
      have d44 : upd G3 d4 (.lst ((zs.drop m).map V.str)) d4 = some (.lst ((zs.drop m).map V.str)) := upd_same
      generalize upd G3 d4 (.lst ((zs.drop m).map V.str)) = G4 at *
      refine ⟨d3, d4, _, _, rfl, rfl, f4 _ _ d33, d44, by simp only [List.length_append, List.length_map, tl, List.length_singleton, List.length_drop]; omega, fun d5 nd5 => ?_⟩
      have f5 : Same G4 (upd G4 d5 (.lst ((zs.take m).map V.str ++ [.str far] ++ (zs.drop m).map V.str))) := Same.new (Same.refl _) nd5
      have d55 : LS (upd G4 d5 (.lst ((zs.take m).map V.str ++ [.str far] ++ (zs.drop m).map V.str))) d5 (zs.take m ++ [far] ++ zs.drop m) := by
        show upd _ _ _ _ = _
        rw [upd_same, List.map_append, List.map_append] <;> rfl
      generalize upd G4 d5 (.lst ((zs.take m).map V.str ++ [.str far] ++ (zs.drop m).map V.str)) = G5 at *
      have f15 := (((f1.trans f2).trans f3).trans f4).trans f5
      have w3 : Wrg xs (zs.take m ++ [far] ++ zs.drop m) := ⟨far_nm m (Nat.le_refl _), by simp; omega, by simp only [List.length_append, List.length_drop, tl, List.length_singleton]; omega, isort_has (z := far) (by simp) fx⟩
      obtain ⟨ts, g1, g2, g3⟩ := WL.add (xs := xs) (show WL G W _ from ⟨tw, hw1, hw2⟩) f15 d55 hwr w3 wne
      walk_at "go"
      refine ⟨W, _, _, rfl, rfl, g1, by rw [List.length_map, g2, lb]; omega, ?_⟩
      refine ⟨Same.mut (eG.trans f15) nW3, _, by simp, by rw [List.length_append, List.length_singleton]; omega, g3, fun ws hws => ?_, rfl⟩
      rcases List.mem_append.mp hws with k | k
      · exact hwr ws k
      · rw [List.mem_singleton.mp k]
        exact w3
    · refine k_iteZ (decide_eq_false hz) ?_
      walk_at "go"
      exact ⟨eG, wss, wne, by omega, hWL, hwr, rfl⟩
  clear hWL hwr wl wne mid
  rintro σ' G2 ⟨eG2, wss, wne, wl, hWL, hwr, rfl⟩
  have hWL0 := hWL
  obtain ⟨tw, hw1, hw2⟩ := hWL
  have twl := hw2.len
  have kG : Keep H G2 := k03.trans (Keep.of eG2)
  have BG := B3.same eG2
  have tbG := tabs_keep kG tb
  walk_at "go"
  refine ⟨W, rfl, ?_⟩
  refine fL (.inl (.inl hw1)) (fun i σ H' => KeepN G2 H' ∧ Bag b h ns H' ∧ LamX.Tabs a.tb H' ∧ ∃ u v x, σ = [some (.ref b), some (.ref g), some (.ref p), some (.ref L), some (.str far), some (.int (m : Nat)), some (.ref W), u, v, x]) ⟨KeepN.refl _, BG, tbG, _, _, _, rfl⟩ (fun i σ H' c => .inl (.inl (c.1 _ _ hw1 (hard_refs tw) (fun _ z => nomatch z)))) (fun i v σ H' hv c => ?_) fun σ H' c => ?_
  · obtain ⟨kn, Bn, tbn, u, v', x, rfl⟩ := c
    obtain ⟨t, ht, rfl⟩ := map_get hv
    obtain ⟨ws, hws, hts⟩ := hw2.get ht
    have wr := hwr ws (List.mem_of_getElem? hws)
    have wlo := wr.lo
    have whi := wr.hi
    have htn : LS H' t ws := LS.n hts kn
    walk_at "go"
    refine ⟨.ref t, ws.length, rfl, .inl ⟨_, .inl (.inl htn), by rw [List.length_map]⟩, ?_⟩
    refine ⟨_, rfl, by omega, by omega, ?_⟩
    rw [Int.toNat_natCast]
    refine lR (fun i => (List.range i).map fun k => V.int (k : Nat)) rfl (fun j v D H2 hD hv e hd => ?_) fun D H2 hD e2 hd => ?_
    · obtain ⟨hj, rfl⟩ := hv
      rw [Int.zero_add]
      walk_at "go"
      exact lc_add e hD hd (by rw [List.length_map, List.length_range]; omega) (by rw [List.range_succ, List.map_append] <;> rfl)
    walk_at "go"
    refine ⟨t, ws, D, List.range ws.length, rfl, e2 _ _ htn, wr.nm, hd, List.nodup_range, fun k hk => List.mem_range.mp hk, by rw [List.length_range]; exact wlo, by rw [List.length_range]; exact whi, fun o H3 e3 ho => ?_⟩
    have eln : lineNames ws (List.range ws.length) = ws := range_names ws
    rw [eln] at ho
    have e23 := e2.trans e3
    have hb3 : BookAt a H3 g xs recs := hb.t ((kG.n.trans kn).t.trans (Same.t e23))
    walk_at "go"
    refine ⟨tabs_same e23 tbn, fun H4 x4 tb4 => ?_⟩
    have kn4 := (kn.trans (Keep.of e23).n).trans (extN_n x4)
    refine ⟨_, rfl, _, rfl, g, o, xs, ws, recs, rfl, hb3.t (extN_n x4).t, ho.n (extN_n x4), wr.ne, fun d5 H5 e5 hd5 => ⟨rfl, d5, rfl, hd5, fun pr hpr => ?_⟩⟩
    have e6 : Same H5 (upd H5 pr (.tup [.str "OtherReasons", .non])) := Same.new (Same.refl _) hpr
    have pr6 : upd H5 pr (.tup [.str "OtherReasons", .non]) pr = some (.tup [.str "OtherReasons", .non]) := upd_same
    generalize upd H5 pr (.tup [.str "OtherReasons", .non]) = H6 at *
    walk_at "go"
    refine ⟨by rw [lb]; simp, fun qr hqr => ?_⟩
    have e7 : Same H6 (upd H6 qr (.tup [.str "OtherReasons", .non])) := Same.new (Same.refl _) hqr
    have qr7 : upd H6 qr (.tup [.str "OtherReasons", .non]) qr = some (.tup [.str "OtherReasons", .non]) := upd_same
    generalize upd H6 qr (.tup [.str "OtherReasons", .non]) = H7 at *
    walk_at "go"
    have sm : ∀ {Hz : Hp} {p1 p2 : Addr}, Hz p1 = some (.tup [.str "OtherReasons", .non]) → Hz p2 = some (.tup [.str "OtherReasons", .non]) → Sm Hz 2 (.ref p1) (.ref p2) := fun h1 h2 =>
      .inr ⟨_, _, _, _, rfl, rfl, .inr ⟨h1, h2⟩, by simp, .inl ⟨rfl, .inr (.inr ⟨_, rfl⟩)⟩, .inl ⟨rfl, .inl rfl⟩, trivial⟩
    refine ⟨_, _, rfl, sm (e7 _ _ pr6) qr7, fun H8 e8 => ?_⟩
    have e48 := ((e5.trans e6).trans e7).trans e8
    walk_at "go"
    have B8 : Bag b h ns H8 := ((Bn.same e23).ext x4).same e48
    have ho8 : OrdAt a H8 o ws := (ho.n (extN_n x4)).n (Keep.of e48).n
    have hb8 : BookAt a H8 g xs recs := (hb3.t (extN_n x4).t).t (Same.t e48)
    have kn8 := kn4.trans (Keep.of e48).n
    refine ⟨tabs_same e48 tb4, fun H9 x9 tb9 => ?_⟩
    refine ⟨_, rfl, _, rfl, g, o, xs, ws, recs, rfl, hb8.t (extN_n x9).t, ho8.n (extN_n x9), wr.ne, fun d5 H10 e10 hd5 => ⟨rfl, d5, rfl, hd5, fun pr hpr => ?_⟩⟩
    have e11 : Same H10 (upd H10 pr (.tup [.str "OtherReasons", .non])) := Same.new (Same.refl _) hpr
    have pr11 : upd H10 pr (.tup [.str "OtherReasons", .non]) pr = some (.tup [.str "OtherReasons", .non]) := upd_same
    generalize upd H10 pr (.tup [.str "OtherReasons", .non]) = H11 at *
    walk_at "go"
    refine ⟨by rw [lb]; simp, fun qr hqr => ?_⟩
    have e12 : Same H11 (upd H11 qr (.tup [.str "OtherReasons", .non])) := Same.new (Same.refl _) hqr
    have qr12 : upd H11 qr (.tup [.str "OtherReasons", .non]) qr = some (.tup [.str "OtherReasons", .non]) := upd_same
    generalize upd H11 qr (.tup [.str "OtherReasons", .non]) = H12 at *
    walk_at "go"
    refine ⟨_, _, rfl, sm (e12 _ _ pr11) qr12, fun H13 e13 => ?_⟩
    have e913 := ((e10.trans e11).trans e12).trans e13
    walk_at "go"
    exact ⟨(kn8.trans (extN_n x9)).trans (Keep.of e913).n, (B8.ext x9).same e913, tabs_same e913 tb9, _, _, _, rfl⟩
  · obtain ⟨kn, Bn, tbn, u, v', x, rfl⟩ := c
    walk_at "go"
    exact q H' (kG.n.trans kn) Bn tbn
end
end Fd
set_option Elab.async false
set_option linter.all false
set_option maxRecDepth 100000
set_option maxHeartbeats 4000000
/-! ### FdLawMath: when a whole book stands -/
namespace Fd
open PySem PySem.Spec PyProof.Rows L2 SX
/-- a place of the line that tells of the pair -/
abbrev hits (p : Pr) (k : Nat) : Bool := bitN p.1 k || bitN p.2 k
theorem leads_app {p : Pr} : ∀ {ks ls : List Nat}, leadsP (ks ++ ls) p = if ks.any (hits p) then leadsP ks p else leadsP ls p
  | [], ls => rfl
  | k :: ks, ls => by
    have ih := leads_app (p := p) (ks := ks) (ls := ls)
    show (if bitN p.1 k then true else if bitN p.2 k then false else leadsP (ks ++ ls) p) = if (hits p k || ks.any (hits p)) = true then (if bitN p.1 k then true else if bitN p.2 k then false else leadsP ks p) else leadsP ls p
    rw [ih]
    unfold hits
    generalize leadsP ks p = A
    generalize leadsP ls p = B
    generalize (ks.any fun k => bitN p.1 k || bitN p.2 k) = C
    cases bitN p.1 k <;> cases bitN p.2 k <;> cases C <;> rfl
theorem leads_none {p : Pr} {ks : List Nat} (h : ∀ k ∈ ks, bitN p.2 k = false) : leadsP ks p = true := by
  induction ks with
  | nil => rfl
  | cons k ks ih =>
    unfold leadsP
    rw [h k (by simp), ih fun j hj => h j (by simp [hj])]
    cases bitN p.1 k <;> rfl
/-- nothing of the first kind ahead, something of the second: not led -/
theorem leads_not {p : Pr} {ks : List Nat} (h1 : ∀ k ∈ ks, bitN p.1 k = false) (h2 : ∃ k ∈ ks, bitN p.2 k = true) : leadsP ks p = false := by
  induction ks with
  | nil =>
    obtain ⟨k, hk, _⟩ := h2
    cases hk
  | cons k ks ih =>
    unfold leadsP
    rw [h1 k (by simp)]
    cases hk : bitN p.2 k with
    | true => rfl
    | false =>
      obtain ⟨j, hj, e⟩ := h2
      rcases List.mem_cons.mp hj with rfl | hj
      · rw [hk] at e
        cases e
      · exact ih (fun i hi => h1 i (by simp [hi])) ⟨j, hj, e⟩
theorem bit_room {n k : Nat} : bitN (2 ^ n - 1) k = decide (k < n) := Nat.testBit_two_pow_sub_one ..
theorem coming_bit {ps : List Pr} {t n k : Nat} : bitN (comingL ps t (2 ^ n - 1)) k = (decide (k < n) && !bitN t k && !bitN (blockedL ps t) k) := by
  unfold comingL bitN
  rw [minus_bit, minus_bit, Nat.testBit_two_pow_sub_one]
theorem blocked_bit {t k : Nat} : ∀ {ps : List Pr}, bitN (blockedL ps t) k = ps.any fun p => decide (p.1 &&& t = 0) && bitN p.2 k := by
  have gen : ∀ (ps : List Pr) (b : Nat), bitN (ps.foldl (fun b p => if p.1 &&& t = 0 then b ||| p.2 else b) b) k = (bitN b k || ps.any fun p => decide (p.1 &&& t = 0) && bitN p.2 k) := by
    intro ps
    induction ps with
    | nil => intro b; simp
    | cons p ps ih =>
      intro b
      rw [List.foldl_cons, ih, List.any_cons]
      by_cases h : p.1 &&& t = 0
      · rw [if_pos h, decide_eq_true h, Bool.true_and]
        unfold bitN
        rw [Nat.testBit_or, Bool.or_assoc]
      · rw [if_neg h, decide_eq_false h, Bool.false_and, Bool.false_or]
  intro ps
  unfold blockedL
  rw [gen]
  unfold bitN
  rw [Nat.zero_testBit, Bool.false_or]
theorem and_zero {a b : Nat} (h : ¬ a &&& b = 0) : ∃ k, bitN a k = true ∧ bitN b k = true := by
  refine Classical.byContradiction fun hn => h (disj_iff.mpr fun k hk => hn ⟨k, hk⟩)
/-- a line that goes with the growth -/
structure Line (n : Nat) (ps : List Pr) (t : Nat) (ks : List Nat) : Prop where
  nd : ks.Nodup
  mem : ∀ k, k ∈ ks ↔ bitN t k = true
  sub : ∀ k ∈ ks, k < n
  led : ∀ p ∈ ps, leadsP ks p = true
theorem line_grow {n : Nat} {ps : List Pr} : ∀ (f t : Nat) (ks : List Nat), Line n ps t ks → ∃ ls, Line n ps (growL ps (2 ^ n - 1) f t) ls
  | 0, t, ks, h => ⟨ks, h⟩
  | f + 1, t, ks, h => by
    unfold growL
    by_cases c : comingL ps t (2 ^ n - 1) = 0
    · rw [if_pos c]
      exact ⟨ks, h⟩
    · rw [if_neg c]
      refine line_grow f _ (ks ++ (List.range n).filter (bitN (comingL ps t (2 ^ n - 1)))) ⟨?_, fun k => ?_, fun k hk => ?_, fun p hp => ?_⟩
      · refine List.nodup_append.mpr ⟨h.nd, List.nodup_range.sublist List.filter_sublist, fun k hk j hj e => ?_⟩
        subst e
        have h1 := (h.mem k).mp hk
        have h2 := (List.mem_filter.mp hj).2
        rw [coming_bit, h1] at h2
        simp at h2
      · rw [List.mem_append, List.mem_filter, List.mem_range, h.mem]
        have e : bitN (t ||| comingL ps t (2 ^ n - 1)) k = (bitN t k || bitN (comingL ps t (2 ^ n - 1)) k) := Nat.testBit_or ..
        rw [e, Bool.or_eq_true]
        constructor
        · rintro (k1 | k1)
          · exact .inl k1
          · exact .inr k1.2
        · rintro (k1 | k1)
          · exact .inl k1
          · refine .inr ⟨?_, k1⟩
            rw [coming_bit] at k1
            simp at k1
            exact k1.1.1
      · rcases List.mem_append.mp hk with k1 | k1
        · exact h.sub k k1
        · exact List.mem_range.mp (List.mem_filter.mp k1).1
      · rw [leads_app]
        cases ha : ks.any (hits p) with
        | true => exact h.led p hp
        | false =>
          refine leads_none fun k hk => ?_
          have hc := (List.mem_filter.mp hk).2
          rw [coming_bit] at hc
          simp at hc
          have hb := hc.2
          have pt : p.1 &&& t = 0 := disj_iff.mpr fun j ⟨j1, j2⟩ => by
            have hj := (h.mem j).mpr j2
            have := List.any_eq_false.mp ha j hj
            simp [hits, j1] at this
          rw [blocked_bit] at hb
          have := List.any_eq_false.mp hb p hp
          rw [decide_eq_true pt, Bool.true_and] at this
          cases hz : bitN p.2 k with
          | false => rfl
          | true => exact absurd hz this
/-- behind enough turns nothing comes -/
theorem grow_fix {ps : List Pr} {room : Nat} : ∀ (f t : Nat), minusN room t < f → comingL ps (growL ps room f t) room = 0
  | 0, _, h => absurd h (Nat.not_lt_zero _)
  | f + 1, t, h => by
    unfold growL
    by_cases c : comingL ps t room = 0
    · rw [if_pos c]
      exact c
    · rw [if_neg c]
      have := grow_less c
      exact grow_fix f _ (by omega)
theorem grow_sub {ps : List Pr} {n : Nat} : ∀ (f t : Nat), t < 2 ^ n → growL ps (2 ^ n - 1) f t < 2 ^ n
  | 0, t, h => h
  | f + 1, t, h => by
    unfold growL
    by_cases c : comingL ps t (2 ^ n - 1) = 0
    · rw [if_pos c]
      exact h
    · rw [if_neg c]
      refine grow_sub f _ (Nat.or_lt_two_pow h ?_)
      have h1 : comingL ps t (2 ^ n - 1) ≤ 2 ^ n - 1 := Nat.le_trans (Nat.sub_le _ _) (Nat.sub_le _ _)
      have := Nat.two_pow_pos n
      omega
theorem perm_of {n : Nat} {ks : List Nat} (nd : ks.Nodup) (h : ∀ k, k ∈ ks ↔ k < n) : ks.Perm (List.range n) :=
  (List.perm_ext_iff_of_nodup nd List.nodup_range).mpr fun k => by rw [h, List.mem_range]
/-- the whole room is reached exactly where a line leads all -/
theorem grow_iff {n : Nat} {ps : List Pr} (vp : ∀ p ∈ ps, PrV n p) : growL ps (2 ^ n - 1) (2 ^ n) 0 = 2 ^ n - 1 ↔ ∃ ks : List Nat, ks.Perm (List.range n) ∧ ∀ p ∈ ps, leadsP ks p = true := by
  constructor
  · intro h
    obtain ⟨ks, hk⟩ := line_grow (n := n) (ps := ps) (2 ^ n) 0 [] ⟨List.nodup_nil, fun k => by unfold bitN; rw [Nat.zero_testBit]; simp, (fun _ h => by cases h), fun _ _ => rfl⟩
    rw [h] at hk
    exact ⟨ks, perm_of hk.nd fun k => by rw [hk.mem, bit_room, decide_eq_true_iff], hk.led⟩
  · rintro ⟨ks, pk, led⟩
    have mn : minusN (2 ^ n - 1) 0 < 2 ^ n := by
      have := Nat.two_pow_pos n
      unfold minusN
      omega
    have fx := grow_fix (ps := ps) (2 ^ n) 0 mn
    have lt := grow_sub (ps := ps) (n := n) (2 ^ n) 0 (Nat.two_pow_pos n)
    generalize growL ps (2 ^ n - 1) (2 ^ n) 0 = t at fx lt ⊢
    -- every place of the line is taken, one behind the other
    have all : ∀ i, i ≤ ks.length → ∀ k ∈ ks.take i, bitN t k = true := by
      intro i
      induction i with
      | zero => intro _ k hk; simp at hk
      | succ i ih =>
        intro hi k hk
        have ihh := ih (by omega)
        have hg : ks[i]? = some ks[i] := List.getElem?_eq_getElem (by omega)
        rw [take_snoc hg, List.mem_append, List.mem_singleton] at hk
        rcases hk with hk | hk
        · exact ihh k hk
        · subst hk
          have hkn : ks[i] < n := line_lt pk _ (List.getElem_mem _)
          cases ht : bitN t ks[i] with
          | true => rfl
          | false =>
            have hz : bitN (comingL ps t (2 ^ n - 1)) ks[i] = false := by
              rw [fx]
              unfold bitN
              rw [Nat.zero_testBit]
            rw [coming_bit, ht, decide_eq_true hkn] at hz
            simp at hz
            rw [blocked_bit] at hz
            obtain ⟨p, hp, hpk⟩ := List.any_eq_true.mp hz
            simp at hpk
            obtain ⟨pt, pk2⟩ := hpk
            have hl := led p hp
            have nf : leadsP (ks.take i ++ [ks[i]]) p = false := leads_not (fun j hj => by
              rcases List.mem_append.mp hj with hj | hj
              · cases h1 : bitN p.1 j with
                | false => rfl
                | true => exact absurd ⟨h1, ihh j hj⟩ (disj_iff.mp pt j)
              · rw [List.mem_singleton.mp hj]
                cases h1 : bitN p.1 ks[i] with
                | false => rfl
                | true => exact absurd ⟨h1, pk2⟩ (disj_iff.mp (vp p hp).dj ks[i])) ⟨ks[i], List.mem_append_right _ (List.mem_singleton.mpr rfl), pk2⟩
            have e : ks = (ks.take i ++ [ks[i]]) ++ ks.drop (i + 1) := by rw [← take_snoc hg, List.take_append_drop]
            rw [e, leads_app, if_pos (List.any_eq_true.mpr ⟨ks[i], List.mem_append_right _ (List.mem_singleton.mpr rfl), by simp [hits, pk2]⟩), nf] at hl
            cases hl
    apply Nat.eq_of_testBit_eq
    intro k
    show bitN t k = bitN (2 ^ n - 1) k
    rw [bit_room]
    by_cases hk : k < n
    · rw [decide_eq_true hk]
      have hm : k ∈ ks := pk.symm.subset (List.mem_range.mpr hk)
      exact all ks.length (Nat.le_refl _) k (by rw [take_full]; exact hm)
    · rw [decide_eq_false hk]
      cases h1 : bitN t k with
      | false => rfl
      | true => exact absurd (lt_bit lt h1) hk
/-- the masks of rows by masks -/
theorem mask_bit {xs : List Str} {k : Nat} : ∀ ys : List Str, bitN (maskL xs ys) k = ys.any fun y => decide (idxOfS xs y = k) := by
  have gen : ∀ (ys : List Str) (m : Nat), bitN (ys.foldl (fun m y => m ||| 2 ^ idxOfS xs y) m) k = (bitN m k || ys.any fun y => decide (idxOfS xs y = k)) := by
    intro ys
    induction ys with
    | nil => intro m; simp
    | cons y ys ih =>
      intro m
      rw [List.foldl_cons, ih, List.any_cons]
      unfold bitN
      rw [Nat.testBit_or, Nat.testBit_two_pow, Bool.or_assoc]
  intro ys
  unfold maskL
  rw [gen]
  unfold bitN
  rw [Nat.zero_testBit, Bool.false_or]
theorem idx_getD {xs : List Str} (nd : xs.Nodup) {k : Nat} (hk : k < xs.length) : idxOfS xs (xs.getD k Str.empty) = k := by
  have hm := List.mem_of_getElem? (getD_at hk)
  have h := (idxOfS_at hm).1
  have hl := idxOfS_lt hm
  exact (List.getElem?_inj hl nd).mp (h.trans (getD_at hk).symm)
theorem mask_grp {xs : List Str} (nd : xs.Nodup) {m : Nat} (hm : m < 2 ^ xs.length) : maskL xs (grp xs m) = m := by
  apply Nat.eq_of_testBit_eq
  intro k
  show bitN (maskL xs (grp xs m)) k = bitN m k
  rw [mask_bit]
  cases h : bitN m k with
  | true =>
    have hk := lt_bit hm h
    exact List.any_eq_true.mpr ⟨xs.getD k Str.empty, (grp_at nd hk).mpr h, decide_eq_true (idx_getD nd hk)⟩
  | false =>
    refine List.any_eq_false.mpr fun y hy => ?_
    obtain ⟨j, hj, rfl⟩ := mem_at (grp_mem_sub hy)
    rw [idx_getD nd hj]
    intro e
    have e := of_decide_eq_true e
    subst e
    have := (grp_at nd hj).mp hy
    rw [h] at this
    cases this
theorem recs_pr {xs ms : List Str} {ps : List Pr} (nd : xs.Nodup) (vp : ∀ p ∈ ps, PrV xs.length p) (h : ps.length ≤ ms.length) : (recsOf xs ms ps).map (rowPr xs) = ps := by
  unfold recsOf
  rw [List.map_map]
  have e : (ms.zip ps).map (rowPr xs ∘ fun q => recOf xs q.1 q.2) = (ms.zip ps).map Prod.snd := List.map_congr_left fun q hq => by
    have hv := vp q.2 (List.of_mem_zip (a := q.1) (b := q.2) hq).2
    show (maskL xs (grp xs q.2.1), maskL xs (grp xs q.2.2)) = q.2
    rw [mask_grp nd hv.l1, mask_grp nd hv.l2]
  rw [e, List.map_snd_zip]
  exact h
theorem stands_iff {xs ms : List Str} {ps : List Pr} (nd : xs.Nodup) (vp : ∀ p ∈ ps, PrV xs.length p) (h : ps.length ≤ ms.length) : standsL xs (recsOf xs ms ps) = true ↔ ∃ ks : List Nat, ks.Perm (List.range xs.length) ∧ ∀ p ∈ ps, leadsP ks p = true := by
  unfold standsL
  rw [recs_pr nd vp h, decide_eq_true_iff]
  exact grow_iff vp
/-- the tries are the lines -/
theorem tries_iff {n : Nat} : ∀ (t : Nat) (l : List Nat), l ∈ triesL n t ↔ l.length = t ∧ l.Nodup ∧ ∀ k ∈ l, k < n
  | 0, l => by
    show l ∈ [[]] ↔ _
    rw [List.mem_singleton]
    constructor
    · rintro rfl
      exact ⟨rfl, List.nodup_nil, fun _ h => by cases h⟩
    · exact fun h => List.length_eq_zero_iff.mp h.1
  | t + 1, l => by
    show l ∈ (triesL n t).flatMap (growLine n) ↔ _
    rw [List.mem_flatMap]
    constructor
    · rintro ⟨m, hm, hl⟩
      obtain ⟨h1, h2, h3⟩ := (tries_iff t m).mp hm
      obtain ⟨k, hk, rfl⟩ := List.mem_map.mp hl
      obtain ⟨k1, k2⟩ := List.mem_filter.mp hk
      have k1 := List.mem_range.mp k1
      have k2 := of_decide_eq_true k2
      refine ⟨by rw [List.length_append, h1] <;> rfl, List.nodup_append.mpr ⟨h2, by simp, fun a ha b hb e => k2 (by rw [← List.mem_singleton.mp hb, ← e]; exact ha)⟩, fun j hj => ?_⟩
      rcases List.mem_append.mp hj with hj | hj
      · exact h3 j hj
      · rw [List.mem_singleton.mp hj]
        exact k1
    · rintro ⟨h1, h2, h3⟩
      have hne : l ≠ [] := fun e => by rw [e] at h1; cases h1
      have e := List.dropLast_concat_getLast hne
      rw [← e] at h2 h3
      obtain ⟨n1, n2, n3⟩ := List.nodup_append.mp h2
      refine ⟨l.dropLast, (tries_iff t _).mpr ⟨by rw [List.length_dropLast, h1] <;> rfl, n1, fun k hk => h3 k (List.mem_append_left _ hk)⟩, List.mem_map.mpr ⟨l.getLast hne, List.mem_filter.mpr ⟨List.mem_range.mpr (h3 _ (by simp)), decide_eq_true fun hm => n3 _ hm _ (by simp) rfl⟩, e⟩⟩
theorem tries_perm {n : Nat} {l : List Nat} : l ∈ triesL n n ↔ l.Perm (List.range n) := by
  rw [tries_iff]
  constructor
  · rintro ⟨h1, h2, h3⟩
    refine perm_of h2 fun k => ⟨h3 k, fun hk => ?_⟩
    refine Classical.byContradiction fun hn => ?_
    have := nodup_sub_len (l := k :: l) (m := List.range n) (List.nodup_cons.mpr ⟨hn, h2⟩) fun j hj => List.mem_range.mpr (by
      rcases List.mem_cons.mp hj with rfl | hj
      · exact hk
      · exact h3 j hj)
    rw [List.length_cons, List.length_range, h1] at this
    omega
  · exact fun h => ⟨by rw [h.length_eq, List.length_range], line_nd h, line_lt h⟩
theorem fitting_ne {n : Nat} {ps : List Pr} : fittingL (triesL n n) ps ≠ [] ↔ ∃ ks : List Nat, ks.Perm (List.range n) ∧ ∀ p ∈ ps, leadsP ks p = true := by
  unfold fittingL
  rw [ne_eq, List.filter_eq_nil_iff]
  constructor
  · intro h
    refine Classical.byContradiction fun hn => h fun l hl hp => hn ⟨l, tries_perm.mp hl, fun p hpm => List.all_eq_true.mp hp p hpm⟩
  · rintro ⟨ks, pk, led⟩ h
    exact h ks (tries_perm.mpr pk) (List.all_eq_true.mpr led)
theorem stands_fit {xs ms : List Str} {ps : List Pr} (nd : xs.Nodup) (vp : ∀ p ∈ ps, PrV xs.length p) (h : ps.length ≤ ms.length) : standsL xs (recsOf xs ms ps) = !decide (fittingL (triesL xs.length xs.length) ps = []) := by
  have e : standsL xs (recsOf xs ms ps) = true ↔ (!decide (fittingL (triesL xs.length xs.length) ps = [])) = true := by
    rw [stands_iff nd vp h, ← fitting_ne]
    simp
  cases h1 : standsL xs (recsOf xs ms ps) with
  | true => exact (e.mp h1).symm
  | false =>
    cases h2 : (!decide (fittingL (triesL xs.length xs.length) ps = [])) with
    | false => rfl
    | true => rw [e.mpr h2] at h1; cases h1
/-- what is due -/
theorem due_nil {ms : List Str} {ps : List Pr} {ks : List Nat} (h : ∀ p ∈ ps, leadsP ks p = true) : dueL ms ps ks = [] := by
  unfold dueL
  rw [List.filter_eq_nil_iff.mpr fun q hq => ?_]
  · rfl
  · rw [h q.2 (List.of_mem_zip (a := q.1) (b := q.2) hq).2]
    decide
/-- a led pair, turned -/
theorem lead_turn {p : Pr} (dj : p.1 &&& p.2 = 0) : ∀ {ks : List Nat}, leadsP ks p = true → (∃ k ∈ ks, hits p k = true) → leadsP ks (flipP p) = false
  | [], _, h => by
    obtain ⟨k, hk, _⟩ := h
    cases hk
  | k :: ks, hl, h => by
    unfold leadsP at hl ⊢
    show (if bitN p.2 k then true else if bitN p.1 k then false else leadsP ks (flipP p)) = false
    cases h1 : bitN p.1 k with
    | true =>
      cases h2 : bitN p.2 k with
      | false => rfl
      | true => exact absurd ⟨h1, h2⟩ (disj_iff.mp dj k)
    | false =>
      rw [h1] at hl
      cases h2 : bitN p.2 k with
      | true => rw [h2] at hl; cases hl
      | false =>
        rw [h2] at hl
        obtain ⟨j, hj, hh⟩ := h
        rcases List.mem_cons.mp hj with rfl | hj
        · simp [hits, h1, h2] at hh
        · exact lead_turn dj hl ⟨j, hj, hh⟩
def turnL (fl : List Bool) (ps : List Pr) : List Pr := (fl.zip ps).map fun q => if q.1 = true then flipP q.2 else q.2
end Fd
set_option Elab.async false
set_option linter.all false
set_option maxRecDepth 100000
set_option maxHeartbeats 8000000
/-! ### FdDer: the promises, kept (printed by gen.py) -/
namespace Fd
open PySem PySem.Spec PyProof.Rows L2 SX
theorem ok_is_spelled {P : Program} {w : World} {mg : Str → Option Value} {base : Heap} {a : Ax} (T : Top a mg) : Cal P w a.K mg base 1 "is_spelled" (sp_is_spelled a) := cal_of T.d_is_spelled sc_is_spelled (fun _ _ _ _ _ _ us h => match us, h with | [_, _], _ => rfl) (fun vs H Q E h => by obtain ⟨_, _, e, _⟩ := h; rw [e] <;> rfl) (fun f cdv A outer s H vs Q E hr h => ⟨t_is_spelled a, (pss_cons (ps_if (PW.pt (pw_or (pt_not (pt_val (bf call_isi T.b_isinstance (pa_cons (pv 0) (pa_cons (bty T.b_str) pa_nil))))) (pw_or1 (pt_not (pt_chain op_le op_le pe_int (bf c_lenS T.b_len (pa_cons (pv 0) pa_nil)) (pv 1))))))
      (pss_one (ps_ret pe_bl))
      pss_nil)
    (pss_one (ps_ret (bf (cr_all rfl) T.b_all (pa_cons (pe_lc (own := [("letter", 2)]) (g := (gName 2)) rfl sc_is_spelled.nd (pi_str (pv 0)) (blkOk_by (own := [("letter", 2)]) (N := n_is_spelled) (sc := defScope s_is_spelled) (by decide +kernel)) (fun _ _ _ _ _ => (pg_name (i := 2) sc_is_spelled.nd rfl (Or.inl rfl))) (fun _ _ _ _ _ => pts_nil) (fun _ _ _ _ _ => (pe_cmpR o_inC (pv 2) (C8.pe_gc rfl (gS T.vLETTERS)) rfl))) pa_nil))))), rd_is_spelled T h⟩)
theorem ok_is_name {P : Program} {w : World} {mg : Str → Option Value} {base : Heap} {a : Ax} (T : Top a mg) : Cal P w a.K mg base 2 "is_name" (sp_is_name a) := cal_of T.d_is_name sc_is_name (fun _ _ _ _ _ _ us h => match us, h with | [_], _ => rfl) (fun vs H Q E h => by obtain ⟨_, e, _⟩ := h; rw [e] <;> rfl) (fun f cdv A outer s H vs Q E hr h => ⟨t_is_name a, (pss_one (ps_ret (pc (ok_is_spelled T) hr (pa_cons (pv 0) (pa_cons (C8.pe_gc rfl (gI T.vNAME)) pa_nil))))), rd_is_name T h⟩)
theorem ok_is_names {P : Program} {w : World} {mg : Str → Option Value} {base : Heap} {a : Ax} (T : Top a mg) : Cal P w a.K mg base 3 "is_names" (sp_is_names a) := cal_of T.d_is_names sc_is_names (fun _ _ _ _ _ _ us h => match us, h with | [_], _ => rfl) (fun vs H Q E h => by obtain ⟨_, _, e, _⟩ := h; rw [e] <;> rfl) (fun f cdv A outer s H vs Q E hr h => ⟨t_is_names a, (pss_cons (ps_if (PW.pt (pw_or (pt_not (pt_val (bf call_isiT T.b_isinstance (pa_cons (pv 0) (pa_cons (pe_tup (pa_cons (bty T.b_list) (pa_cons (bty T.b_tuple) pa_nil))) pa_nil))))) (pw_or1 (pt_not (pt_val (bf (cr_all rfl) T.b_all (pa_cons (pe_lc (own := [("item", 1)]) (g := (gName 1)) rfl sc_is_names.nd (pi_seq (pv 0)) (blkOk_by (own := [("item", 1)]) (N := n_is_names) (sc := defScope s_is_names) (by decide +kernel)) (fun _ _ _ _ _ => (pg_name (i := 1) sc_is_names.nd rfl (Or.inl rfl))) (fun _ _ _ _ _ => pts_nil) (fun _ _ _ _ _ => (pc (ok_is_name T) hr (pa_cons (pv 1) pa_nil)))) pa_nil)))))))
      (pss_one (ps_ret pe_bl))
      pss_nil)
    (pss_one (ps_ret (pe_cmpR op_eq (pe_lenSetN T.b_len T.b_set (pv 0)) (bf c_lenQ T.b_len (pa_cons (pv 0) pa_nil)) (nomark _))))), rd_is_names T h⟩)
theorem ok_is_group {P : Program} {w : World} {mg : Str → Option Value} {base : Heap} {a : Ax} (T : Top a mg) : Cal P w a.K mg base 4 "is_group" (sp_is_group a) := cal_of T.d_is_group sc_is_group (fun _ _ _ _ _ _ us h => match us, h with | [_], _ => rfl) (fun vs H Q E h => by obtain ⟨_, _, e, _⟩ := h; rw [e] <;> rfl) (fun f cdv A outer s H vs Q E hr h => ⟨t_is_group a, (pss_one (ps_ret (pe_and (bf call_isi T.b_isinstance (pa_cons (pv 0) (pa_cons (bty T.b_tuple) pa_nil))) (pe_and (pc (ok_is_names T) hr (pa_cons (pv 0) pa_nil)) (pe_one (pe_cmpR (op_eqD hr.units) (bt c_listQ T.b_list (pa_cons (pv 0) pa_nil)) (bf cr_sortedS T.b_sorted (pa_cons (bt c_listQ T.b_list (pa_cons (pv 0) pa_nil)) pa_nil)) (nomark _))))))), rd_is_group T h⟩)
theorem ok_nth_mark {P : Program} {w : World} {mg : Str → Option Value} {base : Heap} {a : Ax} (T : Top a mg) : Cal P w a.K mg base 1 "nth_mark" (sp_nth_mark a) := cal_of T.d_nth_mark sc_nth_mark (fun _ _ _ _ _ _ us h => match us, h with | [_], _ => rfl) (fun vs H Q E h => by obtain ⟨_, _, e, _⟩ := h; rw [e] <;> rfl) (fun f cdv A outer s H vs Q E hr h => ⟨t_nth_mark a, (pss_cons (ps_set (i := 1) sc_nth_mark.nd rfl (Or.inl rfl) pe_str)
    (pss_cons (ps_set (i := 2) sc_nth_mark.nd rfl (Or.inl rfl) (pe_op op_add (pv 0) pe_int))
    (pss_cons (ps_while PassesOwn.never (pt_cmpR op_gt (pv 2) pe_int (nomark _))
      (pss_cons (ps_asg (bf c_divm T.b_divmod (pa_cons (pe_op op_sub (pv 2) pe_int) (pa_cons (bf c_lenS T.b_len (pa_cons (C8.pe_gc rfl (gS T.vLETTERS)) pa_nil)) pa_nil))) (pg_tup rfl (pgs_cons (pg_name (i := 2) sc_nth_mark.nd rfl (Or.inl rfl)) (pgs_cons (pg_name (i := 3) sc_nth_mark.nd rfl (Or.inl rfl)) pgs_nil))))
      (pss_one (ps_set (i := 1) sc_nth_mark.nd rfl (Or.inl rfl) (p_joined (.cons (pe_fmt (pe_ix ix_str (C8.pe_gc rfl (gS T.vLETTERS)) (pv 3) (fun _ _ => rfl))) (.cons (pe_fmt (pv 1)) .nil)))))))
    (pss_one (ps_ret (pv 1)))))), rd_nth_mark T h⟩)
theorem ok_row_init {P : Program} {w : World} {mg : Str → Option Value} {base : Heap} {a : Ax} (T : Top a mg) : Mak P w a.K mg base 4 "Row" a.R (spRow a) := by
  obtain ⟨f, fd, F, M, hm⟩ := T.d_row_init.ex
  have B : Body P w a.K mg base n_row_init "Row.__init__" s_row_init 3 (sp_row_init a) := fun f cdv A outer s H vs Q E hr h => ⟨t_row_init a, (pss_cons (ps_if (pt_not (pt_val (pc (ok_is_names T) hr (pa_cons (pv 1) pa_nil))))
      (pss_one ps_never)
      pss_nil)
    (pss_cons (ps_if (pt_not (pt_val (pc (ok_is_names T) hr (pa_cons (pv 2) pa_nil))))
      (pss_one ps_never)
      pss_nil)
    (pss_cons (ps_if (pt_val (bf (cr_any rfl) T.b_any (pa_cons (pe_lc (own := [("name", 3)]) (g := (gName 3)) rfl sc_row_init.nd (pi_seq (pv 1)) (blkOk_by (own := [("name", 3)]) (N := n_row_init) (sc := defScope s_row_init) (by decide +kernel)) (fun _ _ _ _ _ => (pg_name (i := 3) sc_row_init.nd rfl (Or.inl rfl))) (fun _ _ _ _ _ => pts_nil) (fun _ _ _ _ _ => (pe_cmpR op_in_seq (pv 3) (pv 2) rfl))) pa_nil)))
      (pss_one ps_never)
      pss_nil)
    (pss_cons (ps_fld (pv 0) (bt c_tupQ T.b_tuple (pa_cons (bf cr_sortedS T.b_sorted (pa_cons (bt c_listQ T.b_list (pa_cons (pv 1) pa_nil)) pa_nil)) pa_nil)) rfl)
    (pss_cons (ps_fld (pv 0) (bt c_tupQ T.b_tuple (pa_cons (bf cr_sortedS T.b_sorted (pa_cons (bt c_listQ T.b_list (pa_cons (pv 2) pa_nil)) pa_nil)) pa_nil)) rfl)
    (pss_one (ps_fld (pv 0) (bt c_tupQ T.b_tuple (pa_cons (bf cr_sortedS T.b_sorted (pa_cons (pe_lst (StX.pa_star (pe_fld (pv 0) rfl) (StX.pa_star (pe_fld (pv 0) rfl) pa_nil))) pa_nil)) pa_nil)) rfl))))))), rd_row_init T h⟩
  have F1 := fn_body F sc_row_init (fun vs H Q E h => by obtain ⟨_, _, _, _, _, _, e, _⟩ := h; rw [e] <;> rfl) B
  obtain ⟨d3, v3, b3⟩ := F.binds1 (ps := ["self", "pro", "con"]) 3 2 (by simp) rfl (fun T kV doc pm an cdv ct us its h1 h2 => match us, its, h1, h2 with | [_, _, _], [_, _], _, _ => ⟨_, rfl, rfl⟩)
  obtain ⟨d1, v1, b1⟩ := F.binds1 (ps := ["self", "pro", "con"]) 1 0 (by simp) rfl (fun T kV doc pm an cdv ct us its h1 h2 => match us, its, h1, h2 with | [_], [_, _], _, _ => ⟨_, rfl, rfl⟩)
  refine ⟨f, M, fun A outer s H us vs Q E hr e0 r h => ?_, hm⟩
  have KX : a.K.In s.heap := e0.mod.kin.keeps fun b o e => (e0.bs b o e).1
  rcases h with h | ⟨x, e, h⟩
  · have hl := F1.len _ _ _ _ h
    have e3 : d3 = [] := List.length_eq_zero_iff.mp v3.length.symm
    subst e3
    exact F1.run A outer s H ⟨us, []⟩ us vs Q E hr e0 (by have z := b3 s us KX (by rw [List.append_nil, ← r.length]; exact hl); rw [List.append_nil] at z; exact z) r h
  · subst e
    have v1' : Vals [V.ref a.t1, V.ref a.t2] d1 := v1
    exact F1.run A outer s H ⟨us, []⟩ (us ++ d1) [x, .ref a.t1, .ref a.t2] Q E hr e0 (b1 s us KX (by rw [List.length_append, ← r.length, ← v1'.length] <;> rfl)) (r.append v1') h
theorem ok_row_contains {P : Program} {w : World} {mg : Str → Option Value} {base : Heap} {a : Ax} (T : Top a mg) : Own P w a.K mg base 3 a.R "__contains__" (sp_row_contains a) := own_of T.d_row_contains sc_row_contains (fun _ _ _ _ _ _ us h => match us, h with | [_, _], _ => rfl) (fun vs H Q E h => by obtain ⟨_, _, _, _, e, _⟩ := h; rw [e] <;> rfl) (fun f cdv A outer s H vs Q E hr h => ⟨t_row_contains a, (pss_one (ps_ret (pe_and (pc (ok_is_name T) hr (pa_cons (pv 1) pa_nil)) (pe_one (pe_cmpR op_in_seq (pv 1) (pe_fld (pv 0) rfl) rfl))))), rd_row_contains T h⟩)
theorem ok_row_sign {P : Program} {w : World} {mg : Str → Option Value} {base : Heap} {a : Ax} (T : Top a mg) : Met P w a.K mg base 4 a.R "sign" (sp_row_sign a) := met_of T.d_row_sign sc_row_sign (fun _ _ _ _ _ _ us h => match us, h with | [_, _], _ => rfl) (fun vs H Q E h => by obtain ⟨_, _, _, _, e, _⟩ := h; rw [e] <;> rfl) (fun f cdv A outer s H vs Q E hr h => ⟨t_row_sign a, (pss_cons (ps_if (pt_cmpR (op_hasNot (ok_row_contains T) hr) (pv 1) (pv 0) rfl)
      (pss_one (ps_ret pe_str))
      pss_nil)
    (pss_one (ps_ret (pe_ifExp (pt_cmpR op_in_seq (pv 1) (pe_fld (pv 0) rfl) rfl) pe_str pe_str)))), rd_row_sign T h⟩)
theorem ok_row_text {P : Program} {w : World} {mg : Str → Option Value} {base : Heap} {a : Ax} (T : Top a mg) : Met P w a.K mg base 5 a.R "text" (sp_row_text a) := met_of T.d_row_text sc_row_text (fun _ _ _ _ _ _ us h => match us, h with | [_], _ => rfl) (fun vs H Q E h => by obtain ⟨_, _, _, e, _⟩ := h; rw [e] <;> rfl) (fun f cdv A outer s H vs Q E hr h => ⟨t_row_text a, (pss_cons (ps_if (pt_cmpR (op_eqD hr.units) (pe_fld (pv 0) rfl) (pe_tup pa_nil) (nomark _))
      (pss_one (ps_ret pe_str))
      pss_nil)
    (pss_one (ps_ret (p_join pe_str (pe_lc (own := [("name", 1)]) (g := (gName 1)) rfl sc_row_text.nd (pi_tup (pe_fld (pv 0) rfl)) (blkOk_by (own := [("name", 1)]) (N := n_row_text) (sc := defScope s_row_text) (by decide +kernel)) (fun _ _ _ _ _ => (pg_name (i := 1) sc_row_text.nd rfl (Or.inl rfl))) (fun _ _ _ _ _ => pts_nil) (fun _ _ _ _ _ => (p_joined (.cons (pe_fmt (pv 1)) (.cons (pe_fmt (pmt (ok_row_sign T) hr (pv 0) (pa_cons (pv 1) pa_nil))) .nil))))))))), rd_row_text T h⟩)
theorem ok_row_read {P : Program} {w : World} {mg : Str → Option Value} {base : Heap} {a : Ax} (T : Top a mg) : Stm P w a.K mg base 6 "Row" "read" (sp_row_read a) := stm_of T.d_row_read sc_row_read (fun _ _ _ _ _ _ us h => match us, h with | [_], _ => rfl) (fun vs H Q E h => by obtain ⟨_, _, e, _⟩ := h; rw [e] <;> rfl) (fun f cdv A outer s H vs Q E hr h => ⟨t_row_read a, (pss_cons (ps_if (pt_not (pt_val (bf call_isi T.b_isinstance (pa_cons (pv 0) (pa_cons (bty T.b_str) pa_nil)))))
      (pss_one (ps_ret pe_non))
      pss_nil)
    (pss_cons (ps_if (pt_cmpR op_eq (pv 0) pe_str (nomark _))
      (pss_one (ps_ret (pmk0 (ok_row_init T) hr)))
      pss_nil)
    (pss_cons (ps_set (i := 1) sc_row_read.nd rfl (Or.inl rfl) (p_split (pv 0) pe_str))
    (pss_cons (ps_if (pt_not (pt_val (pc (ok_is_group T) hr (pa_cons (bt c_tupQ T.b_tuple (pa_cons (pe_lc (own := [("word", 4)]) (g := (gName 4)) rfl sc_row_read.nd (pi_list (pv 1)) (blkOk_by (own := [("word", 4)]) (N := n_row_read) (sc := defScope s_row_read) (by decide +kernel)) (fun _ _ _ _ _ => (pg_name (i := 4) sc_row_read.nd rfl (Or.inl rfl))) (fun _ _ _ _ _ => pts_nil) (fun _ _ _ _ _ => (pe_slice sl_str (pv 4) po_none (po_some (pe_un un_neg pe_int))))) pa_nil)) pa_nil))))
      (pss_one (ps_ret pe_non))
      pss_nil)
    (pss_cons (ps_setLc (i := 2) (own := [("word", 4)]) (g := (gName 4)) rfl sc_row_read.nd rfl rfl (sw_true rfl rfl rfl (by decide +kernel)) (pi_list (pv 1)) (blkOk_by (own := [("word", 4)]) (N := n_row_read) (sc := defScope s_row_read) (by decide +kernel)) (fun _ _ _ _ _ => (pg_name (i := 4) sc_row_read.nd rfl (Or.inl rfl))) (fun _ _ _ _ _ => (pts_one (pt_cmpR op_eq (pe_ix ix_str (pv 4) (pe_un un_neg pe_int) (fun _ _ => rfl)) pe_str (nomark _)))) (fun _ _ _ _ _ => (pe_slice sl_str (pv 4) po_none (po_some (pe_un un_neg pe_int)))))
    (pss_cons (ps_setLc (i := 3) (own := [("word", 4)]) (g := (gName 4)) rfl sc_row_read.nd rfl rfl (sw_true rfl rfl rfl (by decide +kernel)) (pi_list (pv 1)) (blkOk_by (own := [("word", 4)]) (N := n_row_read) (sc := defScope s_row_read) (by decide +kernel)) (fun _ _ _ _ _ => (pg_name (i := 4) sc_row_read.nd rfl (Or.inl rfl))) (fun _ _ _ _ _ => (pts_one (pt_cmpR op_eq (pe_ix ix_str (pv 4) (pe_un un_neg pe_int) (fun _ _ => rfl)) pe_str (nomark _)))) (fun _ _ _ _ _ => (pe_slice sl_str (pv 4) po_none (po_some (pe_un un_neg pe_int)))))
    (pss_cons (ps_if (pt_cmpR op_ne (pe_op op_add (bf c_lenQ T.b_len (pa_cons (pv 2) pa_nil)) (bf c_lenQ T.b_len (pa_cons (pv 3) pa_nil))) (bf c_lenQ T.b_len (pa_cons (pv 1) pa_nil)) (nomark _))
      (pss_one (ps_ret pe_non))
      pss_nil)
    (pss_one (ps_ret (pmk (ok_row_init T) hr (pa_cons (pv 2) (pa_cons (pv 3) pa_nil)))))))))))), rd_row_read T h⟩)
theorem ok_row_neg {P : Program} {w : World} {mg : Str → Option Value} {base : Heap} {a : Ax} (T : Top a mg) : Own P w a.K mg base 6 a.R "__neg__" (sp_row_neg a) := own_of T.d_row_neg sc_row_neg (fun _ _ _ _ _ _ us h => match us, h with | [_], _ => rfl) (fun vs H Q E h => by obtain ⟨_, _, _, e, _⟩ := h; rw [e] <;> rfl) (fun f cdv A outer s H vs Q E hr h => ⟨t_row_neg a, (pss_one (ps_ret (pmk (ok_row_init T) hr (pa_cons (pe_fld (pv 0) rfl) (pa_cons (pe_fld (pv 0) rfl) pa_nil))))), rd_row_neg T h⟩)
theorem ok_order_init {P : Program} {w : World} {mg : Str → Option Value} {base : Heap} {a : Ax} (T : Top a mg) : Mak P w a.K mg base 3 "Order" a.O (spOrd a) := by
  obtain ⟨f, fd, F, M, hm⟩ := T.d_order_init.ex
  have B : Body P w a.K mg base n_order_init "Order.__init__" s_order_init 2 (sp_order_init a) := fun f cdv A outer s H vs Q E hr h => ⟨t_order_init a, (pss_cons (ps_if (pt_cmpR op_eq (bf c_lenQ T.b_len (pa_cons (pv 1) pa_nil)) pe_int (nomark _))
      (pss_one ps_never)
      pss_nil)
    (pss_cons (ps_set (i := 2) sc_order_init.nd rfl (Or.inl rfl) pe_dnewK)
    (pss_cons (ps_for PassesOwn.never rfl (pi_enumT T.b_enumerate (pa_cons (pv 1) pa_nil)) (pg_tup rfl (pgs_cons (pg_name (i := 3) sc_order_init.nd rfl (Or.inl rfl)) (pgs_cons (pg_name (i := 4) sc_order_init.nd rfl (Or.inl rfl)) pgs_nil)))
      (pss_cons (ps_if (PW.pt (pw_or (pt_not (pt_val (pc (ok_is_name T) hr (pa_cons (pv 4) pa_nil)))) (pw_or (pt_cmp (pc_din (hu_of hr) (pv 4) (pv 2))) (pw_or1 (pt_cmpR op_eq (pv 3) (C8.pe_gc rfl (gI T.vRANKED)) (nomark _))))))
        (pss_one ps_never)
        pss_nil)
      (pss_one (ps_dput (hu_of hr) (pv 2) (pv 4) (pv 3) rfl))))
    (pss_cons (ps_fld (pv 0) (bt c_listQ T.b_list (pa_cons (pv 1) pa_nil)) rfl)
    (pss_cons (ps_fld (pv 0) (pv 2) rfl)
    (pss_one (ps_fld (pv 0) (bt c_tupQ T.b_tuple (pa_cons (bf cr_sortedS T.b_sorted (pa_cons (bt c_listQ T.b_list (pa_cons (pv 1) pa_nil)) pa_nil)) pa_nil)) rfl))))))), rd_order_init T h⟩
  obtain ⟨oc, od, dV, kV, doc, pm, an, cdv, ct, osl, rfl, lk, hcd, hD, hK⟩ := F.ex
  obtain rfl : dV = .none := by
    rcases hD with ⟨_, e⟩ | ⟨e, _⟩
    · exact e
    · exact absurd rfl e
  refine ⟨f, M, StX.fn_star (CX := L2.CX0) (ps := ["self"]) (pv := "reasons") (sp := sp_order_init a) lk hcd sc_order_init StX.cxUp_none (StX.bind_star1 (B := fun us => bindArgs _ ⟨us, []⟩) (fun a => rfl) (fun a r rs => rfl)) fun A outer s H vs Q E hr h => ?_, hm⟩
  obtain ⟨t, h1, h2⟩ := B f cdv A outer s H vs Q E hr h
  exact ⟨t, h1.nox, h2⟩
theorem ok_order_decides {P : Program} {w : World} {mg : Str → Option Value} {base : Heap} {a : Ax} (T : Top a mg) : Met P w a.K mg base 1 a.O "decides" (sp_order_decides a) := met_of T.d_order_decides sc_order_decides (fun _ _ _ _ _ _ us h => match us, h with | [_, _], _ => rfl) (fun vs H Q E h => by obtain ⟨_, _, _, _, _, e, _⟩ := h; rw [e] <;> rfl) (fun f cdv A outer s H vs Q E hr h => ⟨t_order_decides a, (pss_cons (ps_for PassesOwn.never rfl (pi_tup (pe_fld (pv 1) rfl)) (pg_name (i := 2) sc_order_decides.nd rfl (Or.inl rfl))
      (pss_one (ps_if (pt_cmp (pc_dnotin (hu_of hr) (pv 2) (pe_fld (pv 0) rfl)))
        (pss_one ps_never)
        pss_nil)))
    (pss_cons (ps_for PassesOwn.never rfl (pi_list (pe_fld (pv 0) rfl)) (pg_name (i := 2) sc_order_decides.nd rfl (Or.inl rfl))
      (pss_one (ps_if (pt_cmpR op_in_seq (pv 2) (pe_fld (pv 1) rfl) rfl)
        (pss_one (ps_ret (pv 2)))
        pss_nil)))
    (pss_one (ps_ret pe_non)))), rd_order_decides T h⟩)
theorem ok_order_bears {P : Program} {w : World} {mg : Str → Option Value} {base : Heap} {a : Ax} (T : Top a mg) : Met P w a.K mg base 2 a.O "bears" (sp_order_bears a) := met_of T.d_order_bears sc_order_bears (fun _ _ _ _ _ _ us h => match us, h with | [_, _], _ => rfl) (fun vs H Q E h => by obtain ⟨_, _, _, _, _, e, _⟩ := h; rw [e] <;> rfl) (fun f cdv A outer s H vs Q E hr h => ⟨t_order_bears a, (pss_cons (ps_set (i := 2) sc_order_bears.nd rfl (Or.inl rfl) (pmt (ok_order_decides T) hr (pv 0) (pa_cons (pv 1) pa_nil)))
    (pss_one (ps_ret (pe_or (pe_cmpR o_isN (pv 2) pe_non (nomark _)) (pe_one (pe_cmpR op_in_seq (pv 2) (pe_fld (pv 1) rfl) rfl)))))), rd_order_bears T h⟩)
theorem ok_order_read {P : Program} {w : World} {mg : Str → Option Value} {base : Heap} {a : Ax} (T : Top a mg) : Stm P w a.K mg base 5 "Order" "read" (sp_order_read a) := stm_of T.d_order_read sc_order_read (fun _ _ _ _ _ _ us h => match us, h with | [_], _ => rfl) (fun vs H Q E h => by obtain ⟨_, e, _⟩ := h; rw [e] <;> rfl) (fun f cdv A outer s H vs Q E hr h => ⟨t_order_read a, (pss_cons (ps_if (pt_not (pt_val (bf call_isi T.b_isinstance (pa_cons (pv 0) (pa_cons (bty T.b_str) pa_nil)))))
      (pss_one (ps_ret pe_non))
      pss_nil)
    (pss_cons (ps_set (i := 1) sc_order_read.nd rfl (Or.inl rfl) (p_split (pv 0) pe_str))
    (pss_cons (ps_if (PW.pt (pw_or (pt_cmpR op_gt (bf c_lenQ T.b_len (pa_cons (pv 1) pa_nil)) (C8.pe_gc rfl (gI T.vRANKED)) (nomark _)) (pw_or1 (pt_not (pt_val (pc (ok_is_names T) hr (pa_cons (pv 1) pa_nil)))))))
      (pss_one (ps_ret pe_non))
      pss_nil)
    (pss_one (ps_ret (pmkS1 (ok_order_init T) hr (pv 1))))))), rd_order_read T h⟩)
theorem ok_lines_of {P : Program} {w : World} {mg : Str → Option Value} {base : Heap} {a : Ax} (T : Top a mg) : Cal P w a.K mg base 1 "lines_of" (sp_lines_of a) := cal_of T.d_lines_of sc_lines_of (fun _ _ _ _ _ _ us h => match us, h with | [_], _ => rfl) (fun vs H Q E h => by obtain ⟨_, e, _⟩ := h; rw [e] <;> rfl) (fun f cdv A outer s H vs Q E hr h => ⟨t_lines_of a, (pss_cons (ps_set (i := 1) sc_lines_of.nd rfl (Or.inl rfl) (p_split (pv 0) pe_str))
    (pss_cons (ps_set (i := 2) sc_lines_of.nd rfl (Or.inl rfl) (pe_bm0 PySem.F.plainAttrs_list PySem.F.slot_list_pop PySem.F.type_list_pop mt_pop (pv 1)))
    (pss_cons (ps_setLc (i := 3) (own := [("part", 4)]) (g := (gName 4)) rfl sc_lines_of.nd rfl rfl (sw_true rfl rfl rfl (by decide +kernel)) (pi_list (pv 1)) (blkOk_by (own := [("part", 4)]) (N := n_lines_of) (sc := defScope s_lines_of) (by decide +kernel)) (fun _ _ _ _ _ => (pg_name (i := 4) sc_lines_of.nd rfl (Or.inl rfl))) (fun _ _ _ _ _ => pts_nil) (fun _ _ _ _ _ => (pe_tup (pa_cons (pv 4) (pa_cons pe_bl pa_nil)))))
    (pss_cons (ps_if (pt_cmpR op_ne (pv 2) pe_str (nomark _))
      (pss_one (ps_expr (pe_bm PySem.F.plainAttrs_list PySem.F.slot_list_append PySem.F.type_list_append mt_append (pv 3) (pa_cons (pe_tup (pa_cons (pv 2) (pa_cons pe_bl pa_nil))) pa_nil))))
      pss_nil)
    (pss_one (ps_ret (pv 3))))))), rd_lines_of T h⟩)
theorem ok_is_record {P : Program} {w : World} {mg : Str → Option Value} {base : Heap} {a : Ax} (T : Top a mg) : Cal P w a.K mg base 3 "is_record" (sp_is_record a) := cal_of T.d_is_record sc_is_record (fun _ _ _ _ _ _ us h => match us, h with | [_], _ => rfl) (fun vs H Q E h => by obtain ⟨_, _, e, _⟩ := h; rw [e] <;> rfl) (fun f cdv A outer s H vs Q E hr h => ⟨t_is_record a, (pss_cons (ps_if (PW.pt (pw_or (pt_not (pt_val (bf call_isi T.b_isinstance (pa_cons (pv 0) (pa_cons (bty T.b_tuple) pa_nil))))) (pw_or1 (pt_cmpR op_ne (bf c_lenQ T.b_len (pa_cons (pv 0) pa_nil)) pe_int (nomark _)))))
      (pss_one (ps_ret pe_bl))
      pss_nil)
    (pss_one (ps_ret (pe_and (pc (ok_is_name T) hr (pa_cons (pe_ix ix_tup (pv 0) pe_int (fun _ _ => rfl)) pa_nil)) (pe_one (bf call_isi T.b_isinstance (pa_cons (pe_ix ix_tup (pv 0) pe_int (fun _ _ => rfl)) (pa_cons (pe_glob rfl T.gRow rfl) pa_nil)))))))), rd_is_record T h⟩)
theorem ok_stranger {P : Program} {w : World} {mg : Str → Option Value} {base : Heap} {a : Ax} (T : Top a mg) : Cal P w a.K mg base 1 "stranger" (sp_stranger a) := cal_of T.d_stranger sc_stranger (fun _ _ _ _ _ _ us h => match us, h with | [_, _], _ => rfl) (fun vs H Q E h => by obtain ⟨_, _, _, _, _, e, _⟩ := h; rw [e] <;> rfl) (fun f cdv A outer s H vs Q E hr h => ⟨t_stranger a, (pss_cons (ps_for PassesOwn.never rfl (pi_tup (pe_fld (pv 0) rfl)) (pg_name (i := 2) sc_stranger.nd rfl (Or.inl rfl))
      (pss_one (ps_if (pt_cmpR op_notIn_seq (pv 2) (pv 1) rfl)
        (pss_one (ps_ret (pv 2)))
        pss_nil)))
    (pss_one (ps_ret pe_non))), rd_stranger T h⟩)
theorem ok_book_init {P : Program} {w : World} {mg : Str → Option Value} {base : Heap} {a : Ax} (T : Top a mg) : Mak P w a.K mg base 4 "Book" a.B (spBook a) := by
  obtain ⟨f, fd, F, M, hm⟩ := T.d_book_init.ex
  have B : Body P w a.K mg base n_book_init "Book.__init__" s_book_init 3 (sp_book_init a) := fun f cdv A outer s H vs Q E hr h => ⟨t_book_init a, (pss_cons (ps_if (PW.pt (pw_or (pt_not (pt_val (pc (ok_is_names T) hr (pa_cons (pv 1) pa_nil)))) (pw_or1 (pt_not (pt_chain op_le op_le pe_int (bf c_lenQ T.b_len (pa_cons (pv 1) pa_nil)) (C8.pe_gc rfl (gI T.vREASONS)))))))
      (pss_one ps_never)
      pss_nil)
    (pss_cons (ps_for PassesOwn.never rfl (pi_enumT T.b_enumerate (pa_cons (pv 2) pa_nil)) (pg_tup rfl (pgs_cons (pg_name (i := 3) sc_book_init.nd rfl (Or.inl rfl)) (pgs_cons (pg_name (i := 4) sc_book_init.nd rfl (Or.inl rfl)) pgs_nil)))
      (pss_one (ps_if (pt_not (pt_val (pc (ok_is_record T) hr (pa_cons (pv 4) pa_nil))))
        (pss_one ps_never)
        pss_nil)))
    (pss_cons (ps_if (pt_cmpR op_gt (bf c_lenQ T.b_len (pa_cons (pv 2) pa_nil)) (ClX.pe_cval (pe_glob rfl T.gBook rfl)) (nomark _))
      (pss_one ps_never)
      pss_nil)
    (pss_cons (ps_set (i := 5) sc_book_init.nd rfl (Or.inl rfl) pe_dnewK)
    (pss_cons (ps_for PassesOwn.never rfl (pi_tup (pv 2)) (pg_tup rfl (pgs_cons (pg_name (i := 6) sc_book_init.nd rfl (Or.inl rfl)) (pgs_cons (pg_name (i := 7) sc_book_init.nd rfl (Or.inl rfl)) pgs_nil)))
      (pss_cons (ps_if (pt_cmp (pc_din (hu_of hr) (pv 6) (pv 5)))
        (pss_one ps_never)
        pss_nil)
      (pss_one (ps_dput (hu_of hr) (pv 5) (pv 6) (pv 7) rfl))))
    (pss_cons (ps_for PassesOwn.never rfl (pi_tup (pv 2)) (pg_tup rfl (pgs_cons (pg_name (i := 6) sc_book_init.nd rfl (Or.inl rfl)) (pgs_cons (pg_name (i := 7) sc_book_init.nd rfl (Or.inl rfl)) pgs_nil)))
      (pss_cons (ps_set (i := 8) sc_book_init.nd rfl (Or.inl rfl) (pc (ok_stranger T) hr (pa_cons (pv 7) (pa_cons (pv 1) pa_nil))))
      (pss_one (ps_if (pt_cmpR o_notN (pv 8) pe_non (nomark _))
        (pss_one ps_never)
        pss_nil))))
    (pss_cons (ps_fld (pv 0) (bt c_tupZ T.b_tuple (pa_cons (bf cr_sortedS T.b_sorted (pa_cons (bt c_listQ T.b_list (pa_cons (pv 1) pa_nil)) pa_nil)) pa_nil)) rfl)
    (pss_one (ps_fld (pv 0) (pv 5) rfl))))))))), rd_book_init T h⟩
  obtain ⟨oc, od, dV, kV, doc, pm, an, cdv, ct, osl, rfl, lk, hcd, hD, hK⟩ := F.ex
  obtain rfl : dV = .none := by
    rcases hD with ⟨_, e⟩ | ⟨e, _⟩
    · exact e
    · exact absurd rfl e
  refine ⟨f, M, StX.fn_star (CX := L2.CX0) (ps := ["self", "reasons"]) (pv := "records") (sp := sp_book_init a) lk hcd sc_book_init StX.cxUp_none (StX.bind_star2 (B := fun us => bindArgs _ ⟨us, []⟩) (fun a b => rfl) (fun a b r rs => rfl)) fun A outer s H vs Q E hr h => ?_, hm⟩
  obtain ⟨t, h1, h2⟩ := B f cdv A outer s H vs Q E hr h
  exact ⟨t, h1.nox, h2⟩
theorem ok_book_records {P : Program} {w : World} {mg : Str → Option Value} {base : Heap} {a : Ax} (T : Top a mg) : Met P w a.K mg base 1 a.B "records" (sp_book_records a) := met_of T.d_book_records sc_book_records (fun _ _ _ _ _ _ us h => match us, h with | [_], _ => rfl) (fun vs H Q E h => by obtain ⟨_, _, _, e, _⟩ := h; rw [e] <;> rfl) (fun f cdv A outer s H vs Q E hr h => ⟨t_book_records a, (pss_one (ps_ret (LiI.pe_listItems rfl (pe_fld (pv 0) rfl) rfl T.b_list boot_list))), rd_book_records T h⟩)
theorem ok_book_rows {P : Program} {w : World} {mg : Str → Option Value} {base : Heap} {a : Ax} (T : Top a mg) : Met P w a.K mg base 1 a.B "rows" (sp_book_rows a) := met_of T.d_book_rows sc_book_rows (fun _ _ _ _ _ _ us h => match us, h with | [_], _ => rfl) (fun vs H Q E h => by obtain ⟨_, _, _, e, _⟩ := h; rw [e] <;> rfl) (fun f cdv A outer s H vs Q E hr h => ⟨t_book_rows a, (pss_one (ps_ret (pe_listValues (pe_fld (pv 0) rfl) T.b_list))), rd_book_rows T h⟩)
theorem ok_book_with {P : Program} {w : World} {mg : Str → Option Value} {base : Heap} {a : Ax} (T : Top a mg) : Cal P w a.K mg base 6 "book_with" (sp_book_with a) := cal_of T.d_book_with sc_book_with (fun _ _ _ _ _ _ us h => match us, h with | [_, _], _ => rfl) (fun vs H Q E h => by obtain ⟨_, _, _, _, e, _⟩ := h; rw [e] <;> rfl) (fun f cdv A outer s H vs Q E hr h => ⟨t_book_with a, (pss_cons (ps_set (i := 2) sc_book_with.nd rfl (Or.inl rfl) (pmk (ok_book_init T) hr (pa_cons (pv 0) pa_nil)))
    (pss_cons (ps_fld (pv 2) (pe_dc (own := [("mark", 3), ("row", 4)]) (g := (gTup a.K 2 (gCons (gName 3) (gCons (gName 4) gNil)))) rfl sc_book_with.nd (pi_list (pv 1)) (blkOk_by (own := [("mark", 3), ("row", 4)]) (N := n_book_with) (sc := defScope s_book_with) (by decide +kernel)) (fun _ _ _ _ _ => (pg_tup rfl (pgs_cons (pg_name (i := 3) sc_book_with.nd rfl (Or.inl rfl)) (pgs_cons (pg_name (i := 4) sc_book_with.nd rfl (Or.inl rfl)) pgs_nil)))) (fun _ _ _ _ _ => pts_nil) (fun _ _ _ _ _ => (pv 3)) (fun _ _ _ _ _ => (pv 4))) rfl)
    (pss_one (ps_ret (pv 2))))), rd_book_with T h⟩)
theorem ok_book_grown {P : Program} {w : World} {mg : Str → Option Value} {base : Heap} {a : Ax} (T : Top a mg) : Met P w a.K mg base 7 a.B "grown" (sp_book_grown a) := met_of T.d_book_grown sc_book_grown (fun _ _ _ _ _ _ us h => match us, h with | [_, _], _ => rfl) (fun vs H Q E h => by obtain ⟨_, _, _, _, _, e, _⟩ := h; rw [e] <;> rfl) (fun f cdv A outer s H vs Q E hr h => ⟨t_book_grown a, (pss_cons (ps_for PassesOwn.never rfl (pi_list (pv 1)) (pg_name (i := 2) sc_book_grown.nd rfl (Or.inl rfl))
      (pss_cons (ps_set (i := 3) sc_book_grown.nd rfl (Or.inl rfl) (pc (ok_stranger T) hr (pa_cons (pv 2) (pa_cons (pe_fld (pv 0) rfl) pa_nil))))
      (pss_one (ps_if (pt_cmpR o_notN (pv 3) pe_non (nomark _))
        (pss_one ps_never)
        pss_nil))))
    (pss_cons (ps_set (i := 4) sc_book_grown.nd rfl (Or.inl rfl) (pmt0 (ok_book_records T) hr (pv 0)))
    (pss_cons (ps_set (i := 5) sc_book_grown.nd rfl (Or.inl rfl) pe_int)
    (pss_cons (ps_for PassesOwn.never rfl (pi_list (pv 1)) (pg_name (i := 2) sc_book_grown.nd rfl (Or.inl rfl))
      (pss_cons (ps_while PassesOwn.never (pt_cmp (pc_din (hu_of hr) (pc (ok_nth_mark T) hr (pa_cons (pv 5) pa_nil)) (pe_fld (pv 0) rfl)))
        (pss_one (ps_aug (i := 5) sc_book_grown.nd rfl (Or.inl rfl) pe_int ip_add)))
      (pss_cons (ps_expr (pe_bm PySem.F.plainAttrs_list PySem.F.slot_list_append PySem.F.type_list_append mt_append (pv 4) (pa_cons (pe_tup (pa_cons (pc (ok_nth_mark T) hr (pa_cons (pv 5) pa_nil)) (pa_cons (pv 2) pa_nil))) pa_nil)))
      (pss_one (ps_aug (i := 5) sc_book_grown.nd rfl (Or.inl rfl) pe_int ip_add)))))
    (pss_one (ps_ret (pc (ok_book_with T) hr (pa_cons (pe_fld (pv 0) rfl) (pa_cons (pv 4) pa_nil))))))))), rd_book_grown T h⟩)
theorem ok_book_text {P : Program} {w : World} {mg : Str → Option Value} {base : Heap} {a : Ax} (T : Top a mg) : Met P w a.K mg base 6 a.B "text" (sp_book_text a) := met_of T.d_book_text sc_book_text (fun _ _ _ _ _ _ us h => match us, h with | [_], _ => rfl) (fun vs H Q E h => by obtain ⟨_, _, _, e, _⟩ := h; rw [e] <;> rfl) (fun f cdv A outer s H vs Q E hr h => ⟨t_book_text a, (pss_cons (ps_set (i := 1) sc_book_text.nd rfl (Or.inl rfl) (p_join pe_str (pe_fld (pv 0) rfl)))
    (pss_cons (ps_set (i := 2) sc_book_text.nd rfl (Or.inl rfl) (pe_lst (pa_cons (p_joined (.cons pe_str (.cons (pe_fmt (pv 1)) (.cons pe_str .nil)))) pa_nil)))
    (pss_cons (ps_lock (ps_for PassesOwn.never rfl (pi_items (pe_fld (pv 0) rfl)) (pg_tup rfl (pgs_cons (pg_name (i := 3) sc_book_text.nd rfl (Or.inl rfl)) (pgs_cons (pg_name (i := 4) sc_book_text.nd rfl (Or.inl rfl)) pgs_nil)))
      (pss_one (ps_expr (pe_bm PySem.F.plainAttrs_list PySem.F.slot_list_append PySem.F.type_list_append mt_append (pv 2) (pa_cons (p_joined (.cons pe_str (.cons (pe_fmt (pv 3)) (.cons pe_str (.cons (pe_fmt (pmt0 (ok_row_text T) hr (pv 4))) (.cons pe_str .nil)))))) pa_nil))))))
    (pss_one (ps_ret (p_join pe_str (pv 2))))))), rd_book_text T h⟩)
theorem ok_head_flaw {P : Program} {w : World} {mg : Str → Option Value} {base : Heap} {a : Ax} (T : Top a mg) : Cal P w a.K mg base 5 "head_flaw" (sp_head_flaw a) := cal_of T.d_head_flaw sc_head_flaw (fun _ _ _ _ _ _ us h => match us, h with | [_], _ => rfl) (fun vs H Q E h => by obtain ⟨_, e, _⟩ := h; rw [e] <;> rfl) (fun f cdv A outer s H vs Q E hr h => ⟨t_head_flaw a, (pss_cons (ps_set (i := 1) sc_head_flaw.nd rfl (Or.inl rfl) (p_split (pv 0) pe_str))
    (pss_cons (ps_set (i := 2) sc_head_flaw.nd rfl (Or.inl rfl) (pe_slice sl_list (pv 1) (po_some pe_int) po_none))
    (pss_cons (ps_if (PW.pt (pw_or (pt_cmpR op_ne (pe_ix ix_list (pv 1) pe_int (fun _ _ => rfl)) pe_str (nomark _)) (pw_or (pt_cmpR (op_eqD hr.units) (pv 2) (pe_lst pa_nil) (nomark _)) (pw_or1 (pt_not (pt_val (pc (ok_is_group T) hr (pa_cons (bt c_tupQ T.b_tuple (pa_cons (pv 2) pa_nil)) pa_nil))))))))
      (pss_one (ps_ret pe_str))
      pss_nil)
    (pss_one (ps_ret (pe_ifExp (pt_cmpR op_gt (bf c_lenQ T.b_len (pa_cons (pv 2) pa_nil)) (C8.pe_gc rfl (gI T.vREASONS)) (nomark _)) pe_str pe_non)))))), rd_head_flaw T h⟩)
theorem ok_record_of {P : Program} {w : World} {mg : Str → Option Value} {base : Heap} {a : Ax} (T : Top a mg) : Cal P w a.K mg base 7 "record_of" (sp_record_of a) := cal_of T.d_record_of sc_record_of (fun _ _ _ _ _ _ us h => match us, h with | [_], _ => rfl) (fun vs H Q E h => by obtain ⟨_, e, _⟩ := h; rw [e] <;> rfl) (fun f cdv A outer s H vs Q E hr h => ⟨t_record_of a, (pss_cons (ps_set (i := 1) sc_record_of.nd rfl (Or.inl rfl) (p_split (pv 0) pe_str))
    (pss_cons (ps_if (PW.pt (pw_or (pt_cmpR op_lt (bf c_lenQ T.b_len (pa_cons (pv 1) pa_nil)) pe_int (nomark _)) (pw_or (pt_cmpR op_ne (pe_ix ix_list (pv 1) pe_int (fun _ _ => rfl)) pe_str (nomark _)) (pw_or1 (pt_not (pt_val (pc (ok_is_name T) hr (pa_cons (pe_ix ix_list (pv 1) pe_int (fun _ _ => rfl)) pa_nil))))))))
      (pss_one (ps_ret pe_non))
      pss_nil)
    (pss_cons (ps_set (i := 2) sc_record_of.nd rfl (Or.inl rfl) (pst (ok_row_read T) hr (pa_cons (p_join pe_str (pe_slice sl_list (pv 1) (po_some pe_int) po_none)) pa_nil)))
    (pss_one (ps_ret (pe_ifExp (pt_cmpR o_isN (pv 2) pe_non (nomark _)) pe_non (pe_tup (pa_cons (pe_ix ix_list (pv 1) pe_int (fun _ _ => rfl)) (pa_cons (pv 2) pa_nil))))))))), rd_record_of T h⟩)
theorem ok_record_flaw {P : Program} {w : World} {mg : Str → Option Value} {base : Heap} {a : Ax} (T : Top a mg) : Cal P w a.K mg base 8 "record_flaw" (sp_record_flaw a) := cal_of T.d_record_flaw sc_record_flaw (fun _ _ _ _ _ _ us h => match us, h with | [_, _, _], _ => rfl) (fun vs H Q E h => by obtain ⟨_, _, _, _, _, e, _⟩ := h; rw [e] <;> rfl) (fun f cdv A outer s H vs Q E hr h => ⟨t_record_flaw a, (pss_cons (ps_set (i := 3) sc_record_flaw.nd rfl (Or.inl rfl) (pc (ok_record_of T) hr (pa_cons (pv 0) pa_nil)))
    (pss_cons (ps_if (pt_cmpR o_isN (pv 3) pe_non (nomark _))
      (pss_one (ps_ret pe_str))
      pss_nil)
    (pss_cons (ps_if (pt_cmpR op_eq (bf c_lenQ T.b_len (pa_cons (pv 2) pa_nil)) (ClX.pe_cval (pe_glob rfl T.gBook rfl)) (nomark _))
      (pss_one (ps_ret pe_str))
      pss_nil)
    (pss_cons (ps_if (pt_cmpR op_in_seq (pe_ix ix_tup (pv 3) pe_int (fun _ _ => rfl)) (pe_lc (own := [("mark", 4), ("row", 5)]) (g := (gTup a.K 2 (gCons (gName 4) (gCons (gName 5) gNil)))) rfl sc_record_flaw.nd (pi_list (pv 2)) (blkOk_by (own := [("mark", 4), ("row", 5)]) (N := n_record_flaw) (sc := defScope s_record_flaw) (by decide +kernel)) (fun _ _ _ _ _ => (pg_tup rfl (pgs_cons (pg_name (i := 4) sc_record_flaw.nd rfl (Or.inl rfl)) (pgs_cons (pg_name (i := 5) sc_record_flaw.nd rfl (Or.inl rfl)) pgs_nil)))) (fun _ _ _ _ _ => pts_nil) (fun _ _ _ _ _ => (pv 4))) rfl)
      (pss_one (ps_ret pe_str))
      pss_nil)
    (pss_one (ps_ret (pe_ifExp (pt_cmpR o_isN (pc (ok_stranger T) hr (pa_cons (pe_ix ix_tup (pv 3) pe_int (fun _ _ => rfl)) (pa_cons (pv 1) pa_nil))) pe_non (nomark _)) pe_non pe_str))))))), rd_record_flaw T h⟩)
theorem ok_book_read {P : Program} {w : World} {mg : Str → Option Value} {base : Heap} {a : Ax} (T : Top a mg) : Stm P w a.K mg base 9 "Book" "read" (sp_book_read a) := stm_of T.d_book_read sc_book_read (fun _ _ _ _ _ _ us h => match us, h with | [_], _ => rfl) (fun vs H Q E h => by obtain ⟨_, _, e, _⟩ := h; rw [e] <;> rfl) (fun f cdv A outer s H vs Q E hr h => ⟨t_book_read a, (pss_cons (ps_if (pt_not (pt_val (bf call_isi T.b_isinstance (pa_cons (pv 0) (pa_cons (bty T.b_str) pa_nil)))))
      (pss_one ps_never)
      pss_nil)
    (pss_cons (ps_if (pt_cmpR op_eq (pv 0) pe_str (nomark _))
      (pss_one ps_never)
      pss_nil)
    (pss_cons (ps_set (i := 1) sc_book_read.nd rfl (Or.inl rfl) (pe_lst pa_nil))
    (pss_cons (ps_set (i := 2) sc_book_read.nd rfl (Or.inl rfl) (pe_lst pa_nil))
    (pss_cons (ps_for PassesOwn.never rfl (pi_enum rfl T.b_enumerate (pa_cons (pc (ok_lines_of T) hr (pa_cons (pv 0) pa_nil)) pa_nil)) (pg_tup rfl (pgs_cons (pg_name (i := 3) sc_book_read.nd rfl (Or.inl rfl)) (pgs_cons (pg_tup rfl (pgs_cons (pg_name (i := 4) sc_book_read.nd rfl (Or.inl rfl)) (pgs_cons (pg_name (i := 5) sc_book_read.nd rfl (Or.inl rfl)) pgs_nil))) pgs_nil)))
      (pss_cons (ps_if (pt_not (pt_val (pv 5)))
        (pss_one ps_never)
        pss_nil)
      (pss_cons (ps_set (i := 6) sc_book_read.nd rfl (Or.inl rfl) (pe_ifExp (pt_cmpR op_eq (pv 3) pe_int (nomark _)) (pc (ok_head_flaw T) hr (pa_cons (pv 4) pa_nil)) (pc (ok_record_flaw T) hr (pa_cons (pv 4) (pa_cons (pv 1) (pa_cons (pv 2) pa_nil))))))
      (pss_cons (ps_if (pt_cmpR o_notN (pv 6) pe_non (nomark _))
        (pss_one ps_never)
        pss_nil)
      (pss_one (ps_if (pt_cmpR op_eq (pv 3) pe_int (nomark _))
        (pss_one (ps_set (i := 1) sc_book_read.nd rfl (Or.inl rfl) (pe_slice sl_list (p_split (pv 4) pe_str) (po_some pe_int) po_none)))
        (pss_one (ps_expr (pe_bm PySem.F.plainAttrs_list PySem.F.slot_list_append PySem.F.type_list_append mt_append (pv 2) (pa_cons (pc (ok_record_of T) hr (pa_cons (pv 4) pa_nil)) pa_nil))))))))))
    (pss_one (ps_ret (pmkS (ok_book_init T) hr (pa_cons (pv 1) (StX.pa_star (pv 2) pa_nil)))))))))), rd_book_read T h⟩)
theorem ok_book_add {P : Program} {w : World} {mg : Str → Option Value} {base : Heap} {a : Ax} (T : Top a mg) : OwnPlus P w a.K mg base 6 a.B (sp_book_add a) := plus_of T.d_book_add sc_book_add (fun _ _ _ _ _ _ us h => match us, h with | [_, _], _ => rfl) (fun vs H Q E h => by obtain ⟨_, _, _, _, _, e, _⟩ := h; rw [e] <;> rfl) (fun f cdv A outer s H vs Q E hr h => ⟨t_book_add a, (pss_cons (ps_set (i := 2) sc_book_add.nd rfl (Or.inl rfl) (pe_lst (StX.pa_star (pmt0 (ok_book_records T) hr (pv 0)) (pa_cons (pv 1) pa_nil))))
    (pss_one (ps_ret (pmkS (ok_book_init T) hr (pa_cons (pe_fld (pv 0) rfl) (StX.pa_star (pv 2) pa_nil)))))), rd_book_add T h⟩)
theorem ok_full_mask {P : Program} {w : World} {mg : Str → Option Value} {base : Heap} {a : Ax} (T : Top a mg) : Cal P w a.K mg base 1 "full_mask" (sp_full_mask a) := cal_of T.d_full_mask sc_full_mask (fun _ _ _ _ _ _ us h => match us, h with | [_], _ => rfl) (fun vs H Q E h => by obtain ⟨_, _, e, _⟩ := h; rw [e] <;> rfl) (fun f cdv A outer s H vs Q E hr h => ⟨t_full_mask a, (pss_one (ps_ret (pe_op op_sub (pe_op op_shl pe_int (bf c_lenQ T.b_len (pa_cons (pv 0) pa_nil))) pe_int))), rd_full_mask T h⟩)
theorem ok_mask_of {P : Program} {w : World} {mg : Str → Option Value} {base : Heap} {a : Ax} (T : Top a mg) : Cal P w a.K mg base 1 "mask_of" (sp_mask_of a) := cal_of T.d_mask_of sc_mask_of (fun _ _ _ _ _ _ us h => match us, h with | [_, _], _ => rfl) (fun vs H Q E h => by obtain ⟨_, _, _, _, e, _⟩ := h; rw [e] <;> rfl) (fun f cdv A outer s H vs Q E hr h => ⟨t_mask_of a, (pss_cons (ps_set (i := 2) sc_mask_of.nd rfl (Or.inl rfl) pe_int)
    (pss_cons (ps_for PassesOwn.never rfl (pi_tup (pv 1)) (pg_name (i := 3) sc_mask_of.nd rfl (Or.inl rfl))
      (pss_one (ps_set (i := 2) sc_mask_of.nd rfl (Or.inl rfl) (pe_op op_or (pv 2) (pe_op op_shl pe_int (pe_tindex (pv 0) (pa_cons (pv 3) pa_nil)))))))
    (pss_one (ps_ret (pv 2))))), rd_mask_of T h⟩)
theorem ok_side_masks {P : Program} {w : World} {mg : Str → Option Value} {base : Heap} {a : Ax} (T : Top a mg) : Cal P w a.K mg base 2 "side_masks" (sp_side_masks a) := cal_of T.d_side_masks sc_side_masks (fun _ _ _ _ _ _ us h => match us, h with | [_, _], _ => rfl) (fun vs H Q E h => by obtain ⟨_, _, _, _, _, e, _⟩ := h; rw [e] <;> rfl) (fun f cdv A outer s H vs Q E hr h => ⟨t_side_masks a, (pss_one (ps_ret (pe_tup (pa_cons (pc (ok_mask_of T) hr (pa_cons (pv 0) (pa_cons (pe_fld (pv 1) rfl) pa_nil))) (pa_cons (pc (ok_mask_of T) hr (pa_cons (pv 0) (pa_cons (pe_fld (pv 1) rfl) pa_nil))) pa_nil))))), rd_side_masks T h⟩)
theorem ok_row_masks {P : Program} {w : World} {mg : Str → Option Value} {base : Heap} {a : Ax} (T : Top a mg) : Cal P w a.K mg base 3 "row_masks" (sp_row_masks a) := cal_of T.d_row_masks sc_row_masks (fun _ _ _ _ _ _ us h => match us, h with | [_], _ => rfl) (fun vs H Q E h => by obtain ⟨_, _, _, e, _⟩ := h; rw [e] <;> rfl) (fun f cdv A outer s H vs Q E hr h => ⟨t_row_masks a, (pss_one (ps_ret (pe_lc (own := [("row", 1)]) (g := (gName 1)) rfl sc_row_masks.nd (pi_list (pmt0 (ok_book_rows T) hr (pv 0))) (blkOk_by (own := [("row", 1)]) (N := n_row_masks) (sc := defScope s_row_masks) (by decide +kernel)) (fun _ _ _ _ _ => (pg_name (i := 1) sc_row_masks.nd rfl (Or.inl rfl))) (fun _ _ _ _ _ => pts_nil) (fun _ _ _ _ _ => (pc (ok_side_masks T) hr (pa_cons (pe_fld (pv 0) rfl) (pa_cons (pv 1) pa_nil))))))), rd_row_masks T h⟩)
theorem ok_blocked_mask {P : Program} {w : World} {mg : Str → Option Value} {base : Heap} {a : Ax} (T : Top a mg) : Cal P w a.K mg base 1 "blocked_mask" (sp_blocked_mask a) := cal_of T.d_blocked_mask sc_blocked_mask (fun _ _ _ _ _ _ us h => match us, h with | [_, _], _ => rfl) (fun vs H Q E h => by obtain ⟨_, _, _, e, _⟩ := h; rw [e] <;> rfl) (fun f cdv A outer s H vs Q E hr h => ⟨t_blocked_mask a, (pss_cons (ps_set (i := 2) sc_blocked_mask.nd rfl (Or.inl rfl) pe_int)
    (pss_cons (ps_for PassesOwn.never rfl (pi_list (pv 0)) (pg_tup rfl (pgs_cons (pg_name (i := 3) sc_blocked_mask.nd rfl (Or.inl rfl)) (pgs_cons (pg_name (i := 4) sc_blocked_mask.nd rfl (Or.inl rfl)) pgs_nil)))
      (pss_one (ps_if (pt_cmpR op_eq (pe_op op_and (pv 3) (pv 1)) pe_int (nomark _))
        (pss_one (ps_set (i := 2) sc_blocked_mask.nd rfl (Or.inl rfl) (pe_op op_or (pv 2) (pv 4))))
        pss_nil)))
    (pss_one (ps_ret (pv 2))))), rd_blocked_mask T h⟩)
theorem ok_coming_mask {P : Program} {w : World} {mg : Str → Option Value} {base : Heap} {a : Ax} (T : Top a mg) : Cal P w a.K mg base 2 "coming_mask" (sp_coming_mask a) := cal_of T.d_coming_mask sc_coming_mask (fun _ _ _ _ _ _ us h => match us, h with | [_, _, _], _ => rfl) (fun vs H Q E h => by obtain ⟨_, _, _, _, e, _⟩ := h; rw [e] <;> rfl) (fun f cdv A outer s H vs Q E hr h => ⟨t_coming_mask a, (pss_one (ps_ret (pe_op op_and (pe_op op_and (pv 2) (pe_un un_inv (pv 1))) (pe_un un_inv (pc (ok_blocked_mask T) hr (pa_cons (pv 0) (pa_cons (pv 1) pa_nil))))))), rd_coming_mask T h⟩)
theorem ok_greatest_within {P : Program} {w : World} {mg : Str → Option Value} {base : Heap} {a : Ax} (T : Top a mg) : Cal P w a.K mg base 3 "greatest_within" (sp_greatest_within a) := cal_of T.d_greatest_within sc_greatest_within (fun _ _ _ _ _ _ us h => match us, h with | [_, _], _ => rfl) (fun vs H Q E h => by obtain ⟨_, _, _, e, _⟩ := h; rw [e] <;> rfl) (fun f cdv A outer s H vs Q E hr h => ⟨t_greatest_within a, (pss_cons (ps_set (i := 2) sc_greatest_within.nd rfl (Or.inl rfl) pe_int)
    (pss_cons (ps_set (i := 3) sc_greatest_within.nd rfl (Or.inl rfl) (pc (ok_coming_mask T) hr (pa_cons (pv 0) (pa_cons (pv 2) (pa_cons (pv 1) pa_nil)))))
    (pss_cons (ps_while PassesOwn.never (pt_cmpR op_ne (pv 3) pe_int (nomark _))
      (pss_cons (ps_set (i := 2) sc_greatest_within.nd rfl (Or.inl rfl) (pe_op op_or (pv 2) (pv 3)))
      (pss_one (ps_set (i := 3) sc_greatest_within.nd rfl (Or.inl rfl) (pc (ok_coming_mask T) hr (pa_cons (pv 0) (pa_cons (pv 2) (pa_cons (pv 1) pa_nil))))))))
    (pss_one (ps_ret (pv 2)))))), rd_greatest_within T h⟩)
theorem ok_layered_mask {P : Program} {w : World} {mg : Str → Option Value} {base : Heap} {a : Ax} (T : Top a mg) : Cal P w a.K mg base 4 "layered_mask" (sp_layered_mask a) := cal_of T.d_layered_mask sc_layered_mask (fun _ _ _ _ _ _ us h => match us, h with | [_], _ => rfl) (fun vs H Q E h => by obtain ⟨_, _, _, e, _⟩ := h; rw [e] <;> rfl) (fun f cdv A outer s H vs Q E hr h => ⟨t_layered_mask a, (pss_one (ps_ret (pc (ok_greatest_within T) hr (pa_cons (pc (ok_row_masks T) hr (pa_cons (pv 0) pa_nil)) (pa_cons (pc (ok_full_mask T) hr (pa_cons (pe_fld (pv 0) rfl) pa_nil)) pa_nil))))), rd_layered_mask T h⟩)
theorem ok_stands {P : Program} {w : World} {mg : Str → Option Value} {base : Heap} {a : Ax} (T : Top a mg) : Cal P w a.K mg base 5 "stands" (sp_stands a) := cal_of T.d_stands sc_stands (fun _ _ _ _ _ _ us h => match us, h with | [_], _ => rfl) (fun vs H Q E h => by obtain ⟨_, _, _, e, _⟩ := h; rw [e] <;> rfl) (fun f cdv A outer s H vs Q E hr h => ⟨t_stands a, (pss_one (ps_ret (pe_cmpR op_eq (pc (ok_layered_mask T) hr (pa_cons (pv 0) pa_nil)) (pc (ok_full_mask T) hr (pa_cons (pe_fld (pv 0) rfl) pa_nil)) (nomark _)))), rd_stands T h⟩)
theorem ok_unborne {P : Program} {w : World} {mg : Str → Option Value} {base : Heap} {a : Ax} (T : Top a mg) : Cal P w a.K mg base 3 "unborne" (sp_unborne a) := cal_of T.d_unborne sc_unborne (fun _ _ _ _ _ _ us h => match us, h with | [_, _], _ => rfl) (fun vs H Q E h => by obtain ⟨_, _, _, _, _, e, _⟩ := h; rw [e] <;> rfl) (fun f cdv A outer s H vs Q E hr h => ⟨t_unborne a, (pss_cons (ps_if (pt_cmpR (op_neD hr.units) (pe_fld (pv 1) rfl) (pe_fld (pv 0) rfl) (nomark _))
      (pss_one ps_never)
      pss_nil)
    (pss_one (ps_ret (bt c_tupQ T.b_tuple (pa_cons (pe_lc (own := [("mark", 2), ("row", 3)]) (g := (gTup a.K 2 (gCons (gName 2) (gCons (gName 3) gNil)))) rfl sc_unborne.nd (pi_list (pmt0 (ok_book_records T) hr (pv 0))) (blkOk_by (own := [("mark", 2), ("row", 3)]) (N := n_unborne) (sc := defScope s_unborne) (by decide +kernel)) (fun _ _ _ _ _ => (pg_tup rfl (pgs_cons (pg_name (i := 2) sc_unborne.nd rfl (Or.inl rfl)) (pgs_cons (pg_name (i := 3) sc_unborne.nd rfl (Or.inl rfl)) pgs_nil)))) (fun _ _ _ _ _ => (pts_one (pt_not (pt_val (pmt (ok_order_bears T) hr (pv 1) (pa_cons (pv 3) pa_nil)))))) (fun _ _ _ _ _ => (pv 2))) pa_nil))))), rd_unborne T h⟩)
theorem ok_fits {P : Program} {w : World} {mg : Str → Option Value} {base : Heap} {a : Ax} (T : Top a mg) : Cal P w a.K mg base 4 "fits" (sp_fits a) := cal_of T.d_fits sc_fits (fun _ _ _ _ _ _ us h => match us, h with | [_, _], _ => rfl) (fun vs H Q E h => by obtain ⟨_, _, _, _, _, e, _⟩ := h; rw [e] <;> rfl) (fun f cdv A outer s H vs Q E hr h => ⟨t_fits a, (pss_one (ps_ret (pe_cmpR op_eq (bf c_lenQ T.b_len (pa_cons (pc (ok_unborne T) hr (pa_cons (pv 0) (pa_cons (pv 1) pa_nil))) pa_nil)) pe_int (nomark _)))), rd_fits T h⟩)
theorem ok_law_bag {P : Program} {w : World} {mg : Str → Option Value} {base : Heap} {a : Ax} (T : Top a mg) : Cal P w a.K mg base 1 "_law_bag" (sp_law_bag a) := cal_of T.d_law_bag sc_law_bag (fun _ _ _ _ _ _ us h => match us, h with | [_], _ => rfl) (fun vs H Q E h => by obtain ⟨_, _, e, _⟩ := h; rw [e] <;> rfl) (fun f cdv A outer s H vs Q E hr h => ⟨t_law_bag a, (pss_cons (ps_setLc (i := 1) (own := [("_law_cell", 3)]) (g := (gName 3)) rfl sc_law_bag.nd rfl rfl (sw_true rfl rfl rfl (by decide +kernel)) (pi_list (pe_slice sl_list (pv 0) po_none (po_some pe_int))) (blkOk_by (own := [("_law_cell", 3)]) (N := n_law_bag) (sc := defScope s_law_bag) (by decide +kernel)) (fun _ _ _ _ _ => (pg_name (i := 3) sc_law_bag.nd rfl (Or.inl rfl))) (fun _ _ _ _ _ => pts_nil) (fun _ _ _ _ _ => (bt c_intQ T.b_int (pa_cons (pv 3) pa_nil))))
    (pss_cons (ps_set (i := 2) sc_law_bag.nd rfl (Or.inl rfl) pe_int)
    (pss_cons (ps_for PassesOwn.never rfl (pi_list (pv 1)) (pg_name (i := 3) sc_law_bag.nd rfl (Or.inl rfl))
      (pss_one (ps_set (i := 2) sc_law_bag.nd rfl (Or.inl rfl) (pe_op op_mod (bt c_intQ T.b_int (pa_cons (pe_op op_add (pe_op op_add (pe_op op_mul (pv 2) pe_int) (pe_op op_mod (bt c_intQ T.b_int (pa_cons (pv 3) pa_nil)) pe_int)) pe_int) pa_nil)) pe_int))))
    (pss_one (ps_ret (pe_lst (pa_cons (pv 1) (pa_cons pe_int (pa_cons pe_int (pa_cons (pv 2) (pa_cons pe_int pa_nil))))))))))), rd_law_bag T h⟩)
theorem ok_law_take {P : Program} {w : World} {mg : Str → Option Value} {base : Heap} {a : Ax} (T : Top a mg) : Cal P w a.K mg base 1 "_law_take" (sp_law_take a) := cal_of T.d_law_take sc_law_take (fun _ _ _ _ _ _ us h => match us, h with | [_, _], _ => rfl) (fun vs H Q E h => by obtain ⟨_, _, _, _, e, _⟩ := h; rw [e] <;> rfl) (fun f cdv A outer s H vs Q E hr h => ⟨t_law_take a, (C8.pss_cut (ps_if (PW.pt (pw_and (pt_cmpR op_eq (pe_ix ix_list (pv 0) pe_int (fun _ _ => rfl)) pe_int (nomark _)) (pw_and1 (pt_cmpR op_lt (pe_ix ix_list (pv 0) pe_int (fun _ _ => rfl)) (bf c_lenA T.b_len (pa_cons (pe_ix ix_list (pv 0) pe_int (fun _ _ => rfl)) pa_nil)) (nomark _)))))
      (pss_cons (ps_set (i := 2) sc_law_take.nd rfl (Or.inl rfl) (pe_ix ix_seq (pe_ix ix_list (pv 0) pe_int (fun _ _ => rfl)) (pe_ix ix_list (pv 0) pe_int (fun _ _ => rfl)) (fun _ _ => rfl)))
      (pss_cons (ps_asg (pe_op op_add (pe_ix ix_list (pv 0) pe_int (fun _ _ => rfl)) pe_int) (pg_sub (pv 0) pe_int set_list))
      (pss_one (ps_if (pt_cmpR op_ge (pv 2) (pe_op op_pow pe_int pe_int) (nomark _))
        (pss_one (ps_asg (pv 2) (pg_sub (pv 0) pe_int set_list)))
        (pss_one (ps_asg (pe_op op_mod (bt c_intQ T.b_int (pa_cons (pe_op op_add (pe_op op_add (pe_op op_mul (pe_ix ix_list (pv 0) pe_int (fun _ _ => rfl)) pe_int) (pe_op op_mod (bt c_intQ T.b_int (pa_cons (pv 2) pa_nil)) pe_int)) pe_int) pa_nil)) pe_int) (pg_sub (pv 0) pe_int set_list)))))))
      pss_nil)
    (pss_cons (ps_if (pt_cmpR op_gt (pe_ix ix_list (pv 0) pe_int (fun _ _ => rfl)) pe_int (nomark _))
      (pss_cons (ps_set (i := 3) sc_law_take.nd rfl (Or.inl rfl) (pe_op op_mod (bt c_intQ T.b_int (pa_cons (pe_ix ix_list (pv 0) pe_int (fun _ _ => rfl)) pa_nil)) (pv 1)))
      (pss_cons (ps_asg (pe_op op_fdiv (bt c_intQ T.b_int (pa_cons (pe_ix ix_list (pv 0) pe_int (fun _ _ => rfl)) pa_nil)) (pv 1)) (pg_sub (pv 0) pe_int set_list))
      (pss_one (ps_ret (pv 3)))))
      pss_nil)
    (pss_cons (ps_asg (pe_op op_add (pe_ix ix_list (pv 0) pe_int (fun _ _ => rfl)) pe_int) (pg_sub (pv 0) pe_int set_list))
    (pss_cons (ps_set (i := 4) sc_law_take.nd rfl (Or.inl rfl) (pe_op op_mod (bt c_intQ T.b_int (pa_cons (pe_op op_add (pe_ix ix_list (pv 0) pe_int (fun _ _ => rfl)) (pe_op op_mul (pe_ix ix_list (pv 0) pe_int (fun _ _ => rfl)) pe_int)) pa_nil)) pe_int))
    (pss_cons (ps_asg (pe_op op_mod (bt c_intQ T.b_int (pa_cons (pe_op op_add (pe_op op_add (pe_op op_pow (pv 4) pe_int) (pe_op op_mul pe_int (pv 4))) pe_int) pa_nil)) pe_int) (pg_sub (pv 0) pe_int set_list))
    (pss_one (ps_ret (pe_op op_mod (bt c_intQ T.b_int (pa_cons (pe_op op_add (pe_op op_fdiv (pe_ix ix_list (pv 0) pe_int (fun _ _ => rfl)) pe_int) (pe_op op_mul (pe_op op_mod (bt c_intQ T.b_int (pa_cons (pe_ix ix_list (pv 0) pe_int (fun _ _ => rfl)) pa_nil)) pe_int) pe_int)) pa_nil)) (pv 1))))))))), rd_law_take T h⟩)
theorem ok_law_pick {P : Program} {w : World} {mg : Str → Option Value} {base : Heap} {a : Ax} (T : Top a mg) : Cal P w a.K mg base 2 "_law_pick" (sp_law_pick a) := cal_of T.d_law_pick sc_law_pick (fun _ _ _ _ _ _ us h => match us, h with | [_, _], _ => rfl) (fun vs H Q E h => by obtain ⟨_, _, _, _, e, _⟩ := h; rw [e] <;> rfl) (fun f cdv A outer s H vs Q E hr h => ⟨t_law_pick a, (pss_one (ps_ret (pe_ix ix_seq (pv 1) (pc (ok_law_take T) hr (pa_cons (pv 0) (pa_cons (bf c_lenA T.b_len (pa_cons (pv 1) pa_nil)) pa_nil))) (fun _ _ => rfl)))), rd_law_pick T h⟩)
theorem ok_law_mixed {P : Program} {w : World} {mg : Str → Option Value} {base : Heap} {a : Ax} (T : Top a mg) : Cal P w a.K mg base 2 "_law_mixed" (sp_law_mixed a) := cal_of T.d_law_mixed sc_law_mixed (fun _ _ _ _ _ _ us h => match us, h with | [_, _], _ => rfl) (fun vs H Q E h => by obtain ⟨_, _, _, _, _, e, _⟩ := h; rw [e] <;> rfl) (fun f cdv A outer s H vs Q E hr h => ⟨t_law_mixed a, (pss_cons (ps_set (i := 2) sc_law_mixed.nd rfl (Or.inl rfl) (pe_lst pa_nil))
    (pss_cons (ps_for PassesOwn.never rfl (pi_seq (pv 1)) (pg_name (i := 3) sc_law_mixed.nd rfl (Or.inl rfl))
      (pss_one (ps_expr (pe_bm PySem.F.plainAttrs_list PySem.F.slot_list_insert PySem.F.type_list_insert m_insert (pv 2) (pa_cons (pc (ok_law_take T) hr (pa_cons (pv 0) (pa_cons (pe_op op_add (bf c_lenQ T.b_len (pa_cons (pv 2) pa_nil)) pe_int) pa_nil))) (pa_cons (pv 3) pa_nil))))))
    (pss_one (ps_ret (pv 2))))), rd_law_mixed T h⟩)
theorem ok_law_letters {P : Program} {w : World} {mg : Str → Option Value} {base : Heap} {a : Ax} (T : Top a mg) : Cal P w a.K mg base 3 "_law_letters" (sp_law_letters a) := cal_of T.d_law_letters sc_law_letters (fun _ _ _ _ _ _ us h => match us, h with | [_, _], _ => rfl) (fun vs H Q E h => by obtain ⟨_, _, _, _, e, _⟩ := h; rw [e] <;> rfl) (fun f cdv A outer s H vs Q E hr h => ⟨t_law_letters a, (pss_one (ps_ret (p_join pe_str (pe_lc (own := [("_law_k", 2)]) (g := (gName 2)) rfl sc_law_letters.nd (pi_range1 rfl T.b_range (pa_cons (pv 1) pa_nil)) (blkOk_by (own := [("_law_k", 2)]) (N := n_law_letters) (sc := defScope s_law_letters) (by decide +kernel)) (fun _ _ _ _ _ => (pg_name (i := 2) sc_law_letters.nd rfl (Or.inl rfl))) (fun _ _ _ _ _ => pts_nil) (fun _ _ _ _ _ => (pc (ok_law_pick T) hr (pa_cons (pv 0) (pa_cons pe_str pa_nil)))))))), rd_law_letters T h⟩)
theorem ok_law_signs {P : Program} {w : World} {mg : Str → Option Value} {base : Heap} {a : Ax} (T : Top a mg) : Cal P w a.K mg base 3 "_law_signs" (sp_law_signs a) := cal_of T.d_law_signs sc_law_signs (fun _ _ _ _ _ _ us h => match us, h with | [_, _], _ => rfl) (fun vs H Q E h => by obtain ⟨_, _, _, _, e, _⟩ := h; rw [e] <;> rfl) (fun f cdv A outer s H vs Q E hr h => ⟨t_law_signs a, (pss_cons (ps_asg (pe_tup (pa_cons (pc (ok_law_take T) hr (pa_cons (pv 0) (pa_cons pe_int pa_nil))) (pa_cons (pc (ok_law_pick T) hr (pa_cons (pv 0) (pa_cons (pe_lst (pa_cons pe_int (pa_cons pe_int (pa_cons pe_int (pa_cons pe_int (pa_cons pe_int (pa_cons pe_int (pa_cons pe_int (pa_cons pe_int (pa_cons pe_int (pa_cons pe_int (pa_cons pe_int (pa_cons pe_int pa_nil))))))))))))) pa_nil))) pa_nil))) (pg_tup rfl (pgs_cons (pg_name (i := 2) sc_law_signs.nd rfl (Or.inr rfl)) (pgs_cons (pg_name (i := 3) sc_law_signs.nd rfl (Or.inr rfl)) pgs_nil))))
    (pss_one (ps_ret (pe_lc (own := [("_law_k", 4)]) (g := (gName 4)) rfl sc_law_signs.nd (pi_range1 rfl T.b_range (pa_cons (pv 1) pa_nil)) (blkOk_by (own := [("_law_k", 4)]) (N := n_law_signs) (sc := defScope s_law_signs) (by decide +kernel)) (fun _ _ _ _ _ => (pg_name (i := 4) sc_law_signs.nd rfl (Or.inl rfl))) (fun _ _ _ _ _ => pts_nil) (fun _ _ _ _ _ => (pe_ix ix_str pe_str (pe_op op_mod (bt c_intQ T.b_int (pa_cons (pe_op op_add (pv 2) (pe_op op_mul (pv 3) (pv 4))) pa_nil)) pe_int) (fun _ _ => rfl))))))), rd_law_signs T h⟩)
theorem ok_law_names {P : Program} {w : World} {mg : Str → Option Value} {base : Heap} {a : Ax} (T : Top a mg) : Cal P w a.K mg base 4 "_law_names" (sp_law_names a) := cal_of T.d_law_names sc_law_names (fun _ _ _ _ _ _ us h => match us, h with | [_, _], _ => rfl) (fun vs H Q E h => by obtain ⟨_, _, _, _, e, _⟩ := h; rw [e] <;> rfl) (fun f cdv A outer s H vs Q E hr h => ⟨t_law_names a, (pss_cons (ps_asg (pe_tup (pa_cons (pc (ok_law_signs T) hr (pa_cons (pv 0) (pa_cons pe_int pa_nil))) (pa_cons (pc (ok_law_take T) hr (pa_cons (pv 0) (pa_cons pe_int pa_nil))) pa_nil))) (pg_tup rfl (pgs_cons (pg_name (i := 2) sc_law_names.nd rfl (Or.inr rfl)) (pgs_cons (pg_name (i := 3) sc_law_names.nd rfl (Or.inl rfl)) pgs_nil))))
    (pss_cons (ps_if (pt_cmpR op_eq (pv 3) pe_int (nomark _))
      (pss_cons (ps_set (i := 4) sc_law_names.nd rfl (Or.inr rfl) (pc (ok_law_letters T) hr (pa_cons (pv 0) (pa_cons (pc (ok_law_take T) hr (pa_cons (pv 0) (pa_cons pe_int pa_nil))) pa_nil))))
      (pss_cons (ps_set (i := 5) sc_law_names.nd rfl (Or.inr rfl) (pc (ok_law_take T) hr (pa_cons (pv 0) (pa_cons (pe_op op_add (bf c_lenS T.b_len (pa_cons (pv 4) pa_nil)) pe_int) pa_nil))))
      (pss_one (ps_ret (pe_lc (own := [("_law_sign", 10)]) (g := (gName 10)) rfl sc_law_names.nd (pi_list (pe_slice sl_list (pv 2) po_none (po_some (pv 1)))) (blkOk_by (own := [("_law_sign", 10)]) (N := n_law_names) (sc := defScope s_law_names) (by decide +kernel)) (fun _ _ _ _ _ => (pg_name (i := 10) sc_law_names.nd rfl (Or.inl rfl))) (fun _ _ _ _ _ => pts_nil) (fun _ _ _ _ _ => (pe_op o_addS (pe_op o_addS (pe_slice sl_str (pv 4) po_none (po_some (pv 5))) (pv 10)) (pe_slice sl_str (pv 4) (po_some (pv 5)) po_none))))))))
      pss_nil)
    (pss_cons (ps_if (pt_cmpR op_eq (pv 3) pe_int (nomark _))
      (pss_one (ps_ret (pe_lc (own := [("_law_sign", 10)]) (g := (gName 10)) rfl sc_law_names.nd (pi_list (pe_slice sl_list (pv 2) po_none (po_some (pv 1)))) (blkOk_by (own := [("_law_sign", 10)]) (N := n_law_names) (sc := defScope s_law_names) (by decide +kernel)) (fun _ _ _ _ _ => (pg_name (i := 10) sc_law_names.nd rfl (Or.inl rfl))) (fun _ _ _ _ _ => pts_nil) (fun _ _ _ _ _ => (pe_op o_addS (pc (ok_law_letters T) hr (pa_cons (pv 0) (pa_cons (pc (ok_law_take T) hr (pa_cons (pv 0) (pa_cons pe_int pa_nil))) pa_nil))) (pv 10))))))
      pss_nil)
    (pss_cons (ps_if (pt_cmpR op_eq (pv 3) pe_int (nomark _))
      (pss_one (ps_ret (pc (ok_law_mixed T) hr (pa_cons (pv 0) (pa_cons (pe_lc (own := [("_law_k", 8)]) (g := (gName 8)) rfl sc_law_names.nd (pi_range1 rfl T.b_range (pa_cons (pv 1) pa_nil)) (blkOk_by (own := [("_law_k", 8)]) (N := n_law_names) (sc := defScope s_law_names) (by decide +kernel)) (fun _ _ _ _ _ => (pg_name (i := 8) sc_law_names.nd rfl (Or.inl rfl))) (fun _ _ _ _ _ => pts_nil) (fun _ _ _ _ _ => (pe_op op_mulS (pe_ix ix_list (pv 2) (pe_op op_fdiv (pv 8) pe_int) (fun _ _ => rfl)) (pe_op op_add (pe_op op_mod (bt c_intQ T.b_int (pa_cons (pv 8) pa_nil)) pe_int) pe_int)))) pa_nil)))))
      pss_nil)
    (pss_cons (ps_if (pt_cmpR op_eq (pv 3) pe_int (nomark _))
      (pss_cons (ps_set (i := 6) sc_law_names.nd rfl (Or.inl rfl) (pe_lst (pa_cons pe_str (pa_cons pe_str (pa_cons pe_str (pa_cons pe_str (pa_cons pe_str (pa_cons pe_str (pa_cons pe_str (pa_cons pe_str (pa_cons pe_str (pa_cons pe_str (pa_cons pe_str (pa_cons pe_str pa_nil))))))))))))))
      (pss_one (ps_ret (pe_slice sl_list (pc (ok_law_mixed T) hr (pa_cons (pv 0) (pa_cons (pv 6) pa_nil))) po_none (po_some (pv 1))))))
      pss_nil)
    (pss_cons (ps_set (i := 7) sc_law_names.nd rfl (Or.inr rfl) (pe_lst pa_nil))
    (pss_cons (ps_for PassesOwn.never rfl (pi_range1 rfl T.b_range (pa_cons (pv 1) pa_nil)) (pg_name (i := 8) sc_law_names.nd rfl (Or.inl rfl))
      (pss_cons (ps_set (i := 9) sc_law_names.nd rfl (Or.inl rfl) (pe_op op_cat (pe_lst (pa_cons (pc (ok_law_letters T) hr (pa_cons (pv 0) (pa_cons (pe_op op_add pe_int (pc (ok_law_take T) hr (pa_cons (pv 0) (pa_cons pe_int pa_nil)))) pa_nil))) pa_nil)) (pe_lc (own := [("_law_sign", 10)]) (g := (gName 10)) rfl sc_law_names.nd (pi_list (pv 2)) (blkOk_by (own := [("_law_sign", 10)]) (N := n_law_names) (sc := defScope s_law_names) (by decide +kernel)) (fun _ _ _ _ _ => (pg_name (i := 10) sc_law_names.nd rfl (Or.inl rfl))) (fun _ _ _ _ _ => pts_nil) (fun _ _ _ _ _ => (pe_op op_mulS (pv 10) pe_int)))))
      (pss_one (ps_expr (pe_bm PySem.F.plainAttrs_list PySem.F.slot_list_append PySem.F.type_list_append mt_append (pv 7) (pa_cons (pe_ix ix_list (pe_lc (own := [("_law_word", 11)]) (g := (gName 11)) rfl sc_law_names.nd (pi_list (pv 9)) (blkOk_by (own := [("_law_word", 11)]) (N := n_law_names) (sc := defScope s_law_names) (by decide +kernel)) (fun _ _ _ _ _ => (pg_name (i := 11) sc_law_names.nd rfl (Or.inl rfl))) (fun _ _ _ _ _ => (pts_one (pt_cmpR op_notIn_seq (pv 11) (pv 7) rfl))) (fun _ _ _ _ _ => (pv 11))) pe_int (fun _ _ => rfl)) pa_nil))))))
    (pss_one (ps_ret (pv 7)))))))))), rd_law_names T h⟩)
theorem ok_law_stranger {P : Program} {w : World} {mg : Str → Option Value} {base : Heap} {a : Ax} (T : Top a mg) : Cal P w a.K mg base 4 "_law_stranger" (sp_law_stranger a) := cal_of T.d_law_stranger sc_law_stranger (fun _ _ _ _ _ _ us h => match us, h with | [_, _], _ => rfl) (fun vs H Q E h => by obtain ⟨_, _, _, _, _, e, _⟩ := h; rw [e] <;> rfl) (fun f cdv A outer s H vs Q E hr h => ⟨t_law_stranger a, (pss_cons (ps_set (i := 2) sc_law_stranger.nd rfl (Or.inl rfl) (pe_lst (pa_cons (pc (ok_law_letters T) hr (pa_cons (pv 0) (pa_cons (pe_op op_add pe_int (pc (ok_law_take T) hr (pa_cons (pv 0) (pa_cons pe_int pa_nil)))) pa_nil))) (pa_cons pe_str (pa_cons pe_str (pa_cons pe_str (pa_cons pe_str (pa_cons pe_str (pa_cons pe_str (pa_cons pe_str (pa_cons pe_str pa_nil)))))))))))
    (pss_one (ps_ret (pe_ix ix_list (pe_lc (own := [("_law_word", 3)]) (g := (gName 3)) rfl sc_law_stranger.nd (pi_list (pv 2)) (blkOk_by (own := [("_law_word", 3)]) (N := n_law_stranger) (sc := defScope s_law_stranger) (by decide +kernel)) (fun _ _ _ _ _ => (pg_name (i := 3) sc_law_stranger.nd rfl (Or.inl rfl))) (fun _ _ _ _ _ => (pts_one (pt_cmpR op_notIn_seq (pv 3) (pv 1) rfl))) (fun _ _ _ _ _ => (pv 3))) pe_int (fun _ _ => rfl))))), rd_law_stranger T h⟩)
theorem ok_law_marks {P : Program} {w : World} {mg : Str → Option Value} {base : Heap} {a : Ax} (T : Top a mg) : Cal P w a.K mg base 4 "_law_marks" (sp_law_marks a) := cal_of T.d_law_marks sc_law_marks (fun _ _ _ _ _ _ us h => match us, h with | [_, _, _], _ => rfl) (fun vs H Q E h => by obtain ⟨_, _, _, _, _, _, e, _⟩ := h; rw [e] <;> rfl) (fun f cdv A outer s H vs Q E hr h => ⟨t_law_marks a, (pss_cons (ps_set (i := 3) sc_law_marks.nd rfl (Or.inr rfl) (pc (ok_law_signs T) hr (pa_cons (pv 0) (pa_cons pe_int pa_nil))))
    (pss_cons (ps_set (i := 4) sc_law_marks.nd rfl (Or.inr rfl) (pe_ifExp (pt_cmpR op_gt (pc (ok_law_take T) hr (pa_cons (pv 0) (pa_cons pe_int pa_nil))) pe_int (nomark _)) (pc (ok_law_letters T) hr (pa_cons (pv 0) (pa_cons (pc (ok_law_take T) hr (pa_cons (pv 0) (pa_cons pe_int pa_nil))) pa_nil))) pe_str))
    (pss_cons (ps_set (i := 5) sc_law_marks.nd rfl (Or.inl rfl) (pe_op op_cat (pe_lc (own := [("_law_sign", 6)]) (g := (gName 6)) rfl sc_law_marks.nd (pi_list (pv 3)) (blkOk_by (own := [("_law_sign", 6)]) (N := n_law_marks) (sc := defScope s_law_marks) (by decide +kernel)) (fun _ _ _ _ _ => (pg_name (i := 6) sc_law_marks.nd rfl (Or.inl rfl))) (fun _ _ _ _ _ => pts_nil) (fun _ _ _ _ _ => (pe_op o_addS (pv 4) (pv 6)))) (pe_lc (own := [("_law_sign", 6)]) (g := (gName 6)) rfl sc_law_marks.nd (pi_list (pv 3)) (blkOk_by (own := [("_law_sign", 6)]) (N := n_law_marks) (sc := defScope s_law_marks) (by decide +kernel)) (fun _ _ _ _ _ => (pg_name (i := 6) sc_law_marks.nd rfl (Or.inl rfl))) (fun _ _ _ _ _ => pts_nil) (fun _ _ _ _ _ => (pe_op o_addS (pe_op o_addS (pv 4) (pv 6)) (pe_ix ix_list (pv 3) pe_int (fun _ _ => rfl)))))))
    (pss_cons (ps_if (pt_cmpR op_eq (pc (ok_law_take T) hr (pa_cons (pv 0) (pa_cons pe_int pa_nil))) pe_int (nomark _))
      (pss_one (ps_set (i := 5) sc_law_marks.nd rfl (Or.inl rfl) (pe_op op_cat (pc (ok_law_mixed T) hr (pa_cons (pv 0) (pa_cons (pv 1) pa_nil))) (pe_lc (own := [("_law_sign", 6)]) (g := (gName 6)) rfl sc_law_marks.nd (pi_list (pv 5)) (blkOk_by (own := [("_law_sign", 6)]) (N := n_law_marks) (sc := defScope s_law_marks) (by decide +kernel)) (fun _ _ _ _ _ => (pg_name (i := 6) sc_law_marks.nd rfl (Or.inl rfl))) (fun _ _ _ _ _ => (pts_one (pt_cmpR op_notIn_seq (pv 6) (pv 1) rfl))) (fun _ _ _ _ _ => (pv 6))))))
      pss_nil)
    (pss_one (ps_ret (pe_slice sl_list (pv 5) po_none (po_some (pv 2))))))))), rd_law_marks T h⟩)
theorem ok_law_fresh {P : Program} {w : World} {mg : Str → Option Value} {base : Heap} {a : Ax} (T : Top a mg) : Cal P w a.K mg base 1 "_law_fresh" (sp_law_fresh a) := cal_of T.d_law_fresh sc_law_fresh (fun _ _ _ _ _ _ us h => match us, h with | [_, _], _ => rfl) (fun vs H Q E h => by obtain ⟨_, _, _, e, _⟩ := h; rw [e] <;> rfl) (fun f cdv A outer s H vs Q E hr h => ⟨t_law_fresh a, (pss_cons (ps_setLc (i := 2) (own := [("_law_sign", 4)]) (g := (gName 4)) rfl sc_law_fresh.nd rfl rfl (sw_true rfl rfl rfl (by decide +kernel)) (pi_str pe_str) (blkOk_by (own := [("_law_sign", 4)]) (N := n_law_fresh) (sc := defScope s_law_fresh) (by decide +kernel)) (fun _ _ _ _ _ => (pg_name (i := 4) sc_law_fresh.nd rfl (Or.inl rfl))) (fun _ _ _ _ _ => pts_nil) (fun _ _ _ _ _ => (pv 4)))
    (pss_cons (ps_set (i := 3) sc_law_fresh.nd rfl (Or.inl rfl) (bt c_listQ T.b_list (pa_cons (pv 2) pa_nil)))
    (pss_cons (ps_for PassesOwn.never rfl (pi_list (pv 2)) (pg_name (i := 4) sc_law_fresh.nd rfl (Or.inr rfl))
      (pss_one (ps_set (i := 3) sc_law_fresh.nd rfl (Or.inl rfl) (pe_op op_cat (pv 3) (pe_lc (own := [("_law_late", 5)]) (g := (gName 5)) rfl sc_law_fresh.nd (pi_list (pv 2)) (blkOk_by (own := [("_law_late", 5)]) (N := n_law_fresh) (sc := defScope s_law_fresh) (by decide +kernel)) (fun _ _ _ _ _ => (pg_name (i := 5) sc_law_fresh.nd rfl (Or.inl rfl))) (fun _ _ _ _ _ => pts_nil) (fun _ _ _ _ _ => (pe_op o_addS (pv 4) (pv 5))))))))
    (pss_one (ps_ret (pe_slice sl_list (pe_lc (own := [("_law_sign", 4)]) (g := (gName 4)) rfl sc_law_fresh.nd (pi_list (pv 3)) (blkOk_by (own := [("_law_sign", 4)]) (N := n_law_fresh) (sc := defScope s_law_fresh) (by decide +kernel)) (fun _ _ _ _ _ => (pg_name (i := 4) sc_law_fresh.nd rfl (Or.inl rfl))) (fun _ _ _ _ _ => (pts_one (pt_cmpR op_notIn_seq (pv 4) (pv 0) rfl))) (fun _ _ _ _ _ => (pv 4))) po_none (po_some (pv 1)))))))), rd_law_fresh T h⟩)
theorem ok_law_group {P : Program} {w : World} {mg : Str → Option Value} {base : Heap} {a : Ax} (T : Top a mg) : Cal P w a.K mg base 1 "_law_group" (sp_law_group a) := cal_of T.d_law_group sc_law_group (fun _ _ _ _ _ _ us h => match us, h with | [_, _], _ => rfl) (fun vs H Q E h => by obtain ⟨_, _, _, e, _⟩ := h; rw [e] <;> rfl) (fun f cdv A outer s H vs Q E hr h => ⟨t_law_group a, (pss_one (ps_ret (bt c_tupQ T.b_tuple (pa_cons (pe_lc (own := [("_law_k", 2)]) (g := (gName 2)) rfl sc_law_group.nd (pi_range1 rfl T.b_range (pa_cons (bf c_lenQ T.b_len (pa_cons (pv 0) pa_nil)) pa_nil)) (blkOk_by (own := [("_law_k", 2)]) (N := n_law_group) (sc := defScope s_law_group) (by decide +kernel)) (fun _ _ _ _ _ => (pg_name (i := 2) sc_law_group.nd rfl (Or.inl rfl))) (fun _ _ _ _ _ => (pts_one (pt_cmpR op_eq (pe_op op_and (pe_op op_shr (pv 1) (pv 2)) pe_int) pe_int (nomark _)))) (fun _ _ _ _ _ => (pe_ix ix_list (pv 0) (pv 2) (fun _ _ => rfl)))) pa_nil)))), rd_law_group T h⟩)
theorem ok_law_sides {P : Program} {w : World} {mg : Str → Option Value} {base : Heap} {a : Ax} (T : Top a mg) : Cal P w a.K mg base 2 "_law_sides" (sp_law_sides a) := cal_of T.d_law_sides sc_law_sides (fun _ _ _ _ _ _ us h => match us, h with | [_, _, _], _ => rfl) (fun vs H Q E h => by obtain ⟨_, _, _, _, _, e, _⟩ := h; rw [e] <;> rfl) (fun f cdv A outer s H vs Q E hr h => ⟨t_law_sides a, (pss_cons (ps_asg (pe_tup (pa_cons pe_int (pa_cons pe_int pa_nil))) (pg_tup rfl (pgs_cons (pg_name (i := 3) sc_law_sides.nd rfl (Or.inl rfl)) (pgs_cons (pg_name (i := 4) sc_law_sides.nd rfl (Or.inl rfl)) pgs_nil))))
    (pss_cons (ps_for PassesOwn.never rfl (pi_range1 rfl T.b_range (pa_cons (pv 1) pa_nil)) (pg_name (i := 5) sc_law_sides.nd rfl (Or.inl rfl))
      (pss_cons (ps_set (i := 6) sc_law_sides.nd rfl (Or.inl rfl) (pc (ok_law_take T) hr (pa_cons (pv 0) (pa_cons (pv 2) pa_nil))))
      (pss_cons (ps_if (pt_cmpR op_eq (pv 6) pe_int (nomark _))
        (pss_one (ps_set (i := 3) sc_law_sides.nd rfl (Or.inl rfl) (pe_op op_or (pv 3) (pe_op op_shl pe_int (pv 5)))))
        pss_nil)
      (pss_one (ps_if (pt_cmpR op_eq (pv 6) pe_int (nomark _))
        (pss_one (ps_set (i := 4) sc_law_sides.nd rfl (Or.inl rfl) (pe_op op_or (pv 4) (pe_op op_shl pe_int (pv 5)))))
        pss_nil)))))
    (pss_one (ps_ret (pe_tup (pa_cons (pv 3) (pa_cons (pv 4) pa_nil))))))), rd_law_sides T h⟩)
theorem ok_law_both {P : Program} {w : World} {mg : Str → Option Value} {base : Heap} {a : Ax} (T : Top a mg) : Cal P w a.K mg base 1 "_law_both" (sp_law_both a) := cal_of T.d_law_both sc_law_both (fun _ _ _ _ _ _ us h => match us, h with | [_, _], _ => rfl) (fun vs H Q E h => by obtain ⟨_, _, _, _, _, e, _⟩ := h; rw [e] <;> rfl) (fun f cdv A outer s H vs Q E hr h => ⟨t_law_both a, (pss_cons (ps_set (i := 2) sc_law_both.nd rfl (Or.inl rfl) (pe_op op_or (pe_ix ix_tup (pv 0) pe_int (fun _ _ => rfl)) (pe_ix ix_tup (pv 1) pe_int (fun _ _ => rfl))))
    (pss_one (ps_ret (pe_tup (pa_cons (pe_op op_and (pe_op op_or (pe_ix ix_tup (pv 0) pe_int (fun _ _ => rfl)) (pe_ix ix_tup (pv 1) pe_int (fun _ _ => rfl))) (pe_un un_inv (pv 2))) (pa_cons (pv 2) pa_nil)))))), rd_law_both T h⟩)
theorem ok_law_leads {P : Program} {w : World} {mg : Str → Option Value} {base : Heap} {a : Ax} (T : Top a mg) : Cal P w a.K mg base 1 "_law_leads" (sp_law_leads a) := cal_of T.d_law_leads sc_law_leads (fun _ _ _ _ _ _ us h => match us, h with | [_, _], _ => rfl) (fun vs H Q E h => by obtain ⟨_, _, _, _, e, _⟩ := h; rw [e] <;> rfl) (fun f cdv A outer s H vs Q E hr h => ⟨t_law_leads a, (pss_cons (ps_for PassesOwn.never rfl (pi_seq (pv 0)) (pg_name (i := 2) sc_law_leads.nd rfl (Or.inl rfl))
      (pss_cons (ps_if (pt_cmpR op_eq (pe_op op_and (pe_op op_shr (pe_ix ix_tup (pv 1) pe_int (fun _ _ => rfl)) (pv 2)) pe_int) pe_int (nomark _))
        (pss_one (ps_ret pe_bl))
        pss_nil)
      (pss_one (ps_if (pt_cmpR op_eq (pe_op op_and (pe_op op_shr (pe_ix ix_tup (pv 1) pe_int (fun _ _ => rfl)) (pv 2)) pe_int) pe_int (nomark _))
        (pss_one (ps_ret pe_bl))
        pss_nil))))
    (pss_one (ps_ret pe_bl))), rd_law_leads T h⟩)
theorem ok_law_drawn {P : Program} {w : World} {mg : Str → Option Value} {base : Heap} {a : Ax} (T : Top a mg) : Cal P w a.K mg base 3 "_law_drawn" (sp_law_drawn a) := cal_of T.d_law_drawn sc_law_drawn (fun _ _ _ _ _ _ us h => match us, h with | [_, _, _, _, _], _ => rfl) (fun vs H Q E h => by obtain ⟨_, _, _, _, _, _, _, _, e, _⟩ := h; rw [e] <;> rfl) (fun f cdv A outer s H vs Q E hr h => ⟨t_law_drawn a, (pss_cons (ps_par (i := 5) (j := 6) rfl sc_law_drawn.nd rfl rfl (by decide) rfl rfl (pa_cons (pc (ok_law_pick T) hr (pa_cons (pv 0) (pa_cons (pe_lst (pa_cons pe_int (pa_cons pe_int (pa_cons pe_int (pa_cons pe_int pa_nil))))) pa_nil))) (pa_cons (pe_lst pa_nil) pa_nil)) (by rfl))
    (pss_cons (ps_for PassesOwn.never rfl (pi_range1 rfl T.b_range (pa_cons (pe_op op_add (pv 2) (pc (ok_law_take T) hr (pa_cons (pv 0) (pa_cons (pe_op op_sub (pe_op op_add (pv 3) pe_int) (pv 2)) pa_nil)))) pa_nil)) (pg_name (i := 7) sc_law_drawn.nd rfl (Or.inl rfl))
      (pss_cons (ps_par (i := 8) (j := 9) rfl sc_law_drawn.nd rfl rfl (by decide) rfl rfl (pa_cons (pc (ok_law_take T) hr (pa_cons (pv 0) (pa_cons pe_int pa_nil))) (pa_cons (pc (ok_law_sides T) hr (pa_cons (pv 0) (pa_cons (pv 1) (pa_cons (pv 5) pa_nil)))) pa_nil)) (by rfl))
      (C8.pss_cut (ps_if (pt_cmpR op_eq (pv 8) pe_int (nomark _))
        (pss_one (ps_set (i := 9) sc_law_drawn.nd rfl (Or.inl rfl) (pe_tup (pa_cons pe_int (pa_cons pe_int pa_nil)))))
        pss_nil)
      (C8.pss_cut (ps_if (PW.pt (pw_and (pt_cmpR (op_neD hr.units) (pv 6) (pe_lst pa_nil) (nomark _)) (pw_and (pt_cmpR op_gt (pv 8) pe_int (nomark _)) (pw_and1 (pt_cmpR op_lt (pv 8) pe_int (nomark _))))))
        (pss_cons (ps_set (i := 9) sc_law_drawn.nd rfl (Or.inl rfl) (pc (ok_law_pick T) hr (pa_cons (pv 0) (pa_cons (pv 6) pa_nil))))
        (pss_cons (ps_if (pt_cmpR op_eq (pv 8) pe_int (nomark _))
          (pss_one (ps_set (i := 9) sc_law_drawn.nd rfl (Or.inl rfl) (pe_tup (pa_cons (pe_ix ix_tup (pv 9) pe_int (fun _ _ => rfl)) (pa_cons (pe_ix ix_tup (pv 9) pe_int (fun _ _ => rfl)) pa_nil)))))
          pss_nil)
        (pss_one (ps_if (pt_cmpR op_eq (pv 8) pe_int (nomark _))
          (pss_one (ps_set (i := 9) sc_law_drawn.nd rfl (Or.inl rfl) (pc (ok_law_both T) hr (pa_cons (pv 9) (pa_cons (pc (ok_law_pick T) hr (pa_cons (pv 0) (pa_cons (pv 6) pa_nil))) pa_nil)))))
          pss_nil))))
        pss_nil)
      (C8.pss_cut (ps_if (PW.pt (pw_and (pt_cmpR op_gt (bf c_lenQ T.b_len (pa_cons (pv 4) pa_nil)) pe_int (nomark _)) (pw_and1 (pt_not (pt_val (pc (ok_law_leads T) hr (pa_cons (pv 4) (pa_cons (pv 9) pa_nil))))))))
        (pss_one (ps_set (i := 9) sc_law_drawn.nd rfl (Or.inl rfl) (pe_tup (pa_cons (pe_ix ix_tup (pv 9) pe_int (fun _ _ => rfl)) (pa_cons (pe_ix ix_tup (pv 9) pe_int (fun _ _ => rfl)) pa_nil)))))
        pss_nil)
      (pss_one (ps_expr (pe_bm PySem.F.plainAttrs_list PySem.F.slot_list_append PySem.F.type_list_append mt_append (pv 6) (pa_cons (pv 9) pa_nil)))))))))
    (pss_one (ps_ret (pv 6))))), rd_law_drawn T h⟩)
theorem ok_law_row {P : Program} {w : World} {mg : Str → Option Value} {base : Heap} {a : Ax} (T : Top a mg) : Cal P w a.K mg base 7 "_law_row" (sp_law_row a) := cal_of T.d_law_row sc_law_row (fun _ _ _ _ _ _ us h => match us, h with | [_, _, _], _ => rfl) (fun vs H Q E h => by obtain ⟨_, _, _, _, _, _, _, e, _⟩ := h; rw [e] <;> rfl) (fun f cdv A outer s H vs Q E hr h => ⟨t_law_row a, (pss_cons (ps_set (i := 3) sc_law_row.nd rfl (Or.inl rfl) (pc (ok_law_mixed T) hr (pa_cons (pv 0) (pa_cons (pc (ok_law_group T) hr (pa_cons (pv 1) (pa_cons (pe_ix ix_tup (pv 2) pe_int (fun _ _ => rfl)) pa_nil))) pa_nil))))
    (pss_cons (ps_set (i := 4) sc_law_row.nd rfl (Or.inl rfl) (pc (ok_law_mixed T) hr (pa_cons (pv 0) (pa_cons (pc (ok_law_group T) hr (pa_cons (pv 1) (pa_cons (pe_ix ix_tup (pv 2) pe_int (fun _ _ => rfl)) pa_nil))) pa_nil))))
    (pss_cons (ps_if (pt_cmpR op_eq (pc (ok_law_take T) hr (pa_cons (pv 0) (pa_cons pe_int pa_nil))) pe_int (nomark _))
      (pss_one (ps_ret (pe_un (un_negO (ok_row_neg T) hr) (pmk (ok_row_init T) hr (pa_cons (pv 4) (pa_cons (pv 3) pa_nil))))))
      pss_nil)
    (pss_cons (ps_set (i := 5) sc_law_row.nd rfl (Or.inl rfl) (pmk (ok_row_init T) hr (pa_cons (pv 3) (pa_cons (pv 4) pa_nil))))
    (pss_cons (ps_expr (pe_bm PySem.F.plainAttrs_list PySem.F.slot_list_append PySem.F.type_list_append mt_append (pv 3) (pa_cons pe_str pa_nil)))
    (pss_one (ps_ret (pv 5)))))))), rd_law_row T h⟩)
theorem ok_law_page {P : Program} {w : World} {mg : Str → Option Value} {base : Heap} {a : Ax} (T : Top a mg) : Cal P w a.K mg base 8 "_law_page" (sp_law_page a) := cal_of T.d_law_page sc_law_page (fun _ _ _ _ _ _ us h => match us, h with | [_, _, _, _], _ => rfl) (fun vs H Q E h => by obtain ⟨_, _, _, _, _, _, _, _, _, e, _⟩ := h; rw [e] <;> rfl) (fun f cdv A outer s H vs Q E hr h => ⟨t_law_page a, (pss_cons (ps_par (i := 4) (j := 5) rfl sc_law_page.nd rfl rfl (by decide) rfl rfl (pa_cons (bf cr_sortedS T.b_sorted (pa_cons (pv 1) pa_nil)) (pa_cons (bt c_listQ T.b_list (pa_cons (pv 1) pa_nil)) pa_nil)) (by rfl))
    (pss_cons (ps_set (i := 6) sc_law_page.nd rfl (Or.inl rfl) (pmk (ok_book_init T) hr (pa_cons (pv 5) pa_nil)))
    (pss_cons (ps_expr (pe_bm PySem.F.plainAttrs_list PySem.F.slot_list_append PySem.F.type_list_append mt_append (pv 5) (pa_cons pe_str pa_nil)))
    (pss_cons (ps_for PassesOwn.never rfl (pi_range1 rfl T.b_range (pa_cons (bf c_lenQ T.b_len (pa_cons (pv 3) pa_nil)) pa_nil)) (pg_name (i := 7) sc_law_page.nd rfl (Or.inl rfl))
      (pss_one (ps_set (i := 6) sc_law_page.nd rfl (Or.inl rfl) (pe_op (op_plusT (ok_book_add T) hr) (pv 6) (pe_tup (pa_cons (pe_ix ix_list (pv 2) (pv 7) (fun _ _ => rfl)) (pa_cons (pc (ok_law_row T) hr (pa_cons (pv 0) (pa_cons (pv 4) (pa_cons (pe_ix ix_list (pv 3) (pv 7) (fun _ _ => rfl)) pa_nil)))) pa_nil)))))))
    (pss_one (ps_ret (pv 6))))))), rd_law_page T h⟩)
theorem ok_law_words {P : Program} {w : World} {mg : Str → Option Value} {base : Heap} {a : Ax} (T : Top a mg) : Cal P w a.K mg base 1 "_law_words" (sp_law_words a) := cal_of T.d_law_words sc_law_words (fun _ _ _ _ _ _ us h => match us, h with | [_, _], _ => rfl) (fun vs H Q E h => by obtain ⟨_, _, _, _, e, _⟩ := h; rw [e] <;> rfl) (fun f cdv A outer s H vs Q E hr h => ⟨t_law_words a, (pss_cons (ps_set (i := 2) sc_law_words.nd rfl (Or.inl rfl) (pe_lst pa_nil))
    (pss_cons (ps_for PassesOwn.never rfl (pi_range1 rfl T.b_range (pa_cons (bf c_lenQ T.b_len (pa_cons (pv 0) pa_nil)) pa_nil)) (pg_name (i := 3) sc_law_words.nd rfl (Or.inl rfl))
      (pss_cons (ps_if (pt_cmpR op_eq (pe_op op_and (pe_op op_shr (pe_ix ix_tup (pv 1) pe_int (fun _ _ => rfl)) (pv 3)) pe_int) pe_int (nomark _))
        (pss_one (ps_expr (pe_bm PySem.F.plainAttrs_list PySem.F.slot_list_append PySem.F.type_list_append mt_append (pv 2) (pa_cons (pe_op o_addS (pe_ix ix_list (pv 0) (pv 3) (fun _ _ => rfl)) pe_str) pa_nil))))
        pss_nil)
      (pss_one (ps_if (pt_cmpR op_eq (pe_op op_and (pe_op op_shr (pe_ix ix_tup (pv 1) pe_int (fun _ _ => rfl)) (pv 3)) pe_int) pe_int (nomark _))
        (pss_one (ps_expr (pe_bm PySem.F.plainAttrs_list PySem.F.slot_list_append PySem.F.type_list_append mt_append (pv 2) (pa_cons (pe_op o_addS (pe_ix ix_list (pv 0) (pv 3) (fun _ _ => rfl)) pe_str) pa_nil))))
        pss_nil))))
    (pss_one (ps_ret (pe_ifExp (pt_cmpR (op_neD hr.units) (pv 2) (pe_lst pa_nil) (nomark _)) (p_join pe_str (pv 2)) pe_str))))), rd_law_words T h⟩)
theorem ok_law_text {P : Program} {w : World} {mg : Str → Option Value} {base : Heap} {a : Ax} (T : Top a mg) : Cal P w a.K mg base 2 "_law_text" (sp_law_text a) := cal_of T.d_law_text sc_law_text (fun _ _ _ _ _ _ us h => match us, h with | [_, _, _], _ => rfl) (fun vs H Q E h => by obtain ⟨_, _, _, _, _, _, e, _⟩ := h; rw [e] <;> rfl) (fun f cdv A outer s H vs Q E hr h => ⟨t_law_text a, (pss_cons (ps_set (i := 3) sc_law_text.nd rfl (Or.inl rfl) (pe_op o_addS (pe_op o_addS pe_str (p_join pe_str (pv 0))) pe_str))
    (pss_cons (ps_for PassesOwn.never rfl (pi_range1 rfl T.b_range (pa_cons (bf c_lenQ T.b_len (pa_cons (pv 2) pa_nil)) pa_nil)) (pg_name (i := 4) sc_law_text.nd rfl (Or.inl rfl))
      (pss_one (ps_set (i := 3) sc_law_text.nd rfl (Or.inl rfl) (pe_op o_addS (pe_op o_addS (pe_op o_addS (pe_op o_addS (pe_op o_addS (pv 3) pe_str) (pe_ix ix_list (pv 1) (pv 4) (fun _ _ => rfl))) pe_str) (pc (ok_law_words T) hr (pa_cons (pv 0) (pa_cons (pe_ix ix_list (pv 2) (pv 4) (fun _ _ => rfl)) pa_nil)))) pe_str))))
    (pss_one (ps_ret (pv 3))))), rd_law_text T h⟩)
theorem ok_law_line {P : Program} {w : World} {mg : Str → Option Value} {base : Heap} {a : Ax} (T : Top a mg) : Cal P w a.K mg base 6 "_law_line" (sp_law_line a) := cal_of T.d_law_line sc_law_line (fun _ _ _ _ _ _ us h => match us, h with | [_, _], _ => rfl) (fun vs H Q E h => by obtain ⟨_, _, _, _, e, _⟩ := h; rw [e] <;> rfl) (fun f cdv A outer s H vs Q E hr h => ⟨t_law_line a, (pss_cons (ps_setLc (i := 2) (own := [("_law_k", 3)]) (g := (gName 3)) rfl sc_law_line.nd rfl rfl (sw_true rfl rfl rfl (by decide +kernel)) (pi_list (pv 1)) (blkOk_by (own := [("_law_k", 3)]) (N := n_law_line) (sc := defScope s_law_line) (by decide +kernel)) (fun _ _ _ _ _ => (pg_name (i := 3) sc_law_line.nd rfl (Or.inl rfl))) (fun _ _ _ _ _ => pts_nil) (fun _ _ _ _ _ => (pe_ix ix_list (pv 0) (pv 3) (fun _ _ => rfl))))
    (pss_cons (ps_if (pt_cmpR op_eq (bf c_lenQ T.b_len (pa_cons (pv 2) pa_nil)) pe_int (nomark _))
      (pss_one (ps_ret (pmk (ok_order_init T) hr (pa_cons (pe_ix ix_list (pv 2) pe_int (fun _ _ => rfl)) pa_nil))))
      pss_nil)
    (pss_cons (ps_if (pt_cmpR op_eq (bf c_lenQ T.b_len (pa_cons (pv 2) pa_nil)) pe_int (nomark _))
      (pss_one (ps_ret (pmk (ok_order_init T) hr (pa_cons (pe_ix ix_list (pv 2) pe_int (fun _ _ => rfl)) (pa_cons (pe_ix ix_list (pv 2) pe_int (fun _ _ => rfl)) pa_nil)))))
      pss_nil)
    (pss_cons (ps_if (pt_cmpR op_eq (bf c_lenQ T.b_len (pa_cons (pv 2) pa_nil)) pe_int (nomark _))
      (pss_one (ps_ret (pmk (ok_order_init T) hr (pa_cons (pe_ix ix_list (pv 2) pe_int (fun _ _ => rfl)) (pa_cons (pe_ix ix_list (pv 2) pe_int (fun _ _ => rfl)) (pa_cons (pe_ix ix_list (pv 2) pe_int (fun _ _ => rfl)) pa_nil))))))
      pss_nil)
    (pss_cons (ps_if (pt_cmpR op_eq (bf c_lenQ T.b_len (pa_cons (pv 2) pa_nil)) pe_int (nomark _))
      (pss_one (ps_ret (pmk (ok_order_init T) hr (pa_cons (pe_ix ix_list (pv 2) pe_int (fun _ _ => rfl)) (pa_cons (pe_ix ix_list (pv 2) pe_int (fun _ _ => rfl)) (pa_cons (pe_ix ix_list (pv 2) pe_int (fun _ _ => rfl)) (pa_cons (pe_ix ix_list (pv 2) pe_int (fun _ _ => rfl)) pa_nil)))))))
      pss_nil)
    (pss_one (ps_ret (pst (ok_order_read T) hr (pa_cons (p_join pe_str (pv 2)) pa_nil))))))))), rd_law_line T h⟩)
theorem ok_law_tries {P : Program} {w : World} {mg : Str → Option Value} {base : Heap} {a : Ax} (T : Top a mg) : Cal P w a.K mg base 1 "_law_tries" (sp_law_tries a) := cal_of T.d_law_tries sc_law_tries (fun _ _ _ _ _ _ us h => match us, h with | [_], _ => rfl) (fun vs H Q E h => by obtain ⟨_, e, _⟩ := h; rw [e] <;> rfl) (fun f cdv A outer s H vs Q E hr h => ⟨t_law_tries a, (pss_cons (ps_set (i := 1) sc_law_tries.nd rfl (Or.inl rfl) (pe_lst (pa_cons (pe_tup pa_nil) pa_nil)))
    (pss_cons (ps_for PassesOwn.never rfl (pi_range1 rfl T.b_range (pa_cons (pv 0) pa_nil)) (pg_name (i := 2) sc_law_tries.nd rfl (Or.inl rfl))
      (pss_cons (ps_set (i := 3) sc_law_tries.nd rfl (Or.inl rfl) (pe_lst pa_nil))
      (pss_cons (ps_for PassesOwn.never rfl (pi_list (pv 1)) (pg_name (i := 4) sc_law_tries.nd rfl (Or.inl rfl))
        (pss_one (ps_for PassesOwn.never rfl (pi_range1 rfl T.b_range (pa_cons (pv 0) pa_nil)) (pg_name (i := 5) sc_law_tries.nd rfl (Or.inl rfl))
          (pss_one (ps_if (pt_cmpR op_notIn_seq (pv 5) (pv 4) rfl)
            (pss_one (ps_expr (pe_bm PySem.F.plainAttrs_list PySem.F.slot_list_append PySem.F.type_list_append mt_append (pv 3) (pa_cons (pe_op op_catA (pv 4) (pe_tup (pa_cons (pv 5) pa_nil))) pa_nil))))
            pss_nil)))))
      (pss_one (ps_set (i := 1) sc_law_tries.nd rfl (Or.inl rfl) (bt c_listQ T.b_list (pa_cons (pv 3) pa_nil)))))))
    (pss_one (ps_ret (pv 1))))), rd_law_tries T h⟩)
theorem ok_law_fitting {P : Program} {w : World} {mg : Str → Option Value} {base : Heap} {a : Ax} (T : Top a mg) : Cal P w a.K mg base 2 "_law_fitting" (sp_law_fitting a) := cal_of T.d_law_fitting sc_law_fitting (fun _ _ _ _ _ _ us h => match us, h with | [_, _], _ => rfl) (fun vs H Q E h => by obtain ⟨_, _, _, _, e, _⟩ := h; rw [e] <;> rfl) (fun f cdv A outer s H vs Q E hr h => ⟨t_law_fitting a, (pss_cons (ps_set (i := 2) sc_law_fitting.nd rfl (Or.inl rfl) (pv 0))
    (pss_cons (ps_for PassesOwn.never rfl (pi_list (pv 1)) (pg_name (i := 3) sc_law_fitting.nd rfl (Or.inr rfl))
      (pss_one (ps_setLc (i := 2) (own := [("_law_line_here", 4)]) (g := (gName 4)) rfl sc_law_fitting.nd rfl rfl (sw_true rfl rfl rfl (by decide +kernel)) (pi_list (pv 2)) (blkOk_by (own := [("_law_line_here", 4)]) (N := n_law_fitting) (sc := defScope s_law_fitting) (by decide +kernel)) (fun _ _ _ _ _ => (pg_name (i := 4) sc_law_fitting.nd rfl (Or.inl rfl))) (fun _ _ _ _ _ => (pts_one (pt_val (pc (ok_law_leads T) hr (pa_cons (pv 4) (pa_cons (pv 3) pa_nil)))))) (fun _ _ _ _ _ => (pv 4)))))
    (pss_one (ps_ret (pv 2))))), rd_law_fitting T h⟩)
theorem ok_law_same {P : Program} {w : World} {mg : Str → Option Value} {base : Heap} {a : Ax} (T : Top a mg) (n : Nat) : Cal P w a.K mg base n "_law_same" (sp_law_same a n) := by
  induction n with
  | zero =>
    obtain ⟨f, fd, F, hm⟩ := T.d_law_same.ex
    exact ⟨f, fd, ["_law_found", "_law_due"], ⟨fun vs H Q E h => h.elim, fun A outer s H args us vs Q E hr e0 b r h => h.elim⟩, hm, F.kp, F.bindsN (fun _ _ _ _ _ _ us h => match us, h with | [_, _], _ => rfl)⟩
  | succ n ih =>
    exact cal_of T.d_law_same sc_law_same (fun _ _ _ _ _ _ us h => match us, h with | [_, _], _ => rfl) (fun vs H Q E h => by obtain ⟨_, _, e, _⟩ := h; rw [e] <;> rfl) (fun f cdv A outer s H vs Q E hr h => ⟨t_law_same a n, (pss_cons (ps_if (PW.pt (pw_or (pt_cmpR o_isN (pv 1) pe_non (nomark _)) (pw_or1 (pt_cmpR o_isN (pv 0) pe_non (nomark _)))))
      (pss_one (ps_ret (pe_and (pe_cmpR o_isN (pv 1) pe_non (nomark _)) (pe_one (pe_cmpR o_isN (pv 0) pe_non (nomark _))))))
      pss_nil)
    (pss_cons (ps_if (pt_val (bf call_isiT T.b_isinstance (pa_cons (pv 1) (pa_cons (pe_tup (pa_cons (bty T.b_list) (pa_cons (bty T.b_tuple) pa_nil))) pa_nil))))
      (pss_cons (ps_if (PW.pt (pw_or (pt_not (pt_val (bf call_isiT T.b_isinstance (pa_cons (pv 0) (pa_cons (pe_tup (pa_cons (bty T.b_list) (pa_cons (bty T.b_tuple) pa_nil))) pa_nil))))) (pw_or1 (pt_cmpR op_ne (bf call_isi T.b_isinstance (pa_cons (pv 0) (pa_cons (bty T.b_list) pa_nil))) (bf call_isi T.b_isinstance (pa_cons (pv 1) (pa_cons (bty T.b_list) pa_nil))) (nomark _)))))
        (pss_one (ps_ret pe_bl))
        pss_nil)
      (pss_cons (ps_if (pt_cmpR op_ne (bf c_lenA T.b_len (pa_cons (pv 0) pa_nil)) (bf c_lenA T.b_len (pa_cons (pv 1) pa_nil)) (nomark _))
        (pss_one (ps_ret pe_bl))
        pss_nil)
      (pss_cons (ps_for PassesOwn.never rfl (pi_range1 rfl T.b_range (pa_cons (bf c_lenA T.b_len (pa_cons (pv 1) pa_nil)) pa_nil)) (pg_name (i := 2) sc_law_same.nd rfl (Or.inl rfl))
        (pss_one (ps_if (pt_not (pt_val (pc ih hr (pa_cons (pe_ix ix_seq (pv 0) (pv 2) (fun _ _ => rfl)) (pa_cons (pe_ix ix_seq (pv 1) (pv 2) (fun _ _ => rfl)) pa_nil)) (hk := Nat.le_refl _))))
          (pss_one (ps_ret pe_bl))
          pss_nil)))
      (pss_one (ps_ret pe_bl)))))
      pss_nil)
    (pss_cons (ps_if (PW.pt (pw_or (pt_val (bf call_isiT T.b_isinstance (pa_cons (pv 0) (pa_cons (pe_tup (pa_cons (bty T.b_list) (pa_cons (bty T.b_tuple) pa_nil))) pa_nil)))) (pw_or1 (pt_cmpR op_ne (bf call_isi T.b_isinstance (pa_cons (pv 1) (pa_cons (bty T.b_bool) pa_nil))) (bf call_isi T.b_isinstance (pa_cons (pv 0) (pa_cons (bty T.b_bool) pa_nil))) (nomark _)))))
      (pss_one (ps_ret pe_bl))
      pss_nil)
    (pss_cons (ps_if (PW.pt (pw_or (pt_cmpR op_ne (bf call_isi T.b_isinstance (pa_cons (pv 1) (pa_cons (bty T.b_int) pa_nil))) (bf call_isi T.b_isinstance (pa_cons (pv 0) (pa_cons (bty T.b_int) pa_nil))) (nomark _)) (pw_or1 (pt_cmpR op_ne (bf call_isi T.b_isinstance (pa_cons (pv 1) (pa_cons (bty T.b_str) pa_nil))) (bf call_isi T.b_isinstance (pa_cons (pv 0) (pa_cons (bty T.b_str) pa_nil))) (nomark _)))))
      (pss_one (ps_ret pe_bl))
      pss_nil)
    (pss_one (ps_ret (pe_cmpR op_eq (pv 0) (pv 1) (nomark _)))))))), rd_law_same T n h⟩)
theorem ok_law_line_so {P : Program} {w : World} {mg : Str → Option Value} {base : Heap} {a : Ax} (T : Top a mg) : Cal P w a.K mg base 7 "_law_line_so" (sp_law_line_so a) := cal_of T.d_law_line_so sc_law_line_so (fun _ _ _ _ _ _ us h => match us, h with | [_, _, _, _, _], _ => rfl) (fun vs H Q E h => by obtain ⟨_, _, _, _, _, _, _, _, _, e, _⟩ := h; rw [e] <;> rfl) (fun f cdv A outer s H vs Q E hr h => ⟨t_law_line_so a, (pss_cons (ps_set (i := 5) sc_law_line_so.nd rfl (Or.inl rfl) (pc (ok_law_line T) hr (pa_cons (pv 1) (pa_cons (pv 4) pa_nil))))
    (pss_cons (ps_set (i := 6) sc_law_line_so.nd rfl (Or.inl rfl) (bt c_tupQ T.b_tuple (pa_cons (pe_lc (own := [("_law_k", 7)]) (g := (gName 7)) rfl sc_law_line_so.nd (pi_range1 rfl T.b_range (pa_cons (bf c_lenQ T.b_len (pa_cons (pv 3) pa_nil)) pa_nil)) (blkOk_by (own := [("_law_k", 7)]) (N := n_law_line_so) (sc := defScope s_law_line_so) (by decide +kernel)) (fun _ _ _ _ _ => (pg_name (i := 7) sc_law_line_so.nd rfl (Or.inl rfl))) (fun _ _ _ _ _ => (pts_one (pt_not (pt_val (pc (ok_law_leads T) hr (pa_cons (pv 4) (pa_cons (pe_ix ix_list (pv 3) (pv 7) (fun _ _ => rfl)) pa_nil))))))) (fun _ _ _ _ _ => (pe_ix ix_list (pv 2) (pv 7) (fun _ _ => rfl)))) pa_nil)))
    (pss_one (ps_ret (pc (ok_law_same T 3) hr (pa_cons (pe_lst (pa_cons (pc (ok_fits T) hr (pa_cons (pv 0) (pa_cons (pv 5) pa_nil))) (pa_cons (pc (ok_unborne T) hr (pa_cons (pv 0) (pa_cons (pv 5) pa_nil))) (pa_cons (pc (ok_fits T) hr (pa_cons (pv 0) (pa_cons (pv 5) pa_nil))) pa_nil)))) (pa_cons (pe_lst (pa_cons (pe_cmpR (op_eqD hr.units) (pv 6) (pe_tup pa_nil) (nomark _)) (pa_cons (pv 6) (pa_cons (pe_cmpR (op_eqD hr.units) (pv 6) (pe_tup pa_nil) (nomark _)) pa_nil)))) pa_nil))))))), rd_law_line_so T h⟩)
theorem ok_law_built {P : Program} {w : World} {mg : Str → Option Value} {base : Heap} {a : Ax} (T : Top a mg) : Cal P w a.K mg base 10 "_law_built" (sp_law_built a) := cal_of T.d_law_built sc_law_built (fun _ _ _ _ _ _ us h => match us, h with | [_, _, _, _], _ => rfl) (fun vs H Q E h => by obtain ⟨_, _, _, _, _, _, _, _, _, e, _⟩ := h; rw [e] <;> rfl) (fun f cdv A outer s H vs Q E hr h => ⟨t_law_built a, (pss_cons (ps_if (PW.pt (pw_and (pt_cmpR op_lt (bf c_lenQ T.b_len (pa_cons (pv 3) pa_nil)) pe_int (nomark _)) (pw_and1 (pt_cmpR op_gt (pc (ok_law_take T) hr (pa_cons (pv 0) (pa_cons pe_int pa_nil))) pe_int (nomark _)))))
      (pss_one (ps_ret (pc (ok_law_page T) hr (pa_cons (pv 0) (pa_cons (pv 1) (pa_cons (pv 2) (pa_cons (pv 3) pa_nil)))))))
      pss_nil)
    (pss_one (ps_ret (pst (ok_book_read T) hr (pa_cons (pc (ok_law_text T) hr (pa_cons (bf cr_sortedS T.b_sorted (pa_cons (pv 1) pa_nil)) (pa_cons (pv 2) (pa_cons (pv 3) pa_nil)))) pa_nil))))), rd_law_built T h⟩)
theorem ok_law_wide_so {P : Program} {w : World} {mg : Str → Option Value} {base : Heap} {a : Ax} (T : Top a mg) : Cal P w a.K mg base 8 "_law_wide_so" (sp_law_wide_so a) := cal_of T.d_law_wide_so sc_law_wide_so (fun _ _ _ _ _ _ us h => match us, h with | [_, _, _, _, _, _], _ => rfl) (fun vs H Q E h => by obtain ⟨_, _, _, _, _, _, _, _, _, _, _, _, e, _⟩ := h; rw [e] <;> rfl) (fun f cdv A outer s H vs Q E hr h => ⟨t_law_wide_so a, (pss_cons (ps_set (i := 6) sc_law_wide_so.nd rfl (Or.inr rfl) (pc (ok_law_drawn T) hr (pa_cons (pv 0) (pa_cons (bf c_lenQ T.b_len (pa_cons (pv 2) pa_nil)) (pa_cons (pe_op op_sub pe_int (bf c_lenQ T.b_len (pa_cons (pv 4) pa_nil))) (pa_cons (pe_op op_sub pe_int (bf c_lenQ T.b_len (pa_cons (pv 4) pa_nil))) (pa_cons (pe_lst pa_nil) pa_nil)))))))
    (pss_cons (ps_set (i := 7) sc_law_wide_so.nd rfl (Or.inr rfl) (pmt (ok_book_grown T) hr (pv 1) (pa_cons (pe_lc (own := [("_law_pair", 10)]) (g := (gName 10)) rfl sc_law_wide_so.nd (pi_list (pv 6)) (blkOk_by (own := [("_law_pair", 10)]) (N := n_law_wide_so) (sc := defScope s_law_wide_so) (by decide +kernel)) (fun _ _ _ _ _ => (pg_name (i := 10) sc_law_wide_so.nd rfl (Or.inl rfl))) (fun _ _ _ _ _ => pts_nil) (fun _ _ _ _ _ => (pc (ok_law_row T) hr (pa_cons (pv 0) (pa_cons (pv 2) (pa_cons (pv 10) pa_nil)))))) pa_nil)))
    (pss_cons (ps_set (i := 8) sc_law_wide_so.nd rfl (Or.inr rfl) (pe_op op_cat (pe_slice sl_list (pv 3) po_none (po_some (bf c_lenQ T.b_len (pa_cons (pv 4) pa_nil)))) (pc (ok_law_fresh T) hr (pa_cons (pe_slice sl_list (pv 3) po_none (po_some (bf c_lenQ T.b_len (pa_cons (pv 4) pa_nil)))) (pa_cons (bf c_lenQ T.b_len (pa_cons (pv 6) pa_nil)) pa_nil)))))
    (pss_cons (ps_set (i := 9) sc_law_wide_so.nd rfl (Or.inl rfl) (pc (ok_law_mixed T) hr (pa_cons (pv 0) (pa_cons (pv 5) pa_nil))))
    (pss_one (ps_ret (bf (cr_all rfl) T.b_all (pa_cons (pe_lc (own := [("_law_some", 11)]) (g := (gName 11)) rfl sc_law_wide_so.nd (pi_tup (pe_tup (pa_cons (pv 5) (pa_cons (pv 9) pa_nil)))) (blkOk_by (own := [("_law_some", 11)]) (N := n_law_wide_so) (sc := defScope s_law_wide_so) (by decide +kernel)) (fun _ _ _ _ _ => (pg_name (i := 11) sc_law_wide_so.nd rfl (Or.inl rfl))) (fun _ _ _ _ _ => pts_nil) (fun _ _ _ _ _ => (pc (ok_law_line_so T) hr (pa_cons (pv 7) (pa_cons (pv 2) (pa_cons (pv 8) (pa_cons (pe_op op_cat (pv 4) (pv 6)) (pa_cons (pv 11) pa_nil)))))))) pa_nil)))))))), rd_law_wide_so T h⟩)
end Fd
set_option Elab.async false
set_option linter.all false
set_option maxRecDepth 100000
set_option maxHeartbeats 4000000
/-! ### FdLawT: the readings of law (printed by mklaw.py) -/
namespace Fd
open PySem PySem.Spec PyProof.Rows L2 SX
abbrev s_law : Stmt := top 89
abbrev n_law : List Str := ["_law_script", "_law_bag_here", "_law_turn", "_law_many", "_law_most", "_law_pool", "_law_names_z", "_law_signs_here", "_law_line_here", "_law_pairs", "_law_page_here", "_law_kept", "_law_told", "_law_k", "_law_late", "_law_turned", "_law_other_z", "_law_flags", "_law_bent", "_law_due", "_law_pair"]
theorem sc_law : FnScope n_law ["_law_script"] (defScope s_law) := C8.fnScope_by (by decide +kernel)
def t_law_d (a : Ax) : TS :=
  (C8.tCut (tIfS (tAnd (tTest (tOp rLtI (tVar 3) (tC (.int 6)))) (tNot (tB (tCall (sp_law_same a 3) [] L2.E0 (tCons (tCall (sp_stands a) [] L2.E0 (tCons (tVar 16) tNil)) (tCons (tOp (rNeD a.K) (tCall (sp_law_fitting a) [] L2.E0 (tCons (tCall (sp_law_tries a) [] L2.E0 (tCons (tVar 3) tNil)) (tCons (tVar 18) tNil))) (tLst tNil)) tNil))))))
        (tRet (tC (.bl false)))
        tNext)
      (tSeq (tIfS (tNot (tB (tCall (sp_law_others_so a) [] L2.E0 (tCons (tVar 1) (tCons (tVar 16) (tCons (tVar 6) tNil))))))
        (tRet (tC (.bl false)))
        tNext)
      (C8.tCut (tIfS (tAnd (tTest (tOp rEq (tCall (sp_law_take a) [] L2.E0 (tCons (tVar 1) (tCons (tC (.int 6)) tNil))) (tC (.int 0)))) (tNot (tB (tCall (sp_law_wide_so a) [] L2.E0 (tCons (tVar 1) (tCons (tVar 10) (tCons (tVar 6) (tCons (tVar 7) (tCons (tVar 9) (tCons (tVar 8) tNil))))))))))
        (tRet (tC (.bl false)))
        tNext)
      (tIfS (tNot (tB (tCall (sp_law_same a 3) [] L2.E0 (tCons (tLst (tCons (tMeth a.B "text" (sp_book_text a) [] L2.E0 (tVar 10) tNil) (tCons (tCall (sp_unborne a) [] L2.E0 (tCons (tVar 10) (tCons (tVar 12) tNil))) tNil))) (tCons (tLst (tCons (tVar 11) (tCons (tTup tNil) tNil))) tNil)))))
        (tRet (tC (.bl false)))
        tNext))))
def t_law_c (a : Ax) : TS :=
  (tSeq (tAsg (tLc (iRng1 (tCons (tCB (rLenQ a.K) (tCons (tVar 9) tNil)) tNil)) (gName 13) tYes (tOp rEq (tCall (sp_law_take a) [] L2.E0 (tCons (tVar 1) (tCons (tC (.int 3)) tNil))) (tC (.int 0))) [13]) (gName 17))
      (tSeq (tAsg (tLc (iRng1 (tCons (tCB (rLenQ a.K) (tCons (tVar 9) tNil)) tNil)) (gName 13) tYes (tIf (tB (tOp (rIxL a.K) (tVar 17) (tVar 13))) (tTup (tCons (tOp (rIxT a.K) (tOp (rIxL a.K) (tVar 9) (tVar 13)) (tC (.int 1))) (tCons (tOp (rIxT a.K) (tOp (rIxL a.K) (tVar 9) (tVar 13)) (tC (.int 0))) tNil))) (tOp (rIxL a.K) (tVar 9) (tVar 13))) [13]) (gName 18))
      (tSeq (tAsg (tCall (sp_law_built a) [] L2.E0 (tCons (tVar 1) (tCons (tVar 5) (tCons (tVar 7) (tCons (tVar 18) tNil))))) (gName 16))
      (tSeq (tAsg (tCB (rTupQ a.K) (tCons (tLc (iRng1 (tCons (tCB (rLenQ a.K) (tCons (tVar 9) tNil)) tNil)) (gName 13) (tAnd (tB (tOp (rIxL a.K) (tVar 17) (tVar 13))) (tTest (tOp (rNeD a.K) (tOp (rIxL a.K) (tVar 9) (tVar 13)) (tTup (tCons (tC (.int 0)) (tCons (tC (.int 0)) tNil)))))) (tOp (rIxL a.K) (tVar 7) (tVar 13)) [13]) tNil)) (gName 19))
      (tSeq (tIfS (tNot (tB (tCall (sp_law_same a 3) [] L2.E0 (tCons (tLst (tCons (tCall (sp_unborne a) [] L2.E0 (tCons (tVar 16) (tCons (tVar 12) tNil))) (tCons (tCall (sp_fits a) [] L2.E0 (tCons (tVar 16) (tCons (tVar 12) tNil))) tNil))) (tCons (tLst (tCons (tVar 19) (tCons (tOp (rEqD a.K) (tVar 19) (tTup tNil)) tNil))) tNil)))))
        (tRet (tC (.bl false)))
        tNext)
      (t_law_d a))))))
def t_law_b (a : Ax) : TS :=
  (tSeq (tIfS (tNot (tB (tCall (sp_law_same a 3) [] L2.E0 (tCons (tLst (tCons (tCall (sp_stands a) [] L2.E0 (tCons (tVar 10) tNil)) (tCons (tCall (sp_fits a) [] L2.E0 (tCons (tVar 10) (tCons (tVar 12) tNil))) (tCons (tCall (sp_unborne a) [] L2.E0 (tCons (tVar 10) (tCons (tVar 12) tNil))) tNil)))) (tCons (tLst (tCons (tC (.bl true)) (tCons (tC (.bl true)) (tCons (tTup tNil) tNil)))) tNil)))))
        (tRet (tC (.bl false)))
        tNext)
      (tSeq (tFor (iRng1 (tCons (tC (.int 3)) tNil)) (gName 13)
        (tIfS (tNot (tB (tCall (sp_law_line_so a) [] L2.E0 (tCons (tVar 10) (tCons (tVar 6) (tCons (tVar 7) (tCons (tVar 9) (tCons (tCall (sp_law_mixed a) [] L2.E0 (tCons (tVar 1) (tCons (tVar 8) tNil))) tNil))))))))
          (tRet (tC (.bl false)))
          tNext))
      (tSeq (tAsg (tCall (sp_law_mixed a) [] L2.E0 (tCons (tVar 1) (tCons (tVar 8) tNil))) (gName 14))
      (tSeq (tAsg (tLc (iList a.K (tVar 9)) (gName 20) tYes (tIf (tB (tCall (sp_law_leads a) [] L2.E0 (tCons (tVar 14) (tCons (tVar 20) tNil)))) (tVar 20) (tTup (tCons (tOp (rIxT a.K) (tVar 20) (tC (.int 1))) (tCons (tOp (rIxT a.K) (tVar 20) (tC (.int 0))) tNil)))) [20]) (gName 15))
      (tSeq (tAsg (tCall (sp_law_built a) [] L2.E0 (tCons (tVar 1) (tCons (tVar 5) (tCons (tVar 7) (tCons (tVar 15) tNil))))) (gName 16))
      (tSeq (tIfS (tNot (tB (tCall (sp_law_same a 3) [] L2.E0 (tCons (tCall (sp_fits a) [] L2.E0 (tCons (tVar 16) (tCons (tCall (sp_law_line a) [] L2.E0 (tCons (tVar 6) (tCons (tVar 14) tNil))) tNil))) (tCons (tC (.bl true)) tNil)))))
        (tRet (tC (.bl false)))
        tNext)
      (tSeq (tIfS (tOr (tNot (tB (tCall (sp_law_same a 3) [] L2.E0 (tCons (tCall (sp_stands a) [] L2.E0 (tCons (tVar 16) tNil)) (tCons (tC (.bl true)) tNil))))) (tNot (tB (tCall (sp_law_line_so a) [] L2.E0 (tCons (tVar 16) (tCons (tVar 6) (tCons (tVar 7) (tCons (tVar 15) (tCons (tVar 8) tNil)))))))))
        (tRet (tC (.bl false)))
        tNext)
      (t_law_c a))))))))
def t_law (a : Ax) : TS :=
  (tSeq (tAsg (tCall (sp_law_bag a) [] L2.E0 (tCons (tVar 0) tNil)) (gName 1))
    (tSeq (tFor (iRng1 (tCons (tC (.int 2)) tNil)) (gName 2)
      (tSeq (tPar 3 4 (tCons (tCall (sp_law_pick a) [] L2.E0 (tCons (tVar 1) (tCons (tLst (tCons (tC (.int 3)) (tCons (tC (.int 4)) (tCons (tC (.int 5)) (tCons (tC (.int 2)) (tCons (tC (.int 6)) (tCons (tC (.int 3)) (tCons (tC (.int 7)) (tCons (tC (.int 4)) (tCons (tC (.int 1)) tNil)))))))))) tNil))) (tCons (tCall (sp_law_pick a) [] L2.E0 (tCons (tVar 1) (tCons (tLst (tCons (tC (.int 7)) (tCons (tC (.int 5)) (tCons (tC (.int 7)) (tCons (tC (.int 3)) (tCons (tC (.int 7)) (tCons (tC (.int 7)) (tCons (tC (.int 40)) tNil)))))))) tNil))) tNil)))
      (tSeq (tAsg (tCall (sp_law_names a) [] L2.E0 (tCons (tVar 1) (tCons (tVar 3) tNil))) (gName 5))
      (tSeq (tAsg (tTup (tCons (tCB (rSortedS a.K) (tCons (tVar 5) tNil)) (tCons (tCall (sp_law_marks a) [] L2.E0 (tCons (tVar 1) (tCons (tVar 5) (tCons (tC (.int 40)) tNil)))) tNil))) (gTup a.K 2 (gCons (gName 6) (gCons (gName 7) gNil))))
      (tSeq (tAsg (tCall (sp_law_mixed a) [] L2.E0 (tCons (tVar 1) (tCons (tLc (iRng1 (tCons (tVar 3) tNil)) (gName 13) tYes (tVar 13) [13]) tNil))) (gName 8))
      (tSeq (tAsg (tCall (sp_law_drawn a) [] L2.E0 (tCons (tVar 1) (tCons (tVar 3) (tCons (tC (.int 0)) (tCons (tVar 4) (tCons (tVar 8) tNil)))))) (gName 9))
      (tSeq (tAsg (tCall (sp_law_built a) [] L2.E0 (tCons (tVar 1) (tCons (tVar 5) (tCons (tVar 7) (tCons (tVar 9) tNil))))) (gName 10))
      (tSeq (tPar 11 12 (tCons (tMeth a.B "text" (sp_book_text a) [] L2.E0 (tVar 10) tNil) (tCons (tCall (sp_law_line a) [] L2.E0 (tCons (tVar 6) (tCons (tVar 8) tNil))) tNil)))
      (t_law_b a)))))))))
    (tRet (tC (.bl true)))))
end Fd
set_option Elab.async false
set_option linter.all false
set_option maxRecDepth 100000
set_option maxHeartbeats 4000000
/-! ### FdLawD: what stands between the parts of law; its last part -/
namespace Fd
open PySem PySem.Spec PyProof.Rows L2 SX
/-- what a turn of law has drawn -/
structure LC (a : Ax) (b h : Addr) (ns : List Int) (p z s i l : Addr) (x0 ms : List Str) (ks : List Nat) (ps : List Pr) (H : Hp) : Prop where
  B : Bag b h ns H
  tb : LamX.Tabs a.tb H
  hp : LS H p x0
  nx : NmL x0
  l1 : 1 ≤ x0.length
  l7 : x0.length ≤ 7
  hz : LS H z (isort x0)
  hs : LS H s ms
  nm : NmL ms
  m40 : ms.length = 40
  hi : LI H i ks
  pk : ks.Perm (List.range x0.length)
  hl : PrL H l ps
  vp : ∀ q ∈ ps, PrV x0.length q
  led : ∀ q ∈ ps, leadsP ks q = true
  l40 : ps.length ≤ 40
section
variable {a : Ax} {b h : Addr} {ns : List Int} {p z s i l : Addr} {x0 ms : List Str} {ks : List Nat} {ps : List Pr} {H H' : Hp}
theorem LC.k (c : LC a b h ns p z s i l x0 ms ks ps H) (e : Keep H H') (B : Bag b h ns H') : LC a b h ns p z s i l x0 ms ks ps H' :=
  { c with B := B, tb := tabs_keep e c.tb, hp := LS.k' c.hp e, hz := LS.k' c.hz e, hs := LS.k' c.hs e, hi := LI.k c.hi e, hl := PrL.k c.hl e }
theorem LC.e (c : LC a b h ns p z s i l x0 ms ks ps H) (e : Same H H') : LC a b h ns p z s i l x0 ms ks ps H' := c.k (Keep.of e) (c.B.same e)
theorem LC.n (c : LC a b h ns p z s i l x0 ms ks ps H) (e : KeepN H H') (B : Bag b h ns H') (t : LamX.Tabs a.tb H') : LC a b h ns p z s i l x0 ms ks ps H' :=
  { c with B := B, tb := t, hp := LS.n c.hp e, hz := LS.n c.hz e, hs := LS.n c.hs e, hi := LI.n c.hi e, hl := PrL.n c.hl e }
theorem LC.sx (c : LC a b h ns p z s i l x0 ms ks ps H) : Srt (isort x0) := isort_srt c.nx.nd
theorem LC.nz (c : LC a b h ns p z s i l x0 ms ks ps H) : NmL (isort x0) := isort_nm c.nx
theorem LC.pz (c : LC a b h ns p z s i l x0 ms ks ps H) : ks.Perm (List.range (isort x0).length) := by rw [isort_len]; exact c.pk
theorem LC.vz (c : LC a b h ns p z s i l x0 ms ks ps H) : ∀ q ∈ ps, PrV (isort x0).length q := by rw [isort_len]; exact c.vp
theorem LC.iso (c : LC a b h ns p z s i l x0 ms ks ps H) : isort (lineNames (isort x0) ks) = isort x0 := line_isort c.sx c.pz
theorem LC.kl (c : LC a b h ns p z s i l x0 ms ks ps H) : ks.length = x0.length := by rw [c.pk.length_eq, List.length_range]
end
theorem BookAt.k {a : Ax} {H H' : Hp} {b : Addr} {xs : List Str} {recs : List Rec} (h : BookAt a H b xs recs) (e : Keep H H') : BookAt a H' b xs recs := h.t e.t
theorem OrdAt.k {a : Ax} {H H' : Hp} {o : Addr} {xs : List Str} (h : OrdAt a H o xs) (e : Keep H H') : OrdAt a H' o xs := h.n e.n
theorem nats_perm {ys : List V} {ks : List Nat} (pL : ys.Perm (ks.map fun k => V.int (k : Nat))) : ∃ qs : List Nat, ys = qs.map (fun k => V.int (k : Nat)) ∧ qs.Perm ks := by
  refine ⟨ys.map fun v => match v with | .int z => z.toNat | _ => 0, ?_, ?_⟩
  · rw [List.map_map]
    have : ∀ v ∈ ys, ((fun k : Nat => V.int (k : Nat)) ∘ fun v => match v with | .int z => z.toNat | _ => 0) v = v := fun v hv => by
      obtain ⟨z, _, e⟩ := List.mem_map.mp (pL.subset hv)
      rw [← e] <;> rfl
    rw [List.map_congr_left this, List.map_id']
  · have := pL.map (fun v => match v with | V.int z => z.toNat | _ => 0)
    rw [List.map_map] at this
    have e : ks.map ((fun v => match v with | V.int z => z.toNat | _ => 0) ∘ fun k : Nat => V.int (k : Nat)) = ks := by
      rw [show ((fun v => match v with | V.int z => z.toNat | _ => 0) ∘ fun k : Nat => V.int (k : Nat)) = id from rfl, List.map_id]
    rw [e] at this
    exact this
theorem dp_ints {K : KF} {H : Hp} : ∀ l : List Nat, DpAll K H (l.map fun k => V.int (k : Nat)) (l.map fun k => PyData.int (k : Nat))
  | [] => .nil
  | _ :: l => .cons (.int _) (dp_ints l)
theorem dp_lns {K : KF} {H : Hp} : ∀ {ts : List Addr} {ls : List (List Nat)}, All2 (LnAt H) ts ls → DpAll K H (ts.map V.ref) (ls.map fun l => PyData.tuple (l.map fun k => PyData.int (k : Nat)))
  | [], [], _ => .nil
  | [], _ :: _, h => h.elim
  | _ :: _, [], h => h.elim
  | _ :: _, l :: _, h => .cons (.tup (.inl (.inl h.1)) (dp_ints l)) (dp_lns h.2)
theorem lay_ints : ∀ l : List Nat, PyData.canLayAll0 (l.map fun k => PyData.int (k : Nat)) = true
  | [] => by simp [PyData.canLayAll0]
  | k :: l => by
    rw [List.map_cons, PyData.canLayAll0, lay_ints l]
    simp [PyData.canLay0]
theorem lay_lns : ∀ ls : List (List Nat), PyData.canLayAll0 (ls.map fun l => PyData.tuple (l.map fun k => PyData.int (k : Nat))) = true
  | [] => by simp [PyData.canLayAll0]
  | l :: ls => by
    rw [List.map_cons, PyData.canLayAll0, lay_lns ls]
    simp [PyData.canLay0, lay_ints]
theorem depth_ints : ∀ l : List Nat, PyData.depthAll (l.map fun k => PyData.int (k : Nat)) = 0
  | [] => by simp [PyData.depthAll]
  | k :: l => by
    rw [List.map_cons, PyData.depthAll, depth_ints l]
    simp [PyData.depth]
theorem depth_lns : ∀ ls : List (List Nat), PyData.depthAll (ls.map fun l => PyData.tuple (l.map fun k => PyData.int (k : Nat))) ≤ 1
  | [] => by simp [PyData.depthAll]
  | l :: ls => by
    have ih := depth_lns ls
    have := depth_ints l
    rw [List.map_cons, PyData.depthAll]
    simp only [PyData.depth]
    omega
theorem ne_lns {K : KF} {H : Hp} {f e : Addr} {ls : List (List Nat)} {Q : VK} (h : ObjL (LnAt H) H f ls) (he : H e = some (.lst [])) (q : Q (.bl (!decide (ls = []))) H) : rNeD K (.ref f) (.ref e) H Q := by
  obtain ⟨ts, h1, h2⟩ := h
  refine ⟨_, .list [], .lst (.inl (.inl h1)) (dp_lns h2), .lst (.inl (.inl he)) .nil, ?_, by decide +kernel, ?_⟩
  · unfold SeqAt.shaped
    rw [PyData.canLay0, PyData.depth, lay_lns, decide_eq_true (by have := depth_lns ls; omega)] <;> rfl
  · have : PyData.eqv (.list (ls.map fun l => PyData.tuple (l.map fun k => PyData.int (k : Nat)))) (.list []) = decide (ls = []) := by
      cases ls with
      | nil => simp [PyData.eqv, PyData.eqvAll]
      | cons p ps => simp [PyData.eqv, PyData.eqvAll]
    rw [this]
    exact q
theorem lns_e {H H' : Hp} {l : Addr} {ls : List (List Nat)} (h : ObjL (LnAt H) H l ls) (e : Same H H') : ObjL (LnAt H') H' l ls := by
  obtain ⟨ts, h1, h2⟩ := h
  exact ⟨ts, e _ _ h1, h2.mono fun _ _ k => k.t (Same.t e)⟩
theorem sm_bl {H : Hp} {n : Nat} (b : Bool) : Sm H n (.bl b) (.bl b) := by
  cases n with
  | zero => exact ⟨rfl, .inr (.inl ⟨_, rfl⟩)⟩
  | succ n => exact .inl ⟨rfl, .inr (.inl ⟨_, rfl⟩)⟩
theorem sm_str {H : Hp} {n : Nat} (z : Str) : Sm H n (.str z) (.str z) := by
  cases n with
  | zero => exact ⟨rfl, .inr (.inr ⟨_, rfl⟩)⟩
  | succ n => exact .inl ⟨rfl, .inr (.inr ⟨_, rfl⟩)⟩
theorem sm_lst {H : Hp} {n : Nat} {p q : Addr} {xs ys : List V} (h1 : H p = some (.lst xs)) (h2 : H q = some (.lst ys)) (l : xs.length ≤ 1000) (h : All2 (Sm H n) xs ys) : Sm H (n + 1) (.ref p) (.ref q) := .inr ⟨p, q, xs, ys, rfl, rfl, .inl ⟨h1, h2⟩, l, h⟩
theorem sm_tup {H : Hp} {n : Nat} {p q : Addr} {xs ys : List V} (h1 : H p = some (.tup xs)) (h2 : H q = some (.tup ys)) (l : xs.length ≤ 1000) (h : All2 (Sm H n) xs ys) : Sm H (n + 1) (.ref p) (.ref q) := .inr ⟨p, q, xs, ys, rfl, rfl, .inr ⟨h1, h2⟩, l, h⟩
theorem sm_strs {H : Hp} {n : Nat} : ∀ zs : List Str, All2 (Sm H n) (zs.map V.str) (zs.map V.str)
  | [] => trivial
  | z :: zs => ⟨sm_str z, sm_strs zs⟩
/-- the slots between the turns -/
def St0 (s0 b : Addr) (σ : L2.St) : Prop := ∃ u2 u3 u4 u5 u6 u7 u8 u9 u10 u11 u12 u13 u14 u15 u16 u17 u18 u19 u20 : Option V, σ = [some (.ref s0), some (.ref b), u2, u3, u4, u5, u6, u7, u8, u9, u10, u11, u12, u13, u14, u15, u16, u17, u18, u19, u20]
section
local macro_rules | `(tactic| walk_at "sm") => `(tactic| first | exact Same.refl _ | assumption | (refine Same.new ?_ ‹_›; walk_at "sm") | (refine Same.trans ?_ ‹Same _ _›; walk_at "sm"))
local macro_rules | `(tactic| walk_at "s1") => `(tactic| first
  | with_reducible refine g_seq ?_ | with_reducible refine g_asg ?_ | with_reducible refine g_name ?_ | with_reducible refine g_cons ?_ | with_reducible refine g_nil ?_
  | ((with_reducible refine k_var ?_); refine ⟨_, rfl, ?_⟩) | with_reducible refine g_c ?_ | with_reducible refine g_op ?_ | with_reducible refine g_un ?_
  | with_reducible refine g_cb ?_ | with_reducible refine g_call ?_ | with_reducible refine g_ifS ?_ | with_reducible refine g_if ?_ | with_reducible refine g_tB ?_ | with_reducible refine g_test ?_
  | with_reducible refine k_bl ?_ | with_reducible refine k_iteT ?_ | with_reducible refine k_iteF ?_ | with_reducible refine k_iteNT ?_ | with_reducible refine k_iteNF ?_
  | with_reducible refine g_and ?_ | with_reducible refine g_or ?_ | with_reducible refine g_not ?_ | with_reducible refine g_andV ?_ | with_reducible refine g_orV ?_ | with_reducible refine g_notV ?_ | with_reducible refine g_yes ?_)
local macro_rules | `(tactic| walk_at "s2") => `(tactic| first
  | with_reducible refine g_ret ?_ | with_reducible refine g_drop ?_ | with_reducible refine g_next ?_ | with_reducible refine k_retN ?_
  | ((with_reducible refine k_I0 ?_); refine ⟨_, _, rfl, rfl, ?_⟩) | ((with_reducible refine k_U ?_); refine ⟨_, rfl, ?_⟩) | ((with_reducible refine k_eq ?_); refine ⟨rfl, ?_⟩) | ((with_reducible refine k_ne ?_); refine ⟨rfl, ?_⟩)
  | ((with_reducible refine k_isN ?_); refine ⟨rfl, ?_⟩) | ((with_reducible refine k_notN ?_); refine ⟨rfl, ?_⟩) | with_reducible refine k_chain ?_ | with_reducible refine k_fld ?_ | with_reducible refine k_sfld ?_
  | with_reducible refine k_tup ?_ | with_reducible refine k_lst ?_ | with_reducible refine k_meth ?_ | with_reducible refine k_bm ?_ | with_reducible refine k_bm0 ?_ | with_reducible refine k_m1 ?_ | with_reducible refine k_fmt ?_ | with_reducible refine k_joined ?_
  | with_reducible refine k_js0 ?_ | with_reducible refine k_js1 ?_ | with_reducible refine k_mkR ?_ | with_reducible refine k_sl ?_ | with_reducible refine k_part ?_ | with_reducible refine k_nopart ?_ | with_reducible refine k_gtup ?_
  | ((with_reducible refine k_aug ?_); refine ⟨_, rfl, ?_⟩) | ((with_reducible refine k_ipI ?_); refine ⟨_, _, rfl, rfl, ?_⟩) | with_reducible refine k_par ?_ | with_reducible refine k_din ?_ | with_reducible refine k_dnin ?_ | with_reducible refine k_dput ?_
  | with_reducible refine g_gcons ?_ | with_reducible refine g_gnil ?_ | with_reducible refine k_cval ?_ | with_reducible refine k_dnew ?_ | with_reducible refine k_isS ?_ | with_reducible refine k_int ?_ | with_reducible refine k_lcL ?_ | with_reducible refine k_lcT ?_ | with_reducible refine k_lcQ ?_ | with_reducible refine k_lcS ?_ | with_reducible refine k_lcR ?_ | with_reducible refine k_forL ?_ | with_reducible refine k_forT ?_ | with_reducible refine k_forQ ?_ | with_reducible refine k_forS ?_ | with_reducible refine k_forR ?_ | with_reducible refine k_forE ?_ | with_reducible refine k_forET ?_ | with_reducible refine k_forI ?_ | with_reducible refine k_star ?_ | with_reducible refine k_dcL ?_ | with_reducible refine k_listItems ?_ | with_reducible refine k_dget ?_ | ((with_reducible refine k_wipe ?_ ?_); exact rfl))
local macro_rules | `(tactic| walk_at "go") => `(tactic| repeat (first | walk_at "s1" | walk_at "s2"))
variable {a : Ax} {mg : Str → Option Value} (T : Top a mg)
include T
theorem rd_law_d {D : L2.Ends} {b h s0 : Addr} {ns : List Int} {p z s i l g g2 o l2 : Addr} {x0 ms : List Str} {ks : List Nat} {ps p2 : List Pr} {H : Hp} {u2 u4 u13 u14 u15 u17 u19 u20 : Option V}
    (c : LC a b h ns p z s i l x0 ms ks ps H) (hg : BookAt a H g (isort x0) (recsOf (isort x0) ms ps)) (ho : OrdAt a H o (lineNames (isort x0) ks))
    (hg2 : BookAt a H g2 (isort x0) (recsOf (isort x0) ms p2)) (hl2 : PrL H l2 p2) (vp2 : ∀ q ∈ p2, PrV x0.length q) (ll : p2.length = ps.length)
    (nxt : ∀ σ' H', Bag b h ns H' → LamX.Tabs a.tb H' → St0 s0 b σ' → D.nx σ' H') :
    t_law_d a D [some (.ref s0), some (.ref b), u2, some (.int (x0.length : Nat)), u4, some (.ref p), some (.ref z), some (.ref s), some (.ref i), some (.ref l), some (.ref g), some (.str (bookText (isort x0) (recsOf (isort x0) ms ps))), some (.ref o), u13, u14, u15, some (.ref g2), u17, some (.ref l2), u19, u20] H := by
  have lb := line_big
  have il := isort_len x0
  have l7 := c.l7
  have m40 := c.m40
  have l40 := c.l40
  unfold t_law_d
  refine ⟨fun σ' H' => Same H H' ∧ σ' = [some (.ref s0), some (.ref b), u2, some (.int (x0.length : Nat)), u4, some (.ref p), some (.ref z), some (.ref s), some (.ref i), some (.ref l), some (.ref g), some (.str (bookText (isort x0) (recsOf (isort x0) ms ps))), some (.ref o), u13, u14, u15, some (.ref g2), u17, some (.ref l2), u19, u20], ?_, ?_⟩
  · walk_at "go"
    by_cases h6 : ((x0.length : Nat) : Int) < 6
    · refine k_iteY (decide_eq_true h6) ?_
      walk_at "go"
      refine ⟨g2, _, _, rfl, hg2, fun H1 e1 => ?_⟩
      walk_at "go"
      refine ⟨x0.length, rfl, by omega, fun t H2 e2 ht => ?_⟩
      walk_at "go"
      refine ⟨t, l2, _, p2, rfl, ht, ?_, PrL.k hl2 (Keep.of (e1.trans e2)), fun r H3 e3 hr => ?_⟩
      · have := tries_len x0.length (by omega) x0.length
        have h5 : 5 ^ x0.length ≤ 5 ^ 5 := Nat.pow_le_pow_right (by decide) (by omega)
        omega
      walk_at "go"
      refine ⟨Nat.zero_le _, fun q hq => ?_⟩
      have e4 : Same H3 (upd H3 q (.lst [])) := Same.new (Same.refl _) hq
      have hr4 := lns_e hr e4
      have q4 : upd H3 q (.lst []) q = some (.lst []) := upd_same
      generalize upd H3 q (.lst []) = H4 at *
      refine ne_lns hr4 q4 ?_
      have es := stands_fit (xs := isort x0) (ms := ms) (ps := p2) c.nz.nd (by rw [il]; exact vp2) (by omega)
      rw [il] at es
      rw [← es]
      walk_at "go"
      refine ⟨_, _, rfl, sm_bl _, fun H5 e5 => ?_⟩
      walk_at "go"
      exact ⟨(e1.trans e2).trans ((e3.trans e4).trans e5), rfl⟩
    · refine k_iteZ (decide_eq_false h6) ?_
      walk_at "go"
      exact ⟨Same.refl _, rfl⟩
  rintro σ' H1 ⟨e1, rfl⟩
  have c1 := c.e e1
  have hg1 := hg.t (Same.t e1)
  have hg21 := hg2.t (Same.t e1)
  walk_at "go"
  refine ⟨b, h, ns, g2, z, _, _, rfl, c1.B, hg21, c1.hz, c1.tb, fun H2 kn B2 tb2 => ?_⟩
  have c2 := c1.n kn B2 tb2
  have hg2' := hg1.t kn.t
  have ho2 := (ho.k (Keep.of e1)).n kn
  walk_at "go"
  refine ⟨fun σ' H' => Keep H2 H' ∧ Bag b h ns H' ∧ σ' = [some (.ref s0), some (.ref b), u2, some (.int (x0.length : Nat)), u4, some (.ref p), some (.ref z), some (.ref s), some (.ref i), some (.ref l), some (.ref g), some (.str (bookText (isort x0) (recsOf (isort x0) ms ps))), some (.ref o), u13, u14, u15, some (.ref g2), u17, some (.ref l2), u19, u20], ?_, ?_⟩
  · walk_at "go"
    refine ⟨b, h, ns, _, rfl, c2.B, by decide, by decide, fun r H3 r0 r1 B3 k3 => ?_⟩
    walk_at "go"
    by_cases hr : r = 0
    · subst hr
      refine k_iteY (decide_eq_true rfl) ?_
      walk_at "go"
      have c3 := c2.k k3 B3
      refine ⟨b, h, ns, g, z, s, l, i, _, ms, ps, ks, rfl, B3, hg2'.k k3, c3.hz, c3.hs, c3.nm, m40, c3.hl, l40, c3.vz, c3.hi, c3.pz, fun H4 k4 B4 => ?_⟩
      walk_at "go"
      exact ⟨k3.trans k4, B4, rfl⟩
    · refine k_iteZ (decide_eq_false fun e => hr (V.int.inj e)) ?_
      walk_at "go"
      exact ⟨k3, B3, rfl⟩
  rintro σ' H3 ⟨k3, B3, rfl⟩
  have c3 := c2.k k3 B3
  have hg3 := hg2'.k k3
  have ho3 := ho2.k k3
  obtain ⟨dx, tz, dz, rs, g1, gr⟩ := hg3
  have hg3 : BookAt a H3 g (isort x0) (recsOf (isort x0) ms ps) := ⟨dx, tz, dz, rs, g1, gr⟩
  clear gr
  walk_at "go"
  refine ⟨g, dx, _, rfl, g1, rfl, ?_⟩
  walk_at "go"
  refine ⟨g, _, _, rfl, hg3, fun H4 e4 => ?_⟩
  walk_at "go"
  refine ⟨g, o, _, _, _, rfl, hg3.k (Keep.of e4), ho3.k (Keep.of e4), c.iso, fun t H5 e5 ht => ?_⟩
  rw [unborne_due c.nz.nd c.vz (line_lt c.pz), due_nil c.led] at ht
  walk_at "go"
  refine ⟨by rw [lb]; simp, fun A hA => ?_⟩
  have e6 : Same H5 (upd H5 A (.lst [.str (bookText (isort x0) (recsOf (isort x0) ms ps)), .ref t])) := Same.new (Same.refl _) hA
  have A6 : upd H5 A (.lst [.str (bookText (isort x0) (recsOf (isort x0) ms ps)), .ref t]) A = some (.lst [.str (bookText (isort x0) (recsOf (isort x0) ms ps)), .ref t]) := upd_same
  generalize upd H5 A (.lst [.str (bookText (isort x0) (recsOf (isort x0) ms ps)), .ref t]) = H6 at *
  walk_at "go"
  refine ⟨Nat.zero_le _, fun y hy => ?_⟩
  have e7 : Same H6 (upd H6 y (.tup [])) := Same.new (Same.refl _) hy
  have y7 : upd H6 y (.tup []) y = some (.tup []) := upd_same
  generalize upd H6 y (.tup []) = H7 at *
  walk_at "go"
  refine ⟨by rw [lb]; simp, fun Bz hB => ?_⟩
  have e8 : Same H7 (upd H7 Bz (.lst [.str (bookText (isort x0) (recsOf (isort x0) ms ps)), .ref y])) := Same.new (Same.refl _) hB
  have B8 : upd H7 Bz (.lst [.str (bookText (isort x0) (recsOf (isort x0) ms ps)), .ref y]) Bz = some (.lst [.str (bookText (isort x0) (recsOf (isort x0) ms ps)), .ref y]) := upd_same
  generalize upd H7 Bz (.lst [.str (bookText (isort x0) (recsOf (isort x0) ms ps)), .ref y]) = H8 at *
  walk_at "go"
  refine ⟨.ref A, .ref Bz, rfl, sm_lst (e8 _ _ (e7 _ _ A6)) B8 (by simp) ⟨sm_str _, sm_tup (e8 _ _ (e7 _ _ (e6 _ _ ht))) (e8 _ _ y7) (by simp) trivial, trivial⟩, fun H9 e9 => ?_⟩
  walk_at "go"
  have e39 : Same H3 H9 := (((e4.trans e5).trans e6).trans (e7.trans e8)).trans e9
  exact nxt _ _ (B3.same e39) (tabs_same e39 c3.tb) ⟨_, _, _, _, _, _, _, _, _, _, _, _, _, _, _, _, _, _, _, rfl⟩
end
end Fd
set_option Elab.async false
set_option linter.all false
set_option maxRecDepth 100000
set_option maxHeartbeats 4000000
/-! ### FdLawC: the bent book -/
namespace Fd
open PySem PySem.Spec PyProof.Rows L2 SX
theorem turn_len (fl : List Bool) (ps : List Pr) (h : fl.length = ps.length) : (turnL fl ps).length = ps.length := by
  unfold turnL
  rw [List.length_map, List.length_zip, h, Nat.min_self]
theorem turn_vp {n : Nat} {fl : List Bool} {ps : List Pr} (vp : ∀ q ∈ ps, PrV n q) : ∀ q ∈ turnL fl ps, PrV n q := fun q hq => by
  obtain ⟨r, hr, e⟩ := List.mem_map.mp hq
  have h := vp r.2 (List.of_mem_zip (a := r.1) (b := r.2) hr).2
  rw [← e]
  by_cases c : r.1 = true
  · rw [if_pos c]
    exact ⟨h.l2, h.l1, by rw [Nat.and_comm]; exact h.dj⟩
  · rw [if_neg c]
    exact h
def dueB (ms : List Str) (fl : List Bool) (ps : List Pr) : List Str := ((ms.zip (fl.zip ps)).filter fun q => q.2.1 && !decide (q.2.2 = (0, 0))).map (·.1)
theorem lead_zero (ks : List Nat) : leadsP ks (0, 0) = true := leads_none fun k _ => Nat.zero_testBit k
theorem pr_hit {n : Nat} {p : Pr} (v : PrV n p) (h : p ≠ (0, 0)) : ∃ k, k < n ∧ hits p k = true := by
  refine Classical.byContradiction fun hn => h ?_
  have z : ∀ k, bitN p.1 k = false ∧ bitN p.2 k = false := fun k => by
    by_cases hk : k < n
    · cases h1 : bitN p.1 k with
      | true => exact absurd ⟨k, hk, by simp [hits, h1]⟩ hn
      | false =>
        cases h2 : bitN p.2 k with
        | true => exact absurd ⟨k, hk, by simp [hits, h2]⟩ hn
        | false => exact ⟨rfl, rfl⟩
    · constructor
      · cases h1 : bitN p.1 k with
        | true => exact absurd (lt_bit v.l1 h1) hk
        | false => rfl
      · cases h1 : bitN p.2 k with
        | true => exact absurd (lt_bit v.l2 h1) hk
        | false => rfl
  refine Prod.ext (Nat.eq_of_testBit_eq fun k => ?_) (Nat.eq_of_testBit_eq fun k => ?_)
  · show bitN p.1 k = Nat.testBit 0 k
    rw [(z k).1, Nat.zero_testBit]
  · show bitN p.2 k = Nat.testBit 0 k
    rw [(z k).2, Nat.zero_testBit]
theorem due_bent {n : Nat} {ms : List Str} {fl : List Bool} {ps : List Pr} {ks : List Nat} (pk : ks.Perm (List.range n)) (vp : ∀ q ∈ ps, PrV n q) (led : ∀ q ∈ ps, leadsP ks q = true) : dueL ms (turnL fl ps) ks = dueB ms fl ps := by
  unfold dueL dueB turnL
  rw [List.zip_map_right, List.filter_map, List.map_map]
  have e : (ms.zip (fl.zip ps)).filter ((fun q : Str × Pr => !leadsP ks q.2) ∘ Prod.map id fun q => if q.1 = true then flipP q.2 else q.2) = (ms.zip (fl.zip ps)).filter fun q => q.2.1 && !decide (q.2.2 = (0, 0)) := List.filter_congr fun q hq => by
    obtain ⟨m, f, p⟩ := q
    have hp := (List.of_mem_zip (List.of_mem_zip hq).2).2
    show (!leadsP ks (if f = true then flipP p else p)) = (f && !decide (p = (0, 0)))
    cases f with
    | false =>
      rw [if_neg (by decide), led p hp]
      rfl
    | true =>
      rw [if_pos rfl, Bool.true_and]
      by_cases h0 : p = (0, 0)
      · rw [decide_eq_true h0, h0]
        show (!leadsP ks (0, 0)) = _
        rw [lead_zero]
      · obtain ⟨k, hk, hh⟩ := pr_hit (vp p hp) h0
        rw [decide_eq_false h0, lead_turn (vp p hp).dj (led p hp) ⟨k, pk.symm.subset (List.mem_range.mpr hk), hh⟩]
  rw [e]
  rfl
theorem ne_pr {K : KF} {H : Hp} {t z : Addr} {p : Pr} {Q : VK} (h : PrAt H t p) (hz : H z = some (.tup [.int 0, .int 0])) (q : Q (.bl (!decide (p = (0, 0)))) H) : rNeD K (.ref t) (.ref z) H Q := by
  refine ⟨.tuple [.int (p.1 : Nat), .int (p.2 : Nat)], .tuple [.int 0, .int 0], .tup (.inl (.inl h)) (.cons (.int _) (.cons (.int _) .nil)), .tup (.inl (.inl hz)) (.cons (.int _) (.cons (.int _) .nil)), ?_, by decide +kernel, ?_⟩
  · unfold SeqAt.shaped
    simp [PyData.canLay0, PyData.canLayAll0, PyData.depth, PyData.depthAll]
  · have : PyData.eqv (.tuple [.int (p.1 : Nat), .int (p.2 : Nat)]) (.tuple [.int 0, .int 0]) = decide (p = (0, 0)) := by
      obtain ⟨x, y⟩ := p
      have e : ∀ n : Nat, (((n : Nat) : Int) == 0) = decide (n = 0) := fun n => by
        rw [Bool.eq_iff_iff, beq_iff_eq, decide_eq_true_iff]
        omega
      simp [PyData.eqv, PyData.eqvAll, e]
    rw [this]
    exact q
theorem zip_get {α β : Type} {ms : List α} {ps : List β} {i : Nat} {m : α} {p : β} (h1 : ms[i]? = some m) (h2 : ps[i]? = some p) : (ms.zip ps)[i]? = some (m, p) := (List.getElem?_zip_eq_some (z := (m, p))).mpr ⟨h1, h2⟩
theorem turn_get {fl : List Bool} {ps : List Pr} {i : Nat} {f : Bool} {p : Pr} (h1 : fl[i]? = some f) (h2 : ps[i]? = some p) : (turnL fl ps)[i]? = some (if f = true then flipP p else p) := by
  unfold turnL
  rw [List.getElem?_map, zip_get h1 h2] <;> rfl
section
local macro_rules | `(tactic| walk_at "sm") => `(tactic| first | exact Same.refl _ | assumption | (refine Same.new ?_ ‹_›; walk_at "sm") | (refine Same.trans ?_ ‹Same _ _›; walk_at "sm"))
local macro_rules | `(tactic| walk_at "s1") => `(tactic| first
  | with_reducible refine g_seq ?_ | with_reducible refine g_asg ?_ | with_reducible refine g_name ?_ | with_reducible refine g_cons ?_ | with_reducible refine g_nil ?_
  | ((with_reducible refine k_var ?_); refine ⟨_, rfl, ?_⟩) | with_reducible refine g_c ?_ | with_reducible refine g_op ?_ | with_reducible refine g_un ?_
  | with_reducible refine g_cb ?_ | with_reducible refine g_call ?_ | with_reducible refine g_ifS ?_ | with_reducible refine g_if ?_ | with_reducible refine g_tB ?_ | with_reducible refine g_test ?_
  | with_reducible refine k_bl ?_ | with_reducible refine k_iteT ?_ | with_reducible refine k_iteF ?_ | with_reducible refine k_iteNT ?_ | with_reducible refine k_iteNF ?_
  | with_reducible refine g_and ?_ | with_reducible refine g_or ?_ | with_reducible refine g_not ?_ | with_reducible refine g_andV ?_ | with_reducible refine g_orV ?_ | with_reducible refine g_notV ?_ | with_reducible refine g_yes ?_)
local macro_rules | `(tactic| walk_at "s2") => `(tactic| first
  | with_reducible refine g_ret ?_ | with_reducible refine g_drop ?_ | with_reducible refine g_next ?_ | with_reducible refine k_retN ?_
  | ((with_reducible refine k_I0 ?_); refine ⟨_, _, rfl, rfl, ?_⟩) | ((with_reducible refine k_U ?_); refine ⟨_, rfl, ?_⟩) | ((with_reducible refine k_eq ?_); refine ⟨rfl, ?_⟩) | ((with_reducible refine k_ne ?_); refine ⟨rfl, ?_⟩)
  | ((with_reducible refine k_isN ?_); refine ⟨rfl, ?_⟩) | ((with_reducible refine k_notN ?_); refine ⟨rfl, ?_⟩) | with_reducible refine k_chain ?_ | with_reducible refine k_fld ?_ | with_reducible refine k_sfld ?_
  | with_reducible refine k_tup ?_ | with_reducible refine k_lst ?_ | with_reducible refine k_meth ?_ | with_reducible refine k_bm ?_ | with_reducible refine k_bm0 ?_ | with_reducible refine k_m1 ?_ | with_reducible refine k_fmt ?_ | with_reducible refine k_joined ?_
  | with_reducible refine k_js0 ?_ | with_reducible refine k_js1 ?_ | with_reducible refine k_mkR ?_ | with_reducible refine k_sl ?_ | with_reducible refine k_part ?_ | with_reducible refine k_nopart ?_ | with_reducible refine k_gtup ?_
  | ((with_reducible refine k_aug ?_); refine ⟨_, rfl, ?_⟩) | ((with_reducible refine k_ipI ?_); refine ⟨_, _, rfl, rfl, ?_⟩) | with_reducible refine k_par ?_ | with_reducible refine k_din ?_ | with_reducible refine k_dnin ?_ | with_reducible refine k_dput ?_
  | with_reducible refine g_gcons ?_ | with_reducible refine g_gnil ?_ | with_reducible refine k_cval ?_ | with_reducible refine k_dnew ?_ | with_reducible refine k_isS ?_ | with_reducible refine k_int ?_ | with_reducible refine k_lcL ?_ | with_reducible refine k_lcT ?_ | with_reducible refine k_lcQ ?_ | with_reducible refine k_lcS ?_ | with_reducible refine k_lcR ?_ | with_reducible refine k_forL ?_ | with_reducible refine k_forT ?_ | with_reducible refine k_forQ ?_ | with_reducible refine k_forS ?_ | with_reducible refine k_forR ?_ | with_reducible refine k_forE ?_ | with_reducible refine k_forET ?_ | with_reducible refine k_forI ?_ | with_reducible refine k_star ?_ | with_reducible refine k_dcL ?_ | with_reducible refine k_listItems ?_ | with_reducible refine k_dget ?_ | ((with_reducible refine k_wipe ?_ ?_); exact rfl))
local macro_rules | `(tactic| walk_at "go") => `(tactic| repeat (first | walk_at "s1" | walk_at "s2"))
variable {a : Ax} {mg : Str → Option Value} (T : Top a mg)
include T
theorem rd_law_c {D : L2.Ends} {b h s0 : Addr} {ns : List Int} {p z s i l g o : Addr} {x0 ms : List Str} {ks : List Nat} {ps : List Pr} {H : Hp} {u2 u4 u13 u14 u15 u16 u17 u18 u19 u20 : Option V}
    (c : LC a b h ns p z s i l x0 ms ks ps H) (hg : BookAt a H g (isort x0) (recsOf (isort x0) ms ps)) (ho : OrdAt a H o (lineNames (isort x0) ks))
    (nxt : ∀ σ' H', Bag b h ns H' → LamX.Tabs a.tb H' → St0 s0 b σ' → D.nx σ' H') :
    t_law_c a D [some (.ref s0), some (.ref b), u2, some (.int (x0.length : Nat)), u4, some (.ref p), some (.ref z), some (.ref s), some (.ref i), some (.ref l), some (.ref g), some (.str (bookText (isort x0) (recsOf (isort x0) ms ps))), some (.ref o), u13, u14, u15, u16, u17, u18, u19, u20] H := by
  have lb := line_big
  have il := isort_len x0
  have l7 := c.l7
  have m40 := c.m40
  have l40 := c.l40
  obtain ⟨ts, hts, hA⟩ := c.hl
  have tl := hA.len
  unfold t_law_c
  walk_at "go"
  refine ⟨l, _, rfl, .inl (.inl (.inl hts)), ?_⟩
  rw [List.length_map, tl]
  refine ⟨_, rfl, by omega, by omega, ?_⟩
  rw [Int.toNat_natCast]
  refine gR (fun j D H' => Keep H H' ∧ Bag b h ns H' ∧ ∃ fl : List Bool, fl.length = j ∧ H' D = some (.lst (fl.map V.bl))) (fun D hD => ⟨Keep.of (Same.new (Same.refl _) hD), c.B.same (Same.new (Same.refl _) hD), [], rfl, upd_same⟩) (fun j v D H2 hD hv cc => ?_) fun F H2 hF cc => ?_
  · obtain ⟨hj, rfl⟩ := hv
    obtain ⟨k2, B2, fl, fln, hfl⟩ := cc
    rw [Int.zero_add]
    walk_at "go"
    refine ⟨b, h, ns, _, rfl, B2, by decide, by decide, fun r H3 r0 r1 B3 k3 => ?_⟩
    walk_at "go"
    have h3 := k3 _ _ hfl (hard_bls fl)
    exact ⟨_, h3, by rw [List.length_map]; omega, Keep.upd' hD (k2.trans k3), B3.upd (c.B.ne hD).1 (c.B.ne hD).2, fl ++ [decide (V.int r = V.int 0)], by rw [List.length_append, fln] <;> rfl, by rw [upd_same, List.map_append] <;> rfl⟩
  obtain ⟨k2, B2, fl, fln, hfl⟩ := cc
  have c2 := c.k k2 B2
  have hg2 := hg.k k2
  have ho2 := ho.k k2
  clear hts hA tl ts hF
  obtain ⟨ts, hts, hA⟩ := c2.hl
  have tl := hA.len
  walk_at "go"
  refine ⟨l, _, rfl, .inl (.inl (.inl hts)), ?_⟩
  rw [List.length_map, tl]
  refine ⟨_, rfl, by omega, by omega, ?_⟩
  rw [Int.toNat_natCast]
  have btl := turn_len fl ps fln
  refine gR (fun j D H' => Same H2 H' ∧ ∃ rt : List Addr, H' D = some (.lst (rt.map V.ref)) ∧ All2 (PrAt H') rt ((turnL fl ps).take j)) (fun D hD => ⟨Same.new (Same.refl _) hD, [], upd_same, by rw [List.take_zero]; trivial⟩) (fun j v D H3 hD hv cc => ?_) fun G H3 hG cc => ?_
  · obtain ⟨hj, rfl⟩ := hv
    obtain ⟨e3, rt, hrt, hra⟩ := cc
    rw [Int.zero_add]
    have hpj : ps[j]? = some ps[j] := List.getElem?_eq_getElem hj
    have hfj : fl[j]? = some fl[j] := List.getElem?_eq_getElem (by omega)
    generalize ps[j] = pj at hpj
    generalize fl[j] = fj at hfj
    obtain ⟨tj, htj, hpa⟩ := hA.get' hpj
    have hb := turn_get hfj hpj
    have rl := hra.len
    rw [List.length_take] at rl
    have add : ∀ (H4 : Hp) (r : Addr), Same H3 H4 → PrAt H4 r (if fj = true then flipP pj else pj) → ∃ acc, H4 D = some (.lst acc) ∧ acc.length < sizeLine ∧ Same H2 (upd H4 D (.lst (acc ++ [.ref r]))) ∧ ∃ rt : List Addr, upd H4 D (.lst (acc ++ [.ref r])) D = some (.lst (rt.map V.ref)) ∧ All2 (PrAt (upd H4 D (.lst (acc ++ [.ref r])))) rt ((turnL fl ps).take (j + 1)) := fun H4 r e4 hr => by
      have h4 := e4 _ _ hrt
      have kt : KeepT H4 (upd H4 D (.lst (rt.map V.ref ++ [V.ref r]))) := KeepT.mut h4 (KeepT.refl _)
      refine ⟨_, h4, by rw [List.length_map]; omega, Same.mut (e3.trans e4) hD, rt ++ [r], by rw [upd_same, List.map_append] <;> rfl, ?_⟩
      rw [take_snoc hb]
      exact (hra.mono fun _ _ kk => PrAt.t (PrAt.k kk (Keep.of e4)) kt).snoc (PrAt.t hr kt)
    have rix : ∀ (H4 : Hp) (Q : VK), Same H2 H4 → Q (.ref tj) H4 → rIxL a.K (.ref l) (.int (j : Nat)) H4 Q := fun H4 Q e q => ⟨l, _, _, .ref tj, rfl, rfl, .inl (.inl (e _ _ hts)), by rw [Fd.atI_nat, List.getElem?_map, htj] <;> rfl, q⟩
    walk_at "go"
    refine ⟨F, _, _, .bl fj, rfl, rfl, .inl (.inl (e3 _ _ hfl)), by rw [Fd.atI_nat, List.getElem?_map, hfj] <;> rfl, ?_⟩
    cases fj with
    | true =>
      walk_at "go"
      refine rix _ _ e3 ?_
      walk_at "go"
      refine ⟨tj, _, _, _, rfl, rfl, .inl (.inl (e3 _ _ hpa)), rfl, ?_⟩
      walk_at "go"
      refine rix _ _ e3 ?_
      walk_at "go"
      refine ⟨tj, _, _, _, rfl, rfl, .inl (.inl (e3 _ _ hpa)), rfl, ?_⟩
      refine ⟨by rw [lb]; simp, fun r hr => ?_⟩
      exact add _ r (Same.new (Same.refl _) hr) upd_same
    | false =>
      walk_at "go"
      refine rix _ _ e3 ?_
      exact add _ tj (Same.refl _) (e3 _ _ hpa)
  obtain ⟨e3, rt, hrt, hra⟩ := cc
  rw [show (turnL fl ps).take ps.length = turnL fl ps by rw [← btl, take_full]] at hra
  have hl3 : PrL H3 G (turnL fl ps) := ⟨rt, hrt, hra⟩
  have c3 := c2.e e3
  have vb : ∀ q ∈ turnL fl ps, PrV x0.length q := turn_vp c.vp
  walk_at "go"
  refine ⟨b, h, ns, p, x0, s, ms, G, turnL fl ps, rfl, c3.B, c3.hp, c3.nx, c3.l1, c3.l7, c3.hs, c3.nm, hl3, vb, by omega, by omega, fun g2 H4 k4 B4 hg24 => ?_⟩
  have c4 := c3.k k4 B4
  have hl4 := PrL.k hl3 k4
  have hg4 := (hg2.k (Keep.of e3)).k k4
  have ho4 := (ho2.k (Keep.of e3)).k k4
  have F4 := k4 _ _ (e3 _ _ hfl) (hard_bls fl)
  clear hts hA tl ts hra hrt rt
  obtain ⟨ts, hts, hA⟩ := c4.hl
  have tl := hA.len
  walk_at "go"
  refine ⟨l, _, rfl, .inl (.inl (.inl hts)), ?_⟩
  rw [List.length_map, tl]
  refine ⟨_, rfl, by omega, by omega, ?_⟩
  rw [Int.toNat_natCast]
  have zl : (ms.zip (fl.zip ps)).length = ps.length := by
    rw [List.length_zip, List.length_zip]
    omega
  refine lR (fun j => (((ms.zip (fl.zip ps)).take j).filter fun q => q.2.1 && !decide (q.2.2 = (0, 0))).map fun q => V.str q.1) (by rw [List.take_zero] <;> rfl) (fun j v D H5 hD hv e hd => ?_) fun Du H5 hDu e5 hdu => ?_
  · obtain ⟨hj, rfl⟩ := hv
    rw [Int.zero_add]
    have hpj : ps[j]? = some ps[j] := List.getElem?_eq_getElem hj
    have hfj : fl[j]? = some fl[j] := List.getElem?_eq_getElem (by omega)
    have hmj : ms[j]? = some ms[j] := List.getElem?_eq_getElem (by omega)
    generalize ps[j] = pj at hpj
    generalize fl[j] = fj at hfj
    generalize ms[j] = mj at hmj
    obtain ⟨tj, htj, hpa⟩ := hA.get' hpj
    have ed := filt_snoc (fun q : Str × Bool × Pr => V.str q.1) (fun q => q.2.1 && !decide (q.2.2 = (0, 0))) (zip_get hmj (zip_get hfj hpj))
    have dl : ((((ms.zip (fl.zip ps)).take j).filter fun q => q.2.1 && !decide (q.2.2 = (0, 0))).map fun q => V.str q.1).length ≤ 40 := by
      rw [List.length_map]
      refine Nat.le_trans (List.length_filter_le _ _) ?_
      rw [List.length_take]
      omega
    walk_at "go"
    refine ⟨F, _, _, .bl fj, rfl, rfl, .inl (.inl (e _ _ F4)), by rw [Fd.atI_nat, List.getElem?_map, hfj] <;> rfl, ?_⟩
    cases fj with
    | false =>
      rw [if_neg (by simp), List.append_nil] at ed
      walk_at "go"
      exact ⟨e, by rw [ed]; exact hd⟩
    | true =>
      walk_at "go"
      refine ⟨l, _, _, .ref tj, rfl, rfl, .inl (.inl (e _ _ hts)), by rw [Fd.atI_nat, List.getElem?_map, htj] <;> rfl, ?_⟩
      walk_at "go"
      refine ⟨by rw [lb]; simp, fun z0 hz0 => ?_⟩
      have e6 : Same H5 (upd H5 z0 (.tup [.int 0, .int 0])) := Same.new (Same.refl _) hz0
      refine ne_pr (e6 _ _ (e _ _ hpa)) upd_same ?_
      generalize upd H5 z0 (.tup [.int 0, .int 0]) = H6 at *
      by_cases h0 : pj = (0, 0)
      · rw [decide_eq_true h0]
        rw [decide_eq_true h0, if_neg (by simp), List.append_nil] at ed
        walk_at "go"
        exact ⟨e.trans e6, by rw [ed]; exact e6 _ _ hd⟩
      · rw [decide_eq_false h0]
        rw [decide_eq_false h0, if_pos (by rfl)] at ed
        walk_at "go"
        refine ⟨s, _, _, .str mj, rfl, rfl, .inl (.inl ((e.trans e6) _ _ c4.hs)), by rw [Fd.atI_nat, List.getElem?_map, hmj] <;> rfl, ?_⟩
        exact lc_add (e.trans e6) hD (e6 _ _ hd) (by omega) ed
  have hdu' : H5 Du = some (.lst ((dueB ms fl ps).map V.str)) := by
    rw [hdu, ← zl, take_full]
    unfold dueB
    rw [List.map_map] <;> rfl
  clear hdu
  have dl : (dueB ms fl ps).length ≤ 40 := by
    unfold dueB
    rw [List.length_map]
    refine Nat.le_trans (List.length_filter_le _ _) ?_
    omega
  have eu : unborneL (recsOf (isort x0) ms (turnL fl ps)) (lineNames (isort x0) ks) = dueB ms fl ps := by
    rw [unborne_due c.nz.nd (by rw [il]; exact vb) (line_lt c.pz)]
    exact due_bent c.pk c.vp c.led
  have sok : ∀ z ∈ dueB ms fl ps, PyData.strOk z = true := fun z hz => by
    obtain ⟨q, hq, e⟩ := List.mem_map.mp hz
    rw [← e]
    exact (c.nm.nm _ (List.of_mem_zip (a := q.1) (b := q.2) (List.mem_filter.mp hq).1).1).ok
  generalize dueB ms fl ps = due at *
  walk_at "go"
  refine ⟨Du, _, rfl, .inl ⟨.inl (.inl hdu'), fun d hd => ?_⟩⟩
  have e6 : Same H5 (upd H5 d (.tup (due.map V.str))) := Same.new (Same.refl _) hd
  have d6 : upd H5 d (.tup (due.map V.str)) d = some (.tup (due.map V.str)) := upd_same
  generalize upd H5 d (.tup (due.map V.str)) = H6 at *
  have c6 := (c4.e e5).e e6
  have e46 := e5.trans e6
  have hg6 := hg4.k (Keep.of e46)
  have ho6 := ho4.k (Keep.of e46)
  have hg26 := hg24.k (Keep.of e46)
  have hl6 := PrL.k hl4 (Keep.of e46)
  clear hts hA tl ts
  walk_at "go"
  refine ⟨g2, o, _, _, _, rfl, hg26, ho6, c.iso, fun t H7 e7 ht => ?_⟩
  rw [eu] at ht
  walk_at "go"
  refine ⟨g2, o, _, _, _, rfl, hg26.k (Keep.of e7), ho6.k (Keep.of e7), c.iso, fun H8 e8 => ?_⟩
  rw [eu]
  walk_at "go"
  refine ⟨by rw [lb]; simp, fun A hA => ?_⟩
  have e9 : Same H8 (upd H8 A (.lst [.ref t, .bl (decide (due = []))])) := Same.new (Same.refl _) hA
  have A9 : upd H8 A (.lst [.ref t, .bl (decide (due = []))]) A = some (.lst [.ref t, .bl (decide (due = []))]) := upd_same
  generalize upd H8 A (.lst [.ref t, .bl (decide (due = []))]) = H9 at *
  walk_at "go"
  refine ⟨Nat.zero_le _, fun y hy => ?_⟩
  have e10 : Same H9 (upd H9 y (.tup [])) := Same.new (Same.refl _) hy
  have e69 := (e7.trans e8).trans e9
  refine eq_tt (xs := due) (ys := []) (.inl (.inl (e10 _ _ (e69 _ _ d6)))) (.inl (.inl upd_same)) sok (fun _ h => by cases h) ?_
  generalize upd H9 y (.tup []) = H10 at *
  walk_at "go"
  refine ⟨by rw [lb]; simp, fun Bz hB => ?_⟩
  have e11 : Same H10 (upd H10 Bz (.lst [.ref d, .bl (decide (due = []))])) := Same.new (Same.refl _) hB
  have B11 : upd H10 Bz (.lst [.ref d, .bl (decide (due = []))]) Bz = some (.lst [.ref d, .bl (decide (due = []))]) := upd_same
  generalize upd H10 Bz (.lst [.ref d, .bl (decide (due = []))]) = H11 at *
  have e911 := e10.trans e11
  walk_at "go"
  refine ⟨.ref A, .ref Bz, rfl, sm_lst (e911 _ _ A9) B11 (by simp) ⟨sm_tup (e911 _ _ (e9 _ _ (e8 _ _ ht))) (e911 _ _ (e69 _ _ d6)) (by rw [List.length_map]; omega) (sm_strs _), sm_bl _, trivial⟩, fun H12 e12 => ?_⟩
  walk_at "go"
  have e612 : Same H6 H12 := e69.trans (e911.trans e12)
  have k612 := Keep.of e612
  exact rd_law_d T (c6.e e612) (hg6.k k612) (ho6.k k612) (hg26.k k612) (PrL.k hl6 k612) vb btl nxt
end
end Fd
set_option Elab.async false
set_option linter.all false
set_option maxRecDepth 100000
set_option maxHeartbeats 4000000
/-! ### FdLawB: the book of a turn; the rest of law -/
namespace Fd
open PySem PySem.Spec PyProof.Rows L2 SX
/-- as late leads -/
def lateP (qs : List Nat) (p : Pr) : Pr := if leadsP qs p = true then p else flipP p
theorem late_vp {n : Nat} {qs : List Nat} {ps : List Pr} (vp : ∀ q ∈ ps, PrV n q) : ∀ q ∈ ps.map (lateP qs), PrV n q := fun q hq => by
  obtain ⟨r, hr, e⟩ := List.mem_map.mp hq
  have h := vp r hr
  rw [← e]
  unfold lateP
  by_cases c : leadsP qs r = true
  · rw [if_pos c]
    exact h
  · rw [if_neg c]
    exact ⟨h.l2, h.l1, by rw [Nat.and_comm]; exact h.dj⟩
theorem late_led {qs : List Nat} {ps : List Pr} : ∀ q ∈ ps.map (lateP qs), leadsP qs q = true := fun q hq => by
  obtain ⟨r, hr, e⟩ := List.mem_map.mp hq
  rw [← e]
  unfold lateP
  by_cases c : leadsP qs r = true
  · rw [if_pos c]
    exact c
  · rw [if_neg c]
    exact lead_flip (by cases h : leadsP qs r with
      | true => exact absurd h c
      | false => rfl)
section
local macro_rules | `(tactic| walk_at "sm") => `(tactic| first | exact Same.refl _ | assumption | (refine Same.new ?_ ‹_›; walk_at "sm") | (refine Same.trans ?_ ‹Same _ _›; walk_at "sm"))
local macro_rules | `(tactic| walk_at "s1") => `(tactic| first
  | with_reducible refine g_seq ?_ | with_reducible refine g_asg ?_ | with_reducible refine g_name ?_ | with_reducible refine g_cons ?_ | with_reducible refine g_nil ?_
  | ((with_reducible refine k_var ?_); refine ⟨_, rfl, ?_⟩) | with_reducible refine g_c ?_ | with_reducible refine g_op ?_ | with_reducible refine g_un ?_
  | with_reducible refine g_cb ?_ | with_reducible refine g_call ?_ | with_reducible refine g_ifS ?_ | with_reducible refine g_if ?_ | with_reducible refine g_tB ?_ | with_reducible refine g_test ?_
  | with_reducible refine k_bl ?_ | with_reducible refine k_iteT ?_ | with_reducible refine k_iteF ?_ | with_reducible refine k_iteNT ?_ | with_reducible refine k_iteNF ?_
  | with_reducible refine g_and ?_ | with_reducible refine g_or ?_ | with_reducible refine g_not ?_ | with_reducible refine g_andV ?_ | with_reducible refine g_orV ?_ | with_reducible refine g_notV ?_ | with_reducible refine g_yes ?_)
local macro_rules | `(tactic| walk_at "s2") => `(tactic| first
  | with_reducible refine g_ret ?_ | with_reducible refine g_drop ?_ | with_reducible refine g_next ?_ | with_reducible refine k_retN ?_
  | ((with_reducible refine k_I0 ?_); refine ⟨_, _, rfl, rfl, ?_⟩) | ((with_reducible refine k_U ?_); refine ⟨_, rfl, ?_⟩) | ((with_reducible refine k_eq ?_); refine ⟨rfl, ?_⟩) | ((with_reducible refine k_ne ?_); refine ⟨rfl, ?_⟩)
  | ((with_reducible refine k_isN ?_); refine ⟨rfl, ?_⟩) | ((with_reducible refine k_notN ?_); refine ⟨rfl, ?_⟩) | with_reducible refine k_chain ?_ | with_reducible refine k_fld ?_ | with_reducible refine k_sfld ?_
  | with_reducible refine k_tup ?_ | with_reducible refine k_lst ?_ | with_reducible refine k_meth ?_ | with_reducible refine k_bm ?_ | with_reducible refine k_bm0 ?_ | with_reducible refine k_m1 ?_ | with_reducible refine k_fmt ?_ | with_reducible refine k_joined ?_
  | with_reducible refine k_js0 ?_ | with_reducible refine k_js1 ?_ | with_reducible refine k_mkR ?_ | with_reducible refine k_sl ?_ | with_reducible refine k_part ?_ | with_reducible refine k_nopart ?_ | with_reducible refine k_gtup ?_
  | ((with_reducible refine k_aug ?_); refine ⟨_, rfl, ?_⟩) | ((with_reducible refine k_ipI ?_); refine ⟨_, _, rfl, rfl, ?_⟩) | with_reducible refine k_par ?_ | with_reducible refine k_din ?_ | with_reducible refine k_dnin ?_ | with_reducible refine k_dput ?_
  | with_reducible refine g_gcons ?_ | with_reducible refine g_gnil ?_ | with_reducible refine k_cval ?_ | with_reducible refine k_dnew ?_ | with_reducible refine k_isS ?_ | with_reducible refine k_int ?_ | with_reducible refine k_lcL ?_ | with_reducible refine k_lcT ?_ | with_reducible refine k_lcQ ?_ | with_reducible refine k_lcS ?_ | with_reducible refine k_lcR ?_ | with_reducible refine k_forL ?_ | with_reducible refine k_forT ?_ | with_reducible refine k_forQ ?_ | with_reducible refine k_forS ?_ | with_reducible refine k_forR ?_ | with_reducible refine k_forE ?_ | with_reducible refine k_forET ?_ | with_reducible refine k_forI ?_ | with_reducible refine k_star ?_ | with_reducible refine k_dcL ?_ | with_reducible refine k_listItems ?_ | with_reducible refine k_dget ?_ | ((with_reducible refine k_wipe ?_ ?_); exact rfl))
local macro_rules | `(tactic| walk_at "go") => `(tactic| repeat (first | walk_at "s1" | walk_at "s2"))
variable {a : Ax} {mg : Str → Option Value} (T : Top a mg)
include T
theorem rd_law_b {D : L2.Ends} {b h s0 : Addr} {ns : List Int} {p z s i l g o : Addr} {x0 ms : List Str} {ks : List Nat} {ps : List Pr} {H : Hp} {u2 u4 u13 u14 u15 u16 u17 u18 u19 u20 : Option V}
    (c : LC a b h ns p z s i l x0 ms ks ps H) (hg : BookAt a H g (isort x0) (recsOf (isort x0) ms ps)) (ho : OrdAt a H o (lineNames (isort x0) ks))
    (nxt : ∀ σ' H', Bag b h ns H' → LamX.Tabs a.tb H' → St0 s0 b σ' → D.nx σ' H') :
    t_law_b a D [some (.ref s0), some (.ref b), u2, some (.int (x0.length : Nat)), u4, some (.ref p), some (.ref z), some (.ref s), some (.ref i), some (.ref l), some (.ref g), some (.str (bookText (isort x0) (recsOf (isort x0) ms ps))), some (.ref o), u13, u14, u15, u16, u17, u18, u19, u20] H := by
  have lb := line_big
  have il := isort_len x0
  have l7 := c.l7
  have l1 := c.l1
  have m40 := c.m40
  have l40 := c.l40
  have stt : standsL (isort x0) (recsOf (isort x0) ms ps) = true := (stands_iff c.nz.nd c.vz (by omega)).mpr ⟨ks, c.pz, c.led⟩
  unfold t_law_b
  walk_at "go"
  refine ⟨g, _, _, rfl, hg, fun H1 e1 => ?_⟩
  rw [stt]
  walk_at "go"
  refine ⟨g, o, _, _, _, rfl, hg.k (Keep.of e1), ho.k (Keep.of e1), c.iso, fun H2 e2 => ?_⟩
  rw [unborne_due c.nz.nd c.vz (line_lt c.pz), due_nil c.led, decide_eq_true rfl]
  have e02 := e1.trans e2
  walk_at "go"
  refine ⟨g, o, _, _, _, rfl, hg.k (Keep.of e02), ho.k (Keep.of e02), c.iso, fun t H3 e3 ht => ?_⟩
  rw [unborne_due c.nz.nd c.vz (line_lt c.pz), due_nil c.led] at ht
  walk_at "go"
  refine ⟨by rw [lb]; simp, fun A hA => ?_⟩
  have e4 : Same H3 (upd H3 A (.lst [.bl true, .bl true, .ref t])) := Same.new (Same.refl _) hA
  have A4 : upd H3 A (.lst [.bl true, .bl true, .ref t]) A = some (.lst [.bl true, .bl true, .ref t]) := upd_same
  generalize upd H3 A (.lst [.bl true, .bl true, .ref t]) = H4 at *
  walk_at "go"
  refine ⟨Nat.zero_le _, fun y hy => ?_⟩
  have e5 : Same H4 (upd H4 y (.tup [])) := Same.new (Same.refl _) hy
  have y5 : upd H4 y (.tup []) y = some (.tup []) := upd_same
  generalize upd H4 y (.tup []) = H5 at *
  walk_at "go"
  refine ⟨by rw [lb]; simp, fun Bz hB => ?_⟩
  have e6 : Same H5 (upd H5 Bz (.lst [.bl true, .bl true, .ref y])) := Same.new (Same.refl _) hB
  have B6 : upd H5 Bz (.lst [.bl true, .bl true, .ref y]) Bz = some (.lst [.bl true, .bl true, .ref y]) := upd_same
  generalize upd H5 Bz (.lst [.bl true, .bl true, .ref y]) = H6 at *
  have e46 := e5.trans e6
  walk_at "go"
  refine ⟨.ref A, .ref Bz, rfl, sm_lst (e46 _ _ A4) B6 (by simp) ⟨sm_bl _, sm_bl _, sm_tup (e46 _ _ (e4 _ _ ht)) (e6 _ _ y5) (by simp) trivial, trivial⟩, fun H7 e7 => ?_⟩
  have e07 := ((e02.trans e3).trans e4).trans (e46.trans e7)
  clear A4 y5 B6 ht
  have c7 := c.e e07
  have hg7 := hg.k (Keep.of e07)
  have ho7 := ho.k (Keep.of e07)
  walk_at "go"
  refine ⟨_, rfl, by decide, by decide, ?_⟩
  refine for_range (fun j σ H' => Keep H7 H' ∧ Bag b h ns H' ∧ ∃ u13, σ = [some (.ref s0), some (.ref b), u2, some (.int (x0.length : Nat)), u4, some (.ref p), some (.ref z), some (.ref s), some (.ref i), some (.ref l), some (.ref g), some (.str (bookText (isort x0) (recsOf (isort x0) ms ps))), some (.ref o), u13, u14, u15, u16, u17, u18, u19, u20]) ⟨Keep.refl _, c7.B, _, rfl⟩ (fun j σ H8 hj cc => ?_) fun σ H8 cc => ?_
  · obtain ⟨k8, B8, u13, rfl⟩ := cc
    have c8 := c7.k k8 B8
    walk_at "go"
    refine ⟨b, h, ns, i, _, rfl, B8, .inl c8.hi, hom_nats ks, by rw [List.length_map, c.kl]; omega, fun L ys H9 k9 B9 nL hL pL => ?_⟩
    obtain ⟨qs, rfl, pq⟩ := nats_perm pL
    have c9 := c8.k k9 B9
    walk_at "go"
    refine ⟨g, z, s, l, L, _, ms, ps, qs, rfl, (hg7.k k8).k k9, c9.hz, c9.hs, c9.hl, by omega, by omega, c.vz, hL, pq.trans c.pz, fun H10 e10 => ?_⟩
    walk_at "go"
    exact ⟨(k8.trans k9).trans (Keep.of e10), B9.same e10, _, rfl⟩
  obtain ⟨k8, B8, u13, rfl⟩ := cc
  have c8 := c7.k k8 B8
  walk_at "go"
  refine ⟨b, h, ns, i, _, rfl, B8, .inl c8.hi, hom_nats ks, by rw [List.length_map, c.kl]; omega, fun L ys H9 k9 B9 nL hL pL => ?_⟩
  obtain ⟨qs, rfl, pq⟩ := nats_perm pL
  have c9 := c8.k k9 B9
  have hg9 := (hg7.k k8).k k9
  have ho9 := (ho7.k k8).k k9
  have hL : LI H9 L qs := hL
  have pz := pq.trans c.pz
  obtain ⟨ts, hts, hA⟩ := c9.hl
  have tl := hA.len
  walk_at "go"
  refine ⟨l, rfl, ?_⟩
  refine gL (.inl (.inl hts)) (fun j D H' => Same H9 H' ∧ ∃ rt : List Addr, H' D = some (.lst (rt.map V.ref)) ∧ All2 (PrAt H') rt ((ps.take j).map (lateP qs))) (fun D hD => ⟨Same.new (Same.refl _) hD, [], upd_same, by rw [List.take_zero]; trivial⟩) (fun j D H' cc => .inl (.inl (cc.1 _ _ hts))) (fun j v D H10 hD hv cc => ?_) fun G H10 hG cc => ?_
  · obtain ⟨e10, rt, hrt, hra⟩ := cc
    obtain ⟨tj, htj, rfl⟩ := map_get hv
    obtain ⟨pj, hpj, hpa⟩ := hA.get htj
    have rl := hra.len
    rw [List.length_map, List.length_take] at rl
    have add : ∀ (H4 : Hp) (r : Addr), Same H10 H4 → PrAt H4 r (lateP qs pj) → ∃ acc, H4 D = some (.lst acc) ∧ acc.length < sizeLine ∧ Same H9 (upd H4 D (.lst (acc ++ [.ref r]))) ∧ ∃ rt : List Addr, upd H4 D (.lst (acc ++ [.ref r])) D = some (.lst (rt.map V.ref)) ∧ All2 (PrAt (upd H4 D (.lst (acc ++ [.ref r])))) rt ((ps.take (j + 1)).map (lateP qs)) := fun H4 r e4 hr => by
      have h4 := e4 _ _ hrt
      have kt : KeepT H4 (upd H4 D (.lst (rt.map V.ref ++ [V.ref r]))) := KeepT.mut h4 (KeepT.refl _)
      refine ⟨_, h4, by rw [List.length_map]; omega, Same.mut (e10.trans e4) hD, rt ++ [r], by rw [upd_same, List.map_append] <;> rfl, ?_⟩
      rw [map_take_snoc _ hpj]
      exact (hra.mono fun _ _ kk => PrAt.t (PrAt.k kk (Keep.of e4)) kt).snoc (PrAt.t hr kt)
    walk_at "go"
    refine ⟨L, tj, qs, pj, rfl, .inl (e10 _ _ hL), e10 _ _ hpa, ?_⟩
    cases hld : leadsP qs pj with
    | true =>
      walk_at "go"
      exact add _ tj (Same.refl _) (by unfold lateP; rw [if_pos hld]; exact e10 _ _ hpa)
    | false =>
      walk_at "go"
      refine ⟨tj, _, _, _, rfl, rfl, .inl (.inl (e10 _ _ hpa)), rfl, ?_⟩
      walk_at "go"
      refine ⟨tj, _, _, _, rfl, rfl, .inl (.inl (e10 _ _ hpa)), rfl, ?_⟩
      refine ⟨by rw [lb]; simp, fun r hr => ?_⟩
      exact add _ r (Same.new (Same.refl _) hr) (by unfold lateP; rw [hld, if_neg (by decide)]; exact upd_same)
  obtain ⟨e10, rt, hrt, hra⟩ := cc
  rw [List.length_map, tl, take_full] at hra
  have hlG : PrL H10 G (ps.map (lateP qs)) := ⟨rt, hrt, hra⟩
  have c10 := c9.e e10
  have vb : ∀ q ∈ ps.map (lateP qs), PrV x0.length q := late_vp c.vp
  have vz : ∀ q ∈ ps.map (lateP qs), PrV (isort x0).length q := by rw [il]; exact vb
  have bl : (ps.map (lateP qs)).length = ps.length := List.length_map ..
  walk_at "go"
  refine ⟨b, h, ns, p, x0, s, ms, G, ps.map (lateP qs), rfl, c10.B, c10.hp, c10.nx, c10.l1, c10.l7, c10.hs, c10.nm, hlG, vb, by omega, by omega, fun g2 H11 k11 B11 hg2 => ?_⟩
  have c11 := c10.k k11 B11
  have hg11 := (hg9.k (Keep.of e10)).k k11
  have ho11 := (ho9.k (Keep.of e10)).k k11
  have hlG11 := PrL.k hlG k11
  have hL11 := LI.k (LI.k hL (Keep.of e10)) k11
  have ql : qs.length = x0.length := by rw [pq.length_eq]; exact c.kl
  walk_at "go"
  refine ⟨z, _, L, qs, rfl, c11.hz, c.nz, hL11, line_nd pz, line_lt pz, by omega, by omega, fun o2 H12 e12 ho2 => ?_⟩
  have is2 := line_isort c.sx pz
  walk_at "go"
  refine ⟨g2, o2, _, _, _, rfl, hg2.k (Keep.of e12), ho2, is2, fun H13 e13 => ?_⟩
  rw [unborne_due c.nz.nd vz (line_lt pz), due_nil late_led, decide_eq_true rfl]
  walk_at "go"
  refine ⟨_, _, rfl, sm_bl _, fun H14 e14 => ?_⟩
  have e114 := (e12.trans e13).trans e14
  walk_at "go"
  refine ⟨g2, _, _, rfl, hg2.k (Keep.of e114), fun H15 e15 => ?_⟩
  rw [(stands_iff c.nz.nd vz (by omega)).mpr ⟨qs, pz, late_led⟩]
  walk_at "go"
  refine ⟨_, _, rfl, sm_bl _, fun H16 e16 => ?_⟩
  have e116 := (e114.trans e15).trans e16
  have k116 := Keep.of e116
  have c16 := c11.e e116
  walk_at "go"
  refine ⟨g2, z, s, G, i, _, ms, _, ks, rfl, hg2.k k116, c16.hz, c16.hs, PrL.k hlG11 k116, by omega, by omega, vz, c16.hi, c.pz, fun H17 e17 => ?_⟩
  walk_at "go"
  have k117 := Keep.of (e116.trans e17)
  exact rd_law_c T (c16.e e17) (hg11.k k117) (ho11.k k117) nxt
end
end Fd
set_option Elab.async false
set_option linter.all false
set_option maxRecDepth 100000
set_option maxHeartbeats 4000000
/-! ### FdLawA: law -/
namespace Fd
open PySem PySem.Spec PyProof.Rows L2 SX
def sp_law (a : Ax) : Sp := fun vs H Q _ => ∃ s, ∃ ns : List Int, vs = [.ref s] ∧ SqL a.K H s (ns.map V.int) ∧ LamX.Tabs a.tb H ∧ ∀ H', Q (.bl true) H'
section
local macro_rules | `(tactic| walk_at "sm") => `(tactic| first | exact Same.refl _ | assumption | (refine Same.new ?_ ‹_›; walk_at "sm") | (refine Same.trans ?_ ‹Same _ _›; walk_at "sm"))
local macro_rules | `(tactic| walk_at "s1") => `(tactic| first
  | with_reducible refine g_seq ?_ | with_reducible refine g_asg ?_ | with_reducible refine g_name ?_ | with_reducible refine g_cons ?_ | with_reducible refine g_nil ?_
  | ((with_reducible refine k_var ?_); refine ⟨_, rfl, ?_⟩) | with_reducible refine g_c ?_ | with_reducible refine g_op ?_ | with_reducible refine g_un ?_
  | with_reducible refine g_cb ?_ | with_reducible refine g_call ?_ | with_reducible refine g_ifS ?_ | with_reducible refine g_if ?_ | with_reducible refine g_tB ?_ | with_reducible refine g_test ?_
  | with_reducible refine k_bl ?_ | with_reducible refine k_iteT ?_ | with_reducible refine k_iteF ?_ | with_reducible refine k_iteNT ?_ | with_reducible refine k_iteNF ?_
  | with_reducible refine g_and ?_ | with_reducible refine g_or ?_ | with_reducible refine g_not ?_ | with_reducible refine g_andV ?_ | with_reducible refine g_orV ?_ | with_reducible refine g_notV ?_ | with_reducible refine g_yes ?_)
local macro_rules | `(tactic| walk_at "s2") => `(tactic| first
  | with_reducible refine g_ret ?_ | with_reducible refine g_drop ?_ | with_reducible refine g_next ?_ | with_reducible refine k_retN ?_
  | ((with_reducible refine k_I0 ?_); refine ⟨_, _, rfl, rfl, ?_⟩) | ((with_reducible refine k_U ?_); refine ⟨_, rfl, ?_⟩) | ((with_reducible refine k_eq ?_); refine ⟨rfl, ?_⟩) | ((with_reducible refine k_ne ?_); refine ⟨rfl, ?_⟩)
  | ((with_reducible refine k_isN ?_); refine ⟨rfl, ?_⟩) | ((with_reducible refine k_notN ?_); refine ⟨rfl, ?_⟩) | with_reducible refine k_chain ?_ | with_reducible refine k_fld ?_ | with_reducible refine k_sfld ?_
  | with_reducible refine k_tup ?_ | with_reducible refine k_lst ?_ | with_reducible refine k_meth ?_ | with_reducible refine k_bm ?_ | with_reducible refine k_bm0 ?_ | with_reducible refine k_m1 ?_ | with_reducible refine k_fmt ?_ | with_reducible refine k_joined ?_
  | with_reducible refine k_js0 ?_ | with_reducible refine k_js1 ?_ | with_reducible refine k_mkR ?_ | with_reducible refine k_sl ?_ | with_reducible refine k_part ?_ | with_reducible refine k_nopart ?_ | with_reducible refine k_gtup ?_
  | ((with_reducible refine k_aug ?_); refine ⟨_, rfl, ?_⟩) | ((with_reducible refine k_ipI ?_); refine ⟨_, _, rfl, rfl, ?_⟩) | with_reducible refine k_par ?_ | with_reducible refine k_din ?_ | with_reducible refine k_dnin ?_ | with_reducible refine k_dput ?_
  | with_reducible refine g_gcons ?_ | with_reducible refine g_gnil ?_ | with_reducible refine k_cval ?_ | with_reducible refine k_dnew ?_ | with_reducible refine k_isS ?_ | with_reducible refine k_int ?_ | with_reducible refine k_lcL ?_ | with_reducible refine k_lcT ?_ | with_reducible refine k_lcQ ?_ | with_reducible refine k_lcS ?_ | with_reducible refine k_lcR ?_ | with_reducible refine k_forL ?_ | with_reducible refine k_forT ?_ | with_reducible refine k_forQ ?_ | with_reducible refine k_forS ?_ | with_reducible refine k_forR ?_ | with_reducible refine k_forE ?_ | with_reducible refine k_forET ?_ | with_reducible refine k_forI ?_ | with_reducible refine k_star ?_ | with_reducible refine k_dcL ?_ | with_reducible refine k_listItems ?_ | with_reducible refine k_dget ?_ | ((with_reducible refine k_wipe ?_ ?_); exact rfl))
local macro_rules | `(tactic| walk_at "go") => `(tactic| repeat (first | walk_at "s1" | walk_at "s2"))
variable {a : Ax} {mg : Str → Option Value} (T : Top a mg) {vs : List V} {H : Hp} {Q : VK} {E : XK}
include T
theorem rd_law (hh : sp_law a vs H Q E) : t_law a { nx := fun _ H' => Q .non H', rt := Q } (start n_law vs) H := by
  obtain ⟨s0, ns0, rfl, hs0, tb, q⟩ := hh
  have lb := line_big
  unfold t_law
  walk_at "go"
  refine ⟨s0, ns0, rfl, hs0, fun b h ns H1 e1 B1 => ?_⟩
  have tb1 := tabs_same e1 tb
  walk_at "go"
  refine ⟨_, rfl, by decide, by decide, ?_⟩
  refine for_range (fun j σ H' => Bag b h ns H' ∧ LamX.Tabs a.tb H' ∧ St0 s0 b σ) ⟨B1, tb1, ⟨_, _, _, _, _, _, _, _, _, _, _, _, _, _, _, _, _, _, _, rfl⟩⟩ (fun j σ H2 hj cc => ?_) fun σ H2 cc => ?_
  · obtain ⟨B2, tb2, u2, u3, u4, u5, u6, u7, u8, u9, u10, u11, u12, u13, u14, u15, u16, u17, u18, u19, u20, rfl⟩ := cc
    walk_at "go"
    refine ⟨by rw [lb]; simp, fun P hP => ?_⟩
    have e3 : Same H2 (upd H2 P (.lst [.int 3, .int 4, .int 5, .int 2, .int 6, .int 3, .int 7, .int 4, .int 1])) := Same.new (Same.refl _) hP
    have P3 : upd H2 P (.lst [.int 3, .int 4, .int 5, .int 2, .int 6, .int 3, .int 7, .int 4, .int 1]) P = some (.lst [.int 3, .int 4, .int 5, .int 2, .int 6, .int 3, .int 7, .int 4, .int 1]) := upd_same
    generalize upd H2 P (.lst [.int 3, .int 4, .int 5, .int 2, .int 6, .int 3, .int 7, .int 4, .int 1]) = H3 at *
    refine ⟨b, h, ns, _, rfl, B2.same e3, .inr ⟨P, _, rfl, P3, fun _ _ _ _ _ z => (nomatch z), by decide, by simp, fun v H4 hv B4 k4 => ?_⟩⟩
    have hn : ∃ n : Nat, 1 ≤ n ∧ n ≤ 7 ∧ v = .int (n : Nat) := by
      simp only [List.mem_cons, List.not_mem_nil, or_false] at hv
      rcases hv with h | h | h | h | h | h | h | h | h
      · exact ⟨3, by decide, by decide, h⟩
      · exact ⟨4, by decide, by decide, h⟩
      · exact ⟨5, by decide, by decide, h⟩
      · exact ⟨2, by decide, by decide, h⟩
      · exact ⟨6, by decide, by decide, h⟩
      · exact ⟨3, by decide, by decide, h⟩
      · exact ⟨7, by decide, by decide, h⟩
      · exact ⟨4, by decide, by decide, h⟩
      · exact ⟨1, by decide, by decide, h⟩
    obtain ⟨n, n1, n7, rfl⟩ := hn
    have k24 := (Keep.of e3).trans k4
    walk_at "go"
    refine ⟨by rw [lb]; simp, fun P2 hP2 => ?_⟩
    have e5 : Same H4 (upd H4 P2 (.lst [.int 7, .int 5, .int 7, .int 3, .int 7, .int 7, .int 40])) := Same.new (Same.refl _) hP2
    have P5 : upd H4 P2 (.lst [.int 7, .int 5, .int 7, .int 3, .int 7, .int 7, .int 40]) P2 = some (.lst [.int 7, .int 5, .int 7, .int 3, .int 7, .int 7, .int 40]) := upd_same
    generalize upd H4 P2 (.lst [.int 7, .int 5, .int 7, .int 3, .int 7, .int 7, .int 40]) = H5 at *
    refine ⟨b, h, ns, _, rfl, B4.same e5, .inr ⟨P2, _, rfl, P5, fun _ _ _ _ _ z => (nomatch z), by decide, by simp, fun v H6 hv B6 k6 => ?_⟩⟩
    have hm : ∃ n : Nat, n ≤ 40 ∧ v = .int (n : Nat) := by
      simp only [List.mem_cons, List.not_mem_nil, or_false] at hv
      rcases hv with h | h | h | h | h | h | h
      · exact ⟨7, by decide, h⟩
      · exact ⟨5, by decide, h⟩
      · exact ⟨7, by decide, h⟩
      · exact ⟨3, by decide, h⟩
      · exact ⟨7, by decide, h⟩
      · exact ⟨7, by decide, h⟩
      · exact ⟨40, by decide, h⟩
    obtain ⟨mo, m40, rfl⟩ := hm
    have tb6 := tabs_keep ((k24.trans (Keep.of e5)).trans k6) tb2
    walk_at "go"
    refine ⟨_, _, rfl, ?_⟩
    walk_at "go"
    refine ⟨b, h, ns, n, rfl, B6, n1, n7, fun p x0 H7 k7 B7 hp nx xl => ?_⟩
    subst xl
    have tb7 := tabs_keep k7 tb6
    walk_at "go"
    refine sorted_of (xs := x0) (.inl (.inl hp)) nx.nd (by omega) fun z hz => ?_
    have e8 : Same H7 (upd H7 z (.lst ((isort x0).map V.str))) := Same.new (Same.refl _) hz
    have z8 : LS (upd H7 z (.lst ((isort x0).map V.str))) z (isort x0) := upd_same
    generalize upd H7 z (.lst ((isort x0).map V.str)) = H8 at *
    have k8 := Keep.of e8
    walk_at "go"
    refine ⟨b, h, ns, p, x0, 40, rfl, B7.same e8, LS.k' hp k8, nx, n7, by decide, fun s ms H9 k9 B9 hs nm m40' => ?_⟩
    have hp9 := LS.k' (LS.k' hp k8) k9
    have hz9 := LS.k' z8 k9
    have tb9 := tabs_keep (k8.trans k9) tb7
    walk_at "go"
    refine ⟨by rw [lb]; simp, fun t ht => ?_⟩
    have e10 : Same H9 (upd H9 t (.tup [.ref z, .ref s])) := Same.new (Same.refl _) ht
    have k10 := Keep.of e10
    have t10 : upd H9 t (.tup [.ref z, .ref s]) t = some (.tup [.ref z, .ref s]) := upd_same
    generalize upd H9 t (.tup [.ref z, .ref s]) = H10 at *
    walk_at "go"
    refine ⟨t, _, rfl, .inl (.inl t10), rfl, ?_⟩
    walk_at "go"
    refine ⟨_, rfl, by omega, by omega, ?_⟩
    rw [Int.toNat_natCast]
    refine lR (fun i => (List.range i).map fun k => V.int (k : Nat)) rfl (fun j v D H11 hD hv e hd => ?_) fun L0 H11 hL0 e11 hd => ?_
    · obtain ⟨hj, rfl⟩ := hv
      rw [Int.zero_add]
      walk_at "go"
      exact lc_add e hD hd (by rw [List.length_map, List.length_range]; omega) (by rw [List.range_succ, List.map_append] <;> rfl)
    have k11 := k10.trans (Keep.of e11)
    have B11 := (B9.same e10).same e11
    walk_at "go"
    refine ⟨b, h, ns, L0, _, rfl, B11, .inl hd, hom_nats _, by rw [List.length_map, List.length_range]; omega, fun i ys H12 k12 B12 nL hL pL => ?_⟩
    obtain ⟨ks, rfl, pk⟩ := nats_perm pL
    have hi : LI H12 i ks := hL
    have k912 := k11.trans k12
    walk_at "go"
    refine ⟨b, h, ns, x0.length, 0, mo, i, ks, rfl, B12, n7, Nat.zero_le _, by omega, hi, fun l ps H13 k13 B13 hl vp _ hle led => ?_⟩
    have k913 := k912.trans k13
    have c13 : LC a b h ns p z s i l x0 ms ks ps H13 := ⟨B13, tabs_keep k913 tb9, LS.k' hp9 k913, nx, n1, n7, LS.k' hz9 k913, LS.k' hs k913, nm, m40', LI.k hi k13, pk, hl, vp, led, by omega⟩
    walk_at "go"
    refine ⟨b, h, ns, p, x0, s, ms, l, ps, rfl, B13, c13.hp, nx, n1, n7, c13.hs, nm, hl, vp, by omega, by omega, fun g H14 k14 B14 hg => ?_⟩
    have c14 := c13.k k14 B14
    obtain ⟨dx, tz, dz, rs, g1, gr⟩ := hg
    have hg : BookAt a H14 g (isort x0) (recsOf (isort x0) ms ps) := ⟨dx, tz, dz, rs, g1, gr⟩
    clear gr
    walk_at "go"
    refine ⟨g, dx, _, rfl, g1, rfl, ?_⟩
    walk_at "go"
    refine ⟨g, _, _, rfl, hg, fun H15 e15 => ?_⟩
    have c15 := c14.e e15
    walk_at "go"
    refine ⟨z, _, i, ks, rfl, c15.hz, c15.nz, c15.hi, line_nd c15.pz, line_lt c15.pz, by rw [c15.kl]; omega, by rw [c15.kl]; omega, fun o H16 e16 ho => ?_⟩
    walk_at "go"
    refine ⟨_, _, rfl, ?_⟩
    exact rd_law_b T (c15.e e16) (hg.k (Keep.of (e15.trans e16))) ho fun σ' H' B' t' st => ⟨B', t', st⟩
  · obtain ⟨B2, tb2, u2, u3, u4, u5, u6, u7, u8, u9, u10, u11, u12, u13, u14, u15, u16, u17, u18, u19, u20, rfl⟩ := cc
    walk_at "go"
    exact q H2
end
end Fd
set_option Elab.async false
set_option linter.all false
set_option maxRecDepth 100000
set_option maxHeartbeats 4000000
/-! ### FdLast: the last two promises, kept (printed by mklast.py) -/
namespace Fd
open PySem PySem.Spec PyProof.Rows L2 SX
/-- a def whose code object is known -/
structure DfC (K : KF) (mg : Str → Option Value) (x : Str) (st : Stmt) (c : Addr) : Prop where
  ex : ∃ f fd, FunD K x x (C8.fnArgs st) (C8.fnBody st) (defScope st) [] [] f fd ∧ mg x = some (.ref f) ∧ ∀ c', fd.code = .ref c' → c' = c
section
variable {P : Program} {w : World} {mg : Str → Option Value} {base : Heap} {a : Ax}
theorem ok_law_others_so (T : Top a mg) {c Pt : Addr} (TB : LamX.TabB base mg c Pt) (ht : a.tb = [(Pt, QL)]) (DC : DfC a.K mg "_law_others_so" s_law_others_so c) : Cal P w a.K mg base 7 "_law_others_so" (sp_law_others_so a) := by
  obtain ⟨f, fd, F, hm, hc⟩ := DC.ex
  obtain ⟨ff, fdf, psf, Ff, mf, kf, bf'⟩ := ok_fits_x (P := P) (w := w) (base := base) T
  obtain ⟨fu, fdu, psu, Fu, mu, ku, bu⟩ := ok_unborne_x (P := P) (w := w) (base := base) T
  refine ⟨f, fd, ["_law_bag_here", "_law_page_here", "_law_names_z"], ?_, hm, F.kp, F.bindsN (fun _ _ _ _ _ _ us h => match us, h with | [_, _, _], _ => rfl)⟩
  obtain ⟨oc, od, dV, kV, doc, pm, an, cdv, ct, osl, rfl, lk, hcd, hD, hK⟩ := F.ex
  obtain ⟨c', rfl⟩ := He.codeIn_ref hcd
  obtain rfl := hc c' rfl
  refine L2.fn_of (k := 6) lk hcd sc_law_others_so (fun vs H Q E h => by obtain ⟨_, _, _, _, _, _, _, e, _⟩ := h; rw [e] <;> rfl) fun A outer s H vs Q E hr h => ⟨t_law_others_so a, PSs.nox ?_, rd_law_others_so T h⟩
  exact (pss_cons (ps_par (i := 3) (j := 4) rfl sc_law_others_so.nd rfl rfl (by decide) rfl rfl (pa_cons (pc (ok_law_mixed T) hr (pa_cons (pv 0) (pa_cons (pv 2) pa_nil))) (pa_cons (pc (ok_law_stranger T) hr (pa_cons (pv 0) (pa_cons (pv 2) pa_nil))) pa_nil)) (by rfl))
    (pss_cons (ps_set (i := 5) sc_law_others_so.nd rfl (Or.inl rfl) (pc (ok_law_take T) hr (pa_cons (pv 0) (pa_cons (bf c_lenQ T.b_len (pa_cons (pv 3) pa_nil)) pa_nil))))
    (pss_cons (ps_set (i := 6) sc_law_others_so.nd rfl (Or.inl rfl) (pe_lst (pa_cons (pe_op op_cat (pe_op op_cat (pe_slice sl_list (pv 3) po_none (po_some (pv 5))) (pe_lst (pa_cons (pv 4) pa_nil))) (pe_slice sl_list (pv 3) (po_some (pe_op op_add (pv 5) pe_int)) po_none)) pa_nil)))
    (C8.pss_cut (ps_if (pt_cmpR op_gt (bf c_lenQ T.b_len (pa_cons (pv 3) pa_nil)) pe_int (nomark _))
      (pss_one (ps_expr (pe_bm PySem.F.plainAttrs_list PySem.F.slot_list_append PySem.F.type_list_append mt_append (pv 6) (pa_cons (pe_op op_cat (pe_slice sl_list (pv 3) po_none (po_some (pv 5))) (pe_slice sl_list (pv 3) (po_some (pe_op op_add (pv 5) pe_int)) po_none)) pa_nil))))
      pss_nil)
    (C8.pss_cut (ps_if (pt_cmpR op_lt (bf c_lenQ T.b_len (pa_cons (pv 3) pa_nil)) pe_int (nomark _))
      (pss_one (ps_expr (pe_bm PySem.F.plainAttrs_list PySem.F.slot_list_append PySem.F.type_list_append mt_append (pv 6) (pa_cons (pe_op op_cat (pe_op op_cat (pe_slice sl_list (pv 3) po_none (po_some (pv 5))) (pe_lst (pa_cons (pv 4) pa_nil))) (pe_slice sl_list (pv 3) (po_some (pv 5)) po_none)) pa_nil))))
      pss_nil)
    (pss_cons (ps_for PassesOwn.never rfl (pi_list (pv 6)) (pg_name (i := 7) sc_law_others_so.nd rfl (Or.inl rfl))
      (pss_cons (ps_set (i := 8) sc_law_others_so.nd rfl (Or.inr rfl) (pc (ok_law_line T) hr (pa_cons (pv 7) (pa_cons (pe_lc (own := [("_law_k", 9)]) (g := (gName 9)) rfl sc_law_others_so.nd (pi_range1 rfl T.b_range (pa_cons (bf c_lenA T.b_len (pa_cons (pv 7) pa_nil)) pa_nil)) (blkOk_by (own := [("_law_k", 9)]) (N := n_law_others_so) (sc := defScope s_law_others_so) (by decide +kernel)) (fun _ _ _ _ _ => (pg_name (i := 9) sc_law_others_so.nd rfl (Or.inl rfl))) (fun _ _ _ _ _ => pts_nil) (fun _ _ _ _ _ => (pv 9))) pa_nil))))
      (pss_cons (ps_if (pt_not (pt_val (pc (ok_law_same T 3) hr (pa_cons (gotc (j := 0) T TB ht hr (by rfl) (by rfl) (fun A outer s H E f c' hr2 => pe_call Ff (hr2.mono (by decide)) rfl mf kf bf' .nil (passes_call (takes_of rfl rfl rfl rfl) (fun _ _ _ _ h => h)) (pa_cons (pv 1) (pa_cons (pv 8) pa_nil)))) (pa_cons (pe_tup (pa_cons pe_str (pa_cons pe_non pa_nil))) pa_nil)))))
        (pss_one (ps_ret pe_bl))
        pss_nil)
      (pss_one (ps_if (pt_not (pt_val (pc (ok_law_same T 3) hr (pa_cons (gotc (j := 0) T TB ht hr (by rfl) (by rfl) (fun A outer s H E f c' hr2 => pe_call Fu (hr2.mono (by decide)) rfl mu ku bu .nil (passes_call (takes_of rfl rfl rfl rfl) (fun _ _ _ _ h => h)) (pa_cons (pv 1) (pa_cons (pv 8) pa_nil)))) (pa_cons (pe_tup (pa_cons pe_str (pa_cons pe_non pa_nil))) pa_nil)))))
        (pss_one (ps_ret pe_bl))
        pss_nil)))))
    (pss_one (ps_ret pe_bl))))))))
theorem ok_law (T : Top a mg) {c Pt : Addr} (TB : LamX.TabB base mg c Pt) (ht : a.tb = [(Pt, QL)]) (DC : DfC a.K mg "_law_others_so" s_law_others_so c) {f : Addr} {fd : FuncData} (F : FunD a.K "law" "law" (C8.fnArgs s_law) (C8.fnBody s_law) (defScope s_law) [] [] f fd) : FnOk P w a.K mg base L2.CX0 11 f fd ["_law_script"] (sp_law a) := by
  refine fn_body F sc_law (fun vs H Q E h => by obtain ⟨_, _, e, _⟩ := h; rw [e] <;> rfl) fun f cdv A outer s H vs Q E hr h => ⟨t_law a, ?_, rd_law T h⟩
  exact (pss_cons (ps_set (i := 1) sc_law.nd rfl (Or.inr rfl) (pc (ok_law_bag T) hr (pa_cons (pv 0) pa_nil)))
    (pss_cons (ps_for PassesOwn.never rfl (pi_range1 rfl T.b_range (pa_cons pe_int pa_nil)) (pg_name (i := 2) sc_law.nd rfl (Or.inl rfl))
      (pss_cons (ps_par (i := 3) (j := 4) rfl sc_law.nd rfl rfl (by decide) rfl rfl (pa_cons (pc (ok_law_pick T) hr (pa_cons (pv 1) (pa_cons (pe_lst (pa_cons pe_int (pa_cons pe_int (pa_cons pe_int (pa_cons pe_int (pa_cons pe_int (pa_cons pe_int (pa_cons pe_int (pa_cons pe_int (pa_cons pe_int pa_nil)))))))))) pa_nil))) (pa_cons (pc (ok_law_pick T) hr (pa_cons (pv 1) (pa_cons (pe_lst (pa_cons pe_int (pa_cons pe_int (pa_cons pe_int (pa_cons pe_int (pa_cons pe_int (pa_cons pe_int (pa_cons pe_int pa_nil)))))))) pa_nil))) pa_nil)) (by rfl))
      (pss_cons (ps_set (i := 5) sc_law.nd rfl (Or.inl rfl) (pc (ok_law_names T) hr (pa_cons (pv 1) (pa_cons (pv 3) pa_nil))))
      (pss_cons (ps_asg (pe_tup (pa_cons (bf cr_sortedS T.b_sorted (pa_cons (pv 5) pa_nil)) (pa_cons (pc (ok_law_marks T) hr (pa_cons (pv 1) (pa_cons (pv 5) (pa_cons pe_int pa_nil)))) pa_nil))) (pg_tup rfl (pgs_cons (pg_name (i := 6) sc_law.nd rfl (Or.inl rfl)) (pgs_cons (pg_name (i := 7) sc_law.nd rfl (Or.inr rfl)) pgs_nil))))
      (pss_cons (ps_set (i := 8) sc_law.nd rfl (Or.inl rfl) (pc (ok_law_mixed T) hr (pa_cons (pv 1) (pa_cons (pe_lc (own := [("_law_k", 13)]) (g := (gName 13)) rfl sc_law.nd (pi_range1 rfl T.b_range (pa_cons (pv 3) pa_nil)) (blkOk_by (own := [("_law_k", 13)]) (N := n_law) (sc := defScope s_law) (by decide +kernel)) (fun _ _ _ _ _ => (pg_name (i := 13) sc_law.nd rfl (Or.inl rfl))) (fun _ _ _ _ _ => pts_nil) (fun _ _ _ _ _ => (pv 13))) pa_nil))))
      (pss_cons (ps_set (i := 9) sc_law.nd rfl (Or.inr rfl) (pc (ok_law_drawn T) hr (pa_cons (pv 1) (pa_cons (pv 3) (pa_cons pe_int (pa_cons (pv 4) (pa_cons (pv 8) pa_nil)))))))
      (pss_cons (ps_set (i := 10) sc_law.nd rfl (Or.inl rfl) (pc (ok_law_built T) hr (pa_cons (pv 1) (pa_cons (pv 5) (pa_cons (pv 7) (pa_cons (pv 9) pa_nil))))))
      (pss_cons (ps_par (i := 11) (j := 12) rfl sc_law.nd rfl rfl (by decide) rfl rfl (pa_cons (pmt0 (ok_book_text T) hr (pv 10)) (pa_cons (pc (ok_law_line T) hr (pa_cons (pv 6) (pa_cons (pv 8) pa_nil))) pa_nil)) (by rfl))
      (pss_cons (ps_if (pt_not (pt_val (pc (ok_law_same T 3) hr (pa_cons (pe_lst (pa_cons (pc (ok_stands T) hr (pa_cons (pv 10) pa_nil)) (pa_cons (pc (ok_fits T) hr (pa_cons (pv 10) (pa_cons (pv 12) pa_nil))) (pa_cons (pc (ok_unborne T) hr (pa_cons (pv 10) (pa_cons (pv 12) pa_nil))) pa_nil)))) (pa_cons (pe_lst (pa_cons pe_bl (pa_cons pe_bl (pa_cons (pe_tup pa_nil) pa_nil)))) pa_nil)))))
        (pss_one (ps_ret pe_bl))
        pss_nil)
      (pss_cons (ps_for PassesOwn.never rfl (pi_range1 rfl T.b_range (pa_cons pe_int pa_nil)) (pg_name (i := 13) sc_law.nd rfl (Or.inl rfl))
        (pss_one (ps_if (pt_not (pt_val (pc (ok_law_line_so T) hr (pa_cons (pv 10) (pa_cons (pv 6) (pa_cons (pv 7) (pa_cons (pv 9) (pa_cons (pc (ok_law_mixed T) hr (pa_cons (pv 1) (pa_cons (pv 8) pa_nil))) pa_nil))))))))
          (pss_one (ps_ret pe_bl))
          pss_nil)))
      (pss_cons (ps_set (i := 14) sc_law.nd rfl (Or.inr rfl) (pc (ok_law_mixed T) hr (pa_cons (pv 1) (pa_cons (pv 8) pa_nil))))
      (pss_cons (ps_setLc (i := 15) (own := [("_law_pair", 20)]) (g := (gName 20)) rfl sc_law.nd rfl rfl (sw_true rfl rfl rfl (by decide +kernel)) (pi_list (pv 9)) (blkOk_by (own := [("_law_pair", 20)]) (N := n_law) (sc := defScope s_law) (by decide +kernel)) (fun _ _ _ _ _ => (pg_name (i := 20) sc_law.nd rfl (Or.inl rfl))) (fun _ _ _ _ _ => pts_nil) (fun _ _ _ _ _ => (pe_ifExp (pt_val (pc (ok_law_leads T) hr (pa_cons (pv 14) (pa_cons (pv 20) pa_nil)))) (pv 20) (pe_tup (pa_cons (pe_ix ix_tup (pv 20) pe_int (fun _ _ => rfl)) (pa_cons (pe_ix ix_tup (pv 20) pe_int (fun _ _ => rfl)) pa_nil))))))
      (pss_cons (ps_set (i := 16) sc_law.nd rfl (Or.inl rfl) (pc (ok_law_built T) hr (pa_cons (pv 1) (pa_cons (pv 5) (pa_cons (pv 7) (pa_cons (pv 15) pa_nil))))))
      (pss_cons (ps_if (pt_not (pt_val (pc (ok_law_same T 3) hr (pa_cons (pc (ok_fits T) hr (pa_cons (pv 16) (pa_cons (pc (ok_law_line T) hr (pa_cons (pv 6) (pa_cons (pv 14) pa_nil))) pa_nil))) (pa_cons pe_bl pa_nil)))))
        (pss_one (ps_ret pe_bl))
        pss_nil)
      (pss_cons (ps_if (PW.pt (pw_or (pt_not (pt_val (pc (ok_law_same T 3) hr (pa_cons (pc (ok_stands T) hr (pa_cons (pv 16) pa_nil)) (pa_cons pe_bl pa_nil))))) (pw_or1 (pt_not (pt_val (pc (ok_law_line_so T) hr (pa_cons (pv 16) (pa_cons (pv 6) (pa_cons (pv 7) (pa_cons (pv 15) (pa_cons (pv 8) pa_nil)))))))))))
        (pss_one (ps_ret pe_bl))
        pss_nil)
      (pss_cons (ps_set (i := 17) sc_law.nd rfl (Or.inr rfl) (pe_lc (own := [("_law_k", 13)]) (g := (gName 13)) rfl sc_law.nd (pi_range1 rfl T.b_range (pa_cons (bf c_lenQ T.b_len (pa_cons (pv 9) pa_nil)) pa_nil)) (blkOk_by (own := [("_law_k", 13)]) (N := n_law) (sc := defScope s_law) (by decide +kernel)) (fun _ _ _ _ _ => (pg_name (i := 13) sc_law.nd rfl (Or.inl rfl))) (fun _ _ _ _ _ => pts_nil) (fun _ _ _ _ _ => (pe_cmpR op_eq (pc (ok_law_take T) hr (pa_cons (pv 1) (pa_cons pe_int pa_nil))) pe_int (nomark _)))))
      (pss_cons (ps_setLc (i := 18) (own := [("_law_k", 13)]) (g := (gName 13)) rfl sc_law.nd rfl rfl (sw_true rfl rfl rfl (by decide +kernel)) (pi_range1 rfl T.b_range (pa_cons (bf c_lenQ T.b_len (pa_cons (pv 9) pa_nil)) pa_nil)) (blkOk_by (own := [("_law_k", 13)]) (N := n_law) (sc := defScope s_law) (by decide +kernel)) (fun _ _ _ _ _ => (pg_name (i := 13) sc_law.nd rfl (Or.inl rfl))) (fun _ _ _ _ _ => pts_nil) (fun _ _ _ _ _ => (pe_ifExp (pt_val (pe_ix ix_list (pv 17) (pv 13) (fun _ _ => rfl))) (pe_tup (pa_cons (pe_ix ix_tup (pe_ix ix_list (pv 9) (pv 13) (fun _ _ => rfl)) pe_int (fun _ _ => rfl)) (pa_cons (pe_ix ix_tup (pe_ix ix_list (pv 9) (pv 13) (fun _ _ => rfl)) pe_int (fun _ _ => rfl)) pa_nil))) (pe_ix ix_list (pv 9) (pv 13) (fun _ _ => rfl)))))
      (pss_cons (ps_set (i := 16) sc_law.nd rfl (Or.inl rfl) (pc (ok_law_built T) hr (pa_cons (pv 1) (pa_cons (pv 5) (pa_cons (pv 7) (pa_cons (pv 18) pa_nil))))))
      (pss_cons (ps_set (i := 19) sc_law.nd rfl (Or.inl rfl) (bt c_tupQ T.b_tuple (pa_cons (pe_lc (own := [("_law_k", 13)]) (g := (gName 13)) rfl sc_law.nd (pi_range1 rfl T.b_range (pa_cons (bf c_lenQ T.b_len (pa_cons (pv 9) pa_nil)) pa_nil)) (blkOk_by (own := [("_law_k", 13)]) (N := n_law) (sc := defScope s_law) (by decide +kernel)) (fun _ _ _ _ _ => (pg_name (i := 13) sc_law.nd rfl (Or.inl rfl))) (fun _ _ _ _ _ => (pts_one (PW.pt (pw_and (pt_val (pe_ix ix_list (pv 17) (pv 13) (fun _ _ => rfl))) (pw_and1 (pt_cmpR (op_neD hr.units) (pe_ix ix_list (pv 9) (pv 13) (fun _ _ => rfl)) (pe_tup (pa_cons pe_int (pa_cons pe_int pa_nil))) (nomark _))))))) (fun _ _ _ _ _ => (pe_ix ix_list (pv 7) (pv 13) (fun _ _ => rfl)))) pa_nil)))
      (pss_cons (ps_if (pt_not (pt_val (pc (ok_law_same T 3) hr (pa_cons (pe_lst (pa_cons (pc (ok_unborne T) hr (pa_cons (pv 16) (pa_cons (pv 12) pa_nil))) (pa_cons (pc (ok_fits T) hr (pa_cons (pv 16) (pa_cons (pv 12) pa_nil))) pa_nil))) (pa_cons (pe_lst (pa_cons (pv 19) (pa_cons (pe_cmpR (op_eqD hr.units) (pv 19) (pe_tup pa_nil) (nomark _)) pa_nil))) pa_nil)))))
        (pss_one (ps_ret pe_bl))
        pss_nil)
      (C8.pss_cut (ps_if (PW.pt (pw_and (pt_cmpR op_lt (pv 3) pe_int (nomark _)) (pw_and1 (pt_not (pt_val (pc (ok_law_same T 3) hr (pa_cons (pc (ok_stands T) hr (pa_cons (pv 16) pa_nil)) (pa_cons (pe_cmpR (op_neD hr.units) (pc (ok_law_fitting T) hr (pa_cons (pc (ok_law_tries T) hr (pa_cons (pv 3) pa_nil)) (pa_cons (pv 18) pa_nil))) (pe_lst pa_nil) (nomark _)) pa_nil))))))))
        (pss_one (ps_ret pe_bl))
        pss_nil)
      (pss_cons (ps_if (pt_not (pt_val (pc (ok_law_others_so T TB ht DC) hr (pa_cons (pv 1) (pa_cons (pv 16) (pa_cons (pv 6) pa_nil))))))
        (pss_one (ps_ret pe_bl))
        pss_nil)
      (C8.pss_cut (ps_if (PW.pt (pw_and (pt_cmpR op_eq (pc (ok_law_take T) hr (pa_cons (pv 1) (pa_cons pe_int pa_nil))) pe_int (nomark _)) (pw_and1 (pt_not (pt_val (pc (ok_law_wide_so T) hr (pa_cons (pv 1) (pa_cons (pv 10) (pa_cons (pv 6) (pa_cons (pv 7) (pa_cons (pv 9) (pa_cons (pv 8) pa_nil))))))))))))
        (pss_one (ps_ret pe_bl))
        pss_nil)
      (pss_one (ps_if (pt_not (pt_val (pc (ok_law_same T 3) hr (pa_cons (pe_lst (pa_cons (pmt0 (ok_book_text T) hr (pv 10)) (pa_cons (pc (ok_unborne T) hr (pa_cons (pv 10) (pa_cons (pv 12) pa_nil))) pa_nil))) (pa_cons (pe_lst (pa_cons (pv 11) (pa_cons (pe_tup pa_nil) pa_nil))) pa_nil)))))
        (pss_one (ps_ret pe_bl))
        pss_nil)))))))))))))))))))))))))
    (pss_one (ps_ret pe_bl))))
end
end Fd
set_option Elab.async false
set_option linter.all false
set_option maxRecDepth 100000
set_option maxHeartbeats 4000000
/-! ### FdHeadF: what the head tells (printed by mkhead.py from FdHeadF.tpl) -/
namespace Fd
open PySem PySem.Spec PyProof.Rows L2 SX
/-- the data of the top -/
def axOf (K : KF) : Ax := ⟨K, He.ga K "Row", He.ga K "Order", He.ga K "Book", He.ga K "OtherReasons", tAd 0 K, tAd 1 K, [((He.cT K ("_law_others_so", none)).2, QL)]⟩
theorem top_of {K : KF} {h : Heap} {mg : Str → Option Value} {w : World} (X : K.In h) (G : h.Ns mainGlobals mg) (c : SaysS w h K) : Top (axOf K) mg where
  d_is_spelled := by
    obtain ⟨fd, F⟩ := c.fn_ 0 (d := dfD "is_spelled" (top 27))
    exact ⟨_, fd, F, (He.glo_ok X G (c.fa_ 0 (f := .glo "is_spelled")))⟩
  d_is_name := by
    obtain ⟨fd, F⟩ := c.fn_ 1 (d := dfD "is_name" (top 28))
    exact ⟨_, fd, F, (He.glo_ok X G (c.fa_ 1 (f := .glo "is_name")))⟩
  d_is_names := by
    obtain ⟨fd, F⟩ := c.fn_ 2 (d := dfD "is_names" (top 30))
    exact ⟨_, fd, F, (He.glo_ok X G (c.fa_ 2 (f := .glo "is_names")))⟩
  d_is_group := by
    obtain ⟨fd, F⟩ := c.fn_ 3 (d := dfD "is_group" (top 31))
    exact ⟨_, fd, F, (He.glo_ok X G (c.fa_ 3 (f := .glo "is_group")))⟩
  d_nth_mark := by
    obtain ⟨fd, F⟩ := c.fn_ 4 (d := dfD "nth_mark" (top 32))
    exact ⟨_, fd, F, (He.glo_ok X G (c.fa_ 4 (f := .glo "nth_mark")))⟩
  d_lines_of := by
    obtain ⟨fd, F⟩ := c.fn_ 5 (d := dfD "lines_of" (top 39))
    exact ⟨_, fd, F, (He.glo_ok X G (c.fa_ 5 (f := .glo "lines_of")))⟩
  d_is_record := by
    obtain ⟨fd, F⟩ := c.fn_ 6 (d := dfD "is_record" (top 42))
    exact ⟨_, fd, F, (He.glo_ok X G (c.fa_ 6 (f := .glo "is_record")))⟩
  d_stranger := by
    obtain ⟨fd, F⟩ := c.fn_ 7 (d := dfD "stranger" (top 43))
    exact ⟨_, fd, F, (He.glo_ok X G (c.fa_ 7 (f := .glo "stranger")))⟩
  d_book_with := by
    obtain ⟨fd, F⟩ := c.fn_ 8 (d := dfD "book_with" (top 45))
    exact ⟨_, fd, F, (He.glo_ok X G (c.fa_ 8 (f := .glo "book_with")))⟩
  d_head_flaw := by
    obtain ⟨fd, F⟩ := c.fn_ 9 (d := dfD "head_flaw" (top 46))
    exact ⟨_, fd, F, (He.glo_ok X G (c.fa_ 9 (f := .glo "head_flaw")))⟩
  d_record_of := by
    obtain ⟨fd, F⟩ := c.fn_ 10 (d := dfD "record_of" (top 47))
    exact ⟨_, fd, F, (He.glo_ok X G (c.fa_ 10 (f := .glo "record_of")))⟩
  d_record_flaw := by
    obtain ⟨fd, F⟩ := c.fn_ 11 (d := dfD "record_flaw" (top 48))
    exact ⟨_, fd, F, (He.glo_ok X G (c.fa_ 11 (f := .glo "record_flaw")))⟩
  d_full_mask := by
    obtain ⟨fd, F⟩ := c.fn_ 12 (d := dfD "full_mask" (top 50))
    exact ⟨_, fd, F, (He.glo_ok X G (c.fa_ 12 (f := .glo "full_mask")))⟩
  d_mask_of := by
    obtain ⟨fd, F⟩ := c.fn_ 13 (d := dfD "mask_of" (top 51))
    exact ⟨_, fd, F, (He.glo_ok X G (c.fa_ 13 (f := .glo "mask_of")))⟩
  d_side_masks := by
    obtain ⟨fd, F⟩ := c.fn_ 14 (d := dfD "side_masks" (top 52))
    exact ⟨_, fd, F, (He.glo_ok X G (c.fa_ 14 (f := .glo "side_masks")))⟩
  d_row_masks := by
    obtain ⟨fd, F⟩ := c.fn_ 15 (d := dfD "row_masks" (top 53))
    exact ⟨_, fd, F, (He.glo_ok X G (c.fa_ 15 (f := .glo "row_masks")))⟩
  d_blocked_mask := by
    obtain ⟨fd, F⟩ := c.fn_ 16 (d := dfD "blocked_mask" (top 54))
    exact ⟨_, fd, F, (He.glo_ok X G (c.fa_ 16 (f := .glo "blocked_mask")))⟩
  d_coming_mask := by
    obtain ⟨fd, F⟩ := c.fn_ 17 (d := dfD "coming_mask" (top 55))
    exact ⟨_, fd, F, (He.glo_ok X G (c.fa_ 17 (f := .glo "coming_mask")))⟩
  d_greatest_within := by
    obtain ⟨fd, F⟩ := c.fn_ 18 (d := dfD "greatest_within" (top 56))
    exact ⟨_, fd, F, (He.glo_ok X G (c.fa_ 18 (f := .glo "greatest_within")))⟩
  d_layered_mask := by
    obtain ⟨fd, F⟩ := c.fn_ 19 (d := dfD "layered_mask" (top 58))
    exact ⟨_, fd, F, (He.glo_ok X G (c.fa_ 19 (f := .glo "layered_mask")))⟩
  d_stands := by
    obtain ⟨fd, F⟩ := c.fn_ 20 (d := dfD "stands" (top 59))
    exact ⟨_, fd, F, (He.glo_ok X G (c.fa_ 20 (f := .glo "stands")))⟩
  d_unborne := by
    obtain ⟨fd, F⟩ := c.fn_ 21 (d := dfD "unborne" (top 22))
    exact ⟨_, fd, F, (He.glo_ok X G (c.fa_ 21 (f := .glo "unborne")))⟩
  d_fits := by
    obtain ⟨fd, F⟩ := c.fn_ 22 (d := dfD "fits" (top 23))
    exact ⟨_, fd, F, (He.glo_ok X G (c.fa_ 22 (f := .glo "fits")))⟩
  d_law_bag := by
    obtain ⟨fd, F⟩ := c.fn_ 23 (d := dfD "_law_bag" (top 61))
    exact ⟨_, fd, F, (He.glo_ok X G (c.fa_ 23 (f := .glo "_law_bag")))⟩
  d_law_take := by
    obtain ⟨fd, F⟩ := c.fn_ 24 (d := dfD "_law_take" (top 62))
    exact ⟨_, fd, F, (He.glo_ok X G (c.fa_ 24 (f := .glo "_law_take")))⟩
  d_law_pick := by
    obtain ⟨fd, F⟩ := c.fn_ 25 (d := dfD "_law_pick" (top 63))
    exact ⟨_, fd, F, (He.glo_ok X G (c.fa_ 25 (f := .glo "_law_pick")))⟩
  d_law_mixed := by
    obtain ⟨fd, F⟩ := c.fn_ 26 (d := dfD "_law_mixed" (top 64))
    exact ⟨_, fd, F, (He.glo_ok X G (c.fa_ 26 (f := .glo "_law_mixed")))⟩
  d_law_letters := by
    obtain ⟨fd, F⟩ := c.fn_ 27 (d := dfD "_law_letters" (top 65))
    exact ⟨_, fd, F, (He.glo_ok X G (c.fa_ 27 (f := .glo "_law_letters")))⟩
  d_law_signs := by
    obtain ⟨fd, F⟩ := c.fn_ 28 (d := dfD "_law_signs" (top 66))
    exact ⟨_, fd, F, (He.glo_ok X G (c.fa_ 28 (f := .glo "_law_signs")))⟩
  d_law_names := by
    obtain ⟨fd, F⟩ := c.fn_ 29 (d := dfD "_law_names" (top 67))
    exact ⟨_, fd, F, (He.glo_ok X G (c.fa_ 29 (f := .glo "_law_names")))⟩
  d_law_stranger := by
    obtain ⟨fd, F⟩ := c.fn_ 30 (d := dfD "_law_stranger" (top 68))
    exact ⟨_, fd, F, (He.glo_ok X G (c.fa_ 30 (f := .glo "_law_stranger")))⟩
  d_law_marks := by
    obtain ⟨fd, F⟩ := c.fn_ 31 (d := dfD "_law_marks" (top 69))
    exact ⟨_, fd, F, (He.glo_ok X G (c.fa_ 31 (f := .glo "_law_marks")))⟩
  d_law_fresh := by
    obtain ⟨fd, F⟩ := c.fn_ 32 (d := dfD "_law_fresh" (top 70))
    exact ⟨_, fd, F, (He.glo_ok X G (c.fa_ 32 (f := .glo "_law_fresh")))⟩
  d_law_group := by
    obtain ⟨fd, F⟩ := c.fn_ 33 (d := dfD "_law_group" (top 71))
    exact ⟨_, fd, F, (He.glo_ok X G (c.fa_ 33 (f := .glo "_law_group")))⟩
  d_law_sides := by
    obtain ⟨fd, F⟩ := c.fn_ 34 (d := dfD "_law_sides" (top 72))
    exact ⟨_, fd, F, (He.glo_ok X G (c.fa_ 34 (f := .glo "_law_sides")))⟩
  d_law_both := by
    obtain ⟨fd, F⟩ := c.fn_ 35 (d := dfD "_law_both" (top 73))
    exact ⟨_, fd, F, (He.glo_ok X G (c.fa_ 35 (f := .glo "_law_both")))⟩
  d_law_leads := by
    obtain ⟨fd, F⟩ := c.fn_ 36 (d := dfD "_law_leads" (top 74))
    exact ⟨_, fd, F, (He.glo_ok X G (c.fa_ 36 (f := .glo "_law_leads")))⟩
  d_law_drawn := by
    obtain ⟨fd, F⟩ := c.fn_ 37 (d := dfD "_law_drawn" (top 75))
    exact ⟨_, fd, F, (He.glo_ok X G (c.fa_ 37 (f := .glo "_law_drawn")))⟩
  d_law_row := by
    obtain ⟨fd, F⟩ := c.fn_ 38 (d := dfD "_law_row" (top 76))
    exact ⟨_, fd, F, (He.glo_ok X G (c.fa_ 38 (f := .glo "_law_row")))⟩
  d_law_page := by
    obtain ⟨fd, F⟩ := c.fn_ 39 (d := dfD "_law_page" (top 77))
    exact ⟨_, fd, F, (He.glo_ok X G (c.fa_ 39 (f := .glo "_law_page")))⟩
  d_law_words := by
    obtain ⟨fd, F⟩ := c.fn_ 40 (d := dfD "_law_words" (top 78))
    exact ⟨_, fd, F, (He.glo_ok X G (c.fa_ 40 (f := .glo "_law_words")))⟩
  d_law_text := by
    obtain ⟨fd, F⟩ := c.fn_ 41 (d := dfD "_law_text" (top 79))
    exact ⟨_, fd, F, (He.glo_ok X G (c.fa_ 41 (f := .glo "_law_text")))⟩
  d_law_line := by
    obtain ⟨fd, F⟩ := c.fn_ 42 (d := dfD "_law_line" (top 80))
    exact ⟨_, fd, F, (He.glo_ok X G (c.fa_ 42 (f := .glo "_law_line")))⟩
  d_law_tries := by
    obtain ⟨fd, F⟩ := c.fn_ 43 (d := dfD "_law_tries" (top 81))
    exact ⟨_, fd, F, (He.glo_ok X G (c.fa_ 43 (f := .glo "_law_tries")))⟩
  d_law_fitting := by
    obtain ⟨fd, F⟩ := c.fn_ 44 (d := dfD "_law_fitting" (top 82))
    exact ⟨_, fd, F, (He.glo_ok X G (c.fa_ 44 (f := .glo "_law_fitting")))⟩
  d_law_same := by
    obtain ⟨fd, F⟩ := c.fn_ 45 (d := dfD "_law_same" (top 83))
    exact ⟨_, fd, F, (He.glo_ok X G (c.fa_ 45 (f := .glo "_law_same")))⟩
  d_law_got := by
    obtain ⟨fd, F⟩ := c.fn_ 46 (d := dfD "_law_got" (top 84))
    exact ⟨_, fd, F, (He.glo_ok X G (c.fa_ 46 (f := .glo "_law_got")))⟩
  d_law_line_so := by
    obtain ⟨fd, F⟩ := c.fn_ 47 (d := dfD "_law_line_so" (top 85))
    exact ⟨_, fd, F, (He.glo_ok X G (c.fa_ 47 (f := .glo "_law_line_so")))⟩
  d_law_built := by
    obtain ⟨fd, F⟩ := c.fn_ 48 (d := dfD "_law_built" (top 86))
    exact ⟨_, fd, F, (He.glo_ok X G (c.fa_ 48 (f := .glo "_law_built")))⟩
  d_law_others_so := by
    obtain ⟨fd, F⟩ := c.fn_ 49 (d := dfD "_law_others_so" (top 87))
    exact ⟨_, fd, F, (He.glo_ok X G (c.fa_ 49 (f := .glo "_law_others_so")))⟩
  d_law_wide_so := by
    obtain ⟨fd, F⟩ := c.fn_ 50 (d := dfD "_law_wide_so" (top 88))
    exact ⟨_, fd, F, (He.glo_ok X G (c.fa_ 50 (f := .glo "_law_wide_so")))⟩
  d_law := by
    obtain ⟨fd, F⟩ := c.fn_ 51 (d := dfD "law" (top 89))
    exact ⟨_, fd, F, (He.glo_ok X G (c.fa_ 51 (f := .glo "law")))⟩
  d_row_sign := by
    obtain ⟨fd, F⟩ := c.fn_ 52 (d := dmD "Row" "sign" "Row.sign" (inClass (top 34) 3) [])
    exact ⟨_, fd, F, He.cls_ok (c.fa_ 52 (f := .cls "Row")), He.meth_ok (c.fa_ 53 (f := .meth "Row" "sign"))⟩
  d_row_text := by
    obtain ⟨fd, F⟩ := c.fn_ 53 (d := dmD "Row" "text" "Row.text" (inClass (top 34) 6) [])
    exact ⟨_, fd, F, He.cls_ok (c.fa_ 52 (f := .cls "Row")), He.meth_ok (c.fa_ 54 (f := .meth "Row" "text"))⟩
  d_order_decides := by
    obtain ⟨fd, F⟩ := c.fn_ 54 (d := dmD "Order" "decides" "Order.decides" (inClass (top 37) 4) [])
    exact ⟨_, fd, F, He.cls_ok (c.fa_ 55 (f := .cls "Order")), He.meth_ok (c.fa_ 56 (f := .meth "Order" "decides"))⟩
  d_order_bears := by
    obtain ⟨fd, F⟩ := c.fn_ 55 (d := dmD "Order" "bears" "Order.bears" (inClass (top 37) 5) [])
    exact ⟨_, fd, F, He.cls_ok (c.fa_ 55 (f := .cls "Order")), He.meth_ok (c.fa_ 57 (f := .meth "Order" "bears"))⟩
  d_book_records := by
    obtain ⟨fd, F⟩ := c.fn_ 56 (d := dmD "Book" "records" "Book.records" (inClass (top 44) 2) [])
    exact ⟨_, fd, F, He.cls_ok (c.fa_ 58 (f := .cls "Book")), He.meth_ok (c.fa_ 59 (f := .meth "Book" "records"))⟩
  d_book_rows := by
    obtain ⟨fd, F⟩ := c.fn_ 57 (d := dmD "Book" "rows" "Book.rows" (inClass (top 44) 4) [])
    exact ⟨_, fd, F, He.cls_ok (c.fa_ 58 (f := .cls "Book")), He.meth_ok (c.fa_ 60 (f := .meth "Book" "rows"))⟩
  d_book_grown := by
    obtain ⟨fd, F⟩ := c.fn_ 58 (d := dmD "Book" "grown" "Book.grown" (inClass (top 44) 8) [])
    exact ⟨_, fd, F, He.cls_ok (c.fa_ 58 (f := .cls "Book")), He.meth_ok (c.fa_ 61 (f := .meth "Book" "grown"))⟩
  d_book_text := by
    obtain ⟨fd, F⟩ := c.fn_ 59 (d := dmD "Book" "text" "Book.text" (inClass (top 44) 11) [])
    exact ⟨_, fd, F, He.cls_ok (c.fa_ 58 (f := .cls "Book")), He.meth_ok (c.fa_ 62 (f := .meth "Book" "text"))⟩
  d_row_read := c.st_ X G 0 (d := ⟨"Row", "read", "Row.read", inClass (top 34) 7⟩) (He.glo_ok X G (c.fa_ 63 (f := .glo "Row")))
  d_order_read := c.st_ X G 1 (d := ⟨"Order", "read", "Order.read", inClass (top 37) 8⟩) (He.glo_ok X G (c.fa_ 64 (f := .glo "Order")))
  d_book_read := c.st_ X G 2 (d := ⟨"Book", "read", "Book.read", inClass (top 44) 12⟩) (He.glo_ok X G (c.fa_ 65 (f := .glo "Book")))
  d_row_init := by
    obtain ⟨fd, F⟩ := c.fn_ 60 (d := dmD "Row" "__init__" "Row.__init__" (inClass (top 34) 0) [.adr (He.dflAt ("Row", some "__init__") 0), .adr (He.dflAt ("Row", some "__init__") 1)])
    exact ⟨_, fd, F, He.mkr_ok (c.fa_ 66 (f := .mkr "Row")), (He.glo_ok X G (c.fa_ 63 (f := .glo "Row")))⟩
  d_order_init := by
    obtain ⟨fd, F⟩ := c.fn_ 61 (d := dmD "Order" "__init__" "Order.__init__" (inClass (top 37) 0) [])
    exact ⟨_, fd, F, He.mkr_ok (c.fa_ 67 (f := .mkr "Order")), (He.glo_ok X G (c.fa_ 64 (f := .glo "Order")))⟩
  d_book_init := by
    obtain ⟨fd, F⟩ := c.fn_ 62 (d := dmD "Book" "__init__" "Book.__init__" (inClass (top 44) 1) [])
    exact ⟨_, fd, F, He.mkr_ok (c.fa_ 68 (f := .mkr "Book")), (He.glo_ok X G (c.fa_ 65 (f := .glo "Book")))⟩
  d_row_neg := by
    obtain ⟨fd, F⟩ := c.fn_ 63 (d := dmD "Row" "__neg__" "Row.__neg__" (inClass (top 34) 9) [])
    exact ⟨_, fd, F, (own_ok (c.ex_ 0 (f := exOwn "Row" "__neg__"))).1, (own_ok (c.ex_ 0 (f := exOwn "Row" "__neg__"))).2⟩
  d_row_contains := by
    obtain ⟨fd, F⟩ := c.fn_ 64 (d := dmD "Row" "__contains__" "Row.__contains__" (inClass (top 34) 11) [])
    exact ⟨_, fd, F, (own_ok (c.ex_ 1 (f := exOwn "Row" "__contains__"))).1, (own_ok (c.ex_ 1 (f := exOwn "Row" "__contains__"))).2⟩
  d_book_add := by
    obtain ⟨fd, F⟩ := c.fn_ 65 (d := dmD "Book" "__add__" "Book.__add__" (inClass (top 44) 13) [])
    exact ⟨_, fd, F, plus_ok (c.ex_ 2 (f := exPlus "Book"))⟩
  b_len := He.free_ok X G (c.fa_ 69 (f := .free "len"))
  b_list := He.free_ok X G (c.fa_ 70 (f := .free "list"))
  b_tuple := He.free_ok X G (c.fa_ 71 (f := .free "tuple"))
  b_int := He.free_ok X G (c.fa_ 72 (f := .free "int"))
  b_divmod := He.free_ok X G (c.fa_ 73 (f := .free "divmod"))
  b_sorted := He.free_ok X G (c.fa_ 74 (f := .free "sorted"))
  b_all := He.free_ok X G (c.fa_ 75 (f := .free "all"))
  b_any := He.free_ok X G (c.fa_ 76 (f := .free "any"))
  b_isinstance := He.free_ok X G (c.fa_ 77 (f := .free "isinstance"))
  b_set := He.free_ok X G (c.fa_ 78 (f := .free "set"))
  b_range := He.free_ok X G (c.fa_ 79 (f := .free "range"))
  b_enumerate := He.free_ok X G (c.fa_ 80 (f := .free "enumerate"))
  b_str := He.free_ok X G (c.fa_ 81 (f := .free "str"))
  b_bool := He.free_ok X G (c.fa_ 82 (f := .free "bool"))
  vLETTERS := He.str_ok X G (c.fa_ 83 (f := .str "LETTERS" abc))
  vNAME := He.int_ok X G (c.fa_ 84 (f := .int "NAME_LENGTH" 6))
  vRANKED := He.int_ok X G (c.fa_ 85 (f := .int "MOST_RANKED" 7))
  vREASONS := He.int_ok X G (c.fa_ 86 (f := .int "MOST_REASONS" 7))
  gRow := (He.glo_ok X G (c.fa_ 63 (f := .glo "Row")))
  gOrder := (He.glo_ok X G (c.fa_ 64 (f := .glo "Order")))
  gBook := (He.glo_ok X G (c.fa_ 65 (f := .glo "Book")))
  cR := He.cls_ok (c.fa_ 52 (f := .cls "Row"))
  cO := He.cls_ok (c.fa_ 55 (f := .cls "Order"))
  cB := He.cls_ok (c.fa_ 58 (f := .cls "Book"))
  nRpro := He.noat_ok (c.fa_ 87 (f := .noat "Row" "pro"))
  nRcon := He.noat_ok (c.fa_ 88 (f := .noat "Row" "con"))
  nRnamed := He.noat_ok (c.fa_ 89 (f := .noat "Row" "named"))
  nOranked := He.noat_ok (c.fa_ 90 (f := .noat "Order" "ranked"))
  nOspots := He.noat_ok (c.fa_ 91 (f := .noat "Order" "spots"))
  nOreasons := He.noat_ok (c.fa_ 92 (f := .noat "Order" "reasons"))
  nBreasons := He.noat_ok (c.fa_ 93 (f := .noat "Book" "reasons"))
  nBmark := He.noat_ok (c.fa_ 94 (f := .noat "Book" "by_mark"))
  et1 := emp_ok (c.ex_ 3 (f := exEmp 0))
  et2 := emp_ok (c.ex_ 4 (f := exEmp 1))
  most := most_ok (c.ex_ 5 (f := exMost))
  iR := insc_ok (He.cls_ok (c.fa_ 52 (f := .cls "Row"))) (c.ex_ 6 (f := exIns))
  d_oex := by
    obtain ⟨fd, F⟩ := c.fn_ 66 (d := dmD "OtherReasons" "__init__" "OtherReasons.__init__" (inClass (top 14) 0) [])
    exact ⟨_, fd, F, oex_ok (c.ex_ 7 (f := exOex)), (oini_ok (c.ex_ 8 (f := exIni))).1, (oini_ok (c.ex_ 8 (f := exIni))).2, (He.glo_ok X G (c.fa_ 95 (f := .glo "OtherReasons")))⟩
  xX := xf_ok (c.ex_ 9 (f := exXf))
  nXcode := He.noat_ok (c.fa_ 96 (f := .noat "OtherReasons" "code"))
  no1 := ⟨_, (He.glo_ok X G (c.fa_ 97 (f := .glo "Stuck"))), He.exm_ok (c.fa_ 98 (f := .exm "OtherReasons" "Stuck" false))⟩
  no2 := ⟨_, (He.glo_ok X G (c.fa_ 99 (f := .glo "UnknownReason"))), He.exm_ok (c.fa_ 100 (f := .exm "OtherReasons" "UnknownReason" false))⟩
  no3 := ⟨_, (He.glo_ok X G (c.fa_ 101 (f := .glo "InvalidGroup"))), He.exm_ok (c.fa_ 102 (f := .exm "OtherReasons" "InvalidGroup" false))⟩
  no4 := ⟨_, (He.glo_ok X G (c.fa_ 103 (f := .glo "NotGood"))), He.exm_ok (c.fa_ 104 (f := .exm "OtherReasons" "NotGood" false))⟩
  no5 := ⟨_, (He.glo_ok X G (c.fa_ 105 (f := .glo "InvalidNumber"))), He.exm_ok (c.fa_ 106 (f := .exm "OtherReasons" "InvalidNumber" false))⟩
  no6 := ⟨_, (He.glo_ok X G (c.fa_ 107 (f := .glo "Unfit"))), He.exm_ok (c.fa_ 108 (f := .exm "OtherReasons" "Unfit" false))⟩
  no7 := ⟨_, (He.glo_ok X G (c.fa_ 109 (f := .glo "TooMany"))), He.exm_ok (c.fa_ 110 (f := .exm "OtherReasons" "TooMany" false))⟩
  no8 := ⟨_, (He.glo_ok X G (c.fa_ 111 (f := .glo "InvalidWait"))), He.exm_ok (c.fa_ 112 (f := .exm "OtherReasons" "InvalidWait" false))⟩
  yes := ⟨_, _, (He.glo_ok X G (c.fa_ 113 (f := .glo "ChoiceError"))), (He.glo_ok X G (c.fa_ 114 (f := .glo "Missing"))), yes_ok (c.ex_ 10 (f := exYes))⟩
end Fd
set_option Elab.async false
set_option linter.all false
set_option maxRecDepth 100000
set_option maxHeartbeats 0
/-! ### FdHead2: the law, at the head -/
namespace FdHead
open PySem PySem.Spec PyProof.Rows L2 SX Fd
theorem codeC {K : KF} {h : Heap} {mg : PySem.Str → Option Value} {w : World} (X : K.In h) (G : h.Ns mainGlobals mg) (c : SaysS w h K) : DfC K mg "_law_others_so" s_law_others_so (He.cT K ("_law_others_so", none)).1 := by
  obtain ⟨f, fd, F, hm⟩ := (top_of X G c).d_law_others_so.ex
  have e : f = He.fAd K ("_law_others_so", none) := by
    have h2 := He.glo_ok X G (x := "_law_others_so") (c.fa_ 49 (f := .glo "_law_others_so"))
    rw [hm] at h2
    exact Value.ref.inj (Option.some.inj h2)
  refine ⟨f, fd, F, hm, fun c' hc => ?_⟩
  obtain ⟨oc, od, dV, kV, doc, pm, an, cdv, ct, osl, q, lk, hcd, hD, hK⟩ := F.ex
  rw [e] at lk
  exact (He.codeOf_eq lk hc).symm
theorem tabs0 {P : Addr} {q : PySem.Str} {H : Hp} (h : H P = some (.tbl #[])) : LamX.Tabs [(P, q)] H := fun p hp => by
  rw [List.mem_singleton.mp hp]
  exact ⟨#[], h, trivial, fun pos cv hc => by cases hc⟩
end FdHead
open PySem PySem.W PySem.Calls PyProof.Rows
theorem PySem.Challenge.cw_firstdecides_k20_whole_books_that_an_ord_holds : PySem.Challenge.rw_firstdecides_k20_whole_books_that_an_ord.Holds := by
  w_on; o_law
  refine HandSHeadRun.head_any (r := OpenLaw.row PySem.Challenge.rw_firstdecides_k20_whole_books_that_an_ord) (q := FdHead.qv) (H := FdHead.hk) (ob := FdHead.ob) (M := 20000) (loose := FdHead.names) (d := HandSHeadRun.topDef (OpenLaw.row PySem.Challenge.rw_firstdecides_k20_whole_books_that_an_ord).prog 89) (kwd := []) FdHead.ob_eq
    (by kernel_rfl) (fun s => by kernel_rfl) FdHead.run (by kernel_rfl) (by kernel_rfl) (by kernel_rfl) (by rfl) (by first | assumption | decide +kernel) (by decide +kernel) ⟨rfl, rfl, rfl, rfl, rfl, by decide +kernel⟩ ?hw ?hc
  case hw => w_witness2
  case hc =>
    refine LamX.walk_ofTsE (l := PySem.Challenge.rw_firstdecides_k20_whole_books_that_an_ord) (n := 63) (k := 11) (x := "_law_script") (CX := fun _ => L2.CX0) rfl (by decide +kernel) (by kernel_rfl) ⟨rfl, by decide, by decide⟩ ?F (fun _ _ _ _ _ z => z)
    intro w mg fa h Y G hmg0
    obtain ⟨K, KX, c⟩ := Y
    have hmg : mg ("law" : PySem.Str) = some (.ref fa) := by
      have e : (HandSHeadRun.topDef (OpenLaw.row PySem.Challenge.rw_firstdecides_k20_whole_books_that_an_ord).prog 89).name = ("law" : PySem.Str) := by kernel_rfl
      rw [← e]
      exact hmg0
    have T : Fd.Top (Fd.axOf K) mg := Fd.top_of KX G c
    obtain ⟨f, fd, F, hm⟩ := T.d_law.ex
    have ef : f = fa := by
      rw [hmg] at hm
      exact (Value.ref.inj (Option.some.inj hm)).symm
    subst ef
    have DC := FdHead.codeC KX G c
    refine ⟨K, KX, fd, [He.cT K ("_law_others_so", none)], Fd.sp_law (Fd.axOf K), fun p hp => ?_, fun p hp => ?_, fun p hp => ?_, fun s u => ?_, fun H a ns hl hb hT hS => ?_, fun base KB GB TB => ?_⟩
    · rw [List.mem_singleton.mp hp]
      exact c.empty _ (List.mem_singleton.mpr rfl)
    · rw [List.mem_singleton.mp hp]
      exact c.out _ (List.mem_singleton.mpr rfl)
    · rw [List.mem_singleton.mp hp]
      exact PySem.W.codeHd_of_K KX (c.hd _ (List.mem_singleton.mpr rfl))
    · exact (L2.FunD.bindsA (ps := ["_law_script"]) F fun _ _ _ _ _ _ us hl => match us, hl with | [_], _ => rfl) s [u] rfl
    · exact ⟨a, ns, rfl, hS, FdHead.tabs0 (hT _ (List.mem_singleton.mpr rfl)), fun _ => rfl⟩
    · exact Fd.ok_law T (TB _ (List.mem_singleton.mpr rfl)) rfl DC F
