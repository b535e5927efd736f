import PyProof.Rows.All
import Wide.All
import OpenK.AllK
import Wide.FinOn
import HandS.ForMost
import HandS.ForExc
import HandS.Wide
import HandS.IsInst
import HandS.FStr
import HandS.Codes
import HandS.Walk
import HandS.Deep
import HandS.SortInts
import HandS.Replace
import HandS.MakeKwOnly
import HandS.WordsDict
import HandS.More
import HandS.Flow
import HandS.DeepEq
import HandS.OwnEq
import PySem.Challenge.RW_throughway_k95_joined_names
set_option Elab.async false
set_option linter.all false
set_option maxRecDepth 100000
set_option maxHeartbeats 4000000
namespace TW
open PySem PySem.Spec PyProof.Rows L2

/-! ### promises by their places -/
def S0 (R : Hp → VK → XK → Prop) : Sp := fun vs H Q E => vs = [] ∧ R H Q E
def S1 (R : V → Hp → VK → XK → Prop) : Sp := fun vs H Q E => ∃ a, vs = [a] ∧ R a H Q E
def S2 (R : V → V → Hp → VK → XK → Prop) : Sp := fun vs H Q E => ∃ a b, vs = [a, b] ∧ R a b H Q E
def S3 (R : V → V → V → Hp → VK → XK → Prop) : Sp := fun vs H Q E => ∃ a b c, vs = [a, b, c] ∧ R a b c H Q E
def S4 (R : V → V → V → V → Hp → VK → XK → Prop) : Sp := fun vs H Q E => ∃ a b c d, vs = [a, b, c, d] ∧ R a b c d H Q E
def S5 (R : V → V → V → V → V → Hp → VK → XK → Prop) : Sp := fun vs H Q E => ∃ a b c d e, vs = [a, b, c, d, e] ∧ R a b c d e H Q E
def S6 (R : V → V → V → V → V → V → Hp → VK → XK → Prop) : Sp := fun vs H Q E => ∃ a b c d e f, vs = [a, b, c, d, e, f] ∧ R a b c d e f H Q E
def S7 (R : V → V → V → V → V → V → V → Hp → VK → XK → Prop) : Sp := fun vs H Q E => ∃ a b c d e f g, vs = [a, b, c, d, e, f, g] ∧ R a b c d e f g H Q E
def S8 (R : V → V → V → V → V → V → V → V → Hp → VK → XK → Prop) : Sp := fun vs H Q E => ∃ a b c d e f g h, vs = [a, b, c, d, e, f, g, h] ∧ R a b c d e f g h H Q E
section
variable {vs : List V} {H : Hp} {Q : VK} {E : XK}
theorem S7.len {R} (h : S7 R vs H Q E) : vs.length = 7 := by obtain ⟨_, _, _, _, _, _, _, rfl, _⟩ := h; rfl
theorem S8.len {R} (h : S8 R vs H Q E) : vs.length = 8 := by obtain ⟨_, _, _, _, _, _, _, _, rfl, _⟩ := h; rfl
theorem S0.len {R} (h : S0 R vs H Q E) : vs.length = 0 := by obtain ⟨rfl, _⟩ := h; rfl
theorem S1.len {R} (h : S1 R vs H Q E) : vs.length = 1 := by obtain ⟨_, rfl, _⟩ := h; rfl
theorem S2.len {R} (h : S2 R vs H Q E) : vs.length = 2 := by obtain ⟨_, _, rfl, _⟩ := h; rfl
theorem S3.len {R} (h : S3 R vs H Q E) : vs.length = 3 := by obtain ⟨_, _, _, rfl, _⟩ := h; rfl
theorem S4.len {R} (h : S4 R vs H Q E) : vs.length = 4 := by obtain ⟨_, _, _, _, rfl, _⟩ := h; rfl
theorem S5.len {R} (h : S5 R vs H Q E) : vs.length = 5 := by obtain ⟨_, _, _, _, _, rfl, _⟩ := h; rfl
theorem S6.len {R} (h : S6 R vs H Q E) : vs.length = 6 := by obtain ⟨_, _, _, _, _, _, rfl, _⟩ := h; rfl
end

/-! ### what may be called by its name -/
structure Cl (P : Program) (w : World) (K : PySem.W.Frag) (mg : Str → Option Value) (base : Heap) (CX : CXT) (k : Nat) (x : Str) (sp : Sp) : Prop where
  ex : ∃ (f : Addr) (fd : FuncData) (ps : List Str), FnOk P w K mg base CX k f fd ps sp ∧ mg x = some (.ref f) ∧ PySem.W.keepIn K (.ref f) = true ∧ Binds K fd ps []
structure Me (P : Program) (w : World) (K : PySem.W.Frag) (mg : Str → Option Value) (base : Heap) (CX : CXT) (k : Nat) (C : Addr) (m : Str) (sp : Sp) : Prop where
  ex : ∃ (f : Addr) (fd : FuncData) (ps : List Str), Cls K C ∧ Meth K C m f ∧ FnOk P w K mg base CX k f fd ps sp ∧ Binds K fd ps []
structure Ma (P : Program) (w : World) (K : PySem.W.Frag) (mg : Str → Option Value) (base : Heap) (CX : CXT) (k : Nat) (x : Str) (C : Addr) (sp : Sp) : Prop where
  ex : ∃ (f : Addr) (fd : FuncData) (ps : List Str), Mk K C f ∧ FnOk P w K mg base CX k f fd ps sp ∧ mg x = some (.ref C) ∧ Binds K fd ps []
def tClS (sp : Sp) (E : L2.St → XK) (t : TA) : TE := fun σ H Q => t σ H fun vs H1 => sp vs H1 Q (E σ)
section
variable {X : Cx} {CX : CXT} {k j : Nat} {C : Addr} {x m : Str} {sp : Sp} {E : XK} {p pos apos : Pos} {e o : Expr} {es : List Expr} {ta : TE} {t : TA}
/-- f(e, ..) -/
theorem pe_cl (c : Cl X.prog X.w X.K X.mg X.base CX k x sp) (hr : Room j X.A) (hk : k ≤ j) (hx : Passes CX X E) (ha : PA X (e :: es) t) (hg : Gl X x := by rfl)
    (hdb : (x == ("__debug__" : Str)) = false := by decide) (he : starEach (e :: es) X.env = (false, eval e X.env) :: starEach es X.env := by rfl) (hpl : (backTo pos (starEach es X.env)).any (·.1) = false := by rfl) :
    PE X (.Call (.Name x p) (e :: es) [] pos) (tCall sp [] E t) := by
  obtain ⟨f, fd, ps, F, hm, kp, b⟩ := c.ex
  exact pe_call F (hr.mono hk) hg hm kp b .nil hx ha hdb he hpl
/-- f() -/
theorem pe_cl0 (c : Cl X.prog X.w X.K X.mg X.base CX k x sp) (hr : Room j X.A) (hk : k ≤ j) (hx : Passes CX X E) (hg : Gl X x := by rfl)
    (hdb : (x == ("__debug__" : Str)) = false := by decide) : PE X (.Call (.Name x p) [] [] pos) (tCall sp [] E tNil) := by
  obtain ⟨f, fd, ps, F, hm, kp, b⟩ := c.ex
  exact pe_call0 F (hr.mono hk) hg hm kp b .nil hx hdb
/-- f(e, ..) in a try's body -/
theorem pe_cls {W : WX} (c : Cl X.prog X.w X.K X.mg X.base (L2.CX X.prog X.w) k x sp) (hr : Room j X.A) (hk : k ≤ j) (tk : Takes X W) (ha : PA X (e :: es) t) (hg : Gl X x := by rfl)
    (hdb : (x == ("__debug__" : Str)) = false := by decide) (he : starEach (e :: es) X.env = (false, eval e X.env) :: starEach es X.env := by rfl) (hpl : (backTo pos (starEach es X.env)).any (·.1) = false := by rfl) :
    PE X (.Call (.Name x p) (e :: es) [] pos) (tCallS sp (WE W) t) := by
  obtain ⟨f, fd, ps, F, hm, kp, b⟩ := c.ex
  exact pe_callS F (hr.mono hk) hg hm kp b (fun σ => passAt tk σ) ha hdb he hpl
/-- o.m(e, ..) -/
theorem pe_me {pl : Sem Bool} (c : Me X.prog X.w X.K X.mg X.base CX k C m sp) (hr : Room j X.A) (hk : k ≤ j) (hx : Passes CX X E) (he : PE X o ta) (ha : PA X (e :: es) t)
    (hst : starEach (e :: es) X.env = (false, eval e X.env) :: starEach es X.env := by rfl) (hpl : (backTo pos (starEach es X.env)).any (·.1) = false := by rfl)
    (ht : eval (.Call (.Attribute o m apos) (e :: es) [] pos) X.env = (do
      let ov ← eval o X.env
      standAt apos.atName
      let (f, first) ← holding [ov] (getMethod ov m pl)
      callWith pos f first (backTo pos (starEach (e :: es) X.env)) (backToKw pos (keywordEach [] X.env))) := by rfl) :
    PE X (.Call (.Attribute o m apos) (e :: es) [] pos) (tMeth C m sp [] E ta t) := by
  obtain ⟨f, fd, ps, hc, hm, F, b⟩ := c.ex
  exact pe_meth (pl := pl) he hc hm F (hr.mono hk) b .nil hx ha hst hpl ht
theorem pe_me0 {pl : Sem Bool} (c : Me X.prog X.w X.K X.mg X.base CX k C m sp) (hr : Room j X.A) (hk : k ≤ j) (hx : Passes CX X E) (he : PE X o ta)
    (ht : eval (.Call (.Attribute o m apos) [] [] pos) X.env = (do
      let ov ← eval o X.env
      standAt apos.atName
      let (f, first) ← holding [ov] (getMethod ov m pl)
      callWith pos f first (backTo pos (starEach [] X.env)) (backToKw pos (keywordEach [] X.env))) := by rfl) :
    PE X (.Call (.Attribute o m apos) [] [] pos) (tMeth C m sp [] E ta tNil) := by
  obtain ⟨f, fd, ps, hc, hm, F, b⟩ := c.ex
  exact pe_meth0 (pl := pl) he hc hm F (hr.mono hk) b .nil hx ht
/-- C(e, ..) -/
theorem pe_ma (c : Ma X.prog X.w X.K X.mg X.base CX k x C sp) (hr : Room j X.A) (hk : k + 1 ≤ j) (hx : Passes CX X E) (ha : PA X (e :: es) t) (hg : Gl X x := by rfl)
    (hdb : (x == ("__debug__" : Str)) = false := by decide) (he : starEach (e :: es) X.env = (false, eval e X.env) :: starEach es X.env := by rfl) (hpl : (backTo pos (starEach es X.env)).any (·.1) = false := by rfl) :
    PE X (.Call (.Name x p) (e :: es) [] pos) (tMake C sp [] E t) := by
  obtain ⟨f, fd, ps, M, F, hm, b⟩ := c.ex
  exact pe_make M F (hr.mono hk) hg hm b .nil hx ha hdb he hpl
theorem pe_ma0 (c : Ma X.prog X.w X.K X.mg X.base CX k x C sp) (hr : Room j X.A) (hk : k + 1 ≤ j) (hx : Passes CX X E) (hg : Gl X x := by rfl)
    (hdb : (x == ("__debug__" : Str)) = false := by decide) : PE X (.Call (.Name x p) [] [] pos) (tMake C sp [] E tNil) := by
  obtain ⟨f, fd, ps, M, F, hm, b⟩ := c.ex
  exact pe_make0 M F (hr.mono hk) hg hm b .nil hx hdb
end
/-- a name of the module, by its value -/
theorem pe_gc {X : Cx} {x : Str} {pos : Pos} {v : V} (hg : Gl X x) (h : ∃ u, X.mg x = some u ∧ RelV v u) (hd : (x == ("__debug__" : Str)) = false := by decide) : PE X (.Name x pos) (tC v) := by
  obtain ⟨u, hm, r⟩ := h
  exact pe_glob hg hm r hd

/-- a call of what may raise, where it does not -/
theorem passF {X : Cx} : Passes (L2.CX X.prog X.w) X (fun _ _ _ => False) := fun _ _ _ _ _ _ _ h => by
  obtain ⟨_, _, _, _, _, _, _, _, _, _, _, _, z⟩ := h
  exact z.elim
/-- a class that is called with keywords -/
structure MaK (P : Program) (w : World) (K : PySem.W.Frag) (mg : Str → Option Value) (base : Heap) (CX : CXT) (k : Nat) (x : Str) (C : Addr) (n : Nat) (ks : List Str) (gV : List V → List V → List V) (sp : Sp) : Prop where
  ex : ∃ (f : Addr) (fd : FuncData) (ps : List Str) (g : List Value → List Value → List Value), Mk K C f ∧ FnOk P w K mg base CX k f fd ps sp ∧ mg x = some (.ref C) ∧ KBn K fd ps (n + 1) ks g gV
section
variable {X : Cx} {CX : CXT} {k j n : Nat} {C : Addr} {x : Str} {ks : List Str} {gV : List V → List V → List V} {sp : Sp} {E : XK} {p pos : Pos} {e : Expr} {es : List Expr} {kws : List Keyword} {t tk : TA}
/-- C(e, .., k = v, ..) -/
theorem pe_mak (c : MaK X.prog X.w X.K X.mg X.base CX k x C n ks gV sp) (hr : Room j X.A) (hk : k + 1 ≤ j) (hx : Passes CX X E) (ha : PA X (e :: es) t) (hkw : PK X kws tk) (hg : Gl X x := by rfl)
    (hall : (backToKw pos (keywordEach kws X.env)).all (·.1.isSome) = true := by rfl) (hks : (backToKw pos (keywordEach kws X.env)).filterMap (·.1) = ks := by rfl) (hdb : (x == ("__debug__" : Str)) = false := by decide)
    (he : starEach (e :: es) X.env = (false, eval e X.env) :: starEach es X.env := by rfl) (hpl : ((backTo pos (starEach (e :: es) X.env)).any (·.1) || (backToKw pos (keywordEach kws X.env)).any (·.1.isNone)) = false := by rfl) :
    PE X (.Call (.Name x p) (e :: es) kws pos) (tMakeK C n ks.length sp gV E t tk) := by
  obtain ⟨f, fd, ps, g, M, F, hm, b⟩ := c.ex
  exact pe_makeK M F (hr.mono hk) hg hm b hx ha hkw hall hks hdb he hpl
theorem pe_mak0 (c : MaK X.prog X.w X.K X.mg X.base CX k x C 0 ks gV sp) (hr : Room j X.A) (hk : k + 1 ≤ j) (hx : Passes CX X E) (hkw : PK X kws tk) (hg : Gl X x := by rfl)
    (hall : (backToKw pos (keywordEach kws X.env)).all (·.1.isSome) = true := by rfl) (hks : (backToKw pos (keywordEach kws X.env)).filterMap (·.1) = ks := by rfl) (hdb : (x == ("__debug__" : Str)) = false := by decide)
    (hpl : ((backTo pos (starEach [] X.env)).any (·.1) || (backToKw pos (keywordEach kws X.env)).any (·.1.isNone)) = false := by rfl) :
    PE X (.Call (.Name x p) [] kws pos) (tMakeK C 0 ks.length sp gV E tNil tk) := by
  obtain ⟨f, fd, ps, g, M, F, hm, b⟩ := c.ex
  exact pe_makeK0 M F (hr.mono hk) hg hm b hx hkw hall hks hdb hpl
end

/-! ### heaps: all but some stands -/
def Keep (S : Addr → Prop) (H H' : Hp) : Prop := ∀ a o, H a = some o → ¬ S a → H' a = some o
section
variable {S S' : Addr → Prop} {H H1 H2 : Hp} {p : Addr} {o : HO}
theorem Keep.refl : Keep S H H := fun _ _ h _ => h
theorem Keep.trans (a : Keep S H H1) (b : Keep S H1 H2) : Keep S H H2 := fun x o h n => b x o (a x o h n) n
theorem Keep.mono (a : Keep S H H1) (h : ∀ x, S x → S' x) : Keep S' H H1 := fun x o e n => a x o e fun s => n (h x s)
theorem Keep.of (a : Same H H1) : Keep S H H1 := fun x o e _ => a x o e
theorem Keep.same (a : Keep (fun _ => False) H H1) : Same H H1 := fun x o e => a x o e id
theorem Keep.upd (a : Keep S H H1) (h : S p) : Keep S H (L2.upd H1 p o) := fun x u e n => by
  have z : x ≠ p := fun z => n (by rw [z]; exact h)
  rw [upd_ne z]
  exact a x u e n
theorem Keep.new (a : Keep S H H1) (h : H p = none) : Keep S H (L2.upd H1 p o) := fun x u e n => by
  rw [upd_ne (fun z => by rw [z, h] at e; cases e)]
  exact a x u e n
theorem Same.new (a : Same H H1) (h : H p = none) : Same H (L2.upd H1 p o) := fun x u e => by
  rw [upd_ne (fun z => by rw [z, h] at e; cases e)]
  exact a x u e
theorem Keep.free (a : Keep S H H1) (h : H1 p = none) (n : ¬ S p) : H p = none := by
  cases e : H p with
  | none => rfl
  | some u => rw [a p u e n] at h; cases h
end

theorem Keep.grow {S T : Addr → Prop} {H H1 H2 : Hp} (a : Keep S H H1) (b : Keep T H1 H2) (h : ∀ x, T x → S x ∨ H x = none) : Keep S H H2 := fun x o e n => b x o (a x o e n) fun t => (h x t).elim n fun z => by
  rw [z] at e
  cases e

/-! ### attributes -/
theorem lk_eq {x : Str} {v : V} {l : List (Str × V)} : List.lookup x ((x, v) :: l) = some v := by simp [List.lookup]
theorem lk_ne {x y : Str} {v : V} {l : List (Str × V)} (h : (x == y) = false) : List.lookup x ((y, v) :: l) = List.lookup x l := by simp [List.lookup, h]
theorem put_nil {x : Str} {v : V} : putF x v [] = [(x, v)] := rfl
theorem put_eq {x : Str} {u v : V} {l : List (Str × V)} : putF x v ((x, u) :: l) = (x, v) :: l := by
  show (if x = x then _ else _) = _
  rw [if_pos rfl]
theorem put_ne {x y : Str} {u v : V} {l : List (Str × V)} (h : (y == x) = false) : putF x v ((y, u) :: l) = (y, u) :: putF x v l := by
  show (if y = x then _ else _) = _
  rw [if_neg (by simpa using h)]
/-- an error of the class at S is what «except S» names -/
theorem exm_self {K : PySem.W.Frag} {S : Addr} (h1 : PySem.W.subIn K (.ref S) (.type "BaseException") = some true) (h2 : PySem.W.isClsIn K S = true) (h3 : PySem.W.typeIn K (.ref S) = some (.type "type")) (h4 : PySem.W.subIn K (.ref S) (.ref S) = some true) :
    PySem.W.exmOne K (.ref S) (.ref S) = some true := by
  have e1 : (PySem.W.subIn K (.ref S) (.type "BaseException") == some true) = true := by rw [h1] <;> rfl
  have e2 : ((PySem.W.clsIn K S).isSome && PySem.W.typeIn K (.ref S) == some (.type "type")) = true := by
    have h2' : (PySem.W.clsIn K S).isSome = true := h2
    rw [h2', h3] <;> rfl
  show (if (PySem.W.subIn K (.ref S) (.type "BaseException") == some true) = true then (if ((PySem.W.clsIn K S).isSome && PySem.W.typeIn K (.ref S) == some (.type "type")) = true then PySem.W.subIn K (.ref S) (.ref S) else none) else none) = some true
  rw [if_pos e1, if_pos e2]
  exact h4
theorem huD {A : Around} {k : Nat} (hr : Room k A) : A.units + 65 < cLine := by have := hr.un; omega
theorem ite_t {c : Bool} {A B : Prop} (hc : c = true) (h : A) : if c = true then A else B := by
  rw [if_pos hc]
  exact h
theorem ite_f {c : Bool} {A B : Prop} (hc : c = false) (h : B) : if c = true then A else B := by
  rw [hc, if_neg Bool.false_ne_true]
  exact h
theorem int_item {ns : List Int} {i : Nat} {v : V} (h : (ns.map V.int)[i]? = some v) : ∃ z, ns[i]? = some z ∧ v = .int z := by
  rw [List.getElem?_map] at h
  cases e : ns[i]? with
  | none => rw [e] at h; cases h
  | some z => rw [e] at h; exact ⟨z, rfl, (Option.some.inj h).symm⟩
theorem sz (n : Nat) (h : n ≤ 1000000) : n ≤ sizeLine := by rw [sizeLine_eq]; omega
theorem szl (n : Nat) (h : n ≤ 1000000) : n < sizeLine := by rw [sizeLine_eq]; omega

/-! ### one object may change -/
abbrev KeepP (p : Addr) : Hp → Hp → Prop := Keep fun z => z = p
section
variable {H H1 H2 : Hp} {p q : Addr} {o : HO}
theorem KeepP.upd (a : KeepP p H H1) : KeepP p H (L2.upd H1 p o) := Keep.upd a rfl
theorem KeepP.refl : KeepP p H H := Keep.refl
theorem KeepP.get (a : KeepP p H H1) {u : HO} (h : H q = some u) (n : q ≠ p) : H1 q = some u := a q u h n
theorem Same.keepP (a : Same H H1) : KeepP p H H1 := Keep.of a
/-- what was not there may change -/
theorem KeepP.same (a : KeepP p H1 H2) (s : Same H H1) (h : H p = none) : Same H H2 := fun x o e => a x o (s x o e) (ne_of_none e h)
end

/-- a new instance and what its making changed -/
theorem KeepP.made {H H2 : Hp} {x dx : Addr} {u v : HO} (hx : H x = none) (hd : H dx = none) (k : KeepP x (L2.upd (L2.upd H dx u) x v) H2) : Same H H2 :=
  KeepP.same k (Same.new (Same.new (fun _ _ h => h) hd) hx) hx

theorem upd_get {H : Hp} {a p : Addr} {o u : HO} (h : H a = some o) (n : a ≠ p) : L2.upd H p u a = some o := by rw [upd_ne n]; exact h
theorem upd_none {H : Hp} {q p : Addr} {u : HO} (h : L2.upd H p u q = none) : q ≠ p ∧ H q = none := by
  have n : q ≠ p := fun e => by rw [e, upd_same] at h; cases h
  rw [upd_ne n] at h
  exact ⟨n, h⟩
theorem ne_kind {H : Hp} {a b : Addr} {x y : HO} (h1 : H a = some x) (h2 : H b = some y) (n : x ≠ y) : a ≠ b := fun e => by
  rw [e, h2] at h1
  exact n (Option.some.inj h1).symm

theorem Same.ne {H H' : Hp} {q r : Addr} {u : HO} (s : Same H H') (h : H r = some u) (hq : H' q = none) : q ≠ r := fun e => by
  rw [e, s _ _ h] at hq
  cases hq
/-- a new object of its own that is written to -/
theorem Same.upd {H H' : Hp} {r : Addr} {u : HO} (s : Same H H') (h : H r = none) : Same H (L2.upd H' r u) := fun x o e => by
  rw [upd_ne (ne_of_none e h)]
  exact s x o e

/-- the first attribute's name -/
def hdO : HO → Option Str
  | .ins _ _ fs => fs.head?.map Prod.fst
  | _ => none
/-- two instances whose first attributes have other names -/
theorem ne_ins {H : Hp} {a b : Addr} {x y : HO} {m n : Str} (h1 : H a = some x) (h2 : H b = some y) (e1 : hdO x = some m) (e2 : hdO y = some n) (ne : (m == n) = false) : a ≠ b := fun e => by
  rw [e, h2] at h1
  cases h1
  rw [e1] at e2
  cases e2
  simp at ne

/-! ### the draws of the laws -/
theorem start_step {n m : Int} {i : Nat} (hn : n.natAbs < 2 ^ (100 * i + 1)) (h0 : 0 ≤ m) (h1 : m < 618970019642690137449562111) : (n * 618970019642690137449562111 + m).natAbs < 2 ^ (100 * (i + 1) + 1) := by
  have a1 := Int.natAbs_add_le (n * 618970019642690137449562111) m
  rw [Int.natAbs_mul] at a1
  have e : (2 : Nat) ^ (100 * (i + 1) + 1) = 2 ^ (100 * i + 1) * 2 ^ 100 := by rw [← Nat.pow_add]; congr 1
  rw [e]
  have p : 1 ≤ 2 ^ (100 * i + 1) := Nat.one_le_two_pow
  generalize 2 ^ (100 * i + 1) = B at hn p
  have b : n.natAbs * 618970019642690137449562111 ≤ B * 618970019642690137449562111 := Nat.mul_le_mul_right _ (Nat.le_of_lt hn)
  have c : m.natAbs < 618970019642690137449562111 := by omega
  have d : (618970019642690137449562111 : Int).natAbs = 618970019642690137449562111 := rfl
  rw [d] at a1
  omega
theorem start_bits {n : Int} {i : Nat} (hn : n.natAbs < 2 ^ (100 * i + 1)) (hi : i < 4) : n.natAbs < 2 ^ 401 := Nat.lt_of_lt_of_le hn (Nat.pow_le_pow_right (by decide) (by omega))
def spCellT (K : PySem.W.Frag) : Sp := S2 fun a b H Q _ => ∃ (p : Addr) (ns : List Int) (k : Int), a = .ref p ∧ b = .int k ∧ SqL K H p (ns.map V.int) ∧ 0 ≤ k ∧ ∀ z, Q (.int z) H
def spStart : Sp := S2 fun a b H Q _ => ∃ (c k : Int), a = .int c ∧ b = .int k ∧ 0 ≤ k ∧ k ≤ 100000 ∧ ∀ p n H', H p = none → Same H H' → H' p = some (.lst [.int n]) → Q (.ref p) H'
def spDigit : Sp := S2 fun a b H Q _ => ∃ (p : Addr) (n m : Int) (H0 : Hp), a = .ref p ∧ b = .int m ∧ H p = some (.lst [.int n]) ∧ 0 < m ∧ m < 1073741824 ∧ KeepP p H0 H ∧
  ∀ d n' H', KeepP p H0 H' → H' p = some (.lst [.int n']) → 0 ≤ d → d < m → Q (.int d) H'
def spanN (n : Nat) : Int := 2 ^ (16 - n)
def spanTab : List V := [.int 65536, .int 32768, .int 16384, .int 8192, .int 4096, .int 2048, .int 1024, .int 512, .int 256, .int 128, .int 64, .int 32, .int 16, .int 8, .int 4, .int 2, .int 1]
theorem spanTab_at : ∀ n : Nat, n < 17 → spanTab[n]? = some (.int (spanN n)) := by decide +kernel
theorem spanTab_at' {n : Nat} (h : n ≤ 16) : spanTab[n]? = some (.int (spanN n)) := spanTab_at n (by omega)
theorem span_pos (n : Nat) : 0 < spanN n := by unfold spanN; exact Int.pow_pos (by decide)
theorem span_le : ∀ n : Nat, n < 17 → spanN n ≤ 65536 := by decide +kernel
theorem span_le' {n : Nat} (h : n ≤ 16) : spanN n ≤ 65536 := span_le n (by omega)
def spSpan : Sp := S1 fun a H Q _ => ∃ n : Nat, a = .int n ∧ n ≤ 16 ∧ ∀ H', Same H H' → Q (.int (spanN n)) H'

/-! ### tests told by their answer -/
theorem at_ofG {α : Type} {xs : List α} {z : Int} {j : Nat} {v : α} (e : z = (j : Int)) (h : xs[j]? = some v) : atI xs z = some v := by
  rw [e]; exact atI_nat h
/-- the test answers b; what was tracked stands -/
def Tst (t : TT) (σ : L2.St) (H : Hp) (b : Bool) : Prop := ∀ Q : Bool → Hp → Prop, (∀ H', Same H H' → Q b H') → t σ H Q
section
variable {c u : TT} {t1 t2 : TS} {D : Ends} {σ : L2.St} {H : Hp}
theorem if_tst {b : Bool} (h : Tst c σ H b) (h1 : b = true → ∀ H', Same H H' → t1 D σ H') (h2 : b = false → ∀ H', Same H H' → t2 D σ H') : tIfS c t1 t2 D σ H :=
  h _ fun H' s => by
    cases b with
    | true => exact h1 rfl H' s
    | false => exact h2 rfl H' s
theorem if_tstP {p : Prop} [Decidable p] (h : Tst c σ H (decide p)) (h1 : p → ∀ H', Same H H' → t1 D σ H') (h2 : ¬ p → ∀ H', Same H H' → t2 D σ H') : tIfS c t1 t2 D σ H :=
  if_tst h (fun e => h1 (of_decide_eq_true e)) fun e => h2 (of_decide_eq_false e)
end

/-- a number below 2 ^ 60 has a short text -/
theorem num_bits {n : Nat} (h : n < 2 ^ 60) : ((n : Nat) : Int).natAbs.log2 < 1920 := by
  rw [Int.natAbs_natCast]
  exact Nat.lt_of_lt_of_le (PySem.Flt.log2_lt_of (k := 60) (by decide) h) (by decide)
theorem num_len {n k : Nat} (hk : 0 < k) (h : n < 10 ^ k) : (Str.ofString (toString ((n : Nat) : Int))).length ≤ k := by
  rw [TL.len_tl, TL.tl_num]
  exact TL.numL_len hk h

theorem str_app (a b : Str) : (a ++ b).length = a.length + b.length := by rw [TL.len_tl, TL.tl_append, List.length_append, ← TL.len_tl, ← TL.len_tl]
theorem sign_at {z : Str} {d : Int} (h0 : 0 ≤ d) (h1 : d < z.length) : ∃ c, atI z.cps.toList d = some c := by
  have h : d.toNat < z.cps.toList.length := by
    have : z.cps.toList.length = z.length := by simp [Str.length]
    omega
  refine ⟨_, at_ofG (j := d.toNat) (by omega) (List.getElem?_eq_getElem h)⟩
theorem emod_le_self {a b : Int} (h : 0 ≤ a) (hb : 0 < b) : a % b ≤ a := by
  have h1 := Int.mul_nonneg (Int.le_of_lt hb) (Int.ediv_nonneg h (Int.le_of_lt hb))
  have h2 := Int.emod_add_mul_ediv a b
  omega
def spLaw (K : PySem.W.Frag) : Sp := S1 fun v H Q _ => ∃ (a : Addr) (ns : List Int), v = .ref a ∧ SqL K H a (ns.map V.int) ∧ ns.length ≤ 63 ∧ ∀ H', Q (.bl true) H'
/-! ### data: values that == compares by their content -/
class Dat (α : Type) where
  d : α → PyData
  good : α → Prop
  dep : Nat
  ok : ∀ a b, PyData.eqv (d a) (d b) = true ↔ a = b
  can : ∀ a, good a → (d a).canLay0 = true ∧ (d a).depth ≤ dep
class DatN (α : Type) extends Dat α where
  nl : ∀ a, PyData.eqv .none (d a) = false
  nr : ∀ a, PyData.eqv (d a) .none = false
instance : DatN Int where
  d := .int
  good _ := True
  dep := 0
  ok a b := by simp [PyData.eqv]
  can a _ := by simp [PyData.canLay0, PyData.depth]
  nl a := by simp [PyData.eqv]
  nr a := by simp [PyData.eqv]
instance : DatN Bool where
  d := .bool
  good _ := True
  dep := 0
  ok a b := by simp [PyData.eqv]
  can a _ := by simp [PyData.canLay0, PyData.depth]
  nl a := by simp [PyData.eqv]
  nr a := by simp [PyData.eqv]
instance : DatN Str where
  d := .str
  good x := PyData.strOk x = true
  dep := 0
  ok a b := by simp [PyData.eqv]
  can a h := by simp [PyData.canLay0, PyData.depth, h]
  nl a := by simp [PyData.eqv]
  nr a := by simp [PyData.eqv]
instance {α : Type} [i : DatN α] : Dat (Option α) where
  d
    | none => .none
    | some a => i.d a
  good
    | none => True
    | some a => i.good a
  dep := i.dep
  ok a b := by
    cases a with
    | none => cases b with
      | none => simp [PyData.eqv]
      | some b => simp [i.nl b]
    | some a => cases b with
      | none => simp [i.nr a]
      | some b => simp [i.ok a b]
  can a h := by
    cases a with
    | none => simp [PyData.canLay0, PyData.depth]
    | some a => exact i.can a h
theorem eqvAll_map {α : Type} [i : Dat α] : ∀ a b : List α, PyData.eqvAll (a.map i.d) (b.map i.d) = true ↔ a = b
  | [], [] => by simp [PyData.eqvAll]
  | [], _ :: _ => by simp [PyData.eqvAll]
  | _ :: _, [] => by simp [PyData.eqvAll]
  | x :: a, y :: b => by simp [PyData.eqvAll, i.ok x y, eqvAll_map a b]
theorem canAll_map {α : Type} [i : Dat α] : ∀ a : List α, (∀ x ∈ a, i.good x) → PyData.canLayAll0 (a.map i.d) = true ∧ PyData.depthAll (a.map i.d) ≤ i.dep
  | [], _ => by simp [PyData.canLayAll0, PyData.depthAll]
  | x :: a, h => by
    have h1 := i.can x (h x (by simp))
    have h2 := canAll_map a fun y hy => h y (by simp [hy])
    simp only [List.map_cons, PyData.canLayAll0, PyData.depthAll, h1.1, h2.1, Bool.and_self, true_and]
    omega
instance {α : Type} [i : Dat α] : DatN (List α) where
  d a := .list (a.map i.d)
  good a := ∀ x ∈ a, i.good x
  dep := i.dep + 1
  ok a b := by simp [PyData.eqv, eqvAll_map]
  can a h := by
    have q := canAll_map a h
    simp only [PyData.canLay0, PyData.depth, q.1, true_and]
    omega
  nl a := by simp [PyData.eqv]
  nr a := by simp [PyData.eqv]
/-- the places of a tuple -/
class Row (α : Type) where
  ds : α → List PyData
  good : α → Prop
  dep : Nat
  ok : ∀ a b, PyData.eqvAll (ds a) (ds b) = true ↔ a = b
  can : ∀ a, good a → PyData.canLayAll0 (ds a) = true ∧ PyData.depthAll (ds a) ≤ dep
instance : Row Unit where
  ds _ := []
  good _ := True
  dep := 0
  ok a b := by simp [PyData.eqvAll]
  can a _ := by simp [PyData.canLayAll0, PyData.depthAll]
instance {α β : Type} [i : Dat α] [j : Row β] : Row (α × β) where
  ds a := i.d a.1 :: j.ds a.2
  good a := i.good a.1 ∧ j.good a.2
  dep := max i.dep j.dep
  ok a b := by simp [PyData.eqvAll, i.ok, j.ok, Prod.ext_iff]
  can a h := by
    have h1 := i.can a.1 h.1
    have h2 := j.can a.2 h.2
    simp only [PyData.canLayAll0, PyData.depthAll, h1.1, h2.1, Bool.and_self, true_and]
    omega
/-- a tuple of these places -/
structure Tu (α : Type) where
  v : α
deriving DecidableEq
instance {α : Type} [i : Row α] : DatN (Tu α) where
  d a := .tuple (i.ds a.v)
  good a := i.good a.v
  dep := i.dep + 1
  ok a b := by
    obtain ⟨a⟩ := a
    obtain ⟨b⟩ := b
    simp [PyData.eqv, i.ok]
  can a h := by
    have q := i.can a.v h
    simp only [PyData.canLay0, PyData.depth, q.1, true_and]
    omega
  nl a := by simp [PyData.eqv]
  nr a := by simp [PyData.eqv]
theorem dat_shaped {α : Type} [i : Dat α] {a : α} (g : i.good a) (hd : i.dep ≤ 64) : SeqAt.shaped (i.d a) = true := by
  have q := i.can a g
  unfold SeqAt.shaped
  rw [q.1, Bool.true_and, decide_eq_true_eq]
  omega
theorem dat_eqv {α : Type} [i : Dat α] [DecidableEq α] (a b : α) : PyData.eqv (i.d a) (i.d b) = decide (a = b) := by
  have q := i.ok a b
  by_cases h : a = b
  · rw [decide_eq_true h]; exact q.mpr h
  · rw [decide_eq_false h]
    exact Bool.eq_false_iff.mpr fun z => h (q.mp z)
/-- the value is this datum -/
abbrev Rp (K : PySem.W.Frag) (H : Hp) {α : Type} [i : Dat α] (v : V) (a : α) : Prop := Dp K H v (i.d a)
section
variable {K : PySem.W.Frag} {H : Hp} {α : Type} [i : Dat α] [DecidableEq α] {a b : α} {x y : V} {Q : VK}
theorem eqD_of (ha : Rp K H x a) (hb : Rp K H y b) (ga : i.good a) (gb : i.good b) (q : Q (.bl (decide (a = b))) H) (hd : i.dep ≤ 64 := by decide) : rEqD K x y H Q :=
  ⟨_, _, ha, hb, dat_shaped ga hd, dat_shaped gb hd, by rw [dat_eqv]; exact q⟩
theorem neD_of (ha : Rp K H x a) (hb : Rp K H y b) (ga : i.good a) (gb : i.good b) (q : Q (.bl (!decide (a = b))) H) (hd : i.dep ≤ 64 := by decide) : rNeD K x y H Q :=
  ⟨_, _, ha, hb, dat_shaped ga hd, dat_shaped gb hd, by rw [dat_eqv]; exact q⟩
end
theorem dpAll_map {K : PySem.W.Frag} {H : Hp} {α : Type} [i : Dat α] : ∀ {vs : List V} {as : List α}, Paired (fun v a => Rp K H v a) vs as → DpAll K H vs (as.map i.d)
  | _, _, .nil => .nil
  | _, _, .cons h r => .cons h (dpAll_map r)
theorem dpAll_ints {K : PySem.W.Frag} {H : Hp} : ∀ ns : List Int, DpAll K H (ns.map V.int) (ns.map (DatN.toDat (α := Int)).d)
  | [] => .nil
  | n :: ns => .cons (.int n) (dpAll_ints ns)
theorem rp_ints {K : PySem.W.Frag} {H : Hp} {p : Addr} {ns : List Int} (h : SqL K H p (ns.map V.int)) : Rp K H (.ref p) ns := .lst h (dpAll_ints ns)
theorem good_ints (ns : List Int) : Dat.good ns := fun _ _ => trivial
theorem rgC_size {len L : Nat} (h : 1 ≤ L) : Builtin.Range.rangeSize 0 (len : Nat) (L : Nat) = (((len + (L - 1)) / L : Nat) : Int) := by
  unfold Builtin.Range.rangeSize
  rw [if_pos (by omega)]
  by_cases h0 : len = 0
  · subst h0
    rw [if_neg (by omega), Nat.div_eq_of_lt (by omega)]; rfl
  · rw [if_pos (by omega)]
    have e : ((len : Nat) : Int) - 0 - 1 = ((len - 1 : Nat) : Int) := by omega
    rw [e, show len + (L - 1) = len - 1 + L by omega, Nat.add_div_right _ (by omega)]
    rfl
theorem rgC_up {len L : Nat} (h : 1 ≤ L) (h2 : L ≤ 1000000) (h3 : len ≤ 1000000) : RgC 0 (len : Nat) (L : Nat) ((len + (L - 1)) / L) := by
  have hd : (len + (L - 1)) / L ≤ len + (L - 1) := Nat.div_le_self _ _
  refine ⟨by omega, by omega, ?_, rgC_size h⟩
  unfold Builtin.Range.small
  rw [rgC_size h, if_pos (by omega)]
  generalize (len + (L - 1)) / L = d at hd ⊢
  simp only [Builtin.Range.rangeFitsLong, Bool.and_eq_true, Bool.or_eq_true, decide_eq_true_eq, beq_iff_eq]
  omega
theorem cutV_nat (xs : List V) (a b : Nat) : cutV xs (some (a : Int)) (some (b : Int)) = (xs.drop a).take (b - a) := by
  unfold cutV
  rw [HT.sIx_nat, HT.sIx_nat]
  by_cases h : a ≤ xs.length
  · rw [Nat.min_eq_left h]
    by_cases h2 : b ≤ xs.length
    · rw [Nat.min_eq_left h2]
    · rw [Nat.min_eq_right (by omega), List.take_of_length_le (by simp), List.take_of_length_le (by simp; omega)]
  · have e : min a xs.length = xs.length := Nat.min_eq_right (by omega)
    rw [e, List.drop_length, List.drop_of_length_le (by omega)]; simp
theorem take_range_map {α : Type} {n i : Nat} (h : i < n) (f : Nat → α) : ((List.range n).map f).take (i + 1) = ((List.range n).map f).take i ++ [f i] := by
  rw [List.take_succ]
  congr 1
  rw [List.getElem?_map, List.getElem?_range h]
  rfl
theorem take_snoc {α : Type} {l : List α} {i : Nat} {x : α} (h : l[i]? = some x) : l.take (i + 1) = l.take i ++ [x] := by
  rw [List.take_succ, h]
  rfl
/-- what follows a statement, shown once -/
theorem mid {t : TS} {D : Ends} {σ : L2.St} {H : Hp} (M : L2.St → Hp → Prop) (tail : ∀ σ' H', M σ' H' → D.nx σ' H') (h : (∀ σ' H', M σ' H' → D.nx σ' H') → t D σ H) : t D σ H := h tail

/-! ### rules whose reading names the head: the same for a block within (K given) -/
section
variable {X : Cx} {o a e : Expr} {f : Str} {pos : Pos} {ta : TE} (K : PySem.W.Frag)
theorem pe_fldK (he : PE X o ta) (hb : attributeBase o f X.env (eval o X.env) = eval o X.env) (h : X.K = K := by rfl) : PE X (.Attribute o f pos) (tFld K ta f) := h ▸ pe_fld he hb
theorem ix_listK (h : X.K = K := by rfl) : IxR X (rIxL K) := h ▸ ix_list
theorem ix_tupK (h : X.K = K := by rfl) : IxR X (rIxT K) := h ▸ ix_tup
theorem sl_listK (h : X.K = K := by rfl) : SlR X (rSlL K) := h ▸ sl_list
def rLenQ (K : PySem.W.Frag) : List V → Hp → VK → Prop := fun xs H Q => ∃ p ys, xs = [V.ref p] ∧ (SqL K H p ys ∨ SqT K H p ys) ∧ Q (.int ys.length) H
theorem call_len_seqK (h : X.K = K := by rfl) : CallR X (.builtin "len") (rLenQ K) := h ▸ call_len_seq
def rListQ (K : PySem.W.Frag) : List V → Hp → VK → Prop := fun xs H Q => ∃ p ys, xs = [V.ref p] ∧ (SqL K H p ys ∨ SqT K H p ys) ∧ ∀ l, H l = none → Q (.ref l) (upd H l (.lst ys))
theorem call_list_ofK (h : X.K = K := by rfl) : CallR X (.type "list") (rListQ K) := h ▸ call_list_of
theorem cr_sumK (hc : X.calm = true) (h : X.K = K := by rfl) : CallR X (.builtin "sum") (rSum K) := h ▸ cr_sum hc
theorem cr_sortedIK (h : X.K = K := by rfl) : CallR X (.builtin "sorted") (rSortedI K) := h ▸ cr_sortedI
theorem op_eqDK (hu : X.A.units + 64 < cLine) (h : X.K = K := by rfl) : OpR X (compareOp .Eq) (rEqD K) := h ▸ op_eqD hu
theorem op_neDK (hu : X.A.units + 64 < cLine) (h : X.K = K := by rfl) : OpR X (compareOp .NotEq) (rNeD K) := h ▸ op_neD hu
theorem op_inDK (hu : X.A.units + 65 < cLine) (h : X.K = K := by rfl) : OpR X (compareOp .In) (rInD K) := h ▸ op_inD hu
theorem op_notInDK (hu : X.A.units + 65 < cLine) (h : X.K = K := by rfl) : OpR X (compareOp .NotIn) (rNotInD K) := h ▸ op_notInD hu
theorem op_in_seqK (h : X.K = K := by rfl) : OpR X (compareOp .In) (rIn K false) := h ▸ op_in_seq
theorem op_notIn_seqK (h : X.K = K := by rfl) : OpR X (compareOp .NotIn) (rIn K true) := h ▸ op_notIn_seq
theorem op_catTK (h : X.K = K := by rfl) : OpR X (binaryOp .Add) (rCatT K) := h ▸ op_catT
theorem pe_notTK (ha : PE X a ta) (h : X.K = K := by rfl) : PE X (.UnaryOp .Not a pos) (tNotT K ta) := h ▸ pe_notT ha
theorem pg_tupK {es : List Expr} {k : Nat} {t : TGs} {n : Nat} (hc : X.calm = true) (h : PGs X es t)
    (hn : (assignEach es X.env).length = n := by rfl) (hst : (assignEach es X.env).findIdx? (·.1) = none := by rfl) (hK : X.K = K := by rfl) : PG X (.Tuple es k pos) (gTup K n t) := hK ▸ pg_tup hc h hn hst
end
/-- a tuple of things of one kind -/
structure TuL (α : Type) where
  v : List α
deriving DecidableEq
instance {α : Type} [i : Dat α] : DatN (TuL α) where
  d a := .tuple (a.v.map i.d)
  good a := ∀ x ∈ a.v, i.good x
  dep := i.dep + 1
  ok a b := by
    obtain ⟨a⟩ := a
    obtain ⟨b⟩ := b
    simp [PyData.eqv, eqvAll_map]
  can a h := by
    have q := canAll_map a.v h
    simp only [PyData.canLay0, PyData.depth, q.1, true_and]
    omega
  nl a := by simp [PyData.eqv]
  nr a := by simp [PyData.eqv]
theorem rp_tints {K : PySem.W.Frag} {H : Hp} {p : Addr} {ns : List Int} (h : SqT K H p (ns.map V.int)) : Rp K H (.ref p) (⟨ns⟩ : TuL Int) := .tup h (dpAll_ints ns)
theorem good_tints (ns : List Int) : Dat.good (⟨ns⟩ : TuL Int) := fun _ _ => trivial
theorem tul_eq {α : Type} [DecidableEq α] (a b : List α) : decide ((⟨a⟩ : TuL α) = ⟨b⟩) = decide (a = b) := decide_eq_decide.mpr ⟨fun h => TuL.mk.inj h, fun h => by rw [h]⟩
/-! ### two lists item by item -/
section
variable {α β : Type} {F G : α → β → Prop}
theorem Paired.get : ∀ {xs : List α} {ys : List β} {i : Nat} {x : α}, Paired F xs ys → xs[i]? = some x → ∃ y, ys[i]? = some y ∧ F x y
  | _, _, _, _, .nil, h => by simp at h
  | _, _, 0, _, .cons a r, h => by simp at h; subst h; exact ⟨_, rfl, a⟩
  | _, _, i + 1, _, .cons a r, h => by simp at h; obtain ⟨y, e, f⟩ := Paired.get r h; exact ⟨y, by simpa using e, f⟩
theorem Paired.get' : ∀ {xs : List α} {ys : List β} {i : Nat} {y : β}, Paired F xs ys → ys[i]? = some y → ∃ x, xs[i]? = some x ∧ F x y
  | _, _, _, _, .nil, h => by simp at h
  | _, _, 0, _, .cons a r, h => by simp at h; subst h; exact ⟨_, rfl, a⟩
  | _, _, i + 1, _, .cons a r, h => by simp at h; obtain ⟨y, e, f⟩ := Paired.get' r h; exact ⟨y, by simpa using e, f⟩
theorem Paired.imp (h : ∀ a b, F a b → G a b) : ∀ {xs : List α} {ys : List β}, Paired F xs ys → Paired G xs ys
  | _, _, .nil => .nil
  | _, _, .cons a r => .cons (h _ _ a) (Paired.imp h r)
theorem Paired.impI : ∀ {xs : List α} {ys : List β}, Paired F xs ys → (∀ a ∈ xs, ∀ b ∈ ys, F a b → G a b) → Paired G xs ys
  | _, _, .nil, _ => .nil
  | _, _, .cons a r, h => .cons (h _ (by simp) _ (by simp) a) (Paired.impI r fun x hx y hy => h x (by simp [hx]) y (by simp [hy]))
theorem Paired.snoc {a : α} {b : β} (h : F a b) : ∀ {xs : List α} {ys : List β}, Paired F xs ys → Paired F (xs ++ [a]) (ys ++ [b])
  | _, _, .nil => .cons h .nil
  | _, _, .cons a r => .cons a (Paired.snoc h r)
theorem Paired.app : ∀ {xs : List α} {ys : List β} {xs' : List α} {ys' : List β}, Paired F xs ys → Paired F xs' ys' → Paired F (xs ++ xs') (ys ++ ys')
  | _, _, _, _, .nil, q => q
  | _, _, _, _, .cons a r, q => .cons a (Paired.app r q)
theorem Paired.erase : ∀ {xs : List α} {ys : List β} (i : Nat), Paired F xs ys → Paired F (xs.eraseIdx i) (ys.eraseIdx i)
  | _, _, _, .nil => by simpa using .nil
  | _, _, 0, .cons a r => r
  | _, _, i + 1, .cons a r => .cons a (Paired.erase i r)
theorem Paired.len {xs : List α} {ys : List β} (h : Paired F xs ys) : xs.length = ys.length := by
  induction h with
  | nil => rfl
  | cons _ _ ih => simp [ih]
theorem Paired.of_get : ∀ {xs : List α} {ys : List β}, xs.length = ys.length → (∀ (i : Nat) x y, xs[i]? = some x → ys[i]? = some y → F x y) → Paired F xs ys
  | [], [], _, _ => .nil
  | [], _ :: _, h, _ => by simp at h
  | _ :: _, [], h, _ => by simp at h
  | x :: xs, y :: ys, h, f => .cons (f 0 x y rfl rfl) (Paired.of_get (by simpa using h) fun i a b h1 h2 => f (i + 1) a b (by simpa using h1) (by simpa using h2))
end
theorem nodup_idx {α : Type} {l : List α} (h : l.Nodup) {i j : Nat} {x : α} (h1 : l[i]? = some x) (h2 : l[j]? = some x) : i = j := by
  have hi := (List.getElem?_eq_some_iff.mp h1).1
  exact (List.getElem?_inj hi h).mp (h1.trans h2.symm)
theorem map_erase {α β : Type} (f : α → β) : ∀ (l : List α) (i : Nat), (l.map f).eraseIdx i = (l.eraseIdx i).map f
  | [], _ => by simp
  | _ :: _, 0 => rfl
  | x :: l, i + 1 => by simp [List.eraseIdx, map_erase f l i]
theorem seq_at {k : Nat} {n : Nat} (h : k < n) : seqIndex? (k : Int) n = some k := by
  unfold seqIndex?
  rw [if_neg (show ¬ ((k : Int) < 0) by omega)]
  rw [if_pos (by rw [Bool.and_eq_true, decide_eq_true_eq, decide_eq_true_eq]; omega)]
  rfl
/-- a test by what it leaves -/
theorem if_rel {c : TT} {t1 t2 : TS} {D : Ends} {σ : L2.St} {H : Hp} (R : Bool → Hp → Prop) (h : ∀ Q : Bool → Hp → Prop, (∀ b H', R b H' → Q b H') → c σ H Q) (h1 : ∀ H', R true H' → t1 D σ H') (h2 : ∀ H', R false H' → t2 D σ H') : tIfS c t1 t2 D σ H :=
  h _ fun b H' r => by
    cases b with
    | true => exact h1 H' r
    | false => exact h2 H' r
theorem cutV_to (xs : List V) (b : Nat) : cutV xs none (some (b : Int)) = xs.take b := by
  unfold cutV
  rw [HT.sIx_nat, HT.sIx_none, Nat.sub_zero, List.drop_zero]
  by_cases h : b ≤ xs.length
  · rw [Nat.min_eq_left h]
  · rw [Nat.min_eq_right (by omega), List.take_of_length_le (Nat.le_refl _), List.take_of_length_le (by omega)]
theorem cutV_from (xs : List V) (a : Nat) : cutV xs (some (a : Int)) none = xs.drop a := by
  unfold cutV
  rw [HT.sIx_nat, HT.sIx_none]
  by_cases h : a ≤ xs.length
  · rw [Nat.min_eq_left h, List.take_of_length_le (by simp)]
  · have e : min a xs.length = xs.length := Nat.min_eq_right (by omega)
    rw [e, List.drop_length, List.drop_of_length_le (by omega)]; simp
theorem mem_cut {α : Type} {l : List α} {d : Nat} {x : α} (h : x ∈ l) : l[d]? = some x ∨ x ∈ l.take d ++ l.drop (d + 1) := by
  obtain ⟨i, hi⟩ := List.getElem?_of_mem h
  by_cases e : i = d
  · rw [← e]; exact .inl hi
  · refine .inr (List.mem_append.mpr ?_)
    by_cases h2 : i < d
    · exact .inl (List.mem_of_getElem? (i := i) (by rw [List.getElem?_take, if_pos h2]; exact hi))
    · refine .inr (List.mem_of_getElem? (i := i - (d + 1)) ?_)
      rw [List.getElem?_drop, show d + 1 + (i - (d + 1)) = i by omega]
      exact hi
theorem inV_ints (x : Int) (ns : List Int) : inV (.int x) (ns.map V.int) = decide (x ∈ ns) := by
  unfold inV
  induction ns with
  | nil => rfl
  | cons n ns ih =>
    rw [List.map_cons, List.any_cons, ih]
    have e : eqV (.int n) (.int x) = decide (n = x) := by
      show (n == x) = _
      rw [Bool.eq_iff_iff]; simp
    rw [e]
    by_cases h : n = x
    · rw [decide_eq_true h, Bool.true_or, decide_eq_true (by rw [h]; exact List.mem_cons_self)]
    · rw [decide_eq_false h, Bool.false_or]
      refine decide_eq_decide.mpr ⟨List.mem_cons_of_mem _, fun hm => (List.mem_cons.mp hm).elim (fun e => absurd e.symm h) id⟩
theorem flat_ints (ns : List Int) : (ns.map V.int).all flatV = true := by
  rw [List.all_map, List.all_eq_true]
  intro x _
  rfl
theorem ixN_at {n k : Nat} (h : k < n) : ixN n (k : Int) = some k := by
  unfold ixN
  rw [if_pos (by omega), if_pos (by omega)]
  rfl
/-- what follows a value, shown once -/
theorem te_mid {te : TE} {σ : L2.St} {H : Hp} {Q : VK} (M : V → Hp → Prop) (tail : ∀ v H', M v H' → Q v H') (h : (∀ v H', M v H' → Q v H') → te σ H Q) : te σ H Q := h tail
/-! ### own == and own len -/
/-- what the other side of an own == may be: of the same class, or a tuple -/
def OthV (K : PySem.W.Frag) (H : Hp) (C : Addr) (y : V) : Prop := (∃ b dy gs, y = .ref b ∧ H b = some (.ins C dy gs)) ∨ (∃ b ys, y = .ref b ∧ SqT K H b ys ∧ PySem.W.subIn K (.type "tuple") (.ref C) = some false)
/-- x == y by x's own __eq__ -/
def rEqO (K : PySem.W.Frag) (C : Addr) (sp : Sp) (E : XK) : R2 := fun x y H Q => ∃ a dx fs, x = .ref a ∧ H a = some (.ins C dx fs) ∧ OthV K H C y ∧ sp [x, y] H (fun v H' => (∃ b, v = .bl b) ∧ Q v H') E
section
variable {X : Cx} {CX : CXT} {n j : Nat} {C : Addr} {sp : Sp} {E : XK}
theorem op_eqO (c : Me X.prog X.w X.K X.mg X.base CX n C "__eq__" sp) (hr : Room j X.A) (hn : n ≤ j) (hx : Passes CX X E) (K : PySem.W.Frag) (hK : X.K = K := by rfl) : OpR X (compareOp .Eq) (rEqO K C sp E) := by
  subst hK
  intro pins s σ H x y v u Q I rx ry h
  obtain ⟨a, dx, fs, rfl, ha, hty, hsp⟩ := h
  cases rx
  obtain ⟨f, fd, ps, hc, hm, F, b⟩ := c.ex
  obtain ⟨mA, J, _⟩ := ins_get I.hok ha
  obtain ⟨od, J, _⟩ := J.look
  obtain ⟨m, hF⟩ := I.fr
  have go : wpAny (model X.prog X.w) X.A (call (.ref f) [.ref a, u]) (PySem.W.CmpBack (EP X pins σ Q)) X.xe s := by
    have hl := F.len _ _ _ _ hsp
    refine wpAny_call (codeAny_mono (F.run X.A X.stack s H ⟨[.ref a, u], []⟩ [.ref a, u] [.ref a, y] _ E (hr.mono hn) I.env0 (by
      have := b s [.ref a, u] I.kIn (by simpa using hl)
      simpa using this) (.cons rfl (.cons ry .nil)) hsp) fun r s' hq => ?_)
    cases r with
    | error e => exact hx pins σ H s e s' I hq
    | ok fl =>
      cases fl with
      | ret w =>
        obtain ⟨z, H', I', rz, ⟨bb, eb⟩, q⟩ := I.after hq
        subst eb
        cases rz
        exact ⟨.bl bb, H', I', rfl, q⟩
      | next => exact False.elim hq
      | brk => exact False.elim hq
      | cont => exact False.elim hq
  show wpAny (model X.prog X.w) X.A (richCompare .Eq (.ref a) u) (EP X pins σ Q) X.xe s
  rcases hty with ⟨b', dy, gs, rfl, hb'⟩ | ⟨b', ys, rfl, hb', hsub⟩
  · cases ry
    obtain ⟨mB, J', _⟩ := ins_get I.hok hb'
    obtain ⟨od', J', _⟩ := J'.look
    exact PySem.W.cmp_K (op := .Eq) (tb := .ref C) hr.units0 hF I.ok.mod.kin J J'.type (by simp [PySem.W.notFirst]) hm.at_ hm.fn go
  · cases ry
    obtain ⟨its, _, ⟨o, ho, hcl, _⟩, _⟩ := I.tuple hb'
    have ht : PySem.W.Looks (model X.prog X.w) s.heap (typeOf (.ref b')) (.type "tuple") := hcl ▸ (PySem.W.Looks.ld ho).andThen .now
    exact PySem.W.cmp_K (op := .Eq) (tb := .type "tuple") hr.units0 hF I.ok.mod.kin J ht (by simp [PySem.W.notFirst, hsub]) hm.at_ hm.fn go
/-- len(x) by x's own __len__ -/
def rLenO (C : Addr) (sp : Sp) (E : XK) : List V → Hp → VK → Prop := fun xs H Q => ∃ a dx fs, xs = [V.ref a] ∧ H a = some (.ins C dx fs) ∧ sp [.ref a] H (fun v H' => (∃ n : Nat, v = .int n ∧ n ≤ 1000000) ∧ Q v H') E
theorem call_lenO (c : Me X.prog X.w X.K X.mg X.base CX n C "__len__" sp) (hr : Room j X.A) (hn : n + 1 ≤ j) (hx : Passes CX X E) : CallR X (.builtin "len") (rLenO C sp E) := by
  intro pins s σ H xs us Q I r h
  obtain ⟨a, dx, fs, rfl, ha, hsp⟩ := h
  obtain ⟨u, rfl, rx⟩ := vals1 r
  cases rx
  obtain ⟨f, fd, ps, hc, hm, F, b⟩ := c.ex
  obtain ⟨mA, J, _⟩ := ins_get I.hok ha
  obtain ⟨od, J, _⟩ := J.look
  obtain ⟨m, hF⟩ := I.fr
  refine PySem.W.len_K hF I.ok.mod.kin J hm.at_ hm.fn ?_
  have hl := F.len _ _ _ _ hsp
  refine wpAny_call (codeAny_mono (F.run X.A.in1 X.stack s H ⟨[.ref a], []⟩ [.ref a] [.ref a] _ E (hr.mono hn).in1 I.env0.in1 (by
    have := b s [.ref a] I.kIn (by simpa using hl)
    simpa using this) (.cons rfl .nil) hsp) fun r s' hq => ?_)
  cases r with
  | error e => exact hx pins σ H s e s' I hq
  | ok fl =>
    cases fl with
    | ret w =>
      obtain ⟨z, H', I', rz, ⟨n, en, hn2⟩, q⟩ := I.after hq
      subst en
      obtain ⟨t, rfl⟩ := rz
      exact ⟨⟨by omega, by omega⟩, .int n, H', I'.tok _, ⟨_, rfl⟩, q⟩
    | next => exact False.elim hq
    | brk => exact False.elim hq
    | cont => exact False.elim hq
end
/-! ### longer chains; lists of objects -/
section
variable {X : Cx} {a b c e : Expr} {pos : Pos} {ta tb tc te : TE}
/-- a op1 b op2 c op3 e, as a test -/
def tChain3 (r r' r2 : R2) (ta tb tc te : TE) : TT := fun σ H Q => ta σ H fun x H1 => tb σ H1 fun y H2 => r x y H2 fun z H3 => ∃ k, z = .bl k ∧
  (if k = true then tc σ H3 fun w' H4 => r' y w' H4 fun z2 H5 => ∃ k2, z2 = .bl k2 ∧ (if k2 = true then te σ H5 fun w2 H6 => r2 w' w2 H6 fun z3 H7 => ∃ k3, z3 = .bl k3 ∧ Q k3 H7 else Q false H5) else Q false H3)
theorem pt_chain3 {op op' op2 : CmpOp} {r r' r2 : R2} (ho : OpR X (compareOp op) r) (ho' : OpR X (compareOp op') r') (ho2 : OpR X (compareOp op2) r2) (ha : PE X a ta) (hb : PE X b tb) (hc : PE X c tc) (he : PE X e te)
    (hm : lastMarks [op, op', op2] [b, c, e] = false := by with_unfolding_all rfl) : PT X (.Compare a [op, op', op2] [b, c, e] pos) (tChain3 r r' r2 ta tb tc te) := by
  refine ⟨fun pins s σ H Q I h => ?_⟩
  refine isTrue_chain (thn (ha.run pins s σ H _ I h) fun v s1 ⟨x, H1, I1, r1, q1⟩ => test_link (thn (hb.run pins s1 σ H1 _ I1 q1) fun u s2 ⟨y, H2, I2, r2', q2⟩ =>
    thn (ho pins s2 σ H2 x y v u _ I2 r1 r2' q2) fun d s3 ⟨z, H3, I3, r3, k, e1, q3⟩ => ?_)) hm
  subst e1
  cases r3
  refine wpAny_truthy_bool ?_
  cases k with
  | false => exact ite_ff ⟨H3, I3, q3⟩
  | true =>
    refine ite_tt (test_link (thn (hc.run pins s3 σ H3 _ I3 q3) fun w' s4 ⟨z', H4, I4, r4, q4⟩ => thn (ho' pins s4 σ H4 y z' u w' _ I4 r2' r4 q4) fun d' s5 ⟨z2, H5, I5, r5, k2, e2, q5⟩ => ?_))
    subst e2
    cases r5
    refine wpAny_truthy_bool ?_
    cases k2 with
    | false => exact ite_ff ⟨H5, I5, q5⟩
    | true =>
      refine ite_tt (test_last (thn (he.run pins s5 σ H5 _ I5 q5) fun w2 s6 ⟨z6, H6, I6, r6, q6⟩ => thn (ho2 pins s6 σ H6 z' z6 w' w2 _ I6 r4 r6 q6) fun d2 s7 ⟨z3, H7, I7, r7, k3, e3, q7⟩ => ?_))
      subst e3
      cases r7
      exact wpAny_truthy_bool ⟨H7, I7, q7⟩
/-- xs != ys, lists of the same objects -/
def rNeI (K : PySem.W.Frag) : R2 := fun x y H Q => ∃ (a b : Addr) (ps : List Addr), x = .ref a ∧ y = .ref b ∧ SqL K H a (ps.map V.ref) ∧ SqL K H b (ps.map V.ref) ∧ Q (.bl false) H
theorem vals_refs : ∀ {ps : List Addr} {us : List Value}, Vals (ps.map V.ref) us → us = ps.map Value.ref
  | [], us, r => by cases r; rfl
  | p :: ps, us, r => by
    cases r with
    | cons a b =>
      cases a
      rw [vals_refs b]
      rfl
theorem op_neI (hu : X.A.units < cLine) : OpR X (compareOp .NotEq) (rNeI X.K) := by
  intro pins s σ H x y v u Q I rx ry h
  obtain ⟨a, b, ps, rfl, rfl, ha, hb, q⟩ := h
  cases rx
  cases ry
  obtain ⟨us, r1, p1, _⟩ := I.list ha
  obtain ⟨ws, r2, p2, _⟩ := I.list hb
  have e1 := vals_refs r1
  have e2 := vals_refs r2
  subst e1 e2
  have z := SeqAt.RcNeAt.lists (A := X.A) (s := s) (e := fun _ => true) p1.isList p2.isList rfl hu (fun j h1 h2 => SeqAt.EqAt.same _)
  refine z X.prog X.w X.xe _ ?_
  rw [show ((List.range (ps.map Value.ref).toArray.size).all fun _ => true) = true from List.all_eq_true.mpr fun _ _ => rfl]
  exact ⟨.bl false, H, I, rfl, q⟩
end
theorem eqV_str (a b : Str) : eqV (.str a) (.str b) = decide (a = b) := by
  show (a == b) = _
  rw [Bool.eq_iff_iff]
  simp
theorem inV_strs (x : Str) (ns : List Str) : inV (.str x) (ns.map V.str) = decide (x ∈ ns) := by
  unfold inV
  induction ns with
  | nil => rfl
  | cons n ns ih =>
    rw [List.map_cons, List.any_cons, ih, eqV_str]
    by_cases h : n = x
    · rw [decide_eq_true h, Bool.true_or, decide_eq_true (by rw [h]; exact List.mem_cons_self)]
    · rw [decide_eq_false h, Bool.false_or]
      refine decide_eq_decide.mpr ⟨List.mem_cons_of_mem _, fun hm => (List.mem_cons.mp hm).elim (fun e => absurd e.symm h) id⟩
theorem flat_strs (ns : List Str) : (ns.map V.str).all flatV = true := by
  rw [List.all_map, List.all_eq_true]
  intro x _
  rfl
theorem dpAll_strs {K : PySem.W.Frag} {H : Hp} : ∀ ns : List Str, DpAll K H (ns.map V.str) (ns.map (DatN.toDat (α := Str)).d)
  | [] => .nil
  | n :: ns => .cons (.str n) (dpAll_strs ns)
theorem rp_strs {K : PySem.W.Frag} {H : Hp} {p : Addr} {ns : List Str} (h : SqL K H p (ns.map V.str)) : Rp K H (.ref p) ns := .lst h (dpAll_strs ns)
theorem str_decV (a b : Str) : decide (V.str a = V.str b) = decide (a = b) := decide_eq_decide.mpr ⟨fun h => V.str.inj h, fun h => by rw [h]⟩
theorem range_snoc' {α : Type} (N : Nat) (f : Nat → α) : (List.range (N + 1)).map f = (List.range N).map f ++ [f N] := by
  rw [List.range_succ, List.map_append]
  rfl
end TW
local macro_rules | `(tactic| walk_at "g") => `(tactic| repeat first | refine ⟨_, rfl, ?_⟩ | refine ⟨_, _, rfl, rfl, ?_⟩ | refine ⟨rfl, ?_⟩ | refine Or.inl ⟨_, rfl, ?_⟩ | refine ⟨by decide, ?_⟩ | refine ⟨(by show (0 : Int) < _; decide), ?_⟩ | refine ⟨_, _, rfl, ?_⟩)
local macro_rules | `(tactic| walk_at "n") => `(tactic| dsimp only [L2.gName, L2.tSeq, L2.tAsg, L2.tNext])
namespace Own
open PySem PySem.Spec PyProof.Rows L2 TW
def top (i : Nat) : Stmt := PySem.Challenge.pw_throughway_k95_joined_names.main.body.getD i (.Pass ⟨0, 0, 0, 0⟩)
abbrev s_law_cell : Stmt := top 20
theorem sc_law_cell : FnScope ["script", "k"] ["script", "k"] (defScope s_law_cell) := ⟨rfl, rfl, rfl, by decide +kernel, rfl, by decide +kernel, by decide +kernel⟩
abbrev s_law_start : Stmt := top 21
theorem sc_law_start : FnScope ["cell", "k", "prime", "mixed", "number", "turn"] ["cell", "k"] (defScope s_law_start) := ⟨rfl, rfl, rfl, by decide +kernel, rfl, by decide +kernel, by decide +kernel⟩
abbrev s_law_digit : Stmt := top 22
theorem sc_law_digit : FnScope ["state", "many", "digit"] ["state", "many"] (defScope s_law_digit) := ⟨rfl, rfl, rfl, by decide +kernel, rfl, by decide +kernel, by decide +kernel⟩
abbrev s_LinkOptions___init__ : Stmt := inClass (top 11) 0
theorem sc_LinkOptions___init__ : FnScope ["self", "cost", "size", "rate", "depth", "limit", "delay"] ["self", "cost", "size", "rate", "depth", "limit", "delay"] (defScope s_LinkOptions___init__) := ⟨rfl, rfl, rfl, by decide +kernel, rfl, by decide +kernel, by decide +kernel⟩
abbrev s_LayoutLink___init__ : Stmt := inClass (top 13) 0
theorem sc_LayoutLink___init__ : FnScope ["self", "first", "second", "options"] ["self", "first", "second", "options"] (defScope s_LayoutLink___init__) := ⟨rfl, rfl, rfl, by decide +kernel, rfl, by decide +kernel, by decide +kernel⟩
abbrev s_Layout___init__ : Stmt := inClass (top 14) 0
theorem sc_Layout___init__ : FnScope ["self"] ["self"] (defScope s_Layout___init__) := ⟨rfl, rfl, rfl, by decide +kernel, rfl, by decide +kernel, by decide +kernel⟩
abbrev s_Layout_host_names : Stmt := inClass (top 14) 2
theorem sc_Layout_host_names : FnScope ["self", "name", "_"] ["self"] (defScope s_Layout_host_names) := ⟨rfl, rfl, rfl, by decide +kernel, rfl, by decide +kernel, by decide +kernel⟩
abbrev s_Layout_links_of : Stmt := inClass (top 14) 5
theorem sc_Layout_links_of : FnScope ["self", "name", "k", "link"] ["self", "name"] (defScope s_Layout_links_of) := ⟨rfl, rfl, rfl, by decide +kernel, rfl, by decide +kernel, by decide +kernel⟩
abbrev s_neighbours : Stmt := top 17
theorem sc_neighbours : FnScope ["layout", "name", "names", "k", "link"] ["layout", "name"] (defScope s_neighbours) := ⟨rfl, rfl, rfl, by decide +kernel, rfl, by decide +kernel, by decide +kernel⟩
abbrev s_law_near : Stmt := top 24
theorem sc_law_near : FnScope ["layout", "name", "near", "link"] ["layout", "name"] (defScope s_law_near) := ⟨rfl, rfl, rfl, by decide +kernel, rfl, by decide +kernel, by decide +kernel⟩
abbrev s_is_joined : Stmt := top 18
theorem sc_is_joined : FnScope ["layout", "first", "second", "reached", "hosts", "at", "name", "other"] ["layout", "first", "second"] (defScope s_is_joined) := ⟨rfl, rfl, rfl, by decide +kernel, rfl, by decide +kernel, by decide +kernel⟩
abbrev s_law_reached : Stmt := top 25
theorem sc_law_reached : FnScope ["layout", "first", "hosts", "reached", "turn", "name", "other"] ["layout", "first"] (defScope s_law_reached) := ⟨rfl, rfl, rfl, by decide +kernel, rfl, by decide +kernel, by decide +kernel⟩
abbrev s_law_asked : Stmt := top 26
theorem sc_law_asked : FnScope ["layout", "names", "first", "reached", "second"] ["layout"] (defScope s_law_asked) := ⟨rfl, rfl, rfl, by decide +kernel, rfl, by decide +kernel, by decide +kernel⟩
abbrev s_without_links : Stmt := top 16
theorem sc_without_links : FnScope ["layout", "cut", "double", "k", "link"] ["layout", "cut"] (defScope s_without_links) := ⟨rfl, rfl, rfl, by decide +kernel, rfl, by decide +kernel, by decide +kernel⟩
abbrev s_law_layout : Stmt := top 23
theorem sc_law_layout : FnScope ["state", "layout", "options", "routers", "k", "ends", "first", "second"] ["state"] (defScope s_law_layout) := ⟨rfl, rfl, rfl, by decide +kernel, rfl, by decide +kernel, by decide +kernel⟩
abbrev s_law : Stmt := top 27
theorem sc_law : FnScope ["script", "k", "state", "layout", "links", "cut", "i", "less"] ["script"] (defScope s_law) := ⟨rfl, rfl, rfl, by decide +kernel, rfl, by decide +kernel, by decide +kernel⟩
/-- the parameters' order of a call by keywords -/
def o_kw0_LinkOptions___init__ {α : Type} (us mv ws : List α) : List α := us ++ (((ws.drop 0).take 1) ++ (((ws.drop 1).take 1) ++ (((ws.drop 2).take 1) ++ (((ws.drop 3).take 1) ++ (((ws.drop 4).take 1) ++ (((ws.drop 5).take 1) ++ []))))))
theorem o_kw0_LinkOptions___init___rel {vs mz zs : List V} {us mv ws : List Value} (r : Vals vs us) (rm : Vals mz mv) (rz : Vals zs ws) : Vals (o_kw0_LinkOptions___init__ vs mz zs) (o_kw0_LinkOptions___init__ us mv ws) := Vals.append r (Vals.append (Vals.take 1 (Vals.drop 0 rz)) (Vals.append (Vals.take 1 (Vals.drop 1 rz)) (Vals.append (Vals.take 1 (Vals.drop 2 rz)) (Vals.append (Vals.take 1 (Vals.drop 3 rz)) (Vals.append (Vals.take 1 (Vals.drop 4 rz)) (Vals.append (Vals.take 1 (Vals.drop 5 rz)) .nil))))))
/-- the attributes of a Layout, in the order in which they are stored -/
def fs_Layout (x_hosts x_routers x_links : V) : List (Str × V) := [("hosts", x_hosts), ("routers", x_routers), ("links", x_links)]
theorem fs_Layout_hosts {x_hosts x_routers x_links : V} : (fs_Layout x_hosts x_routers x_links).lookup ("hosts" : Str) = some x_hosts := by
  unfold fs_Layout
  rw [lk_eq]
theorem fs_Layout_put_hosts {x_hosts x_routers x_links v : V} : putF ("hosts" : Str) v (fs_Layout x_hosts x_routers x_links) = fs_Layout v x_routers x_links := by
  unfold fs_Layout
  rw [put_eq]
theorem fs_Layout_new_hosts {x_hosts : V} : putF ("hosts" : Str) x_hosts ([] : List (Str × V)) = ([("hosts", x_hosts)] : List (Str × V)) := by
  rw [put_nil]
theorem fs_Layout_routers {x_hosts x_routers x_links : V} : (fs_Layout x_hosts x_routers x_links).lookup ("routers" : Str) = some x_routers := by
  unfold fs_Layout
  rw [lk_ne (by decide +kernel)]; rw [lk_eq]
theorem fs_Layout_put_routers {x_hosts x_routers x_links v : V} : putF ("routers" : Str) v (fs_Layout x_hosts x_routers x_links) = fs_Layout x_hosts v x_links := by
  unfold fs_Layout
  rw [put_ne (by decide +kernel)]; rw [put_eq]
theorem fs_Layout_new_routers {x_hosts x_routers : V} : putF ("routers" : Str) x_routers ([("hosts", x_hosts)] : List (Str × V)) = ([("hosts", x_hosts), ("routers", x_routers)] : List (Str × V)) := by
  rw [put_ne (by decide +kernel)]; rw [put_nil]
theorem fs_Layout_links {x_hosts x_routers x_links : V} : (fs_Layout x_hosts x_routers x_links).lookup ("links" : Str) = some x_links := by
  unfold fs_Layout
  rw [lk_ne (by decide +kernel)]; rw [lk_ne (by decide +kernel)]; rw [lk_eq]
theorem fs_Layout_put_links {x_hosts x_routers x_links v : V} : putF ("links" : Str) v (fs_Layout x_hosts x_routers x_links) = fs_Layout x_hosts x_routers v := by
  unfold fs_Layout
  rw [put_ne (by decide +kernel)]; rw [put_ne (by decide +kernel)]; rw [put_eq]
theorem fs_Layout_new_links {x_hosts x_routers x_links : V} : putF ("links" : Str) x_links ([("hosts", x_hosts), ("routers", x_routers)] : List (Str × V)) = ([("hosts", x_hosts), ("routers", x_routers), ("links", x_links)] : List (Str × V)) := by
  rw [put_ne (by decide +kernel)]; rw [put_ne (by decide +kernel)]; rw [put_nil]
theorem fs_Layout_len {x_hosts x_routers x_links : V} : (fs_Layout x_hosts x_routers x_links).length < 1000 := by show 3 < 1000; decide
theorem fs_Layout_no_host_names {x_hosts x_routers x_links : V} : (fs_Layout x_hosts x_routers x_links).lookup ("host_names" : Str) = none := by
  unfold fs_Layout
  rw [lk_ne (by decide +kernel)]; rw [lk_ne (by decide +kernel)]; rw [lk_ne (by decide +kernel)]; rfl
theorem fs_Layout_no_links_of {x_hosts x_routers x_links : V} : (fs_Layout x_hosts x_routers x_links).lookup ("links_of" : Str) = none := by
  unfold fs_Layout
  rw [lk_ne (by decide +kernel)]; rw [lk_ne (by decide +kernel)]; rw [lk_ne (by decide +kernel)]; rfl
/-- the attributes of a LayoutLink, in the order in which they are stored -/
def fs_LayoutLink (x_one x_other x_options : V) : List (Str × V) := [("one", x_one), ("other", x_other), ("options", x_options)]
theorem fs_LayoutLink_one {x_one x_other x_options : V} : (fs_LayoutLink x_one x_other x_options).lookup ("one" : Str) = some x_one := by
  unfold fs_LayoutLink
  rw [lk_eq]
theorem fs_LayoutLink_put_one {x_one x_other x_options v : V} : putF ("one" : Str) v (fs_LayoutLink x_one x_other x_options) = fs_LayoutLink v x_other x_options := by
  unfold fs_LayoutLink
  rw [put_eq]
theorem fs_LayoutLink_new_one {x_one : V} : putF ("one" : Str) x_one ([] : List (Str × V)) = ([("one", x_one)] : List (Str × V)) := by
  rw [put_nil]
theorem fs_LayoutLink_other {x_one x_other x_options : V} : (fs_LayoutLink x_one x_other x_options).lookup ("other" : Str) = some x_other := by
  unfold fs_LayoutLink
  rw [lk_ne (by decide +kernel)]; rw [lk_eq]
theorem fs_LayoutLink_put_other {x_one x_other x_options v : V} : putF ("other" : Str) v (fs_LayoutLink x_one x_other x_options) = fs_LayoutLink x_one v x_options := by
  unfold fs_LayoutLink
  rw [put_ne (by decide +kernel)]; rw [put_eq]
theorem fs_LayoutLink_new_other {x_one x_other : V} : putF ("other" : Str) x_other ([("one", x_one)] : List (Str × V)) = ([("one", x_one), ("other", x_other)] : List (Str × V)) := by
  rw [put_ne (by decide +kernel)]; rw [put_nil]
theorem fs_LayoutLink_options {x_one x_other x_options : V} : (fs_LayoutLink x_one x_other x_options).lookup ("options" : Str) = some x_options := by
  unfold fs_LayoutLink
  rw [lk_ne (by decide +kernel)]; rw [lk_ne (by decide +kernel)]; rw [lk_eq]
theorem fs_LayoutLink_put_options {x_one x_other x_options v : V} : putF ("options" : Str) v (fs_LayoutLink x_one x_other x_options) = fs_LayoutLink x_one x_other v := by
  unfold fs_LayoutLink
  rw [put_ne (by decide +kernel)]; rw [put_ne (by decide +kernel)]; rw [put_eq]
theorem fs_LayoutLink_new_options {x_one x_other x_options : V} : putF ("options" : Str) x_options ([("one", x_one), ("other", x_other)] : List (Str × V)) = ([("one", x_one), ("other", x_other), ("options", x_options)] : List (Str × V)) := by
  rw [put_ne (by decide +kernel)]; rw [put_ne (by decide +kernel)]; rw [put_nil]
theorem fs_LayoutLink_len {x_one x_other x_options : V} : (fs_LayoutLink x_one x_other x_options).length < 1000 := by show 3 < 1000; decide
/-- the attributes of a LinkOptions, in the order in which they are stored -/
def fs_LinkOptions (x_cost x_part_size x_rate x_depth x_limit x_delay : V) : List (Str × V) := [("cost", x_cost), ("part_size", x_part_size), ("rate", x_rate), ("depth", x_depth), ("limit", x_limit), ("delay", x_delay)]
theorem fs_LinkOptions_cost {x_cost x_part_size x_rate x_depth x_limit x_delay : V} : (fs_LinkOptions x_cost x_part_size x_rate x_depth x_limit x_delay).lookup ("cost" : Str) = some x_cost := by
  unfold fs_LinkOptions
  rw [lk_eq]
theorem fs_LinkOptions_put_cost {x_cost x_part_size x_rate x_depth x_limit x_delay v : V} : putF ("cost" : Str) v (fs_LinkOptions x_cost x_part_size x_rate x_depth x_limit x_delay) = fs_LinkOptions v x_part_size x_rate x_depth x_limit x_delay := by
  unfold fs_LinkOptions
  rw [put_eq]
theorem fs_LinkOptions_new_cost {x_cost : V} : putF ("cost" : Str) x_cost ([] : List (Str × V)) = ([("cost", x_cost)] : List (Str × V)) := by
  rw [put_nil]
theorem fs_LinkOptions_part_size {x_cost x_part_size x_rate x_depth x_limit x_delay : V} : (fs_LinkOptions x_cost x_part_size x_rate x_depth x_limit x_delay).lookup ("part_size" : Str) = some x_part_size := by
  unfold fs_LinkOptions
  rw [lk_ne (by decide +kernel)]; rw [lk_eq]
theorem fs_LinkOptions_put_part_size {x_cost x_part_size x_rate x_depth x_limit x_delay v : V} : putF ("part_size" : Str) v (fs_LinkOptions x_cost x_part_size x_rate x_depth x_limit x_delay) = fs_LinkOptions x_cost v x_rate x_depth x_limit x_delay := by
  unfold fs_LinkOptions
  rw [put_ne (by decide +kernel)]; rw [put_eq]
theorem fs_LinkOptions_new_part_size {x_cost x_part_size : V} : putF ("part_size" : Str) x_part_size ([("cost", x_cost)] : List (Str × V)) = ([("cost", x_cost), ("part_size", x_part_size)] : List (Str × V)) := by
  rw [put_ne (by decide +kernel)]; rw [put_nil]
theorem fs_LinkOptions_rate {x_cost x_part_size x_rate x_depth x_limit x_delay : V} : (fs_LinkOptions x_cost x_part_size x_rate x_depth x_limit x_delay).lookup ("rate" : Str) = some x_rate := by
  unfold fs_LinkOptions
  rw [lk_ne (by decide +kernel)]; rw [lk_ne (by decide +kernel)]; rw [lk_eq]
theorem fs_LinkOptions_put_rate {x_cost x_part_size x_rate x_depth x_limit x_delay v : V} : putF ("rate" : Str) v (fs_LinkOptions x_cost x_part_size x_rate x_depth x_limit x_delay) = fs_LinkOptions x_cost x_part_size v x_depth x_limit x_delay := by
  unfold fs_LinkOptions
  rw [put_ne (by decide +kernel)]; rw [put_ne (by decide +kernel)]; rw [put_eq]
theorem fs_LinkOptions_new_rate {x_cost x_part_size x_rate : V} : putF ("rate" : Str) x_rate ([("cost", x_cost), ("part_size", x_part_size)] : List (Str × V)) = ([("cost", x_cost), ("part_size", x_part_size), ("rate", x_rate)] : List (Str × V)) := by
  rw [put_ne (by decide +kernel)]; rw [put_ne (by decide +kernel)]; rw [put_nil]
theorem fs_LinkOptions_depth {x_cost x_part_size x_rate x_depth x_limit x_delay : V} : (fs_LinkOptions x_cost x_part_size x_rate x_depth x_limit x_delay).lookup ("depth" : Str) = some x_depth := by
  unfold fs_LinkOptions
  rw [lk_ne (by decide +kernel)]; rw [lk_ne (by decide +kernel)]; rw [lk_ne (by decide +kernel)]; rw [lk_eq]
theorem fs_LinkOptions_put_depth {x_cost x_part_size x_rate x_depth x_limit x_delay v : V} : putF ("depth" : Str) v (fs_LinkOptions x_cost x_part_size x_rate x_depth x_limit x_delay) = fs_LinkOptions x_cost x_part_size x_rate v x_limit x_delay := by
  unfold fs_LinkOptions
  rw [put_ne (by decide +kernel)]; rw [put_ne (by decide +kernel)]; rw [put_ne (by decide +kernel)]; rw [put_eq]
theorem fs_LinkOptions_new_depth {x_cost x_part_size x_rate x_depth : V} : putF ("depth" : Str) x_depth ([("cost", x_cost), ("part_size", x_part_size), ("rate", x_rate)] : List (Str × V)) = ([("cost", x_cost), ("part_size", x_part_size), ("rate", x_rate), ("depth", x_depth)] : List (Str × V)) := by
  rw [put_ne (by decide +kernel)]; rw [put_ne (by decide +kernel)]; rw [put_ne (by decide +kernel)]; rw [put_nil]
theorem fs_LinkOptions_limit {x_cost x_part_size x_rate x_depth x_limit x_delay : V} : (fs_LinkOptions x_cost x_part_size x_rate x_depth x_limit x_delay).lookup ("limit" : Str) = some x_limit := by
  unfold fs_LinkOptions
  rw [lk_ne (by decide +kernel)]; rw [lk_ne (by decide +kernel)]; rw [lk_ne (by decide +kernel)]; rw [lk_ne (by decide +kernel)]; rw [lk_eq]
theorem fs_LinkOptions_put_limit {x_cost x_part_size x_rate x_depth x_limit x_delay v : V} : putF ("limit" : Str) v (fs_LinkOptions x_cost x_part_size x_rate x_depth x_limit x_delay) = fs_LinkOptions x_cost x_part_size x_rate x_depth v x_delay := by
  unfold fs_LinkOptions
  rw [put_ne (by decide +kernel)]; rw [put_ne (by decide +kernel)]; rw [put_ne (by decide +kernel)]; rw [put_ne (by decide +kernel)]; rw [put_eq]
theorem fs_LinkOptions_new_limit {x_cost x_part_size x_rate x_depth x_limit : V} : putF ("limit" : Str) x_limit ([("cost", x_cost), ("part_size", x_part_size), ("rate", x_rate), ("depth", x_depth)] : List (Str × V)) = ([("cost", x_cost), ("part_size", x_part_size), ("rate", x_rate), ("depth", x_depth), ("limit", x_limit)] : List (Str × V)) := by
  rw [put_ne (by decide +kernel)]; rw [put_ne (by decide +kernel)]; rw [put_ne (by decide +kernel)]; rw [put_ne (by decide +kernel)]; rw [put_nil]
theorem fs_LinkOptions_delay {x_cost x_part_size x_rate x_depth x_limit x_delay : V} : (fs_LinkOptions x_cost x_part_size x_rate x_depth x_limit x_delay).lookup ("delay" : Str) = some x_delay := by
  unfold fs_LinkOptions
  rw [lk_ne (by decide +kernel)]; rw [lk_ne (by decide +kernel)]; rw [lk_ne (by decide +kernel)]; rw [lk_ne (by decide +kernel)]; rw [lk_ne (by decide +kernel)]; rw [lk_eq]
theorem fs_LinkOptions_put_delay {x_cost x_part_size x_rate x_depth x_limit x_delay v : V} : putF ("delay" : Str) v (fs_LinkOptions x_cost x_part_size x_rate x_depth x_limit x_delay) = fs_LinkOptions x_cost x_part_size x_rate x_depth x_limit v := by
  unfold fs_LinkOptions
  rw [put_ne (by decide +kernel)]; rw [put_ne (by decide +kernel)]; rw [put_ne (by decide +kernel)]; rw [put_ne (by decide +kernel)]; rw [put_ne (by decide +kernel)]; rw [put_eq]
theorem fs_LinkOptions_new_delay {x_cost x_part_size x_rate x_depth x_limit x_delay : V} : putF ("delay" : Str) x_delay ([("cost", x_cost), ("part_size", x_part_size), ("rate", x_rate), ("depth", x_depth), ("limit", x_limit)] : List (Str × V)) = ([("cost", x_cost), ("part_size", x_part_size), ("rate", x_rate), ("depth", x_depth), ("limit", x_limit), ("delay", x_delay)] : List (Str × V)) := by
  rw [put_ne (by decide +kernel)]; rw [put_ne (by decide +kernel)]; rw [put_ne (by decide +kernel)]; rw [put_ne (by decide +kernel)]; rw [put_ne (by decide +kernel)]; rw [put_nil]
theorem fs_LinkOptions_len {x_cost x_part_size x_rate x_depth x_limit x_delay : V} : (fs_LinkOptions x_cost x_part_size x_rate x_depth x_limit x_delay).length < 1000 := by show 6 < 1000; decide
structure Txt (K : PySem.W.Frag) (mg : Str → Option Value) (C_Layout C_LayoutLink C_LinkOptions E_InvalidAmount : Addr) : Prop where
  cl_Layout : Cls K C_Layout
  gv_Layout : ∃ u, mg "Layout" = some u ∧ RelV (.ref C_Layout) u
  cl_LayoutLink : Cls K C_LayoutLink
  gv_LayoutLink : ∃ u, mg "LayoutLink" = some u ∧ RelV (.ref C_LayoutLink) u
  cl_LinkOptions : Cls K C_LinkOptions
  gv_LinkOptions : ∃ u, mg "LinkOptions" = some u ∧ RelV (.ref C_LinkOptions) u
  na_Layout_hosts : NoAttr K C_Layout "hosts"
  na_Layout_links : NoAttr K C_Layout "links"
  na_Layout_routers : NoAttr K C_Layout "routers"
  na_LayoutLink_one : NoAttr K C_LayoutLink "one"
  na_LayoutLink_options : NoAttr K C_LayoutLink "options"
  na_LayoutLink_other : NoAttr K C_LayoutLink "other"
  na_LinkOptions_cost : NoAttr K C_LinkOptions "cost"
  na_LinkOptions_delay : NoAttr K C_LinkOptions "delay"
  na_LinkOptions_depth : NoAttr K C_LinkOptions "depth"
  na_LinkOptions_limit : NoAttr K C_LinkOptions "limit"
  na_LinkOptions_part_size : NoAttr K C_LinkOptions "part_size"
  na_LinkOptions_rate : NoAttr K C_LinkOptions "rate"
  b_enumerate : mg "enumerate" = none
  b_int : mg "int" = none
  b_len : mg "len" = none
  b_list : mg "list" = none
  b_min : mg "min" = none
  b_range : mg "range" = none
  b_str : mg "str" = none
  g_GREATEST : ∃ u, mg "GREATEST" = some u ∧ RelV (.int 1073741824) u
  g_LEAST_SIZE : ∃ u, mg "LEAST_SIZE" = some u ∧ RelV (.int 16) u
  g_MOST_COST : ∃ u, mg "MOST_COST" = some u ∧ RelV (.int 15) u
  g_MOST_DELAY : ∃ u, mg "MOST_DELAY" = some u ∧ RelV (.int 1000) u
  g_MOST_SIZE : ∃ u, mg "MOST_SIZE" = some u ∧ RelV (.int 65535) u
  g_ROOM : ∃ u, mg "ROOM" = some u ∧ RelV (.int 64) u
  x_InvalidAmount : PySem.W.excIn K E_InvalidAmount [.type "ValueError", .type "Exception", .type "BaseException", .type "object"] "ValueError.__new__" = true
  e_InvalidAmount : mg "InvalidAmount" = some (.ref E_InvalidAmount)
  k_InvalidAmount : PySem.W.keepIn K (.ref E_InvalidAmount) = true
  s_InvalidAmount : PySem.W.subIn K (.ref E_InvalidAmount) (.type "BaseException") = some true
  t_InvalidAmount : PySem.W.typeIn K (.ref E_InvalidAmount) = some (.type "type")
  m_InvalidAmount : PySem.W.exmOne K (.ref E_InvalidAmount) (.ref E_InvalidAmount) = some true
abbrev Lnk := Str × Str
def near (ls : List Lnk) (n : Str) : List Str := ls.filterMap fun l => if l.1 = n then some l.2 else if l.2 = n then some l.1 else none
def touch (l : Lnk) (n : Str) : Bool := decide (l.1 = n) || decide (l.2 = n)
def farEnd (l : Lnk) (n : Str) : Str := if l.1 = n then l.2 else l.1
/-- the places of the links at n, of the first i -/
def idx (ls : List Lnk) (n : Str) (i : Nat) : List Nat := (List.range i).filter fun k => match ls[k]? with
  | some l => touch l n
  | none => false
theorem idx_succ {ls : List Lnk} {n : Str} {i : Nat} {l : Lnk} (h : ls[i]? = some l) : idx ls n (i + 1) = idx ls n i ++ (if touch l n = true then [i] else []) := by
  unfold idx
  rw [List.range_succ, List.filter_append]
  congr 1
  by_cases e : touch l n = true <;> simp [h, e]
theorem near_snoc (ls : List Lnk) (l : Lnk) (n : Str) : near (ls ++ [l]) n = near ls n ++ (if touch l n = true then [farEnd l n] else []) := by
  unfold near
  rw [List.filterMap_append]
  congr 1
  unfold touch farEnd
  by_cases h1 : l.1 = n
  · simp [h1]
  · by_cases h2 : l.2 = n <;> simp [h1, h2]
def farAt (ls : List Lnk) (n : Str) (k : Nat) : Str := match ls[k]? with
  | some l => farEnd l n
  | none => n
/-- the ends, by the places -/
theorem near_idx (ls : List Lnk) (n : Str) : ∀ i, i ≤ ls.length → near (ls.take i) n = (idx ls n i).map (farAt ls n)
  | 0, _ => by simp [near, idx]
  | i + 1, h => by
    have hl := List.getElem?_eq_getElem (show i < ls.length by omega)
    rw [take_snoc hl, near_snoc, near_idx ls n i (by omega), idx_succ hl, List.map_append]
    congr 1
    split
    · simp [farAt, hl]
    · rfl
/-- through first, and through what is no host -/
def pass (hosts : List Str) (first x : Str) : Prop := x = first ∨ x ∉ hosts
instance (hosts : List Str) (first x : Str) : Decidable (pass hosts first x) := by unfold pass; infer_instance
def Closed (ls : List Lnk) (hosts : List Str) (first : Str) (R : List Str) : Prop := first ∈ R ∧ ∀ x ∈ R, pass hosts first x → ∀ y ∈ near ls x, y ∈ R
def Least (ls : List Lnk) (hosts : List Str) (first : Str) (R : List Str) : Prop := ∀ S, Closed ls hosts first S → ∀ x ∈ R, x ∈ S
theorem same_reach {ls : List Lnk} {hosts : List Str} {first : Str} {R S : List Str} (c : Closed ls hosts first R) (l : Least ls hosts first R) (c' : Closed ls hosts first S) (l' : Least ls hosts first S) (x : Str) : x ∈ R ↔ x ∈ S :=
  ⟨fun h => l S c' x h, fun h => l' R c x h⟩
theorem near_mem {ls : List Lnk} {n y : Str} (h : y ∈ near ls n) : ∃ l ∈ ls, y = l.1 ∨ y = l.2 := by
  unfold near at h
  obtain ⟨l, hl, e⟩ := List.mem_filterMap.mp h
  refine ⟨l, hl, ?_⟩
  split at e
  · exact .inr (Option.some.inj e).symm
  · split at e
    · exact .inl (Option.some.inj e).symm
    · cases e
theorem near_len (ls : List Lnk) (n : Str) : (near ls n).length ≤ ls.length := List.length_filterMap_le _ _
/-- after t turns -/
def Prog (ls : List Lnk) (hosts : List Str) (first : Str) (t : Nat) (R : List Str) : Prop := Closed ls hosts first R ∨ ∃ u : List Str, u.Nodup ∧ (∀ x ∈ u, x ∈ R) ∧ u.length = t + 1
theorem prog_step {ls : List Lnk} {hosts : List Str} {first : Str} {t : Nat} {R R1 : List Str} (hf : first ∈ R) (p : Prog ls hosts first t R) (sub : ∀ x ∈ R, x ∈ R1) (l1 : Least ls hosts first R1) (ex : ∀ x ∈ R, pass hosts first x → ∀ y ∈ near ls x, y ∈ R1) : Prog ls hosts first (t + 1) R1 := by
  by_cases c : Closed ls hosts first R
  · refine .inl ⟨sub _ hf, fun x hx hp y hy => ex x (l1 R c x hx) hp y hy⟩
  · rcases p with p | ⟨u, nd, hu, hl⟩
    · exact absurd p c
    · have : ∃ y, y ∈ R1 ∧ y ∉ R := Classical.byContradiction fun h => c ⟨hf, fun x hx hp y hy => Classical.byContradiction fun hn => h ⟨y, ex x hx hp y hy, hn⟩⟩
      obtain ⟨y, h1, h2⟩ := this
      refine .inr ⟨y :: u, List.nodup_cons.mpr ⟨fun h => h2 (hu y h), nd⟩, fun x hx => ?_, by rw [List.length_cons, hl]⟩
      rcases List.mem_cons.mp hx with e | hx
      · rw [e]; exact h1
      · exact sub x (hu x hx)
theorem prog_done {ls : List Lnk} {hosts : List Str} {first : Str} {t : Nat} {R names : List Str} (p : Prog ls hosts first t R) (l : Least ls hosts first R) (hn : ∀ l ∈ ls, l.1 ∈ names ∧ l.2 ∈ names) (hf : first ∈ names) (ht : names.length ≤ t) : Closed ls hosts first R := by
  rcases p with p | ⟨u, nd, hu, hl⟩
  · exact p
  · have cn : Closed ls hosts first names := ⟨hf, fun x _ _ y hy => by
      obtain ⟨l, hl, e⟩ := near_mem hy
      rcases e with e | e
      · rw [e]; exact (hn l hl).1
      · rw [e]; exact (hn l hl).2⟩
    have := nd.length_le_of_subset (l₂ := names) fun x hx => l names cn x (hu x hx)
    omega
def Cnt (R : List Str) : Prop := ∃ u : List Str, u.Nodup ∧ (∀ x ∈ u, x ∈ R) ∧ R.length ≤ 30 * u.length
theorem cnt_le {ls : List Lnk} {hosts names R : List Str} {first : Str} (c : Cnt R) (l : Least ls hosts first R) (hn : ∀ l ∈ ls, l.1 ∈ names ∧ l.2 ∈ names) (hf : first ∈ names) : R.length ≤ 30 * names.length := by
  obtain ⟨u, nd, hu, hl⟩ := c
  have cn : Closed ls hosts first names := ⟨hf, fun x _ _ y hy => by
    obtain ⟨l, hl, e⟩ := near_mem hy
    rcases e with e | e
    · rw [e]; exact (hn l hl).1
    · rw [e]; exact (hn l hl).2⟩
  have := nd.length_le_of_subset (l₂ := names) fun x hx => l names cn x (hu x hx)
  omega
theorem cnt_add {R ys : List Str} (c : Cnt R) (hl : ys.length ≤ 30) : Cnt (R ++ ys.filter fun y => !decide (y ∈ R)) := by
  obtain ⟨u, nd, hu, hr⟩ := c
  have hf : (ys.filter fun y => !decide (y ∈ R)).length ≤ 30 := Nat.le_trans (List.length_filter_le _ _) hl
  cases e : ys.filter fun y => !decide (y ∈ R) with
  | nil => exact ⟨u, nd, fun x hx => List.mem_append.mpr (.inl (hu x hx)), by simpa using hr⟩
  | cons z r =>
    have hz : z ∈ ys.filter fun y => !decide (y ∈ R) := by rw [e]; exact List.mem_cons_self
    have hzR : z ∉ R := by
      have := (List.mem_filter.mp hz).2
      simpa using this
    refine ⟨z :: u, List.nodup_cons.mpr ⟨fun h => hzR (hu z h), nd⟩, fun x hx => ?_, ?_⟩
    · rcases List.mem_cons.mp hx with h | hx
      · rw [h]; exact List.mem_append.mpr (.inr List.mem_cons_self)
      · exact List.mem_append.mpr (.inl (hu x hx))
    · rw [e] at hf
      rw [List.length_append, List.length_cons (a := z) (as := u)]
      omega
theorem filter_snoc {α : Type} {l : List α} {i : Nat} {x : α} (h : l[i]? = some x) (f : α → Bool) : (l.take (i + 1)).filter f = (l.take i).filter f ++ (if f x = true then [x] else []) := by
  rw [take_snoc h, List.filter_append]
  congr 1
  by_cases e : f x = true <;> simp [e]
/-- what is not cut, of the first i -/
def sel {α : Type} (cut : List Int) (xs : List α) (i : Nat) : List α := ((List.range i).filter fun k : Nat => !decide ((k : Int) ∈ cut)).filterMap fun k => xs[k]?
theorem sel_succ {α : Type} {cut : List Int} {xs : List α} {i : Nat} {x : α} (h : xs[i]? = some x) : sel cut xs (i + 1) = sel cut xs i ++ (if (i : Int) ∈ cut then [] else [x]) := by
  unfold sel
  rw [List.range_succ, List.filter_append, List.filterMap_append]
  congr 1
  by_cases e : (i : Int) ∈ cut <;> simp [e, h]
theorem sel_mem {α : Type} {cut : List Int} {xs : List α} {i : Nat} {x : α} (h : x ∈ sel cut xs i) : x ∈ xs := by
  unfold sel at h
  obtain ⟨k, _, e⟩ := List.mem_filterMap.mp h
  exact List.mem_of_getElem? e
theorem sel_len {α : Type} (cut : List Int) (xs : List α) (i : Nat) : (sel cut xs i).length ≤ i := by
  unfold sel
  refine Nat.le_trans (List.length_filterMap_le _ _) (Nat.le_trans (List.length_filter_le _ _) ?_)
  rw [List.length_range]
  exact Nat.le_refl _
def rN (k : Nat) : Str := ("r" : Str) ++ Str.ofString (toString ((k : Nat) : Int))
def hN (k : Nat) : Str := ("h" : Str) ++ Str.ofString (toString ((k : Nat) : Int))
theorem rN_ok : ∀ k : Nat, k < 8 → PyData.strOk (rN k) = true ∧ rN k ≠ "more" := by decide +kernel
theorem hN_ok : ∀ k : Nat, k < 7 → PyData.strOk (hN k) = true ∧ hN k ≠ "h" := by decide +kernel

section
variable {P : Program} {w : World} {K : PySem.W.Frag} {mg : Str → Option Value} {base : Heap}
theorem ok_law_cell {f : Addr} {fd : FuncData} {C_Layout C_LayoutLink C_LinkOptions E_InvalidAmount : Addr} (F : Fun K "_law_cell" "_law_cell" s_law_cell f fd) (T : Txt K mg C_Layout C_LayoutLink C_LinkOptions E_InvalidAmount)  : FnOk P w K mg base CX0 1 f fd ["script", "k"] (spCellT K) := by
  refine F.ok sc_law_cell (fun vs H Q E h => S2.len h) (fun cdv A outer s H vs Q E hr h => ?_)
  obtain ⟨_, _, rfl, p, ns, k, rfl, rfl, hS, hk0, kk⟩ := h
  refine ⟨_, (pss_cons (ps_if (pt_cmpR op_lt (pv 1) (pe_callB call_len_seq (by rfl) T.b_len PySem.boot_len (pa_cons (pv 0) pa_nil)) (nomark _))
      (pss_one (ps_ret (pe_ix ix_list (pv 0) (pv 1) (fun _ _ => rfl))))
      pss_nil)
      (pss_one (ps_ret pe_int))), ?_⟩
  refine ⟨_, rfl, _, rfl, p, _, rfl, .inl hS, _, _, rfl, rfl, _, rfl, ?_⟩
  refine ite2 (fun hc => ?_) (fun hc => ?_)
  · have hk : k.toNat < (ns.map V.int).length := by have := of_decide_eq_true hc; omega
    obtain ⟨v, hv⟩ : ∃ v, (ns.map V.int)[k.toNat]? = some v := ⟨_, List.getElem?_eq_getElem hk⟩
    obtain ⟨z, hz, rfl⟩ := int_item hv
    exact ⟨_, rfl, _, rfl, p, _, k, _, rfl, rfl, hS, at_of (j := k.toNat) (by omega) hv, kk z⟩
  · exact kk 0
theorem ok_law_start {f : Addr} {fd : FuncData} {C_Layout C_LayoutLink C_LinkOptions E_InvalidAmount : Addr} (F : Fun K "_law_start" "_law_start" s_law_start f fd) (T : Txt K mg C_Layout C_LayoutLink C_LinkOptions E_InvalidAmount)  : FnOk P w K mg base CX0 1 f fd ["cell", "k"] (spStart) := by
  refine F.ok sc_law_start (fun vs H Q E h => S2.len h) (fun cdv A outer s H vs Q E hr h => ?_)
  obtain ⟨_, _, rfl, c, k, rfl, rfl, hk0, hk, kk⟩ := h
  refine ⟨_, (pss_cons (ps_set (i := 2) sc_law_start.nd rfl (by first | exact Or.inl rfl | exact Or.inr rfl) pe_int)
      (pss_cons (ps_if (pt_chain op_lt op_lt (pe_un un_neg pe_int) (pv 0) pe_int)
      (pss_cons (ps_set (i := 3) sc_law_start.nd rfl (by first | exact Or.inl rfl | exact Or.inr rfl) (pe_op op_mod (pe_callTy call_int1 (by rfl) T.b_int (by decide +kernel) (pa_cons (pe_op op_add (pe_op op_mulW (pv 0) pe_int) (pe_op op_mulW (pe_op op_add (pv 1) pe_int) pe_int)) pa_nil)) (pv 2)))
      (pss_cons (ps_set (i := 4) sc_law_start.nd rfl (by first | exact Or.inl rfl | exact Or.inr rfl) pe_int)
      (pss_cons (ps_for PassesOwn.never rfl (pi_range1 rfl T.b_range (pa_cons pe_int pa_nil)) (pg_name (i := 5) sc_law_start.nd rfl (by first | exact Or.inl rfl | exact Or.inr rfl))
      (pss_cons (ps_set (i := 3) sc_law_start.nd rfl (by first | exact Or.inl rfl | exact Or.inr rfl) (pe_op op_mod (pe_callTy call_int1 (by rfl) T.b_int (by decide +kernel) (pa_cons (pe_op op_add (pe_op op_add (pe_op op_add (pe_op op_mulW (pv 3) (pv 3)) (pe_op op_mulW pe_int (pv 3))) (pv 1)) (pv 5)) pa_nil)) (pv 2)))
      (pss_one (ps_set (i := 4) sc_law_start.nd rfl (by first | exact Or.inl rfl | exact Or.inr rfl) (pe_op op_add (pe_op op_mulW (pv 4) (pv 2)) (pv 3))))))
      (pss_one (ps_ret (pe_lst (pa_cons (pv 4) pa_nil)))))))
      pss_nil)
      (pss_one (ps_ret (pe_lst (pa_cons (pv 0) pa_nil)))))), ?_⟩
  have fin : ∀ (z : Int) (H1 : Hp), Same H H1 → tRet (tLst (tCons (tC (.int z)) tNil)) { nx := fun x H' => Q V.non H', rt := Q } [] H1 := fun z H1 h1 =>
    ⟨sz 1 (by decide), fun p hp => kk p z _ (h1.free hp) (Same.new h1 (h1.free hp)) upd_same⟩
  walk_at "g"
  refine ite2 (fun hc => ?_) (fun hc => ?_)
  · walk_at "g"
    refine ite2 (fun hd => ?_) (fun hd => ?_)
    · have h1 := of_decide_eq_true hc
      have h2 := of_decide_eq_true hd
      walk_at "g"
      refine ⟨wide_mul (a := 64) (b := 40) (by omega) (by decide) (by decide) (by decide) (by decide), ?_⟩
      walk_at "g"
      refine ⟨wide_mul (a := 64) (b := 40) (by omega) (by decide) (by decide) (by decide) (by decide), ?_⟩
      walk_at "g"
      refine for_range (lo := 0) (n := 4) (fun i σ H' => H' = H ∧ ∃ (m n : Int) (v : Option V), σ = [some (.int c), some (.int k), some (.int 618970019642690137449562111), some (.int m), some (.int n), v] ∧ 0 ≤ m ∧ m < 618970019642690137449562111 ∧ n.natAbs < 2 ^ (100 * i + 1))
        ⟨rfl, _, 0, none, rfl, Int.emod_nonneg _ (by decide), Int.emod_lt_of_pos _ (by decide), by decide⟩ ?_ ?_
      · rintro i σ H' hi ⟨rfl, m, n, v, rfl, hm, hm2, hn⟩
        walk_at "g"
        refine ⟨wide_mul (a := 90) (b := 90) (by omega) (by omega) (by decide) (by decide) (by decide), ?_⟩
        walk_at "g"
        refine ⟨wide_mul (a := 90) (b := 90) (by decide) (by omega) (by decide) (by decide) (by decide), ?_⟩
        walk_at "g"
        refine ⟨wide_mul (a := 401) (b := 90) (start_bits hn hi) (by decide) (by decide) (by decide) (by decide), ?_⟩
        walk_at "g"
        exact ⟨_, _, _, rfl, Int.emod_nonneg _ (by decide), Int.emod_lt_of_pos _ (by decide), start_step hn (Int.emod_nonneg _ (by decide)) (Int.emod_lt_of_pos _ (by decide))⟩
      · rintro σ H' ⟨rfl, m, n, v, rfl, hm, hm2, hn⟩
        walk_at "g"
        exact fin n _ (Same.refl _)
    · walk_at "g"
      exact fin c _ (Same.refl _)
  · walk_at "g"
    exact fin c _ (Same.refl _)
theorem ok_law_digit {f : Addr} {fd : FuncData} {C_Layout C_LayoutLink C_LinkOptions E_InvalidAmount : Addr} (F : Fun K "_law_digit" "_law_digit" s_law_digit f fd) (T : Txt K mg C_Layout C_LayoutLink C_LinkOptions E_InvalidAmount)  : FnOk P w K mg base CX0 1 f fd ["state", "many"] (spDigit) := by
  refine F.ok sc_law_digit (fun vs H Q E h => S2.len h) (fun cdv A outer s H vs Q E hr h => ?_)
  obtain ⟨_, _, rfl, p, n, m, H0, rfl, rfl, hp, h0, h1, k0, kk⟩ := h
  refine ⟨_, (pss_cons (ps_set (i := 2) sc_law_digit.nd rfl (by first | exact Or.inl rfl | exact Or.inr rfl) (pe_op op_mod (pe_callTy call_int1 (by rfl) T.b_int (by decide +kernel) (pa_cons (pe_ix ix_list (pv 0) pe_int (fun _ _ => rfl)) pa_nil)) (pv 1)))
      (pss_cons (ps_asg (pe_op op_fdivN (pe_ix ix_list (pv 0) pe_int (fun _ _ => rfl)) (pv 1)) (pg_sub (pv 0) pe_int set_list))
      (pss_one (ps_ret (pv 2))))), ?_⟩
  walk_at "g"
  refine ⟨p, _, _, _, rfl, rfl, SqL.of hp, at_of (j := 0) rfl rfl, ?_⟩
  walk_at "g"
  refine ⟨(h0 : 0 < m), ?_⟩
  walk_at "g"
  refine ⟨p, _, _, _, rfl, rfl, SqL.of hp, at_of (j := 0) rfl rfl, ?_⟩
  walk_at "g"
  refine ⟨⟨by omega, by omega⟩, ?_⟩
  walk_at "g"
  refine ⟨p, [.int n], 0, 0, rfl, rfl, hp, rfl, ?_⟩
  walk_at "g"
  exact kk _ _ _ (KeepP.upd k0) upd_same (Int.emod_nonneg _ (by omega)) (Int.emod_lt_of_pos _ h0)

def spOpt (C : Addr) : Sp := S7 fun a b c d e f g H Q _ => ∃ (p dx : Addr), a = .ref p ∧ b = .int 1 ∧ c = .int 20 ∧ d = .int 9 ∧ e = .int 100 ∧ f = .int 200 ∧ g = .int 1 ∧ H p = some (.ins C dx []) ∧ ∀ H', KeepP p H H' → Q .non H'
theorem ok_LinkOptions___init__ {f : Addr} {fd : FuncData} {C_Layout C_LayoutLink C_LinkOptions E_InvalidAmount : Addr} (F : Fun K "__init__" "LinkOptions.__init__" s_LinkOptions___init__ f fd) (T : Txt K mg C_Layout C_LayoutLink C_LinkOptions E_InvalidAmount)  : FnOk P w K mg base (L2.CX P w) 1 f fd ["self", "cost", "size", "rate", "depth", "limit", "delay"] (spOpt C_LinkOptions) := by
  refine F.okX sc_LinkOptions___init__ (fun vs H Q E h => S7.len h) (fun cdv A outer s H vs Q E hr h => ?_)
  obtain ⟨_, _, _, _, _, _, _, rfl, p, dx, rfl, rfl, rfl, rfl, rfl, rfl, rfl, hp, kk⟩ := h
  refine ⟨_, (pss_cons (ps_if (PW.pt (pw_or (pt_not (pt_chain op_le op_le pe_int (pv 1) (pe_gc rfl T.g_MOST_COST))) (pw_or1 (pt_not (pt_chain op_le op_le (pe_gc rfl T.g_LEAST_SIZE) (pv 2) (pe_gc rfl T.g_MOST_SIZE))))))
      (pss_one (ps_raise rfl (takes_of rfl rfl rfl rfl) (pmk_own PySem.F.excBase_ValueError T.x_InvalidAmount T.e_InvalidAmount T.k_InvalidAmount (raises_own T.s_InvalidAmount T.t_InvalidAmount) (by exact rfl))))
      pss_nil)
      (pss_cons (ps_if (PW.pt (pw_or (pt_not (pt_chain op_le op_le pe_int (pv 3) (pe_gc rfl T.g_GREATEST))) (pw_or1 (pt_not (pt_chain3 op_le op_le op_le (pe_op op_add (pv 2) (pe_gc rfl T.g_ROOM)) (pv 4) (pv 5) (pe_gc rfl T.g_GREATEST))))))
      (pss_one (ps_raise rfl (takes_of rfl rfl rfl rfl) (pmk_own PySem.F.excBase_ValueError T.x_InvalidAmount T.e_InvalidAmount T.k_InvalidAmount (raises_own T.s_InvalidAmount T.t_InvalidAmount) (by exact rfl))))
      pss_nil)
      (pss_cons (ps_if (pt_not (pt_chain op_le op_le pe_int (pv 6) (pe_gc rfl T.g_MOST_DELAY)))
      (pss_one (ps_raise rfl (takes_of rfl rfl rfl rfl) (pmk_own PySem.F.excBase_ValueError T.x_InvalidAmount T.e_InvalidAmount T.k_InvalidAmount (raises_own T.s_InvalidAmount T.t_InvalidAmount) (by exact rfl))))
      pss_nil)
      (pss_cons (ps_fld (pv 0) (pv 1) rfl)
      (pss_cons (ps_fld (pv 0) (pv 2) rfl)
      (pss_cons (ps_fld (pv 0) (pv 3) rfl)
      (pss_cons (ps_fld (pv 0) (pv 4) rfl)
      (pss_cons (ps_fld (pv 0) (pv 5) rfl)
      (pss_one (ps_fld (pv 0) (pv 6) rfl)))))))))), ?_⟩
  (walk_at "g"; refine ⟨_, C_LinkOptions, _, _, rfl, hp, T.cl_LinkOptions, T.na_LinkOptions_cost, (by show 0 < 1000; decide), ?_⟩; rw [fs_LinkOptions_new_cost])
  (walk_at "g"; refine ⟨_, C_LinkOptions, _, _, rfl, upd_same, T.cl_LinkOptions, T.na_LinkOptions_part_size, (by show 1 < 1000; decide), ?_⟩; rw [fs_LinkOptions_new_part_size])
  (walk_at "g"; refine ⟨_, C_LinkOptions, _, _, rfl, upd_same, T.cl_LinkOptions, T.na_LinkOptions_rate, (by show 2 < 1000; decide), ?_⟩; rw [fs_LinkOptions_new_rate])
  (walk_at "g"; refine ⟨_, C_LinkOptions, _, _, rfl, upd_same, T.cl_LinkOptions, T.na_LinkOptions_depth, (by show 3 < 1000; decide), ?_⟩; rw [fs_LinkOptions_new_depth])
  (walk_at "g"; refine ⟨_, C_LinkOptions, _, _, rfl, upd_same, T.cl_LinkOptions, T.na_LinkOptions_limit, (by show 4 < 1000; decide), ?_⟩; rw [fs_LinkOptions_new_limit])
  (walk_at "g"; refine ⟨_, C_LinkOptions, _, _, rfl, upd_same, T.cl_LinkOptions, T.na_LinkOptions_delay, (by show 5 < 1000; decide), ?_⟩; rw [fs_LinkOptions_new_delay])
  exact kk _ (KeepP.upd (KeepP.upd (KeepP.upd (KeepP.upd (KeepP.upd (KeepP.upd KeepP.refl))))))
def LkAt (C : Addr) (H : Hp) (p : Addr) (l : Lnk) : Prop := ∃ dx v, H p = some (.ins C dx (fs_LayoutLink (.str l.1) (.str l.2) v))
def spLk (C : Addr) : Sp := S4 fun a b c d H Q _ => ∃ (p dx : Addr) (x y : Str), a = .ref p ∧ b = .str x ∧ c = .str y ∧ H p = some (.ins C dx []) ∧ ∀ H', KeepP p H H' → LkAt C H' p (x, y) → Q .non H'
theorem ok_LayoutLink___init__ {f : Addr} {fd : FuncData} {C_Layout C_LayoutLink C_LinkOptions E_InvalidAmount : Addr} (F : Fun K "__init__" "LayoutLink.__init__" s_LayoutLink___init__ f fd) (T : Txt K mg C_Layout C_LayoutLink C_LinkOptions E_InvalidAmount)  : FnOk P w K mg base CX0 1 f fd ["self", "first", "second", "options"] (spLk C_LayoutLink) := by
  refine F.ok sc_LayoutLink___init__ (fun vs H Q E h => S4.len h) (fun cdv A outer s H vs Q E hr h => ?_)
  obtain ⟨_, _, _, v, rfl, p, dx, x, y, rfl, rfl, rfl, hp, kk⟩ := h
  refine ⟨_, (pss_cons (ps_fld (pv 0) (pv 1) rfl)
      (pss_cons (ps_fld (pv 0) (pv 2) rfl)
      (pss_one (ps_fld (pv 0) (pv 3) rfl)))), ?_⟩
  (walk_at "g"; refine ⟨_, C_LayoutLink, _, _, rfl, hp, T.cl_LayoutLink, T.na_LayoutLink_one, (by show 0 < 1000; decide), ?_⟩; rw [fs_LayoutLink_new_one])
  (walk_at "g"; refine ⟨_, C_LayoutLink, _, _, rfl, upd_same, T.cl_LayoutLink, T.na_LayoutLink_other, (by show 1 < 1000; decide), ?_⟩; rw [fs_LayoutLink_new_other])
  (walk_at "g"; refine ⟨_, C_LayoutLink, _, _, rfl, upd_same, T.cl_LayoutLink, T.na_LayoutLink_options, (by show 2 < 1000; decide), ?_⟩; rw [fs_LayoutLink_new_options])
  exact kk _ (KeepP.upd (KeepP.upd (KeepP.upd KeepP.refl))) ⟨dx, v, upd_same⟩
structure LayAt (CL CK : Addr) (H : Hp) (p ho ro li : Addr) (hv : List V) (hs : List (Str × Int)) (rs : List Str) (lp : List Addr) (ls : List Lnk) : Prop where
  self : ∃ dx, H p = some (.ins CL dx (fs_Layout (.ref ho) (.ref ro) (.ref li)))
  hosts : H ho = some (.lst hv)
  host : Paired (fun v (q : Str × Int) => ∃ t, v = .ref t ∧ H t = some (.tup [.str q.1, .int q.2])) hv hs
  routers : H ro = some (.lst (rs.map V.str))
  links : H li = some (.lst (lp.map V.ref))
  link : Paired (LkAt CK H) lp ls
theorem LayAt.same {CL CK : Addr} {H H' : Hp} {p ho ro li : Addr} {hv : List V} {hs : List (Str × Int)} {rs : List Str} {lp : List Addr} {ls : List Lnk} (h : LayAt CL CK H p ho ro li hv hs rs lp ls) (s : Same H H') : LayAt CL CK H' p ho ro li hv hs rs lp ls := by
  obtain ⟨⟨dx, h1⟩, h2, h3, h4, h5, h6⟩ := h
  exact ⟨⟨dx, s _ _ h1⟩, s _ _ h2, Paired.imp (fun v q ⟨t, e, ht⟩ => ⟨t, e, s _ _ ht⟩) h3, s _ _ h4, s _ _ h5, Paired.imp (fun v q ⟨d, v, ht⟩ => ⟨d, v, s _ _ ht⟩) h6⟩
def spLay (CL CK : Addr) : Sp := S1 fun a H Q _ => ∃ (p dx : Addr), a = .ref p ∧ H p = some (.ins CL dx []) ∧
  ∀ H' ho ro li, KeepP p H H' → H ho = none → H ro = none → H li = none → ho ≠ ro → ho ≠ li → ro ≠ li → LayAt CL CK H' p ho ro li [] [] [] [] [] → Q .non H'
theorem ok_Layout___init__ {f : Addr} {fd : FuncData} {C_Layout C_LayoutLink C_LinkOptions E_InvalidAmount : Addr} (F : Fun K "__init__" "Layout.__init__" s_Layout___init__ f fd) (T : Txt K mg C_Layout C_LayoutLink C_LinkOptions E_InvalidAmount)  : FnOk P w K mg base CX0 1 f fd ["self"] (spLay C_Layout C_LayoutLink) := by
  refine F.ok sc_Layout___init__ (fun vs H Q E h => S1.len h) (fun cdv A outer s H vs Q E hr h => ?_)
  obtain ⟨_, rfl, p, dx, rfl, hp, kk⟩ := h
  refine ⟨_, (pss_cons (ps_fld (pv 0) (pe_lst pa_nil) rfl)
      (pss_cons (ps_fld (pv 0) (pe_lst pa_nil) rfl)
      (pss_one (ps_fld (pv 0) (pe_lst pa_nil) rfl)))), ?_⟩
  walk_at "g"
  intro ho hho
  have n1 := ne_of_none hp hho
  (walk_at "g"; refine ⟨_, C_Layout, _, _, rfl, upd_get hp n1, T.cl_Layout, T.na_Layout_hosts, (by show 0 < 1000; decide), ?_⟩; rw [fs_Layout_new_hosts])
  walk_at "g"
  intro ro hro
  obtain ⟨n2, hro⟩ := upd_none hro
  obtain ⟨n3, hro⟩ := upd_none hro
  (walk_at "g"; refine ⟨_, C_Layout, _, _, rfl, upd_get upd_same n2.symm, T.cl_Layout, T.na_Layout_routers, (by show 1 < 1000; decide), ?_⟩; rw [fs_Layout_new_routers])
  walk_at "g"
  intro li hli
  obtain ⟨n4, hli⟩ := upd_none hli
  obtain ⟨n5, hli⟩ := upd_none hli
  obtain ⟨n6, hli⟩ := upd_none hli
  obtain ⟨n7, hli⟩ := upd_none hli
  (walk_at "g"; refine ⟨_, C_Layout, _, _, rfl, upd_get upd_same n4.symm, T.cl_Layout, T.na_Layout_links, (by show 2 < 1000; decide), ?_⟩; rw [fs_Layout_new_links])
  refine kk _ ho ro li ?_ hho hro hli n3.symm n7.symm n5.symm ⟨⟨dx, upd_same⟩, ?_, .nil, ?_, ?_, .nil⟩
  · exact KeepP.upd (Keep.new (KeepP.upd (Keep.new (KeepP.upd (Keep.new KeepP.refl hho)) hro)) hli)
  · exact upd_get (upd_get (upd_get (upd_get (upd_get upd_same n1.symm) n3.symm) n1.symm) n7.symm) n1.symm
  · exact upd_get (upd_get (upd_get upd_same n2) n5.symm) n2
  · exact upd_get upd_same n4
def spNames (CL CK : Addr) : Sp := S1 fun a H Q _ => ∃ (p ho ro li : Addr) (hv : List V) (hs : List (Str × Int)) (rs : List Str) (lp : List Addr) (ls : List Lnk), a = .ref p ∧ LayAt CL CK H p ho ro li hv hs rs lp ls ∧ hs.length ≤ 1000 ∧
  ∀ H' r, Same H H' → H r = none → H' r = some (.lst ((hs.map (·.1)).map V.str)) → Q (.ref r) H'
theorem ok_Layout_host_names {f : Addr} {fd : FuncData} {C_Layout C_LayoutLink C_LinkOptions E_InvalidAmount : Addr} (F : Fun K "host_names" "Layout.host_names" s_Layout_host_names f fd) (T : Txt K mg C_Layout C_LayoutLink C_LinkOptions E_InvalidAmount)  : FnOk P w K mg base CX0 1 f fd ["self"] (spNames C_Layout C_LayoutLink) := by
  refine F.ok sc_Layout_host_names (fun vs H Q E h => S1.len h) (fun cdv A outer s H vs Q E hr h => ?_)
  obtain ⟨_, rfl, p, ho, ro, li, hv, hs, rs, lp, ls, rfl, L, hl, kk⟩ := h
  refine ⟨_, (pss_one (ps_ret (pe_lc (own := [("name", 1), ("_", 2)]) rfl sc_Layout_host_names.nd (pi_list (pe_fld (pv 0) rfl)) (blkOk_by (own := [("name", 1), ("_", 2)]) (N := ["self", "name", "_"]) (sc := defScope s_Layout_host_names) (by decide +kernel)) (fun _ _ _ _ _ => (pg_tupK K (n := 2) rfl (pgs_cons (pg_name (i := 1) sc_Layout_host_names.nd rfl (by first | exact Or.inl rfl | exact Or.inr rfl)) (pgs_cons (pg_name (i := 2) sc_Layout_host_names.nd rfl (by first | exact Or.inl rfl | exact Or.inr rfl)) pgs_nil)))) (fun _ _ _ _ _ => pts_nil) (fun _ _ _ _ _ => (pv 1))))), ?_⟩
  obtain ⟨dx, h1⟩ := L.self
  (walk_at "g"; refine ⟨_, C_Layout, _, _, _, rfl, h1, T.cl_Layout, T.na_Layout_hosts, fs_Layout_hosts, ?_⟩; walk_at "g")
  refine ⟨⟨_, SqL.of L.hosts⟩, fun D hD => ?_⟩
  have nh : D ≠ ho := fun e => by rw [e, L.hosts] at hD; cases hD
  have lhv := Paired.len L.host
  have s0 : Same H (upd H D (.lst [])) := Same.new (Same.refl _) hD
  refine lc_list (xs := hv) (fun j H' => KeepP D (upd H D (.lst [])) H' ∧ H' D = some (.lst (((hs.map (·.1)).take j).map V.str))) ⟨KeepP.refl, upd_same⟩ (fun j H' _ hh => SqL.of (hh.1 _ _ (s0 _ _ L.hosts) nh.symm)) ?_ ?_
  · rintro j v H1 hv1 ⟨k1, d1⟩
    obtain ⟨q, hq, t, rfl, ht⟩ := Paired.get L.host hv1
    have s1 : Same H H1 := KeepP.same k1 s0 hD
    refine ⟨t, _, rfl, SqT.of (s1 _ _ ht), rfl, _, _, rfl, _, _, rfl, rfl, ?_⟩
    walk_at "g"
    have hq2 : (hs.map (·.1))[j]? = some q.1 := by rw [List.getElem?_map, hq]; rfl
    refine ⟨_, d1, szl _ (by rw [List.length_map, List.length_take, List.length_map]; omega), KeepP.upd k1, ?_⟩
    rw [upd_same, take_snoc hq2, List.map_append]
    rfl
  · rintro H1 ⟨k1, d1⟩
    refine kk _ D (KeepP.same k1 s0 hD) hD ?_
    rw [d1, List.take_of_length_le (by rw [List.length_map]; omega)]
def spLinksOf (CL CK : Addr) : Sp := S2 fun a b H Q _ => ∃ (p ho ro li : Addr) (z : Str) (hv : List V) (hs : List (Str × Int)) (rs : List Str) (lp : List Addr) (ls : List Lnk), a = .ref p ∧ b = .str z ∧ LayAt CL CK H p ho ro li hv hs rs lp ls ∧ ls.length ≤ 1000 ∧
  ∀ H' r, Same H H' → H r = none → H' r = some (.lst ((idx ls z ls.length).map fun k => V.int (k : Nat))) → Q (.ref r) H'
theorem ok_Layout_links_of {f : Addr} {fd : FuncData} {C_Layout C_LayoutLink C_LinkOptions E_InvalidAmount : Addr} (F : Fun K "links_of" "Layout.links_of" s_Layout_links_of f fd) (T : Txt K mg C_Layout C_LayoutLink C_LinkOptions E_InvalidAmount)  : FnOk P w K mg base CX0 1 f fd ["self", "name"] (spLinksOf C_Layout C_LayoutLink) := by
  refine F.ok sc_Layout_links_of (fun vs H Q E h => S2.len h) (fun cdv A outer s H vs Q E hr h => ?_)
  obtain ⟨_, _, rfl, p, ho, ro, li, z, hv, hs, rs, lp, ls, rfl, rfl, L, hl, kk⟩ := h
  refine ⟨_, (pss_one (ps_ret (pe_lc (own := [("k", 2), ("link", 3)]) rfl sc_Layout_links_of.nd (pi_enum (by rfl) T.b_enumerate (pa_cons (pe_fld (pv 0) rfl) pa_nil)) (blkOk_by (own := [("k", 2), ("link", 3)]) (N := ["self", "name", "k", "link"]) (sc := defScope s_Layout_links_of) (by decide +kernel)) (fun _ _ _ _ _ => (pg_tupK K (n := 2) rfl (pgs_cons (pg_name (i := 2) sc_Layout_links_of.nd rfl (by first | exact Or.inl rfl | exact Or.inr rfl)) (pgs_cons (pg_name (i := 3) sc_Layout_links_of.nd rfl (by first | exact Or.inl rfl | exact Or.inr rfl)) pgs_nil)))) (fun _ _ _ _ _ => pts_one (pt_cmpR (op_in_seqK K) (pv 1) (pe_tup (pa_cons (pe_fldK K (pv 3) rfl) (pa_cons (pe_fldK K (pv 3) rfl) pa_nil))) rfl)) (fun _ _ _ _ _ => (pv 2))))), ?_⟩
  obtain ⟨dx, h1⟩ := L.self
  (walk_at "g"; refine ⟨_, C_Layout, _, _, _, rfl, h1, T.cl_Layout, T.na_Layout_links, fs_Layout_links, ?_⟩; walk_at "g")
  refine ⟨li, _, rfl, SqL.of L.links, fun D hD => ?_⟩
  have nl : D ≠ li := fun e => by rw [e, L.links] at hD; cases hD
  have llp := Paired.len L.link
  have s0 : Same H (upd H D (.lst [])) := Same.new (Same.refl _) hD
  refine lc_it (walk_enum (xs := lp.map V.ref)) (fun j H' => KeepP D (upd H D (.lst [])) H' ∧ H' D = some (.lst ((idx ls z j).map fun k => V.int (k : Nat)))) ⟨KeepP.refl, upd_same⟩ (fun j H' _ hh => SqL.of (hh.1 _ _ (s0 _ _ L.links) nl.symm)) ?_ ?_
  · rintro j v H1 H2 hj ⟨k1, d1⟩ ⟨t, x, y, rfl, ht, rfl, hx, hy⟩
    have ex : x = .int (j : Nat) := (Option.some.inj hx).symm
    have hy : (lp.map V.ref)[j]? = some y := hy
    rw [List.getElem?_map] at hy
    cases hq : lp[j]? with
    | none => rw [hq] at hy; cases hy
    | some q =>
      rw [hq] at hy
      have ey : y = .ref q := (Option.some.inj hy).symm
      subst ex ey
      obtain ⟨l, hl1, dq, vq, q1⟩ := Paired.get L.link hq
      have s1 : Same H (upd H1 t (.tup [.int (j : Nat), .ref q])) := Same.new (KeepP.same k1 s0 hD) ((KeepP.same k1 s0 hD : Same H H1).free ht)
      have nt : t ≠ D := fun e => by rw [e, d1] at ht; cases ht
      have d2 := upd_get (u := .tup [.int (j : Nat), .ref q]) d1 nt.symm
      have k2 : KeepP D (upd H D (.lst [])) (upd H1 t (.tup [.int (j : Nat), .ref q])) := k1.trans (Keep.of (Same.new (Same.refl _) ht))
      refine ⟨t, _, rfl, SqT.of upd_same, rfl, _, _, rfl, _, _, rfl, rfl, ?_⟩
      (walk_at "g"; refine ⟨_, C_LayoutLink, _, _, _, rfl, s1 _ _ q1, T.cl_LayoutLink, T.na_LayoutLink_one, fs_LayoutLink_one, ?_⟩; walk_at "g")
      (walk_at "g"; refine ⟨_, C_LayoutLink, _, _, _, rfl, s1 _ _ q1, T.cl_LayoutLink, T.na_LayoutLink_other, fs_LayoutLink_other, ?_⟩; walk_at "g")
      refine ⟨(by show 2 ≤ sizeLine; decide), fun u hu => ?_⟩
      have nu : u ≠ D := fun e => by rw [e, d2] at hu; cases hu
      refine ⟨u, _, rfl, .inr (SqT.of upd_same), rfl, rfl, ?_⟩
      have et : inV (.str z) [.str l.1, .str l.2] = touch l z := by
        unfold inV touch
        rw [List.any_cons, List.any_cons, List.any_nil, eqV_str, eqV_str, Bool.or_false]
      rw [if_neg (by decide), et]
      walk_at "g"
      have k3 := k2.trans (Keep.of (Same.new (Same.refl _) hu) : KeepP D _ (upd (upd H1 t (.tup [.int (j : Nat), .ref q])) u (.tup [.str l.1, .str l.2])))
      have d3 := upd_get (u := .tup [.str l.1, .str l.2]) d2 nu.symm
      rw [idx_succ hl1]
      have hjn : j < ls.length := (List.getElem?_eq_some_iff.mp hl1).1
      by_cases ht2 : touch l z = true
      · refine ite_t ht2 ?_
        walk_at "g"
        refine ⟨_, d3, szl _ ?_, KeepP.upd k3, ?_⟩
        · rw [List.length_map]
          unfold idx
          refine Nat.le_trans (List.length_filter_le _ _) ?_
          rw [List.length_range]
          omega
        · rw [upd_same, if_pos ht2, List.map_append]
          rfl
      · refine ite_f (Bool.eq_false_iff.mpr ht2) ?_
        refine ⟨k3, ?_⟩
        rw [if_neg ht2, List.append_nil]
        exact d3
  · rintro H1 ⟨k1, d1⟩
    rw [List.length_map, llp] at d1
    exact kk _ D (KeepP.same k1 s0 hD) hD d1
def spNear (CL CK : Addr) : Sp := S2 fun a b H Q _ => ∃ (p ho ro li : Addr) (z : Str) (hv : List V) (hs : List (Str × Int)) (rs : List Str) (lp : List Addr) (ls : List Lnk), a = .ref p ∧ b = .str z ∧ LayAt CL CK H p ho ro li hv hs rs lp ls ∧ ls.length ≤ 1000 ∧
  ∀ H' r, Same H H' → H r = none → H' r = some (.lst ((near ls z).map V.str)) → Q (.ref r) H'
theorem ok_neighbours {f : Addr} {fd : FuncData} {C_Layout C_LayoutLink C_LinkOptions E_InvalidAmount : Addr} (F : Fun K "neighbours" "neighbours" s_neighbours f fd) (T : Txt K mg C_Layout C_LayoutLink C_LinkOptions E_InvalidAmount) (c_Layout_links_of : Me P w K mg base CX0 1 C_Layout "links_of" (spLinksOf C_Layout C_LayoutLink)) : FnOk P w K mg base CX0 2 f fd ["layout", "name"] (spNear C_Layout C_LayoutLink) := by
  refine F.ok sc_neighbours (fun vs H Q E h => S2.len h) (fun cdv A outer s H vs Q E hr h => ?_)
  obtain ⟨_, _, rfl, p, ho, ro, li, z, hv, hs, rs, lp, ls, rfl, rfl, L, hl, kk⟩ := h
  refine ⟨_, (pss_cons (ps_set (i := 2) sc_neighbours.nd rfl (by first | exact Or.inl rfl | exact Or.inr rfl) (pe_lst pa_nil))
      (pss_cons (ps_for PassesOwn.never rfl (pi_list (pe_me c_Layout_links_of hr (by decide) pass0 (pv 0) (pa_cons (pv 1) pa_nil))) (pg_name (i := 3) sc_neighbours.nd rfl (by first | exact Or.inl rfl | exact Or.inr rfl))
      (pss_cons (ps_set (i := 4) sc_neighbours.nd rfl (by first | exact Or.inl rfl | exact Or.inr rfl) (pe_ix ix_list (pe_fld (pv 0) rfl) (pv 3) (fun _ _ => rfl)))
      (pss_one (ps_if (pt_cmpR op_eq (pe_fld (pv 4) rfl) (pv 1) (nomark _))
      (pss_one (ps_expr (pe_bm PySem.F.plainAttrs_list PySem.F.slot_list_append PySem.F.type_list_append mt_append (pv 2) (pa_cons (pe_fld (pv 4) rfl) pa_nil))))
      (pss_one (ps_expr (pe_bm PySem.F.plainAttrs_list PySem.F.slot_list_append PySem.F.type_list_append mt_append (pv 2) (pa_cons (pe_fld (pv 4) rfl) pa_nil))))))))
      (pss_one (ps_ret (pv 2))))), ?_⟩
  obtain ⟨dx, h1⟩ := L.self
  walk_at "g"
  intro r hr
  have s0 : Same H (upd H r (.lst [])) := Same.new (Same.refl _) hr
  (walk_at "g"; refine ⟨_, _, _, rfl, s0 _ _ h1, fs_Layout_no_links_of, ?_⟩; walk_at "g")
  refine ⟨p, ho, ro, li, z, hv, hs, rs, lp, ls, rfl, rfl, L.same s0, hl, fun H1 c s1 hc c1 => ?_⟩
  have s2 := s0.trans s1
  have ncr : c ≠ r := fun e => by rw [e, upd_same] at hc; cases hc
  walk_at "g"
  refine ⟨⟨_, SqL.of c1⟩, for_it (walk_list (xs := (idx ls z ls.length).map fun k => V.int (k : Nat))) (fun j σ H' => KeepP r H1 H' ∧ ∃ v1 v2 : Option V, σ = [some (.ref p), some (.str z), some (.ref r), v1, v2] ∧ H' r = some (.lst ((((idx ls z ls.length).take j).map (farAt ls z)).map V.str)))
    ⟨KeepP.refl, _, _, rfl, s1 _ _ upd_same⟩ (fun j σ H' _ hh => SqL.of (hh.1 _ _ c1 ncr)) ?_ ?_⟩
  · rintro j x σ H2 H3 hj ⟨k1, v1, v2, rfl, d1⟩ ⟨rfl, hx⟩
    have s3 : Same H H3 := KeepP.same k1 s2 hr
    rw [List.getElem?_map] at hx
    cases hk : (idx ls z ls.length)[j]? with
    | none => rw [hk] at hx; cases hx
    | some k =>
      rw [hk] at hx
      have hx : V.int (k : Nat) = x := Option.some.inj hx
      subst hx
      have hkm := List.mem_of_getElem? hk
      unfold idx at hkm
      obtain ⟨hk1, hk2⟩ := List.mem_filter.mp hkm
      have hk1 := List.mem_range.mp hk1
      obtain ⟨l, hl1⟩ : ∃ l, ls[k]? = some l := ⟨_, List.getElem?_eq_getElem hk1⟩
      obtain ⟨q, hq, dq, vq, q1⟩ := Paired.get' L.link hl1
      have hlim : j < ls.length := by
        have a1 := (List.getElem?_eq_some_iff.mp hk).1
        have a2 : (idx ls z ls.length).length ≤ ls.length := by
          unfold idx
          refine Nat.le_trans (List.length_filter_le _ _) ?_
          rw [List.length_range]
          exact Nat.le_refl _
        omega
      (walk_at "g"; refine ⟨_, C_Layout, _, _, _, rfl, s3 _ _ h1, T.cl_Layout, T.na_Layout_links, fs_Layout_links, ?_⟩; walk_at "g")
      refine ⟨li, _, (k : Int), .ref q, rfl, rfl, SqL.of (s3 _ _ L.links), at_ofG rfl (by rw [List.getElem?_map, hq]; rfl), ?_⟩
      have el : farAt ls z k = farEnd l z := by unfold farAt; rw [hl1]
      (walk_at "g"; refine ⟨_, C_LayoutLink, _, _, _, rfl, s3 _ _ q1, T.cl_LayoutLink, T.na_LayoutLink_one, fs_LayoutLink_one, ?_⟩; walk_at "g")
      rw [str_decV, take_snoc hk, List.map_append, List.map_append]
      by_cases e : l.1 = z
      · refine ite_t (decide_eq_true e) ?_
        walk_at "g"
        refine ⟨.inl ⟨rfl, _, SqL.of d1⟩, ?_⟩
        (walk_at "g"; refine ⟨_, C_LayoutLink, _, _, _, rfl, s3 _ _ q1, T.cl_LayoutLink, T.na_LayoutLink_other, fs_LayoutLink_other, ?_⟩; walk_at "g")
        refine ⟨r, _, _, rfl, rfl, d1, szl _ (by rw [List.length_map, List.length_map, List.length_take]; omega), KeepP.upd k1, _, _, rfl, ?_⟩
        rw [upd_same]
        show some (HO.lst (_ ++ [V.str l.2])) = some (HO.lst (_ ++ [V.str (farAt ls z k)]))
        rw [el, farEnd, if_pos e]
      · refine ite_f (decide_eq_false e) ?_
        walk_at "g"
        refine ⟨.inl ⟨rfl, _, SqL.of d1⟩, ?_⟩
        (walk_at "g"; refine ⟨_, C_LayoutLink, _, _, _, rfl, s3 _ _ q1, T.cl_LayoutLink, T.na_LayoutLink_one, fs_LayoutLink_one, ?_⟩; walk_at "g")
        refine ⟨r, _, _, rfl, rfl, d1, szl _ (by rw [List.length_map, List.length_map, List.length_take]; omega), KeepP.upd k1, _, _, rfl, ?_⟩
        rw [upd_same]
        show some (HO.lst (_ ++ [V.str l.1])) = some (HO.lst (_ ++ [V.str (farAt ls z k)]))
        rw [el, farEnd, if_neg e]
  · rintro σ H2 ⟨k1, v1, v2, rfl, d1⟩
    walk_at "g"
    refine kk _ r (KeepP.same k1 s2 hr) hr ?_
    rw [d1, List.length_map, List.take_length, ← near_idx ls z ls.length (Nat.le_refl _), List.take_length]
theorem ok_law_near {f : Addr} {fd : FuncData} {C_Layout C_LayoutLink C_LinkOptions E_InvalidAmount : Addr} (F : Fun K "_law_near" "_law_near" s_law_near f fd) (T : Txt K mg C_Layout C_LayoutLink C_LinkOptions E_InvalidAmount)  : FnOk P w K mg base CX0 1 f fd ["layout", "name"] (spNear C_Layout C_LayoutLink) := by
  refine F.ok sc_law_near (fun vs H Q E h => S2.len h) (fun cdv A outer s H vs Q E hr h => ?_)
  obtain ⟨_, _, rfl, p, ho, ro, li, z, hv, hs, rs, lp, ls, rfl, rfl, L, hl, kk⟩ := h
  refine ⟨_, (pss_cons (ps_set (i := 2) sc_law_near.nd rfl (by first | exact Or.inl rfl | exact Or.inr rfl) (pe_lst pa_nil))
      (pss_cons (ps_for PassesOwn.never rfl (pi_list (pe_fld (pv 0) rfl)) (pg_name (i := 3) sc_law_near.nd rfl (by first | exact Or.inl rfl | exact Or.inr rfl))
      (pss_one (ps_if (pt_cmpR op_eq (pe_fld (pv 3) rfl) (pv 1) (nomark _))
      (pss_one (ps_set (i := 2) sc_law_near.nd rfl (by first | exact Or.inl rfl | exact Or.inr rfl) (pe_op op_cat (pv 2) (pe_lst (pa_cons (pe_fld (pv 3) rfl) pa_nil)))))
      (pss_one (ps_if (pt_cmpR op_eq (pe_fld (pv 3) rfl) (pv 1) (nomark _))
      (pss_one (ps_set (i := 2) sc_law_near.nd rfl (by first | exact Or.inl rfl | exact Or.inr rfl) (pe_op op_cat (pv 2) (pe_lst (pa_cons (pe_fld (pv 3) rfl) pa_nil)))))
      pss_nil)))))
      (pss_one (ps_ret (pv 2))))), ?_⟩
  obtain ⟨dx, h1⟩ := L.self
  walk_at "g"
  intro r hr
  have s0 : Same H (upd H r (.lst [])) := Same.new (Same.refl _) hr
  have llp := Paired.len L.link
  (walk_at "g"; refine ⟨_, C_Layout, _, _, _, rfl, s0 _ _ h1, T.cl_Layout, T.na_Layout_links, fs_Layout_links, ?_⟩; walk_at "g")
  refine ⟨⟨_, SqL.of (s0 _ _ L.links)⟩, for_it (walk_list (xs := lp.map V.ref)) (fun j σ H' => Same H H' ∧ ∃ (r : Addr) (v : Option V), σ = [some (.ref p), some (.str z), some (.ref r), v] ∧ H r = none ∧ H' r = some (.lst ((near (ls.take j) z).map V.str)))
    ⟨s0, r, _, rfl, hr, upd_same⟩ (fun j σ H' _ hh => SqL.of (hh.1 _ _ L.links)) ?_ ?_⟩
  · rintro j x σ H2 H3 hj ⟨s1, r, v, rfl, hr, d1⟩ ⟨rfl, hx⟩
    rw [List.getElem?_map] at hx
    cases hq : lp[j]? with
    | none => rw [hq] at hx; cases hx
    | some q =>
      rw [hq] at hx
      have hx : V.ref q = x := Option.some.inj hx
      subst hx
      obtain ⟨l, hl1, dq, vq, q1⟩ := Paired.get L.link hq
      have hjn : j < ls.length := (List.getElem?_eq_some_iff.mp hl1).1
      have hnl := near_len (ls.take j) z
      rw [List.length_take] at hnl
      have add : ∀ {x : Str} {a b : Addr}, H3 a = none → upd H3 a (.lst [.str x]) b = none → Same H (upd (upd H3 a (.lst [.str x])) b (.lst ((near (ls.take j) z).map V.str ++ [.str x]))) ∧ H b = none := fun {x a b} ha hb =>
        ⟨Same.new (Same.new s1 (s1.free ha)) (s1.free (upd_none hb).2), s1.free (upd_none hb).2⟩
      (walk_at "g"; refine ⟨_, C_LayoutLink, _, _, _, rfl, s1 _ _ q1, T.cl_LayoutLink, T.na_LayoutLink_one, fs_LayoutLink_one, ?_⟩; walk_at "g")
      rw [str_decV, take_snoc hl1, near_snoc]
      unfold touch farEnd
      by_cases e : l.1 = z
      · refine ite_t (decide_eq_true e) ?_
        (walk_at "g"; refine ⟨_, C_LayoutLink, _, _, _, rfl, s1 _ _ q1, T.cl_LayoutLink, T.na_LayoutLink_other, fs_LayoutLink_other, ?_⟩; walk_at "g")
        refine ⟨sz 1 (by decide), fun a ha => ?_⟩
        have nar : r ≠ a := ne_of_none d1 ha
        walk_at "g"
        refine ⟨r, a, _, _, rfl, rfl, upd_get d1 nar, upd_same, ?_, fun b hb => ?_⟩
        · rw [List.length_map, sizeLine_eq]
          simp only [List.length_cons, List.length_nil]
          omega
        obtain ⟨q1, q2⟩ := add ha hb
        refine ⟨q1, b, _, rfl, q2, ?_⟩
        rw [upd_same]
        simp [e]
      · refine ite_f (decide_eq_false e) ?_
        (walk_at "g"; refine ⟨_, C_LayoutLink, _, _, _, rfl, s1 _ _ q1, T.cl_LayoutLink, T.na_LayoutLink_other, fs_LayoutLink_other, ?_⟩; walk_at "g")
        rw [str_decV]
        by_cases e2 : l.2 = z
        · refine ite_t (decide_eq_true e2) ?_
          (walk_at "g"; refine ⟨_, C_LayoutLink, _, _, _, rfl, s1 _ _ q1, T.cl_LayoutLink, T.na_LayoutLink_one, fs_LayoutLink_one, ?_⟩; walk_at "g")
          refine ⟨sz 1 (by decide), fun a ha => ?_⟩
          have nar : r ≠ a := ne_of_none d1 ha
          walk_at "g"
          refine ⟨r, a, _, _, rfl, rfl, upd_get d1 nar, upd_same, ?_, fun b hb => ?_⟩
          · rw [List.length_map, sizeLine_eq]
            simp only [List.length_cons, List.length_nil]
            omega
          obtain ⟨q1, q2⟩ := add ha hb
          refine ⟨q1, b, _, rfl, q2, ?_⟩
          rw [upd_same]
          simp [e, e2]
        · refine ite_f (decide_eq_false e2) ?_
          refine ⟨s1, r, _, rfl, hr, ?_⟩
          rw [d1]
          simp [e, e2]
  · rintro σ H2 ⟨s1, r, v, rfl, hr, d1⟩
    walk_at "g"
    refine kk _ r s1 hr ?_
    rw [d1, List.length_map, llp, List.take_length]
def spJoin (CL CK : Addr) : Sp := S3 fun a b c H Q _ => ∃ (p ho ro li : Addr) (x y : Str) (hv : List V) (hs : List (Str × Int)) (rs : List Str) (lp : List Addr) (ls : List Lnk), a = .ref p ∧ b = .str x ∧ c = .str y ∧ LayAt CL CK H p ho ro li hv hs rs lp ls ∧ hs.length ≤ 1000 ∧ ls.length ≤ 1000 ∧
  ∀ H' R, Same H H' → Closed ls (hs.map (·.1)) x R → Least ls (hs.map (·.1)) x R → Q (.bl (decide (y ∈ R))) H'
theorem ok_is_joined {f : Addr} {fd : FuncData} {C_Layout C_LayoutLink C_LinkOptions E_InvalidAmount : Addr} (F : Fun K "is_joined" "is_joined" s_is_joined f fd) (T : Txt K mg C_Layout C_LayoutLink C_LinkOptions E_InvalidAmount) (c_Layout_host_names : Me P w K mg base CX0 1 C_Layout "host_names" (spNames C_Layout C_LayoutLink)) (c_neighbours : Cl P w K mg base CX0 2 "neighbours" (spNear C_Layout C_LayoutLink)) : FnOk P w K mg base CX0 3 f fd ["layout", "first", "second"] (spJoin C_Layout C_LayoutLink) := by
  refine F.ok sc_is_joined (fun vs H Q E h => S3.len h) (fun cdv A outer s H vs Q E hr h => ?_)
  obtain ⟨_, _, _, rfl, p, ho, ro, li, x, y, hv, hs, rs, lp, ls, rfl, rfl, rfl, L, hl1, hl2, kk⟩ := h
  refine ⟨_, (pss_cons (ps_set (i := 3) sc_is_joined.nd rfl (by first | exact Or.inl rfl | exact Or.inr rfl) (pe_lst (pa_cons (pv 1) pa_nil)))
      (pss_cons (ps_set (i := 4) sc_is_joined.nd rfl (by first | exact Or.inl rfl | exact Or.inr rfl) (pe_me0 c_Layout_host_names hr (by decide) pass0 (pv 0)))
      (pss_cons (ps_set (i := 5) sc_is_joined.nd rfl (by first | exact Or.inl rfl | exact Or.inr rfl) pe_int)
      (pss_cons (ps_while PassesOwn.never (pt_cmpR op_lt (pv 5) (pe_callB call_len_seq (by rfl) T.b_len PySem.boot_len (pa_cons (pv 3) pa_nil)) (nomark _))
      (pss_cons (ps_set (i := 6) sc_is_joined.nd rfl (by first | exact Or.inl rfl | exact Or.inr rfl) (pe_ix ix_list (pv 3) (pv 5) (fun _ _ => rfl)))
      (pss_cons (ps_aug (i := 5) sc_is_joined.nd rfl (by first | exact Or.inl rfl | exact Or.inr rfl) pe_int ip_add)
      (pss_one (ps_if (PW.pt (pw_or (pt_cmpR (op_notIn_seq) (pv 6) (pv 4) rfl) (pw_or1 (pt_cmpR op_eq (pv 6) (pv 1) (nomark _)))))
      (pss_one (ps_for PassesOwn.never rfl (pi_list (pe_cl c_neighbours hr (by decide) pass0 (pa_cons (pv 0) (pa_cons (pv 6) pa_nil)))) (pg_name (i := 7) sc_is_joined.nd rfl (by first | exact Or.inl rfl | exact Or.inr rfl))
      (pss_one (ps_if (pt_cmpR (op_notIn_seq) (pv 7) (pv 3) rfl)
      (pss_one (ps_expr (pe_bm PySem.F.plainAttrs_list PySem.F.slot_list_append PySem.F.type_list_append mt_append (pv 3) (pa_cons (pv 7) pa_nil))))
      pss_nil))))
      pss_nil)))))
      (pss_one (ps_ret (pe_cmpR (op_in_seq) (pv 2) (pv 3) rfl))))))), ?_⟩
  obtain ⟨dx, h1⟩ := L.self
  walk_at "g"
  refine ⟨sz 1 (by decide), fun r hr => ?_⟩
  have s0 : Same H (upd H r (.lst [.str x])) := Same.new (Same.refl _) hr
  walk_at "n"
  (walk_at "g"; refine ⟨_, _, _, rfl, s0 _ _ h1, fs_Layout_no_host_names, ?_⟩; walk_at "g")
  refine ⟨p, ho, ro, li, hv, hs, rs, lp, ls, rfl, L.same s0, hl1, fun H1 hh s1 hhn hh1 => ?_⟩
  have s2 := s0.trans s1
  have nhr : hh ≠ r := fun e => by rw [e, upd_same] at hhn; cases hhn
  have hr1 : H1 r = some (.lst [.str x]) := s1 _ _ upd_same
  generalize hnames : hs.map (·.1) = hosts at kk hh1
  obtain ⟨U, hU⟩ : ∃ U : List Str, U = x :: ls.flatMap fun l => [l.1, l.2] := ⟨_, rfl⟩
  have lU : U.length ≤ 2001 := by
    rw [hU, List.length_cons, List.length_flatMap]
    have : ((ls.map fun l => [l.1, l.2].length).sum) = 2 * ls.length := by
      clear kk L hl2 hU
      induction ls with
      | nil => rfl
      | cons l ls ih => rw [List.map_cons, List.sum_cons, ih, List.length_cons]; simp only [List.length_cons, List.length_nil]; omega
    omega
  have nU : ∀ u w, w ∈ near ls u → w ∈ U := fun u w hw => by
    obtain ⟨l, hl, e⟩ := near_mem hw
    rw [hU]
    refine List.mem_cons_of_mem _ (List.mem_flatMap.mpr ⟨l, hl, ?_⟩)
    rcases e with e | e <;> simp [e]
  walk_at "n"
  refine ⟨fun m σ H' => KeepP r H1 H' ∧ ∃ (R : List Str) (i : Nat) (v6 v7 : Option V), σ = [some (.ref p), some (.str x), some (.str y), some (.ref r), some (.ref hh), some (.int (i : Nat)), v6, v7] ∧ H' r = some (.lst (R.map V.str)) ∧ R.Nodup ∧ x ∈ R ∧ i ≤ R.length ∧
    Least ls hosts x R ∧ (∀ j u, j < i → R[j]? = some u → pass hosts x u → ∀ w ∈ near ls u, w ∈ R) ∧ (∀ w ∈ R, w ∈ U) ∧ m = U.length + 1 - i,
    ⟨_, KeepP.refl, [x], 0, _, _, rfl, hr1, by simp, by simp, by simp, ?_, by simp, by simp [hU], rfl⟩, ?_⟩
  · intro S hS w hw
    rw [List.mem_singleton.mp hw]
    exact hS.1
  rintro m σ H2 ⟨k2, R, i, v6, v7, rfl, d2, nd, hx, hi, lst, ex, hRU, rfl⟩
  have hRl := nd.length_le_of_subset (l₂ := U) hRU
  (walk_at "g"; refine ⟨_, _, rfl, .inl (SqL.of (d2)), ?_⟩; walk_at "g")
  rw [List.length_map]
  by_cases hlt : i < R.length
  · refine ite_t (by rw [decide_eq_true_eq]; omega) ?_
    refine ⟨fun σ H' => ∃ m', m' < U.length + 1 - i ∧ KeepP r H1 H' ∧ ∃ (R : List Str) (i : Nat) (v6 v7 : Option V), σ = [some (.ref p), some (.str x), some (.str y), some (.ref r), some (.ref hh), some (.int (i : Nat)), v6, v7] ∧ H' r = some (.lst (R.map V.str)) ∧ R.Nodup ∧ x ∈ R ∧ i ≤ R.length ∧
      Least ls hosts x R ∧ (∀ j u, j < i → R[j]? = some u → pass hosts x u → ∀ w ∈ near ls u, w ∈ R) ∧ (∀ w ∈ R, w ∈ U) ∧ m' = U.length + 1 - i, fun _ _ h => h, ?_⟩
    obtain ⟨u, hu⟩ : ∃ u, R[i]? = some u := ⟨_, List.getElem?_eq_getElem hlt⟩
    walk_at "g"
    refine ⟨r, _, (i : Int), .str u, rfl, rfl, SqL.of d2, at_ofG rfl (by rw [List.getElem?_map, hu]; rfl), ?_⟩
    refine ⟨_, rfl, _, _, rfl, rfl, ?_⟩
    walk_at "n"
    refine if_tstP (p := pass hosts x u) (fun Q q => ?_) (fun hc H3 s3 => ?_) (fun hc H3 s3 => ?_)
    · walk_at "g"
      refine ⟨hh, _, rfl, .inl (SqL.of (k2 _ _ hh1 nhr)), rfl, flat_strs _, ?_⟩
      rw [if_pos rfl, inV_strs]
      walk_at "g"
      by_cases h1 : u ∈ hosts
      · refine ite_f (by rw [decide_eq_true h1]; rfl) ?_
        walk_at "g"
        rw [str_decV]
        have e : decide (pass hosts x u) = decide (u = x) := decide_eq_decide.mpr ⟨fun h => h.elim id fun h => absurd h1 h, fun h => .inl h⟩
        rw [e] at q
        exact q _ (Same.refl _)
      · refine ite_t (by rw [decide_eq_false h1]; rfl) ?_
        rw [decide_eq_true (.inr h1)] at q
        exact q _ (Same.refl _)
    · have k3 : KeepP r H1 H3 := k2.trans (Keep.of s3)
      have s4 : Same H H3 := KeepP.same k3 s2 hr
      have d3 := s3 _ _ d2
      walk_at "g"
      refine ⟨p, ho, ro, li, u, hv, hs, rs, lp, ls, rfl, rfl, L.same s4, hl2, fun H4 c s5 hc4 hc5 => ?_⟩
      have ncr : c ≠ r := fun e => by rw [e, d3] at hc4; cases hc4
      have d4 := s5 _ _ d3
      walk_at "g"
      refine ⟨⟨_, SqL.of hc5⟩, for_it (walk_list (xs := (near ls u).map V.str)) (fun j σ H' => KeepP r H4 H' ∧ ∃ (R' : List Str) (v7 : Option V), σ = [some (.ref p), some (.str x), some (.str y), some (.ref r), some (.ref hh), some (.int ((i : Nat) + 1)), some (.str u), v7] ∧ H' r = some (.lst (R'.map V.str)) ∧ R'.Nodup ∧
        (∃ ad, R' = R ++ ad) ∧ Least ls hosts x R' ∧ (∀ w ∈ (near ls u).take j, w ∈ R') ∧ (∀ w ∈ R', w ∈ U)) ⟨KeepP.refl, R, _, rfl, d4, nd, ⟨[], by simp⟩, lst, by simp, hRU⟩ (fun j σ H' _ hh2 => SqL.of (hh2.1 _ _ hc5 ncr)) ?_ ?_⟩
      · rintro j w σ H5 H6 hj ⟨k5, R', v7', rfl, d5, nd', ⟨ad, hR'⟩, lst', hnear, hU'⟩ ⟨rfl, hw⟩
        rw [List.getElem?_map] at hw
        cases hq : (near ls u)[j]? with
        | none => rw [hq] at hw; cases hw
        | some z =>
          rw [hq] at hw
          have hw : V.str z = w := Option.some.inj hw
          subst hw
          have hzn := List.mem_of_getElem? hq
          have hRl' := nd'.length_le_of_subset (l₂ := U) hU'
          walk_at "g"
          refine ⟨r, _, rfl, .inl (SqL.of d5), rfl, flat_strs _, ?_⟩
          rw [if_pos rfl, inV_strs]
          walk_at "g"
          by_cases hz : z ∈ R'
          · refine ite_f (by rw [decide_eq_true hz]; rfl) ?_
            refine ⟨k5, R', _, rfl, d5, nd', ⟨ad, hR'⟩, lst', fun v hv => ?_, hU'⟩
            rw [take_snoc hq] at hv
            rcases List.mem_append.mp hv with hv | hv
            · exact hnear v hv
            · rw [List.mem_singleton.mp hv]; exact hz
          · refine ite_t (by rw [decide_eq_false hz]; rfl) ?_
            walk_at "g"
            refine ⟨.inl ⟨rfl, _, SqL.of d5⟩, ?_⟩
            walk_at "g"
            refine ⟨r, _, _, rfl, rfl, d5, szl _ (by rw [List.length_map]; omega), KeepP.upd k5, R' ++ [z], _, rfl, by rw [upd_same, List.map_append]; rfl, ?_, ⟨ad ++ [z], by rw [hR', List.append_assoc]⟩, ?_, ?_, ?_⟩
            · rw [List.nodup_append]
              refine ⟨nd', by simp, fun a ha b hb e => ?_⟩
              rw [List.mem_singleton.mp hb] at e
              exact hz (e ▸ ha)
            · intro S hS v hv
              rcases List.mem_append.mp hv with hv | hv
              · exact lst' S hS v hv
              · rw [List.mem_singleton.mp hv]
                exact hS.2 u (lst S hS u (List.mem_of_getElem? hu)) hc z hzn
            · intro v hv
              rw [take_snoc hq] at hv
              rcases List.mem_append.mp hv with hv | hv
              · exact List.mem_append.mpr (.inl (hnear v hv))
              · rw [List.mem_singleton.mp hv]; exact List.mem_append.mpr (.inr (List.mem_singleton.mpr rfl))
            · intro v hv
              rcases List.mem_append.mp hv with hv | hv
              · exact hU' v hv
              · rw [List.mem_singleton.mp hv]; exact nU u z hzn
      · rintro σ H5 ⟨k5, R', v7', rfl, d5, nd', ⟨ad, hR'⟩, lst', hnear, hU'⟩
        rw [List.length_map, List.take_length] at hnear
        refine ⟨_, ?_, (k3.trans (Keep.of s5)).trans k5, R', i + 1, _, _, rfl, d5, nd', by rw [hR']; exact List.mem_append.mpr (.inl hx), by rw [hR', List.length_append]; omega, lst', fun j v hj hv hp w hw => ?_, hU', rfl⟩
        · omega
        · have hjR : j < R.length := by omega
          rw [hR', List.getElem?_append_left hjR] at hv
          by_cases e : j = i
          · subst e
            rw [hu] at hv
            cases hv
            exact hnear w hw
          · rw [hR']
            exact List.mem_append.mpr (.inl (ex j v (by omega) hv hp w hw))
    · refine ⟨_, ?_, k2.trans (Keep.of s3), R, i + 1, _, _, rfl, s3 _ _ d2, nd, hx, by omega, lst, fun j v hj hv hp => ?_, hRU, rfl⟩
      · omega
      · by_cases e : j = i
        · subst e
          rw [hu] at hv
          cases hv
          exact absurd hp hc
        · exact ex j v (by omega) hv hp
  · refine ite_f (by rw [decide_eq_false_iff_not]; omega) ?_
    walk_at "g"
    refine ⟨r, _, rfl, .inl (SqL.of d2), rfl, flat_strs _, ?_⟩
    rw [if_neg (by decide), inV_strs]
    refine kk _ R (KeepP.same k2 s2 hr) ⟨hx, fun u hu hp w hw => ?_⟩ lst
    obtain ⟨j, hj⟩ := List.getElem?_of_mem hu
    exact ex j u (by have := (List.getElem?_eq_some_iff.mp hj).1; omega) hj hp w hw
def spReach (CL CK : Addr) : Sp := S2 fun a b H Q _ => ∃ (p ho ro li : Addr) (x : Str) (hv : List V) (hs : List (Str × Int)) (rs : List Str) (lp : List Addr) (ls : List Lnk), a = .ref p ∧ b = .str x ∧ LayAt CL CK H p ho ro li hv hs rs lp ls ∧ hs.length ≤ 10 ∧ rs.length ≤ 10 ∧ ls.length ≤ 30 ∧
  (∀ l ∈ ls, l.1 ∈ hs.map (·.1) ++ rs ∧ l.2 ∈ hs.map (·.1) ++ rs) ∧ x ∈ hs.map (·.1) ++ rs ∧
  ∀ H' r R, Same H H' → H r = none → H' r = some (.lst (R.map V.str)) → Closed ls (hs.map (·.1)) x R → Least ls (hs.map (·.1)) x R → Q (.ref r) H'
theorem ok_law_reached {f : Addr} {fd : FuncData} {C_Layout C_LayoutLink C_LinkOptions E_InvalidAmount : Addr} (F : Fun K "_law_reached" "_law_reached" s_law_reached f fd) (T : Txt K mg C_Layout C_LayoutLink C_LinkOptions E_InvalidAmount) (c_Layout_host_names : Me P w K mg base CX0 1 C_Layout "host_names" (spNames C_Layout C_LayoutLink)) (c_law_near : Cl P w K mg base CX0 1 "_law_near" (spNear C_Layout C_LayoutLink)) : FnOk P w K mg base CX0 2 f fd ["layout", "first"] (spReach C_Layout C_LayoutLink) := by
  refine F.ok sc_law_reached (fun vs H Q E h => S2.len h) (fun cdv A outer s H vs Q E hr h => ?_)
  obtain ⟨_, _, rfl, p, ho, ro, li, x, hv, hs, rs, lp, ls, rfl, rfl, L, hl1, hl2, hl3, hends, hxn, kk⟩ := h
  refine ⟨_, (pss_cons (ps_set (i := 2) sc_law_reached.nd rfl (by first | exact Or.inl rfl | exact Or.inr rfl) (pe_me0 c_Layout_host_names hr (by decide) pass0 (pv 0)))
      (pss_cons (ps_set (i := 3) sc_law_reached.nd rfl (by first | exact Or.inl rfl | exact Or.inr rfl) (pe_lst (pa_cons (pv 1) pa_nil)))
      (pss_cons (ps_for PassesOwn.never rfl (pi_range1 rfl T.b_range (pa_cons (pe_op op_add (pe_callB call_len_seq (by rfl) T.b_len PySem.boot_len (pa_cons (pv 2) pa_nil)) (pe_callB call_len_seq (by rfl) T.b_len PySem.boot_len (pa_cons (pe_fld (pv 0) rfl) pa_nil))) pa_nil)) (pg_name (i := 4) sc_law_reached.nd rfl (by first | exact Or.inl rfl | exact Or.inr rfl))
      (pss_one (ps_for PassesOwn.never rfl (pi_list (pe_callTy call_list_of (by rfl) T.b_list (by decide +kernel) (pa_cons (pv 3) pa_nil))) (pg_name (i := 5) sc_law_reached.nd rfl (by first | exact Or.inl rfl | exact Or.inr rfl))
      (pss_one (ps_if (PW.pt (pw_or (pt_cmpR op_eq (pv 5) (pv 1) (nomark _)) (pw_or1 (pt_cmpR (op_notIn_seq) (pv 5) (pv 2) rfl))))
      (pss_one (ps_set (i := 3) sc_law_reached.nd rfl (by first | exact Or.inl rfl | exact Or.inr rfl) (pe_op op_cat (pv 3) (pe_lc (own := [("other", 6)]) rfl sc_law_reached.nd (pi_list (pe_cl c_law_near hr (by decide) pass0 (pa_cons (pv 0) (pa_cons (pv 5) pa_nil)))) (blkOk_by (own := [("other", 6)]) (N := ["layout", "first", "hosts", "reached", "turn", "name", "other"]) (sc := defScope s_law_reached) (by decide +kernel)) (fun _ _ _ _ _ => (pg_name (i := 6) sc_law_reached.nd rfl (by first | exact Or.inl rfl | exact Or.inr rfl))) (fun _ _ _ _ _ => pts_one (pt_cmpR (op_notIn_seqK K) (pv 6) (pv 3) rfl)) (fun _ _ _ _ _ => (pv 6))))))
      pss_nil)))))
      (pss_one (ps_ret (pv 3)))))), ?_⟩
  obtain ⟨dx, h1⟩ := L.self
  walk_at "n"
  (walk_at "g"; refine ⟨_, _, _, rfl, h1, fs_Layout_no_host_names, ?_⟩; walk_at "g")
  refine ⟨p, ho, ro, li, hv, hs, rs, lp, ls, rfl, L, by omega, fun H1 hh s1 hhn hh1 => ?_⟩
  walk_at "g"
  refine ⟨sz 1 (by decide), fun r0 hr0 => ?_⟩
  have s2 : Same H (upd H1 r0 (.lst [.str x])) := Same.new s1 (s1.free hr0)
  have n0 : hh ≠ r0 := ne_of_none hh1 hr0
  generalize hnames : hs.map (·.1) = hosts at kk hh1 hends hxn
  have lhosts : hosts.length = hs.length := by rw [← hnames, List.length_map]
  have c0 : (upd H1 r0 (.lst [.str x])) r0 = some (.lst ([x].map V.str)) := upd_same
  have hh2 := upd_get (u := .lst [.str x]) hh1 n0
  generalize upd H1 r0 (.lst [.str x]) = H2 at s2 c0 hh2
  walk_at "n"
  (walk_at "g"; refine ⟨_, _, rfl, .inl (SqL.of (hh2)), ?_⟩; walk_at "g")
  (walk_at "g"; refine ⟨_, C_Layout, _, _, _, rfl, s2 _ _ h1, T.cl_Layout, T.na_Layout_routers, fs_Layout_routers, ?_⟩; walk_at "g")
  (walk_at "g"; refine ⟨_, _, rfl, .inl (SqL.of ((s2 _ _ L.routers))), ?_⟩; walk_at "g")
  rw [List.length_map, List.length_map]
  refine ⟨by omega, by omega, ?_⟩
  have eN : (((hosts.length : Nat) : Int) + ((rs.length : Nat) : Int)).toNat = hosts.length + rs.length := by omega
  rw [eN]
  refine for_range (lo := 0) (n := hosts.length + rs.length) (fun t σ H' => Same H2 H' ∧ ∃ (r : Addr) (R : List Str) (v4 v5 v6 : Option V), σ = [some (.ref p), some (.str x), some (.ref hh), some (.ref r), v4, v5, v6] ∧ H r = none ∧ H' r = some (.lst (R.map V.str)) ∧ x ∈ R ∧ Least ls hosts x R ∧ Prog ls hosts x t R ∧ Cnt R) ?_ ?_ ?_
  · refine ⟨Same.refl _, r0, [x], _, _, _, rfl, s1.free hr0, c0, by simp, ?_, .inr ⟨[x], by simp, by simp, rfl⟩, ⟨[x], by simp, by simp, by simp⟩⟩
    intro S hS w hw
    rw [List.mem_singleton.mp hw]
    exact hS.1
  · rintro t σ H3 ht ⟨s3, r, R, v4, v5, v6, rfl, hrn, dr, hxR, lst, pr, cn⟩
    have hRl := cnt_le cn lst hends hxn
    rw [List.length_append] at hRl
    walk_at "g"
    refine ⟨r, _, rfl, .inl (SqL.of dr), fun c hc => ?_⟩
    have ncr : r ≠ c := ne_of_none dr hc
    have s4 : Same H3 (upd H3 c (.lst (R.map V.str))) := Same.new (Same.refl _) hc
    have dc : (upd H3 c (.lst (R.map V.str))) c = some (.lst (R.map V.str)) := upd_same
    generalize upd H3 c (.lst (R.map V.str)) = H4 at s4 dc
    walk_at "g"
    refine ⟨⟨_, SqL.of dc⟩, for_it (walk_list (xs := R.map V.str)) (fun j σ H' => Same H4 H' ∧ ∃ (r : Addr) (R' : List Str) (v5 v6 : Option V), σ = [some (.ref p), some (.str x), some (.ref hh), some (.ref r), some (.int (0 + (t : Nat))), v5, v6] ∧ H r = none ∧ H' r = some (.lst (R'.map V.str)) ∧
      (∀ w ∈ R, w ∈ R') ∧ Least ls hosts x R' ∧ (∀ z ∈ R.take j, pass hosts x z → ∀ w ∈ near ls z, w ∈ R') ∧ Cnt R') ⟨Same.refl _, r, R, _, _, rfl, hrn, s4 _ _ dr, fun _ h => h, lst, by simp, cn⟩ (fun j σ H' _ q => SqL.of (q.1 _ _ dc)) ?_ ?_⟩
    · rintro j v σ H5 H6 hj ⟨s5, r, R', v5, v6, rfl, hrn, dr, sub, lst', near', cn'⟩ ⟨rfl, hw⟩
      rw [List.getElem?_map] at hw
      cases hq : R[j]? with
      | none => rw [hq] at hw; cases hw
      | some z =>
        rw [hq] at hw
        have hw : V.str z = v := Option.some.inj hw
        subst hw
        have hzR := List.mem_of_getElem? hq
        have hRl' := cnt_le cn' lst' hends hxn
        rw [List.length_append] at hRl'
        have S6 : Same H H6 := ((s2.trans s3).trans s4).trans s5
        walk_at "n"
        refine if_tstP (p := pass hosts x z) (fun Q q => ?_) (fun hc2 H7 s7 => ?_) (fun hc2 H7 s7 => ?_)
        · walk_at "g"
          rw [str_decV]
          by_cases e : z = x
          · refine ite_t (decide_eq_true e) ?_
            rw [decide_eq_true (.inl e)] at q
            exact q _ (Same.refl _)
          · refine ite_f (decide_eq_false e) ?_
            walk_at "g"
            refine ⟨hh, _, rfl, .inl (SqL.of (s5 _ _ (s4 _ _ (s3 _ _ hh2)))), rfl, flat_strs _, ?_⟩
            rw [if_pos rfl, inV_strs]
            walk_at "g"
            have e2 : (!decide (z ∈ hosts)) = decide (pass hosts x z) := by
              by_cases h : z ∈ hosts
              · rw [decide_eq_true h, decide_eq_false]
                · rfl
                · exact fun q => q.elim e fun q => q h
              · rw [decide_eq_false h, decide_eq_true (.inr h)]
                rfl
            rw [e2]
            exact q _ (Same.refl _)
        · have dr7 := s7 _ _ dr
          walk_at "g"
          refine ⟨p, ho, ro, li, z, hv, hs, rs, lp, ls, rfl, rfl, L.same (S6.trans s7), by omega, fun H8 c2 s8 hc8 hd8 => ?_⟩
          have dr8 := s8 _ _ dr7
          walk_at "g"
          refine ⟨⟨_, SqL.of hd8⟩, fun D hD => ?_⟩
          have nrD : r ≠ D := ne_of_none dr8 hD
          have ncD : c2 ≠ D := ne_of_none hd8 hD
          refine lc_list (xs := (near ls z).map V.str) (fun j H' => KeepP D (upd H8 D (.lst [])) H' ∧ H' D = some (.lst ((((near ls z).take j).filter fun y => !decide (y ∈ R')).map V.str))) ⟨KeepP.refl, upd_same⟩ (fun j H' _ q => SqL.of (q.1 _ _ (upd_get hd8 ncD) ncD)) ?_ ?_
          · rintro i w H9 hw9 ⟨k9, d9⟩
            rw [List.getElem?_map] at hw9
            cases hq9 : (near ls z)[i]? with
            | none => rw [hq9] at hw9; cases hw9
            | some y =>
              rw [hq9] at hw9
              have hw9 : V.str y = w := Option.some.inj hw9
              subst hw9
              walk_at "g"
              refine ⟨r, _, rfl, .inl (SqL.of (k9 _ _ (upd_get dr8 nrD) nrD)), rfl, flat_strs _, ?_⟩
              rw [if_pos rfl, inV_strs]
              walk_at "g"
              have hnl := near_len ls z
              rw [filter_snoc hq9]
              by_cases hy : y ∈ R'
              · refine ite_f (by rw [decide_eq_true hy]; rfl) ?_
                refine ⟨k9, ?_⟩
                rw [d9]
                simp [hy]
              · refine ite_t (by rw [decide_eq_false hy]; rfl) ?_
                walk_at "g"
                refine ⟨_, d9, szl _ ?_, KeepP.upd k9, ?_⟩
                · rw [List.length_map]
                  refine Nat.le_trans (List.length_filter_le _ _) ?_
                  rw [List.length_take]
                  omega
                · rw [upd_same]
                  simp [hy]
          · rintro H9 ⟨k9, d9⟩
            rw [List.length_map, List.take_length] at d9
            have s9 : Same H8 H9 := KeepP.same k9 (Same.new (Same.refl _) hD) hD
            have hnl := near_len ls z
            refine ⟨r, D, _, _, rfl, rfl, s9 _ _ dr8, d9, ?_, fun e he => ?_⟩
            · rw [List.length_map, List.length_map, sizeLine_eq]
              have := List.length_filter_le (fun y => !decide (y ∈ R')) (near ls z)
              omega
            have s10 : Same H6 (upd H9 e (.lst (R'.map V.str ++ ((near ls z).filter fun y => !decide (y ∈ R')).map V.str))) := Same.new ((s7.trans s8).trans s9) (((s7.trans s8).trans s9).free he)
            refine ⟨s5.trans s10, e, R' ++ (near ls z).filter (fun y => !decide (y ∈ R')), _, _, rfl, (((S6.trans s7).trans s8).trans s9).free he, by rw [upd_same, List.map_append], fun w hw => List.mem_append.mpr (.inl (sub w hw)), ?_, ?_, cnt_add cn' (by omega)⟩
            · intro S hS w hw
              rcases List.mem_append.mp hw with hw | hw
              · exact lst' S hS w hw
              · exact hS.2 z (lst S hS z hzR) hc2 w (List.mem_filter.mp hw).1
            · intro y hy hp w hw
              rw [take_snoc hq] at hy
              rcases List.mem_append.mp hy with hy | hy
              · exact List.mem_append.mpr (.inl (near' y hy hp w hw))
              · rw [List.mem_singleton.mp hy] at hw
                by_cases h : w ∈ R'
                · exact List.mem_append.mpr (.inl h)
                · exact List.mem_append.mpr (.inr (List.mem_filter.mpr ⟨hw, by simp [h]⟩))
        · refine ⟨s5.trans s7, r, R', _, _, rfl, hrn, s7 _ _ dr, sub, lst', ?_, cn'⟩
          intro y hy hp w hw
          rw [take_snoc hq] at hy
          rcases List.mem_append.mp hy with hy | hy
          · exact near' y hy hp w hw
          · rw [List.mem_singleton.mp hy] at hp
            exact absurd hp hc2
    · rintro σ H5 ⟨s5, r, R', v5, v6, rfl, hrn, dr, sub, lst', near', cn'⟩
      rw [List.length_map, List.take_length] at near'
      exact ⟨(s3.trans s4).trans s5, r, R', _, _, _, rfl, hrn, dr, sub _ hxR, lst', prog_step hxR pr sub lst' near', cn'⟩
  · rintro σ H3 ⟨s3, r, R, v4, v5, v6, rfl, hrn, dr, hxR, lst, pr, cn⟩
    walk_at "g"
    refine kk _ r R (s2.trans s3) hrn dr ?_ lst
    exact prog_done pr lst hends hxn (by rw [List.length_append]; exact Nat.le_refl _)
structure LayOk (hs : List (Str × Int)) (rs : List Str) (ls : List Lnk) : Prop where
  h : hs.length ≤ 10
  r : rs.length ≤ 10
  l : ls.length ≤ 30
  ends : ∀ l ∈ ls, l.1 ∈ hs.map (·.1) ++ rs ∧ l.2 ∈ hs.map (·.1) ++ rs
  txt : ∀ z ∈ hs.map (·.1) ++ rs, PyData.strOk z = true
def spAsked (CL CK : Addr) : Sp := S1 fun a H Q _ => ∃ (p ho ro li : Addr) (hv : List V) (hs : List (Str × Int)) (rs : List Str) (lp : List Addr) (ls : List Lnk), a = .ref p ∧ LayAt CL CK H p ho ro li hv hs rs lp ls ∧ LayOk hs rs ls ∧ ∀ H', Same H H' → Q (.bl true) H'
theorem ok_law_asked {f : Addr} {fd : FuncData} {C_Layout C_LayoutLink C_LinkOptions E_InvalidAmount : Addr} (F : Fun K "_law_asked" "_law_asked" s_law_asked f fd) (T : Txt K mg C_Layout C_LayoutLink C_LinkOptions E_InvalidAmount) (c_Layout_host_names : Me P w K mg base CX0 1 C_Layout "host_names" (spNames C_Layout C_LayoutLink)) (c_neighbours : Cl P w K mg base CX0 2 "neighbours" (spNear C_Layout C_LayoutLink)) (c_law_near : Cl P w K mg base CX0 1 "_law_near" (spNear C_Layout C_LayoutLink)) (c_law_reached : Cl P w K mg base CX0 2 "_law_reached" (spReach C_Layout C_LayoutLink)) (c_is_joined : Cl P w K mg base CX0 3 "is_joined" (spJoin C_Layout C_LayoutLink)) : FnOk P w K mg base CX0 4 f fd ["layout"] (spAsked C_Layout C_LayoutLink) := by
  refine F.ok sc_law_asked (fun vs H Q E h => S1.len h) (fun cdv A outer s H vs Q E hr h => ?_)
  obtain ⟨_, rfl, p, ho, ro, li, hv, hs, rs, lp, ls, rfl, L, O, kk⟩ := h
  refine ⟨_, (pss_cons (ps_set (i := 1) sc_law_asked.nd rfl (by first | exact Or.inl rfl | exact Or.inr rfl) (pe_op op_cat (pe_me0 c_Layout_host_names hr (by decide) pass0 (pv 0)) (pe_fld (pv 0) rfl)))
      (pss_cons (ps_for PassesOwn.never rfl (pi_list (pv 1)) (pg_name (i := 2) sc_law_asked.nd rfl (by first | exact Or.inl rfl | exact Or.inr rfl))
      (pss_cons (ps_if (pt_cmpR (op_neD hr.units) (pe_cl c_neighbours hr (by decide) pass0 (pa_cons (pv 0) (pa_cons (pv 2) pa_nil))) (pe_cl c_law_near hr (by decide) pass0 (pa_cons (pv 0) (pa_cons (pv 2) pa_nil))) (nomark _))
      (pss_one (ps_ret pe_bl))
      pss_nil)
      (pss_cons (ps_set (i := 3) sc_law_asked.nd rfl (by first | exact Or.inl rfl | exact Or.inr rfl) (pe_cl c_law_reached hr (by decide) pass0 (pa_cons (pv 0) (pa_cons (pv 2) pa_nil))))
      (pss_one (ps_for PassesOwn.never rfl (pi_list (pv 1)) (pg_name (i := 4) sc_law_asked.nd rfl (by first | exact Or.inl rfl | exact Or.inr rfl))
      (pss_one (ps_if (pt_cmpR op_ne (pe_cl c_is_joined hr (by decide) pass0 (pa_cons (pv 0) (pa_cons (pv 2) (pa_cons (pv 4) pa_nil)))) (pe_cmpR (op_in_seq) (pv 4) (pv 3) rfl) (nomark _))
      (pss_one (ps_ret pe_bl))
      pss_nil)))))))
      (pss_one (ps_ret pe_bl)))), ?_⟩
  obtain ⟨dx, h1⟩ := L.self
  have b1 := O.h
  have b2 := O.r
  have b3 := O.l
  walk_at "n"
  (walk_at "g"; refine ⟨_, _, _, rfl, h1, fs_Layout_no_host_names, ?_⟩; walk_at "g")
  refine ⟨p, ho, ro, li, hv, hs, rs, lp, ls, rfl, L, by omega, fun H1 hh s1 hhn hh1 => ?_⟩
  (walk_at "g"; refine ⟨_, C_Layout, _, _, _, rfl, s1 _ _ h1, T.cl_Layout, T.na_Layout_routers, fs_Layout_routers, ?_⟩; walk_at "g")
  refine ⟨hh, ro, _, _, rfl, rfl, hh1, s1 _ _ L.routers, (by rw [List.length_map, List.length_map, List.length_map, sizeLine_eq]; omega), fun nm hnm => ?_⟩
  have s2 : Same H (upd H1 nm (.lst ((hs.map (·.1)).map V.str ++ rs.map V.str))) := Same.new s1 (s1.free hnm)
  have dn : (upd H1 nm (.lst ((hs.map (·.1)).map V.str ++ rs.map V.str))) nm = some (.lst ((hs.map (·.1) ++ rs).map V.str)) := by rw [upd_same, List.map_append]
  generalize upd H1 nm (.lst ((hs.map (·.1)).map V.str ++ rs.map V.str)) = H2 at s2 dn
  have goodN : ∀ z, Dat.good (near ls z) := fun z y hy => by
    obtain ⟨l, hl, e⟩ := near_mem hy
    rcases e with e | e
    · rw [e]; exact O.txt _ (O.ends l hl).1
    · rw [e]; exact O.txt _ (O.ends l hl).2
  walk_at "g"
  refine ⟨⟨_, SqL.of dn⟩, for_it (walk_list (xs := (hs.map (·.1) ++ rs).map V.str)) (fun j σ H' => Same H2 H' ∧ ∃ v2 v3 v4 : Option V, σ = [some (.ref p), some (.ref nm), v2, v3, v4]) ⟨Same.refl _, _, _, _, rfl⟩ (fun j σ H' _ q => SqL.of (q.1 _ _ dn)) ?_ ?_⟩
  · rintro j v σ H3 H4 hj ⟨s3, v2, v3, v4, rfl⟩ ⟨rfl, hx⟩
    rw [List.getElem?_map] at hx
    cases hq : (hs.map (·.1) ++ rs)[j]? with
    | none => rw [hq] at hx; cases hx
    | some x =>
      rw [hq] at hx
      have hx : V.str x = v := Option.some.inj hx
      subst hx
      have hxn := List.mem_of_getElem? hq
      have S4 := s2.trans s3
      walk_at "g"
      refine ⟨p, ho, ro, li, x, hv, hs, rs, lp, ls, rfl, rfl, L.same S4, by omega, fun H5 r1 s5 hr1 d1 => ?_⟩
      walk_at "g"
      refine ⟨p, ho, ro, li, x, hv, hs, rs, lp, ls, rfl, rfl, L.same (S4.trans s5), by omega, fun H6 r2 s6 hr2 d2 => ?_⟩
      refine neD_of (a := near ls x) (b := near ls x) (rp_strs (SqL.of (s6 _ _ d1))) (rp_strs (SqL.of d2)) (goodN x) (goodN x) ?_
      walk_at "g"
      refine ite_f (by simp) ?_
      have S6 := (S4.trans s5).trans s6
      walk_at "g"
      refine ⟨p, ho, ro, li, x, hv, hs, rs, lp, ls, rfl, rfl, L.same S6, by omega, by omega, by omega, O.ends, hxn, fun H7 r3 R s7 hr3 d3 cR lR => ?_⟩
      have S27 : Same H2 H7 := ((s3.trans s5).trans s6).trans s7
      have S7 := s2.trans S27
      walk_at "g"
      refine ⟨⟨_, SqL.of (S27 _ _ dn)⟩, for_it (walk_list (xs := (hs.map (·.1) ++ rs).map V.str)) (fun j σ H' => Same H7 H' ∧ ∃ v4 : Option V, σ = [some (.ref p), some (.ref nm), some (.str x), some (.ref r3), v4]) ⟨Same.refl _, _, rfl⟩ (fun j σ H' _ q => SqL.of (q.1 _ _ (S27 _ _ dn))) ?_ ?_⟩
      · rintro i v σ H8 H9 hi ⟨s8, v4, rfl⟩ ⟨rfl, hy⟩
        rw [List.getElem?_map] at hy
        cases hq2 : (hs.map (·.1) ++ rs)[i]? with
        | none => rw [hq2] at hy; cases hy
        | some y =>
          rw [hq2] at hy
          have hy : V.str y = v := Option.some.inj hy
          subst hy
          walk_at "g"
          refine ⟨_, _, _, rfl, p, ho, ro, li, x, y, hv, hs, rs, lp, ls, rfl, rfl, rfl, L.same (S7.trans s8), by omega, by omega, fun H10 R2 s10 cR2 lR2 => ?_⟩
          walk_at "g"
          refine ⟨r3, _, rfl, .inl (SqL.of (s10 _ _ (s8 _ _ d3))), rfl, flat_strs _, ?_⟩
          rw [if_neg (by decide), inV_strs]
          have e : decide (y ∈ R2) = decide (y ∈ R) := decide_eq_decide.mpr (same_reach cR2 lR2 cR lR y)
          rw [e]
          walk_at "g"
          refine ite_f (by simp) ?_
          exact ⟨s8.trans s10, _, rfl⟩
      · rintro σ H8 ⟨s8, v4, rfl⟩
        exact ⟨S27.trans s8, _, _, _, rfl⟩
  · rintro σ H3 ⟨s3, v2, v3, v4, rfl⟩
    walk_at "g"
    exact kk _ (s2.trans s3)
def spLess (CL CK : Addr) : Sp := S2 fun a b H Q _ => ∃ (p ho ro li c : Addr) (cut : List Int) (hv : List V) (hs : List (Str × Int)) (rs : List Str) (lp : List Addr) (ls : List Lnk), a = .ref p ∧ b = .ref c ∧ H c = some (.lst (cut.map V.int)) ∧ LayAt CL CK H p ho ro li hv hs rs lp ls ∧ hs.length ≤ 10 ∧ rs.length ≤ 10 ∧ ls.length ≤ 30 ∧
  ∀ H' p' ho' ro' li' lp' ls', Same H H' → H p' = none → H ho' = none → H ro' = none → H li' = none → ho' ≠ ro' → LayAt CL CK H' p' ho' ro' li' hv hs rs lp' ls' →
    lp' = sel cut lp lp.length → (∀ l ∈ ls', l ∈ ls) → ls'.length ≤ ls.length → Q (.ref p') H'
theorem ok_without_links {f : Addr} {fd : FuncData} {C_Layout C_LayoutLink C_LinkOptions E_InvalidAmount : Addr} (F : Fun K "without_links" "without_links" s_without_links f fd) (T : Txt K mg C_Layout C_LayoutLink C_LinkOptions E_InvalidAmount) (c_Layout___init__ : Ma P w K mg base CX0 1 "Layout" C_Layout (spLay C_Layout C_LayoutLink)) : FnOk P w K mg base CX0 3 f fd ["layout", "cut"] (spLess C_Layout C_LayoutLink) := by
  refine F.ok sc_without_links (fun vs H Q E h => S2.len h) (fun cdv A outer s H vs Q E hr h => ?_)
  obtain ⟨_, _, rfl, p, ho, ro, li, c, cut, hv, hs, rs, lp, ls, rfl, rfl, hc, L, b1, b2, b3, kk⟩ := h
  refine ⟨_, (pss_cons (ps_set (i := 2) sc_without_links.nd rfl (by first | exact Or.inl rfl | exact Or.inr rfl) (pe_ma0 c_Layout___init__ hr (by decide) pass0))
      (pss_cons (ps_fld (pv 2) (pe_callTy call_list_of (by rfl) T.b_list (by decide +kernel) (pa_cons (pe_fld (pv 0) rfl) pa_nil)) rfl)
      (pss_cons (ps_fld (pv 2) (pe_callTy call_list_of (by rfl) T.b_list (by decide +kernel) (pa_cons (pe_fld (pv 0) rfl) pa_nil)) rfl)
      (pss_cons (ps_fld (pv 2) (pe_lc (own := [("k", 3), ("link", 4)]) rfl sc_without_links.nd (pi_enum (by rfl) T.b_enumerate (pa_cons (pe_fld (pv 0) rfl) pa_nil)) (blkOk_by (own := [("k", 3), ("link", 4)]) (N := ["layout", "cut", "double", "k", "link"]) (sc := defScope s_without_links) (by decide +kernel)) (fun _ _ _ _ _ => (pg_tupK K (n := 2) rfl (pgs_cons (pg_name (i := 3) sc_without_links.nd rfl (by first | exact Or.inl rfl | exact Or.inr rfl)) (pgs_cons (pg_name (i := 4) sc_without_links.nd rfl (by first | exact Or.inl rfl | exact Or.inr rfl)) pgs_nil)))) (fun _ _ _ _ _ => pts_one (pt_cmpR (op_notIn_seqK K) (pv 3) (pv 1) rfl)) (fun _ _ _ _ _ => (pv 4))) rfl)
      (pss_one (ps_ret (pv 2))))))), ?_⟩
  obtain ⟨dx, h1⟩ := L.self
  walk_at "n"
  intro p' dx' hx0 hdx hne
  refine ⟨_, rfl, p', dx', rfl, upd_same, fun H1 ho0 ro0 li0 k1 e1 e2 e3 e4 e5 e6 L1 => ⟨rfl, ?_⟩⟩
  have s1 : Same H H1 := KeepP.made hx0 hdx k1
  obtain ⟨dx1, p1⟩ := L1.self
  have npp : ∀ {a : Addr} {o : HO}, H a = some o → a ≠ p' := fun {a o} h => ne_of_none h hx0
  walk_at "n"
  (walk_at "g"; refine ⟨_, C_Layout, _, _, _, rfl, s1 _ _ h1, T.cl_Layout, T.na_Layout_hosts, fs_Layout_hosts, ?_⟩; walk_at "g")
  refine ⟨ho, _, rfl, .inl (SqL.of (s1 _ _ L.hosts)), fun ho' hho => ?_⟩
  have n1 : ho' ≠ p' := Same.ne (fun a o h => h : Same H1 H1) p1 hho
  (walk_at "g"; refine ⟨_, C_Layout, _, _, rfl, upd_get p1 n1.symm, T.cl_Layout, T.na_Layout_hosts, fs_Layout_len, ?_⟩; rw [fs_Layout_put_hosts])
  have s2 : Same H (upd (upd H1 ho' (.lst hv)) p' (.ins C_Layout dx1 (fs_Layout (.ref ho') (.ref ro0) (.ref li0)))) := Same.upd (Same.new s1 (s1.free hho)) hx0
  have p2 : (upd (upd H1 ho' (.lst hv)) p' (.ins C_Layout dx1 (fs_Layout (.ref ho') (.ref ro0) (.ref li0)))) p' = some (.ins C_Layout dx1 (fs_Layout (.ref ho') (.ref ro0) (.ref li0))) := upd_same
  have ho2 : (upd (upd H1 ho' (.lst hv)) p' (.ins C_Layout dx1 (fs_Layout (.ref ho') (.ref ro0) (.ref li0)))) ho' = some (.lst hv) := upd_get upd_same n1
  have hho0 := s1.free hho
  generalize upd (upd H1 ho' (.lst hv)) p' (.ins C_Layout dx1 (fs_Layout (.ref ho') (.ref ro0) (.ref li0))) = H2 at s2 p2 ho2
  walk_at "n"
  (walk_at "g"; refine ⟨_, C_Layout, _, _, _, rfl, s2 _ _ h1, T.cl_Layout, T.na_Layout_routers, fs_Layout_routers, ?_⟩; walk_at "g")
  refine ⟨ro, _, rfl, .inl (SqL.of (s2 _ _ L.routers)), fun ro' hro => ?_⟩
  have n2 : ro' ≠ p' := Same.ne (fun a o h => h : Same H2 H2) p2 hro
  have n3 : ho' ≠ ro' := ne_of_none ho2 hro
  (walk_at "g"; refine ⟨_, C_Layout, _, _, rfl, upd_get p2 n2.symm, T.cl_Layout, T.na_Layout_routers, fs_Layout_len, ?_⟩; rw [fs_Layout_put_routers])
  have s3 : Same H (upd (upd H2 ro' (.lst (rs.map V.str))) p' (.ins C_Layout dx1 (fs_Layout (.ref ho') (.ref ro') (.ref li0)))) := Same.upd (Same.new s2 (s2.free hro)) hx0
  have p3 : (upd (upd H2 ro' (.lst (rs.map V.str))) p' (.ins C_Layout dx1 (fs_Layout (.ref ho') (.ref ro') (.ref li0)))) p' = some (.ins C_Layout dx1 (fs_Layout (.ref ho') (.ref ro') (.ref li0))) := upd_same
  have ho3 : (upd (upd H2 ro' (.lst (rs.map V.str))) p' (.ins C_Layout dx1 (fs_Layout (.ref ho') (.ref ro') (.ref li0)))) ho' = some (.lst hv) := upd_get (upd_get ho2 n3) n1
  have ro3 : (upd (upd H2 ro' (.lst (rs.map V.str))) p' (.ins C_Layout dx1 (fs_Layout (.ref ho') (.ref ro') (.ref li0)))) ro' = some (.lst (rs.map V.str)) := upd_get upd_same n2
  have hro0 := s2.free hro
  generalize upd (upd H2 ro' (.lst (rs.map V.str))) p' (.ins C_Layout dx1 (fs_Layout (.ref ho') (.ref ro') (.ref li0))) = H3 at s3 p3 ho3 ro3
  walk_at "n"
  (walk_at "g"; refine ⟨_, C_Layout, _, _, _, rfl, s3 _ _ h1, T.cl_Layout, T.na_Layout_links, fs_Layout_links, ?_⟩; walk_at "g")
  refine ⟨li, _, rfl, SqL.of (s3 _ _ L.links), fun D hD => ?_⟩
  have llp := Paired.len L.link
  have s30 : Same H3 (upd H3 D (.lst [])) := Same.new (Same.refl _) hD
  have ncD : ∀ {a : Addr} {o : HO}, H3 a = some o → a ≠ D := fun {a o} h => ne_of_none h hD
  refine lc_it (walk_enum (xs := lp.map V.ref)) (fun j H' => KeepP D (upd H3 D (.lst [])) H' ∧ H' D = some (.lst ((sel cut lp j).map V.ref)) ∧ Paired (LkAt C_LayoutLink H) (sel cut lp j) (sel cut ls j)) ⟨KeepP.refl, upd_same, .nil⟩ (fun j H' _ q => SqL.of (q.1 _ _ (s30 _ _ (s3 _ _ L.links)) (ncD (s3 _ _ L.links)))) ?_ ?_
  · rintro j v H4 H5 hj ⟨k4, d4, pr⟩ ⟨t, x, y, rfl, ht, rfl, hx, hy⟩
    have ex : x = .int (j : Nat) := (Option.some.inj hx).symm
    have hy : (lp.map V.ref)[j]? = some y := hy
    rw [List.getElem?_map] at hy
    cases hq : lp[j]? with
    | none => rw [hq] at hy; cases hy
    | some q =>
      rw [hq] at hy
      have ey : y = .ref q := (Option.some.inj hy).symm
      subst ex ey
      obtain ⟨l, hl1, lk⟩ := Paired.get L.link hq
      have nt : t ≠ D := fun e => by rw [e, d4] at ht; cases ht
      have d5 := upd_get (u := .tup [.int (j : Nat), .ref q]) d4 nt.symm
      have k5 : KeepP D (upd H3 D (.lst [])) (upd H4 t (.tup [.int (j : Nat), .ref q])) := k4.trans (Keep.of (Same.new (Same.refl _) ht))
      have cc : (upd H4 t (.tup [.int (j : Nat), .ref q])) c = some (.lst (cut.map V.int)) := k5 _ _ (s30 _ _ (s3 _ _ hc)) (ncD (s3 _ _ hc))
      refine ⟨t, _, rfl, SqT.of upd_same, rfl, _, _, rfl, _, _, rfl, rfl, ?_⟩
      walk_at "g"
      refine ⟨c, _, rfl, .inl (SqL.of cc), rfl, flat_ints _, ?_⟩
      rw [if_pos rfl, inV_ints]
      walk_at "g"
      rw [sel_succ hq, sel_succ hl1]
      have hjn : j < lp.length := (List.getElem?_eq_some_iff.mp hq).1
      by_cases hin : ((j : Nat) : Int) ∈ cut
      · refine ite_f (by rw [decide_eq_true hin]; rfl) ?_
        rw [if_pos hin, if_pos hin, List.append_nil, List.append_nil]
        exact ⟨k5, d5, pr⟩
      · refine ite_t (by rw [decide_eq_false hin]; rfl) ?_
        rw [if_neg hin, if_neg hin]
        have := sel_len cut lp j
        walk_at "g"
        refine ⟨_, d5, szl _ (by rw [List.length_map]; omega), KeepP.upd k5, by rw [upd_same, List.map_append]; rfl, Paired.snoc lk pr⟩
  · rintro H4 ⟨k4, d4, pr⟩
    rw [List.length_map] at d4 pr
    have s4 : Same H3 H4 := KeepP.same k4 s30 hD
    have nDp : p' ≠ D := ncD p3
    (walk_at "g"; refine ⟨_, C_Layout, _, _, rfl, s4 _ _ p3, T.cl_Layout, T.na_Layout_links, fs_Layout_len, ?_⟩; rw [fs_Layout_put_links])
    have s5 : Same H (upd H4 p' (.ins C_Layout dx1 (fs_Layout (.ref ho') (.ref ro') (.ref D)))) := Same.upd (s3.trans s4) hx0
    walk_at "g"
    refine kk _ p' ho' ro' D _ (sel cut ls lp.length) s5 hx0 hho0 hro0 (s3.free hD) n3 ⟨⟨dx1, upd_same⟩, upd_get (s4 _ _ ho3) n1, ?_, upd_get (s4 _ _ ro3) n2, upd_get d4 nDp.symm, ?_⟩ rfl (fun l hl => sel_mem hl) ?_
    · exact Paired.imp (fun v q ⟨t, e, h⟩ => ⟨t, e, s5 _ _ h⟩) L.host
    · exact Paired.imp (fun v q ⟨d, v, h⟩ => ⟨d, v, s5 _ _ h⟩) pr
    · have := sel_len cut ls lp.length
      omega
section
variable {CL CK : Addr} {H H' : Hp} {q ho ro li : Addr} {hv : List V} {hs : List (Str × Int)} {rs : List Str} {lp : List Addr} {ls : List Lnk}
theorem LayAt.addR (h : LayAt CL CK H q ho ro li hv hs rs lp ls) (n1 : ho ≠ ro) (n2 : li ≠ ro) (z : Str) : LayAt CL CK (upd H ro (.lst (rs.map V.str ++ [.str z]))) q ho ro li hv hs (rs ++ [z]) lp ls := by
  obtain ⟨⟨dx, h1⟩, h2, h3, h4, h5, h6⟩ := h
  exact ⟨⟨dx, upd_get h1 (ne_kind h1 h4 fun z => nomatch z)⟩, upd_get h2 n1, Paired.imp (fun v q ⟨t, e, ht⟩ => ⟨t, e, upd_get ht (ne_kind ht h4 fun z => nomatch z)⟩) h3, by rw [upd_same, List.map_append]; rfl, upd_get h5 n2,
    Paired.imp (fun v q ⟨d, v, ht⟩ => ⟨d, v, upd_get ht (ne_kind ht h4 fun z => nomatch z)⟩) h6⟩
theorem LayAt.addH (h : LayAt CL CK H q ho ro li hv hs rs lp ls) (n1 : ro ≠ ho) (n2 : li ≠ ho) {t : Addr} {z : Str} {i : Int} (ht : H t = some (.tup [.str z, .int i])) : LayAt CL CK (upd H ho (.lst (hv ++ [.ref t]))) q ho ro li (hv ++ [.ref t]) (hs ++ [(z, i)]) rs lp ls := by
  obtain ⟨⟨dx, h1⟩, h2, h3, h4, h5, h6⟩ := h
  exact ⟨⟨dx, upd_get h1 (ne_kind h1 h2 fun z => nomatch z)⟩, upd_same, Paired.snoc ⟨t, rfl, upd_get ht (ne_kind ht h2 fun z => nomatch z)⟩ (Paired.imp (fun v q ⟨t, e, ht⟩ => ⟨t, e, upd_get ht (ne_kind ht h2 fun z => nomatch z)⟩) h3), upd_get h4 n1, upd_get h5 n2,
    Paired.imp (fun v q ⟨d, v, ht⟩ => ⟨d, v, upd_get ht (ne_kind ht h2 fun z => nomatch z)⟩) h6⟩
theorem LayAt.addL (h : LayAt CL CK H q ho ro li hv hs rs lp ls) (n1 : ro ≠ li) (n2 : ho ≠ li) {t : Addr} {l : Lnk} (hl : LkAt CK H t l) : LayAt CL CK (upd H li (.lst (lp.map V.ref ++ [.ref t]))) q ho ro li hv hs rs (lp ++ [t]) (ls ++ [l]) := by
  obtain ⟨⟨dx, h1⟩, h2, h3, h4, h5, h6⟩ := h
  have lk : ∀ v q, LkAt CK H v q → LkAt CK (upd H li (.lst (lp.map V.ref ++ [.ref t]))) v q := fun v q ⟨d, v, ht⟩ => ⟨d, v, upd_get ht (ne_kind ht h5 fun z => nomatch z)⟩
  exact ⟨⟨dx, upd_get h1 (ne_kind h1 h5 fun z => nomatch z)⟩, upd_get h2 n2, Paired.imp (fun v q ⟨t, e, ht⟩ => ⟨t, e, upd_get ht (ne_kind ht h5 fun z => nomatch z)⟩) h3, upd_get h4 n1, by rw [upd_same, List.map_append]; rfl, Paired.snoc (lk _ _ hl) (Paired.imp lk h6)⟩
theorem LayAt.keep (h : LayAt CL CK H q ho ro li hv hs rs lp ls) {p : Addr} {xs : List V} (hp : H p = some (.lst xs)) (n1 : ho ≠ p) (n2 : ro ≠ p) (n3 : li ≠ p) (k : KeepP p H H') : LayAt CL CK H' q ho ro li hv hs rs lp ls := by
  obtain ⟨⟨dx, h1⟩, h2, h3, h4, h5, h6⟩ := h
  exact ⟨⟨dx, k _ _ h1 (ne_kind h1 hp fun z => nomatch z)⟩, k _ _ h2 n1, Paired.imp (fun v q ⟨t, e, ht⟩ => ⟨t, e, k _ _ ht (ne_kind ht hp fun z => nomatch z)⟩) h3, k _ _ h4 n2, k _ _ h5 n3,
    Paired.imp (fun v q ⟨d, v, ht⟩ => ⟨d, v, k _ _ ht (ne_kind ht hp fun z => nomatch z)⟩) h6⟩
end
def spBuild (CL CK : Addr) : Sp := S1 fun a H Q _ => ∃ (p : Addr) (n : Int), a = .ref p ∧ H p = some (.lst [.int n]) ∧
  ∀ H' q ho ro li hv hs rs lp ls n', KeepP p H H' → H' p = some (.lst [.int n']) → H q = none → H ho = none → H ro = none → H li = none → ho ≠ ro → ho ≠ li → ro ≠ li → LayAt CL CK H' q ho ro li hv hs rs lp ls → LayOk hs rs ls →
    ("more" : Str) ∉ rs → (∀ i : Int, (("h" : Str), i) ∉ hs) → Q (.ref q) H'
theorem ok_law_layout {f : Addr} {fd : FuncData} {C_Layout C_LayoutLink C_LinkOptions E_InvalidAmount : Addr} (F : Fun K "_law_layout" "_law_layout" s_law_layout f fd) (T : Txt K mg C_Layout C_LayoutLink C_LinkOptions E_InvalidAmount) (c_Layout___init__ : Ma P w K mg base CX0 1 "Layout" C_Layout (spLay C_Layout C_LayoutLink)) (c_kw0_LinkOptions___init__ : MaK P w K mg base (L2.CX P w) 1 "LinkOptions" C_LinkOptions 0 ["cost", "size", "rate", "depth", "limit", "delay"] (fun vs zs => o_kw0_LinkOptions___init__ vs [] zs) (spOpt C_LinkOptions)) (c_law_digit : Cl P w K mg base CX0 1 "_law_digit" (spDigit)) (c_LayoutLink___init__ : Ma P w K mg base CX0 1 "LayoutLink" C_LayoutLink (spLk C_LayoutLink)) : FnOk P w K mg base CX0 3 f fd ["state"] (spBuild C_Layout C_LayoutLink) := by
  refine F.ok sc_law_layout (fun vs H Q E h => S1.len h) (fun cdv A outer s H vs Q E hr h => ?_)
  obtain ⟨_, rfl, p, n, rfl, hp, kk⟩ := h
  refine ⟨_, (pss_cons (ps_set (i := 1) sc_law_layout.nd rfl (by first | exact Or.inl rfl | exact Or.inr rfl) (pe_ma0 c_Layout___init__ hr (by decide) pass0))
      (pss_cons (ps_set (i := 2) sc_law_layout.nd rfl (by first | exact Or.inl rfl | exact Or.inr rfl) (pe_mak0 c_kw0_LinkOptions___init__ hr (by decide) passF (pk_cons pe_int (pk_cons pe_int (pk_cons pe_int (pk_cons pe_int (pk_cons pe_int (pk_cons pe_int pk_nil))))))))
      (pss_cons (ps_set (i := 3) sc_law_layout.nd rfl (by first | exact Or.inl rfl | exact Or.inr rfl) (pe_op op_add pe_int (pe_cl c_law_digit hr (by decide) pass0 (pa_cons (pv 0) (pa_cons pe_int pa_nil)))))
      (pss_cons (ps_for PassesOwn.never rfl (pi_range1 rfl T.b_range (pa_cons (pv 3) pa_nil)) (pg_name (i := 4) sc_law_layout.nd rfl (by first | exact Or.inl rfl | exact Or.inr rfl))
      (pss_one (ps_expr (pe_bm PySem.F.plainAttrs_list PySem.F.slot_list_append PySem.F.type_list_append mt_append (pe_fld (pv 1) rfl) (pa_cons (pe_op op_add_str pe_str (pe_callTy call_str_int (by rfl) T.b_str (by decide +kernel) (pa_cons (pv 4) pa_nil))) pa_nil)))))
      (pss_cons (ps_for PassesOwn.never rfl (pi_range1 rfl T.b_range (pa_cons (pe_cl c_law_digit hr (by decide) pass0 (pa_cons (pv 0) (pa_cons pe_int pa_nil))) pa_nil)) (pg_name (i := 4) sc_law_layout.nd rfl (by first | exact Or.inl rfl | exact Or.inr rfl))
      (pss_cons (ps_expr (pe_bm PySem.F.plainAttrs_list PySem.F.slot_list_append PySem.F.type_list_append mt_append (pe_fld (pv 1) rfl) (pa_cons (pe_tup (pa_cons (pe_op op_add_str pe_str (pe_callTy call_str_int (by rfl) T.b_str (by decide +kernel) (pa_cons (pv 4) pa_nil))) (pa_cons (pe_op op_mulW pe_int (pv 4)) pa_nil))) pa_nil)))
      (pss_cons (ps_set (i := 5) sc_law_layout.nd rfl (by first | exact Or.inl rfl | exact Or.inr rfl) (pe_lst (pa_cons (pe_op op_add_str pe_str (pe_callTy call_str_int (by rfl) T.b_str (by decide +kernel) (pa_cons (pv 4) pa_nil))) (pa_cons (pe_op op_add_str pe_str (pe_callTy call_str_int (by rfl) T.b_str (by decide +kernel) (pa_cons (pe_cl c_law_digit hr (by decide) pass0 (pa_cons (pv 0) (pa_cons (pv 3) pa_nil))) pa_nil))) pa_nil))))
      (pss_cons (ps_if (pt_cmpR op_eq (pe_cl c_law_digit hr (by decide) pass0 (pa_cons (pv 0) (pa_cons pe_int pa_nil))) pe_int (nomark _))
      (pss_one (ps_set (i := 5) sc_law_layout.nd rfl (by first | exact Or.inl rfl | exact Or.inr rfl) (pe_lst (pa_cons (pe_ix ix_list (pv 5) pe_int (fun _ _ => rfl)) (pa_cons (pe_ix ix_list (pv 5) pe_int (fun _ _ => rfl)) pa_nil)))))
      pss_nil)
      (pss_one (ps_expr (pe_bm PySem.F.plainAttrs_list PySem.F.slot_list_append PySem.F.type_list_append mt_append (pe_fld (pv 1) rfl) (pa_cons (pe_ma c_LayoutLink___init__ hr (by decide) pass0 (pa_cons (pe_ix ix_list (pv 5) pe_int (fun _ _ => rfl)) (pa_cons (pe_ix ix_list (pv 5) pe_int (fun _ _ => rfl)) (pa_cons (pv 2) pa_nil)))) pa_nil))))))))
      (pss_cons (ps_for PassesOwn.never rfl (pi_range1 rfl T.b_range (pa_cons (pe_cl c_law_digit hr (by decide) pass0 (pa_cons (pv 0) (pa_cons pe_int pa_nil))) pa_nil)) (pg_name (i := 4) sc_law_layout.nd rfl (by first | exact Or.inl rfl | exact Or.inr rfl))
      (pss_cons (ps_set (i := 6) sc_law_layout.nd rfl (by first | exact Or.inl rfl | exact Or.inr rfl) (pe_cl c_law_digit hr (by decide) pass0 (pa_cons (pv 0) (pa_cons (pv 3) pa_nil))))
      (pss_cons (ps_set (i := 7) sc_law_layout.nd rfl (by first | exact Or.inl rfl | exact Or.inr rfl) (pe_cl c_law_digit hr (by decide) pass0 (pa_cons (pv 0) (pa_cons (pv 3) pa_nil))))
      (pss_one (ps_if (pt_cmpR op_ne (pv 6) (pv 7) (nomark _))
      (pss_one (ps_expr (pe_bm PySem.F.plainAttrs_list PySem.F.slot_list_append PySem.F.type_list_append mt_append (pe_fld (pv 1) rfl) (pa_cons (pe_ma c_LayoutLink___init__ hr (by decide) pass0 (pa_cons (pe_op op_add_str pe_str (pe_callTy call_str_int (by rfl) T.b_str (by decide +kernel) (pa_cons (pv 6) pa_nil))) (pa_cons (pe_op op_add_str pe_str (pe_callTy call_str_int (by rfl) T.b_str (by decide +kernel) (pa_cons (pv 7) pa_nil))) (pa_cons (pv 2) pa_nil)))) pa_nil))))
      pss_nil)))))
      (pss_one (ps_ret (pv 1))))))))), ?_⟩
  walk_at "n"
  intro q dx hq0 hdx hne
  refine ⟨_, rfl, q, dx, rfl, upd_same, fun H1 ho ro li k1 e1 e2 e3 e4 e5 e6 L1 => ⟨rfl, ?_⟩⟩
  have s1 : Same H H1 := KeepP.made hq0 hdx k1
  have eh : ∀ {a : Addr}, upd (upd H dx (.own q)) q (.ins C_Layout dx []) a = none → H a = none := fun {a} h => (upd_none (upd_none h).2).2
  have nho : ho ≠ p := fun e => by have := eh e1; rw [e, hp] at this; cases this
  have nro : ro ≠ p := fun e => by have := eh e2; rw [e, hp] at this; cases this
  have nli : li ≠ p := fun e => by have := eh e3; rw [e, hp] at this; cases this
  walk_at "g"
  intro ox dx2 hox hdx2 hne2
  refine ⟨_, _, _, _, _, _, _, rfl, ox, dx2, rfl, rfl, rfl, rfl, rfl, rfl, rfl, upd_same, fun H2 k2 => ⟨rfl, ?_⟩⟩
  have s2 : Same H1 H2 := KeepP.made hox hdx2 k2
  have L2' := L1.same s2
  have hp2 := s2 _ _ (s1 _ _ hp)
  walk_at "g"
  refine ⟨p, n, 8, H2, rfl, rfl, hp2, by decide, by decide, KeepP.refl, fun d v3 H3 k3 hp3 d0 d1 => ?_⟩
  have L3 := L2'.keep hp2 nho nro nli k3
  have K3 : KeepP p H H3 := (Keep.of (s1.trans s2)).trans k3
  have fho := eh e1
  have fro := eh e2
  have fli := eh e3
  have fox : H ox = none := s1.free hox
  walk_at "g"
  obtain ⟨NR, hNR⟩ : ∃ NR : Nat, (1 + d).toNat = NR := ⟨_, rfl⟩
  have hNR8 : NR ≤ 8 := by omega
  have hNR1 : 1 ≤ NR := by omega
  have eNR : (1 : Int) + d = (NR : Int) := by omega
  refine ⟨by omega, by omega, for_range (lo := 0) (n := (1 + d).toNat) (fun i σ H' => KeepP p H H' ∧ (∃ v4 v5 v6 v7 : Option V, σ = [some (.ref p), some (.ref q), some (.ref ox), some (.int (1 + d)), v4, v5, v6, v7]) ∧ H' p = some (.lst [.int v3]) ∧ LayAt C_Layout C_LayoutLink H' q ho ro li [] [] ((List.range i).map rN) [] []) ?_ ?_ ?_⟩
  · exact ⟨K3, ⟨_, _, _, _, rfl⟩, hp3, L3⟩
  · rintro i σ H4 hi ⟨k4, ⟨v4, v5, v6, v7, rfl⟩, hp4, L4⟩
    have z0 : (0 : Int) + (i : Nat) = (i : Nat) := Int.zero_add _
    rw [z0]
    obtain ⟨dxq, q4⟩ := L4.self
    walk_at "n"
    (walk_at "g"; refine ⟨_, C_Layout, _, _, _, rfl, q4, T.cl_Layout, T.na_Layout_routers, fs_Layout_routers, ?_⟩; walk_at "g")
    refine ⟨.inl ⟨rfl, _, SqL.of L4.routers⟩, ?_⟩
    walk_at "g"
    have nb : ((i : Nat) : Int).natAbs.log2 < 1920 := num_bits (Nat.lt_of_lt_of_le (show i < 8 by omega) (by decide))
    have nl := num_len (n := i) (k := 2) (by decide) (by omega)
    have r1 : ("r" : Str).length = 1 := by decide +kernel
    refine ⟨nb, ?_⟩
    walk_at "g"
    refine ⟨sz _ (by omega), ?_⟩
    walk_at "g"
    refine ⟨ro, _, _, rfl, rfl, L4.routers, szl _ (by rw [List.length_map, List.length_map, List.length_range]; omega), ?_⟩
    have L5 := L4.addR e4 e6.symm (rN i)
    rw [← range_snoc' i rN] at L5
    exact ⟨Keep.new k4 fro, ⟨_, _, _, _, rfl⟩, upd_get hp4 nro.symm, L5⟩
  · rintro σ H4 ⟨k4, ⟨v4, v5, v6, v7, rfl⟩, hp4, L4⟩
    rw [hNR] at L4
    have rIn : ∀ k : Nat, k < NR → rN k ∈ (List.range NR).map rN := fun k hk => List.mem_map.mpr ⟨k, List.mem_range.mpr hk, rfl⟩
    walk_at "g"
    refine ⟨p, v3, 7, H4, rfl, rfl, hp4, by decide, by decide, KeepP.refl, fun d5 v5' H5 k5 hp5 f0 f1 => ?_⟩
    have L5 := L4.keep hp4 nho nro nli k5
    have K5 : KeepP p H H5 := k4.trans k5
    walk_at "g"
    refine ⟨by omega, by omega, for_range (lo := 0) (n := d5.toNat) (fun i σ H' => KeepP p H H' ∧ (∃ v4 v5 v6 v7 : Option V, σ = [some (.ref p), some (.ref q), some (.ref ox), some (.int (1 + d)), v4, v5, v6, v7]) ∧ (∃ v, H' p = some (.lst [.int v])) ∧
      ∃ hv lp ls, LayAt C_Layout C_LayoutLink H' q ho ro li hv ((List.range i).map fun k : Nat => (hN k, (5 : Int) * (k : Int))) ((List.range NR).map rN) lp ls ∧ ls.length = i ∧ ∀ l ∈ ls, l.1 ∈ (List.range i).map hN ++ (List.range NR).map rN ∧ l.2 ∈ (List.range i).map hN ++ (List.range NR).map rN) ?_ ?_ ?_⟩
    · exact ⟨K5, ⟨_, _, _, _, rfl⟩, ⟨_, hp5⟩, [], [], [], L5, rfl, by simp⟩
    · rintro i σ H6 hi ⟨k6, ⟨v4, v5, v6, v7, rfl⟩, ⟨v6', hp6⟩, hv, lp, ls, L6, hll, hends⟩
      have z0 : (0 : Int) + (i : Nat) = (i : Nat) := Int.zero_add _
      rw [z0]
      obtain ⟨dxq, q6⟩ := L6.self
      walk_at "n"
      (walk_at "g"; refine ⟨_, C_Layout, _, _, _, rfl, q6, T.cl_Layout, T.na_Layout_hosts, fs_Layout_hosts, ?_⟩; walk_at "g")
      refine ⟨.inl ⟨rfl, _, SqL.of L6.hosts⟩, ?_⟩
      walk_at "g"
      have nb : ((i : Nat) : Int).natAbs.log2 < 1920 := num_bits (Nat.lt_of_lt_of_le (show i < 8 by omega) (by decide))
      have nl := num_len (n := i) (k := 2) (by decide) (by omega)
      have r1 : ("h" : Str).length = 1 := by decide +kernel
      have r2 : ("r" : Str).length = 1 := by decide +kernel
      have lhv := Paired.len L6.host
      rw [List.length_map, List.length_range] at lhv
      refine ⟨nb, ?_⟩
      walk_at "g"
      refine ⟨sz _ (by omega), ?_⟩
      walk_at "g"
      refine ⟨wide_mul (a := 10) (b := 10) (by decide) (by omega) (by decide) (by decide) (by decide), ?_⟩
      walk_at "g"
      refine ⟨(by show 2 ≤ sizeLine; decide), fun t ht => ?_⟩
      have nto : ho ≠ t := ne_of_none L6.hosts ht
      walk_at "g"
      have L7 := (L6.same (Same.new (Same.refl _) ht)).addH (z := hN i) (i := (5 : Int) * (i : Nat)) e4.symm e5.symm (t := t) upd_same
      refine ⟨ho, _, _, rfl, rfl, upd_get L6.hosts nto, szl _ (by omega), ?_⟩
      rw [← range_snoc' i (fun k : Nat => (hN k, (5 : Int) * (k : Int)))] at L7
      have k7 : KeepP p H (upd (upd H6 t (.tup [.str (("h" : Str) ++ Str.ofString (toString ((i : Nat) : Int))), .int ((5 : Int) * (i : Nat))])) ho (.lst (hv ++ [.ref t]))) := Keep.new (k6.trans (Keep.of (Same.new (Same.refl _) ht))) fho
      have hp7 : (upd (upd H6 t (.tup [.str (("h" : Str) ++ Str.ofString (toString ((i : Nat) : Int))), .int ((5 : Int) * (i : Nat))])) ho (.lst (hv ++ [.ref t]))) p = some (.lst [.int v6']) := upd_get (upd_get hp6 (ne_of_none hp6 ht)) nho.symm
      have L7 : LayAt C_Layout C_LayoutLink (upd (upd H6 t (.tup [.str (("h" : Str) ++ Str.ofString (toString ((i : Nat) : Int))), .int ((5 : Int) * (i : Nat))])) ho (.lst (hv ++ [.ref t]))) q ho ro li (hv ++ [.ref t]) ((List.range (i + 1)).map fun k : Nat => (hN k, (5 : Int) * (k : Int))) ((List.range NR).map rN) lp ls := L7
      generalize upd (upd H6 t (.tup [.str (("h" : Str) ++ Str.ofString (toString ((i : Nat) : Int))), .int ((5 : Int) * (i : Nat))])) ho (.lst (hv ++ [.ref t])) = H7 at k7 hp7 L7
      walk_at "n"
      walk_at "g"
      refine ⟨nb, ?_⟩
      walk_at "g"
      refine ⟨sz _ (by omega), ?_⟩
      walk_at "g"
      refine ⟨p, v6', 1 + d, H7, rfl, rfl, hp7, by omega, by omega, KeepP.refl, fun D v8 H8 k8 hp8 D0 D1 => ?_⟩
      obtain ⟨D, rfl⟩ : ∃ N : Nat, D = N := ⟨D.toNat, by omega⟩
      have hD : D < NR := by omega
      have L8 := L7.keep hp7 nho nro nli k8
      have nbD : ((D : Nat) : Int).natAbs.log2 < 1920 := num_bits (Nat.lt_of_lt_of_le (show D < 8 by omega) (by decide))
      have nlD := num_len (n := D) (k := 2) (by decide) (by omega)
      walk_at "g"
      refine ⟨nbD, ?_⟩
      walk_at "g"
      refine ⟨sz _ (by omega), ?_⟩
      walk_at "g"
      refine ⟨sz 2 (by decide), fun e he => ?_⟩
      have se : Same H8 (upd H8 e (.lst [.str (hN i), .str (rN D)])) := Same.new (Same.refl _) he
      have de : (upd H8 e (.lst [.str (hN i), .str (rN D)])) e = some (.lst [.str (hN i), .str (rN D)]) := upd_same
      have L9 := L8.same se
      have hp9 := se _ _ hp8
      have k9 : KeepP p H (upd H8 e (.lst [.str (hN i), .str (rN D)])) := (k7.trans k8).trans (Keep.of se)
      have nep : e ≠ p := fun z => by rw [z, hp8] at he; cases he
      have go : ∀ {G : Prop}, (∀ H9, H9 = upd H8 e (.lst [.str (hN i), .str (rN D)]) → G) → G := fun h => h _ rfl
      walk_at "n"
      refine mid (fun σ' H' => ∃ (f : Addr) (x y : Str) (v6 v7 : Option V), σ' = [some (.ref p), some (.ref q), some (.ref ox), some (.int (1 + d)), some (.int (i : Nat)), some (.ref f), v6, v7] ∧ H' f = some (.lst [.str x, .str y]) ∧ ((x = hN i ∧ y = rN D) ∨ (x = rN D ∧ y = hN i)) ∧ KeepP p H H' ∧ (∃ v, H' p = some (.lst [.int v])) ∧
        LayAt C_Layout C_LayoutLink H' q ho ro li (hv ++ [.ref t]) ((List.range (i + 1)).map fun k : Nat => (hN k, (5 : Int) * (k : Int))) ((List.range NR).map rN) lp ls) ?_ (fun tail => ?_)
      · rintro σ2 Ha ⟨f, x, y, v6, v7, rfl, df, hxy, ka, ⟨va, hpa⟩, La⟩
        obtain ⟨dxq2, qa⟩ := La.self
        (walk_at "g"; refine ⟨_, C_Layout, _, _, _, rfl, qa, T.cl_Layout, T.na_Layout_links, fs_Layout_links, ?_⟩; walk_at "g")
        refine ⟨.inl ⟨rfl, _, SqL.of La.links⟩, ?_⟩
        walk_at "g"
        refine ⟨f, _, 0, .str x, rfl, rfl, SqL.of df, at_of (j := 0) rfl rfl, ?_⟩
        walk_at "g"
        refine ⟨f, _, 1, .str y, rfl, rfl, SqL.of df, at_of (j := 1) rfl rfl, ?_⟩
        walk_at "g"
        intro t2 dx3 ht2 hdx3 hne3
        refine ⟨_, _, _, _, rfl, t2, dx3, x, y, rfl, rfl, rfl, upd_same, fun Hb kb lk => ⟨rfl, ?_⟩⟩
        have sb : Same Ha Hb := KeepP.made ht2 hdx3 kb
        have llp := Paired.len La.link
        walk_at "g"
        refine ⟨li, _, _, rfl, rfl, sb _ _ La.links, szl _ (by rw [List.length_map]; omega), ?_⟩
        have Lc := (La.same sb).addL e6 e5 lk
        refine ⟨Keep.new (ka.trans (Keep.of sb)) fli, ⟨_, _, _, _, rfl⟩, ⟨va, upd_get (sb _ _ hpa) nli.symm⟩, _, _, _, Lc, by rw [List.length_append, hll]; rfl, fun l hl => ?_⟩
        have iIn : hN i ∈ (List.range (i + 1)).map hN ++ (List.range NR).map rN := List.mem_append.mpr (.inl (List.mem_map.mpr ⟨i, List.mem_range.mpr (by omega), rfl⟩))
        have dIn : rN D ∈ (List.range (i + 1)).map hN ++ (List.range NR).map rN := List.mem_append.mpr (.inr (rIn D hD))
        rcases List.mem_append.mp hl with hl | hl
        · have up : ∀ {z : Str}, z ∈ (List.range i).map hN ++ (List.range NR).map rN → z ∈ (List.range (i + 1)).map hN ++ (List.range NR).map rN := fun {z} h => by
            rw [range_snoc', List.append_assoc]
            rcases List.mem_append.mp h with h | h
            · exact List.mem_append.mpr (.inl h)
            · exact List.mem_append.mpr (.inr (List.mem_append.mpr (.inr h)))
          exact ⟨up (hends l hl).1, up (hends l hl).2⟩
        · rw [List.mem_singleton.mp hl]
          rcases hxy with ⟨rfl, rfl⟩ | ⟨rfl, rfl⟩
          · exact ⟨iIn, dIn⟩
          · exact ⟨dIn, iIn⟩
      · walk_at "g"
        refine ⟨p, v8, 2, _, rfl, rfl, hp9, by decide, by decide, KeepP.refl, fun D2 va Ha ka hpa D20 D21 => ?_⟩
        have La := L9.keep hp9 nho nro nli ka
        have da := ka _ _ de nep
        walk_at "g"
        by_cases hz : D2 = 0
        · refine ite_t (decide_eq_true (congrArg V.int hz)) ?_
          walk_at "g"
          refine ⟨e, _, 1, .str (rN D), rfl, rfl, SqL.of da, at_of (j := 1) rfl rfl, ?_⟩
          walk_at "g"
          refine ⟨e, _, 0, .str (hN i), rfl, rfl, SqL.of da, at_of (j := 0) rfl rfl, ?_⟩
          walk_at "g"
          refine ⟨sz 2 (by decide), fun f hf => ?_⟩
          have sf : Same Ha (upd Ha f (.lst [.str (rN D), .str (hN i)])) := Same.new (Same.refl _) hf
          exact tail _ _ ⟨f, _, _, _, _, rfl, upd_same, .inr ⟨rfl, rfl⟩, (k9.trans ka).trans (Keep.of sf), ⟨va, sf _ _ hpa⟩, La.same sf⟩
        · refine ite_f (decide_eq_false fun z => hz (V.int.inj z)) ?_
          exact tail _ _ ⟨e, _, _, _, _, rfl, da, .inl ⟨rfl, rfl⟩, k9.trans ka, ⟨va, hpa⟩, La⟩
    · rintro σ H6 ⟨k6, ⟨v4, v5, v6, v7, rfl⟩, ⟨v6', hp6⟩, hv, lp, ls, L6, hll, hends⟩
      have nh : d5.toNat ≤ 6 := by omega
      generalize d5.toNat = nh6 at L6 hll hends nh
      walk_at "g"
      refine ⟨p, v6', 14, H6, rfl, rfl, hp6, by decide, by decide, KeepP.refl, fun d7 v7' H7 k7 hp7 g0 g1 => ?_⟩
      have L7 := L6.keep hp6 nho nro nli k7
      walk_at "g"
      refine ⟨by omega, by omega, for_range (lo := 0) (n := d7.toNat) (fun i σ H' => KeepP p H H' ∧ (∃ v4 v5 v6 v7 : Option V, σ = [some (.ref p), some (.ref q), some (.ref ox), some (.int (1 + d)), v4, v5, v6, v7]) ∧ (∃ v, H' p = some (.lst [.int v])) ∧
        ∃ lp ls, LayAt C_Layout C_LayoutLink H' q ho ro li hv ((List.range nh6).map fun k : Nat => (hN k, (5 : Int) * (k : Int))) ((List.range NR).map rN) lp ls ∧ ls.length ≤ nh6 + i ∧ ∀ l ∈ ls, l.1 ∈ (List.range nh6).map hN ++ (List.range NR).map rN ∧ l.2 ∈ (List.range nh6).map hN ++ (List.range NR).map rN) ?_ ?_ ?_⟩
      · exact ⟨k6.trans k7, ⟨_, _, _, _, rfl⟩, ⟨_, hp7⟩, lp, ls, L7, by omega, hends⟩
      · rintro i σ H8 hi ⟨k8, ⟨v4, v5, v6, v7, rfl⟩, ⟨v8, hp8⟩, lp, ls, L8, hll, hends⟩
        walk_at "g"
        refine ⟨p, v8, 1 + d, H8, rfl, rfl, hp8, by omega, by omega, KeepP.refl, fun A9 v9 H9 k9 hp9 A0 A1 => ?_⟩
        have L9 := L8.keep hp8 nho nro nli k9
        walk_at "g"
        refine ⟨p, v9, 1 + d, H9, rfl, rfl, hp9, by omega, by omega, KeepP.refl, fun B9 va Ha ka hpa B0 B1 => ?_⟩
        have La := L9.keep hp9 nho nro nli ka
        obtain ⟨x, rfl⟩ : ∃ N : Nat, A9 = N := ⟨A9.toNat, by omega⟩
        obtain ⟨y, rfl⟩ : ∃ N : Nat, B9 = N := ⟨B9.toNat, by omega⟩
        have Ka : KeepP p H Ha := (k8.trans k9).trans ka
        walk_at "g"
        by_cases hxy : (x : Int) = (y : Int)
        · refine ite_f (by rw [hxy]; simp) ?_
          exact ⟨Ka, ⟨_, _, _, _, rfl⟩, ⟨va, hpa⟩, lp, ls, La, by omega, hends⟩
        · refine ite_t (by rw [decide_eq_false (fun z => hxy (V.int.inj z))]; rfl) ?_
          obtain ⟨dxq2, qa⟩ := La.self
          (walk_at "g"; refine ⟨_, C_Layout, _, _, _, rfl, qa, T.cl_Layout, T.na_Layout_links, fs_Layout_links, ?_⟩; walk_at "g")
          refine ⟨.inl ⟨rfl, _, SqL.of La.links⟩, ?_⟩
          have r2 : ("r" : Str).length = 1 := by decide +kernel
          have nbx : ((x : Nat) : Int).natAbs.log2 < 1920 := num_bits (Nat.lt_of_lt_of_le (show x < 8 by omega) (by decide))
          have nlx := num_len (n := x) (k := 2) (by decide) (by omega)
          have nby : ((y : Nat) : Int).natAbs.log2 < 1920 := num_bits (Nat.lt_of_lt_of_le (show y < 8 by omega) (by decide))
          have nly := num_len (n := y) (k := 2) (by decide) (by omega)
          walk_at "g"
          refine ⟨nbx, ?_⟩
          walk_at "g"
          refine ⟨sz _ (by omega), ?_⟩
          walk_at "g"
          refine ⟨nby, ?_⟩
          walk_at "g"
          refine ⟨sz _ (by omega), ?_⟩
          walk_at "g"
          intro t2 dx3 ht2 hdx3 hne3
          refine ⟨_, _, _, _, rfl, t2, dx3, rN x, rN y, rfl, rfl, rfl, upd_same, fun Hb kb lk => ⟨rfl, ?_⟩⟩
          have sb : Same Ha Hb := KeepP.made ht2 hdx3 kb
          have llp := Paired.len La.link
          walk_at "g"
          refine ⟨li, _, _, rfl, rfl, sb _ _ La.links, szl _ (by rw [List.length_map]; omega), ?_⟩
          have Lc := (La.same sb).addL e6 e5 lk
          refine ⟨Keep.new (Ka.trans (Keep.of sb)) fli, ⟨_, _, _, _, rfl⟩, ⟨va, upd_get (sb _ _ hpa) nli.symm⟩, _, _, Lc, by rw [List.length_append]; simp only [List.length_cons, List.length_nil]; omega, fun l hl => ?_⟩
          rcases List.mem_append.mp hl with hl | hl
          · exact hends l hl
          · rw [List.mem_singleton.mp hl]
            exact ⟨List.mem_append.mpr (.inr (rIn x (by omega))), List.mem_append.mpr (.inr (rIn y (by omega)))⟩
      · rintro σ H8 ⟨k8, ⟨v4, v5, v6, v7, rfl⟩, ⟨v8, hp8⟩, lp, ls, L8, hll, hends⟩
        walk_at "g"
        have eh2 : ((List.range nh6).map fun k : Nat => (hN k, (5 : Int) * (k : Int))).map (·.1) = (List.range nh6).map hN := by rw [List.map_map]; rfl
        refine kk _ q ho ro li hv _ _ lp ls v8 k8 hp8 hq0 fho fro fli e4 e5 e6 L8 ⟨?_, ?_, ?_, ?_, ?_⟩ ?_ ?_
        · rw [List.length_map, List.length_range]; omega
        · rw [List.length_map, List.length_range]; omega
        · omega
        · rw [eh2]; exact hends
        · rw [eh2]
          intro z hz
          rcases List.mem_append.mp hz with hz | hz
          · obtain ⟨k, hk, rfl⟩ := List.mem_map.mp hz
            exact (hN_ok k (by have := List.mem_range.mp hk; omega)).1
          · obtain ⟨k, hk, rfl⟩ := List.mem_map.mp hz
            exact (rN_ok k (by have := List.mem_range.mp hk; omega)).1
        · intro hz
          obtain ⟨k, hk, e⟩ := List.mem_map.mp hz
          exact (rN_ok k (by have := List.mem_range.mp hk; omega)).2 e
        · intro i hz
          obtain ⟨k, hk, e⟩ := List.mem_map.mp hz
          exact (hN_ok k (by have := List.mem_range.mp hk; omega)).2 (congrArg Prod.fst e)
theorem rp_hosts {H : Hp} : ∀ {hv : List V} {hs : List (Str × Int)}, Paired (fun v (q : Str × Int) => ∃ t, v = .ref t ∧ H t = some (.tup [.str q.1, .int q.2])) hv hs → DpAll K H hv ((hs.map fun q => (⟨(q.1, q.2, ())⟩ : Tu (Str × Int × Unit))).map DatN.toDat.d)
  | _, _, .nil => .nil
  | _, _, .cons ⟨t, e, ht⟩ r => .cons (by rw [e]; exact .tup (SqT.of ht) (.cons (.str _) (.cons (.int _) .nil))) (rp_hosts r)
theorem good_hosts {hs : List (Str × Int)} (h : ∀ q ∈ hs, PyData.strOk q.1 = true) : Dat.good (hs.map fun q => (⟨(q.1, q.2, ())⟩ : Tu (Str × Int × Unit))) := fun x hx => by
  obtain ⟨q, hq, rfl⟩ := List.mem_map.mp hx
  exact ⟨h q hq, trivial, trivial⟩
theorem ok_law {f : Addr} {fd : FuncData} {C_Layout C_LayoutLink C_LinkOptions E_InvalidAmount : Addr} (F : Fun K "law" "law" s_law f fd) (T : Txt K mg C_Layout C_LayoutLink C_LinkOptions E_InvalidAmount) (c_law_start : Cl P w K mg base CX0 1 "_law_start" (spStart)) (c_law_cell : Cl P w K mg base CX0 1 "_law_cell" (spCellT K)) (c_law_layout : Cl P w K mg base CX0 3 "_law_layout" (spBuild C_Layout C_LayoutLink)) (c_law_digit : Cl P w K mg base CX0 1 "_law_digit" (spDigit)) (c_without_links : Cl P w K mg base CX0 3 "without_links" (spLess C_Layout C_LayoutLink)) (c_law_asked : Cl P w K mg base CX0 4 "_law_asked" (spAsked C_Layout C_LayoutLink)) : FnOk P w K mg base CX0 5 f fd ["script"] (spLaw K) := by
  refine F.ok sc_law (fun vs H Q E h => S1.len h) (fun cdv A outer s H vs Q E hr h => ?_)
  obtain ⟨_, rfl, a, ns, rfl, hS, hl, kk⟩ := h
  refine ⟨_, (pss_cons (ps_for PassesOwn.never rfl (pi_range1 rfl T.b_range (pa_cons (pe_callB (call_min2 rfl) (by rfl) T.b_min (by decide +kernel) (pa_cons pe_int (pa_cons (pe_op op_add pe_int (pe_callB call_len_seq (by rfl) T.b_len PySem.boot_len (pa_cons (pv 0) pa_nil))) pa_nil))) pa_nil)) (pg_name (i := 1) sc_law.nd rfl (by first | exact Or.inl rfl | exact Or.inr rfl))
      (pss_cons (ps_set (i := 2) sc_law.nd rfl (by first | exact Or.inl rfl | exact Or.inr rfl) (pe_cl c_law_start hr (by decide) pass0 (pa_cons (pe_cl c_law_cell hr (by decide) pass0 (pa_cons (pv 0) (pa_cons (pv 1) pa_nil))) (pa_cons (pv 1) pa_nil))))
      (pss_cons (ps_set (i := 3) sc_law.nd rfl (by first | exact Or.inl rfl | exact Or.inr rfl) (pe_cl c_law_layout hr (by decide) pass0 (pa_cons (pv 2) pa_nil)))
      (pss_cons (ps_set (i := 4) sc_law.nd rfl (by first | exact Or.inl rfl | exact Or.inr rfl) (pe_callTy call_list_of (by rfl) T.b_list (by decide +kernel) (pa_cons (pe_fld (pv 3) rfl) pa_nil)))
      (pss_cons (ps_set (i := 5) sc_law.nd rfl (by first | exact Or.inl rfl | exact Or.inr rfl) (pe_lc (own := [("i", 6)]) rfl sc_law.nd (pi_range1 rfl T.b_range (pa_cons (pe_callB call_len_seq (by rfl) T.b_len PySem.boot_len (pa_cons (pv 4) pa_nil)) pa_nil)) (blkOk_by (own := [("i", 6)]) (N := ["script", "k", "state", "layout", "links", "cut", "i", "less"]) (sc := defScope s_law) (by decide +kernel)) (fun _ _ _ _ _ => (pg_name (i := 6) sc_law.nd rfl (by first | exact Or.inl rfl | exact Or.inr rfl))) (fun _ _ _ _ _ => pts_one (pt_cmpR op_eq (pe_cl c_law_digit hr (by decide) pass0 (pa_cons (pv 2) (pa_cons pe_int pa_nil))) pe_int (nomark _))) (fun _ _ _ _ _ => (pv 6))))
      (pss_cons (ps_set (i := 7) sc_law.nd rfl (by first | exact Or.inl rfl | exact Or.inr rfl) (pe_cl c_without_links hr (by decide) pass0 (pa_cons (pv 3) (pa_cons (pv 5) pa_nil))))
      (pss_cons (ps_if (PW.pt (pw_or (pt_not (pt_val (pe_cl c_law_asked hr (by decide) pass0 (pa_cons (pv 3) pa_nil)))) (pw_or (pt_not (pt_val (pe_cl c_law_asked hr (by decide) pass0 (pa_cons (pv 7) pa_nil)))) (pw_or1 (pt_cmpR (op_neI hr.units0) (pe_fld (pv 3) rfl) (pv 4) (nomark _))))))
      (pss_one (ps_ret pe_bl))
      pss_nil)
      (pss_cons (ps_if (pt_cmpR (op_neI hr.units0) (pe_fld (pv 7) rfl) (pe_lc (own := [("i", 6)]) rfl sc_law.nd (pi_range1 rfl T.b_range (pa_cons (pe_callB call_len_seq (by rfl) T.b_len PySem.boot_len (pa_cons (pv 4) pa_nil)) pa_nil)) (blkOk_by (own := [("i", 6)]) (N := ["script", "k", "state", "layout", "links", "cut", "i", "less"]) (sc := defScope s_law) (by decide +kernel)) (fun _ _ _ _ _ => (pg_name (i := 6) sc_law.nd rfl (by first | exact Or.inl rfl | exact Or.inr rfl))) (fun _ _ _ _ _ => pts_one (pt_cmpR (op_notIn_seqK K) (pv 6) (pv 5) rfl)) (fun _ _ _ _ _ => (pe_ix (ix_listK K) (pv 4) (pv 6) (fun _ _ => rfl)))) (nomark _))
      (pss_one (ps_ret pe_bl))
      pss_nil)
      (pss_cons (ps_if (PW.pt (pw_or (pt_cmpR (op_neD hr.units) (pe_fld (pv 7) rfl) (pe_fld (pv 3) rfl) (nomark _)) (pw_or1 (pt_cmpR (op_neD hr.units) (pe_fld (pv 7) rfl) (pe_fld (pv 3) rfl) (nomark _)))))
      (pss_one (ps_ret pe_bl))
      pss_nil)
      (pss_cons (ps_expr (pe_bm PySem.F.plainAttrs_list PySem.F.slot_list_append PySem.F.type_list_append mt_append (pe_fld (pv 7) rfl) (pa_cons pe_str pa_nil)))
      (pss_cons (ps_expr (pe_bm PySem.F.plainAttrs_list PySem.F.slot_list_append PySem.F.type_list_append mt_append (pe_fld (pv 7) rfl) (pa_cons (pe_tup (pa_cons pe_str (pa_cons pe_int pa_nil))) pa_nil)))
      (pss_one (ps_if (PW.pt (pw_or (pt_cmpR (op_in_seq) pe_str (pe_fld (pv 3) rfl) rfl) (pw_or1 (pt_cmpR (op_inD (huD hr)) (pe_tup (pa_cons pe_str (pa_cons pe_int pa_nil))) (pe_fld (pv 3) rfl) rfl))))
      (pss_one (ps_ret pe_bl))
      pss_nil)))))))))))))
      (pss_one (ps_ret pe_bl))), ?_⟩
  walk_at "g"
  refine ⟨a, _, rfl, .inl hS, ?_⟩
  walk_at "g"
  have hn : ∃ n : Nat, (if 1 + (((ns.map V.int).length : Nat) : Int) < 8 then 1 + (((ns.map V.int).length : Nat) : Int) else 8) = (n : Int) ∧ n ≤ 8 := by
    rw [List.length_map]
    split
    · exact ⟨1 + ns.length, by omega, by omega⟩
    · exact ⟨8, rfl, by decide⟩
  obtain ⟨n, en, hn⟩ := hn
  rw [en]
  refine ⟨by omega, by omega, for_range (lo := 0) (n := ((n : Nat) : Int).toNat) (fun i σ H' => Same H H' ∧ ∃ v1 v2 v3 v4 v5 v6 v7 : Option V, σ = [some (.ref a), v1, v2, v3, v4, v5, v6, v7]) ⟨Same.refl _, _, _, _, _, _, _, _, rfl⟩ ?_ ?_⟩
  · rintro i σ H1 hi ⟨s1, v1, v2, v3, v4, v5, v6, v7, rfl⟩
    have z0 : (0 : Int) + (i : Nat) = (i : Nat) := Int.zero_add _
    rw [z0]
    walk_at "g"
    refine ⟨a, ns, _, rfl, rfl, s1.seq hS, by omega, fun z => ?_⟩
    walk_at "g"
    refine ⟨by omega, by omega, fun p n0 H2 hp s2 h2 => ?_⟩
    walk_at "g"
    refine ⟨p, n0, rfl, h2, fun H3 q ho ro li hv hs rs lp ls n3 k3 hp3 e1 e2 e3 e4 e5 e6 e7 L O hmore hh9 => ?_⟩
    have b1 := O.h
    have b2 := O.r
    have b3 := O.l
    have llp := Paired.len L.link
    obtain ⟨dx, h3⟩ := L.self
    have nlip : li ≠ p := fun e => by rw [e, h2] at e4; cases e4
    have nrop : ro ≠ p := fun e => by rw [e, h2] at e3; cases e3
    have nhop : ho ≠ p := fun e => by rw [e, h2] at e2; cases e2
    have S3 : Same H1 H3 := KeepP.same k3 s2 hp
    (walk_at "g"; refine ⟨_, C_Layout, _, _, _, rfl, h3, T.cl_Layout, T.na_Layout_links, fs_Layout_links, ?_⟩; walk_at "g")
    refine ⟨li, _, rfl, .inl (SqL.of L.links), fun lk hlk => ?_⟩
    have nlk : lk ≠ p := fun e => by rw [e, hp3] at hlk; cases hlk
    have S4 : Same H3 (upd H3 lk (.lst (lp.map V.ref))) := Same.new (Same.refl _) hlk
    have lk4 : (upd H3 lk (.lst (lp.map V.ref))) lk = some (.lst (lp.map V.ref)) := upd_same
    have L4 := L.same S4
    have hp4 := S4 _ _ hp3
    generalize upd H3 lk (.lst (lp.map V.ref)) = H4 at S4 lk4 L4 hp4
    (walk_at "g"; refine ⟨_, _, rfl, .inl (SqL.of (lk4)), ?_⟩; walk_at "g")
    rw [List.length_map]
    refine ⟨by omega, by omega, fun D hD => ?_⟩
    have nDp : D ≠ p := fun e => by rw [e, hp4] at hD; cases hD
    refine lc_range (lo := 0) (n := ((lp.length : Nat) : Int).toNat) (fun j H' => Keep (fun z => z = p ∨ z = D) (upd H4 D (.lst [])) H' ∧ (∃ v, H' p = some (.lst [.int v])) ∧ ∃ cut : List Int, cut.length ≤ j ∧ H' D = some (.lst (cut.map V.int))) ⟨Keep.refl, ⟨n3, upd_get hp4 nDp.symm⟩, [], by simp, upd_same⟩ ?_ ?_
    · rintro j H5 hj ⟨k5, ⟨v5', hp5⟩, cut, hcl, hD5⟩
      walk_at "g"
      refine ⟨p, v5', 3, H5, rfl, rfl, hp5, by decide, by decide, KeepP.refl, fun y v6' H6 k6 hp6 y0 y1 => ?_⟩
      have hD6 := k6 _ _ hD5 nDp
      have k56 := k5.trans (k6.mono fun _ e => .inl e)
      walk_at "g"
      by_cases hy : y = 0
      · refine ite_t (decide_eq_true (congrArg V.int hy)) ?_
        walk_at "g"
        refine ⟨_, hD6, szl _ (by rw [List.length_map]; omega), Keep.upd k56 (.inr rfl), ⟨v6', upd_get hp6 nDp.symm⟩, cut ++ [_], by rw [List.length_append]; simp only [List.length_cons, List.length_nil]; omega, by rw [upd_same, List.map_append]; rfl⟩
      · refine ite_f (decide_eq_false fun z => hy (V.int.inj z)) ?_
        exact ⟨k56, ⟨v6', hp6⟩, cut, by omega, hD6⟩
    · rintro H5 ⟨k5, ⟨v5', hp5⟩, cut, hcl, hD5⟩
      have k45 : KeepP p H4 H5 := fun x o e n => k5 x o (Same.new (Same.refl _) hD x o e) (fun z => z.elim n fun z => by rw [z, hD] at e; cases e)
      have L5 := L4.keep hp4 nhop nrop nlip k45
      have lk5 := k45 _ _ lk4 nlk
      have S5 : Same H1 H5 := KeepP.same k45 (S3.trans S4) hp
      walk_at "g"
      refine ⟨q, ho, ro, li, D, cut, hv, hs, rs, lp, ls, rfl, rfl, hD5, L5, b1, b2, b3, fun H6 q' ho' ro' li' lp' ls' s6 f1 f2 f3 f4 f5 L6' elp hls hlen => ?_⟩
      have L6 := L5.same s6
      have O' : LayOk hs rs ls' := ⟨b1, b2, by omega, fun l hl => O.ends l (hls l hl), O.txt⟩
      walk_at "g"
      refine ⟨q, ho, ro, li, hv, hs, rs, lp, ls, rfl, L6, O, fun H7 s7 => ?_⟩
      walk_at "g"
      refine ⟨q', ho', ro', li', hv, hs, rs, lp', ls', rfl, L6'.same s7, O', fun H8 s8 => ?_⟩
      have L8 := L6.same (s7.trans s8)
      have L8' := L6'.same (s7.trans s8)
      have S58 : Same H5 H8 := (s6.trans s7).trans s8
      have lk8 := S58 _ _ lk5
      have cut8 := S58 _ _ hD5
      obtain ⟨dx8, g8⟩ := L8.self
      obtain ⟨dx8', g8'⟩ := L8'.self
      (walk_at "g"; refine ⟨_, C_Layout, _, _, _, rfl, g8, T.cl_Layout, T.na_Layout_links, fs_Layout_links, ?_⟩; walk_at "g")
      refine ⟨li, lk, lp, rfl, rfl, SqL.of L8.links, SqL.of lk8, ?_⟩
      walk_at "g"
      (walk_at "g"; refine ⟨_, C_Layout, _, _, _, rfl, g8', T.cl_Layout, T.na_Layout_links, fs_Layout_links, ?_⟩; walk_at "g")
      (walk_at "g"; refine ⟨_, _, rfl, .inl (SqL.of (lk8)), ?_⟩; walk_at "g")
      rw [List.length_map]
      refine ⟨by omega, by omega, fun M hM => ?_⟩
      have ncM : ∀ {x : Addr} {o : HO}, H8 x = some o → x ≠ M := fun {x o} h => ne_of_none h hM
      refine lc_range (lo := 0) (n := ((lp.length : Nat) : Int).toNat) (fun j H' => KeepP M (upd H8 M (.lst [])) H' ∧ H' M = some (.lst ((sel cut lp j).map V.ref))) ⟨KeepP.refl, upd_same⟩ ?_ ?_
      · rintro j H9 hj ⟨k9, hM9⟩
        obtain ⟨x, hx⟩ : ∃ x, lp[j]? = some x := ⟨_, List.getElem?_eq_getElem (by omega)⟩
        have z1 : (0 : Int) + (j : Nat) = (j : Nat) := Int.zero_add _
        rw [z1]
        walk_at "g"
        refine ⟨D, _, rfl, .inl (SqL.of (k9 _ _ (upd_get cut8 (ncM cut8)) (ncM cut8))), rfl, flat_ints _, ?_⟩
        rw [if_pos rfl, inV_ints]
        walk_at "g"
        rw [sel_succ hx]
        by_cases hin : ((j : Nat) : Int) ∈ cut
        · refine ite_f (by rw [decide_eq_true hin]; rfl) ?_
          rw [if_pos hin, List.append_nil]
          exact ⟨k9, hM9⟩
        · refine ite_t (by rw [decide_eq_false hin]; rfl) ?_
          rw [if_neg hin]
          have := sel_len cut lp j
          walk_at "g"
          refine ⟨lk, _, (j : Int), .ref x, rfl, rfl, SqL.of (k9 _ _ (upd_get lk8 (ncM lk8)) (ncM lk8)), at_ofG rfl (by rw [List.getElem?_map, hx]; rfl), ?_⟩
          refine ⟨_, hM9, szl _ (by rw [List.length_map]; omega), KeepP.upd k9, by rw [upd_same, List.map_append]; rfl⟩
      · rintro H9 ⟨k9, hM9⟩
        rw [Int.toNat_natCast, ← elp] at hM9
        have S9 : Same H8 H9 := KeepP.same k9 (Same.new (Same.refl _) hM) hM
        have L9 := L8.same S9
        have L9' := L8'.same S9
        obtain ⟨dx9, g9⟩ := L9.self
        obtain ⟨dx9', g9'⟩ := L9'.self
        refine ⟨li', M, lp', rfl, rfl, SqL.of L9'.links, SqL.of hM9, ?_⟩
        walk_at "g"
        (walk_at "g"; refine ⟨_, C_Layout, _, _, _, rfl, g9', T.cl_Layout, T.na_Layout_hosts, fs_Layout_hosts, ?_⟩; walk_at "g")
        (walk_at "g"; refine ⟨_, C_Layout, _, _, _, rfl, g9, T.cl_Layout, T.na_Layout_hosts, fs_Layout_hosts, ?_⟩; walk_at "g")
        have gh : Dat.good (hs.map fun q => (⟨(q.1, q.2, ())⟩ : Tu (Str × Int × Unit))) := good_hosts fun q hq => O.txt _ (List.mem_append.mpr (.inl (List.mem_map.mpr ⟨q, hq, rfl⟩)))
        have gr : Dat.good rs := fun z hz => O.txt z (List.mem_append.mpr (.inr hz))
        refine neD_of (.lst (SqL.of L9'.hosts) (rp_hosts L9'.host)) (.lst (SqL.of L9.hosts) (rp_hosts L9.host)) gh gh ?_
        walk_at "g"
        refine ite_f (by simp) ?_
        (walk_at "g"; refine ⟨_, C_Layout, _, _, _, rfl, g9', T.cl_Layout, T.na_Layout_routers, fs_Layout_routers, ?_⟩; walk_at "g")
        (walk_at "g"; refine ⟨_, C_Layout, _, _, _, rfl, g9, T.cl_Layout, T.na_Layout_routers, fs_Layout_routers, ?_⟩; walk_at "g")
        refine neD_of (rp_strs (SqL.of L9'.routers)) (rp_strs (SqL.of L9.routers)) gr gr ?_
        walk_at "g"
        refine ite_f (by simp) ?_
        (walk_at "g"; refine ⟨_, C_Layout, _, _, _, rfl, g9', T.cl_Layout, T.na_Layout_routers, fs_Layout_routers, ?_⟩; walk_at "g")
        refine ⟨.inl ⟨rfl, _, SqL.of L9'.routers⟩, ?_⟩
        walk_at "g"
        refine ⟨ro', _, _, rfl, rfl, L9'.routers, szl _ (by rw [List.length_map]; omega), ?_⟩
        have fr5 : ∀ {x : Addr}, H5 x = none → H1 x = none := fun {x} h => S5.free h
        have sA : Same H5 (upd H9 ro' (.lst (rs.map V.str ++ [.str "more"]))) := Same.upd (S58.trans S9) f3
        have LA := L5.same sA
        have nq : q' ≠ ro' := ne_kind g9' L9'.routers (fun z => nomatch z)
        have gA' := upd_get (u := .lst (rs.map V.str ++ [.str "more"])) g9' nq
        have hA' := upd_get (u := .lst (rs.map V.str ++ [.str "more"])) L9'.hosts f5
        generalize upd H9 ro' (.lst (rs.map V.str ++ [.str "more"])) = HA at sA LA gA' hA'
        (walk_at "g"; refine ⟨_, C_Layout, _, _, _, rfl, gA', T.cl_Layout, T.na_Layout_hosts, fs_Layout_hosts, ?_⟩; walk_at "g")
        refine ⟨.inl ⟨rfl, _, SqL.of hA'⟩, ?_⟩
        walk_at "g"
        intro t ht
        have nt : ho' ≠ t := ne_of_none hA' ht
        have lhv := Paired.len L.host
        walk_at "g"
        refine ⟨ho', _, _, rfl, rfl, upd_get hA' nt, szl _ (by omega), ?_⟩
        have sB : Same H5 (upd (upd HA t (.tup [.str "h", .int 9])) ho' (.lst (hv ++ [.ref t]))) := Same.upd (Same.new sA (sA.free ht)) f2
        have LB := L5.same sB
        generalize upd (upd HA t (.tup [.str "h", .int 9])) ho' (.lst (hv ++ [.ref t])) = HB at sB LB
        obtain ⟨dxB, gB⟩ := LB.self
        walk_at "g"
        (walk_at "g"; refine ⟨_, C_Layout, _, _, _, rfl, gB, T.cl_Layout, T.na_Layout_routers, fs_Layout_routers, ?_⟩; walk_at "g")
        refine ⟨ro, _, rfl, .inl (SqL.of LB.routers), rfl, flat_strs _, ?_⟩
        rw [if_neg (by decide), inV_strs]
        walk_at "g"
        refine ite_f (decide_eq_false hmore) ?_
        walk_at "g"
        intro t2 ht2
        have sC : Same H5 (upd HB t2 (.tup [.str "h", .int 9])) := Same.new sB (sB.free ht2)
        have t2c : (upd HB t2 (.tup [.str "h", .int 9])) t2 = some (.tup [.str "h", .int 9]) := upd_same
        have LC := L5.same sC
        generalize upd HB t2 (.tup [.str "h", .int 9]) = HC at sC t2c LC
        obtain ⟨dxC, gC⟩ := LC.self
        (walk_at "g"; refine ⟨_, C_Layout, _, _, _, rfl, gC, T.cl_Layout, T.na_Layout_hosts, fs_Layout_hosts, ?_⟩; walk_at "g")
        have g1 : Dat.good (⟨("h", 9, ())⟩ : Tu (Str × Int × Unit)) := ⟨(by show PyData.strOk "h" = true; decide +kernel), trivial, trivial⟩
        refine ⟨_, _, .tup (SqT.of t2c) (.cons (.str _) (.cons (.int _) .nil)), .lst (SqL.of LC.hosts) (rp_hosts LC.host), dat_shaped (α := Tu (Str × Int × Unit)) g1 (by decide), dat_shaped (α := List (Tu (Str × Int × Unit))) gh (by decide), ?_⟩
        have e : (((hs.map fun q => (⟨(q.1, q.2, ())⟩ : Tu (Str × Int × Unit))).map DatN.toDat.d).any fun z => PyData.eqv z (.tuple [.str "h", .int 9])) = false := by
          rw [List.any_eq_false]
          intro z hz hc
          obtain ⟨w, hw, rfl⟩ := List.mem_map.mp hz
          obtain ⟨q, hq, rfl⟩ := List.mem_map.mp hw
          have := (DatN.toDat.ok (⟨(q.1, q.2, ())⟩ : Tu (Str × Int × Unit)) ⟨("h", 9, ())⟩).mp hc
          have := congrArg (fun (t : Tu (Str × Int × Unit)) => (t.v.1, t.v.2.1)) this
          exact hh9 9 (by rw [← this]; exact hq)
        walk_at "g"
        refine ite_f e ?_
        exact ⟨s1.trans (S5.trans sC), _, _, _, _, _, _, _, rfl⟩
  · rintro σ H1 ⟨s1, v1, v2, v3, v4, v5, v6, v7, rfl⟩
    walk_at "g"
    exact kk _
end
theorem all_mk {l : PySem.W.OpenLaw} {w : World} {K : PySem.W.Frag} {h : Heap} {mg : Str → Option Value} {fa C_Layout C_LayoutLink C_LinkOptions E_InvalidAmount : Addr} (X : K.In h) (G : h.Ns mainGlobals mg) (hfa : mg "law" = some (.ref fa))
    {od_law_cell an_law_cell : Option Addr} {sl_law_cell : Array (Option Value)} {oc_law_cell kV_law_cell dc_law_cell pm_law_cell cd_law_cell ct_law_cell : Value} {f_law_cell : Addr}
    {od_law_start an_law_start : Option Addr} {sl_law_start : Array (Option Value)} {oc_law_start kV_law_start dc_law_start pm_law_start cd_law_start ct_law_start : Value} {f_law_start : Addr}
    {od_law_digit an_law_digit : Option Addr} {sl_law_digit : Array (Option Value)} {oc_law_digit kV_law_digit dc_law_digit pm_law_digit cd_law_digit ct_law_digit : Value} {f_law_digit : Addr}
    {od_LinkOptions___init__ an_LinkOptions___init__ : Option Addr} {sl_LinkOptions___init__ : Array (Option Value)} {oc_LinkOptions___init__ kV_LinkOptions___init__ dc_LinkOptions___init__ pm_LinkOptions___init__ cd_LinkOptions___init__ ct_LinkOptions___init__ : Value} {f_LinkOptions___init__ : Addr}
    {od_LayoutLink___init__ an_LayoutLink___init__ : Option Addr} {sl_LayoutLink___init__ : Array (Option Value)} {oc_LayoutLink___init__ kV_LayoutLink___init__ dc_LayoutLink___init__ pm_LayoutLink___init__ cd_LayoutLink___init__ ct_LayoutLink___init__ : Value} {f_LayoutLink___init__ : Addr}
    {od_Layout___init__ an_Layout___init__ : Option Addr} {sl_Layout___init__ : Array (Option Value)} {oc_Layout___init__ kV_Layout___init__ dc_Layout___init__ pm_Layout___init__ cd_Layout___init__ ct_Layout___init__ : Value} {f_Layout___init__ : Addr}
    {od_Layout_host_names an_Layout_host_names : Option Addr} {sl_Layout_host_names : Array (Option Value)} {oc_Layout_host_names kV_Layout_host_names dc_Layout_host_names pm_Layout_host_names cd_Layout_host_names ct_Layout_host_names : Value} {f_Layout_host_names : Addr}
    {od_Layout_links_of an_Layout_links_of : Option Addr} {sl_Layout_links_of : Array (Option Value)} {oc_Layout_links_of kV_Layout_links_of dc_Layout_links_of pm_Layout_links_of cd_Layout_links_of ct_Layout_links_of : Value} {f_Layout_links_of : Addr}
    {od_neighbours an_neighbours : Option Addr} {sl_neighbours : Array (Option Value)} {oc_neighbours kV_neighbours dc_neighbours pm_neighbours cd_neighbours ct_neighbours : Value} {f_neighbours : Addr}
    {od_law_near an_law_near : Option Addr} {sl_law_near : Array (Option Value)} {oc_law_near kV_law_near dc_law_near pm_law_near cd_law_near ct_law_near : Value} {f_law_near : Addr}
    {od_is_joined an_is_joined : Option Addr} {sl_is_joined : Array (Option Value)} {oc_is_joined kV_is_joined dc_is_joined pm_is_joined cd_is_joined ct_is_joined : Value} {f_is_joined : Addr}
    {od_law_reached an_law_reached : Option Addr} {sl_law_reached : Array (Option Value)} {oc_law_reached kV_law_reached dc_law_reached pm_law_reached cd_law_reached ct_law_reached : Value} {f_law_reached : Addr}
    {od_law_asked an_law_asked : Option Addr} {sl_law_asked : Array (Option Value)} {oc_law_asked kV_law_asked dc_law_asked pm_law_asked cd_law_asked ct_law_asked : Value} {f_law_asked : Addr}
    {od_without_links an_without_links : Option Addr} {sl_without_links : Array (Option Value)} {oc_without_links kV_without_links dc_without_links pm_without_links cd_without_links ct_without_links : Value} {f_without_links : Addr}
    {od_law_layout an_law_layout : Option Addr} {sl_law_layout : Array (Option Value)} {oc_law_layout kV_law_layout dc_law_layout pm_law_layout cd_law_layout ct_law_layout : Value} {f_law_layout : Addr}
    {od_law an_law : Option Addr} {sl_law : Array (Option Value)} {oc_law kV_law dc_law pm_law cd_law ct_law : Value} {f_law : Addr}
    {t_GREATEST : Tok} {t_LEAST_SIZE : Tok} {t_MOST_COST : Tok} {t_MOST_DELAY : Tok} {t_MOST_SIZE : Tok} {t_ROOM : Tok}
    (a_law_cell : PySem.W.nsIn K mainGlobals "_law_cell" = some (some (.ref f_law_cell)))
    (a_law_start : PySem.W.nsIn K mainGlobals "_law_start" = some (some (.ref f_law_start)))
    (a_law_digit : PySem.W.nsIn K mainGlobals "_law_digit" = some (some (.ref f_law_digit)))
    (a_neighbours : PySem.W.nsIn K mainGlobals "neighbours" = some (some (.ref f_neighbours)))
    (a_law_near : PySem.W.nsIn K mainGlobals "_law_near" = some (some (.ref f_law_near)))
    (a_is_joined : PySem.W.nsIn K mainGlobals "is_joined" = some (some (.ref f_is_joined)))
    (a_law_reached : PySem.W.nsIn K mainGlobals "_law_reached" = some (some (.ref f_law_reached)))
    (a_law_asked : PySem.W.nsIn K mainGlobals "_law_asked" = some (some (.ref f_law_asked)))
    (a_without_links : PySem.W.nsIn K mainGlobals "without_links" = some (some (.ref f_without_links)))
    (a_law_layout : PySem.W.nsIn K mainGlobals "_law_layout" = some (some (.ref f_law_layout)))
    (a_law : PySem.W.nsIn K mainGlobals "law" = some (some (.ref f_law)))
    (a_Layout : PySem.W.nsIn K mainGlobals "Layout" = some (some (.ref C_Layout)))
    (a_LayoutLink : PySem.W.nsIn K mainGlobals "LayoutLink" = some (some (.ref C_LayoutLink)))
    (a_LinkOptions : PySem.W.nsIn K mainGlobals "LinkOptions" = some (some (.ref C_LinkOptions)))
    (ge_InvalidAmount : PySem.W.nsIn K mainGlobals "InvalidAmount" = some (some (.ref E_InvalidAmount)))
    (l_law_cell : K.lookup f_law_cell = some ⟨oc_law_cell, od_law_cell, .func (PySem.W.fnOf "_law_cell" "_law_cell" (defArgs s_law_cell) (defBody s_law_cell) (defScope s_law_cell) .none kV_law_cell dc_law_cell pm_law_cell an_law_cell cd_law_cell ct_law_cell), sl_law_cell⟩)
    (c_law_cell : PySem.W.codeIn K cd_law_cell "_law_cell" = true)
    (k_law_cell : PySem.W.keepIn K (.ref f_law_cell) = true)
    (l_law_start : K.lookup f_law_start = some ⟨oc_law_start, od_law_start, .func (PySem.W.fnOf "_law_start" "_law_start" (defArgs s_law_start) (defBody s_law_start) (defScope s_law_start) .none kV_law_start dc_law_start pm_law_start an_law_start cd_law_start ct_law_start), sl_law_start⟩)
    (c_law_start : PySem.W.codeIn K cd_law_start "_law_start" = true)
    (k_law_start : PySem.W.keepIn K (.ref f_law_start) = true)
    (l_law_digit : K.lookup f_law_digit = some ⟨oc_law_digit, od_law_digit, .func (PySem.W.fnOf "_law_digit" "_law_digit" (defArgs s_law_digit) (defBody s_law_digit) (defScope s_law_digit) .none kV_law_digit dc_law_digit pm_law_digit an_law_digit cd_law_digit ct_law_digit), sl_law_digit⟩)
    (c_law_digit : PySem.W.codeIn K cd_law_digit "_law_digit" = true)
    (k_law_digit : PySem.W.keepIn K (.ref f_law_digit) = true)
    (a_LinkOptions___init__ : PySem.W.findIn K (.ref C_LinkOptions) "__init__" = some (some (.ref f_LinkOptions___init__)))
    (i_LinkOptions___init__ : PySem.W.isFn K (.ref f_LinkOptions___init__) = true)
    (l_LinkOptions___init__ : K.lookup f_LinkOptions___init__ = some ⟨oc_LinkOptions___init__, od_LinkOptions___init__, .func (PySem.W.fnOf "__init__" "LinkOptions.__init__" (defArgs s_LinkOptions___init__) (defBody s_LinkOptions___init__) (defScope s_LinkOptions___init__) .none kV_LinkOptions___init__ dc_LinkOptions___init__ pm_LinkOptions___init__ an_LinkOptions___init__ cd_LinkOptions___init__ ct_LinkOptions___init__), sl_LinkOptions___init__⟩)
    (c_LinkOptions___init__ : PySem.W.codeIn K cd_LinkOptions___init__ "LinkOptions.__init__" = true)
    (k_LinkOptions___init__ : PySem.W.keepIn K (.ref f_LinkOptions___init__) = true)
    (a_LayoutLink___init__ : PySem.W.findIn K (.ref C_LayoutLink) "__init__" = some (some (.ref f_LayoutLink___init__)))
    (i_LayoutLink___init__ : PySem.W.isFn K (.ref f_LayoutLink___init__) = true)
    (l_LayoutLink___init__ : K.lookup f_LayoutLink___init__ = some ⟨oc_LayoutLink___init__, od_LayoutLink___init__, .func (PySem.W.fnOf "__init__" "LayoutLink.__init__" (defArgs s_LayoutLink___init__) (defBody s_LayoutLink___init__) (defScope s_LayoutLink___init__) .none kV_LayoutLink___init__ dc_LayoutLink___init__ pm_LayoutLink___init__ an_LayoutLink___init__ cd_LayoutLink___init__ ct_LayoutLink___init__), sl_LayoutLink___init__⟩)
    (c_LayoutLink___init__ : PySem.W.codeIn K cd_LayoutLink___init__ "LayoutLink.__init__" = true)
    (k_LayoutLink___init__ : PySem.W.keepIn K (.ref f_LayoutLink___init__) = true)
    (a_Layout___init__ : PySem.W.findIn K (.ref C_Layout) "__init__" = some (some (.ref f_Layout___init__)))
    (i_Layout___init__ : PySem.W.isFn K (.ref f_Layout___init__) = true)
    (l_Layout___init__ : K.lookup f_Layout___init__ = some ⟨oc_Layout___init__, od_Layout___init__, .func (PySem.W.fnOf "__init__" "Layout.__init__" (defArgs s_Layout___init__) (defBody s_Layout___init__) (defScope s_Layout___init__) .none kV_Layout___init__ dc_Layout___init__ pm_Layout___init__ an_Layout___init__ cd_Layout___init__ ct_Layout___init__), sl_Layout___init__⟩)
    (c_Layout___init__ : PySem.W.codeIn K cd_Layout___init__ "Layout.__init__" = true)
    (k_Layout___init__ : PySem.W.keepIn K (.ref f_Layout___init__) = true)
    (a_Layout_host_names : PySem.W.findIn K (.ref C_Layout) "host_names" = some (some (.ref f_Layout_host_names)))
    (i_Layout_host_names : PySem.W.isFn K (.ref f_Layout_host_names) = true)
    (l_Layout_host_names : K.lookup f_Layout_host_names = some ⟨oc_Layout_host_names, od_Layout_host_names, .func (PySem.W.fnOf "host_names" "Layout.host_names" (defArgs s_Layout_host_names) (defBody s_Layout_host_names) (defScope s_Layout_host_names) .none kV_Layout_host_names dc_Layout_host_names pm_Layout_host_names an_Layout_host_names cd_Layout_host_names ct_Layout_host_names), sl_Layout_host_names⟩)
    (c_Layout_host_names : PySem.W.codeIn K cd_Layout_host_names "Layout.host_names" = true)
    (k_Layout_host_names : PySem.W.keepIn K (.ref f_Layout_host_names) = true)
    (a_Layout_links_of : PySem.W.findIn K (.ref C_Layout) "links_of" = some (some (.ref f_Layout_links_of)))
    (i_Layout_links_of : PySem.W.isFn K (.ref f_Layout_links_of) = true)
    (l_Layout_links_of : K.lookup f_Layout_links_of = some ⟨oc_Layout_links_of, od_Layout_links_of, .func (PySem.W.fnOf "links_of" "Layout.links_of" (defArgs s_Layout_links_of) (defBody s_Layout_links_of) (defScope s_Layout_links_of) .none kV_Layout_links_of dc_Layout_links_of pm_Layout_links_of an_Layout_links_of cd_Layout_links_of ct_Layout_links_of), sl_Layout_links_of⟩)
    (c_Layout_links_of : PySem.W.codeIn K cd_Layout_links_of "Layout.links_of" = true)
    (k_Layout_links_of : PySem.W.keepIn K (.ref f_Layout_links_of) = true)
    (l_neighbours : K.lookup f_neighbours = some ⟨oc_neighbours, od_neighbours, .func (PySem.W.fnOf "neighbours" "neighbours" (defArgs s_neighbours) (defBody s_neighbours) (defScope s_neighbours) .none kV_neighbours dc_neighbours pm_neighbours an_neighbours cd_neighbours ct_neighbours), sl_neighbours⟩)
    (c_neighbours : PySem.W.codeIn K cd_neighbours "neighbours" = true)
    (k_neighbours : PySem.W.keepIn K (.ref f_neighbours) = true)
    (l_law_near : K.lookup f_law_near = some ⟨oc_law_near, od_law_near, .func (PySem.W.fnOf "_law_near" "_law_near" (defArgs s_law_near) (defBody s_law_near) (defScope s_law_near) .none kV_law_near dc_law_near pm_law_near an_law_near cd_law_near ct_law_near), sl_law_near⟩)
    (c_law_near : PySem.W.codeIn K cd_law_near "_law_near" = true)
    (k_law_near : PySem.W.keepIn K (.ref f_law_near) = true)
    (l_is_joined : K.lookup f_is_joined = some ⟨oc_is_joined, od_is_joined, .func (PySem.W.fnOf "is_joined" "is_joined" (defArgs s_is_joined) (defBody s_is_joined) (defScope s_is_joined) .none kV_is_joined dc_is_joined pm_is_joined an_is_joined cd_is_joined ct_is_joined), sl_is_joined⟩)
    (c_is_joined : PySem.W.codeIn K cd_is_joined "is_joined" = true)
    (k_is_joined : PySem.W.keepIn K (.ref f_is_joined) = true)
    (l_law_reached : K.lookup f_law_reached = some ⟨oc_law_reached, od_law_reached, .func (PySem.W.fnOf "_law_reached" "_law_reached" (defArgs s_law_reached) (defBody s_law_reached) (defScope s_law_reached) .none kV_law_reached dc_law_reached pm_law_reached an_law_reached cd_law_reached ct_law_reached), sl_law_reached⟩)
    (c_law_reached : PySem.W.codeIn K cd_law_reached "_law_reached" = true)
    (k_law_reached : PySem.W.keepIn K (.ref f_law_reached) = true)
    (l_law_asked : K.lookup f_law_asked = some ⟨oc_law_asked, od_law_asked, .func (PySem.W.fnOf "_law_asked" "_law_asked" (defArgs s_law_asked) (defBody s_law_asked) (defScope s_law_asked) .none kV_law_asked dc_law_asked pm_law_asked an_law_asked cd_law_asked ct_law_asked), sl_law_asked⟩)
    (c_law_asked : PySem.W.codeIn K cd_law_asked "_law_asked" = true)
    (k_law_asked : PySem.W.keepIn K (.ref f_law_asked) = true)
    (l_without_links : K.lookup f_without_links = some ⟨oc_without_links, od_without_links, .func (PySem.W.fnOf "without_links" "without_links" (defArgs s_without_links) (defBody s_without_links) (defScope s_without_links) .none kV_without_links dc_without_links pm_without_links an_without_links cd_without_links ct_without_links), sl_without_links⟩)
    (c_without_links : PySem.W.codeIn K cd_without_links "without_links" = true)
    (k_without_links : PySem.W.keepIn K (.ref f_without_links) = true)
    (l_law_layout : K.lookup f_law_layout = some ⟨oc_law_layout, od_law_layout, .func (PySem.W.fnOf "_law_layout" "_law_layout" (defArgs s_law_layout) (defBody s_law_layout) (defScope s_law_layout) .none kV_law_layout dc_law_layout pm_law_layout an_law_layout cd_law_layout ct_law_layout), sl_law_layout⟩)
    (c_law_layout : PySem.W.codeIn K cd_law_layout "_law_layout" = true)
    (k_law_layout : PySem.W.keepIn K (.ref f_law_layout) = true)
    (l_law : K.lookup f_law = some ⟨oc_law, od_law, .func (PySem.W.fnOf "law" "law" (defArgs s_law) (defBody s_law) (defScope s_law) .none kV_law dc_law pm_law an_law cd_law ct_law), sl_law⟩)
    (c_law : PySem.W.codeIn K cd_law "law" = true)
    (k_law : PySem.W.keepIn K (.ref f_law) = true)
    (mk_Layout : PySem.W.makesIn K C_Layout = true)
    (kc_Layout : PySem.W.keepIn K (.ref C_Layout) = true)
    (mk_LayoutLink : PySem.W.makesIn K C_LayoutLink = true)
    (kc_LayoutLink : PySem.W.keepIn K (.ref C_LayoutLink) = true)
    (mk_LinkOptions : PySem.W.makesIn K C_LinkOptions = true)
    (kc_LinkOptions : PySem.W.keepIn K (.ref C_LinkOptions) = true)
    (pg_Layout : PySem.W.plainGet K C_Layout Str.empty = true)
    (hd_Layout : PySem.W.hasDictIn K C_Layout = true)
    (po_Layout : PySem.W.plainOver K C_Layout = true)
    (sa_Layout : PySem.W.findIn K (.ref C_Layout) "__setattr__" = some (some (.builtin "object.__setattr__")))
    (pg_LayoutLink : PySem.W.plainGet K C_LayoutLink Str.empty = true)
    (hd_LayoutLink : PySem.W.hasDictIn K C_LayoutLink = true)
    (po_LayoutLink : PySem.W.plainOver K C_LayoutLink = true)
    (sa_LayoutLink : PySem.W.findIn K (.ref C_LayoutLink) "__setattr__" = some (some (.builtin "object.__setattr__")))
    (pg_LinkOptions : PySem.W.plainGet K C_LinkOptions Str.empty = true)
    (hd_LinkOptions : PySem.W.hasDictIn K C_LinkOptions = true)
    (po_LinkOptions : PySem.W.plainOver K C_LinkOptions = true)
    (sa_LinkOptions : PySem.W.findIn K (.ref C_LinkOptions) "__setattr__" = some (some (.builtin "object.__setattr__")))
    (n_Layout_hosts : PySem.W.findIn K (.ref C_Layout) "hosts" = some none)
    (n_Layout_links : PySem.W.findIn K (.ref C_Layout) "links" = some none)
    (n_Layout_routers : PySem.W.findIn K (.ref C_Layout) "routers" = some none)
    (n_LayoutLink_one : PySem.W.findIn K (.ref C_LayoutLink) "one" = some none)
    (n_LayoutLink_options : PySem.W.findIn K (.ref C_LayoutLink) "options" = some none)
    (n_LayoutLink_other : PySem.W.findIn K (.ref C_LayoutLink) "other" = some none)
    (n_LinkOptions_cost : PySem.W.findIn K (.ref C_LinkOptions) "cost" = some none)
    (n_LinkOptions_delay : PySem.W.findIn K (.ref C_LinkOptions) "delay" = some none)
    (n_LinkOptions_depth : PySem.W.findIn K (.ref C_LinkOptions) "depth" = some none)
    (n_LinkOptions_limit : PySem.W.findIn K (.ref C_LinkOptions) "limit" = some none)
    (n_LinkOptions_part_size : PySem.W.findIn K (.ref C_LinkOptions) "part_size" = some none)
    (n_LinkOptions_rate : PySem.W.findIn K (.ref C_LinkOptions) "rate" = some none)
    (z_enumerate : PySem.W.nsIn K mainGlobals "enumerate" = some none)
    (z_int : PySem.W.nsIn K mainGlobals "int" = some none)
    (z_len : PySem.W.nsIn K mainGlobals "len" = some none)
    (z_list : PySem.W.nsIn K mainGlobals "list" = some none)
    (z_min : PySem.W.nsIn K mainGlobals "min" = some none)
    (z_range : PySem.W.nsIn K mainGlobals "range" = some none)
    (z_str : PySem.W.nsIn K mainGlobals "str" = some none)
    (gg_GREATEST : PySem.W.nsIn K mainGlobals "GREATEST" = some (some (.int 1073741824 t_GREATEST)))
    (gg_LEAST_SIZE : PySem.W.nsIn K mainGlobals "LEAST_SIZE" = some (some (.int 16 t_LEAST_SIZE)))
    (gg_MOST_COST : PySem.W.nsIn K mainGlobals "MOST_COST" = some (some (.int 15 t_MOST_COST)))
    (gg_MOST_DELAY : PySem.W.nsIn K mainGlobals "MOST_DELAY" = some (some (.int 1000 t_MOST_DELAY)))
    (gg_MOST_SIZE : PySem.W.nsIn K mainGlobals "MOST_SIZE" = some (some (.int 65535 t_MOST_SIZE)))
    (gg_ROOM : PySem.W.nsIn K mainGlobals "ROOM" = some (some (.int 64 t_ROOM)))
    (xx_InvalidAmount : PySem.W.excIn K E_InvalidAmount [.type "ValueError", .type "Exception", .type "BaseException", .type "object"] "ValueError.__new__" = true)
    (ke_InvalidAmount : PySem.W.keepIn K (.ref E_InvalidAmount) = true)
    (se_InvalidAmount : PySem.W.subIn K (.ref E_InvalidAmount) (.type "BaseException") = some true)
    (te_InvalidAmount : PySem.W.typeIn K (.ref E_InvalidAmount) = some (.type "type"))
    (ie_InvalidAmount : PySem.W.isClsIn K E_InvalidAmount = true)
    (ue_InvalidAmount : PySem.W.subIn K (.ref E_InvalidAmount) (.ref E_InvalidAmount) = some true)
    : ∃ fd : FuncData, (∀ (s : Shared) (v : Value), BindsTo s fd ⟨[v], []⟩ [("script", v)]) ∧ ∀ base : Heap, K.In base → base.Ns mainGlobals mg → FnOk l.prog w K mg base CX0 5 fa fd ["script"] (spLaw K) := by
  have e := hfa.symm.trans (PySem.W.mg_of X G a_law)
  cases e
  have T : Txt K mg C_Layout C_LayoutLink C_LinkOptions E_InvalidAmount := {
    cl_Layout := ⟨pg_Layout, hd_Layout, po_Layout, sa_Layout⟩
    gv_Layout := ⟨_, PySem.W.mg_of X G a_Layout, rfl⟩
    cl_LayoutLink := ⟨pg_LayoutLink, hd_LayoutLink, po_LayoutLink, sa_LayoutLink⟩
    gv_LayoutLink := ⟨_, PySem.W.mg_of X G a_LayoutLink, rfl⟩
    cl_LinkOptions := ⟨pg_LinkOptions, hd_LinkOptions, po_LinkOptions, sa_LinkOptions⟩
    gv_LinkOptions := ⟨_, PySem.W.mg_of X G a_LinkOptions, rfl⟩
    na_Layout_hosts := n_Layout_hosts
    na_Layout_links := n_Layout_links
    na_Layout_routers := n_Layout_routers
    na_LayoutLink_one := n_LayoutLink_one
    na_LayoutLink_options := n_LayoutLink_options
    na_LayoutLink_other := n_LayoutLink_other
    na_LinkOptions_cost := n_LinkOptions_cost
    na_LinkOptions_delay := n_LinkOptions_delay
    na_LinkOptions_depth := n_LinkOptions_depth
    na_LinkOptions_limit := n_LinkOptions_limit
    na_LinkOptions_part_size := n_LinkOptions_part_size
    na_LinkOptions_rate := n_LinkOptions_rate
    b_enumerate := PySem.W.mg_none_of X G z_enumerate
    b_int := PySem.W.mg_none_of X G z_int
    b_len := PySem.W.mg_none_of X G z_len
    b_list := PySem.W.mg_none_of X G z_list
    b_min := PySem.W.mg_none_of X G z_min
    b_range := PySem.W.mg_none_of X G z_range
    b_str := PySem.W.mg_none_of X G z_str
    g_GREATEST := ⟨_, PySem.W.mg_of X G gg_GREATEST, ⟨_, rfl⟩⟩
    g_LEAST_SIZE := ⟨_, PySem.W.mg_of X G gg_LEAST_SIZE, ⟨_, rfl⟩⟩
    g_MOST_COST := ⟨_, PySem.W.mg_of X G gg_MOST_COST, ⟨_, rfl⟩⟩
    g_MOST_DELAY := ⟨_, PySem.W.mg_of X G gg_MOST_DELAY, ⟨_, rfl⟩⟩
    g_MOST_SIZE := ⟨_, PySem.W.mg_of X G gg_MOST_SIZE, ⟨_, rfl⟩⟩
    g_ROOM := ⟨_, PySem.W.mg_of X G gg_ROOM, ⟨_, rfl⟩⟩
    x_InvalidAmount := xx_InvalidAmount
    e_InvalidAmount := PySem.W.mg_of X G ge_InvalidAmount
    k_InvalidAmount := ke_InvalidAmount
    s_InvalidAmount := se_InvalidAmount
    t_InvalidAmount := te_InvalidAmount
    m_InvalidAmount := exm_self se_InvalidAmount ie_InvalidAmount te_InvalidAmount ue_InvalidAmount
  }
  have F_law_cell := fun_mk (st := s_law_cell) l_law_cell c_law_cell k_law_cell
  have b_law_cell := F_law_cell.binds (ps := ["script", "k"]) fun _ _ _ _ _ _ us hl => match us, hl with | [_, _], _ => rfl
  have F_law_start := fun_mk (st := s_law_start) l_law_start c_law_start k_law_start
  have b_law_start := F_law_start.binds (ps := ["cell", "k"]) fun _ _ _ _ _ _ us hl => match us, hl with | [_, _], _ => rfl
  have F_law_digit := fun_mk (st := s_law_digit) l_law_digit c_law_digit k_law_digit
  have b_law_digit := F_law_digit.binds (ps := ["state", "many"]) fun _ _ _ _ _ _ us hl => match us, hl with | [_, _], _ => rfl
  have F_LinkOptions___init__ := fun_mk (st := s_LinkOptions___init__) l_LinkOptions___init__ c_LinkOptions___init__ k_LinkOptions___init__
  have F_LayoutLink___init__ := fun_mk (st := s_LayoutLink___init__) l_LayoutLink___init__ c_LayoutLink___init__ k_LayoutLink___init__
  have b_LayoutLink___init__ := F_LayoutLink___init__.binds (ps := ["self", "first", "second", "options"]) fun _ _ _ _ _ _ us hl => match us, hl with | [_, _, _, _], _ => rfl
  have F_Layout___init__ := fun_mk (st := s_Layout___init__) l_Layout___init__ c_Layout___init__ k_Layout___init__
  have b_Layout___init__ := F_Layout___init__.binds (ps := ["self"]) fun _ _ _ _ _ _ us hl => match us, hl with | [_], _ => rfl
  have F_Layout_host_names := fun_mk (st := s_Layout_host_names) l_Layout_host_names c_Layout_host_names k_Layout_host_names
  have b_Layout_host_names := F_Layout_host_names.binds (ps := ["self"]) fun _ _ _ _ _ _ us hl => match us, hl with | [_], _ => rfl
  have F_Layout_links_of := fun_mk (st := s_Layout_links_of) l_Layout_links_of c_Layout_links_of k_Layout_links_of
  have b_Layout_links_of := F_Layout_links_of.binds (ps := ["self", "name"]) fun _ _ _ _ _ _ us hl => match us, hl with | [_, _], _ => rfl
  have F_neighbours := fun_mk (st := s_neighbours) l_neighbours c_neighbours k_neighbours
  have b_neighbours := F_neighbours.binds (ps := ["layout", "name"]) fun _ _ _ _ _ _ us hl => match us, hl with | [_, _], _ => rfl
  have F_law_near := fun_mk (st := s_law_near) l_law_near c_law_near k_law_near
  have b_law_near := F_law_near.binds (ps := ["layout", "name"]) fun _ _ _ _ _ _ us hl => match us, hl with | [_, _], _ => rfl
  have F_is_joined := fun_mk (st := s_is_joined) l_is_joined c_is_joined k_is_joined
  have b_is_joined := F_is_joined.binds (ps := ["layout", "first", "second"]) fun _ _ _ _ _ _ us hl => match us, hl with | [_, _, _], _ => rfl
  have F_law_reached := fun_mk (st := s_law_reached) l_law_reached c_law_reached k_law_reached
  have b_law_reached := F_law_reached.binds (ps := ["layout", "first"]) fun _ _ _ _ _ _ us hl => match us, hl with | [_, _], _ => rfl
  have F_law_asked := fun_mk (st := s_law_asked) l_law_asked c_law_asked k_law_asked
  have b_law_asked := F_law_asked.binds (ps := ["layout"]) fun _ _ _ _ _ _ us hl => match us, hl with | [_], _ => rfl
  have F_without_links := fun_mk (st := s_without_links) l_without_links c_without_links k_without_links
  have b_without_links := F_without_links.binds (ps := ["layout", "cut"]) fun _ _ _ _ _ _ us hl => match us, hl with | [_, _], _ => rfl
  have F_law_layout := fun_mk (st := s_law_layout) l_law_layout c_law_layout k_law_layout
  have b_law_layout := F_law_layout.binds (ps := ["state"]) fun _ _ _ _ _ _ us hl => match us, hl with | [_], _ => rfl
  have F_law := fun_mk (st := s_law) l_law c_law k_law
  have b_law := F_law.binds (ps := ["script"]) fun _ _ _ _ _ _ us hl => match us, hl with | [_], _ => rfl
  refine ⟨PySem.W.fnOf "law" "law" (defArgs s_law) (defBody s_law) (defScope s_law) .none kV_law dc_law pm_law an_law cd_law ct_law, fun s v => .of_eq rfl, fun base _ _ => ?_⟩
  have d_law_cell : Cl l.prog w K mg base CX0 1 "_law_cell" (spCellT K) := ⟨_, _, _, ok_law_cell F_law_cell T , PySem.W.mg_of X G a_law_cell, k_law_cell, b_law_cell⟩
  have d_law_start : Cl l.prog w K mg base CX0 1 "_law_start" (spStart) := ⟨_, _, _, ok_law_start F_law_start T , PySem.W.mg_of X G a_law_start, k_law_start, b_law_start⟩
  have d_law_digit : Cl l.prog w K mg base CX0 1 "_law_digit" (spDigit) := ⟨_, _, _, ok_law_digit F_law_digit T , PySem.W.mg_of X G a_law_digit, k_law_digit, b_law_digit⟩
  have q_LinkOptions___init__ := ok_LinkOptions___init__ (P := l.prog) (w := w) (base := base) F_LinkOptions___init__ T 
  have d_kw0_LinkOptions___init__ : MaK l.prog w K mg base (L2.CX l.prog w) 1 "LinkOptions" C_LinkOptions 0 ["cost", "size", "rate", "depth", "limit", "delay"] (fun vs zs => o_kw0_LinkOptions___init__ vs [] zs) (spOpt C_LinkOptions) := ⟨_, _, _, fun us ws => o_kw0_LinkOptions___init__ us [] ws, ⟨mk_LinkOptions, a_LinkOptions___init__, i_LinkOptions___init__, kc_LinkOptions⟩, q_LinkOptions___init__, PySem.W.mg_of X G a_LinkOptions, ⟨fun _ us ws _ l1 l2 => .of_eq (match us, ws, l1, l2 with | [_], [_, _, _, _, _, _], _, _ => rfl), fun r1 r2 => o_kw0_LinkOptions___init___rel r1 .nil r2⟩⟩
  have d_LayoutLink___init__ : Ma l.prog w K mg base CX0 1 "LayoutLink" C_LayoutLink (spLk C_LayoutLink) := ⟨_, _, _, ⟨mk_LayoutLink, a_LayoutLink___init__, i_LayoutLink___init__, kc_LayoutLink⟩, ok_LayoutLink___init__ F_LayoutLink___init__ T , PySem.W.mg_of X G a_LayoutLink, b_LayoutLink___init__⟩
  have d_Layout___init__ : Ma l.prog w K mg base CX0 1 "Layout" C_Layout (spLay C_Layout C_LayoutLink) := ⟨_, _, _, ⟨mk_Layout, a_Layout___init__, i_Layout___init__, kc_Layout⟩, ok_Layout___init__ F_Layout___init__ T , PySem.W.mg_of X G a_Layout, b_Layout___init__⟩
  have d_Layout_host_names : Me l.prog w K mg base CX0 1 C_Layout "host_names" (spNames C_Layout C_LayoutLink) := ⟨_, _, _, T.cl_Layout, ⟨a_Layout_host_names, i_Layout_host_names, k_Layout_host_names⟩, ok_Layout_host_names F_Layout_host_names T , b_Layout_host_names⟩
  have d_Layout_links_of : Me l.prog w K mg base CX0 1 C_Layout "links_of" (spLinksOf C_Layout C_LayoutLink) := ⟨_, _, _, T.cl_Layout, ⟨a_Layout_links_of, i_Layout_links_of, k_Layout_links_of⟩, ok_Layout_links_of F_Layout_links_of T , b_Layout_links_of⟩
  have d_neighbours : Cl l.prog w K mg base CX0 2 "neighbours" (spNear C_Layout C_LayoutLink) := ⟨_, _, _, ok_neighbours F_neighbours T d_Layout_links_of, PySem.W.mg_of X G a_neighbours, k_neighbours, b_neighbours⟩
  have d_law_near : Cl l.prog w K mg base CX0 1 "_law_near" (spNear C_Layout C_LayoutLink) := ⟨_, _, _, ok_law_near F_law_near T , PySem.W.mg_of X G a_law_near, k_law_near, b_law_near⟩
  have d_is_joined : Cl l.prog w K mg base CX0 3 "is_joined" (spJoin C_Layout C_LayoutLink) := ⟨_, _, _, ok_is_joined F_is_joined T d_Layout_host_names d_neighbours, PySem.W.mg_of X G a_is_joined, k_is_joined, b_is_joined⟩
  have d_law_reached : Cl l.prog w K mg base CX0 2 "_law_reached" (spReach C_Layout C_LayoutLink) := ⟨_, _, _, ok_law_reached F_law_reached T d_Layout_host_names d_law_near, PySem.W.mg_of X G a_law_reached, k_law_reached, b_law_reached⟩
  have d_law_asked : Cl l.prog w K mg base CX0 4 "_law_asked" (spAsked C_Layout C_LayoutLink) := ⟨_, _, _, ok_law_asked F_law_asked T d_Layout_host_names d_neighbours d_law_near d_law_reached d_is_joined, PySem.W.mg_of X G a_law_asked, k_law_asked, b_law_asked⟩
  have d_without_links : Cl l.prog w K mg base CX0 3 "without_links" (spLess C_Layout C_LayoutLink) := ⟨_, _, _, ok_without_links F_without_links T d_Layout___init__, PySem.W.mg_of X G a_without_links, k_without_links, b_without_links⟩
  have d_law_layout : Cl l.prog w K mg base CX0 3 "_law_layout" (spBuild C_Layout C_LayoutLink) := ⟨_, _, _, ok_law_layout F_law_layout T d_Layout___init__ d_kw0_LinkOptions___init__ d_law_digit d_LayoutLink___init__, PySem.W.mg_of X G a_law_layout, k_law_layout, b_law_layout⟩
  exact ok_law F_law T d_law_start d_law_cell d_law_layout d_law_digit d_without_links d_law_asked
theorem walk {l : PySem.W.OpenLaw} {q : Program} {loose : List Str} {XP : (Str → Option Value) → Heap → Prop} {YP : World → Heap → Prop} {d : DefRec} {K : Params → PySem.W.Frag} (hn : l.most = some 63) (hdf : d.params.defaults = [])
    (hY : ∀ (w : World) (h : Heap), YP w h → (K w.params).In h)
    (F : ∀ (w : World) (mg : Str → Option Value) (fa : Addr) (h : Heap), (K w.params).In h → h.Ns mainGlobals mg → mg d.name = some (.ref fa) →
      ∃ fd : FuncData, (∀ (s : Shared) (u : Value), BindsTo s fd ⟨[u], []⟩ [("script", u)]) ∧ ∀ base : Heap, (K w.params).In base → base.Ns mainGlobals mg → FnOk l.prog w (K w.params) mg base CX0 5 fa fd ["script"] (spLaw (K w.params))) :
    PySem.W.WalkO q loose XP YP l.row.toRowW d [] (fun f vs => PySem.call f vs) :=
  L2.walk_of (n := 63) (k := 5) (x := "script") (CX := fun _ => CX0) (sp := fun w => spLaw (K w.params)) hn (by decide) hdf ⟨rfl, by decide, by decide⟩ hY F (fun w _ a ns hl _ hS => ⟨_, rfl, a, ns, rfl, hS, hl, fun _ => rfl⟩) fun _ _ _ _ _ z => z
end Own
open PySem PySem.W PyProof.Rows in
set_option maxRecDepth 100000 in
set_option maxHeartbeats 0 in
theorem PySem.Challenge.cw_throughway_k95_joined_names_holds : PySem.Challenge.rw_throughway_k95_joined_names.Holds := by
  w_on; o_law; k_head; (case hw => w_witness2)
  k_fill
  refine Own.walk (l := PySem.Challenge.rw_throughway_k95_joined_names) rfl rfl (fun w h Y => PySem.W.kIn_of Y) ?F
  case F =>
    intro w mg fa h KX G hmg
    refine' Own.all_mk KX G hmg ?a_law_cell ?a_law_start ?a_law_digit ?a_neighbours ?a_law_near ?a_is_joined ?a_law_reached ?a_law_asked ?a_without_links ?a_law_layout ?a_law ?a_Layout ?a_LayoutLink ?a_LinkOptions ?ge_InvalidAmount ?l_law_cell ?c_law_cell ?k_law_cell ?l_law_start ?c_law_start ?k_law_start ?l_law_digit ?c_law_digit ?k_law_digit ?a_LinkOptions___init__ ?i_LinkOptions___init__ ?l_LinkOptions___init__ ?c_LinkOptions___init__ ?k_LinkOptions___init__ ?a_LayoutLink___init__ ?i_LayoutLink___init__ ?l_LayoutLink___init__ ?c_LayoutLink___init__ ?k_LayoutLink___init__ ?a_Layout___init__ ?i_Layout___init__ ?l_Layout___init__ ?c_Layout___init__ ?k_Layout___init__ ?a_Layout_host_names ?i_Layout_host_names ?l_Layout_host_names ?c_Layout_host_names ?k_Layout_host_names ?a_Layout_links_of ?i_Layout_links_of ?l_Layout_links_of ?c_Layout_links_of ?k_Layout_links_of ?l_neighbours ?c_neighbours ?k_neighbours ?l_law_near ?c_law_near ?k_law_near ?l_is_joined ?c_is_joined ?k_is_joined ?l_law_reached ?c_law_reached ?k_law_reached ?l_law_asked ?c_law_asked ?k_law_asked ?l_without_links ?c_without_links ?k_without_links ?l_law_layout ?c_law_layout ?k_law_layout ?l_law ?c_law ?k_law ?mk_Layout ?kc_Layout ?mk_LayoutLink ?kc_LayoutLink ?mk_LinkOptions ?kc_LinkOptions ?pg_Layout ?hd_Layout ?po_Layout ?sa_Layout ?pg_LayoutLink ?hd_LayoutLink ?po_LayoutLink ?sa_LayoutLink ?pg_LinkOptions ?hd_LinkOptions ?po_LinkOptions ?sa_LinkOptions ?n_Layout_hosts ?n_Layout_links ?n_Layout_routers ?n_LayoutLink_one ?n_LayoutLink_options ?n_LayoutLink_other ?n_LinkOptions_cost ?n_LinkOptions_delay ?n_LinkOptions_depth ?n_LinkOptions_limit ?n_LinkOptions_part_size ?n_LinkOptions_rate ?z_enumerate ?z_int ?z_len ?z_list ?z_min ?z_range ?z_str ?gg_GREATEST ?gg_LEAST_SIZE ?gg_MOST_COST ?gg_MOST_DELAY ?gg_MOST_SIZE ?gg_ROOM ?xx_InvalidAmount ?ke_InvalidAmount ?se_InvalidAmount ?te_InvalidAmount ?ie_InvalidAmount ?ue_InvalidAmount
    (case a_law_cell => k_is)
    (case a_law_start => k_is)
    (case a_law_digit => k_is)
    (case a_neighbours => k_is)
    (case a_law_near => k_is)
    (case a_is_joined => k_is)
    (case a_law_reached => k_is)
    (case a_law_asked => k_is)
    (case a_without_links => k_is)
    (case a_law_layout => k_is)
    (case a_law => k_is)
    (case a_Layout => k_is)
    (case a_LayoutLink => k_is)
    (case a_LinkOptions => k_is)
    (case ge_InvalidAmount => k_is)
    (case l_law_cell => k_is)
    (case c_law_cell => k_is)
    (case k_law_cell => k_is)
    (case l_law_start => k_is)
    (case c_law_start => k_is)
    (case k_law_start => k_is)
    (case l_law_digit => k_is)
    (case c_law_digit => k_is)
    (case k_law_digit => k_is)
    (case a_LinkOptions___init__ => k_is)
    (case i_LinkOptions___init__ => k_is)
    (case l_LinkOptions___init__ => k_is)
    (case c_LinkOptions___init__ => k_is)
    (case k_LinkOptions___init__ => k_is)
    (case a_LayoutLink___init__ => k_is)
    (case i_LayoutLink___init__ => k_is)
    (case l_LayoutLink___init__ => k_is)
    (case c_LayoutLink___init__ => k_is)
    (case k_LayoutLink___init__ => k_is)
    (case a_Layout___init__ => k_is)
    (case i_Layout___init__ => k_is)
    (case l_Layout___init__ => k_is)
    (case c_Layout___init__ => k_is)
    (case k_Layout___init__ => k_is)
    (case a_Layout_host_names => k_is)
    (case i_Layout_host_names => k_is)
    (case l_Layout_host_names => k_is)
    (case c_Layout_host_names => k_is)
    (case k_Layout_host_names => k_is)
    (case a_Layout_links_of => k_is)
    (case i_Layout_links_of => k_is)
    (case l_Layout_links_of => k_is)
    (case c_Layout_links_of => k_is)
    (case k_Layout_links_of => k_is)
    (case l_neighbours => k_is)
    (case c_neighbours => k_is)
    (case k_neighbours => k_is)
    (case l_law_near => k_is)
    (case c_law_near => k_is)
    (case k_law_near => k_is)
    (case l_is_joined => k_is)
    (case c_is_joined => k_is)
    (case k_is_joined => k_is)
    (case l_law_reached => k_is)
    (case c_law_reached => k_is)
    (case k_law_reached => k_is)
    (case l_law_asked => k_is)
    (case c_law_asked => k_is)
    (case k_law_asked => k_is)
    (case l_without_links => k_is)
    (case c_without_links => k_is)
    (case k_without_links => k_is)
    (case l_law_layout => k_is)
    (case c_law_layout => k_is)
    (case k_law_layout => k_is)
    (case l_law => k_is)
    (case c_law => k_is)
    (case k_law => k_is)
    (case mk_Layout => k_is)
    (case kc_Layout => k_is)
    (case mk_LayoutLink => k_is)
    (case kc_LayoutLink => k_is)
    (case mk_LinkOptions => k_is)
    (case kc_LinkOptions => k_is)
    (case pg_Layout => k_is)
    (case hd_Layout => k_is)
    (case po_Layout => k_is)
    (case sa_Layout => k_is)
    (case pg_LayoutLink => k_is)
    (case hd_LayoutLink => k_is)
    (case po_LayoutLink => k_is)
    (case sa_LayoutLink => k_is)
    (case pg_LinkOptions => k_is)
    (case hd_LinkOptions => k_is)
    (case po_LinkOptions => k_is)
    (case sa_LinkOptions => k_is)
    (case n_Layout_hosts => k_is)
    (case n_Layout_links => k_is)
    (case n_Layout_routers => k_is)
    (case n_LayoutLink_one => k_is)
    (case n_LayoutLink_options => k_is)
    (case n_LayoutLink_other => k_is)
    (case n_LinkOptions_cost => k_is)
    (case n_LinkOptions_delay => k_is)
    (case n_LinkOptions_depth => k_is)
    (case n_LinkOptions_limit => k_is)
    (case n_LinkOptions_part_size => k_is)
    (case n_LinkOptions_rate => k_is)
    (case z_enumerate => k_is)
    (case z_int => k_is)
    (case z_len => k_is)
    (case z_list => k_is)
    (case z_min => k_is)
    (case z_range => k_is)
    (case z_str => k_is)
    (case gg_GREATEST => k_is)
    (case gg_LEAST_SIZE => k_is)
    (case gg_MOST_COST => k_is)
    (case gg_MOST_DELAY => k_is)
    (case gg_MOST_SIZE => k_is)
    (case gg_ROOM => k_is)
    (case xx_InvalidAmount => k_exc)
    (case ke_InvalidAmount => k_is)
    (case se_InvalidAmount => k_is)
    (case te_InvalidAmount => k_is)
    (case ie_InvalidAmount => k_is)
    (case ue_InvalidAmount => k_is)
#print axioms PySem.Challenge.cw_throughway_k95_joined_names_holds
