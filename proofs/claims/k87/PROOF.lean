import PyProof.Rows.All
import Wide.All
import OpenK.AllK
import Wide.FinOn
import HandS.ForMost
import HandS.ForExc
import HandS.Wide
import HandS.IsInst
import HandS.FStr
import HandS.Codes
import HandS.Walk
import HandS.Deep
import HandS.SortInts
import HandS.Replace
import HandS.MakeKwOnly
import HandS.WordsDict
import HandS.More
import HandS.Flow
import HandS.DeepEq
import HandS.OwnEq
import PySem.Challenge.RW_throughway_k87_whole_packets_from_any_pa
set_option Elab.async false
set_option linter.all false
set_option maxRecDepth 100000
set_option maxHeartbeats 4000000
namespace TW
open PySem PySem.Spec PyProof.Rows L2

/-! ### promises by their places -/
def S0 (R : Hp → VK → XK → Prop) : Sp := fun vs H Q E => vs = [] ∧ R H Q E
def S1 (R : V → Hp → VK → XK → Prop) : Sp := fun vs H Q E => ∃ a, vs = [a] ∧ R a H Q E
def S2 (R : V → V → Hp → VK → XK → Prop) : Sp := fun vs H Q E => ∃ a b, vs = [a, b] ∧ R a b H Q E
def S3 (R : V → V → V → Hp → VK → XK → Prop) : Sp := fun vs H Q E => ∃ a b c, vs = [a, b, c] ∧ R a b c H Q E
def S4 (R : V → V → V → V → Hp → VK → XK → Prop) : Sp := fun vs H Q E => ∃ a b c d, vs = [a, b, c, d] ∧ R a b c d H Q E
def S5 (R : V → V → V → V → V → Hp → VK → XK → Prop) : Sp := fun vs H Q E => ∃ a b c d e, vs = [a, b, c, d, e] ∧ R a b c d e H Q E
def S6 (R : V → V → V → V → V → V → Hp → VK → XK → Prop) : Sp := fun vs H Q E => ∃ a b c d e f, vs = [a, b, c, d, e, f] ∧ R a b c d e f H Q E
section
variable {vs : List V} {H : Hp} {Q : VK} {E : XK}
theorem S0.len {R} (h : S0 R vs H Q E) : vs.length = 0 := by obtain ⟨rfl, _⟩ := h; rfl
theorem S1.len {R} (h : S1 R vs H Q E) : vs.length = 1 := by obtain ⟨_, rfl, _⟩ := h; rfl
theorem S2.len {R} (h : S2 R vs H Q E) : vs.length = 2 := by obtain ⟨_, _, rfl, _⟩ := h; rfl
theorem S3.len {R} (h : S3 R vs H Q E) : vs.length = 3 := by obtain ⟨_, _, _, rfl, _⟩ := h; rfl
theorem S4.len {R} (h : S4 R vs H Q E) : vs.length = 4 := by obtain ⟨_, _, _, _, rfl, _⟩ := h; rfl
theorem S5.len {R} (h : S5 R vs H Q E) : vs.length = 5 := by obtain ⟨_, _, _, _, _, rfl, _⟩ := h; rfl
theorem S6.len {R} (h : S6 R vs H Q E) : vs.length = 6 := by obtain ⟨_, _, _, _, _, _, rfl, _⟩ := h; rfl
end

/-! ### what may be called by its name -/
structure Cl (P : Program) (w : World) (K : PySem.W.Frag) (mg : Str → Option Value) (base : Heap) (CX : CXT) (k : Nat) (x : Str) (sp : Sp) : Prop where
  ex : ∃ (f : Addr) (fd : FuncData) (ps : List Str), FnOk P w K mg base CX k f fd ps sp ∧ mg x = some (.ref f) ∧ PySem.W.keepIn K (.ref f) = true ∧ Binds K fd ps []
structure Me (P : Program) (w : World) (K : PySem.W.Frag) (mg : Str → Option Value) (base : Heap) (CX : CXT) (k : Nat) (C : Addr) (m : Str) (sp : Sp) : Prop where
  ex : ∃ (f : Addr) (fd : FuncData) (ps : List Str), Cls K C ∧ Meth K C m f ∧ FnOk P w K mg base CX k f fd ps sp ∧ Binds K fd ps []
structure Ma (P : Program) (w : World) (K : PySem.W.Frag) (mg : Str → Option Value) (base : Heap) (CX : CXT) (k : Nat) (x : Str) (C : Addr) (sp : Sp) : Prop where
  ex : ∃ (f : Addr) (fd : FuncData) (ps : List Str), Mk K C f ∧ FnOk P w K mg base CX k f fd ps sp ∧ mg x = some (.ref C) ∧ Binds K fd ps []
def tClS (sp : Sp) (E : L2.St → XK) (t : TA) : TE := fun σ H Q => t σ H fun vs H1 => sp vs H1 Q (E σ)
section
variable {X : Cx} {CX : CXT} {k j : Nat} {C : Addr} {x m : Str} {sp : Sp} {E : XK} {p pos apos : Pos} {e o : Expr} {es : List Expr} {ta : TE} {t : TA}
/-- f(e, ..) -/
theorem pe_cl (c : Cl X.prog X.w X.K X.mg X.base CX k x sp) (hr : Room j X.A) (hk : k ≤ j) (hx : Passes CX X E) (ha : PA X (e :: es) t) (hg : Gl X x := by rfl)
    (hdb : (x == ("__debug__" : Str)) = false := by decide) (he : starEach (e :: es) X.env = (false, eval e X.env) :: starEach es X.env := by rfl) (hpl : (backTo pos (starEach es X.env)).any (·.1) = false := by rfl) :
    PE X (.Call (.Name x p) (e :: es) [] pos) (tCall sp [] E t) := by
  obtain ⟨f, fd, ps, F, hm, kp, b⟩ := c.ex
  exact pe_call F (hr.mono hk) hg hm kp b .nil hx ha hdb he hpl
/-- f() -/
theorem pe_cl0 (c : Cl X.prog X.w X.K X.mg X.base CX k x sp) (hr : Room j X.A) (hk : k ≤ j) (hx : Passes CX X E) (hg : Gl X x := by rfl)
    (hdb : (x == ("__debug__" : Str)) = false := by decide) : PE X (.Call (.Name x p) [] [] pos) (tCall sp [] E tNil) := by
  obtain ⟨f, fd, ps, F, hm, kp, b⟩ := c.ex
  exact pe_call0 F (hr.mono hk) hg hm kp b .nil hx hdb
/-- f(e, ..) in a try's body -/
theorem pe_cls {W : WX} (c : Cl X.prog X.w X.K X.mg X.base (L2.CX X.prog X.w) k x sp) (hr : Room j X.A) (hk : k ≤ j) (tk : Takes X W) (ha : PA X (e :: es) t) (hg : Gl X x := by rfl)
    (hdb : (x == ("__debug__" : Str)) = false := by decide) (he : starEach (e :: es) X.env = (false, eval e X.env) :: starEach es X.env := by rfl) (hpl : (backTo pos (starEach es X.env)).any (·.1) = false := by rfl) :
    PE X (.Call (.Name x p) (e :: es) [] pos) (tCallS sp (WE W) t) := by
  obtain ⟨f, fd, ps, F, hm, kp, b⟩ := c.ex
  exact pe_callS F (hr.mono hk) hg hm kp b (fun σ => passAt tk σ) ha hdb he hpl
/-- o.m(e, ..) -/
theorem pe_me {pl : Sem Bool} (c : Me X.prog X.w X.K X.mg X.base CX k C m sp) (hr : Room j X.A) (hk : k ≤ j) (hx : Passes CX X E) (he : PE X o ta) (ha : PA X (e :: es) t)
    (hst : starEach (e :: es) X.env = (false, eval e X.env) :: starEach es X.env := by rfl) (hpl : (backTo pos (starEach es X.env)).any (·.1) = false := by rfl)
    (ht : eval (.Call (.Attribute o m apos) (e :: es) [] pos) X.env = (do
      let ov ← eval o X.env
      standAt apos.atName
      let (f, first) ← holding [ov] (getMethod ov m pl)
      callWith pos f first (backTo pos (starEach (e :: es) X.env)) (backToKw pos (keywordEach [] X.env))) := by rfl) :
    PE X (.Call (.Attribute o m apos) (e :: es) [] pos) (tMeth C m sp [] E ta t) := by
  obtain ⟨f, fd, ps, hc, hm, F, b⟩ := c.ex
  exact pe_meth (pl := pl) he hc hm F (hr.mono hk) b .nil hx ha hst hpl ht
theorem pe_me0 {pl : Sem Bool} (c : Me X.prog X.w X.K X.mg X.base CX k C m sp) (hr : Room j X.A) (hk : k ≤ j) (hx : Passes CX X E) (he : PE X o ta)
    (ht : eval (.Call (.Attribute o m apos) [] [] pos) X.env = (do
      let ov ← eval o X.env
      standAt apos.atName
      let (f, first) ← holding [ov] (getMethod ov m pl)
      callWith pos f first (backTo pos (starEach [] X.env)) (backToKw pos (keywordEach [] X.env))) := by rfl) :
    PE X (.Call (.Attribute o m apos) [] [] pos) (tMeth C m sp [] E ta tNil) := by
  obtain ⟨f, fd, ps, hc, hm, F, b⟩ := c.ex
  exact pe_meth0 (pl := pl) he hc hm F (hr.mono hk) b .nil hx ht
/-- C(e, ..) -/
theorem pe_ma (c : Ma X.prog X.w X.K X.mg X.base CX k x C sp) (hr : Room j X.A) (hk : k + 1 ≤ j) (hx : Passes CX X E) (ha : PA X (e :: es) t) (hg : Gl X x := by rfl)
    (hdb : (x == ("__debug__" : Str)) = false := by decide) (he : starEach (e :: es) X.env = (false, eval e X.env) :: starEach es X.env := by rfl) (hpl : (backTo pos (starEach es X.env)).any (·.1) = false := by rfl) :
    PE X (.Call (.Name x p) (e :: es) [] pos) (tMake C sp [] E t) := by
  obtain ⟨f, fd, ps, M, F, hm, b⟩ := c.ex
  exact pe_make M F (hr.mono hk) hg hm b .nil hx ha hdb he hpl
theorem pe_ma0 (c : Ma X.prog X.w X.K X.mg X.base CX k x C sp) (hr : Room j X.A) (hk : k + 1 ≤ j) (hx : Passes CX X E) (hg : Gl X x := by rfl)
    (hdb : (x == ("__debug__" : Str)) = false := by decide) : PE X (.Call (.Name x p) [] [] pos) (tMake C sp [] E tNil) := by
  obtain ⟨f, fd, ps, M, F, hm, b⟩ := c.ex
  exact pe_make0 M F (hr.mono hk) hg hm b .nil hx hdb
end
/-- a name of the module, by its value -/
theorem pe_gc {X : Cx} {x : Str} {pos : Pos} {v : V} (hg : Gl X x) (h : ∃ u, X.mg x = some u ∧ RelV v u) (hd : (x == ("__debug__" : Str)) = false := by decide) : PE X (.Name x pos) (tC v) := by
  obtain ⟨u, hm, r⟩ := h
  exact pe_glob hg hm r hd

/-- a call of what may raise, where it does not -/
theorem passF {X : Cx} : Passes (L2.CX X.prog X.w) X (fun _ _ _ => False) := fun _ _ _ _ _ _ _ h => by
  obtain ⟨_, _, _, _, _, _, _, _, _, _, _, _, z⟩ := h
  exact z.elim
/-- a class that is called with keywords -/
structure MaK (P : Program) (w : World) (K : PySem.W.Frag) (mg : Str → Option Value) (base : Heap) (CX : CXT) (k : Nat) (x : Str) (C : Addr) (n : Nat) (ks : List Str) (gV : List V → List V → List V) (sp : Sp) : Prop where
  ex : ∃ (f : Addr) (fd : FuncData) (ps : List Str) (g : List Value → List Value → List Value), Mk K C f ∧ FnOk P w K mg base CX k f fd ps sp ∧ mg x = some (.ref C) ∧ KBn K fd ps (n + 1) ks g gV
section
variable {X : Cx} {CX : CXT} {k j n : Nat} {C : Addr} {x : Str} {ks : List Str} {gV : List V → List V → List V} {sp : Sp} {E : XK} {p pos : Pos} {e : Expr} {es : List Expr} {kws : List Keyword} {t tk : TA}
/-- C(e, .., k = v, ..) -/
theorem pe_mak (c : MaK X.prog X.w X.K X.mg X.base CX k x C n ks gV sp) (hr : Room j X.A) (hk : k + 1 ≤ j) (hx : Passes CX X E) (ha : PA X (e :: es) t) (hkw : PK X kws tk) (hg : Gl X x := by rfl)
    (hall : (backToKw pos (keywordEach kws X.env)).all (·.1.isSome) = true := by rfl) (hks : (backToKw pos (keywordEach kws X.env)).filterMap (·.1) = ks := by rfl) (hdb : (x == ("__debug__" : Str)) = false := by decide)
    (he : starEach (e :: es) X.env = (false, eval e X.env) :: starEach es X.env := by rfl) (hpl : ((backTo pos (starEach (e :: es) X.env)).any (·.1) || (backToKw pos (keywordEach kws X.env)).any (·.1.isNone)) = false := by rfl) :
    PE X (.Call (.Name x p) (e :: es) kws pos) (tMakeK C n ks.length sp gV E t tk) := by
  obtain ⟨f, fd, ps, g, M, F, hm, b⟩ := c.ex
  exact pe_makeK M F (hr.mono hk) hg hm b hx ha hkw hall hks hdb he hpl
theorem pe_mak0 (c : MaK X.prog X.w X.K X.mg X.base CX k x C 0 ks gV sp) (hr : Room j X.A) (hk : k + 1 ≤ j) (hx : Passes CX X E) (hkw : PK X kws tk) (hg : Gl X x := by rfl)
    (hall : (backToKw pos (keywordEach kws X.env)).all (·.1.isSome) = true := by rfl) (hks : (backToKw pos (keywordEach kws X.env)).filterMap (·.1) = ks := by rfl) (hdb : (x == ("__debug__" : Str)) = false := by decide)
    (hpl : ((backTo pos (starEach [] X.env)).any (·.1) || (backToKw pos (keywordEach kws X.env)).any (·.1.isNone)) = false := by rfl) :
    PE X (.Call (.Name x p) [] kws pos) (tMakeK C 0 ks.length sp gV E tNil tk) := by
  obtain ⟨f, fd, ps, g, M, F, hm, b⟩ := c.ex
  exact pe_makeK0 M F (hr.mono hk) hg hm b hx hkw hall hks hdb hpl
end

/-! ### heaps: all but some stands -/
def Keep (S : Addr → Prop) (H H' : Hp) : Prop := ∀ a o, H a = some o → ¬ S a → H' a = some o
section
variable {S S' : Addr → Prop} {H H1 H2 : Hp} {p : Addr} {o : HO}
theorem Keep.refl : Keep S H H := fun _ _ h _ => h
theorem Keep.trans (a : Keep S H H1) (b : Keep S H1 H2) : Keep S H H2 := fun x o h n => b x o (a x o h n) n
theorem Keep.mono (a : Keep S H H1) (h : ∀ x, S x → S' x) : Keep S' H H1 := fun x o e n => a x o e fun s => n (h x s)
theorem Keep.of (a : Same H H1) : Keep S H H1 := fun x o e _ => a x o e
theorem Keep.same (a : Keep (fun _ => False) H H1) : Same H H1 := fun x o e => a x o e id
theorem Keep.upd (a : Keep S H H1) (h : S p) : Keep S H (L2.upd H1 p o) := fun x u e n => by
  have z : x ≠ p := fun z => n (by rw [z]; exact h)
  rw [upd_ne z]
  exact a x u e n
theorem Keep.new (a : Keep S H H1) (h : H p = none) : Keep S H (L2.upd H1 p o) := fun x u e n => by
  rw [upd_ne (fun z => by rw [z, h] at e; cases e)]
  exact a x u e n
theorem Same.new (a : Same H H1) (h : H p = none) : Same H (L2.upd H1 p o) := fun x u e => by
  rw [upd_ne (fun z => by rw [z, h] at e; cases e)]
  exact a x u e
theorem Keep.free (a : Keep S H H1) (h : H1 p = none) (n : ¬ S p) : H p = none := by
  cases e : H p with
  | none => rfl
  | some u => rw [a p u e n] at h; cases h
end

theorem Keep.grow {S T : Addr → Prop} {H H1 H2 : Hp} (a : Keep S H H1) (b : Keep T H1 H2) (h : ∀ x, T x → S x ∨ H x = none) : Keep S H H2 := fun x o e n => b x o (a x o e n) fun t => (h x t).elim n fun z => by
  rw [z] at e
  cases e

/-! ### attributes -/
theorem lk_eq {x : Str} {v : V} {l : List (Str × V)} : List.lookup x ((x, v) :: l) = some v := by simp [List.lookup]
theorem lk_ne {x y : Str} {v : V} {l : List (Str × V)} (h : (x == y) = false) : List.lookup x ((y, v) :: l) = List.lookup x l := by simp [List.lookup, h]
theorem put_nil {x : Str} {v : V} : putF x v [] = [(x, v)] := rfl
theorem put_eq {x : Str} {u v : V} {l : List (Str × V)} : putF x v ((x, u) :: l) = (x, v) :: l := by
  show (if x = x then _ else _) = _
  rw [if_pos rfl]
theorem put_ne {x y : Str} {u v : V} {l : List (Str × V)} (h : (y == x) = false) : putF x v ((y, u) :: l) = (y, u) :: putF x v l := by
  show (if y = x then _ else _) = _
  rw [if_neg (by simpa using h)]
/-- an error of the class at S is what «except S» names -/
theorem exm_self {K : PySem.W.Frag} {S : Addr} (h1 : PySem.W.subIn K (.ref S) (.type "BaseException") = some true) (h2 : PySem.W.isClsIn K S = true) (h3 : PySem.W.typeIn K (.ref S) = some (.type "type")) (h4 : PySem.W.subIn K (.ref S) (.ref S) = some true) :
    PySem.W.exmOne K (.ref S) (.ref S) = some true := by
  have e1 : (PySem.W.subIn K (.ref S) (.type "BaseException") == some true) = true := by rw [h1] <;> rfl
  have e2 : ((PySem.W.clsIn K S).isSome && PySem.W.typeIn K (.ref S) == some (.type "type")) = true := by
    have h2' : (PySem.W.clsIn K S).isSome = true := h2
    rw [h2', h3] <;> rfl
  show (if (PySem.W.subIn K (.ref S) (.type "BaseException") == some true) = true then (if ((PySem.W.clsIn K S).isSome && PySem.W.typeIn K (.ref S) == some (.type "type")) = true then PySem.W.subIn K (.ref S) (.ref S) else none) else none) = some true
  rw [if_pos e1, if_pos e2]
  exact h4
theorem huD {A : Around} {k : Nat} (hr : Room k A) : A.units + 65 < cLine := by have := hr.un; omega
theorem ite_t {c : Bool} {A B : Prop} (hc : c = true) (h : A) : if c = true then A else B := by
  rw [if_pos hc]
  exact h
theorem ite_f {c : Bool} {A B : Prop} (hc : c = false) (h : B) : if c = true then A else B := by
  rw [hc, if_neg Bool.false_ne_true]
  exact h
theorem int_item {ns : List Int} {i : Nat} {v : V} (h : (ns.map V.int)[i]? = some v) : ∃ z, ns[i]? = some z ∧ v = .int z := by
  rw [List.getElem?_map] at h
  cases e : ns[i]? with
  | none => rw [e] at h; cases h
  | some z => rw [e] at h; exact ⟨z, rfl, (Option.some.inj h).symm⟩
theorem sz (n : Nat) (h : n ≤ 1000000) : n ≤ sizeLine := by rw [sizeLine_eq]; omega
theorem szl (n : Nat) (h : n ≤ 1000000) : n < sizeLine := by rw [sizeLine_eq]; omega

/-! ### one object may change -/
abbrev KeepP (p : Addr) : Hp → Hp → Prop := Keep fun z => z = p
section
variable {H H1 H2 : Hp} {p q : Addr} {o : HO}
theorem KeepP.upd (a : KeepP p H H1) : KeepP p H (L2.upd H1 p o) := Keep.upd a rfl
theorem KeepP.refl : KeepP p H H := Keep.refl
theorem KeepP.get (a : KeepP p H H1) {u : HO} (h : H q = some u) (n : q ≠ p) : H1 q = some u := a q u h n
theorem Same.keepP (a : Same H H1) : KeepP p H H1 := Keep.of a
/-- what was not there may change -/
theorem KeepP.same (a : KeepP p H1 H2) (s : Same H H1) (h : H p = none) : Same H H2 := fun x o e => a x o (s x o e) (ne_of_none e h)
end

/-- a new instance and what its making changed -/
theorem KeepP.made {H H2 : Hp} {x dx : Addr} {u v : HO} (hx : H x = none) (hd : H dx = none) (k : KeepP x (L2.upd (L2.upd H dx u) x v) H2) : Same H H2 :=
  KeepP.same k (Same.new (Same.new (fun _ _ h => h) hd) hx) hx

theorem upd_get {H : Hp} {a p : Addr} {o u : HO} (h : H a = some o) (n : a ≠ p) : L2.upd H p u a = some o := by rw [upd_ne n]; exact h
theorem upd_none {H : Hp} {q p : Addr} {u : HO} (h : L2.upd H p u q = none) : q ≠ p ∧ H q = none := by
  have n : q ≠ p := fun e => by rw [e, upd_same] at h; cases h
  rw [upd_ne n] at h
  exact ⟨n, h⟩
theorem ne_kind {H : Hp} {a b : Addr} {x y : HO} (h1 : H a = some x) (h2 : H b = some y) (n : x ≠ y) : a ≠ b := fun e => by
  rw [e, h2] at h1
  exact n (Option.some.inj h1).symm

theorem Same.ne {H H' : Hp} {q r : Addr} {u : HO} (s : Same H H') (h : H r = some u) (hq : H' q = none) : q ≠ r := fun e => by
  rw [e, s _ _ h] at hq
  cases hq
/-- a new object of its own that is written to -/
theorem Same.upd {H H' : Hp} {r : Addr} {u : HO} (s : Same H H') (h : H r = none) : Same H (L2.upd H' r u) := fun x o e => by
  rw [upd_ne (ne_of_none e h)]
  exact s x o e

/-- the first attribute's name -/
def hdO : HO → Option Str
  | .ins _ _ fs => fs.head?.map Prod.fst
  | _ => none
/-- two instances whose first attributes have other names -/
theorem ne_ins {H : Hp} {a b : Addr} {x y : HO} {m n : Str} (h1 : H a = some x) (h2 : H b = some y) (e1 : hdO x = some m) (e2 : hdO y = some n) (ne : (m == n) = false) : a ≠ b := fun e => by
  rw [e, h2] at h1
  cases h1
  rw [e1] at e2
  cases e2
  simp at ne

/-! ### the draws of the laws -/
theorem start_step {n m : Int} {i : Nat} (hn : n.natAbs < 2 ^ (100 * i + 1)) (h0 : 0 ≤ m) (h1 : m < 618970019642690137449562111) : (n * 618970019642690137449562111 + m).natAbs < 2 ^ (100 * (i + 1) + 1) := by
  have a1 := Int.natAbs_add_le (n * 618970019642690137449562111) m
  rw [Int.natAbs_mul] at a1
  have e : (2 : Nat) ^ (100 * (i + 1) + 1) = 2 ^ (100 * i + 1) * 2 ^ 100 := by rw [← Nat.pow_add]; congr 1
  rw [e]
  have p : 1 ≤ 2 ^ (100 * i + 1) := Nat.one_le_two_pow
  generalize 2 ^ (100 * i + 1) = B at hn p
  have b : n.natAbs * 618970019642690137449562111 ≤ B * 618970019642690137449562111 := Nat.mul_le_mul_right _ (Nat.le_of_lt hn)
  have c : m.natAbs < 618970019642690137449562111 := by omega
  have d : (618970019642690137449562111 : Int).natAbs = 618970019642690137449562111 := rfl
  rw [d] at a1
  omega
theorem start_bits {n : Int} {i : Nat} (hn : n.natAbs < 2 ^ (100 * i + 1)) (hi : i < 4) : n.natAbs < 2 ^ 401 := Nat.lt_of_lt_of_le hn (Nat.pow_le_pow_right (by decide) (by omega))
def spCellT (K : PySem.W.Frag) : Sp := S2 fun a b H Q _ => ∃ (p : Addr) (ns : List Int) (k : Int), a = .ref p ∧ b = .int k ∧ SqL K H p (ns.map V.int) ∧ 0 ≤ k ∧ ∀ z, Q (.int z) H
def spStart : Sp := S2 fun a b H Q _ => ∃ (c k : Int), a = .int c ∧ b = .int k ∧ 0 ≤ k ∧ k ≤ 100000 ∧ ∀ p n H', H p = none → Same H H' → H' p = some (.lst [.int n]) → Q (.ref p) H'
def spDigit : Sp := S2 fun a b H Q _ => ∃ (p : Addr) (n m : Int) (H0 : Hp), a = .ref p ∧ b = .int m ∧ H p = some (.lst [.int n]) ∧ 0 < m ∧ m < 1073741824 ∧ KeepP p H0 H ∧
  ∀ d n' H', KeepP p H0 H' → H' p = some (.lst [.int n']) → 0 ≤ d → d < m → Q (.int d) H'
def spanN (n : Nat) : Int := 2 ^ (16 - n)
def spanTab : List V := [.int 65536, .int 32768, .int 16384, .int 8192, .int 4096, .int 2048, .int 1024, .int 512, .int 256, .int 128, .int 64, .int 32, .int 16, .int 8, .int 4, .int 2, .int 1]
theorem spanTab_at : ∀ n : Nat, n < 17 → spanTab[n]? = some (.int (spanN n)) := by decide +kernel
theorem spanTab_at' {n : Nat} (h : n ≤ 16) : spanTab[n]? = some (.int (spanN n)) := spanTab_at n (by omega)
theorem span_pos (n : Nat) : 0 < spanN n := by unfold spanN; exact Int.pow_pos (by decide)
theorem span_le : ∀ n : Nat, n < 17 → spanN n ≤ 65536 := by decide +kernel
theorem span_le' {n : Nat} (h : n ≤ 16) : spanN n ≤ 65536 := span_le n (by omega)
def spSpan : Sp := S1 fun a H Q _ => ∃ n : Nat, a = .int n ∧ n ≤ 16 ∧ ∀ H', Same H H' → Q (.int (spanN n)) H'

/-! ### tests told by their answer -/
theorem at_ofG {α : Type} {xs : List α} {z : Int} {j : Nat} {v : α} (e : z = (j : Int)) (h : xs[j]? = some v) : atI xs z = some v := by
  rw [e]; exact atI_nat h
/-- the test answers b; what was tracked stands -/
def Tst (t : TT) (σ : L2.St) (H : Hp) (b : Bool) : Prop := ∀ Q : Bool → Hp → Prop, (∀ H', Same H H' → Q b H') → t σ H Q
section
variable {c u : TT} {t1 t2 : TS} {D : Ends} {σ : L2.St} {H : Hp}
theorem if_tst {b : Bool} (h : Tst c σ H b) (h1 : b = true → ∀ H', Same H H' → t1 D σ H') (h2 : b = false → ∀ H', Same H H' → t2 D σ H') : tIfS c t1 t2 D σ H :=
  h _ fun H' s => by
    cases b with
    | true => exact h1 rfl H' s
    | false => exact h2 rfl H' s
theorem if_tstP {p : Prop} [Decidable p] (h : Tst c σ H (decide p)) (h1 : p → ∀ H', Same H H' → t1 D σ H') (h2 : ¬ p → ∀ H', Same H H' → t2 D σ H') : tIfS c t1 t2 D σ H :=
  if_tst h (fun e => h1 (of_decide_eq_true e)) fun e => h2 (of_decide_eq_false e)
end

/-- a number below 2 ^ 60 has a short text -/
theorem num_bits {n : Nat} (h : n < 2 ^ 60) : ((n : Nat) : Int).natAbs.log2 < 1920 := by
  rw [Int.natAbs_natCast]
  exact Nat.lt_of_lt_of_le (PySem.Flt.log2_lt_of (k := 60) (by decide) h) (by decide)
theorem num_len {n k : Nat} (hk : 0 < k) (h : n < 10 ^ k) : (Str.ofString (toString ((n : Nat) : Int))).length ≤ k := by
  rw [TL.len_tl, TL.tl_num]
  exact TL.numL_len hk h

theorem str_app (a b : Str) : (a ++ b).length = a.length + b.length := by rw [TL.len_tl, TL.tl_append, List.length_append, ← TL.len_tl, ← TL.len_tl]
theorem sign_at {z : Str} {d : Int} (h0 : 0 ≤ d) (h1 : d < z.length) : ∃ c, atI z.cps.toList d = some c := by
  have h : d.toNat < z.cps.toList.length := by
    have : z.cps.toList.length = z.length := by simp [Str.length]
    omega
  refine ⟨_, at_ofG (j := d.toNat) (by omega) (List.getElem?_eq_getElem h)⟩
theorem emod_le_self {a b : Int} (h : 0 ≤ a) (hb : 0 < b) : a % b ≤ a := by
  have h1 := Int.mul_nonneg (Int.le_of_lt hb) (Int.ediv_nonneg h (Int.le_of_lt hb))
  have h2 := Int.emod_add_mul_ediv a b
  omega
def spLaw (K : PySem.W.Frag) : Sp := S1 fun v H Q _ => ∃ (a : Addr) (ns : List Int), v = .ref a ∧ SqL K H a (ns.map V.int) ∧ ns.length ≤ 63 ∧ ∀ H', Q (.bl true) H'
/-! ### data: values that == compares by their content -/
class Dat (α : Type) where
  d : α → PyData
  good : α → Prop
  dep : Nat
  ok : ∀ a b, PyData.eqv (d a) (d b) = true ↔ a = b
  can : ∀ a, good a → (d a).canLay0 = true ∧ (d a).depth ≤ dep
class DatN (α : Type) extends Dat α where
  nl : ∀ a, PyData.eqv .none (d a) = false
  nr : ∀ a, PyData.eqv (d a) .none = false
instance : DatN Int where
  d := .int
  good _ := True
  dep := 0
  ok a b := by simp [PyData.eqv]
  can a _ := by simp [PyData.canLay0, PyData.depth]
  nl a := by simp [PyData.eqv]
  nr a := by simp [PyData.eqv]
instance : DatN Bool where
  d := .bool
  good _ := True
  dep := 0
  ok a b := by simp [PyData.eqv]
  can a _ := by simp [PyData.canLay0, PyData.depth]
  nl a := by simp [PyData.eqv]
  nr a := by simp [PyData.eqv]
instance : DatN Str where
  d := .str
  good x := PyData.strOk x = true
  dep := 0
  ok a b := by simp [PyData.eqv]
  can a h := by simp [PyData.canLay0, PyData.depth, h]
  nl a := by simp [PyData.eqv]
  nr a := by simp [PyData.eqv]
instance {α : Type} [i : DatN α] : Dat (Option α) where
  d
    | none => .none
    | some a => i.d a
  good
    | none => True
    | some a => i.good a
  dep := i.dep
  ok a b := by
    cases a with
    | none => cases b with
      | none => simp [PyData.eqv]
      | some b => simp [i.nl b]
    | some a => cases b with
      | none => simp [i.nr a]
      | some b => simp [i.ok a b]
  can a h := by
    cases a with
    | none => simp [PyData.canLay0, PyData.depth]
    | some a => exact i.can a h
theorem eqvAll_map {α : Type} [i : Dat α] : ∀ a b : List α, PyData.eqvAll (a.map i.d) (b.map i.d) = true ↔ a = b
  | [], [] => by simp [PyData.eqvAll]
  | [], _ :: _ => by simp [PyData.eqvAll]
  | _ :: _, [] => by simp [PyData.eqvAll]
  | x :: a, y :: b => by simp [PyData.eqvAll, i.ok x y, eqvAll_map a b]
theorem canAll_map {α : Type} [i : Dat α] : ∀ a : List α, (∀ x ∈ a, i.good x) → PyData.canLayAll0 (a.map i.d) = true ∧ PyData.depthAll (a.map i.d) ≤ i.dep
  | [], _ => by simp [PyData.canLayAll0, PyData.depthAll]
  | x :: a, h => by
    have h1 := i.can x (h x (by simp))
    have h2 := canAll_map a fun y hy => h y (by simp [hy])
    simp only [List.map_cons, PyData.canLayAll0, PyData.depthAll, h1.1, h2.1, Bool.and_self, true_and]
    omega
instance {α : Type} [i : Dat α] : DatN (List α) where
  d a := .list (a.map i.d)
  good a := ∀ x ∈ a, i.good x
  dep := i.dep + 1
  ok a b := by simp [PyData.eqv, eqvAll_map]
  can a h := by
    have q := canAll_map a h
    simp only [PyData.canLay0, PyData.depth, q.1, true_and]
    omega
  nl a := by simp [PyData.eqv]
  nr a := by simp [PyData.eqv]
/-- the places of a tuple -/
class Row (α : Type) where
  ds : α → List PyData
  good : α → Prop
  dep : Nat
  ok : ∀ a b, PyData.eqvAll (ds a) (ds b) = true ↔ a = b
  can : ∀ a, good a → PyData.canLayAll0 (ds a) = true ∧ PyData.depthAll (ds a) ≤ dep
instance : Row Unit where
  ds _ := []
  good _ := True
  dep := 0
  ok a b := by simp [PyData.eqvAll]
  can a _ := by simp [PyData.canLayAll0, PyData.depthAll]
instance {α β : Type} [i : Dat α] [j : Row β] : Row (α × β) where
  ds a := i.d a.1 :: j.ds a.2
  good a := i.good a.1 ∧ j.good a.2
  dep := max i.dep j.dep
  ok a b := by simp [PyData.eqvAll, i.ok, j.ok, Prod.ext_iff]
  can a h := by
    have h1 := i.can a.1 h.1
    have h2 := j.can a.2 h.2
    simp only [PyData.canLayAll0, PyData.depthAll, h1.1, h2.1, Bool.and_self, true_and]
    omega
/-- a tuple of these places -/
structure Tu (α : Type) where
  v : α
deriving DecidableEq
instance {α : Type} [i : Row α] : DatN (Tu α) where
  d a := .tuple (i.ds a.v)
  good a := i.good a.v
  dep := i.dep + 1
  ok a b := by
    obtain ⟨a⟩ := a
    obtain ⟨b⟩ := b
    simp [PyData.eqv, i.ok]
  can a h := by
    have q := i.can a.v h
    simp only [PyData.canLay0, PyData.depth, q.1, true_and]
    omega
  nl a := by simp [PyData.eqv]
  nr a := by simp [PyData.eqv]
theorem dat_shaped {α : Type} [i : Dat α] {a : α} (g : i.good a) (hd : i.dep ≤ 64) : SeqAt.shaped (i.d a) = true := by
  have q := i.can a g
  unfold SeqAt.shaped
  rw [q.1, Bool.true_and, decide_eq_true_eq]
  omega
theorem dat_eqv {α : Type} [i : Dat α] [DecidableEq α] (a b : α) : PyData.eqv (i.d a) (i.d b) = decide (a = b) := by
  have q := i.ok a b
  by_cases h : a = b
  · rw [decide_eq_true h]; exact q.mpr h
  · rw [decide_eq_false h]
    exact Bool.eq_false_iff.mpr fun z => h (q.mp z)
/-- the value is this datum -/
abbrev Rp (K : PySem.W.Frag) (H : Hp) {α : Type} [i : Dat α] (v : V) (a : α) : Prop := Dp K H v (i.d a)
section
variable {K : PySem.W.Frag} {H : Hp} {α : Type} [i : Dat α] [DecidableEq α] {a b : α} {x y : V} {Q : VK}
theorem eqD_of (ha : Rp K H x a) (hb : Rp K H y b) (ga : i.good a) (gb : i.good b) (q : Q (.bl (decide (a = b))) H) (hd : i.dep ≤ 64 := by decide) : rEqD K x y H Q :=
  ⟨_, _, ha, hb, dat_shaped ga hd, dat_shaped gb hd, by rw [dat_eqv]; exact q⟩
theorem neD_of (ha : Rp K H x a) (hb : Rp K H y b) (ga : i.good a) (gb : i.good b) (q : Q (.bl (!decide (a = b))) H) (hd : i.dep ≤ 64 := by decide) : rNeD K x y H Q :=
  ⟨_, _, ha, hb, dat_shaped ga hd, dat_shaped gb hd, by rw [dat_eqv]; exact q⟩
end
theorem dpAll_map {K : PySem.W.Frag} {H : Hp} {α : Type} [i : Dat α] : ∀ {vs : List V} {as : List α}, Paired (fun v a => Rp K H v a) vs as → DpAll K H vs (as.map i.d)
  | _, _, .nil => .nil
  | _, _, .cons h r => .cons h (dpAll_map r)
theorem dpAll_ints {K : PySem.W.Frag} {H : Hp} : ∀ ns : List Int, DpAll K H (ns.map V.int) (ns.map (DatN.toDat (α := Int)).d)
  | [] => .nil
  | n :: ns => .cons (.int n) (dpAll_ints ns)
theorem rp_ints {K : PySem.W.Frag} {H : Hp} {p : Addr} {ns : List Int} (h : SqL K H p (ns.map V.int)) : Rp K H (.ref p) ns := .lst h (dpAll_ints ns)
theorem good_ints (ns : List Int) : Dat.good ns := fun _ _ => trivial
theorem rgC_size {len L : Nat} (h : 1 ≤ L) : Builtin.Range.rangeSize 0 (len : Nat) (L : Nat) = (((len + (L - 1)) / L : Nat) : Int) := by
  unfold Builtin.Range.rangeSize
  rw [if_pos (by omega)]
  by_cases h0 : len = 0
  · subst h0
    rw [if_neg (by omega), Nat.div_eq_of_lt (by omega)]; rfl
  · rw [if_pos (by omega)]
    have e : ((len : Nat) : Int) - 0 - 1 = ((len - 1 : Nat) : Int) := by omega
    rw [e, show len + (L - 1) = len - 1 + L by omega, Nat.add_div_right _ (by omega)]
    rfl
theorem rgC_up {len L : Nat} (h : 1 ≤ L) (h2 : L ≤ 1000000) (h3 : len ≤ 1000000) : RgC 0 (len : Nat) (L : Nat) ((len + (L - 1)) / L) := by
  have hd : (len + (L - 1)) / L ≤ len + (L - 1) := Nat.div_le_self _ _
  refine ⟨by omega, by omega, ?_, rgC_size h⟩
  unfold Builtin.Range.small
  rw [rgC_size h, if_pos (by omega)]
  generalize (len + (L - 1)) / L = d at hd ⊢
  simp only [Builtin.Range.rangeFitsLong, Bool.and_eq_true, Bool.or_eq_true, decide_eq_true_eq, beq_iff_eq]
  omega
theorem cutV_nat (xs : List V) (a b : Nat) : cutV xs (some (a : Int)) (some (b : Int)) = (xs.drop a).take (b - a) := by
  unfold cutV
  rw [HT.sIx_nat, HT.sIx_nat]
  by_cases h : a ≤ xs.length
  · rw [Nat.min_eq_left h]
    by_cases h2 : b ≤ xs.length
    · rw [Nat.min_eq_left h2]
    · rw [Nat.min_eq_right (by omega), List.take_of_length_le (by simp), List.take_of_length_le (by simp; omega)]
  · have e : min a xs.length = xs.length := Nat.min_eq_right (by omega)
    rw [e, List.drop_length, List.drop_of_length_le (by omega)]; simp
theorem take_range_map {α : Type} {n i : Nat} (h : i < n) (f : Nat → α) : ((List.range n).map f).take (i + 1) = ((List.range n).map f).take i ++ [f i] := by
  rw [List.take_succ]
  congr 1
  rw [List.getElem?_map, List.getElem?_range h]
  rfl
theorem take_snoc {α : Type} {l : List α} {i : Nat} {x : α} (h : l[i]? = some x) : l.take (i + 1) = l.take i ++ [x] := by
  rw [List.take_succ, h]
  rfl
/-- what follows a statement, shown once -/
theorem mid {t : TS} {D : Ends} {σ : L2.St} {H : Hp} (M : L2.St → Hp → Prop) (tail : ∀ σ' H', M σ' H' → D.nx σ' H') (h : (∀ σ' H', M σ' H' → D.nx σ' H') → t D σ H) : t D σ H := h tail

/-! ### rules whose reading names the head: the same for a block within (K given) -/
section
variable {X : Cx} {o a e : Expr} {f : Str} {pos : Pos} {ta : TE} (K : PySem.W.Frag)
theorem pe_fldK (he : PE X o ta) (hb : attributeBase o f X.env (eval o X.env) = eval o X.env) (h : X.K = K := by rfl) : PE X (.Attribute o f pos) (tFld K ta f) := h ▸ pe_fld he hb
theorem ix_listK (h : X.K = K := by rfl) : IxR X (rIxL K) := h ▸ ix_list
theorem ix_tupK (h : X.K = K := by rfl) : IxR X (rIxT K) := h ▸ ix_tup
theorem sl_listK (h : X.K = K := by rfl) : SlR X (rSlL K) := h ▸ sl_list
def rLenQ (K : PySem.W.Frag) : List V → Hp → VK → Prop := fun xs H Q => ∃ p ys, xs = [V.ref p] ∧ (SqL K H p ys ∨ SqT K H p ys) ∧ Q (.int ys.length) H
theorem call_len_seqK (h : X.K = K := by rfl) : CallR X (.builtin "len") (rLenQ K) := h ▸ call_len_seq
def rListQ (K : PySem.W.Frag) : List V → Hp → VK → Prop := fun xs H Q => ∃ p ys, xs = [V.ref p] ∧ (SqL K H p ys ∨ SqT K H p ys) ∧ ∀ l, H l = none → Q (.ref l) (upd H l (.lst ys))
theorem call_list_ofK (h : X.K = K := by rfl) : CallR X (.type "list") (rListQ K) := h ▸ call_list_of
theorem cr_sumK (hc : X.calm = true) (h : X.K = K := by rfl) : CallR X (.builtin "sum") (rSum K) := h ▸ cr_sum hc
theorem cr_sortedIK (h : X.K = K := by rfl) : CallR X (.builtin "sorted") (rSortedI K) := h ▸ cr_sortedI
theorem op_eqDK (hu : X.A.units + 64 < cLine) (h : X.K = K := by rfl) : OpR X (compareOp .Eq) (rEqD K) := h ▸ op_eqD hu
theorem op_neDK (hu : X.A.units + 64 < cLine) (h : X.K = K := by rfl) : OpR X (compareOp .NotEq) (rNeD K) := h ▸ op_neD hu
theorem op_inDK (hu : X.A.units + 65 < cLine) (h : X.K = K := by rfl) : OpR X (compareOp .In) (rInD K) := h ▸ op_inD hu
theorem op_notInDK (hu : X.A.units + 65 < cLine) (h : X.K = K := by rfl) : OpR X (compareOp .NotIn) (rNotInD K) := h ▸ op_notInD hu
theorem op_in_seqK (h : X.K = K := by rfl) : OpR X (compareOp .In) (rIn K false) := h ▸ op_in_seq
theorem op_notIn_seqK (h : X.K = K := by rfl) : OpR X (compareOp .NotIn) (rIn K true) := h ▸ op_notIn_seq
theorem op_catTK (h : X.K = K := by rfl) : OpR X (binaryOp .Add) (rCatT K) := h ▸ op_catT
theorem pe_notTK (ha : PE X a ta) (h : X.K = K := by rfl) : PE X (.UnaryOp .Not a pos) (tNotT K ta) := h ▸ pe_notT ha
theorem pg_tupK {es : List Expr} {k : Nat} {t : TGs} {n : Nat} (hc : X.calm = true) (h : PGs X es t)
    (hn : (assignEach es X.env).length = n := by rfl) (hst : (assignEach es X.env).findIdx? (·.1) = none := by rfl) (hK : X.K = K := by rfl) : PG X (.Tuple es k pos) (gTup K n t) := hK ▸ pg_tup hc h hn hst
end
/-- a tuple of things of one kind -/
structure TuL (α : Type) where
  v : List α
deriving DecidableEq
instance {α : Type} [i : Dat α] : DatN (TuL α) where
  d a := .tuple (a.v.map i.d)
  good a := ∀ x ∈ a.v, i.good x
  dep := i.dep + 1
  ok a b := by
    obtain ⟨a⟩ := a
    obtain ⟨b⟩ := b
    simp [PyData.eqv, eqvAll_map]
  can a h := by
    have q := canAll_map a.v h
    simp only [PyData.canLay0, PyData.depth, q.1, true_and]
    omega
  nl a := by simp [PyData.eqv]
  nr a := by simp [PyData.eqv]
theorem rp_tints {K : PySem.W.Frag} {H : Hp} {p : Addr} {ns : List Int} (h : SqT K H p (ns.map V.int)) : Rp K H (.ref p) (⟨ns⟩ : TuL Int) := .tup h (dpAll_ints ns)
theorem good_tints (ns : List Int) : Dat.good (⟨ns⟩ : TuL Int) := fun _ _ => trivial
theorem tul_eq {α : Type} [DecidableEq α] (a b : List α) : decide ((⟨a⟩ : TuL α) = ⟨b⟩) = decide (a = b) := decide_eq_decide.mpr ⟨fun h => TuL.mk.inj h, fun h => by rw [h]⟩
/-! ### two lists item by item -/
section
variable {α β : Type} {F G : α → β → Prop}
theorem Paired.get : ∀ {xs : List α} {ys : List β} {i : Nat} {x : α}, Paired F xs ys → xs[i]? = some x → ∃ y, ys[i]? = some y ∧ F x y
  | _, _, _, _, .nil, h => by simp at h
  | _, _, 0, _, .cons a r, h => by simp at h; subst h; exact ⟨_, rfl, a⟩
  | _, _, i + 1, _, .cons a r, h => by simp at h; obtain ⟨y, e, f⟩ := Paired.get r h; exact ⟨y, by simpa using e, f⟩
theorem Paired.get' : ∀ {xs : List α} {ys : List β} {i : Nat} {y : β}, Paired F xs ys → ys[i]? = some y → ∃ x, xs[i]? = some x ∧ F x y
  | _, _, _, _, .nil, h => by simp at h
  | _, _, 0, _, .cons a r, h => by simp at h; subst h; exact ⟨_, rfl, a⟩
  | _, _, i + 1, _, .cons a r, h => by simp at h; obtain ⟨y, e, f⟩ := Paired.get' r h; exact ⟨y, by simpa using e, f⟩
theorem Paired.imp (h : ∀ a b, F a b → G a b) : ∀ {xs : List α} {ys : List β}, Paired F xs ys → Paired G xs ys
  | _, _, .nil => .nil
  | _, _, .cons a r => .cons (h _ _ a) (Paired.imp h r)
theorem Paired.impI : ∀ {xs : List α} {ys : List β}, Paired F xs ys → (∀ a ∈ xs, ∀ b ∈ ys, F a b → G a b) → Paired G xs ys
  | _, _, .nil, _ => .nil
  | _, _, .cons a r, h => .cons (h _ (by simp) _ (by simp) a) (Paired.impI r fun x hx y hy => h x (by simp [hx]) y (by simp [hy]))
theorem Paired.snoc {a : α} {b : β} (h : F a b) : ∀ {xs : List α} {ys : List β}, Paired F xs ys → Paired F (xs ++ [a]) (ys ++ [b])
  | _, _, .nil => .cons h .nil
  | _, _, .cons a r => .cons a (Paired.snoc h r)
theorem Paired.app : ∀ {xs : List α} {ys : List β} {xs' : List α} {ys' : List β}, Paired F xs ys → Paired F xs' ys' → Paired F (xs ++ xs') (ys ++ ys')
  | _, _, _, _, .nil, q => q
  | _, _, _, _, .cons a r, q => .cons a (Paired.app r q)
theorem Paired.erase : ∀ {xs : List α} {ys : List β} (i : Nat), Paired F xs ys → Paired F (xs.eraseIdx i) (ys.eraseIdx i)
  | _, _, _, .nil => by simpa using .nil
  | _, _, 0, .cons a r => r
  | _, _, i + 1, .cons a r => .cons a (Paired.erase i r)
theorem Paired.len {xs : List α} {ys : List β} (h : Paired F xs ys) : xs.length = ys.length := by
  induction h with
  | nil => rfl
  | cons _ _ ih => simp [ih]
theorem Paired.of_get : ∀ {xs : List α} {ys : List β}, xs.length = ys.length → (∀ (i : Nat) x y, xs[i]? = some x → ys[i]? = some y → F x y) → Paired F xs ys
  | [], [], _, _ => .nil
  | [], _ :: _, h, _ => by simp at h
  | _ :: _, [], h, _ => by simp at h
  | x :: xs, y :: ys, h, f => .cons (f 0 x y rfl rfl) (Paired.of_get (by simpa using h) fun i a b h1 h2 => f (i + 1) a b (by simpa using h1) (by simpa using h2))
end
theorem nodup_idx {α : Type} {l : List α} (h : l.Nodup) {i j : Nat} {x : α} (h1 : l[i]? = some x) (h2 : l[j]? = some x) : i = j := by
  have hi := (List.getElem?_eq_some_iff.mp h1).1
  exact (List.getElem?_inj hi h).mp (h1.trans h2.symm)
theorem map_erase {α β : Type} (f : α → β) : ∀ (l : List α) (i : Nat), (l.map f).eraseIdx i = (l.eraseIdx i).map f
  | [], _ => by simp
  | _ :: _, 0 => rfl
  | x :: l, i + 1 => by simp [List.eraseIdx, map_erase f l i]
theorem seq_at {k : Nat} {n : Nat} (h : k < n) : seqIndex? (k : Int) n = some k := by
  unfold seqIndex?
  rw [if_neg (show ¬ ((k : Int) < 0) by omega)]
  rw [if_pos (by rw [Bool.and_eq_true, decide_eq_true_eq, decide_eq_true_eq]; omega)]
  rfl
/-- a test by what it leaves -/
theorem if_rel {c : TT} {t1 t2 : TS} {D : Ends} {σ : L2.St} {H : Hp} (R : Bool → Hp → Prop) (h : ∀ Q : Bool → Hp → Prop, (∀ b H', R b H' → Q b H') → c σ H Q) (h1 : ∀ H', R true H' → t1 D σ H') (h2 : ∀ H', R false H' → t2 D σ H') : tIfS c t1 t2 D σ H :=
  h _ fun b H' r => by
    cases b with
    | true => exact h1 H' r
    | false => exact h2 H' r
theorem cutV_to (xs : List V) (b : Nat) : cutV xs none (some (b : Int)) = xs.take b := by
  unfold cutV
  rw [HT.sIx_nat, HT.sIx_none, Nat.sub_zero, List.drop_zero]
  by_cases h : b ≤ xs.length
  · rw [Nat.min_eq_left h]
  · rw [Nat.min_eq_right (by omega), List.take_of_length_le (Nat.le_refl _), List.take_of_length_le (by omega)]
theorem cutV_from (xs : List V) (a : Nat) : cutV xs (some (a : Int)) none = xs.drop a := by
  unfold cutV
  rw [HT.sIx_nat, HT.sIx_none]
  by_cases h : a ≤ xs.length
  · rw [Nat.min_eq_left h, List.take_of_length_le (by simp)]
  · have e : min a xs.length = xs.length := Nat.min_eq_right (by omega)
    rw [e, List.drop_length, List.drop_of_length_le (by omega)]; simp
theorem mem_cut {α : Type} {l : List α} {d : Nat} {x : α} (h : x ∈ l) : l[d]? = some x ∨ x ∈ l.take d ++ l.drop (d + 1) := by
  obtain ⟨i, hi⟩ := List.getElem?_of_mem h
  by_cases e : i = d
  · rw [← e]; exact .inl hi
  · refine .inr (List.mem_append.mpr ?_)
    by_cases h2 : i < d
    · exact .inl (List.mem_of_getElem? (i := i) (by rw [List.getElem?_take, if_pos h2]; exact hi))
    · refine .inr (List.mem_of_getElem? (i := i - (d + 1)) ?_)
      rw [List.getElem?_drop, show d + 1 + (i - (d + 1)) = i by omega]
      exact hi
theorem inV_ints (x : Int) (ns : List Int) : inV (.int x) (ns.map V.int) = decide (x ∈ ns) := by
  unfold inV
  induction ns with
  | nil => rfl
  | cons n ns ih =>
    rw [List.map_cons, List.any_cons, ih]
    have e : eqV (.int n) (.int x) = decide (n = x) := by
      show (n == x) = _
      rw [Bool.eq_iff_iff]; simp
    rw [e]
    by_cases h : n = x
    · rw [decide_eq_true h, Bool.true_or, decide_eq_true (by rw [h]; exact List.mem_cons_self)]
    · rw [decide_eq_false h, Bool.false_or]
      refine decide_eq_decide.mpr ⟨List.mem_cons_of_mem _, fun hm => (List.mem_cons.mp hm).elim (fun e => absurd e.symm h) id⟩
theorem flat_ints (ns : List Int) : (ns.map V.int).all flatV = true := by
  rw [List.all_map, List.all_eq_true]
  intro x _
  rfl
theorem ixN_at {n k : Nat} (h : k < n) : ixN n (k : Int) = some k := by
  unfold ixN
  rw [if_pos (by omega), if_pos (by omega)]
  rfl
/-- what follows a value, shown once -/
theorem te_mid {te : TE} {σ : L2.St} {H : Hp} {Q : VK} (M : V → Hp → Prop) (tail : ∀ v H', M v H' → Q v H') (h : (∀ v H', M v H' → Q v H') → te σ H Q) : te σ H Q := h tail
end TW
local macro_rules | `(tactic| walk_at "g") => `(tactic| repeat first | refine ⟨_, rfl, ?_⟩ | refine ⟨_, _, rfl, rfl, ?_⟩ | refine ⟨rfl, ?_⟩ | refine Or.inl ⟨_, rfl, ?_⟩ | refine ⟨by decide, ?_⟩ | refine ⟨(by show (0 : Int) < _; decide), ?_⟩ | refine ⟨_, _, rfl, ?_⟩)
local macro_rules | `(tactic| walk_at "n") => `(tactic| dsimp only [L2.gName, L2.tSeq, L2.tAsg, L2.tNext])
namespace Own
open PySem PySem.Spec PyProof.Rows L2 TW
def top (i : Nat) : Stmt := PySem.Challenge.pw_throughway_k87_whole_packets_from_any_pa.main.body.getD i (.Pass ⟨0, 0, 0, 0⟩)
abbrev s_law_cell : Stmt := top 12
theorem sc_law_cell : FnScope ["script", "k"] ["script", "k"] (defScope s_law_cell) := ⟨rfl, rfl, rfl, by decide +kernel, rfl, by decide +kernel, by decide +kernel⟩
abbrev s_law_start : Stmt := top 13
theorem sc_law_start : FnScope ["cell", "k", "prime", "mixed", "number", "turn"] ["cell", "k"] (defScope s_law_start) := ⟨rfl, rfl, rfl, by decide +kernel, rfl, by decide +kernel, by decide +kernel⟩
abbrev s_law_digit : Stmt := top 14
theorem sc_law_digit : FnScope ["state", "many", "digit"] ["state", "many"] (defScope s_law_digit) := ⟨rfl, rfl, rfl, by decide +kernel, rfl, by decide +kernel, by decide +kernel⟩
abbrev s_Part___init__ : Stmt := inClass (top 8) 0
theorem sc_Part___init__ : FnScope ["self", "number", "start", "octets", "last"] ["self", "number", "start", "octets", "last"] (defScope s_Part___init__) := ⟨rfl, rfl, rfl, by decide +kernel, rfl, by decide +kernel, by decide +kernel⟩
abbrev s_Part_end : Stmt := inClass (top 8) 2
theorem sc_Part_end : FnScope ["self"] ["self"] (defScope s_Part_end) := ⟨rfl, rfl, rfl, by decide +kernel, rfl, by decide +kernel, by decide +kernel⟩
abbrev s_cut_part : Stmt := top 9
theorem sc_cut_part : FnScope ["part", "limit", "parts", "at", "octets", "ends"] ["part", "limit"] (defScope s_cut_part) := ⟨rfl, rfl, rfl, by decide +kernel, rfl, by decide +kernel, by decide +kernel⟩
abbrev s_cut_octets : Stmt := top 10
theorem sc_cut_octets : FnScope ["number", "octets", "limit"] ["number", "octets", "limit"] (defScope s_cut_octets) := ⟨rfl, rfl, rfl, by decide +kernel, rfl, by decide +kernel, by decide +kernel⟩
abbrev s_Heap___init__ : Stmt := inClass (top 5) 0
theorem sc_Heap___init__ : FnScope ["self", "key", "born"] ["self", "key", "born"] (defScope s_Heap___init__) := ⟨rfl, rfl, rfl, by decide +kernel, rfl, by decide +kernel, by decide +kernel⟩
abbrev s_Heap_fits : Stmt := inClass (top 5) 1
theorem sc_Heap_fits : FnScope ["self", "part"] ["self", "part"] (defScope s_Heap_fits) := ⟨rfl, rfl, rfl, by decide +kernel, rfl, by decide +kernel, by decide +kernel⟩
abbrev s_Heap_add : Stmt := inClass (top 5) 2
theorem sc_Heap_add : FnScope ["self", "part", "at", "octet"] ["self", "part"] (defScope s_Heap_add) := ⟨rfl, rfl, rfl, by decide +kernel, rfl, by decide +kernel, by decide +kernel⟩
abbrev s_Heap_is_whole : Stmt := inClass (top 5) 3
theorem sc_Heap_is_whole : FnScope ["self"] ["self"] (defScope s_Heap_is_whole) := ⟨rfl, rfl, rfl, by decide +kernel, rfl, by decide +kernel, by decide +kernel⟩
abbrev s_Heap_octets : Stmt := inClass (top 5) 4
theorem sc_Heap_octets : FnScope ["self", "at"] ["self"] (defScope s_Heap_octets) := ⟨rfl, rfl, rfl, by decide +kernel, rfl, by decide +kernel, by decide +kernel⟩
abbrev s_Builder___init__ : Stmt := inClass (top 6) 0
theorem sc_Builder___init__ : FnScope ["self", "most", "life"] ["self", "most", "life"] (defScope s_Builder___init__) := ⟨rfl, rfl, rfl, by decide +kernel, rfl, by decide +kernel, by decide +kernel⟩
abbrev s_Builder_place_of : Stmt := inClass (top 6) 2
theorem sc_Builder_place_of : FnScope ["self", "key", "at", "heap"] ["self", "key"] (defScope s_Builder_place_of) := ⟨rfl, rfl, rfl, by decide +kernel, rfl, by decide +kernel, by decide +kernel⟩
abbrev s_Builder_add : Stmt := inClass (top 6) 3
theorem sc_Builder_add : FnScope ["self", "sender", "target", "part", "now", "key", "at", "heap"] ["self", "sender", "target", "part", "now"] (defScope s_Builder_add) := ⟨rfl, rfl, rfl, by decide +kernel, rfl, by decide +kernel, by decide +kernel⟩
abbrev s_law_parts : Stmt := top 15
theorem sc_law_parts : FnScope ["state", "number", "octets", "parts", "turn", "part"] ["state", "number", "octets"] (defScope s_law_parts) := ⟨rfl, rfl, rfl, by decide +kernel, rfl, by decide +kernel, by decide +kernel⟩
abbrev s_law_mixed : Stmt := top 16
theorem sc_law_mixed : FnScope ["state", "rows", "mixed", "left", "at"] ["state", "rows"] (defScope s_law_mixed) := ⟨rfl, rfl, rfl, by decide +kernel, rfl, by decide +kernel, by decide +kernel⟩
abbrev s_law_whole : Stmt := top 17
theorem sc_law_whole : FnScope ["held", "octets"] ["held", "octets"] (defScope s_law_whole) := ⟨rfl, rfl, rfl, by decide +kernel, rfl, by decide +kernel, by decide +kernel⟩
abbrev s_law : Stmt := top 18
theorem sc_law : FnScope ["script", "state", "packets", "rows", "k", "cell", "octets", "i", "part", "builder", "held", "ended", "told", "packet", "answer", "whole"] ["script"] (defScope s_law) := ⟨rfl, rfl, rfl, by decide +kernel, rfl, by decide +kernel, by decide +kernel⟩
/-- the parameters' order of a call by keywords -/
def o_kw0_Part___init__ {α : Type} (us mv ws : List α) : List α := us ++ (((ws.drop 0).take 1) ++ [])
theorem o_kw0_Part___init___rel {vs mz zs : List V} {us mv ws : List Value} (r : Vals vs us) (rm : Vals mz mv) (rz : Vals zs ws) : Vals (o_kw0_Part___init__ vs mz zs) (o_kw0_Part___init__ us mv ws) := Vals.append r (Vals.append (Vals.take 1 (Vals.drop 0 rz)) .nil)
/-- the attributes of a Builder, in the order in which they are stored -/
def fs_Builder (x_most x_life x_heaps : V) : List (Str × V) := [("most", x_most), ("life", x_life), ("heaps", x_heaps)]
theorem fs_Builder_most {x_most x_life x_heaps : V} : (fs_Builder x_most x_life x_heaps).lookup ("most" : Str) = some x_most := by
  unfold fs_Builder
  rw [lk_eq]
theorem fs_Builder_put_most {x_most x_life x_heaps v : V} : putF ("most" : Str) v (fs_Builder x_most x_life x_heaps) = fs_Builder v x_life x_heaps := by
  unfold fs_Builder
  rw [put_eq]
theorem fs_Builder_new_most {x_most : V} : putF ("most" : Str) x_most ([] : List (Str × V)) = ([("most", x_most)] : List (Str × V)) := by
  rw [put_nil]
theorem fs_Builder_life {x_most x_life x_heaps : V} : (fs_Builder x_most x_life x_heaps).lookup ("life" : Str) = some x_life := by
  unfold fs_Builder
  rw [lk_ne (by decide +kernel)]; rw [lk_eq]
theorem fs_Builder_put_life {x_most x_life x_heaps v : V} : putF ("life" : Str) v (fs_Builder x_most x_life x_heaps) = fs_Builder x_most v x_heaps := by
  unfold fs_Builder
  rw [put_ne (by decide +kernel)]; rw [put_eq]
theorem fs_Builder_new_life {x_most x_life : V} : putF ("life" : Str) x_life ([("most", x_most)] : List (Str × V)) = ([("most", x_most), ("life", x_life)] : List (Str × V)) := by
  rw [put_ne (by decide +kernel)]; rw [put_nil]
theorem fs_Builder_heaps {x_most x_life x_heaps : V} : (fs_Builder x_most x_life x_heaps).lookup ("heaps" : Str) = some x_heaps := by
  unfold fs_Builder
  rw [lk_ne (by decide +kernel)]; rw [lk_ne (by decide +kernel)]; rw [lk_eq]
theorem fs_Builder_put_heaps {x_most x_life x_heaps v : V} : putF ("heaps" : Str) v (fs_Builder x_most x_life x_heaps) = fs_Builder x_most x_life v := by
  unfold fs_Builder
  rw [put_ne (by decide +kernel)]; rw [put_ne (by decide +kernel)]; rw [put_eq]
theorem fs_Builder_new_heaps {x_most x_life x_heaps : V} : putF ("heaps" : Str) x_heaps ([("most", x_most), ("life", x_life)] : List (Str × V)) = ([("most", x_most), ("life", x_life), ("heaps", x_heaps)] : List (Str × V)) := by
  rw [put_ne (by decide +kernel)]; rw [put_ne (by decide +kernel)]; rw [put_nil]
theorem fs_Builder_len {x_most x_life x_heaps : V} : (fs_Builder x_most x_life x_heaps).length < 1000 := by show 3 < 1000; decide
theorem fs_Builder_no_add {x_most x_life x_heaps : V} : (fs_Builder x_most x_life x_heaps).lookup ("add" : Str) = none := by
  unfold fs_Builder
  rw [lk_ne (by decide +kernel)]; rw [lk_ne (by decide +kernel)]; rw [lk_ne (by decide +kernel)]; rfl
theorem fs_Builder_no_place_of {x_most x_life x_heaps : V} : (fs_Builder x_most x_life x_heaps).lookup ("place_of" : Str) = none := by
  unfold fs_Builder
  rw [lk_ne (by decide +kernel)]; rw [lk_ne (by decide +kernel)]; rw [lk_ne (by decide +kernel)]; rfl
/-- the attributes of a Heap, in the order in which they are stored -/
def fs_Heap (x_key x_born x_places x_top x_end : V) : List (Str × V) := [("key", x_key), ("born", x_born), ("places", x_places), ("top", x_top), ("end", x_end)]
theorem fs_Heap_key {x_key x_born x_places x_top x_end : V} : (fs_Heap x_key x_born x_places x_top x_end).lookup ("key" : Str) = some x_key := by
  unfold fs_Heap
  rw [lk_eq]
theorem fs_Heap_put_key {x_key x_born x_places x_top x_end v : V} : putF ("key" : Str) v (fs_Heap x_key x_born x_places x_top x_end) = fs_Heap v x_born x_places x_top x_end := by
  unfold fs_Heap
  rw [put_eq]
theorem fs_Heap_new_key {x_key : V} : putF ("key" : Str) x_key ([] : List (Str × V)) = ([("key", x_key)] : List (Str × V)) := by
  rw [put_nil]
theorem fs_Heap_born {x_key x_born x_places x_top x_end : V} : (fs_Heap x_key x_born x_places x_top x_end).lookup ("born" : Str) = some x_born := by
  unfold fs_Heap
  rw [lk_ne (by decide +kernel)]; rw [lk_eq]
theorem fs_Heap_put_born {x_key x_born x_places x_top x_end v : V} : putF ("born" : Str) v (fs_Heap x_key x_born x_places x_top x_end) = fs_Heap x_key v x_places x_top x_end := by
  unfold fs_Heap
  rw [put_ne (by decide +kernel)]; rw [put_eq]
theorem fs_Heap_new_born {x_key x_born : V} : putF ("born" : Str) x_born ([("key", x_key)] : List (Str × V)) = ([("key", x_key), ("born", x_born)] : List (Str × V)) := by
  rw [put_ne (by decide +kernel)]; rw [put_nil]
theorem fs_Heap_places {x_key x_born x_places x_top x_end : V} : (fs_Heap x_key x_born x_places x_top x_end).lookup ("places" : Str) = some x_places := by
  unfold fs_Heap
  rw [lk_ne (by decide +kernel)]; rw [lk_ne (by decide +kernel)]; rw [lk_eq]
theorem fs_Heap_put_places {x_key x_born x_places x_top x_end v : V} : putF ("places" : Str) v (fs_Heap x_key x_born x_places x_top x_end) = fs_Heap x_key x_born v x_top x_end := by
  unfold fs_Heap
  rw [put_ne (by decide +kernel)]; rw [put_ne (by decide +kernel)]; rw [put_eq]
theorem fs_Heap_new_places {x_key x_born x_places : V} : putF ("places" : Str) x_places ([("key", x_key), ("born", x_born)] : List (Str × V)) = ([("key", x_key), ("born", x_born), ("places", x_places)] : List (Str × V)) := by
  rw [put_ne (by decide +kernel)]; rw [put_ne (by decide +kernel)]; rw [put_nil]
theorem fs_Heap_top {x_key x_born x_places x_top x_end : V} : (fs_Heap x_key x_born x_places x_top x_end).lookup ("top" : Str) = some x_top := by
  unfold fs_Heap
  rw [lk_ne (by decide +kernel)]; rw [lk_ne (by decide +kernel)]; rw [lk_ne (by decide +kernel)]; rw [lk_eq]
theorem fs_Heap_put_top {x_key x_born x_places x_top x_end v : V} : putF ("top" : Str) v (fs_Heap x_key x_born x_places x_top x_end) = fs_Heap x_key x_born x_places v x_end := by
  unfold fs_Heap
  rw [put_ne (by decide +kernel)]; rw [put_ne (by decide +kernel)]; rw [put_ne (by decide +kernel)]; rw [put_eq]
theorem fs_Heap_new_top {x_key x_born x_places x_top : V} : putF ("top" : Str) x_top ([("key", x_key), ("born", x_born), ("places", x_places)] : List (Str × V)) = ([("key", x_key), ("born", x_born), ("places", x_places), ("top", x_top)] : List (Str × V)) := by
  rw [put_ne (by decide +kernel)]; rw [put_ne (by decide +kernel)]; rw [put_ne (by decide +kernel)]; rw [put_nil]
theorem fs_Heap_end {x_key x_born x_places x_top x_end : V} : (fs_Heap x_key x_born x_places x_top x_end).lookup ("end" : Str) = some x_end := by
  unfold fs_Heap
  rw [lk_ne (by decide +kernel)]; rw [lk_ne (by decide +kernel)]; rw [lk_ne (by decide +kernel)]; rw [lk_ne (by decide +kernel)]; rw [lk_eq]
theorem fs_Heap_put_end {x_key x_born x_places x_top x_end v : V} : putF ("end" : Str) v (fs_Heap x_key x_born x_places x_top x_end) = fs_Heap x_key x_born x_places x_top v := by
  unfold fs_Heap
  rw [put_ne (by decide +kernel)]; rw [put_ne (by decide +kernel)]; rw [put_ne (by decide +kernel)]; rw [put_ne (by decide +kernel)]; rw [put_eq]
theorem fs_Heap_new_end {x_key x_born x_places x_top x_end : V} : putF ("end" : Str) x_end ([("key", x_key), ("born", x_born), ("places", x_places), ("top", x_top)] : List (Str × V)) = ([("key", x_key), ("born", x_born), ("places", x_places), ("top", x_top), ("end", x_end)] : List (Str × V)) := by
  rw [put_ne (by decide +kernel)]; rw [put_ne (by decide +kernel)]; rw [put_ne (by decide +kernel)]; rw [put_ne (by decide +kernel)]; rw [put_nil]
theorem fs_Heap_len {x_key x_born x_places x_top x_end : V} : (fs_Heap x_key x_born x_places x_top x_end).length < 1000 := by show 5 < 1000; decide
theorem fs_Heap_no_add {x_key x_born x_places x_top x_end : V} : (fs_Heap x_key x_born x_places x_top x_end).lookup ("add" : Str) = none := by
  unfold fs_Heap
  rw [lk_ne (by decide +kernel)]; rw [lk_ne (by decide +kernel)]; rw [lk_ne (by decide +kernel)]; rw [lk_ne (by decide +kernel)]; rw [lk_ne (by decide +kernel)]; rfl
theorem fs_Heap_no_fits {x_key x_born x_places x_top x_end : V} : (fs_Heap x_key x_born x_places x_top x_end).lookup ("fits" : Str) = none := by
  unfold fs_Heap
  rw [lk_ne (by decide +kernel)]; rw [lk_ne (by decide +kernel)]; rw [lk_ne (by decide +kernel)]; rw [lk_ne (by decide +kernel)]; rw [lk_ne (by decide +kernel)]; rfl
theorem fs_Heap_no_is_whole {x_key x_born x_places x_top x_end : V} : (fs_Heap x_key x_born x_places x_top x_end).lookup ("is_whole" : Str) = none := by
  unfold fs_Heap
  rw [lk_ne (by decide +kernel)]; rw [lk_ne (by decide +kernel)]; rw [lk_ne (by decide +kernel)]; rw [lk_ne (by decide +kernel)]; rw [lk_ne (by decide +kernel)]; rfl
theorem fs_Heap_no_octets {x_key x_born x_places x_top x_end : V} : (fs_Heap x_key x_born x_places x_top x_end).lookup ("octets" : Str) = none := by
  unfold fs_Heap
  rw [lk_ne (by decide +kernel)]; rw [lk_ne (by decide +kernel)]; rw [lk_ne (by decide +kernel)]; rw [lk_ne (by decide +kernel)]; rw [lk_ne (by decide +kernel)]; rfl
/-- the attributes of a Part, in the order in which they are stored -/
def fs_Part (x_number x_start x_octets x_last : V) : List (Str × V) := [("number", x_number), ("start", x_start), ("octets", x_octets), ("last", x_last)]
theorem fs_Part_number {x_number x_start x_octets x_last : V} : (fs_Part x_number x_start x_octets x_last).lookup ("number" : Str) = some x_number := by
  unfold fs_Part
  rw [lk_eq]
theorem fs_Part_put_number {x_number x_start x_octets x_last v : V} : putF ("number" : Str) v (fs_Part x_number x_start x_octets x_last) = fs_Part v x_start x_octets x_last := by
  unfold fs_Part
  rw [put_eq]
theorem fs_Part_new_number {x_number : V} : putF ("number" : Str) x_number ([] : List (Str × V)) = ([("number", x_number)] : List (Str × V)) := by
  rw [put_nil]
theorem fs_Part_start {x_number x_start x_octets x_last : V} : (fs_Part x_number x_start x_octets x_last).lookup ("start" : Str) = some x_start := by
  unfold fs_Part
  rw [lk_ne (by decide +kernel)]; rw [lk_eq]
theorem fs_Part_put_start {x_number x_start x_octets x_last v : V} : putF ("start" : Str) v (fs_Part x_number x_start x_octets x_last) = fs_Part x_number v x_octets x_last := by
  unfold fs_Part
  rw [put_ne (by decide +kernel)]; rw [put_eq]
theorem fs_Part_new_start {x_number x_start : V} : putF ("start" : Str) x_start ([("number", x_number)] : List (Str × V)) = ([("number", x_number), ("start", x_start)] : List (Str × V)) := by
  rw [put_ne (by decide +kernel)]; rw [put_nil]
theorem fs_Part_octets {x_number x_start x_octets x_last : V} : (fs_Part x_number x_start x_octets x_last).lookup ("octets" : Str) = some x_octets := by
  unfold fs_Part
  rw [lk_ne (by decide +kernel)]; rw [lk_ne (by decide +kernel)]; rw [lk_eq]
theorem fs_Part_put_octets {x_number x_start x_octets x_last v : V} : putF ("octets" : Str) v (fs_Part x_number x_start x_octets x_last) = fs_Part x_number x_start v x_last := by
  unfold fs_Part
  rw [put_ne (by decide +kernel)]; rw [put_ne (by decide +kernel)]; rw [put_eq]
theorem fs_Part_new_octets {x_number x_start x_octets : V} : putF ("octets" : Str) x_octets ([("number", x_number), ("start", x_start)] : List (Str × V)) = ([("number", x_number), ("start", x_start), ("octets", x_octets)] : List (Str × V)) := by
  rw [put_ne (by decide +kernel)]; rw [put_ne (by decide +kernel)]; rw [put_nil]
theorem fs_Part_last {x_number x_start x_octets x_last : V} : (fs_Part x_number x_start x_octets x_last).lookup ("last" : Str) = some x_last := by
  unfold fs_Part
  rw [lk_ne (by decide +kernel)]; rw [lk_ne (by decide +kernel)]; rw [lk_ne (by decide +kernel)]; rw [lk_eq]
theorem fs_Part_put_last {x_number x_start x_octets x_last v : V} : putF ("last" : Str) v (fs_Part x_number x_start x_octets x_last) = fs_Part x_number x_start x_octets v := by
  unfold fs_Part
  rw [put_ne (by decide +kernel)]; rw [put_ne (by decide +kernel)]; rw [put_ne (by decide +kernel)]; rw [put_eq]
theorem fs_Part_new_last {x_number x_start x_octets x_last : V} : putF ("last" : Str) x_last ([("number", x_number), ("start", x_start), ("octets", x_octets)] : List (Str × V)) = ([("number", x_number), ("start", x_start), ("octets", x_octets), ("last", x_last)] : List (Str × V)) := by
  rw [put_ne (by decide +kernel)]; rw [put_ne (by decide +kernel)]; rw [put_ne (by decide +kernel)]; rw [put_nil]
theorem fs_Part_len {x_number x_start x_octets x_last : V} : (fs_Part x_number x_start x_octets x_last).length < 1000 := by show 4 < 1000; decide
theorem fs_Part_no_end {x_number x_start x_octets x_last : V} : (fs_Part x_number x_start x_octets x_last).lookup ("end" : Str) = none := by
  unfold fs_Part
  rw [lk_ne (by decide +kernel)]; rw [lk_ne (by decide +kernel)]; rw [lk_ne (by decide +kernel)]; rw [lk_ne (by decide +kernel)]; rfl
structure Txt (K : PySem.W.Frag) (mg : Str → Option Value) (C_Builder C_Heap C_Part E_InvalidAmount : Addr) : Prop where
  cl_Builder : Cls K C_Builder
  gv_Builder : ∃ u, mg "Builder" = some u ∧ RelV (.ref C_Builder) u
  cl_Heap : Cls K C_Heap
  gv_Heap : ∃ u, mg "Heap" = some u ∧ RelV (.ref C_Heap) u
  cl_Part : Cls K C_Part
  gv_Part : ∃ u, mg "Part" = some u ∧ RelV (.ref C_Part) u
  na_Builder_heaps : NoAttr K C_Builder "heaps"
  na_Builder_life : NoAttr K C_Builder "life"
  na_Builder_most : NoAttr K C_Builder "most"
  na_Heap_born : NoAttr K C_Heap "born"
  na_Heap_end : NoAttr K C_Heap "end"
  na_Heap_key : NoAttr K C_Heap "key"
  na_Heap_places : NoAttr K C_Heap "places"
  na_Heap_top : NoAttr K C_Heap "top"
  na_Part_last : NoAttr K C_Part "last"
  na_Part_number : NoAttr K C_Part "number"
  na_Part_octets : NoAttr K C_Part "octets"
  na_Part_start : NoAttr K C_Part "start"
  b_enumerate : mg "enumerate" = none
  b_int : mg "int" = none
  b_len : mg "len" = none
  b_list : mg "list" = none
  b_max : mg "max" = none
  b_min : mg "min" = none
  b_range : mg "range" = none
  x_InvalidAmount : PySem.W.excIn K E_InvalidAmount [.type "ValueError", .type "Exception", .type "BaseException", .type "object"] "ValueError.__new__" = true
  e_InvalidAmount : mg "InvalidAmount" = some (.ref E_InvalidAmount)
  k_InvalidAmount : PySem.W.keepIn K (.ref E_InvalidAmount) = true
  s_InvalidAmount : PySem.W.subIn K (.ref E_InvalidAmount) (.type "BaseException") = some true
  t_InvalidAmount : PySem.W.typeIn K (.ref E_InvalidAmount) = some (.type "type")
  m_InvalidAmount : PySem.W.exmOne K (.ref E_InvalidAmount) (.ref E_InvalidAmount) = some true
structure PartM where
  n : Int
  s : Int
  xs : List Int
  l : Bool
structure HeapM where
  key : List Int
  born : Int
  places : List (Int × Int)
  top : Int
  fin : Option Int
def PartM.stop (m : PartM) : Int := m.s + (m.xs.length : Int)
def optI : Option Int → V
  | none => .non
  | some i => .int i
def hasP (pl : List (Int × Int)) (s : Int) : Bool := pl.any fun q => decide (q.1 = s)
def stepP (pl : List (Int × Int)) (s x : Int) : List (Int × Int) := if hasP pl s = true then pl else pl ++ [(s, x)]
def addP (pl : List (Int × Int)) (s : Int) : List Int → List (Int × Int)
  | [] => pl
  | x :: r => addP (stepP pl s x) (s + 1) r
theorem addP_snoc (x : Int) : ∀ (l : List Int) (pl : List (Int × Int)) (s : Int), addP pl s (l ++ [x]) = stepP (addP pl s l) (s + (l.length : Int)) x
  | [], pl, s => by simp [addP]
  | y :: l, pl, s => by
    have e : s + ((y :: l).length : Int) = s + 1 + (l.length : Int) := by rw [List.length_cons]; omega
    rw [List.cons_append, addP, addP, addP_snoc x l, e]
theorem addP_take {l : List Int} {i : Nat} {x : Int} (h : l[i]? = some x) (pl : List (Int × Int)) (s : Int) : addP pl s (l.take (i + 1)) = stepP (addP pl s (l.take i)) (s + (i : Int)) x := by
  have hi : i < l.length := (List.getElem?_eq_some_iff.mp h).1
  have e : l.take (i + 1) = l.take i ++ [x] := by rw [List.take_succ, h]; rfl
  rw [e, addP_snoc, List.length_take, Nat.min_eq_left (by omega)]
theorem stepP_len (pl : List (Int × Int)) (s x : Int) : (stepP pl s x).length ≤ pl.length + 1 := by
  unfold stepP; split
  · omega
  · simp
theorem addP_len : ∀ (l : List Int) (pl : List (Int × Int)) (s : Int), (addP pl s l).length ≤ pl.length + l.length
  | [], pl, s => by simp [addP]
  | x :: l, pl, s => by
    have h1 := stepP_len pl s x
    have h2 := addP_len l (stepP pl s x) (s + 1)
    rw [addP, List.length_cons]
    omega
def fitsM (h : HeapM) (m : PartM) : Bool :=
  match m.l, h.fin with
  | true, some e => decide (m.stop = e)
  | true, none => decide (h.top ≤ m.stop)
  | false, some e => decide (m.stop ≤ e)
  | false, none => true
def addM (h : HeapM) (m : PartM) : HeapM :=
  { h with places := addP h.places m.s m.xs, top := if m.xs = [] then h.top else max h.top m.stop, fin := if m.l = true then some m.stop else h.fin }
def wholeM (h : HeapM) : Bool := match h.fin with
  | none => false
  | some e => decide ((h.places.length : Int) = e)
def getP (pl : List (Int × Int)) (s : Int) : Option Int := (pl.find? fun q => decide (q.1 = s)).map (·.2)
def octM (h : HeapM) : List Int := (List.range (h.fin.getD 0).toNat).map fun i => (getP h.places (i : Nat)).getD 0
def placeM (hs : List HeapM) (key : List Int) : Option Nat := hs.findIdx? fun h => decide (h.key = key)
def comeH (most : Int) (hs : List HeapM) (key : List Int) (now : Int) : List HeapM × Nat := match placeM hs key with
  | some i => (hs, i)
  | none =>
    let hs1 := if (hs.length : Int) = most then hs.eraseIdx 0 else hs
    (hs1 ++ [⟨key, now, [], 0, none⟩], hs1.length)
def comeM (most : Int) (hs : List HeapM) (key : List Int) (m : PartM) (now : Int) : List HeapM × Option (List Int) :=
  let (hs, i) := comeH most hs key now
  match hs[i]? with
  | none => (hs, none)
  | some h => if fitsM h m = true then (if wholeM (addM h m) = true then (hs.eraseIdx i, some (octM (addM h m))) else (hs.set i (addM h m), none)) else (hs.eraseIdx i, none)
/-- what a heap keeps -/
structure HInv (h : HeapM) : Prop where
  nd : (h.places.map (·.1)).Nodup
  lo : ∀ q ∈ h.places, 0 ≤ q.1
  hi : ∀ q ∈ h.places, q.1 < h.top
  t0 : 0 ≤ h.top
  t1 : h.top ≤ 200000
  fin : ∀ e, h.fin = some e → h.top ≤ e ∧ e ≤ 200000
def cutM (m : PartM) (L : Nat) : List PartM := if m.xs.length ≤ L then [m] else
  (List.range ((m.xs.length + (L - 1)) / L)).map fun i => ⟨m.n, m.s + ((i * L : Nat) : Int), (m.xs.drop (i * L)).take L, m.l && decide (m.xs.length ≤ i * L + L)⟩
abbrev dP (pl : List (Int × Int)) : List (Key × V) := pl.map fun q => (Sum.inl q.1, V.int q.2)
theorem valV_dP (s : Int) : ∀ pl : List (Int × Int), valV (dP pl) (.inl s) = (getP pl s).map V.int
  | [] => rfl
  | q :: pl => by
    show valV ((Sum.inl q.1, V.int q.2) :: dP pl) (.inl s) = _
    unfold getP
    by_cases h : q.1 = s
    · rw [valV_pos (p := (Sum.inl q.1, V.int q.2)) (by show (Sum.inl q.1 : Key) = _; rw [h])]
      rw [List.find?_cons_of_pos (by simpa using h)]; rfl
    · rw [valV_neg (p := (Sum.inl q.1, V.int q.2)) (fun z => h (Sum.inl.inj z)), List.find?_cons_of_neg (by simpa using h)]
      exact valV_dP s pl
theorem getP_has (s : Int) (pl : List (Int × Int)) : (getP pl s).isSome = hasP pl s := by
  unfold getP hasP
  rw [Option.isSome_map]
  induction pl with
  | nil => rfl
  | cons q pl ih =>
    rw [List.find?_cons, List.any_cons]
    cases e : decide (q.1 = s) with
    | true => simp
    | false => simpa using ih
theorem putK_dP {pl : List (Int × Int)} {s x : Int} (h : hasP pl s = false) : putK (dP pl) (.inl s) (V.int x) = dP (stepP pl s x) := by
  have e : valV (dP pl) (.inl s) = none := by
    rw [valV_dP]
    have := getP_has s pl
    rw [h] at this
    cases e2 : getP pl s with
    | none => rfl
    | some z => rw [e2] at this; cases this
  rw [putK_new _ e, stepP, if_neg (by rw [h]; decide), dP, dP, List.map_append]
  rfl
theorem hasP_iff {pl : List (Int × Int)} {s : Int} : hasP pl s = true ↔ s ∈ pl.map (·.1) := by
  unfold hasP
  rw [List.any_eq_true]
  constructor
  · rintro ⟨q, hq, e⟩
    exact List.mem_map.mpr ⟨q, hq, by simpa using e⟩
  · intro h
    obtain ⟨q, hq, e⟩ := List.mem_map.mp h
    exact ⟨q, hq, by simpa using e⟩
theorem stepP_nd {pl : List (Int × Int)} {s x : Int} (h : (pl.map (·.1)).Nodup) : ((stepP pl s x).map (·.1)).Nodup := by
  unfold stepP
  split
  · exact h
  · rename_i hn
    rw [List.map_append, List.nodup_append]
    refine ⟨h, by simp, ?_⟩
    intro a ha b hb e
    simp at hb
    subst hb
    subst e
    exact hn (hasP_iff.mpr ha)
theorem stepP_mem {pl : List (Int × Int)} {s x : Int} {q : Int × Int} (h : q ∈ stepP pl s x) : q ∈ pl ∨ q = (s, x) := by
  unfold stepP at h
  split at h
  · exact .inl h
  · rcases List.mem_append.mp h with h | h
    · exact .inl h
    · exact .inr (List.mem_singleton.mp h)
theorem stepP_old {pl : List (Int × Int)} {s x : Int} {q : Int × Int} (h : q ∈ pl) : q ∈ stepP pl s x := by
  unfold stepP
  split
  · exact h
  · exact List.mem_append.mpr (.inl h)
theorem stepP_has (pl : List (Int × Int)) (s x : Int) : hasP (stepP pl s x) s = true := by
  unfold stepP
  split
  · rename_i h; exact h
  · rw [hasP_iff]; simp
theorem addP_nd : ∀ (l : List Int) {pl : List (Int × Int)} {s : Int}, (pl.map (·.1)).Nodup → ((addP pl s l).map (·.1)).Nodup
  | [], _, _, h => h
  | _ :: l, _, _, h => addP_nd l (stepP_nd h)
theorem addP_old : ∀ (l : List Int) {pl : List (Int × Int)} {s : Int} {q : Int × Int}, q ∈ pl → q ∈ addP pl s l
  | [], _, _, _, h => h
  | _ :: l, _, _, _, h => addP_old l (stepP_old h)
theorem addP_mem : ∀ (l : List Int) {pl : List (Int × Int)} {s : Int} {q : Int × Int}, q ∈ addP pl s l → q ∈ pl ∨ ∃ i : Nat, i < l.length ∧ q.1 = s + (i : Int) ∧ l[i]? = some q.2
  | [], _, _, _, h => .inl h
  | x :: l, pl, s, q, h => by
    rcases addP_mem l h with h | ⟨i, h1, h2, h3⟩
    · rcases stepP_mem h with h | h
      · exact .inl h
      · exact .inr ⟨0, by simp, by rw [h]; simp, by rw [h]; simp⟩
    · exact .inr ⟨i + 1, by simpa using h1, by rw [h2]; omega, by simpa using h3⟩
theorem hasP_old {l : List Int} {pl : List (Int × Int)} {s t : Int} (h : hasP pl t = true) : hasP (addP pl s l) t = true := by
  rw [hasP_iff] at h ⊢
  obtain ⟨q, hq, e⟩ := List.mem_map.mp h
  exact List.mem_map.mpr ⟨q, addP_old l hq, e⟩
theorem addP_has : ∀ (l : List Int) (pl : List (Int × Int)) (s : Int) (i : Nat), i < l.length → hasP (addP pl s l) (s + (i : Int)) = true
  | [], _, _, _, h => absurd h (Nat.not_lt_zero _)
  | x :: l, pl, s, 0, _ => by
    rw [show s + ((0 : Nat) : Int) = s by omega]
    exact hasP_old (l := l) (s := s + 1) (stepP_has pl s x)
  | x :: l, pl, s, i + 1, h => by
    rw [show s + ((i + 1 : Nat) : Int) = s + 1 + (i : Int) by omega]
    exact addP_has l _ _ i (by simpa using h)
theorem hinv_new (key : List Int) (now : Int) : HInv ⟨key, now, [], 0, none⟩ := ⟨List.nodup_nil, by simp, by simp, by simp, by simp, by simp⟩
theorem hinv_add {h : HeapM} {m : PartM} (I : HInv h) (f : fitsM h m = true) (h0 : 0 ≤ m.s) (h1 : m.stop ≤ 200000) : HInv (addM h m) := by
  have hs : m.stop = m.s + (m.xs.length : Int) := rfl
  have top : (addM h m).top = if m.xs = [] then h.top else max h.top m.stop := rfl
  have tge : h.top ≤ (addM h m).top := by rw [top]; split <;> omega
  have tle : (addM h m).top ≤ max h.top m.stop := by rw [top]; split <;> omega
  refine ⟨addP_nd _ I.nd, fun q hq => ?_, fun q hq => ?_, by have := I.t0; omega, by have := I.t1; omega, fun e he => ?_⟩
  · rcases addP_mem _ hq with hq | ⟨i, a, b, c⟩
    · exact I.lo q hq
    · omega
  · rcases addP_mem _ hq with hq | ⟨i, a, b, c⟩
    · have := I.hi q hq
      omega
    · rw [top, if_neg (by intro z; rw [z] at a; exact absurd a (Nat.not_lt_zero _))]
      omega
  · have he : (if m.l = true then some m.stop else h.fin) = some e := he
    have ff := I.fin
    cases hl : m.l with
    | true =>
      rw [hl, if_pos rfl] at he
      cases he
      cases hf : h.fin with
      | none =>
        simp only [fitsM, hl, hf, decide_eq_true_eq] at f
        omega
      | some e0 =>
        simp only [fitsM, hl, hf, decide_eq_true_eq] at f
        have := ff e0 hf
        omega
    | false =>
      rw [hl, if_neg (by decide)] at he
      simp only [fitsM, hl, he, decide_eq_true_eq] at f
      have := ff e he
      omega
theorem nodup_lt {l : List Int} {n : Nat} (nd : l.Nodup) (h : ∀ x ∈ l, 0 ≤ x ∧ x < n) : l.length ≤ n := by
  have q := nd.length_le_of_subset (l₂ := (List.range n).map fun i : Nat => (i : Int)) fun x hx => by
    have := h x hx
    exact List.mem_map.mpr ⟨x.toNat, List.mem_range.mpr (by omega), by omega⟩
  simpa using q
theorem nodup_all {l : List Int} {n : Nat} (nd : l.Nodup) (h : ∀ x ∈ l, 0 ≤ x ∧ x < n) (hl : l.length = n) (i : Nat) (hi : i < n) : (i : Int) ∈ l := by
  refine Classical.byContradiction fun hn => ?_
  have := nodup_lt (l := (i : Int) :: l) (n := n) (List.nodup_cons.mpr ⟨hn, nd⟩) fun x hx => by
    rcases List.mem_cons.mp hx with e | hx
    · rw [e]; omega
    · exact h x hx
  rw [List.length_cons] at this
  omega
theorem hinv_len {h : HeapM} (I : HInv h) : h.places.length ≤ 200000 := by
  have q := nodup_lt (n := 200000) I.nd fun x hx => by
    obtain ⟨q, hq, rfl⟩ := List.mem_map.mp hx
    have a := I.lo q hq
    have b := I.hi q hq
    have c := I.t1
    omega
  simpa using q
theorem hinv_whole {h : HeapM} (I : HInv h) (w : wholeM h = true) : ∃ e : Nat, h.fin = some (e : Int) ∧ e ≤ 200000 ∧ h.places.length = e ∧ ∀ i : Nat, i < e → hasP h.places i = true := by
  unfold wholeM at w
  cases hf : h.fin with
  | none => rw [hf] at w; cases w
  | some e =>
    rw [hf] at w
    have w : (h.places.length : Int) = e := of_decide_eq_true w
    subst w
    have := I.fin _ hf
    refine ⟨h.places.length, rfl, by omega, rfl, fun i hi => ?_⟩
    rw [hasP_iff]
    refine nodup_all I.nd (fun x hx => ?_) (by simp) i hi
    obtain ⟨q, hq, rfl⟩ := List.mem_map.mp hx
    have a := I.lo q hq
    have b := I.hi q hq
    omega
theorem comeH_at {most : Int} {hs : List HeapM} {key : List Int} {now : Int} : ∃ h, (comeH most hs key now).1[(comeH most hs key now).2]? = some h ∧ (h ∈ hs ∨ h = ⟨key, now, [], 0, none⟩) := by
  unfold comeH
  split
  · rename_i i hi
    obtain ⟨hlt, _⟩ := List.findIdx?_eq_some_iff_getElem.mp hi
    exact ⟨hs[i], List.getElem?_eq_getElem hlt, .inl (List.getElem_mem hlt)⟩
  · exact ⟨_, by simp, .inr rfl⟩
theorem comeH_len (most : Int) (hs : List HeapM) (key : List Int) (now : Int) : (comeH most hs key now).1.length ≤ hs.length + 1 := by
  have h2 : (if (hs.length : Int) = most then hs.eraseIdx 0 else hs).length ≤ hs.length := by
    split
    · exact List.length_eraseIdx_le _ _
    · exact Nat.le_refl _
  unfold comeH
  split
  · exact Nat.le_succ _
  · simpa using h2
theorem set_erase {α : Type} : ∀ (l : List α) (i : Nat) (x : α), (l.set i x).eraseIdx i = l.eraseIdx i
  | [], _, _ => rfl
  | _ :: _, 0, _ => rfl
  | y :: l, i + 1, x => by simp [List.set, List.eraseIdx, set_erase l i x]

def Good (n : Int) (xs : List Int) (m : PartM) : Prop := m.n = n ∧ 0 ≤ m.s ∧ m.stop ≤ (xs.length : Int) ∧ m.xs = (xs.drop m.s.toNat).take m.xs.length ∧ (m.l = true → m.stop = (xs.length : Int))
theorem cut_mem {m m' : PartM} {L : Nat} (h : m' ∈ cutM m L) : m' = m ∨ (¬ m.xs.length ≤ L ∧ ∃ i, i < (m.xs.length + (L - 1)) / L ∧ m' = ⟨m.n, m.s + ((i * L : Nat) : Int), (m.xs.drop (i * L)).take L, m.l && decide (m.xs.length ≤ i * L + L)⟩) := by
  unfold cutM at h
  split at h
  · exact .inl (List.mem_singleton.mp h)
  · rename_i hn
    obtain ⟨i, hi, e⟩ := List.mem_map.mp h
    exact .inr ⟨hn, i, List.mem_range.mp hi, e.symm⟩
theorem cut_lt {n L i : Nat} (h1 : 1 ≤ L) (hi : i < (n + (L - 1)) / L) : i * L < n := by
  have := (Nat.lt_div_iff_mul_lt (by omega)).mp hi
  omega
theorem cut_good {n : Int} {xs : List Int} {m m' : PartM} {L : Nat} (h1 : 1 ≤ L) (g : Good n xs m) (h : m' ∈ cutM m L) : Good n xs m' := by
  rcases cut_mem h with e | ⟨hn, i, hi, e⟩
  · rw [e]; exact g
  · obtain ⟨g1, g2, g3, g4, g5⟩ := g
    have hlt := cut_lt h1 hi
    have hs : m.stop = m.s + (m.xs.length : Int) := rfl
    have hl : ((m.xs.drop (i * L)).take L).length = min L (m.xs.length - i * L) := by rw [List.length_take, List.length_drop]
    subst e
    refine ⟨g1, by show 0 ≤ m.s + _; omega, ?_, ?_, ?_⟩
    · show m.s + ((i * L : Nat) : Int) + (((m.xs.drop (i * L)).take L).length : Int) ≤ _
      rw [hl]
      omega
    · show (m.xs.drop (i * L)).take L = (xs.drop (m.s + ((i * L : Nat) : Int)).toNat).take ((m.xs.drop (i * L)).take L).length
      rw [hl]
      have e1 : (m.s + ((i * L : Nat) : Int)).toNat = m.s.toNat + i * L := by omega
      rw [e1]
      conv => lhs; rw [g4]
      rw [List.drop_take, List.drop_drop, List.take_take]
    · intro q
      have q : (m.l && decide (m.xs.length ≤ i * L + L)) = true := q
      rw [Bool.and_eq_true, decide_eq_true_eq] at q
      have := g5 q.1
      show m.s + ((i * L : Nat) : Int) + (((m.xs.drop (i * L)).take L).length : Int) = _
      rw [hl]
      omega
theorem cut_cover {m : PartM} {L : Nat} (h1 : 1 ≤ L) {j : Int} (a : m.s ≤ j) (b : j < m.stop) : ∃ m' ∈ cutM m L, m'.s ≤ j ∧ j < m'.stop := by
  unfold cutM
  split
  · exact ⟨m, List.mem_singleton.mpr rfl, a, b⟩
  · rename_i hn
    have hs : m.stop = m.s + (m.xs.length : Int) := rfl
    let k := (j - m.s).toNat
    have hk : k < m.xs.length := by omega
    have hd : k / L * L ≤ k := Nat.div_mul_le_self _ _
    have hd2 : k < k / L * L + L := by
      have := Nat.lt_div_mul_add (a := k) (b := L) (by omega)
      exact this
    refine ⟨_, List.mem_map.mpr ⟨k / L, List.mem_range.mpr ?_, rfl⟩, ?_, ?_⟩
    · rw [Nat.lt_div_iff_mul_lt (by omega)]
      omega
    · show m.s + ((k / L * L : Nat) : Int) ≤ j
      omega
    · show j < m.s + ((k / L * L : Nat) : Int) + (((m.xs.drop (k / L * L)).take L).length : Int)
      rw [List.length_take, List.length_drop]
      omega
theorem cut_last {m : PartM} {L : Nat} (h1 : 1 ≤ L) (hl : m.l = true) : ∃ m' ∈ cutM m L, m'.l = true := by
  unfold cutM
  split
  · exact ⟨m, List.mem_singleton.mpr rfl, hl⟩
  · rename_i hn
    let k := (m.xs.length - 1) / L
    have hd2 : m.xs.length - 1 < k * L + L := Nat.lt_div_mul_add (a := m.xs.length - 1) (b := L) (by omega)
    have hd : k * L ≤ m.xs.length - 1 := Nat.div_mul_le_self _ _
    refine ⟨_, List.mem_map.mpr ⟨k, List.mem_range.mpr ?_, rfl⟩, ?_⟩
    · rw [Nat.lt_div_iff_mul_lt (by omega)]
      omega
    · show (m.l && decide (m.xs.length ≤ k * L + L)) = true
      rw [hl, decide_eq_true (by omega)]
      rfl
theorem cut_len {m : PartM} {L : Nat} (h1 : 1 ≤ L) : (cutM m L).length ≤ m.xs.length + 1 := by
  unfold cutM
  split
  · simp
  · rw [List.length_map, List.length_range]
    have : (m.xs.length + (L - 1)) / L ≤ m.xs.length := by
      by_cases h0 : m.xs.length = 0
      · rw [h0, Nat.div_eq_of_lt (by omega)]; exact Nat.le_refl _
      · refine Nat.le_of_lt_succ ((Nat.div_lt_iff_lt_mul (by omega)).mpr ?_)
        have : m.xs.length * 1 ≤ m.xs.length * L := Nat.mul_le_mul_left _ h1
        rw [Nat.succ_mul]
        omega
    omega
/-- what a packet is cut into -/
structure Parts (n : Int) (xs : List Int) (ms : List PartM) : Prop where
  good : ∀ m ∈ ms, Good n xs m
  cover : ∀ j : Nat, j < xs.length → ∃ m ∈ ms, m.s ≤ (j : Int) ∧ (j : Int) < m.stop
  last : ∃ m ∈ ms, m.l = true
theorem whole_good (n : Int) (xs : List Int) : Good n xs ⟨n, 0, xs, true⟩ := by
  have hs : (⟨n, 0, xs, true⟩ : PartM).stop = 0 + (xs.length : Int) := rfl
  exact ⟨rfl, (by show (0 : Int) ≤ 0; decide), by omega, by simp, fun _ => by omega⟩

def fu {α : Type} (f : Nat → α) (k : Nat) (v : α) : Nat → α := fun j => if j = k then v else f j
theorem fu_same {α : Type} {f : Nat → α} {k : Nat} {v : α} : fu f k v k = v := if_pos rfl
theorem fu_ne {α : Type} {f : Nat → α} {k j : Nat} {v : α} (h : j ≠ k) : fu f k v j = f j := if_neg h
theorem set_range {α : Type} {N k : Nat} {f : Nat → α} {v : α} (h : k < N) : ((List.range N).map f).set k v = (List.range N).map (fu f k v) := by
  refine List.ext_getElem? fun j => ?_
  rw [List.getElem?_set, List.length_map, List.length_range, List.getElem?_map, List.getElem?_map]
  by_cases e : k = j
  · subst e
    rw [if_pos rfl, if_pos h, List.getElem?_range h]
    show _ = some (fu f k v k)
    rw [fu_same]
  · rw [if_neg e]
    by_cases hj : j < N
    · rw [List.getElem?_range hj]
      show some (f j) = some (fu f k v j)
      rw [fu_ne (Ne.symm e)]
    · rw [List.getElem?_eq_none (by simpa using hj)]
      rfl
theorem range_at {α : Type} {N k : Nat} {f : Nat → α} (h : k < N) : ((List.range N).map f)[k]? = some (f k) := by
  rw [List.getElem?_map, List.getElem?_range h]
  rfl
theorem range_snoc {α : Type} (N : Nat) (f : Nat → α) : (List.range (N + 1)).map f = (List.range N).map f ++ [f N] := by
  rw [List.range_succ, List.map_append]
  rfl
def keyOf (k : Nat) : List Int := [3 + ((k % 2 : Nat) : Int), 9, 7 + ((k / 2 : Nat) : Int)]
theorem keyOf_inj {a b : Nat} (h : keyOf a = keyOf b) : a = b := by
  unfold keyOf at h
  injection h with h1 h2
  injection h2 with _ h3
  injection h3 with h4 _
  have := Nat.div_add_mod a 2
  have := Nat.div_add_mod b 2
  omega
def pk (xs held : List Int) : List (Int × Int) := held.map fun i => (i, (xs[i.toNat]?).getD 0)
theorem pk_keys (xs held : List Int) : (pk xs held).map (·.1) = held := by
  unfold pk
  rw [List.map_map]
  exact List.map_id' _
def stepK (held : List Int) (s : Int) : List Int := if s ∈ held then held else held ++ [s]
def addK (held : List Int) (s : Int) : Nat → List Int
  | 0 => held
  | n + 1 => addK (stepK held s) (s + 1) n
theorem stepP_pk {xs held : List Int} {s x : Int} (h : (xs[s.toNat]?).getD 0 = x) : stepP (pk xs held) s x = pk xs (stepK held s) := by
  unfold stepP stepK
  have e : (hasP (pk xs held) s = true) ↔ s ∈ held := by rw [hasP_iff, pk_keys]
  by_cases c : s ∈ held
  · rw [if_pos (e.mpr c), if_pos c]
  · rw [if_neg (fun z => c (e.mp z)), if_neg c]
    unfold pk
    rw [List.map_append, List.map_singleton, h]
theorem addP_pk {xs : List Int} : ∀ (l : List Int) (held : List Int) (s : Nat), (∀ i : Nat, i < l.length → (xs[s + i]?).getD 0 = (l[i]?).getD 0) → addP (pk xs held) (s : Int) l = pk xs (addK held s l.length)
  | [], _, _, _ => rfl
  | x :: l, held, s, h => by
    have h0 := h 0 (by simp)
    rw [addP, stepP_pk (x := x) (by simpa using h0), List.length_cons, addK]
    have := addP_pk l (stepK held s) (s + 1) fun i hi => by
      have := h (i + 1) (by simpa using hi)
      rw [show s + 1 + i = s + (i + 1) by omega, this]
      simp
    simpa using this
theorem stepK_mem {held : List Int} {s x : Int} : x ∈ stepK held s ↔ x ∈ held ∨ x = s := by
  unfold stepK
  split
  · rename_i h
    exact ⟨.inl, fun h2 => h2.elim id fun e => by rw [e]; exact h⟩
  · simp
theorem addK_mem : ∀ (n : Nat) (held : List Int) (s x : Int), x ∈ addK held s n ↔ x ∈ held ∨ (s ≤ x ∧ x < s + (n : Int))
  | 0, held, s, x => by simp [addK]; omega
  | n + 1, held, s, x => by
    rw [addK, addK_mem n, stepK_mem]
    constructor
    · rintro ((h | h) | h)
      · exact .inl h
      · exact .inr (by omega)
      · exact .inr (by omega)
    · rintro (h | h)
      · exact .inl (.inl h)
      · by_cases e : x = s
        · exact .inl (.inr e)
        · exact .inr (by omega)
theorem addK_snoc : ∀ (n : Nat) (held : List Int) (s : Int), addK held s (n + 1) = stepK (addK held s n) (s + (n : Int))
  | 0, held, s => by simp [addK]
  | n + 1, held, s => by
    rw [addK, addK_snoc n, addK, show s + 1 + (n : Int) = s + ((n + 1 : Nat) : Int) by omega]
/-- what the law's list of new places is -/
def newK (held : List Int) (s : Int) (n : Nat) : List Int := ((List.range n).map fun i : Nat => s + (i : Int)).filter fun x => !decide (x ∈ held)
theorem newK_snoc (held : List Int) (s : Int) (n : Nat) : newK held s (n + 1) = newK held s n ++ (if s + (n : Int) ∈ held then [] else [s + (n : Int)]) := by
  unfold newK
  rw [List.range_succ, List.map_append, List.filter_append]
  congr 1
  by_cases h : s + (n : Int) ∈ held <;> simp [h]
theorem addK_new (held : List Int) (s : Int) : ∀ n : Nat, addK held s n = held ++ newK held s n
  | 0 => by simp [addK, newK]
  | n + 1 => by
    rw [addK_snoc, newK_snoc, addK_new held s n, stepK]
    have e : s + (n : Int) ∈ held ++ newK held s n ↔ s + (n : Int) ∈ held := by
      rw [← addK_new held s n, addK_mem]
      constructor
      · rintro (h | h)
        · exact h
        · omega
      · exact .inl
    by_cases h : s + (n : Int) ∈ held
    · rw [if_pos (e.mpr h), if_pos h, List.append_nil]
    · rw [if_neg (fun z => h (e.mp z)), if_neg h, List.append_assoc]
abbrev mkH (X hd : Nat → List Int) (en : Nat → Bool) (T : Nat → Int) (k : Nat) : HeapM := ⟨keyOf k, 50, pk (X k) (hd k), T k, if en k = true then some ((X k).length : Int) else none⟩
structure J (N : Nat) (X hd : Nat → List Int) (en : Nat → Bool) (T tl : Nat → Int) (act : List Nat) (fed : List (Nat × PartM)) : Prop where
  nd : act.Nodup
  lt : ∀ k ∈ act, k < N
  inv : ∀ k ∈ act, HInv (mkH X hd en T k) ∧ T k ≤ ((X k).length : Int)
  out : ∀ k, k < N → k ∉ act → hd k = [] ∧ en k = false
  nw : ∀ k, k < N → ¬ (en k = true ∧ (hd k).length = (X k).length)
  pos : ∀ k, k < N → 0 ≤ tl k
  cov : ∀ k, k < N → tl k = 0 → ∀ q ∈ fed, q.1 = k → (∀ j : Nat, q.2.s ≤ (j : Int) → (j : Int) < q.2.stop → (j : Int) ∈ hd k) ∧ (q.2.l = true → en k = true)
theorem mk_congr {X hd hd' : Nat → List Int} {en en' : Nat → Bool} {T T' : Nat → Int} {act : List Nat} (h : ∀ j ∈ act, hd j = hd' j ∧ en j = en' j ∧ T j = T' j) : act.map (mkH X hd en T) = act.map (mkH X hd' en' T') :=
  List.map_congr_left fun j hj => by
    obtain ⟨a, b, c⟩ := h j hj
    unfold mkH
    rw [a, b, c]
/-- ahead of the adding: k's heap is there -/
theorem J.here {N : Nat} {X hd : Nat → List Int} {en : Nat → Bool} {T tl : Nat → Int} {act : List Nat} {fed : List (Nat × PartM)} (j : J N X hd en T tl act fed) {k : Nat} (hk : k < N) (hX : (X k).length ≤ 200000) :
    ∃ (act1 : List Nat) (T1 : Nat → Int) (i : Nat), comeH (N : Int) (act.map (mkH X hd en T)) (keyOf k) 50 = (act1.map (mkH X hd en T1), i) ∧ act1[i]? = some k ∧ act1.Nodup ∧ (∀ a ∈ act1, a < N) ∧ (∀ a ∈ act1, HInv (mkH X hd en T1 a) ∧ T1 a ≤ ((X a).length : Int)) ∧ ∀ a, a < N → a ∉ act1 → a ∉ act := by
  have ef : placeM (act.map (mkH X hd en T)) (keyOf k) = act.findIdx? fun a => decide (a = k) := by
    unfold placeM
    rw [List.findIdx?_map]
    congr 1
    funext a
    exact decide_eq_decide.mpr ⟨fun h => keyOf_inj h, fun h => by rw [h]⟩
  unfold comeH
  rw [ef]
  cases hf : act.findIdx? fun a => decide (a = k) with
  | some i =>
    obtain ⟨hlt, h1, _⟩ := List.findIdx?_eq_some_iff_getElem.mp hf
    refine ⟨act, T, i, rfl, ?_, j.nd, j.lt, j.inv, fun a _ h => h⟩
    rw [List.getElem?_eq_getElem hlt, of_decide_eq_true h1]
  | none =>
    have hno : k ∉ act := fun h => by
      have := List.findIdx?_eq_none_iff.mp hf k h
      simp at this
    obtain ⟨o1, o2⟩ := j.out k hk hno
    have hlen : act.length < N := by
      have q := (List.nodup_cons.mpr ⟨hno, j.nd⟩).length_le_of_subset (l₂ := List.range N) fun x hx => by
        rcases List.mem_cons.mp hx with e | hx
        · rw [e]; exact List.mem_range.mpr hk
        · exact List.mem_range.mpr (j.lt x hx)
      rw [List.length_range, List.length_cons] at q
      omega
    refine ⟨act ++ [k], fu T k 0, act.length, ?_, by simp, ?_, ?_, ?_, fun a _ h h2 => h (List.mem_append.mpr (.inl h2))⟩
    · have e1 : ¬ (((act.map (mkH X hd en T)).length : Int) = (N : Int)) := by rw [List.length_map]; omega
      show ((if ((act.map (mkH X hd en T)).length : Int) = (N : Int) then (act.map (mkH X hd en T)).eraseIdx 0 else act.map (mkH X hd en T)) ++ [⟨keyOf k, 50, [], 0, none⟩], (if ((act.map (mkH X hd en T)).length : Int) = (N : Int) then (act.map (mkH X hd en T)).eraseIdx 0 else act.map (mkH X hd en T)).length) = _
      rw [if_neg e1, List.map_append, List.length_map]
      congr 1
      congr 1
      · exact mk_congr fun a ha => ⟨rfl, rfl, by rw [fu_ne (fun e => hno (by rw [← e]; exact ha))]⟩
      · show [_] = [mkH X hd en (fu T k 0) k]
        unfold mkH
        rw [o1, o2, fu_same]
        rfl
    · rw [List.nodup_append]
      refine ⟨j.nd, by simp, fun a ha b hb e => ?_⟩
      rw [List.mem_singleton.mp hb] at e
      exact hno (e ▸ ha)
    · intro a ha
      rcases List.mem_append.mp ha with ha | ha
      · exact j.lt a ha
      · rw [List.mem_singleton.mp ha]; exact hk
    · intro a ha
      rcases List.mem_append.mp ha with ha | ha
      · have := j.inv a ha
        unfold mkH at this ⊢
        rw [fu_ne (fun e => hno (by rw [← e]; exact ha))]
        exact this
      · rw [List.mem_singleton.mp ha]
        unfold mkH
        rw [o1, o2, fu_same]
        exact ⟨hinv_new _ _, by omega⟩
theorem getP_pk {xs held : List Int} {i : Nat} {x : Int} (h : (i : Int) ∈ held) (hx : xs[i]? = some x) : getP (pk xs held) (i : Nat) = some x := by
  have h1 : hasP (pk xs held) (i : Nat) = true := by rw [hasP_iff, pk_keys]; exact h
  unfold hasP at h1
  unfold getP
  cases e : (pk xs held).find? fun q => decide (q.1 = ((i : Nat) : Int)) with
  | none =>
    rw [List.any_eq_true] at h1
    obtain ⟨q, hq, e2⟩ := h1
    exact absurd e2 (List.find?_eq_none.mp e q hq)
  | some q =>
    have e1 := List.find?_some e
    have e1 : q.1 = ((i : Nat) : Int) := of_decide_eq_true e1
    obtain ⟨y, hy, rfl⟩ := List.mem_map.mp (List.mem_of_find?_eq_some e)
    have e1 : y = ((i : Nat) : Int) := e1
    subst e1
    show some ((xs[((i : Nat) : Int).toNat]?).getD 0) = _
    rw [Int.toNat_natCast, hx]
    rfl
theorem act_set {X hd : Nat → List Int} {en : Nat → Bool} {T : Nat → Int} {act : List Nat} {i k : Nat} {hd' : List Int} {en' : Bool} {t : Int} (h : act[i]? = some k) (nd : act.Nodup) :
    (act.map (mkH X hd en T)).set i (mkH X (fu hd k hd') (fu en k en') (fu T k t) k) = act.map (mkH X (fu hd k hd') (fu en k en') (fu T k t)) := by
  refine List.ext_getElem? fun j => ?_
  rw [List.getElem?_set, List.getElem?_map, List.length_map]
  by_cases e : i = j
  · subst e
    rw [if_pos rfl, if_pos (List.getElem?_eq_some_iff.mp h).1, List.getElem?_map, h]
    rfl
  · rw [if_neg e, List.getElem?_map]
    cases ha : act[j]? with
    | none => rfl
    | some a =>
      have ne : a ≠ k := fun z => e (nodup_idx nd h (by rw [ha, z]))
      show some _ = some _
      unfold mkH
      rw [fu_ne ne, fu_ne ne, fu_ne ne]
theorem act_erase {X hd : Nat → List Int} {en : Nat → Bool} {T : Nat → Int} {act : List Nat} {i k : Nat} {hd' : List Int} {en' : Bool} (h : act[i]? = some k) (nd : act.Nodup) :
    k ∉ act.eraseIdx i ∧ (act.map (mkH X hd en T)).eraseIdx i = (act.eraseIdx i).map (mkH X (fu hd k hd') (fu en k en') T) := by
  have hk : k ∉ act.eraseIdx i := fun hm => by
    rw [List.mem_eraseIdx_iff_getElem?] at hm
    obtain ⟨j, hj, e⟩ := hm
    exact hj (nodup_idx nd e h)
  refine ⟨hk, ?_⟩
  rw [map_erase]
  exact mk_congr fun a ha => by
    have ne : a ≠ k := fun z => hk (z ▸ ha)
    rw [fu_ne ne, fu_ne ne]
    exact ⟨rfl, rfl, rfl⟩
theorem good_chunk {n : Int} {xs : List Int} {m : PartM} (g : Good n xs m) (i : Nat) (hi : i < m.xs.length) : (xs[m.s.toNat + i]?).getD 0 = (m.xs[i]?).getD 0 := by
  obtain ⟨_, _, _, g4, _⟩ := g
  have e : m.xs[i]? = xs[m.s.toNat + i]? := by
    conv => lhs; rw [g4]
    rw [List.getElem?_take, if_pos hi, List.getElem?_drop]
  rw [e]
/-- one part comes -/
theorem J.step {N : Nat} {X hd : Nat → List Int} {en : Nat → Bool} {T tl : Nat → Int} {act : List Nat} {fed : List (Nat × PartM)} (j : J N X hd en T tl act fed) {k : Nat} {m : PartM} (hk : k < N) (hX : (X k).length ≤ 200000)
    (g : Good (7 + ((k / 2 : Nat) : Int)) (X k) m) :
    (((en k || m.l) = true ∧ (addK (hd k) m.s m.xs.length).length = (X k).length) →
      ∃ act' T', comeM (N : Int) (act.map (mkH X hd en T)) (keyOf k) m 50 = (act'.map (mkH X (fu hd k []) (fu en k false) T'), some (X k)) ∧ J N X (fu hd k []) (fu en k false) T' (fu tl k (tl k + 1)) act' (fed ++ [(k, m)])) ∧
    (¬ ((en k || m.l) = true ∧ (addK (hd k) m.s m.xs.length).length = (X k).length) →
      ∃ act' T', comeM (N : Int) (act.map (mkH X hd en T)) (keyOf k) m 50 = (act'.map (mkH X (fu hd k (addK (hd k) m.s m.xs.length)) (fu en k (en k || m.l)) T'), none) ∧
        J N X (fu hd k (addK (hd k) m.s m.xs.length)) (fu en k (en k || m.l)) T' tl act' (fed ++ [(k, m)])) := by
  obtain ⟨act1, T1, i, hc, hi, nd1, lt1, inv1, out1⟩ := j.here hk hX
  obtain ⟨I1, t1⟩ := inv1 k (List.mem_of_getElem? hi)
  have hat : (act1.map (mkH X hd en T1))[i]? = some (mkH X hd en T1 k) := by rw [List.getElem?_map, hi]; rfl
  obtain ⟨g1, g2, g3, g4, g5⟩ := id g
  have hst : m.stop = m.s + (m.xs.length : Int) := rfl
  have fit : fitsM (mkH X hd en T1 k) m = true := by
    unfold fitsM mkH
    cases hl : m.l with
    | true =>
      have e5 := g5 hl
      cases he : en k with
      | true => simp [e5]
      | false =>
        have t1' : T1 k ≤ m.stop := by omega
        simp [t1']
    | false =>
      cases he : en k with
      | true => simp [g3]
      | false => simp
  have hs0 : ((m.s.toNat : Nat) : Int) = m.s := by omega
  have hp : addP (pk (X k) (hd k)) m.s m.xs = pk (X k) (addK (hd k) m.s m.xs.length) := by
    have := addP_pk (xs := X k) m.xs (hd k) m.s.toNat (fun a ha => good_chunk g a ha)
    rw [hs0] at this
    exact this
  have ha : addM (mkH X hd en T1 k) m = mkH X (fu hd k (addK (hd k) m.s m.xs.length)) (fu en k (en k || m.l)) (fu T1 k (if m.xs = [] then T1 k else max (T1 k) m.stop)) k := by
    unfold addM mkH
    rw [fu_same, fu_same, fu_same]
    congr 1
    cases hl : m.l with
    | true => simp [g5 hl]
    | false => simp
  have I2 : HInv (addM (mkH X hd en T1 k) m) := hinv_add I1 fit g2 (by omega)
  have wh : wholeM (addM (mkH X hd en T1 k) m) = decide ((en k || m.l) = true ∧ (addK (hd k) m.s m.xs.length).length = (X k).length) := by
    rw [ha]
    unfold wholeM mkH
    simp only [fu_same]
    cases h : (en k || m.l) with
    | true =>
      simp only [if_true, true_and]
      refine decide_eq_decide.mpr ?_
      unfold pk
      rw [List.length_map]
      omega
    | false => simp
  have eM : comeM (N : Int) (act.map (mkH X hd en T)) (keyOf k) m 50 = (if wholeM (addM (mkH X hd en T1 k) m) = true then ((act1.map (mkH X hd en T1)).eraseIdx i, some (octM (addM (mkH X hd en T1 k) m))) else ((act1.map (mkH X hd en T1)).set i (addM (mkH X hd en T1 k) m), none)) := by
    unfold comeM
    rw [hc]
    simp only [hat]
    rw [if_pos fit]
  have lo : ∀ a ∈ addK (hd k) m.s m.xs.length, 0 ≤ a ∧ a < ((X k).length : Int) := by
    intro a ha'
    rw [addK_mem] at ha'
    rcases ha' with h | h
    · have hm : (a, ((X k)[a.toNat]?).getD 0) ∈ pk (X k) (hd k) := List.mem_map.mpr ⟨a, h, rfl⟩
      have q1 := I1.lo _ hm
      have q2 := I1.hi _ hm
      exact ⟨q1, by have : a < T1 k := q2; omega⟩
    · omega
  refine ⟨fun w => ?_, fun w => ?_⟩
  · rw [decide_eq_true w] at wh
    rw [wh, if_pos rfl] at eM
    have eo : octM (addM (mkH X hd en T1 k) m) = X k := by
      obtain ⟨e, e1, _, e3, e4⟩ := hinv_whole I2 wh
      have he : e = (X k).length := by
        rw [ha] at e3
        have e3 : (pk (X k) (fu hd k (addK (hd k) m.s m.xs.length) k)).length = e := e3
        unfold pk at e3
        rw [List.length_map, fu_same, w.2] at e3
        exact e3.symm
      unfold octM
      rw [e1]
      show (List.range ((e : Int)).toNat).map _ = _
      rw [Int.toNat_natCast, he]
      refine List.ext_getElem? fun a => ?_
      rw [List.getElem?_map]
      by_cases hlt : a < (X k).length
      · rw [List.getElem?_range hlt]
        have h4 := e4 a (by omega)
        have e5 : (addM (mkH X hd en T1 k) m).places = pk (X k) (addK (hd k) m.s m.xs.length) := hp
        rw [e5, hasP_iff, pk_keys] at h4
        show some ((getP (addM (mkH X hd en T1 k) m).places (a : Nat)).getD 0) = _
        rw [e5, getP_pk h4 (List.getElem?_eq_getElem hlt), List.getElem?_eq_getElem hlt]
        rfl
      · rw [List.getElem?_eq_none (by simpa using hlt), List.getElem?_eq_none (by omega)]
        rfl
    rw [eo] at eM
    obtain ⟨hno, er⟩ := act_erase (X := X) (hd := hd) (en := en) (T := T1) (hd' := []) (en' := false) hi nd1
    rw [er] at eM
    refine ⟨act1.eraseIdx i, T1, eM, ?_⟩
    have sub : ∀ a ∈ act1.eraseIdx i, a ∈ act1 := fun a h => (List.eraseIdx_sublist _ _).subset h
    refine ⟨List.Nodup.sublist (List.eraseIdx_sublist _ _) nd1, fun a h => lt1 a (sub a h), fun a h => ?_, fun a h1 h2 => ?_, fun a h1 => ?_, fun a h1 => ?_, fun a h1 h2 => ?_⟩
    · have ne : a ≠ k := fun z => hno (z ▸ h)
      have := inv1 a (sub a h)
      unfold mkH at this ⊢
      rw [fu_ne ne, fu_ne ne]
      exact this
    · by_cases e : a = k
      · rw [e, fu_same, fu_same]; exact ⟨rfl, rfl⟩
      · rw [fu_ne e, fu_ne e]
        refine j.out a h1 (out1 a h1 fun hm => h2 ?_)
        rw [List.mem_eraseIdx_iff_getElem?]
        obtain ⟨b, hb⟩ := List.getElem?_of_mem hm
        exact ⟨b, fun z => e (by rw [z, hi] at hb; exact (Option.some.inj hb).symm), hb⟩
    · by_cases e : a = k
      · rw [e, fu_same, fu_same]; simp
      · rw [fu_ne e, fu_ne e]; exact j.nw a h1
    · by_cases e : a = k
      · rw [e, fu_same]; have := j.pos k hk; omega
      · rw [fu_ne e]; exact j.pos a h1
    · by_cases e : a = k
      · rw [e, fu_same] at h2
        have := j.pos k hk
        omega
      · rw [fu_ne e] at h2
        intro q hq hqa
        rw [fu_ne e, fu_ne e]
        rcases List.mem_append.mp hq with hq | hq
        · exact j.cov a h1 h2 q hq hqa
        · rw [List.mem_singleton.mp hq] at hqa
          exact absurd hqa.symm e
  · rw [decide_eq_false w] at wh
    rw [wh, if_neg (by decide)] at eM
    have I3 := I2
    rw [ha] at I3
    rw [ha, act_set hi nd1] at eM
    refine ⟨act1, _, eM, ?_⟩
    refine ⟨nd1, lt1, fun a h => ?_, fun a h1 h2 => ?_, fun a h1 => ?_, j.pos, fun a h1 h2 => ?_⟩
    · by_cases e : a = k
      · rw [e]
        refine ⟨I3, ?_⟩
        rw [fu_same]
        split <;> omega
      · have := inv1 a h
        unfold mkH at this ⊢
        rw [fu_ne e, fu_ne e, fu_ne e]
        exact this
    · have e : a ≠ k := fun z => h2 (by rw [z]; exact List.mem_of_getElem? hi)
      rw [fu_ne e, fu_ne e]
      exact j.out a h1 (out1 a h1 h2)
    · by_cases e : a = k
      · rw [e, fu_same, fu_same]; exact w
      · rw [fu_ne e, fu_ne e]; exact j.nw a h1
    · intro q hq hqa
      by_cases e : a = k
      · subst e
        rw [fu_same, fu_same]
        rcases List.mem_append.mp hq with hq | hq
        · obtain ⟨c1, c2⟩ := j.cov a h1 h2 q hq hqa
          exact ⟨fun b b1 b2 => (addK_mem _ _ _ _).mpr (.inl (c1 b b1 b2)), fun h => by rw [c2 h]; rfl⟩
        · rw [List.mem_singleton.mp hq]
          refine ⟨fun b b1 b2 => (addK_mem _ _ _ _).mpr (.inr ⟨b1, b2⟩), fun h => ?_⟩
          have h : m.l = true := h
          rw [h, Bool.or_true]
      · rw [fu_ne e, fu_ne e]
        rcases List.mem_append.mp hq with hq | hq
        · exact j.cov a h1 h2 q hq hqa
        · rw [List.mem_singleton.mp hq] at hqa
          exact absurd hqa.symm e
/-- all were told -/
theorem J.done {N : Nat} {X hd : Nat → List Int} {en : Nat → Bool} {T tl : Nat → Int} {act : List Nat} {fed : List (Nat × PartM)} (j : J N X hd en T tl act fed) {k : Nat} (hk : k < N)
    (hcov : ∀ a : Nat, a < (X k).length → ∃ q ∈ fed, q.1 = k ∧ q.2.s ≤ (a : Int) ∧ (a : Int) < q.2.stop) (hlast : ∃ q ∈ fed, q.1 = k ∧ q.2.l = true) : tl k ≠ 0 := by
  intro h0
  have c := j.cov k hk h0
  obtain ⟨q, hq, e1, e2⟩ := hlast
  have hen := (c q hq e1).2 e2
  by_cases hm : k ∈ act
  · obtain ⟨I, t⟩ := j.inv k hm
    have nd : (hd k).Nodup := by
      have := I.nd
      have e : ((mkH X hd en T k).places).map (·.1) = hd k := pk_keys _ _
      rw [e] at this
      exact this
    refine j.nw k hk ⟨hen, Nat.le_antisymm (nodup_lt nd fun a ha => ?_) ?_⟩
    · have hmm : (a, ((X k)[a.toNat]?).getD 0) ∈ (mkH X hd en T k).places := List.mem_map.mpr ⟨a, ha, rfl⟩
      have q1 := I.lo _ hmm
      have q2 := I.hi _ hmm
      exact ⟨q1, by have : a < T k := q2; omega⟩
    · have hsub : ((List.range (X k).length).map fun i : Nat => (i : Int)) ⊆ hd k := fun x hx => by
        obtain ⟨a, ha, rfl⟩ := List.mem_map.mp hx
        obtain ⟨q, hq, f1, f2, f3⟩ := hcov a (List.mem_range.mp ha)
        exact (c q hq f1).1 a f2 f3
      have nd2 : ((List.range (X k).length).map fun i : Nat => (i : Int)).Nodup := List.nodup_iff_pairwise_ne.mpr (List.pairwise_map.mpr ((List.nodup_iff_pairwise_ne.mp List.nodup_range).imp fun h z => h (by omega)))
      have := nd2.length_le_of_subset hsub
      simpa using this
  · have := (j.out k hk hm).2
    rw [this] at hen
    cases hen

section
variable {P : Program} {w : World} {K : PySem.W.Frag} {mg : Str → Option Value} {base : Heap}
theorem ok_law_cell {f : Addr} {fd : FuncData} {C_Builder C_Heap C_Part E_InvalidAmount : Addr} (F : Fun K "_law_cell" "_law_cell" s_law_cell f fd) (T : Txt K mg C_Builder C_Heap C_Part E_InvalidAmount)  : FnOk P w K mg base CX0 1 f fd ["script", "k"] (spCellT K) := by
  refine F.ok sc_law_cell (fun vs H Q E h => S2.len h) (fun cdv A outer s H vs Q E hr h => ?_)
  obtain ⟨_, _, rfl, p, ns, k, rfl, rfl, hS, hk0, kk⟩ := h
  refine ⟨_, (pss_cons (ps_if (pt_cmpR op_lt (pv 1) (pe_callB call_len_seq (by rfl) T.b_len PySem.boot_len (pa_cons (pv 0) pa_nil)) (nomark _))
      (pss_one (ps_ret (pe_ix ix_list (pv 0) (pv 1) (fun _ _ => rfl))))
      pss_nil)
      (pss_one (ps_ret pe_int))), ?_⟩
  refine ⟨_, rfl, _, rfl, p, _, rfl, .inl hS, _, _, rfl, rfl, _, rfl, ?_⟩
  refine ite2 (fun hc => ?_) (fun hc => ?_)
  · have hk : k.toNat < (ns.map V.int).length := by have := of_decide_eq_true hc; omega
    obtain ⟨v, hv⟩ : ∃ v, (ns.map V.int)[k.toNat]? = some v := ⟨_, List.getElem?_eq_getElem hk⟩
    obtain ⟨z, hz, rfl⟩ := int_item hv
    exact ⟨_, rfl, _, rfl, p, _, k, _, rfl, rfl, hS, at_of (j := k.toNat) (by omega) hv, kk z⟩
  · exact kk 0
theorem ok_law_start {f : Addr} {fd : FuncData} {C_Builder C_Heap C_Part E_InvalidAmount : Addr} (F : Fun K "_law_start" "_law_start" s_law_start f fd) (T : Txt K mg C_Builder C_Heap C_Part E_InvalidAmount)  : FnOk P w K mg base CX0 1 f fd ["cell", "k"] (spStart) := by
  refine F.ok sc_law_start (fun vs H Q E h => S2.len h) (fun cdv A outer s H vs Q E hr h => ?_)
  obtain ⟨_, _, rfl, c, k, rfl, rfl, hk0, hk, kk⟩ := h
  refine ⟨_, (pss_cons (ps_set (i := 2) sc_law_start.nd rfl (by first | exact Or.inl rfl | exact Or.inr rfl) pe_int)
      (pss_cons (ps_if (pt_chain op_lt op_lt (pe_un un_neg pe_int) (pv 0) pe_int)
      (pss_cons (ps_set (i := 3) sc_law_start.nd rfl (by first | exact Or.inl rfl | exact Or.inr rfl) (pe_op op_mod (pe_callTy call_int1 (by rfl) T.b_int (by decide +kernel) (pa_cons (pe_op op_add (pe_op op_mulW (pv 0) pe_int) (pe_op op_mulW (pe_op op_add (pv 1) pe_int) pe_int)) pa_nil)) (pv 2)))
      (pss_cons (ps_set (i := 4) sc_law_start.nd rfl (by first | exact Or.inl rfl | exact Or.inr rfl) pe_int)
      (pss_cons (ps_for PassesOwn.never rfl (pi_range1 rfl T.b_range (pa_cons pe_int pa_nil)) (pg_name (i := 5) sc_law_start.nd rfl (by first | exact Or.inl rfl | exact Or.inr rfl))
      (pss_cons (ps_set (i := 3) sc_law_start.nd rfl (by first | exact Or.inl rfl | exact Or.inr rfl) (pe_op op_mod (pe_callTy call_int1 (by rfl) T.b_int (by decide +kernel) (pa_cons (pe_op op_add (pe_op op_add (pe_op op_add (pe_op op_mulW (pv 3) (pv 3)) (pe_op op_mulW pe_int (pv 3))) (pv 1)) (pv 5)) pa_nil)) (pv 2)))
      (pss_one (ps_set (i := 4) sc_law_start.nd rfl (by first | exact Or.inl rfl | exact Or.inr rfl) (pe_op op_add (pe_op op_mulW (pv 4) (pv 2)) (pv 3))))))
      (pss_one (ps_ret (pe_lst (pa_cons (pv 4) pa_nil)))))))
      pss_nil)
      (pss_one (ps_ret (pe_lst (pa_cons (pv 0) pa_nil)))))), ?_⟩
  have fin : ∀ (z : Int) (H1 : Hp), Same H H1 → tRet (tLst (tCons (tC (.int z)) tNil)) { nx := fun x H' => Q V.non H', rt := Q } [] H1 := fun z H1 h1 =>
    ⟨sz 1 (by decide), fun p hp => kk p z _ (h1.free hp) (Same.new h1 (h1.free hp)) upd_same⟩
  walk_at "g"
  refine ite2 (fun hc => ?_) (fun hc => ?_)
  · walk_at "g"
    refine ite2 (fun hd => ?_) (fun hd => ?_)
    · have h1 := of_decide_eq_true hc
      have h2 := of_decide_eq_true hd
      walk_at "g"
      refine ⟨wide_mul (a := 64) (b := 40) (by omega) (by decide) (by decide) (by decide) (by decide), ?_⟩
      walk_at "g"
      refine ⟨wide_mul (a := 64) (b := 40) (by omega) (by decide) (by decide) (by decide) (by decide), ?_⟩
      walk_at "g"
      refine for_range (lo := 0) (n := 4) (fun i σ H' => H' = H ∧ ∃ (m n : Int) (v : Option V), σ = [some (.int c), some (.int k), some (.int 618970019642690137449562111), some (.int m), some (.int n), v] ∧ 0 ≤ m ∧ m < 618970019642690137449562111 ∧ n.natAbs < 2 ^ (100 * i + 1))
        ⟨rfl, _, 0, none, rfl, Int.emod_nonneg _ (by decide), Int.emod_lt_of_pos _ (by decide), by decide⟩ ?_ ?_
      · rintro i σ H' hi ⟨rfl, m, n, v, rfl, hm, hm2, hn⟩
        walk_at "g"
        refine ⟨wide_mul (a := 90) (b := 90) (by omega) (by omega) (by decide) (by decide) (by decide), ?_⟩
        walk_at "g"
        refine ⟨wide_mul (a := 90) (b := 90) (by decide) (by omega) (by decide) (by decide) (by decide), ?_⟩
        walk_at "g"
        refine ⟨wide_mul (a := 401) (b := 90) (start_bits hn hi) (by decide) (by decide) (by decide) (by decide), ?_⟩
        walk_at "g"
        exact ⟨_, _, _, rfl, Int.emod_nonneg _ (by decide), Int.emod_lt_of_pos _ (by decide), start_step hn (Int.emod_nonneg _ (by decide)) (Int.emod_lt_of_pos _ (by decide))⟩
      · rintro σ H' ⟨rfl, m, n, v, rfl, hm, hm2, hn⟩
        walk_at "g"
        exact fin n _ (Same.refl _)
    · walk_at "g"
      exact fin c _ (Same.refl _)
  · walk_at "g"
    exact fin c _ (Same.refl _)
theorem ok_law_digit {f : Addr} {fd : FuncData} {C_Builder C_Heap C_Part E_InvalidAmount : Addr} (F : Fun K "_law_digit" "_law_digit" s_law_digit f fd) (T : Txt K mg C_Builder C_Heap C_Part E_InvalidAmount)  : FnOk P w K mg base CX0 1 f fd ["state", "many"] (spDigit) := by
  refine F.ok sc_law_digit (fun vs H Q E h => S2.len h) (fun cdv A outer s H vs Q E hr h => ?_)
  obtain ⟨_, _, rfl, p, n, m, H0, rfl, rfl, hp, h0, h1, k0, kk⟩ := h
  refine ⟨_, (pss_cons (ps_set (i := 2) sc_law_digit.nd rfl (by first | exact Or.inl rfl | exact Or.inr rfl) (pe_op op_mod (pe_callTy call_int1 (by rfl) T.b_int (by decide +kernel) (pa_cons (pe_ix ix_list (pv 0) pe_int (fun _ _ => rfl)) pa_nil)) (pv 1)))
      (pss_cons (ps_asg (pe_op op_fdivN (pe_ix ix_list (pv 0) pe_int (fun _ _ => rfl)) (pv 1)) (pg_sub (pv 0) pe_int set_list))
      (pss_one (ps_ret (pv 2))))), ?_⟩
  walk_at "g"
  refine ⟨p, _, _, _, rfl, rfl, SqL.of hp, at_of (j := 0) rfl rfl, ?_⟩
  walk_at "g"
  refine ⟨(h0 : 0 < m), ?_⟩
  walk_at "g"
  refine ⟨p, _, _, _, rfl, rfl, SqL.of hp, at_of (j := 0) rfl rfl, ?_⟩
  walk_at "g"
  refine ⟨⟨by omega, by omega⟩, ?_⟩
  walk_at "g"
  refine ⟨p, [.int n], 0, 0, rfl, rfl, hp, rfl, ?_⟩
  walk_at "g"
  exact kk _ _ _ (KeepP.upd k0) upd_same (Int.emod_nonneg _ (by omega)) (Int.emod_lt_of_pos _ h0)

def PartAtQ (C : Addr) (H : Hp) (p q : Addr) (m : PartM) : Prop := ∃ dx, H p = some (.ins C dx (fs_Part (.int m.n) (.int m.s) (.ref q) (.bl m.l))) ∧ H q = some (.lst (m.xs.map V.int))
def PartAt (C : Addr) (H : Hp) (p : Addr) (m : PartM) : Prop := ∃ q, PartAtQ C H p q m
theorem PartAt.same {C : Addr} {H H' : Hp} {p : Addr} {m : PartM} (h : PartAt C H p m) (s : Same H H') : PartAt C H' p m := by
  obtain ⟨q, dx, h1, h2⟩ := h
  exact ⟨q, dx, s _ _ h1, s _ _ h2⟩
theorem PartAtQ.same {C : Addr} {H H' : Hp} {p q : Addr} {m : PartM} (h : PartAtQ C H p q m) (s : Same H H') : PartAtQ C H' p q m := by
  obtain ⟨dx, h1, h2⟩ := h
  exact ⟨dx, s _ _ h1, s _ _ h2⟩
theorem PartAtQ.keep {C r : Addr} {H H' : Hp} {p q : Addr} {m : PartM} {xs : List V} (h : PartAtQ C H p q m) (s : KeepP r H H') (hr : H r = some (.lst xs)) (n : q ≠ r) : PartAtQ C H' p q m := by
  obtain ⟨dx, h1, h2⟩ := h
  exact ⟨dx, s _ _ h1 (ne_kind h1 hr fun z => nomatch z), s _ _ h2 n⟩
def spPartI (C : Addr) : Sp := S5 fun a b c d e H Q _ => ∃ (p dx o : Addr) (n s : Int) (xs : List Int) (l : Bool), a = .ref p ∧ b = .int n ∧ c = .int s ∧ d = .ref o ∧ e = .bl l ∧ H p = some (.ins C dx []) ∧ H o = some (.lst (xs.map V.int)) ∧
  ∀ H' q, KeepP p H H' → H q = none → PartAtQ C H' p q ⟨n, s, xs, l⟩ → Q .non H'
theorem ok_Part___init__ {f : Addr} {fd : FuncData} {C_Builder C_Heap C_Part E_InvalidAmount : Addr} (F : Fun K "__init__" "Part.__init__" s_Part___init__ f fd) (T : Txt K mg C_Builder C_Heap C_Part E_InvalidAmount)  : FnOk P w K mg base CX0 1 f fd ["self", "number", "start", "octets", "last"] (spPartI C_Part) := by
  refine F.ok sc_Part___init__ (fun vs H Q E h => S5.len h) (fun cdv A outer s H vs Q E hr h => ?_)
  obtain ⟨_, _, _, _, _, rfl, p, dx, o, n, s, xs, l, rfl, rfl, rfl, rfl, rfl, hp, ho, kk⟩ := h
  refine ⟨_, (pss_cons (ps_fld (pv 0) (pv 1) rfl)
      (pss_cons (ps_fld (pv 0) (pv 2) rfl)
      (pss_cons (ps_fld (pv 0) (pe_callTy call_list_of (by rfl) T.b_list (by decide +kernel) (pa_cons (pv 3) pa_nil)) rfl)
      (pss_one (ps_fld (pv 0) (pv 4) rfl))))), ?_⟩
  refine ⟨_, rfl, _, rfl, _, C_Part, _, _, rfl, hp, T.cl_Part, T.na_Part_number, (by show 0 < 1000; decide), ?_⟩
  rw [fs_Part_new_number]
  refine ⟨_, rfl, _, rfl, _, C_Part, _, _, rfl, upd_same, T.cl_Part, T.na_Part_start, (by show 1 < 1000; decide), ?_⟩
  rw [fs_Part_new_start]
  have n1 : o ≠ p := ne_kind ho hp (fun z => nomatch z)
  walk_at "g"
  refine ⟨o, _, rfl, .inl (SqL.of (upd_get (upd_get ho n1) n1)), fun q hq => ?_⟩
  obtain ⟨n2, hq⟩ := upd_none hq
  obtain ⟨_, hq⟩ := upd_none hq
  refine ⟨_, rfl, _, C_Part, _, _, rfl, upd_get upd_same n2.symm, T.cl_Part, T.na_Part_octets, (by show 2 < 1000; decide), ?_⟩
  rw [fs_Part_new_octets]
  refine ⟨_, rfl, _, rfl, _, C_Part, _, _, rfl, upd_same, T.cl_Part, T.na_Part_last, (by show 3 < 1000; decide), ?_⟩
  rw [fs_Part_new_last]
  exact kk _ q (KeepP.upd (KeepP.upd (Keep.new (KeepP.upd (KeepP.upd KeepP.refl)) hq))) hq ⟨dx, upd_same, upd_get (upd_get upd_same n2) n2⟩
def spPartE (C : Addr) : Sp := S1 fun a H Q _ => ∃ (p : Addr) (m : PartM), a = .ref p ∧ PartAt C H p m ∧ m.xs.length ≤ 100000 ∧ ∀ H', Same H H' → Q (.int m.stop) H'
theorem ok_Part_end {f : Addr} {fd : FuncData} {C_Builder C_Heap C_Part E_InvalidAmount : Addr} (F : Fun K "end" "Part.end" s_Part_end f fd) (T : Txt K mg C_Builder C_Heap C_Part E_InvalidAmount)  : FnOk P w K mg base CX0 1 f fd ["self"] (spPartE C_Part) := by
  refine F.ok sc_Part_end (fun vs H Q E h => S1.len h) (fun cdv A outer s H vs Q E hr h => ?_)
  obtain ⟨_, rfl, p, m, rfl, hp, hl, kk⟩ := h
  refine ⟨_, (pss_one (ps_ret (pe_op op_add (pe_fld (pv 0) rfl) (pe_callB call_len_seq (by rfl) T.b_len PySem.boot_len (pa_cons (pe_fld (pv 0) rfl) pa_nil))))), ?_⟩
  obtain ⟨q, dx, h1, h2⟩ := id hp
  refine ⟨_, rfl, _, C_Part, _, _, _, rfl, h1, T.cl_Part, T.na_Part_start, fs_Part_start, ?_⟩
  refine ⟨_, rfl, _, C_Part, _, _, _, rfl, h1, T.cl_Part, T.na_Part_octets, fs_Part_octets, ?_⟩
  walk_at "g"
  refine ⟨q, _, rfl, .inl (SqL.of h2), ?_⟩
  walk_at "g"
  rw [List.length_map]
  exact kk _ (Same.refl _)
def spCut (C : Addr) : Sp := S2 fun a b H Q _ => ∃ (p q : Addr) (m : PartM) (L : Nat), a = .ref p ∧ b = .int L ∧ PartAtQ C H p q m ∧ m.xs.length ≤ 100000 ∧ 1 ≤ L ∧ L ≤ 100000 ∧
  ∀ H' r ps, Same H H' → H r = none → H' r = some (.lst (ps.map V.ref)) → Paired (fun x y => ∃ z, PartAtQ C H' x z y ∧ (z = q ∨ H z = none)) ps (cutM m L) → Q (.ref r) H'
theorem ok_cut_part {f : Addr} {fd : FuncData} {C_Builder C_Heap C_Part E_InvalidAmount : Addr} (F : Fun K "cut_part" "cut_part" s_cut_part f fd) (T : Txt K mg C_Builder C_Heap C_Part E_InvalidAmount) (c_kw0_Part___init__ : MaK P w K mg base CX0 1 "Part" C_Part 3 ["last"] (fun vs zs => o_kw0_Part___init__ vs [] zs) (spPartI C_Part)) : FnOk P w K mg base (L2.CX P w) 3 f fd ["part", "limit"] (spCut C_Part) := by
  refine F.okX sc_cut_part (fun vs H Q E h => S2.len h) (fun cdv A outer s H vs Q E hr h => ?_)
  obtain ⟨_, _, rfl, p, q, m, L, rfl, rfl, hp, hl, h1, h2, kk⟩ := h
  refine ⟨_, (pss_cons (ps_if (pt_cmpR op_lt (pv 1) pe_int (nomark _))
      (pss_one (ps_raise rfl (takes_of rfl rfl rfl rfl) (pmk_own PySem.F.excBase_ValueError T.x_InvalidAmount T.e_InvalidAmount T.k_InvalidAmount (raises_own T.s_InvalidAmount T.t_InvalidAmount) (by exact rfl))))
      pss_nil)
      (pss_cons (ps_if (pt_cmpR op_le (pe_callB call_len_seq (by rfl) T.b_len PySem.boot_len (pa_cons (pe_fld (pv 0) rfl) pa_nil)) (pv 1) (nomark _))
      (pss_one (ps_ret (pe_lst (pa_cons (pv 0) pa_nil))))
      pss_nil)
      (pss_cons (ps_set (i := 2) sc_cut_part.nd rfl (by first | exact Or.inl rfl | exact Or.inr rfl) (pe_lst pa_nil))
      (pss_cons (ps_for (passes_of rfl) rfl (pi_range3 rfl T.b_range (pa_cons pe_int (pa_cons (pe_callB call_len_seq (by rfl) T.b_len PySem.boot_len (pa_cons (pe_fld (pv 0) rfl) pa_nil)) (pa_cons (pv 1) pa_nil)))) (pg_name (i := 3) sc_cut_part.nd rfl (by first | exact Or.inl rfl | exact Or.inr rfl))
      (pss_cons (ps_set (i := 4) sc_cut_part.nd rfl (by first | exact Or.inl rfl | exact Or.inr rfl) (pe_slice sl_list (pe_fld (pv 0) rfl) (po_some (pv 3)) (po_some (pe_op op_add (pv 3) (pv 1)))))
      (pss_cons (ps_set (i := 5) sc_cut_part.nd rfl (by first | exact Or.inl rfl | exact Or.inr rfl) (pe_cmpR op_ge (pe_op op_add (pv 3) (pv 1)) (pe_callB call_len_seq (by rfl) T.b_len PySem.boot_len (pa_cons (pe_fld (pv 0) rfl) pa_nil)) (nomark _)))
      (pss_one (ps_expr (pe_bm PySem.F.plainAttrs_list PySem.F.slot_list_append PySem.F.type_list_append mt_append (pv 2) (pa_cons (pe_mak c_kw0_Part___init__ hr (by decide) pass0 (pa_cons (pe_fld (pv 0) rfl) (pa_cons (pe_op op_add (pe_fld (pv 0) rfl) (pv 3)) (pa_cons (pv 4) pa_nil))) (pk_cons (pe_and (pe_fld (pv 0) rfl) (pe_one (pv 5))) pk_nil)) pa_nil)))))))
      (pss_one (ps_ret (pv 2))))))), ?_⟩
  obtain ⟨dx, hp1, hp2⟩ := id hp
  walk_at "g"
  refine ite_f (by rw [decide_eq_false]; omega) ?_
  (walk_at "g"; refine ⟨_, C_Part, _, _, _, rfl, hp1, T.cl_Part, T.na_Part_octets, fs_Part_octets, ?_⟩; walk_at "g")
  (walk_at "g"; refine ⟨_, _, rfl, .inl (SqL.of (hp2)), ?_⟩; walk_at "g")
  by_cases hL : m.xs.length ≤ L
  · refine ite_t (by rw [List.length_map, decide_eq_true]; omega) ?_
    walk_at "g"
    refine ⟨sz 1 (by decide), fun r hr => ?_⟩
    refine kk _ r [p] (Same.new (Same.refl _) hr) hr upd_same ?_
    rw [cutM, if_pos hL]
    exact .cons ⟨q, hp.same (Same.new (Same.refl _) hr), .inl rfl⟩ .nil
  refine ite_f (by rw [List.length_map, decide_eq_false]; omega) ?_
  walk_at "g"
  intro r hr
  have s0 : Same H (upd H r (.lst [])) := Same.new (Same.refl _) hr
  (walk_at "g"; refine ⟨_, C_Part, _, _, _, rfl, s0 _ _ hp1, T.cl_Part, T.na_Part_octets, fs_Part_octets, ?_⟩; walk_at "g")
  (walk_at "g"; refine ⟨_, _, rfl, .inl (SqL.of ((s0 _ _ hp2))), ?_⟩; walk_at "g")
  rw [List.length_map]
  refine ⟨0, _, _, _, rfl, rgC_up h1 (by omega) (by omega), ?_⟩
  have nq : q ≠ r := ne_of_none hp2 hr
  have np : p ≠ r := ne_of_none hp1 hr
  refine for_it walk_rangeC (fun i σ H' => KeepP r (upd H r (.lst [])) H' ∧ ∃ (ps : List Addr) (v1 v2 v3 : Option V), σ = [some (.ref p), some (.int L), some (.ref r), v1, v2, v3] ∧ H' r = some (.lst (ps.map V.ref)) ∧
    Paired (fun p m => ∃ q, q ≠ r ∧ H q = none ∧ PartAtQ C_Part H' p q m) ps (((List.range ((m.xs.length + (L - 1)) / L)).map fun i => (⟨m.n, m.s + ((i * L : Nat) : Int), (m.xs.drop (i * L)).take L, m.l && decide (m.xs.length ≤ i * L + L)⟩ : PartM)).take i))
    ⟨KeepP.refl, [], _, _, _, rfl, upd_same, .nil⟩ (fun _ _ _ _ _ => trivial) ?_ ?_
  · rintro i x σ H2 H3 hi ⟨k2, ps, v1, v2, v3, rfl, hr2, hps⟩ ⟨rfl, hx⟩
    have s2 : Same H H3 := KeepP.same k2 s0 hr
    have e1 : (0 : Int) + (i : Nat) * (L : Int) = ((i * L : Nat) : Int) := by simp
    have hx : x = V.int ((i * L : Nat) : Int) := hx.trans (congrArg V.int e1)
    subst hx
    (walk_at "g"; refine ⟨_, C_Part, _, _, _, rfl, s2 _ _ hp1, T.cl_Part, T.na_Part_octets, fs_Part_octets, ?_⟩; walk_at "g")
    refine ⟨q, _, rfl, SqL.of (s2 _ _ hp2), fun o ho => ?_⟩
    have e2 : ((i * L : Nat) : Int) + (L : Int) = ((i * L + L : Nat) : Int) := by omega
    have s3 : Same H (upd H3 o (.lst ((m.xs.map V.int).drop (i * L) |>.take L))) := Same.new s2 (s2.free ho)
    rw [e2, cutV_nat, Nat.add_sub_cancel_left]
    (walk_at "g"; refine ⟨_, C_Part, _, _, _, rfl, s3 _ _ hp1, T.cl_Part, T.na_Part_octets, fs_Part_octets, ?_⟩; walk_at "g")
    (walk_at "g"; refine ⟨_, _, rfl, .inl (SqL.of ((s3 _ _ hp2))), ?_⟩; walk_at "g")
    rw [List.length_map]
    have nr : o ≠ r := fun e => by rw [e, hr2] at ho; cases ho
    refine ⟨.inl ⟨rfl, _, SqL.of (upd_get hr2 nr.symm)⟩, ?_⟩
    (walk_at "g"; refine ⟨_, C_Part, _, _, _, rfl, s3 _ _ hp1, T.cl_Part, T.na_Part_number, fs_Part_number, ?_⟩; walk_at "g")
    (walk_at "g"; refine ⟨_, C_Part, _, _, _, rfl, s3 _ _ hp1, T.cl_Part, T.na_Part_start, fs_Part_start, ?_⟩; walk_at "g")
    (walk_at "g"; refine ⟨_, C_Part, _, _, _, rfl, s3 _ _ hp1, T.cl_Part, T.na_Part_last, fs_Part_last, ?_⟩; walk_at "g")
    obtain ⟨bb, hbb, ebb⟩ : ∃ bb : Bool, bb = (m.l && decide (m.xs.length ≤ i * L + L)) ∧ (m.l = false → bb = false) ∧ (m.l = true → bb = decide ((m.xs.length : Int) ≤ ((i * L : Nat) : Int) + (L : Int))) := by
      refine ⟨_, rfl, fun e => by rw [e]; rfl, fun e => by rw [e, Bool.true_and]; exact decide_eq_decide.mpr (by omega)⟩
    have two : ∀ {A B : Prop} , (m.l = true → A) → (m.l = false → B) → if m.l = true then A else B := fun {A B} h1 h2 => by
      cases e : m.l with
      | true => exact h1 e
      | false => exact h2 e
    have lps : ps.length ≤ i := by
      have := Paired.length hps
      rw [List.length_take] at this
      omega
    have hi2 : i ≤ 200000 := Nat.le_trans (Nat.le_of_lt hi) (Nat.le_trans (Nat.div_le_self _ _) (by omega))
    refine two (fun e => ?_) (fun e => ?_)
    all_goals walk_at "g"
    all_goals intro x dx hx0 hdx hne
    all_goals obtain ⟨nx, hx0'⟩ := upd_none hx0
    all_goals obtain ⟨nd, hdx'⟩ := upd_none hdx
    all_goals refine ⟨_, _, _, _, _, rfl, x, dx, o, m.n, m.s + ((i * L : Nat) : Int), (m.xs.drop (i * L)).take L, bb, rfl, rfl, rfl, rfl, (by first | rw [ebb.1 e] | rw [ebb.2 e]), upd_same, ?_, fun H5 q5 k5 hq5 P5 => ⟨rfl, ?_⟩⟩
    all_goals first
      | (rw [List.map_take, List.map_drop]; exact upd_get (upd_get upd_same nd.symm) nx.symm)
      | skip
    all_goals have s5 : Same (upd H3 o (.lst ((m.xs.map V.int).drop (i * L) |>.take L))) H5 := KeepP.made hx0 hdx k5
    all_goals have s6 : Same H3 H5 := (Same.new (fun _ _ h => h) ho).trans s5
    all_goals walk_at "g"
    all_goals refine ⟨r, _, _, rfl, rfl, s6 _ _ hr2, szl _ (by rw [List.length_map]; omega), ?_⟩
    all_goals have nq5 : q5 ≠ r := Same.ne (Same.new (Same.new (Same.new (Same.refl _) ho) hdx') hx0') hr2 hq5
    all_goals refine ⟨KeepP.upd (k2.trans (Keep.of s6)), ps ++ [x], _, _, _, rfl, by rw [upd_same, List.map_append]; rfl, ?_⟩
    all_goals rw [take_range_map hi]
    all_goals refine Paired.snoc ⟨q5, nq5, s2.free (upd_none (upd_none (upd_none hq5).2).2).2, ?_⟩ (Paired.imp (fun a b h => ?_) hps)
    all_goals first
      | (obtain ⟨qq, n, hn, h⟩ := h; exact ⟨qq, n, hn, (h.same s6).keep (KeepP.upd KeepP.refl) (s6 _ _ hr2) n⟩)
      | (rw [← hbb]; exact P5.keep (KeepP.upd KeepP.refl) (s6 _ _ hr2) nq5)
  · rintro σ H2 ⟨k2, ps, v1, v2, v3, rfl, hr2, hps⟩
    walk_at "g"
    refine kk _ r ps (KeepP.same k2 s0 hr) hr hr2 ?_
    rw [cutM, if_neg hL]
    rw [List.take_of_length_le (by simp)] at hps
    exact Paired.imp (fun a b ⟨q, _, hn, h⟩ => ⟨q, h, .inr hn⟩) hps
def spCutO (C : Addr) : Sp := S3 fun a b c H Q _ => ∃ (o : Addr) (n : Int) (xs : List Int) (L : Nat), a = .int n ∧ b = .ref o ∧ c = .int L ∧ H o = some (.lst (xs.map V.int)) ∧ xs.length ≤ 100000 ∧ 1 ≤ L ∧ L ≤ 100000 ∧
  ∀ H' r ps, Same H H' → H r = none → H' r = some (.lst (ps.map V.ref)) → Paired (fun x y => ∃ z, PartAtQ C H' x z y ∧ H z = none) ps (cutM ⟨n, 0, xs, true⟩ L) → Q (.ref r) H'
theorem ok_cut_octets {f : Addr} {fd : FuncData} {C_Builder C_Heap C_Part E_InvalidAmount : Addr} (F : Fun K "cut_octets" "cut_octets" s_cut_octets f fd) (T : Txt K mg C_Builder C_Heap C_Part E_InvalidAmount) (c_cut_part : Cl P w K mg base (L2.CX P w) 3 "cut_part" (spCut C_Part)) (c_kw0_Part___init__ : MaK P w K mg base CX0 1 "Part" C_Part 3 ["last"] (fun vs zs => o_kw0_Part___init__ vs [] zs) (spPartI C_Part)) : FnOk P w K mg base CX0 4 f fd ["number", "octets", "limit"] (spCutO C_Part) := by
  refine F.ok sc_cut_octets (fun vs H Q E h => S3.len h) (fun cdv A outer s H vs Q E hr h => ?_)
  obtain ⟨_, _, _, rfl, o, n, xs, L, rfl, rfl, rfl, ho, hl, h1, h2, kk⟩ := h
  refine ⟨_, (pss_one (ps_ret (pe_cl c_cut_part hr (by decide) passF (pa_cons (pe_mak c_kw0_Part___init__ hr (by decide) pass0 (pa_cons (pv 0) (pa_cons pe_int (pa_cons (pv 1) pa_nil))) (pk_cons pe_bl pk_nil)) (pa_cons (pv 2) pa_nil))))), ?_⟩
  walk_at "g"
  intro x dx hx0 hdx hne
  have nx : o ≠ x := ne_of_none ho hx0
  have nd : o ≠ dx := ne_of_none ho hdx
  refine ⟨_, _, _, _, _, rfl, x, dx, o, n, 0, xs, true, rfl, rfl, rfl, rfl, rfl, upd_same, upd_get (upd_get ho nd) nx, fun H5 q5 k5 hq5 P5 => ⟨rfl, ?_⟩⟩
  have s5 := KeepP.made hx0 hdx k5
  walk_at "g"
  refine ⟨x, q5, _, L, rfl, rfl, P5, hl, h1, h2, fun H6 r ps s6 hr hr6 hps => kk H6 r ps (s5.trans s6) (s5.free hr) hr6 ?_⟩
  refine Paired.imp (fun a b ⟨z, h, e⟩ => ⟨z, h, ?_⟩) hps
  rcases e with e | e
  · rw [e]
    exact (upd_none (upd_none hq5).2).2
  · exact s5.free e
def HeapAt (C : Addr) (H : Hp) (p d : Addr) (h : HeapM) : Prop := ∃ dx kp, H p = some (.ins C dx (fs_Heap (.ref kp) (.int h.born) (.ref d) (.int h.top) (optI h.fin))) ∧ H kp = some (.tup (h.key.map V.int)) ∧ H d = some (.dK (dP h.places))
theorem HeapAt.same {C : Addr} {H H' : Hp} {p d : Addr} {m : HeapM} (h : HeapAt C H p d m) (s : Same H H') : HeapAt C H' p d m := by
  obtain ⟨dx, q, h1, h2, h3⟩ := h
  exact ⟨dx, q, s _ _ h1, s _ _ h2, s _ _ h3⟩
def spHeapI (C : Addr) : Sp := S3 fun a b c H Q _ => ∃ (p dx kp : Addr) (key : List Int) (n : Int), a = .ref p ∧ b = .ref kp ∧ c = .int n ∧ H p = some (.ins C dx []) ∧ H kp = some (.tup (key.map V.int)) ∧
  ∀ H' d, KeepP p H H' → H d = none → HeapAt C H' p d ⟨key, n, [], 0, none⟩ → Q .non H'
theorem ok_Heap___init__ {f : Addr} {fd : FuncData} {C_Builder C_Heap C_Part E_InvalidAmount : Addr} (F : Fun K "__init__" "Heap.__init__" s_Heap___init__ f fd) (T : Txt K mg C_Builder C_Heap C_Part E_InvalidAmount)  : FnOk P w K mg base CX0 1 f fd ["self", "key", "born"] (spHeapI C_Heap) := by
  refine F.ok sc_Heap___init__ (fun vs H Q E h => S3.len h) (fun cdv A outer s H vs Q E hr h => ?_)
  obtain ⟨_, _, _, rfl, p, dx, kp, key, n, rfl, rfl, rfl, hp, hk, kk⟩ := h
  refine ⟨_, (pss_cons (ps_fld (pv 0) (pv 1) rfl)
      (pss_cons (ps_fld (pv 0) (pv 2) rfl)
      (pss_cons (ps_fld (pv 0) pe_dnewK rfl)
      (pss_cons (ps_fld (pv 0) pe_int rfl)
      (pss_one (ps_fld (pv 0) pe_non rfl)))))), ?_⟩
  (walk_at "g"; refine ⟨_, C_Heap, _, _, rfl, hp, T.cl_Heap, T.na_Heap_key, (by show 0 < 1000; decide), ?_⟩; rw [fs_Heap_new_key])
  (walk_at "g"; refine ⟨_, C_Heap, _, _, rfl, upd_same, T.cl_Heap, T.na_Heap_born, (by show 1 < 1000; decide), ?_⟩; rw [fs_Heap_new_born])
  walk_at "g"
  intro d hd
  obtain ⟨n1, hd⟩ := upd_none hd
  obtain ⟨_, hd⟩ := upd_none hd
  have n2 : kp ≠ p := ne_kind hk hp (fun z => nomatch z)
  (walk_at "g"; refine ⟨_, C_Heap, _, _, rfl, upd_get upd_same n1.symm, T.cl_Heap, T.na_Heap_places, (by show 2 < 1000; decide), ?_⟩; rw [fs_Heap_new_places])
  (walk_at "g"; refine ⟨_, C_Heap, _, _, rfl, upd_same, T.cl_Heap, T.na_Heap_top, (by show 3 < 1000; decide), ?_⟩; rw [fs_Heap_new_top])
  (walk_at "g"; refine ⟨_, C_Heap, _, _, rfl, upd_same, T.cl_Heap, T.na_Heap_end, (by show 4 < 1000; decide), ?_⟩; rw [fs_Heap_new_end])
  refine kk _ d (KeepP.upd (KeepP.upd (KeepP.upd (Keep.new (KeepP.upd (KeepP.upd KeepP.refl)) hd)))) hd ⟨dx, kp, upd_same, ?_, ?_⟩
  · exact upd_get (upd_get (upd_get (upd_get (upd_get (upd_get hk n2) n2) (ne_of_none hk hd)) n2) n2) n2
  · exact upd_get (upd_get (upd_get upd_same n1) n1) n1
def spFits (CP CH : Addr) : Sp := S2 fun a b H Q _ => ∃ (p d q : Addr) (h : HeapM) (m : PartM), a = .ref p ∧ b = .ref q ∧ HeapAt CH H p d h ∧ PartAt CP H q m ∧ m.xs.length ≤ 100000 ∧ ∀ H', Same H H' → Q (.bl (fitsM h m)) H'
theorem ok_Heap_fits {f : Addr} {fd : FuncData} {C_Builder C_Heap C_Part E_InvalidAmount : Addr} (F : Fun K "fits" "Heap.fits" s_Heap_fits f fd) (T : Txt K mg C_Builder C_Heap C_Part E_InvalidAmount) (c_Part_end : Me P w K mg base CX0 1 C_Part "end" (spPartE C_Part)) : FnOk P w K mg base CX0 2 f fd ["self", "part"] (spFits C_Part C_Heap) := by
  refine F.ok sc_Heap_fits (fun vs H Q E h => S2.len h) (fun cdv A outer s H vs Q E hr h => ?_)
  obtain ⟨_, _, rfl, p, d, q, h, m, rfl, rfl, ⟨dx, kp, h1, h2, h3⟩, hm, hl, kk⟩ := h
  refine ⟨_, (pss_cons (ps_if (pt_val (pe_fld (pv 1) rfl))
      (pss_cons (ps_if (pt_cmpR op_notN (pe_fld (pv 0) rfl) pe_non (nomark _))
      (pss_one (ps_ret (pe_cmpR op_eq (pe_me0 c_Part_end hr (by decide) pass0 (pv 1)) (pe_fld (pv 0) rfl) (nomark _))))
      pss_nil)
      (pss_one (ps_ret (pe_cmpR op_le (pe_fld (pv 0) rfl) (pe_me0 c_Part_end hr (by decide) pass0 (pv 1)) (nomark _)))))
      pss_nil)
      (pss_one (ps_ret (pe_or (pe_cmpR op_isN (pe_fld (pv 0) rfl) pe_non (nomark _)) (pe_one (pe_cmpR op_le (pe_me0 c_Part_end hr (by decide) pass0 (pv 1)) (pe_fld (pv 0) rfl) (nomark _))))))), ?_⟩
  obtain ⟨qq, dq, q1, q2⟩ := id hm
  (walk_at "g"; refine ⟨_, C_Part, _, _, _, rfl, q1, T.cl_Part, T.na_Part_last, fs_Part_last, ?_⟩; walk_at "g")
  cases eL : m.l with
  | true =>
    refine ite_t rfl ?_
    (walk_at "g"; refine ⟨_, C_Heap, _, _, _, rfl, h1, T.cl_Heap, T.na_Heap_end, fs_Heap_end, ?_⟩; walk_at "g")
    cases eF : h.fin with
    | some e =>
      refine ite_t rfl ?_
      (walk_at "g"; refine ⟨_, _, _, rfl, q1, fs_Part_no_end, ?_⟩; walk_at "g")
      refine ⟨q, m, rfl, hm, hl, fun H2 s2 => ?_⟩
      (walk_at "g"; refine ⟨_, C_Heap, _, _, _, rfl, s2 _ _ h1, T.cl_Heap, T.na_Heap_end, fs_Heap_end, ?_⟩; walk_at "g")
      rw [eF]
      have fm : fitsM h m = decide (m.stop = e) := by simp only [fitsM, eL, eF]
      rw [fm] at kk
      walk_at "g"
      have e2 : decide (V.int m.stop = optI (some e)) = decide (m.stop = e) := decide_eq_decide.mpr ⟨fun h => V.int.inj h, fun h => by rw [h]; rfl⟩
      rw [e2]
      exact kk _ s2
    | none =>
      refine ite_f rfl ?_
      (walk_at "g"; refine ⟨_, C_Heap, _, _, _, rfl, h1, T.cl_Heap, T.na_Heap_top, fs_Heap_top, ?_⟩; walk_at "g")
      (walk_at "g"; refine ⟨_, _, _, rfl, q1, fs_Part_no_end, ?_⟩; walk_at "g")
      refine ⟨q, m, rfl, hm, hl, fun H2 s2 => ?_⟩
      have e : fitsM h m = decide (h.top ≤ m.stop) := by simp only [fitsM, eL, eF]
      rw [e] at kk
      walk_at "g"
      exact kk _ s2
  | false =>
    refine ite_f rfl ?_
    (walk_at "g"; refine ⟨_, C_Heap, _, _, _, rfl, h1, T.cl_Heap, T.na_Heap_end, fs_Heap_end, ?_⟩; walk_at "g")
    cases eF : h.fin with
    | none =>
      refine ite_t rfl ?_
      have e : fitsM h m = true := by simp only [fitsM, eL, eF]
      rw [e] at kk
      walk_at "g"
      exact kk _ (Same.refl _)
    | some e =>
      refine ite_f rfl ?_
      (walk_at "g"; refine ⟨_, _, _, rfl, q1, fs_Part_no_end, ?_⟩; walk_at "g")
      refine ⟨q, m, rfl, hm, hl, fun H2 s2 => ?_⟩
      (walk_at "g"; refine ⟨_, C_Heap, _, _, _, rfl, s2 _ _ h1, T.cl_Heap, T.na_Heap_end, fs_Heap_end, ?_⟩; walk_at "g")
      rw [eF]
      have e : fitsM h m = decide (m.stop ≤ e) := by simp only [fitsM, eL, eF]
      rw [e] at kk
      walk_at "g"
      exact kk _ s2
def spHAdd (CP CH : Addr) : Sp := S2 fun a b H Q _ => ∃ (p d q : Addr) (h : HeapM) (m : PartM), a = .ref p ∧ b = .ref q ∧ HeapAt CH H p d h ∧ PartAt CP H q m ∧ m.xs.length ≤ 100000 ∧ h.places.length ≤ 200000 ∧
  ∀ H', Keep (fun z => z = p ∨ z = d) H H' → HeapAt CH H' p d (addM h m) → Q .non H'
theorem ok_Heap_add {f : Addr} {fd : FuncData} {C_Builder C_Heap C_Part E_InvalidAmount : Addr} (F : Fun K "add" "Heap.add" s_Heap_add f fd) (T : Txt K mg C_Builder C_Heap C_Part E_InvalidAmount) (c_Part_end : Me P w K mg base CX0 1 C_Part "end" (spPartE C_Part)) : FnOk P w K mg base CX0 2 f fd ["self", "part"] (spHAdd C_Part C_Heap) := by
  refine F.ok sc_Heap_add (fun vs H Q E h => S2.len h) (fun cdv A outer s H vs Q E hr h => ?_)
  obtain ⟨_, _, rfl, p, d, q, h, m, rfl, rfl, ⟨dx, kp, h1, h2, h3⟩, hm, hl, hz, kk⟩ := h
  refine ⟨_, (pss_cons (ps_for PassesOwn.never rfl (pi_enum (by rfl) T.b_enumerate (pa_cons (pe_fld (pv 1) rfl) pa_nil)) (pg_tup rfl (pgs_cons (pg_name (i := 2) sc_Heap_add.nd rfl (by first | exact Or.inl rfl | exact Or.inr rfl)) (pgs_cons (pg_name (i := 3) sc_Heap_add.nd rfl (by first | exact Or.inl rfl | exact Or.inr rfl)) pgs_nil)))
      (pss_one (ps_if (pt_cmp (pc_dnotin (hu_of hr) (pe_op op_add (pe_fld (pv 1) rfl) (pv 2)) (pe_fld (pv 0) rfl)))
      (pss_one (ps_dput (hu_of hr) (pe_fld (pv 0) rfl) (pe_op op_add (pe_fld (pv 1) rfl) (pv 2)) (pv 3) rfl))
      pss_nil)))
      (pss_cons (ps_if (pt_truth (pe_fld (pv 1) rfl) (by intro _; rfl))
      (pss_one (ps_fld (pv 0) (pe_callB (call_max2 rfl) (by rfl) T.b_max (by decide +kernel) (pa_cons (pe_fld (pv 0) rfl) (pa_cons (pe_me0 c_Part_end hr (by decide) pass0 (pv 1)) pa_nil))) rfl))
      pss_nil)
      (pss_one (ps_if (pt_val (pe_fld (pv 1) rfl))
      (pss_one (ps_fld (pv 0) (pe_me0 c_Part_end hr (by decide) pass0 (pv 1)) rfl))
      pss_nil)))), ?_⟩
  obtain ⟨qq, dq, q1, q2⟩ := id hm
  (walk_at "g"; refine ⟨_, C_Part, _, _, _, rfl, q1, T.cl_Part, T.na_Part_octets, fs_Part_octets, ?_⟩; walk_at "g")
  have ndq : q ≠ d := ne_kind q1 h3 (fun z => nomatch z)
  have ndqq : qq ≠ d := ne_kind q2 h3 (fun z => nomatch z)
  have ndp : p ≠ d := ne_kind h1 h3 (fun z => nomatch z)
  have ndk : kp ≠ d := ne_kind h2 h3 (fun z => nomatch z)
  refine ⟨qq, _, rfl, SqL.of q2, for_it walk_enum (fun i σ H' => KeepP d H H' ∧ H' d = some (.dK (dP (addP h.places m.s (m.xs.take i)))) ∧ ∃ v1 v2 : Option V, σ = [some (.ref p), some (.ref q), v1, v2])
    ⟨KeepP.refl, h3, _, _, rfl⟩ (fun i σ H' _ hh => SqL.of (hh.1 _ _ q2 ndqq)) ?_ ?_⟩
  · rintro i x σ H1 H2 hi ⟨k1, hd1, v1, v2, rfl⟩ ⟨t, a, b, rfl, ht, rfl, ha, hb⟩
    have hi2 : i < m.xs.length := by rw [List.length_map] at hi; exact hi
    have ea : a = .int (i : Nat) := (Option.some.inj ha).symm
    obtain ⟨z, hz1, eb⟩ := int_item hb
    subst ea eb
    have nt : t ≠ d := fun e => by rw [e, hd1] at ht; cases ht
    have hd2 := upd_get (u := .tup [.int (i : Nat), .int z]) hd1 nt.symm
    have s2 : KeepP d H (upd H1 t (.tup [.int (i : Nat), .int z])) := k1.trans (Keep.of (Same.new (Same.refl _) ht))
    have hlen := addP_len (m.xs.take i) h.places m.s
    have hlen2 : (m.xs.take i).length ≤ 100000 := by rw [List.length_take]; omega
    refine ⟨_, _, rfl, SqT.of upd_same, rfl, _, _, rfl, _, _, rfl, rfl, ?_⟩
    (walk_at "g"; refine ⟨_, C_Part, _, _, _, rfl, s2 _ _ q1 ndq, T.cl_Part, T.na_Part_start, fs_Part_start, ?_⟩; walk_at "g")
    (walk_at "g"; refine ⟨_, C_Heap, _, _, _, rfl, s2 _ _ h1 ndp, T.cl_Heap, T.na_Heap_places, fs_Heap_places, ?_⟩; walk_at "g")
    refine ⟨d, _, rfl, DGet.k (k := .inl (m.s + (i : Nat))) hd2, ?_⟩
    rw [valV_dP, Option.isSome_map, getP_has]
    rw [addP_take hz1]
    walk_at "g"
    by_cases hh : hasP (addP h.places m.s (m.xs.take i)) (m.s + (i : Nat)) = true
    · refine ite_f (by rw [hh]; rfl) ?_
      refine ⟨s2, ?_, _, _, rfl⟩
      rw [stepP, if_pos hh]
      exact hd2
    · have hh := Bool.eq_false_iff.mpr hh
      refine ite_t (by rw [hh]; rfl) ?_
      (walk_at "g"; refine ⟨_, C_Heap, _, _, _, rfl, s2 _ _ h1 ndp, T.cl_Heap, T.na_Heap_places, fs_Heap_places, ?_⟩; walk_at "g")
      (walk_at "g"; refine ⟨_, C_Part, _, _, _, rfl, s2 _ _ q1 ndq, T.cl_Part, T.na_Part_start, fs_Part_start, ?_⟩; walk_at "g")
      refine ⟨d, _, rfl, DPut.k (k := .inl (m.s + (i : Nat))) hd2 (szl _ (by rw [List.length_map]; omega)), ?_⟩
      refine ⟨KeepP.upd s2, ?_, _, _, rfl⟩
      rw [upd_same, putK_dP hh]
  · rintro σ H1 ⟨k1, hd1, v1, v2, rfl⟩
    rw [List.length_map, List.take_length] at hd1
    have q1' := k1 _ _ q1 ndq
    have q2' := k1 _ _ q2 ndqq
    have k1' : Keep (fun z => z = p ∨ z = d) H H1 := k1.mono fun z e => .inr e
    have h1' := k1 _ _ h1 ndp
    have h2' := k1 _ _ h2 ndk
    have hm1 : PartAt C_Part H1 q m := ⟨qq, dq, q1', q2'⟩
    have nqp : q ≠ p := ne_ins (m := "number") (n := "key") q1 h1 rfl rfl (by decide +kernel)
    have nkp : kp ≠ p := ne_kind h2 h1 (fun z => nomatch z)
    have nqqp : qq ≠ p := ne_kind q2 h1 (fun z => nomatch z)
    walk_at "n"
    refine mid (fun σ' H' => σ' = [some (.ref p), some (.ref q), v1, v2] ∧ Keep (fun z => z = p ∨ z = d) H1 H' ∧ H' p = some (.ins C_Heap dx (fs_Heap (.ref kp) (.int h.born) (.ref d) (.int (addM h m).top) (optI h.fin))) ∧ H' kp = some (.tup (h.key.map V.int)) ∧ PartAt C_Part H' q m ∧ H' d = some (.dK (dP (addP h.places m.s m.xs)))) ?_ (fun tail => ?_)
    · rintro σ2 H2 ⟨rfl, k2, p2, kp2, pm2, d2⟩
      obtain ⟨qq2, dq2, q12, q22⟩ := id pm2
      (walk_at "g"; refine ⟨_, C_Part, _, _, _, rfl, q12, T.cl_Part, T.na_Part_last, fs_Part_last, ?_⟩; walk_at "g")
      cases eL : m.l with
      | false =>
        refine ite_f rfl ?_
        refine kk _ (k1'.trans k2) ⟨dx, kp, ?_, kp2, d2⟩
        rw [p2]
        simp only [addM, eL]
        rfl
      | true =>
        refine ite_t rfl ?_
        (walk_at "g"; refine ⟨_, _, _, rfl, q12, fs_Part_no_end, ?_⟩; walk_at "g")
        refine ⟨q, m, rfl, pm2, hl, fun H3 s3 => ?_⟩
        (walk_at "g"; refine ⟨_, C_Heap, _, _, rfl, s3 _ _ p2, T.cl_Heap, T.na_Heap_end, fs_Heap_len, ?_⟩; rw [fs_Heap_put_end])
        refine kk _ ((k1'.trans k2).trans (Keep.upd (Keep.of s3) (.inl rfl))) ⟨dx, kp, ?_, upd_get (s3 _ _ kp2) nkp, upd_get (s3 _ _ d2) ndp.symm⟩
        rw [upd_same]
        simp only [addM, eL]
        rfl
    · (walk_at "g"; refine ⟨_, C_Part, _, _, _, rfl, q1', T.cl_Part, T.na_Part_octets, fs_Part_octets, ?_⟩; walk_at "g")
      refine ⟨_, .inl ⟨_, SqL.of q2', rfl⟩, ?_⟩
      try dsimp only
      by_cases e0 : m.xs = []
      · refine ite_f (by rw [e0]; rfl) ?_
        refine tail _ _ ⟨rfl, Keep.refl, ?_, h2', hm1, hd1⟩
        rw [h1']
        simp only [addM, if_pos e0]
      · refine ite_t (by cases h : m.xs with | nil => exact absurd h e0 | cons => rfl) ?_
        (walk_at "g"; refine ⟨_, C_Heap, _, _, _, rfl, h1', T.cl_Heap, T.na_Heap_top, fs_Heap_top, ?_⟩; walk_at "g")
        (walk_at "g"; refine ⟨_, _, _, rfl, q1', fs_Part_no_end, ?_⟩; walk_at "g")
        refine ⟨q, m, rfl, hm1, hl, fun H3 s3 => ?_⟩
        (walk_at "g"; refine ⟨_, C_Heap, _, _, rfl, s3 _ _ h1', T.cl_Heap, T.na_Heap_top, fs_Heap_len, ?_⟩; rw [fs_Heap_put_top])
        refine tail _ _ ⟨rfl, Keep.upd (Keep.of s3) (.inl rfl), ?_, upd_get (s3 _ _ h2') nkp, ⟨qq, dq, upd_get (s3 _ _ q1') nqp, upd_get (s3 _ _ q2') nqqp⟩, upd_get (s3 _ _ hd1) ndp.symm⟩
        rw [upd_same]
        have e : (if m.stop > h.top then m.stop else h.top) = (addM h m).top := by
          simp only [addM, if_neg e0]
          omega
        rw [← e]
def spWhole (CH : Addr) : Sp := S1 fun a H Q _ => ∃ (p d : Addr) (h : HeapM), a = .ref p ∧ HeapAt CH H p d h ∧ Q (.bl (wholeM h)) H
theorem ok_Heap_is_whole {f : Addr} {fd : FuncData} {C_Builder C_Heap C_Part E_InvalidAmount : Addr} (F : Fun K "is_whole" "Heap.is_whole" s_Heap_is_whole f fd) (T : Txt K mg C_Builder C_Heap C_Part E_InvalidAmount)  : FnOk P w K mg base CX0 1 f fd ["self"] (spWhole C_Heap) := by
  refine F.ok sc_Heap_is_whole (fun vs H Q E h => S1.len h) (fun cdv A outer s H vs Q E hr h => ?_)
  obtain ⟨_, rfl, p, d, h, rfl, ⟨dx, kp, h1, h2, h3⟩, kk⟩ := h
  refine ⟨_, (pss_one (ps_ret (pe_and (pe_cmpR op_notN (pe_fld (pv 0) rfl) pe_non (nomark _)) (pe_one (pe_cmpR op_eq (pe_callB call_lenD (by rfl) T.b_len PySem.boot_len (pa_cons (pe_fld (pv 0) rfl) pa_nil)) (pe_fld (pv 0) rfl) (nomark _)))))), ?_⟩
  (walk_at "g"; refine ⟨_, C_Heap, _, _, _, rfl, h1, T.cl_Heap, T.na_Heap_end, fs_Heap_end, ?_⟩; walk_at "g")
  cases eF : h.fin with
  | none =>
    refine ite_f rfl ?_
    have e : wholeM h = false := by simp only [wholeM, eF]
    rw [e] at kk
    exact kk
  | some e =>
    refine ite_t rfl ?_
    have we : wholeM h = decide ((h.places.length : Int) = e) := by simp only [wholeM, eF]
    rw [we] at kk
    (walk_at "g"; refine ⟨_, C_Heap, _, _, _, rfl, h1, T.cl_Heap, T.na_Heap_places, fs_Heap_places, ?_⟩; walk_at "g")
    refine ⟨d, _, rfl, h3, ?_⟩
    (walk_at "g"; refine ⟨_, C_Heap, _, _, _, rfl, h1, T.cl_Heap, T.na_Heap_end, fs_Heap_end, ?_⟩; walk_at "g")
    rw [eF, List.length_map]
    walk_at "g"
    have e2 : decide (V.int (h.places.length : Int) = optI (some e)) = decide ((h.places.length : Int) = e) := decide_eq_decide.mpr ⟨fun h => V.int.inj h, fun h => by rw [h]; rfl⟩
    rw [e2]
    exact kk
def spOcts (CH : Addr) : Sp := S1 fun a H Q _ => ∃ (p d : Addr) (h : HeapM) (e : Nat), a = .ref p ∧ HeapAt CH H p d h ∧ h.fin = some (e : Int) ∧ e ≤ 200000 ∧ (∀ i : Nat, i < e → hasP h.places i = true) ∧
  ∀ H' r, Same H H' → H r = none → H' r = some (.lst ((octM h).map V.int)) → Q (.ref r) H'
theorem ok_Heap_octets {f : Addr} {fd : FuncData} {C_Builder C_Heap C_Part E_InvalidAmount : Addr} (F : Fun K "octets" "Heap.octets" s_Heap_octets f fd) (T : Txt K mg C_Builder C_Heap C_Part E_InvalidAmount)  : FnOk P w K mg base CX0 1 f fd ["self"] (spOcts C_Heap) := by
  refine F.ok sc_Heap_octets (fun vs H Q E h => S1.len h) (fun cdv A outer s H vs Q E hr h => ?_)
  obtain ⟨_, rfl, p, d, h, e, rfl, ⟨dx, kp, h1, h2, h3⟩, eF, he, hall, kk⟩ := h
  refine ⟨_, (pss_one (ps_ret (pe_lc (own := [("at", 1)]) rfl sc_Heap_octets.nd (pi_range1 rfl T.b_range (pa_cons (pe_fld (pv 0) rfl) pa_nil)) (blkOk_by (own := [("at", 1)]) (N := ["self", "at"]) (sc := defScope s_Heap_octets) (by decide +kernel)) (fun _ _ _ _ _ => (pg_name (i := 1) sc_Heap_octets.nd rfl (by first | exact Or.inl rfl | exact Or.inr rfl))) (fun _ _ _ _ _ => pts_nil) (fun _ _ _ _ _ => (pe_dget (hu_of hr) (pe_fldK K (pv 0) rfl) (pv 1) (fun _ _ => rfl)))))), ?_⟩
  (walk_at "g"; refine ⟨_, C_Heap, _, _, _, rfl, h1, T.cl_Heap, T.na_Heap_end, fs_Heap_end, ?_⟩; walk_at "g")
  rw [eF]
  have eo : octM h = (List.range e).map fun i => (getP h.places (i : Nat)).getD 0 := by
    unfold octM
    rw [eF]
    rfl
  refine ⟨(e : Int), rfl, by omega, by omega, fun D hD => ?_⟩
  have s0 : Same H (upd H D (.lst [])) := Same.new (Same.refl _) hD
  refine lc_range (lo := 0) (n := e) (fun i H' => KeepP D (upd H D (.lst [])) H' ∧ H' D = some (.lst (((octM h).take i).map V.int))) ⟨KeepP.refl, upd_same⟩ ?_ ?_
  · rintro i H1 hi ⟨k1, d1⟩
    have s1 : Same H H1 := KeepP.same k1 s0 hD
    obtain ⟨z, hz⟩ : ∃ z, getP h.places ((i : Nat) : Int) = some z := by
      have := getP_has ((i : Nat) : Int) h.places
      rw [hall i hi] at this
      exact Option.isSome_iff_exists.mp this
    walk_at "g"
    (walk_at "g"; refine ⟨_, C_Heap, _, _, _, rfl, s1 _ _ h1, T.cl_Heap, T.na_Heap_places, fs_Heap_places, ?_⟩; walk_at "g")
    refine ⟨d, _, rfl, .inl ⟨_, .inl ((0 : Int) + (i : Nat)), .inl (s1 _ _ h3), rfl, by rw [valV_dP, Int.zero_add, hz]; rfl⟩, ?_⟩
    refine ⟨_, d1, szl _ (by rw [List.length_map, List.length_take]; omega), KeepP.upd k1, ?_⟩
    rw [upd_same, eo, take_range_map hi, List.map_append, hz]
    rfl
  · rintro H1 ⟨k1, d1⟩
    refine kk _ D (KeepP.same k1 s0 hD) hD ?_
    rw [d1, List.take_of_length_le]
    rw [eo, List.length_map, List.length_range]
    exact Nat.le_refl _
def BldAt (CB CH : Addr) (H : Hp) (b l : Addr) (most life : Int) (ps : List (Addr × Addr)) (hs : List HeapM) : Prop := (∃ dx, H b = some (.ins CB dx (fs_Builder (.int most) (.int life) (.ref l)))) ∧ H l = some (.lst (ps.map fun q => V.ref q.1)) ∧
  Paired (fun q h => HeapAt CH H q.1 q.2 h) ps hs ∧ (ps.map (·.1)).Nodup ∧ (ps.map (·.2)).Nodup
/-- the addresses that a builder owns -/
def foot (b l : Addr) (ps : List (Addr × Addr)) (x : Addr) : Prop := x = b ∨ x = l ∨ ∃ q ∈ ps, x = q.1 ∨ x = q.2
def spBldI (CB CH : Addr) : Sp := S3 fun a b c H Q _ => ∃ (p dx : Addr) (most life : Int), a = .ref p ∧ b = .int most ∧ c = .int life ∧ H p = some (.ins CB dx []) ∧ 1 ≤ most ∧ 0 ≤ life ∧
  ∀ H' l, KeepP p H H' → H l = none → BldAt CB CH H' p l most life [] [] → Q .non H'
theorem ok_Builder___init__ {f : Addr} {fd : FuncData} {C_Builder C_Heap C_Part E_InvalidAmount : Addr} (F : Fun K "__init__" "Builder.__init__" s_Builder___init__ f fd) (T : Txt K mg C_Builder C_Heap C_Part E_InvalidAmount)  : FnOk P w K mg base (L2.CX P w) 1 f fd ["self", "most", "life"] (spBldI C_Builder C_Heap) := by
  refine F.okX sc_Builder___init__ (fun vs H Q E h => S3.len h) (fun cdv A outer s H vs Q E hr h => ?_)
  obtain ⟨_, _, _, rfl, p, dx, most, life, rfl, rfl, rfl, hp, hm, hl, kk⟩ := h
  refine ⟨_, (pss_cons (ps_if (PW.pt (pw_or (pt_cmpR op_lt (pv 1) pe_int (nomark _)) (pw_or1 (pt_cmpR op_lt (pv 2) pe_int (nomark _)))))
      (pss_one (ps_raise rfl (takes_of rfl rfl rfl rfl) (pmk_own PySem.F.excBase_ValueError T.x_InvalidAmount T.e_InvalidAmount T.k_InvalidAmount (raises_own T.s_InvalidAmount T.t_InvalidAmount) (by exact rfl))))
      pss_nil)
      (pss_cons (ps_fld (pv 0) (pv 1) rfl)
      (pss_cons (ps_fld (pv 0) (pv 2) rfl)
      (pss_one (ps_fld (pv 0) (pe_lst pa_nil) rfl))))), ?_⟩
  walk_at "g"
  refine ite_f (by rw [decide_eq_false]; omega) ?_
  walk_at "g"
  refine ite_f (by rw [decide_eq_false]; omega) ?_
  (walk_at "g"; refine ⟨_, C_Builder, _, _, rfl, hp, T.cl_Builder, T.na_Builder_most, (by show 0 < 1000; decide), ?_⟩; rw [fs_Builder_new_most])
  (walk_at "g"; refine ⟨_, C_Builder, _, _, rfl, upd_same, T.cl_Builder, T.na_Builder_life, (by show 1 < 1000; decide), ?_⟩; rw [fs_Builder_new_life])
  walk_at "g"
  intro l hl
  obtain ⟨n1, hl⟩ := upd_none hl
  obtain ⟨_, hl⟩ := upd_none hl
  (walk_at "g"; refine ⟨_, C_Builder, _, _, rfl, upd_get upd_same n1.symm, T.cl_Builder, T.na_Builder_heaps, (by show 2 < 1000; decide), ?_⟩; rw [fs_Builder_new_heaps])
  exact kk _ l (KeepP.upd (Keep.new (KeepP.upd (KeepP.upd KeepP.refl)) hl)) hl ⟨⟨dx, upd_same⟩, upd_get upd_same n1, .nil, List.nodup_nil, List.nodup_nil⟩
def spPlace (CB CH : Addr) : Sp := S2 fun a b H Q _ => ∃ (p l kp : Addr) (most life : Int) (ps : List (Addr × Addr)) (hs : List HeapM) (key : List Int), a = .ref p ∧ b = .ref kp ∧ BldAt CB CH H p l most life ps hs ∧ H kp = some (.tup (key.map V.int)) ∧
  ∀ H', Same H H' → Q (match placeM hs key with | some i => .int (i : Nat) | none => .non) H'
theorem ok_Builder_place_of {f : Addr} {fd : FuncData} {C_Builder C_Heap C_Part E_InvalidAmount : Addr} (F : Fun K "place_of" "Builder.place_of" s_Builder_place_of f fd) (T : Txt K mg C_Builder C_Heap C_Part E_InvalidAmount)  : FnOk P w K mg base CX0 1 f fd ["self", "key"] (spPlace C_Builder C_Heap) := by
  refine F.ok sc_Builder_place_of (fun vs H Q E h => S2.len h) (fun cdv A outer s H vs Q E hr h => ?_)
  obtain ⟨_, _, rfl, p, l, kp, most, life, ps, hs, key, rfl, rfl, ⟨⟨dx, h1⟩, h2, h3, h4, h5⟩, hk, kk⟩ := h
  refine ⟨_, (pss_cons (ps_for PassesOwn.never rfl (pi_enum (by rfl) T.b_enumerate (pa_cons (pe_fld (pv 0) rfl) pa_nil)) (pg_tup rfl (pgs_cons (pg_name (i := 2) sc_Builder_place_of.nd rfl (by first | exact Or.inl rfl | exact Or.inr rfl)) (pgs_cons (pg_name (i := 3) sc_Builder_place_of.nd rfl (by first | exact Or.inl rfl | exact Or.inr rfl)) pgs_nil)))
      (pss_one (ps_if (pt_cmpR (op_eqD hr.units) (pe_fld (pv 3) rfl) (pv 1) (nomark _))
      (pss_one (ps_ret (pv 2)))
      pss_nil)))
      (pss_one (ps_ret pe_non))), ?_⟩
  (walk_at "g"; refine ⟨_, C_Builder, _, _, _, rfl, h1, T.cl_Builder, T.na_Builder_heaps, fs_Builder_heaps, ?_⟩; walk_at "g")
  refine ⟨l, _, rfl, SqL.of h2, for_it walk_enum (fun i σ H' => Same H H' ∧ (∃ v1 v2 : Option V, σ = [some (.ref p), some (.ref kp), v1, v2]) ∧ ∀ j x, j < i → hs[j]? = some x → x.key ≠ key)
    ⟨Same.refl _, ⟨_, _, rfl⟩, fun j _ hj => absurd hj (Nat.not_lt_zero _)⟩ (fun i σ H' _ hh => SqL.of (hh.1 _ _ h2)) ?_ ?_⟩
  · rintro i x σ H1 H2 hi ⟨s1, ⟨v1, v2, rfl⟩, hno⟩ ⟨t, a, b, rfl, ht, rfl, ha, hb⟩
    have ea : a = .int (i : Nat) := (Option.some.inj ha).symm
    have hb : (ps.map fun q => V.ref q.1)[i]? = some b := hb
    rw [List.getElem?_map] at hb
    cases hq : ps[i]? with
    | none => rw [hq] at hb; cases hb
    | some q =>
      rw [hq] at hb
      have eb : b = .ref q.1 := (Option.some.inj hb).symm
      subst ea eb
      obtain ⟨x, hx, dx2, kp2, x1, x2, x3⟩ := Paired.get h3 hq
      have s2 : Same H (upd H1 t (.tup [.int (i : Nat), .ref q.1])) := Same.new s1 (s1.free ht)
      refine ⟨_, _, rfl, SqT.of upd_same, rfl, _, _, rfl, _, _, rfl, rfl, ?_⟩
      (walk_at "g"; refine ⟨_, C_Heap, _, _, _, rfl, s2 _ _ x1, T.cl_Heap, T.na_Heap_key, fs_Heap_key, ?_⟩; walk_at "g")
      refine eqD_of (rp_tints (SqT.of (s2 _ _ x2))) (rp_tints (SqT.of (s2 _ _ hk))) (good_tints _) (good_tints _) ?_
      rw [tul_eq]
      walk_at "g"
      by_cases e : x.key = key
      · refine ite_t (decide_eq_true e) ?_
        have ep : placeM hs key = some i := by
          unfold placeM
          rw [List.findIdx?_eq_some_iff_getElem]
          obtain ⟨hlt, hget⟩ := List.getElem?_eq_some_iff.mp hx
          refine ⟨hlt, by rw [hget]; exact decide_eq_true e, fun j hj => ?_⟩
          rw [decide_eq_true_eq]
          exact hno j _ hj (List.getElem?_eq_getElem (by omega))
        rw [ep] at kk
        walk_at "g"
        exact kk _ s2
      · refine ite_f (decide_eq_false e) ?_
        refine ⟨s2, ⟨_, _, rfl⟩, fun j y hj hy => ?_⟩
        by_cases hji : j = i
        · subst hji
          rw [hx] at hy
          cases hy
          exact e
        · exact hno j y (by omega) hy
  · rintro σ H1 ⟨s1, ⟨v1, v2, rfl⟩, hno⟩
    have ep : placeM hs key = none := by
      unfold placeM
      rw [List.findIdx?_eq_none_iff]
      intro x hx
      obtain ⟨j, hj⟩ := List.getElem?_of_mem hx
      rw [decide_eq_false_iff_not]
      refine hno j x ?_ hj
      rw [List.length_map, Paired.len h3]
      exact (List.getElem?_eq_some_iff.mp hj).1
    rw [ep] at kk
    exact kk _ s1
section
variable {CB CH : Addr} {H H' : Hp} {b l : Addr} {most life : Int} {ps : List (Addr × Addr)} {hs : List HeapM}
theorem fst_idx {q r : Addr × Addr} {i j : Nat} (n : (ps.map (·.1)).Nodup) (h1 : ps[i]? = some q) (h2 : ps[j]? = some r) (e : q.1 = r.1) : i = j :=
  nodup_idx n (x := q.1) (by rw [List.getElem?_map, h1]; rfl) (by rw [List.getElem?_map, h2, e]; rfl)
theorem snd_idx {q r : Addr × Addr} {i j : Nat} (n : (ps.map (·.2)).Nodup) (h1 : ps[i]? = some q) (h2 : ps[j]? = some r) (e : q.2 = r.2) : i = j :=
  nodup_idx n (x := q.2) (by rw [List.getElem?_map, h1]; rfl) (by rw [List.getElem?_map, h2, e]; rfl)
theorem BldAt.same (h : BldAt CB CH H b l most life ps hs) (s : Same H H') : BldAt CB CH H' b l most life ps hs := by
  obtain ⟨⟨dx, h1⟩, h2, h3, h4, h5⟩ := h
  exact ⟨⟨dx, s _ _ h1⟩, s _ _ h2, Paired.imp (fun _ _ q => q.same s) h3, h4, h5⟩
/-- one heap changes -/
theorem BldAt.upd1 (h : BldAt CB CH H b l most life ps hs) {i : Nat} {q : Addr × Addr} {x y : HeapM} (hq : ps[i]? = some q) (hx : hs[i]? = some x) (k : Keep (fun z => z = q.1 ∨ z = q.2) H H') (hy : HeapAt CH H' q.1 q.2 y) :
    BldAt CB CH H' b l most life ps (hs.set i y) := by
  obtain ⟨⟨dx, h1⟩, h2, h3, h4, h5⟩ := h
  obtain ⟨_, hx', dq, kq, q1, q2, q3⟩ := Paired.get h3 hq
  refine ⟨⟨dx, k _ _ h1 ?_⟩, k _ _ h2 ?_, Paired.of_get (by rw [List.length_set]; exact Paired.len h3) fun j r z hr hz => ?_, h4, h5⟩
  · rintro (e | e)
    · exact ne_ins (m := "most") (n := "key") h1 q1 rfl rfl (by decide +kernel) e
    · exact ne_kind h1 q3 (fun z => nomatch z) e
  · rintro (e | e)
    · exact ne_kind h2 q1 (fun z => nomatch z) e
    · exact ne_kind h2 q3 (fun z => nomatch z) e
  · rw [List.getElem?_set] at hz
    by_cases e : i = j
    · subst e
      rw [if_pos rfl, if_pos (List.getElem?_eq_some_iff.mp hx).1] at hz
      rw [hq] at hr
      cases hr; cases hz
      exact hy
    · rw [if_neg e] at hz
      obtain ⟨_, hr', dr, kr, r1, r2, r3⟩ := Paired.get h3 hr
      rw [hz] at hr'
      cases hr'
      refine ⟨dr, kr, k _ _ r1 ?_, k _ _ r2 ?_, k _ _ r3 ?_⟩
      · rintro (z | z)
        · exact e (fst_idx h4 hq hr z.symm)
        · exact ne_kind r1 q3 (fun z => nomatch z) z
      · rintro (z | z)
        · exact ne_kind r2 q1 (fun z => nomatch z) z
        · exact ne_kind r2 q3 (fun z => nomatch z) z
      · rintro (z | z)
        · exact ne_kind r3 q1 (fun z => nomatch z) z
        · exact e (snd_idx h5 hq hr z.symm)
/-- the list of heaps changes -/
theorem BldAt.lst (h : BldAt CB CH H b l most life ps hs) {ps' : List (Addr × Addr)} {hs' : List HeapM} (hp : Paired (fun q h => HeapAt CH H q.1 q.2 h) ps' hs') (n1 : (ps'.map (·.1)).Nodup) (n2 : (ps'.map (·.2)).Nodup) :
    BldAt CB CH (upd H l (.lst (ps'.map fun q => V.ref q.1))) b l most life ps' hs' := by
  obtain ⟨⟨dx, h1⟩, h2, h3, h4, h5⟩ := h
  refine ⟨⟨dx, upd_get h1 (ne_kind h1 h2 fun z => nomatch z)⟩, upd_same, Paired.imp (fun q x hx => ?_) hp, n1, n2⟩
  obtain ⟨dr, kr, r1, r2, r3⟩ := hx
  exact ⟨dr, kr, upd_get r1 (ne_kind r1 h2 fun z => nomatch z), upd_get r2 (ne_kind r2 h2 fun z => nomatch z), upd_get r3 (ne_kind r3 h2 fun z => nomatch z)⟩
theorem BldAt.erase (h : BldAt CB CH H b l most life ps hs) (i : Nat) : BldAt CB CH (upd H l (.lst ((ps.eraseIdx i).map fun q => V.ref q.1))) b l most life (ps.eraseIdx i) (hs.eraseIdx i) := by
  refine h.lst (Paired.erase i h.2.2.1) ?_ ?_
  · exact List.Nodup.sublist (List.Sublist.map _ (List.eraseIdx_sublist ps i)) h.2.2.2.1
  · exact List.Nodup.sublist (List.Sublist.map _ (List.eraseIdx_sublist ps i)) h.2.2.2.2
theorem BldAt.push (h : BldAt CB CH H b l most life ps hs) {x d : Addr} {y : HeapM} (hy : HeapAt CH H x d y) (nx : ∀ q ∈ ps, q.1 ≠ x) (nd : ∀ q ∈ ps, q.2 ≠ d) :
    BldAt CB CH (upd H l (.lst ((ps ++ [(x, d)]).map fun q => V.ref q.1))) b l most life (ps ++ [(x, d)]) (hs ++ [y]) := by
  refine h.lst (TW.Paired.snoc (a := (x, d)) hy h.2.2.1) ?_ ?_
  · rw [List.map_append, List.nodup_append]
    refine ⟨h.2.2.2.1, by simp, ?_⟩
    intro a ha b hb
    obtain ⟨q, hq, rfl⟩ := List.mem_map.mp ha
    simp at hb
    subst hb
    exact nx q hq
  · rw [List.map_append, List.nodup_append]
    refine ⟨h.2.2.2.2, by simp, ?_⟩
    intro a ha b hb
    obtain ⟨q, hq, rfl⟩ := List.mem_map.mp ha
    simp at hb
    subst hb
    exact nd q hq
theorem BldAt.some (h : BldAt CB CH H b l most life ps hs) {x : Addr} (hx : foot b l ps x) : ∃ o, H x = some o := by
  obtain ⟨⟨dx, h1⟩, h2, h3, h4, h5⟩ := h
  rcases hx with rfl | rfl | ⟨q, hq, e⟩
  · exact ⟨_, h1⟩
  · exact ⟨_, h2⟩
  · obtain ⟨j, hj⟩ := List.getElem?_of_mem hq
    obtain ⟨_, _, dq, kq, q1, q2, q3⟩ := Paired.get h3 hj
    rcases e with rfl | rfl
    · exact ⟨_, q1⟩
    · exact ⟨_, q3⟩
end
def spAdd (CB CH CP : Addr) : Sp := S5 fun a b c d e H Q _ => ∃ (p l q qq : Addr) (most life snd tgt now : Int) (ps : List (Addr × Addr)) (hs : List HeapM) (m : PartM), a = .ref p ∧ b = .int snd ∧ c = .int tgt ∧ d = .ref q ∧ e = .int now ∧
  BldAt CB CH H p l most life ps hs ∧ PartAtQ CP H q qq m ∧ qq ≠ l ∧ m.xs.length ≤ 100000 ∧ 0 ≤ m.s ∧ m.stop ≤ 200000 ∧ (∀ h ∈ hs, HInv h) ∧ hs.length ≤ 1000 ∧ 1 ≤ most ∧
  ∀ H' ps' r, BldAt CB CH H' p l most life ps' (comeM most hs [snd, tgt, m.n] m now).1 → Keep (foot p l ps) H H' → (∀ x, foot p l ps' x → foot p l ps x ∨ H x = none) →
    (match (comeM most hs [snd, tgt, m.n] m now).2 with | none => r = .non | some ys => ∃ o, r = .ref o ∧ H' o = some (.lst (ys.map V.int))) → Q r H'
theorem ok_Builder_add {f : Addr} {fd : FuncData} {C_Builder C_Heap C_Part E_InvalidAmount : Addr} (F : Fun K "add" "Builder.add" s_Builder_add f fd) (T : Txt K mg C_Builder C_Heap C_Part E_InvalidAmount) (c_Builder_place_of : Me P w K mg base CX0 1 C_Builder "place_of" (spPlace C_Builder C_Heap)) (c_Heap___init__ : Ma P w K mg base CX0 1 "Heap" C_Heap (spHeapI C_Heap)) (c_Heap_fits : Me P w K mg base CX0 2 C_Heap "fits" (spFits C_Part C_Heap)) (c_Heap_add : Me P w K mg base CX0 2 C_Heap "add" (spHAdd C_Part C_Heap)) (c_Heap_is_whole : Me P w K mg base CX0 1 C_Heap "is_whole" (spWhole C_Heap)) (c_Heap_octets : Me P w K mg base CX0 1 C_Heap "octets" (spOcts C_Heap)) : FnOk P w K mg base CX0 3 f fd ["self", "sender", "target", "part", "now"] (spAdd C_Builder C_Heap C_Part) := by
  refine F.ok sc_Builder_add (fun vs H Q E h => S5.len h) (fun cdv A outer s H vs Q E hr h => ?_)
  obtain ⟨_, _, _, _, _, rfl, p, l, q, qq, most, life, snd, tgt, now, ps, hs, m, rfl, rfl, rfl, rfl, rfl, hb, hp, nql, hl, hs0, hs1, hinv, hlen, hmost, kk⟩ := h
  refine ⟨_, (pss_cons (ps_set (i := 5) sc_Builder_add.nd rfl (by first | exact Or.inl rfl | exact Or.inr rfl) (pe_tup (pa_cons (pv 1) (pa_cons (pv 2) (pa_cons (pe_fld (pv 3) rfl) pa_nil)))))
      (pss_cons (ps_set (i := 6) sc_Builder_add.nd rfl (by first | exact Or.inl rfl | exact Or.inr rfl) (pe_me c_Builder_place_of hr (by decide) pass0 (pv 0) (pa_cons (pv 5) pa_nil)))
      (pss_cons (ps_if (pt_cmpR op_isN (pv 6) pe_non (nomark _))
      (pss_cons (ps_if (pt_cmpR op_eq (pe_callB call_len_seq (by rfl) T.b_len PySem.boot_len (pa_cons (pe_fld (pv 0) rfl) pa_nil)) (pe_fld (pv 0) rfl) (nomark _))
      (pss_one (ps_delL (pe_fld (pv 0) rfl) pe_int))
      pss_nil)
      (pss_cons (ps_expr (pe_bm PySem.F.plainAttrs_list PySem.F.slot_list_append PySem.F.type_list_append mt_append (pe_fld (pv 0) rfl) (pa_cons (pe_ma c_Heap___init__ hr (by decide) pass0 (pa_cons (pv 5) (pa_cons (pv 4) pa_nil))) pa_nil)))
      (pss_one (ps_set (i := 6) sc_Builder_add.nd rfl (by first | exact Or.inl rfl | exact Or.inr rfl) (pe_op op_sub (pe_callB call_len_seq (by rfl) T.b_len PySem.boot_len (pa_cons (pe_fld (pv 0) rfl) pa_nil)) pe_int)))))
      pss_nil)
      (pss_cons (ps_set (i := 7) sc_Builder_add.nd rfl (by first | exact Or.inl rfl | exact Or.inr rfl) (pe_ix ix_list (pe_fld (pv 0) rfl) (pv 6) (fun _ _ => rfl)))
      (pss_cons (ps_if (pt_not (pt_val (pe_me c_Heap_fits hr (by decide) pass0 (pv 7) (pa_cons (pv 3) pa_nil))))
      (pss_cons (ps_delL (pe_fld (pv 0) rfl) (pv 6))
      (pss_one (ps_ret pe_non)))
      pss_nil)
      (pss_cons (ps_expr (pe_me c_Heap_add hr (by decide) pass0 (pv 7) (pa_cons (pv 3) pa_nil)))
      (pss_cons (ps_if (pt_not (pt_val (pe_me0 c_Heap_is_whole hr (by decide) pass0 (pv 7))))
      (pss_one (ps_ret pe_non))
      pss_nil)
      (pss_cons (ps_delL (pe_fld (pv 0) rfl) (pv 6))
      (pss_one (ps_ret (pe_me0 c_Heap_octets hr (by decide) pass0 (pv 7)))))))))))), ?_⟩
  obtain ⟨dq, q1, q2⟩ := id hp
  walk_at "g"
  (walk_at "g"; refine ⟨_, C_Part, _, _, _, rfl, q1, T.cl_Part, T.na_Part_number, fs_Part_number, ?_⟩; walk_at "g")
  refine ⟨(by show 3 ≤ sizeLine; decide), fun kt hkt => ?_⟩
  walk_at "n"
  have s1 : Same H (upd H kt (.tup [.int snd, .int tgt, .int m.n])) := Same.new (Same.refl _) hkt
  obtain ⟨⟨dx, b1⟩, b2, b3, b4, b5⟩ := id hb
  (walk_at "g"; refine ⟨_, _, _, rfl, s1 _ _ b1, fs_Builder_no_place_of, ?_⟩; walk_at "g")
  refine ⟨p, l, kt, most, life, ps, hs, [snd, tgt, m.n], rfl, rfl, hb.same s1, upd_same, fun H2 s2 => ?_⟩
  have s3 := s1.trans s2
  have hk3 : H2 kt = some (.tup ([snd, tgt, m.n].map V.int)) := s2 _ _ upd_same
  walk_at "n"
  have ekey : ([.int snd, .int tgt, .int m.n] : List V) = [snd, tgt, m.n].map V.int := rfl
  generalize hkey : [snd, tgt, m.n] = key at kk hk3 ⊢
  generalize hc : comeH most hs key now = cc at kk
  have nqf : ∀ x, foot p l ps x → q ≠ x ∧ qq ≠ x := by
    rintro x (rfl | rfl | ⟨z, hz, e⟩)
    · exact ⟨ne_ins (m := "number") (n := "most") q1 b1 rfl rfl (by decide +kernel), ne_kind q2 b1 (fun z => nomatch z)⟩
    · exact ⟨ne_kind q1 b2 (fun z => nomatch z), nql⟩
    · obtain ⟨j, hj⟩ := List.getElem?_of_mem hz
      obtain ⟨_, _, dz, kz, z1, z2, z3⟩ := Paired.get b3 hj
      rcases e with rfl | rfl
      · exact ⟨ne_ins (m := "number") (n := "key") q1 z1 rfl rfl (by decide +kernel), ne_kind q2 z1 fun z => nomatch z⟩
      · exact ⟨ne_kind q1 z3 (fun z => nomatch z), ne_kind q2 z3 (fun z => nomatch z)⟩
  have pk : ∀ {H' : Hp}, Keep (foot p l ps) H H' → PartAtQ C_Part H' q qq m := fun {H'} k => ⟨dq, k _ _ q1 fun z => (nqf _ z).1 rfl, k _ _ q2 fun z => (nqf _ z).2 rfl⟩
  have grow : ∀ {H' : Hp} {x : Addr}, Keep (foot p l ps) H H' → H' x = none → foot p l ps x ∨ H x = none := fun {H' x} k h => by
    by_cases f : foot p l ps x
    · exact .inl f
    · exact .inr (k.free h f)
  refine mid (fun σ' H' => ∃ ps1, σ' = [some (.ref p), some (.int snd), some (.int tgt), some (.ref q), some (.int now), some (.ref kt), some (.int (cc.2 : Nat)), none] ∧ BldAt C_Builder C_Heap H' p l most life ps1 cc.1 ∧
    Keep (foot p l ps) H H' ∧ (∀ x, foot p l ps1 x → foot p l ps x ∨ H x = none)) ?_ (fun tail => ?_)
  · rintro σ3 H3 ⟨ps1, rfl, B, k3, g3⟩
    obtain ⟨hh, hat, hmem⟩ := comeH_at (most := most) (hs := hs) (key := key) (now := now)
    rw [hc] at hat
    have I0 : HInv hh := hmem.elim (hinv _) fun e => by rw [e]; exact hinv_new _ _
    have eM : comeM most hs key m now = (if fitsM hh m = true then (if wholeM (addM hh m) = true then (cc.1.eraseIdx cc.2, some (octM (addM hh m))) else (cc.1.set cc.2 (addM hh m), none)) else (cc.1.eraseIdx cc.2, none)) := by
      unfold comeM
      rw [hc]
      simp only [hat]
    rw [eM] at kk
    obtain ⟨⟨dxb, c1⟩, c2, c3, c4, c5⟩ := id B
    obtain ⟨z, hz, zat⟩ := Paired.get' c3 hat
    have hi : cc.2 < ps1.length := (List.getElem?_eq_some_iff.mp hz).1
    have hil : (cc.2 : Int) < ((ps1.map fun q => V.ref q.1).length : Nat) := by rw [List.length_map]; omega
    have hz' : (ps1.map fun q => V.ref q.1)[cc.2]? = some (.ref z.1) := by rw [List.getElem?_map, hz]; rfl
    have fz1 : foot p l ps1 z.1 := .inr (.inr ⟨z, List.mem_of_getElem? hz, .inl rfl⟩)
    have fz2 : foot p l ps1 z.2 := .inr (.inr ⟨z, List.mem_of_getElem? hz, .inr rfl⟩)
    have lim : ps1.length ≤ 1001 := by
      have q1 := Paired.len c3
      have q2 : cc.1.length ≤ hs.length + 1 := by rw [← hc]; exact comeH_len _ _ _ _
      omega
    (walk_at "g"; refine ⟨_, C_Builder, _, _, _, rfl, c1, T.cl_Builder, T.na_Builder_heaps, fs_Builder_heaps, ?_⟩; walk_at "g")
    refine ⟨l, _, _, _, rfl, rfl, SqL.of c2, at_ofG rfl hz', ?_⟩
    walk_at "n"
    have gr : ∀ x, foot p l (ps1.eraseIdx cc.2) x → foot p l ps x ∨ H x = none := by
      rintro x (e | e | ⟨r, hr, e⟩)
      · exact .inl (.inl e)
      · exact .inl (.inr (.inl e))
      · exact g3 x (.inr (.inr ⟨r, (List.eraseIdx_sublist _ _).subset hr, e⟩))
    obtain ⟨dz, kz, z1, z2, z3⟩ := id zat
    (walk_at "g"; refine ⟨_, _, _, rfl, z1, fs_Heap_no_fits, ?_⟩; walk_at "g")
    refine ⟨z.1, z.2, q, hh, m, rfl, rfl, zat, ⟨qq, pk k3⟩, hl, fun H4 s4 => ?_⟩
    have k4 : Keep (foot p l ps) H H4 := k3.trans (Keep.of s4)
    walk_at "g"
    by_cases ft : fitsM hh m = true
    · refine ite_f (by rw [ft]; rfl) ?_
      rw [if_pos ft] at kk
      walk_at "n"
      (walk_at "g"; refine ⟨_, _, _, rfl, s4 _ _ z1, fs_Heap_no_add, ?_⟩; walk_at "g")
      refine ⟨z.1, z.2, q, hh, m, rfl, rfl, zat.same s4, ⟨qq, pk k4⟩, hl, hinv_len I0, fun H5 k5 z5 => ?_⟩
      have I1 := hinv_add I0 ft hs0 hs1
      have B5 := (B.same s4).upd1 hz hat k5 z5
      have k6 : Keep (foot p l ps) H H5 := Keep.grow k4 k5 fun x hx => hx.elim (fun e => e ▸ g3 _ fz1) fun e => e ▸ g3 _ fz2
      obtain ⟨dz5, kz5, y1, y2, y3⟩ := id z5
      walk_at "n"
      (walk_at "g"; refine ⟨_, _, _, rfl, y1, fs_Heap_no_is_whole, ?_⟩; walk_at "g")
      refine ⟨z.1, z.2, addM hh m, rfl, z5, ?_⟩
      walk_at "g"
      by_cases wt : wholeM (addM hh m) = true
      · refine ite_f (by rw [wt]; rfl) ?_
        rw [if_pos wt] at kk
        obtain ⟨⟨dx5, e1⟩, e2, e3, e4, e5⟩ := id B5
        (walk_at "g"; refine ⟨_, C_Builder, _, _, _, rfl, e1, T.cl_Builder, T.na_Builder_heaps, fs_Builder_heaps, ?_⟩; walk_at "g")
        refine ⟨l, _, _, cc.2, rfl, rfl, e2, by omega, by omega, seq_at (by rw [List.length_map]; exact hi), ?_⟩
        have B6 := B5.erase cc.2
        rw [← map_erase] at B6
        have y1' := upd_get (u := .lst ((ps1.map fun q => V.ref q.1).eraseIdx cc.2)) y1 (ne_kind y1 e2 (fun z => nomatch z))
        have y2' := upd_get (u := .lst ((ps1.map fun q => V.ref q.1).eraseIdx cc.2)) y2 (ne_kind y2 e2 (fun z => nomatch z))
        have y3' := upd_get (u := .lst ((ps1.map fun q => V.ref q.1).eraseIdx cc.2)) y3 (ne_kind y3 e2 (fun z => nomatch z))
        obtain ⟨e, we, wl, _, wa⟩ := hinv_whole I1 wt
        (walk_at "g"; refine ⟨_, _, _, rfl, y1', fs_Heap_no_octets, ?_⟩; walk_at "g")
        refine ⟨z.1, z.2, addM hh m, e, rfl, ⟨_, _, y1', y2', y3'⟩, we, wl, wa, fun H6 o s6 ho6 hr6 => ?_⟩
        have k7 : Keep (foot p l ps) H H6 := (Keep.upd k6 (.inr (.inl rfl))).trans (Keep.of s6)
        walk_at "g"
        have ers : (cc.1.set cc.2 (addM hh m)).eraseIdx cc.2 = cc.1.eraseIdx cc.2 := set_erase _ _ _
        rw [ers] at B6
        refine kk _ (ps1.eraseIdx cc.2) _ (B6.same s6) k7 gr ⟨o, rfl, hr6⟩
      · have wf := Bool.eq_false_iff.mpr wt
        refine ite_t (by rw [wf]; rfl) ?_
        rw [if_neg wt] at kk
        walk_at "g"
        exact kk _ ps1 _ B5 k6 g3 rfl
    · have ff := Bool.eq_false_iff.mpr ft
      refine ite_t (by rw [ff]; rfl) ?_
      rw [if_neg ft] at kk
      (walk_at "g"; refine ⟨_, C_Builder, _, _, _, rfl, s4 _ _ c1, T.cl_Builder, T.na_Builder_heaps, fs_Builder_heaps, ?_⟩; walk_at "g")
      refine ⟨l, _, _, cc.2, rfl, rfl, s4 _ _ c2, by omega, by omega, seq_at (by rw [List.length_map]; exact hi), ?_⟩
      walk_at "g"
      refine kk _ (ps1.eraseIdx cc.2) _ ?_ (Keep.upd k4 (.inr (.inl rfl))) gr rfl
      rw [map_erase]
      exact (B.same s4).erase cc.2
  · walk_at "g"
    have B3 := hb.same s3
    cases hpl : placeM hs key with
    | some i =>
      refine ite_f rfl ?_
      have e : cc = (hs, i) := by rw [← hc]; simp only [comeH, hpl]
      subst e
      exact tail _ _ ⟨ps, rfl, B3, Keep.of s3, fun x h => .inl h⟩
    | none =>
      refine ite_t rfl ?_
      have e : cc = ((if (hs.length : Int) = most then hs.eraseIdx 0 else hs) ++ [⟨key, now, [], 0, none⟩], (if (hs.length : Int) = most then hs.eraseIdx 0 else hs).length) := by rw [← hc]; simp only [comeH, hpl]
      walk_at "n"
      have lps := Paired.len b3
      refine mid (fun σ' H' => ∃ ps2, σ' = [some (.ref p), some (.int snd), some (.int tgt), some (.ref q), some (.int now), some (.ref kt), some .non, none] ∧ BldAt C_Builder C_Heap H' p l most life ps2 (if (hs.length : Int) = most then hs.eraseIdx 0 else hs) ∧
        Keep (foot p l ps) H H' ∧ (∀ x, foot p l ps2 x → foot p l ps x) ∧ H' kt = some (.tup (key.map V.int)) ∧ ps2.length ≤ ps.length) ?_ (fun tail2 => ?_)
      · rintro σ3 H3 ⟨ps2, rfl, B4, k3, f3, hk4, hl4⟩
        obtain ⟨⟨dx4, c1⟩, c2, c3, c4, c5⟩ := id B4
        (walk_at "g"; refine ⟨_, C_Builder, _, _, _, rfl, c1, T.cl_Builder, T.na_Builder_heaps, fs_Builder_heaps, ?_⟩; walk_at "g")
        refine ⟨.inl ⟨rfl, _, SqL.of c2⟩, ?_⟩
        walk_at "g"
        intro x dx5 hx0 hdx hne
        refine ⟨_, _, _, rfl, x, dx5, kt, key, now, rfl, rfl, rfl, upd_same, upd_get (upd_get hk4 (ne_of_none hk4 hdx)) (ne_of_none hk4 hx0), fun H5 d k5 hd P5 => ⟨rfl, ?_⟩⟩
        have s5 := KeepP.made hx0 hdx k5
        have hd3 : H3 d = none := (upd_none (upd_none hd).2).2
        have k6 : Keep (foot p l ps) H H5 := k3.trans (Keep.of s5)
        walk_at "g"
        refine ⟨l, _, _, rfl, rfl, s5 _ _ c2, szl _ (by rw [List.length_map]; omega), ?_⟩
        have B5 := (B4.same s5).push P5 (fun q hq e => by
          obtain ⟨o, ho⟩ := B4.some (x := q.1) (.inr (.inr ⟨q, hq, .inl rfl⟩))
          rw [e, hx0] at ho
          cases ho) (fun q hq e => by
          obtain ⟨o, ho⟩ := B4.some (x := q.2) (.inr (.inr ⟨q, hq, .inr rfl⟩))
          rw [e, hd3] at ho
          cases ho)
        rw [List.map_append] at B5
        obtain ⟨⟨dx6, e1⟩, e2, e3, e4, e5⟩ := id B5
        (walk_at "g"; refine ⟨_, C_Builder, _, _, _, rfl, e1, T.cl_Builder, T.na_Builder_heaps, fs_Builder_heaps, ?_⟩; walk_at "g")
        (walk_at "g"; refine ⟨_, _, rfl, .inl (SqL.of (e2)), ?_⟩)
        refine ⟨_, _, rfl, rfl, ?_⟩
        refine tail _ _ ⟨ps2 ++ [(x, d)], ?_, ?_, Keep.upd k6 (.inr (.inl rfl)), ?_⟩
        · rw [e]
          have lp2 := Paired.len c3
          have ei : ((((ps2 ++ [(x, d)]).map fun q => V.ref q.1).length : Nat) : Int) - 1 = (((if (hs.length : Int) = most then hs.eraseIdx 0 else hs).length : Nat) : Int) := by
            rw [List.length_map, List.length_append, lp2]
            simp only [List.length_cons, List.length_nil]
            omega
          show [_, _, _, _, _, _, some (V.int (((((ps2 ++ [(x, d)]).map fun q => V.ref q.1).length : Nat) : Int) - 1)), none] = _
          rw [ei]
        · rw [e]
          exact B5
        · rintro z (hz | hz | ⟨r, hr, e⟩)
          · exact .inl (.inl hz)
          · exact .inl (.inr (.inl hz))
          · rcases List.mem_append.mp hr with hr | hr
            · exact .inl (f3 _ (.inr (.inr ⟨r, hr, e⟩)))
            · rw [List.mem_singleton.mp hr] at e
              rcases e with rfl | rfl
              · exact grow k3 hx0
              · exact grow k3 hd3
      · obtain ⟨⟨dx4, c1⟩, c2, c3, c4, c5⟩ := id B3
        (walk_at "g"; refine ⟨_, C_Builder, _, _, _, rfl, c1, T.cl_Builder, T.na_Builder_heaps, fs_Builder_heaps, ?_⟩; walk_at "g")
        (walk_at "g"; refine ⟨_, _, rfl, .inl (SqL.of (c2)), ?_⟩; walk_at "g")
        (walk_at "g"; refine ⟨_, C_Builder, _, _, _, rfl, c1, T.cl_Builder, T.na_Builder_most, fs_Builder_most, ?_⟩; walk_at "g")
        rw [List.length_map, lps]
        by_cases hm : (hs.length : Int) = most
        · refine ite_t (decide_eq_true (congrArg V.int hm)) ?_
          (walk_at "g"; refine ⟨_, C_Builder, _, _, _, rfl, c1, T.cl_Builder, T.na_Builder_heaps, fs_Builder_heaps, ?_⟩; walk_at "g")
          refine ⟨l, _, 0, 0, rfl, rfl, c2, by decide, by decide, ?_, ?_⟩
          · exact seq_at (k := 0) (by rw [List.length_map]; omega)
          · refine tail2 _ _ ⟨ps.eraseIdx 0, rfl, ?_, ?_, ?_, ?_, ?_⟩
            · rw [if_pos hm, map_erase]
              exact B3.erase 0
            · exact Keep.upd (Keep.of s3) (.inr (.inl rfl))
            · rintro z (h | h | ⟨r, hr, e⟩)
              · exact .inl h
              · exact .inr (.inl h)
              · exact .inr (.inr ⟨r, (List.eraseIdx_sublist _ _).subset hr, e⟩)
            · exact upd_get hk3 (ne_kind hk3 c2 fun z => nomatch z)
            · exact List.length_eraseIdx_le _ _
        · refine ite_f (decide_eq_false fun z => hm (V.int.inj z)) ?_
          exact tail2 _ _ ⟨ps, rfl, by rw [if_neg hm]; exact B3, Keep.of s3, fun _ h => h, hk3, Nat.le_refl _⟩
theorem BldAt.notL {CB CH : Addr} {H : Hp} {b l : Addr} {most life : Int} {ps : List (Addr × Addr)} {hs : List HeapM} (h : BldAt CB CH H b l most life ps hs) {x : Addr} {xs : List V} (hx : H x = Option.some (HO.lst xs)) (n : x ≠ l) : ¬ foot b l ps x := by
  obtain ⟨⟨dx, h1⟩, h2, h3, h4, h5⟩ := h
  rintro (rfl | rfl | ⟨q, hq, e⟩)
  · rw [h1] at hx; cases hx
  · exact n rfl
  · obtain ⟨j, hj⟩ := List.getElem?_of_mem hq
    obtain ⟨_, _, dq, kq, q1, q2, q3⟩ := Paired.get h3 hj
    rcases e with rfl | rfl
    · rw [q1] at hx; cases hx
    · rw [q3] at hx; cases hx
theorem BldAt.upd {CB CH : Addr} {H : Hp} {b l x : Addr} {most life : Int} {ps : List (Addr × Addr)} {hs : List HeapM} {u : HO} (h : BldAt CB CH H b l most life ps hs) {xs : List V} (hx : H x = Option.some (HO.lst xs)) (n : x ≠ l) : BldAt CB CH (L2.upd H x u) b l most life ps hs := by
  obtain ⟨⟨dx, h1⟩, h2, h3, h4, h5⟩ := h
  refine ⟨⟨dx, upd_get h1 (ne_kind h1 hx fun z => nomatch z)⟩, upd_get h2 n.symm, Paired.imp (fun q y hy => ?_) h3, h4, h5⟩
  obtain ⟨dr, kr, r1, r2, r3⟩ := hy
  exact ⟨dr, kr, upd_get r1 (ne_kind r1 hx fun z => nomatch z), upd_get r2 (ne_kind r2 hx fun z => nomatch z), upd_get r3 (ne_kind r3 hx fun z => nomatch z)⟩
theorem part_det {C : Addr} {H : Hp} {p q q' : Addr} {m m' : PartM} (h : PartAtQ C H p q m) (h' : PartAtQ C H p q' m') : m = m' := by
  obtain ⟨dx, a1, a2⟩ := h
  obtain ⟨dx', b1, b2⟩ := h'
  rw [a1] at b1
  injection b1 with b1
  injection b1 with _ _ b1
  unfold fs_Part at b1
  simp only [List.cons.injEq, Prod.mk.injEq, true_and, V.int.injEq, V.ref.injEq, V.bl.injEq, and_true] at b1
  obtain ⟨c1, c2, c3, c4⟩ := b1
  subst c3
  rw [a2] at b2
  injection b2 with b2
  injection b2 with b2
  have c5 : m.xs = m'.xs := by
    have := congrArg (List.map fun v => match v with | V.int i => i | _ => 0) b2
    simpa [List.map_map, Function.comp_def] using this
  cases m
  cases m'
  simp only at c1 c2 c4 c5
  rw [c1, c2, c4, c5]

abbrev PL (C : Addr) (H H' : Hp) (ps : List Addr) (ms : List PartM) : Prop := Paired (fun x y => ∃ z, PartAtQ C H' x z y ∧ H z = none) ps ms
theorem PL.keep {C p : Addr} {H H1 H2 : Hp} {ps : List Addr} {ms : List PartM} {xs ys : List V} (h : PL C H H1 ps ms) (k : KeepP p H1 H2) (hp : H p = some (.lst ys)) (hr : H1 p = some (.lst xs)) : PL C H H2 ps ms :=
  Paired.imp (fun _ _ ⟨z, q, e⟩ => ⟨z, q.keep k hr (fun e2 => by rw [e2, hp] at e; cases e), e⟩) h
def spParts (C : Addr) : Sp := S3 fun a b c H Q _ => ∃ (p o : Addr) (n v : Int) (xs : List Int), a = .ref p ∧ b = .int n ∧ c = .ref o ∧ H p = some (.lst [.int v]) ∧ H o = some (.lst (xs.map V.int)) ∧ o ≠ p ∧ xs.length ≤ 100 ∧
  ∀ H' r ps ms v', KeepP p H H' → H' p = some (.lst [.int v']) → H r = none → H' r = some (.lst (ps.map V.ref)) → PL C H H' ps ms → Parts n xs ms → ms.length ≤ 20402 → Q (.ref r) H'
theorem ok_law_parts {f : Addr} {fd : FuncData} {C_Builder C_Heap C_Part E_InvalidAmount : Addr} (F : Fun K "_law_parts" "_law_parts" s_law_parts f fd) (T : Txt K mg C_Builder C_Heap C_Part E_InvalidAmount) (c_law_digit : Cl P w K mg base CX0 1 "_law_digit" (spDigit)) (c_cut_octets : Cl P w K mg base CX0 4 "cut_octets" (spCutO C_Part)) (c_cut_part : Cl P w K mg base (L2.CX P w) 3 "cut_part" (spCut C_Part)) : FnOk P w K mg base CX0 5 f fd ["state", "number", "octets"] (spParts C_Part) := by
  refine F.ok sc_law_parts (fun vs H Q E h => S3.len h) (fun cdv A outer s H vs Q E hr h => ?_)
  obtain ⟨_, _, _, rfl, p, o, n, v, xs, rfl, rfl, rfl, hp, ho, nop, hl, kk⟩ := h
  refine ⟨_, (pss_cons (ps_set (i := 3) sc_law_parts.nd rfl (by first | exact Or.inl rfl | exact Or.inr rfl) (pe_lst pa_nil))
      (pss_cons (ps_for PassesOwn.never rfl (pi_range1 rfl T.b_range (pa_cons (pe_op op_add pe_int (pe_cl c_law_digit hr (by decide) pass0 (pa_cons (pv 0) (pa_cons pe_int pa_nil)))) pa_nil)) (pg_name (i := 4) sc_law_parts.nd rfl (by first | exact Or.inl rfl | exact Or.inr rfl))
      (pss_one (ps_for PassesOwn.never rfl (pi_list (pe_cl c_cut_octets hr (by decide) pass0 (pa_cons (pv 1) (pa_cons (pv 2) (pa_cons (pe_op op_add pe_int (pe_cl c_law_digit hr (by decide) pass0 (pa_cons (pv 0) (pa_cons pe_int pa_nil)))) pa_nil))))) (pg_name (i := 5) sc_law_parts.nd rfl (by first | exact Or.inl rfl | exact Or.inr rfl))
      (pss_one (ps_set (i := 3) sc_law_parts.nd rfl (by first | exact Or.inl rfl | exact Or.inr rfl) (pe_op op_cat (pv 3) (pe_cl c_cut_part hr (by decide) passF (pa_cons (pv 5) (pa_cons (pe_op op_add pe_int (pe_cl c_law_digit hr (by decide) pass0 (pa_cons (pv 0) (pa_cons pe_int pa_nil)))) pa_nil)))))))))
      (pss_one (ps_ret (pv 3))))), ?_⟩
  walk_at "g"
  intro r0 hr0
  walk_at "g"
  have s0 : Same H (upd H r0 (.lst [])) := Same.new (Same.refl _) hr0
  refine ⟨p, v, 2, upd H r0 (.lst []), rfl, rfl, s0 _ _ hp, by decide, by decide, KeepP.refl, fun d v1 H1 k1 hv1 d0 d2 => ?_⟩
  walk_at "g"
  refine ⟨by omega, by omega, for_range (lo := 0) (n := (1 + d).toNat) (fun i σ H' => KeepP p H H' ∧ ∃ (r : Addr) (ps : List Addr) (ms : List PartM) (v' : Int) (w1 w2 : Option V), σ = [some (.ref p), some (.int n), some (.ref o), some (.ref r), w1, w2] ∧
    H' p = some (.lst [.int v']) ∧ H r = none ∧ H' r = some (.lst (ps.map V.ref)) ∧ PL C_Part H H' ps ms ∧ (∀ m ∈ ms, Good n xs m) ∧ (0 < i → Parts n xs ms) ∧ ms.length ≤ i * 10201) ?_ ?_ ?_⟩
  · exact ⟨(Keep.of s0).trans k1, r0, [], [], v1, none, none, rfl, hv1, hr0, k1 _ _ upd_same (fun e => by rw [e, hp] at hr0; cases hr0), .nil, by simp, by simp, by simp⟩
  · rintro i σ H2 hi ⟨k2, r, ps, ms, v2, w1, w2, rfl, hv2, hr, hr2, hps, hg, -, hlen⟩
    walk_at "g"
    have ho2 := k2 _ _ ho nop
    refine ⟨p, v2, 40, H2, rfl, rfl, hv2, by decide, by decide, KeepP.refl, fun d3 v3 H3 k3 hv3 e0 e1 => ?_⟩
    walk_at "g"
    have ho3 := k3 _ _ ho2 nop
    refine ⟨_, _, _, rfl, o, n, xs, (1 + d3).toNat, rfl, rfl, congrArg V.int (by omega), ho3, by omega, by omega, by omega, fun H4 r1 ps1 s4 hr1 hr4 hps1 => ?_⟩
    have k4 : KeepP p H H4 := (k2.trans k3).trans (Keep.of s4)
    have hz : ∀ {z : Addr}, H3 z = none → H z = none := fun {z} h => (k2.trans k3).free h fun e => by rw [e, hv3] at h; cases h
    have hr1' := hz hr1
    have nr1 : r1 ≠ p := fun e => by rw [e, hp] at hr1'; cases hr1'
    have nr : r ≠ p := fun e => by rw [e, hp] at hr; cases hr
    have PLk : ∀ {Ha Hb : Hp} {va : Int} {ps : List Addr} {ms : List PartM}, KeepP p Ha Hb → Ha p = some (.lst [.int va]) → PL C_Part H Ha ps ms → PL C_Part H Hb ps ms := fun {Ha Hb va ps ms} k h q => q.keep k hp h
    have hps4 : PL C_Part H H4 ps ms := PLk (k3.trans (Keep.of s4)) hv2 hps
    have hr4' := s4 _ _ (k3 _ _ hr2 nr)
    have hps1' : PL C_Part H H4 ps1 (cutM ⟨n, 0, xs, true⟩ (1 + d3).toNat) := Paired.imp (fun _ _ ⟨z, q, e⟩ => ⟨z, q, hz e⟩) hps1
    have len1 : (cutM ⟨n, 0, xs, true⟩ (1 + d3).toNat).length ≤ xs.length + 1 := cut_len (m := ⟨n, 0, xs, true⟩) (by omega)
    have good1 : ∀ m ∈ cutM ⟨n, 0, xs, true⟩ (1 + d3).toNat, Good n xs m := fun m hm => cut_good (by omega) (whole_good n xs) hm
    have cover1 : ∀ j : Nat, j < xs.length → ∃ m ∈ cutM ⟨n, 0, xs, true⟩ (1 + d3).toNat, m.s ≤ (j : Int) ∧ (j : Int) < m.stop := fun j hj => cut_cover (m := ⟨n, 0, xs, true⟩) (by omega) (by show (0 : Int) ≤ _; omega) (by show (j : Int) < 0 + (xs.length : Int); omega)
    have last1 := cut_last (m := ⟨n, 0, xs, true⟩) (L := (1 + d3).toNat) (by omega) rfl
    generalize cutM ⟨n, 0, xs, true⟩ (1 + d3).toNat = ms1 at hps1 hps1' len1 good1 cover1 last1
    have lp1 := Paired.len hps1
    walk_at "g"
    refine ⟨⟨_, SqL.of hr4⟩, for_it walk_list (fun j σ H' => KeepP p H H' ∧ H' r1 = some (.lst (ps1.map V.ref)) ∧ PL C_Part H H' ps1 ms1 ∧ ∃ (r : Addr) (ps : List Addr) (ms : List PartM) (v' : Int) (w2 : Option V), σ = [some (.ref p), some (.int n), some (.ref o), some (.ref r), some (.int (0 + (i : Nat))), w2] ∧
      H' p = some (.lst [.int v']) ∧ H r = none ∧ H' r = some (.lst (ps.map V.ref)) ∧ PL C_Part H H' ps ms ∧ (∀ m ∈ ms, Good n xs m) ∧ (∀ m0 ∈ ms1.take j, ∀ a : Int, m0.s ≤ a → a < m0.stop → ∃ m ∈ ms, m.s ≤ a ∧ a < m.stop) ∧ (∀ m0 ∈ ms1.take j, m0.l = true → ∃ m ∈ ms, m.l = true) ∧ ms.length ≤ i * 10201 + j * 101)
      ⟨k4, hr4, hps1', r, ps, ms, v3, w2, rfl, s4 _ _ hv3, hr, hr4', hps4, hg, by simp, by simp, by omega⟩ (fun _ _ _ _ hh => SqL.of hh.2.1) ?_ ?_⟩
    · rintro j x σ H5 H6 hj ⟨k5, hr5, hps5, r, ps, ms, v5, w2, rfl, hv5, hr, hrr, hpl, hg, hcov, hlast, hlen⟩ ⟨rfl, hx⟩
      rw [List.getElem?_map] at hx
      cases hq : ps1[j]? with
      | none => rw [hq] at hx; cases hx
      | some y =>
        rw [hq] at hx
        have hx : V.ref y = x := Option.some.inj hx
        subst hx
        obtain ⟨m1, hm1, z1, pz1, ez1⟩ := Paired.get hps5 hq
        have g1 := good1 m1 (List.mem_of_getElem? hm1)
        have lm1 : m1.xs.length ≤ 100 := by
          obtain ⟨_, a, b, _, _⟩ := g1
          have : m1.stop = m1.s + (m1.xs.length : Int) := rfl
          omega
        have nr : r ≠ p := fun e => by rw [e, hp] at hr; cases hr
        have nz1 : z1 ≠ p := fun e => by rw [e, hp] at ez1; cases ez1
        walk_at "g"
        refine ⟨p, v5, 30, H6, rfl, rfl, hv5, by decide, by decide, KeepP.refl, fun d7 v7 H7 k7 hv7 e0 e1 => ?_⟩
        walk_at "g"
        have hrr7 := k7 _ _ hrr nr
        refine ⟨y, z1, m1, (1 + d7).toNat, rfl, congrArg V.int (by omega), pz1.keep k7 hv5 nz1, by omega, by omega, by omega, fun H8 r2 ps2 s8 hr2 hr8 hps8 => ?_⟩
        have hz7 : ∀ {z : Addr}, H7 z = none → H z = none := fun {z} h => (k5.trans k7).free h fun e => by rw [e, hv7] at h; cases h
        have k8 : KeepP p H H8 := (k5.trans k7).trans (Keep.of s8)
        have len2 : (cutM m1 (1 + d7).toNat).length ≤ 101 := Nat.le_trans (cut_len (by omega)) (by omega)
        have good2 : ∀ m ∈ cutM m1 (1 + d7).toNat, Good n xs m := fun m hm => cut_good (by omega) g1 hm
        have cover2 : ∀ a : Int, m1.s ≤ a → a < m1.stop → ∃ m ∈ cutM m1 (1 + d7).toNat, m.s ≤ a ∧ a < m.stop := fun a h1 h2 => cut_cover (by omega) h1 h2
        have last2 : m1.l = true → ∃ m ∈ cutM m1 (1 + d7).toNat, m.l = true := fun h => cut_last (by omega) h
        have hps8' : PL C_Part H H8 ps2 (cutM m1 (1 + d7).toNat) := Paired.imp (fun _ _ ⟨z, q, e⟩ => ⟨z, q, e.elim (fun e => by rw [e]; exact ez1) hz7⟩) hps8
        generalize cutM m1 (1 + d7).toNat = ms2 at hps8 hps8' len2 good2 cover2 last2
        have lp2 := Paired.len hps8
        have lp := Paired.len hpl
        walk_at "g"
        refine ⟨r, r2, _, _, rfl, rfl, s8 _ _ hrr7, hr8, ?_, fun r3 hr3 => ?_⟩
        · rw [List.length_map, List.length_map, sizeLine_eq]
          rw [List.length_map] at hj
          have : i ≤ 2 := by omega
          omega
        have s9 : Same H8 (upd H8 r3 (.lst (ps.map V.ref ++ ps2.map V.ref))) := Same.new (Same.refl _) hr3
        have hr3' : H r3 = none := k8.free hr3 fun e => by rw [e, s8 _ _ hv7] at hr3; cases hr3
        have n3 : r1 ≠ r3 := ne_of_none (s8 _ _ (k7 _ _ hr5 nr1)) hr3
        have hpl8 : PL C_Part H H8 ps ms := PLk (k7.trans (Keep.of s8)) hv5 hpl
        have hps58 : PL C_Part H H8 ps1 ms1 := PLk (k7.trans (Keep.of s8)) hv5 hps5
        have hv8 := s8 _ _ hv7
        refine ⟨k8.trans (Keep.of s9), s9 _ _ (s8 _ _ (k7 _ _ hr5 nr1)), PLk (Keep.of s9) hv8 hps58, r3, ps ++ ps2, ms ++ ms2, v7, _, rfl, s9 _ _ hv8, hr3', ?_, PLk (Keep.of s9) hv8 (Paired.app hpl8 hps8'), ?_, ?_, ?_, ?_⟩
        · rw [upd_same, List.map_append]
        · intro m hm
          exact (List.mem_append.mp hm).elim (hg m) (good2 m)
        · intro m0 hm0 a h1 h2
          rw [take_snoc hm1] at hm0
          rcases List.mem_append.mp hm0 with hm0 | hm0
          · obtain ⟨m, hm, q⟩ := hcov m0 hm0 a h1 h2
            exact ⟨m, List.mem_append.mpr (.inl hm), q⟩
          · rw [List.mem_singleton.mp hm0] at h1 h2
            obtain ⟨m, hm, q⟩ := cover2 a h1 h2
            exact ⟨m, List.mem_append.mpr (.inr hm), q⟩
        · intro m0 hm0 h1
          rw [take_snoc hm1] at hm0
          rcases List.mem_append.mp hm0 with hm0 | hm0
          · obtain ⟨m, hm, q⟩ := hlast m0 hm0 h1
            exact ⟨m, List.mem_append.mpr (.inl hm), q⟩
          · rw [List.mem_singleton.mp hm0] at h1
            obtain ⟨m, hm, q⟩ := last2 h1
            exact ⟨m, List.mem_append.mpr (.inr hm), q⟩
        · rw [List.length_append]
          omega
    · rintro σ H5 ⟨k5, hr5, hps5, r, ps, ms, v5, w2, rfl, hv5, hr, hrr, hpl, hg, hcov, hlast, hlen⟩
      rw [List.length_map] at hcov hlast hlen
      rw [List.take_of_length_le (by omega)] at hcov hlast
      refine ⟨k5, r, ps, ms, v5, _, _, rfl, hv5, hr, hrr, hpl, hg, fun _ => ⟨hg, fun a ha => ?_, ?_⟩, ?_⟩
      · obtain ⟨m, hm, q1, q2⟩ := cover1 a ha
        exact hcov m hm a q1 q2
      · obtain ⟨m, hm, q⟩ := last1
        exact hlast m hm q
      · have : ps1.length * 101 ≤ 101 * 101 := Nat.mul_le_mul_right _ (by omega)
        omega
  · rintro σ H2 ⟨k2, r, ps, ms, v2, w1, w2, rfl, hv2, hr, hr2, hps, hg, hpp, hlen⟩
    walk_at "g"
    exact kk _ r ps ms v2 k2 hv2 hr hr2 hps (hpp (by omega)) (by omega)
def spMixed : Sp := S2 fun a b H Q _ => ∃ (p o : Addr) (v : Int) (xs : List V), a = .ref p ∧ b = .ref o ∧ H p = some (.lst [.int v]) ∧ H o = some (.lst xs) ∧ o ≠ p ∧ xs.length ≤ 120000 ∧
  ∀ H' r ys, KeepP p H H' → H r = none → H' r = some (.lst ys) → (∀ y ∈ ys, y ∈ xs) → (∀ x ∈ xs, x ∈ ys) → Q (.ref r) H'
theorem ok_law_mixed {f : Addr} {fd : FuncData} {C_Builder C_Heap C_Part E_InvalidAmount : Addr} (F : Fun K "_law_mixed" "_law_mixed" s_law_mixed f fd) (T : Txt K mg C_Builder C_Heap C_Part E_InvalidAmount) (c_law_digit : Cl P w K mg base CX0 1 "_law_digit" (spDigit)) : FnOk P w K mg base CX0 2 f fd ["state", "rows"] (spMixed) := by
  refine F.ok sc_law_mixed (fun vs H Q E h => S2.len h) (fun cdv A outer s H vs Q E hr h => ?_)
  obtain ⟨_, _, rfl, p, o, v, xs, rfl, rfl, hp, ho, nop, hl, kk⟩ := h
  refine ⟨_, (pss_cons (ps_set (i := 2) sc_law_mixed.nd rfl (by first | exact Or.inl rfl | exact Or.inr rfl) (pe_lst pa_nil))
      (pss_cons (ps_set (i := 3) sc_law_mixed.nd rfl (by first | exact Or.inl rfl | exact Or.inr rfl) (pe_callTy call_list_of (by rfl) T.b_list (by decide +kernel) (pa_cons (pv 1) pa_nil)))
      (pss_cons (ps_while PassesOwn.never (pt_cmpR op_gt (pe_callB call_len_seq (by rfl) T.b_len PySem.boot_len (pa_cons (pv 3) pa_nil)) pe_int (nomark _))
      (pss_cons (ps_set (i := 4) sc_law_mixed.nd rfl (by first | exact Or.inl rfl | exact Or.inr rfl) (pe_cl c_law_digit hr (by decide) pass0 (pa_cons (pv 0) (pa_cons (pe_callB (call_min2 rfl) (by rfl) T.b_min (by decide +kernel) (pa_cons (pe_callB call_len_seq (by rfl) T.b_len PySem.boot_len (pa_cons (pv 3) pa_nil)) (pa_cons pe_int pa_nil))) pa_nil))))
      (pss_cons (ps_if (pt_cmpR op_eq (pe_ix ix_list (pv 0) pe_int (fun _ _ => rfl)) pe_int (nomark _))
      (pss_one (ps_asg (pe_op op_mulW pe_int (pe_op op_pow (pe_op op_add (pe_callB call_len_seq (by rfl) T.b_len PySem.boot_len (pa_cons (pv 3) pa_nil)) pe_int) pe_int)) (pg_sub (pv 0) pe_int set_list)))
      pss_nil)
      (pss_cons (ps_expr (pe_bm PySem.F.plainAttrs_list PySem.F.slot_list_append PySem.F.type_list_append mt_append (pv 2) (pa_cons (pe_ix ix_list (pv 3) (pv 4) (fun _ _ => rfl)) pa_nil)))
      (pss_one (ps_if (PW.pt (pw_or (pt_cmpR op_gt (pe_cl c_law_digit hr (by decide) pass0 (pa_cons (pv 0) (pa_cons pe_int pa_nil))) pe_int (nomark _)) (pw_or1 (pt_cmpR op_eq (pe_op op_mod (pe_callB call_len_seq (by rfl) T.b_len PySem.boot_len (pa_cons (pv 2) pa_nil)) pe_int) pe_int (nomark _)))))
      (pss_one (ps_set (i := 3) sc_law_mixed.nd rfl (by first | exact Or.inl rfl | exact Or.inr rfl) (pe_op op_cat (pe_slice sl_list (pv 3) po_none (po_some (pv 4))) (pe_slice sl_list (pv 3) (po_some (pe_op op_add (pv 4) pe_int)) po_none))))
      pss_nil))))))
      (pss_one (ps_ret (pv 2)))))), ?_⟩
  walk_at "g"
  intro rm hrm
  have s0 : Same H (upd H rm (.lst [])) := Same.new (Same.refl _) hrm
  walk_at "g"
  refine ⟨o, _, rfl, .inl (SqL.of (s0 _ _ ho)), fun rl hrl => ?_⟩
  have s1 : Same H (upd (upd H rm (.lst [])) rl (.lst xs)) := Same.new s0 (s0.free hrl)
  have nml : rm ≠ rl := fun e => by rw [e, upd_same] at hrl; cases hrl
  walk_at "n"
  have nmp : rm ≠ p := fun e => by rw [e, hp] at hrm; cases hrm
  have nlp : rl ≠ p := fun e => by rw [e, s0 _ _ hp] at hrl; cases hrl
  refine ⟨fun m σ H' => KeepP p H H' ∧ ∃ (rl : Addr) (ys zs : List V) (v' : Int) (w : Option V), σ = [some (.ref p), some (.ref o), some (.ref rm), some (.ref rl), w] ∧ H' p = some (.lst [.int v']) ∧ H' rm = some (.lst ys) ∧ H' rl = some (.lst zs) ∧ rl ≠ rm ∧ rl ≠ p ∧
    (∀ y ∈ ys, y ∈ xs) ∧ (∀ z ∈ zs, z ∈ xs) ∧ (∀ x ∈ xs, x ∈ ys ∨ x ∈ zs) ∧ m = 3 * zs.length + (2 - ys.length % 3) ∧ ys.length + m ≤ 3 * xs.length + 2, ⟨_, Keep.of s1, rl, [], xs, v, _, rfl, s1 _ _ hp, upd_get upd_same nml, upd_same, nml.symm, nlp, by simp, fun _ h => h, fun _ h => .inr h, rfl, by simp⟩, ?_⟩
  rintro m σ H1 ⟨k1, rl, ys, zs, v1, w, rfl, hp1, hm1, hl1, nlm, nlp, hys, hzs, hxs, rfl, hlen⟩
  (walk_at "g"; refine ⟨_, _, rfl, .inl (SqL.of (hl1)), ?_⟩; walk_at "g")
  by_cases hz : zs = []
  · refine ite_f (by rw [hz]; rfl) ?_
    walk_at "g"
    exact kk _ rm ys k1 hrm hm1 hys fun x hx => (hxs x hx).elim id fun h => by rw [hz] at h; cases h
  have hzl : 0 < zs.length := List.length_pos_iff.mpr hz
  refine ite_t (by rw [decide_eq_true_eq]; omega) ?_
  refine ⟨fun σ' H' => ∃ m', m' < 3 * zs.length + (2 - ys.length % 3) ∧ KeepP p H H' ∧ ∃ (rl : Addr) (ys zs : List V) (v' : Int) (w : Option V), σ' = [some (.ref p), some (.ref o), some (.ref rm), some (.ref rl), w] ∧ H' p = some (.lst [.int v']) ∧ H' rm = some (.lst ys) ∧ H' rl = some (.lst zs) ∧ rl ≠ rm ∧ rl ≠ p ∧
    (∀ y ∈ ys, y ∈ xs) ∧ (∀ z ∈ zs, z ∈ xs) ∧ (∀ x ∈ xs, x ∈ ys ∨ x ∈ zs) ∧ m' = 3 * zs.length + (2 - ys.length % 3) ∧ ys.length + m' ≤ 3 * xs.length + 2, fun _ _ h => h, ?_⟩
  (walk_at "g"; refine ⟨_, _, rfl, .inl (SqL.of (hl1)), ?_⟩; walk_at "g")
  have e7 : ∃ m7 : Int, (if (7 : Int) < (zs.length : Int) then 7 else (zs.length : Int)) = m7 ∧ 0 < m7 ∧ m7 ≤ zs.length ∧ m7 ≤ 7 := ⟨_, rfl, by split <;> omega, by split <;> omega, by split <;> omega⟩
  obtain ⟨m7, e7, m70, m71, m72⟩ := e7
  rw [e7]
  refine ⟨p, v1, m7, H1, rfl, rfl, hp1, m70, by omega, KeepP.refl, fun d v2 H2 k2 hp2 d0 d1 => ?_⟩
  obtain ⟨d, rfl⟩ : ∃ D : Nat, d = D := ⟨d.toNat, by omega⟩
  walk_at "n"
  refine mid (fun σ' H' => σ' = [some (.ref p), some (.ref o), some (.ref rm), some (.ref rl), some (.int d)] ∧ KeepP p H1 H' ∧ ∃ v3, H' p = some (.lst [.int v3])) ?_ (fun tail => ?_)
  · rintro σ3 H3 ⟨rfl, k3, v3, hp3⟩
    have hm3 := k3 _ _ hm1 nmp
    have hl3 := k3 _ _ hl1 nlp
    obtain ⟨x, hx⟩ : ∃ x, zs[d]? = some x := ⟨_, List.getElem?_eq_getElem (by omega)⟩
    walk_at "g"
    refine ⟨.inl ⟨rfl, _, SqL.of hm3⟩, ?_⟩
    refine ⟨_, rfl, _, rfl, rl, zs, d, x, rfl, rfl, SqL.of hl3, at_ofG (j := d) rfl hx, ?_⟩
    refine ⟨rm, ys, x, rfl, rfl, hm3, szl _ (by omega), ?_⟩
    have kk4 : KeepP p H (upd H3 rm (.lst (ys ++ [x]))) := Keep.new (k1.trans k3) hrm
    have hp4 := upd_get (u := .lst (ys ++ [x])) hp3 nmp.symm
    have hl4 := upd_get (u := .lst (ys ++ [x])) hl3 nlm
    have ysx : ∀ y ∈ ys ++ [x], y ∈ xs := fun y hy => (List.mem_append.mp hy).elim (hys y) fun h => by rw [List.mem_singleton.mp h]; exact hzs x (List.mem_of_getElem? hx)
    generalize hH4 : upd H3 rm (.lst (ys ++ [x])) = H4 at kk4 hp4 hl4 ⊢
    have hm4 : H4 rm = some (.lst (ys ++ [x])) := by rw [← hH4, upd_same]
    walk_at "n"
    refine if_rel (fun b H' => KeepP p H4 H' ∧ (∃ v5, H' p = some (.lst [.int v5])) ∧ (b = false → ¬ (ys.length + 1) % 3 = 0)) (fun Q q => ?_) (fun H5 r5 => ?_) (fun H5 r5 => ?_)
    · walk_at "g"
      refine ⟨p, v3, 6, H4, rfl, rfl, hp4, by decide, by decide, KeepP.refl, fun d6 v5 H5 k5 hp5 f0 f1 => ?_⟩
      walk_at "g"
      by_cases c : 0 < d6
      · refine ite_t (decide_eq_true c) ?_
        exact q _ _ ⟨k5, ⟨_, hp5⟩, fun h => by cases h⟩
      · refine ite_f (decide_eq_false c) ?_
        (walk_at "g"; refine ⟨_, _, rfl, .inl (SqL.of (k5 _ _ hm4 nmp)), ?_⟩; walk_at "g")
        rw [List.length_append]
        refine q _ _ ⟨k5, ⟨_, hp5⟩, fun h => ?_⟩
        have h := of_decide_eq_false h
        intro h2
        refine h (congrArg V.int ?_)
        simp only [List.length_cons, List.length_nil]
        omega
    · obtain ⟨k5, ⟨v5, hp5⟩, -⟩ := r5
      have hl5 := k5 _ _ hl4 nlp
      walk_at "g"
      refine ⟨rl, zs, rfl, SqL.of hl5, fun u1 hu1 => ?_⟩
      have s6 : Same H5 (upd H5 u1 (.lst (zs.take d))) := Same.new (Same.refl _) hu1
      rw [cutV_to]
      walk_at "g"
      refine ⟨rl, zs, rfl, SqL.of (s6 _ _ hl5), fun u2 hu2 => ?_⟩
      rw [show ((d : Nat) : Int) + 1 = ((d + 1 : Nat) : Int) by omega, cutV_from]
      have s7 : Same H5 (upd (upd H5 u1 (.lst (zs.take d))) u2 (.lst (zs.drop (d + 1)))) := Same.new s6 (s6.free hu2)
      have n12 : u1 ≠ u2 := fun e => by rw [← e, upd_same] at hu2; cases hu2
      walk_at "g"
      refine ⟨u1, u2, _, _, rfl, rfl, upd_get upd_same n12, upd_same, ?_, fun u3 hu3 => ?_⟩
      · rw [List.length_take, List.length_drop, sizeLine_eq]
        omega
      have s8 : Same H5 (upd (upd (upd H5 u1 (.lst (zs.take d))) u2 (.lst (zs.drop (d + 1)))) u3 (.lst (zs.take d ++ zs.drop (d + 1)))) := Same.new s7 (s7.free hu3)
      have hm5 := k5 _ _ hm4 nmp
      have hdz : (zs.take d ++ zs.drop (d + 1)).length = zs.length - 1 := by
        rw [List.length_append, List.length_take, List.length_drop]
        omega
      refine ⟨3 * (zs.take d ++ zs.drop (d + 1)).length + (2 - (ys ++ [x]).length % 3), ?_, (kk4.trans k5).trans (Keep.of s8), u3, ys ++ [x], zs.take d ++ zs.drop (d + 1), v5, _, rfl, s8 _ _ hp5, s8 _ _ hm5, upd_same, ?_, ?_, ysx, ?_, ?_, rfl, ?_⟩
      · rw [hdz]
        omega
      · exact Same.ne s7 hm5 hu3
      · exact Same.ne s7 hp5 hu3
      · intro z hz
        exact hzs z ((List.mem_append.mp hz).elim (fun h => List.mem_of_mem_take h) fun h => List.mem_of_mem_drop h)
      · intro y hy
        rcases hxs y hy with h | h
        · exact .inl (List.mem_append.mpr (.inl h))
        · rcases mem_cut (d := d) h with h | h
          · rw [hx] at h
            exact .inl (List.mem_append.mpr (.inr (List.mem_singleton.mpr (Option.some.inj h).symm)))
          · exact .inr h
      · rw [hdz, List.length_append, List.length_singleton]
        omega
    · obtain ⟨k5, ⟨v5, hp5⟩, hb⟩ := r5
      have hb := hb rfl
      refine ⟨3 * zs.length + (2 - (ys ++ [x]).length % 3), ?_, kk4.trans k5, rl, ys ++ [x], zs, v5, _, rfl, hp5, k5 _ _ hm4 nmp, k5 _ _ hl4 nlp, nlm, nlp, ysx, hzs, fun y hy => (hxs y hy).elim (fun h => .inl (List.mem_append.mpr (.inl h))) .inr, rfl, ?_⟩
      all_goals rw [List.length_append, List.length_singleton]
      all_goals omega
  · walk_at "g"
    refine ⟨p, _, _, _, rfl, rfl, SqL.of hp2, at_of (j := 0) rfl rfl, ?_⟩
    walk_at "g"
    by_cases hv : v2 = 0
    · refine ite_t (decide_eq_true (congrArg V.int hv)) ?_
      have hl2 := k2 _ _ hl1 nlp
      (walk_at "g"; refine ⟨_, _, rfl, .inl (SqL.of (hl2)), ?_⟩; walk_at "g")
      have zb : ((zs.length : Int) + 7).natAbs < 2 ^ 17 := by omega
      refine ⟨⟨by decide, by decide, by omega⟩, ?_⟩
      walk_at "g"
      refine ⟨wide_mul (a := 30) (b := 153) (by decide) ?_ (by decide) (by decide) (by decide), ?_⟩
      · rw [Int.natAbs_pow]
        exact Nat.lt_of_lt_of_le (Nat.pow_lt_pow_left zb (by decide)) (by decide)
      walk_at "g"
      refine ⟨p, [.int v2], 0, 0, rfl, rfl, hp2, rfl, ?_⟩
      exact tail _ _ ⟨rfl, KeepP.upd k2, _, upd_same⟩
    · refine ite_f (decide_eq_false fun z => hv (V.int.inj z)) ?_
      exact tail _ _ ⟨rfl, k2, v2, hp2⟩
def spWh : Sp := S2 fun a b H Q _ => ∃ (p q : Addr) (xs ys : List V), a = .ref p ∧ b = .ref q ∧ H p = some (.lst xs) ∧ H q = some (.lst ys) ∧ Q (.bl (decide (xs.length = ys.length))) H
theorem ok_law_whole {f : Addr} {fd : FuncData} {C_Builder C_Heap C_Part E_InvalidAmount : Addr} (F : Fun K "_law_whole" "_law_whole" s_law_whole f fd) (T : Txt K mg C_Builder C_Heap C_Part E_InvalidAmount)  : FnOk P w K mg base CX0 1 f fd ["held", "octets"] (spWh) := by
  refine F.ok sc_law_whole (fun vs H Q E h => S2.len h) (fun cdv A outer s H vs Q E hr h => ?_)
  obtain ⟨_, _, rfl, p, q, xs, ys, rfl, rfl, hp, hq, kk⟩ := h
  refine ⟨_, (pss_one (ps_ret (pe_cmpR op_eq (pe_callB call_len_seq (by rfl) T.b_len PySem.boot_len (pa_cons (pv 0) pa_nil)) (pe_callB call_len_seq (by rfl) T.b_len PySem.boot_len (pa_cons (pv 1) pa_nil)) (nomark _)))), ?_⟩
  (walk_at "g"; refine ⟨_, _, rfl, .inl (SqL.of (hp)), ?_⟩; walk_at "g")
  (walk_at "g"; refine ⟨_, _, rfl, .inl (SqL.of (hq)), ?_⟩; walk_at "g")
  have e : decide (V.int (xs.length : Int) = V.int (ys.length : Int)) = decide (xs.length = ys.length) := decide_eq_decide.mpr ⟨fun h => by have := V.int.inj h; omega, fun h => by rw [h]⟩
  rw [e]
  exact kk
/-- the packets and their parts, so far -/
structure P1 (C rp : Addr) (H : Hp) (i : Nat) (ts : List Addr) (rs : List V) (kms : List (Nat × PartM)) (X : Nat → List Int) : Prop where
  len : ts.length = i
  pack : ∀ (k : Nat) (t : Addr), ts[k]? = some t → ∃ o, o ≠ rp ∧ H t = some (.tup [.int (3 + ((k % 2 : Nat) : Int)), .int 9, .int (7 + ((k / 2 : Nat) : Int)), .ref o]) ∧ H o = some (.lst ((X k).map V.int))
  small : ∀ k, k < i → (X k).length ≤ 90
  rows : Paired (fun v (q : Nat × PartM) => ∃ t x z, v = .ref t ∧ H t = some (.tup [.int (q.1 : Nat), .ref x]) ∧ z ≠ rp ∧ PartAtQ C H x z q.2) rs kms
  good : ∀ q ∈ kms, q.1 < i ∧ Good (7 + ((q.1 / 2 : Nat) : Int)) (X q.1) q.2
  cover : ∀ k, k < i → (∀ b : Nat, b < (X k).length → ∃ q ∈ kms, q.1 = k ∧ q.2.s ≤ (b : Int) ∧ (b : Int) < q.2.stop) ∧ ∃ q ∈ kms, q.1 = k ∧ q.2.l = true
  few : kms.length ≤ i * 20402
/-- what stands while the parts come -/
structure MI (CB CH : Addr) (H3 H' : Hp) (b l rm rh re rt : Addr) (N : Nat) (X : Nat → List Int) (pb : List (Addr × Addr)) (hd : Nat → List Int) (en : Nat → Bool) (T tl : Nat → Int) (act : List Nat) (fed : List (Nat × PartM)) (hk : Nat → Addr) (ys : List V) : Prop where
  same : Same H3 H'
  bld : BldAt CB CH H' b l (N : Int) 100 pb (act.map (mkH X hd en T))
  ft : ∀ x, foot b l pb x → H3 x = none
  hrm : H' rm = some (.lst ys)
  hrh : H' rh = some (.lst ((List.range N).map fun k => V.ref (hk k)))
  hke : ∀ k, k < N → H' (hk k) = some (.lst ((hd k).map V.int)) ∧ hk k ≠ l ∧ hk k ≠ rh ∧ hk k ≠ re ∧ hk k ≠ rt
  hre : H' re = some (.lst ((List.range N).map fun k => V.bl (en k)))
  hrt : H' rt = some (.lst ((List.range N).map fun k => V.int (tl k)))
  j : J N X hd en T tl act fed
theorem ok_law {f : Addr} {fd : FuncData} {C_Builder C_Heap C_Part E_InvalidAmount : Addr} (F : Fun K "law" "law" s_law f fd) (T : Txt K mg C_Builder C_Heap C_Part E_InvalidAmount) (c_law_start : Cl P w K mg base CX0 1 "_law_start" (spStart)) (c_law_cell : Cl P w K mg base CX0 1 "_law_cell" (spCellT K)) (c_law_digit : Cl P w K mg base CX0 1 "_law_digit" (spDigit)) (c_law_parts : Cl P w K mg base CX0 5 "_law_parts" (spParts C_Part)) (c_Builder___init__ : Ma P w K mg base (L2.CX P w) 1 "Builder" C_Builder (spBldI C_Builder C_Heap)) (c_law_mixed : Cl P w K mg base CX0 2 "_law_mixed" (spMixed)) (c_Part_end : Me P w K mg base CX0 1 C_Part "end" (spPartE C_Part)) (c_Builder_add : Me P w K mg base CX0 3 C_Builder "add" (spAdd C_Builder C_Heap C_Part)) (c_law_whole : Cl P w K mg base CX0 1 "_law_whole" (spWh)) : FnOk P w K mg base CX0 6 f fd ["script"] (spLaw K) := by
  refine F.ok sc_law (fun vs H Q E h => S1.len h) (fun cdv A outer s H vs Q E hr h => ?_)
  obtain ⟨_, rfl, a, ns, rfl, hS, hl, kk⟩ := h
  refine ⟨_, (pss_cons (ps_set (i := 1) sc_law.nd rfl (by first | exact Or.inl rfl | exact Or.inr rfl) (pe_cl c_law_start hr (by decide) pass0 (pa_cons (pe_cl c_law_cell hr (by decide) pass0 (pa_cons (pv 0) (pa_cons pe_int pa_nil))) (pa_cons pe_int pa_nil))))
      (pss_cons (ps_set (i := 2) sc_law.nd rfl (by first | exact Or.inl rfl | exact Or.inr rfl) (pe_lst pa_nil))
      (pss_cons (ps_set (i := 3) sc_law.nd rfl (by first | exact Or.inl rfl | exact Or.inr rfl) (pe_lst pa_nil))
      (pss_cons (ps_for PassesOwn.never rfl (pi_range1 rfl T.b_range (pa_cons (pe_op op_add pe_int (pe_cl c_law_digit hr (by decide) pass0 (pa_cons (pv 1) (pa_cons pe_int pa_nil)))) pa_nil)) (pg_name (i := 4) sc_law.nd rfl (by first | exact Or.inl rfl | exact Or.inr rfl))
      (pss_cons (ps_set (i := 5) sc_law.nd rfl (by first | exact Or.inl rfl | exact Or.inr rfl) (pe_cl c_law_start hr (by decide) pass0 (pa_cons (pe_cl c_law_cell hr (by decide) pass0 (pa_cons (pv 0) (pa_cons (pe_op op_add pe_int (pv 4)) pa_nil))) (pa_cons (pe_op op_add (pv 4) pe_int) pa_nil))))
      (pss_cons (ps_setLc (i := 6) (own := [("i", 7)]) rfl sc_law.nd rfl rfl (sw_true rfl rfl rfl (by decide +kernel)) (pi_range1 rfl T.b_range (pa_cons (pe_cl c_law_digit hr (by decide) pass0 (pa_cons (pv 5) (pa_cons pe_int pa_nil))) pa_nil)) (blkOk_by (own := [("i", 7)]) (N := ["script", "state", "packets", "rows", "k", "cell", "octets", "i", "part", "builder", "held", "ended", "told", "packet", "answer", "whole"]) (sc := defScope s_law) (by decide +kernel)) (fun _ _ _ _ _ => (pg_name (i := 7) sc_law.nd rfl (by first | exact Or.inl rfl | exact Or.inr rfl))) (fun _ _ _ _ _ => pts_nil) (fun _ _ _ _ _ => (pe_cl c_law_digit hr (by decide) pass0 (pa_cons (pv 5) (pa_cons pe_int pa_nil)))))
      (pss_cons (ps_set (i := 6) sc_law.nd rfl (by first | exact Or.inl rfl | exact Or.inr rfl) (pe_op op_cat (pv 6) (pe_lc (own := [("i", 7)]) rfl sc_law.nd (pi_range1 rfl T.b_range (pa_cons (pe_cl c_law_digit hr (by decide) pass0 (pa_cons (pv 5) (pa_cons pe_int pa_nil))) pa_nil)) (blkOk_by (own := [("i", 7)]) (N := ["script", "state", "packets", "rows", "k", "cell", "octets", "i", "part", "builder", "held", "ended", "told", "packet", "answer", "whole"]) (sc := defScope s_law) (by decide +kernel)) (fun _ _ _ _ _ => (pg_name (i := 7) sc_law.nd rfl (by first | exact Or.inl rfl | exact Or.inr rfl))) (fun _ _ _ _ _ => pts_nil) (fun _ _ _ _ _ => (pe_op op_mod (pe_callTy call_int1 (by rfl) T.b_int (by decide +kernel) (pa_cons (pe_op op_add (pe_op op_mulW (pv 7) pe_int) (pv 4)) pa_nil)) pe_int)))))
      (pss_cons (ps_expr (pe_bm PySem.F.plainAttrs_list PySem.F.slot_list_append PySem.F.type_list_append mt_append (pv 2) (pa_cons (pe_tup (pa_cons (pe_op op_add pe_int (pe_op op_mod (pv 4) pe_int)) (pa_cons pe_int (pa_cons (pe_op op_add pe_int (pe_op op_fdiv (pv 4) pe_int)) (pa_cons (pv 6) pa_nil))))) pa_nil)))
      (pss_one (ps_set (i := 3) sc_law.nd rfl (by first | exact Or.inl rfl | exact Or.inr rfl) (pe_op op_cat (pv 3) (pe_lc (own := [("part", 8)]) rfl sc_law.nd (pi_list (pe_cl c_law_parts hr (by decide) pass0 (pa_cons (pv 5) (pa_cons (pe_op op_add pe_int (pe_op op_fdiv (pv 4) pe_int)) (pa_cons (pv 6) pa_nil))))) (blkOk_by (own := [("part", 8)]) (N := ["script", "state", "packets", "rows", "k", "cell", "octets", "i", "part", "builder", "held", "ended", "told", "packet", "answer", "whole"]) (sc := defScope s_law) (by decide +kernel)) (fun _ _ _ _ _ => (pg_name (i := 8) sc_law.nd rfl (by first | exact Or.inl rfl | exact Or.inr rfl))) (fun _ _ _ _ _ => pts_nil) (fun _ _ _ _ _ => (pe_tup (pa_cons (pv 4) (pa_cons (pv 8) pa_nil)))))))))))))
      (pss_cons (ps_set (i := 9) sc_law.nd rfl (by first | exact Or.inl rfl | exact Or.inr rfl) (pe_ma c_Builder___init__ hr (by decide) passF (pa_cons (pe_callB call_len_seq (by rfl) T.b_len PySem.boot_len (pa_cons (pv 2) pa_nil)) (pa_cons pe_int pa_nil))))
      (pss_cons (ps_set (i := 10) sc_law.nd rfl (by first | exact Or.inl rfl | exact Or.inr rfl) (pe_lc (own := [("k", 4)]) rfl sc_law.nd (pi_range1 rfl T.b_range (pa_cons (pe_callB call_len_seq (by rfl) T.b_len PySem.boot_len (pa_cons (pv 2) pa_nil)) pa_nil)) (blkOk_by (own := [("k", 4)]) (N := ["script", "state", "packets", "rows", "k", "cell", "octets", "i", "part", "builder", "held", "ended", "told", "packet", "answer", "whole"]) (sc := defScope s_law) (by decide +kernel)) (fun _ _ _ _ _ => (pg_name (i := 4) sc_law.nd rfl (by first | exact Or.inl rfl | exact Or.inr rfl))) (fun _ _ _ _ _ => pts_nil) (fun _ _ _ _ _ => (pe_lst pa_nil))))
      (pss_cons (ps_setLc (i := 11) (own := [("k", 4)]) rfl sc_law.nd rfl rfl (sw_true rfl rfl rfl (by decide +kernel)) (pi_range1 rfl T.b_range (pa_cons (pe_callB call_len_seq (by rfl) T.b_len PySem.boot_len (pa_cons (pv 2) pa_nil)) pa_nil)) (blkOk_by (own := [("k", 4)]) (N := ["script", "state", "packets", "rows", "k", "cell", "octets", "i", "part", "builder", "held", "ended", "told", "packet", "answer", "whole"]) (sc := defScope s_law) (by decide +kernel)) (fun _ _ _ _ _ => (pg_name (i := 4) sc_law.nd rfl (by first | exact Or.inl rfl | exact Or.inr rfl))) (fun _ _ _ _ _ => pts_nil) (fun _ _ _ _ _ => pe_bl))
      (pss_cons (ps_setLc (i := 12) (own := [("k", 4)]) rfl sc_law.nd rfl rfl (sw_true rfl rfl rfl (by decide +kernel)) (pi_range1 rfl T.b_range (pa_cons (pe_callB call_len_seq (by rfl) T.b_len PySem.boot_len (pa_cons (pv 2) pa_nil)) pa_nil)) (blkOk_by (own := [("k", 4)]) (N := ["script", "state", "packets", "rows", "k", "cell", "octets", "i", "part", "builder", "held", "ended", "told", "packet", "answer", "whole"]) (sc := defScope s_law) (by decide +kernel)) (fun _ _ _ _ _ => (pg_name (i := 4) sc_law.nd rfl (by first | exact Or.inl rfl | exact Or.inr rfl))) (fun _ _ _ _ _ => pts_nil) (fun _ _ _ _ _ => pe_int))
      (pss_cons (ps_for PassesOwn.never rfl (pi_list (pe_cl c_law_mixed hr (by decide) pass0 (pa_cons (pe_cl c_law_start hr (by decide) pass0 (pa_cons (pe_cl c_law_cell hr (by decide) pass0 (pa_cons (pv 0) (pa_cons pe_int pa_nil))) (pa_cons pe_int pa_nil))) (pa_cons (pv 3) pa_nil)))) (pg_tup rfl (pgs_cons (pg_name (i := 4) sc_law.nd rfl (by first | exact Or.inl rfl | exact Or.inr rfl)) (pgs_cons (pg_name (i := 8) sc_law.nd rfl (by first | exact Or.inl rfl | exact Or.inr rfl)) pgs_nil)))
      (pss_cons (ps_set (i := 13) sc_law.nd rfl (by first | exact Or.inl rfl | exact Or.inr rfl) (pe_ix ix_list (pv 2) (pv 4) (fun _ _ => rfl)))
      (pss_cons (ps_asg (pe_op op_cat (pe_ix ix_list (pv 10) (pv 4) (fun _ _ => rfl)) (pe_lc (own := [("i", 7)]) rfl sc_law.nd (pi_range2 rfl T.b_range (pa_cons (pe_fld (pv 8) rfl) (pa_cons (pe_me0 c_Part_end hr (by decide) pass0 (pv 8)) pa_nil))) (blkOk_by (own := [("i", 7)]) (N := ["script", "state", "packets", "rows", "k", "cell", "octets", "i", "part", "builder", "held", "ended", "told", "packet", "answer", "whole"]) (sc := defScope s_law) (by decide +kernel)) (fun _ _ _ _ _ => (pg_name (i := 7) sc_law.nd rfl (by first | exact Or.inl rfl | exact Or.inr rfl))) (fun _ _ _ _ _ => pts_one (pt_cmpR (op_notIn_seqK K) (pv 7) (pe_ix (ix_listK K) (pv 10) (pv 4) (fun _ _ => rfl)) rfl)) (fun _ _ _ _ _ => (pv 7)))) (pg_sub (pv 10) (pv 4) set_list))
      (pss_cons (ps_asg (pe_or (pe_ix ix_list (pv 11) (pv 4) (fun _ _ => rfl)) (pe_one (pe_fld (pv 8) rfl))) (pg_sub (pv 11) (pv 4) set_list))
      (pss_cons (ps_set (i := 14) sc_law.nd rfl (by first | exact Or.inl rfl | exact Or.inr rfl) (pe_me c_Builder_add hr (by decide) pass0 (pv 9) (pa_cons (pe_ix ix_tup (pv 13) pe_int (fun _ _ => rfl)) (pa_cons (pe_ix ix_tup (pv 13) pe_int (fun _ _ => rfl)) (pa_cons (pv 8) (pa_cons pe_int pa_nil))))))
      (pss_cons (ps_set (i := 15) sc_law.nd rfl (by first | exact Or.inl rfl | exact Or.inr rfl) (pe_and (pe_ix ix_list (pv 11) (pv 4) (fun _ _ => rfl)) (pe_one (pe_cl c_law_whole hr (by decide) pass0 (pa_cons (pe_ix ix_list (pv 10) (pv 4) (fun _ _ => rfl)) (pa_cons (pe_ix ix_tup (pv 13) pe_int (fun _ _ => rfl)) pa_nil))))))
      (pss_cons (ps_if (pt_cmpR op_ne (pe_cmpR op_notN (pv 14) pe_non (nomark _)) (pv 15) (nomark _))
      (pss_one (ps_ret pe_bl))
      pss_nil)
      (pss_one (ps_if (pt_cmpR op_notN (pv 14) pe_non (nomark _))
      (pss_cons (ps_if (pt_cmpR (op_neD hr.units) (pv 14) (pe_ix ix_tup (pv 13) pe_int (fun _ _ => rfl)) (nomark _))
      (pss_one (ps_ret pe_bl))
      pss_nil)
      (pss_cons (ps_asg (pe_op op_add (pe_ix ix_list (pv 12) (pv 4) (fun _ _ => rfl)) pe_int) (pg_sub (pv 12) (pv 4) set_list))
      (pss_cons (ps_asg (pe_lst pa_nil) (pg_sub (pv 10) (pv 4) set_list))
      (pss_one (ps_asg pe_bl (pg_sub (pv 11) (pv 4) set_list))))))
      pss_nil)))))))))
      (pss_cons (ps_for PassesOwn.never rfl (pi_range1 rfl T.b_range (pa_cons (pe_callB call_len_seq (by rfl) T.b_len PySem.boot_len (pa_cons (pv 2) pa_nil)) pa_nil)) (pg_name (i := 4) sc_law.nd rfl (by first | exact Or.inl rfl | exact Or.inr rfl))
      (pss_one (ps_if (pt_cmpR op_eq (pe_ix ix_list (pv 12) (pv 4) (fun _ _ => rfl)) pe_int (nomark _))
      (pss_one (ps_ret pe_bl))
      pss_nil)))
      (pss_one (ps_ret pe_bl)))))))))))), ?_⟩
  walk_at "g"
  refine ⟨a, ns, 0, rfl, rfl, hS, by decide, fun z => ?_⟩
  walk_at "g"
  intro p0 n0 H1 hp0 s1 h1
  walk_at "g"
  intro rp hrp
  walk_at "g"
  intro r0 hr0
  have s2 : Same H1 (upd (upd H1 rp (.lst [])) r0 (.lst [])) := Same.new (Same.new (Same.refl _) hrp) ((Same.new (Same.refl _) hrp : Same H1 (upd H1 rp (.lst []))).free hr0)
  have nr0 : rp ≠ r0 := fun e => by rw [← e, upd_same] at hr0; cases hr0
  walk_at "g"
  refine ⟨p0, n0, 5, _, rfl, rfl, s2 _ _ h1, by decide, by decide, KeepP.refl, fun d n1 H2 k2 hd2 d0 d1 => ?_⟩
  have s3 : Same H H2 := KeepP.same k2 (s1.trans s2) hp0
  have n0p : rp ≠ p0 := fun e => by rw [e, h1] at hrp; cases hrp
  have hrp2 : H2 rp = some (.lst []) := k2 _ _ (upd_get upd_same nr0) n0p
  have hr02 : H2 r0 = some (.lst []) := k2 _ _ upd_same (fun e => by rw [e, (Same.new (Same.refl _) hrp : Same H1 (upd H1 rp (.lst []))) _ _ h1] at hr0; cases hr0)
  walk_at "g"
  refine ⟨by omega, by omega, for_range (lo := 0) (n := (1 + d).toNat) (fun i σ H' => KeepP rp H2 H' ∧ ∃ (r : Addr) (ts : List Addr) (rs : List V) (kms : List (Nat × PartM)) (X : Nat → List Int) (w1 w2 w3 : Option V),
    σ = [some (.ref a), some (.ref p0), some (.ref rp), some (.ref r), w1, w2, w3, none, none, none, none, none, none, none, none, none] ∧ H' rp = some (.lst (ts.map V.ref)) ∧ r ≠ rp ∧ H' r = some (.lst rs) ∧ P1 C_Part rp H' i ts rs kms X) ?_ ?_ ?_⟩
  · exact ⟨KeepP.refl, r0, [], [], [], fun _ => [], _, _, _, rfl, hrp2, nr0.symm, hr02, ⟨rfl, by simp, by simp, .nil, by simp, by simp, by simp⟩⟩
  · rintro i σ H3 hi ⟨k3, r, ts, rs, kms, X, w1, w2, w3, rfl, hrp3, nr, hr3, P⟩
    have s4 : Same H H3 := KeepP.same k3 s3 (s1.free hrp)
    simp only [Int.zero_add]
    walk_at "g"
    refine ⟨a, ns, _, rfl, rfl, s4.seq hS, by omega, fun z => ?_⟩
    walk_at "g"
    refine ⟨by omega, by omega, fun pc n3 H4 hpc s5 h4 => ?_⟩
    walk_at "g"
    refine ⟨pc, n3, 9, H4, rfl, rfl, h4, by decide, by decide, KeepP.refl, fun d5 n5 H5 k5 h5 e0 e1 => ?_⟩
    have S5 : Same H3 H5 := KeepP.same k5 s5 hpc
    walk_at "g"
    refine ⟨by omega, by omega, fun D hD => ?_⟩
    have nDp : D ≠ pc := fun e => by rw [e, h5] at hD; cases hD
    have hD3 := S5.free hD
    refine lc_range (lo := 0) (n := d5.toNat) (fun j H' => Keep (fun z => z = pc ∨ z = D) (upd H5 D (.lst [])) H' ∧ (∃ v, H' pc = some (.lst [.int v])) ∧ ∃ xs : List Int, xs.length = j ∧ H' D = some (.lst (xs.map V.int))) ⟨Keep.refl, ⟨n5, upd_get h5 nDp.symm⟩, [], rfl, upd_same⟩ ?_ ?_
    · rintro j H6 hj ⟨k6, ⟨v6, h6⟩, xs, hxs, hD6⟩
      walk_at "g"
      refine ⟨pc, v6, 256, H6, rfl, rfl, h6, by decide, by decide, KeepP.refl, fun y v7 H7 k7 h7 y0 y1 => ?_⟩
      have hD7 := k7 _ _ hD6 nDp
      refine ⟨_, hD7, szl _ (by rw [List.length_map]; omega), Keep.upd (k6.trans (k7.mono fun _ e => .inl e)) (.inr rfl), ⟨v7, upd_get h7 nDp.symm⟩, xs ++ [y], by rw [List.length_append, hxs]; rfl, by rw [upd_same, List.map_append]; rfl⟩
    · rintro H6 ⟨k6, ⟨v6, h6⟩, xs, hxs, hD6⟩
      have S6 : Same H3 H6 := fun x o e => k6 x o ((Same.new S5 hD3) x o e) fun z => z.elim (fun z => by rw [z, hpc] at e; cases e) fun z => by rw [z, hD3] at e; cases e
      walk_at "g"
      refine ⟨pc, v6, 83, H6, rfl, rfl, h6, by decide, by decide, KeepP.refl, fun d8 n8 H8 k8 h8 f0 f1 => ?_⟩
      have hD8 := k8 _ _ hD6 nDp
      have S8 : Same H3 H8 := fun x o e => k8 x o (S6 x o e) (ne_of_none e hpc)
      walk_at "g"
      refine ⟨by omega, by omega, fun G hG => ?_⟩
      have nGD : G ≠ D := fun e => by rw [e, hD8] at hG; cases hG
      have nGp : G ≠ pc := fun e => by rw [e, h8] at hG; cases hG
      have hG3 := S8.free hG
      refine lc_range (lo := 0) (n := d8.toNat) (fun j H' => KeepP G (upd H8 G (.lst [])) H' ∧ ∃ ys : List Int, ys.length = j ∧ H' G = some (.lst (ys.map V.int))) ⟨KeepP.refl, [], rfl, upd_same⟩ ?_ ?_
      · rintro j H9 hj ⟨k9, ys, hys, hG9⟩
        walk_at "g"
        refine ⟨wide_mul (a := 20) (b := 20) (by omega) (by decide) (by decide) (by decide) (by decide), ?_⟩
        walk_at "g"
        refine ⟨_, hG9, szl _ (by rw [List.length_map]; omega), KeepP.upd k9, ys ++ [_], by rw [List.length_append, hys]; rfl, by rw [upd_same, List.map_append]; rfl⟩
      · rintro H9 ⟨k9, ys, hys, hG9⟩
        have S9 : Same H3 H9 := KeepP.same k9 (Same.new S8 hG3) hG3
        have hD9 : H9 D = some (.lst (xs.map V.int)) := k9 _ _ (upd_get hD8 nGD.symm) nGD.symm
        have h9 : H9 pc = some (.lst [.int n8]) := k9 _ _ (upd_get h8 nGp.symm) nGp.symm
        refine ⟨D, G, _, _, rfl, rfl, hD9, hG9, (by rw [List.length_map, List.length_map, sizeLine_eq]; omega), fun o ho => ?_⟩
        have ho3 := S9.free ho
        have npo : pc ≠ o := ne_of_none h9 ho
        have eo : (xs.map V.int ++ ys.map V.int) = (xs ++ ys).map V.int := by rw [List.map_append]
        have lxy : (xs ++ ys).length ≤ 90 := by rw [List.length_append]; omega
        rw [eo]
        generalize xs ++ ys = zs at lxy
        have S10 : Same H3 (upd H9 o (.lst (zs.map V.int))) := Same.new S9 ho3
        have h10 := upd_get (u := .lst (zs.map V.int)) h9 npo
        have o10 : (upd H9 o (.lst (zs.map V.int))) o = some (.lst (zs.map V.int)) := upd_same
        generalize upd H9 o (.lst (zs.map V.int)) = H10 at S10 h10 o10
        walk_at "g"
        refine ⟨.inl ⟨rfl, _, SqL.of (S10 _ _ hrp3)⟩, ?_⟩
        walk_at "g"
        refine ⟨⟨by decide, by decide⟩, ?_⟩
        walk_at "g"
        refine ⟨(by show 4 ≤ sizeLine; decide), fun t ht => ?_⟩
        have ht3 := S10.free ht
        have e2 : (7 : Int) + ((i : Nat) : Int) / 2 = 7 + ((i / 2 : Nat) : Int) := by omega
        have e3 : (3 : Int) + ((i : Nat) : Int) % 2 = 3 + ((i % 2 : Nat) : Int) := by omega
        have S11 : Same H3 (upd H10 t (.tup [.int (3 + ((i : Nat) : Int) % 2), .int 9, .int (7 + ((i : Nat) : Int) / 2), .ref o])) := Same.new S10 ht3
        have t11 : (upd H10 t (.tup [.int (3 + ((i : Nat) : Int) % 2), .int 9, .int (7 + ((i : Nat) : Int) / 2), .ref o])) t = some (.tup [.int (3 + ((i % 2 : Nat) : Int)), .int 9, .int (7 + ((i / 2 : Nat) : Int)), .ref o]) := by rw [upd_same, e2, e3]
        have h11 := upd_get (u := .tup [.int (3 + ((i : Nat) : Int) % 2), .int 9, .int (7 + ((i : Nat) : Int) / 2), .ref o]) h10 (ne_of_none h10 ht)
        have o11 := upd_get (u := .tup [.int (3 + ((i : Nat) : Int) % 2), .int 9, .int (7 + ((i : Nat) : Int) / 2), .ref o]) o10 (ne_of_none o10 ht)
        generalize upd H10 t (.tup [.int (3 + ((i : Nat) : Int) % 2), .int 9, .int (7 + ((i : Nat) : Int) / 2), .ref o]) = H11 at S11 h11 o11 t11
        walk_at "g"
        have nprp : pc ≠ rp := fun e => by rw [e, hrp3] at hpc; cases hpc
        have norp : o ≠ rp := fun e => by rw [e, hrp3] at ho3; cases ho3
        have ntrp : t ≠ rp := fun e => by rw [e, hrp3] at ht3; cases ht3
        refine ⟨rp, _, _, rfl, rfl, S11 _ _ hrp3, szl _ (by rw [List.length_map, P.len]; omega), ?_⟩
        have k12 : KeepP rp H3 (upd H11 rp (.lst (ts.map V.ref ++ [.ref t]))) := KeepP.upd (Keep.of S11)
        have h12 := upd_get (u := .lst (ts.map V.ref ++ [.ref t])) h11 nprp
        have o12 := upd_get (u := .lst (ts.map V.ref ++ [.ref t])) o11 norp
        have t12 := upd_get (u := .lst (ts.map V.ref ++ [.ref t])) t11 ntrp
        have rp12 : (upd H11 rp (.lst (ts.map V.ref ++ [.ref t]))) rp = some (.lst ((ts ++ [t]).map V.ref)) := by rw [upd_same, List.map_append]; rfl
        generalize upd H11 rp (.lst (ts.map V.ref ++ [.ref t])) = H12 at k12 h12 o12 t12 rp12
        walk_at "g"
        refine ⟨⟨by decide, by decide⟩, ?_⟩
        walk_at "g"
        refine ⟨_, _, _, rfl, pc, o, 7 + ((i / 2 : Nat) : Int), n8, zs, rfl, congrArg V.int e2, rfl, h12, o12, npo.symm, by omega, fun H13 rr pps ms v13 k13 h13 hrr hr13 hpl hparts hfew => ?_⟩
        have S13 : KeepP rp H3 H13 := fun x u e n => k13 x u (k12 x u e n) (ne_of_none e hpc)
        have rp13 := k13 _ _ rp12 nprp.symm
        have nrrp : rr ≠ rp := fun e => by rw [e, rp12] at hrr; cases hrr
        walk_at "g"
        refine ⟨⟨_, SqL.of hr13⟩, fun M hM => ?_⟩
        have nMr : M ≠ rr := fun e => by rw [e, hr13] at hM; cases hM
        have nMrp : M ≠ rp := fun e => by rw [e, rp13] at hM; cases hM
        refine lc_list (xs := pps.map V.ref) (fun j H' => KeepP M (upd H13 M (.lst [])) H' ∧ ∃ us : List V, H' M = some (.lst us) ∧ Paired (fun v (q : PartM) => ∃ t x z, v = .ref t ∧ H' t = some (.tup [.int (i : Nat), .ref x]) ∧ z ≠ rp ∧ z ≠ M ∧ PartAtQ C_Part H' x z q) us (ms.take j))
          ⟨KeepP.refl, [], upd_same, .nil⟩ (fun j H' _ hh => SqL.of (hh.1 _ _ (upd_get hr13 nMr.symm) nMr.symm)) ?_ ?_
        · rintro j x H14 hx ⟨k14, us, hM14, hus⟩
          rw [List.getElem?_map] at hx
          cases hq : pps[j]? with
          | none => rw [hq] at hx; cases hx
          | some y =>
            rw [hq] at hx
            have hx : V.ref y = x := Option.some.inj hx
            subst hx
            obtain ⟨m1, hm1, zz, pz, ez⟩ := Paired.get hpl hq
            have nzrp : zz ≠ rp := fun e => by rw [e, rp12] at ez; cases ez
            have nzM : zz ≠ M := fun e => by
              obtain ⟨_, _, e2⟩ := pz
              rw [e, hM] at e2
              cases e2
            have pz14 : PartAtQ C_Part H14 y zz m1 := (pz.same (Same.new (Same.refl _) hM)).keep k14 upd_same nzM
            have lus := Paired.len hus
            rw [List.length_take] at lus
            walk_at "g"
            refine ⟨(by show 2 ≤ sizeLine; decide), fun t2 ht2 => ?_⟩
            have nt2M : t2 ≠ M := fun e => by rw [e, hM14] at ht2; cases ht2
            have S15 : Same H14 (upd H14 t2 (.tup [.int (i : Nat), .ref y])) := Same.new (Same.refl _) ht2
            refine ⟨us, S15 _ _ hM14, szl _ (by omega), KeepP.upd (k14.trans (Keep.of S15)), us ++ [.ref t2], upd_same, ?_⟩
            rw [take_snoc hm1]
            refine Paired.snoc ⟨t2, y, zz, rfl, upd_get upd_same nt2M, nzrp, nzM, (pz14.same S15).keep (KeepP.upd KeepP.refl) (S15 _ _ hM14) nzM⟩ (Paired.imp (fun v q ⟨t, x, z, e1, e2, e3, e4, e5⟩ => ⟨t, x, z, e1, ?_, e3, e4, (e5.same S15).keep (KeepP.upd KeepP.refl) (S15 _ _ hM14) e4⟩) hus)
            exact upd_get (S15 _ _ e2) (ne_kind e2 hM14 (fun z => nomatch z))
        · rintro H14 ⟨k14, us, hM14, hus⟩
          have lpl := Paired.len hpl
          rw [List.take_of_length_le (by rw [List.length_map]; omega)] at hus
          have nrM : r ≠ M := fun e => by rw [← e, S13 _ _ hr3 nr] at hM; cases hM
          have S14 : KeepP rp H3 H14 := fun x u e n => k14 x u (Same.new (Same.refl _) hM x u (S13 x u e n)) (fun e2 => by rw [← e2, S13 x u e n] at hM; cases hM)
          have lus := Paired.len hus
          have lrs := Paired.len P.rows
          walk_at "g"
          refine ⟨r, M, _, _, rfl, rfl, S14 _ _ hr3 nr, hM14, ?_, fun r2 hr2 => ?_⟩
          · rw [sizeLine_eq]
            have := P.few
            have : i * 20402 ≤ 5 * 20402 := Nat.mul_le_mul_right _ (by omega)
            omega
          have rp14 : H14 rp = some (.lst ((ts ++ [t]).map V.ref)) := k14 _ _ (upd_get rp13 nMrp.symm) nMrp.symm
          have nr2 : r2 ≠ rp := fun e => by rw [e, rp14] at hr2; cases hr2
          have S15 : Same H14 (upd H14 r2 (.lst (rs ++ us))) := Same.new (Same.refl _) hr2
          have o13 := k13 _ _ o12 npo.symm
          have noM : o ≠ M := fun e => by rw [← e, o13] at hM; cases hM
          have o14 : H14 o = some (.lst (zs.map V.int)) := k14 _ _ (upd_get o13 noM) noM
          have ntpc : t ≠ pc := ne_kind t12 h12 (fun z => nomatch z)
          have t13 := k13 _ _ t12 ntpc
          have ntM : t ≠ M := fun e => by rw [← e, t13] at hM; cases hM
          have t14 := k14 _ _ (upd_get t13 ntM) ntM
          refine ⟨(k3.trans S14).trans (Keep.of S15), r2, ts ++ [t], rs ++ us, kms ++ ms.map (fun m => (i, m)), fu X i zs, _, _, _, rfl, S15 _ _ rp14, nr2, upd_same, ?_⟩
          have S16 : KeepP rp H3 (upd H14 r2 (.lst (rs ++ us))) := S14.trans (Keep.of S15)
          refine ⟨by rw [List.length_append, P.len]; rfl, ?_, ?_, ?_, ?_, ?_, ?_⟩
          · intro k u hu
            by_cases hk : k < i
            · rw [List.getElem?_append_left (by rw [P.len]; exact hk)] at hu
              obtain ⟨o', a1, a2, a3⟩ := P.pack k u hu
              refine ⟨o', a1, S16 _ _ a2 (ne_kind a2 hrp3 (fun z => nomatch z)), ?_⟩
              rw [fu_ne (by omega)]
              exact S16 _ _ a3 a1
            · rw [List.getElem?_append_right (by rw [P.len]; omega), P.len] at hu
              have hki : k = i := by
                have := (List.getElem?_eq_some_iff.mp hu).1
                simp at this
                omega
              subst hki
              rw [Nat.sub_self] at hu
              have hu : t = u := Option.some.inj hu
              subst hu
              exact ⟨o, norp, S15 _ _ t14, by rw [fu_same]; exact S15 _ _ o14⟩
          · intro k hk
            by_cases e : k = i
            · rw [e, fu_same]; exact lxy
            · rw [fu_ne e]; exact P.small k (by omega)
          · refine Paired.app (Paired.imp (fun v q ⟨t, x, z, e1, e2, e3, e4⟩ => ⟨t, x, z, e1, S16 _ _ e2 (ne_kind e2 hrp3 (fun z => nomatch z)), e3, e4.keep S16 hrp3 e3⟩) P.rows) ?_
            refine Paired.of_get (by rw [List.length_map]; exact lus) fun b v q hv hq => ?_
            rw [List.getElem?_map] at hq
            cases hm : ms[b]? with
            | none => rw [hm] at hq; cases hq
            | some m =>
              rw [hm] at hq
              have hq : (i, m) = q := Option.some.inj hq
              subst hq
              obtain ⟨m', hm', t', x', z', e1, e2, e3, e4, e5⟩ := Paired.get hus hv
              rw [hm] at hm'
              cases hm'
              exact ⟨t', x', z', e1, S15 _ _ e2, e3, e5.same S15⟩
          · intro q hq
            rcases List.mem_append.mp hq with hq | hq
            · obtain ⟨b1, b2⟩ := P.good q hq
              refine ⟨by omega, ?_⟩
              rw [fu_ne (by omega)]
              exact b2
            · obtain ⟨m, hm, rfl⟩ := List.mem_map.mp hq
              refine ⟨by show i < i + 1; omega, ?_⟩
              show Good (7 + ((i / 2 : Nat) : Int)) (fu X i zs i) m
              rw [fu_same]
              exact hparts.good m hm
          · intro k hk
            by_cases e : k = i
            · rw [e, fu_same]
              refine ⟨fun b hb => ?_, ?_⟩
              · obtain ⟨m, hm, c1, c2⟩ := hparts.cover b hb
                exact ⟨(i, m), List.mem_append.mpr (.inr (List.mem_map.mpr ⟨m, hm, rfl⟩)), rfl, c1, c2⟩
              · obtain ⟨m, hm, c⟩ := hparts.last
                exact ⟨(i, m), List.mem_append.mpr (.inr (List.mem_map.mpr ⟨m, hm, rfl⟩)), rfl, c⟩
            · rw [fu_ne e]
              obtain ⟨c1, c2⟩ := P.cover k (by omega)
              refine ⟨fun b hb => ?_, ?_⟩
              · obtain ⟨q, hq, c⟩ := c1 b hb
                exact ⟨q, List.mem_append.mpr (.inl hq), c⟩
              · obtain ⟨q, hq, c⟩ := c2
                exact ⟨q, List.mem_append.mpr (.inl hq), c⟩
          · rw [List.length_append, List.length_map]
            have := P.few
            omega
  · rintro σ H3 ⟨k3, r, ts, rs, kms, X, w1, w2, w3, rfl, hrp3, nr, hr3, P⟩
    have S3 : Same H H3 := KeepP.same k3 s3 (s1.free hrp)
    generalize hN : (1 + d).toNat = N at P
    have hN5 : N ≤ 5 := by omega
    have hN1 : 1 ≤ N := by omega
    clear k2 hd2 hrp2 hr02 s2 hr0
    (walk_at "g"; refine ⟨_, _, rfl, .inl (SqL.of (hrp3)), ?_⟩; walk_at "g")
    rw [List.length_map, P.len]
    walk_at "g"
    intro b dx hb0 hdx hne
    refine ⟨_, _, _, rfl, b, dx, (N : Int), 100, rfl, rfl, rfl, upd_same, by omega, by decide, fun H4 l k4 hl4 B4 => ⟨rfl, ?_⟩⟩
    have S4 : Same H3 H4 := KeepP.made hb0 hdx k4
    have hl3 : H3 l = none := (upd_none (upd_none hl4).2).2
    have nlb : l ≠ b := (upd_none hl4).1
    (walk_at "g"; refine ⟨_, _, rfl, .inl (SqL.of (S4 _ _ hrp3)), ?_⟩; walk_at "g")
    rw [List.length_map, P.len]
    refine ⟨by omega, by omega, fun rh hrh => ?_⟩
    refine lc_range (lo := 0) (n := ((N : Nat) : Int).toNat) (fun j H' => KeepP rh (upd H4 rh (.lst [])) H' ∧ ∃ hk : Nat → Addr, H' rh = some (.lst ((List.range j).map fun k => V.ref (hk k))) ∧ ∀ k, k < j → H' (hk k) = some (.lst []) ∧ hk k ≠ rh ∧ H4 (hk k) = none)
      ⟨KeepP.refl, fun _ => 0, upd_same, by simp⟩ ?_ ?_
    · rintro j H5 hj ⟨k5, hk, h5, q5⟩
      walk_at "g"
      intro c hc
      have ncr : c ≠ rh := fun e => by rw [e, h5] at hc; cases hc
      have c4 : H4 c = none := by
        have := k5.free hc ncr
        exact (upd_none this).2
      refine ⟨_, upd_get h5 ncr.symm, szl _ (by rw [List.length_map, List.length_range]; omega), KeepP.upd (k5.trans (Keep.of (Same.new (Same.refl _) hc))), fu hk j c, ?_, ?_⟩
      · rw [upd_same, range_snoc, fu_same]
        congr 3
        refine List.map_congr_left fun k hk2 => ?_
        have := List.mem_range.mp hk2
        rw [fu_ne (by omega)]
      · intro k hk2
        by_cases e : k = j
        · subst e
          rw [fu_same]
          exact ⟨upd_get upd_same ncr, ncr, c4⟩
        · rw [fu_ne e]
          obtain ⟨a1, a2, a3⟩ := q5 k (by omega)
          exact ⟨upd_get (upd_get a1 (ne_of_none a1 hc)) a2, a2, a3⟩
    · rintro H5 ⟨k5, hk, h5, q5⟩
      rw [Int.toNat_natCast] at h5 q5
      have S5 : Same H4 H5 := KeepP.same k5 (Same.new (Same.refl _) hrh) hrh
      (walk_at "g"; refine ⟨_, _, rfl, .inl (SqL.of (S5 _ _ (S4 _ _ hrp3))), ?_⟩; walk_at "g")
      rw [List.length_map, P.len]
      refine ⟨by omega, by omega, fun re hre => ?_⟩
      refine lc_range (lo := 0) (n := ((N : Nat) : Int).toNat) (fun j H' => KeepP re (upd H5 re (.lst [])) H' ∧ H' re = some (.lst ((List.range j).map fun _ => V.bl false))) ⟨KeepP.refl, upd_same⟩ ?_ ?_
      · rintro j H6 hj ⟨k6, h6⟩
        walk_at "g"
        refine ⟨_, h6, szl _ (by rw [List.length_map, List.length_range]; omega), KeepP.upd k6, by rw [upd_same, range_snoc]⟩
      rintro H6 ⟨k6, h6⟩
      rw [Int.toNat_natCast] at h6
      have S6 : Same H5 H6 := KeepP.same k6 (Same.new (Same.refl _) hre) hre
      (walk_at "g"; refine ⟨_, _, rfl, .inl (SqL.of (S6 _ _ (S5 _ _ (S4 _ _ hrp3)))), ?_⟩; walk_at "g")
      rw [List.length_map, P.len]
      refine ⟨by omega, by omega, fun rt hrt => ?_⟩
      refine lc_range (lo := 0) (n := ((N : Nat) : Int).toNat) (fun j H' => KeepP rt (upd H6 rt (.lst [])) H' ∧ H' rt = some (.lst ((List.range j).map fun _ => V.int 0))) ⟨KeepP.refl, upd_same⟩ ?_ ?_
      · rintro j H7 hj ⟨k7, h7⟩
        walk_at "g"
        refine ⟨_, h7, szl _ (by rw [List.length_map, List.length_range]; omega), KeepP.upd k7, by rw [upd_same, range_snoc]⟩
      rintro H7 ⟨k7, h7⟩
      rw [Int.toNat_natCast] at h7
      have S7 : Same H6 H7 := KeepP.same k7 (Same.new (Same.refl _) hrt) hrt
      have S37 : Same H3 H7 := ((S4.trans S5).trans S6).trans S7
      have h5' := S7 _ _ (S6 _ _ h5)
      have h6' := S7 _ _ h6
      have q5' : ∀ k, k < N → H7 (hk k) = some (.lst []) ∧ hk k ≠ rh ∧ H4 (hk k) = none := fun k hk2 => by
        obtain ⟨a1, a2, a3⟩ := q5 k hk2
        exact ⟨S7 _ _ (S6 _ _ a1), a2, a3⟩
      have B7 := B4.same ((S5.trans S6).trans S7)
      have nlh : rh ≠ l := fun e => by rw [e, B4.2.1] at hrh; cases hrh
      have nle : re ≠ l := fun e => by rw [e, S5 _ _ B4.2.1] at hre; cases hre
      have nlt : rt ≠ l := fun e => by rw [e, S6 _ _ (S5 _ _ B4.2.1)] at hrt; cases hrt
      have nhe : re ≠ rh := fun e => by rw [e, h5] at hre; cases hre
      have nht : rt ≠ rh := fun e => by rw [e, S6 _ _ h5] at hrt; cases hrt
      have net : rt ≠ re := fun e => by rw [e, h6] at hrt; cases hrt
      have qk : ∀ k, k < N → hk k ≠ l ∧ hk k ≠ rh ∧ hk k ≠ re ∧ hk k ≠ rt := fun k hk2 => by
        obtain ⟨a1, a2, a3⟩ := q5 k hk2
        refine ⟨fun e => ?_, a2, fun e => ?_, fun e => ?_⟩
        · rw [e, B4.2.1] at a3; cases a3
        · rw [e, hre] at a1; cases a1
        · have := S6 _ _ a1
          rw [e, hrt] at this; cases this
      have hrh3 : H3 rh = none := S4.free hrh
      have hre3 : H3 re = none := (S4.trans S5).free hre
      have hrt3 : H3 rt = none := ((S4.trans S5).trans S6).free hrt
      have hft : ∀ x, foot b l [] x → H3 x = none := by
        rintro x (e | e | ⟨q, hq, _⟩)
        · rw [e]; exact hb0
        · rw [e]; exact hl3
        · cases hq
      have j0 : J N X (fun _ => []) (fun _ => false) (fun _ => 0) (fun _ => 0) [] [] := ⟨List.nodup_nil, by simp, by simp, by simp, by simp, by simp, by simp⟩
      clear hrh hre hrt h5 q5 h6 k5 k6 k7 S5 S6 S7 k4 hl4 B4 S4 hne hdx
      walk_at "g"
      refine ⟨a, ns, 7, rfl, rfl, (S3.trans S37).seq hS, by decide, fun z7 => ?_⟩
      walk_at "g"
      intro p7 n7 H8 hp7 s8 h8
      walk_at "g"
      have hr8 := s8 _ _ (S37 _ _ hr3)
      have lrs := Paired.len P.rows
      refine ⟨p7, r, n7, rs, rfl, rfl, h8, hr8, (fun e => by rw [← e, S37 _ _ hr3] at hp7; cases hp7), ?_, fun H9 rm ys k9 hrm8 hrm hysub hyall => ?_⟩
      · have := P.few
        have : N * 20402 ≤ 5 * 20402 := Nat.mul_le_mul_right _ (by omega)
        omega
      have S79 : Same H7 H9 := KeepP.same k9 s8 hp7
      have S39 : Same H3 H9 := S37.trans S79
      have nmh : rm ≠ rh := fun e => by rw [e, s8 _ _ h5'] at hrm8; cases hrm8
      have nme : rm ≠ re := fun e => by rw [e, s8 _ _ h6'] at hrm8; cases hrm8
      have nmt : rm ≠ rt := fun e => by rw [e, s8 _ _ h7] at hrm8; cases hrm8
      have nml : rm ≠ l := fun e => by rw [e, s8 _ _ B7.2.1] at hrm8; cases hrm8
      have hrm3 : H3 rm = none := (S37.trans s8).free hrm8
      walk_at "g"
      refine ⟨⟨_, SqL.of hrm⟩, for_it (walk_list (xs := ys)) (fun i σ H' => ∃ (pb : List (Addr × Addr)) (hd : Nat → List Int) (en : Nat → Bool) (TT tl : Nat → Int) (act : List Nat) (hk : Nat → Addr) (fed : List (Nat × PartM)) (w4 w5 w6 w7 w8 w13 w14 w15 : Option V),
        σ = [some (.ref a), some (.ref p0), some (.ref rp), some (.ref r), w4, w5, w6, w7, w8, some (.ref b), some (.ref rh), some (.ref re), some (.ref rt), w13, w14, w15] ∧ MI C_Builder C_Heap H3 H' b l rm rh re rt N X pb hd en TT tl act fed hk ys ∧
        ∀ (c : Nat) v q, rs[c]? = some v → kms[c]? = some q → v ∈ ys.take i → q ∈ fed) ?_ ?_ ?_ ?_⟩
      · exact ⟨[], fun _ => [], fun _ => false, fun _ => 0, fun _ => 0, [], hk, [], _, _, _, _, _, _, _, _, rfl, ⟨S39, B7.same S79, hft, hrm, S79 _ _ h5', fun k hk2 => ⟨S79 _ _ (q5' k hk2).1, qk k hk2⟩, S79 _ _ h6', S79 _ _ h7, j0⟩, by simp⟩
      · rintro i σ H' _ ⟨_, _, _, _, _, _, _, _, _, _, _, _, _, _, _, _, _, M, _⟩
        exact SqL.of M.hrm
      · rintro i x σ Ha Hb hi ⟨pb, hd, en, TT, tl, act, hk, fed, w4, w5, w6, w7, w8, w13, w14, w15, rfl, M, hfed⟩ ⟨rfl, hx⟩
        obtain ⟨c0, hc0⟩ := List.getElem?_of_mem (hysub x (List.mem_of_getElem? hx))
        obtain ⟨⟨k, m⟩, hq0, t, x', z', rfl, ht3, hz', P3⟩ := Paired.get P.rows hc0
        obtain ⟨hkN, hgood⟩ := P.good _ (List.mem_of_getElem? hq0)
        have hkN : k < N := hkN
        have hgood : Good (7 + ((k / 2 : Nat) : Int)) (X k) m := hgood
        have hXk := P.small k hkN
        have ht3 : H3 t = some (.tup [.int (k : Nat), .ref x']) := ht3
        have P3 : PartAtQ C_Part H3 x' z' m := P3
        obtain ⟨tk, htk⟩ : ∃ tk, ts[k]? = some tk := ⟨_, List.getElem?_eq_getElem (by rw [P.len]; exact hkN)⟩
        obtain ⟨ok, nok, htk3, hok3⟩ := P.pack k tk htk
        obtain ⟨dxp, x1, x2⟩ := id P3
        obtain ⟨g1, g2, g3, g4, g5⟩ := id hgood
        have hst : m.stop = m.s + (m.xs.length : Int) := rfl
        have Sa := M.same
        refine ⟨_, _, rfl, SqT.of (Sa _ _ ht3), rfl, _, _, rfl, _, _, rfl, rfl, ?_⟩
        walk_at "g"
        refine ⟨rp, _, (k : Int), .ref tk, rfl, rfl, SqL.of (Sa _ _ hrp3), at_ofG rfl (by rw [List.getElem?_map, htk]; rfl), ?_⟩
        walk_at "g"
        refine ⟨rh, _, (k : Int), .ref (hk k), rfl, rfl, SqL.of M.hrh, at_ofG rfl (range_at hkN), ?_⟩
        (walk_at "g"; refine ⟨_, C_Part, _, _, _, rfl, Sa _ _ x1, T.cl_Part, T.na_Part_start, fs_Part_start, ?_⟩; walk_at "g")
        (walk_at "g"; refine ⟨_, _, _, rfl, Sa _ _ x1, fs_Part_no_end, ?_⟩; walk_at "g")
        refine ⟨x', m, rfl, ⟨z', P3.same Sa⟩, by omega, fun Hc sc => ?_⟩
        have Sc := Sa.trans sc
        walk_at "g"
        refine ⟨⟨by omega, by omega, by omega, by omega⟩, fun D hD => ?_⟩
        have enm : (m.stop - m.s).toNat = m.xs.length := by omega
        rw [enm]
        have hh := M.hke k hkN
        have nDc : ∀ {y : Addr} {u : HO}, Hc y = some u → D ≠ y := fun {y u} h e => by rw [e, h] at hD; cases hD
        have rhc := sc _ _ M.hrh
        have hkc := sc _ _ hh.1
        refine lc_it (walk_range (lo := m.s) (n := m.xs.length)) (fun j H' => KeepP D (upd Hc D (.lst [])) H' ∧ H' D = some (.lst ((newK (hd k) m.s j).map V.int))) ⟨KeepP.refl, upd_same⟩ (fun _ _ _ _ => trivial) ?_ ?_
        · rintro j y Hd He hj ⟨kd, hDd⟩ ⟨rfl, rfl⟩
          have rhd := kd _ _ (upd_get rhc (nDc rhc).symm) (nDc rhc).symm
          have hkd := kd _ _ (upd_get hkc (nDc hkc).symm) (nDc hkc).symm
          walk_at "g"
          refine ⟨rh, _, (k : Int), .ref (hk k), rfl, rfl, SqL.of rhd, at_ofG rfl (range_at hkN), ?_⟩
          refine ⟨hk k, _, rfl, .inl (SqL.of hkd), rfl, flat_ints _, ?_⟩
          rw [if_pos rfl, inV_ints]
          walk_at "g"
          by_cases hin : m.s + ((j : Nat) : Int) ∈ hd k
          · refine ite_f (by rw [decide_eq_true hin]; rfl) ?_
            refine ⟨kd, ?_⟩
            rw [hDd, newK_snoc, if_pos hin, List.append_nil]
          · refine ite_t (by rw [decide_eq_false hin]; rfl) ?_
            walk_at "g"
            refine ⟨_, hDd, szl _ ?_, KeepP.upd kd, ?_⟩
            · rw [List.length_map]
              unfold newK
              refine Nat.le_trans (List.length_filter_le _ _) ?_
              rw [List.length_map, List.length_range]
              omega
            · rw [upd_same, newK_snoc, if_neg hin, List.map_append]
              rfl
        · rintro Hd ⟨kd, hDd⟩
          have Sd : Same Hc Hd := KeepP.same kd (Same.new (Same.refl _) hD) hD
          have eadd := addK_new (hd k) m.s m.xs.length
          have hlim : (hd k).length ≤ 200000 := by
            by_cases hm : k ∈ act
            · obtain ⟨I, _⟩ := M.j.inv k hm
              have := hinv_len I
              have e : (mkH X hd en TT k).places.length = (hd k).length := by
                show (pk (X k) (hd k)).length = _
                unfold pk
                rw [List.length_map]
              omega
            · rw [(M.j.out k hkN hm).1]; decide
          have hnl : (newK (hd k) m.s m.xs.length).length ≤ 100 := by
            unfold newK
            refine Nat.le_trans (List.length_filter_le _ _) ?_
            rw [List.length_map, List.length_range]
            omega
          walk_at "g"
          refine ⟨hk k, D, _, _, rfl, rfl, Sd _ _ hkc, hDd, ?_, fun o2 ho2 => ?_⟩
          · rw [List.length_map, List.length_map, sizeLine_eq]
            omega
          rw [← List.map_append, ← eadd]
          have So : Same Hb (upd Hd o2 (.lst ((addK (hd k) m.s m.xs.length).map V.int))) := Same.new (sc.trans Sd) ((sc.trans Sd).free ho2)
          have o2a : Hb o2 = none := (sc.trans Sd).free ho2
          have o2c : (upd Hd o2 (.lst ((addK (hd k) m.s m.xs.length).map V.int))) o2 = some (.lst ((addK (hd k) m.s m.xs.length).map V.int)) := upd_same
          generalize upd Hd o2 (.lst ((addK (hd k) m.s m.xs.length).map V.int)) = He at So o2c
          have n2 : ∀ {y : Addr} {u : HO}, Hb y = some u → o2 ≠ y := fun {y u} h e => by rw [e, h] at o2a; cases o2a
          walk_at "g"
          refine ⟨rh, _, (k : Int), k, rfl, rfl, So _ _ M.hrh, ixN_at (by rw [List.length_map, List.length_range]; exact hkN), ?_⟩
          rw [set_range hkN]
          have hrF := So _ _ M.hrh
          have SF : Same H3 (upd He rh (.lst ((List.range N).map (fu (fun k => V.ref (hk k)) k (.ref o2))))) := Same.upd (Sa.trans So) hrh3
          have BF := (M.bld.same So).upd (u := .lst ((List.range N).map (fu (fun k => V.ref (hk k)) k (.ref o2)))) hrF nlh
          have hmF := upd_get (u := .lst ((List.range N).map (fu (fun k => V.ref (hk k)) k (.ref o2)))) (So _ _ M.hrm) nmh
          have heF := upd_get (u := .lst ((List.range N).map (fu (fun k => V.ref (hk k)) k (.ref o2)))) (So _ _ M.hre) nhe
          have htF := upd_get (u := .lst ((List.range N).map (fu (fun k => V.ref (hk k)) k (.ref o2)))) (So _ _ M.hrt) nht
          have hhF : (upd He rh (.lst ((List.range N).map (fu (fun k => V.ref (hk k)) k (.ref o2))))) rh = some (.lst ((List.range N).map fun j => V.ref (fu hk k o2 j))) := by
            rw [upd_same]
            congr 2
            refine List.map_congr_left fun j _ => ?_
            unfold fu
            split <;> rfl
          have hkF : ∀ j, j < N → (upd He rh (.lst ((List.range N).map (fu (fun k => V.ref (hk k)) k (.ref o2))))) (fu hk k o2 j) = some (.lst ((fu hd k (addK (hd k) m.s m.xs.length) j).map V.int)) ∧ fu hk k o2 j ≠ l ∧ fu hk k o2 j ≠ rh ∧ fu hk k o2 j ≠ re ∧ fu hk k o2 j ≠ rt := by
            intro j hj
            by_cases e : j = k
            · rw [e, fu_same, fu_same]
              exact ⟨upd_get o2c (n2 M.hrh), n2 M.bld.2.1, n2 M.hrh, n2 M.hre, n2 M.hrt⟩
            · rw [fu_ne e, fu_ne e]
              obtain ⟨b1, b2, b3, b4, b5⟩ := M.hke j hj
              exact ⟨upd_get (So _ _ b1) b3, b2, b3, b4, b5⟩
          generalize upd He rh (.lst ((List.range N).map (fu (fun k => V.ref (hk k)) k (.ref o2)))) = HF at SF BF hmF heF htF hhF hkF
          clear hrF So o2c kd hDd Sd rhc hkc hD Sc sc
          walk_at "n"
          refine te_mid (fun v H' => v = .bl (en k || m.l) ∧ H' = HF) ?_ (fun tail => ?_)
          · rintro _ HF ⟨rfl, rfl⟩
            walk_at "g"
            refine ⟨re, _, (k : Int), k, rfl, rfl, heF, ixN_at (by rw [List.length_map, List.length_range]; exact hkN), ?_⟩
            rw [set_range hkN]
            have SG : Same H3 (upd HF re (.lst ((List.range N).map (fu (fun k => V.bl (en k)) k (.bl (en k || m.l)))))) := Same.upd SF hre3
            have BG := BF.upd (u := .lst ((List.range N).map (fu (fun k => V.bl (en k)) k (.bl (en k || m.l))))) heF nle
            have hmG := upd_get (u := .lst ((List.range N).map (fu (fun k => V.bl (en k)) k (.bl (en k || m.l))))) hmF nme
            have hhG := upd_get (u := .lst ((List.range N).map (fu (fun k => V.bl (en k)) k (.bl (en k || m.l))))) hhF nhe.symm
            have htG := upd_get (u := .lst ((List.range N).map (fu (fun k => V.bl (en k)) k (.bl (en k || m.l))))) htF net
            have heG : (upd HF re (.lst ((List.range N).map (fu (fun k => V.bl (en k)) k (.bl (en k || m.l)))))) re = some (.lst ((List.range N).map fun j => V.bl (fu en k (en k || m.l) j))) := by
              rw [upd_same]
              congr 2
              refine List.map_congr_left fun j _ => ?_
              unfold fu
              split <;> rfl
            have hkG : ∀ j, j < N → (upd HF re (.lst ((List.range N).map (fu (fun k => V.bl (en k)) k (.bl (en k || m.l)))))) (fu hk k o2 j) = some (.lst ((fu hd k (addK (hd k) m.s m.xs.length) j).map V.int)) ∧ fu hk k o2 j ≠ l ∧ fu hk k o2 j ≠ rh ∧ fu hk k o2 j ≠ re ∧ fu hk k o2 j ≠ rt := by
              intro j hj
              obtain ⟨b1, b2, b3, b4, b5⟩ := hkF j hj
              exact ⟨upd_get b1 b4, b2, b3, b4, b5⟩
            generalize upd HF re (.lst ((List.range N).map (fu (fun k => V.bl (en k)) k (.bl (en k || m.l))))) = HG at SG BG hmG hhG htG heG hkG
            clear SF BF hmF heF htF hhF hkF
            obtain ⟨⟨dxb, gb1⟩, _⟩ := id BG
            walk_at "n"
            (walk_at "g"; refine ⟨_, _, _, rfl, gb1, fs_Builder_no_add, ?_⟩; walk_at "g")
            refine ⟨tk, _, 0, _, rfl, rfl, SqT.of (SG _ _ htk3), at_of (j := 0) rfl rfl, ?_⟩
            walk_at "g"
            refine ⟨tk, _, 1, _, rfl, rfl, SqT.of (SG _ _ htk3), at_of (j := 1) rfl rfl, ?_⟩
            walk_at "g"
            refine ⟨_, _, _, _, _, rfl, b, l, x', z', (N : Int), 100, 3 + ((k % 2 : Nat) : Int), 9, 50, pb, act.map (mkH X hd en TT), m, rfl, rfl, rfl, rfl, rfl, BG, P3.same SG, (fun e => by
              obtain ⟨_, _, e2⟩ := P3
              rw [e, hl3] at e2
              cases e2), by omega, g2, by omega, ?_, ?_, by omega, fun HI pb' rv BI kI grI hres => ?_⟩
            · intro h hh2
              obtain ⟨c, hc, rfl⟩ := List.mem_map.mp hh2
              exact (M.j.inv c hc).1
            · rw [List.length_map]
              have := M.j.nd.length_le_of_subset (l₂ := List.range N) fun c hc => List.mem_range.mpr (M.j.lt c hc)
              rw [List.length_range] at this
              omega
            have ekey : [3 + ((k % 2 : Nat) : Int), 9, m.n] = keyOf k := by rw [g1]; rfl
            rw [ekey] at BI hres
            obtain ⟨stepW, stepN⟩ := M.j.step hkN (by omega) hgood
            have SI : Same H3 HI := fun x o e => kI x o (SG x o e) (fun f => by rw [M.ft x f] at e; cases e)
            have ftI : ∀ x, foot b l pb' x → H3 x = none := fun x hx => (grI x hx).elim (M.ft x) fun e => SG.free e
            have lk : ∀ {y : Addr} {us : List V}, HG y = some (.lst us) → y ≠ l → HI y = some (.lst us) := fun {y us} h n => kI _ _ h (BG.notL h n)
            have hmI := lk hmG nml
            have hhI := lk hhG nlh
            have heI := lk heG nle
            have htI := lk htG nlt
            have hkI : ∀ j, j < N → HI (fu hk k o2 j) = some (.lst ((fu hd k (addK (hd k) m.s m.xs.length) j).map V.int)) ∧ fu hk k o2 j ≠ l ∧ fu hk k o2 j ≠ rh ∧ fu hk k o2 j ≠ re ∧ fu hk k o2 j ≠ rt := fun j hj => by
              obtain ⟨b1, b2, b3, b4, b5⟩ := hkG j hj
              exact ⟨lk b1 b2, b2, b3, b4, b5⟩
            clear SG BG hmG hhG htG heG hkG lk kI grI gb1
            walk_at "n"
            have hen' : (fu en k (en k || m.l)) k = (en k || m.l) := fu_same
            have hhd' : (fu hd k (addK (hd k) m.s m.xs.length)) k = addK (hd k) m.s m.xs.length := fu_same
            obtain ⟨wb, hwb⟩ : ∃ wb : Bool, wb = decide ((en k || m.l) = true ∧ (addK (hd k) m.s m.xs.length).length = (X k).length) := ⟨_, rfl⟩
            refine te_mid (fun v H' => v = .bl wb ∧ H' = HI) ?_ (fun tail => ?_)
            · rintro _ HI' ⟨rfl, eHI⟩
              subst eHI
              have fed' : ∀ (c : Nat) v q, rs[c]? = some v → kms[c]? = some q → v ∈ ys.take (i + 1) → q ∈ fed ++ [(k, m)] := by
                intro c v q hv hq hvm
                rw [take_snoc hx] at hvm
                rcases List.mem_append.mp hvm with hvm | hvm
                · exact List.mem_append.mpr (.inl (hfed c v q hv hq hvm))
                · refine List.mem_append.mpr (.inr (List.mem_singleton.mpr ?_))
                  have hv2 := List.mem_singleton.mp hvm
                  obtain ⟨q', hq', t2, x2', z2, e1, e2, e3, e4⟩ := Paired.get P.rows hv
                  rw [hq] at hq'
                  cases hq'
                  rw [hv2] at e1
                  cases e1
                  rw [ht3] at e2
                  injection e2 with e2
                  injection e2 with e2
                  injection e2 with e5 e6
                  injection e6 with e7 _
                  injection e5 with e5
                  injection e7 with e7
                  subst e7
                  obtain ⟨q1, q2⟩ := q
                  have e5 : k = q1 := by
                    have e5 : ((k : Nat) : Int) = ((q1 : Nat) : Int) := e5
                    omega
                  subst e5
                  have e9 : q2 = m := part_det e4 P3
                  rw [e9]
              cases hw : wb with
              | true =>
                rw [hw] at hwb
                obtain ⟨act', TT', eM, J'⟩ := stepW (of_decide_eq_true hwb.symm)
                rw [eM] at BI hres
                obtain ⟨oa, rfl, hoa⟩ := hres
                walk_at "g"
                refine ⟨tk, _, 3, _, rfl, rfl, SqT.of (SI _ _ htk3), at_of (j := 3) rfl rfl, ?_⟩
                refine neD_of (a := X k) (b := X k) (rp_ints (SqL.of hoa)) (rp_ints (SqL.of (SI _ _ hok3))) (good_ints _) (good_ints _) ?_
                walk_at "g"
                refine ite_f (by simp) ?_
                walk_at "g"
                refine ⟨rt, _, (k : Int), .int (tl k), rfl, rfl, SqL.of htI, at_ofG rfl (range_at hkN), ?_⟩
                walk_at "g"
                refine ⟨rt, _, (k : Int), k, rfl, rfl, htI, ixN_at (by rw [List.length_map, List.length_range]; exact hkN), ?_⟩
                rw [set_range hkN]
                have SJ : Same H3 (upd HI' rt (.lst ((List.range N).map (fu (fun k => V.int (tl k)) k (.int (tl k + 1)))))) := Same.upd SI hrt3
                have BJ := BI.upd (u := .lst ((List.range N).map (fu (fun k => V.int (tl k)) k (.int (tl k + 1))))) htI nlt
                have hmJ := upd_get (u := .lst ((List.range N).map (fu (fun k => V.int (tl k)) k (.int (tl k + 1))))) hmI nmt
                have hhJ := upd_get (u := .lst ((List.range N).map (fu (fun k => V.int (tl k)) k (.int (tl k + 1))))) hhI nht.symm
                have heJ := upd_get (u := .lst ((List.range N).map (fu (fun k => V.int (tl k)) k (.int (tl k + 1))))) heI net.symm
                have htJ : (upd HI' rt (.lst ((List.range N).map (fu (fun k => V.int (tl k)) k (.int (tl k + 1)))))) rt = some (.lst ((List.range N).map fun j => V.int (fu tl k (tl k + 1) j))) := by
                  rw [upd_same]
                  congr 2
                  refine List.map_congr_left fun j _ => ?_
                  unfold fu
                  split <;> rfl
                have hkJ : ∀ j, j < N → j ≠ k → (upd HI' rt (.lst ((List.range N).map (fu (fun k => V.int (tl k)) k (.int (tl k + 1)))))) (hk j) = some (.lst ((hd j).map V.int)) ∧ hk j ≠ l ∧ hk j ≠ rh ∧ hk j ≠ re ∧ hk j ≠ rt := by
                  intro j hj hjk
                  obtain ⟨b1, b2, b3, b4, b5⟩ := hkI j hj
                  rw [fu_ne hjk, fu_ne hjk] at b1
                  rw [fu_ne hjk] at b2 b3 b4 b5
                  exact ⟨upd_get b1 b5, b2, b3, b4, b5⟩
                generalize upd HI' rt (.lst ((List.range N).map (fu (fun k => V.int (tl k)) k (.int (tl k + 1))))) = HJ at SJ BJ hmJ hhJ heJ htJ hkJ
                clear SI BI hmI hhI heI htI hkI hoa
                walk_at "g"
                intro o3 ho3
                have S3' : Same HJ (upd HJ o3 (.lst [])) := Same.new (Same.refl _) ho3
                have o3c : (upd HJ o3 (.lst [])) o3 = some (.lst []) := upd_same
                have n3 : ∀ {y : Addr} {u : HO}, HJ y = some u → o3 ≠ y := fun {y u} h e => by rw [e, h] at ho3; cases ho3
                generalize upd HJ o3 (.lst []) = HK at S3' o3c
                walk_at "g"
                refine ⟨rh, _, (k : Int), k, rfl, rfl, S3' _ _ hhJ, ixN_at (by rw [List.length_map, List.length_range]; exact hkN), ?_⟩
                rw [set_range hkN]
                have SL : Same H3 (upd HK rh (.lst ((List.range N).map (fu (fun k_1 => V.ref (fu hk k o2 k_1)) k (.ref o3))))) := Same.upd (SJ.trans S3') hrh3
                have BL := (BJ.same S3').upd (u := .lst ((List.range N).map (fu (fun k_1 => V.ref (fu hk k o2 k_1)) k (.ref o3)))) (S3' _ _ hhJ) nlh
                have hmL := upd_get (u := .lst ((List.range N).map (fu (fun k_1 => V.ref (fu hk k o2 k_1)) k (.ref o3)))) (S3' _ _ hmJ) nmh
                have heL := upd_get (u := .lst ((List.range N).map (fu (fun k_1 => V.ref (fu hk k o2 k_1)) k (.ref o3)))) (S3' _ _ heJ) nhe
                have htL := upd_get (u := .lst ((List.range N).map (fu (fun k_1 => V.ref (fu hk k o2 k_1)) k (.ref o3)))) (S3' _ _ htJ) nht
                have hhL : (upd HK rh (.lst ((List.range N).map (fu (fun k_1 => V.ref (fu hk k o2 k_1)) k (.ref o3))))) rh = some (.lst ((List.range N).map fun j => V.ref (fu hk k o3 j))) := by
                  rw [upd_same]
                  congr 2
                  refine List.map_congr_left fun j _ => ?_
                  by_cases e : j = k
                  · rw [e, fu_same, fu_same]
                  · rw [fu_ne e, fu_ne e, fu_ne e]
                have hkL : ∀ j, j < N → (upd HK rh (.lst ((List.range N).map (fu (fun k_1 => V.ref (fu hk k o2 k_1)) k (.ref o3))))) (fu hk k o3 j) = some (.lst ((fu hd k [] j).map V.int)) ∧ fu hk k o3 j ≠ l ∧ fu hk k o3 j ≠ rh ∧ fu hk k o3 j ≠ re ∧ fu hk k o3 j ≠ rt := by
                  intro j hj
                  by_cases e : j = k
                  · rw [e, fu_same, fu_same]
                    exact ⟨upd_get o3c (n3 hhJ), n3 BJ.2.1, n3 hhJ, n3 heJ, n3 htJ⟩
                  · rw [fu_ne e, fu_ne e]
                    obtain ⟨b1, b2, b3, b4, b5⟩ := hkJ j hj e
                    exact ⟨upd_get (S3' _ _ b1) b3, b2, b3, b4, b5⟩
                generalize upd HK rh (.lst ((List.range N).map (fu (fun k_1 => V.ref (fu hk k o2 k_1)) k (.ref o3)))) = HL at SL BL hmL heL htL hhL hkL
                clear SJ BJ hmJ hhJ heJ htJ hkJ n3 o3c S3' ho3
                walk_at "g"
                refine ⟨re, _, (k : Int), k, rfl, rfl, heL, ixN_at (by rw [List.length_map, List.length_range]; exact hkN), ?_⟩
                rw [set_range hkN]
                refine ⟨pb', _, fu en k false, TT', fu tl k (tl k + 1), act', fu hk k o3, _, _, _, _, _, _, _, _, _, rfl, ⟨Same.upd SL hre3, BL.upd heL nle, ftI, upd_get hmL nme, upd_get hhL nhe.symm, fun j hj => ?_, ?_, upd_get htL net, J'⟩, fed'⟩
                · obtain ⟨b1, b2, b3, b4, b5⟩ := hkL j hj
                  exact ⟨upd_get b1 b4, b2, b3, b4, b5⟩
                · rw [upd_same]
                  congr 2
                  refine List.map_congr_left fun j _ => ?_
                  by_cases e : j = k
                  · rw [e, fu_same, fu_same]
                  · rw [fu_ne e, fu_ne e, fu_ne e]
              | false =>
                rw [hw] at hwb
                obtain ⟨act', TT', eM, J'⟩ := stepN (of_decide_eq_false hwb.symm)
                rw [eM] at BI hres
                have hres : rv = .non := hres
                subst hres
                walk_at "g"
                exact ⟨pb', _, _, TT', tl, act', _, _, _, _, _, _, _, _, _, _, rfl, ⟨SI, BI, ftI, hmI, hhI, hkI, heI, htI, J'⟩, fed'⟩
            · walk_at "g"
              refine ⟨re, _, (k : Int), .bl (en k || m.l), rfl, rfl, SqL.of heI, at_ofG rfl (by rw [range_at hkN, hen']), ?_⟩
              walk_at "g"
              cases een : (en k || m.l) with
              | false =>
                refine ite_f rfl ?_
                refine tail _ _ ⟨?_, rfl⟩
                rw [hwb, een]
                rfl
              | true =>
                refine ite_t rfl ?_
                walk_at "g"
                refine ⟨rh, _, (k : Int), .ref o2, rfl, rfl, SqL.of hhI, at_ofG rfl (by rw [range_at hkN, fu_same]), ?_⟩
                walk_at "g"
                refine ⟨tk, _, 3, _, rfl, rfl, SqT.of (SI _ _ htk3), at_of (j := 3) rfl rfl, ?_⟩
                have ho2I := (hkI k hkN).1
                rw [fu_same, fu_same] at ho2I
                walk_at "g"
                refine ⟨o2, ok, _, _, rfl, rfl, ho2I, SI _ _ hok3, ?_⟩
                refine tail _ _ ⟨?_, rfl⟩
                rw [hwb, een, List.length_map, List.length_map]
                simp
          · walk_at "g"
            refine ⟨re, _, (k : Int), .bl (en k), rfl, rfl, SqL.of heF, at_ofG rfl (range_at hkN), ?_⟩
            walk_at "g"
            cases een : en k with
            | true =>
              refine ite_t rfl ?_
              exact tail _ _ ⟨by simp [een], rfl⟩
            | false =>
              refine ite_f rfl ?_
              (walk_at "g"; refine ⟨_, C_Part, _, _, _, rfl, SF _ _ x1, T.cl_Part, T.na_Part_last, fs_Part_last, ?_⟩)
              exact tail _ _ ⟨by simp [een], rfl⟩
      · rintro σ Ha ⟨pb, hd, en, TT, tl, act, hk, fed, w4, w5, w6, w7, w8, w13, w14, w15, rfl, M, hfed⟩
        (walk_at "g"; refine ⟨_, _, rfl, .inl (SqL.of (M.same _ _ hrp3)), ?_⟩; walk_at "g")
        rw [List.length_map, P.len]
        refine ⟨by omega, by omega, for_range (lo := 0) (n := ((N : Nat) : Int).toNat) (fun i σ H' => H' = Ha ∧ ∃ w4 : Option V, σ = [some (.ref a), some (.ref p0), some (.ref rp), some (.ref r), w4, w5, w6, w7, w8, some (.ref b), some (.ref rh), some (.ref re), some (.ref rt), w13, w14, w15]) ⟨rfl, _, rfl⟩ ?_ ?_⟩
        · rintro i σ _ hi ⟨rfl, w, rfl⟩
          simp only [Int.zero_add]
          have hiN : i < N := by omega
          walk_at "g"
          refine ⟨rt, _, (i : Int), .int (tl i), rfl, rfl, SqL.of M.hrt, at_ofG rfl (range_at hiN), ?_⟩
          walk_at "g"
          have all : ∀ q ∈ kms, q ∈ fed := fun q hq => by
            obtain ⟨c, hc⟩ := List.getElem?_of_mem hq
            obtain ⟨v, hv, _⟩ := Paired.get' P.rows hc
            refine hfed c v q hv hc ?_
            rw [List.take_length]
            exact hyall v (List.mem_of_getElem? hv)
          obtain ⟨c1, q, hq, c2⟩ := P.cover i hiN
          have hne := M.j.done hiN (fun b hb => by
            obtain ⟨q, hq, c⟩ := c1 b hb
            exact ⟨q, all q hq, c⟩) ⟨q, all q hq, c2⟩
          refine ite_f (decide_eq_false fun z => hne (V.int.inj z)) ?_
          exact ⟨rfl, _, rfl⟩
        · rintro σ _ ⟨rfl, w, rfl⟩
          walk_at "g"
          exact kk _
end
theorem all_mk {l : PySem.W.OpenLaw} {w : World} {K : PySem.W.Frag} {h : Heap} {mg : Str → Option Value} {fa C_Builder C_Heap C_Part E_InvalidAmount : Addr} (X : K.In h) (G : h.Ns mainGlobals mg) (hfa : mg "law" = some (.ref fa))
    {od_law_cell an_law_cell : Option Addr} {sl_law_cell : Array (Option Value)} {oc_law_cell kV_law_cell dc_law_cell pm_law_cell cd_law_cell ct_law_cell : Value} {f_law_cell : Addr}
    {od_law_start an_law_start : Option Addr} {sl_law_start : Array (Option Value)} {oc_law_start kV_law_start dc_law_start pm_law_start cd_law_start ct_law_start : Value} {f_law_start : Addr}
    {od_law_digit an_law_digit : Option Addr} {sl_law_digit : Array (Option Value)} {oc_law_digit kV_law_digit dc_law_digit pm_law_digit cd_law_digit ct_law_digit : Value} {f_law_digit : Addr}
    {od_Part___init__ an_Part___init__ : Option Addr} {sl_Part___init__ : Array (Option Value)} {oc_Part___init__ kV_Part___init__ dc_Part___init__ pm_Part___init__ cd_Part___init__ ct_Part___init__ : Value} {f_Part___init__ : Addr}
    {od_Part_end an_Part_end : Option Addr} {sl_Part_end : Array (Option Value)} {oc_Part_end kV_Part_end dc_Part_end pm_Part_end cd_Part_end ct_Part_end : Value} {f_Part_end : Addr}
    {od_cut_part an_cut_part : Option Addr} {sl_cut_part : Array (Option Value)} {oc_cut_part kV_cut_part dc_cut_part pm_cut_part cd_cut_part ct_cut_part : Value} {f_cut_part : Addr}
    {od_cut_octets an_cut_octets : Option Addr} {sl_cut_octets : Array (Option Value)} {oc_cut_octets kV_cut_octets dc_cut_octets pm_cut_octets cd_cut_octets ct_cut_octets : Value} {f_cut_octets : Addr}
    {od_Heap___init__ an_Heap___init__ : Option Addr} {sl_Heap___init__ : Array (Option Value)} {oc_Heap___init__ kV_Heap___init__ dc_Heap___init__ pm_Heap___init__ cd_Heap___init__ ct_Heap___init__ : Value} {f_Heap___init__ : Addr}
    {od_Heap_fits an_Heap_fits : Option Addr} {sl_Heap_fits : Array (Option Value)} {oc_Heap_fits kV_Heap_fits dc_Heap_fits pm_Heap_fits cd_Heap_fits ct_Heap_fits : Value} {f_Heap_fits : Addr}
    {od_Heap_add an_Heap_add : Option Addr} {sl_Heap_add : Array (Option Value)} {oc_Heap_add kV_Heap_add dc_Heap_add pm_Heap_add cd_Heap_add ct_Heap_add : Value} {f_Heap_add : Addr}
    {od_Heap_is_whole an_Heap_is_whole : Option Addr} {sl_Heap_is_whole : Array (Option Value)} {oc_Heap_is_whole kV_Heap_is_whole dc_Heap_is_whole pm_Heap_is_whole cd_Heap_is_whole ct_Heap_is_whole : Value} {f_Heap_is_whole : Addr}
    {od_Heap_octets an_Heap_octets : Option Addr} {sl_Heap_octets : Array (Option Value)} {oc_Heap_octets kV_Heap_octets dc_Heap_octets pm_Heap_octets cd_Heap_octets ct_Heap_octets : Value} {f_Heap_octets : Addr}
    {od_Builder___init__ an_Builder___init__ : Option Addr} {sl_Builder___init__ : Array (Option Value)} {oc_Builder___init__ kV_Builder___init__ dc_Builder___init__ pm_Builder___init__ cd_Builder___init__ ct_Builder___init__ : Value} {f_Builder___init__ : Addr}
    {od_Builder_place_of an_Builder_place_of : Option Addr} {sl_Builder_place_of : Array (Option Value)} {oc_Builder_place_of kV_Builder_place_of dc_Builder_place_of pm_Builder_place_of cd_Builder_place_of ct_Builder_place_of : Value} {f_Builder_place_of : Addr}
    {od_Builder_add an_Builder_add : Option Addr} {sl_Builder_add : Array (Option Value)} {oc_Builder_add kV_Builder_add dc_Builder_add pm_Builder_add cd_Builder_add ct_Builder_add : Value} {f_Builder_add : Addr}
    {od_law_parts an_law_parts : Option Addr} {sl_law_parts : Array (Option Value)} {oc_law_parts kV_law_parts dc_law_parts pm_law_parts cd_law_parts ct_law_parts : Value} {f_law_parts : Addr}
    {od_law_mixed an_law_mixed : Option Addr} {sl_law_mixed : Array (Option Value)} {oc_law_mixed kV_law_mixed dc_law_mixed pm_law_mixed cd_law_mixed ct_law_mixed : Value} {f_law_mixed : Addr}
    {od_law_whole an_law_whole : Option Addr} {sl_law_whole : Array (Option Value)} {oc_law_whole kV_law_whole dc_law_whole pm_law_whole cd_law_whole ct_law_whole : Value} {f_law_whole : Addr}
    {od_law an_law : Option Addr} {sl_law : Array (Option Value)} {oc_law kV_law dc_law pm_law cd_law ct_law : Value} {f_law : Addr}
    (a_law_cell : PySem.W.nsIn K mainGlobals "_law_cell" = some (some (.ref f_law_cell)))
    (a_law_start : PySem.W.nsIn K mainGlobals "_law_start" = some (some (.ref f_law_start)))
    (a_law_digit : PySem.W.nsIn K mainGlobals "_law_digit" = some (some (.ref f_law_digit)))
    (a_cut_part : PySem.W.nsIn K mainGlobals "cut_part" = some (some (.ref f_cut_part)))
    (a_cut_octets : PySem.W.nsIn K mainGlobals "cut_octets" = some (some (.ref f_cut_octets)))
    (a_law_parts : PySem.W.nsIn K mainGlobals "_law_parts" = some (some (.ref f_law_parts)))
    (a_law_mixed : PySem.W.nsIn K mainGlobals "_law_mixed" = some (some (.ref f_law_mixed)))
    (a_law_whole : PySem.W.nsIn K mainGlobals "_law_whole" = some (some (.ref f_law_whole)))
    (a_law : PySem.W.nsIn K mainGlobals "law" = some (some (.ref f_law)))
    (a_Builder : PySem.W.nsIn K mainGlobals "Builder" = some (some (.ref C_Builder)))
    (a_Heap : PySem.W.nsIn K mainGlobals "Heap" = some (some (.ref C_Heap)))
    (a_Part : PySem.W.nsIn K mainGlobals "Part" = some (some (.ref C_Part)))
    (ge_InvalidAmount : PySem.W.nsIn K mainGlobals "InvalidAmount" = some (some (.ref E_InvalidAmount)))
    (l_law_cell : K.lookup f_law_cell = some ⟨oc_law_cell, od_law_cell, .func (PySem.W.fnOf "_law_cell" "_law_cell" (defArgs s_law_cell) (defBody s_law_cell) (defScope s_law_cell) .none kV_law_cell dc_law_cell pm_law_cell an_law_cell cd_law_cell ct_law_cell), sl_law_cell⟩)
    (c_law_cell : PySem.W.codeIn K cd_law_cell "_law_cell" = true)
    (k_law_cell : PySem.W.keepIn K (.ref f_law_cell) = true)
    (l_law_start : K.lookup f_law_start = some ⟨oc_law_start, od_law_start, .func (PySem.W.fnOf "_law_start" "_law_start" (defArgs s_law_start) (defBody s_law_start) (defScope s_law_start) .none kV_law_start dc_law_start pm_law_start an_law_start cd_law_start ct_law_start), sl_law_start⟩)
    (c_law_start : PySem.W.codeIn K cd_law_start "_law_start" = true)
    (k_law_start : PySem.W.keepIn K (.ref f_law_start) = true)
    (l_law_digit : K.lookup f_law_digit = some ⟨oc_law_digit, od_law_digit, .func (PySem.W.fnOf "_law_digit" "_law_digit" (defArgs s_law_digit) (defBody s_law_digit) (defScope s_law_digit) .none kV_law_digit dc_law_digit pm_law_digit an_law_digit cd_law_digit ct_law_digit), sl_law_digit⟩)
    (c_law_digit : PySem.W.codeIn K cd_law_digit "_law_digit" = true)
    (k_law_digit : PySem.W.keepIn K (.ref f_law_digit) = true)
    (a_Part___init__ : PySem.W.findIn K (.ref C_Part) "__init__" = some (some (.ref f_Part___init__)))
    (i_Part___init__ : PySem.W.isFn K (.ref f_Part___init__) = true)
    (l_Part___init__ : K.lookup f_Part___init__ = some ⟨oc_Part___init__, od_Part___init__, .func (PySem.W.fnOf "__init__" "Part.__init__" (defArgs s_Part___init__) (defBody s_Part___init__) (defScope s_Part___init__) .none kV_Part___init__ dc_Part___init__ pm_Part___init__ an_Part___init__ cd_Part___init__ ct_Part___init__), sl_Part___init__⟩)
    (c_Part___init__ : PySem.W.codeIn K cd_Part___init__ "Part.__init__" = true)
    (k_Part___init__ : PySem.W.keepIn K (.ref f_Part___init__) = true)
    (a_Part_end : PySem.W.findIn K (.ref C_Part) "end" = some (some (.ref f_Part_end)))
    (i_Part_end : PySem.W.isFn K (.ref f_Part_end) = true)
    (l_Part_end : K.lookup f_Part_end = some ⟨oc_Part_end, od_Part_end, .func (PySem.W.fnOf "end" "Part.end" (defArgs s_Part_end) (defBody s_Part_end) (defScope s_Part_end) .none kV_Part_end dc_Part_end pm_Part_end an_Part_end cd_Part_end ct_Part_end), sl_Part_end⟩)
    (c_Part_end : PySem.W.codeIn K cd_Part_end "Part.end" = true)
    (k_Part_end : PySem.W.keepIn K (.ref f_Part_end) = true)
    (l_cut_part : K.lookup f_cut_part = some ⟨oc_cut_part, od_cut_part, .func (PySem.W.fnOf "cut_part" "cut_part" (defArgs s_cut_part) (defBody s_cut_part) (defScope s_cut_part) .none kV_cut_part dc_cut_part pm_cut_part an_cut_part cd_cut_part ct_cut_part), sl_cut_part⟩)
    (c_cut_part : PySem.W.codeIn K cd_cut_part "cut_part" = true)
    (k_cut_part : PySem.W.keepIn K (.ref f_cut_part) = true)
    (l_cut_octets : K.lookup f_cut_octets = some ⟨oc_cut_octets, od_cut_octets, .func (PySem.W.fnOf "cut_octets" "cut_octets" (defArgs s_cut_octets) (defBody s_cut_octets) (defScope s_cut_octets) .none kV_cut_octets dc_cut_octets pm_cut_octets an_cut_octets cd_cut_octets ct_cut_octets), sl_cut_octets⟩)
    (c_cut_octets : PySem.W.codeIn K cd_cut_octets "cut_octets" = true)
    (k_cut_octets : PySem.W.keepIn K (.ref f_cut_octets) = true)
    (a_Heap___init__ : PySem.W.findIn K (.ref C_Heap) "__init__" = some (some (.ref f_Heap___init__)))
    (i_Heap___init__ : PySem.W.isFn K (.ref f_Heap___init__) = true)
    (l_Heap___init__ : K.lookup f_Heap___init__ = some ⟨oc_Heap___init__, od_Heap___init__, .func (PySem.W.fnOf "__init__" "Heap.__init__" (defArgs s_Heap___init__) (defBody s_Heap___init__) (defScope s_Heap___init__) .none kV_Heap___init__ dc_Heap___init__ pm_Heap___init__ an_Heap___init__ cd_Heap___init__ ct_Heap___init__), sl_Heap___init__⟩)
    (c_Heap___init__ : PySem.W.codeIn K cd_Heap___init__ "Heap.__init__" = true)
    (k_Heap___init__ : PySem.W.keepIn K (.ref f_Heap___init__) = true)
    (a_Heap_fits : PySem.W.findIn K (.ref C_Heap) "fits" = some (some (.ref f_Heap_fits)))
    (i_Heap_fits : PySem.W.isFn K (.ref f_Heap_fits) = true)
    (l_Heap_fits : K.lookup f_Heap_fits = some ⟨oc_Heap_fits, od_Heap_fits, .func (PySem.W.fnOf "fits" "Heap.fits" (defArgs s_Heap_fits) (defBody s_Heap_fits) (defScope s_Heap_fits) .none kV_Heap_fits dc_Heap_fits pm_Heap_fits an_Heap_fits cd_Heap_fits ct_Heap_fits), sl_Heap_fits⟩)
    (c_Heap_fits : PySem.W.codeIn K cd_Heap_fits "Heap.fits" = true)
    (k_Heap_fits : PySem.W.keepIn K (.ref f_Heap_fits) = true)
    (a_Heap_add : PySem.W.findIn K (.ref C_Heap) "add" = some (some (.ref f_Heap_add)))
    (i_Heap_add : PySem.W.isFn K (.ref f_Heap_add) = true)
    (l_Heap_add : K.lookup f_Heap_add = some ⟨oc_Heap_add, od_Heap_add, .func (PySem.W.fnOf "add" "Heap.add" (defArgs s_Heap_add) (defBody s_Heap_add) (defScope s_Heap_add) .none kV_Heap_add dc_Heap_add pm_Heap_add an_Heap_add cd_Heap_add ct_Heap_add), sl_Heap_add⟩)
    (c_Heap_add : PySem.W.codeIn K cd_Heap_add "Heap.add" = true)
    (k_Heap_add : PySem.W.keepIn K (.ref f_Heap_add) = true)
    (a_Heap_is_whole : PySem.W.findIn K (.ref C_Heap) "is_whole" = some (some (.ref f_Heap_is_whole)))
    (i_Heap_is_whole : PySem.W.isFn K (.ref f_Heap_is_whole) = true)
    (l_Heap_is_whole : K.lookup f_Heap_is_whole = some ⟨oc_Heap_is_whole, od_Heap_is_whole, .func (PySem.W.fnOf "is_whole" "Heap.is_whole" (defArgs s_Heap_is_whole) (defBody s_Heap_is_whole) (defScope s_Heap_is_whole) .none kV_Heap_is_whole dc_Heap_is_whole pm_Heap_is_whole an_Heap_is_whole cd_Heap_is_whole ct_Heap_is_whole), sl_Heap_is_whole⟩)
    (c_Heap_is_whole : PySem.W.codeIn K cd_Heap_is_whole "Heap.is_whole" = true)
    (k_Heap_is_whole : PySem.W.keepIn K (.ref f_Heap_is_whole) = true)
    (a_Heap_octets : PySem.W.findIn K (.ref C_Heap) "octets" = some (some (.ref f_Heap_octets)))
    (i_Heap_octets : PySem.W.isFn K (.ref f_Heap_octets) = true)
    (l_Heap_octets : K.lookup f_Heap_octets = some ⟨oc_Heap_octets, od_Heap_octets, .func (PySem.W.fnOf "octets" "Heap.octets" (defArgs s_Heap_octets) (defBody s_Heap_octets) (defScope s_Heap_octets) .none kV_Heap_octets dc_Heap_octets pm_Heap_octets an_Heap_octets cd_Heap_octets ct_Heap_octets), sl_Heap_octets⟩)
    (c_Heap_octets : PySem.W.codeIn K cd_Heap_octets "Heap.octets" = true)
    (k_Heap_octets : PySem.W.keepIn K (.ref f_Heap_octets) = true)
    (a_Builder___init__ : PySem.W.findIn K (.ref C_Builder) "__init__" = some (some (.ref f_Builder___init__)))
    (i_Builder___init__ : PySem.W.isFn K (.ref f_Builder___init__) = true)
    (l_Builder___init__ : K.lookup f_Builder___init__ = some ⟨oc_Builder___init__, od_Builder___init__, .func (PySem.W.fnOf "__init__" "Builder.__init__" (defArgs s_Builder___init__) (defBody s_Builder___init__) (defScope s_Builder___init__) .none kV_Builder___init__ dc_Builder___init__ pm_Builder___init__ an_Builder___init__ cd_Builder___init__ ct_Builder___init__), sl_Builder___init__⟩)
    (c_Builder___init__ : PySem.W.codeIn K cd_Builder___init__ "Builder.__init__" = true)
    (k_Builder___init__ : PySem.W.keepIn K (.ref f_Builder___init__) = true)
    (a_Builder_place_of : PySem.W.findIn K (.ref C_Builder) "place_of" = some (some (.ref f_Builder_place_of)))
    (i_Builder_place_of : PySem.W.isFn K (.ref f_Builder_place_of) = true)
    (l_Builder_place_of : K.lookup f_Builder_place_of = some ⟨oc_Builder_place_of, od_Builder_place_of, .func (PySem.W.fnOf "place_of" "Builder.place_of" (defArgs s_Builder_place_of) (defBody s_Builder_place_of) (defScope s_Builder_place_of) .none kV_Builder_place_of dc_Builder_place_of pm_Builder_place_of an_Builder_place_of cd_Builder_place_of ct_Builder_place_of), sl_Builder_place_of⟩)
    (c_Builder_place_of : PySem.W.codeIn K cd_Builder_place_of "Builder.place_of" = true)
    (k_Builder_place_of : PySem.W.keepIn K (.ref f_Builder_place_of) = true)
    (a_Builder_add : PySem.W.findIn K (.ref C_Builder) "add" = some (some (.ref f_Builder_add)))
    (i_Builder_add : PySem.W.isFn K (.ref f_Builder_add) = true)
    (l_Builder_add : K.lookup f_Builder_add = some ⟨oc_Builder_add, od_Builder_add, .func (PySem.W.fnOf "add" "Builder.add" (defArgs s_Builder_add) (defBody s_Builder_add) (defScope s_Builder_add) .none kV_Builder_add dc_Builder_add pm_Builder_add an_Builder_add cd_Builder_add ct_Builder_add), sl_Builder_add⟩)
    (c_Builder_add : PySem.W.codeIn K cd_Builder_add "Builder.add" = true)
    (k_Builder_add : PySem.W.keepIn K (.ref f_Builder_add) = true)
    (l_law_parts : K.lookup f_law_parts = some ⟨oc_law_parts, od_law_parts, .func (PySem.W.fnOf "_law_parts" "_law_parts" (defArgs s_law_parts) (defBody s_law_parts) (defScope s_law_parts) .none kV_law_parts dc_law_parts pm_law_parts an_law_parts cd_law_parts ct_law_parts), sl_law_parts⟩)
    (c_law_parts : PySem.W.codeIn K cd_law_parts "_law_parts" = true)
    (k_law_parts : PySem.W.keepIn K (.ref f_law_parts) = true)
    (l_law_mixed : K.lookup f_law_mixed = some ⟨oc_law_mixed, od_law_mixed, .func (PySem.W.fnOf "_law_mixed" "_law_mixed" (defArgs s_law_mixed) (defBody s_law_mixed) (defScope s_law_mixed) .none kV_law_mixed dc_law_mixed pm_law_mixed an_law_mixed cd_law_mixed ct_law_mixed), sl_law_mixed⟩)
    (c_law_mixed : PySem.W.codeIn K cd_law_mixed "_law_mixed" = true)
    (k_law_mixed : PySem.W.keepIn K (.ref f_law_mixed) = true)
    (l_law_whole : K.lookup f_law_whole = some ⟨oc_law_whole, od_law_whole, .func (PySem.W.fnOf "_law_whole" "_law_whole" (defArgs s_law_whole) (defBody s_law_whole) (defScope s_law_whole) .none kV_law_whole dc_law_whole pm_law_whole an_law_whole cd_law_whole ct_law_whole), sl_law_whole⟩)
    (c_law_whole : PySem.W.codeIn K cd_law_whole "_law_whole" = true)
    (k_law_whole : PySem.W.keepIn K (.ref f_law_whole) = true)
    (l_law : K.lookup f_law = some ⟨oc_law, od_law, .func (PySem.W.fnOf "law" "law" (defArgs s_law) (defBody s_law) (defScope s_law) .none kV_law dc_law pm_law an_law cd_law ct_law), sl_law⟩)
    (c_law : PySem.W.codeIn K cd_law "law" = true)
    (k_law : PySem.W.keepIn K (.ref f_law) = true)
    (mk_Builder : PySem.W.makesIn K C_Builder = true)
    (kc_Builder : PySem.W.keepIn K (.ref C_Builder) = true)
    (mk_Heap : PySem.W.makesIn K C_Heap = true)
    (kc_Heap : PySem.W.keepIn K (.ref C_Heap) = true)
    (mk_Part : PySem.W.makesIn K C_Part = true)
    (kc_Part : PySem.W.keepIn K (.ref C_Part) = true)
    (pg_Builder : PySem.W.plainGet K C_Builder Str.empty = true)
    (hd_Builder : PySem.W.hasDictIn K C_Builder = true)
    (po_Builder : PySem.W.plainOver K C_Builder = true)
    (sa_Builder : PySem.W.findIn K (.ref C_Builder) "__setattr__" = some (some (.builtin "object.__setattr__")))
    (pg_Heap : PySem.W.plainGet K C_Heap Str.empty = true)
    (hd_Heap : PySem.W.hasDictIn K C_Heap = true)
    (po_Heap : PySem.W.plainOver K C_Heap = true)
    (sa_Heap : PySem.W.findIn K (.ref C_Heap) "__setattr__" = some (some (.builtin "object.__setattr__")))
    (pg_Part : PySem.W.plainGet K C_Part Str.empty = true)
    (hd_Part : PySem.W.hasDictIn K C_Part = true)
    (po_Part : PySem.W.plainOver K C_Part = true)
    (sa_Part : PySem.W.findIn K (.ref C_Part) "__setattr__" = some (some (.builtin "object.__setattr__")))
    (n_Builder_heaps : PySem.W.findIn K (.ref C_Builder) "heaps" = some none)
    (n_Builder_life : PySem.W.findIn K (.ref C_Builder) "life" = some none)
    (n_Builder_most : PySem.W.findIn K (.ref C_Builder) "most" = some none)
    (n_Heap_born : PySem.W.findIn K (.ref C_Heap) "born" = some none)
    (n_Heap_end : PySem.W.findIn K (.ref C_Heap) "end" = some none)
    (n_Heap_key : PySem.W.findIn K (.ref C_Heap) "key" = some none)
    (n_Heap_places : PySem.W.findIn K (.ref C_Heap) "places" = some none)
    (n_Heap_top : PySem.W.findIn K (.ref C_Heap) "top" = some none)
    (n_Part_last : PySem.W.findIn K (.ref C_Part) "last" = some none)
    (n_Part_number : PySem.W.findIn K (.ref C_Part) "number" = some none)
    (n_Part_octets : PySem.W.findIn K (.ref C_Part) "octets" = some none)
    (n_Part_start : PySem.W.findIn K (.ref C_Part) "start" = some none)
    (z_enumerate : PySem.W.nsIn K mainGlobals "enumerate" = some none)
    (z_int : PySem.W.nsIn K mainGlobals "int" = some none)
    (z_len : PySem.W.nsIn K mainGlobals "len" = some none)
    (z_list : PySem.W.nsIn K mainGlobals "list" = some none)
    (z_max : PySem.W.nsIn K mainGlobals "max" = some none)
    (z_min : PySem.W.nsIn K mainGlobals "min" = some none)
    (z_range : PySem.W.nsIn K mainGlobals "range" = some none)
    (xx_InvalidAmount : PySem.W.excIn K E_InvalidAmount [.type "ValueError", .type "Exception", .type "BaseException", .type "object"] "ValueError.__new__" = true)
    (ke_InvalidAmount : PySem.W.keepIn K (.ref E_InvalidAmount) = true)
    (se_InvalidAmount : PySem.W.subIn K (.ref E_InvalidAmount) (.type "BaseException") = some true)
    (te_InvalidAmount : PySem.W.typeIn K (.ref E_InvalidAmount) = some (.type "type"))
    (ie_InvalidAmount : PySem.W.isClsIn K E_InvalidAmount = true)
    (ue_InvalidAmount : PySem.W.subIn K (.ref E_InvalidAmount) (.ref E_InvalidAmount) = some true)
    : ∃ fd : FuncData, (∀ (s : Shared) (v : Value), BindsTo s fd ⟨[v], []⟩ [("script", v)]) ∧ ∀ base : Heap, K.In base → base.Ns mainGlobals mg → FnOk l.prog w K mg base CX0 6 fa fd ["script"] (spLaw K) := by
  have e := hfa.symm.trans (PySem.W.mg_of X G a_law)
  cases e
  have T : Txt K mg C_Builder C_Heap C_Part E_InvalidAmount := {
    cl_Builder := ⟨pg_Builder, hd_Builder, po_Builder, sa_Builder⟩
    gv_Builder := ⟨_, PySem.W.mg_of X G a_Builder, rfl⟩
    cl_Heap := ⟨pg_Heap, hd_Heap, po_Heap, sa_Heap⟩
    gv_Heap := ⟨_, PySem.W.mg_of X G a_Heap, rfl⟩
    cl_Part := ⟨pg_Part, hd_Part, po_Part, sa_Part⟩
    gv_Part := ⟨_, PySem.W.mg_of X G a_Part, rfl⟩
    na_Builder_heaps := n_Builder_heaps
    na_Builder_life := n_Builder_life
    na_Builder_most := n_Builder_most
    na_Heap_born := n_Heap_born
    na_Heap_end := n_Heap_end
    na_Heap_key := n_Heap_key
    na_Heap_places := n_Heap_places
    na_Heap_top := n_Heap_top
    na_Part_last := n_Part_last
    na_Part_number := n_Part_number
    na_Part_octets := n_Part_octets
    na_Part_start := n_Part_start
    b_enumerate := PySem.W.mg_none_of X G z_enumerate
    b_int := PySem.W.mg_none_of X G z_int
    b_len := PySem.W.mg_none_of X G z_len
    b_list := PySem.W.mg_none_of X G z_list
    b_max := PySem.W.mg_none_of X G z_max
    b_min := PySem.W.mg_none_of X G z_min
    b_range := PySem.W.mg_none_of X G z_range
    x_InvalidAmount := xx_InvalidAmount
    e_InvalidAmount := PySem.W.mg_of X G ge_InvalidAmount
    k_InvalidAmount := ke_InvalidAmount
    s_InvalidAmount := se_InvalidAmount
    t_InvalidAmount := te_InvalidAmount
    m_InvalidAmount := exm_self se_InvalidAmount ie_InvalidAmount te_InvalidAmount ue_InvalidAmount
  }
  have F_law_cell := fun_mk (st := s_law_cell) l_law_cell c_law_cell k_law_cell
  have b_law_cell := F_law_cell.binds (ps := ["script", "k"]) fun _ _ _ _ _ _ us hl => match us, hl with | [_, _], _ => rfl
  have F_law_start := fun_mk (st := s_law_start) l_law_start c_law_start k_law_start
  have b_law_start := F_law_start.binds (ps := ["cell", "k"]) fun _ _ _ _ _ _ us hl => match us, hl with | [_, _], _ => rfl
  have F_law_digit := fun_mk (st := s_law_digit) l_law_digit c_law_digit k_law_digit
  have b_law_digit := F_law_digit.binds (ps := ["state", "many"]) fun _ _ _ _ _ _ us hl => match us, hl with | [_, _], _ => rfl
  have F_Part___init__ := fun_mk (st := s_Part___init__) l_Part___init__ c_Part___init__ k_Part___init__
  have F_Part_end := fun_mk (st := s_Part_end) l_Part_end c_Part_end k_Part_end
  have b_Part_end := F_Part_end.binds (ps := ["self"]) fun _ _ _ _ _ _ us hl => match us, hl with | [_], _ => rfl
  have F_cut_part := fun_mk (st := s_cut_part) l_cut_part c_cut_part k_cut_part
  have b_cut_part := F_cut_part.binds (ps := ["part", "limit"]) fun _ _ _ _ _ _ us hl => match us, hl with | [_, _], _ => rfl
  have F_cut_octets := fun_mk (st := s_cut_octets) l_cut_octets c_cut_octets k_cut_octets
  have b_cut_octets := F_cut_octets.binds (ps := ["number", "octets", "limit"]) fun _ _ _ _ _ _ us hl => match us, hl with | [_, _, _], _ => rfl
  have F_Heap___init__ := fun_mk (st := s_Heap___init__) l_Heap___init__ c_Heap___init__ k_Heap___init__
  have b_Heap___init__ := F_Heap___init__.binds (ps := ["self", "key", "born"]) fun _ _ _ _ _ _ us hl => match us, hl with | [_, _, _], _ => rfl
  have F_Heap_fits := fun_mk (st := s_Heap_fits) l_Heap_fits c_Heap_fits k_Heap_fits
  have b_Heap_fits := F_Heap_fits.binds (ps := ["self", "part"]) fun _ _ _ _ _ _ us hl => match us, hl with | [_, _], _ => rfl
  have F_Heap_add := fun_mk (st := s_Heap_add) l_Heap_add c_Heap_add k_Heap_add
  have b_Heap_add := F_Heap_add.binds (ps := ["self", "part"]) fun _ _ _ _ _ _ us hl => match us, hl with | [_, _], _ => rfl
  have F_Heap_is_whole := fun_mk (st := s_Heap_is_whole) l_Heap_is_whole c_Heap_is_whole k_Heap_is_whole
  have b_Heap_is_whole := F_Heap_is_whole.binds (ps := ["self"]) fun _ _ _ _ _ _ us hl => match us, hl with | [_], _ => rfl
  have F_Heap_octets := fun_mk (st := s_Heap_octets) l_Heap_octets c_Heap_octets k_Heap_octets
  have b_Heap_octets := F_Heap_octets.binds (ps := ["self"]) fun _ _ _ _ _ _ us hl => match us, hl with | [_], _ => rfl
  have F_Builder___init__ := fun_mk (st := s_Builder___init__) l_Builder___init__ c_Builder___init__ k_Builder___init__
  have b_Builder___init__ := F_Builder___init__.binds (ps := ["self", "most", "life"]) fun _ _ _ _ _ _ us hl => match us, hl with | [_, _, _], _ => rfl
  have F_Builder_place_of := fun_mk (st := s_Builder_place_of) l_Builder_place_of c_Builder_place_of k_Builder_place_of
  have b_Builder_place_of := F_Builder_place_of.binds (ps := ["self", "key"]) fun _ _ _ _ _ _ us hl => match us, hl with | [_, _], _ => rfl
  have F_Builder_add := fun_mk (st := s_Builder_add) l_Builder_add c_Builder_add k_Builder_add
  have b_Builder_add := F_Builder_add.binds (ps := ["self", "sender", "target", "part", "now"]) fun _ _ _ _ _ _ us hl => match us, hl with | [_, _, _, _, _], _ => rfl
  have F_law_parts := fun_mk (st := s_law_parts) l_law_parts c_law_parts k_law_parts
  have b_law_parts := F_law_parts.binds (ps := ["state", "number", "octets"]) fun _ _ _ _ _ _ us hl => match us, hl with | [_, _, _], _ => rfl
  have F_law_mixed := fun_mk (st := s_law_mixed) l_law_mixed c_law_mixed k_law_mixed
  have b_law_mixed := F_law_mixed.binds (ps := ["state", "rows"]) fun _ _ _ _ _ _ us hl => match us, hl with | [_, _], _ => rfl
  have F_law_whole := fun_mk (st := s_law_whole) l_law_whole c_law_whole k_law_whole
  have b_law_whole := F_law_whole.binds (ps := ["held", "octets"]) fun _ _ _ _ _ _ us hl => match us, hl with | [_, _], _ => rfl
  have F_law := fun_mk (st := s_law) l_law c_law k_law
  have b_law := F_law.binds (ps := ["script"]) fun _ _ _ _ _ _ us hl => match us, hl with | [_], _ => rfl
  refine ⟨PySem.W.fnOf "law" "law" (defArgs s_law) (defBody s_law) (defScope s_law) .none kV_law dc_law pm_law an_law cd_law ct_law, fun s v => .of_eq rfl, fun base _ _ => ?_⟩
  have d_law_cell : Cl l.prog w K mg base CX0 1 "_law_cell" (spCellT K) := ⟨_, _, _, ok_law_cell F_law_cell T , PySem.W.mg_of X G a_law_cell, k_law_cell, b_law_cell⟩
  have d_law_start : Cl l.prog w K mg base CX0 1 "_law_start" (spStart) := ⟨_, _, _, ok_law_start F_law_start T , PySem.W.mg_of X G a_law_start, k_law_start, b_law_start⟩
  have d_law_digit : Cl l.prog w K mg base CX0 1 "_law_digit" (spDigit) := ⟨_, _, _, ok_law_digit F_law_digit T , PySem.W.mg_of X G a_law_digit, k_law_digit, b_law_digit⟩
  have q_Part___init__ := ok_Part___init__ (P := l.prog) (w := w) (base := base) F_Part___init__ T 
  have d_kw0_Part___init__ : MaK l.prog w K mg base CX0 1 "Part" C_Part 3 ["last"] (fun vs zs => o_kw0_Part___init__ vs [] zs) (spPartI C_Part) := ⟨_, _, _, fun us ws => o_kw0_Part___init__ us [] ws, ⟨mk_Part, a_Part___init__, i_Part___init__, kc_Part⟩, q_Part___init__, PySem.W.mg_of X G a_Part, ⟨fun _ us ws _ l1 l2 => .of_eq (match us, ws, l1, l2 with | [_, _, _, _], [_], _, _ => rfl), fun r1 r2 => o_kw0_Part___init___rel r1 .nil r2⟩⟩
  have d_Part_end : Me l.prog w K mg base CX0 1 C_Part "end" (spPartE C_Part) := ⟨_, _, _, T.cl_Part, ⟨a_Part_end, i_Part_end, k_Part_end⟩, ok_Part_end F_Part_end T , b_Part_end⟩
  have d_cut_part : Cl l.prog w K mg base (L2.CX l.prog w) 3 "cut_part" (spCut C_Part) := ⟨_, _, _, ok_cut_part F_cut_part T d_kw0_Part___init__, PySem.W.mg_of X G a_cut_part, k_cut_part, b_cut_part⟩
  have d_cut_octets : Cl l.prog w K mg base CX0 4 "cut_octets" (spCutO C_Part) := ⟨_, _, _, ok_cut_octets F_cut_octets T d_cut_part d_kw0_Part___init__, PySem.W.mg_of X G a_cut_octets, k_cut_octets, b_cut_octets⟩
  have d_Heap___init__ : Ma l.prog w K mg base CX0 1 "Heap" C_Heap (spHeapI C_Heap) := ⟨_, _, _, ⟨mk_Heap, a_Heap___init__, i_Heap___init__, kc_Heap⟩, ok_Heap___init__ F_Heap___init__ T , PySem.W.mg_of X G a_Heap, b_Heap___init__⟩
  have d_Heap_fits : Me l.prog w K mg base CX0 2 C_Heap "fits" (spFits C_Part C_Heap) := ⟨_, _, _, T.cl_Heap, ⟨a_Heap_fits, i_Heap_fits, k_Heap_fits⟩, ok_Heap_fits F_Heap_fits T d_Part_end, b_Heap_fits⟩
  have d_Heap_add : Me l.prog w K mg base CX0 2 C_Heap "add" (spHAdd C_Part C_Heap) := ⟨_, _, _, T.cl_Heap, ⟨a_Heap_add, i_Heap_add, k_Heap_add⟩, ok_Heap_add F_Heap_add T d_Part_end, b_Heap_add⟩
  have d_Heap_is_whole : Me l.prog w K mg base CX0 1 C_Heap "is_whole" (spWhole C_Heap) := ⟨_, _, _, T.cl_Heap, ⟨a_Heap_is_whole, i_Heap_is_whole, k_Heap_is_whole⟩, ok_Heap_is_whole F_Heap_is_whole T , b_Heap_is_whole⟩
  have d_Heap_octets : Me l.prog w K mg base CX0 1 C_Heap "octets" (spOcts C_Heap) := ⟨_, _, _, T.cl_Heap, ⟨a_Heap_octets, i_Heap_octets, k_Heap_octets⟩, ok_Heap_octets F_Heap_octets T , b_Heap_octets⟩
  have d_Builder___init__ : Ma l.prog w K mg base (L2.CX l.prog w) 1 "Builder" C_Builder (spBldI C_Builder C_Heap) := ⟨_, _, _, ⟨mk_Builder, a_Builder___init__, i_Builder___init__, kc_Builder⟩, ok_Builder___init__ F_Builder___init__ T , PySem.W.mg_of X G a_Builder, b_Builder___init__⟩
  have d_Builder_place_of : Me l.prog w K mg base CX0 1 C_Builder "place_of" (spPlace C_Builder C_Heap) := ⟨_, _, _, T.cl_Builder, ⟨a_Builder_place_of, i_Builder_place_of, k_Builder_place_of⟩, ok_Builder_place_of F_Builder_place_of T , b_Builder_place_of⟩
  have d_Builder_add : Me l.prog w K mg base CX0 3 C_Builder "add" (spAdd C_Builder C_Heap C_Part) := ⟨_, _, _, T.cl_Builder, ⟨a_Builder_add, i_Builder_add, k_Builder_add⟩, ok_Builder_add F_Builder_add T d_Builder_place_of d_Heap___init__ d_Heap_fits d_Heap_add d_Heap_is_whole d_Heap_octets, b_Builder_add⟩
  have d_law_parts : Cl l.prog w K mg base CX0 5 "_law_parts" (spParts C_Part) := ⟨_, _, _, ok_law_parts F_law_parts T d_law_digit d_cut_octets d_cut_part, PySem.W.mg_of X G a_law_parts, k_law_parts, b_law_parts⟩
  have d_law_mixed : Cl l.prog w K mg base CX0 2 "_law_mixed" (spMixed) := ⟨_, _, _, ok_law_mixed F_law_mixed T d_law_digit, PySem.W.mg_of X G a_law_mixed, k_law_mixed, b_law_mixed⟩
  have d_law_whole : Cl l.prog w K mg base CX0 1 "_law_whole" (spWh) := ⟨_, _, _, ok_law_whole F_law_whole T , PySem.W.mg_of X G a_law_whole, k_law_whole, b_law_whole⟩
  exact ok_law F_law T d_law_start d_law_cell d_law_digit d_law_parts d_Builder___init__ d_law_mixed d_Part_end d_Builder_add d_law_whole
theorem walk {l : PySem.W.OpenLaw} {q : Program} {loose : List Str} {XP : (Str → Option Value) → Heap → Prop} {YP : World → Heap → Prop} {d : DefRec} {K : Params → PySem.W.Frag} (hn : l.most = some 63) (hdf : d.params.defaults = [])
    (hY : ∀ (w : World) (h : Heap), YP w h → (K w.params).In h)
    (F : ∀ (w : World) (mg : Str → Option Value) (fa : Addr) (h : Heap), (K w.params).In h → h.Ns mainGlobals mg → mg d.name = some (.ref fa) →
      ∃ fd : FuncData, (∀ (s : Shared) (u : Value), BindsTo s fd ⟨[u], []⟩ [("script", u)]) ∧ ∀ base : Heap, (K w.params).In base → base.Ns mainGlobals mg → FnOk l.prog w (K w.params) mg base CX0 6 fa fd ["script"] (spLaw (K w.params))) :
    PySem.W.WalkO q loose XP YP l.row.toRowW d [] (fun f vs => PySem.call f vs) :=
  L2.walk_of (n := 63) (k := 6) (x := "script") (CX := fun _ => CX0) (sp := fun w => spLaw (K w.params)) hn (by decide) hdf ⟨rfl, by decide, by decide⟩ hY F (fun w _ a ns hl _ hS => ⟨_, rfl, a, ns, rfl, hS, hl, fun _ => rfl⟩) fun _ _ _ _ _ z => z
end Own
open PySem PySem.W PyProof.Rows in
set_option maxRecDepth 100000 in
set_option maxHeartbeats 0 in
theorem PySem.Challenge.cw_throughway_k87_whole_packets_from_any_pa_holds : PySem.Challenge.rw_throughway_k87_whole_packets_from_any_pa.Holds := by
  w_on; o_law; k_head; (case hw => w_witness2)
  k_fill
  refine Own.walk (l := PySem.Challenge.rw_throughway_k87_whole_packets_from_any_pa) rfl rfl (fun w h Y => PySem.W.kIn_of Y) ?F
  case F =>
    intro w mg fa h KX G hmg
    refine' Own.all_mk KX G hmg ?a_law_cell ?a_law_start ?a_law_digit ?a_cut_part ?a_cut_octets ?a_law_parts ?a_law_mixed ?a_law_whole ?a_law ?a_Builder ?a_Heap ?a_Part ?ge_InvalidAmount ?l_law_cell ?c_law_cell ?k_law_cell ?l_law_start ?c_law_start ?k_law_start ?l_law_digit ?c_law_digit ?k_law_digit ?a_Part___init__ ?i_Part___init__ ?l_Part___init__ ?c_Part___init__ ?k_Part___init__ ?a_Part_end ?i_Part_end ?l_Part_end ?c_Part_end ?k_Part_end ?l_cut_part ?c_cut_part ?k_cut_part ?l_cut_octets ?c_cut_octets ?k_cut_octets ?a_Heap___init__ ?i_Heap___init__ ?l_Heap___init__ ?c_Heap___init__ ?k_Heap___init__ ?a_Heap_fits ?i_Heap_fits ?l_Heap_fits ?c_Heap_fits ?k_Heap_fits ?a_Heap_add ?i_Heap_add ?l_Heap_add ?c_Heap_add ?k_Heap_add ?a_Heap_is_whole ?i_Heap_is_whole ?l_Heap_is_whole ?c_Heap_is_whole ?k_Heap_is_whole ?a_Heap_octets ?i_Heap_octets ?l_Heap_octets ?c_Heap_octets ?k_Heap_octets ?a_Builder___init__ ?i_Builder___init__ ?l_Builder___init__ ?c_Builder___init__ ?k_Builder___init__ ?a_Builder_place_of ?i_Builder_place_of ?l_Builder_place_of ?c_Builder_place_of ?k_Builder_place_of ?a_Builder_add ?i_Builder_add ?l_Builder_add ?c_Builder_add ?k_Builder_add ?l_law_parts ?c_law_parts ?k_law_parts ?l_law_mixed ?c_law_mixed ?k_law_mixed ?l_law_whole ?c_law_whole ?k_law_whole ?l_law ?c_law ?k_law ?mk_Builder ?kc_Builder ?mk_Heap ?kc_Heap ?mk_Part ?kc_Part ?pg_Builder ?hd_Builder ?po_Builder ?sa_Builder ?pg_Heap ?hd_Heap ?po_Heap ?sa_Heap ?pg_Part ?hd_Part ?po_Part ?sa_Part ?n_Builder_heaps ?n_Builder_life ?n_Builder_most ?n_Heap_born ?n_Heap_end ?n_Heap_key ?n_Heap_places ?n_Heap_top ?n_Part_last ?n_Part_number ?n_Part_octets ?n_Part_start ?z_enumerate ?z_int ?z_len ?z_list ?z_max ?z_min ?z_range ?xx_InvalidAmount ?ke_InvalidAmount ?se_InvalidAmount ?te_InvalidAmount ?ie_InvalidAmount ?ue_InvalidAmount
    (case a_law_cell => k_is)
    (case a_law_start => k_is)
    (case a_law_digit => k_is)
    (case a_cut_part => k_is)
    (case a_cut_octets => k_is)
    (case a_law_parts => k_is)
    (case a_law_mixed => k_is)
    (case a_law_whole => k_is)
    (case a_law => k_is)
    (case a_Builder => k_is)
    (case a_Heap => k_is)
    (case a_Part => k_is)
    (case ge_InvalidAmount => k_is)
    (case l_law_cell => k_is)
    (case c_law_cell => k_is)
    (case k_law_cell => k_is)
    (case l_law_start => k_is)
    (case c_law_start => k_is)
    (case k_law_start => k_is)
    (case l_law_digit => k_is)
    (case c_law_digit => k_is)
    (case k_law_digit => k_is)
    (case a_Part___init__ => k_is)
    (case i_Part___init__ => k_is)
    (case l_Part___init__ => k_is)
    (case c_Part___init__ => k_is)
    (case k_Part___init__ => k_is)
    (case a_Part_end => k_is)
    (case i_Part_end => k_is)
    (case l_Part_end => k_is)
    (case c_Part_end => k_is)
    (case k_Part_end => k_is)
    (case l_cut_part => k_is)
    (case c_cut_part => k_is)
    (case k_cut_part => k_is)
    (case l_cut_octets => k_is)
    (case c_cut_octets => k_is)
    (case k_cut_octets => k_is)
    (case a_Heap___init__ => k_is)
    (case i_Heap___init__ => k_is)
    (case l_Heap___init__ => k_is)
    (case c_Heap___init__ => k_is)
    (case k_Heap___init__ => k_is)
    (case a_Heap_fits => k_is)
    (case i_Heap_fits => k_is)
    (case l_Heap_fits => k_is)
    (case c_Heap_fits => k_is)
    (case k_Heap_fits => k_is)
    (case a_Heap_add => k_is)
    (case i_Heap_add => k_is)
    (case l_Heap_add => k_is)
    (case c_Heap_add => k_is)
    (case k_Heap_add => k_is)
    (case a_Heap_is_whole => k_is)
    (case i_Heap_is_whole => k_is)
    (case l_Heap_is_whole => k_is)
    (case c_Heap_is_whole => k_is)
    (case k_Heap_is_whole => k_is)
    (case a_Heap_octets => k_is)
    (case i_Heap_octets => k_is)
    (case l_Heap_octets => k_is)
    (case c_Heap_octets => k_is)
    (case k_Heap_octets => k_is)
    (case a_Builder___init__ => k_is)
    (case i_Builder___init__ => k_is)
    (case l_Builder___init__ => k_is)
    (case c_Builder___init__ => k_is)
    (case k_Builder___init__ => k_is)
    (case a_Builder_place_of => k_is)
    (case i_Builder_place_of => k_is)
    (case l_Builder_place_of => k_is)
    (case c_Builder_place_of => k_is)
    (case k_Builder_place_of => k_is)
    (case a_Builder_add => k_is)
    (case i_Builder_add => k_is)
    (case l_Builder_add => k_is)
    (case c_Builder_add => k_is)
    (case k_Builder_add => k_is)
    (case l_law_parts => k_is)
    (case c_law_parts => k_is)
    (case k_law_parts => k_is)
    (case l_law_mixed => k_is)
    (case c_law_mixed => k_is)
    (case k_law_mixed => k_is)
    (case l_law_whole => k_is)
    (case c_law_whole => k_is)
    (case k_law_whole => k_is)
    (case l_law => k_is)
    (case c_law => k_is)
    (case k_law => k_is)
    (case mk_Builder => k_is)
    (case kc_Builder => k_is)
    (case mk_Heap => k_is)
    (case kc_Heap => k_is)
    (case mk_Part => k_is)
    (case kc_Part => k_is)
    (case pg_Builder => k_is)
    (case hd_Builder => k_is)
    (case po_Builder => k_is)
    (case sa_Builder => k_is)
    (case pg_Heap => k_is)
    (case hd_Heap => k_is)
    (case po_Heap => k_is)
    (case sa_Heap => k_is)
    (case pg_Part => k_is)
    (case hd_Part => k_is)
    (case po_Part => k_is)
    (case sa_Part => k_is)
    (case n_Builder_heaps => k_is)
    (case n_Builder_life => k_is)
    (case n_Builder_most => k_is)
    (case n_Heap_born => k_is)
    (case n_Heap_end => k_is)
    (case n_Heap_key => k_is)
    (case n_Heap_places => k_is)
    (case n_Heap_top => k_is)
    (case n_Part_last => k_is)
    (case n_Part_number => k_is)
    (case n_Part_octets => k_is)
    (case n_Part_start => k_is)
    (case z_enumerate => k_is)
    (case z_int => k_is)
    (case z_len => k_is)
    (case z_list => k_is)
    (case z_max => k_is)
    (case z_min => k_is)
    (case z_range => k_is)
    (case xx_InvalidAmount => k_exc)
    (case ke_InvalidAmount => k_is)
    (case se_InvalidAmount => k_is)
    (case te_InvalidAmount => k_is)
    (case ie_InvalidAmount => k_is)
    (case ue_InvalidAmount => k_is)
#print axioms PySem.Challenge.cw_throughway_k87_whole_packets_from_any_pa_holds
