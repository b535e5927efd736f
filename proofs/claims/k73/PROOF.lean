import PyProof.Rows.All
import Wide.All
import OpenK.AllK
import Wide.FinOn
import HandS.ForMost
import HandS.ForExc
import HandS.Wide
import HandS.IsInst
import HandS.FStr
import HandS.Codes
import HandS.Walk
import HandS.Deep
import HandS.SortInts
import HandS.Replace
import PySem.Challenge.RW_throughway_k73_prefixes_as_texts
set_option Elab.async false
set_option linter.all false
set_option maxRecDepth 100000
set_option maxHeartbeats 4000000
namespace TW
open PySem PySem.Spec PyProof.Rows L2

/-! ### promises by their places -/
def S0 (R : Hp → VK → XK → Prop) : Sp := fun vs H Q E => vs = [] ∧ R H Q E
def S1 (R : V → Hp → VK → XK → Prop) : Sp := fun vs H Q E => ∃ a, vs = [a] ∧ R a H Q E
def S2 (R : V → V → Hp → VK → XK → Prop) : Sp := fun vs H Q E => ∃ a b, vs = [a, b] ∧ R a b H Q E
def S3 (R : V → V → V → Hp → VK → XK → Prop) : Sp := fun vs H Q E => ∃ a b c, vs = [a, b, c] ∧ R a b c H Q E
def S4 (R : V → V → V → V → Hp → VK → XK → Prop) : Sp := fun vs H Q E => ∃ a b c d, vs = [a, b, c, d] ∧ R a b c d H Q E
def S5 (R : V → V → V → V → V → Hp → VK → XK → Prop) : Sp := fun vs H Q E => ∃ a b c d e, vs = [a, b, c, d, e] ∧ R a b c d e H Q E
def S6 (R : V → V → V → V → V → V → Hp → VK → XK → Prop) : Sp := fun vs H Q E => ∃ a b c d e f, vs = [a, b, c, d, e, f] ∧ R a b c d e f H Q E
section
variable {vs : List V} {H : Hp} {Q : VK} {E : XK}
theorem S0.len {R} (h : S0 R vs H Q E) : vs.length = 0 := by obtain ⟨rfl, _⟩ := h; rfl
theorem S1.len {R} (h : S1 R vs H Q E) : vs.length = 1 := by obtain ⟨_, rfl, _⟩ := h; rfl
theorem S2.len {R} (h : S2 R vs H Q E) : vs.length = 2 := by obtain ⟨_, _, rfl, _⟩ := h; rfl
theorem S3.len {R} (h : S3 R vs H Q E) : vs.length = 3 := by obtain ⟨_, _, _, rfl, _⟩ := h; rfl
theorem S4.len {R} (h : S4 R vs H Q E) : vs.length = 4 := by obtain ⟨_, _, _, _, rfl, _⟩ := h; rfl
theorem S5.len {R} (h : S5 R vs H Q E) : vs.length = 5 := by obtain ⟨_, _, _, _, _, rfl, _⟩ := h; rfl
theorem S6.len {R} (h : S6 R vs H Q E) : vs.length = 6 := by obtain ⟨_, _, _, _, _, _, rfl, _⟩ := h; rfl
end

/-! ### what may be called by its name -/
structure Cl (P : Program) (w : World) (K : PySem.W.Frag) (mg : Str → Option Value) (base : Heap) (CX : CXT) (k : Nat) (x : Str) (sp : Sp) : Prop where
  ex : ∃ (f : Addr) (fd : FuncData) (ps : List Str), FnOk P w K mg base CX k f fd ps sp ∧ mg x = some (.ref f) ∧ PySem.W.keepIn K (.ref f) = true ∧ Binds K fd ps []
structure Me (P : Program) (w : World) (K : PySem.W.Frag) (mg : Str → Option Value) (base : Heap) (CX : CXT) (k : Nat) (C : Addr) (m : Str) (sp : Sp) : Prop where
  ex : ∃ (f : Addr) (fd : FuncData) (ps : List Str), Cls K C ∧ Meth K C m f ∧ FnOk P w K mg base CX k f fd ps sp ∧ Binds K fd ps []
structure Ma (P : Program) (w : World) (K : PySem.W.Frag) (mg : Str → Option Value) (base : Heap) (CX : CXT) (k : Nat) (x : Str) (C : Addr) (sp : Sp) : Prop where
  ex : ∃ (f : Addr) (fd : FuncData) (ps : List Str), Mk K C f ∧ FnOk P w K mg base CX k f fd ps sp ∧ mg x = some (.ref C) ∧ Binds K fd ps []
def tClS (sp : Sp) (E : L2.St → XK) (t : TA) : TE := fun σ H Q => t σ H fun vs H1 => sp vs H1 Q (E σ)
section
variable {X : Cx} {CX : CXT} {k j : Nat} {C : Addr} {x m : Str} {sp : Sp} {E : XK} {p pos apos : Pos} {e o : Expr} {es : List Expr} {ta : TE} {t : TA}
/-- f(e, ..) -/
theorem pe_cl (c : Cl X.prog X.w X.K X.mg X.base CX k x sp) (hr : Room j X.A) (hk : k ≤ j) (hx : Passes CX X E) (ha : PA X (e :: es) t) (hg : Gl X x := by rfl)
    (hdb : (x == ("__debug__" : Str)) = false := by decide) (he : starEach (e :: es) X.env = (false, eval e X.env) :: starEach es X.env := by rfl) (hpl : (backTo pos (starEach es X.env)).any (·.1) = false := by rfl) :
    PE X (.Call (.Name x p) (e :: es) [] pos) (tCall sp [] E t) := by
  obtain ⟨f, fd, ps, F, hm, kp, b⟩ := c.ex
  exact pe_call F (hr.mono hk) hg hm kp b .nil hx ha hdb he hpl
/-- f() -/
theorem pe_cl0 (c : Cl X.prog X.w X.K X.mg X.base CX k x sp) (hr : Room j X.A) (hk : k ≤ j) (hx : Passes CX X E) (hg : Gl X x := by rfl)
    (hdb : (x == ("__debug__" : Str)) = false := by decide) : PE X (.Call (.Name x p) [] [] pos) (tCall sp [] E tNil) := by
  obtain ⟨f, fd, ps, F, hm, kp, b⟩ := c.ex
  exact pe_call0 F (hr.mono hk) hg hm kp b .nil hx hdb
/-- f(e, ..) in a try's body -/
theorem pe_cls {W : WX} (c : Cl X.prog X.w X.K X.mg X.base (L2.CX X.prog X.w) k x sp) (hr : Room j X.A) (hk : k ≤ j) (tk : Takes X W) (ha : PA X (e :: es) t) (hg : Gl X x := by rfl)
    (hdb : (x == ("__debug__" : Str)) = false := by decide) (he : starEach (e :: es) X.env = (false, eval e X.env) :: starEach es X.env := by rfl) (hpl : (backTo pos (starEach es X.env)).any (·.1) = false := by rfl) :
    PE X (.Call (.Name x p) (e :: es) [] pos) (tCallS sp (WE W) t) := by
  obtain ⟨f, fd, ps, F, hm, kp, b⟩ := c.ex
  exact pe_callS F (hr.mono hk) hg hm kp b (fun σ => passAt tk σ) ha hdb he hpl
/-- o.m(e, ..) -/
theorem pe_me {pl : Sem Bool} (c : Me X.prog X.w X.K X.mg X.base CX k C m sp) (hr : Room j X.A) (hk : k ≤ j) (hx : Passes CX X E) (he : PE X o ta) (ha : PA X (e :: es) t)
    (hst : starEach (e :: es) X.env = (false, eval e X.env) :: starEach es X.env := by rfl) (hpl : (backTo pos (starEach es X.env)).any (·.1) = false := by rfl)
    (ht : eval (.Call (.Attribute o m apos) (e :: es) [] pos) X.env = (do
      let ov ← eval o X.env
      standAt apos.atName
      let (f, first) ← holding [ov] (getMethod ov m pl)
      callWith pos f first (backTo pos (starEach (e :: es) X.env)) (backToKw pos (keywordEach [] X.env))) := by rfl) :
    PE X (.Call (.Attribute o m apos) (e :: es) [] pos) (tMeth C m sp [] E ta t) := by
  obtain ⟨f, fd, ps, hc, hm, F, b⟩ := c.ex
  exact pe_meth (pl := pl) he hc hm F (hr.mono hk) b .nil hx ha hst hpl ht
theorem pe_me0 {pl : Sem Bool} (c : Me X.prog X.w X.K X.mg X.base CX k C m sp) (hr : Room j X.A) (hk : k ≤ j) (hx : Passes CX X E) (he : PE X o ta)
    (ht : eval (.Call (.Attribute o m apos) [] [] pos) X.env = (do
      let ov ← eval o X.env
      standAt apos.atName
      let (f, first) ← holding [ov] (getMethod ov m pl)
      callWith pos f first (backTo pos (starEach [] X.env)) (backToKw pos (keywordEach [] X.env))) := by rfl) :
    PE X (.Call (.Attribute o m apos) [] [] pos) (tMeth C m sp [] E ta tNil) := by
  obtain ⟨f, fd, ps, hc, hm, F, b⟩ := c.ex
  exact pe_meth0 (pl := pl) he hc hm F (hr.mono hk) b .nil hx ht
/-- C(e, ..) -/
theorem pe_ma (c : Ma X.prog X.w X.K X.mg X.base CX k x C sp) (hr : Room j X.A) (hk : k + 1 ≤ j) (hx : Passes CX X E) (ha : PA X (e :: es) t) (hg : Gl X x := by rfl)
    (hdb : (x == ("__debug__" : Str)) = false := by decide) (he : starEach (e :: es) X.env = (false, eval e X.env) :: starEach es X.env := by rfl) (hpl : (backTo pos (starEach es X.env)).any (·.1) = false := by rfl) :
    PE X (.Call (.Name x p) (e :: es) [] pos) (tMake C sp [] E t) := by
  obtain ⟨f, fd, ps, M, F, hm, b⟩ := c.ex
  exact pe_make M F (hr.mono hk) hg hm b .nil hx ha hdb he hpl
theorem pe_ma0 (c : Ma X.prog X.w X.K X.mg X.base CX k x C sp) (hr : Room j X.A) (hk : k + 1 ≤ j) (hx : Passes CX X E) (hg : Gl X x := by rfl)
    (hdb : (x == ("__debug__" : Str)) = false := by decide) : PE X (.Call (.Name x p) [] [] pos) (tMake C sp [] E tNil) := by
  obtain ⟨f, fd, ps, M, F, hm, b⟩ := c.ex
  exact pe_make0 M F (hr.mono hk) hg hm b .nil hx hdb
end
/-- a name of the module, by its value -/
theorem pe_gc {X : Cx} {x : Str} {pos : Pos} {v : V} (hg : Gl X x) (h : ∃ u, X.mg x = some u ∧ RelV v u) (hd : (x == ("__debug__" : Str)) = false := by decide) : PE X (.Name x pos) (tC v) := by
  obtain ⟨u, hm, r⟩ := h
  exact pe_glob hg hm r hd

/-! ### heaps: all but some stands -/
def Keep (S : Addr → Prop) (H H' : Hp) : Prop := ∀ a o, H a = some o → ¬ S a → H' a = some o
section
variable {S S' : Addr → Prop} {H H1 H2 : Hp} {p : Addr} {o : HO}
theorem Keep.refl : Keep S H H := fun _ _ h _ => h
theorem Keep.trans (a : Keep S H H1) (b : Keep S H1 H2) : Keep S H H2 := fun x o h n => b x o (a x o h n) n
theorem Keep.mono (a : Keep S H H1) (h : ∀ x, S x → S' x) : Keep S' H H1 := fun x o e n => a x o e fun s => n (h x s)
theorem Keep.of (a : Same H H1) : Keep S H H1 := fun x o e _ => a x o e
theorem Keep.same (a : Keep (fun _ => False) H H1) : Same H H1 := fun x o e => a x o e id
theorem Keep.upd (a : Keep S H H1) (h : S p) : Keep S H (L2.upd H1 p o) := fun x u e n => by
  have z : x ≠ p := fun z => n (by rw [z]; exact h)
  rw [upd_ne z]
  exact a x u e n
theorem Keep.new (a : Keep S H H1) (h : H p = none) : Keep S H (L2.upd H1 p o) := fun x u e n => by
  rw [upd_ne (fun z => by rw [z, h] at e; cases e)]
  exact a x u e n
theorem Same.new (a : Same H H1) (h : H p = none) : Same H (L2.upd H1 p o) := fun x u e => by
  rw [upd_ne (fun z => by rw [z, h] at e; cases e)]
  exact a x u e
theorem Keep.free (a : Keep S H H1) (h : H1 p = none) (n : ¬ S p) : H p = none := by
  cases e : H p with
  | none => rfl
  | some u => rw [a p u e n] at h; cases h
end

/-! ### attributes -/
theorem lk_eq {x : Str} {v : V} {l : List (Str × V)} : List.lookup x ((x, v) :: l) = some v := by simp [List.lookup]
theorem lk_ne {x y : Str} {v : V} {l : List (Str × V)} (h : (x == y) = false) : List.lookup x ((y, v) :: l) = List.lookup x l := by simp [List.lookup, h]
theorem put_nil {x : Str} {v : V} : putF x v [] = [(x, v)] := rfl
theorem put_eq {x : Str} {u v : V} {l : List (Str × V)} : putF x v ((x, u) :: l) = (x, v) :: l := by
  show (if x = x then _ else _) = _
  rw [if_pos rfl]
theorem put_ne {x y : Str} {u v : V} {l : List (Str × V)} (h : (y == x) = false) : putF x v ((y, u) :: l) = (y, u) :: putF x v l := by
  show (if y = x then _ else _) = _
  rw [if_neg (by simpa using h)]
/-- an error of the class at S is what «except S» names -/
theorem exm_self {K : PySem.W.Frag} {S : Addr} (h1 : PySem.W.subIn K (.ref S) (.type "BaseException") = some true) (h2 : PySem.W.isClsIn K S = true) (h3 : PySem.W.typeIn K (.ref S) = some (.type "type")) (h4 : PySem.W.subIn K (.ref S) (.ref S) = some true) :
    PySem.W.exmOne K (.ref S) (.ref S) = some true := by
  have e1 : (PySem.W.subIn K (.ref S) (.type "BaseException") == some true) = true := by rw [h1] <;> rfl
  have e2 : ((PySem.W.clsIn K S).isSome && PySem.W.typeIn K (.ref S) == some (.type "type")) = true := by
    have h2' : (PySem.W.clsIn K S).isSome = true := h2
    rw [h2', h3] <;> rfl
  show (if (PySem.W.subIn K (.ref S) (.type "BaseException") == some true) = true then (if ((PySem.W.clsIn K S).isSome && PySem.W.typeIn K (.ref S) == some (.type "type")) = true then PySem.W.subIn K (.ref S) (.ref S) else none) else none) = some true
  rw [if_pos e1, if_pos e2]
  exact h4
theorem huD {A : Around} {k : Nat} (hr : Room k A) : A.units + 65 < cLine := by have := hr.un; omega
theorem ite_t {c : Bool} {A B : Prop} (hc : c = true) (h : A) : if c = true then A else B := by
  rw [if_pos hc]
  exact h
theorem ite_f {c : Bool} {A B : Prop} (hc : c = false) (h : B) : if c = true then A else B := by
  rw [hc, if_neg Bool.false_ne_true]
  exact h
theorem int_item {ns : List Int} {i : Nat} {v : V} (h : (ns.map V.int)[i]? = some v) : ∃ z, ns[i]? = some z ∧ v = .int z := by
  rw [List.getElem?_map] at h
  cases e : ns[i]? with
  | none => rw [e] at h; cases h
  | some z => rw [e] at h; exact ⟨z, rfl, (Option.some.inj h).symm⟩
theorem sz (n : Nat) (h : n ≤ 1000000) : n ≤ sizeLine := by rw [sizeLine_eq]; omega
theorem szl (n : Nat) (h : n ≤ 1000000) : n < sizeLine := by rw [sizeLine_eq]; omega

/-! ### one object may change -/
abbrev KeepP (p : Addr) : Hp → Hp → Prop := Keep fun z => z = p
section
variable {H H1 H2 : Hp} {p q : Addr} {o : HO}
theorem KeepP.upd (a : KeepP p H H1) : KeepP p H (L2.upd H1 p o) := Keep.upd a rfl
theorem KeepP.refl : KeepP p H H := Keep.refl
theorem KeepP.get (a : KeepP p H H1) {u : HO} (h : H q = some u) (n : q ≠ p) : H1 q = some u := a q u h n
theorem Same.keepP (a : Same H H1) : KeepP p H H1 := Keep.of a
/-- what was not there may change -/
theorem KeepP.same (a : KeepP p H1 H2) (s : Same H H1) (h : H p = none) : Same H H2 := fun x o e => a x o (s x o e) (ne_of_none e h)
end

/-! ### the draws of the laws -/
theorem start_step {n m : Int} {i : Nat} (hn : n.natAbs < 2 ^ (100 * i + 1)) (h0 : 0 ≤ m) (h1 : m < 618970019642690137449562111) : (n * 618970019642690137449562111 + m).natAbs < 2 ^ (100 * (i + 1) + 1) := by
  have a1 := Int.natAbs_add_le (n * 618970019642690137449562111) m
  rw [Int.natAbs_mul] at a1
  have e : (2 : Nat) ^ (100 * (i + 1) + 1) = 2 ^ (100 * i + 1) * 2 ^ 100 := by rw [← Nat.pow_add]; congr 1
  rw [e]
  have p : 1 ≤ 2 ^ (100 * i + 1) := Nat.one_le_two_pow
  generalize 2 ^ (100 * i + 1) = B at hn p
  have b : n.natAbs * 618970019642690137449562111 ≤ B * 618970019642690137449562111 := Nat.mul_le_mul_right _ (Nat.le_of_lt hn)
  have c : m.natAbs < 618970019642690137449562111 := by omega
  have d : (618970019642690137449562111 : Int).natAbs = 618970019642690137449562111 := rfl
  rw [d] at a1
  omega
theorem start_bits {n : Int} {i : Nat} (hn : n.natAbs < 2 ^ (100 * i + 1)) (hi : i < 4) : n.natAbs < 2 ^ 401 := Nat.lt_of_lt_of_le hn (Nat.pow_le_pow_right (by decide) (by omega))
def spCell (K : PySem.W.Frag) : Sp := S2 fun a b H Q _ => ∃ (p : Addr) (ns : List Int) (k : Int), a = .ref p ∧ b = .int k ∧ SqL K H p (ns.map V.int) ∧ 0 ≤ k ∧ ∀ z, Q (.int z) H
def spStart : Sp := S2 fun a b H Q _ => ∃ (c k : Int), a = .int c ∧ b = .int k ∧ 0 ≤ k ∧ k ≤ 100000 ∧ ∀ p n H', H p = none → Same H H' → H' p = some (.lst [.int n]) → Q (.ref p) H'
def spDigit : Sp := S2 fun a b H Q _ => ∃ (p : Addr) (n m : Int) (H0 : Hp), a = .ref p ∧ b = .int m ∧ H p = some (.lst [.int n]) ∧ 0 < m ∧ m < 1073741824 ∧ KeepP p H0 H ∧
  ∀ d n' H', KeepP p H0 H' → H' p = some (.lst [.int n']) → 0 ≤ d → d < m → Q (.int d) H'
def spanN (n : Nat) : Int := 2 ^ (16 - n)
def spanTab : List V := [.int 65536, .int 32768, .int 16384, .int 8192, .int 4096, .int 2048, .int 1024, .int 512, .int 256, .int 128, .int 64, .int 32, .int 16, .int 8, .int 4, .int 2, .int 1]
theorem spanTab_at : ∀ n : Nat, n < 17 → spanTab[n]? = some (.int (spanN n)) := by decide +kernel
theorem spanTab_at' {n : Nat} (h : n ≤ 16) : spanTab[n]? = some (.int (spanN n)) := spanTab_at n (by omega)
theorem span_pos (n : Nat) : 0 < spanN n := by unfold spanN; exact Int.pow_pos (by decide)
theorem span_le : ∀ n : Nat, n < 17 → spanN n ≤ 65536 := by decide +kernel
theorem span_le' {n : Nat} (h : n ≤ 16) : spanN n ≤ 65536 := span_le n (by omega)
def spSpan : Sp := S1 fun a H Q _ => ∃ n : Nat, a = .int n ∧ n ≤ 16 ∧ ∀ H', Same H H' → Q (.int (spanN n)) H'

/-! ### tests told by their answer -/
theorem at_ofG {α : Type} {xs : List α} {z : Int} {j : Nat} {v : α} (e : z = (j : Int)) (h : xs[j]? = some v) : atI xs z = some v := by
  rw [e]; exact atI_nat h
/-- the test answers b; what was tracked stands -/
def Tst (t : TT) (σ : L2.St) (H : Hp) (b : Bool) : Prop := ∀ Q : Bool → Hp → Prop, (∀ H', Same H H' → Q b H') → t σ H Q
section
variable {c u : TT} {t1 t2 : TS} {D : Ends} {σ : L2.St} {H : Hp}
theorem if_tst {b : Bool} (h : Tst c σ H b) (h1 : b = true → ∀ H', Same H H' → t1 D σ H') (h2 : b = false → ∀ H', Same H H' → t2 D σ H') : tIfS c t1 t2 D σ H :=
  h _ fun H' s => by
    cases b with
    | true => exact h1 rfl H' s
    | false => exact h2 rfl H' s
theorem if_tstP {p : Prop} [Decidable p] (h : Tst c σ H (decide p)) (h1 : p → ∀ H', Same H H' → t1 D σ H') (h2 : ¬ p → ∀ H', Same H H' → t2 D σ H') : tIfS c t1 t2 D σ H :=
  if_tst h (fun e => h1 (of_decide_eq_true e)) fun e => h2 (of_decide_eq_false e)
end

/-- a number below 2 ^ 60 has a short text -/
theorem num_bits {n : Nat} (h : n < 2 ^ 60) : ((n : Nat) : Int).natAbs.log2 < 1920 := by
  rw [Int.natAbs_natCast]
  exact Nat.lt_of_lt_of_le (PySem.Flt.log2_lt_of (k := 60) (by decide) h) (by decide)
theorem num_len {n k : Nat} (hk : 0 < k) (h : n < 10 ^ k) : (Str.ofString (toString ((n : Nat) : Int))).length ≤ k := by
  rw [TL.len_tl, TL.tl_num]
  exact TL.numL_len hk h

theorem str_app (a b : Str) : (a ++ b).length = a.length + b.length := by rw [TL.len_tl, TL.tl_append, List.length_append, ← TL.len_tl, ← TL.len_tl]
theorem sign_at {z : Str} {d : Int} (h0 : 0 ≤ d) (h1 : d < z.length) : ∃ c, atI z.cps.toList d = some c := by
  have h : d.toNat < z.cps.toList.length := by
    have : z.cps.toList.length = z.length := by simp [Str.length]
    omega
  refine ⟨_, at_ofG (j := d.toNat) (by omega) (List.getElem?_eq_getElem h)⟩
theorem emod_le_self {a b : Int} (h : 0 ≤ a) (hb : 0 < b) : a % b ≤ a := by
  have h1 := Int.mul_nonneg (Int.le_of_lt hb) (Int.ediv_nonneg h (Int.le_of_lt hb))
  have h2 := Int.emod_add_mul_ediv a b
  omega
def spLaw (K : PySem.W.Frag) : Sp := S1 fun v H Q _ => ∃ (a : Addr) (ns : List Int), v = .ref a ∧ SqL K H a (ns.map V.int) ∧ ns.length ≤ 63 ∧ ∀ H', Q (.bl true) H'
end TW
local macro_rules | `(tactic| walk_at "g") => `(tactic| repeat first | refine ⟨_, rfl, ?_⟩ | refine ⟨_, _, rfl, rfl, ?_⟩ | refine ⟨rfl, ?_⟩ | refine Or.inl ⟨_, rfl, ?_⟩ | refine ⟨by decide, ?_⟩ | refine ⟨(by show (0 : Int) < _; decide), ?_⟩ | refine ⟨_, _, rfl, ?_⟩)
local macro_rules | `(tactic| walk_at "n") => `(tactic| dsimp only [L2.gName, L2.tSeq, L2.tAsg, L2.tNext])
namespace Own
open PySem PySem.Spec PyProof.Rows L2 TW
def top (i : Nat) : Stmt := PySem.Challenge.pw_throughway_k73_prefixes_as_texts.main.body.getD i (.Pass ⟨0, 0, 0, 0⟩)
abbrev s_law_span : Stmt := top 16
theorem sc_law_span : FnScope ["length"] ["length"] (defScope s_law_span) := ⟨rfl, rfl, rfl, by decide +kernel, rfl, by decide +kernel, by decide +kernel⟩
abbrev s_law_cell : Stmt := top 17
theorem sc_law_cell : FnScope ["script", "k"] ["script", "k"] (defScope s_law_cell) := ⟨rfl, rfl, rfl, by decide +kernel, rfl, by decide +kernel, by decide +kernel⟩
abbrev s_law_start : Stmt := top 18
theorem sc_law_start : FnScope ["cell", "k", "prime", "mixed", "number", "turn"] ["cell", "k"] (defScope s_law_start) := ⟨rfl, rfl, rfl, by decide +kernel, rfl, by decide +kernel, by decide +kernel⟩
abbrev s_law_digit : Stmt := top 19
theorem sc_law_digit : FnScope ["state", "many", "digit"] ["state", "many"] (defScope s_law_digit) := ⟨rfl, rfl, rfl, by decide +kernel, rfl, by decide +kernel, by decide +kernel⟩
abbrev s_law_number : Stmt := top 20
theorem sc_law_number : FnScope ["text", "number", "char"] ["text"] (defScope s_law_number) := ⟨rfl, rfl, rfl, by decide +kernel, rfl, by decide +kernel, by decide +kernel⟩
abbrev s_law_expected : Stmt := top 21
theorem sc_law_expected : FnScope ["text", "words", "base", "length"] ["text"] (defScope s_law_expected) := ⟨rfl, rfl, rfl, by decide +kernel, rfl, by decide +kernel, by decide +kernel⟩
abbrev s_span_of : Stmt := top 10
theorem sc_span_of : FnScope ["length"] ["length"] (defScope s_span_of) := ⟨rfl, rfl, rfl, by decide +kernel, rfl, by decide +kernel, by decide +kernel⟩
abbrev s_Prefix___init__ : Stmt := inClass (top 11) 0
theorem sc_Prefix___init__ : FnScope ["self", "base", "length"] ["self", "base", "length"] (defScope s_Prefix___init__) := ⟨rfl, rfl, rfl, by decide +kernel, rfl, by decide +kernel, by decide +kernel⟩
abbrev s_Prefix_pair : Stmt := inClass (top 11) 2
theorem sc_Prefix_pair : FnScope ["self"] ["self"] (defScope s_Prefix_pair) := ⟨rfl, rfl, rfl, by decide +kernel, rfl, by decide +kernel, by decide +kernel⟩
abbrev s_format_prefix : Stmt := top 12
theorem sc_format_prefix : FnScope ["prefix"] ["prefix"] (defScope s_format_prefix) := ⟨rfl, rfl, rfl, by decide +kernel, rfl, by decide +kernel, by decide +kernel⟩
abbrev s_plain_number : Stmt := top 13
theorem sc_plain_number : FnScope ["text", "char"] ["text"] (defScope s_plain_number) := ⟨rfl, rfl, rfl, by decide +kernel, rfl, by decide +kernel, by decide +kernel⟩
abbrev s_parse_prefix : Stmt := top 14
theorem sc_parse_prefix : FnScope ["text", "words", "base", "length"] ["text"] (defScope s_parse_prefix) := ⟨rfl, rfl, rfl, by decide +kernel, rfl, by decide +kernel, by decide +kernel⟩
abbrev s_law_twisted : Stmt := top 22
theorem sc_law_twisted : FnScope ["state", "text", "at", "sign", "kind"] ["state", "text"] (defScope s_law_twisted) := ⟨rfl, rfl, rfl, by decide +kernel, rfl, by decide +kernel, by decide +kernel⟩
abbrev s_law_text : Stmt := top 23
theorem sc_law_text : FnScope ["state", "length", "base"] ["state"] (defScope s_law_text) := ⟨rfl, rfl, rfl, by decide +kernel, rfl, by decide +kernel, by decide +kernel⟩
abbrev s_law_read : Stmt := top 24
theorem sc_law_read : FnScope ["text"] ["text"] (defScope s_law_read) := ⟨rfl, rfl, rfl, by decide +kernel, rfl, by decide +kernel, by decide +kernel⟩
abbrev s_law_asked : Stmt := top 25
theorem sc_law_asked : FnScope ["text", "expected", "told"] ["text"] (defScope s_law_asked) := ⟨rfl, rfl, rfl, by decide +kernel, rfl, by decide +kernel, by decide +kernel⟩
abbrev s_law : Stmt := top 26
theorem sc_law : FnScope ["script", "k", "state", "text"] ["script"] (defScope s_law) := ⟨rfl, rfl, rfl, by decide +kernel, rfl, by decide +kernel, by decide +kernel⟩
/-- the attributes of a Prefix, in the order in which they are stored -/
def fs_Prefix (x_base x_length : V) : List (Str × V) := [("base", x_base), ("length", x_length)]
theorem fs_Prefix_base {x_base x_length : V} : (fs_Prefix x_base x_length).lookup ("base" : Str) = some x_base := by
  unfold fs_Prefix
  rw [lk_eq]
theorem fs_Prefix_put_base {x_base x_length v : V} : putF ("base" : Str) v (fs_Prefix x_base x_length) = fs_Prefix v x_length := by
  unfold fs_Prefix
  rw [put_eq]
theorem fs_Prefix_new_base {x_base : V} : putF ("base" : Str) x_base ([] : List (Str × V)) = ([("base", x_base)] : List (Str × V)) := by
  rw [put_nil]
theorem fs_Prefix_length {x_base x_length : V} : (fs_Prefix x_base x_length).lookup ("length" : Str) = some x_length := by
  unfold fs_Prefix
  rw [lk_ne (by decide +kernel)]; rw [lk_eq]
theorem fs_Prefix_put_length {x_base x_length v : V} : putF ("length" : Str) v (fs_Prefix x_base x_length) = fs_Prefix x_base v := by
  unfold fs_Prefix
  rw [put_ne (by decide +kernel)]; rw [put_eq]
theorem fs_Prefix_new_length {x_base x_length : V} : putF ("length" : Str) x_length ([("base", x_base)] : List (Str × V)) = ([("base", x_base), ("length", x_length)] : List (Str × V)) := by
  rw [put_ne (by decide +kernel)]; rw [put_nil]
theorem fs_Prefix_len {x_base x_length : V} : (fs_Prefix x_base x_length).length < 1000 := by show 2 < 1000; decide
theorem fs_Prefix_no_pair {x_base x_length : V} : (fs_Prefix x_base x_length).lookup ("pair" : Str) = none := by
  unfold fs_Prefix
  rw [lk_ne (by decide +kernel)]; rw [lk_ne (by decide +kernel)]; rfl
structure Txt (K : PySem.W.Frag) (mg : Str → Option Value) (C_Prefix A_SPANS E_InvalidPrefix : Addr) : Prop where
  cl_Prefix : Cls K C_Prefix
  gv_Prefix : ∃ u, mg "Prefix" = some u ∧ RelV (.ref C_Prefix) u
  na_Prefix_base : NoAttr K C_Prefix "base"
  na_Prefix_length : NoAttr K C_Prefix "length"
  b_int : mg "int" = none
  b_isinstance : mg "isinstance" = none
  b_len : mg "len" = none
  b_min : mg "min" = none
  b_range : mg "range" = none
  b_str : mg "str" = none
  g_ADDRESSES : ∃ u, mg "ADDRESSES" = some u ∧ RelV (.int 65536) u
  g_BITS : ∃ u, mg "BITS" = some u ∧ RelV (.int 16) u
  g_DIGITS : ∃ u, mg "DIGITS" = some u ∧ RelV (.str "0123456789") u
  g_MOST_DIGITS : ∃ u, mg "MOST_DIGITS" = some u ∧ RelV (.int 5) u
  g_SPANS : ∃ u, mg "SPANS" = some u ∧ RelV (.ref A_SPANS) u
  v_SPANS : ∀ H : Hp, SqT K H A_SPANS [.int 65536, .int 32768, .int 16384, .int 8192, .int 4096, .int 2048, .int 1024, .int 512, .int 256, .int 128, .int 64, .int 32, .int 16, .int 8, .int 4, .int 2, .int 1]
  x_InvalidPrefix : PySem.W.excIn K E_InvalidPrefix [.type "ValueError", .type "Exception", .type "BaseException", .type "object"] "ValueError.__new__" = true
  e_InvalidPrefix : mg "InvalidPrefix" = some (.ref E_InvalidPrefix)
  k_InvalidPrefix : PySem.W.keepIn K (.ref E_InvalidPrefix) = true
  s_InvalidPrefix : PySem.W.subIn K (.ref E_InvalidPrefix) (.type "BaseException") = some true
  t_InvalidPrefix : PySem.W.typeIn K (.ref E_InvalidPrefix) = some (.type "type")
  m_InvalidPrefix : PySem.W.exmOne K (.ref E_InvalidPrefix) (.ref E_InvalidPrefix) = some true
  i_Prefix : C8.InsC K C_Prefix
def isD (c : Nat) : Bool := decide (48 ≤ c) && decide (c ≤ 57)
def lawNum (l : List Nat) : Option Int := if l = [] ∨ (1 < l.length ∧ l[0]? = some 48) then none else if l.all isD = true then some (NumText.digitsVal l : Nat) else none
def progNum (l : List Nat) : Option Int := if 5 < l.length then none else lawNum l
def okP (x y : Int) : Prop := y ≤ 16 ∧ x ≤ 65535 ∧ x % spanN y.toNat = 0
instance (x y : Int) : Decidable (okP x y) := by unfold okP; infer_instance
def pairOf : Option Int → Option Int → Option (Int × Int)
  | some x, some y => if okP x y then some (x, y) else none
  | _, _ => none
def expOf (g : List Nat → Option Int) (l : List Nat) : Option (Int × Int) := match TL.spl [47] 0 [] l with
  | [a, b] => pairOf (g a) (g b)
  | _ => none
theorem allD {l : List Nat} (h : l.all isD = true) : NumText.AllDigits l := fun c hc => by
  have z := List.all_eq_true.mp h c hc
  unfold isD at z
  rw [Bool.and_eq_true, decide_eq_true_eq, decide_eq_true_eq] at z
  exact z
/-- a number without leading zeros is its text -/
theorem lawNum_canon {l : List Nat} {x : Int} (h : lawNum l = some x) : ∃ v : Nat, x = v ∧ TL.numL v = l ∧ l ≠ [] := by
  unfold lawNum at h
  split at h
  · cases h
  rename_i hn
  split at h
  · rename_i hd
    have e : x = (NumText.digitsVal l : Nat) := (Option.some.inj h).symm
    have hne : l ≠ [] := fun z => hn (.inl z)
    refine ⟨_, e, ?_, hne⟩
    have ad := allD hd
    obtain ⟨c, r, rfl⟩ : ∃ c r, l = c :: r := List.exists_cons_of_ne_nil hne
    have hc : r.length = 0 ∨ ∃ c' r', (c :: r : List Nat) = c' :: r' ∧ 49 ≤ c' := by
      by_cases hr : r.length = 0
      · exact .inl hr
      · refine .inr ⟨c, r, rfl, ?_⟩
        have h1 : ¬ c = 48 := fun z => hn (.inr ⟨by rw [List.length_cons]; omega, by rw [z]; rfl⟩)
        have h2 := ad c (List.mem_cons_self ..)
        omega
    have t := NumText.toDigits_digitsVal r.length (c :: r) rfl ad hc
    unfold TL.numL
    rw [t, List.map_map]
    have : ∀ z ∈ (c :: r), (Char.toNat ∘ Char.ofNat) z = z := fun z hz => by
      have hz2 := ad z hz
      have q : ∀ d : Nat, d < 58 → (Char.toNat ∘ Char.ofNat) d = d := by decide +kernel
      exact q z (by omega)
    rw [List.map_congr_left this, List.map_id']
  · cases h
theorem lawNum_long {l : List Nat} {x : Int} (h : lawNum l = some x) (hl : 5 < l.length) : 100000 ≤ x := by
  obtain ⟨v, rfl, e, _⟩ := lawNum_canon h
  by_cases hv : v < 10 ^ 5
  · have := TL.numL_len (k := 5) (by decide) hv
    rw [e] at this
    omega
  · omega
theorem lawNum_nn {l : List Nat} {x : Int} (h : lawNum l = some x) : 0 ≤ x := by
  obtain ⟨v, rfl, _⟩ := lawNum_canon h
  omega
theorem progNum_some {l : List Nat} {x : Int} (h : progNum l = some x) : lawNum l = some x ∧ l.length ≤ 5 := by
  unfold progNum at h
  split at h
  · cases h
  · exact ⟨h, by omega⟩
theorem pair_eq (a b : List Nat) : pairOf (lawNum a) (lawNum b) = pairOf (progNum a) (progNum b) := by
  by_cases ha : 5 < a.length
  · have e : progNum a = none := if_pos ha
    rw [e]
    cases h : lawNum a with
    | none => rfl
    | some x =>
      have := lawNum_long h ha
      cases h2 : lawNum b with
      | none => rfl
      | some y => exact if_neg fun z => by have := z.2.1; omega
  · have e : progNum a = lawNum a := if_neg ha
    rw [e]
    by_cases hb : 5 < b.length
    · have e2 : progNum b = none := if_pos hb
      rw [e2]
      cases h : lawNum a with
      | none => rfl
      | some x =>
        cases h2 : lawNum b with
        | none => rfl
        | some y => 
          have := lawNum_long h2 hb
          exact if_neg fun z => by have := z.1; omega
    · rw [show progNum b = lawNum b from if_neg hb]
theorem exp_eq (l : List Nat) : expOf lawNum l = expOf progNum l := by
  unfold expOf
  split
  · exact pair_eq _ _
  · rfl
theorem spl_ne (s : List Nat) (k : Nat) (acc l : List Nat) : TL.spl s k acc l ≠ [] := by
  induction l generalizing k acc with
  | nil => rw [TL.spl_nil]; simp
  | cons c r ih =>
    cases k with
    | zero =>
      by_cases h : TL.pre s (c :: r) = true
      · rw [TL.spl_hit h]; simp
      · rw [TL.spl_miss (by simpa using h)]; exact ih _ _
    | succ k => exact ih _ _
theorem join_cons {s p : List Nat} {q : List (List Nat)} (h : q ≠ []) : TL.joinL s (p :: q) = p ++ (s ++ TL.joinL s q) := by
  cases q with
  | nil => exact absurd rfl h
  | cons => rfl
theorem join_spl (c0 : Nat) (l : List Nat) : ∀ acc, TL.joinL [c0] (TL.spl [c0] 0 acc l) = acc ++ l := by
  induction l with
  | nil => intro acc; rw [TL.spl_nil]; simp [TL.joinL]
  | cons c r ih =>
    intro acc
    by_cases h : TL.pre [c0] (c :: r) = true
    · rw [TL.spl_hit h]
      have hc : c = c0 := by unfold TL.pre at h; simpa using h
      show TL.joinL [c0] (acc :: TL.spl [c0] 0 [] r) = _
      rw [join_cons (spl_ne _ _ _ _), ih, hc]; simp
    · rw [TL.spl_miss (by simpa using h), ih]; simp
theorem spl_two {l a b : List Nat} (h : TL.spl [47] 0 [] l = [a, b]) : l = a ++ (47 :: b) := by
  have e := join_spl 47 l []
  rw [h] at e
  simpa [TL.joinL] using e.symm
/-- what is read has this text -/
theorem exp_text {l : List Nat} {x y : Int} (h : expOf progNum l = some (x, y)) : ∃ m n : Nat, x = m ∧ y = n ∧ n ≤ 16 ∧ okP x y ∧ l = TL.numL m ++ (47 :: TL.numL n) := by
  unfold expOf at h
  split at h
  · rename_i a b hw
    cases h1 : progNum a with
    | none => rw [h1] at h; cases h
    | some x' =>
      cases h2 : progNum b with
      | none => rw [h1, h2] at h; cases h
      | some y' =>
        rw [h1, h2] at h
        have h : (if okP x' y' then some (x', y') else none) = some (x, y) := h
        split at h
        · rename_i ok
          cases h
          obtain ⟨m, rfl, e1, _⟩ := lawNum_canon (progNum_some h1).1
          obtain ⟨n, rfl, e2, _⟩ := lawNum_canon (progNum_some h2).1
          exact ⟨m, n, rfl, rfl, by have := ok.1; omega, ok, by rw [e1, e2]; exact spl_two hw⟩
        · cases h
  · cases h
theorem occ_digit : ∀ c : Nat, c < 10 → Builtin.Str.occurrences ("0123456789" : Str) ⟨#[48 + c]⟩ 0 ("0123456789" : Str).length 1 = [c] := by decide +kernel
theorem digs_tl : ("0123456789" : Str).cps.toList = [48, 49, 50, 51, 52, 53, 54, 55, 56, 57] := by decide +kernel
theorem in_digs (c : Nat) : decide (c ∈ ("0123456789" : Str).cps.toList) = isD c := by
  rw [digs_tl]
  unfold isD
  by_cases h : 48 ≤ c ∧ c ≤ 57
  · have : ∀ d : Nat, d < 58 → 48 ≤ d → decide (d ∈ [48, 49, 50, 51, 52, 53, 54, 55, 56, 57]) = (decide (48 ≤ d) && decide (d ≤ 57)) := by decide
    exact this c (by omega) h.1
  · have e : (decide (48 ≤ c) && decide (c ≤ 57)) = false := by
      rw [Bool.eq_false_iff]; intro z; simp at z; exact h z
    rw [e, decide_eq_false]
    intro z
    simp only [List.mem_cons, List.not_mem_nil, or_false] at z
    omega
theorem dv_take {l : List Nat} {i c : Nat} (h : l[i]? = some c) : NumText.digitsVal (l.take (i + 1)) = NumText.digitsVal (l.take i) * 10 + (c - 48) ∧ (l.take (i + 1)).all isD = ((l.take i).all isD && isD c) := by
  have e : l.take (i + 1) = l.take i ++ [c] := by rw [List.take_succ, h]; rfl
  rw [e]
  exact ⟨NumText.digitsVal_snoc _ _, by simp [List.all_append]⟩
theorem all_false {l : List Nat} {i c : Nat} (h : l[i]? = some c) (hc : isD c = false) : l.all isD = false := by
  rw [Bool.eq_false_iff]
  intro z
  rw [List.all_eq_true.mp z c (List.mem_of_getElem? h)] at hc
  cases hc
theorem dv_fold : ∀ (l : List Nat) (a : Nat), NumText.AllDigits l → l.foldl (fun acc c => acc * 10 + (c - 48)) a < (a + 1) * 10 ^ l.length
  | [], a, _ => by show a < (a + 1) * 1; omega
  | c :: r, a, h => by
    have ih := dv_fold r (a * 10 + (c - 48)) fun x hx => h x (List.mem_cons_of_mem _ hx)
    have hc := h c (List.mem_cons_self ..)
    refine Nat.lt_of_lt_of_le ih ?_
    rw [List.length_cons, Nat.pow_succ, Nat.mul_comm (10 ^ r.length) 10, ← Nat.mul_assoc]
    exact Nat.mul_le_mul_right _ (by omega)
theorem dv_mul {l : List Nat} {i : Nat} (h : (l.take i).all isD = true) (hl : l.length ≤ 100) : CMulW ((NumText.digitsVal (l.take i) : Nat) : Int) 10 := by
  have a := dv_fold (l.take i) 0 (allD h)
  have hl2 : (l.take i).length ≤ 100 := by rw [List.length_take]; omega
  refine wide_mul (a := 400) (b := 4) ?_ (by decide) (by decide) (by decide) (by decide)
  rw [Int.natAbs_natCast]
  refine Nat.lt_of_lt_of_le a ?_
  rw [Nat.zero_add, Nat.one_mul]
  refine Nat.le_trans (Nat.pow_le_pow_left (show 10 ≤ 2 ^ 4 by decide) _) ?_
  rw [← Nat.pow_mul]
  exact Nat.pow_le_pow_right (by decide) (by omega)
theorem expOf_ne {g : List Nat → Option Int} {l : List Nat} (h : (TL.spl [47] 0 [] l).length ≠ 2) : expOf g l = none := by
  unfold expOf
  split
  · rename_i a b e; rw [e] at h; exact absurd rfl h
  · rfl
theorem expOf_two {g : List Nat → Option Int} {l a b : List Nat} (h : TL.spl [47] 0 [] l = [a, b]) : expOf g l = pairOf (g a) (g b) := by
  unfold expOf
  rw [h]
theorem pairOf_ok {x y : Int} (h : okP x y) : pairOf (some x) (some y) = some (x, y) := if_pos h
theorem pairOf_no {x y : Int} (h : ¬ okP x y) : pairOf (some x) (some y) = none := if_neg h
theorem intText_tl {z : Str} (h : (TL.tl z).all isD = true) (hne : TL.tl z ≠ []) (hl : z.length ≤ 4300) : intText? z = some ((NumText.digitsVal (TL.tl z) : Nat) : Int) := by
  have q := SX.int_S (a := TL.tl z) h hne (by rw [← TL.len_tl]; exact hl)
  rwa [show SX.S (TL.tl z) = z from TL.mk_tl z] at q

def optI : Option Int → V
  | none => .non
  | some i => .int i
theorem str_dec (a : Str) (z : Str) : decide (V.str a = V.str z) = decide (TL.tl a = TL.tl z) := by
  by_cases h : a = z
  · subst h; simp
  · have h2 : ¬ TL.tl a = TL.tl z := fun e => h (TL.ext_tl e)
    rw [decide_eq_false h2, decide_eq_false]
    intro e; exact h (V.str.inj e)
section
variable {P : Program} {w : World} {K : PySem.W.Frag} {mg : Str → Option Value} {base : Heap}
theorem ok_law_span {f : Addr} {fd : FuncData} {C_Prefix A_SPANS E_InvalidPrefix : Addr} (F : Fun K "_law_span" "_law_span" s_law_span f fd) (T : Txt K mg C_Prefix A_SPANS E_InvalidPrefix)  : FnOk P w K mg base CX0 1 f fd ["length"] (spSpan) := by
  refine F.ok sc_law_span (fun vs H Q E h => S1.len h) (fun cdv A outer s H vs Q E hr h => ?_)
  obtain ⟨_, rfl, n, rfl, hn, k⟩ := h
  refine ⟨_, (pss_one (ps_ret (pe_ix ix_tup (pe_tup (pa_cons pe_int (pa_cons pe_int (pa_cons pe_int (pa_cons pe_int (pa_cons pe_int (pa_cons pe_int (pa_cons pe_int (pa_cons pe_int (pa_cons pe_int (pa_cons pe_int (pa_cons pe_int (pa_cons pe_int (pa_cons pe_int (pa_cons pe_int (pa_cons pe_int (pa_cons pe_int (pa_cons pe_int pa_nil)))))))))))))))))) (pv 0) (fun _ _ => rfl)))), ?_⟩
  refine ⟨by show 17 ≤ sizeLine; decide, fun p hp => ?_⟩
  exact ⟨_, rfl, p, _, n, _, rfl, rfl, SqT.of upd_same, atI_nat (spanTab_at' hn), k _ (Same.new (Same.refl _) hp)⟩

theorem ok_span_of {f : Addr} {fd : FuncData} {C_Prefix A_SPANS E_InvalidPrefix : Addr} (F : Fun K "span_of" "span_of" s_span_of f fd) (T : Txt K mg C_Prefix A_SPANS E_InvalidPrefix)  : FnOk P w K mg base CX0 1 f fd ["length"] (spSpan) := by
  refine F.ok sc_span_of (fun vs H Q E h => S1.len h) (fun cdv A outer s H vs Q E hr h => ?_)
  obtain ⟨_, rfl, n, rfl, hn, k⟩ := h
  refine ⟨_, (pss_one (ps_ret (pe_ix ix_tup (pe_gc rfl T.g_SPANS) (pv 0) (fun _ _ => rfl)))), ?_⟩
  exact ⟨_, rfl, _, _, n, _, rfl, rfl, T.v_SPANS _, atI_nat (spanTab_at' hn), k _ (Same.refl _)⟩

theorem ok_law_cell {f : Addr} {fd : FuncData} {C_Prefix A_SPANS E_InvalidPrefix : Addr} (F : Fun K "_law_cell" "_law_cell" s_law_cell f fd) (T : Txt K mg C_Prefix A_SPANS E_InvalidPrefix)  : FnOk P w K mg base CX0 1 f fd ["script", "k"] (spCell K) := by
  refine F.ok sc_law_cell (fun vs H Q E h => S2.len h) (fun cdv A outer s H vs Q E hr h => ?_)
  obtain ⟨_, _, rfl, p, ns, k, rfl, rfl, hS, hk0, kk⟩ := h
  refine ⟨_, (pss_cons (ps_if (pt_cmpR op_lt (pv 1) (pe_callB call_len_seq (by rfl) T.b_len PySem.boot_len (pa_cons (pv 0) pa_nil)) (nomark _))
      (pss_one (ps_ret (pe_ix ix_list (pv 0) (pv 1) (fun _ _ => rfl))))
      pss_nil)
      (pss_one (ps_ret pe_int))), ?_⟩
  refine ⟨_, rfl, _, rfl, p, _, rfl, .inl hS, _, _, rfl, rfl, _, rfl, ?_⟩
  refine ite2 (fun hc => ?_) (fun hc => ?_)
  · have hk : k.toNat < (ns.map V.int).length := by have := of_decide_eq_true hc; omega
    obtain ⟨v, hv⟩ : ∃ v, (ns.map V.int)[k.toNat]? = some v := ⟨_, List.getElem?_eq_getElem hk⟩
    obtain ⟨z, hz, rfl⟩ := int_item hv
    exact ⟨_, rfl, _, rfl, p, _, k, _, rfl, rfl, hS, at_of (j := k.toNat) (by omega) hv, kk z⟩
  · exact kk 0
theorem ok_law_start {f : Addr} {fd : FuncData} {C_Prefix A_SPANS E_InvalidPrefix : Addr} (F : Fun K "_law_start" "_law_start" s_law_start f fd) (T : Txt K mg C_Prefix A_SPANS E_InvalidPrefix)  : FnOk P w K mg base CX0 1 f fd ["cell", "k"] (spStart) := by
  refine F.ok sc_law_start (fun vs H Q E h => S2.len h) (fun cdv A outer s H vs Q E hr h => ?_)
  obtain ⟨_, _, rfl, c, k, rfl, rfl, hk0, hk, kk⟩ := h
  refine ⟨_, (pss_cons (ps_set (i := 2) sc_law_start.nd rfl (by first | exact Or.inl rfl | exact Or.inr rfl) pe_int)
      (pss_cons (ps_if (pt_chain op_lt op_lt (pe_un un_neg pe_int) (pv 0) pe_int)
      (pss_cons (ps_set (i := 3) sc_law_start.nd rfl (by first | exact Or.inl rfl | exact Or.inr rfl) (pe_op op_mod (pe_callTy call_int1 (by rfl) T.b_int (by decide +kernel) (pa_cons (pe_op op_add (pe_op op_mulW (pv 0) pe_int) (pe_op op_mulW (pe_op op_add (pv 1) pe_int) pe_int)) pa_nil)) (pv 2)))
      (pss_cons (ps_set (i := 4) sc_law_start.nd rfl (by first | exact Or.inl rfl | exact Or.inr rfl) pe_int)
      (pss_cons (ps_for PassesOwn.never rfl (pi_range1 rfl T.b_range (pa_cons pe_int pa_nil)) (pg_name (i := 5) sc_law_start.nd rfl (by first | exact Or.inl rfl | exact Or.inr rfl))
      (pss_cons (ps_set (i := 3) sc_law_start.nd rfl (by first | exact Or.inl rfl | exact Or.inr rfl) (pe_op op_mod (pe_callTy call_int1 (by rfl) T.b_int (by decide +kernel) (pa_cons (pe_op op_add (pe_op op_add (pe_op op_add (pe_op op_mulW (pv 3) (pv 3)) (pe_op op_mulW pe_int (pv 3))) (pv 1)) (pv 5)) pa_nil)) (pv 2)))
      (pss_one (ps_set (i := 4) sc_law_start.nd rfl (by first | exact Or.inl rfl | exact Or.inr rfl) (pe_op op_add (pe_op op_mulW (pv 4) (pv 2)) (pv 3))))))
      (pss_one (ps_ret (pe_lst (pa_cons (pv 4) pa_nil)))))))
      pss_nil)
      (pss_one (ps_ret (pe_lst (pa_cons (pv 0) pa_nil)))))), ?_⟩
  have fin : ∀ (z : Int) (H1 : Hp), Same H H1 → tRet (tLst (tCons (tC (.int z)) tNil)) { nx := fun x H' => Q V.non H', rt := Q } [] H1 := fun z H1 h1 =>
    ⟨sz 1 (by decide), fun p hp => kk p z _ (h1.free hp) (Same.new h1 (h1.free hp)) upd_same⟩
  walk_at "g"
  refine ite2 (fun hc => ?_) (fun hc => ?_)
  · walk_at "g"
    refine ite2 (fun hd => ?_) (fun hd => ?_)
    · have h1 := of_decide_eq_true hc
      have h2 := of_decide_eq_true hd
      walk_at "g"
      refine ⟨wide_mul (a := 64) (b := 40) (by omega) (by decide) (by decide) (by decide) (by decide), ?_⟩
      walk_at "g"
      refine ⟨wide_mul (a := 64) (b := 40) (by omega) (by decide) (by decide) (by decide) (by decide), ?_⟩
      walk_at "g"
      refine for_range (lo := 0) (n := 4) (fun i σ H' => H' = H ∧ ∃ (m n : Int) (v : Option V), σ = [some (.int c), some (.int k), some (.int 618970019642690137449562111), some (.int m), some (.int n), v] ∧ 0 ≤ m ∧ m < 618970019642690137449562111 ∧ n.natAbs < 2 ^ (100 * i + 1))
        ⟨rfl, _, 0, none, rfl, Int.emod_nonneg _ (by decide), Int.emod_lt_of_pos _ (by decide), by decide⟩ ?_ ?_
      · rintro i σ H' hi ⟨rfl, m, n, v, rfl, hm, hm2, hn⟩
        walk_at "g"
        refine ⟨wide_mul (a := 90) (b := 90) (by omega) (by omega) (by decide) (by decide) (by decide), ?_⟩
        walk_at "g"
        refine ⟨wide_mul (a := 90) (b := 90) (by decide) (by omega) (by decide) (by decide) (by decide), ?_⟩
        walk_at "g"
        refine ⟨wide_mul (a := 401) (b := 90) (start_bits hn hi) (by decide) (by decide) (by decide) (by decide), ?_⟩
        walk_at "g"
        exact ⟨_, _, _, rfl, Int.emod_nonneg _ (by decide), Int.emod_lt_of_pos _ (by decide), start_step hn (Int.emod_nonneg _ (by decide)) (Int.emod_lt_of_pos _ (by decide))⟩
      · rintro σ H' ⟨rfl, m, n, v, rfl, hm, hm2, hn⟩
        walk_at "g"
        exact fin n _ (Same.refl _)
    · walk_at "g"
      exact fin c _ (Same.refl _)
  · walk_at "g"
    exact fin c _ (Same.refl _)
theorem ok_law_digit {f : Addr} {fd : FuncData} {C_Prefix A_SPANS E_InvalidPrefix : Addr} (F : Fun K "_law_digit" "_law_digit" s_law_digit f fd) (T : Txt K mg C_Prefix A_SPANS E_InvalidPrefix)  : FnOk P w K mg base CX0 1 f fd ["state", "many"] (spDigit) := by
  refine F.ok sc_law_digit (fun vs H Q E h => S2.len h) (fun cdv A outer s H vs Q E hr h => ?_)
  obtain ⟨_, _, rfl, p, n, m, H0, rfl, rfl, hp, h0, h1, k0, kk⟩ := h
  refine ⟨_, (pss_cons (ps_set (i := 2) sc_law_digit.nd rfl (by first | exact Or.inl rfl | exact Or.inr rfl) (pe_op op_mod (pe_callTy call_int1 (by rfl) T.b_int (by decide +kernel) (pa_cons (pe_ix ix_list (pv 0) pe_int (fun _ _ => rfl)) pa_nil)) (pv 1)))
      (pss_cons (ps_asg (pe_op op_fdivN (pe_ix ix_list (pv 0) pe_int (fun _ _ => rfl)) (pv 1)) (pg_sub (pv 0) pe_int set_list))
      (pss_one (ps_ret (pv 2))))), ?_⟩
  walk_at "g"
  refine ⟨p, _, _, _, rfl, rfl, SqL.of hp, at_of (j := 0) rfl rfl, ?_⟩
  walk_at "g"
  refine ⟨(h0 : 0 < m), ?_⟩
  walk_at "g"
  refine ⟨p, _, _, _, rfl, rfl, SqL.of hp, at_of (j := 0) rfl rfl, ?_⟩
  walk_at "g"
  refine ⟨⟨by omega, by omega⟩, ?_⟩
  walk_at "g"
  refine ⟨p, [.int n], 0, 0, rfl, rfl, hp, rfl, ?_⟩
  walk_at "g"
  exact kk _ _ _ (KeepP.upd k0) upd_same (Int.emod_nonneg _ (by omega)) (Int.emod_lt_of_pos _ h0)

def spNum (g : List Nat → Option Int) : Sp := S1 fun a H Q _ => ∃ z : Str, a = .str z ∧ z.length ≤ 100 ∧ ∀ H', Same H H' → Q (optI (g (TL.tl z))) H'
theorem ok_law_number {f : Addr} {fd : FuncData} {C_Prefix A_SPANS E_InvalidPrefix : Addr} (F : Fun K "_law_number" "_law_number" s_law_number f fd) (T : Txt K mg C_Prefix A_SPANS E_InvalidPrefix)  : FnOk P w K mg base CX0 1 f fd ["text"] (spNum lawNum) := by
  refine F.ok sc_law_number (fun vs H Q E h => S1.len h) (fun cdv A outer s H vs Q E hr h => ?_)
  obtain ⟨_, rfl, z, rfl, hl, kk⟩ := h
  refine ⟨_, (pss_cons (ps_if (PW.pt (pw_or (pt_cmpR op_eq (pv 0) pe_str (nomark _)) (pw_or1 (PW.pt (pw_and (pt_cmpR op_gt (pe_callB call_len_str (by rfl) T.b_len PySem.boot_len (pa_cons (pv 0) pa_nil)) pe_int (nomark _)) (pw_and1 (pt_cmpR op_eq (pe_ix ix_str (pv 0) pe_int (fun _ _ => rfl)) pe_str (nomark _))))))))
      (pss_one (ps_ret pe_non))
      pss_nil)
      (pss_cons (ps_set (i := 1) sc_law_number.nd rfl (by first | exact Or.inl rfl | exact Or.inr rfl) pe_int)
      (pss_cons (ps_for PassesOwn.never rfl (pi_str (pv 0)) (pg_name (i := 2) sc_law_number.nd rfl (by first | exact Or.inl rfl | exact Or.inr rfl))
      (pss_cons (ps_if (pt_cmpR op_notIn_sign (pv 2) pe_str rfl)
      (pss_one (ps_ret pe_non))
      pss_nil)
      (pss_one (ps_set (i := 1) sc_law_number.nd rfl (by first | exact Or.inl rfl | exact Or.inr rfl) (pe_op op_add (pe_op op_mulW (pv 1) pe_int) (pe_bm PySem.F.plainAttrs_str PySem.F.slot_str_index PySem.F.type_str_index mt_sindex pe_str (pa_cons (pv 2) pa_nil)))))))
      (pss_one (ps_ret (pv 1)))))), ?_⟩
  have hl2 : (TL.tl z).length = z.length := (TL.len_tl z).symm
  refine if_tstP (p := TL.tl z = [] ∨ (1 < (TL.tl z).length ∧ (TL.tl z)[0]? = some 48)) (fun Q q => ?_) (fun hc H1 s1 => ?_) (fun hc H1 s1 => ?_)
  · walk_at "g"
    by_cases h1 : TL.tl z = []
    · refine ite_t (by rw [str_dec, decide_eq_true]; exact h1) ?_
      rw [decide_eq_true (.inl h1)] at q
      exact q _ (Same.refl _)
    refine ite_f (by rw [str_dec, decide_eq_false]; exact h1) ?_
    refine ⟨_, rfl, _, rfl, sz _ (by omega), ?_⟩
    walk_at "g"
    by_cases h2 : 1 < z.length
    · refine ite_t (by rw [decide_eq_true]; omega) ?_
      obtain ⟨c, r, hz⟩ := List.exists_cons_of_ne_nil h1
      walk_at "g"
      refine ⟨z, 0, c, rfl, rfl, sz _ (by omega), at_ofG (j := 0) rfl (by show (TL.tl z)[0]? = _; rw [hz]; rfl), ?_⟩
      walk_at "g"
      rw [str_dec]
      have e0 : TL.tl ("0" : Str) = [48] := by decide +kernel
      have e1 : (decide (TL.tl (⟨#[c]⟩ : Str) = TL.tl ("0" : Str))) = decide (TL.tl z = [] ∨ 1 < (TL.tl z).length ∧ (TL.tl z)[0]? = some 48) := by
        rw [e0, hz]
        show decide ([c] = [48]) = _
        rw [hz] at hl2
        by_cases hc : c = 48
        · rw [decide_eq_true (by rw [hc]), decide_eq_true]
          exact .inr ⟨by omega, by rw [hc]; rfl⟩
        · rw [decide_eq_false (by simpa using hc), decide_eq_false]
          rintro (h | ⟨_, h⟩)
          · cases h
          · exact hc (Option.some.inj h)
      rw [e1]
      exact q _ (Same.refl _)
    · refine ite_f (by rw [decide_eq_false]; omega) ?_
      rw [decide_eq_false (by rintro (h | ⟨h, _⟩); exact h1 h; omega)] at q
      exact q _ (Same.refl _)
  · have e : lawNum (TL.tl z) = none := if_pos hc
    rw [e] at kk
    exact kk _ s1
  have hc' := hc
  walk_at "g"
  refine for_it walk_str (fun i σ H' => Same H H' ∧ ∃ v : Option V, σ = [some (.str z), some (.int (NumText.digitsVal ((TL.tl z).take i) : Nat)), v] ∧ ((TL.tl z).take i).all isD = true) ⟨s1, none, rfl, rfl⟩ (fun _ _ _ _ _ => trivial) ?_ ?_
  · rintro i x σ H2 H3 hi ⟨s2, v, rfl, hd⟩ ⟨rfl, c, hc, rfl⟩
    have hc : (TL.tl z)[i]? = some c := by rw [← hc]; simp [TL.tl]
    walk_at "g"
    cases hD : isD c with
    | false =>
      refine ite_t (by rw [in_digs, hD]; rfl) ?_
      have e : lawNum (TL.tl z) = none := by
        unfold lawNum
        rw [if_neg hc', if_neg (by rw [all_false hc hD]; decide)]
      rw [e] at kk
      exact kk _ s2
    | true =>
      refine ite_f (by rw [in_digs, hD]; rfl) ?_
      walk_at "g"
      refine ⟨dv_mul hd (by omega), ?_⟩
      walk_at "g"
      obtain ⟨d, hd10, rfl⟩ : ∃ d, d < 10 ∧ c = 48 + d := by
        unfold isD at hD
        simp only [Bool.and_eq_true, decide_eq_true_eq] at hD
        exact ⟨c - 48, by omega, by omega⟩
      refine ⟨_, _, d, [], rfl, rfl, occ_digit d hd10, ?_⟩
      walk_at "g"
      obtain ⟨e1, e2⟩ := dv_take hc
      refine ⟨s2, some (.str ⟨#[48 + d]⟩), ?_, ?_⟩
      · rw [e1, show 48 + d - 48 = d by omega]
        rfl
      · rw [e2, hd, hD]; rfl
  · rintro σ H1 ⟨s2, v, rfl, hd⟩
    have e2 : (TL.tl z).take z.cps.size = TL.tl z := List.take_of_length_le (by simp [TL.tl])
    rw [e2] at hd ⊢
    have e : lawNum (TL.tl z) = some ((NumText.digitsVal (TL.tl z) : Nat) : Int) := by
      unfold lawNum
      rw [if_neg hc', if_pos hd]
    rw [e] at kk
    walk_at "g"
    exact kk _ s2

theorem ok_plain_number {f : Addr} {fd : FuncData} {C_Prefix A_SPANS E_InvalidPrefix : Addr} (F : Fun K "plain_number" "plain_number" s_plain_number f fd) (T : Txt K mg C_Prefix A_SPANS E_InvalidPrefix)  : FnOk P w K mg base CX0 1 f fd ["text"] (spNum progNum) := by
  refine F.ok sc_plain_number (fun vs H Q E h => S1.len h) (fun cdv A outer s H vs Q E hr h => ?_)
  obtain ⟨_, rfl, z, rfl, hl, kk⟩ := h
  refine ⟨_, (pss_cons (ps_if (PW.pt (pw_or (pt_cmpR op_eq (pv 0) pe_str (nomark _)) (pw_or (pt_cmpR op_gt (pe_callB call_len_str (by rfl) T.b_len PySem.boot_len (pa_cons (pv 0) pa_nil)) (pe_gc rfl T.g_MOST_DIGITS) (nomark _)) (pw_or1 (PW.pt (pw_and (pt_cmpR op_gt (pe_callB call_len_str (by rfl) T.b_len PySem.boot_len (pa_cons (pv 0) pa_nil)) pe_int (nomark _)) (pw_and1 (pt_cmpR op_eq (pe_ix ix_str (pv 0) pe_int (fun _ _ => rfl)) pe_str (nomark _)))))))))
      (pss_one (ps_ret pe_non))
      pss_nil)
      (pss_cons (ps_for PassesOwn.never rfl (pi_str (pv 0)) (pg_name (i := 1) sc_plain_number.nd rfl (by first | exact Or.inl rfl | exact Or.inr rfl))
      (pss_one (ps_if (pt_cmpR op_notIn_sign (pv 1) (pe_gc rfl T.g_DIGITS) rfl)
      (pss_one (ps_ret pe_non))
      pss_nil)))
      (pss_one (ps_ret (pe_callTy call_int_str (by rfl) T.b_int (by decide +kernel) (pa_cons (pv 0) pa_nil)))))), ?_⟩
  have hl2 : (TL.tl z).length = z.length := (TL.len_tl z).symm
  refine if_tstP (p := TL.tl z = [] ∨ 5 < (TL.tl z).length ∨ (1 < (TL.tl z).length ∧ (TL.tl z)[0]? = some 48)) (fun Q q => ?_) (fun hc H1 s1 => ?_) (fun hc H1 s1 => ?_)
  · walk_at "g"
    by_cases h1 : TL.tl z = []
    · refine ite_t (by rw [str_dec, decide_eq_true]; exact h1) ?_
      rw [decide_eq_true (.inl h1)] at q
      exact q _ (Same.refl _)
    refine ite_f (by rw [str_dec, decide_eq_false]; exact h1) ?_
    refine ⟨_, rfl, _, rfl, sz _ (by omega), ?_⟩
    walk_at "g"
    by_cases h5 : 5 < z.length
    · refine ite_t (by rw [decide_eq_true]; omega) ?_
      rw [decide_eq_true (.inr (.inl (by omega)))] at q
      exact q _ (Same.refl _)
    refine ite_f (by rw [decide_eq_false]; omega) ?_
    refine ⟨_, rfl, _, rfl, sz _ (by omega), ?_⟩
    walk_at "g"
    by_cases h2 : 1 < z.length
    · refine ite_t (by rw [decide_eq_true]; omega) ?_
      obtain ⟨c, r, hz⟩ := List.exists_cons_of_ne_nil h1
      walk_at "g"
      refine ⟨z, 0, c, rfl, rfl, sz _ (by omega), at_ofG (j := 0) rfl (by show (TL.tl z)[0]? = _; rw [hz]; rfl), ?_⟩
      walk_at "g"
      rw [str_dec]
      have e0 : TL.tl ("0" : Str) = [48] := by decide +kernel
      have e1 : (decide (TL.tl (⟨#[c]⟩ : Str) = TL.tl ("0" : Str))) = decide (TL.tl z = [] ∨ 5 < (TL.tl z).length ∨ 1 < (TL.tl z).length ∧ (TL.tl z)[0]? = some 48) := by
        rw [e0, hz]
        show decide ([c] = [48]) = _
        rw [hz] at hl2
        by_cases hc : c = 48
        · rw [decide_eq_true (by rw [hc]), decide_eq_true]
          exact .inr (.inr ⟨by omega, by rw [hc]; rfl⟩)
        · rw [decide_eq_false (by simpa using hc), decide_eq_false]
          rintro (h | h | ⟨_, h⟩)
          · cases h
          · omega
          · exact hc (Option.some.inj h)
      rw [e1]
      exact q _ (Same.refl _)
    · refine ite_f (by rw [decide_eq_false]; omega) ?_
      rw [decide_eq_false (by rintro (h | h | ⟨h, _⟩); exact h1 h; omega; omega)] at q
      exact q _ (Same.refl _)
  · have e : progNum (TL.tl z) = none := by
      unfold progNum lawNum
      by_cases h5 : 5 < (TL.tl z).length
      · exact if_pos h5
      · rw [if_neg h5, if_pos]
        rcases hc with h | h | h
        · exact .inl h
        · exact absurd h h5
        · exact .inr h
    rw [e] at kk
    exact kk _ s1
  have hc' : ¬ (TL.tl z = [] ∨ (1 < (TL.tl z).length ∧ (TL.tl z)[0]? = some 48)) := fun h => hc (h.elim .inl fun h => .inr (.inr h))
  have h5 : ¬ 5 < (TL.tl z).length := fun h => hc (.inr (.inl h))
  walk_at "g"
  refine for_it walk_str (fun i σ H' => Same H H' ∧ ∃ v : Option V, σ = [some (.str z), v] ∧ ((TL.tl z).take i).all isD = true) ⟨s1, none, rfl, rfl⟩ (fun _ _ _ _ _ => trivial) ?_ ?_
  · rintro i x σ H2 H3 hi ⟨s2, v, rfl, hd⟩ ⟨rfl, c, hc, rfl⟩
    have hc : (TL.tl z)[i]? = some c := by rw [← hc]; simp [TL.tl]
    walk_at "g"
    cases hD : isD c with
    | false =>
      refine ite_t (by rw [in_digs, hD]; rfl) ?_
      have e : progNum (TL.tl z) = none := by
        unfold progNum lawNum
        rw [if_neg h5, if_neg hc', if_neg (by rw [all_false hc hD]; decide)]
      rw [e] at kk
      exact kk _ s2
    | true =>
      refine ite_f (by rw [in_digs, hD]; rfl) ?_
      obtain ⟨e1, e2⟩ := dv_take hc
      exact ⟨s2, some (.str ⟨#[c]⟩), rfl, by rw [e2, hd, hD]; rfl⟩
  · rintro σ H1 ⟨s2, v, rfl, hd⟩
    have e2 : (TL.tl z).take z.cps.size = TL.tl z := List.take_of_length_le (by simp [TL.tl])
    rw [e2] at hd
    have e : progNum (TL.tl z) = some ((NumText.digitsVal (TL.tl z) : Nat) : Int) := by
      unfold progNum lawNum
      rw [if_neg h5, if_neg hc', if_pos hd]
    rw [e] at kk
    refine ⟨_, rfl, z, _, rfl, intText_tl hd (fun h => hc' (.inl h)) (by omega), by omega, kk _ s2⟩

theorem words_len {z : Str} : ∃ ys : List Str, Txt.split z ("/" : Str) = ys ∧ ys.map TL.tl = TL.spl [47] 0 [] (TL.tl z) := by
  have e0 : TL.tl ("/" : Str) = [47] := by decide +kernel
  refine ⟨_, rfl, ?_⟩
  rw [TL.split_spl z ("/" : Str) (by rw [e0]; decide) (TL.kind_ok (by decide +kernel)), e0]
theorem slash_len : (("/" : Str).length == 0) = false := by decide +kernel
def spExp (K : PySem.W.Frag) : Sp := S1 fun a H Q _ => ∃ z : Str, a = .str z ∧ z.length ≤ 100 ∧ (∀ H', expOf lawNum (TL.tl z) = none → Same H H' → Q .non H') ∧
  (∀ x y p H', expOf lawNum (TL.tl z) = some (x, y) → Same H H' → H p = none → H' p = some (.tup [.int x, .int y]) → Q (.ref p) H')
theorem ok_law_expected {f : Addr} {fd : FuncData} {C_Prefix A_SPANS E_InvalidPrefix : Addr} (F : Fun K "_law_expected" "_law_expected" s_law_expected f fd) (T : Txt K mg C_Prefix A_SPANS E_InvalidPrefix) (c_law_number : Cl P w K mg base CX0 1 "_law_number" (spNum lawNum)) (c_law_span : Cl P w K mg base CX0 1 "_law_span" (spSpan)) : FnOk P w K mg base CX0 2 f fd ["text"] (spExp K) := by
  refine F.ok sc_law_expected (fun vs H Q E h => S1.len h) (fun cdv A outer s H vs Q E hr h => ?_)
  obtain ⟨_, rfl, z, rfl, hl, kN, kS⟩ := h
  refine ⟨_, (pss_cons (ps_set (i := 1) sc_law_expected.nd rfl (by first | exact Or.inl rfl | exact Or.inr rfl) (pe_split (pv 0) pe_str))
      (pss_cons (ps_if (pt_cmpR op_ne (pe_callB call_len_seq (by rfl) T.b_len PySem.boot_len (pa_cons (pv 1) pa_nil)) pe_int (nomark _))
      (pss_one (ps_ret pe_non))
      pss_nil)
      (pss_cons (ps_set (i := 2) sc_law_expected.nd rfl (by first | exact Or.inl rfl | exact Or.inr rfl) (pe_cl c_law_number hr (by decide) pass0 (pa_cons (pe_ix ix_list (pv 1) pe_int (fun _ _ => rfl)) pa_nil)))
      (pss_cons (ps_set (i := 3) sc_law_expected.nd rfl (by first | exact Or.inl rfl | exact Or.inr rfl) (pe_cl c_law_number hr (by decide) pass0 (pa_cons (pe_ix ix_list (pv 1) pe_int (fun _ _ => rfl)) pa_nil)))
      (pss_cons (ps_if (PW.pt (pw_or (pt_cmpR op_isN (pv 2) pe_non (nomark _)) (pw_or (pt_cmpR op_isN (pv 3) pe_non (nomark _)) (pw_or (pt_cmpR op_gt (pv 3) pe_int (nomark _)) (pw_or (pt_cmpR op_gt (pv 2) pe_int (nomark _)) (pw_or1 (pt_cmpR op_ne (pe_op op_mod (pv 2) (pe_cl c_law_span hr (by decide) pass0 (pa_cons (pv 3) pa_nil))) pe_int (nomark _))))))))
      (pss_one (ps_ret pe_non))
      pss_nil)
      (pss_one (ps_ret (pe_tup (pa_cons (pv 2) (pa_cons (pv 3) pa_nil)))))))))), ?_⟩
  obtain ⟨ys, e1, e2⟩ := words_len (z := z)
  walk_at "g"
  refine ⟨⟨_, rfl⟩, z, _, rfl, rfl, slash_len, by rw [sizeLine_eq]; omega, fun p hp => ?_⟩
  rw [e1]
  walk_at "g"
  have s0 : Same H (upd H p (.lst (ys.map V.str))) := Same.new (Same.refl _) hp
  refine ⟨p, _, rfl, .inl (SqL.of upd_same), ?_⟩
  walk_at "g"
  by_cases h2 : ys.length = 2
  · refine ite_f (by rw [List.length_map, h2]; rfl) ?_
    obtain ⟨a, b, rfl⟩ : ∃ a b, ys = [a, b] := by
      match ys, h2 with
      | [a, b], _ => exact ⟨a, b, rfl⟩
    have e3 : TL.spl [47] 0 [] (TL.tl z) = [TL.tl a, TL.tl b] := e2.symm
    have e4 := spl_two e3
    have hz : z.length = a.length + (1 + b.length) := by
      rw [TL.len_tl, e4, TL.len_tl, TL.len_tl]; simp; omega
    rw [expOf_two e3] at kN kS
    walk_at "g"
    refine ⟨p, _, 0, _, rfl, rfl, SqL.of upd_same, at_of (j := 0) rfl rfl, ?_⟩
    refine ⟨_, rfl, a, rfl, by omega, fun H1 s1 => ?_⟩
    walk_at "g"
    refine ⟨p, _, 1, _, rfl, rfl, SqL.of (s1 _ _ upd_same), at_of (j := 1) rfl rfl, ?_⟩
    refine ⟨_, rfl, b, rfl, by omega, fun H2 s2 => ?_⟩
    have s3 : Same H H2 := (s0.trans s1).trans s2
    walk_at "n"
    refine if_tstP (p := pairOf (lawNum (TL.tl a)) (lawNum (TL.tl b)) = none) (fun Q q => ?_) (fun hc H3 s4 => ?_) (fun hc H3 s4 => ?_)
    · walk_at "g"
      cases ha : lawNum (TL.tl a) with
      | none =>
        refine ite_t rfl ?_
        rw [ha] at q
        exact q _ (Same.refl _)
      | some x =>
        refine ite_f rfl ?_
        walk_at "g"
        cases hb : lawNum (TL.tl b) with
        | none =>
          refine ite_t rfl ?_
          rw [ha, hb] at q
          exact q _ (Same.refl _)
        | some y =>
          refine ite_f rfl ?_
          have hx := lawNum_nn ha
          have hy := lawNum_nn hb
          rw [ha, hb] at q
          walk_at "g"
          by_cases h16 : 16 < y
          · refine ite_t (decide_eq_true h16) ?_
            rw [pairOf_no (fun h => by have := h.1; omega)] at q
            exact q _ (Same.refl _)
          refine ite_f (decide_eq_false h16) ?_
          walk_at "g"
          by_cases h6 : 65535 < x
          · refine ite_t (decide_eq_true h6) ?_
            rw [pairOf_no (fun h => by have := h.2.1; omega)] at q
            exact q _ (Same.refl _)
          refine ite_f (decide_eq_false h6) ?_
          walk_at "g"
          refine ⟨y.toNat, by rw [Int.toNat_of_nonneg hy]; rfl, by omega, fun H3 s4 => ?_⟩
          walk_at "g"
          refine ⟨span_pos _, ?_⟩
          walk_at "g"
          by_cases hm : x % spanN y.toNat = 0
          · rw [pairOf_ok ⟨by omega, by omega, hm⟩] at q
            have : (!decide (V.int (x % spanN y.toNat) = V.int 0)) = false := by simp [hm]
            show Q (!decide (V.int (x % spanN y.toNat) = V.int 0)) _
            rw [this]
            exact q _ s4
          · rw [pairOf_no (fun h => hm h.2.2)] at q
            have : (!decide (V.int (x % spanN y.toNat) = V.int 0)) = true := by simp [hm]
            show Q (!decide (V.int (x % spanN y.toNat) = V.int 0)) _
            rw [this]
            exact q _ s4
    · exact kN _ hc (s3.trans s4)
    · cases ha : lawNum (TL.tl a) with
      | none => rw [ha] at hc; exact absurd rfl hc
      | some x =>
        cases hb : lawNum (TL.tl b) with
        | none => rw [ha, hb] at hc; exact absurd rfl hc
        | some y =>
          rw [ha, hb] at kS hc
          have e5 : pairOf (some x) (some y) = some (x, y) := by
            by_cases hok : okP x y
            · exact pairOf_ok hok
            · exact absurd (pairOf_no hok) hc
          walk_at "g"
          refine ⟨by show 2 ≤ sizeLine; decide, fun p2 hp2 => ?_⟩
          have s5 := s3.trans s4
          exact kS x y p2 _ e5 (Same.new s5 (s5.free hp2)) (s5.free hp2) upd_same
  · refine ite_t (by rw [List.length_map]; simp; omega) ?_
    exact kN _ (expOf_ne (by rw [← e2, List.length_map]; exact h2)) s0

def spInit (C EI : Addr) : Sp := S3 fun a b c H Q E => ∃ (p dx : Addr) (x y : Int), a = .ref p ∧ b = .int x ∧ c = .int y ∧ H p = some (.ins C dx []) ∧ 0 ≤ x ∧ 0 ≤ y ∧
  (∀ H', ¬ okP x y → Same H H' → E (.ref EI) none H') ∧ (∀ H', okP x y → KeepP p H H' → H' p = some (.ins C dx (fs_Prefix (.int x) (.int y))) → Q .non H')
theorem ok_Prefix___init__ {f : Addr} {fd : FuncData} {C_Prefix A_SPANS E_InvalidPrefix : Addr} (F : Fun K "__init__" "Prefix.__init__" s_Prefix___init__ f fd) (T : Txt K mg C_Prefix A_SPANS E_InvalidPrefix) (c_span_of : Cl P w K mg base CX0 1 "span_of" (spSpan)) : FnOk P w K mg base (L2.CX P w) 2 f fd ["self", "base", "length"] (spInit C_Prefix E_InvalidPrefix) := by
  refine F.okX sc_Prefix___init__ (fun vs H Q E h => S3.len h) (fun cdv A outer s H vs Q E hr h => ?_)
  obtain ⟨_, _, _, rfl, p, dx, x, y, rfl, rfl, rfl, hp, hx, hy, kE, kQ⟩ := h
  refine ⟨_, (pss_cons (ps_if (pt_not (pt_chain op_le op_le pe_int (pv 2) (pe_gc rfl T.g_BITS)))
      (pss_one (ps_raise rfl (takes_of rfl rfl rfl rfl) (pmk_own PySem.F.excBase_ValueError T.x_InvalidPrefix T.e_InvalidPrefix T.k_InvalidPrefix (raises_own T.s_InvalidPrefix T.t_InvalidPrefix) (by exact rfl))))
      pss_nil)
      (pss_cons (ps_if (pt_not (pt_chain op_le op_lt pe_int (pv 1) (pe_gc rfl T.g_ADDRESSES)))
      (pss_one (ps_raise rfl (takes_of rfl rfl rfl rfl) (pmk_own PySem.F.excBase_ValueError T.x_InvalidPrefix T.e_InvalidPrefix T.k_InvalidPrefix (raises_own T.s_InvalidPrefix T.t_InvalidPrefix) (by exact rfl))))
      pss_nil)
      (pss_cons (ps_if (pt_cmpR op_ne (pe_op op_mod (pv 1) (pe_cl c_span_of hr (by decide) pass0 (pa_cons (pv 2) pa_nil))) pe_int (nomark _))
      (pss_one (ps_raise rfl (takes_of rfl rfl rfl rfl) (pmk_own PySem.F.excBase_ValueError T.x_InvalidPrefix T.e_InvalidPrefix T.k_InvalidPrefix (raises_own T.s_InvalidPrefix T.t_InvalidPrefix) (by exact rfl))))
      pss_nil)
      (pss_cons (ps_fld (pv 0) (pv 1) rfl)
      (pss_one (ps_fld (pv 0) (pv 2) rfl)))))), ?_⟩
  refine if_tstP (p := ¬ y ≤ 16) (fun Q q => ?_) (fun hc H1 s1 => ?_) (fun hc H1 s1 => ?_)
  · walk_at "g"
    refine ite_t (decide_eq_true hy) ?_
    walk_at "g"
    by_cases h : y ≤ 16
    · rw [decide_eq_false (fun z => z h)] at q
      rw [decide_eq_true h]
      exact q _ (Same.refl _)
    · rw [decide_eq_true h] at q
      rw [decide_eq_false h]
      exact q _ (Same.refl _)
  · exact kE _ (fun h => hc h.1) s1
  have hy16 : y ≤ 16 := by omega
  walk_at "n"
  refine if_tstP (p := ¬ x < 65536) (fun Q q => ?_) (fun hc H2 s2 => ?_) (fun hc H2 s2 => ?_)
  · walk_at "g"
    refine ite_t (decide_eq_true hx) ?_
    walk_at "g"
    by_cases h : x < 65536
    · rw [decide_eq_false (fun z => z h)] at q
      rw [decide_eq_true h]
      exact q _ (Same.refl _)
    · rw [decide_eq_true h] at q
      rw [decide_eq_false h]
      exact q _ (Same.refl _)
  · exact kE _ (fun h => hc (by have := h.2.1; omega)) (s1.trans s2)
  walk_at "n"
  refine if_tstP (p := ¬ x % spanN y.toNat = 0) (fun Q q => ?_) (fun hc H2 s3 => ?_) (fun hc H3 s3 => ?_)
  · walk_at "g"
    refine ⟨y.toNat, by rw [Int.toNat_of_nonneg hy], by omega, fun H3 s3 => ?_⟩
    walk_at "g"
    refine ⟨span_pos _, ?_⟩
    walk_at "g"
    have e : (!decide (V.int (x % spanN y.toNat) = V.int 0)) = decide (¬ x % spanN y.toNat = 0) := by simp
    show Q (!decide (V.int (x % spanN y.toNat) = V.int 0)) _
    rw [e]
    exact q _ s3
  · exact kE _ (fun h => hc h.2.2) ((s1.trans s2).trans s3)
  have hok : okP x y := ⟨by omega, by omega, by omega⟩
  have s4 := (s1.trans s2).trans s3
  refine ⟨_, rfl, _, rfl, p, C_Prefix, dx, [], rfl, s4 _ _ hp, T.cl_Prefix, T.na_Prefix_base, by decide, ?_⟩
  refine ⟨_, rfl, _, rfl, p, C_Prefix, dx, _, rfl, upd_same, T.cl_Prefix, T.na_Prefix_length, (by show 1 < 1000; decide), ?_⟩
  refine kQ _ hok (KeepP.upd (KeepP.upd (Same.keepP s4))) ?_
  rw [upd_same, fs_Prefix_new_base, fs_Prefix_new_length]
  rfl
def spPair (C : Addr) : Sp := S1 fun a H Q _ => ∃ (p dx : Addr) (x y : Int), a = .ref p ∧ H p = some (.ins C dx (fs_Prefix (.int x) (.int y))) ∧ ∀ q, H q = none → Q (.ref q) (upd H q (.tup [.int x, .int y]))
theorem ok_Prefix_pair {f : Addr} {fd : FuncData} {C_Prefix A_SPANS E_InvalidPrefix : Addr} (F : Fun K "pair" "Prefix.pair" s_Prefix_pair f fd) (T : Txt K mg C_Prefix A_SPANS E_InvalidPrefix)  : FnOk P w K mg base CX0 1 f fd ["self"] (spPair C_Prefix) := by
  refine F.ok sc_Prefix_pair (fun vs H Q E h => S1.len h) (fun cdv A outer s H vs Q E hr h => ?_)
  obtain ⟨_, rfl, p, dx, x, y, rfl, hp, kk⟩ := h
  refine ⟨_, (pss_one (ps_ret (pe_tup (pa_cons (pe_fld (pv 0) rfl) (pa_cons (pe_fld (pv 0) rfl) pa_nil))))), ?_⟩
  refine ⟨_, rfl, p, C_Prefix, dx, _, _, rfl, hp, T.cl_Prefix, T.na_Prefix_base, fs_Prefix_base, ?_⟩
  refine ⟨_, rfl, p, C_Prefix, dx, _, _, rfl, hp, T.cl_Prefix, T.na_Prefix_length, fs_Prefix_length, ?_⟩
  exact ⟨by show 2 ≤ sizeLine; decide, kk⟩
def spFormat (C : Addr) : Sp := S1 fun a H Q _ => ∃ (p dx : Addr) (x y : Nat), a = .ref p ∧ H p = some (.ins C dx (fs_Prefix (.int x) (.int y))) ∧ x < 100000 ∧ y < 100000 ∧ ∀ z : Str, TL.tl z = TL.numL x ++ (47 :: TL.numL y) → Q (.str z) H
theorem ok_format_prefix {f : Addr} {fd : FuncData} {C_Prefix A_SPANS E_InvalidPrefix : Addr} (F : Fun K "format_prefix" "format_prefix" s_format_prefix f fd) (T : Txt K mg C_Prefix A_SPANS E_InvalidPrefix)  : FnOk P w K mg base CX0 1 f fd ["prefix"] (spFormat C_Prefix) := by
  refine F.ok sc_format_prefix (fun vs H Q E h => S1.len h) (fun cdv A outer s H vs Q E hr h => ?_)
  obtain ⟨_, rfl, p, dx, x, y, rfl, hp, hx, hy, kk⟩ := h
  refine ⟨_, (pss_one (ps_ret (pe_joined (.cons (pe_fmt (pe_fld (pv 0) rfl)) (.cons pe_str (.cons (pe_fmt (pe_fld (pv 0) rfl)) .nil)))))), ?_⟩
  refine ⟨_, rfl, p, C_Prefix, dx, _, _, rfl, hp, T.cl_Prefix, T.na_Prefix_base, fs_Prefix_base, ?_⟩
  have l1 := num_len (n := x) (k := 5) (by decide) (by omega)
  have l2 := num_len (n := y) (k := 5) (by decide) (by omega)
  have e0 : TL.tl ("/" : Str) = [47] := by decide +kernel
  have e1 : ("/" : Str).length = 1 := by decide +kernel
  have z0 : TL.tl Str.empty = [] := rfl
  have e2 : ∀ a b : Str, (a ++ b).length = a.length + b.length := fun a b => by rw [TL.len_tl, TL.tl_append, List.length_append, ← TL.len_tl, ← TL.len_tl]
  have z1 : Str.empty.length = 0 := rfl
  refine .inr ⟨_, rfl, num_bits (by omega), _, rfl, sz _ (by rw [e2, z1]; omega), ?_⟩
  refine ⟨_, rfl, sz _ (by rw [e2, e2, z1]; omega), ?_⟩
  refine ⟨_, rfl, p, C_Prefix, dx, _, _, rfl, hp, T.cl_Prefix, T.na_Prefix_length, fs_Prefix_length, ?_⟩
  refine .inr ⟨_, rfl, num_bits (by omega), _, rfl, sz _ (by rw [e2, e2, e2, z1]; omega), ?_⟩
  refine kk _ ?_
  rw [TL.tl_append, TL.tl_append, TL.tl_append, z0, e0, TL.tl_num, TL.tl_num]
  simp
def spParse (C EI : Addr) : Sp := S1 fun a H Q E => ∃ z : Str, a = .str z ∧ z.length ≤ 100 ∧ (∀ H', expOf progNum (TL.tl z) = none → Same H H' → E (.ref EI) none H') ∧
  (∀ x y p dx H', expOf progNum (TL.tl z) = some (x, y) → Same H H' → H p = none → H' p = some (.ins C dx (fs_Prefix (.int x) (.int y))) → Q (.ref p) H')
theorem ok_parse_prefix {f : Addr} {fd : FuncData} {C_Prefix A_SPANS E_InvalidPrefix : Addr} (F : Fun K "parse_prefix" "parse_prefix" s_parse_prefix f fd) (T : Txt K mg C_Prefix A_SPANS E_InvalidPrefix) (c_plain_number : Cl P w K mg base CX0 1 "plain_number" (spNum progNum)) (c_Prefix___init__ : Ma P w K mg base (L2.CX P w) 2 "Prefix" C_Prefix (spInit C_Prefix E_InvalidPrefix)) : FnOk P w K mg base (L2.CX P w) 4 f fd ["text"] (spParse C_Prefix E_InvalidPrefix) := by
  refine F.okX sc_parse_prefix (fun vs H Q E h => S1.len h) (fun cdv A outer s H vs Q E hr h => ?_)
  obtain ⟨_, rfl, z, rfl, hl, kN, kS⟩ := h
  refine ⟨_, (pss_cons (ps_set (i := 1) sc_parse_prefix.nd rfl (by first | exact Or.inl rfl | exact Or.inr rfl) (pe_split (pv 0) pe_str))
      (pss_cons (ps_if (pt_cmpR op_ne (pe_callB call_len_seq (by rfl) T.b_len PySem.boot_len (pa_cons (pv 1) pa_nil)) pe_int (nomark _))
      (pss_one (ps_raise rfl (takes_of rfl rfl rfl rfl) (pmk_own PySem.F.excBase_ValueError T.x_InvalidPrefix T.e_InvalidPrefix T.k_InvalidPrefix (raises_own T.s_InvalidPrefix T.t_InvalidPrefix) (by exact rfl))))
      pss_nil)
      (pss_cons (ps_set (i := 2) sc_parse_prefix.nd rfl (by first | exact Or.inl rfl | exact Or.inr rfl) (pe_cl c_plain_number hr (by decide) pass0 (pa_cons (pe_ix ix_list (pv 1) pe_int (fun _ _ => rfl)) pa_nil)))
      (pss_cons (ps_set (i := 3) sc_parse_prefix.nd rfl (by first | exact Or.inl rfl | exact Or.inr rfl) (pe_cl c_plain_number hr (by decide) pass0 (pa_cons (pe_ix ix_list (pv 1) pe_int (fun _ _ => rfl)) pa_nil)))
      (pss_cons (ps_if (PW.pt (pw_or (pt_cmpR op_isN (pv 2) pe_non (nomark _)) (pw_or1 (pt_cmpR op_isN (pv 3) pe_non (nomark _)))))
      (pss_one (ps_raise rfl (takes_of rfl rfl rfl rfl) (pmk_own PySem.F.excBase_ValueError T.x_InvalidPrefix T.e_InvalidPrefix T.k_InvalidPrefix (raises_own T.s_InvalidPrefix T.t_InvalidPrefix) (by exact rfl))))
      pss_nil)
      (pss_one (ps_ret (pe_ma c_Prefix___init__ hr (by decide) (passes_call (takes_of rfl rfl rfl rfl) (fun _ _ _ _ h => h)) (pa_cons (pv 2) (pa_cons (pv 3) pa_nil)))))))))), ?_⟩
  obtain ⟨ys, e1, e2⟩ := words_len (z := z)
  walk_at "g"
  refine ⟨⟨_, rfl⟩, z, _, rfl, rfl, slash_len, by rw [sizeLine_eq]; omega, fun p hp => ?_⟩
  rw [e1]
  walk_at "g"
  have s0 : Same H (upd H p (.lst (ys.map V.str))) := Same.new (Same.refl _) hp
  refine ⟨p, _, rfl, .inl (SqL.of upd_same), ?_⟩
  walk_at "g"
  by_cases h2 : ys.length = 2
  · refine ite_f (by rw [List.length_map, h2]; rfl) ?_
    obtain ⟨a, b, rfl⟩ : ∃ a b, ys = [a, b] := by
      match ys, h2 with
      | [a, b], _ => exact ⟨a, b, rfl⟩
    have e3 : TL.spl [47] 0 [] (TL.tl z) = [TL.tl a, TL.tl b] := e2.symm
    have e4 := spl_two e3
    have hz : z.length = a.length + (1 + b.length) := by
      rw [TL.len_tl, e4, TL.len_tl, TL.len_tl]; simp; omega
    rw [expOf_two e3] at kN kS
    walk_at "g"
    refine ⟨p, _, 0, _, rfl, rfl, SqL.of upd_same, at_of (j := 0) rfl rfl, ?_⟩
    refine ⟨_, rfl, a, rfl, by omega, fun H1 s1 => ?_⟩
    walk_at "g"
    refine ⟨p, _, 1, _, rfl, rfl, SqL.of (s1 _ _ upd_same), at_of (j := 1) rfl rfl, ?_⟩
    refine ⟨_, rfl, b, rfl, by omega, fun H2 s2 => ?_⟩
    have s3 : Same H H2 := (s0.trans s1).trans s2
    walk_at "n"
    refine if_tstP (p := progNum (TL.tl a) = none ∨ progNum (TL.tl b) = none) (fun Q q => ?_) (fun hc H3 s4 => ?_) (fun hc H3 s4 => ?_)
    · walk_at "g"
      cases ha : progNum (TL.tl a) with
      | none =>
        refine ite_t rfl ?_
        rw [decide_eq_true (.inl ha)] at q
        exact q _ (Same.refl _)
      | some x =>
        refine ite_f rfl ?_
        walk_at "g"
        cases hb : progNum (TL.tl b) with
        | none =>
          rw [decide_eq_true (.inr hb)] at q
          exact q _ (Same.refl _)
        | some y =>
          rw [decide_eq_false (by rw [ha, hb]; simp)] at q
          exact q _ (Same.refl _)
    · refine kN _ ?_ (s3.trans s4)
      rcases hc with h | h
      · rw [h]; rfl
      · rw [h]; cases progNum (TL.tl a) <;> rfl
    · have s5 := s3.trans s4
      cases ha : progNum (TL.tl a) with
      | none => exact absurd (.inl ha) hc
      | some x =>
        cases hb : progNum (TL.tl b) with
        | none => exact absurd (.inr hb) hc
        | some y =>
          rw [ha, hb] at kS kN
          walk_at "g"
          intro q dx hq hdx hne
          have s6 : Same H3 (upd (upd H3 dx (.own q)) q (.ins C_Prefix dx [])) := Same.new (Same.new (Same.refl _) hdx) hq
          refine ⟨_, _, _, rfl, q, dx, x, y, rfl, rfl, rfl, upd_same, lawNum_nn (progNum_some ha).1, lawNum_nn (progNum_some hb).1, fun H4 hn s7 => ?_, fun H4 hok s7 h4 => ?_⟩
          · exact kN _ (pairOf_no hn) ((s5.trans s6).trans s7)
          · refine ⟨rfl, kS x y q dx H4 (pairOf_ok hok) (fun b o hb => ?_) (s5.free hq) h4⟩
            exact s7 b o (s6 _ _ (s5 _ _ hb)) (ne_of_none (s5 _ _ hb) hq)
  · refine ite_t (by rw [List.length_map]; simp; omega) ?_
    exact kN _ (expOf_ne (by rw [← e2, List.length_map]; exact h2)) s0
def spTwist : Sp := S2 fun a b H Q _ => ∃ (s : Addr) (n : Int) (z : Str), a = .ref s ∧ b = .str z ∧ H s = some (.lst [.int n]) ∧ z.length ≤ 50 ∧
  ∀ (y : Str) (n' : Int) H', y.length ≤ 2 * z.length + 1 → KeepP s H H' → H' s = some (.lst [.int n']) → Q (.str y) H'
theorem ok_law_twisted {f : Addr} {fd : FuncData} {C_Prefix A_SPANS E_InvalidPrefix : Addr} (F : Fun K "_law_twisted" "_law_twisted" s_law_twisted f fd) (T : Txt K mg C_Prefix A_SPANS E_InvalidPrefix) (c_law_digit : Cl P w K mg base CX0 1 "_law_digit" (spDigit)) : FnOk P w K mg base CX0 2 f fd ["state", "text"] (spTwist) := by
  refine F.ok sc_law_twisted (fun vs H Q E h => S2.len h) (fun cdv A outer s H vs Q E hr h => ?_)
  obtain ⟨_, _, rfl, p, n, z, rfl, rfl, hp, hl, kk⟩ := h
  refine ⟨_, (pss_cons (ps_set (i := 2) sc_law_twisted.nd rfl (by first | exact Or.inl rfl | exact Or.inr rfl) (pe_cl c_law_digit hr (by decide) pass0 (pa_cons (pv 0) (pa_cons (pe_op op_add (pe_callB call_len_str (by rfl) T.b_len PySem.boot_len (pa_cons (pv 1) pa_nil)) pe_int) pa_nil))))
      (pss_cons (ps_set (i := 3) sc_law_twisted.nd rfl (by first | exact Or.inl rfl | exact Or.inr rfl) (pe_ix ix_str pe_str (pe_cl c_law_digit hr (by decide) pass0 (pa_cons (pv 0) (pa_cons pe_int pa_nil))) (fun _ _ => rfl)))
      (pss_cons (ps_set (i := 4) sc_law_twisted.nd rfl (by first | exact Or.inl rfl | exact Or.inr rfl) (pe_cl c_law_digit hr (by decide) pass0 (pa_cons (pv 0) (pa_cons pe_int pa_nil))))
      (pss_cons (ps_if (pt_cmpR op_eq (pv 4) pe_int (nomark _))
      (pss_one (ps_ret (pe_op op_add_str (pe_op op_add_str (pe_slice sl_str (pv 1) po_none (po_some (pv 2))) (pv 3)) (pe_slice sl_str (pv 1) (po_some (pv 2)) po_none))))
      pss_nil)
      (pss_cons (ps_if (pt_cmpR op_eq (pv 4) pe_int (nomark _))
      (pss_one (ps_ret (pe_op op_add_str (pe_slice sl_str (pv 1) po_none (po_some (pv 2))) (pe_slice sl_str (pv 1) (po_some (pe_op op_add (pv 2) pe_int)) po_none))))
      pss_nil)
      (pss_cons (ps_if (pt_cmpR op_eq (pv 4) pe_int (nomark _))
      (pss_one (ps_ret (pe_op op_add_str (pe_op op_add_str (pe_slice sl_str (pv 1) po_none (po_some (pv 2))) (pv 3)) (pe_slice sl_str (pv 1) (po_some (pe_op op_add (pv 2) pe_int)) po_none))))
      pss_nil)
      (pss_one (ps_ret (pv 1))))))))), ?_⟩
  have hsl : ("0 /-+a.\n9_" : Str).length = 10 := by decide +kernel
  have cl : ∀ (x y : Option Int), (cutS z x y).length ≤ z.length := cutS_length z
  have l1 : ∀ c : Nat, (⟨#[c]⟩ : Str).length = 1 := fun c => rfl
  walk_at "g"
  refine ⟨sz _ (by omega), ?_⟩
  walk_at "g"
  refine ⟨p, _, _, H, rfl, rfl, hp, by omega, by omega, KeepP.refl, fun d n1 H1 k1 h1 d0 d1 => ?_⟩
  walk_at "g"
  refine ⟨p, _, _, H, rfl, rfl, h1, by decide, by decide, k1, fun d2 n2 H2 k2 h2 d20 d21 => ?_⟩
  obtain ⟨c, hc⟩ := sign_at (z := ("0 /-+a.\n9_" : Str)) d20 (by rw [hsl]; exact d21)
  refine ⟨_, _, c, rfl, rfl, sz _ (by rw [hsl]; decide), hc, ?_⟩
  walk_at "g"
  refine ⟨p, _, _, H, rfl, rfl, h2, by decide, by decide, k2, fun d3 n3 H3 k3 h3 d30 d31 => ?_⟩
  have fin : ∀ y : Str, y.length ≤ 2 * z.length + 1 → Q (.str y) H3 := fun y hy => kk y n3 H3 hy k3 h3
  walk_at "n"
  have eqI : ∀ (i : Int) (H4 : Hp), Tst (tTest (tOp rEq (tVar 4) (tC (.int i)))) [some (.ref p), some (.str z), some (.int d), some (.str ⟨#[c]⟩), some (.int d3)] H4 (decide (d3 = i)) := fun i H4 Q q => by
    walk_at "g"
    have e : decide (V.int d3 = V.int i) = decide (d3 = i) := by simp
    rw [e]
    exact q _ (Same.refl _)
  have ret : ∀ (y : Str) (H4 : Hp), y.length ≤ 2 * z.length + 1 → Same H3 H4 → Q (.str y) H4 := fun y H4 hy s4 => kk y n3 H4 hy (k3.trans (Same.keepP s4)) (s4 _ _ h3)
  refine if_tstP (eqI 0 _) (fun hc H4 s4 => ?_) (fun hc H4 s4 => ?_)
  · have c1 := cl none (some d)
    have c2 := cl (some d) none
    walk_at "g"
    refine ⟨sz _ (by omega), ?_⟩
    walk_at "g"
    refine ⟨sz _ (by rw [l1]; omega), ?_⟩
    walk_at "g"
    refine ⟨sz _ (by omega), ?_⟩
    walk_at "g"
    refine ⟨sz _ (by rw [str_app, l1]; omega), ?_⟩
    exact ret _ _ (by rw [str_app, str_app, l1]; omega) s4
  walk_at "n"
  refine if_tstP (eqI 1 _) (fun hc H5 s5 => ?_) (fun hc H5 s5 => ?_)
  · have c1 := cl none (some d)
    have c2 := cl (some (d + 1)) none
    walk_at "g"
    refine ⟨sz _ (by omega), ?_⟩
    walk_at "g"
    refine ⟨sz _ (by omega), ?_⟩
    walk_at "g"
    refine ⟨sz _ (by omega), ?_⟩
    exact ret _ _ (by rw [str_app]; omega) (s4.trans s5)
  walk_at "n"
  refine if_tstP (eqI 2 _) (fun hc H6 s6 => ?_) (fun hc H6 s6 => ?_)
  · have c1 := cl none (some d)
    have c2 := cl (some (d + 1)) none
    walk_at "g"
    refine ⟨sz _ (by omega), ?_⟩
    walk_at "g"
    refine ⟨sz _ (by rw [l1]; omega), ?_⟩
    walk_at "g"
    refine ⟨sz _ (by omega), ?_⟩
    walk_at "g"
    refine ⟨sz _ (by rw [str_app, l1]; omega), ?_⟩
    exact ret _ _ (by rw [str_app, str_app, l1]; omega) ((s4.trans s5).trans s6)
  walk_at "g"
  exact ret z _ (by omega) ((s4.trans s5).trans s6)
def spText : Sp := S1 fun a H Q _ => ∃ (s : Addr) (n : Int), a = .ref s ∧ H s = some (.lst [.int n]) ∧
  ∀ (y : Str) (n' : Int) H', y.length ≤ 20 → KeepP s H H' → H' s = some (.lst [.int n']) → Q (.str y) H'
theorem ok_law_text {f : Addr} {fd : FuncData} {C_Prefix A_SPANS E_InvalidPrefix : Addr} (F : Fun K "_law_text" "_law_text" s_law_text f fd) (T : Txt K mg C_Prefix A_SPANS E_InvalidPrefix) (c_law_digit : Cl P w K mg base CX0 1 "_law_digit" (spDigit)) (c_law_span : Cl P w K mg base CX0 1 "_law_span" (spSpan)) : FnOk P w K mg base CX0 2 f fd ["state"] (spText) := by
  refine F.ok sc_law_text (fun vs H Q E h => S1.len h) (fun cdv A outer s H vs Q E hr h => ?_)
  obtain ⟨_, rfl, p, n, rfl, hp, kk⟩ := h
  refine ⟨_, (pss_cons (ps_set (i := 1) sc_law_text.nd rfl (by first | exact Or.inl rfl | exact Or.inr rfl) (pe_cl c_law_digit hr (by decide) pass0 (pa_cons (pv 0) (pa_cons pe_int pa_nil))))
      (pss_cons (ps_set (i := 2) sc_law_text.nd rfl (by first | exact Or.inl rfl | exact Or.inr rfl) (pe_cl c_law_digit hr (by decide) pass0 (pa_cons (pv 0) (pa_cons pe_int pa_nil))))
      (pss_cons (ps_if (PW.pt (pw_and (pt_cmpR op_le (pv 1) pe_int (nomark _)) (pw_and1 (pt_cmpR op_gt (pe_cl c_law_digit hr (by decide) pass0 (pa_cons (pv 0) (pa_cons pe_int pa_nil))) pe_int (nomark _)))))
      (pss_cons (ps_set (i := 2) sc_law_text.nd rfl (by first | exact Or.inl rfl | exact Or.inr rfl) (pe_op op_mod (pv 2) pe_int))
      (pss_one (ps_set (i := 2) sc_law_text.nd rfl (by first | exact Or.inl rfl | exact Or.inr rfl) (pe_op op_sub (pv 2) (pe_op op_mod (pv 2) (pe_cl c_law_span hr (by decide) pass0 (pa_cons (pv 1) pa_nil)))))))
      pss_nil)
      (pss_one (ps_ret (pe_op op_add_str (pe_op op_add_str (pe_callTy call_str_int (by rfl) T.b_str (by decide +kernel) (pa_cons (pv 2) pa_nil)) pe_str) (pe_callTy call_str_int (by rfl) T.b_str (by decide +kernel) (pa_cons (pv 1) pa_nil)))))))), ?_⟩
  walk_at "g"
  refine ⟨p, _, _, H, rfl, rfl, hp, by decide, by decide, KeepP.refl, fun d n1 H1 k1 h1 d0 d1 => ?_⟩
  walk_at "g"
  refine ⟨p, _, _, H, rfl, rfl, h1, by decide, by decide, k1, fun b n2 H2 k2 h2 b0 b1 => ?_⟩
  have e1 : ("/" : Str).length = 1 := by decide +kernel
  have l1 : ∀ b : Int, 0 ≤ b → b < 65600 → (Str.ofString (toString b)).length ≤ 5 ∧ b.natAbs.log2 < 1920 := fun b h0 h1 => by
    obtain ⟨m, rfl⟩ := Int.eq_ofNat_of_zero_le h0
    exact ⟨num_len (by decide) (by omega), num_bits (by omega)⟩
  have fin : ∀ (b n2 : Int) (H2 : Hp), 0 ≤ b → b < 65600 → KeepP p H H2 → H2 p = some (.lst [.int n2]) → Q (.str (Str.ofString (toString b) ++ ("/" : Str) ++ Str.ofString (toString d))) H2 := fun b n2 H2 h0 h1 k2 h2 =>
    kk _ n2 H2 (by rw [str_app, str_app, e1]; have := (l1 b h0 h1).1; have := (l1 d d0 (by omega)).1; omega) k2 h2
  have lb := l1 b b0 b1
  have ld := l1 d d0 (by omega)
  walk_at "g"
  by_cases hd : d ≤ 16
  · refine ite_t (decide_eq_true hd) ?_
    walk_at "g"
    refine ⟨p, _, _, H, rfl, rfl, h2, by decide, by decide, k2, fun e n3 H3 k3 h3 e0 e1' => ?_⟩
    walk_at "g"
    by_cases he : 0 < e
    · refine ite_t (decide_eq_true he) ?_
      walk_at "g"
      refine ⟨d.toNat, by rw [Int.toNat_of_nonneg d0], by omega, fun H4 s4 => ?_⟩
      walk_at "g"
      refine ⟨span_pos _, ?_⟩
      walk_at "g"
      have b2 : 0 ≤ b % 65536 - b % 65536 % spanN d.toNat ∧ b % 65536 - b % 65536 % spanN d.toNat < 65600 := by
        have := Int.emod_nonneg b (show (65536 : Int) ≠ 0 by decide)
        have := Int.emod_lt_of_pos b (show (0 : Int) < 65536 by decide)
        have := Int.emod_nonneg (b % 65536) (Int.ne_of_gt (span_pos d.toNat))
        have := emod_le_self (a := b % 65536) (b := spanN d.toNat) (by omega) (span_pos _)
        omega
      have lc := l1 _ b2.1 b2.2
      refine ⟨lc.2, ?_⟩
      walk_at "g"
      refine ⟨sz _ (by rw [e1]; omega), ?_⟩
      walk_at "g"
      refine ⟨ld.2, ?_⟩
      walk_at "g"
      refine ⟨sz _ (by rw [str_app, e1]; omega), ?_⟩
      exact fin _ n3 _ b2.1 b2.2 (k3.trans (Same.keepP s4)) (s4 _ _ h3)
    · refine ite_f (decide_eq_false he) ?_
      walk_at "g"
      refine ⟨lb.2, ?_⟩
      walk_at "g"
      refine ⟨sz _ (by rw [e1]; omega), ?_⟩
      walk_at "g"
      refine ⟨ld.2, ?_⟩
      walk_at "g"
      refine ⟨sz _ (by rw [str_app, e1]; omega), ?_⟩
      exact fin b n3 _ b0 b1 k3 h3
  · refine ite_f (decide_eq_false hd) ?_
    walk_at "g"
    refine ⟨lb.2, ?_⟩
    walk_at "g"
    refine ⟨sz _ (by rw [e1]; omega), ?_⟩
    walk_at "g"
    refine ⟨ld.2, ?_⟩
    walk_at "g"
    refine ⟨sz _ (by rw [str_app, e1]; omega), ?_⟩
    exact fin b n2 _ b0 b1 k2 h2
def spRead (C : Addr) : Sp := S1 fun a H Q _ => ∃ z : Str, a = .str z ∧ z.length ≤ 100 ∧ (∀ H', expOf progNum (TL.tl z) = none → Same H H' → Q .non H') ∧
  (∀ x y p dx H', expOf progNum (TL.tl z) = some (x, y) → Same H H' → H p = none → H' p = some (.ins C dx (fs_Prefix (.int x) (.int y))) → Q (.ref p) H')
theorem ok_law_read {f : Addr} {fd : FuncData} {C_Prefix A_SPANS E_InvalidPrefix : Addr} (F : Fun K "_law_read" "_law_read" s_law_read f fd) (T : Txt K mg C_Prefix A_SPANS E_InvalidPrefix) (c_parse_prefix : Cl P w K mg base (L2.CX P w) 4 "parse_prefix" (spParse C_Prefix E_InvalidPrefix)) : FnOk P w K mg base CX0 5 f fd ["text"] (spRead C_Prefix) := by
  refine F.ok sc_law_read (fun vs H Q E h => S1.len h) (fun cdv A outer s H vs Q E hr h => ?_)
  obtain ⟨_, rfl, z, rfl, hl, kN, kS⟩ := h
  refine ⟨_, (pss_one (ps_try_only rfl rfl ⟨rfl, by decide, .inl T.e_InvalidPrefix⟩ takes0 (fun W pn xe tk po => (pss_one (ps_ret (pe_cls c_parse_prefix hr (by decide) tk (pa_cons (pv 0) pa_nil)))))
      (fun a oe cls d pn _ _ => (pss_one (ps_ret pe_non))))), ?_⟩
  refine ⟨_, rfl, _, rfl, z, rfl, hl, fun H' hn s => ?_, fun x y p dx H' h1 s h2 h3 => kS x y p dx H' h1 s h2 h3⟩
  exact ⟨true, T.m_InvalidPrefix, fun _ a ha => kN _ hn s, fun q => nomatch q⟩
def spAsked : Sp := S1 fun a H Q _ => ∃ z : Str, a = .str z ∧ z.length ≤ 100 ∧ ∀ H', Same H H' → Q (.bl true) H'
theorem ok_law_asked {f : Addr} {fd : FuncData} {C_Prefix A_SPANS E_InvalidPrefix : Addr} (F : Fun K "_law_asked" "_law_asked" s_law_asked f fd) (T : Txt K mg C_Prefix A_SPANS E_InvalidPrefix) (c_law_expected : Cl P w K mg base CX0 2 "_law_expected" (spExp K)) (c_law_read : Cl P w K mg base CX0 5 "_law_read" (spRead C_Prefix)) (c_format_prefix : Cl P w K mg base CX0 1 "format_prefix" (spFormat C_Prefix)) (c_Prefix_pair : Me P w K mg base CX0 1 C_Prefix "pair" (spPair C_Prefix)) : FnOk P w K mg base CX0 6 f fd ["text"] (spAsked) := by
  refine F.ok sc_law_asked (fun vs H Q E h => S1.len h) (fun cdv A outer s H vs Q E hr h => ?_)
  obtain ⟨_, rfl, z, rfl, hl, kk⟩ := h
  refine ⟨_, (pss_cons (ps_set (i := 1) sc_law_asked.nd rfl (by first | exact Or.inl rfl | exact Or.inr rfl) (pe_cl c_law_expected hr (by decide) pass0 (pa_cons (pv 0) pa_nil)))
      (pss_cons (ps_set (i := 2) sc_law_asked.nd rfl (by first | exact Or.inl rfl | exact Or.inr rfl) (pe_cl c_law_read hr (by decide) pass0 (pa_cons (pv 0) pa_nil)))
      (pss_cons (ps_if (pt_cmpR op_isN (pv 1) pe_non (nomark _))
      (pss_one (ps_ret (pe_cmpR op_isN (pv 2) pe_non (nomark _))))
      pss_nil)
      (pss_one (ps_ret (pe_and (pe_callB (C8.call_isC T.i_Prefix) (by rfl) T.b_isinstance (by decide +kernel) (pa_cons (pv 2) (pa_cons (pe_gc rfl T.gv_Prefix) pa_nil))) (pe_and (pe_cmpR (op_eqD hr.units) (pe_me0 c_Prefix_pair hr (by decide) pass0 (pv 2)) (pv 1) (nomark _)) (pe_one (pe_cmpR op_eq (pe_cl c_format_prefix hr (by decide) pass0 (pa_cons (pv 2) pa_nil)) (pv 0) (nomark _)))))))))), ?_⟩
  refine ⟨_, rfl, _, rfl, z, rfl, hl, fun H1 hn s1 => ?_, fun x y p H1 hs s1 hp h1 => ?_⟩
  · rw [exp_eq] at hn
    refine ⟨_, rfl, _, rfl, z, rfl, hl, fun H2 _ s2 => ?_, fun x y p dx H2 hs => (by rw [hn] at hs; cases hs)⟩
    walk_at "g"
    exact kk _ (s1.trans s2)
  · rw [exp_eq] at hs
    refine ⟨_, rfl, _, rfl, z, rfl, hl, fun H2 hn => (by rw [hn] at hs; cases hs), fun x' y' q dx H2 hs' s2 hq h2 => ?_⟩
    rw [hs] at hs'
    cases hs'
    obtain ⟨m, n, rfl, rfl, hn16, ok, ez⟩ := exp_text hs
    have s3 := s1.trans s2
    walk_at "g"
    refine ⟨q, dx, _, rfl, h2, ?_⟩
    walk_at "g"
    refine ⟨q, dx, _, rfl, h2, fs_Prefix_no_pair, ?_⟩
    refine ⟨_, rfl, q, dx, _, _, rfl, h2, fun r hr1 => ?_⟩
    have h2' : (upd H2 r (.tup [.int m, .int n])) q = _ := (upd_ne (ne_of_none h2 hr1)).trans h2
    have hp' : (upd H2 r (.tup [.int m, .int n])) p = _ := (upd_ne (ne_of_none (s2 _ _ h1) hr1)).trans (s2 _ _ h1)
    have s4 : Same H (upd H2 r (.tup [.int m, .int n])) := Same.new s3 (s3.free hr1)
    refine ⟨_, rfl, .tuple [.int m, .int n], .tuple [.int m, .int n], .tup (SqT.of upd_same) (.cons (.int _) (.cons (.int _) .nil)), .tup (SqT.of hp') (.cons (.int _) (.cons (.int _) .nil)), rfl, rfl, ?_⟩
    rw [SeqAt.eqv_refl _ (by rfl)]
    walk_at "g"
    refine ⟨q, dx, m, n, rfl, h2', by have := ok.2.1; omega, by omega, fun y hy => ?_⟩
    walk_at "g"
    rw [str_dec, hy, ez, decide_eq_true rfl]
    exact kk _ s4
theorem ok_law {f : Addr} {fd : FuncData} {C_Prefix A_SPANS E_InvalidPrefix : Addr} (F : Fun K "law" "law" s_law f fd) (T : Txt K mg C_Prefix A_SPANS E_InvalidPrefix) (c_law_start : Cl P w K mg base CX0 1 "_law_start" (spStart)) (c_law_cell : Cl P w K mg base CX0 1 "_law_cell" (spCell K)) (c_law_text : Cl P w K mg base CX0 2 "_law_text" (spText)) (c_law_asked : Cl P w K mg base CX0 6 "_law_asked" (spAsked)) (c_law_twisted : Cl P w K mg base CX0 2 "_law_twisted" (spTwist)) : FnOk P w K mg base CX0 7 f fd ["script"] (spLaw K) := by
  refine F.ok sc_law (fun vs H Q E h => S1.len h) (fun cdv A outer s H vs Q E hr h => ?_)
  obtain ⟨_, rfl, a, ns, rfl, hS, hl, kk⟩ := h
  refine ⟨_, (pss_cons (ps_for PassesOwn.never rfl (pi_range1 rfl T.b_range (pa_cons (pe_callB (call_min2 rfl) (by rfl) T.b_min (by decide +kernel) (pa_cons pe_int (pa_cons (pe_op op_add pe_int (pe_callB call_len_seq (by rfl) T.b_len PySem.boot_len (pa_cons (pv 0) pa_nil))) pa_nil))) pa_nil)) (pg_name (i := 1) sc_law.nd rfl (by first | exact Or.inl rfl | exact Or.inr rfl))
      (pss_cons (ps_set (i := 2) sc_law.nd rfl (by first | exact Or.inl rfl | exact Or.inr rfl) (pe_cl c_law_start hr (by decide) pass0 (pa_cons (pe_cl c_law_cell hr (by decide) pass0 (pa_cons (pv 0) (pa_cons (pv 1) pa_nil))) (pa_cons (pv 1) pa_nil))))
      (pss_cons (ps_set (i := 3) sc_law.nd rfl (by first | exact Or.inl rfl | exact Or.inr rfl) (pe_cl c_law_text hr (by decide) pass0 (pa_cons (pv 2) pa_nil)))
      (pss_cons (ps_if (PW.pt (pw_or (pt_not (pt_val (pe_cl c_law_asked hr (by decide) pass0 (pa_cons (pv 3) pa_nil)))) (pw_or1 (pt_not (pt_val (pe_cl c_law_asked hr (by decide) pass0 (pa_cons (pe_cl c_law_twisted hr (by decide) pass0 (pa_cons (pv 2) (pa_cons (pv 3) pa_nil))) pa_nil)))))))
      (pss_one (ps_ret pe_bl))
      pss_nil)
      (pss_one (ps_if (pt_not (pt_val (pe_cl c_law_asked hr (by decide) pass0 (pa_cons (pe_cl c_law_twisted hr (by decide) pass0 (pa_cons (pv 2) (pa_cons (pe_cl c_law_twisted hr (by decide) pass0 (pa_cons (pv 2) (pa_cons (pv 3) pa_nil))) pa_nil))) pa_nil))))
      (pss_one (ps_ret pe_bl))
      pss_nil))))))
      (pss_one (ps_ret (pe_and (pe_cl c_law_asked hr (by decide) pass0 (pa_cons pe_str pa_nil)) (pe_and (pe_cl c_law_asked hr (by decide) pass0 (pa_cons pe_str pa_nil)) (pe_and (pe_cl c_law_asked hr (by decide) pass0 (pa_cons pe_str pa_nil)) (pe_one (pe_cl c_law_asked hr (by decide) pass0 (pa_cons pe_str pa_nil))))))))), ?_⟩
  walk_at "g"
  refine ⟨a, _, rfl, .inl hS, ?_⟩
  walk_at "g"
  have hn : ∃ n : Nat, (if 1 + (((ns.map V.int).length : Nat) : Int) < 60 then 1 + (((ns.map V.int).length : Nat) : Int) else 60) = (n : Int) ∧ n ≤ 60 := by
    rw [List.length_map]
    split
    · exact ⟨1 + ns.length, by omega, by omega⟩
    · exact ⟨60, rfl, by decide⟩
  obtain ⟨n, en, hn⟩ := hn
  rw [en]
  refine ⟨by omega, by omega, for_range (lo := 0) (n := n) (fun i σ H' => Same H H' ∧ ∃ v1 v2 v3 : Option V, σ = [some (.ref a), v1, v2, v3]) ⟨Same.refl _, none, none, none, rfl⟩ ?_ ?_⟩
  · rintro i σ H1 hi ⟨s1, v1, v2, v3, rfl⟩
    walk_at "g"
    refine ⟨a, ns, _, rfl, rfl, s1.seq hS, by omega, fun z => ?_⟩
    walk_at "g"
    refine ⟨by omega, by omega, fun p n0 H2 hp s2 h2 => ?_⟩
    walk_at "g"
    refine ⟨p, n0, rfl, h2, fun y n1 H3 hy k3 h3 => ?_⟩
    have s3 : Same H H3 := KeepP.same k3 (s1.trans s2) (s1.free hp)
    walk_at "g"
    refine ⟨by omega, fun H4 s4 => ?_⟩
    walk_at "g"
    refine ⟨p, n1, y, rfl, rfl, s4 _ _ h3, by omega, fun y2 n2 H5 hy2 k5 h5 => ?_⟩
    have s5 : Same H H5 := KeepP.same k5 (s3.trans s4) (s1.free hp)
    walk_at "g"
    refine ⟨by omega, fun H6 s6 => ?_⟩
    walk_at "g"
    refine ⟨p, n2, y, rfl, rfl, s6 _ _ h5, by omega, fun y3 n3 H7 hy3 k7 h7 => ?_⟩
    have s7 : Same H H7 := KeepP.same k7 (s5.trans s6) (s1.free hp)
    walk_at "g"
    refine ⟨p, n3, y3, rfl, rfl, h7, by omega, fun y4 n4 H8 hy4 k8 h8 => ?_⟩
    have s8 : Same H H8 := KeepP.same k8 s7 (s1.free hp)
    walk_at "g"
    refine ⟨by omega, fun H9 s9 => ?_⟩
    walk_at "g"
    exact ⟨s8.trans s9, _, _, _, rfl⟩
  · rintro σ H1 ⟨s1, v1, v2, v3, rfl⟩
    walk_at "g"
    intro H2 s2
    walk_at "g"
    intro H3 s3
    walk_at "g"
    intro H4 s4
    walk_at "g"
    intro H5 s5
    walk_at "g"
    exact kk _
end
theorem all_mk {l : PySem.W.OpenLaw} {w : World} {K : PySem.W.Frag} {h : Heap} {mg : Str → Option Value} {fa C_Prefix A_SPANS E_InvalidPrefix : Addr} (X : K.In h) (G : h.Ns mainGlobals mg) (hfa : mg "law" = some (.ref fa))
    {od_law_span an_law_span : Option Addr} {sl_law_span : Array (Option Value)} {oc_law_span kV_law_span dc_law_span pm_law_span cd_law_span ct_law_span : Value} {f_law_span : Addr}
    {od_law_cell an_law_cell : Option Addr} {sl_law_cell : Array (Option Value)} {oc_law_cell kV_law_cell dc_law_cell pm_law_cell cd_law_cell ct_law_cell : Value} {f_law_cell : Addr}
    {od_law_start an_law_start : Option Addr} {sl_law_start : Array (Option Value)} {oc_law_start kV_law_start dc_law_start pm_law_start cd_law_start ct_law_start : Value} {f_law_start : Addr}
    {od_law_digit an_law_digit : Option Addr} {sl_law_digit : Array (Option Value)} {oc_law_digit kV_law_digit dc_law_digit pm_law_digit cd_law_digit ct_law_digit : Value} {f_law_digit : Addr}
    {od_law_number an_law_number : Option Addr} {sl_law_number : Array (Option Value)} {oc_law_number kV_law_number dc_law_number pm_law_number cd_law_number ct_law_number : Value} {f_law_number : Addr}
    {od_law_expected an_law_expected : Option Addr} {sl_law_expected : Array (Option Value)} {oc_law_expected kV_law_expected dc_law_expected pm_law_expected cd_law_expected ct_law_expected : Value} {f_law_expected : Addr}
    {od_span_of an_span_of : Option Addr} {sl_span_of : Array (Option Value)} {oc_span_of kV_span_of dc_span_of pm_span_of cd_span_of ct_span_of : Value} {f_span_of : Addr}
    {od_Prefix___init__ an_Prefix___init__ : Option Addr} {sl_Prefix___init__ : Array (Option Value)} {oc_Prefix___init__ kV_Prefix___init__ dc_Prefix___init__ pm_Prefix___init__ cd_Prefix___init__ ct_Prefix___init__ : Value} {f_Prefix___init__ : Addr}
    {od_Prefix_pair an_Prefix_pair : Option Addr} {sl_Prefix_pair : Array (Option Value)} {oc_Prefix_pair kV_Prefix_pair dc_Prefix_pair pm_Prefix_pair cd_Prefix_pair ct_Prefix_pair : Value} {f_Prefix_pair : Addr}
    {od_format_prefix an_format_prefix : Option Addr} {sl_format_prefix : Array (Option Value)} {oc_format_prefix kV_format_prefix dc_format_prefix pm_format_prefix cd_format_prefix ct_format_prefix : Value} {f_format_prefix : Addr}
    {od_plain_number an_plain_number : Option Addr} {sl_plain_number : Array (Option Value)} {oc_plain_number kV_plain_number dc_plain_number pm_plain_number cd_plain_number ct_plain_number : Value} {f_plain_number : Addr}
    {od_parse_prefix an_parse_prefix : Option Addr} {sl_parse_prefix : Array (Option Value)} {oc_parse_prefix kV_parse_prefix dc_parse_prefix pm_parse_prefix cd_parse_prefix ct_parse_prefix : Value} {f_parse_prefix : Addr}
    {od_law_twisted an_law_twisted : Option Addr} {sl_law_twisted : Array (Option Value)} {oc_law_twisted kV_law_twisted dc_law_twisted pm_law_twisted cd_law_twisted ct_law_twisted : Value} {f_law_twisted : Addr}
    {od_law_text an_law_text : Option Addr} {sl_law_text : Array (Option Value)} {oc_law_text kV_law_text dc_law_text pm_law_text cd_law_text ct_law_text : Value} {f_law_text : Addr}
    {od_law_read an_law_read : Option Addr} {sl_law_read : Array (Option Value)} {oc_law_read kV_law_read dc_law_read pm_law_read cd_law_read ct_law_read : Value} {f_law_read : Addr}
    {od_law_asked an_law_asked : Option Addr} {sl_law_asked : Array (Option Value)} {oc_law_asked kV_law_asked dc_law_asked pm_law_asked cd_law_asked ct_law_asked : Value} {f_law_asked : Addr}
    {od_law an_law : Option Addr} {sl_law : Array (Option Value)} {oc_law kV_law dc_law pm_law cd_law ct_law : Value} {f_law : Addr}
    {t_ADDRESSES : Tok} {t_BITS : Tok} {t_DIGITS : Tok} {t_MOST_DIGITS : Tok} {dd_SPANS : Option Addr} {nn_SPANS : Nat} {ss_SPANS : Array (Option Value)} {tt_SPANS_0 tt_SPANS_1 tt_SPANS_2 tt_SPANS_3 tt_SPANS_4 tt_SPANS_5 tt_SPANS_6 tt_SPANS_7 tt_SPANS_8 tt_SPANS_9 tt_SPANS_10 tt_SPANS_11 tt_SPANS_12 tt_SPANS_13 tt_SPANS_14 tt_SPANS_15 tt_SPANS_16 : Tok}
    (a_law_span : PySem.W.nsIn K mainGlobals "_law_span" = some (some (.ref f_law_span)))
    (a_law_cell : PySem.W.nsIn K mainGlobals "_law_cell" = some (some (.ref f_law_cell)))
    (a_law_start : PySem.W.nsIn K mainGlobals "_law_start" = some (some (.ref f_law_start)))
    (a_law_digit : PySem.W.nsIn K mainGlobals "_law_digit" = some (some (.ref f_law_digit)))
    (a_law_number : PySem.W.nsIn K mainGlobals "_law_number" = some (some (.ref f_law_number)))
    (a_law_expected : PySem.W.nsIn K mainGlobals "_law_expected" = some (some (.ref f_law_expected)))
    (a_span_of : PySem.W.nsIn K mainGlobals "span_of" = some (some (.ref f_span_of)))
    (a_format_prefix : PySem.W.nsIn K mainGlobals "format_prefix" = some (some (.ref f_format_prefix)))
    (a_plain_number : PySem.W.nsIn K mainGlobals "plain_number" = some (some (.ref f_plain_number)))
    (a_parse_prefix : PySem.W.nsIn K mainGlobals "parse_prefix" = some (some (.ref f_parse_prefix)))
    (a_law_twisted : PySem.W.nsIn K mainGlobals "_law_twisted" = some (some (.ref f_law_twisted)))
    (a_law_text : PySem.W.nsIn K mainGlobals "_law_text" = some (some (.ref f_law_text)))
    (a_law_read : PySem.W.nsIn K mainGlobals "_law_read" = some (some (.ref f_law_read)))
    (a_law_asked : PySem.W.nsIn K mainGlobals "_law_asked" = some (some (.ref f_law_asked)))
    (a_law : PySem.W.nsIn K mainGlobals "law" = some (some (.ref f_law)))
    (a_Prefix : PySem.W.nsIn K mainGlobals "Prefix" = some (some (.ref C_Prefix)))
    (gg_SPANS : PySem.W.nsIn K mainGlobals "SPANS" = some (some (.ref A_SPANS)))
    (ge_InvalidPrefix : PySem.W.nsIn K mainGlobals "InvalidPrefix" = some (some (.ref E_InvalidPrefix)))
    (l_law_span : K.lookup f_law_span = some ⟨oc_law_span, od_law_span, .func (PySem.W.fnOf "_law_span" "_law_span" (defArgs s_law_span) (defBody s_law_span) (defScope s_law_span) .none kV_law_span dc_law_span pm_law_span an_law_span cd_law_span ct_law_span), sl_law_span⟩)
    (c_law_span : PySem.W.codeIn K cd_law_span "_law_span" = true)
    (k_law_span : PySem.W.keepIn K (.ref f_law_span) = true)
    (l_law_cell : K.lookup f_law_cell = some ⟨oc_law_cell, od_law_cell, .func (PySem.W.fnOf "_law_cell" "_law_cell" (defArgs s_law_cell) (defBody s_law_cell) (defScope s_law_cell) .none kV_law_cell dc_law_cell pm_law_cell an_law_cell cd_law_cell ct_law_cell), sl_law_cell⟩)
    (c_law_cell : PySem.W.codeIn K cd_law_cell "_law_cell" = true)
    (k_law_cell : PySem.W.keepIn K (.ref f_law_cell) = true)
    (l_law_start : K.lookup f_law_start = some ⟨oc_law_start, od_law_start, .func (PySem.W.fnOf "_law_start" "_law_start" (defArgs s_law_start) (defBody s_law_start) (defScope s_law_start) .none kV_law_start dc_law_start pm_law_start an_law_start cd_law_start ct_law_start), sl_law_start⟩)
    (c_law_start : PySem.W.codeIn K cd_law_start "_law_start" = true)
    (k_law_start : PySem.W.keepIn K (.ref f_law_start) = true)
    (l_law_digit : K.lookup f_law_digit = some ⟨oc_law_digit, od_law_digit, .func (PySem.W.fnOf "_law_digit" "_law_digit" (defArgs s_law_digit) (defBody s_law_digit) (defScope s_law_digit) .none kV_law_digit dc_law_digit pm_law_digit an_law_digit cd_law_digit ct_law_digit), sl_law_digit⟩)
    (c_law_digit : PySem.W.codeIn K cd_law_digit "_law_digit" = true)
    (k_law_digit : PySem.W.keepIn K (.ref f_law_digit) = true)
    (l_law_number : K.lookup f_law_number = some ⟨oc_law_number, od_law_number, .func (PySem.W.fnOf "_law_number" "_law_number" (defArgs s_law_number) (defBody s_law_number) (defScope s_law_number) .none kV_law_number dc_law_number pm_law_number an_law_number cd_law_number ct_law_number), sl_law_number⟩)
    (c_law_number : PySem.W.codeIn K cd_law_number "_law_number" = true)
    (k_law_number : PySem.W.keepIn K (.ref f_law_number) = true)
    (l_law_expected : K.lookup f_law_expected = some ⟨oc_law_expected, od_law_expected, .func (PySem.W.fnOf "_law_expected" "_law_expected" (defArgs s_law_expected) (defBody s_law_expected) (defScope s_law_expected) .none kV_law_expected dc_law_expected pm_law_expected an_law_expected cd_law_expected ct_law_expected), sl_law_expected⟩)
    (c_law_expected : PySem.W.codeIn K cd_law_expected "_law_expected" = true)
    (k_law_expected : PySem.W.keepIn K (.ref f_law_expected) = true)
    (l_span_of : K.lookup f_span_of = some ⟨oc_span_of, od_span_of, .func (PySem.W.fnOf "span_of" "span_of" (defArgs s_span_of) (defBody s_span_of) (defScope s_span_of) .none kV_span_of dc_span_of pm_span_of an_span_of cd_span_of ct_span_of), sl_span_of⟩)
    (c_span_of : PySem.W.codeIn K cd_span_of "span_of" = true)
    (k_span_of : PySem.W.keepIn K (.ref f_span_of) = true)
    (a_Prefix___init__ : PySem.W.findIn K (.ref C_Prefix) "__init__" = some (some (.ref f_Prefix___init__)))
    (i_Prefix___init__ : PySem.W.isFn K (.ref f_Prefix___init__) = true)
    (l_Prefix___init__ : K.lookup f_Prefix___init__ = some ⟨oc_Prefix___init__, od_Prefix___init__, .func (PySem.W.fnOf "__init__" "Prefix.__init__" (defArgs s_Prefix___init__) (defBody s_Prefix___init__) (defScope s_Prefix___init__) .none kV_Prefix___init__ dc_Prefix___init__ pm_Prefix___init__ an_Prefix___init__ cd_Prefix___init__ ct_Prefix___init__), sl_Prefix___init__⟩)
    (c_Prefix___init__ : PySem.W.codeIn K cd_Prefix___init__ "Prefix.__init__" = true)
    (k_Prefix___init__ : PySem.W.keepIn K (.ref f_Prefix___init__) = true)
    (a_Prefix_pair : PySem.W.findIn K (.ref C_Prefix) "pair" = some (some (.ref f_Prefix_pair)))
    (i_Prefix_pair : PySem.W.isFn K (.ref f_Prefix_pair) = true)
    (l_Prefix_pair : K.lookup f_Prefix_pair = some ⟨oc_Prefix_pair, od_Prefix_pair, .func (PySem.W.fnOf "pair" "Prefix.pair" (defArgs s_Prefix_pair) (defBody s_Prefix_pair) (defScope s_Prefix_pair) .none kV_Prefix_pair dc_Prefix_pair pm_Prefix_pair an_Prefix_pair cd_Prefix_pair ct_Prefix_pair), sl_Prefix_pair⟩)
    (c_Prefix_pair : PySem.W.codeIn K cd_Prefix_pair "Prefix.pair" = true)
    (k_Prefix_pair : PySem.W.keepIn K (.ref f_Prefix_pair) = true)
    (l_format_prefix : K.lookup f_format_prefix = some ⟨oc_format_prefix, od_format_prefix, .func (PySem.W.fnOf "format_prefix" "format_prefix" (defArgs s_format_prefix) (defBody s_format_prefix) (defScope s_format_prefix) .none kV_format_prefix dc_format_prefix pm_format_prefix an_format_prefix cd_format_prefix ct_format_prefix), sl_format_prefix⟩)
    (c_format_prefix : PySem.W.codeIn K cd_format_prefix "format_prefix" = true)
    (k_format_prefix : PySem.W.keepIn K (.ref f_format_prefix) = true)
    (l_plain_number : K.lookup f_plain_number = some ⟨oc_plain_number, od_plain_number, .func (PySem.W.fnOf "plain_number" "plain_number" (defArgs s_plain_number) (defBody s_plain_number) (defScope s_plain_number) .none kV_plain_number dc_plain_number pm_plain_number an_plain_number cd_plain_number ct_plain_number), sl_plain_number⟩)
    (c_plain_number : PySem.W.codeIn K cd_plain_number "plain_number" = true)
    (k_plain_number : PySem.W.keepIn K (.ref f_plain_number) = true)
    (l_parse_prefix : K.lookup f_parse_prefix = some ⟨oc_parse_prefix, od_parse_prefix, .func (PySem.W.fnOf "parse_prefix" "parse_prefix" (defArgs s_parse_prefix) (defBody s_parse_prefix) (defScope s_parse_prefix) .none kV_parse_prefix dc_parse_prefix pm_parse_prefix an_parse_prefix cd_parse_prefix ct_parse_prefix), sl_parse_prefix⟩)
    (c_parse_prefix : PySem.W.codeIn K cd_parse_prefix "parse_prefix" = true)
    (k_parse_prefix : PySem.W.keepIn K (.ref f_parse_prefix) = true)
    (l_law_twisted : K.lookup f_law_twisted = some ⟨oc_law_twisted, od_law_twisted, .func (PySem.W.fnOf "_law_twisted" "_law_twisted" (defArgs s_law_twisted) (defBody s_law_twisted) (defScope s_law_twisted) .none kV_law_twisted dc_law_twisted pm_law_twisted an_law_twisted cd_law_twisted ct_law_twisted), sl_law_twisted⟩)
    (c_law_twisted : PySem.W.codeIn K cd_law_twisted "_law_twisted" = true)
    (k_law_twisted : PySem.W.keepIn K (.ref f_law_twisted) = true)
    (l_law_text : K.lookup f_law_text = some ⟨oc_law_text, od_law_text, .func (PySem.W.fnOf "_law_text" "_law_text" (defArgs s_law_text) (defBody s_law_text) (defScope s_law_text) .none kV_law_text dc_law_text pm_law_text an_law_text cd_law_text ct_law_text), sl_law_text⟩)
    (c_law_text : PySem.W.codeIn K cd_law_text "_law_text" = true)
    (k_law_text : PySem.W.keepIn K (.ref f_law_text) = true)
    (l_law_read : K.lookup f_law_read = some ⟨oc_law_read, od_law_read, .func (PySem.W.fnOf "_law_read" "_law_read" (defArgs s_law_read) (defBody s_law_read) (defScope s_law_read) .none kV_law_read dc_law_read pm_law_read an_law_read cd_law_read ct_law_read), sl_law_read⟩)
    (c_law_read : PySem.W.codeIn K cd_law_read "_law_read" = true)
    (k_law_read : PySem.W.keepIn K (.ref f_law_read) = true)
    (l_law_asked : K.lookup f_law_asked = some ⟨oc_law_asked, od_law_asked, .func (PySem.W.fnOf "_law_asked" "_law_asked" (defArgs s_law_asked) (defBody s_law_asked) (defScope s_law_asked) .none kV_law_asked dc_law_asked pm_law_asked an_law_asked cd_law_asked ct_law_asked), sl_law_asked⟩)
    (c_law_asked : PySem.W.codeIn K cd_law_asked "_law_asked" = true)
    (k_law_asked : PySem.W.keepIn K (.ref f_law_asked) = true)
    (l_law : K.lookup f_law = some ⟨oc_law, od_law, .func (PySem.W.fnOf "law" "law" (defArgs s_law) (defBody s_law) (defScope s_law) .none kV_law dc_law pm_law an_law cd_law ct_law), sl_law⟩)
    (c_law : PySem.W.codeIn K cd_law "law" = true)
    (k_law : PySem.W.keepIn K (.ref f_law) = true)
    (mk_Prefix : PySem.W.makesIn K C_Prefix = true)
    (kc_Prefix : PySem.W.keepIn K (.ref C_Prefix) = true)
    (pg_Prefix : PySem.W.plainGet K C_Prefix Str.empty = true)
    (hd_Prefix : PySem.W.hasDictIn K C_Prefix = true)
    (po_Prefix : PySem.W.plainOver K C_Prefix = true)
    (sa_Prefix : PySem.W.findIn K (.ref C_Prefix) "__setattr__" = some (some (.builtin "object.__setattr__")))
    (n_Prefix_base : PySem.W.findIn K (.ref C_Prefix) "base" = some none)
    (n_Prefix_length : PySem.W.findIn K (.ref C_Prefix) "length" = some none)
    (z_int : PySem.W.nsIn K mainGlobals "int" = some none)
    (z_isinstance : PySem.W.nsIn K mainGlobals "isinstance" = some none)
    (z_len : PySem.W.nsIn K mainGlobals "len" = some none)
    (z_min : PySem.W.nsIn K mainGlobals "min" = some none)
    (z_range : PySem.W.nsIn K mainGlobals "range" = some none)
    (z_str : PySem.W.nsIn K mainGlobals "str" = some none)
    (gg_ADDRESSES : PySem.W.nsIn K mainGlobals "ADDRESSES" = some (some (.int 65536 t_ADDRESSES)))
    (gg_BITS : PySem.W.nsIn K mainGlobals "BITS" = some (some (.int 16 t_BITS)))
    (gg_DIGITS : PySem.W.nsIn K mainGlobals "DIGITS" = some (some (.str "0123456789" t_DIGITS)))
    (gg_MOST_DIGITS : PySem.W.nsIn K mainGlobals "MOST_DIGITS" = some (some (.int 5 t_MOST_DIGITS)))
    (kl_SPANS : K.lookup A_SPANS = some ⟨.type "tuple", dd_SPANS, .seq #[.int 65536 tt_SPANS_0, .int 32768 tt_SPANS_1, .int 16384 tt_SPANS_2, .int 8192 tt_SPANS_3, .int 4096 tt_SPANS_4, .int 2048 tt_SPANS_5, .int 1024 tt_SPANS_6, .int 512 tt_SPANS_7, .int 256 tt_SPANS_8, .int 128 tt_SPANS_9, .int 64 tt_SPANS_10, .int 32 tt_SPANS_11, .int 16 tt_SPANS_12, .int 8 tt_SPANS_13, .int 4 tt_SPANS_14, .int 2 tt_SPANS_15, .int 1 tt_SPANS_16] nn_SPANS, ss_SPANS⟩)
    (xx_InvalidPrefix : PySem.W.excIn K E_InvalidPrefix [.type "ValueError", .type "Exception", .type "BaseException", .type "object"] "ValueError.__new__" = true)
    (ke_InvalidPrefix : PySem.W.keepIn K (.ref E_InvalidPrefix) = true)
    (se_InvalidPrefix : PySem.W.subIn K (.ref E_InvalidPrefix) (.type "BaseException") = some true)
    (te_InvalidPrefix : PySem.W.typeIn K (.ref E_InvalidPrefix) = some (.type "type"))
    (ie_InvalidPrefix : PySem.W.isClsIn K E_InvalidPrefix = true)
    (ue_InvalidPrefix : PySem.W.subIn K (.ref E_InvalidPrefix) (.ref E_InvalidPrefix) = some true)
    (ic_Prefix : PySem.W.findIn K (.ref C_Prefix) "__class__" = some (some (.builtin "object.__class__")))
    (in_Prefix : PySem.W.specialIn K (.builtin "object.__class__") "__get__" = some (some (.builtin "getset_descriptor.__get__")))
    (it_Prefix : PySem.W.takesIn K (.builtin "object.__class__") = some true)
    (im_Prefix : PySem.W.mroIn K C_Prefix (.type "object") = some true)
    : ∃ fd : FuncData, (∀ (s : Shared) (v : Value), BindsTo s fd ⟨[v], []⟩ [("script", v)]) ∧ ∀ base : Heap, K.In base → base.Ns mainGlobals mg → FnOk l.prog w K mg base CX0 7 fa fd ["script"] (spLaw K) := by
  have e := hfa.symm.trans (PySem.W.mg_of X G a_law)
  cases e
  have T : Txt K mg C_Prefix A_SPANS E_InvalidPrefix := {
    cl_Prefix := ⟨pg_Prefix, hd_Prefix, po_Prefix, sa_Prefix⟩
    gv_Prefix := ⟨_, PySem.W.mg_of X G a_Prefix, rfl⟩
    na_Prefix_base := n_Prefix_base
    na_Prefix_length := n_Prefix_length
    b_int := PySem.W.mg_none_of X G z_int
    b_isinstance := PySem.W.mg_none_of X G z_isinstance
    b_len := PySem.W.mg_none_of X G z_len
    b_min := PySem.W.mg_none_of X G z_min
    b_range := PySem.W.mg_none_of X G z_range
    b_str := PySem.W.mg_none_of X G z_str
    g_ADDRESSES := ⟨_, PySem.W.mg_of X G gg_ADDRESSES, ⟨_, rfl⟩⟩
    g_BITS := ⟨_, PySem.W.mg_of X G gg_BITS, ⟨_, rfl⟩⟩
    g_DIGITS := ⟨_, PySem.W.mg_of X G gg_DIGITS, ⟨_, rfl⟩⟩
    g_MOST_DIGITS := ⟨_, PySem.W.mg_of X G gg_MOST_DIGITS, ⟨_, rfl⟩⟩
    g_SPANS := ⟨_, PySem.W.mg_of X G gg_SPANS, rfl⟩
    v_SPANS := fun _ => Or.inr ⟨_, _, _, kl_SPANS, rfl, rfl, by show 17 ≤ sizeLine; decide, (.cons ⟨_, rfl⟩ (.cons ⟨_, rfl⟩ (.cons ⟨_, rfl⟩ (.cons ⟨_, rfl⟩ (.cons ⟨_, rfl⟩ (.cons ⟨_, rfl⟩ (.cons ⟨_, rfl⟩ (.cons ⟨_, rfl⟩ (.cons ⟨_, rfl⟩ (.cons ⟨_, rfl⟩ (.cons ⟨_, rfl⟩ (.cons ⟨_, rfl⟩ (.cons ⟨_, rfl⟩ (.cons ⟨_, rfl⟩ (.cons ⟨_, rfl⟩ (.cons ⟨_, rfl⟩ (.cons ⟨_, rfl⟩ .nil)))))))))))))))))⟩
    x_InvalidPrefix := xx_InvalidPrefix
    e_InvalidPrefix := PySem.W.mg_of X G ge_InvalidPrefix
    k_InvalidPrefix := ke_InvalidPrefix
    s_InvalidPrefix := se_InvalidPrefix
    t_InvalidPrefix := te_InvalidPrefix
    m_InvalidPrefix := exm_self se_InvalidPrefix ie_InvalidPrefix te_InvalidPrefix ue_InvalidPrefix
    i_Prefix := ⟨⟨pg_Prefix, hd_Prefix, po_Prefix, sa_Prefix⟩, ic_Prefix, in_Prefix, it_Prefix, im_Prefix, if_pos (beq_self_eq_true _)⟩
  }
  have F_law_span := fun_mk (st := s_law_span) l_law_span c_law_span k_law_span
  have b_law_span := F_law_span.binds (ps := ["length"]) fun _ _ _ _ _ _ us hl => match us, hl with | [_], _ => rfl
  have F_law_cell := fun_mk (st := s_law_cell) l_law_cell c_law_cell k_law_cell
  have b_law_cell := F_law_cell.binds (ps := ["script", "k"]) fun _ _ _ _ _ _ us hl => match us, hl with | [_, _], _ => rfl
  have F_law_start := fun_mk (st := s_law_start) l_law_start c_law_start k_law_start
  have b_law_start := F_law_start.binds (ps := ["cell", "k"]) fun _ _ _ _ _ _ us hl => match us, hl with | [_, _], _ => rfl
  have F_law_digit := fun_mk (st := s_law_digit) l_law_digit c_law_digit k_law_digit
  have b_law_digit := F_law_digit.binds (ps := ["state", "many"]) fun _ _ _ _ _ _ us hl => match us, hl with | [_, _], _ => rfl
  have F_law_number := fun_mk (st := s_law_number) l_law_number c_law_number k_law_number
  have b_law_number := F_law_number.binds (ps := ["text"]) fun _ _ _ _ _ _ us hl => match us, hl with | [_], _ => rfl
  have F_law_expected := fun_mk (st := s_law_expected) l_law_expected c_law_expected k_law_expected
  have b_law_expected := F_law_expected.binds (ps := ["text"]) fun _ _ _ _ _ _ us hl => match us, hl with | [_], _ => rfl
  have F_span_of := fun_mk (st := s_span_of) l_span_of c_span_of k_span_of
  have b_span_of := F_span_of.binds (ps := ["length"]) fun _ _ _ _ _ _ us hl => match us, hl with | [_], _ => rfl
  have F_Prefix___init__ := fun_mk (st := s_Prefix___init__) l_Prefix___init__ c_Prefix___init__ k_Prefix___init__
  have b_Prefix___init__ := F_Prefix___init__.binds (ps := ["self", "base", "length"]) fun _ _ _ _ _ _ us hl => match us, hl with | [_, _, _], _ => rfl
  have F_Prefix_pair := fun_mk (st := s_Prefix_pair) l_Prefix_pair c_Prefix_pair k_Prefix_pair
  have b_Prefix_pair := F_Prefix_pair.binds (ps := ["self"]) fun _ _ _ _ _ _ us hl => match us, hl with | [_], _ => rfl
  have F_format_prefix := fun_mk (st := s_format_prefix) l_format_prefix c_format_prefix k_format_prefix
  have b_format_prefix := F_format_prefix.binds (ps := ["prefix"]) fun _ _ _ _ _ _ us hl => match us, hl with | [_], _ => rfl
  have F_plain_number := fun_mk (st := s_plain_number) l_plain_number c_plain_number k_plain_number
  have b_plain_number := F_plain_number.binds (ps := ["text"]) fun _ _ _ _ _ _ us hl => match us, hl with | [_], _ => rfl
  have F_parse_prefix := fun_mk (st := s_parse_prefix) l_parse_prefix c_parse_prefix k_parse_prefix
  have b_parse_prefix := F_parse_prefix.binds (ps := ["text"]) fun _ _ _ _ _ _ us hl => match us, hl with | [_], _ => rfl
  have F_law_twisted := fun_mk (st := s_law_twisted) l_law_twisted c_law_twisted k_law_twisted
  have b_law_twisted := F_law_twisted.binds (ps := ["state", "text"]) fun _ _ _ _ _ _ us hl => match us, hl with | [_, _], _ => rfl
  have F_law_text := fun_mk (st := s_law_text) l_law_text c_law_text k_law_text
  have b_law_text := F_law_text.binds (ps := ["state"]) fun _ _ _ _ _ _ us hl => match us, hl with | [_], _ => rfl
  have F_law_read := fun_mk (st := s_law_read) l_law_read c_law_read k_law_read
  have b_law_read := F_law_read.binds (ps := ["text"]) fun _ _ _ _ _ _ us hl => match us, hl with | [_], _ => rfl
  have F_law_asked := fun_mk (st := s_law_asked) l_law_asked c_law_asked k_law_asked
  have b_law_asked := F_law_asked.binds (ps := ["text"]) fun _ _ _ _ _ _ us hl => match us, hl with | [_], _ => rfl
  have F_law := fun_mk (st := s_law) l_law c_law k_law
  have b_law := F_law.binds (ps := ["script"]) fun _ _ _ _ _ _ us hl => match us, hl with | [_], _ => rfl
  refine ⟨PySem.W.fnOf "law" "law" (defArgs s_law) (defBody s_law) (defScope s_law) .none kV_law dc_law pm_law an_law cd_law ct_law, fun s v => .of_eq rfl, fun base _ _ => ?_⟩
  have d_law_span : Cl l.prog w K mg base CX0 1 "_law_span" (spSpan) := ⟨_, _, _, ok_law_span F_law_span T , PySem.W.mg_of X G a_law_span, k_law_span, b_law_span⟩
  have d_law_cell : Cl l.prog w K mg base CX0 1 "_law_cell" (spCell K) := ⟨_, _, _, ok_law_cell F_law_cell T , PySem.W.mg_of X G a_law_cell, k_law_cell, b_law_cell⟩
  have d_law_start : Cl l.prog w K mg base CX0 1 "_law_start" (spStart) := ⟨_, _, _, ok_law_start F_law_start T , PySem.W.mg_of X G a_law_start, k_law_start, b_law_start⟩
  have d_law_digit : Cl l.prog w K mg base CX0 1 "_law_digit" (spDigit) := ⟨_, _, _, ok_law_digit F_law_digit T , PySem.W.mg_of X G a_law_digit, k_law_digit, b_law_digit⟩
  have d_law_number : Cl l.prog w K mg base CX0 1 "_law_number" (spNum lawNum) := ⟨_, _, _, ok_law_number F_law_number T , PySem.W.mg_of X G a_law_number, k_law_number, b_law_number⟩
  have d_law_expected : Cl l.prog w K mg base CX0 2 "_law_expected" (spExp K) := ⟨_, _, _, ok_law_expected F_law_expected T d_law_number d_law_span, PySem.W.mg_of X G a_law_expected, k_law_expected, b_law_expected⟩
  have d_span_of : Cl l.prog w K mg base CX0 1 "span_of" (spSpan) := ⟨_, _, _, ok_span_of F_span_of T , PySem.W.mg_of X G a_span_of, k_span_of, b_span_of⟩
  have d_Prefix___init__ : Ma l.prog w K mg base (L2.CX l.prog w) 2 "Prefix" C_Prefix (spInit C_Prefix E_InvalidPrefix) := ⟨_, _, _, ⟨mk_Prefix, a_Prefix___init__, i_Prefix___init__, kc_Prefix⟩, ok_Prefix___init__ F_Prefix___init__ T d_span_of, PySem.W.mg_of X G a_Prefix, b_Prefix___init__⟩
  have d_Prefix_pair : Me l.prog w K mg base CX0 1 C_Prefix "pair" (spPair C_Prefix) := ⟨_, _, _, T.cl_Prefix, ⟨a_Prefix_pair, i_Prefix_pair, k_Prefix_pair⟩, ok_Prefix_pair F_Prefix_pair T , b_Prefix_pair⟩
  have d_format_prefix : Cl l.prog w K mg base CX0 1 "format_prefix" (spFormat C_Prefix) := ⟨_, _, _, ok_format_prefix F_format_prefix T , PySem.W.mg_of X G a_format_prefix, k_format_prefix, b_format_prefix⟩
  have d_plain_number : Cl l.prog w K mg base CX0 1 "plain_number" (spNum progNum) := ⟨_, _, _, ok_plain_number F_plain_number T , PySem.W.mg_of X G a_plain_number, k_plain_number, b_plain_number⟩
  have d_parse_prefix : Cl l.prog w K mg base (L2.CX l.prog w) 4 "parse_prefix" (spParse C_Prefix E_InvalidPrefix) := ⟨_, _, _, ok_parse_prefix F_parse_prefix T d_plain_number d_Prefix___init__, PySem.W.mg_of X G a_parse_prefix, k_parse_prefix, b_parse_prefix⟩
  have d_law_twisted : Cl l.prog w K mg base CX0 2 "_law_twisted" (spTwist) := ⟨_, _, _, ok_law_twisted F_law_twisted T d_law_digit, PySem.W.mg_of X G a_law_twisted, k_law_twisted, b_law_twisted⟩
  have d_law_text : Cl l.prog w K mg base CX0 2 "_law_text" (spText) := ⟨_, _, _, ok_law_text F_law_text T d_law_digit d_law_span, PySem.W.mg_of X G a_law_text, k_law_text, b_law_text⟩
  have d_law_read : Cl l.prog w K mg base CX0 5 "_law_read" (spRead C_Prefix) := ⟨_, _, _, ok_law_read F_law_read T d_parse_prefix, PySem.W.mg_of X G a_law_read, k_law_read, b_law_read⟩
  have d_law_asked : Cl l.prog w K mg base CX0 6 "_law_asked" (spAsked) := ⟨_, _, _, ok_law_asked F_law_asked T d_law_expected d_law_read d_format_prefix d_Prefix_pair, PySem.W.mg_of X G a_law_asked, k_law_asked, b_law_asked⟩
  exact ok_law F_law T d_law_start d_law_cell d_law_text d_law_asked d_law_twisted
theorem walk {l : PySem.W.OpenLaw} {q : Program} {loose : List Str} {XP : (Str → Option Value) → Heap → Prop} {YP : World → Heap → Prop} {d : DefRec} {K : Params → PySem.W.Frag} (hn : l.most = some 63) (hdf : d.params.defaults = [])
    (hY : ∀ (w : World) (h : Heap), YP w h → (K w.params).In h)
    (F : ∀ (w : World) (mg : Str → Option Value) (fa : Addr) (h : Heap), (K w.params).In h → h.Ns mainGlobals mg → mg d.name = some (.ref fa) →
      ∃ fd : FuncData, (∀ (s : Shared) (u : Value), BindsTo s fd ⟨[u], []⟩ [("script", u)]) ∧ ∀ base : Heap, (K w.params).In base → base.Ns mainGlobals mg → FnOk l.prog w (K w.params) mg base CX0 7 fa fd ["script"] (spLaw (K w.params))) :
    PySem.W.WalkO q loose XP YP l.row.toRowW d [] (fun f vs => PySem.call f vs) :=
  L2.walk_of (n := 63) (k := 7) (x := "script") (CX := fun _ => CX0) (sp := fun w => spLaw (K w.params)) hn (by decide) hdf ⟨rfl, by decide, by decide⟩ hY F (fun w _ a ns hl _ hS => ⟨_, rfl, a, ns, rfl, hS, hl, fun _ => rfl⟩) fun _ _ _ _ _ z => z
end Own
open PySem PySem.W PyProof.Rows in
set_option maxRecDepth 100000 in
set_option maxHeartbeats 0 in
theorem PySem.Challenge.cw_throughway_k73_prefixes_as_texts_holds : PySem.Challenge.rw_throughway_k73_prefixes_as_texts.Holds := by
  w_on; o_law; k_head; (case hw => w_witness2)
  k_fill
  refine Own.walk (l := PySem.Challenge.rw_throughway_k73_prefixes_as_texts) rfl rfl (fun w h Y => PySem.W.kIn_of Y) ?F
  case F =>
    intro w mg fa h KX G hmg
    refine' Own.all_mk KX G hmg ?a_law_span ?a_law_cell ?a_law_start ?a_law_digit ?a_law_number ?a_law_expected ?a_span_of ?a_format_prefix ?a_plain_number ?a_parse_prefix ?a_law_twisted ?a_law_text ?a_law_read ?a_law_asked ?a_law ?a_Prefix ?gg_SPANS ?ge_InvalidPrefix ?l_law_span ?c_law_span ?k_law_span ?l_law_cell ?c_law_cell ?k_law_cell ?l_law_start ?c_law_start ?k_law_start ?l_law_digit ?c_law_digit ?k_law_digit ?l_law_number ?c_law_number ?k_law_number ?l_law_expected ?c_law_expected ?k_law_expected ?l_span_of ?c_span_of ?k_span_of ?a_Prefix___init__ ?i_Prefix___init__ ?l_Prefix___init__ ?c_Prefix___init__ ?k_Prefix___init__ ?a_Prefix_pair ?i_Prefix_pair ?l_Prefix_pair ?c_Prefix_pair ?k_Prefix_pair ?l_format_prefix ?c_format_prefix ?k_format_prefix ?l_plain_number ?c_plain_number ?k_plain_number ?l_parse_prefix ?c_parse_prefix ?k_parse_prefix ?l_law_twisted ?c_law_twisted ?k_law_twisted ?l_law_text ?c_law_text ?k_law_text ?l_law_read ?c_law_read ?k_law_read ?l_law_asked ?c_law_asked ?k_law_asked ?l_law ?c_law ?k_law ?mk_Prefix ?kc_Prefix ?pg_Prefix ?hd_Prefix ?po_Prefix ?sa_Prefix ?n_Prefix_base ?n_Prefix_length ?z_int ?z_isinstance ?z_len ?z_min ?z_range ?z_str ?gg_ADDRESSES ?gg_BITS ?gg_DIGITS ?gg_MOST_DIGITS ?kl_SPANS ?xx_InvalidPrefix ?ke_InvalidPrefix ?se_InvalidPrefix ?te_InvalidPrefix ?ie_InvalidPrefix ?ue_InvalidPrefix ?ic_Prefix ?in_Prefix ?it_Prefix ?im_Prefix
    (case a_law_span => k_is)
    (case a_law_cell => k_is)
    (case a_law_start => k_is)
    (case a_law_digit => k_is)
    (case a_law_number => k_is)
    (case a_law_expected => k_is)
    (case a_span_of => k_is)
    (case a_format_prefix => k_is)
    (case a_plain_number => k_is)
    (case a_parse_prefix => k_is)
    (case a_law_twisted => k_is)
    (case a_law_text => k_is)
    (case a_law_read => k_is)
    (case a_law_asked => k_is)
    (case a_law => k_is)
    (case a_Prefix => k_is)
    (case gg_SPANS => k_is)
    (case ge_InvalidPrefix => k_is)
    (case l_law_span => k_is)
    (case c_law_span => k_is)
    (case k_law_span => k_is)
    (case l_law_cell => k_is)
    (case c_law_cell => k_is)
    (case k_law_cell => k_is)
    (case l_law_start => k_is)
    (case c_law_start => k_is)
    (case k_law_start => k_is)
    (case l_law_digit => k_is)
    (case c_law_digit => k_is)
    (case k_law_digit => k_is)
    (case l_law_number => k_is)
    (case c_law_number => k_is)
    (case k_law_number => k_is)
    (case l_law_expected => k_is)
    (case c_law_expected => k_is)
    (case k_law_expected => k_is)
    (case l_span_of => k_is)
    (case c_span_of => k_is)
    (case k_span_of => k_is)
    (case a_Prefix___init__ => k_is)
    (case i_Prefix___init__ => k_is)
    (case l_Prefix___init__ => k_is)
    (case c_Prefix___init__ => k_is)
    (case k_Prefix___init__ => k_is)
    (case a_Prefix_pair => k_is)
    (case i_Prefix_pair => k_is)
    (case l_Prefix_pair => k_is)
    (case c_Prefix_pair => k_is)
    (case k_Prefix_pair => k_is)
    (case l_format_prefix => k_is)
    (case c_format_prefix => k_is)
    (case k_format_prefix => k_is)
    (case l_plain_number => k_is)
    (case c_plain_number => k_is)
    (case k_plain_number => k_is)
    (case l_parse_prefix => k_is)
    (case c_parse_prefix => k_is)
    (case k_parse_prefix => k_is)
    (case l_law_twisted => k_is)
    (case c_law_twisted => k_is)
    (case k_law_twisted => k_is)
    (case l_law_text => k_is)
    (case c_law_text => k_is)
    (case k_law_text => k_is)
    (case l_law_read => k_is)
    (case c_law_read => k_is)
    (case k_law_read => k_is)
    (case l_law_asked => k_is)
    (case c_law_asked => k_is)
    (case k_law_asked => k_is)
    (case l_law => k_is)
    (case c_law => k_is)
    (case k_law => k_is)
    (case mk_Prefix => k_is)
    (case kc_Prefix => k_is)
    (case pg_Prefix => k_is)
    (case hd_Prefix => k_is)
    (case po_Prefix => k_is)
    (case sa_Prefix => k_is)
    (case n_Prefix_base => k_is)
    (case n_Prefix_length => k_is)
    (case z_int => k_is)
    (case z_isinstance => k_is)
    (case z_len => k_is)
    (case z_min => k_is)
    (case z_range => k_is)
    (case z_str => k_is)
    (case gg_ADDRESSES => k_is)
    (case gg_BITS => k_is)
    (case gg_DIGITS => k_is)
    (case gg_MOST_DIGITS => k_is)
    (case kl_SPANS => k_is)
    (case xx_InvalidPrefix => k_exc)
    (case ke_InvalidPrefix => k_is)
    (case se_InvalidPrefix => k_is)
    (case te_InvalidPrefix => k_is)
    (case ie_InvalidPrefix => k_is)
    (case ue_InvalidPrefix => k_is)
    (case ic_Prefix => k_is)
    (case in_Prefix => k_is)
    (case it_Prefix => k_is)
    (case im_Prefix => k_is)
#print axioms PySem.Challenge.cw_throughway_k73_prefixes_as_texts_holds
