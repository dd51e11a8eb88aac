import PyProof.Rows.All
import Wide.All
import OpenK.AllK
import Wide.FinOn
import KE.KStateDown
import HandS.ForMost
import HandS.More
import HandS.Defaults
import HandS.Wide
import HandS.WideBits
import HandS.WideMore
import HandS.TupAny
import HandS.Style
import HandS.Flow
import HandS.IsInst
import HandS.Conv
import HandS.Codes
import HandS.OwnEq
import HandS.Walk
import HandS.Zip
import HandS.RevTup
import HandS.Rev
import HandS.RevRange
import HandS.Evl
import HandS.Head0
import HandS.Head1
import HandS.Head2
import HandS.HeadEnd
import HandS.HeadHook1
import HandS.HeadHook2
import HandS.HeadHook3
import HandS.HeadHook4
import KE.GoesEnum
import HandS.DeepEq
import HandS.DictComp
import PySem.Challenge.RW_thirtybits_k64_texts_written
set_option Elab.async false
set_option linter.all false
set_option maxRecDepth 100000
set_option maxHeartbeats 0
/-! # Tb1: the shared layer of the thirtybits proofs: what a number, a machine, a row of digits is in the abstract heap; calls by name. -/
namespace Tb
open PySem PySem.Spec PyProof.Rows L2

/-! ### heaps that grow -/
/-- all that H knew is as it was, but at the places of L -/
def But (L : List Addr) (H H' : Hp) : Prop := ∀ a o, H a = some o → a ∉ L → H' a = some o
theorem But.refl {L : List Addr} (H : Hp) : But L H H := fun _ _ h _ => h
theorem But.trans {L : List Addr} {H H1 H2 : Hp} (a : But L H H1) (b : But L H1 H2) : But L H H2 := fun x o h n => b x o (a x o h n) n
theorem But.new {L : List Addr} {H H1 : Hp} {p : Addr} {o : HO} (e : But L H H1) (h : H1 p = none) : But L H (upd H1 p o) := fun a u ha n => by
  rw [upd_ne (ne_of_none (e a u ha n) h)]
  exact e a u ha n
theorem But.new0 {L : List Addr} {H : Hp} {p : Addr} {o : HO} (h : H p = none) : But L H (upd H p o) := (But.refl H).new h
/-- a place that H did not know may change -/
theorem But.mut {L : List Addr} {H H1 : Hp} {p : Addr} {o : HO} (e : But L H H1) (h : H p = none) : But L H (upd H1 p o) := fun a u ha n => by
  rw [upd_ne (ne_of_none ha h)]
  exact e a u ha n
/-- a place of L may change -/
theorem But.own {L : List Addr} {H H1 : Hp} {p : Addr} {o : HO} (e : But L H H1) (h : p ∈ L) : But L H (upd H1 p o) := fun a u ha n => by
  rw [upd_ne (fun z : a = p => n (by rw [z]; exact h))]
  exact e a u ha n
theorem But.mono {L M : List Addr} {H H1 : Hp} (e : But L H H1) (h : ∀ a, a ∈ L → a ∈ M) : But M H H1 := fun a u ha n => e a u ha fun z => n (h a z)
theorem But.nil {L : List Addr} {H H1 : Hp} (e : But [] H H1) : But L H H1 := fun a u ha _ => e a u ha (by simp)
/-- places that H did not know may be left out of L -/
theorem But.less {L M : List Addr} {H H1 : Hp} (e : But L H H1) (h : ∀ a, a ∈ L → a ∈ M ∨ H a = none) : But M H H1 := fun a u ha n => e a u ha fun z => by
  rcases h a z with q | q
  · exact n q
  · rw [q] at ha; cases ha
theorem But.free {L : List Addr} {H H1 : Hp} {p : Addr} (e : But L H H1) (h : H1 p = none) (n : p ∉ L) : H p = none := by
  cases q : H p with
  | none => rfl
  | some o => rw [e p o q n] at h; cases h
theorem But.same {H H' : Hp} (e : But [] H H') : Same H H' := fun a o h => e a o h (by simp)
theorem But.of_same {L : List Addr} {H H' : Hp} (e : Same H H') : But L H H' := fun a o h _ => e a o h

/-! ### rows of integers: a list or a tuple -/
def Row (K : PySem.W.Frag) (H : Hp) (a : Addr) (ds : List Int) : Prop := SqL K H a (ds.map V.int) ∨ SqT K H a (ds.map V.int)
/-- a row that no list of H stands for (a tuple) -/
def Tup (K : PySem.W.Frag) (H : Hp) (a : Addr) (xs : List V) : Prop := SqT K H a xs

/-! ### a number -/
def bfl (w : Nat) (s : Int) (r : Addr) : List (Str × V) := [(("width" : Str), .int (w : Int)), (("side" : Str), .int s), (("row" : Str), .ref r)]
theorem bfl_width {w : Nat} {s : Int} {r : Addr} : (bfl w s r).lookup ("width" : Str) = some (.int (w : Int)) := rfl
theorem bfl_side {w : Nat} {s : Int} {r : Addr} : (bfl w s r).lookup ("side" : Str) = some (.int s) := rfl
theorem bfl_row {w : Nat} {s : Int} {r : Addr} : (bfl w s r).lookup ("row" : Str) = some (.ref r) := rfl
structure BigAt (K : PySem.W.Frag) (H : Hp) (a : Addr) (w : Nat) (s : Int) (ds : List Int) : Prop where
  has : ∃ dx r, H a = some (.ins (He.ga K "Big") dx (bfl w s r)) ∧ H r = some (.tup (ds.map V.int))
theorem BigAt.but {K : PySem.W.Frag} {L : List Addr} {H H' : Hp} {a : Addr} {w : Nat} {s : Int} {ds : List Int} (h : BigAt K H a w s ds) (e : But L H H') (hL : ∀ l ∈ L, ∀ C dx fs, H l ≠ some (.ins C dx fs)) (hT : ∀ l ∈ L, ∀ xs, H l ≠ some (.tup xs)) : BigAt K H' a w s ds := by
  obtain ⟨dx, r, h1, h2⟩ := h.has
  exact ⟨dx, r, e a _ h1 fun z => hL a z _ _ _ h1, e r _ h2 fun z => hT r z _ h2⟩

/-! ### a machine -/
/-- what a machine has counted: a number for each word -/
structure Ms where
  w : Nat
  c : Int
  cnt : Str → Int
  walk : List (Str × Int × Int)
def WORDS : List Str := ["short", "sum", "product", "quotient", "corrected", "restored", "shifted", "combined", "complemented", "looked"]
def cntKV (c : Str → Int) : List (Key × V) := WORDS.map fun w => (Sum.inr w, V.int (c w))
/-- a tuple of the walk -/
def WalkV (H : Hp) (v : V) (t : Str × Int × Int) : Prop := ∃ q, v = .ref q ∧ H q = some (.tup [.str t.1, .int t.2.1, .int t.2.2])
def mfl (w : Nat) (c : Int) (d e : Addr) : List (Str × V) := [(("width" : Str), .int (w : Int)), (("limit_of_rows" : Str), .int c), (("base" : Str), .int (2 ^ w)), (("counts" : Str), .ref d), (("entered" : Str), .ref e)]
theorem mfl_width {w : Nat} {c : Int} {d e : Addr} : (mfl w c d e).lookup ("width" : Str) = some (.int (w : Int)) := rfl
theorem mfl_rows {w : Nat} {c : Int} {d e : Addr} : (mfl w c d e).lookup ("limit_of_rows" : Str) = some (.int c) := rfl
theorem mfl_base {w : Nat} {c : Int} {d e : Addr} : (mfl w c d e).lookup ("base" : Str) = some (.int (2 ^ w)) := rfl
theorem mfl_counts {w : Nat} {c : Int} {d e : Addr} : (mfl w c d e).lookup ("counts" : Str) = some (.ref d) := rfl
theorem mfl_entered {w : Nat} {c : Int} {d e : Addr} : (mfl w c d e).lookup ("entered" : Str) = some (.ref e) := rfl
structure MAt (K : PySem.W.Frag) (H : Hp) (p d e : Addr) (S : Ms) : Prop where
  ins : ∃ dx, H p = some (.ins (He.ga K "Machine") dx (mfl S.w S.c d e))
  cnts : H d = some (.dK (cntKV S.cnt))
  ent : ∃ refs, H e = some (.lst refs) ∧ Paired (WalkV H) refs S.walk
/-- counting, entering -/
def Ms.count (S : Ms) (word : Str) (n : Int) : Ms := { S with cnt := fun x => if x = word then S.cnt x + n else S.cnt x }
def Ms.enter (S : Ms) (word : Str) (m n : Int) : Ms := if S.walk.length < 1000 then { S with walk := S.walk ++ [(word, m, n)] } else S

/-! ### calls by name -/
section
variable (P : Program) (w : World) (K : PySem.W.Frag) (mg : Str → Option Value) (base : Heap)
/-- the module's name x is a def that keeps the promise sp; ps its parameters, dvs its defaults behind the given ones -/
def Cal (CX : CXT) (x : Str) (k : Nat) (ps : List Str) (dvs : List V) (sp : Sp) : Prop :=
  ∃ (f : Addr) (fd : FuncData) (ds : List Value), mg x = some (.ref f) ∧ PySem.W.keepIn K (.ref f) = true ∧ FnOk P w K mg base CX k f fd ps sp ∧ Binds K fd ps ds ∧ Vals dvs ds
/-- the class's method m -/
def CalM (CX : CXT) (C m : Str) (k : Nat) (ps : List Str) (dvs : List V) (sp : Sp) : Prop :=
  ∃ (f : Addr) (fd : FuncData) (ds : List Value), Cls K (He.ga K C) ∧ Meth K (He.ga K C) m f ∧ FnOk P w K mg base CX k f fd ps sp ∧ Binds K fd ps ds ∧ Vals dvs ds
/-- C(..) -/
def CalC (CX : CXT) (C : Str) (k : Nat) (ps : List Str) (dvs : List V) (sp : Sp) : Prop :=
  ∃ (f : Addr) (fd : FuncData) (ds : List Value), mg C = some (.ref (He.ga K C)) ∧ Mk K (He.ga K C) f ∧ FnOk P w K mg base CX k f fd ps sp ∧ Binds K fd ps ds ∧ Vals dvs ds
end
section
variable {X : Cx} {CX : CXT} {k j : Nat} {ps : List Str} {dvs : List V} {sp : Sp} {E : XK} {x C m : Str} {p pos apos : Pos} {e o : Expr} {es : List Expr} {t : TA} {ta : TE}
theorem pc (c : Cal X.prog X.w X.K X.mg X.base CX x k ps dvs sp) (hr : Room j X.A) (hk : k ≤ j) (hx : Passes CX X E) (ha : PA X (e :: es) t) (hg : Gl X x := by rfl) (hd : (x == ("__debug__" : Str)) = false := by decide)
    (he : starEach (e :: es) X.env = (false, eval e X.env) :: starEach es X.env := by rfl) (hpl : (backTo pos (starEach es X.env)).any (·.1) = false := by rfl) : PE X (.Call (.Name x p) (e :: es) [] pos) (tCall sp dvs E t) := by
  obtain ⟨f, fd, ds, hm, kp, F, b, hv⟩ := c
  exact pe_call F (hr.mono hk) hg hm kp b hv hx ha hd he hpl
theorem pc0 (c : Cal X.prog X.w X.K X.mg X.base CX x k ps dvs sp) (hr : Room j X.A) (hk : k ≤ j) (hx : Passes CX X E) (hg : Gl X x := by rfl) (hd : (x == ("__debug__" : Str)) = false := by decide) : PE X (.Call (.Name x p) [] [] pos) (tCall sp dvs E tNil) := by
  obtain ⟨f, fd, ds, hm, kp, F, b, hv⟩ := c
  exact pe_call0 F (hr.mono hk) hg hm kp b hv hx hd
theorem pm {pl : Sem Bool} (c : CalM X.prog X.w X.K X.mg X.base CX C m k ps dvs sp) (hr : Room j X.A) (hk : k ≤ j) (hx : Passes CX X E) (ho : PE X o ta) (ha : PA X (e :: es) t)
    (hst : starEach (e :: es) X.env = (false, eval e X.env) :: starEach es X.env := by rfl) (hpl : (backTo pos (starEach es X.env)).any (·.1) = false := by rfl)
    (ht : eval (.Call (.Attribute o m apos) (e :: es) [] pos) X.env = (do
      let ov ← eval o X.env
      standAt apos.atName
      let (f, first) ← holding [ov] (getMethod ov m pl)
      callWith pos f first (backTo pos (starEach (e :: es) X.env)) (backToKw pos (keywordEach [] X.env))) := by rfl) : PE X (.Call (.Attribute o m apos) (e :: es) [] pos) (tMeth (He.ga X.K C) m sp dvs E ta t) := by
  obtain ⟨f, fd, ds, c, hm, F, b, hv⟩ := c
  exact pe_meth ho c hm F (hr.mono hk) b hv hx ha hst hpl ht
theorem pm0 {pl : Sem Bool} (c : CalM X.prog X.w X.K X.mg X.base CX C m k ps dvs sp) (hr : Room j X.A) (hk : k ≤ j) (hx : Passes CX X E) (ho : PE X o ta)
    (ht : eval (.Call (.Attribute o m apos) [] [] pos) X.env = (do
      let ov ← eval o X.env
      standAt apos.atName
      let (f, first) ← holding [ov] (getMethod ov m pl)
      callWith pos f first [] (backToKw pos (keywordEach [] X.env))) := by rfl) : PE X (.Call (.Attribute o m apos) [] [] pos) (tMeth (He.ga X.K C) m sp dvs E ta tNil) := by
  obtain ⟨f, fd, ds, c, hm, F, b, hv⟩ := c
  exact pe_meth0 ho c hm F (hr.mono hk) b hv hx ht
theorem pk (c : CalC X.prog X.w X.K X.mg X.base CX C k ps dvs sp) (hr : Room j X.A) (hk : k + 1 ≤ j) (hx : Passes CX X E) (ha : PA X (e :: es) t) (hg : Gl X C := by rfl) (hd : (C == ("__debug__" : Str)) = false := by decide)
    (he : starEach (e :: es) X.env = (false, eval e X.env) :: starEach es X.env := by rfl) (hpl : (backTo pos (starEach es X.env)).any (·.1) = false := by rfl) : PE X (.Call (.Name C p) (e :: es) [] pos) (tMake (He.ga X.K C) sp dvs E t) := by
  obtain ⟨f, fd, ds, hm, M, F, b, hv⟩ := c
  exact pe_make M F (hr.mono hk) hg hm b hv hx ha hd he hpl
theorem pk0 (c : CalC X.prog X.w X.K X.mg X.base CX C k ps dvs sp) (hr : Room j X.A) (hk : k + 1 ≤ j) (hx : Passes CX X E) (hg : Gl X C := by rfl) (hd : (C == ("__debug__" : Str)) = false := by decide) : PE X (.Call (.Name C p) [] [] pos) (tMake (He.ga X.K C) sp dvs E tNil) := by
  obtain ⟨f, fd, ds, hm, M, F, b, hv⟩ := c
  exact pe_make0 M F (hr.mono hk) hg hm b hv hx hd
end

/-! ### reading: slots, loops -/
theorem sl0 {α : Type} {x0 : α} {r : List α} : (x0 :: r)[0]? = some x0 := rfl
theorem st0 {α : Type} {x0 y : α} {r : List α} : (x0 :: r).set 0 y = y :: r := rfl
theorem sl1 {α : Type} {x0 x1 : α} {r : List α} : (x0 :: x1 :: r)[1]? = some x1 := rfl
theorem st1 {α : Type} {x0 x1 y : α} {r : List α} : (x0 :: x1 :: r).set 1 y = x0 :: y :: r := rfl
theorem sl2 {α : Type} {x0 x1 x2 : α} {r : List α} : (x0 :: x1 :: x2 :: r)[2]? = some x2 := rfl
theorem st2 {α : Type} {x0 x1 x2 y : α} {r : List α} : (x0 :: x1 :: x2 :: r).set 2 y = x0 :: x1 :: y :: r := rfl
theorem sl3 {α : Type} {x0 x1 x2 x3 : α} {r : List α} : (x0 :: x1 :: x2 :: x3 :: r)[3]? = some x3 := rfl
theorem st3 {α : Type} {x0 x1 x2 x3 y : α} {r : List α} : (x0 :: x1 :: x2 :: x3 :: r).set 3 y = x0 :: x1 :: x2 :: y :: r := rfl
theorem sl4 {α : Type} {x0 x1 x2 x3 x4 : α} {r : List α} : (x0 :: x1 :: x2 :: x3 :: x4 :: r)[4]? = some x4 := rfl
theorem st4 {α : Type} {x0 x1 x2 x3 x4 y : α} {r : List α} : (x0 :: x1 :: x2 :: x3 :: x4 :: r).set 4 y = x0 :: x1 :: x2 :: x3 :: y :: r := rfl
theorem sl5 {α : Type} {x0 x1 x2 x3 x4 x5 : α} {r : List α} : (x0 :: x1 :: x2 :: x3 :: x4 :: x5 :: r)[5]? = some x5 := rfl
theorem st5 {α : Type} {x0 x1 x2 x3 x4 x5 y : α} {r : List α} : (x0 :: x1 :: x2 :: x3 :: x4 :: x5 :: r).set 5 y = x0 :: x1 :: x2 :: x3 :: x4 :: y :: r := rfl
theorem sl6 {α : Type} {x0 x1 x2 x3 x4 x5 x6 : α} {r : List α} : (x0 :: x1 :: x2 :: x3 :: x4 :: x5 :: x6 :: r)[6]? = some x6 := rfl
theorem st6 {α : Type} {x0 x1 x2 x3 x4 x5 x6 y : α} {r : List α} : (x0 :: x1 :: x2 :: x3 :: x4 :: x5 :: x6 :: r).set 6 y = x0 :: x1 :: x2 :: x3 :: x4 :: x5 :: y :: r := rfl
theorem sl7 {α : Type} {x0 x1 x2 x3 x4 x5 x6 x7 : α} {r : List α} : (x0 :: x1 :: x2 :: x3 :: x4 :: x5 :: x6 :: x7 :: r)[7]? = some x7 := rfl
theorem st7 {α : Type} {x0 x1 x2 x3 x4 x5 x6 x7 y : α} {r : List α} : (x0 :: x1 :: x2 :: x3 :: x4 :: x5 :: x6 :: x7 :: r).set 7 y = x0 :: x1 :: x2 :: x3 :: x4 :: x5 :: x6 :: y :: r := rfl
theorem sl8 {α : Type} {x0 x1 x2 x3 x4 x5 x6 x7 x8 : α} {r : List α} : (x0 :: x1 :: x2 :: x3 :: x4 :: x5 :: x6 :: x7 :: x8 :: r)[8]? = some x8 := rfl
theorem st8 {α : Type} {x0 x1 x2 x3 x4 x5 x6 x7 x8 y : α} {r : List α} : (x0 :: x1 :: x2 :: x3 :: x4 :: x5 :: x6 :: x7 :: x8 :: r).set 8 y = x0 :: x1 :: x2 :: x3 :: x4 :: x5 :: x6 :: x7 :: y :: r := rfl
theorem sl9 {α : Type} {x0 x1 x2 x3 x4 x5 x6 x7 x8 x9 : α} {r : List α} : (x0 :: x1 :: x2 :: x3 :: x4 :: x5 :: x6 :: x7 :: x8 :: x9 :: r)[9]? = some x9 := rfl
theorem st9 {α : Type} {x0 x1 x2 x3 x4 x5 x6 x7 x8 x9 y : α} {r : List α} : (x0 :: x1 :: x2 :: x3 :: x4 :: x5 :: x6 :: x7 :: x8 :: x9 :: r).set 9 y = x0 :: x1 :: x2 :: x3 :: x4 :: x5 :: x6 :: x7 :: x8 :: y :: r := rfl
theorem sl10 {α : Type} {x0 x1 x2 x3 x4 x5 x6 x7 x8 x9 x10 : α} {r : List α} : (x0 :: x1 :: x2 :: x3 :: x4 :: x5 :: x6 :: x7 :: x8 :: x9 :: x10 :: r)[10]? = some x10 := rfl
theorem st10 {α : Type} {x0 x1 x2 x3 x4 x5 x6 x7 x8 x9 x10 y : α} {r : List α} : (x0 :: x1 :: x2 :: x3 :: x4 :: x5 :: x6 :: x7 :: x8 :: x9 :: x10 :: r).set 10 y = x0 :: x1 :: x2 :: x3 :: x4 :: x5 :: x6 :: x7 :: x8 :: x9 :: y :: r := rfl
theorem sl11 {α : Type} {x0 x1 x2 x3 x4 x5 x6 x7 x8 x9 x10 x11 : α} {r : List α} : (x0 :: x1 :: x2 :: x3 :: x4 :: x5 :: x6 :: x7 :: x8 :: x9 :: x10 :: x11 :: r)[11]? = some x11 := rfl
theorem st11 {α : Type} {x0 x1 x2 x3 x4 x5 x6 x7 x8 x9 x10 x11 y : α} {r : List α} : (x0 :: x1 :: x2 :: x3 :: x4 :: x5 :: x6 :: x7 :: x8 :: x9 :: x10 :: x11 :: r).set 11 y = x0 :: x1 :: x2 :: x3 :: x4 :: x5 :: x6 :: x7 :: x8 :: x9 :: x10 :: y :: r := rfl
theorem sl12 {α : Type} {x0 x1 x2 x3 x4 x5 x6 x7 x8 x9 x10 x11 x12 : α} {r : List α} : (x0 :: x1 :: x2 :: x3 :: x4 :: x5 :: x6 :: x7 :: x8 :: x9 :: x10 :: x11 :: x12 :: r)[12]? = some x12 := rfl
theorem st12 {α : Type} {x0 x1 x2 x3 x4 x5 x6 x7 x8 x9 x10 x11 x12 y : α} {r : List α} : (x0 :: x1 :: x2 :: x3 :: x4 :: x5 :: x6 :: x7 :: x8 :: x9 :: x10 :: x11 :: x12 :: r).set 12 y = x0 :: x1 :: x2 :: x3 :: x4 :: x5 :: x6 :: x7 :: x8 :: x9 :: x10 :: x11 :: y :: r := rfl
theorem sl13 {α : Type} {x0 x1 x2 x3 x4 x5 x6 x7 x8 x9 x10 x11 x12 x13 : α} {r : List α} : (x0 :: x1 :: x2 :: x3 :: x4 :: x5 :: x6 :: x7 :: x8 :: x9 :: x10 :: x11 :: x12 :: x13 :: r)[13]? = some x13 := rfl
theorem st13 {α : Type} {x0 x1 x2 x3 x4 x5 x6 x7 x8 x9 x10 x11 x12 x13 y : α} {r : List α} : (x0 :: x1 :: x2 :: x3 :: x4 :: x5 :: x6 :: x7 :: x8 :: x9 :: x10 :: x11 :: x12 :: x13 :: r).set 13 y = x0 :: x1 :: x2 :: x3 :: x4 :: x5 :: x6 :: x7 :: x8 :: x9 :: x10 :: x11 :: x12 :: y :: r := rfl
theorem cx_K {CX : CXT} {P : Program} {w : World} {K : PySem.W.Frag} {mg : Str → Option Value} {base : Heap} {N : List Str} {q : Str} {sc : Scope} {f : Addr} {cdv : Value} {A : Around} {outer : List Env} {s : Shared} {H : Hp} {E : XK} :
    (cxOf CX P w K mg base N q sc f cdv A outer s H E).K = K := rfl
/-- while, by a statement W over a number that falls -/
theorem wh {c : TT} {tb : TS} {D : Ends} {σ : L2.St} {H : Hp} (W : Nat → L2.St → Hp → Prop) (m0 : Nat) (h0 : W m0 σ H)
    (hs : ∀ m σ H, W m σ H → c σ H fun b H1 => if b = true then tb { D with nx := fun σ' H' => ∃ m', m' < m ∧ W m' σ' H', ct := fun σ' H' => ∃ m', m' < m ∧ W m' σ' H', bk := D.nx } σ H1 else D.nx σ H1)
    (mono : ∀ σ H Q Q', (∀ b H1, Q b H1 → Q' b H1) → c σ H Q → c σ H Q') : tWhile c tb D σ H :=
  ⟨W, ⟨m0, h0⟩, fun m σ H hw => mono σ H _ _ (fun b H1 q => by
    cases b with
    | true =>
      rw [if_pos rfl] at q ⊢
      exact ⟨_, fun σ' H' z => z, q⟩
    | false =>
      rw [if_neg Bool.false_ne_true] at q ⊢
      exact q) (hs m σ H hw)⟩
/-- what stands at a list's place is a list, for a method -/
theorem tyl {K : PySem.W.Frag} {H : Hp} {a : Addr} {xs : List V} (h : H a = some (.lst xs)) : tyV K "list" (.ref a) H := Or.inl ⟨rfl, _, Or.inl (Or.inl h)⟩
theorem ex_l1 {α : Type} {a : α} {p : α → Prop} (h : p a) : ∃ x, a = x ∧ p x := ⟨a, rfl, h⟩
theorem scal_ii {i j : Int} : scal (.int i) (.int j) = true := rfl
theorem scal_ss {i j : Str} : scal (.str i) (.str j) = true := rfl
theorem scal_bb {i j : Bool} : scal (.bl i) (.bl j) = true := rfl
theorem ite_t {A B : Prop} : (if true = true then A else B) = A := if_pos rfl
theorem ite_f {A B : Prop} : (if false = true then A else B) = B := if_neg Bool.false_ne_true
theorem dec_ii {i j : Int} : decide (V.int i = V.int j) = decide (i = j) := by simp
theorem dec_ss {i j : Str} : decide (V.str i = V.str j) = decide (i = j) := by simp
/-- a written dict with int keys -/
def kdiB (K : PySem.W.Frag) (a : Addr) (kvs : List (Int × Int)) : Bool := match K.lookup a with
  | some ⟨.type c, none, .dict es _, sl⟩ => decide (c = "dict") && (sl.isEmpty && (!(a == sysModules) && decide (es.toList.map (fun e => (match e.key with | .int i _ => some i | _ => none, e.hash, match e.val with | .int j _ => some j | _ => none)) = kvs.map fun q => (some q.1, hashInt q.1, some q.2))))
  | _ => false

/-! ### digits -/
def dgs (w : Nat) (n : Nat) : List Int := if h : n = 0 ∨ w = 0 then [] else ((n % 2 ^ w : Nat) : Int) :: dgs w (n / 2 ^ w)
termination_by n
decreasing_by exact Nat.div_lt_self (by omega) (Nat.one_lt_two_pow (by omega))
/-- digits without zeros at their end -/
def norm (ds : List Int) : List Int := (ds.reverse.dropWhile (· == 0)).reverse

/-! ### the tally as a dict -/
theorem putK_map (c : Str → Int) (word : Str) (y : Int) : ∀ ws : List Str, word ∈ ws → putK (ws.map fun x => ((Sum.inr x : Key), V.int (c x))) (Sum.inr word) (.int y) = ws.map fun x => ((Sum.inr x : Key), V.int (if x = word then y else c x)) := by
  intro ws hw
  unfold putK
  have h : ((ws.map fun x => ((Sum.inr x : Key), V.int (c x))).any fun kv => decide (kv.1 = (Sum.inr word : Key))) = true := by
    rw [List.any_eq_true]
    exact ⟨_, List.mem_map.mpr ⟨word, hw, rfl⟩, by simp⟩
  rw [if_pos h, List.map_map]
  apply List.map_congr_left
  intro x _
  by_cases e : x = word
  · subst e; simp
  · have : ¬ (Sum.inr x : Key) = Sum.inr word := fun z => e (Sum.inr.inj z)
    simp [e]
theorem putK_cnt {c : Str → Int} {word : Str} {n : Int} (hw : word ∈ WORDS) : putK (cntKV c) (Sum.inr word) (.int (c word + n)) = cntKV (fun x => if x = word then c x + n else c x) := by
  unfold cntKV
  rw [putK_map c word _ _ hw]
  apply List.map_congr_left
  intro x _
  by_cases e : x = word
  · subst e; simp
  · simp [e]
theorem valV_cnt {c : Str → Int} : ∀ {ws : List Str} {word : Str}, word ∈ ws → valV (ws.map fun x => ((Sum.inr x : Key), V.int (c x))) (Sum.inr word) = some (.int (c word))
  | x :: r, word, h => by
    rw [List.map_cons]
    by_cases e : x = word
    · subst e; exact valV_pos rfl
    · have e' : ¬ (Sum.inr x : Key) = Sum.inr word := fun z => e (Sum.inr.inj z)
      rw [valV_neg (p := ((Sum.inr x : Key), V.int (c x))) e']
      exact valV_cnt ((List.mem_cons.mp h).resolve_left fun z => e z.symm)
theorem cnt_len {c : Str → Int} : (cntKV c).length = 10 := rfl
/-- machines: what is changed elsewhere leaves them -/
theorem WalkV.but {L : List Addr} {H H' : Hp} {v : V} {t : Str × Int × Int} (h : WalkV H v t) (e : But L H H') (hT : ∀ l ∈ L, ∀ xs, H l ≠ some (.tup xs)) : WalkV H' v t := by
  obtain ⟨q, r, h⟩ := h
  exact ⟨q, r, e q _ h fun z => hT q z _ h⟩
theorem MAt.but {K : PySem.W.Frag} {H H' : Hp} {p d e : Addr} {S : Ms} {L : List Addr} (h : MAt K H p d e S) (b : But L H H') (hL : ∀ l ∈ L, l ≠ d ∧ l ≠ e ∧ (∀ C dx fs, H l ≠ some (.ins C dx fs)) ∧ (∀ xs, H l ≠ some (.tup xs))) : MAt K H' p d e S := by
  obtain ⟨⟨dx, h1⟩, h2, refs, h3, h4⟩ := h
  refine ⟨⟨dx, b p _ h1 fun z => (hL p z).2.2.1 _ _ _ h1⟩, b d _ h2 fun z => (hL d z).1 rfl, refs, b e _ h3 fun z => (hL e z).2.1 rfl, Paired.mapP h4 fun v t q => q.but b fun l hl => (hL l hl).2.2.2⟩
theorem MAt.ex {K : PySem.W.Frag} {H H' : Hp} {p d e : Addr} {S : Ms} (h : MAt K H p d e S) (b : But [] H H') : MAt K H' p d e S := h.but b (by simp)
theorem BigAt.ex {K : PySem.W.Frag} {H H' : Hp} {a : Addr} {w : Nat} {s : Int} {ds : List Int} (h : BigAt K H a w s ds) (b : But [] H H') : BigAt K H' a w s ds := h.but b (by simp) (by simp)
/-- a number stands behind a machine's counting -/
theorem BigAt.mach {K : PySem.W.Frag} {H H' : Hp} {a p d e : Addr} {w : Nat} {s : Int} {ds : List Int} {S : Ms} (h : BigAt K H a w s ds) (b : But [d, e] H H') (m : MAt K H p d e S) : BigAt K H' a w s ds := by
  obtain ⟨_, h2, refs, h3, _⟩ := m
  refine h.but b (fun l hl C dx fs z => ?_) (fun l hl xs z => ?_)
  · rcases List.mem_cons.mp hl with rfl | hl
    · rw [h2] at z; cases z
    · rw [List.mem_singleton.mp hl, h3] at z; cases z
  · rcases List.mem_cons.mp hl with rfl | hl
    · rw [h2] at z; cases z
    · rw [List.mem_singleton.mp hl, h3] at z; cases z
theorem MAt.ne {K : PySem.W.Frag} {H : Hp} {p d e : Addr} {S : Ms} (h : MAt K H p d e S) : d ≠ e ∧ p ≠ d ∧ p ≠ e := by
  obtain ⟨⟨dx, h1⟩, h2, refs, h3, _⟩ := h
  exact ⟨ne_of h2 h3 (by intro z; cases z), ne_of h1 h2 (by intro z; cases z), ne_of h1 h3 (by intro z; cases z)⟩
theorem pair_snoc {α β : Type} {F : α → β → Prop} : ∀ {l₁ : List α} {l₂ : List β} {a : α} {b : β}, Paired F l₁ l₂ → F a b → Paired F (l₁ ++ [a]) (l₂ ++ [b])
  | _, _, _, _, .nil, h => .cons h .nil
  | _, _, _, _, .cons r t, h => .cons r (pair_snoc t h)

/-- a while; V, M: the statement and the end, hidden -/
theorem wloop {c : TT} {tb : TS} {D : Ends} {σ : L2.St} {H : Hp} (W : Nat → L2.St → Hp → Prop) (m0 : Nat) (h0 : W m0 σ H)
    (hs : ∀ (V : Nat → L2.St → Hp → Prop), (∀ m σ H, W m σ H → V m σ H) → ∀ m σ H, W m σ H →
      c σ H fun b H1 => if b = true then ∃ N : L2.St → Hp → Prop, (∀ σ' H', N σ' H' → ∃ m', m' < m ∧ V m' σ' H') ∧ tb { nx := N, rt := D.rt, bk := D.nx, ct := N } σ H1 else D.nx σ H1) : tWhile c tb D σ H := ⟨W, ⟨m0, h0⟩, hs W fun _ _ _ h => h⟩
/-- a while with more behind it: Mid is what holds behind it -/
theorem wcut {c : TT} {tb u : TS} {D : Ends} {σ : L2.St} {H : Hp} (Mid : L2.St → Hp → Prop) (W : Nat → L2.St → Hp → Prop) (m0 : Nat) (h0 : W m0 σ H)
    (hs : ∀ (V : Nat → L2.St → Hp → Prop) (M : L2.St → Hp → Prop), (∀ m σ H, W m σ H → V m σ H) → (∀ σ H, Mid σ H → M σ H) → ∀ m σ H, W m σ H →
      c σ H fun b H1 => if b = true then ∃ N : L2.St → Hp → Prop, (∀ σ' H', N σ' H' → ∃ m', m' < m ∧ V m' σ' H') ∧ tb { nx := N, rt := D.rt, bk := M, ct := N } σ H1 else M σ H1)
    (hu : ∀ σ' H', Mid σ' H' → u D σ' H') : Evl.tCut (tWhile c tb) u D σ H := ⟨Mid, ⟨W, ⟨m0, h0⟩, hs W Mid (fun _ _ _ h => h) fun _ _ h => h⟩, hu⟩
section
variable {K : PySem.W.Frag} {tl : TE} {ta : TA} {g : TG} {tb u : TS} {D : Ends} {σ : L2.St} {H : Hp}
/-- for over a list: A says of the walked list's place and the heap then -/
theorem floopL {xs : List V} (A : Addr → Hp → Prop) (Pv : Addr → Nat → L2.St → Hp → Prop) (hl : ∀ Q : VK, (∀ a H1, A a H1 → Q (.ref a) H1) → tl σ H Q) (h0 : ∀ a H1, A a H1 → Pv a 0 σ H1)
    (hq : ∀ a i σ H, i ≤ xs.length → Pv a i σ H → SqL K H a xs)
    (hs : ∀ (V : Nat → L2.St → Hp → Prop) a, (∀ i σ H, Pv a i σ H → V i σ H) → ∀ i x σ H, xs[i]? = some x → Pv a i σ H → g x σ H fun σ2 H2 => tb { nx := V (i + 1), rt := D.rt, bk := D.nx, ct := V (i + 1) } σ2 H2)
    (hd : ∀ a σ H, Pv a xs.length σ H → D.nx σ H) : tFor (iList K tl) g tb D σ H :=
  hl _ fun a H1 hA => ⟨a, rfl, ⟨xs, hq a 0 σ H1 (Nat.zero_le _) (h0 a H1 hA)⟩, for_list (xs := xs) (Pv a) (h0 a H1 hA) (hq a) (hs (Pv a) a fun _ _ _ h => h) (hd a)⟩
theorem fcutL {xs : List V} (Mid : L2.St → Hp → Prop) (A : Addr → Hp → Prop) (Pv : Addr → Nat → L2.St → Hp → Prop) (hl : ∀ Q : VK, (∀ a H1, A a H1 → Q (.ref a) H1) → tl σ H Q) (h0 : ∀ a H1, A a H1 → Pv a 0 σ H1)
    (hq : ∀ a i σ H, i ≤ xs.length → Pv a i σ H → SqL K H a xs)
    (hs : ∀ (V : Nat → L2.St → Hp → Prop) (M : L2.St → Hp → Prop) a, (∀ i σ H, Pv a i σ H → V i σ H) → (∀ σ H, Mid σ H → M σ H) → ∀ i x σ H, xs[i]? = some x → Pv a i σ H → g x σ H fun σ2 H2 => tb { nx := V (i + 1), rt := D.rt, bk := M, ct := V (i + 1) } σ2 H2)
    (hd : ∀ a σ H, Pv a xs.length σ H → Mid σ H) (hu : ∀ σ' H', Mid σ' H' → u D σ' H') : Evl.tCut (tFor (iList K tl) g tb) u D σ H :=
  ⟨Mid, floopL (D := { nx := Mid, rt := D.rt, bk := D.bk, ct := D.ct }) (xs := xs) A Pv hl h0 hq (fun V a hV => hs V Mid a hV fun _ _ h => h) hd, hu⟩
theorem floopT {xs : List V} (A : Addr → Hp → Prop) (Pv : Addr → Nat → L2.St → Hp → Prop) (hl : ∀ Q : VK, (∀ a H1, A a H1 → Q (.ref a) H1) → tl σ H Q) (h0 : ∀ a H1, A a H1 → Pv a 0 σ H1)
    (hq : ∀ a i σ H, i ≤ xs.length → Pv a i σ H → SqT K H a xs)
    (hs : ∀ (V : Nat → L2.St → Hp → Prop) a, (∀ i σ H, Pv a i σ H → V i σ H) → ∀ i x σ H, xs[i]? = some x → Pv a i σ H → g x σ H fun σ2 H2 => tb { nx := V (i + 1), rt := D.rt, bk := D.nx, ct := V (i + 1) } σ2 H2)
    (hd : ∀ a σ H, Pv a xs.length σ H → D.nx σ H) : tFor (iTup K tl) g tb D σ H :=
  hl _ fun a H1 hA => ⟨a, rfl, ⟨xs, hq a 0 σ H1 (Nat.zero_le _) (h0 a H1 hA)⟩, for_tup (xs := xs) (Pv a) (h0 a H1 hA) (hq a) (hs (Pv a) a fun _ _ _ h => h) (hd a)⟩
theorem fcutT {xs : List V} (Mid : L2.St → Hp → Prop) (A : Addr → Hp → Prop) (Pv : Addr → Nat → L2.St → Hp → Prop) (hl : ∀ Q : VK, (∀ a H1, A a H1 → Q (.ref a) H1) → tl σ H Q) (h0 : ∀ a H1, A a H1 → Pv a 0 σ H1)
    (hq : ∀ a i σ H, i ≤ xs.length → Pv a i σ H → SqT K H a xs)
    (hs : ∀ (V : Nat → L2.St → Hp → Prop) (M : L2.St → Hp → Prop) a, (∀ i σ H, Pv a i σ H → V i σ H) → (∀ σ H, Mid σ H → M σ H) → ∀ i x σ H, xs[i]? = some x → Pv a i σ H → g x σ H fun σ2 H2 => tb { nx := V (i + 1), rt := D.rt, bk := M, ct := V (i + 1) } σ2 H2)
    (hd : ∀ a σ H, Pv a xs.length σ H → Mid σ H) (hu : ∀ σ' H', Mid σ' H' → u D σ' H') : Evl.tCut (tFor (iTup K tl) g tb) u D σ H :=
  ⟨Mid, floopT (D := { nx := Mid, rt := D.rt, bk := D.bk, ct := D.ct }) (xs := xs) A Pv hl h0 hq (fun V a hV => hs V Mid a hV fun _ _ h => h) hd, hu⟩
/-- for over range(n) -/
theorem floopR {n : Int} (hn : -(2 ^ 62) ≤ n ∧ n < 2 ^ 62) (Pv : Nat → L2.St → Hp → Prop) (hl : ∀ Q : List V → Hp → Prop, Q [.int n] H → ta σ H Q) (h0 : Pv 0 σ H)
    (hs : ∀ (V : Nat → L2.St → Hp → Prop), (∀ i σ H, Pv i σ H → V i σ H) → ∀ i σ H, i < n.toNat → Pv i σ H → g (.int i) σ H fun σ2 H2 => tb { nx := V (i + 1), rt := D.rt, bk := D.nx, ct := V (i + 1) } σ2 H2)
    (hd : ∀ σ H, Pv n.toNat σ H → D.nx σ H) : tFor (iRng1 ta) g tb D σ H :=
  hl _ ⟨n, rfl, hn.1, hn.2, for_range (lo := 0) (n := n.toNat) Pv h0 (fun i σ H hi p => by have q := hs Pv (fun _ _ _ h => h) i σ H hi p; rw [Int.zero_add]; exact q) hd⟩
theorem fcutR {n : Int} (Mid : L2.St → Hp → Prop) (hn : -(2 ^ 62) ≤ n ∧ n < 2 ^ 62) (Pv : Nat → L2.St → Hp → Prop) (hl : ∀ Q : List V → Hp → Prop, Q [.int n] H → ta σ H Q) (h0 : Pv 0 σ H)
    (hs : ∀ (V : Nat → L2.St → Hp → Prop) (M : L2.St → Hp → Prop), (∀ i σ H, Pv i σ H → V i σ H) → (∀ σ H, Mid σ H → M σ H) → ∀ i σ H, i < n.toNat → Pv i σ H → g (.int i) σ H fun σ2 H2 => tb { nx := V (i + 1), rt := D.rt, bk := M, ct := V (i + 1) } σ2 H2)
    (hd : ∀ σ H, Pv n.toNat σ H → Mid σ H) (hu : ∀ σ' H', Mid σ' H' → u D σ' H') : Evl.tCut (tFor (iRng1 ta) g tb) u D σ H :=
  ⟨Mid, floopR (D := { nx := Mid, rt := D.rt, bk := D.bk, ct := D.ct }) hn Pv hl h0 (fun V hV => hs V Mid hV fun _ _ h => h) hd, hu⟩
end
/-- a if t else b, by the value it has -/
theorem tif {c : TT} {ta tb : TE} {σ : L2.St} {H : Hp} {Q : VK} (b : Bool) (v : V) (hc : ∀ R : Bool → Hp → Prop, R b H → c σ H R) (h1 : b = true → Q v H → ta σ H Q) (h2 : b = false → Q v H → tb σ H Q) (q : Q v H) : tIf c ta tb σ H Q := by
  refine hc _ ?_
  cases b with
  | true => exact h1 rfl q
  | false => exact h2 rfl q
theorem norm_nil : norm [] = [] := rfl
theorem norm_snoc0 {l : List Int} : norm (l ++ [0]) = norm l := by
  unfold norm; rw [List.reverse_append]; rfl
theorem norm_snoc {l : List Int} {x : Int} (h : x ≠ 0) : norm (l ++ [x]) = l ++ [x] := by
  unfold norm
  have e : (l ++ [x]).reverse = x :: l.reverse := by rw [List.reverse_append]; rfl
  rw [e, List.dropWhile_cons_of_neg (by simpa using h)]
  simp
theorem take_succ' {ds : List Int} {n : Nat} {x : Int} (h : ds[n]? = some x) : ds.take (n + 1) = ds.take n ++ [x] := by
  rw [List.take_add_one, h]; rfl
theorem cut_take {xs : List V} {n : Nat} (h : n ≤ xs.length) : cutV xs none (some (n : Int)) = xs.take n := by
  unfold cutV
  rw [HT.sIx_none, HT.sIx_nat]
  simp [Nat.min_eq_left h]

/-! ### isinstance -/
def isiB (K : PySem.W.Frag) (C : Str) : Bool := He.eqO (PySem.W.findIn K (.ref (He.ga K C)) "__class__") (some (some (.builtin "object.__class__"))) && (He.eqO (PySem.W.specialIn K (.builtin "object.__class__") "__get__") (some (some (.builtin "getset_descriptor.__get__"))) && (decide (PySem.W.takesIn K (.builtin "object.__class__") = some true) && decide (PySem.W.mroIn K (He.ga K C) (.type "object") = some true)))
theorem isi_ins {K : PySem.W.Frag} {H : Hp} {C : Str} {a dx : Addr} {fs : List (Str × V)} (h : isiB K C = true) (c : Cls K (He.ga K C)) (e : H a = some (.ins (He.ga K C) dx fs)) : TyX K H (.ref a) (.ref (He.ga K C)) := by
  obtain ⟨h1, h⟩ := He.ba h
  obtain ⟨h2, h⟩ := He.ba h
  obtain ⟨h3, h4⟩ := He.ba h
  exact .base (.ins e c (He.eqO_ok h1) (He.eqO_ok h2) (of_decide_eq_true h3) (of_decide_eq_true h4))
theorem kit_self {K : PySem.W.Frag} {t : Value} : PySem.W.kitOne K t t = some true := by
  unfold PySem.W.kitOne
  rw [if_pos (by simp)]
theorem kit_ii {K : PySem.W.Frag} : PySem.W.kitOne K (.type "int") (.type "int") = some true := kit_self
theorem kit_ib {K : PySem.W.Frag} : PySem.W.kitOne K (.type "int") (.type "bool") = some false := kit_ty (by decide +kernel)
/-- whether a value is an integer, by its type -/
def IntTy (K : PySem.W.Frag) (H : Hp) (v : V) (b : Bool) : Prop := ∃ t b1 b2, TyX K H v t ∧ PySem.W.kitOne K t (.type "int") = some b1 ∧ PySem.W.kitOne K t (.type "bool") = some b2 ∧ b = (b1 && !b2)
theorem intTy {K : PySem.W.Frag} {H : Hp} {i : Int} : IntTy K H (.int i) true := ⟨_, true, false, .base (.int i), kit_ii, kit_ib, rfl⟩

/-! ### comprehensions -/
theorem lcL {K : PySem.W.Frag} {tl : TE} {g : TG} {tt : TT} {te : TE} {vs : List Nat} {σ : L2.St} {H : Hp} {Q : VK} {xs : List V} (A : Addr → Hp → Prop) (Pv : Addr → Addr → Nat → Hp → Prop) (hl : ∀ Q : VK, (∀ a H1, A a H1 → Q (.ref a) H1) → tl σ H Q) (hx : ∀ a H1, A a H1 → SqL K H1 a xs)
    (h0 : ∀ a D H1, A a H1 → H1 D = none → Pv a D 0 (upd H1 D (.lst []))) (hq : ∀ a D i H, Pv a D i H → SqL K H a xs)
    (hs : ∀ a D (Vn : Nat → Hp → Prop), (∀ i H, Pv a D i H → Vn i H) → ∀ i x H, xs[i]? = some x → Pv a D i H → g x (wipe σ vs) H fun σ2 H2 => wipe σ2 vs = wipe σ vs ∧ tt σ2 H2 fun b H3 =>
      if b = true then te σ2 H3 fun y H4 => ∃ acc, H4 D = some (.lst acc) ∧ acc.length < sizeLine ∧ Vn (i + 1) (upd H4 D (.lst (acc ++ [y]))) else Vn (i + 1) H3)
    (hd : ∀ a D H, Pv a D xs.length H → Q (.ref D) H) : tLc (iList K tl) g tt te vs σ H Q :=
  hl _ fun a H1 hA => ⟨a, rfl, ⟨xs, hx a H1 hA⟩, fun D hD => lc_list (K := K) (a := a) (xs := xs) (Pv a D) (h0 a D H1 hA hD) (fun i H _ p => hq a D i H p) (hs a D (Pv a D) fun _ _ h => h) (hd a D)⟩
theorem lcT {K : PySem.W.Frag} {tl : TE} {g : TG} {tt : TT} {te : TE} {vs : List Nat} {σ : L2.St} {H : Hp} {Q : VK} {xs : List V} (A : Addr → Hp → Prop) (Pv : Addr → Addr → Nat → Hp → Prop) (hl : ∀ Q : VK, (∀ a H1, A a H1 → Q (.ref a) H1) → tl σ H Q) (hx : ∀ a H1, A a H1 → SqT K H1 a xs)
    (h0 : ∀ a D H1, A a H1 → H1 D = none → Pv a D 0 (upd H1 D (.lst []))) (hq : ∀ a D i H, Pv a D i H → SqT K H a xs)
    (hs : ∀ a D (Vn : Nat → Hp → Prop), (∀ i H, Pv a D i H → Vn i H) → ∀ i x H, xs[i]? = some x → Pv a D i H → g x (wipe σ vs) H fun σ2 H2 => wipe σ2 vs = wipe σ vs ∧ tt σ2 H2 fun b H3 =>
      if b = true then te σ2 H3 fun y H4 => ∃ acc, H4 D = some (.lst acc) ∧ acc.length < sizeLine ∧ Vn (i + 1) (upd H4 D (.lst (acc ++ [y]))) else Vn (i + 1) H3)
    (hd : ∀ a D H, Pv a D xs.length H → Q (.ref D) H) : tLc (iTup K tl) g tt te vs σ H Q :=
  hl _ fun a H1 hA => ⟨a, rfl, ⟨xs, hx a H1 hA⟩, fun D hD => lc_tup (K := K) (a := a) (xs := xs) (Pv a D) (h0 a D H1 hA hD) (fun i H _ p => hq a D i H p) (hs a D (Pv a D) fun _ _ h => h) (hd a D)⟩

/-! ### the fields of a new machine -/
theorem mp1 {v : V} : putF ("width" : Str) v [] = [(("width" : Str), v)] := rfl
theorem mp2 {a b : V} : putF ("limit_of_rows" : Str) b [(("width" : Str), a)] = [(("width" : Str), a), (("limit_of_rows" : Str), b)] := rfl
theorem mp3 {a b c : V} : putF ("base" : Str) c [(("width" : Str), a), (("limit_of_rows" : Str), b)] = [(("width" : Str), a), (("limit_of_rows" : Str), b), (("base" : Str), c)] := rfl
theorem mp4 {a b c d : V} : putF ("counts" : Str) d [(("width" : Str), a), (("limit_of_rows" : Str), b), (("base" : Str), c)] = [(("width" : Str), a), (("limit_of_rows" : Str), b), (("base" : Str), c), (("counts" : Str), d)] := rfl
theorem mp5 {w : Nat} {c : Int} {d e : Addr} : putF ("entered" : Str) (.ref e) [(("width" : Str), .int (w : Int)), (("limit_of_rows" : Str), .int c), (("base" : Str), .int (2 ^ w)), (("counts" : Str), .ref d)] = mfl w c d e := rfl
theorem words_tup {K : PySem.W.Frag} {H : Hp} (h : He.tupB K "WORDS" (WORDS.map He.Dv.str) = true) : SqT K H (He.ga K "WORDS") (WORDS.map V.str) := by
  have q := He.tupB_ok h H
  rw [List.map_map] at q
  exact q
theorem oneShl {b : Nat} (h : b ≤ 1000000) : CShl 1 (b : Int) := by
  refine ⟨by omega, ?_⟩
  show ((Builtin.Int.intBits 1 : Nat) : Int) + b ≤ 2 ^ 27
  have : ((Builtin.Int.intBits 1 : Nat) : Int) = 1 := by decide +kernel
  rw [this]; omega
end Tb

/-! # Tb2: numbers and their digits, in plain Lean -/
namespace Tb
open PySem
def val (w : Nat) : List Int → Int
  | [] => 0
  | d :: r => d + 2 ^ w * val w r
def Dig (w : Nat) (ds : List Int) : Prop := ∀ d ∈ ds, 0 ≤ d ∧ d < 2 ^ w
theorem Dig.nil {w : Nat} : Dig w [] := fun _ h => by simp at h
theorem Dig.cons {w : Nat} {d : Int} {r : List Int} (h : 0 ≤ d ∧ d < 2 ^ w) (t : Dig w r) : Dig w (d :: r) := fun x hx => by
  rcases List.mem_cons.mp hx with rfl | hx
  · exact h
  · exact t x hx
theorem Dig.head {w : Nat} {d : Int} {r : List Int} (h : Dig w (d :: r)) : 0 ≤ d ∧ d < 2 ^ w := h d (List.mem_cons_self ..)
theorem Dig.tail {w : Nat} {d : Int} {r : List Int} (h : Dig w (d :: r)) : Dig w r := fun x hx => h x (List.mem_cons_of_mem _ hx)
theorem Dig.append {w : Nat} {a b : List Int} (h : Dig w a) (t : Dig w b) : Dig w (a ++ b) := fun x hx => by
  rcases List.mem_append.mp hx with q | q
  · exact h x q
  · exact t x q
theorem Dig.take {w : Nat} {a : List Int} (h : Dig w a) (n : Nat) : Dig w (a.take n) := fun x hx => h x (List.mem_of_mem_take hx)
theorem Dig.drop {w : Nat} {a : List Int} (h : Dig w a) (n : Nat) : Dig w (a.drop n) := fun x hx => h x (List.mem_of_mem_drop hx)
theorem two_pos (w : Nat) : (0 : Int) < 2 ^ w := Int.pow_pos (by decide)
theorem two_posN (w : Nat) : 0 < 2 ^ w := Nat.two_pow_pos w
theorem val_nonneg {w : Nat} : ∀ {ds : List Int}, Dig w ds → 0 ≤ val w ds
  | [], _ => Int.le_refl _
  | d :: r, h => by
    have h1 := h.head.1
    have h2 := val_nonneg h.tail
    have h3 := Int.mul_nonneg (Int.le_of_lt (two_pos w)) h2
    show 0 ≤ d + 2 ^ w * val w r
    omega
theorem val_lt {w : Nat} : ∀ {ds : List Int}, Dig w ds → val w ds < 2 ^ (w * ds.length)
  | [], _ => by show (0 : Int) < _; exact two_pos _
  | d :: r, h => by
    have h1 := h.head.2
    have h2 := val_lt h.tail
    show d + 2 ^ w * val w r < 2 ^ (w * (r.length + 1))
    have e : (2 : Int) ^ (w * (r.length + 1)) = 2 ^ w * 2 ^ (w * r.length) := by rw [← Int.pow_add, Nat.mul_add, Nat.mul_one, Nat.add_comm]
    rw [e]
    have h3 : (2 : Int) ^ w * (val w r + 1) ≤ 2 ^ w * 2 ^ (w * r.length) := Int.mul_le_mul_of_nonneg_left (by omega) (Int.le_of_lt (two_pos w))
    rw [Int.mul_add, Int.mul_one] at h3
    omega
theorem val_append {w : Nat} : ∀ {a b : List Int}, val w (a ++ b) = val w a + 2 ^ (w * a.length) * val w b
  | [], b => by simp [val]
  | d :: r, b => by
    show d + 2 ^ w * val w (r ++ b) = d + 2 ^ w * val w r + 2 ^ (w * (r.length + 1)) * val w b
    rw [val_append, Int.mul_add, Nat.mul_add, Nat.mul_one, Int.pow_add, ← Int.mul_assoc, Int.mul_comm (2 ^ w) (2 ^ (w * r.length))]
    omega
theorem val_snoc {w : Nat} {a : List Int} {d : Int} : val w (a ++ [d]) = val w a + 2 ^ (w * a.length) * d := by
  rw [val_append]; show _ = _ ; simp [val]
theorem dgs_zero {w : Nat} : dgs w 0 = [] := by rw [dgs]; simp
theorem dgs_step {w n : Nat} (hw : 0 < w) (hn : 0 < n) : dgs w n = ((n % 2 ^ w : Nat) : Int) :: dgs w (n / 2 ^ w) := by
  rw [dgs, dif_neg (by omega)]
theorem dgs_eq_nil {w n : Nat} (hw : 0 < w) : dgs w n = [] ↔ n = 0 := by
  constructor
  · intro h
    rcases Nat.eq_zero_or_pos n with z | z
    · exact z
    · rw [dgs_step hw z] at h; cases h
  · rintro rfl; exact dgs_zero
theorem val_dgs {w : Nat} (hw : 0 < w) (n : Nat) : val w (dgs w n) = n := by
  induction n using Nat.strongRecOn with
  | _ n ih =>
    rcases Nat.eq_zero_or_pos n with z | z
    · rw [z, dgs_zero]; rfl
    · rw [dgs_step hw z]
      show ((n % 2 ^ w : Nat) : Int) + 2 ^ w * val w (dgs w (n / 2 ^ w)) = n
      rw [ih _ (Nat.div_lt_self z (Nat.one_lt_two_pow (by omega)))]
      have := Nat.mod_add_div n (2 ^ w)
      have e : (2 : Int) ^ w = ((2 ^ w : Nat) : Int) := by norm_cast
      rw [e]; exact_mod_cast this
theorem dig_dgs {w : Nat} (hw : 0 < w) (n : Nat) : Dig w (dgs w n) := by
  induction n using Nat.strongRecOn with
  | _ n ih =>
    rcases Nat.eq_zero_or_pos n with z | z
    · rw [z, dgs_zero]; exact Dig.nil
    · rw [dgs_step hw z]
      refine Dig.cons ⟨by omega, ?_⟩ (ih _ (Nat.div_lt_self z (Nat.one_lt_two_pow (by omega))))
      have := Nat.mod_lt n (two_posN w)
      exact_mod_cast this
theorem norm_cons {d : Int} {r : List Int} : norm (d :: r) = if norm r = [] then (if d = 0 then [] else [d]) else d :: norm r := by
  unfold norm
  rw [List.reverse_cons, List.dropWhile_append]
  by_cases h : (r.reverse.dropWhile (· == 0)) = []
  · rw [h]
    by_cases hd : d = 0
    · simp [hd]
    · have e : (d == 0) = false := by simpa using hd
      simp [hd, List.dropWhile, e]
  · have : ¬ (r.reverse.dropWhile (· == 0)).isEmpty = true := by simpa using h
    rw [if_neg this]
    simp [h]
/-- rows of digits, without zeros at their end, are the digits of their value -/
theorem norm_val {w : Nat} (hw : 0 < w) : ∀ {ds : List Int}, Dig w ds → norm ds = dgs w (val w ds).toNat
  | [], _ => by rw [show val w [] = 0 from rfl]; exact dgs_zero.symm
  | d :: r, h => by
    have ih := norm_val hw h.tail
    have h1 := h.head
    have h2 := val_nonneg h.tail
    have e : (val w (d :: r)).toNat = d.toNat + 2 ^ w * (val w r).toNat := by
      show (d + 2 ^ w * val w r).toNat = _
      have e1 : (2 : Int) ^ w = ((2 ^ w : Nat) : Int) := by norm_cast
      have e2 : val w r = ((val w r).toNat : Int) := by omega
      have e3 : d = (d.toNat : Int) := by omega
      rw [e2, e3, e1]
      norm_cast
    have hd : d.toNat < 2 ^ w := by
      have e1 : (2 : Int) ^ w = ((2 ^ w : Nat) : Int) := by norm_cast
      rw [e1] at h1; omega
    rw [norm_cons, ih, e]
    by_cases hz : (val w r).toNat = 0
    · rw [hz, dgs_zero, if_pos rfl, Nat.mul_zero, Nat.add_zero]
      by_cases hd0 : d = 0
      · rw [if_pos hd0, hd0]; exact dgs_zero.symm
      · rw [if_neg hd0, dgs_step hw (by omega), Nat.mod_eq_of_lt hd, Nat.div_eq_of_lt hd, dgs_zero, show ((d.toNat : Nat) : Int) = d by omega]
    · have hne : ¬ dgs w (val w r).toNat = [] := fun z => hz ((dgs_eq_nil hw).mp z)
      have hpos : 0 < d.toNat + 2 ^ w * (val w r).toNat := by
        have := Nat.mul_pos (two_posN w) (Nat.pos_of_ne_zero hz); omega
      rw [if_neg hne, dgs_step hw hpos, Nat.add_mul_mod_self_left, Nat.mod_eq_of_lt hd, Nat.add_mul_div_left _ _ (two_posN w), Nat.div_eq_of_lt hd, Nat.zero_add, show ((d.toNat : Nat) : Int) = d by omega]
theorem norm_dgs {w : Nat} (hw : 0 < w) (n : Nat) : norm (dgs w n) = dgs w n := by
  rw [norm_val hw (dig_dgs hw n), val_dgs hw]; rfl
theorem dgs_len_le {w n k : Nat} (hw : 0 < w) (h : n < 2 ^ (w * k)) : (dgs w n).length ≤ k := by
  induction k generalizing n with
  | zero =>
    have : n = 0 := by rw [Nat.mul_zero] at h; omega
    rw [this, dgs_zero]; exact Nat.le_refl _
  | succ k ih =>
    rcases Nat.eq_zero_or_pos n with z | z
    · rw [z, dgs_zero]; exact Nat.zero_le _
    · rw [dgs_step hw z, List.length_cons]
      refine Nat.succ_le_succ (ih ?_)
      rw [Nat.div_lt_iff_lt_mul (two_posN w), ← Nat.pow_add]
      rw [Nat.mul_add, Nat.mul_one] at h; exact h
theorem dgs_len_lt {w n : Nat} (hw : 0 < w) : n < 2 ^ (w * (dgs w n).length) := by
  have h := val_lt (dig_dgs hw n)
  rw [val_dgs hw] at h
  exact_mod_cast h
theorem dgs_len_ge {w n : Nat} (hw : 0 < w) (hn : 0 < n) : 2 ^ (w * ((dgs w n).length - 1)) ≤ n := by
  rcases Nat.lt_or_ge n (2 ^ (w * ((dgs w n).length - 1))) with h | h
  · have := dgs_len_le hw h
    have h2 : 0 < (dgs w n).length := by rw [dgs_step hw hn]; simp
    omega
  · exact h
/-! ### a number in its normal form -/
def BigI (K : PySem.W.Frag) (H : L2.Hp) (a : Addr) (w : Nat) (n : Int) : Prop := BigAt K H a w n.sign (dgs w n.natAbs)
theorem big_norm {K : PySem.W.Frag} {H : L2.Hp} {a : Addr} {w : Nat} {sd : Int} {ds : List Int} (hw : 0 < w) (hd : Dig w ds) (hs : sd = 1 ∨ sd = -1 ∨ val w ds = 0) (h : BigAt K H a w (if norm ds = [] then 0 else sd) (norm ds)) : BigI K H a w (sd * val w ds) := by
  have hv := val_nonneg hd
  have e := norm_val hw hd
  have hn : norm ds = [] ↔ val w ds = 0 := by
    rw [e, dgs_eq_nil hw]; omega
  have e2 : (sd * val w ds).natAbs = (val w ds).toNat ∨ val w ds = 0 := by
    rcases hs with rfl | rfl | hs
    · left; omega
    · left; omega
    · right; exact hs
  unfold BigI
  by_cases hz : val w ds = 0
  · rw [if_pos (hn.mpr hz), hn.mpr hz] at h
    rw [hz, Int.mul_zero]
    show BigAt K H a w 0 (dgs w 0)
    rw [dgs_zero]; exact h
  · rw [if_neg (fun z => hz (hn.mp z)), e] at h
    rw [e2.resolve_right hz]
    have : (sd * val w ds).sign = sd := by
      rcases hs with rfl | rfl | hs
      · rw [Int.one_mul]; exact Int.sign_eq_one_of_pos (by omega)
      · rw [Int.neg_one_mul]; exact Int.sign_eq_neg_one_of_neg (by omega)
      · exact absurd hs hz
    rw [this]; exact h
theorem BigI.kept {K : PySem.W.Frag} {H H' : L2.Hp} {a : Addr} {w : Nat} {n : Int} (h : BigI K H a w n) (b : But [] H H') : BigI K H' a w n := BigAt.ex h b
theorem BigI.mach {K : PySem.W.Frag} {H H' : L2.Hp} {a p d e : Addr} {w : Nat} {n : Int} {S : Ms} (h : BigI K H a w n) (b : But [d, e] H H') (m : MAt K H p d e S) : BigI K H' a w n := BigAt.mach h b m
/-- the value of digits read from the end -/
def fromTop (w : Nat) (ds : List Int) : Int := ds.foldl (fun f d => f * 2 ^ w + d) 0
theorem fromTop_aux {w : Nat} : ∀ (ds : List Int) (f : Int), ds.foldl (fun f d => f * 2 ^ w + d) f = f * 2 ^ (w * ds.length) + val w ds.reverse
  | [], f => by simp [val]
  | d :: r, f => by
    rw [List.foldl_cons, fromTop_aux r, List.reverse_cons, val_snoc, List.length_reverse, List.length_cons, Nat.mul_add, Nat.mul_one, Int.pow_add, Int.add_mul]
    rw [Int.mul_assoc, Int.mul_comm (2 ^ w) (2 ^ (w * r.length)), Int.mul_comm d]
    omega
theorem fromTop_rev {w : Nat} (ds : List Int) : fromTop w ds.reverse = val w ds := by
  unfold fromTop; rw [fromTop_aux, List.reverse_reverse]; omega
/-- more bits than any number here has -/
@[irreducible] def lim : Nat := 10000000
theorem lim_le : lim ≤ 10000000 := by unfold lim; exact Nat.le_refl _
theorem lim_ge : 9000000 ≤ lim := by unfold lim; decide
theorem dgs_lim {w n : Nat} (hw : 0 < w) (h : n < 2 ^ lim) : (dgs w n).length ≤ lim := dgs_len_le hw (Nat.lt_of_lt_of_le h (Nat.pow_le_pow_right (by decide) (Nat.le_mul_of_pos_left _ hw)))
theorem lt_line {n : Nat} (h : n ≤ lim) : n < sizeLine := Nat.lt_of_le_of_lt (Nat.le_trans h lim_le) (by decide)
theorem le_line {n : Nat} (h : n ≤ lim) : n ≤ sizeLine := Nat.le_of_lt (lt_line h)
/-- the bits of a digit -/
def Wok (w : Nat) : Prop := 0 < w ∧ w ≤ 30
theorem fromTop_nonneg {w : Nat} : ∀ {ds : List Int}, Dig w ds → 0 ≤ fromTop w ds := fun {ds} h => by
  have e := fromTop_rev (w := w) ds.reverse
  rw [List.reverse_reverse] at e
  rw [e]
  exact val_nonneg fun d hd => h d (List.mem_reverse.mp hd)
theorem fromTop_lt {w : Nat} {ds : List Int} (h : Dig w ds) : fromTop w ds < 2 ^ (w * ds.length) := by
  have e := fromTop_rev (w := w) ds.reverse
  rw [List.reverse_reverse] at e
  rw [e, ← List.length_reverse]
  exact val_lt fun d hd => h d (List.mem_reverse.mp hd)
theorem fromTop_take {w : Nat} {ds : List Int} {i : Nat} {d : Int} (h : ds[i]? = some d) : fromTop w (ds.take (i + 1)) = fromTop w (ds.take i) * 2 ^ w + d := by
  unfold fromTop
  rw [List.take_add_one, h]
  simp [List.foldl_append]
/-- reading the digits of n from the top, what is read is never more than n -/
theorem fromTop_le {w : Nat} (hw : 0 < w) {ds : List Int} (h : Dig w ds) (i : Nat) : fromTop w (ds.take i) ≤ fromTop w ds := by
  have e : fromTop w ds = (ds.drop i).foldl (fun f d => f * 2 ^ w + d) (fromTop w (ds.take i)) := by
    unfold fromTop
    rw [← List.foldl_append, List.take_append_drop]
  have h0 := fromTop_nonneg (h.take i)
  rw [e, fromTop_aux]
  have h1 : 0 ≤ val w (ds.drop i).reverse := val_nonneg fun d hd => h d (List.mem_of_mem_drop (List.mem_reverse.mp hd))
  have h2 : fromTop w (ds.take i) * 1 ≤ fromTop w (ds.take i) * 2 ^ (w * (ds.drop i).length) := Int.mul_le_mul_of_nonneg_left (by have := two_pos (w * (ds.drop i).length); omega) h0
  omega
theorem fromTop_bound {w n : Nat} (hw : 0 < w) (i : Nat) : 0 ≤ fromTop w ((dgs w n).reverse.take i) ∧ (fromTop w ((dgs w n).reverse.take i)).natAbs ≤ n := by
  have h : Dig w (dgs w n).reverse := fun d hd => dig_dgs hw n d (List.mem_reverse.mp hd)
  have h0 := fromTop_nonneg (h.take i)
  have h1 := fromTop_le hw h i
  rw [fromTop_rev, val_dgs hw] at h1
  exact ⟨h0, by omega⟩
/-- the last digit is not 0 -/
theorem dgs_last {w n : Nat} (hw : 0 < w) (hn : 0 < n) : ∃ l t, dgs w n = l ++ [t] ∧ 0 < t ∧ t < 2 ^ w := by
  have h1 : dgs w n ≠ [] := fun z => by rw [dgs_eq_nil hw] at z; omega
  obtain ⟨l, t, e⟩ : ∃ l t, dgs w n = l ++ [t] := ⟨(dgs w n).dropLast, (dgs w n).getLast h1, (List.dropLast_concat_getLast h1).symm⟩
  have hd := dig_dgs hw n t (by rw [e]; simp)
  refine ⟨l, t, e, ?_, hd.2⟩
  rcases Int.lt_or_eq_of_le hd.1 with h | h
  · exact h
  · have h2 := norm_dgs hw n
    rw [e, ← h, norm_snoc0] at h2
    have h3 : (norm l).length ≤ l.length := by
      unfold norm
      rw [List.length_reverse]
      have := (List.dropWhile_sublist (· == (0 : Int)) (l := l.reverse)).length_le
      rwa [List.length_reverse] at this
    rw [h2] at h3
    rw [List.length_append, List.length_singleton] at h3
    omega
theorem log2_mul {a k : Nat} (h : a ≠ 0) : (a * 2 ^ k).log2 = a.log2 + k := by
  induction k with
  | zero => simp
  | succ k ih =>
    rw [Nat.pow_succ, ← Nat.mul_assoc, Nat.mul_comm (a * 2 ^ k) 2, Nat.log2_two_mul (Nat.mul_ne_zero h (Nat.ne_of_gt (two_posN k))), ih]; omega
theorem log2_add {a b k : Nat} (h : a ≠ 0) (hb : b < 2 ^ k) : (b + 2 ^ k * a).log2 = a.log2 + k := by
  have h1 : a * 2 ^ k ≤ b + 2 ^ k * a := by rw [Nat.mul_comm]; omega
  have h0 : b + 2 ^ k * a ≠ 0 := by have := Nat.mul_pos (two_posN k) (Nat.pos_of_ne_zero h); omega
  apply Nat.le_antisymm
  · have h2 : b + 2 ^ k * a < 2 ^ (a.log2 + k + 1) := by
      have h3 : a + 1 ≤ 2 ^ (a.log2 + 1) := Nat.lt_log2_self
      have h4 : 2 ^ k * (a + 1) ≤ 2 ^ k * 2 ^ (a.log2 + 1) := Nat.mul_le_mul_left _ h3
      rw [← Nat.pow_add, Nat.mul_add, Nat.mul_one] at h4
      rw [show a.log2 + k + 1 = k + (a.log2 + 1) by omega]
      omega
    have := (Nat.log2_lt h0).mpr h2
    omega
  · rw [← log2_mul h]
    exact (Nat.le_log2 h0).mpr (Nat.le_trans (Nat.log2_self_le (Nat.mul_ne_zero h (Nat.ne_of_gt (two_posN k)))) h1)
theorem bits_nat {n : Nat} (h : 0 < n) : Builtin.Int.intBits (n : Int) = n.log2 + 1 := by
  unfold Builtin.Int.intBits
  rw [if_neg (by simp; omega)]; simp
theorem bits_abs {n : Int} : Builtin.Int.intBits n = Builtin.Int.intBits (n.natAbs : Int) := by
  unfold Builtin.Int.intBits
  by_cases h : n = 0
  · subst h; rfl
  · rw [if_neg (by simpa using h), if_neg (by simp; omega)]; simp
theorem bits_dgs {w n : Nat} (hw : 0 < w) (hn : 0 < n) {l : List Int} {t : Int} (e : dgs w n = l ++ [t]) (ht : 0 < t) : Builtin.Int.intBits (n : Int) = l.length * w + Builtin.Int.intBits t := by
  have hv := val_dgs hw n
  have hd := dig_dgs hw n
  rw [e] at hv hd
  rw [val_snoc] at hv
  have h1 := val_nonneg (fun d h => hd d (List.mem_append_left _ h) : Dig w l)
  have h2 := val_lt (fun d h => hd d (List.mem_append_left _ h) : Dig w l)
  obtain ⟨a, ha⟩ : ∃ a : Nat, val w l = a := ⟨(val w l).toNat, by omega⟩
  obtain ⟨b, rfl⟩ : ∃ b : Nat, t = b := ⟨t.toNat, by omega⟩
  rw [ha] at hv h2
  have h3 : a < 2 ^ (w * l.length) := by exact_mod_cast h2
  have h4 : a + 2 ^ (w * l.length) * b = n := by exact_mod_cast hv
  have hb : b ≠ 0 := by omega
  rw [bits_nat hn, bits_nat (by omega), ← h4, log2_add hb h3, Nat.mul_comm w]
  omega
end Tb

/-! # Tb3: rules that the layer lacks: t[::-1] of a tuple -/
namespace HT
open PySem PySem.Spec PyProof.Rows
section
variable {prog : Program} {w : World} {A : Around} {E : Value → Shared → Prop} {s : Shared}
theorem sliceApplied_rev {sl : Addr} {vl vu : Value} {t : Tok} {n : Nat} {Q : Int × Int × Nat → Shared → Prop} (hs : s.heap.IsSliceOf sl vl vu (.int (-1) t)) (pl : IsPart vl none) (pu : IsPart vu none)
    (h : Q (((n : Int) - 1), -1, n) s) : wpAny (model prog w) A (Builtin.Slice.sliceApplied (.ref sl) (pure (n : Int))) Q E s := by
  obtain ⟨os, hos, hcs, hds⟩ := id hs
  unfold Builtin.Slice.sliceApplied Builtin.Slice.sliceFields
  refine wpAny_bind (wpAny_bind (wpAny_field hos hds (x := vl) rfl (wpAny_bind (wpAny_field hos hds (x := vu) rfl (wpAny_bind (wpAny_field hos hds (x := .int (-1) t) rfl (wpAny_pure ?_)))))))
  refine wpAny_bind (slicePart_int ?_)
  show wpAny _ _ (if ((-1 : Int) == 0) = true then _ else _) _ _ s
  rw [if_neg (by decide)]
  refine wpAny_bind (slicePart_ pl (wpAny_bind (slicePart_ pu (wpAny_bind (wpAny_pure ?_)))))
  have e : Builtin.Slice.sliceAdjust none none (-1) (n : Int) = ((n : Int) - 1, -1) := by
    unfold Builtin.Slice.sliceAdjust
    rfl
  show wpAny _ _ (match Builtin.Slice.sliceAdjust none none (-1) (n : Int) with | (lo, hi) => pure (lo, (-1 : Int), Builtin.Slice.slicePlaces lo hi (-1))) _ _ s
  rw [e]
  have e2 : Builtin.Slice.slicePlaces ((n : Int) - 1) (-1) (-1) = n := by
    unfold Builtin.Slice.slicePlaces
    have h1 : ¬ ((-1 : Int) > 0) := by decide
    simp only [h1, if_false]
    split <;> simp <;> omega
  show wpAny _ _ (pure ((n : Int) - 1, (-1 : Int), Builtin.Slice.slicePlaces ((n : Int) - 1) (-1) (-1))) _ _ s
  rw [e2]
  exact wpAny_pure h
theorem fmap_congr {α β : Type} {f g : α → Option β} : ∀ l : List α, (∀ a ∈ l, f a = g a) → l.filterMap f = l.filterMap g
  | [], _ => rfl
  | a :: r, h => by
    rw [List.filterMap_cons, List.filterMap_cons, h a (List.mem_cons_self ..), fmap_congr r fun b hb => h b (List.mem_cons_of_mem _ hb)]
theorem pick_rev (xs : Array Value) : ((List.range xs.size).filterMap fun (m : Nat) => xs[(((xs.size : Nat) : Int) - 1 + (m : Int) * (-1)).toNat]?).toArray = xs.toList.reverse.toArray := by
  have h := PySem.W.krv_pick xs
  unfold slicePick at h
  rw [PySem.W.krv_bounds] at h
  have h2 : ((sliceRange ((xs.size : Int) - 1) (-1) (-1)).filterMap (xs[·]?)).toArray = xs.toList.reverse.toArray := h
  rw [PySem.W.krv_sliceRange, List.filterMap_map] at h2
  rw [← h2]
  congr 1
  refine fmap_congr _ fun m hm => ?_
  have := List.mem_range.mp hm
  show xs[(((xs.size : Nat) : Int) - 1 + (m : Int) * (-1)).toNat]? = xs[xs.size - 1 - m]?
  rw [show (((xs.size : Nat) : Int) - 1 + (m : Int) * (-1)).toNat = xs.size - 1 - m by omega]
theorem getItem_tuple_rev {t sl : Addr} {items : Array Value} {vl vu : Value} {u : Tok} {Q : Value → Shared → Prop} (ht : IsTup s.heap t items) (hs : s.heap.IsSliceOf sl vl vu (.int (-1) u)) (pl : IsPart vl none) (pu : IsPart vu none)
    (h : Q (.ref s.heap.objs.size) { s with heap := s.heap.push { cls := .type "tuple", data := .seq items.toList.reverse.toArray } })
    (hsz : items.size ≤ sizeLine) : wpAny (model prog w) A (getItem (.ref t) (.ref sl)) Q E s := by
  have htake : sizeOk (.seq items.toList.reverse.toArray) := by
    show items.toList.reverse.toArray.size ≤ sizeLine
    rw [List.size_toArray, List.length_reverse, Array.length_toList]
    omega
  obtain ⟨os, hos, hcs, hds⟩ := id hs
  have hTs : s.TypeIs (.ref sl) "slice" := ⟨os, hos, hcs⟩
  unfold getItem
  try with_reducible refine wpAny_holding ?_
  first | refine wpAny_bind (wpAny_pure ?_) | skip
  refine wpAny_bind (wpAny_sequenceKey ht.typeIs (by decide) ?_)
  refine wpAny_bind (wpAny_callSpecial?_slot (name := Str.ofString "__getitem__") ht.typeIs PyProof.Rows.slot_tuple_getitem
    (wpAny_call_entry PyProof.Rows.slot_tuple_getitem ht.typeIs entry_tuple_getitem ?_ (args_tuple_getitem _ _)))
  show wpAny _ _ (Builtin.Tuple.tupleItemsOf (.ref t) >>= _) _ _ s
  refine wpAny_bind (tupleItemsOf_ ht ?_)
  refine wpAny_bind (wpAny_typeOf hTs ?_)
  rw [if_pos (by decide)]
  refine wpAny_bind (sliceApplied_rev hs pl pu ?_)
  have hno : ¬ (((((items.size : Nat) : Int) - 1 == 0) && ((-1 : Int) == 1) && (items.size == items.size)) = true) := by
    intro q
    rw [Bool.and_eq_true, Bool.and_eq_true] at q
    exact absurd q.1.2 (by decide)
  show wpAny _ _ (if ((((items.size : Nat) : Int) - 1 == 0) && ((-1 : Int) == 1) && (items.size == items.size)) = true then _ else _) _ _ s
  rw [if_neg hno, pick_rev]
  first
    | exact wpAny_bind (m := Builtin.Tuple.tupleExact _) (wpAny_newObj_type (wpAny_pure ⟨_, rfl, wpAny_pure h⟩) htake)
    | exact wpAny_bind (m := Builtin.Tuple.tupleExact _) (wpAny_newObj_type (wpAny_bind (wpAny_pure (wpAny_pure ⟨_, rfl, wpAny_pure h⟩))) htake)
    | exact wpAny_bind (wpAny_bind (m := Builtin.Tuple.tupleExact _) (wpAny_newObj_type (wpAny_pure (wpAny_pure ⟨_, rfl, wpAny_pure h⟩)) htake))
    | exact wpAny_bind (wpAny_bind (m := Builtin.Tuple.tupleExact _) (wpAny_newObj_type (wpAny_pure ⟨_, rfl, wpAny_pure h⟩) htake))
end
end HT
namespace Tb
open PySem PySem.Spec PyProof.Rows L2
/-- t[::-1], t a tuple -/
def tRevT (K : PySem.W.Frag) (te : TE) : TE := fun σ H Q => te σ H fun x H1 => ∃ a xs, x = .ref a ∧ SqT K H1 a xs ∧ ∀ p, H1 p = none → Q (.ref p) (upd H1 p (.tup xs.reverse))
theorem pe_revT {X : Cx} {e : Expr} {te : TE} {k : Nat} {p1 p2 p3 pos : Pos} (he : PE X e te) : PE X (.Subscript e (.Slice none none (some (.UnaryOp .USub (.Constant (.int 1) k p1) p2)) p3) pos) (tRevT X.K te) := by
  refine ⟨fun pins s σ H Q I h => ?_⟩
  refine Subscript_ (thn (he.run pins s σ H _ I h) fun v s1 ⟨x, H1, I1, r1, q1⟩ => ?_)
  obtain ⟨a, xs, ex, hx, q⟩ := q1
  subst ex
  cases r1
  have hst : PO X (some (.UnaryOp .USub (.Constant (.int 1) k p1) p2)) (tPart (tUn (rU fun i => .int (-i)) (tC (.int 1)))) := po_some (pe_un un_neg pe_int)
  refine wpAny_Slice (thn (po_none.run pins s1 σ H1 (fun o H2 => o = none ∧ H2 = H1) I1 ⟨rfl, rfl⟩) fun vl s2 ⟨l, H2, I2, pl, el, e2⟩ => ?_)
  subst el e2
  refine thn (po_none.run pins s2 σ H2 (fun o H3 => o = none ∧ H3 = H2) I2 ⟨rfl, rfl⟩) fun vu s3 ⟨u, H3, I3, pu, eu, e3⟩ => ?_
  subst eu e3
  refine thn (hst.run pins s3 σ H3 (fun o H4 => o = some (-1) ∧ H4 = H3) I3 ⟨1, rfl, -1, rfl, rfl, rfl⟩) fun vs s4 ⟨o, H4, I4, ps, eo, e4⟩ => ?_
  subst eo e4
  cases ps with
  | int i tk =>
  have I5 : Inv X pins σ H4 { s4 with heap := s4.heap.push { cls := .type "slice", data := .fields #[vl, vu, .int (-1) tk] } } := I4.kept (t' := s4.toks) fun b ob q => Heap.get?_push_of_some _ q
  obtain ⟨its, r, ht, hz⟩ := I5.tuple hx
  have hlen := r.length
  show wpAny (model X.prog X.w) X.A (subscriptTail e (.Slice none none (some (.UnaryOp .USub (.Constant (.int 1) k p1) p2)) p3) (.ref a) (.ref s4.heap.objs.size)) (EP X pins σ Q) X.xe { s4 with heap := s4.heap.push { cls := .type "slice", data := .fields #[vl, vu, .int (-1) tk] } }
  refine tail_any (ops := [.ref a, .ref s4.heap.objs.size]) ht.typeIs (PyProof.Rows.slot_tuple_getitem.lookup) ?_ (by with_unfolding_all rfl)
  refine HT.getItem_tuple_rev ht (Heap.IsSliceOf.new _ vl vu _) pl pu ?_ (by rw [List.size_toArray]; omega)
  refine ⟨.ref _, _, I5.laid (t' := s4.toks) (o := .tup xs.reverse) (fun b ob q => Heap.get?_push_of_some _ q) (Nat.le_refl _) ?_, rfl, q _ (I5.hok.fresh (Nat.le_refl _))⟩
  exact ⟨by rw [List.length_reverse]; exact hz, _, r.reverse, ⟨_, Heap.get?_push_size _ rfl, rfl, 0, rfl⟩⟩
end Tb

namespace PySem
open Sem (wp)
open AutoSeq1 (wpAny_loadPart')
set_option maxHeartbeats 1000000 in
theorem meets_enumerate_newT (t : Addr) (items : Array Value) :
    Meets (Builtin.«enumerate.__new__» ⟨[.type "enumerate", .ref t], []⟩) (fun _ R s => s.heap.IsTuple t items ∧
      R (.ok (.ret (.ref (s.heap.push { cls := .type "tuple_iterator", data := .fields #[.ref t, .int 0 0] }).objs.size)))
        { s with heap := (s.heap.push { cls := .type "tuple_iterator", data := .fields #[.ref t, .int 0 0] }).push { cls := .type "enumerate", data := .fields #[.none, .bool false, .ref s.heap.objs.size, rawInt 0, .none, .none] } }) :=
  .of_wp fun prog w A R s h => by
    obtain ⟨hp, g, d, tk, os⟩ := s; obtain ⟨h1, h⟩ := h
    have hsub := sub_enumerate
    have q1 : ∀ {A' : Around} {E : Value → Shared → Prop} {Q : Value → Shared → Prop}, Q (.ref hp.objs.size) ⟨hp.push { cls := .type "tuple_iterator", data := .fields #[.ref t, .int 0 0] }, g, d, tk, os⟩ → wpAny (model prog w) A' (pyIter (.ref t)) Q E ⟨hp, g, d, tk, os⟩ :=
      fun q => (begins_tuple t items).iter prog w _ _ ⟨hp, g, d, tk, os⟩ _ h1 q
    wp_walk using q1
    refine wpAny_stack_any fun st => wpAny_pure ?_
    split
    · rename_i c _ _ _ _ _
      cases (c == Value.type "enumerate")
      · wp_walk using q1
        exact ⟨_, rfl, h⟩
      · wp_walk using q1
        exact ⟨_, rfl, h⟩
    · wp_walk using q1
      exact ⟨_, rfl, h⟩
section
variable {prog : Program} {w : World} {A : Around} {E : Value → Shared → Prop} {s : Shared}
theorem call_enumerate_tuple {t : Addr} {items : Array Value} {Q : Value → Shared → Prop} (hL : s.heap.IsTuple t items)
    (h : ∀ h', IsEnum h' (s.heap.objs.size + 1) s.heap.objs.size 0 .none → h'.IsTupleIter s.heap.objs.size t 0 → h'.objs.size = s.heap.objs.size + 2 →
      (∀ b o, s.heap.get? b = some o → h'.get? b = some o) → Q (.ref (s.heap.objs.size + 1)) { s with heap := h' }) :
    wpAny (model prog w) A (call (.type "enumerate") [.ref t]) Q E s := by
  refine callType_new F.called_enumerate (by decide) (F.typeCall_enumerate_1 _) (F.newCall_enumerate_1 _) (fun obj => F.args_object_init_2 obj _) F.entry_enumerate_new
    (meets_enumerate_newT t items) ⟨hL, ?_⟩
  have hz : (s.heap.push { cls := .type "tuple_iterator", data := .fields #[.ref t, .int 0 0] }).objs.size = s.heap.objs.size + 1 := Heap.size_push ..
  show _ ∧ _
  rw [hz]
  have he : IsEnum ((s.heap.push { cls := .type "tuple_iterator", data := .fields #[.ref t, .int 0 0] }).push
      { cls := .type "enumerate", data := .fields #[.none, .bool false, .ref s.heap.objs.size, rawInt 0, .none, .none] }) (s.heap.objs.size + 1) s.heap.objs.size 0 .none := by
    have := Heap.get?_push_size (s.heap.push { cls := .type "tuple_iterator", data := .fields #[.ref t, .int 0 0] })
      (o := { cls := .type "enumerate", data := .fields #[.none, .bool false, .ref s.heap.objs.size, rawInt 0, .none, .none] }) rfl
    rw [hz] at this; exact this
  refine ⟨⟨_, he, rfl⟩, h _ he ⟨_, Heap.get?_push_of_some _ (Heap.get?_push_size _ rfl), rfl, rfl⟩ (by rw [Heap.size_push, hz]) fun b o x => Heap.get?_push_of_some _ (Heap.get?_push_of_some _ x)⟩
end
end PySem

namespace Tb
open PySem PySem.Spec PyProof.Rows L2
/-! ### enumerate(tuple) -/
def IteT (K : PySem.W.Frag) (a : Addr) : It :=
  ⟨fun i H => ∃ (xs : List V) (x : V), SqT K H a xs ∧ xs[i]? = some x, fun i H v H' => ∃ T x, v = .ref T ∧ H T = none ∧ H' = upd H T (.tup [.int (i : Nat), x]) ∧ ∀ xs, SqT K H a xs → xs[i]? = some x, fun i H => ∃ xs : List V, SqT K H a xs ∧ xs.length = i⟩
theorem turn_enumT {P : Program} {w : World} {K : PySem.W.Frag} {elts : List Expr} {kk : Nat} {tpos : Pos} (a e it : Addr) :
    Turn P w K (.Tuple elts kk tpos) (IteT K a) [e, it] e (fun i h => (∃ old, IsEnum h e it ((i : Nat) : Int) old) ∧ h.IsTupleIter it a i ∧ e ≠ it) where
  mem := by simp
  obj := fun i h st b hb => by
    obtain ⟨⟨old, he⟩, ⟨o, ho, hc, hd⟩, _⟩ := st
    have e' : b = e ∨ b = it := by simpa using hb
    rcases e' with z | z
    · rw [z]; exact ⟨_, he, fun v q => nomatch q⟩
    · rw [z]; exact ⟨o, ho, fun v q => by rw [hd] at q; cases q⟩
  keep := fun i h h' st k => let ⟨⟨old, he⟩, hi, hne⟩ := st; ⟨⟨old, k e (by simp) _ he⟩, hi.at fun o q => k it (by simp) o q, hne⟩
  item := by
    intro X hP hw hK hc i pins s σ H E I hf st hg
    subst hP hw hK
    obtain ⟨⟨old, he⟩, hit, hne⟩ := st
    obtain ⟨xs, x, hq, hx⟩ := hg
    obtain ⟨its, rv, p, hz⟩ := I.tuple hq
    obtain ⟨u, hu, ru⟩ := rv.get hx
    have p' : s.heap.IsTuple a its.toArray := p
    have hel : e < s.heap.objs.size := Heap.lt_size he
    have hil : it < s.heap.objs.size := by obtain ⟨_, q, _⟩ := hit; exact Heap.lt_size q
    have hai : a ≠ it := fun z => by
      obtain ⟨o, ho, hcl, _⟩ := p'
      obtain ⟨o2, ho2, hcl2, _⟩ := hit
      rw [z] at ho; rw [ho] at ho2; cases ho2; rw [hcl] at hcl2; exact absurd hcl2 (by decide)
    have hae : e ∉ [it, a] := fun z => by
      have z' : e = it ∨ e = a := by simpa using z
      rcases z' with z | z
      · exact hne z
      · obtain ⟨o, ho, hcl, _⟩ := p'
        have he' : s.heap.get? e = some _ := he
        rw [z] at he'; rw [ho] at he'; cases he'
        have h : Value.type "enumerate" = Value.type "tuple" := hcl
        exact absurd h (by decide)
    have hu' : its.toArray[i]? = some u := by simpa using hu
    have hlt : i < its.toArray.size := (Array.getElem?_eq_some_iff.mp hu').1
    have hhd : X.A.in1.handled = none := I.ok.hd hc
    refine wpAny_pyNext_enum_itemC (Draws.tuple hhd it a hai its.toArray) he ⟨hit, p'⟩ hlt hne hae fun y h' tk hy ho hst' hT hsz hk => ?_
    have hit' : h'.IsTupleIter it a (i + 1) := hst'.1
    have hyu : y = u := Option.some.inj (hy.symm.trans hu')
    subst hyu
    refine ⟨_, rfl, wpAny_letOwnedTupleGo_enum (s := { s with heap := h', toks := tk + 1 }) ho fun h'' he' sb => ?_⟩
    have hT2 : h''.get? s.heap.objs.size = some { cls := .type "tuple", data := .seq #[.int i tk, y] } := (sb.2 _ (Nat.ne_of_gt hel)).trans hT
    have new : ObjOk X.prog X.w (upd H s.heap.objs.size (.tup [.int (i : Nat), x])) h'' s.heap.objs.size (.tup [.int (i : Nat), x]) :=
      ⟨by show 2 ≤ sizeLine; decide, [.int i tk, y], .cons ⟨_, rfl⟩ (.cons ru .nil), ⟨_, hT2, rfl, _, rfl⟩⟩
    have I1 : Inv X pins σ (upd H s.heap.objs.size (.tup [.int (i : Nat), x])) { s with heap := h'', toks := tk + 1 } :=
      I.turnedNew (ch := [e, it]) (fun b ob hb q => (sb.2 b (fun z => hb (by simp [z]))).trans (hk b ob (fun z => hb (by simp [z])) (fun z => hb (by simp [z])) q)) hf (Nat.le_refl _) new
    refine ⟨.ref s.heap.objs.size, _, I1, rfl, ⟨_, x, rfl, I.hok.fresh (Nat.le_refl _), rfl, fun ys hy => by rw [I.tuple_inj hy hq]; exact hx⟩, ⟨⟨y, ?_⟩, hit'.at fun o q => (sb.2 it (Ne.symm hne)).trans q, hne⟩, fun b hb => ?_⟩
    · have e1 : ((i + 1 : Nat) : Int) = (i : Int) + 1 := by omega
      rw [e1]; exact he'
    · have hb' : b < s.heap.objs.size := by
        have e' : b = e ∨ b = it := by simpa using hb
        rcases e' with z | z
        · rw [z]; exact hel
        · rw [z]; exact hil
      rw [upd_ne (Nat.ne_of_lt hb')]
      exact (hf b hb).1
  done := by
    intro X hP hw hK hc i pins s σ H E I hf st hg
    subst hP hw hK
    obtain ⟨⟨old, he⟩, hit, hne⟩ := st
    obtain ⟨xs, hq, hx⟩ := hg
    obtain ⟨its, rv, p, hz⟩ := I.tuple hq
    have p' : s.heap.IsTuple a its.toArray := p
    obtain ⟨f0, f1, f2, f3, f4, f5⟩ := hf it (by simp)
    have hl := rv.length
    have hai : a ≠ it := fun z => by
      obtain ⟨o, ho, hcl, _⟩ := p'
      obtain ⟨o2, ho2, hcl2, _⟩ := hit
      rw [z] at ho; rw [ho] at ho2; cases ho2; rw [hcl] at hcl2; exact absurd hcl2 (by decide)
    have hhd : X.A.in1.handled = none := I.ok.hd hc
    have hi : i = its.toArray.size := by rw [List.size_toArray]; omega
    rw [hi] at hit
    exact wpAny_pyNext_enum_endD (Draws.tuple hhd it a hai its.toArray) he ⟨hit, p'⟩ fun h' eb => ⟨rfl, I.turned (t' := s.toks) (fun b o hb q => eb b o hb q) f0 f1 f3 f4 f5⟩
  self := fun A i s Q E st h => let ⟨⟨_, he⟩, _⟩ := st; wpAny_pyIter_enum he h
/-- enumerate of a list or a tuple -/
def iEnumR (K : PySem.W.Frag) (ta : TA) : TI := fun σ H R => ta σ H fun vs H1 => ∃ a xs, vs = [.ref a] ∧ ((SqL K H1 a xs ∧ R (Ite K a) H1) ∨ (SqT K H1 a xs ∧ R (IteT K a) H1))
theorem pi_enumR {X : Cx} {e : Expr} {ta : TA} {p pos tpos : Pos} {elts : List Expr} {kk : Nat} (hg : Gl X "enumerate") (hm : X.mg "enumerate" = none) (ha : PA X [e] ta) (hs : starEach [e] X.env = [(false, eval e X.env)] := by rfl) :
    PI X (.Tuple elts kk tpos) (.Call (.Name "enumerate" p) [e] [] pos) (iEnumR X.K ta) := by
  refine ⟨fun pins s σ H R I h => ?_⟩
  refine Call_ (ld_blt I hg hm boot_enumerate (PyProof.Rows.callWith_type1 (thn (ha.run pos pins s σ H _ I h) fun us s1 ⟨vs, H1, I1, r1, q1⟩ => ?_) hs rfl))
  obtain ⟨a, xs, ex, hq⟩ := q1
  subst ex
  cases r1 with
  | cons r rr =>
    cases rr
    cases r
    have hle' : ∀ b, b ∈ [s1.heap.objs.size + 1, s1.heap.objs.size] → s1.heap.objs.size ≤ b := fun b hb => by
      have e' : b = s1.heap.objs.size + 1 ∨ b = s1.heap.objs.size := by simpa using hb
      rcases e' with z | z
      · rw [z]; exact Nat.le_add_right _ _
      · rw [z]; exact Nat.le_refl _
    rcases hq with ⟨hq, q⟩ | ⟨hq, q⟩
    · obtain ⟨its, rv, p', hz⟩ := I1.list hq
      refine call_enumerate_list p'.isList fun h' he hit hsz hk => wpAny_pyIter_enum he ?_
      have I2 : Inv X pins σ H1 { s1 with heap := h' } := I1.kept (t' := s1.toks) hk
      exact ⟨s1.heap.objs.size + 1, [s1.heap.objs.size + 1, s1.heap.objs.size], _, _, H1, rfl, I2, turn_enum a (s1.heap.objs.size + 1) s1.heap.objs.size, ⟨⟨.none, he⟩, hit, Nat.succ_ne_self _⟩, fun b hb => I1.fpOk (hle' b hb) (I1.hok.fresh (hle' b hb)), q⟩
    · obtain ⟨its, rv, p', hz⟩ := I1.tuple hq
      refine call_enumerate_tuple (show s1.heap.IsTuple a its.toArray from p') fun h' he hit hsz hk => wpAny_pyIter_enum he ?_
      have I2 : Inv X pins σ H1 { s1 with heap := h' } := I1.kept (t' := s1.toks) hk
      exact ⟨s1.heap.objs.size + 1, [s1.heap.objs.size + 1, s1.heap.objs.size], _, _, H1, rfl, I2, turn_enumT a (s1.heap.objs.size + 1) s1.heap.objs.size, ⟨⟨.none, he⟩, hit, Nat.succ_ne_self _⟩, fun b hb => I1.fpOk (hle' b hb) (I1.hok.fresh (hle' b hb)), q⟩
/-! ### rows: a list or a tuple -/
/-- a list's or a tuple's items -/
def SqR (K : PySem.W.Frag) (H : Hp) (a : Addr) (xs : List V) : Prop := SqL K H a xs ∨ SqT K H a xs
def iRow (K : PySem.W.Frag) (tl : TE) : TI := fun σ H R => tl σ H fun x H1 => ∃ a, x = .ref a ∧ (((∃ xs, SqL K H1 a xs) ∧ R (Itl K a) H1) ∨ ((∃ xs, SqT K H1 a xs) ∧ R (Itt K a) H1))
theorem pi_row {X : Cx} {tg l : Expr} {tl : TE} (hl : PE X l tl) : PI X tg l (iRow X.K tl) := by
  refine ⟨fun pins s σ H R I h => ?_⟩
  refine thn (hl.run pins s σ H _ I h) fun v s1 ⟨x, H1, I1, r1, q1⟩ => ?_
  obtain ⟨a, e, q1⟩ := q1
  subst e
  cases r1
  rcases q1 with ⟨⟨xs, hq⟩, q⟩ | ⟨⟨xs, hq⟩, q⟩
  · obtain ⟨its, rv, p, hz⟩ := I1.list hq
    refine wpAny_pyIter_list p.isList ?_
    refine ⟨s1.heap.objs.size, [s1.heap.objs.size], _, _, H1, rfl, I1.kept (t' := s1.toks) fun b o e => Heap.get?_push_of_some _ e, turn_list a _, ⟨_, Heap.get?_push_size _ rfl, rfl, rfl⟩, fun b hb => ?_, q⟩
    have e : b = s1.heap.objs.size := by simpa using hb
    subst e
    exact I1.fpOk (Nat.le_refl _) (I1.hok.fresh (Nat.le_refl _))
  · obtain ⟨its, rv, p, hz⟩ := I1.tuple hq
    refine wpAny_pyIter_tuple (show s1.heap.IsTuple a its.toArray from p) ?_
    refine ⟨s1.heap.objs.size, [s1.heap.objs.size], _, _, H1, rfl, I1.kept (t' := s1.toks) fun b o e => Heap.get?_push_of_some _ e, turn_tuple a _, ⟨_, Heap.get?_push_size _ rfl, rfl, rfl⟩, fun b hb => ?_, q⟩
    have e : b = s1.heap.objs.size := by simpa using hb
    subst e
    exact I1.fpOk (Nat.le_refl _) (I1.hok.fresh (Nat.le_refl _))
theorem SqR.kept {K : PySem.W.Frag} {L : List Addr} {H H' : Hp} {a : Addr} {xs : List V} (h : SqR K H a xs) (b : But L H H') (n : a ∉ L) : SqR K H' a xs := by
  rcases h with ((h | ⟨o, h⟩) | h) | ((h | ⟨o, h⟩) | h)
  · exact .inl (.inl (.inl (b a _ h n)))
  · exact .inl (.inl (.inr ⟨o, b a _ h n⟩))
  · exact .inl (.inr h)
  · exact .inr (.inl (.inl (b a _ h n)))
  · exact .inr (.inl (.inr ⟨o, b a _ h n⟩))
  · exact .inr (.inr h)
theorem SqR.ex {K : PySem.W.Frag} {H H' : Hp} {a : Addr} {xs : List V} (h : SqR K H a xs) (b : But [] H H') : SqR K H' a xs := h.kept b (by simp)
section
variable {K : PySem.W.Frag} {tl : TE} {ta : TA} {g : TG} {tb u : TS} {D : Ends} {σ : L2.St} {H : Hp}
/-- for over a row -/
theorem floopW {xs : List V} (A : Addr → Hp → Prop) (Pv : Addr → Nat → L2.St → Hp → Prop) (hl : ∀ Q : VK, (∀ a H1, A a H1 → Q (.ref a) H1) → tl σ H Q) (h0 : ∀ a H1, A a H1 → Pv a 0 σ H1)
    (hq : (∀ a i σ H, i ≤ xs.length → Pv a i σ H → SqL K H a xs) ∨ (∀ a i σ H, i ≤ xs.length → Pv a i σ H → SqT K H a xs))
    (hs : ∀ (V : Nat → L2.St → Hp → Prop) a, (∀ i σ H, Pv a i σ H → V i σ H) → ∀ i x σ H, xs[i]? = some x → Pv a i σ H → g x σ H fun σ2 H2 => tb { nx := V (i + 1), rt := D.rt, bk := D.nx, ct := V (i + 1) } σ2 H2)
    (hd : ∀ a σ H, Pv a xs.length σ H → D.nx σ H) : tFor (iRow K tl) g tb D σ H :=
  hl _ fun a H1 hA => ⟨a, rfl, by
    rcases hq with hq | hq
    · exact .inl ⟨⟨xs, hq a 0 σ H1 (Nat.zero_le _) (h0 a H1 hA)⟩, for_list (xs := xs) (Pv a) (h0 a H1 hA) (hq a) (hs (Pv a) a fun _ _ _ h => h) (hd a)⟩
    · exact .inr ⟨⟨xs, hq a 0 σ H1 (Nat.zero_le _) (h0 a H1 hA)⟩, for_tup (xs := xs) (Pv a) (h0 a H1 hA) (hq a) (hs (Pv a) a fun _ _ _ h => h) (hd a)⟩⟩
theorem fcutW {xs : List V} (Mid : L2.St → Hp → Prop) (A : Addr → Hp → Prop) (Pv : Addr → Nat → L2.St → Hp → Prop) (hl : ∀ Q : VK, (∀ a H1, A a H1 → Q (.ref a) H1) → tl σ H Q) (h0 : ∀ a H1, A a H1 → Pv a 0 σ H1)
    (hq : (∀ a i σ H, i ≤ xs.length → Pv a i σ H → SqL K H a xs) ∨ (∀ a i σ H, i ≤ xs.length → Pv a i σ H → SqT K H a xs))
    (hs : ∀ (V : Nat → L2.St → Hp → Prop) (M : L2.St → Hp → Prop) a, (∀ i σ H, Pv a i σ H → V i σ H) → (∀ σ H, Mid σ H → M σ H) → ∀ i x σ H, xs[i]? = some x → Pv a i σ H → g x σ H fun σ2 H2 => tb { nx := V (i + 1), rt := D.rt, bk := M, ct := V (i + 1) } σ2 H2)
    (hd : ∀ a σ H, Pv a xs.length σ H → Mid σ H) (hu : ∀ σ' H', Mid σ' H' → u D σ' H') : Evl.tCut (tFor (iRow K tl) g tb) u D σ H :=
  ⟨Mid, floopW (D := { nx := Mid, rt := D.rt, bk := D.bk, ct := D.ct }) (xs := xs) A Pv hl h0 hq (fun V a hV => hs V Mid a hV fun _ _ h => h) hd, hu⟩
/-- for i, x in enumerate(row) -/
theorem for_enumL {a : Addr} {xs : List V} (Pv : Nat → L2.St → Hp → Prop) (h0 : Pv 0 σ H) (hq : ∀ i σ H, Pv i σ H → SqL K H a xs)
    (hs : ∀ i x T σ H, xs[i]? = some x → Pv i σ H → H T = none → g (.ref T) σ (upd H T (.tup [.int (i : Nat), x])) fun σ2 H2 => tb { D with nx := Pv (i + 1), ct := Pv (i + 1), bk := D.nx } σ2 H2) (hd : ∀ σ H, Pv xs.length σ H → D.nx σ H) :
    ∃ W : Nat → Nat → L2.St → Hp → Prop, (∃ m, W 0 m σ H) ∧ ∀ i m σ H, W i m σ H →
      ((Ite K a).stop i H ∧ D.nx σ H) ∨ ((Ite K a).go i H ∧ ∃ N : L2.St → Hp → Prop, (∀ σ' H', N σ' H' → ∃ m', m' < m ∧ W (i + 1) m' σ' H') ∧ ∀ x H', (Ite K a).yld i H x H' → g x σ H' fun σ2 H2 => tb { D with nx := N, ct := N, bk := D.nx } σ2 H2) := by
  refine ⟨fun i m σ H => m = xs.length - i ∧ i ≤ xs.length ∧ Pv i σ H, ⟨xs.length, by simp, Nat.zero_le _, h0⟩, ?_⟩
  rintro i m σ H ⟨rfl, hi, p⟩
  have q := hq i σ H p
  by_cases hlt : i < xs.length
  · refine .inr ⟨⟨xs, xs[i], q, by simp [hlt]⟩, Pv (i + 1), fun σ' H' p' => ⟨xs.length - (i + 1), by omega, rfl, hlt, p'⟩, fun x H' y => ?_⟩
    obtain ⟨T, y, rfl, hT, rfl, hy⟩ := y
    exact hs i y T σ H (hy xs q) p hT
  · have e : i = xs.length := by omega
    subst e
    exact .inl ⟨⟨xs, q, Nat.le_refl _⟩, hd σ H p⟩
theorem for_enumT {a : Addr} {xs : List V} (Pv : Nat → L2.St → Hp → Prop) (h0 : Pv 0 σ H) (hq : ∀ i σ H, Pv i σ H → SqT K H a xs)
    (hs : ∀ i x T σ H, xs[i]? = some x → Pv i σ H → H T = none → g (.ref T) σ (upd H T (.tup [.int (i : Nat), x])) fun σ2 H2 => tb { D with nx := Pv (i + 1), ct := Pv (i + 1), bk := D.nx } σ2 H2) (hd : ∀ σ H, Pv xs.length σ H → D.nx σ H) :
    ∃ W : Nat → Nat → L2.St → Hp → Prop, (∃ m, W 0 m σ H) ∧ ∀ i m σ H, W i m σ H →
      ((IteT K a).stop i H ∧ D.nx σ H) ∨ ((IteT K a).go i H ∧ ∃ N : L2.St → Hp → Prop, (∀ σ' H', N σ' H' → ∃ m', m' < m ∧ W (i + 1) m' σ' H') ∧ ∀ x H', (IteT K a).yld i H x H' → g x σ H' fun σ2 H2 => tb { D with nx := N, ct := N, bk := D.nx } σ2 H2) := by
  refine ⟨fun i m σ H => m = xs.length - i ∧ i ≤ xs.length ∧ Pv i σ H, ⟨xs.length, by simp, Nat.zero_le _, h0⟩, ?_⟩
  rintro i m σ H ⟨rfl, hi, p⟩
  have q := hq i σ H p
  by_cases hlt : i < xs.length
  · refine .inr ⟨⟨xs, xs[i], q, by simp [hlt]⟩, Pv (i + 1), fun σ' H' p' => ⟨xs.length - (i + 1), by omega, rfl, hlt, p'⟩, fun x H' y => ?_⟩
    obtain ⟨T, y, rfl, hT, rfl, hy⟩ := y
    exact hs i y T σ H (hy xs q) p hT
  · have e : i = xs.length := by omega
    subst e
    exact .inl ⟨⟨xs, q, rfl⟩, hd σ H p⟩
theorem floopE {a : Addr} {xs : List V} (Pv : Nat → L2.St → Hp → Prop) (hl : ∀ Q : List V → Hp → Prop, Q [.ref a] H → ta σ H Q) (h0 : Pv 0 σ H)
    (hq : (∀ i σ H, Pv i σ H → SqL K H a xs) ∨ (∀ i σ H, Pv i σ H → SqT K H a xs))
    (hs : ∀ (V : Nat → L2.St → Hp → Prop), (∀ i σ H, Pv i σ H → V i σ H) → ∀ i x T σ H, xs[i]? = some x → Pv i σ H → H T = none → g (.ref T) σ (upd H T (.tup [.int (i : Nat), x])) fun σ2 H2 => tb { nx := V (i + 1), rt := D.rt, bk := D.nx, ct := V (i + 1) } σ2 H2)
    (hd : ∀ σ H, Pv xs.length σ H → D.nx σ H) : tFor (iEnumR K ta) g tb D σ H :=
  hl _ ⟨a, xs, rfl, by
    rcases hq with hq | hq
    · exact .inl ⟨hq 0 σ H h0, for_enumL Pv h0 hq (hs Pv fun _ _ _ h => h) hd⟩
    · exact .inr ⟨hq 0 σ H h0, for_enumT Pv h0 hq (hs Pv fun _ _ _ h => h) hd⟩⟩
theorem fcutE {a : Addr} {xs : List V} (Mid : L2.St → Hp → Prop) (Pv : Nat → L2.St → Hp → Prop) (hl : ∀ Q : List V → Hp → Prop, Q [.ref a] H → ta σ H Q) (h0 : Pv 0 σ H)
    (hq : (∀ i σ H, Pv i σ H → SqL K H a xs) ∨ (∀ i σ H, Pv i σ H → SqT K H a xs))
    (hs : ∀ (V : Nat → L2.St → Hp → Prop) (M : L2.St → Hp → Prop), (∀ i σ H, Pv i σ H → V i σ H) → (∀ σ H, Mid σ H → M σ H) → ∀ i x T σ H, xs[i]? = some x → Pv i σ H → H T = none → g (.ref T) σ (upd H T (.tup [.int (i : Nat), x])) fun σ2 H2 => tb { nx := V (i + 1), rt := D.rt, bk := M, ct := V (i + 1) } σ2 H2)
    (hd : ∀ σ H, Pv xs.length σ H → Mid σ H) (hu : ∀ σ' H', Mid σ' H' → u D σ' H') : Evl.tCut (tFor (iEnumR K ta) g tb) u D σ H :=
  ⟨Mid, floopE (D := { nx := Mid, rt := D.rt, bk := D.bk, ct := D.ct }) Pv hl h0 hq (fun V hV => hs V Mid hV fun _ _ h => h) hd, hu⟩
end
theorem SqL.but {K : PySem.W.Frag} {L : List Addr} {H H' : Hp} {a : Addr} {xs : List V} (h : SqL K H a xs) (b : But L H H') (n : a ∉ L) : SqL K H' a xs := by
  rcases h with ((h | ⟨o, h⟩) | h)
  · exact .inl (.inl (b a _ h n))
  · exact .inl (.inr ⟨o, b a _ h n⟩)
  · exact .inr h
theorem SqT.but {K : PySem.W.Frag} {L : List Addr} {H H' : Hp} {a : Addr} {xs : List V} (h : SqT K H a xs) (b : But L H H') (n : a ∉ L) : SqT K H' a xs := by
  rcases h with ((h | ⟨o, h⟩) | h)
  · exact .inl (.inl (b a _ h n))
  · exact .inl (.inr ⟨o, b a _ h n⟩)
  · exact .inr h
theorem sqr_or {K : PySem.W.Frag} {H : Hp} {a : Addr} {xs : List V} {Pv : Nat → L2.St → Hp → Prop} (h : SqR K H a xs) (hb : ∀ i σ H', Pv i σ H' → ∃ L, But L H H' ∧ a ∉ L) :
    (∀ i σ H', Pv i σ H' → SqL K H' a xs) ∨ (∀ i σ H', Pv i σ H' → SqT K H' a xs) := by
  rcases h with h | h
  · left; intro i σ H' p; obtain ⟨L, b, n⟩ := hb i σ H' p; exact SqL.but h b n
  · right; intro i σ H' p; obtain ⟨L, b, n⟩ := hb i σ H' p; exact SqT.but h b n
end Tb

/-! # Tb4: texts as lists of signs; s * n; xs[-2::-1] -/
namespace Tb
open PySem PySem.Spec PyProof.Rows L2
/-- a text of these signs -/
def S (l : List Nat) : Str := ⟨l.toArray⟩
theorem S_ofString (s : String) : PySem.Str.ofString s = S (s.toList.map Char.toNat) := PySem.Str.ofString_eq_toList s
theorem S_append (a b : List Nat) : S a ++ S b = S (a ++ b) := by
  show PySem.Str.append (S a) (S b) = _
  unfold PySem.Str.append S
  simp
theorem S_len (a : List Nat) : (S a).length = a.length := by
  show (a.toArray).size = _; simp
theorem S_inj {a b : List Nat} (h : S a = S b) : a = b := by
  unfold S at h
  injection h with h
  exact List.toArray_inj h
theorem S_cps (a : List Nat) : (S a).cps.toList = a := by unfold S; simp
theorem S_of (x : Str) : S x.cps.toList = x := by unfold S; simp
theorem S_nil : S [] = ("" : Str) := by decide +kernel
theorem foldl_app : ∀ (n : Nat) (l acc : List Nat), (List.replicate n l.toArray).foldl (· ++ ·) acc.toArray = (acc ++ (List.replicate n l).flatten).toArray
  | 0, l, acc => by simp
  | n + 1, l, acc => by
    rw [List.replicate_succ, List.foldl_cons, List.append_toArray, foldl_app n l (acc ++ l), List.replicate_succ, List.flatten_cons, List.append_assoc]
theorem mul_S (l : List Nat) (n : Int) : Txt.mul (S l) n = S (List.replicate n.toNat l).flatten := by
  unfold Txt.mul
  by_cases h1 : n < 1
  · rw [if_pos h1, show n.toNat = 0 by omega]; rfl
  · rw [if_neg h1]
    by_cases h2 : (n == 1 || (S l).length == 0) = true
    · rw [if_pos h2]
      rcases Bool.or_eq_true_iff.mp h2 with h | h
      · have : n = 1 := by simpa using h
        rw [this]; simp
      · have : l = [] := by
          have h3 : (S l).length = 0 := by simpa using h
          rw [S_len] at h3; exact List.length_eq_zero_iff.mp h3
        subst this
        simp
    · rw [if_neg h2]
      have h := foldl_app n.toNat l []
      unfold S
      rw [show (([] : List Nat).toArray) = #[] from rfl, List.nil_append] at h
      rw [h]
theorem op_repS {X : Cx} : OpR X (binaryOp .Mult) (fun x y H Q => ∃ (l : List Nat) (i : Int), x = .str (S l) ∧ y = .int i ∧ (-(2 ^ 62) < i ∧ i < 2 ^ 40) ∧ l.length * i.toNat ≤ 16777216 ∧ Q (.str (S (List.replicate i.toNat l).flatten)) H) := by
  intro pins s σ H x y v u Q I rx ry h
  obtain ⟨l, i, rfl, rfl, ⟨h1, h2⟩, h3, q⟩ := h
  obtain ⟨t, rfl⟩ := rx
  obtain ⟨t', rfl⟩ := ry
  refine SB.mul ⟨?_, fun _ _ => ?_, fun hn _ => ?_⟩ fun t' k => ⟨.str _, H, I.tok _, ⟨_, rfl⟩, by rw [mul_S]; exact q⟩
  · rw [Bool.or_eq_false_iff]; constructor
    · exact decide_eq_false (by omega)
    · exact decide_eq_false (by omega)
  · rw [S_len]
    have hi : ¬ i < 1 := by assumption
    have h4 : (l.length : Int) * i ≤ 16777216 := by
      have h : ((l.length * i.toNat : Nat) : Int) ≤ ((16777216 : Nat) : Int) := Int.ofNat_le.mpr h3
      rw [Int.natCast_mul, show ((i.toNat : Nat) : Int) = i by omega] at h
      exact h
    have h5 : (l.length : Int) ≤ (2 ^ 63 - 1) / i := Int.le_ediv_of_mul_le (by omega) (by omega)
    omega
  · rw [S_len]
    unfold Builtin.Str.tooLong
    refine decide_eq_false ?_
    rw [sizeLine_eq]; omega
/-- xs[-2::-1], xs a list -/
def tBack2 (K : PySem.W.Frag) (te : TE) : TE := fun σ H Q => te σ H fun x H1 => ∃ a xs, x = .ref a ∧ SqL K H1 a xs ∧ ∀ p, H1 p = none → Q (.ref p) (upd H1 p (.lst xs.dropLast.reverse))
theorem back2_bounds (n : Nat) : sliceBounds (some (-2)) none (some (-1)) n = ((((n - 1 : Nat) : Int) - 1), -1, -1) := by
  unfold sliceBounds
  have h1 : ¬ ((-1 : Int) > 0) := by decide
  simp only [Option.getD_some, h1, if_false]
  refine Prod.ext ?_ rfl
  show max (-1) (min (if (-2 : Int) < 0 then -2 + (n : Int) else -2) ((n : Int) - 1)) = _
  rw [if_pos (by decide)]
  rcases n with _ | n
  · rfl
  · simp; omega
theorem pick_back2 (items : Array Value) : slicePick items (some (-2)) none (some (-1)) = items.toList.dropLast.reverse.toArray := by
  obtain ⟨l⟩ := items
  have h := PySem.W.krv_pick l.dropLast.toArray
  unfold slicePick at h ⊢
  rw [PySem.W.krv_bounds] at h
  rw [back2_bounds]
  have h2 : ((sliceRange ((l.dropLast.toArray.size : Int) - 1) (-1) (-1)).filterMap (l.dropLast.toArray[·]?)).toArray = l.dropLast.reverse.toArray := h
  show ((sliceRange (((l.toArray.size - 1 : Nat) : Int) - 1) (-1) (-1)).filterMap (l.toArray[·]?)).toArray = l.dropLast.reverse.toArray
  rw [← h2]
  have e : l.dropLast.toArray.size = l.toArray.size - 1 := by simp
  rw [e, PySem.W.krv_sliceRange, List.filterMap_map, List.filterMap_map]
  congr 1
  refine HT.fmap_congr _ fun k hk => ?_
  have := List.mem_range.mp hk
  show l.toArray[l.toArray.size - 1 - 1 - k]? = l.dropLast.toArray[l.toArray.size - 1 - 1 - k]?
  simp only [List.getElem?_toArray, List.size_toArray] at *
  rw [List.getElem?_dropLast]
  rw [if_pos (by omega)]
theorem pe_back2 {X : Cx} {e : Expr} {te : TE} {k k2 : Nat} {p1 p2 p3 p4 p5 pos : Pos} (he : PE X e te) : PE X (.Subscript e (.Slice (some (.UnaryOp .USub (.Constant (.int 2) k2 p4) p5)) none (some (.UnaryOp .USub (.Constant (.int 1) k p1) p2)) p3) pos) (tBack2 X.K te) := by
  refine ⟨fun pins s σ H Q I h => ?_⟩
  refine Subscript_ (thn (he.run pins s σ H _ I h) fun v s1 ⟨x, H1, I1, r1, q1⟩ => ?_)
  obtain ⟨a, xs, ex, hx, q⟩ := q1
  subst ex
  cases r1
  have hst : PO X (some (.UnaryOp .USub (.Constant (.int 1) k p1) p2)) (tPart (tUn (rU fun i => .int (-i)) (tC (.int 1)))) := po_some (pe_un un_neg pe_int)
  have hlo : PO X (some (.UnaryOp .USub (.Constant (.int 2) k2 p4) p5)) (tPart (tUn (rU fun i => .int (-i)) (tC (.int 2)))) := po_some (pe_un un_neg pe_int)
  refine wpAny_Slice (thn (hlo.run pins s1 σ H1 (fun o H2 => o = some (-2) ∧ H2 = H1) I1 ⟨2, rfl, -2, rfl, rfl, rfl⟩) fun vl s2 ⟨l, H2, I2, pl, el, e2⟩ => ?_)
  subst el e2
  refine thn (po_none.run pins s2 σ H2 (fun o H3 => o = none ∧ H3 = H2) I2 ⟨rfl, rfl⟩) fun vu s3 ⟨u, H3, I3, pu, eu, e3⟩ => ?_
  subst eu e3
  refine thn (hst.run pins s3 σ H3 (fun o H4 => o = some (-1) ∧ H4 = H3) I3 ⟨1, rfl, -1, rfl, rfl, rfl⟩) fun vs s4 ⟨o, H4, I4, ps, eo, e4⟩ => ?_
  subst eo e4
  have I5 : Inv X pins σ H4 { s4 with heap := s4.heap.push { cls := .type "slice", data := .fields #[vl, vu, vs] } } := I4.kept (t' := s4.toks) fun b ob q => Heap.get?_push_of_some _ q
  obtain ⟨its, r, ht, hz⟩ := I5.list hx
  have hlen := r.length
  show wpAny (model X.prog X.w) X.A (subscriptTail e (.Slice (some (.UnaryOp .USub (.Constant (.int 2) k2 p4) p5)) none (some (.UnaryOp .USub (.Constant (.int 1) k p1) p2)) p3) (.ref a) (.ref s4.heap.objs.size)) (EP X pins σ Q) X.xe { s4 with heap := s4.heap.push { cls := .type "slice", data := .fields #[vl, vu, vs] } }
  refine tail_any (ops := [.ref a, .ref s4.heap.objs.size]) ht.isList.typeIs (PySem.slot_list_getitem.lookup) ?_ (by with_unfolding_all rfl)
  refine wpAny_getItem_list_slice ht.isList (Heap.IsSliceOf.new _ vl vu vs) pl pu ps (by decide) ?_ (by rw [List.size_toArray]; omega)
  rw [pick_back2]
  refine ⟨.ref _, _, I5.laid (t' := s4.toks) (o := .lst xs.dropLast.reverse) (fun b ob q => Heap.get?_push_of_some _ q) (Nat.le_refl _) ?_, rfl, q _ (I5.hok.fresh (Nat.le_refl _))⟩
  refine ⟨by rw [List.length_reverse, List.length_dropLast]; omega, _, 0, ?_, Heap.get?_push_size _ rfl⟩
  have := (r.take (xs.length - 1)).reverse
  rw [List.dropLast_eq_take, show its.dropLast = its.take (xs.length - 1) by rw [List.dropLast_eq_take, hlen]]
  exact this
/-! ### rules within a comprehension's block: K by its name -/
section
variable {X : Cx} {K : PySem.W.Frag} {e o a b i : Expr} {es : List Expr} {ta tb : TE} {t : TA} {pos p p2 apos : Pos} {f : Str} {CX : CXT} {k j : Nat} {ps : List Str} {dvs : List V} {sp : Sp} {E : XK} {x C m : Str} {lo hi : Option Expr} {tl th : TO}
theorem pe_fldK (he : PE X e ta) (hb : attributeBase e f X.env (eval e X.env) = eval e X.env) (hK : X.K = K := by rfl) : PE X (.Attribute e f pos) (tFld K ta f) := by subst hK; exact pe_fld he hb
theorem ix_listK (hK : X.K = K := by rfl) : IxR X (rIxL K) := by subst hK; exact ix_list
theorem ix_tupK (hK : X.K = K := by rfl) : IxR X (rIxT K) := by subst hK; exact ix_tup
theorem sl_listK (hK : X.K = K := by rfl) : SlR X (rSlL K) := by subst hK; exact sl_list
theorem sl_tupAK (hK : X.K = K := by rfl) : SlR X (rSlA K) := by subst hK; exact sl_tupA
theorem call_len_seqK (hK : X.K = K := by rfl) : CallR X (.builtin "len") (fun xs H Q => ∃ p n, xs = [.ref p] ∧ ((∃ ys : List V, SqL K H p ys ∧ n = (ys.length : Int)) ∨ ∃ ys : List V, SqT K H p ys ∧ n = (ys.length : Int)) ∧ Q (.int n) H) := by
  subst hK
  intro pins s σ H xs us Q I r h
  obtain ⟨p, n, rfl, h, q⟩ := h
  rcases h with ⟨ys, h, rfl⟩ | ⟨ys, h, rfl⟩
  · exact call_len_seq pins s σ H _ us Q I r ⟨p, ys, rfl, .inl h, q⟩
  · exact call_len_seq pins s σ H _ us Q I r ⟨p, ys, rfl, .inr h, q⟩
theorem op_in_seqK (hK : X.K = K := by rfl) : OpR X (compareOp .In) (rIn K false) := by subst hK; exact op_in_seq
theorem op_notIn_seqK (hK : X.K = K := by rfl) : OpR X (compareOp .NotIn) (rIn K true) := by subst hK; exact op_notIn_seq
theorem call_isiK' (hK : X.K = K := by rfl) : CallR X (.builtin "isinstance") (rIsi K) := by subst hK; exact call_isi
end
end Tb

/-! # Tb5: digits of any base, texts of numbers, in plain Lean -/
namespace Tb
open PySem
/-- digits of n to the base B, the least first -/
def ldig (B n : Nat) : List Nat := if h : n = 0 ∨ B ≤ 1 then [] else n % B :: ldig B (n / B)
termination_by n
decreasing_by exact Nat.div_lt_self (by omega) (by omega)
def valN (B : Nat) : List Nat → Nat
  | [] => 0
  | d :: r => d + B * valN B r
/-- just t digits -/
def padL (B : Nat) : Nat → Nat → List Nat
  | 0, _ => []
  | t + 1, v => v % B :: padL B t (v / B)
section
variable {B : Nat} (hB : 2 ≤ B)
include hB
theorem ldig_zero : ldig B 0 = [] := by rw [ldig]; simp
theorem ldig_step {n : Nat} (hn : 0 < n) : ldig B n = n % B :: ldig B (n / B) := by rw [ldig, dif_neg (by omega)]
theorem ldig_nil {n : Nat} : ldig B n = [] ↔ n = 0 := by
  constructor
  · intro h
    rcases Nat.eq_zero_or_pos n with z | z
    · exact z
    · rw [ldig_step hB z] at h; cases h
  · rintro rfl; exact ldig_zero hB
theorem ldig_lt (n : Nat) : ∀ d ∈ ldig B n, d < B := by
  induction n using Nat.strongRecOn with
  | _ n ih =>
    rcases Nat.eq_zero_or_pos n with z | z
    · rw [z, ldig_zero hB]; simp
    · rw [ldig_step hB z]
      intro d hd
      rcases List.mem_cons.mp hd with rfl | hd
      · exact Nat.mod_lt _ (by omega)
      · exact ih _ (Nat.div_lt_self z (by omega)) d hd
theorem valN_ldig (n : Nat) : valN B (ldig B n) = n := by
  induction n using Nat.strongRecOn with
  | _ n ih =>
    rcases Nat.eq_zero_or_pos n with z | z
    · rw [z, ldig_zero hB]; rfl
    · rw [ldig_step hB z]
      show n % B + B * valN B (ldig B (n / B)) = n
      rw [ih _ (Nat.div_lt_self z (by omega))]
      exact Nat.mod_add_div n B
theorem valN_snoc {l : List Nat} {d : Nat} : valN B (l ++ [d]) = valN B l + B ^ l.length * d := by
  induction l with
  | nil => simp [valN]
  | cons a r ih =>
    show a + B * valN B (r ++ [d]) = a + B * valN B r + B ^ (r.length + 1) * d
    rw [ih, Nat.mul_add, Nat.pow_succ, ← Nat.mul_assoc, Nat.mul_comm B (B ^ r.length), Nat.add_assoc]
theorem valN_lt {l : List Nat} (h : ∀ d ∈ l, d < B) : valN B l < B ^ l.length := by
  induction l with
  | nil => simp [valN]
  | cons a r ih =>
    have h1 := h a (List.mem_cons_self ..)
    have h2 := ih fun d hd => h d (List.mem_cons_of_mem _ hd)
    show a + B * valN B r < B ^ (r.length + 1)
    have h3 : B * (valN B r + 1) ≤ B * B ^ r.length := Nat.mul_le_mul_left _ h2
    rw [Nat.pow_succ, Nat.mul_comm (B ^ r.length)]
    rw [Nat.mul_add] at h3; omega
/-- a list of digits whose last one is not 0 is the digits of its value -/
theorem ldig_val {l : List Nat} (h : ∀ d ∈ l, d < B) (hl : l = [] ∨ B ^ (l.length - 1) ≤ valN B l) : ldig B (valN B l) = l := by
  induction l with
  | nil => exact ldig_zero hB
  | cons a r ih =>
    have h1 := h a (List.mem_cons_self ..)
    have h2 : ∀ d ∈ r, d < B := fun d hd => h d (List.mem_cons_of_mem _ hd)
    have hp : B ^ r.length ≤ a + B * valN B r := by
      rcases hl with hl | hl
      · cases hl
      · simpa [valN] using hl
    have hpos : 0 < a + B * valN B r := Nat.lt_of_lt_of_le (Nat.pow_pos (by omega)) hp
    show ldig B (a + B * valN B r) = a :: r
    rw [ldig_step hB hpos, Nat.add_mul_mod_self_left, Nat.mod_eq_of_lt h1, Nat.add_mul_div_left _ _ (by omega), Nat.div_eq_of_lt h1, Nat.zero_add, ih h2 ?_]
    rcases r with _ | ⟨b, r⟩
    · exact .inl rfl
    · right
      simp only [List.length_cons, Nat.add_sub_cancel] at hp ⊢
      rcases Nat.lt_or_ge (valN B (b :: r)) (B ^ r.length) with q | q
      · have h3 : B * (valN B (b :: r) + 1) ≤ B * B ^ r.length := Nat.mul_le_mul_left _ q
        rw [Nat.pow_succ, Nat.mul_comm (B ^ r.length)] at hp
        rw [Nat.mul_add] at h3; omega
      · exact q
theorem ldig_len_le {n k : Nat} (h : n < B ^ k) : (ldig B n).length ≤ k := by
  induction k generalizing n with
  | zero => rw [show n = 0 by simpa using h, ldig_zero hB]; exact Nat.le_refl _
  | succ k ih =>
    rcases Nat.eq_zero_or_pos n with z | z
    · rw [z, ldig_zero hB]; exact Nat.zero_le _
    · rw [ldig_step hB z, List.length_cons]
      refine Nat.succ_le_succ (ih ?_)
      rw [Nat.div_lt_iff_lt_mul (by omega), ← Nat.pow_succ]; exact h
theorem ldig_len_ge {n : Nat} (hn : 0 < n) : B ^ ((ldig B n).length - 1) ≤ n := by
  rcases Nat.lt_or_ge n (B ^ ((ldig B n).length - 1)) with h | h
  · have := ldig_len_le hB h
    have h2 : 0 < (ldig B n).length := by rw [ldig_step hB hn]; simp
    omega
  · exact h
theorem ldig_pad {t v u : Nat} (hu : 0 < u) (hv : v < B ^ t) : ldig B (v + B ^ t * u) = padL B t v ++ ldig B u := by
  induction t generalizing v with
  | zero => rw [show v = 0 by simpa using hv]; simp [padL]
  | succ t ih =>
    have hpos : 0 < v + B ^ (t + 1) * u := by have := Nat.mul_pos (Nat.pow_pos (n := t + 1) (show 0 < B by omega)) hu; omega
    rw [ldig_step hB hpos]
    have e1 : B ^ (t + 1) * u = B * (B ^ t * u) := by rw [Nat.pow_succ, Nat.mul_comm (B ^ t), Nat.mul_assoc]
    rw [e1, Nat.add_mul_mod_self_left, Nat.add_mul_div_left _ _ (by omega), ih]
    · rfl
    · rw [Nat.div_lt_iff_lt_mul (by omega), ← Nat.pow_succ]; exact hv
theorem padL_zero (t : Nat) : padL B t 0 = List.replicate t 0 := by
  induction t with
  | zero => rfl
  | succ t ih => show 0 % B :: padL B t (0 / B) = _; rw [Nat.zero_mod, Nat.zero_div, ih]; rfl
theorem padL_ldig {t v : Nat} (hv : v < B ^ t) : padL B t v = ldig B v ++ List.replicate (t - (ldig B v).length) 0 := by
  induction t generalizing v with
  | zero => rw [show v = 0 by simpa using hv, ldig_zero hB]; rfl
  | succ t ih =>
    rcases Nat.eq_zero_or_pos v with z | z
    · rw [z, ldig_zero hB, padL_zero hB]; simp
    · rw [ldig_step hB z]
      show v % B :: padL B t (v / B) = _
      rw [ih (by rw [Nat.div_lt_iff_lt_mul (by omega), ← Nat.pow_succ]; exact hv), List.length_cons, Nat.succ_sub_succ]; rfl
theorem padL_len (t v : Nat) : (padL B t v).length = t := by
  induction t generalizing v with
  | zero => rfl
  | succ t ih => show (padL B t (v / B)).length + 1 = _; rw [ih]
theorem padL_snoc (t v : Nat) : padL B (t + 1) v = padL B t v ++ [v / B ^ t % B] := by
  induction t generalizing v with
  | zero => simp [padL]
  | succ t ih =>
    show v % B :: padL B (t + 1) (v / B) = v % B :: (padL B t (v / B) ++ _)
    rw [ih, Nat.div_div_eq_div_mul, Nat.pow_succ, Nat.mul_comm B]
/-- t digits and the rest's -/
theorem padL_rest {t n : Nat} (h : B ^ t ≤ n) : padL B t n ++ ldig B (n / B ^ t) = ldig B n := by
  have hp : 0 < B ^ t := Nat.pow_pos (by omega)
  have e : n = n % B ^ t + B ^ t * (n / B ^ t) := (Nat.mod_add_div n (B ^ t)).symm
  have hu : 0 < n / B ^ t := Nat.div_pos h hp
  have h2 := ldig_pad hB hu (Nat.mod_lt n hp)
  rw [← e] at h2
  rw [h2]
  congr 1
  clear h2 hu h
  induction t generalizing n with
  | zero => rfl
  | succ t ih =>
    show n % B :: padL B t (n / B) = n % B ^ (t + 1) % B :: padL B t (n % B ^ (t + 1) / B)
    have e1 : B ^ (t + 1) = B * B ^ t := by rw [Nat.pow_succ, Nat.mul_comm]
    rw [e1, Nat.mod_mul_right_div_self, Nat.mod_mul_right_mod]
    rw [ih (Nat.pow_pos (by omega)) (Nat.mod_add_div _ _).symm]
end
end Tb

/-! # Tb6: a written dict with int keys; figures -/
namespace Tb
open PySem PySem.Spec PyProof.Rows L2
def kdRow (e : DictEntry) : Option Int × Int × Option Int := (match e.key with | .int i _ => some i | _ => none, e.hash, match e.val with | .int j _ => some j | _ => none)
theorem kdi_row {e : DictEntry} {a h b : Int} (q : kdRow e = (some a, h, some b)) : (∃ t, e.key = .int a t) ∧ e.hash = h ∧ ∃ t, e.val = .int b t := by
  obtain ⟨hh, k, v⟩ := e
  unfold kdRow at q
  obtain ⟨q1, q2, q3⟩ : _ ∧ _ ∧ _ := by simpa using q
  refine ⟨?_, q2, ?_⟩
  · cases k <;> simp_all
  · cases v <;> simp_all
theorem kdi_find (i v : Int) : ∀ (l : List DictEntry) (kvs : List (Int × Int)), l.map kdRow = kvs.map (fun q => (some q.1, hashInt q.1, some q.2)) → kvs.lookup i = some v →
    ∃ t, (l.find? fun e => Value.isInt i e.key).map (·.val) = some (.int v t)
  | [], [], _, h => by cases h
  | [], _ :: _, q, _ => by cases q
  | _ :: _, [], q, _ => by cases q
  | e :: l, (a, b) :: kvs, q, h => by
    rw [List.map_cons, List.map_cons] at q
    injection q with q1 q2
    obtain ⟨⟨t, hk⟩, _, t', hv⟩ := kdi_row q1
    rw [List.lookup_cons] at h
    rw [List.find?_cons, hk]
    by_cases hi : i = a
    · subst hi
      simp at h
      subst h
      exact ⟨t', by simp [Value.isInt, hv]⟩
    · have h1 : (i == a) = false := by simpa using hi
      rw [h1] at h
      obtain ⟨t2, h2⟩ := kdi_find i v l kvs q2 h
      refine ⟨t2, ?_⟩
      have h3 : Value.isInt i (.int a t) = false := by
        cases hb : Value.isInt i (.int a t) with
        | false => rfl
        | true => exact absurd (by simpa [Value.isInt] using hb) (fun z : a = i => hi z.symm)
      rw [h3]; exact h2
theorem kdi_all : ∀ (l : List DictEntry) (kvs : List (Int × Int)), l.map kdRow = kvs.map (fun q => (some q.1, hashInt q.1, some q.2)) → ∀ e ∈ l, ∃ k t, e.key = .int k t ∧ e.hash = hashInt k
  | [], _, _, e, h => by cases h
  | _ :: _, [], q, _, _ => by cases q
  | e0 :: l, (a, b) :: kvs, q, e, h => by
    rw [List.map_cons, List.map_cons] at q
    injection q with q1 q2
    rcases List.mem_cons.mp h with rfl | h
    · obtain ⟨⟨t, hk⟩, hh, _⟩ := kdi_row q1
      exact ⟨a, t, hk, hh⟩
    · exact kdi_all l kvs q2 e h
theorem kdiB_at {K : PySem.W.Frag} {a : Addr} {kvs : List (Int × Int)} (h : kdiB K a kvs = true) : ∃ es n, K.lookup a = some ⟨.type "dict", none, .dict es n, #[]⟩ ∧ (a == sysModules) = false ∧ es.toList.map kdRow = kvs.map fun q => (some q.1, hashInt q.1, some q.2) := by
  unfold kdiB at h
  split at h
  · rename_i c es n sl e
    obtain ⟨hc, hs, ha, hm⟩ : c = "dict" ∧ sl.isEmpty = true ∧ (a == sysModules) = false ∧ _ := by simpa only [Bool.and_eq_true, decide_eq_true_eq, Bool.not_eq_true'] using h
    subst hc
    have : sl = #[] := by simpa using hs
    subst this
    exact ⟨es, n, e, ha, hm⟩
  · cases h
/-- d[i], d written in the text, with int keys -/
def rIxKd (K : PySem.W.Frag) : R2 := fun x y H Q => ∃ p kvs i v, x = .ref p ∧ y = .int i ∧ kdiB K p kvs = true ∧ kvs.lookup i = some v ∧ Q (.int v) H
theorem kdi_map {prog : Program} {w : World} {K : PySem.W.Frag} {h : Heap} {a : Addr} {es : Array DictEntry} {n : Nat} {kvs : List (Int × Int)} (X : K.In h) (hl : K.lookup a = some ⟨.type "dict", none, .dict es n, #[]⟩) (hm : es.toList.map kdRow = kvs.map fun q => (some q.1, hashInt q.1, some q.2)) :
    h.MapOf (intKind prog w) a (fun k => findBy Value.isInt es k) :=
  ⟨_, es, n, X _ _ hl, ⟨rfl, rfl, rfl⟩, rfl, fun e he => by
    obtain ⟨k, t, e1, e2⟩ := kdi_all _ _ hm e (Array.mem_toList_iff.mpr he)
    exact ⟨k, by rw [e1]; exact intKind_is prog w k t, e2⟩, fun _ => rfl⟩
theorem ix_kd {X : Cx} : IxR X (rIxKd X.K) := by
  intro value slice pins s σ H x y v u Q I rx ry h hs
  obtain ⟨p, kvs, i, z, rfl, rfl, hb, hv, q⟩ := h
  obtain ⟨es, n, hl, _, hm⟩ := kdiB_at hb
  obtain rfl : v = Value.ref p := rx
  obtain ⟨t, rfl⟩ := ry
  have hmp := kdi_map (prog := X.prog) (w := X.w) I.kIn hl hm
  obtain ⟨t2, hf⟩ := kdi_find i z _ _ hm hv
  have hf' : findBy Value.isInt es i = some (.int z t2) := by
    obtain ⟨l⟩ := es
    unfold findBy
    rw [List.find?_toArray]; exact hf
  exact tail_any hmp.typeIs slot_dict_getitem.lookup (wpAny_getItem_of (intKind_is X.prog X.w i t) hmp hf' ⟨.int z, H, I.tok _, ⟨_, rfl⟩, q⟩) hs
end Tb

/-! # Tb7: texts of numbers, in plain Lean -/
namespace Tb
open PySem
/-- the sign of a figure -/
def cod (v : Nat) : Nat := if v < 10 then 48 + v else 87 + v
/-- the text of n to the base b (of 0: nothing) -/
def digT (b n : Nat) : List Nat := (ldig b n).reverse.map cod
def txtB (b : Nat) (n : Int) : List Nat := (if n < 0 then [45] else []) ++ (if n = 0 then [48] else digT b n.natAbs)
/-- how many figures go into one digit -/
def gsz (b M : Nat) : Nat := (ldig b M).length - 1
theorem gsz_spec {b M s : Nat} (hb : 2 ≤ b) (h1 : b ^ s ≤ M) (h2 : M < b ^ (s + 1)) : gsz b M = s := by
  have hM : 0 < M := Nat.lt_of_lt_of_le (Nat.pow_pos (by omega)) h1
  have a := ldig_len_le hb h2
  have c := ldig_len_ge hb hM
  have d : b ^ ((ldig b M).length - 1) < b ^ (s + 1) := Nat.lt_of_le_of_lt c h2
  have : (ldig b M).length - 1 < s + 1 := (Nat.pow_lt_pow_iff_right (by omega)).mp d
  have e : 0 < (ldig b M).length := by rw [ldig_step hb hM]; simp
  unfold gsz
  rcases Nat.lt_or_ge ((ldig b M).length - 1) s with q | q
  · exfalso
    have q2 : (ldig b M).length ≤ s := by omega
    have hlt : M < b ^ (ldig b M).length := by
      have := valN_lt hb (ldig_lt hb M)
      rwa [valN_ldig hb] at this
    have := Nat.pow_le_pow_right (show 0 < b by omega) q2
    omega
  · omega
theorem gsz_ge {b M : Nat} (hb : 2 ≤ b) (h : b ≤ M) : 1 ≤ gsz b M ∧ b ^ gsz b M ≤ M ∧ M < b ^ (gsz b M + 1) := by
  have hM : 0 < M := by omega
  have c := ldig_len_ge hb hM
  have hlt : M < b ^ (ldig b M).length := by
    have := valN_lt hb (ldig_lt hb M)
    rwa [valN_ldig hb] at this
  have h1 : 1 < (ldig b M).length := by
    rcases Nat.lt_or_ge 1 (ldig b M).length with q | q
    · exact q
    · have := Nat.pow_le_pow_right (show 0 < b by omega) q
      rw [Nat.pow_one] at this; omega
  unfold gsz
  refine ⟨by omega, c, ?_⟩
  rw [show (ldig b M).length - 1 + 1 = (ldig b M).length by omega]; exact hlt
/-- the figures' steps: i digits from the top of k -/
def stp (w P n k : Nat) : Nat → Nat
  | 0 => 0
  | i + 1 => stp w P n k i + (ldig P (n / 2 ^ (w * (k - (i + 1))))).length
theorem padL_val {B : Nat} (hB : 2 ≤ B) : ∀ {l : List Nat}, (∀ d ∈ l, d < B) → padL B l.length (valN B l) = l
  | [], _ => rfl
  | a :: r, h => by
    have h1 := h a (List.mem_cons_self ..)
    show (a + B * valN B r) % B :: padL B r.length ((a + B * valN B r) / B) = a :: r
    rw [Nat.add_mul_mod_self_left, Nat.mod_eq_of_lt h1, Nat.add_mul_div_left _ _ (by omega), Nat.div_eq_of_lt h1, Nat.zero_add, padL_val hB fun d hd => h d (List.mem_cons_of_mem _ hd)]
/-- one digit is multiplied and the carry put into it -/
theorem carry_step {P W : Nat} {done rest : List Nat} {x c t : Nat} (hP : 2 ≤ P) (e : valN P done + P ^ done.length * (c + W * valN P (x :: rest)) = t) :
    valN P (done ++ [(x * W + c) % P]) + P ^ (done ++ [(x * W + c) % P]).length * ((x * W + c) / P + W * valN P rest) = t := by
  rw [valN_snoc hP, List.length_append, List.length_singleton, Nat.pow_succ, ← e, Nat.add_assoc, Nat.mul_assoc, ← Nat.mul_add]
  congr 2
  show _ = c + W * (x + P * valN P rest)
  have h := Nat.mod_add_div (x * W + c) P
  rw [Nat.mul_add, ← Nat.add_assoc, h, Nat.mul_add, Nat.mul_comm x W, ← Nat.mul_assoc, ← Nat.mul_assoc, Nat.mul_comm P W]
  omega
theorem carry_done {P : Nat} {done : List Nat} {c v v' : Nat} (hP : 2 ≤ P) (hd : ∀ d ∈ done, d < P) (hl : done.length = (ldig P v).length) (e : valN P done + P ^ done.length * c = v') (hv : v ≤ v') : done ++ ldig P c = ldig P v' := by
  rcases Nat.eq_zero_or_pos c with z | z
  · subst z
    rw [ldig_zero hP, List.append_nil]
    rw [Nat.mul_zero, Nat.add_zero] at e
    rw [← e]
    refine (ldig_val hP hd ?_).symm
    rcases Nat.eq_zero_or_pos v with z | z
    · left
      rw [z, ldig_zero hP] at hl
      exact List.length_eq_zero_iff.mp hl
    · right
      rw [hl, e]
      exact Nat.le_trans (ldig_len_ge hP z) hv
  · rw [← e, ldig_pad hP z (valN_lt hP hd), padL_val hP hd]
/-- the figures of a number's great digits -/
theorem ldig_great {b t : Nat} (hb : 2 ≤ b) (ht : 1 ≤ t) : ∀ (n : Nat), 0 < n → ∃ l x, ldig (b ^ t) n = l ++ [x] ∧ 0 < x ∧ x < b ^ t ∧ ldig b n = (l.map (padL b t)).flatten ++ ldig b x := by
  have hP : 2 ≤ b ^ t := Nat.le_trans hb (by rw [show b ^ t = b ^ (t - 1) * b by rw [← Nat.pow_succ]; congr 1; omega]; exact Nat.le_mul_of_pos_left _ (Nat.pow_pos (by omega)))
  intro n
  induction n using Nat.strongRecOn with
  | _ n ih =>
    intro hn
    rcases Nat.lt_or_ge n (b ^ t) with h | h
    · refine ⟨[], n, ?_, hn, h, by simp⟩
      rw [ldig_step hP hn, Nat.mod_eq_of_lt h, Nat.div_eq_of_lt h, ldig_zero hP]; rfl
    · have hq : 0 < n / b ^ t := Nat.div_pos h (Nat.pow_pos (by omega))
      obtain ⟨l, x, e1, hx, hx2, e2⟩ := ih (n / b ^ t) (Nat.div_lt_self hn (by omega)) hq
      refine ⟨n % b ^ t :: l, x, ?_, hx, hx2, ?_⟩
      · rw [ldig_step hP hn, e1]; rfl
      · have hr := padL_rest hb h
        rw [← hr, e2, List.map_cons, List.flatten_cons, List.append_assoc]
        congr 1
        have e := Nat.mod_add_div n (b ^ t)
        have h3 := ldig_pad hb hq (Nat.mod_lt n (Nat.pow_pos (n := t) (show 0 < b by omega)))
        rw [e] at h3
        rw [← hr] at h3
        exact List.append_cancel_right h3
/-- the figures of one number, as str prints it -/
theorem numL_ldig {n : Nat} (hn : 0 < n) : (Nat.toDigits 10 n).map Char.toNat = digT 10 n := by
  induction n using Nat.strongRecOn with
  | _ n ih =>
    unfold digT
    rw [ldig_step (by decide) hn, List.reverse_cons, List.map_append]
    have hm : n % 10 < 10 := Nat.mod_lt _ (by decide)
    have hc : ∀ d : Nat, d < 10 → (Nat.digitChar d).toNat = cod d := by decide
    by_cases h : n < 10
    · rw [Nat.toDigits_of_lt_base h, Nat.div_eq_of_lt h, ldig_zero (by decide)]
      simp [Nat.mod_eq_of_lt h, hc n h]
    · have t : Nat.toDigits 10 (n / 10) ++ Nat.toDigits 10 (n % 10) = Nat.toDigits 10 (10 * (n / 10) + n % 10) := Nat.toDigits_append_toDigits (by decide) (by omega) hm
      rw [Nat.div_add_mod] at t
      rw [← t, List.map_append, Nat.toDigits_of_lt_base hm, ih (n / 10) (by omega) (by omega)]
      simp [digT, hc _ hm]
/-- a number's text, as str prints it -/
def numT (n : Nat) : List Nat := if n = 0 then [48] else digT 10 n
theorem str_num (n : Nat) : PySem.Str.ofString (toString ((n : Nat) : Int)) = S (numT n) := by
  rw [← S_of (PySem.Str.ofString (toString ((n : Nat) : Int))), PySem.W.KIN.signs_num]
  unfold numT
  split
  · next h => subst h; decide
  · next h => rw [numL_ldig (by omega)]
theorem numT_len {n t : Nat} (h : n < 10 ^ t) (ht : 1 ≤ t) : (numT n).length ≤ t := by
  unfold numT
  split
  · exact ht
  · simp only [digT, List.length_map, List.length_reverse]
    exact ldig_len_le (by decide) h
/-- the padded text of a great digit -/
theorem numT_pad {n t : Nat} (h : n < 10 ^ t) (ht : 1 ≤ t) : List.replicate (t - (numT n).length) 48 ++ numT n = (padL 10 t n).reverse.map cod := by
  rw [padL_ldig (by decide) h, List.reverse_append, List.reverse_replicate, List.map_append, List.map_replicate]
  unfold numT
  split
  · next z =>
    subst z
    rw [ldig_zero (by decide)]
    simp only [List.length_nil, List.length_singleton, List.reverse_nil, List.map_nil, List.append_nil, Nat.sub_zero]
    rw [show cod 0 = 48 from rfl]
    obtain ⟨s, rfl⟩ : ∃ s, t = s + 1 := ⟨t - 1, by omega⟩
    rw [Nat.add_sub_cancel, List.replicate_succ']
  · simp [digT, show cod 0 = 48 from rfl]
/-- the texts of the great digits, put together -/
theorem digT_great {t n : Nat} (ht : 1 ≤ t) {l : List Nat} {x : Nat} (e : ldig 10 n = (l.map (padL 10 t)).flatten ++ ldig 10 x) : digT 10 n = digT 10 x ++ ((l.map fun d => (padL 10 t d).reverse.map cod).reverse).flatten := by
  unfold digT
  rw [e, List.reverse_append, List.map_append]
  congr 1
  clear e
  induction l with
  | nil => rfl
  | cons a r ih =>
    rw [List.map_cons, List.flatten_cons, List.reverse_append, List.map_append, ih, List.map_cons, List.reverse_cons, List.flatten_append]
    simp
/-- figures of two's powers -/
theorem bin_digit {n k c u : Nat} (h : k * (c + 1) ≤ u) : n % 2 ^ u / (2 ^ k) ^ c % 2 ^ k = n / (2 ^ k) ^ c % 2 ^ k := by
  rw [← Nat.pow_mul]
  apply Nat.eq_of_testBit_eq
  intro i
  simp only [Nat.testBit_mod_two_pow, Nat.testBit_div_two_pow]
  by_cases hi : i < k
  · rw [Nat.mul_add, Nat.mul_one] at h
    have : i + k * c < u := by omega
    simp [hi, this]
  · simp [hi]
theorem bin_next {n k c u : Nat} : n % 2 ^ u / (2 ^ k) ^ c / 2 ^ k = n % 2 ^ u / (2 ^ k) ^ (c + 1) := by
  rw [Nat.div_div_eq_div_mul, ← Nat.pow_succ]
theorem bin_join {n w i k c : Nat} (h : k * c ≤ w * i) : n % 2 ^ (w * i) / (2 ^ k) ^ c + n / 2 ^ (w * i) % 2 ^ w * 2 ^ (w * i - k * c) = n % 2 ^ (w * (i + 1)) / (2 ^ k) ^ c := by
  rw [← Nat.pow_mul]
  have e1 : n % 2 ^ (w * (i + 1)) = n % 2 ^ (w * i) + 2 ^ (w * i) * (n / 2 ^ (w * i) % 2 ^ w) := by
    rw [Nat.mul_add, Nat.mul_one, Nat.pow_add, Nat.mod_mul]
  rw [e1, show 2 ^ (w * i) = 2 ^ (k * c) * 2 ^ (w * i - k * c) by rw [← Nat.pow_add]; congr 1; omega]
  rw [Nat.mul_assoc, Nat.add_mul_div_left _ _ (Nat.two_pow_pos _), Nat.mul_comm (2 ^ (w * i - k * c))]
theorem bin_low {n w i k c : Nat} (h : k * c ≤ w * i) : n % 2 ^ (w * i) / (2 ^ k) ^ c < 2 ^ (w * i - k * c) := by
  rw [← Nat.pow_mul, Nat.div_lt_iff_lt_mul (Nat.two_pow_pos _), ← Nat.pow_add, show w * i - k * c + k * c = w * i by omega]
  exact Nat.mod_lt _ (Nat.two_pow_pos _)
theorem dgs_get {w n i : Nat} (hw : 0 < w) (h : i < (dgs w n).length) : (dgs w n)[i]? = some ((n / 2 ^ (w * i) % 2 ^ w : Nat) : Int) := by
  induction i generalizing n with
  | zero =>
    have hn : 0 < n := by
      rcases Nat.eq_zero_or_pos n with z | z
      · rw [z, dgs_zero] at h; cases h
      · exact z
    rw [dgs_step hw hn]; simp
  | succ i ih =>
    have hn : 0 < n := by
      rcases Nat.eq_zero_or_pos n with z | z
      · rw [z, dgs_zero] at h; cases h
      · exact z
    rw [dgs_step hw hn] at h ⊢
    rw [List.getElem?_cons_succ, ih (by simpa using h), Nat.div_div_eq_div_mul, ← Nat.pow_add, Nat.mul_add, Nat.mul_one, Nat.add_comm w]
theorem top_step {w n k i : Nat} (hi : i < k) : n / 2 ^ (w * (k - (i + 1))) = n / 2 ^ (w * (k - 1 - i)) % 2 ^ w + 2 ^ w * (n / 2 ^ (w * (k - i))) := by
  rw [show k - 1 - i = k - (i + 1) by omega, show k - i = k - (i + 1) + 1 by omega, Nat.mul_add, Nat.mul_one, Nat.pow_add, ← Nat.div_div_eq_div_mul]
  exact (Nat.mod_add_div _ _).symm
theorem joinL_nil : ∀ ys : List (List Nat), TL.joinL [] ys = ys.flatten
  | [] => rfl
  | [p] => by simp [TL.joinL]
  | p :: q :: r => by
    show p ++ ([] ++ TL.joinL [] (q :: r)) = _
    rw [joinL_nil (q :: r)]; simp
theorem join_none (ys : List (List Nat)) : Txt.join ("" : Str) (ys.map S) = S ys.flatten := by
  rw [← S_nil, ← joinL_nil]
  exact SX.join_S [] ys
theorem lens_S (ys : List (List Nat)) : ((ys.map S).map (·.length)).sum = ys.flatten.length := by
  rw [List.length_flatten, ← SX.lens]; rfl
theorem cut_last (xs : List L2.V) (x : L2.V) : L2.cutV (xs ++ [x]) (some (-1)) none = [x] := by
  unfold L2.cutV
  rw [HT.sIx_none]
  have e : HT.sIx (xs ++ [x]).length 0 (some (-1)) = xs.length := by
    simp [HT.sIx]; omega
  rw [e]; simp
end Tb

/-! # Tb8: further rules: a conditional expression as a test; a call with keywords alone -/
namespace Tb
open PySem PySem.Spec PyProof.Rows L2
def tIfT (t ta tb : TT) : TT := fun σ H Q => t σ H fun c H1 => if c = true then ta σ H1 Q else tb σ H1 Q
section
variable {X : Cx} {c a b : Expr} {tc tA tB : TT} {pos : Pos}
theorem pt_ifExp (hc : PT X c tc) (ha : PT X a tA) (hb : PT X b tB) : PT X (.IfExp c a b pos) (tIfT tc tA tB) := by
  refine ⟨fun pins s σ H Q I h => ?_⟩
  show wpAny _ _ (isTrue c X.env (eval c X.env) >>= fun d => if d = true then isTrue a X.env (eval a X.env) else isTrue b X.env (eval b X.env)) _ _ s
  refine wpAny_bind (thn (hc.run pins s σ H _ I h) fun d s1 ⟨H1, I1, q1⟩ => ?_)
  cases d with
  | true => exact ha.run pins s1 σ H1 Q I1 q1
  | false => exact hb.run pins s1 σ H1 Q I1 q1
end
/-- a conditional expression, the branch that is taken -/
theorem tifB {c : TT} {ta tb : TE} {σ : L2.St} {H : Hp} {Q : VK} (b : Bool) (hc : ∀ R : Bool → Hp → Prop, R b H → c σ H R) (h1 : b = true → ta σ H Q) (h2 : b = false → tb σ H Q) : tIf c ta tb σ H Q := by
  refine hc _ ?_
  cases b with
  | true => exact h1 rfl
  | false => exact h2 rfl
/-- a conditional test, by its value -/
theorem tifT {c ta tb : TT} {σ : L2.St} {H : Hp} {Q : Bool → Hp → Prop} (b : Bool) (v : Bool) (hc : ∀ R : Bool → Hp → Prop, R b H → c σ H R) (h1 : b = true → Q v H → ta σ H Q) (h2 : b = false → Q v H → tb σ H Q) (q : Q v H) : tIfT c ta tb σ H Q := by
  refine hc _ ?_
  cases b with
  | true => exact h1 rfl q
  | false => exact h2 rfl q
/-- f(k = v, ..) -/
def tCallW (m : Nat) (sp : Sp) (gV : List V → List V → List V) (E : XK) (tk : TA) : TE := fun σ H Q => tk σ H fun zs H2 => zs.length = m ∧ sp (gV [] zs) H2 Q E
/-- a def by name, called with n values and keywords -/
def CalN (P : Program) (w : World) (K : PySem.W.Frag) (mg : Str → Option Value) (base : Heap) (CX : CXT) (x : Str) (k : Nat) (ps : List Str) (n : Nat) (ks : List Str) (gV : List V → List V → List V) (sp : Sp) : Prop :=
  ∃ (f : Addr) (fd : FuncData) (g : List Value → List Value → List Value), mg x = some (.ref f) ∧ PySem.W.keepIn K (.ref f) = true ∧ FnOk P w K mg base CX k f fd ps sp ∧ KBn K fd ps n ks g gV
section
variable {X : Cx} {CX : CXT} {k j n : Nat} {ps ks : List Str} {sp : Sp} {E : XK} {x : Str} {p pos : Pos} {e : Expr} {es : List Expr} {kws : List Keyword} {t tk : TA} {gV : List V → List V → List V}
theorem pcW (c : CalN X.prog X.w X.K X.mg X.base CX x k ps 0 ks gV sp) (hr : Room j X.A) (hk : k ≤ j) (hx : Passes CX X E) (hkw : PK X kws tk) (hg : Gl X x := by rfl)
    (hall : (backToKw pos (keywordEach kws X.env)).all (·.1.isSome) = true := by rfl) (hks : (backToKw pos (keywordEach kws X.env)).filterMap (·.1) = ks := by rfl)
    (hdb : (x == ("__debug__" : Str)) = false := by decide)
    (hpl : ((backTo pos (starEach [] X.env)).any (·.1) || (backToKw pos (keywordEach kws X.env)).any (·.1.isNone)) = false := by rfl) :
    PE X (.Call (.Name x p) [] kws pos) (tCallW ks.length sp gV E tk) := by
  obtain ⟨f, fd, g, hm, kp, F, hb⟩ := c
  refine ⟨fun pins s σ H Q I h => ?_⟩
  refine wpAny_Call_Name_kw (ld_glob I hg hm ?_ hdb)
  refine PySem.W.callWith_KW0 (h₀ := X.base) I.ok.mod.kin kp hall ?_ hpl
  refine thn (hkw.run pos pins s σ H _ I h) fun ws s2 ⟨zs, H2, I2, rz, l2, q2⟩ => ⟨I2.kIn, ?_⟩
  rw [hks]
  exact run_fnN (vs := []) F (hr.mono hk) hb hx I2 .nil rz rfl l2 q2
theorem pcN (c : CalN X.prog X.w X.K X.mg X.base CX x k ps n ks gV sp) (hr : Room j X.A) (hk : k ≤ j) (hx : Passes CX X E) (ha : PA X (e :: es) t) (hkw : PK X kws tk) (hg : Gl X x := by rfl)
    (hall : (backToKw pos (keywordEach kws X.env)).all (·.1.isSome) = true := by rfl) (hks : (backToKw pos (keywordEach kws X.env)).filterMap (·.1) = ks := by rfl)
    (hdb : (x == ("__debug__" : Str)) = false := by decide) (he : starEach (e :: es) X.env = (false, eval e X.env) :: starEach es X.env := by rfl)
    (hpl : ((backTo pos (starEach (e :: es) X.env)).any (·.1) || (backToKw pos (keywordEach kws X.env)).any (·.1.isNone)) = false := by rfl) :
    PE X (.Call (.Name x p) (e :: es) kws pos) (tCallN n ks.length sp gV E t tk) := by
  obtain ⟨f, fd, g, hm, kp, F, hb⟩ := c
  exact pe_callN F (hr.mono hk) hg hm kp hb hx ha hkw hall hks hdb he hpl
end
theorem fig_len : (("0123456789abcdefghijklmnopqrstuvwxyz" : Str)).length ≤ sizeLine := by decide +kernel
theorem fig_all : ((List.range 36).all fun v => decide ((("0123456789abcdefghijklmnopqrstuvwxyz" : Str)).cps.toList[v]? = some (cod v))) = true := by decide +kernel
theorem fig_at {v : Nat} (h : v < 36) : atI (("0123456789abcdefghijklmnopqrstuvwxyz" : Str)).cps.toList (v : Int) = some (cod v) := by
  have e := List.all_eq_true.mp fig_all v (List.mem_range.mpr h)
  have e := of_decide_eq_true e
  have hl := (List.getElem?_eq_some_iff.mp e).1
  unfold atI
  rw [Evl.ixN_nat hl]; exact e
theorem or_high {q r : Int} {k : Nat} (hq : 0 ≤ q) (h0 : 0 ≤ r) (h1 : r < 2 ^ k) : Builtin.bitOr r (q * 2 ^ k) = q * 2 ^ k + r := by
  rw [← or_low hq h0 h1]
  obtain ⟨a, rfl⟩ := Int.eq_ofNat_of_zero_le h0
  obtain ⟨b, hb⟩ := Int.eq_ofNat_of_zero_le (Int.mul_nonneg hq (Int.le_of_lt (two_pos k)))
  rw [hb, bitOr_nn (Int.natCast_nonneg _) (Int.natCast_nonneg _), bitOr_nn (Int.natCast_nonneg _) (Int.natCast_nonneg _), Nat.or_comm]
theorem flat_cod : ∀ l : List Nat, (l.map fun d => [cod d]).flatten = l.map cod
  | [] => rfl
  | a :: r => by rw [List.map_cons, List.flatten_cons, flat_cod r]; rfl
theorem ints_tup {K : PySem.W.Frag} {H : Hp} {x : Str} {xs : List Int} (h : He.tupB K x (xs.map He.Dv.int) = true) : SqT K H (He.ga K x) (xs.map V.int) := by
  have q := He.tupB_ok h H
  rw [List.map_map] at q
  exact q
theorem strs_tup {K : PySem.W.Frag} {H : Hp} {x : Str} {xs : List Str} (h : He.tupB K x (xs.map He.Dv.str) = true) : SqT K H (He.ga K x) (xs.map V.str) := by
  have q := He.tupB_ok h H
  rw [List.map_map] at q
  exact q
theorem S_one (c : Nat) : (⟨#[c]⟩ : Str) = S [c] := rfl
end Tb

/-! # Tb9: == and != of nested tuples, lists and dicts that are equal -/
namespace PySem.SeqAt
open AutoSeq1 (wpAny_loadPart')
open MeetsSeq MeetsSeq2 MeetsSeq3 SeqRoads2
section
variable {prog : Program} {w : World}
/-- two tuples of equal items: what the compared pair of objects is -/
structure TPair (prog : Program) (w : World) (A : Around) (s : Shared) (l b : Addr) (xs ys : Array Value) : Prop where
  same : xs.size = ys.size
  eqs : ∀ j (h1 : j < xs.size) (h2 : j < ys.size), EqP prog w A.in1 s xs[j] ys[j] true
theorem tup_neP (l b : Addr) (xs ys : Array Value) (n m : Nat) (d1 d2 : Option Addr) (s1 s2 : Array (Option Value)) :
    MeetsIn prog w (Builtin.«tuple.__ne__» ⟨[.ref l, .ref b], []⟩)
      (fun A R s => s.heap.get? l = some { cls := .type "tuple", dict := d1, data := .seq xs n, slots := s1 } ∧
        s.heap.get? b = some { cls := .type "tuple", dict := d2, data := .seq ys m, slots := s2 } ∧ TPair prog w A s l b xs ys ∧ R (.ok (.ret (.bool false))) s) := by
  intro A R s hh
  obtain ⟨hp, g, d, tk, os⟩ := s
  obtain ⟨hl, hb, ⟨hs, he⟩, hR⟩ := hh
  have f2 := AutoSeq1.sub_tuple_tuple
  have hZ : (xs.toList.zip ys.toList).length = xs.size := by simp [hs]
  wp_walk using wpAny_loadPart' hl, wpAny_loadPart' hb, wpAny_forIn_list _
    (fun rest c s' => c.1 = none ∧ s' = ⟨hp, g, d, tk, os⟩ ∧ ∃ i, rest = (xs.toList.zip ys.toList).drop i) _
  case turn =>
    rintro ⟨y, x⟩ rest c s' ⟨hc, rfl, i, hz⟩
    have hlt : i < xs.size := by
      rcases Nat.lt_or_ge i xs.size with hi | hi
      · exact hi
      · rw [List.drop_of_length_le (by omega)] at hz
        cases hz
    rw [List.drop_eq_getElem_cons (by omega)] at hz
    injection hz with hyx hrest
    obtain rfl : y = xs[i] := by simpa using congrArg Prod.fst hyx
    obtain rfl : x = ys[i] := by simpa using congrArg Prod.snd hyx
    refine wpAny_bind (he i hlt (by omega) _ _ ?_)
    wp_walk
    exact ⟨rfl, rfl, i + 1, hrest⟩
  case fin =>
    rintro ⟨c1, c2⟩ s' ⟨hc, rfl, i, _⟩
    simp only at hc
    subst hc
    wp_walk
    simpa [Builtin.Tuple.tupleCompareSizes, hs] using hR
  case h =>
    exact ⟨rfl, rfl, 0, rfl⟩
theorem tup_eqP (l b : Addr) (xs ys : Array Value) (n m : Nat) (d1 d2 : Option Addr) (s1 s2 : Array (Option Value)) :
    MeetsIn prog w (Builtin.«tuple.__eq__» ⟨[.ref l, .ref b], []⟩)
      (fun A R s => s.heap.get? l = some { cls := .type "tuple", dict := d1, data := .seq xs n, slots := s1 } ∧
        s.heap.get? b = some { cls := .type "tuple", dict := d2, data := .seq ys m, slots := s2 } ∧ TPair prog w A s l b xs ys ∧ R (.ok (.ret (.bool true))) s) := by
  intro A R s hh
  obtain ⟨hp, g, d, tk, os⟩ := s
  obtain ⟨hl, hb, ⟨hs, he⟩, hR⟩ := hh
  have f2 := AutoSeq1.sub_tuple_tuple
  have hZ : (xs.toList.zip ys.toList).length = xs.size := by simp [hs]
  wp_walk using wpAny_loadPart' hl, wpAny_loadPart' hb, wpAny_forIn_list _
    (fun rest c s' => c.1 = none ∧ s' = ⟨hp, g, d, tk, os⟩ ∧ ∃ i, rest = (xs.toList.zip ys.toList).drop i) _
  case turn =>
    rintro ⟨y, x⟩ rest c s' ⟨hc, rfl, i, hz⟩
    have hlt : i < xs.size := by
      rcases Nat.lt_or_ge i xs.size with hi | hi
      · exact hi
      · rw [List.drop_of_length_le (by omega)] at hz
        cases hz
    rw [List.drop_eq_getElem_cons (by omega)] at hz
    injection hz with hyx hrest
    obtain rfl : y = xs[i] := by simpa using congrArg Prod.fst hyx
    obtain rfl : x = ys[i] := by simpa using congrArg Prod.snd hyx
    refine wpAny_bind (he i hlt (by omega) _ _ ?_)
    wp_walk
    exact ⟨rfl, rfl, i + 1, hrest⟩
  case fin =>
    rintro ⟨c1, c2⟩ s' ⟨hc, rfl, i, _⟩
    simp only at hc
    subst hc
    wp_walk
    simpa [Builtin.Tuple.tupleCompareSizes, hs] using hR
  case h =>
    exact ⟨rfl, rfl, 0, rfl⟩
variable {A : Around} {s : Shared} {l b : Addr} {xs ys : Array Value}
theorem rcP_tups (hl : s.heap.IsTuple l xs) (hb : s.heap.IsTuple b ys) (hu : A.units < cLine) (he : TPair prog w A s l b xs ys) (E Q : Value → Shared → Prop) (h : Q (.bool true) s) :
    wpAny (model prog w) A (richCompare .Eq (.ref l) (.ref b)) Q E s := by
  obtain ⟨⟨c1, d1, t1, s1⟩, ho, hc, n, hd⟩ := id hl
  obtain ⟨⟨c2, d2, t2, s2⟩, ho2, hc2, n2, hd2⟩ := id hb
  simp only at hc hd hc2 hd2
  subst hc hd hc2 hd2
  refine wpAny_richCompare_same_room (op := .Eq) ⟨_, ho, rfl⟩ ⟨_, ho2, rfl⟩ F.slot_tuple_eq ?_ hu
  exact call_meetsIn F.slot_tuple_eq ⟨_, ho, rfl⟩ F.entry_tuple_eq (F.args_tuple_eq_2 _ _) (tup_eqP l b xs ys n n2 d1 d2 s1 s2)
    ⟨ho, ho2, he, show Value.bool true ≠ Value.notImplemented ∧ Q (.bool true) s from ⟨(fun x => nomatch x), h⟩⟩
theorem rcP_tupsNe (hl : s.heap.IsTuple l xs) (hb : s.heap.IsTuple b ys) (hu : A.units < cLine) (he : TPair prog w A s l b xs ys) (E Q : Value → Shared → Prop) (h : Q (.bool false) s) :
    wpAny (model prog w) A (richCompare .NotEq (.ref l) (.ref b)) Q E s := by
  obtain ⟨⟨c1, d1, t1, s1⟩, ho, hc, n, hd⟩ := id hl
  obtain ⟨⟨c2, d2, t2, s2⟩, ho2, hc2, n2, hd2⟩ := id hb
  simp only at hc hd hc2 hd2
  subst hc hd hc2 hd2
  refine wpAny_richCompare_same_room (op := .NotEq) ⟨_, ho, rfl⟩ ⟨_, ho2, rfl⟩ F.slot_tuple_ne ?_ hu
  exact call_meetsIn F.slot_tuple_ne ⟨_, ho, rfl⟩ F.entry_tuple_ne (F.args_tuple_ne_2 _ _) (tup_neP l b xs ys n n2 d1 d2 s1 s2)
    ⟨ho, ho2, he, show Value.bool false ≠ Value.notImplemented ∧ Q (.bool false) s from ⟨(fun x => nomatch x), h⟩⟩
end
end PySem.SeqAt
namespace Tb
open PySem PySem.Spec PyProof.Rows L2
/-- equal, of nesting below n: flat values, lists, tuples, dicts -/
def EV (K : PySem.W.Frag) (H : Hp) : Nat → V → V → Prop
  | 0 => fun x y => x = y ∧ flatB x = true
  | n + 1 => fun x y => (x = y ∧ flatB x = true) ∨ (∃ a b xs ys, x = .ref a ∧ y = .ref b ∧ SqT K H a xs ∧ SqT K H b ys ∧ Paired (EV K H n) xs ys) ∨ EqR K H (EV K H n) x y
theorem ev_up {K : PySem.W.Frag} {H : Hp} : ∀ {n : Nat} {x y : V}, EV K H n x y → EV K H (n + 1) x y
  | 0, _, _, h => .inl h
  | n + 1, x, y, h => by
    rcases h with h | ⟨a, b, xs, ys, h1, h2, h3, h4, h5⟩ | h
    · exact .inl h
    · exact .inr (.inl ⟨a, b, xs, ys, h1, h2, h3, h4, Paired.mapP h5 fun _ _ q => ev_up q⟩)
    · refine .inr (.inr ?_)
      rcases h with ⟨a, b, xs, ys, h1, h2, h3, h4, h5⟩ | ⟨a, b, ks, ls, h1, h2, h3, h4, h5, h6⟩
      · exact .inl ⟨a, b, xs, ys, h1, h2, h3, h4, Paired.mapP h5 fun _ _ q => ev_up q⟩
      · refine .inr ⟨a, b, ks, ls, h1, h2, h3, h4, h5, fun p hp => ?_⟩
        obtain ⟨u, e, q⟩ := h6 p hp
        exact ⟨u, e, ev_up q⟩
section
variable {X : Cx} {pins : List (Addr × Obj)} {σ : L2.St} {H : Hp} {s : Shared}
theorem tpair_of {A : Around} {F : V → V → Prop} (ih : ∀ x y v u, F x y → RelV x v → RelV y u → SeqAt.EqP X.prog X.w A.in1 s v u true) {l b : Addr} {xs ys : List V} (hp : Paired F xs ys) {us ws : List Value} (r1 : Vals xs us) (r2 : Vals ys ws) :
    SeqAt.TPair X.prog X.w A s l b us.toArray ws.toArray := by
  refine ⟨?_, fun j h1 h2 => ?_⟩
  · rw [List.size_toArray, List.size_toArray, ← r1.length, ← r2.length]; exact Paired.length hp
  · have k := items_run ih hp r1 r2 j (by simpa using h1) (by simpa using h2)
    simpa using k
theorem ev_run (I : Inv X pins σ H s) : ∀ (n : Nat) (A : Around), A.units + n < cLine → ∀ (x y : V) (v u : Value), EV X.K H n x y → RelV x v → RelV y u → SeqAt.EqP X.prog X.w A s v u true
  | 0, _, _, _, _, _, _, ⟨e, f⟩, rx, ry => by subst e; exact (eqAt_same rx ry f).eqP
  | n + 1, A, hu, x, y, v, u, h, rx, ry => by
    rcases h with ⟨rfl, f⟩ | h
    · exact (eqAt_same rx ry f).eqP
    · have ih := ev_run I n A.in1 (by show A.units + 1 + n < cLine; omega)
      have key : ∃ a b, x = .ref a ∧ y = .ref b ∧ ∀ E Q : Value → Shared → Prop, Q (.bool true) s → wpAny (model X.prog X.w) A (richCompare .Eq (.ref a) (.ref b)) Q E s := by
        rcases h with ⟨a, b, xs, ys, rfl, rfl, ha, hb, hp⟩ | h
        · refine ⟨a, b, rfl, rfl, fun E Q q => ?_⟩
          obtain ⟨us, r1, p1, _⟩ := I.tuple ha
          obtain ⟨ws, r2, p2, _⟩ := I.tuple hb
          exact SeqAt.rcP_tups p1 p2 (by omega) (tpair_of ih hp r1 r2) E Q q
        · have step := fun E Q q => eqR_run I (A := A) (by omega) ih h rx ry E Q q
          rcases h with ⟨a, b, _, _, rfl, rfl, _⟩ | ⟨a, b, _, _, rfl, rfl, _⟩
          all_goals
            cases (show v = Value.ref a from rx)
            cases (show u = Value.ref b from ry)
            exact ⟨a, b, rfl, rfl, step⟩
      obtain ⟨a, b, rfl, rfl, step⟩ := key
      cases (show v = Value.ref a from rx)
      cases (show u = Value.ref b from ry)
      by_cases e : a = b
      · subst e
        exact (SeqAt.EqAt.same _).eqP
      · exact SeqAt.eqP_refs e step
end
section
variable {X : Cx}
/-- two tuples that are equal -/
def EVT (K : PySem.W.Frag) (H : Hp) (x y : V) : Prop := ∃ n a b xs ys, n ≤ 60 ∧ x = .ref a ∧ y = .ref b ∧ SqT K H a xs ∧ SqT K H b ys ∧ Paired (EV K H n) xs ys
def rEqT (K : PySem.W.Frag) : R2 := fun x y H Q => EVT K H x y ∧ Q (.bl true) H
def rNeT (K : PySem.W.Frag) : R2 := fun x y H Q => EVT K H x y ∧ Q (.bl false) H
theorem op_eqT (hu : X.A.units + 64 < cLine) : OpR X (compareOp .Eq) (rEqT X.K) := by
  intro pins s σ H x y v u Q I rx ry h
  obtain ⟨⟨n, a, b, xs, ys, hn, rfl, rfl, ha, hb, hp⟩, q⟩ := h
  cases (show v = Value.ref a from rx)
  cases (show u = Value.ref b from ry)
  obtain ⟨us, r1, p1, _⟩ := I.tuple ha
  obtain ⟨ws, r2, p2, _⟩ := I.tuple hb
  exact SeqAt.rcP_tups p1 p2 (by omega) (tpair_of (ev_run I n X.A.in1 (by show X.A.units + 1 + n < cLine; omega)) hp r1 r2) _ _ ⟨.bl true, H, I, rfl, q⟩
theorem op_neT (hu : X.A.units + 64 < cLine) : OpR X (compareOp .NotEq) (rNeT X.K) := by
  intro pins s σ H x y v u Q I rx ry h
  obtain ⟨⟨n, a, b, xs, ys, hn, rfl, rfl, ha, hb, hp⟩, q⟩ := h
  cases (show v = Value.ref a from rx)
  cases (show u = Value.ref b from ry)
  obtain ⟨us, r1, p1, _⟩ := I.tuple ha
  obtain ⟨ws, r2, p2, _⟩ := I.tuple hb
  exact SeqAt.rcP_tupsNe p1 p2 (by omega) (tpair_of (ev_run I n X.A.in1 (by show X.A.units + 1 + n < cLine; omega)) hp r1 r2) _ _ ⟨.bl false, H, I, rfl, q⟩
end
section
variable {X : Cx}
/-- int(i), i a number; int(b), b a truth value -/
theorem call_intI : CallR X (.type "int") (fun xs H Q => ∃ i, xs = [.int i] ∧ Q (.int i) H) := fun pins s σ H xs us Q I r h => call_int1 pins s σ H xs us Q I r (.inl h)
theorem call_intB : CallR X (.type "int") (fun xs H Q => ∃ k, xs = [.bl k] ∧ Q (.int (if k then 1 else 0)) H) := fun pins s σ H xs us Q I r h => call_int1 pins s σ H xs us Q I r (.inr h)
end
end Tb

/-! # Tb10: helpers of the laws -/
namespace Tb
open PySem PySem.Spec PyProof.Rows L2 PySem.NumText
/-- a comprehension over a list that the call makes -/
theorem lcX {K : PySem.W.Frag} {tl : TE} {g : TG} {tt : TT} {te : TE} {vs : List Nat} {σ : L2.St} {H : Hp} {Q : VK} (A : List V → Addr → Hp → Prop) (Pv : List V → Addr → Addr → Nat → Hp → Prop)
    (hl : ∀ Q : VK, (∀ xs a H1, A xs a H1 → Q (.ref a) H1) → tl σ H Q) (hx : ∀ xs a H1, A xs a H1 → SqL K H1 a xs)
    (h0 : ∀ xs a D H1, A xs a H1 → H1 D = none → Pv xs a D 0 (upd H1 D (.lst []))) (hq : ∀ xs a D i H, Pv xs a D i H → SqL K H a xs)
    (hs : ∀ xs a D (Vn : Nat → Hp → Prop), (∀ i H, Pv xs a D i H → Vn i H) → ∀ i x H, xs[i]? = some x → Pv xs a D i H → g x (wipe σ vs) H fun σ2 H2 => wipe σ2 vs = wipe σ vs ∧ tt σ2 H2 fun b H3 =>
      if b = true then te σ2 H3 fun y H4 => ∃ acc, H4 D = some (.lst acc) ∧ acc.length < sizeLine ∧ Vn (i + 1) (upd H4 D (.lst (acc ++ [y]))) else Vn (i + 1) H3)
    (hd : ∀ xs a D H, Pv xs a D xs.length H → Q (.ref D) H) : tLc (iList K tl) g tt te vs σ H Q :=
  hl _ fun xs a H1 hA => ⟨a, rfl, ⟨xs, hx xs a H1 hA⟩, fun D hD =>
    lc_list (K := K) (a := a) (xs := xs) (Pv xs a D) (h0 xs a D H1 hA hD) (fun i H _ p => hq xs a D i H p) (hs xs a D (Pv xs a D) fun _ _ h => h) (hd xs a D)⟩
theorem cut_but (xs : List V) : cutV xs none (some (-1)) = xs.dropLast := by
  unfold cutV
  rw [HT.sIx_none]
  have e : HT.sIx xs.length xs.length (some (-1)) = xs.length - 1 := by
    simp [HT.sIx]; omega
  rw [e, List.dropLast_eq_take]; simp
theorem dp_ints {K : PySem.W.Frag} {H : Hp} : ∀ ds : List Int, DpAll K H (ds.map V.int) (ds.map PyData.int)
  | [] => .nil
  | d :: r => .cons (.int d) (dp_ints r)
theorem dp_strs {K : PySem.W.Frag} {H : Hp} : ∀ ds : List Str, DpAll K H (ds.map V.str) (ds.map PyData.str)
  | [] => .nil
  | d :: r => .cons (.str d) (dp_strs r)
theorem dp_list {K : PySem.W.Frag} {H : Hp} {a : Addr} {ds : List Int} (h : H a = some (.lst (ds.map V.int))) : Dp K H (.ref a) (.list (ds.map PyData.int)) := .lst (SqL.of h) (dp_ints ds)
theorem dp_slist {K : PySem.W.Frag} {H : Hp} {a : Addr} {ds : List Str} (h : H a = some (.lst (ds.map V.str))) : Dp K H (.ref a) (.list (ds.map PyData.str)) := .lst (SqL.of h) (dp_strs ds)
theorem lay_ints : ∀ ds : List Int, PyData.canLayAll0 (ds.map PyData.int) = true ∧ PyData.depthAll (ds.map PyData.int) = 0
  | [] => by simp [PyData.canLayAll0, PyData.depthAll]
  | d :: r => by
    have h := lay_ints r
    simp [PyData.canLayAll0, PyData.depthAll, PyData.canLay0, PyData.depth, h.1, h.2]
theorem shaped_ints (ds : List Int) : SeqAt.shaped (.list (ds.map PyData.int)) = true := by
  unfold SeqAt.shaped
  simp [PyData.canLay0, PyData.depth, (lay_ints ds).1, (lay_ints ds).2]
theorem eqv_nil (ds : List Int) : PyData.eqv (.list (ds.map PyData.int)) (.list []) = decide (ds = []) := by
  cases ds <;> simp [PyData.eqv, PyData.eqvAll]
theorem digT_step {b n : Nat} (hb : 2 ≤ b) (hn : 0 < n) : digT b n = digT b (n / b) ++ [cod (n % b)] := by
  unfold digT
  rw [ldig_step hb hn, List.reverse_cons, List.map_append]; rfl
theorem digT_zero {b : Nat} (hb : 2 ≤ b) : digT b 0 = [] := by unfold digT; rw [ldig_zero hb]; rfl
theorem digT_pos {b n : Nat} (hb : 2 ≤ b) (hn : 0 < n) : digT b n ≠ [] := by rw [digT_step hb hn]; simp
theorem bits_zero : Builtin.Int.intBits 0 = 0 := by decide
/-- how many digits, by the bits -/
theorem len_bits {w n : Nat} (hw : 0 < w) : (Builtin.Int.intBits (n : Int) + w - 1) / w = (dgs w n).length := by
  rcases Nat.eq_zero_or_pos n with z | z
  · subst z
    rw [dgs_zero]
    have e : Builtin.Int.intBits ((0 : Nat) : Int) = 0 := bits_zero
    rw [e]
    exact Nat.div_eq_of_lt (by omega)
  · rw [bits_nat z]
    have h1 := dgs_len_ge hw z
    have h2 := dgs_len_lt (n := n) hw
    have h0 : 0 < (dgs w n).length := by rw [dgs_step hw z]; simp
    generalize (dgs w n).length = k at *
    obtain ⟨j, rfl⟩ : ∃ j, k = j + 1 := ⟨k - 1, by omega⟩
    rw [Nat.add_sub_cancel] at h1
    have h3 : w * j ≤ n.log2 := (Nat.le_log2 (by omega)).mpr h1
    have h4 : n.log2 < w * (j + 1) := (Nat.log2_lt (by omega)).mpr h2
    rw [show n.log2 + 1 + w - 1 = n.log2 + w by omega]
    rw [Nat.mul_add, Nat.mul_one] at h4
    rw [Nat.mul_comm] at h3 h4
    exact Nat.div_eq_of_lt_le (by rw [Nat.add_mul]; omega) (by rw [Nat.add_mul, Nat.add_mul]; omega)
theorem tens_val (k : Nat) : digitsVal (49 :: List.replicate k 48) = 10 ^ k := by
  induction k with
  | zero => rfl
  | succ k ih => rw [List.replicate_succ', ← List.cons_append, digitsVal_snoc, ih, Nat.pow_succ]; rfl
theorem tens_text {k : Nat} (hk : k ≤ 600) : intText? (S (49 :: List.replicate k 48)) = some ((10 ^ k : Nat) : Int) := by
  have h := intText_digits (x := S (49 :: List.replicate k 48)) (by
    rw [S_cps]
    intro c hc
    rcases List.mem_cons.mp hc with rfl | hc
    · decide
    · rw [List.eq_of_mem_replicate hc]; decide) (by rw [S_cps]; simp) (by rw [S_len, List.length_cons, List.length_replicate]; omega)
  rw [S_cps, tens_val] at h
  exact h
theorem mergeK_new {α : Type} {kf : α → Key} {vf : α → V} (hi : ∀ x y, kf x = kf y → x = y) : ∀ (ws : List α) (acc : List (Key × V)), ws.Nodup → (∀ x ∈ ws, valV acc (kf x) = none) →
    mergeK acc (ws.map fun x => (kf x, vf x)) = acc ++ ws.map fun x => (kf x, vf x)
  | [], acc, _, _ => by simp [mergeK]
  | a :: r, acc, hn, ha => by
    have h1 := ha a (List.mem_cons_self ..)
    rw [List.nodup_cons] at hn
    show mergeK (putK acc (kf a) (vf a)) (r.map fun x => (kf x, vf x)) = _
    rw [putK_new _ h1, mergeK_new hi r _ hn.2 fun x hx => ?_]
    · rw [List.append_assoc]; rfl
    · have h2 := ha x (List.mem_cons_of_mem _ hx)
      have h3 : ¬ kf a = kf x := fun z => hn.1 (by rw [hi _ _ z]; exact hx)
      unfold valV at h2 ⊢
      rw [List.find?_append]
      have h4 : acc.find? (fun kv => decide (kv.1 = kf x)) = none := by simpa using h2
      rw [h4]
      simp [h3]
theorem words_nodup : WORDS.Nodup := by decide +kernel
theorem pair_at {α β : Type} {F : α → β → Prop} : ∀ {l : List α} {m : List β} {i : Nat} {a : α} {b : β}, Paired F l m → l[i]? = some a → m[i]? = some b → F a b
  | _, _, 0, _, _, .cons h _, ha, hb => by
    simp at ha hb
    subst ha; subst hb; exact h
  | _, _, i + 1, _, _, .cons _ t, ha, hb => pair_at t (by simpa using ha) (by simpa using hb)
theorem paired_mapR {α β γ : Type} {F : α → γ → Prop} {g : β → γ} : ∀ {l : List α} {m : List β}, Paired (fun a b => F a (g b)) l m → Paired F l (m.map g)
  | _, _, .nil => .nil
  | _, _, .cons h t => .cons h (paired_mapR t)
end Tb

/-! # Tb11: more helpers of the laws -/
namespace Tb
open PySem PySem.Spec PyProof.Rows L2
/-- a conditional expression: what both branches give -/
theorem tifM {c : TT} {ta tb : TE} {σ : L2.St} {H : Hp} {Q : VK} (b : Bool) (P : V → Hp → Prop) (hc : ∀ R : Bool → Hp → Prop, R b H → c σ H R) (h1 : b = true → ∀ R : VK, (∀ v H', P v H' → R v H') → ta σ H R)
    (h2 : b = false → ∀ R : VK, (∀ v H', P v H' → R v H') → tb σ H R) (q : ∀ v H', P v H' → Q v H') : tIf c ta tb σ H Q := by
  refine hc _ ?_
  cases b with
  | true => exact h1 rfl Q q
  | false => exact h2 rfl Q q
theorem bits_le {n : Int} {k : Nat} (h : n.natAbs < 2 ^ k) : Builtin.Int.intBits n ≤ k := by
  rw [bits_abs]
  rcases Nat.eq_zero_or_pos n.natAbs with z | z
  · rw [z]
    exact Nat.le_trans (Nat.le_of_eq bits_zero) (Nat.zero_le _)
  · rw [bits_nat z]
    have := (Nat.log2_lt (n := n.natAbs) (k := k) (by omega)).mpr h
    omega
theorem lim700 {n : Nat} (h : n < 2 ^ 700) : n < 2 ^ lim := Nat.lt_of_lt_of_le h (Nat.pow_le_pow_right (by decide) (Nat.le_trans (by decide) lim_ge))
theorem len_digT (b n : Nat) : (digT b n).length = (ldig b n).length := by simp [digT]
theorem len_txtB {b : Nat} {n : Int} (hn : n ≠ 0) : ((txtB b n).length : Int) - (if n < 0 then 1 else 0) = ((ldig b n.natAbs).length : Nat) := by
  unfold txtB
  rw [if_neg hn, List.length_append, len_digT]
  by_cases h : n < 0
  · rw [if_pos h, if_pos h]; simp; omega
  · rw [if_neg h, if_neg h]; simp
theorem size_bits {w : Nat} {n : Int} (hw : 0 < w) : (((Builtin.Int.intBits n : Nat) : Int) + (w : Int) - 1) / (w : Int) = (((dgs w n.natAbs).length : Nat) : Int) := by
  rw [← len_bits (w := w) (n := n.natAbs) hw, bits_abs]
  generalize Builtin.Int.intBits (n.natAbs : Int) = z
  rw [Int.natCast_ediv]
  congr 1
  omega
theorem cut_to (xs : List V) (k : Nat) : cutV xs none (some (k : Int)) = xs.take k := by
  unfold cutV
  rw [HT.sIx_none, HT.sIx_nat, List.drop_zero, Nat.sub_zero]
  rcases Nat.le_total k xs.length with h | h
  · rw [Nat.min_eq_left h]
  · rw [Nat.min_eq_right h, List.take_length, List.take_of_length_le h]
theorem tab_map (l : List Str) (c : Str → Int) {r : List (Str × Int)} (h : l.map (fun x => (x, c x)) = r) : l.map (fun x => ((Sum.inr x : Key), V.int (c x))) = r.map fun q => (Sum.inr q.1, V.int q.2) := by
  rw [← h, List.map_map]; rfl
theorem walk_pair {K : PySem.W.Frag} {G : Hp} {n : Nat} : ∀ {W : List (Str × Int × Int)} {us vs : List V}, Paired (WalkV G) us W → Paired (WalkV G) vs W → Paired (EV K G (n + 1)) us vs
  | _, _, _, .nil, .nil => .nil
  | _, _, _, .cons h t, .cons h2 t2 => by
    refine .cons ?_ (walk_pair t t2)
    obtain ⟨q, rfl, hq⟩ := h
    obtain ⟨r, rfl, hr⟩ := h2
    have fl : ∀ x : V, flatB x = true → EV K G n x x := fun x hx => by
      cases n with
      | zero => exact ⟨rfl, hx⟩
      | succ n => exact .inl ⟨rfl, hx⟩
    exact .inr (.inl ⟨q, r, _, _, rfl, rfl, SqT.of hq, SqT.of hr, .cons (fl _ rfl) (.cons (fl _ rfl) (.cons (fl _ rfl) .nil))⟩)
/-- what a machine counted and walked, twice the same -/
theorem evt_counted {K : PySem.W.Frag} {G : Hp} {t p3 D C L p2 : Addr} {ks ls : List (Key × V)} {refs us : List V} {W : List (Str × Int × Int)} (ht : G t = some (.tup [.ref D, .ref L])) (h3 : G p3 = some (.tup [.ref C, .ref p2]))
    (hD : G D = some (.dK ks)) (hC : G C = some (.dK ls)) (hlen : ks.length = ls.length) (hval : ∀ z ∈ ks, valV ls z.1 = some z.2 ∧ flatB z.2 = true) (hL : G L = some (.lst refs)) (h2 : G p2 = some (.lst us))
    (hW : Paired (WalkV G) refs W) (hU : Paired (WalkV G) us W) : EVT K G (.ref t) (.ref p3) := by
  refine ⟨3, t, p3, _, _, by decide, rfl, rfl, SqT.of ht, SqT.of h3, .cons ?_ (.cons ?_ .nil)⟩
  · exact .inr (.inr (.inr ⟨D, C, _, _, rfl, rfl, hD, hC, hlen, fun z hz => ⟨z.2, (hval z hz).1, .inl ⟨rfl, (hval z hz).2⟩⟩⟩))
  · exact .inr (.inr (.inl ⟨L, p2, _, _, rfl, rfl, SqL.of hL, SqL.of h2, walk_pair hW hU⟩))
theorem lay_strs : ∀ ds : List Str, (ds.all PyData.strOk) = true → PyData.canLayAll0 (ds.map PyData.str) = true ∧ PyData.depthAll (ds.map PyData.str) = 0
  | [], _ => by simp [PyData.canLayAll0, PyData.depthAll]
  | d :: r, h => by
    rw [List.all_cons, Bool.and_eq_true] at h
    have h2 := lay_strs r h.2
    simp [PyData.canLayAll0, PyData.depthAll, PyData.canLay0, PyData.depth, h2.1, h2.2, h.1]
theorem shaped_strs (ds : List Str) (h : (ds.all PyData.strOk) = true) : SeqAt.shaped (.list (ds.map PyData.str)) = true := by
  unfold SeqAt.shaped
  simp [PyData.canLay0, PyData.depth, (lay_strs ds h).1, (lay_strs ds h).2]
theorem eqv_strs : ∀ ds : List Str, PyData.eqv (.list (ds.map PyData.str)) (.list (ds.map PyData.str)) = true := by
  have h : ∀ ds : List Str, PyData.eqvAll (ds.map PyData.str) (ds.map PyData.str) = true := by
    intro ds
    induction ds with
    | nil => simp [PyData.eqvAll]
    | cons d r ih => simp [PyData.eqvAll, PyData.eqv, ih]
  intro ds
  simp [PyData.eqv, h]
end Tb

namespace Th
open PySem PySem.Spec PyProof.Rows L2 Tb
def top (i : Nat) : Stmt := PySem.Challenge.pw_thirtybits_k64_texts_written.main.body.getD i (.Pass ⟨0, 0, 0, 0⟩)
abbrev s_InvalidMachine_init : Stmt := inClass (top 2) 0
abbrev s_InvalidBound_init : Stmt := inClass (top 3) 0
abbrev s_LimitExceeded_init : Stmt := inClass (top 4) 0
abbrev s_is_integer : Stmt := top 6
abbrev s_is_between : Stmt := top 7
abbrev s_check_integer : Stmt := top 8
abbrev s_Machine_init : Stmt := inClass (top 16) 0
abbrev s_Machine_eq : Stmt := inClass (top 16) 1
abbrev s_Machine_parts : Stmt := inClass (top 16) 2
abbrev s_Machine_tally : Stmt := inClass (top 16) 3
abbrev s_Machine_walk : Stmt := inClass (top 16) 4
abbrev s_Machine_reset : Stmt := inClass (top 16) 5
abbrev s_Machine_count : Stmt := inClass (top 16) 6
abbrev s_Machine_enter : Stmt := inClass (top 16) 7
abbrev s_check_machine : Stmt := top 17
abbrev s_Big_init : Stmt := inClass (top 19) 0
abbrev s_Big_eq : Stmt := inClass (top 19) 1
abbrev s_Big_sign : Stmt := inClass (top 19) 2
abbrev s_Big_digits : Stmt := inClass (top 19) 3
abbrev s_Big_bits : Stmt := inClass (top 19) 4
abbrev s_made : Stmt := top 20
abbrev s_digits_of : Stmt := top 21
abbrev s_big_of : Stmt := top 22
abbrev s_value_of : Stmt := top 23
abbrev s_check_big : Stmt := top 24
abbrev s_check_any : Stmt := top 25
abbrev s_big : Stmt := top 26
abbrev s_bit_length : Stmt := top 27
abbrev s_check_most : Stmt := top 33
abbrev s_group : Stmt := top 34
abbrev s_has_more : Stmt := top 35
abbrev s_decimal_figures : Stmt := top 36
abbrev s_binary_figures : Stmt := top 37
abbrev s_to_text : Stmt := top 38
abbrev s_law_purse : Stmt := top 40
abbrev s_law_coin : Stmt := top 41
abbrev s_law_pick : Stmt := top 42
abbrev s_law_row : Stmt := top 43
abbrev s_law_worth : Stmt := top 44
abbrev s_law_counted : Stmt := top 45
abbrev s_law_text : Stmt := top 46
abbrev s_law_group : Stmt := top 47
abbrev s_law_steps_out : Stmt := top 48
abbrev s_law_drawn : Stmt := top 49
abbrev s_law_right : Stmt := top 50
abbrev s_law : Stmt := top 51
def d_InvalidMachine_init : He.DefD := ⟨("InvalidMachine", some "__init__"), "__init__", "InvalidMachine.__init__", defArgs s_InvalidMachine_init, defBody s_InvalidMachine_init, defScope s_InvalidMachine_init, [], []⟩
def d_InvalidBound_init : He.DefD := ⟨("InvalidBound", some "__init__"), "__init__", "InvalidBound.__init__", defArgs s_InvalidBound_init, defBody s_InvalidBound_init, defScope s_InvalidBound_init, [], []⟩
def d_LimitExceeded_init : He.DefD := ⟨("LimitExceeded", some "__init__"), "__init__", "LimitExceeded.__init__", defArgs s_LimitExceeded_init, defBody s_LimitExceeded_init, defScope s_LimitExceeded_init, [], []⟩
def d_is_integer : He.DefD := ⟨("is_integer", none), "is_integer", "is_integer", defArgs s_is_integer, defBody s_is_integer, defScope s_is_integer, [], []⟩
def d_is_between : He.DefD := ⟨("is_between", none), "is_between", "is_between", defArgs s_is_between, defBody s_is_between, defScope s_is_between, [], []⟩
def d_check_integer : He.DefD := ⟨("check_integer", none), "check_integer", "check_integer", defArgs s_check_integer, defBody s_check_integer, defScope s_check_integer, [], []⟩
def d_Machine_init : He.DefD := ⟨("Machine", some "__init__"), "__init__", "Machine.__init__", defArgs s_Machine_init, defBody s_Machine_init, defScope s_Machine_init, [.int 30, .int 70], []⟩
def d_Machine_eq : He.DefD := ⟨("Machine", some "__eq__"), "__eq__", "Machine.__eq__", defArgs s_Machine_eq, defBody s_Machine_eq, defScope s_Machine_eq, [], []⟩
def d_Machine_parts : He.DefD := ⟨("Machine", some "parts"), "parts", "Machine.parts", defArgs s_Machine_parts, defBody s_Machine_parts, defScope s_Machine_parts, [], []⟩
def d_Machine_tally : He.DefD := ⟨("Machine", some "tally"), "tally", "Machine.tally", defArgs s_Machine_tally, defBody s_Machine_tally, defScope s_Machine_tally, [], []⟩
def d_Machine_walk : He.DefD := ⟨("Machine", some "walk"), "walk", "Machine.walk", defArgs s_Machine_walk, defBody s_Machine_walk, defScope s_Machine_walk, [], []⟩
def d_Machine_reset : He.DefD := ⟨("Machine", some "reset"), "reset", "Machine.reset", defArgs s_Machine_reset, defBody s_Machine_reset, defScope s_Machine_reset, [], []⟩
def d_Machine_count : He.DefD := ⟨("Machine", some "count"), "count", "Machine.count", defArgs s_Machine_count, defBody s_Machine_count, defScope s_Machine_count, [], []⟩
def d_Machine_enter : He.DefD := ⟨("Machine", some "enter"), "enter", "Machine.enter", defArgs s_Machine_enter, defBody s_Machine_enter, defScope s_Machine_enter, [], []⟩
def d_check_machine : He.DefD := ⟨("check_machine", none), "check_machine", "check_machine", defArgs s_check_machine, defBody s_check_machine, defScope s_check_machine, [], []⟩
def d_Big_init : He.DefD := ⟨("Big", some "__init__"), "__init__", "Big.__init__", defArgs s_Big_init, defBody s_Big_init, defScope s_Big_init, [], []⟩
def d_Big_eq : He.DefD := ⟨("Big", some "__eq__"), "__eq__", "Big.__eq__", defArgs s_Big_eq, defBody s_Big_eq, defScope s_Big_eq, [], []⟩
def d_Big_sign : He.DefD := ⟨("Big", some "sign"), "sign", "Big.sign", defArgs s_Big_sign, defBody s_Big_sign, defScope s_Big_sign, [], []⟩
def d_Big_digits : He.DefD := ⟨("Big", some "digits"), "digits", "Big.digits", defArgs s_Big_digits, defBody s_Big_digits, defScope s_Big_digits, [], []⟩
def d_Big_bits : He.DefD := ⟨("Big", some "bits"), "bits", "Big.bits", defArgs s_Big_bits, defBody s_Big_bits, defScope s_Big_bits, [], []⟩
def d_made : He.DefD := ⟨("made", none), "made", "made", defArgs s_made, defBody s_made, defScope s_made, [], []⟩
def d_digits_of : He.DefD := ⟨("digits_of", none), "digits_of", "digits_of", defArgs s_digits_of, defBody s_digits_of, defScope s_digits_of, [], []⟩
def d_big_of : He.DefD := ⟨("big_of", none), "big_of", "big_of", defArgs s_big_of, defBody s_big_of, defScope s_big_of, [], []⟩
def d_value_of : He.DefD := ⟨("value_of", none), "value_of", "value_of", defArgs s_value_of, defBody s_value_of, defScope s_value_of, [], []⟩
def d_check_big : He.DefD := ⟨("check_big", none), "check_big", "check_big", defArgs s_check_big, defBody s_check_big, defScope s_check_big, [], []⟩
def d_check_any : He.DefD := ⟨("check_any", none), "check_any", "check_any", defArgs s_check_any, defBody s_check_any, defScope s_check_any, [], []⟩
def d_big : He.DefD := ⟨("big", none), "big", "big", defArgs s_big, defBody s_big, defScope s_big, [], []⟩
def d_bit_length : He.DefD := ⟨("bit_length", none), "bit_length", "bit_length", defArgs s_bit_length, defBody s_bit_length, defScope s_bit_length, [], []⟩
def d_check_most : He.DefD := ⟨("check_most", none), "check_most", "check_most", defArgs s_check_most, defBody s_check_most, defScope s_check_most, [], []⟩
def d_group : He.DefD := ⟨("group", none), "group", "group", defArgs s_group, defBody s_group, defScope s_group, [], []⟩
def d_has_more : He.DefD := ⟨("has_more", none), "has_more", "has_more", defArgs s_has_more, defBody s_has_more, defScope s_has_more, [], []⟩
def d_decimal_figures : He.DefD := ⟨("decimal_figures", none), "decimal_figures", "decimal_figures", defArgs s_decimal_figures, defBody s_decimal_figures, defScope s_decimal_figures, [], []⟩
def d_binary_figures : He.DefD := ⟨("binary_figures", none), "binary_figures", "binary_figures", defArgs s_binary_figures, defBody s_binary_figures, defScope s_binary_figures, [], []⟩
def d_to_text : He.DefD := ⟨("to_text", none), "to_text", "to_text", defArgs s_to_text, defBody s_to_text, defScope s_to_text, [.int 10], [("most", .int 4300)]⟩
def d_law_purse : He.DefD := ⟨("_law_purse", none), "_law_purse", "_law_purse", defArgs s_law_purse, defBody s_law_purse, defScope s_law_purse, [], []⟩
def d_law_coin : He.DefD := ⟨("_law_coin", none), "_law_coin", "_law_coin", defArgs s_law_coin, defBody s_law_coin, defScope s_law_coin, [], []⟩
def d_law_pick : He.DefD := ⟨("_law_pick", none), "_law_pick", "_law_pick", defArgs s_law_pick, defBody s_law_pick, defScope s_law_pick, [], []⟩
def d_law_row : He.DefD := ⟨("_law_row", none), "_law_row", "_law_row", defArgs s_law_row, defBody s_law_row, defScope s_law_row, [], []⟩
def d_law_worth : He.DefD := ⟨("_law_worth", none), "_law_worth", "_law_worth", defArgs s_law_worth, defBody s_law_worth, defScope s_law_worth, [], []⟩
def d_law_counted : He.DefD := ⟨("_law_counted", none), "_law_counted", "_law_counted", defArgs s_law_counted, defBody s_law_counted, defScope s_law_counted, [], []⟩
def d_law_text : He.DefD := ⟨("_law_text", none), "_law_text", "_law_text", defArgs s_law_text, defBody s_law_text, defScope s_law_text, [], []⟩
def d_law_group : He.DefD := ⟨("_law_group", none), "_law_group", "_law_group", defArgs s_law_group, defBody s_law_group, defScope s_law_group, [], []⟩
def d_law_steps_out : He.DefD := ⟨("_law_steps_out", none), "_law_steps_out", "_law_steps_out", defArgs s_law_steps_out, defBody s_law_steps_out, defScope s_law_steps_out, [], []⟩
def d_law_drawn : He.DefD := ⟨("_law_drawn", none), "_law_drawn", "_law_drawn", defArgs s_law_drawn, defBody s_law_drawn, defScope s_law_drawn, [], []⟩
def d_law_right : He.DefD := ⟨("_law_right", none), "_law_right", "_law_right", defArgs s_law_right, defBody s_law_right, defScope s_law_right, [], []⟩
def d_law : He.DefD := ⟨("law", none), "law", "law", defArgs s_law, defBody s_law, defScope s_law, [], []⟩
def fn0 : List He.DefD := [d_InvalidMachine_init, d_InvalidBound_init, d_LimitExceeded_init, d_is_integer, d_is_between, d_check_integer, d_Machine_init, d_Machine_eq, d_Machine_parts, d_Machine_tally, d_Machine_walk, d_Machine_reset]
def fn1 : List He.DefD := [d_Machine_count, d_Machine_enter, d_check_machine, d_Big_init, d_Big_eq, d_Big_sign, d_Big_digits, d_Big_bits, d_made, d_digits_of, d_big_of, d_value_of]
def fn2 : List He.DefD := [d_check_big, d_check_any, d_big, d_bit_length, d_check_most, d_group, d_has_more, d_decimal_figures, d_binary_figures, d_to_text, d_law_purse, d_law_coin]
def fn3 : List He.DefD := [d_law_pick, d_law_row, d_law_worth, d_law_counted, d_law_text, d_law_group, d_law_steps_out, d_law_drawn, d_law_right, d_law]
def fn : List He.DefD := fn0 ++ fn1 ++ fn2 ++ fn3
def fa0 : List He.Fa := [.glo "BitsError", .glo "InvalidMachine", .glo "InvalidBound", .glo "LimitExceeded", .glo "is_integer", .glo "is_between", .glo "check_integer", .glo "Machine", .glo "check_machine", .glo "Big", .glo "made", .glo "digits_of"]
def fa1 : List He.Fa := [.glo "big_of", .glo "value_of", .glo "check_big", .glo "check_any", .glo "big", .glo "bit_length", .glo "check_most", .glo "group", .glo "has_more", .glo "decimal_figures", .glo "binary_figures", .glo "to_text"]
def fa2 : List He.Fa := [.glo "_law_purse", .glo "_law_coin", .glo "_law_pick", .glo "_law_row", .glo "_law_worth", .glo "_law_counted", .glo "_law_text", .glo "_law_group", .glo "_law_steps_out", .glo "_law_drawn", .glo "_law_right", .glo "law"]
def fa3 : List He.Fa := [.int "LEAST_BITS" 8, .int "MOST_BITS" 30, .int "MOST_CUTOFF" 1000, .int "MOST_WALK" 1000, .glo "FIRST", .glo "WORDS", .str "FIGURES" "0123456789abcdefghijklmnopqrstuvwxyz", .glo "WRITTEN_BASES", .glo "BITS_OF_BASES", .int "LEAST_LIMIT" 640, .free "abs", .free "bool"]
def fa4 : List He.Fa := [.free "dict", .free "enumerate", .free "int", .free "isinstance", .free "len", .free "list", .free "max", .free "range", .free "str", .free "tuple", .cls "Machine", .noat "Machine" "width"]
def fa5 : List He.Fa := [.noat "Machine" "limit_of_rows", .noat "Machine" "base", .noat "Machine" "counts", .noat "Machine" "entered", .meth "Machine" "__eq__", .meth "Machine" "parts", .meth "Machine" "tally", .meth "Machine" "walk", .meth "Machine" "reset", .meth "Machine" "count", .meth "Machine" "enter", .mkr "Machine"]
def fa6 : List He.Fa := [.cls "Big", .noat "Big" "width", .noat "Big" "side", .noat "Big" "row", .meth "Big" "__eq__", .meth "Big" "sign", .meth "Big" "digits", .meth "Big" "bits", .mkr "Big"]
def fa : List He.Fa := fa0 ++ fa1 ++ fa2 ++ fa3 ++ fa4 ++ fa5 ++ fa6
def names0 : List PySem.Str := ["BitsError", "InvalidMachine", "InvalidBound", "LimitExceeded", "is_integer", "is_between", "check_integer", "LEAST_BITS", "MOST_BITS", "MOST_CUTOFF", "MOST_WALK", "FIRST"]
def names1 : List PySem.Str := ["WORDS", "Machine", "check_machine", "Big", "made", "digits_of", "big_of", "value_of", "check_big", "check_any", "big", "bit_length"]
def names2 : List PySem.Str := ["FIGURES", "WRITTEN_BASES", "BITS_OF_BASES", "LEAST_LIMIT", "check_most", "group", "has_more", "decimal_figures", "binary_figures", "to_text", "_law_purse", "_law_coin"]
def names3 : List PySem.Str := ["_law_pick", "_law_row", "_law_worth", "_law_counted", "_law_text", "_law_group", "_law_steps_out", "_law_drawn", "_law_right"]
def names : List PySem.Str := names0 ++ names1 ++ names2 ++ names3
def exB (K : PySem.W.Frag) : Bool := (He.tupB K "FIRST" [.str "short", .str "sum", .str "product", .str "quotient", .str "corrected"]) && (He.tupB K "WORDS" (WORDS.map He.Dv.str)) && (He.tupB K "WRITTEN_BASES" [.int 2, .int 8, .int 10, .int 16]) && (kdiB K (He.ga K "BITS_OF_BASES") [(2, 1), (4, 2), (8, 3), (16, 4), (32, 5)]) && (isiB K "Machine") && (isiB K "Big")
def Tx (K : PySem.W.Frag) (mg : Str → Option Value) : Prop := ∃ h : Heap, K.In h ∧ h.Ns mainGlobals mg ∧ He.SaysD fa fn K ∧ exB K = true
section
variable {K : PySem.W.Frag} {mg : Str → Option Value}
theorem f_InvalidMachine_init (T : Tx K mg) : ∃ fd, FunD K "__init__" "InvalidMachine.__init__" (defArgs s_InvalidMachine_init) (defBody s_InvalidMachine_init) (defScope s_InvalidMachine_init) [] [] (He.fAd K ("InvalidMachine", some "__init__")) fd := by obtain ⟨h, X, G, c, _⟩ := T; exact c.def_ 0
theorem B_InvalidMachine_init {f : Addr} {fd : FuncData} (F : FunD K "__init__" "InvalidMachine.__init__" (defArgs s_InvalidMachine_init) (defBody s_InvalidMachine_init) (defScope s_InvalidMachine_init) [] [] f fd) : Binds K fd ["self", "part"] [] := F.bindsN fun _ _ _ _ _ _ us hl => match us, hl with | [_, _], _ => rfl
theorem f_InvalidBound_init (T : Tx K mg) : ∃ fd, FunD K "__init__" "InvalidBound.__init__" (defArgs s_InvalidBound_init) (defBody s_InvalidBound_init) (defScope s_InvalidBound_init) [] [] (He.fAd K ("InvalidBound", some "__init__")) fd := by obtain ⟨h, X, G, c, _⟩ := T; exact c.def_ 1
theorem B_InvalidBound_init {f : Addr} {fd : FuncData} (F : FunD K "__init__" "InvalidBound.__init__" (defArgs s_InvalidBound_init) (defBody s_InvalidBound_init) (defScope s_InvalidBound_init) [] [] f fd) : Binds K fd ["self", "argument"] [] := F.bindsN fun _ _ _ _ _ _ us hl => match us, hl with | [_, _], _ => rfl
theorem f_LimitExceeded_init (T : Tx K mg) : ∃ fd, FunD K "__init__" "LimitExceeded.__init__" (defArgs s_LimitExceeded_init) (defBody s_LimitExceeded_init) (defScope s_LimitExceeded_init) [] [] (He.fAd K ("LimitExceeded", some "__init__")) fd := by obtain ⟨h, X, G, c, _⟩ := T; exact c.def_ 2
theorem B_LimitExceeded_init {f : Addr} {fd : FuncData} (F : FunD K "__init__" "LimitExceeded.__init__" (defArgs s_LimitExceeded_init) (defBody s_LimitExceeded_init) (defScope s_LimitExceeded_init) [] [] f fd) : Binds K fd ["self", "limit"] [] := F.bindsN fun _ _ _ _ _ _ us hl => match us, hl with | [_, _], _ => rfl
theorem f_is_integer (T : Tx K mg) : ∃ fd, FunD K "is_integer" "is_integer" (defArgs s_is_integer) (defBody s_is_integer) (defScope s_is_integer) [] [] (He.fAd K ("is_integer", none)) fd := by obtain ⟨h, X, G, c, _⟩ := T; exact c.def_ 3
theorem B_is_integer {f : Addr} {fd : FuncData} (F : FunD K "is_integer" "is_integer" (defArgs s_is_integer) (defBody s_is_integer) (defScope s_is_integer) [] [] f fd) : Binds K fd ["value"] [] := F.bindsN fun _ _ _ _ _ _ us hl => match us, hl with | [_], _ => rfl
theorem G_is_integer (T : Tx K mg) : mg "is_integer" = some (.ref (He.fAd K ("is_integer", none))) := by obtain ⟨h, X, G, c, _⟩ := T; exact He.glo_ok X G (c.fact 4)
theorem f_is_between (T : Tx K mg) : ∃ fd, FunD K "is_between" "is_between" (defArgs s_is_between) (defBody s_is_between) (defScope s_is_between) [] [] (He.fAd K ("is_between", none)) fd := by obtain ⟨h, X, G, c, _⟩ := T; exact c.def_ 4
theorem B_is_between {f : Addr} {fd : FuncData} (F : FunD K "is_between" "is_between" (defArgs s_is_between) (defBody s_is_between) (defScope s_is_between) [] [] f fd) : Binds K fd ["value", "low", "high"] [] := F.bindsN fun _ _ _ _ _ _ us hl => match us, hl with | [_, _, _], _ => rfl
theorem G_is_between (T : Tx K mg) : mg "is_between" = some (.ref (He.fAd K ("is_between", none))) := by obtain ⟨h, X, G, c, _⟩ := T; exact He.glo_ok X G (c.fact 5)
theorem f_check_integer (T : Tx K mg) : ∃ fd, FunD K "check_integer" "check_integer" (defArgs s_check_integer) (defBody s_check_integer) (defScope s_check_integer) [] [] (He.fAd K ("check_integer", none)) fd := by obtain ⟨h, X, G, c, _⟩ := T; exact c.def_ 5
theorem B_check_integer {f : Addr} {fd : FuncData} (F : FunD K "check_integer" "check_integer" (defArgs s_check_integer) (defBody s_check_integer) (defScope s_check_integer) [] [] f fd) : Binds K fd ["argument", "value"] [] := F.bindsN fun _ _ _ _ _ _ us hl => match us, hl with | [_, _], _ => rfl
theorem G_check_integer (T : Tx K mg) : mg "check_integer" = some (.ref (He.fAd K ("check_integer", none))) := by obtain ⟨h, X, G, c, _⟩ := T; exact He.glo_ok X G (c.fact 6)
theorem f_Machine_init (T : Tx K mg) : ∃ fd, FunD K "__init__" "Machine.__init__" (defArgs s_Machine_init) (defBody s_Machine_init) (defScope s_Machine_init) (d_Machine_init.dvs K) [] (He.fAd K ("Machine", some "__init__")) fd := by obtain ⟨h, X, G, c, _⟩ := T; exact c.def_ 6
theorem f_Machine_eq (T : Tx K mg) : ∃ fd, FunD K "__eq__" "Machine.__eq__" (defArgs s_Machine_eq) (defBody s_Machine_eq) (defScope s_Machine_eq) [] [] (He.fAd K ("Machine", some "__eq__")) fd := by obtain ⟨h, X, G, c, _⟩ := T; exact c.def_ 7
theorem B_Machine_eq {f : Addr} {fd : FuncData} (F : FunD K "__eq__" "Machine.__eq__" (defArgs s_Machine_eq) (defBody s_Machine_eq) (defScope s_Machine_eq) [] [] f fd) : Binds K fd ["self", "other"] [] := F.bindsN fun _ _ _ _ _ _ us hl => match us, hl with | [_, _], _ => rfl
theorem M_Machine_eq (T : Tx K mg) : Meth K (He.ga K "Machine") "__eq__" (He.fAd K ("Machine", some "__eq__")) := by obtain ⟨h, X, G, c, _⟩ := T; exact He.meth_ok (c.fact 64)
theorem f_Machine_parts (T : Tx K mg) : ∃ fd, FunD K "parts" "Machine.parts" (defArgs s_Machine_parts) (defBody s_Machine_parts) (defScope s_Machine_parts) [] [] (He.fAd K ("Machine", some "parts")) fd := by obtain ⟨h, X, G, c, _⟩ := T; exact c.def_ 8
theorem B_Machine_parts {f : Addr} {fd : FuncData} (F : FunD K "parts" "Machine.parts" (defArgs s_Machine_parts) (defBody s_Machine_parts) (defScope s_Machine_parts) [] [] f fd) : Binds K fd ["self"] [] := F.bindsN fun _ _ _ _ _ _ us hl => match us, hl with | [_], _ => rfl
theorem M_Machine_parts (T : Tx K mg) : Meth K (He.ga K "Machine") "parts" (He.fAd K ("Machine", some "parts")) := by obtain ⟨h, X, G, c, _⟩ := T; exact He.meth_ok (c.fact 65)
theorem f_Machine_tally (T : Tx K mg) : ∃ fd, FunD K "tally" "Machine.tally" (defArgs s_Machine_tally) (defBody s_Machine_tally) (defScope s_Machine_tally) [] [] (He.fAd K ("Machine", some "tally")) fd := by obtain ⟨h, X, G, c, _⟩ := T; exact c.def_ 9
theorem B_Machine_tally {f : Addr} {fd : FuncData} (F : FunD K "tally" "Machine.tally" (defArgs s_Machine_tally) (defBody s_Machine_tally) (defScope s_Machine_tally) [] [] f fd) : Binds K fd ["self"] [] := F.bindsN fun _ _ _ _ _ _ us hl => match us, hl with | [_], _ => rfl
theorem M_Machine_tally (T : Tx K mg) : Meth K (He.ga K "Machine") "tally" (He.fAd K ("Machine", some "tally")) := by obtain ⟨h, X, G, c, _⟩ := T; exact He.meth_ok (c.fact 66)
theorem f_Machine_walk (T : Tx K mg) : ∃ fd, FunD K "walk" "Machine.walk" (defArgs s_Machine_walk) (defBody s_Machine_walk) (defScope s_Machine_walk) [] [] (He.fAd K ("Machine", some "walk")) fd := by obtain ⟨h, X, G, c, _⟩ := T; exact c.def_ 10
theorem B_Machine_walk {f : Addr} {fd : FuncData} (F : FunD K "walk" "Machine.walk" (defArgs s_Machine_walk) (defBody s_Machine_walk) (defScope s_Machine_walk) [] [] f fd) : Binds K fd ["self"] [] := F.bindsN fun _ _ _ _ _ _ us hl => match us, hl with | [_], _ => rfl
theorem M_Machine_walk (T : Tx K mg) : Meth K (He.ga K "Machine") "walk" (He.fAd K ("Machine", some "walk")) := by obtain ⟨h, X, G, c, _⟩ := T; exact He.meth_ok (c.fact 67)
theorem f_Machine_reset (T : Tx K mg) : ∃ fd, FunD K "reset" "Machine.reset" (defArgs s_Machine_reset) (defBody s_Machine_reset) (defScope s_Machine_reset) [] [] (He.fAd K ("Machine", some "reset")) fd := by obtain ⟨h, X, G, c, _⟩ := T; exact c.def_ 11
theorem B_Machine_reset {f : Addr} {fd : FuncData} (F : FunD K "reset" "Machine.reset" (defArgs s_Machine_reset) (defBody s_Machine_reset) (defScope s_Machine_reset) [] [] f fd) : Binds K fd ["self"] [] := F.bindsN fun _ _ _ _ _ _ us hl => match us, hl with | [_], _ => rfl
theorem M_Machine_reset (T : Tx K mg) : Meth K (He.ga K "Machine") "reset" (He.fAd K ("Machine", some "reset")) := by obtain ⟨h, X, G, c, _⟩ := T; exact He.meth_ok (c.fact 68)
theorem f_Machine_count (T : Tx K mg) : ∃ fd, FunD K "count" "Machine.count" (defArgs s_Machine_count) (defBody s_Machine_count) (defScope s_Machine_count) [] [] (He.fAd K ("Machine", some "count")) fd := by obtain ⟨h, X, G, c, _⟩ := T; exact c.def_ 12
theorem B_Machine_count {f : Addr} {fd : FuncData} (F : FunD K "count" "Machine.count" (defArgs s_Machine_count) (defBody s_Machine_count) (defScope s_Machine_count) [] [] f fd) : Binds K fd ["self", "word", "number"] [] := F.bindsN fun _ _ _ _ _ _ us hl => match us, hl with | [_, _, _], _ => rfl
theorem M_Machine_count (T : Tx K mg) : Meth K (He.ga K "Machine") "count" (He.fAd K ("Machine", some "count")) := by obtain ⟨h, X, G, c, _⟩ := T; exact He.meth_ok (c.fact 69)
theorem f_Machine_enter (T : Tx K mg) : ∃ fd, FunD K "enter" "Machine.enter" (defArgs s_Machine_enter) (defBody s_Machine_enter) (defScope s_Machine_enter) [] [] (He.fAd K ("Machine", some "enter")) fd := by obtain ⟨h, X, G, c, _⟩ := T; exact c.def_ 13
theorem B_Machine_enter {f : Addr} {fd : FuncData} (F : FunD K "enter" "Machine.enter" (defArgs s_Machine_enter) (defBody s_Machine_enter) (defScope s_Machine_enter) [] [] f fd) : Binds K fd ["self", "word", "m", "n"] [] := F.bindsN fun _ _ _ _ _ _ us hl => match us, hl with | [_, _, _, _], _ => rfl
theorem M_Machine_enter (T : Tx K mg) : Meth K (He.ga K "Machine") "enter" (He.fAd K ("Machine", some "enter")) := by obtain ⟨h, X, G, c, _⟩ := T; exact He.meth_ok (c.fact 70)
theorem f_check_machine (T : Tx K mg) : ∃ fd, FunD K "check_machine" "check_machine" (defArgs s_check_machine) (defBody s_check_machine) (defScope s_check_machine) [] [] (He.fAd K ("check_machine", none)) fd := by obtain ⟨h, X, G, c, _⟩ := T; exact c.def_ 14
theorem B_check_machine {f : Addr} {fd : FuncData} (F : FunD K "check_machine" "check_machine" (defArgs s_check_machine) (defBody s_check_machine) (defScope s_check_machine) [] [] f fd) : Binds K fd ["value"] [] := F.bindsN fun _ _ _ _ _ _ us hl => match us, hl with | [_], _ => rfl
theorem G_check_machine (T : Tx K mg) : mg "check_machine" = some (.ref (He.fAd K ("check_machine", none))) := by obtain ⟨h, X, G, c, _⟩ := T; exact He.glo_ok X G (c.fact 8)
theorem f_Big_init (T : Tx K mg) : ∃ fd, FunD K "__init__" "Big.__init__" (defArgs s_Big_init) (defBody s_Big_init) (defScope s_Big_init) [] [] (He.fAd K ("Big", some "__init__")) fd := by obtain ⟨h, X, G, c, _⟩ := T; exact c.def_ 15
theorem B_Big_init {f : Addr} {fd : FuncData} (F : FunD K "__init__" "Big.__init__" (defArgs s_Big_init) (defBody s_Big_init) (defScope s_Big_init) [] [] f fd) : Binds K fd ["self", "width", "side", "row"] [] := F.bindsN fun _ _ _ _ _ _ us hl => match us, hl with | [_, _, _, _], _ => rfl
theorem f_Big_eq (T : Tx K mg) : ∃ fd, FunD K "__eq__" "Big.__eq__" (defArgs s_Big_eq) (defBody s_Big_eq) (defScope s_Big_eq) [] [] (He.fAd K ("Big", some "__eq__")) fd := by obtain ⟨h, X, G, c, _⟩ := T; exact c.def_ 16
theorem B_Big_eq {f : Addr} {fd : FuncData} (F : FunD K "__eq__" "Big.__eq__" (defArgs s_Big_eq) (defBody s_Big_eq) (defScope s_Big_eq) [] [] f fd) : Binds K fd ["self", "other"] [] := F.bindsN fun _ _ _ _ _ _ us hl => match us, hl with | [_, _], _ => rfl
theorem M_Big_eq (T : Tx K mg) : Meth K (He.ga K "Big") "__eq__" (He.fAd K ("Big", some "__eq__")) := by obtain ⟨h, X, G, c, _⟩ := T; exact He.meth_ok (c.fact 76)
theorem f_Big_sign (T : Tx K mg) : ∃ fd, FunD K "sign" "Big.sign" (defArgs s_Big_sign) (defBody s_Big_sign) (defScope s_Big_sign) [] [] (He.fAd K ("Big", some "sign")) fd := by obtain ⟨h, X, G, c, _⟩ := T; exact c.def_ 17
theorem B_Big_sign {f : Addr} {fd : FuncData} (F : FunD K "sign" "Big.sign" (defArgs s_Big_sign) (defBody s_Big_sign) (defScope s_Big_sign) [] [] f fd) : Binds K fd ["self"] [] := F.bindsN fun _ _ _ _ _ _ us hl => match us, hl with | [_], _ => rfl
theorem M_Big_sign (T : Tx K mg) : Meth K (He.ga K "Big") "sign" (He.fAd K ("Big", some "sign")) := by obtain ⟨h, X, G, c, _⟩ := T; exact He.meth_ok (c.fact 77)
theorem f_Big_digits (T : Tx K mg) : ∃ fd, FunD K "digits" "Big.digits" (defArgs s_Big_digits) (defBody s_Big_digits) (defScope s_Big_digits) [] [] (He.fAd K ("Big", some "digits")) fd := by obtain ⟨h, X, G, c, _⟩ := T; exact c.def_ 18
theorem B_Big_digits {f : Addr} {fd : FuncData} (F : FunD K "digits" "Big.digits" (defArgs s_Big_digits) (defBody s_Big_digits) (defScope s_Big_digits) [] [] f fd) : Binds K fd ["self"] [] := F.bindsN fun _ _ _ _ _ _ us hl => match us, hl with | [_], _ => rfl
theorem M_Big_digits (T : Tx K mg) : Meth K (He.ga K "Big") "digits" (He.fAd K ("Big", some "digits")) := by obtain ⟨h, X, G, c, _⟩ := T; exact He.meth_ok (c.fact 78)
theorem f_Big_bits (T : Tx K mg) : ∃ fd, FunD K "bits" "Big.bits" (defArgs s_Big_bits) (defBody s_Big_bits) (defScope s_Big_bits) [] [] (He.fAd K ("Big", some "bits")) fd := by obtain ⟨h, X, G, c, _⟩ := T; exact c.def_ 19
theorem B_Big_bits {f : Addr} {fd : FuncData} (F : FunD K "bits" "Big.bits" (defArgs s_Big_bits) (defBody s_Big_bits) (defScope s_Big_bits) [] [] f fd) : Binds K fd ["self"] [] := F.bindsN fun _ _ _ _ _ _ us hl => match us, hl with | [_], _ => rfl
theorem M_Big_bits (T : Tx K mg) : Meth K (He.ga K "Big") "bits" (He.fAd K ("Big", some "bits")) := by obtain ⟨h, X, G, c, _⟩ := T; exact He.meth_ok (c.fact 79)
theorem f_made (T : Tx K mg) : ∃ fd, FunD K "made" "made" (defArgs s_made) (defBody s_made) (defScope s_made) [] [] (He.fAd K ("made", none)) fd := by obtain ⟨h, X, G, c, _⟩ := T; exact c.def_ 20
theorem B_made {f : Addr} {fd : FuncData} (F : FunD K "made" "made" (defArgs s_made) (defBody s_made) (defScope s_made) [] [] f fd) : Binds K fd ["machine", "side", "digits"] [] := F.bindsN fun _ _ _ _ _ _ us hl => match us, hl with | [_, _, _], _ => rfl
theorem G_made (T : Tx K mg) : mg "made" = some (.ref (He.fAd K ("made", none))) := by obtain ⟨h, X, G, c, _⟩ := T; exact He.glo_ok X G (c.fact 10)
theorem f_digits_of (T : Tx K mg) : ∃ fd, FunD K "digits_of" "digits_of" (defArgs s_digits_of) (defBody s_digits_of) (defScope s_digits_of) [] [] (He.fAd K ("digits_of", none)) fd := by obtain ⟨h, X, G, c, _⟩ := T; exact c.def_ 21
theorem B_digits_of {f : Addr} {fd : FuncData} (F : FunD K "digits_of" "digits_of" (defArgs s_digits_of) (defBody s_digits_of) (defScope s_digits_of) [] [] f fd) : Binds K fd ["machine", "n"] [] := F.bindsN fun _ _ _ _ _ _ us hl => match us, hl with | [_, _], _ => rfl
theorem G_digits_of (T : Tx K mg) : mg "digits_of" = some (.ref (He.fAd K ("digits_of", none))) := by obtain ⟨h, X, G, c, _⟩ := T; exact He.glo_ok X G (c.fact 11)
theorem f_big_of (T : Tx K mg) : ∃ fd, FunD K "big_of" "big_of" (defArgs s_big_of) (defBody s_big_of) (defScope s_big_of) [] [] (He.fAd K ("big_of", none)) fd := by obtain ⟨h, X, G, c, _⟩ := T; exact c.def_ 22
theorem B_big_of {f : Addr} {fd : FuncData} (F : FunD K "big_of" "big_of" (defArgs s_big_of) (defBody s_big_of) (defScope s_big_of) [] [] f fd) : Binds K fd ["machine", "n"] [] := F.bindsN fun _ _ _ _ _ _ us hl => match us, hl with | [_, _], _ => rfl
theorem G_big_of (T : Tx K mg) : mg "big_of" = some (.ref (He.fAd K ("big_of", none))) := by obtain ⟨h, X, G, c, _⟩ := T; exact He.glo_ok X G (c.fact 12)
theorem f_value_of (T : Tx K mg) : ∃ fd, FunD K "value_of" "value_of" (defArgs s_value_of) (defBody s_value_of) (defScope s_value_of) [] [] (He.fAd K ("value_of", none)) fd := by obtain ⟨h, X, G, c, _⟩ := T; exact c.def_ 23
theorem B_value_of {f : Addr} {fd : FuncData} (F : FunD K "value_of" "value_of" (defArgs s_value_of) (defBody s_value_of) (defScope s_value_of) [] [] f fd) : Binds K fd ["x"] [] := F.bindsN fun _ _ _ _ _ _ us hl => match us, hl with | [_], _ => rfl
theorem G_value_of (T : Tx K mg) : mg "value_of" = some (.ref (He.fAd K ("value_of", none))) := by obtain ⟨h, X, G, c, _⟩ := T; exact He.glo_ok X G (c.fact 13)
theorem f_check_big (T : Tx K mg) : ∃ fd, FunD K "check_big" "check_big" (defArgs s_check_big) (defBody s_check_big) (defScope s_check_big) [] [] (He.fAd K ("check_big", none)) fd := by obtain ⟨h, X, G, c, _⟩ := T; exact c.def_ 24
theorem B_check_big {f : Addr} {fd : FuncData} (F : FunD K "check_big" "check_big" (defArgs s_check_big) (defBody s_check_big) (defScope s_check_big) [] [] f fd) : Binds K fd ["machine", "argument", "value"] [] := F.bindsN fun _ _ _ _ _ _ us hl => match us, hl with | [_, _, _], _ => rfl
theorem G_check_big (T : Tx K mg) : mg "check_big" = some (.ref (He.fAd K ("check_big", none))) := by obtain ⟨h, X, G, c, _⟩ := T; exact He.glo_ok X G (c.fact 14)
theorem f_check_any (T : Tx K mg) : ∃ fd, FunD K "check_any" "check_any" (defArgs s_check_any) (defBody s_check_any) (defScope s_check_any) [] [] (He.fAd K ("check_any", none)) fd := by obtain ⟨h, X, G, c, _⟩ := T; exact c.def_ 25
theorem B_check_any {f : Addr} {fd : FuncData} (F : FunD K "check_any" "check_any" (defArgs s_check_any) (defBody s_check_any) (defScope s_check_any) [] [] f fd) : Binds K fd ["value"] [] := F.bindsN fun _ _ _ _ _ _ us hl => match us, hl with | [_], _ => rfl
theorem G_check_any (T : Tx K mg) : mg "check_any" = some (.ref (He.fAd K ("check_any", none))) := by obtain ⟨h, X, G, c, _⟩ := T; exact He.glo_ok X G (c.fact 15)
theorem f_big (T : Tx K mg) : ∃ fd, FunD K "big" "big" (defArgs s_big) (defBody s_big) (defScope s_big) [] [] (He.fAd K ("big", none)) fd := by obtain ⟨h, X, G, c, _⟩ := T; exact c.def_ 26
theorem B_big {f : Addr} {fd : FuncData} (F : FunD K "big" "big" (defArgs s_big) (defBody s_big) (defScope s_big) [] [] f fd) : Binds K fd ["machine", "n"] [] := F.bindsN fun _ _ _ _ _ _ us hl => match us, hl with | [_, _], _ => rfl
theorem G_big (T : Tx K mg) : mg "big" = some (.ref (He.fAd K ("big", none))) := by obtain ⟨h, X, G, c, _⟩ := T; exact He.glo_ok X G (c.fact 16)
theorem f_bit_length (T : Tx K mg) : ∃ fd, FunD K "bit_length" "bit_length" (defArgs s_bit_length) (defBody s_bit_length) (defScope s_bit_length) [] [] (He.fAd K ("bit_length", none)) fd := by obtain ⟨h, X, G, c, _⟩ := T; exact c.def_ 27
theorem B_bit_length {f : Addr} {fd : FuncData} (F : FunD K "bit_length" "bit_length" (defArgs s_bit_length) (defBody s_bit_length) (defScope s_bit_length) [] [] f fd) : Binds K fd ["x"] [] := F.bindsN fun _ _ _ _ _ _ us hl => match us, hl with | [_], _ => rfl
theorem G_bit_length (T : Tx K mg) : mg "bit_length" = some (.ref (He.fAd K ("bit_length", none))) := by obtain ⟨h, X, G, c, _⟩ := T; exact He.glo_ok X G (c.fact 17)
theorem f_check_most (T : Tx K mg) : ∃ fd, FunD K "check_most" "check_most" (defArgs s_check_most) (defBody s_check_most) (defScope s_check_most) [] [] (He.fAd K ("check_most", none)) fd := by obtain ⟨h, X, G, c, _⟩ := T; exact c.def_ 28
theorem B_check_most {f : Addr} {fd : FuncData} (F : FunD K "check_most" "check_most" (defArgs s_check_most) (defBody s_check_most) (defScope s_check_most) [] [] f fd) : Binds K fd ["value"] [] := F.bindsN fun _ _ _ _ _ _ us hl => match us, hl with | [_], _ => rfl
theorem G_check_most (T : Tx K mg) : mg "check_most" = some (.ref (He.fAd K ("check_most", none))) := by obtain ⟨h, X, G, c, _⟩ := T; exact He.glo_ok X G (c.fact 18)
theorem f_group (T : Tx K mg) : ∃ fd, FunD K "group" "group" (defArgs s_group) (defBody s_group) (defScope s_group) [] [] (He.fAd K ("group", none)) fd := by obtain ⟨h, X, G, c, _⟩ := T; exact c.def_ 29
theorem B_group {f : Addr} {fd : FuncData} (F : FunD K "group" "group" (defArgs s_group) (defBody s_group) (defScope s_group) [] [] f fd) : Binds K fd ["machine", "base"] [] := F.bindsN fun _ _ _ _ _ _ us hl => match us, hl with | [_, _], _ => rfl
theorem G_group (T : Tx K mg) : mg "group" = some (.ref (He.fAd K ("group", none))) := by obtain ⟨h, X, G, c, _⟩ := T; exact He.glo_ok X G (c.fact 19)
theorem f_has_more (T : Tx K mg) : ∃ fd, FunD K "has_more" "has_more" (defArgs s_has_more) (defBody s_has_more) (defScope s_has_more) [] [] (He.fAd K ("has_more", none)) fd := by obtain ⟨h, X, G, c, _⟩ := T; exact c.def_ 30
theorem B_has_more {f : Addr} {fd : FuncData} (F : FunD K "has_more" "has_more" (defArgs s_has_more) (defBody s_has_more) (defScope s_has_more) [] [] f fd) : Binds K fd ["x", "most"] [] := F.bindsN fun _ _ _ _ _ _ us hl => match us, hl with | [_, _], _ => rfl
theorem G_has_more (T : Tx K mg) : mg "has_more" = some (.ref (He.fAd K ("has_more", none))) := by obtain ⟨h, X, G, c, _⟩ := T; exact He.glo_ok X G (c.fact 20)
theorem f_decimal_figures (T : Tx K mg) : ∃ fd, FunD K "decimal_figures" "decimal_figures" (defArgs s_decimal_figures) (defBody s_decimal_figures) (defScope s_decimal_figures) [] [] (He.fAd K ("decimal_figures", none)) fd := by obtain ⟨h, X, G, c, _⟩ := T; exact c.def_ 31
theorem B_decimal_figures {f : Addr} {fd : FuncData} (F : FunD K "decimal_figures" "decimal_figures" (defArgs s_decimal_figures) (defBody s_decimal_figures) (defScope s_decimal_figures) [] [] f fd) : Binds K fd ["machine", "row"] [] := F.bindsN fun _ _ _ _ _ _ us hl => match us, hl with | [_, _], _ => rfl
theorem G_decimal_figures (T : Tx K mg) : mg "decimal_figures" = some (.ref (He.fAd K ("decimal_figures", none))) := by obtain ⟨h, X, G, c, _⟩ := T; exact He.glo_ok X G (c.fact 21)
theorem f_binary_figures (T : Tx K mg) : ∃ fd, FunD K "binary_figures" "binary_figures" (defArgs s_binary_figures) (defBody s_binary_figures) (defScope s_binary_figures) [] [] (He.fAd K ("binary_figures", none)) fd := by obtain ⟨h, X, G, c, _⟩ := T; exact c.def_ 32
theorem B_binary_figures {f : Addr} {fd : FuncData} (F : FunD K "binary_figures" "binary_figures" (defArgs s_binary_figures) (defBody s_binary_figures) (defScope s_binary_figures) [] [] f fd) : Binds K fd ["machine", "row", "base"] [] := F.bindsN fun _ _ _ _ _ _ us hl => match us, hl with | [_, _, _], _ => rfl
theorem G_binary_figures (T : Tx K mg) : mg "binary_figures" = some (.ref (He.fAd K ("binary_figures", none))) := by obtain ⟨h, X, G, c, _⟩ := T; exact He.glo_ok X G (c.fact 22)
theorem f_to_text (T : Tx K mg) : ∃ fd, FunD K "to_text" "to_text" (defArgs s_to_text) (defBody s_to_text) (defScope s_to_text) (d_to_text.dvs K) (d_to_text.kws K) (He.fAd K ("to_text", none)) fd := by obtain ⟨h, X, G, c, _⟩ := T; exact c.def_ 33
theorem G_to_text (T : Tx K mg) : mg "to_text" = some (.ref (He.fAd K ("to_text", none))) := by obtain ⟨h, X, G, c, _⟩ := T; exact He.glo_ok X G (c.fact 23)
theorem f_law_purse (T : Tx K mg) : ∃ fd, FunD K "_law_purse" "_law_purse" (defArgs s_law_purse) (defBody s_law_purse) (defScope s_law_purse) [] [] (He.fAd K ("_law_purse", none)) fd := by obtain ⟨h, X, G, c, _⟩ := T; exact c.def_ 34
theorem B_law_purse {f : Addr} {fd : FuncData} (F : FunD K "_law_purse" "_law_purse" (defArgs s_law_purse) (defBody s_law_purse) (defScope s_law_purse) [] [] f fd) : Binds K fd ["_law_cell"] [] := F.bindsN fun _ _ _ _ _ _ us hl => match us, hl with | [_], _ => rfl
theorem G_law_purse (T : Tx K mg) : mg "_law_purse" = some (.ref (He.fAd K ("_law_purse", none))) := by obtain ⟨h, X, G, c, _⟩ := T; exact He.glo_ok X G (c.fact 24)
theorem f_law_coin (T : Tx K mg) : ∃ fd, FunD K "_law_coin" "_law_coin" (defArgs s_law_coin) (defBody s_law_coin) (defScope s_law_coin) [] [] (He.fAd K ("_law_coin", none)) fd := by obtain ⟨h, X, G, c, _⟩ := T; exact c.def_ 35
theorem B_law_coin {f : Addr} {fd : FuncData} (F : FunD K "_law_coin" "_law_coin" (defArgs s_law_coin) (defBody s_law_coin) (defScope s_law_coin) [] [] f fd) : Binds K fd ["_law_purse_here", "_law_amount"] [] := F.bindsN fun _ _ _ _ _ _ us hl => match us, hl with | [_, _], _ => rfl
theorem G_law_coin (T : Tx K mg) : mg "_law_coin" = some (.ref (He.fAd K ("_law_coin", none))) := by obtain ⟨h, X, G, c, _⟩ := T; exact He.glo_ok X G (c.fact 25)
theorem f_law_pick (T : Tx K mg) : ∃ fd, FunD K "_law_pick" "_law_pick" (defArgs s_law_pick) (defBody s_law_pick) (defScope s_law_pick) [] [] (He.fAd K ("_law_pick", none)) fd := by obtain ⟨h, X, G, c, _⟩ := T; exact c.def_ 36
theorem B_law_pick {f : Addr} {fd : FuncData} (F : FunD K "_law_pick" "_law_pick" (defArgs s_law_pick) (defBody s_law_pick) (defScope s_law_pick) [] [] f fd) : Binds K fd ["_law_purse_here", "_law_some"] [] := F.bindsN fun _ _ _ _ _ _ us hl => match us, hl with | [_, _], _ => rfl
theorem G_law_pick (T : Tx K mg) : mg "_law_pick" = some (.ref (He.fAd K ("_law_pick", none))) := by obtain ⟨h, X, G, c, _⟩ := T; exact He.glo_ok X G (c.fact 26)
theorem f_law_row (T : Tx K mg) : ∃ fd, FunD K "_law_row" "_law_row" (defArgs s_law_row) (defBody s_law_row) (defScope s_law_row) [] [] (He.fAd K ("_law_row", none)) fd := by obtain ⟨h, X, G, c, _⟩ := T; exact c.def_ 37
theorem B_law_row {f : Addr} {fd : FuncData} (F : FunD K "_law_row" "_law_row" (defArgs s_law_row) (defBody s_law_row) (defScope s_law_row) [] [] f fd) : Binds K fd ["_law_purse_here", "_law_bits", "_law_size"] [] := F.bindsN fun _ _ _ _ _ _ us hl => match us, hl with | [_, _, _], _ => rfl
theorem G_law_row (T : Tx K mg) : mg "_law_row" = some (.ref (He.fAd K ("_law_row", none))) := by obtain ⟨h, X, G, c, _⟩ := T; exact He.glo_ok X G (c.fact 27)
theorem f_law_worth (T : Tx K mg) : ∃ fd, FunD K "_law_worth" "_law_worth" (defArgs s_law_worth) (defBody s_law_worth) (defScope s_law_worth) [] [] (He.fAd K ("_law_worth", none)) fd := by obtain ⟨h, X, G, c, _⟩ := T; exact c.def_ 38
theorem B_law_worth {f : Addr} {fd : FuncData} (F : FunD K "_law_worth" "_law_worth" (defArgs s_law_worth) (defBody s_law_worth) (defScope s_law_worth) [] [] f fd) : Binds K fd ["_law_bits", "_law_row_here"] [] := F.bindsN fun _ _ _ _ _ _ us hl => match us, hl with | [_, _], _ => rfl
theorem G_law_worth (T : Tx K mg) : mg "_law_worth" = some (.ref (He.fAd K ("_law_worth", none))) := by obtain ⟨h, X, G, c, _⟩ := T; exact He.glo_ok X G (c.fact 28)
theorem f_law_counted (T : Tx K mg) : ∃ fd, FunD K "_law_counted" "_law_counted" (defArgs s_law_counted) (defBody s_law_counted) (defScope s_law_counted) [] [] (He.fAd K ("_law_counted", none)) fd := by obtain ⟨h, X, G, c, _⟩ := T; exact c.def_ 39
theorem B_law_counted {f : Addr} {fd : FuncData} (F : FunD K "_law_counted" "_law_counted" (defArgs s_law_counted) (defBody s_law_counted) (defScope s_law_counted) [] [] f fd) : Binds K fd ["_law_engine"] [] := F.bindsN fun _ _ _ _ _ _ us hl => match us, hl with | [_], _ => rfl
theorem G_law_counted (T : Tx K mg) : mg "_law_counted" = some (.ref (He.fAd K ("_law_counted", none))) := by obtain ⟨h, X, G, c, _⟩ := T; exact He.glo_ok X G (c.fact 29)
theorem f_law_text (T : Tx K mg) : ∃ fd, FunD K "_law_text" "_law_text" (defArgs s_law_text) (defBody s_law_text) (defScope s_law_text) [] [] (He.fAd K ("_law_text", none)) fd := by obtain ⟨h, X, G, c, _⟩ := T; exact c.def_ 40
theorem B_law_text {f : Addr} {fd : FuncData} (F : FunD K "_law_text" "_law_text" (defArgs s_law_text) (defBody s_law_text) (defScope s_law_text) [] [] f fd) : Binds K fd ["_law_n", "_law_radix"] [] := F.bindsN fun _ _ _ _ _ _ us hl => match us, hl with | [_, _], _ => rfl
theorem G_law_text (T : Tx K mg) : mg "_law_text" = some (.ref (He.fAd K ("_law_text", none))) := by obtain ⟨h, X, G, c, _⟩ := T; exact He.glo_ok X G (c.fact 30)
theorem f_law_group (T : Tx K mg) : ∃ fd, FunD K "_law_group" "_law_group" (defArgs s_law_group) (defBody s_law_group) (defScope s_law_group) [] [] (He.fAd K ("_law_group", none)) fd := by obtain ⟨h, X, G, c, _⟩ := T; exact c.def_ 41
theorem B_law_group {f : Addr} {fd : FuncData} (F : FunD K "_law_group" "_law_group" (defArgs s_law_group) (defBody s_law_group) (defScope s_law_group) [] [] f fd) : Binds K fd ["_law_bits", "_law_radix"] [] := F.bindsN fun _ _ _ _ _ _ us hl => match us, hl with | [_, _], _ => rfl
theorem G_law_group (T : Tx K mg) : mg "_law_group" = some (.ref (He.fAd K ("_law_group", none))) := by obtain ⟨h, X, G, c, _⟩ := T; exact He.glo_ok X G (c.fact 31)
theorem f_law_steps_out (T : Tx K mg) : ∃ fd, FunD K "_law_steps_out" "_law_steps_out" (defArgs s_law_steps_out) (defBody s_law_steps_out) (defScope s_law_steps_out) [] [] (He.fAd K ("_law_steps_out", none)) fd := by obtain ⟨h, X, G, c, _⟩ := T; exact c.def_ 42
theorem B_law_steps_out {f : Addr} {fd : FuncData} (F : FunD K "_law_steps_out" "_law_steps_out" (defArgs s_law_steps_out) (defBody s_law_steps_out) (defScope s_law_steps_out) [] [] f fd) : Binds K fd ["_law_bits", "_law_n"] [] := F.bindsN fun _ _ _ _ _ _ us hl => match us, hl with | [_, _], _ => rfl
theorem G_law_steps_out (T : Tx K mg) : mg "_law_steps_out" = some (.ref (He.fAd K ("_law_steps_out", none))) := by obtain ⟨h, X, G, c, _⟩ := T; exact He.glo_ok X G (c.fact 32)
theorem f_law_drawn (T : Tx K mg) : ∃ fd, FunD K "_law_drawn" "_law_drawn" (defArgs s_law_drawn) (defBody s_law_drawn) (defScope s_law_drawn) [] [] (He.fAd K ("_law_drawn", none)) fd := by obtain ⟨h, X, G, c, _⟩ := T; exact c.def_ 43
theorem B_law_drawn {f : Addr} {fd : FuncData} (F : FunD K "_law_drawn" "_law_drawn" (defArgs s_law_drawn) (defBody s_law_drawn) (defScope s_law_drawn) [] [] f fd) : Binds K fd ["_law_purse_here", "_law_bits"] [] := F.bindsN fun _ _ _ _ _ _ us hl => match us, hl with | [_, _], _ => rfl
theorem G_law_drawn (T : Tx K mg) : mg "_law_drawn" = some (.ref (He.fAd K ("_law_drawn", none))) := by obtain ⟨h, X, G, c, _⟩ := T; exact He.glo_ok X G (c.fact 33)
theorem f_law_right (T : Tx K mg) : ∃ fd, FunD K "_law_right" "_law_right" (defArgs s_law_right) (defBody s_law_right) (defScope s_law_right) [] [] (He.fAd K ("_law_right", none)) fd := by obtain ⟨h, X, G, c, _⟩ := T; exact c.def_ 44
theorem B_law_right {f : Addr} {fd : FuncData} (F : FunD K "_law_right" "_law_right" (defArgs s_law_right) (defBody s_law_right) (defScope s_law_right) [] [] f fd) : Binds K fd ["_law_purse_here"] [] := F.bindsN fun _ _ _ _ _ _ us hl => match us, hl with | [_], _ => rfl
theorem G_law_right (T : Tx K mg) : mg "_law_right" = some (.ref (He.fAd K ("_law_right", none))) := by obtain ⟨h, X, G, c, _⟩ := T; exact He.glo_ok X G (c.fact 34)
theorem f_law (T : Tx K mg) : ∃ fd, FunD K "law" "law" (defArgs s_law) (defBody s_law) (defScope s_law) [] [] (He.fAd K ("law", none)) fd := by obtain ⟨h, X, G, c, _⟩ := T; exact c.def_ 45
theorem B_law {f : Addr} {fd : FuncData} (F : FunD K "law" "law" (defArgs s_law) (defBody s_law) (defScope s_law) [] [] f fd) : Binds K fd ["_law_script"] [] := F.bindsN fun _ _ _ _ _ _ us hl => match us, hl with | [_], _ => rfl
theorem G_law (T : Tx K mg) : mg "law" = some (.ref (He.fAd K ("law", none))) := by obtain ⟨h, X, G, c, _⟩ := T; exact He.glo_ok X G (c.fact 35)
theorem G_BitsError (T : Tx K mg) : mg "BitsError" = some (.ref (He.ga K "BitsError")) := by obtain ⟨h, X, G, c, _⟩ := T; exact He.glo_ok X G (c.fact 0)
theorem G_InvalidMachine (T : Tx K mg) : mg "InvalidMachine" = some (.ref (He.ga K "InvalidMachine")) := by obtain ⟨h, X, G, c, _⟩ := T; exact He.glo_ok X G (c.fact 1)
theorem G_InvalidBound (T : Tx K mg) : mg "InvalidBound" = some (.ref (He.ga K "InvalidBound")) := by obtain ⟨h, X, G, c, _⟩ := T; exact He.glo_ok X G (c.fact 2)
theorem G_LimitExceeded (T : Tx K mg) : mg "LimitExceeded" = some (.ref (He.ga K "LimitExceeded")) := by obtain ⟨h, X, G, c, _⟩ := T; exact He.glo_ok X G (c.fact 3)
theorem G_Machine (T : Tx K mg) : mg "Machine" = some (.ref (He.ga K "Machine")) := by obtain ⟨h, X, G, c, _⟩ := T; exact He.glo_ok X G (c.fact 7)
theorem K_Machine (T : Tx K mg) : Cls K (He.ga K "Machine") := by obtain ⟨h, X, G, c, _⟩ := T; exact He.cls_ok (c.fact 58)
theorem A_Machine_width (T : Tx K mg) : NoAttr K (He.ga K "Machine") "width" := by obtain ⟨h, X, G, c, _⟩ := T; exact He.noat_ok (c.fact 59)
theorem A_Machine_limit_of_rows (T : Tx K mg) : NoAttr K (He.ga K "Machine") "limit_of_rows" := by obtain ⟨h, X, G, c, _⟩ := T; exact He.noat_ok (c.fact 60)
theorem A_Machine_base (T : Tx K mg) : NoAttr K (He.ga K "Machine") "base" := by obtain ⟨h, X, G, c, _⟩ := T; exact He.noat_ok (c.fact 61)
theorem A_Machine_counts (T : Tx K mg) : NoAttr K (He.ga K "Machine") "counts" := by obtain ⟨h, X, G, c, _⟩ := T; exact He.noat_ok (c.fact 62)
theorem A_Machine_entered (T : Tx K mg) : NoAttr K (He.ga K "Machine") "entered" := by obtain ⟨h, X, G, c, _⟩ := T; exact He.noat_ok (c.fact 63)
theorem N_Machine (T : Tx K mg) : Mk K (He.ga K "Machine") (He.fAd K ("Machine", some "__init__")) := by obtain ⟨h, X, G, c, _⟩ := T; exact He.mkr_ok (c.fact 71)
theorem G_Big (T : Tx K mg) : mg "Big" = some (.ref (He.ga K "Big")) := by obtain ⟨h, X, G, c, _⟩ := T; exact He.glo_ok X G (c.fact 9)
theorem K_Big (T : Tx K mg) : Cls K (He.ga K "Big") := by obtain ⟨h, X, G, c, _⟩ := T; exact He.cls_ok (c.fact 72)
theorem A_Big_width (T : Tx K mg) : NoAttr K (He.ga K "Big") "width" := by obtain ⟨h, X, G, c, _⟩ := T; exact He.noat_ok (c.fact 73)
theorem A_Big_side (T : Tx K mg) : NoAttr K (He.ga K "Big") "side" := by obtain ⟨h, X, G, c, _⟩ := T; exact He.noat_ok (c.fact 74)
theorem A_Big_row (T : Tx K mg) : NoAttr K (He.ga K "Big") "row" := by obtain ⟨h, X, G, c, _⟩ := T; exact He.noat_ok (c.fact 75)
theorem N_Big (T : Tx K mg) : Mk K (He.ga K "Big") (He.fAd K ("Big", some "__init__")) := by obtain ⟨h, X, G, c, _⟩ := T; exact He.mkr_ok (c.fact 80)
theorem x_FIRST (T : Tx K mg) : He.tupB K "FIRST" [.str "short", .str "sum", .str "product", .str "quotient", .str "corrected"] = true := by obtain ⟨h, X, G, c, x⟩ := T; simp only [exB, Bool.and_eq_true, and_assoc] at x; exact x.1
theorem x_WORDS (T : Tx K mg) : He.tupB K "WORDS" (WORDS.map He.Dv.str) = true := by obtain ⟨h, X, G, c, x⟩ := T; simp only [exB, Bool.and_eq_true, and_assoc] at x; exact x.2.1
theorem x_WRITTEN_BASES (T : Tx K mg) : He.tupB K "WRITTEN_BASES" [.int 2, .int 8, .int 10, .int 16] = true := by obtain ⟨h, X, G, c, x⟩ := T; simp only [exB, Bool.and_eq_true, and_assoc] at x; exact x.2.2.1
theorem x_BITS_OF_BASES (T : Tx K mg) : kdiB K (He.ga K "BITS_OF_BASES") [(2, 1), (4, 2), (8, 3), (16, 4), (32, 5)] = true := by obtain ⟨h, X, G, c, x⟩ := T; simp only [exB, Bool.and_eq_true, and_assoc] at x; exact x.2.2.2.1
theorem x_i_Machine (T : Tx K mg) : isiB K "Machine" = true := by obtain ⟨h, X, G, c, x⟩ := T; simp only [exB, Bool.and_eq_true, and_assoc] at x; exact x.2.2.2.2.1
theorem x_i_Big (T : Tx K mg) : isiB K "Big" = true := by obtain ⟨h, X, G, c, x⟩ := T; simp only [exB, Bool.and_eq_true, and_assoc] at x; exact x.2.2.2.2.2
theorem b_abs (T : Tx K mg) : mg "abs" = none := by obtain ⟨h, X, G, c, _⟩ := T; exact He.free_ok X G (c.fact 46)
theorem b_bool (T : Tx K mg) : mg "bool" = none := by obtain ⟨h, X, G, c, _⟩ := T; exact He.free_ok X G (c.fact 47)
theorem b_dict (T : Tx K mg) : mg "dict" = none := by obtain ⟨h, X, G, c, _⟩ := T; exact He.free_ok X G (c.fact 48)
theorem b_enumerate (T : Tx K mg) : mg "enumerate" = none := by obtain ⟨h, X, G, c, _⟩ := T; exact He.free_ok X G (c.fact 49)
theorem b_int (T : Tx K mg) : mg "int" = none := by obtain ⟨h, X, G, c, _⟩ := T; exact He.free_ok X G (c.fact 50)
theorem b_isinstance (T : Tx K mg) : mg "isinstance" = none := by obtain ⟨h, X, G, c, _⟩ := T; exact He.free_ok X G (c.fact 51)
theorem b_len (T : Tx K mg) : mg "len" = none := by obtain ⟨h, X, G, c, _⟩ := T; exact He.free_ok X G (c.fact 52)
theorem b_list (T : Tx K mg) : mg "list" = none := by obtain ⟨h, X, G, c, _⟩ := T; exact He.free_ok X G (c.fact 53)
theorem b_max (T : Tx K mg) : mg "max" = none := by obtain ⟨h, X, G, c, _⟩ := T; exact He.free_ok X G (c.fact 54)
theorem b_range (T : Tx K mg) : mg "range" = none := by obtain ⟨h, X, G, c, _⟩ := T; exact He.free_ok X G (c.fact 55)
theorem b_str (T : Tx K mg) : mg "str" = none := by obtain ⟨h, X, G, c, _⟩ := T; exact He.free_ok X G (c.fact 56)
theorem b_tuple (T : Tx K mg) : mg "tuple" = none := by obtain ⟨h, X, G, c, _⟩ := T; exact He.free_ok X G (c.fact 57)
end
section
variable {X : Cx}
theorem g_LEAST_BITS {p : Pos} (T : Tx X.K X.mg) (hg : Gl X "LEAST_BITS" := by rfl) : PE X (.Name "LEAST_BITS" p) (tC (.int 8)) := by
  obtain ⟨h, Y, G, c, _⟩ := T
  obtain ⟨t, e⟩ := He.int_ok (x := "LEAST_BITS") (i := 8) Y G (c.fact 36)
  exact pe_glob hg e ⟨t, rfl⟩
theorem g_MOST_BITS {p : Pos} (T : Tx X.K X.mg) (hg : Gl X "MOST_BITS" := by rfl) : PE X (.Name "MOST_BITS" p) (tC (.int 30)) := by
  obtain ⟨h, Y, G, c, _⟩ := T
  obtain ⟨t, e⟩ := He.int_ok (x := "MOST_BITS") (i := 30) Y G (c.fact 37)
  exact pe_glob hg e ⟨t, rfl⟩
theorem g_MOST_CUTOFF {p : Pos} (T : Tx X.K X.mg) (hg : Gl X "MOST_CUTOFF" := by rfl) : PE X (.Name "MOST_CUTOFF" p) (tC (.int 1000)) := by
  obtain ⟨h, Y, G, c, _⟩ := T
  obtain ⟨t, e⟩ := He.int_ok (x := "MOST_CUTOFF") (i := 1000) Y G (c.fact 38)
  exact pe_glob hg e ⟨t, rfl⟩
theorem g_MOST_WALK {p : Pos} (T : Tx X.K X.mg) (hg : Gl X "MOST_WALK" := by rfl) : PE X (.Name "MOST_WALK" p) (tC (.int 1000)) := by
  obtain ⟨h, Y, G, c, _⟩ := T
  obtain ⟨t, e⟩ := He.int_ok (x := "MOST_WALK") (i := 1000) Y G (c.fact 39)
  exact pe_glob hg e ⟨t, rfl⟩
theorem g_FIRST {p : Pos} (T : Tx X.K X.mg) (hg : Gl X "FIRST" := by rfl) : PE X (.Name "FIRST" p) (tC (.ref (He.ga X.K "FIRST"))) := by
  obtain ⟨h, Y, G, c, _⟩ := T
  exact pe_glob hg (He.glo_ok Y G (c.fact 40)) rfl
theorem g_WORDS {p : Pos} (T : Tx X.K X.mg) (hg : Gl X "WORDS" := by rfl) : PE X (.Name "WORDS" p) (tC (.ref (He.ga X.K "WORDS"))) := by
  obtain ⟨h, Y, G, c, _⟩ := T
  exact pe_glob hg (He.glo_ok Y G (c.fact 41)) rfl
theorem g_FIGURES {p : Pos} (T : Tx X.K X.mg) (hg : Gl X "FIGURES" := by rfl) : PE X (.Name "FIGURES" p) (tC (.str "0123456789abcdefghijklmnopqrstuvwxyz")) := by
  obtain ⟨h, Y, G, c, _⟩ := T
  obtain ⟨t, e⟩ := He.str_ok (x := "FIGURES") (z := "0123456789abcdefghijklmnopqrstuvwxyz") Y G (c.fact 42)
  exact pe_glob hg e ⟨t, rfl⟩
theorem g_WRITTEN_BASES {p : Pos} (T : Tx X.K X.mg) (hg : Gl X "WRITTEN_BASES" := by rfl) : PE X (.Name "WRITTEN_BASES" p) (tC (.ref (He.ga X.K "WRITTEN_BASES"))) := by
  obtain ⟨h, Y, G, c, _⟩ := T
  exact pe_glob hg (He.glo_ok Y G (c.fact 43)) rfl
theorem g_BITS_OF_BASES {p : Pos} (T : Tx X.K X.mg) (hg : Gl X "BITS_OF_BASES" := by rfl) : PE X (.Name "BITS_OF_BASES" p) (tC (.ref (He.ga X.K "BITS_OF_BASES"))) := by
  obtain ⟨h, Y, G, c, _⟩ := T
  exact pe_glob hg (He.glo_ok Y G (c.fact 44)) rfl
theorem g_LEAST_LIMIT {p : Pos} (T : Tx X.K X.mg) (hg : Gl X "LEAST_LIMIT" := by rfl) : PE X (.Name "LEAST_LIMIT" p) (tC (.int 640)) := by
  obtain ⟨h, Y, G, c, _⟩ := T
  obtain ⟨t, e⟩ := He.int_ok (x := "LEAST_LIMIT") (i := 640) Y G (c.fact 45)
  exact pe_glob hg e ⟨t, rfl⟩
theorem g_BitsError {p : Pos} (T : Tx X.K X.mg) (hg : Gl X "BitsError" := by rfl) : PE X (.Name "BitsError" p) (tC (.ref (He.ga X.K "BitsError"))) := by
  obtain ⟨h, Y, G, c, _⟩ := T
  exact pe_glob hg (He.glo_ok Y G (c.fact 0)) rfl
theorem g_InvalidMachine {p : Pos} (T : Tx X.K X.mg) (hg : Gl X "InvalidMachine" := by rfl) : PE X (.Name "InvalidMachine" p) (tC (.ref (He.ga X.K "InvalidMachine"))) := by
  obtain ⟨h, Y, G, c, _⟩ := T
  exact pe_glob hg (He.glo_ok Y G (c.fact 1)) rfl
theorem g_InvalidBound {p : Pos} (T : Tx X.K X.mg) (hg : Gl X "InvalidBound" := by rfl) : PE X (.Name "InvalidBound" p) (tC (.ref (He.ga X.K "InvalidBound"))) := by
  obtain ⟨h, Y, G, c, _⟩ := T
  exact pe_glob hg (He.glo_ok Y G (c.fact 2)) rfl
theorem g_LimitExceeded {p : Pos} (T : Tx X.K X.mg) (hg : Gl X "LimitExceeded" := by rfl) : PE X (.Name "LimitExceeded" p) (tC (.ref (He.ga X.K "LimitExceeded"))) := by
  obtain ⟨h, Y, G, c, _⟩ := T
  exact pe_glob hg (He.glo_ok Y G (c.fact 3)) rfl
theorem g_Machine {p : Pos} (T : Tx X.K X.mg) (hg : Gl X "Machine" := by rfl) : PE X (.Name "Machine" p) (tC (.ref (He.ga X.K "Machine"))) := by
  obtain ⟨h, Y, G, c, _⟩ := T
  exact pe_glob hg (He.glo_ok Y G (c.fact 7)) rfl
theorem g_Big {p : Pos} (T : Tx X.K X.mg) (hg : Gl X "Big" := by rfl) : PE X (.Name "Big" p) (tC (.ref (He.ga X.K "Big"))) := by
  obtain ⟨h, Y, G, c, _⟩ := T
  exact pe_glob hg (He.glo_ok Y G (c.fact 9)) rfl
end
end Th

namespace Th
open PySem PySem.Spec PyProof.Rows L2 Tb
section
variable {P : Program} {w : World} {K : PySem.W.Frag} {mg : Str → Option Value} {base : Heap}
/-! ### Machine.count -/
theorem sc_Machine_count : FnScope ["self", "word", "number"] ["self", "word", "number"] (defScope s_Machine_count) := ⟨rfl, rfl, rfl, by decide +kernel, rfl, by decide +kernel, by decide +kernel⟩
def sp_Machine_count (K : PySem.W.Frag) : Sp := fun vs H Q E => ∃ (p d e : Addr) (S : Ms) (word : Str) (n : Int), vs = [.ref p, .str word, .int n] ∧ (MAt K H p d e S) ∧ (word ∈ WORDS) ∧ (∀ H', But [d, e] H H' → MAt K H' p d e (S.count word n) → Q .non H')
theorem o_Machine_count (T : Tx K mg) {fd : FuncData} (F : FunD K "count" "Machine.count" (defArgs s_Machine_count) (defBody s_Machine_count) (defScope s_Machine_count) [] [] (He.fAd K ("Machine", some "count")) fd) : FnOk P w K mg base CX0 1 (He.fAd K ("Machine", some "count")) fd ["self", "word", "number"] (sp_Machine_count K) := by
  refine F.ok sc_Machine_count (fun vs H Q E h => ?_) (fun cdv A outer s H vs Q E hr h => ?_)
  · obtain ⟨p, d, e, S, word, n, rfl, _⟩ := h
    rfl
  · obtain ⟨p, d, e, S, word, n, rfl, hM, hw, q⟩ := h
    refine ⟨_, PSs.nox (pss_one (ps_dput (hu_of hr) (pe_fld (pv 0) rfl) (pv 1) (pe_op op_add (pe_dget (hu_of hr) (pe_fld (pv 0) rfl) (pv 1) (fun _ _ => rfl)) (pv 2)) rfl)), ?_⟩
    rw [show L2.start ["self", "word", "number"] [.ref p, .str word, .int n] = [some (.ref p), some (.str word), some (.int n)] from rfl]
    obtain ⟨⟨dx, hi⟩, hc, refs, he, hrf⟩ := id hM
    obtain ⟨n1, n2, n3⟩ := hM.ne
    simp only [hi, K_Machine T, A_Machine_counts T, tMake, tMeth, tDGet, sDPut, tSeq, tAsg, gName, tDrop, tRet, tRetN, tIfS, tNext, tTest, tB, tAnd, tOr, tNot, tAndV, tOrV, tNotV, tNever, tOp, tUn, rI0, rI, rU, tVar, tC, tCons, tNil, tBM, tBM0, tCB, tCall, tFld, sFld, tTup, tLst, gSub, gTup, gCons, gNil, tPar, tSl, tPart, tNoPart, rAppend, rClear, rSetL, rIxL, rIxT, rSlL, rEq, rNe, sl0, sl1, sl2, sl3, sl4, sl5, sl6, sl7, sl8, sl9, sl10, sl11, sl12, sl13, st0, st1, st2, st3, st4, st5, st6, st7, st8, st9, st10, st11, st12, st13, Option.some.injEq, V.int.injEq, V.bl.injEq, V.ref.injEq, V.str.injEq, List.cons.injEq, HO.ins.injEq, HO.lst.injEq, HO.tup.injEq, HO.dK.injEq, exists_eq_left', exists_eq_left, exists_eq_right, exists_and_left, exists_and_right, exists_const, and_assoc, true_and, and_true, decide_eq_true_eq, Int.toNat_natCast, mfl_width, mfl_base, mfl_rows, mfl_counts, mfl_entered, bfl_width, bfl_side, bfl_row, cx_K, upd_same, List.append_nil, List.cons_append, List.nil_append, List.length_cons, List.length_nil, tChain, Bool.not_true, Bool.not_false, if_true, if_false, tYes, scal_ii, scal_ss, scal_bb, ite_t, ite_f, dec_ii, dec_ss]
    refine ⟨_, Or.inl ⟨_, Sum.inr word, .inl hc, rfl, (valV_cnt hw).symm⟩, S.cnt word, rfl, _, Or.inl ⟨_, Sum.inr word, hc, rfl, ?_, rfl⟩, ?_⟩
    · rw [cnt_len]; decide
    · rw [putK_cnt hw]
      have b : But [d, e] H (upd H d (.dK (cntKV (fun x => if x = word then S.cnt x + n else S.cnt x)))) := (But.refl H).own (by simp)
      refine q _ b ⟨⟨dx, ?_⟩, upd_same, refs, ?_, Paired.mapP hrf fun v t h => ?_⟩
      · rw [upd_ne n2]; exact hi
      · rw [upd_ne n1.symm]; exact he
      · obtain ⟨a, r, h⟩ := h
        refine ⟨a, r, ?_⟩
        rw [upd_ne (ne_of h hc (by intro z; cases z))]; exact h
theorem c_Machine_count (T : Tx K mg) : CalM P w K mg base CX0 "Machine" "count" 1 ["self", "word", "number"] [] (sp_Machine_count K) := by
  obtain ⟨fd, F⟩ := f_Machine_count T
  exact ⟨_, fd, [], K_Machine T, M_Machine_count T, o_Machine_count T F, B_Machine_count F, .nil⟩
/-! ### Machine.enter -/
theorem sc_Machine_enter : FnScope ["self", "word", "m", "n"] ["self", "word", "m", "n"] (defScope s_Machine_enter) := ⟨rfl, rfl, rfl, by decide +kernel, rfl, by decide +kernel, by decide +kernel⟩
def sp_Machine_enter (K : PySem.W.Frag) : Sp := fun vs H Q E => ∃ (p d e : Addr) (S : Ms) (word : Str) (m n : Int), vs = [.ref p, .str word, .int m, .int n] ∧ (MAt K H p d e S) ∧ (∀ H', But [d, e] H H' → MAt K H' p d e (S.enter word m n) → Q .non H')
theorem o_Machine_enter (T : Tx K mg) {fd : FuncData} (F : FunD K "enter" "Machine.enter" (defArgs s_Machine_enter) (defBody s_Machine_enter) (defScope s_Machine_enter) [] [] (He.fAd K ("Machine", some "enter")) fd) : FnOk P w K mg base CX0 1 (He.fAd K ("Machine", some "enter")) fd ["self", "word", "m", "n"] (sp_Machine_enter K) := by
  refine F.ok sc_Machine_enter (fun vs H Q E h => ?_) (fun cdv A outer s H vs Q E hr h => ?_)
  · obtain ⟨p, d, e, S, word, m, n, rfl, _⟩ := h
    rfl
  · obtain ⟨p, d, e, S, word, m, n, rfl, hM, q⟩ := h
    refine ⟨_, PSs.nox (pss_one (ps_if (pt_cmpR op_lt (pe_callB call_len_seq (by rfl) (b_len T) PySem.boot_len (pa_cons (pe_fld (pv 0) rfl) pa_nil)) (g_MOST_WALK T) (nomark _)) (pss_one (ps_expr (pe_bm PySem.F.plainAttrs_list PySem.F.slot_list_append PySem.F.type_list_append mt_append (pe_fld (pv 0) rfl) (pa_cons (pe_tup (pa_cons (pv 1) (pa_cons (pv 2) (pa_cons (pv 3) pa_nil)))) pa_nil)))) pss_nil)), ?_⟩
    rw [show L2.start ["self", "word", "m", "n"] [.ref p, .str word, .int m, .int n] = [some (.ref p), some (.str word), some (.int m), some (.int n)] from rfl]
    obtain ⟨⟨dx, hi⟩, hc, refs, he, hrf⟩ := id hM
    obtain ⟨n1, n2, n3⟩ := hM.ne
    have hl := Paired.length hrf
    simp only [hi, K_Machine T, A_Machine_entered T, tMake, tMeth, tDGet, sDPut, tSeq, tAsg, gName, tDrop, tRet, tRetN, tIfS, tNext, tTest, tB, tAnd, tOr, tNot, tAndV, tOrV, tNotV, tNever, tOp, tUn, rI0, rI, rU, tVar, tC, tCons, tNil, tBM, tBM0, tCB, tCall, tFld, sFld, tTup, tLst, gSub, gTup, gCons, gNil, tPar, tSl, tPart, tNoPart, rAppend, rClear, rSetL, rIxL, rIxT, rSlL, rEq, rNe, sl0, sl1, sl2, sl3, sl4, sl5, sl6, sl7, sl8, sl9, sl10, sl11, sl12, sl13, st0, st1, st2, st3, st4, st5, st6, st7, st8, st9, st10, st11, st12, st13, Option.some.injEq, V.int.injEq, V.bl.injEq, V.ref.injEq, V.str.injEq, List.cons.injEq, HO.ins.injEq, HO.lst.injEq, HO.tup.injEq, HO.dK.injEq, exists_eq_left', exists_eq_left, exists_eq_right, exists_and_left, exists_and_right, exists_const, and_assoc, true_and, and_true, decide_eq_true_eq, Int.toNat_natCast, mfl_width, mfl_base, mfl_rows, mfl_counts, mfl_entered, bfl_width, bfl_side, bfl_row, cx_K, upd_same, List.append_nil, List.cons_append, List.nil_append, List.length_cons, List.length_nil, tChain, Bool.not_true, Bool.not_false, if_true, if_false, tYes, scal_ii, scal_ss, scal_bb, ite_t, ite_f, dec_ii, dec_ss]
    refine ⟨refs, .inl (.inl (.inl he)), ?_⟩
    refine ite2 (fun hlt => ?_) (fun hlt => ?_)
    · have hlt' : S.walk.length < 1000 := by omega
      refine ⟨tyl he, by show 3 ≤ sizeLine; decide, fun t ht => ?_⟩
      have het : e ≠ t := ne_of_none he ht
      have hpt : p ≠ t := ne_of_none hi ht
      have hdt : d ≠ t := ne_of_none hc ht
      refine ⟨refs, by rw [upd_ne het]; exact he, ?_, ?_⟩
      · exact Nat.lt_of_lt_of_le (show refs.length < 1000 by omega) (by decide)
      · refine q _ ((But.new0 ht).own (by simp)) ?_
        unfold Ms.enter
        rw [if_pos hlt']
        refine ⟨⟨dx, ?_⟩, ?_, _, upd_same, ?_⟩
        · rw [upd_ne n3, upd_ne hpt]; exact hi
        · rw [upd_ne n1, upd_ne hdt]; exact hc
        · refine pair_snoc (Paired.mapP hrf fun v u h => ?_) ?_
          · obtain ⟨a, r, h⟩ := h
            refine ⟨a, r, ?_⟩
            rw [upd_ne (ne_of h he (by intro z; cases z)), upd_ne (ne_of_none h ht)]; exact h
          · exact ⟨t, rfl, by rw [upd_ne het.symm, upd_same]⟩
    · refine q _ (But.refl H) ?_
      unfold Ms.enter
      rw [if_neg (by omega)]
      exact hM
theorem c_Machine_enter (T : Tx K mg) : CalM P w K mg base CX0 "Machine" "enter" 1 ["self", "word", "m", "n"] [] (sp_Machine_enter K) := by
  obtain ⟨fd, F⟩ := f_Machine_enter T
  exact ⟨_, fd, [], K_Machine T, M_Machine_enter T, o_Machine_enter T F, B_Machine_enter F, .nil⟩
/-! ### Big.__init__ -/
theorem sc_Big_init : FnScope ["self", "width", "side", "row"] ["self", "width", "side", "row"] (defScope s_Big_init) := ⟨rfl, rfl, rfl, by decide +kernel, rfl, by decide +kernel, by decide +kernel⟩
def sp_Big_init (K : PySem.W.Frag) : Sp := fun vs H Q E => ∃ (a dx : Addr) (wd : Nat) (sd : Int) (r : Addr), vs = [.ref a, .int (wd : Int), .int sd, .ref r] ∧ (H a = some (.ins (He.ga K "Big") dx [])) ∧ (∀ H', (∀ b o, b ≠ a → H b = some o → H' b = some o) → H' a = some (.ins (He.ga K "Big") dx (bfl wd sd r)) → Q .non H')
theorem o_Big_init (T : Tx K mg) {fd : FuncData} (F : FunD K "__init__" "Big.__init__" (defArgs s_Big_init) (defBody s_Big_init) (defScope s_Big_init) [] [] (He.fAd K ("Big", some "__init__")) fd) : FnOk P w K mg base CX0 1 (He.fAd K ("Big", some "__init__")) fd ["self", "width", "side", "row"] (sp_Big_init K) := by
  refine F.ok sc_Big_init (fun vs H Q E h => ?_) (fun cdv A outer s H vs Q E hr h => ?_)
  · obtain ⟨a, dx, wd, sd, r, rfl, _⟩ := h
    rfl
  · obtain ⟨a, dx, wd, sd, r, rfl, h0, q⟩ := h
    refine ⟨_, PSs.nox (pss_cons (ps_fld (pv 0) (pv 1) rfl)
      (pss_cons (ps_fld (pv 0) (pv 2) rfl)
      (pss_one (ps_fld (pv 0) (pv 3) rfl)))), ?_⟩
    rw [show L2.start ["self", "width", "side", "row"] [.ref a, .int (wd : Int), .int sd, .ref r] = [some (.ref a), some (.int (wd : Int)), some (.int sd), some (.ref r)] from rfl]
    simp only [h0, K_Big T, A_Big_width T, A_Big_side T, A_Big_row T, tMake, tMeth, tDGet, sDPut, tSeq, tAsg, gName, tDrop, tRet, tRetN, tIfS, tNext, tTest, tB, tAnd, tOr, tNot, tAndV, tOrV, tNotV, tNever, tOp, tUn, rI0, rI, rU, tVar, tC, tCons, tNil, tBM, tBM0, tCB, tCall, tFld, sFld, tTup, tLst, gSub, gTup, gCons, gNil, tPar, tSl, tPart, tNoPart, rAppend, rClear, rSetL, rIxL, rIxT, rSlL, rEq, rNe, sl0, sl1, sl2, sl3, sl4, sl5, sl6, sl7, sl8, sl9, sl10, sl11, sl12, sl13, st0, st1, st2, st3, st4, st5, st6, st7, st8, st9, st10, st11, st12, st13, Option.some.injEq, V.int.injEq, V.bl.injEq, V.ref.injEq, V.str.injEq, List.cons.injEq, HO.ins.injEq, HO.lst.injEq, HO.tup.injEq, HO.dK.injEq, exists_eq_left', exists_eq_left, exists_eq_right, exists_and_left, exists_and_right, exists_const, and_assoc, true_and, and_true, decide_eq_true_eq, Int.toNat_natCast, mfl_width, mfl_base, mfl_rows, mfl_counts, mfl_entered, bfl_width, bfl_side, bfl_row, cx_K, upd_same, List.append_nil, List.cons_append, List.nil_append, List.length_cons, List.length_nil, tChain, Bool.not_true, Bool.not_false, if_true, if_false, tYes, scal_ii, scal_ss, scal_bb, ite_t, ite_f, dec_ii, dec_ss]
    refine ⟨by decide, ?_⟩
    simp only [upd_upd, tMake, tMeth, tDGet, sDPut, tSeq, tAsg, gName, tDrop, tRet, tRetN, tIfS, tNext, tTest, tB, tAnd, tOr, tNot, tAndV, tOrV, tNotV, tNever, tOp, tUn, rI0, rI, rU, tVar, tC, tCons, tNil, tBM, tBM0, tCB, tCall, tFld, sFld, tTup, tLst, gSub, gTup, gCons, gNil, tPar, tSl, tPart, tNoPart, rAppend, rClear, rSetL, rIxL, rIxT, rSlL, rEq, rNe, sl0, sl1, sl2, sl3, sl4, sl5, sl6, sl7, sl8, sl9, sl10, sl11, sl12, sl13, st0, st1, st2, st3, st4, st5, st6, st7, st8, st9, st10, st11, st12, st13, Option.some.injEq, V.int.injEq, V.bl.injEq, V.ref.injEq, V.str.injEq, List.cons.injEq, HO.ins.injEq, HO.lst.injEq, HO.tup.injEq, HO.dK.injEq, exists_eq_left', exists_eq_left, exists_eq_right, exists_and_left, exists_and_right, exists_const, and_assoc, true_and, and_true, decide_eq_true_eq, Int.toNat_natCast, mfl_width, mfl_base, mfl_rows, mfl_counts, mfl_entered, bfl_width, bfl_side, bfl_row, cx_K, upd_same, List.append_nil, List.cons_append, List.nil_append, List.length_cons, List.length_nil, tChain, Bool.not_true, Bool.not_false, if_true, if_false, tYes, scal_ii, scal_ss, scal_bb, ite_t, ite_f, dec_ii, dec_ss]
    refine ⟨by show 1 < 1000; decide, by show 2 < 1000; decide, q _ (fun b o hb e => ?_) upd_same⟩
    rw [upd_ne hb]; exact e
theorem c_Big_init (T : Tx K mg) : CalC P w K mg base CX0 "Big" 1 ["self", "width", "side", "row"] [] (sp_Big_init K) := by
  obtain ⟨fd, F⟩ := f_Big_init T
  exact ⟨_, fd, [], G_Big T, N_Big T, o_Big_init T F, B_Big_init F, .nil⟩
theorem big_make {Q : VK} {E : XK} {H : Hp} {wd : Nat} {sd : Int} {r : Addr} (h : ∀ a dx H', But [] H H' → H a = none → H' a = some (.ins (He.ga K "Big") dx (bfl wd sd r)) → Q (.ref a) H') :
    ∀ x dx, H x = none → H dx = none → dx ≠ x → sp_Big_init K (.ref x :: ([.int (wd : Int), .int sd, .ref r] ++ [])) (upd (upd H dx (.own x)) x (.ins (He.ga K "Big") dx [])) (fun v H2 => v = .non ∧ Q (.ref x) H2) E := by
  intro x dx hx hdx hne
  refine ⟨x, dx, wd, sd, r, rfl, upd_same, fun H' k e => ⟨rfl, h x dx H' (fun b o hb _ => ?_) hx e⟩⟩
  refine k b o (ne_of_none hb hx) ?_
  rw [upd_ne (ne_of_none hb hx), upd_ne (ne_of_none hb hdx)]; exact hb
/-! ### made -/
theorem sc_made : FnScope ["machine", "side", "digits", "size"] ["machine", "side", "digits"] (defScope s_made) := ⟨rfl, rfl, rfl, by decide +kernel, rfl, by decide +kernel, by decide +kernel⟩
def sp_made (K : PySem.W.Frag) : Sp := fun vs H Q E => ∃ (p d e r : Addr) (S : Ms) (sd : Int) (ds : List Int), vs = [.ref p, .int sd, .ref r] ∧ (MAt K H p d e S) ∧ (SqL K H r (ds.map .int)) ∧ (0 < S.w) ∧ (Dig S.w ds) ∧ (sd = 1 ∨ sd = -1 ∨ val S.w ds = 0) ∧ (∀ a H', But [] H H' → H a = none → BigI K H' a S.w (sd * val S.w ds) → Q (.ref a) H')
theorem o_made (T : Tx K mg) {fd : FuncData} (F : FunD K "made" "made" (defArgs s_made) (defBody s_made) (defScope s_made) [] [] (He.fAd K ("made", none)) fd) : FnOk P w K mg base CX0 3 (He.fAd K ("made", none)) fd ["machine", "side", "digits"] (sp_made K) := by
  refine F.ok sc_made (fun vs H Q E h => ?_) (fun cdv A outer s H vs Q E hr h => ?_)
  · obtain ⟨p, d, e, r, S, sd, ds, rfl, _⟩ := h
    rfl
  · obtain ⟨p, d, e, r, S, sd, ds, rfl, hM, hd, hw, hdg, hsd, q⟩ := h
    refine ⟨_, PSs.nox (pss_cons (ps_set (i := 3) sc_made.nd rfl (.inl rfl) (pe_callB call_len_seq (by rfl) (b_len T) PySem.boot_len (pa_cons (pv 2) pa_nil)))
      (Evl.pss_cut (ps_while PassesOwn.never (PW.pt (pw_and (pt_cmpR op_gt (pv 3) pe_int (nomark _)) (pw_and1 (pt_cmpR op_eq (pe_ix ix_list (pv 2) (pe_op op_sub (pv 3) pe_int) (fun _ _ => rfl)) pe_int (nomark _))))) (pss_one (ps_set (i := 3) sc_made.nd rfl (.inl rfl) (pe_op op_sub (pv 3) pe_int))))
      (pss_one (ps_ret (pk (c_Big_init T) hr (by decide) pass0 (pa_cons (pe_fld (pv 0) rfl) (pa_cons (pe_ifExp (pt_cmpR op_gt (pv 3) pe_int (nomark _)) (pv 1) pe_int) (pa_cons (pe_callTy call_tuple_of (by rfl) (b_tuple T) (by decide +kernel) (pa_cons (pe_slice sl_list (pv 2) po_none (po_some (pv 3))) pa_nil)) pa_nil)))))))), ?_⟩
    rw [show L2.start ["machine", "side", "digits", "size"] [.ref p, .int sd, .ref r] = [some (.ref p), some (.int sd), some (.ref r), none] from rfl]
    obtain ⟨⟨dx, hi⟩, hc, hen⟩ := id hM
    simp only [tMake, tMeth, tDGet, sDPut, tSeq, tAsg, gName, tDrop, tRet, tRetN, tIfS, tNext, tTest, tB, tAnd, tOr, tNot, tAndV, tOrV, tNotV, tNever, tOp, tUn, rI0, rI, rU, tVar, tC, tCons, tNil, tBM, tBM0, tCB, tCall, tFld, sFld, tTup, tLst, gSub, gTup, gCons, gNil, tPar, tSl, tPart, tNoPart, rAppend, rClear, rSetL, rIxL, rIxT, rSlL, rEq, rNe, sl0, sl1, sl2, sl3, sl4, sl5, sl6, sl7, sl8, sl9, sl10, sl11, sl12, sl13, st0, st1, st2, st3, st4, st5, st6, st7, st8, st9, st10, st11, st12, st13, Option.some.injEq, V.int.injEq, V.bl.injEq, V.ref.injEq, V.str.injEq, List.cons.injEq, HO.ins.injEq, HO.lst.injEq, HO.tup.injEq, HO.dK.injEq, exists_eq_left', exists_eq_left, exists_eq_right, exists_and_left, exists_and_right, exists_const, and_assoc, true_and, and_true, decide_eq_true_eq, Int.toNat_natCast, mfl_width, mfl_base, mfl_rows, mfl_counts, mfl_entered, bfl_width, bfl_side, bfl_row, cx_K, upd_same, List.append_nil, List.cons_append, List.nil_append, List.length_cons, List.length_nil, tChain, Bool.not_true, Bool.not_false, if_true, if_false, tYes, scal_ii, scal_ss, scal_bb, ite_t, ite_f, dec_ii, dec_ss]
    refine ⟨_, .inl hd, ?_⟩
    refine wcut (fun σ' H' => ∃ n : Nat, σ' = [some (.ref p), some (.int sd), some (.ref r), some (.int (n : Int))] ∧ H' = H ∧ n ≤ ds.length ∧ ds.take n = norm ds)
      (fun m σ H' => ∃ n : Nat, m = n ∧ σ = [some (.ref p), some (.int sd), some (.ref r), some (.int (n : Int))] ∧ H' = H ∧ n ≤ ds.length ∧ norm (ds.take n) = norm ds)
      ds.length ⟨ds.length, rfl, by rw [List.length_map], rfl, Nat.le_refl _, by rw [List.take_length]⟩ ?_ ?_
    · rintro Vn M hV hM m σ H1 ⟨n, rfl, rfl, rfl, hn, hh⟩
      simp only [tMake, tMeth, tDGet, sDPut, tSeq, tAsg, gName, tDrop, tRet, tRetN, tIfS, tNext, tTest, tB, tAnd, tOr, tNot, tAndV, tOrV, tNotV, tNever, tOp, tUn, rI0, rI, rU, tVar, tC, tCons, tNil, tBM, tBM0, tCB, tCall, tFld, sFld, tTup, tLst, gSub, gTup, gCons, gNil, tPar, tSl, tPart, tNoPart, rAppend, rClear, rSetL, rIxL, rIxT, rSlL, rEq, rNe, sl0, sl1, sl2, sl3, sl4, sl5, sl6, sl7, sl8, sl9, sl10, sl11, sl12, sl13, st0, st1, st2, st3, st4, st5, st6, st7, st8, st9, st10, st11, st12, st13, Option.some.injEq, V.int.injEq, V.bl.injEq, V.ref.injEq, V.str.injEq, List.cons.injEq, HO.ins.injEq, HO.lst.injEq, HO.tup.injEq, HO.dK.injEq, exists_eq_left', exists_eq_left, exists_eq_right, exists_and_left, exists_and_right, exists_const, and_assoc, true_and, and_true, decide_eq_true_eq, Int.toNat_natCast, mfl_width, mfl_base, mfl_rows, mfl_counts, mfl_entered, bfl_width, bfl_side, bfl_row, cx_K, upd_same, List.append_nil, List.cons_append, List.nil_append, List.length_cons, List.length_nil, tChain, Bool.not_true, Bool.not_false, if_true, if_false, tYes, scal_ii, scal_ss, scal_bb, ite_t, ite_f, dec_ii, dec_ss]
      refine ite2 (fun hm => ?_) (fun hm => ?_)
      · obtain ⟨k, rfl⟩ : ∃ k, m = k + 1 := ⟨m - 1, by omega⟩
        have hk : k < ds.length := by omega
        have hg : ds[k]? = some ds[k] := List.getElem?_eq_getElem hk
        refine ⟨_, hd, _, at_of (j := k) (by omega) (by rw [List.getElem?_map, hg]; rfl), ?_⟩
        simp only [tMake, tMeth, tDGet, sDPut, tSeq, tAsg, gName, tDrop, tRet, tRetN, tIfS, tNext, tTest, tB, tAnd, tOr, tNot, tAndV, tOrV, tNotV, tNever, tOp, tUn, rI0, rI, rU, tVar, tC, tCons, tNil, tBM, tBM0, tCB, tCall, tFld, sFld, tTup, tLst, gSub, gTup, gCons, gNil, tPar, tSl, tPart, tNoPart, rAppend, rClear, rSetL, rIxL, rIxT, rSlL, rEq, rNe, sl0, sl1, sl2, sl3, sl4, sl5, sl6, sl7, sl8, sl9, sl10, sl11, sl12, sl13, st0, st1, st2, st3, st4, st5, st6, st7, st8, st9, st10, st11, st12, st13, Option.some.injEq, V.int.injEq, V.bl.injEq, V.ref.injEq, V.str.injEq, List.cons.injEq, HO.ins.injEq, HO.lst.injEq, HO.tup.injEq, HO.dK.injEq, exists_eq_left', exists_eq_left, exists_eq_right, exists_and_left, exists_and_right, exists_const, and_assoc, true_and, and_true, decide_eq_true_eq, Int.toNat_natCast, mfl_width, mfl_base, mfl_rows, mfl_counts, mfl_entered, bfl_width, bfl_side, bfl_row, cx_K, upd_same, List.append_nil, List.cons_append, List.nil_append, List.length_cons, List.length_nil, tChain, Bool.not_true, Bool.not_false, if_true, if_false, tYes, scal_ii, scal_ss, scal_bb, ite_t, ite_f, dec_ii, dec_ss]
        refine ite2 (fun hz0 => ⟨_, fun σ' H' z => z, k, by omega, hV _ _ _ ⟨k, rfl, ?_, rfl, by omega, ?_⟩⟩) (fun hz0 => hM _ _ ⟨k + 1, rfl, rfl, hn, ?_⟩)
        · rw [show ((k + 1 : Nat) : Int) - 1 = (k : Int) by omega]
        · rw [← hh, take_succ' hg, hz0, norm_snoc0]
        · rw [← hh, take_succ' hg, norm_snoc hz0]
      · have : m = 0 := by omega
        subst this
        exact hM _ _ ⟨0, rfl, rfl, hn, by rw [← hh]; rfl⟩
    · rintro σ' H' ⟨n, rfl, rfl, hn, hh⟩
      simp only [hi, K_Machine T, A_Machine_width T, tMake, tMeth, tDGet, sDPut, tSeq, tAsg, gName, tDrop, tRet, tRetN, tIfS, tNext, tTest, tB, tAnd, tOr, tNot, tAndV, tOrV, tNotV, tNever, tOp, tUn, rI0, rI, rU, tVar, tC, tCons, tNil, tBM, tBM0, tCB, tCall, tFld, sFld, tTup, tLst, gSub, gTup, gCons, gNil, tPar, tSl, tPart, tNoPart, rAppend, rClear, rSetL, rIxL, rIxT, rSlL, rEq, rNe, sl0, sl1, sl2, sl3, sl4, sl5, sl6, sl7, sl8, sl9, sl10, sl11, sl12, sl13, st0, st1, st2, st3, st4, st5, st6, st7, st8, st9, st10, st11, st12, st13, Option.some.injEq, V.int.injEq, V.bl.injEq, V.ref.injEq, V.str.injEq, List.cons.injEq, HO.ins.injEq, HO.lst.injEq, HO.tup.injEq, HO.dK.injEq, exists_eq_left', exists_eq_left, exists_eq_right, exists_and_left, exists_and_right, exists_const, and_assoc, true_and, and_true, decide_eq_true_eq, Int.toNat_natCast, mfl_width, mfl_base, mfl_rows, mfl_counts, mfl_entered, bfl_width, bfl_side, bfl_row, cx_K, upd_same, List.append_nil, List.cons_append, List.nil_append, List.length_cons, List.length_nil, tChain, Bool.not_true, Bool.not_false, if_true, if_false, tYes, scal_ii, scal_ss, scal_bb, ite_t, ite_f, dec_ii, dec_ss]
      have hz2 : norm ds = [] ↔ ¬ (0 < (n : Int)) := by
        rw [← hh, List.take_eq_nil_iff]
        constructor
        · rintro (h | h)
          · omega
          · rw [h] at hn; simp at hn; omega
        · intro h; left; omega
      refine tif (decide (0 < (n : Int))) (.int (if norm ds = [] then 0 else sd)) (fun R r => ?_) (fun hb r => ?_) (fun hb r => ?_) ?_
      · simp only [tMake, tMeth, tDGet, sDPut, tSeq, tAsg, gName, tDrop, tRet, tRetN, tIfS, tNext, tTest, tB, tAnd, tOr, tNot, tAndV, tOrV, tNotV, tNever, tOp, tUn, rI0, rI, rU, tVar, tC, tCons, tNil, tBM, tBM0, tCB, tCall, tFld, sFld, tTup, tLst, gSub, gTup, gCons, gNil, tPar, tSl, tPart, tNoPart, rAppend, rClear, rSetL, rIxL, rIxT, rSlL, rEq, rNe, sl0, sl1, sl2, sl3, sl4, sl5, sl6, sl7, sl8, sl9, sl10, sl11, sl12, sl13, st0, st1, st2, st3, st4, st5, st6, st7, st8, st9, st10, st11, st12, st13, Option.some.injEq, V.int.injEq, V.bl.injEq, V.ref.injEq, V.str.injEq, List.cons.injEq, HO.ins.injEq, HO.lst.injEq, HO.tup.injEq, HO.dK.injEq, exists_eq_left', exists_eq_left, exists_eq_right, exists_and_left, exists_and_right, exists_const, and_assoc, true_and, and_true, decide_eq_true_eq, Int.toNat_natCast, mfl_width, mfl_base, mfl_rows, mfl_counts, mfl_entered, bfl_width, bfl_side, bfl_row, cx_K, upd_same, List.append_nil, List.cons_append, List.nil_append, List.length_cons, List.length_nil, tChain, Bool.not_true, Bool.not_false, if_true, if_false, tYes, scal_ii, scal_ss, scal_bb, ite_t, ite_f, dec_ii, dec_ss]; simpa using r
      · simp only [tMake, tMeth, tDGet, sDPut, tSeq, tAsg, gName, tDrop, tRet, tRetN, tIfS, tNext, tTest, tB, tAnd, tOr, tNot, tAndV, tOrV, tNotV, tNever, tOp, tUn, rI0, rI, rU, tVar, tC, tCons, tNil, tBM, tBM0, tCB, tCall, tFld, sFld, tTup, tLst, gSub, gTup, gCons, gNil, tPar, tSl, tPart, tNoPart, rAppend, rClear, rSetL, rIxL, rIxT, rSlL, rEq, rNe, sl0, sl1, sl2, sl3, sl4, sl5, sl6, sl7, sl8, sl9, sl10, sl11, sl12, sl13, st0, st1, st2, st3, st4, st5, st6, st7, st8, st9, st10, st11, st12, st13, Option.some.injEq, V.int.injEq, V.bl.injEq, V.ref.injEq, V.str.injEq, List.cons.injEq, HO.ins.injEq, HO.lst.injEq, HO.tup.injEq, HO.dK.injEq, exists_eq_left', exists_eq_left, exists_eq_right, exists_and_left, exists_and_right, exists_const, and_assoc, true_and, and_true, decide_eq_true_eq, Int.toNat_natCast, mfl_width, mfl_base, mfl_rows, mfl_counts, mfl_entered, bfl_width, bfl_side, bfl_row, cx_K, upd_same, List.append_nil, List.cons_append, List.nil_append, List.length_cons, List.length_nil, tChain, Bool.not_true, Bool.not_false, if_true, if_false, tYes, scal_ii, scal_ss, scal_bb, ite_t, ite_f, dec_ii, dec_ss]; rwa [if_neg (fun z => hz2.mp z (by simpa using hb))] at r
      · simp only [tMake, tMeth, tDGet, sDPut, tSeq, tAsg, gName, tDrop, tRet, tRetN, tIfS, tNext, tTest, tB, tAnd, tOr, tNot, tAndV, tOrV, tNotV, tNever, tOp, tUn, rI0, rI, rU, tVar, tC, tCons, tNil, tBM, tBM0, tCB, tCall, tFld, sFld, tTup, tLst, gSub, gTup, gCons, gNil, tPar, tSl, tPart, tNoPart, rAppend, rClear, rSetL, rIxL, rIxT, rSlL, rEq, rNe, sl0, sl1, sl2, sl3, sl4, sl5, sl6, sl7, sl8, sl9, sl10, sl11, sl12, sl13, st0, st1, st2, st3, st4, st5, st6, st7, st8, st9, st10, st11, st12, st13, Option.some.injEq, V.int.injEq, V.bl.injEq, V.ref.injEq, V.str.injEq, List.cons.injEq, HO.ins.injEq, HO.lst.injEq, HO.tup.injEq, HO.dK.injEq, exists_eq_left', exists_eq_left, exists_eq_right, exists_and_left, exists_and_right, exists_const, and_assoc, true_and, and_true, decide_eq_true_eq, Int.toNat_natCast, mfl_width, mfl_base, mfl_rows, mfl_counts, mfl_entered, bfl_width, bfl_side, bfl_row, cx_K, upd_same, List.append_nil, List.cons_append, List.nil_append, List.length_cons, List.length_nil, tChain, Bool.not_true, Bool.not_false, if_true, if_false, tYes, scal_ii, scal_ss, scal_bb, ite_t, ite_f, dec_ii, dec_ss]; rwa [if_pos (hz2.mpr (by simpa using hb))] at r
      refine ⟨_, hd, fun c hc1 => ⟨_, .inl ⟨.inl (.inl upd_same), fun l hl => ?_⟩⟩⟩
      rw [show cutV (ds.map V.int) none (some (n : Int)) = (norm ds).map V.int by rw [cut_take (by rw [List.length_map]; exact hn), ← List.map_take, hh]] at hl ⊢
      refine big_make (K := K) (wd := S.w) (r := l) fun a dx' H3 b3 ha3 hb3 => ?_
      have bb : But [] H' H3 := ((But.new0 hc1).trans (But.new0 hl)).trans b3
      exact q a H3 bb (((But.new0 (L := []) hc1).new hl).free ha3 (by simp)) (big_norm hw hdg hsd ⟨dx', l, hb3, b3 _ _ upd_same (by simp)⟩)
theorem c_made (T : Tx K mg) : Cal P w K mg base CX0 "made" 3 ["machine", "side", "digits"] [] (sp_made K) := by
  obtain ⟨fd, F⟩ := f_made T
  exact ⟨_, fd, [], G_made T, F.kp, o_made T F, B_made F, .nil⟩
/-! ### digits_of -/
theorem sc_digits_of : FnScope ["machine", "n", "found"] ["machine", "n"] (defScope s_digits_of) := ⟨rfl, rfl, rfl, by decide +kernel, rfl, by decide +kernel, by decide +kernel⟩
def sp_digits_of (K : PySem.W.Frag) : Sp := fun vs H Q E => ∃ (p d e : Addr) (S : Ms) (n : Nat), vs = [.ref p, .int (n : Int)] ∧ (MAt K H p d e S) ∧ (0 < S.w) ∧ (n < 2 ^ lim) ∧ (∀ l H', But [] H H' → H l = none → H' l = some (.lst ((dgs S.w n).map .int)) → Q (.ref l) H')
theorem o_digits_of (T : Tx K mg) {fd : FuncData} (F : FunD K "digits_of" "digits_of" (defArgs s_digits_of) (defBody s_digits_of) (defScope s_digits_of) [] [] (He.fAd K ("digits_of", none)) fd) : FnOk P w K mg base CX0 1 (He.fAd K ("digits_of", none)) fd ["machine", "n"] (sp_digits_of K) := by
  refine F.ok sc_digits_of (fun vs H Q E h => ?_) (fun cdv A outer s H vs Q E hr h => ?_)
  · obtain ⟨p, d, e, S, n, rfl, _⟩ := h
    rfl
  · obtain ⟨p, d, e, S, n, rfl, hM, hw, hn, q⟩ := h
    refine ⟨_, PSs.nox (pss_cons (ps_set (i := 2) sc_digits_of.nd rfl (.inl rfl) (pe_lst pa_nil))
      (Evl.pss_cut (ps_while PassesOwn.never (pt_cmpR op_gt (pv 1) pe_int (nomark _)) (pss_cons (ps_expr (pe_bm PySem.F.plainAttrs_list PySem.F.slot_list_append PySem.F.type_list_append mt_append (pv 2) (pa_cons (pe_op op_mod (pv 1) (pe_fld (pv 0) rfl)) pa_nil)))
      (pss_one (ps_set (i := 1) sc_digits_of.nd rfl (.inl rfl) (pe_op op_shr (pv 1) (pe_fld (pv 0) rfl))))))
      (pss_one (ps_ret (pv 2))))), ?_⟩
    rw [show L2.start ["machine", "n", "found"] [.ref p, .int (n : Int)] = [some (.ref p), some (.int (n : Int)), none] from rfl]
    obtain ⟨⟨dx, hi⟩, hc, hen⟩ := id hM
    simp only [tMake, tMeth, tDGet, sDPut, tSeq, tAsg, gName, tDrop, tRet, tRetN, tIfS, tNext, tTest, tB, tAnd, tOr, tNot, tAndV, tOrV, tNotV, tNever, tOp, tUn, rI0, rI, rU, tVar, tC, tCons, tNil, tBM, tBM0, tCB, tCall, tFld, sFld, tTup, tLst, gSub, gTup, gCons, gNil, tPar, tSl, tPart, tNoPart, rAppend, rClear, rSetL, rIxL, rIxT, rSlL, rEq, rNe, sl0, sl1, sl2, sl3, sl4, sl5, sl6, sl7, sl8, sl9, sl10, sl11, sl12, sl13, st0, st1, st2, st3, st4, st5, st6, st7, st8, st9, st10, st11, st12, st13, Option.some.injEq, V.int.injEq, V.bl.injEq, V.ref.injEq, V.str.injEq, List.cons.injEq, HO.ins.injEq, HO.lst.injEq, HO.tup.injEq, HO.dK.injEq, exists_eq_left', exists_eq_left, exists_eq_right, exists_and_left, exists_and_right, exists_const, and_assoc, true_and, and_true, decide_eq_true_eq, Int.toNat_natCast, mfl_width, mfl_base, mfl_rows, mfl_counts, mfl_entered, bfl_width, bfl_side, bfl_row, cx_K, upd_same, List.append_nil, List.cons_append, List.nil_append, List.length_cons, List.length_nil, tChain, Bool.not_true, Bool.not_false, if_true, if_false, tYes, scal_ii, scal_ss, scal_bb, ite_t, ite_f, dec_ii, dec_ss]
    refine ⟨Nat.zero_le _, fun l hl => ?_⟩
    refine wcut (fun σ' H' => σ'[2]? = some (some (.ref l)) ∧ But [] H H' ∧ H' l = some (.lst ((dgs S.w n).map .int)))
      (fun m σ H' => ∃ (n' : Nat) (acc : List Int), m = n' ∧ σ = [some (.ref p), some (.int (n' : Int)), some (.ref l)] ∧ But [] H H' ∧ H' l = some (.lst (acc.map .int)) ∧ acc ++ dgs S.w n' = dgs S.w n)
      n ⟨n, [], rfl, rfl, But.new0 hl, upd_same, rfl⟩ ?_ ?_
    · rintro Vn M hV hM m σ H1 ⟨n', acc, rfl, rfl, e1, h1, ha⟩
      have hi1 := e1 _ _ hi (by simp)
      have hpl : p ≠ l := ne_of hi1 h1 (by intro z; cases z)
      have hal : acc.length ≤ lim := by
        have h3 := congrArg List.length ha
        rw [List.length_append] at h3
        have h4 := dgs_lim hw hn
        omega
      simp only [tMake, tMeth, tDGet, sDPut, tSeq, tAsg, gName, tDrop, tRet, tRetN, tIfS, tNext, tTest, tB, tAnd, tOr, tNot, tAndV, tOrV, tNotV, tNever, tOp, tUn, rI0, rI, rU, tVar, tC, tCons, tNil, tBM, tBM0, tCB, tCall, tFld, sFld, tTup, tLst, gSub, gTup, gCons, gNil, tPar, tSl, tPart, tNoPart, rAppend, rClear, rSetL, rIxL, rIxT, rSlL, rEq, rNe, sl0, sl1, sl2, sl3, sl4, sl5, sl6, sl7, sl8, sl9, sl10, sl11, sl12, sl13, st0, st1, st2, st3, st4, st5, st6, st7, st8, st9, st10, st11, st12, st13, Option.some.injEq, V.int.injEq, V.bl.injEq, V.ref.injEq, V.str.injEq, List.cons.injEq, HO.ins.injEq, HO.lst.injEq, HO.tup.injEq, HO.dK.injEq, exists_eq_left', exists_eq_left, exists_eq_right, exists_and_left, exists_and_right, exists_const, and_assoc, true_and, and_true, decide_eq_true_eq, Int.toNat_natCast, mfl_width, mfl_base, mfl_rows, mfl_counts, mfl_entered, bfl_width, bfl_side, bfl_row, cx_K, upd_same, List.append_nil, List.cons_append, List.nil_append, List.length_cons, List.length_nil, tChain, Bool.not_true, Bool.not_false, if_true, if_false, tYes, scal_ii, scal_ss, scal_bb, ite_t, ite_f, dec_ii, dec_ss]
      refine ite2 (fun hm => ⟨_, fun σ' H' z => z, ?_⟩) (fun hm => hM _ _ ⟨rfl, e1, ?_⟩)
      · simp only [hi1, h1, tyl h1, upd_ne hpl, K_Machine T, A_Machine_width T, A_Machine_base T, tMake, tMeth, tDGet, sDPut, tSeq, tAsg, gName, tDrop, tRet, tRetN, tIfS, tNext, tTest, tB, tAnd, tOr, tNot, tAndV, tOrV, tNotV, tNever, tOp, tUn, rI0, rI, rU, tVar, tC, tCons, tNil, tBM, tBM0, tCB, tCall, tFld, sFld, tTup, tLst, gSub, gTup, gCons, gNil, tPar, tSl, tPart, tNoPart, rAppend, rClear, rSetL, rIxL, rIxT, rSlL, rEq, rNe, sl0, sl1, sl2, sl3, sl4, sl5, sl6, sl7, sl8, sl9, sl10, sl11, sl12, sl13, st0, st1, st2, st3, st4, st5, st6, st7, st8, st9, st10, st11, st12, st13, Option.some.injEq, V.int.injEq, V.bl.injEq, V.ref.injEq, V.str.injEq, List.cons.injEq, HO.ins.injEq, HO.lst.injEq, HO.tup.injEq, HO.dK.injEq, exists_eq_left', exists_eq_left, exists_eq_right, exists_and_left, exists_and_right, exists_const, and_assoc, true_and, and_true, decide_eq_true_eq, Int.toNat_natCast, mfl_width, mfl_base, mfl_rows, mfl_counts, mfl_entered, bfl_width, bfl_side, bfl_row, cx_K, upd_same, List.append_nil, List.cons_append, List.nil_append, List.length_cons, List.length_nil, tChain, Bool.not_true, Bool.not_false, if_true, if_false, tYes, scal_ii, scal_ss, scal_bb, ite_t, ite_f, dec_ii, dec_ss]
        refine ⟨two_pos _, ?_, by omega, m / 2 ^ S.w, Nat.div_lt_self (by omega) (Nat.one_lt_two_pow (by omega)), hV _ _ _ ⟨_, acc ++ [((m % 2 ^ S.w : Nat) : Int)], rfl, ?_, e1.mut hl, ?_, ?_⟩⟩
        · rw [List.length_map]; exact lt_line hal
        · norm_cast
        · rw [upd_same, List.map_append]; norm_cast
        · rw [← ha, dgs_step hw (show 0 < m by omega)]; simp
      · have hz : m = 0 := by omega
        rw [hz, dgs_zero, List.append_nil] at ha
        rw [h1, ha]
    · rintro σ' H' ⟨hs, hb, hl'⟩
      simp only [hs, tMake, tMeth, tDGet, sDPut, tSeq, tAsg, gName, tDrop, tRet, tRetN, tIfS, tNext, tTest, tB, tAnd, tOr, tNot, tAndV, tOrV, tNotV, tNever, tOp, tUn, rI0, rI, rU, tVar, tC, tCons, tNil, tBM, tBM0, tCB, tCall, tFld, sFld, tTup, tLst, gSub, gTup, gCons, gNil, tPar, tSl, tPart, tNoPart, rAppend, rClear, rSetL, rIxL, rIxT, rSlL, rEq, rNe, sl0, sl1, sl2, sl3, sl4, sl5, sl6, sl7, sl8, sl9, sl10, sl11, sl12, sl13, st0, st1, st2, st3, st4, st5, st6, st7, st8, st9, st10, st11, st12, st13, Option.some.injEq, V.int.injEq, V.bl.injEq, V.ref.injEq, V.str.injEq, List.cons.injEq, HO.ins.injEq, HO.lst.injEq, HO.tup.injEq, HO.dK.injEq, exists_eq_left', exists_eq_left, exists_eq_right, exists_and_left, exists_and_right, exists_const, and_assoc, true_and, and_true, decide_eq_true_eq, Int.toNat_natCast, mfl_width, mfl_base, mfl_rows, mfl_counts, mfl_entered, bfl_width, bfl_side, bfl_row, cx_K, upd_same, List.append_nil, List.cons_append, List.nil_append, List.length_cons, List.length_nil, tChain, Bool.not_true, Bool.not_false, if_true, if_false, tYes, scal_ii, scal_ss, scal_bb, ite_t, ite_f, dec_ii, dec_ss]
      exact q l H' hb hl hl'
theorem c_digits_of (T : Tx K mg) : Cal P w K mg base CX0 "digits_of" 1 ["machine", "n"] [] (sp_digits_of K) := by
  obtain ⟨fd, F⟩ := f_digits_of T
  exact ⟨_, fd, [], G_digits_of T, F.kp, o_digits_of T F, B_digits_of F, .nil⟩
/-! ### big_of -/
theorem sc_big_of : FnScope ["machine", "n"] ["machine", "n"] (defScope s_big_of) := ⟨rfl, rfl, rfl, by decide +kernel, rfl, by decide +kernel, by decide +kernel⟩
def sp_big_of (K : PySem.W.Frag) : Sp := fun vs H Q E => ∃ (p d e : Addr) (S : Ms) (n : Int), vs = [.ref p, .int n] ∧ (MAt K H p d e S) ∧ (0 < S.w) ∧ (n.natAbs < 2 ^ lim) ∧ (∀ a H', But [] H H' → H a = none → BigI K H' a S.w n → Q (.ref a) H')
theorem o_big_of (T : Tx K mg) {fd : FuncData} (F : FunD K "big_of" "big_of" (defArgs s_big_of) (defBody s_big_of) (defScope s_big_of) [] [] (He.fAd K ("big_of", none)) fd) : FnOk P w K mg base CX0 4 (He.fAd K ("big_of", none)) fd ["machine", "n"] (sp_big_of K) := by
  refine F.ok sc_big_of (fun vs H Q E h => ?_) (fun cdv A outer s H vs Q E hr h => ?_)
  · obtain ⟨p, d, e, S, n, rfl, _⟩ := h
    rfl
  · obtain ⟨p, d, e, S, n, rfl, hM, hw, hn, q⟩ := h
    refine ⟨_, PSs.nox (pss_one (ps_ret (pc (c_made T) hr (by decide) pass0 (pa_cons (pv 0) (pa_cons (pe_ifExp (pt_cmpR op_lt (pv 1) pe_int (nomark _)) (pe_un un_neg pe_int) pe_int) (pa_cons (pc (c_digits_of T) hr (by decide) pass0 (pa_cons (pv 0) (pa_cons (pe_callB call_abs (by rfl) (b_abs T) (by decide +kernel) (pa_cons (pv 1) pa_nil)) pa_nil))) pa_nil)))))), ?_⟩
    rw [show L2.start ["machine", "n"] [.ref p, .int n] = [some (.ref p), some (.int n)] from rfl]
    simp only [tMake, tMeth, tDGet, sDPut, tSeq, tAsg, gName, tDrop, tRet, tRetN, tIfS, tNext, tTest, tB, tAnd, tOr, tNot, tAndV, tOrV, tNotV, tNever, tOp, tUn, rI0, rI, rU, tVar, tC, tCons, tNil, tBM, tBM0, tCB, tCall, tFld, sFld, tTup, tLst, gSub, gTup, gCons, gNil, tPar, tSl, tPart, tNoPart, rAppend, rClear, rSetL, rIxL, rIxT, rSlL, rEq, rNe, sl0, sl1, sl2, sl3, sl4, sl5, sl6, sl7, sl8, sl9, sl10, sl11, sl12, sl13, st0, st1, st2, st3, st4, st5, st6, st7, st8, st9, st10, st11, st12, st13, Option.some.injEq, V.int.injEq, V.bl.injEq, V.ref.injEq, V.str.injEq, List.cons.injEq, HO.ins.injEq, HO.lst.injEq, HO.tup.injEq, HO.dK.injEq, exists_eq_left', exists_eq_left, exists_eq_right, exists_and_left, exists_and_right, exists_const, and_assoc, true_and, and_true, decide_eq_true_eq, Int.toNat_natCast, mfl_width, mfl_base, mfl_rows, mfl_counts, mfl_entered, bfl_width, bfl_side, bfl_row, cx_K, upd_same, List.append_nil, List.cons_append, List.nil_append, List.length_cons, List.length_nil, tChain, Bool.not_true, Bool.not_false, if_true, if_false, tYes, scal_ii, scal_ss, scal_bb, ite_t, ite_f, dec_ii, dec_ss]
    obtain ⟨sg, hsg⟩ : ∃ sg : Int, sg = if n < 0 then -1 else 1 := ⟨_, rfl⟩
    refine tif (decide (n < 0)) (.int sg) (fun R r => ?_) (fun hb r => ?_) (fun hb r => ?_) ?_
    · simp only [tMake, tMeth, tDGet, sDPut, tSeq, tAsg, gName, tDrop, tRet, tRetN, tIfS, tNext, tTest, tB, tAnd, tOr, tNot, tAndV, tOrV, tNotV, tNever, tOp, tUn, rI0, rI, rU, tVar, tC, tCons, tNil, tBM, tBM0, tCB, tCall, tFld, sFld, tTup, tLst, gSub, gTup, gCons, gNil, tPar, tSl, tPart, tNoPart, rAppend, rClear, rSetL, rIxL, rIxT, rSlL, rEq, rNe, sl0, sl1, sl2, sl3, sl4, sl5, sl6, sl7, sl8, sl9, sl10, sl11, sl12, sl13, st0, st1, st2, st3, st4, st5, st6, st7, st8, st9, st10, st11, st12, st13, Option.some.injEq, V.int.injEq, V.bl.injEq, V.ref.injEq, V.str.injEq, List.cons.injEq, HO.ins.injEq, HO.lst.injEq, HO.tup.injEq, HO.dK.injEq, exists_eq_left', exists_eq_left, exists_eq_right, exists_and_left, exists_and_right, exists_const, and_assoc, true_and, and_true, decide_eq_true_eq, Int.toNat_natCast, mfl_width, mfl_base, mfl_rows, mfl_counts, mfl_entered, bfl_width, bfl_side, bfl_row, cx_K, upd_same, List.append_nil, List.cons_append, List.nil_append, List.length_cons, List.length_nil, tChain, Bool.not_true, Bool.not_false, if_true, if_false, tYes, scal_ii, scal_ss, scal_bb, ite_t, ite_f, dec_ii, dec_ss]; exact r
    · rw [show sg = -1 by rw [hsg, if_pos (by simpa using hb)]] at r; simpa only [tMake, tMeth, tDGet, sDPut, tSeq, tAsg, gName, tDrop, tRet, tRetN, tIfS, tNext, tTest, tB, tAnd, tOr, tNot, tAndV, tOrV, tNotV, tNever, tOp, tUn, rI0, rI, rU, tVar, tC, tCons, tNil, tBM, tBM0, tCB, tCall, tFld, sFld, tTup, tLst, gSub, gTup, gCons, gNil, tPar, tSl, tPart, tNoPart, rAppend, rClear, rSetL, rIxL, rIxT, rSlL, rEq, rNe, sl0, sl1, sl2, sl3, sl4, sl5, sl6, sl7, sl8, sl9, sl10, sl11, sl12, sl13, st0, st1, st2, st3, st4, st5, st6, st7, st8, st9, st10, st11, st12, st13, Option.some.injEq, V.int.injEq, V.bl.injEq, V.ref.injEq, V.str.injEq, List.cons.injEq, HO.ins.injEq, HO.lst.injEq, HO.tup.injEq, HO.dK.injEq, exists_eq_left', exists_eq_left, exists_eq_right, exists_and_left, exists_and_right, exists_const, and_assoc, true_and, and_true, decide_eq_true_eq, Int.toNat_natCast, mfl_width, mfl_base, mfl_rows, mfl_counts, mfl_entered, bfl_width, bfl_side, bfl_row, cx_K, upd_same, List.append_nil, List.cons_append, List.nil_append, List.length_cons, List.length_nil, tChain, Bool.not_true, Bool.not_false, if_true, if_false, tYes, scal_ii, scal_ss, scal_bb, ite_t, ite_f, dec_ii, dec_ss] using r
    · rw [show sg = 1 by rw [hsg, if_neg (by simpa using hb)]] at r; simpa only [tMake, tMeth, tDGet, sDPut, tSeq, tAsg, gName, tDrop, tRet, tRetN, tIfS, tNext, tTest, tB, tAnd, tOr, tNot, tAndV, tOrV, tNotV, tNever, tOp, tUn, rI0, rI, rU, tVar, tC, tCons, tNil, tBM, tBM0, tCB, tCall, tFld, sFld, tTup, tLst, gSub, gTup, gCons, gNil, tPar, tSl, tPart, tNoPart, rAppend, rClear, rSetL, rIxL, rIxT, rSlL, rEq, rNe, sl0, sl1, sl2, sl3, sl4, sl5, sl6, sl7, sl8, sl9, sl10, sl11, sl12, sl13, st0, st1, st2, st3, st4, st5, st6, st7, st8, st9, st10, st11, st12, st13, Option.some.injEq, V.int.injEq, V.bl.injEq, V.ref.injEq, V.str.injEq, List.cons.injEq, HO.ins.injEq, HO.lst.injEq, HO.tup.injEq, HO.dK.injEq, exists_eq_left', exists_eq_left, exists_eq_right, exists_and_left, exists_and_right, exists_const, and_assoc, true_and, and_true, decide_eq_true_eq, Int.toNat_natCast, mfl_width, mfl_base, mfl_rows, mfl_counts, mfl_entered, bfl_width, bfl_side, bfl_row, cx_K, upd_same, List.append_nil, List.cons_append, List.nil_append, List.length_cons, List.length_nil, tChain, Bool.not_true, Bool.not_false, if_true, if_false, tYes, scal_ii, scal_ss, scal_bb, ite_t, ite_f, dec_ii, dec_ss] using r
    have e1 : (if n < 0 then -n else n) = ((n.natAbs : Nat) : Int) := by split <;> omega
    rw [e1]
    refine ⟨p, d, e, S, n.natAbs, rfl, hM, hw, hn, fun l H' b1 hl hl' => ?_⟩
    refine ⟨p, d, e, l, S, _, _, rfl, hM.ex b1, SqL.of hl', hw, dig_dgs hw _, ?_, fun a H2 b2 ha hb => q a H2 (b1.trans b2) (b1.free ha (by simp)) ?_⟩
    · rw [hsg]; split <;> simp
    · rw [val_dgs hw] at hb
      have e2 : sg * ((n.natAbs : Nat) : Int) = n := by rw [hsg]; split <;> omega
      rwa [e2] at hb
theorem c_big_of (T : Tx K mg) : Cal P w K mg base CX0 "big_of" 4 ["machine", "n"] [] (sp_big_of K) := by
  obtain ⟨fd, F⟩ := f_big_of T
  exact ⟨_, fd, [], G_big_of T, F.kp, o_big_of T F, B_big_of F, .nil⟩
end


end Th

namespace Th
open PySem PySem.Spec PyProof.Rows L2 Tb
section
variable {P : Program} {w : World} {K : PySem.W.Frag} {mg : Str → Option Value} {base : Heap}
/-! ### is_integer -/
theorem sc_is_integer : FnScope ["value"] ["value"] (defScope s_is_integer) := ⟨rfl, rfl, rfl, by decide +kernel, rfl, by decide +kernel, by decide +kernel⟩
def sp_is_integer (K : PySem.W.Frag) : Sp := fun vs H Q E => ∃ (v : V) (b : Bool), vs = [v] ∧ (IntTy K H v b) ∧ (Q (.bl b) H)
theorem o_is_integer (T : Tx K mg) {fd : FuncData} (F : FunD K "is_integer" "is_integer" (defArgs s_is_integer) (defBody s_is_integer) (defScope s_is_integer) [] [] (He.fAd K ("is_integer", none)) fd) : FnOk P w K mg base CX0 1 (He.fAd K ("is_integer", none)) fd ["value"] (sp_is_integer K) := by
  refine F.ok sc_is_integer (fun vs H Q E h => ?_) (fun cdv A outer s H vs Q E hr h => ?_)
  · obtain ⟨v, b, rfl, _⟩ := h
    rfl
  · obtain ⟨v, b, rfl, hb, q⟩ := h
    refine ⟨_, PSs.nox (pss_one (ps_ret (pe_and (pe_callB call_isi (by rfl) (b_isinstance T) (by decide +kernel) (pa_cons (pv 0) (pa_cons (pe_bltn (v := .ty "int") (by rfl) (b_int T) (by decide +kernel) rfl) pa_nil))) (pe_one (pe_not (pe_callB call_isi (by rfl) (b_isinstance T) (by decide +kernel) (pa_cons (pv 0) (pa_cons (pe_bltn (v := .ty "bool") (by rfl) (b_bool T) (by decide +kernel) rfl) pa_nil)))))))), ?_⟩
    rw [show L2.start ["value"] [v] = [some (v)] from rfl]
    obtain ⟨t, b1, b2, ht, h1, h2, rfl⟩ := hb
    simp only [tMake, tMeth, tDGet, sDPut, tSeq, tAsg, gName, tDrop, tRet, tRetN, tIfS, tNext, tTest, tB, tAnd, tOr, tNot, tAndV, tOrV, tNotV, tNever, tOp, tUn, rI0, rI, rU, tVar, tC, tCons, tNil, tBM, tBM0, tCB, tCall, tFld, sFld, tTup, tLst, gSub, gTup, gCons, gNil, tPar, tSl, tPart, tNoPart, rAppend, rClear, rSetL, rIxL, rIxT, rSlL, rEq, rNe, sl0, sl1, sl2, sl3, sl4, sl5, sl6, sl7, sl8, sl9, sl10, sl11, sl12, sl13, st0, st1, st2, st3, st4, st5, st6, st7, st8, st9, st10, st11, st12, st13, Option.some.injEq, V.int.injEq, V.bl.injEq, V.ref.injEq, V.str.injEq, List.cons.injEq, HO.ins.injEq, HO.lst.injEq, HO.tup.injEq, HO.dK.injEq, exists_eq_left', exists_eq_left, exists_eq_right, exists_and_left, exists_and_right, exists_const, and_assoc, true_and, and_true, decide_eq_true_eq, Int.toNat_natCast, mfl_width, mfl_base, mfl_rows, mfl_counts, mfl_entered, bfl_width, bfl_side, bfl_row, cx_K, upd_same, List.append_nil, List.cons_append, List.nil_append, List.length_cons, List.length_nil, tChain, Bool.not_true, Bool.not_false, if_true, if_false, tYes, scal_ii, scal_ss, scal_bb, ite_t, ite_f, dec_ii, dec_ss]
    refine ⟨_, _, t, _, b1, rfl, .ty "int", ht, h1, ?_⟩
    simp only [tMake, tMeth, tDGet, sDPut, tSeq, tAsg, gName, tDrop, tRet, tRetN, tIfS, tNext, tTest, tB, tAnd, tOr, tNot, tAndV, tOrV, tNotV, tNever, tOp, tUn, rI0, rI, rU, tVar, tC, tCons, tNil, tBM, tBM0, tCB, tCall, tFld, sFld, tTup, tLst, gSub, gTup, gCons, gNil, tPar, tSl, tPart, tNoPart, rAppend, rClear, rSetL, rIxL, rIxT, rSlL, rEq, rNe, sl0, sl1, sl2, sl3, sl4, sl5, sl6, sl7, sl8, sl9, sl10, sl11, sl12, sl13, st0, st1, st2, st3, st4, st5, st6, st7, st8, st9, st10, st11, st12, st13, Option.some.injEq, V.int.injEq, V.bl.injEq, V.ref.injEq, V.str.injEq, List.cons.injEq, HO.ins.injEq, HO.lst.injEq, HO.tup.injEq, HO.dK.injEq, exists_eq_left', exists_eq_left, exists_eq_right, exists_and_left, exists_and_right, exists_const, and_assoc, true_and, and_true, decide_eq_true_eq, Int.toNat_natCast, mfl_width, mfl_base, mfl_rows, mfl_counts, mfl_entered, bfl_width, bfl_side, bfl_row, cx_K, upd_same, List.append_nil, List.cons_append, List.nil_append, List.length_cons, List.length_nil, tChain, Bool.not_true, Bool.not_false, if_true, if_false, tYes, scal_ii, scal_ss, scal_bb, ite_t, ite_f, dec_ii, dec_ss]
    cases b1 with
    | false => simpa only [Bool.false_and, tMake, tMeth, tDGet, sDPut, tSeq, tAsg, gName, tDrop, tRet, tRetN, tIfS, tNext, tTest, tB, tAnd, tOr, tNot, tAndV, tOrV, tNotV, tNever, tOp, tUn, rI0, rI, rU, tVar, tC, tCons, tNil, tBM, tBM0, tCB, tCall, tFld, sFld, tTup, tLst, gSub, gTup, gCons, gNil, tPar, tSl, tPart, tNoPart, rAppend, rClear, rSetL, rIxL, rIxT, rSlL, rEq, rNe, sl0, sl1, sl2, sl3, sl4, sl5, sl6, sl7, sl8, sl9, sl10, sl11, sl12, sl13, st0, st1, st2, st3, st4, st5, st6, st7, st8, st9, st10, st11, st12, st13, Option.some.injEq, V.int.injEq, V.bl.injEq, V.ref.injEq, V.str.injEq, List.cons.injEq, HO.ins.injEq, HO.lst.injEq, HO.tup.injEq, HO.dK.injEq, exists_eq_left', exists_eq_left, exists_eq_right, exists_and_left, exists_and_right, exists_const, and_assoc, true_and, and_true, decide_eq_true_eq, Int.toNat_natCast, mfl_width, mfl_base, mfl_rows, mfl_counts, mfl_entered, bfl_width, bfl_side, bfl_row, cx_K, upd_same, List.append_nil, List.cons_append, List.nil_append, List.length_cons, List.length_nil, tChain, Bool.not_true, Bool.not_false, if_true, if_false, tYes, scal_ii, scal_ss, scal_bb, ite_t, ite_f, dec_ii, dec_ss] using q
    | true =>
      simp only [tMake, tMeth, tDGet, sDPut, tSeq, tAsg, gName, tDrop, tRet, tRetN, tIfS, tNext, tTest, tB, tAnd, tOr, tNot, tAndV, tOrV, tNotV, tNever, tOp, tUn, rI0, rI, rU, tVar, tC, tCons, tNil, tBM, tBM0, tCB, tCall, tFld, sFld, tTup, tLst, gSub, gTup, gCons, gNil, tPar, tSl, tPart, tNoPart, rAppend, rClear, rSetL, rIxL, rIxT, rSlL, rEq, rNe, sl0, sl1, sl2, sl3, sl4, sl5, sl6, sl7, sl8, sl9, sl10, sl11, sl12, sl13, st0, st1, st2, st3, st4, st5, st6, st7, st8, st9, st10, st11, st12, st13, Option.some.injEq, V.int.injEq, V.bl.injEq, V.ref.injEq, V.str.injEq, List.cons.injEq, HO.ins.injEq, HO.lst.injEq, HO.tup.injEq, HO.dK.injEq, exists_eq_left', exists_eq_left, exists_eq_right, exists_and_left, exists_and_right, exists_const, and_assoc, true_and, and_true, decide_eq_true_eq, Int.toNat_natCast, mfl_width, mfl_base, mfl_rows, mfl_counts, mfl_entered, bfl_width, bfl_side, bfl_row, cx_K, upd_same, List.append_nil, List.cons_append, List.nil_append, List.length_cons, List.length_nil, tChain, Bool.not_true, Bool.not_false, if_true, if_false, tYes, scal_ii, scal_ss, scal_bb, ite_t, ite_f, dec_ii, dec_ss]
      refine ⟨_, _, t, _, b2, rfl, .ty "bool", ht, h2, ?_⟩
      simpa only [Bool.true_and, tMake, tMeth, tDGet, sDPut, tSeq, tAsg, gName, tDrop, tRet, tRetN, tIfS, tNext, tTest, tB, tAnd, tOr, tNot, tAndV, tOrV, tNotV, tNever, tOp, tUn, rI0, rI, rU, tVar, tC, tCons, tNil, tBM, tBM0, tCB, tCall, tFld, sFld, tTup, tLst, gSub, gTup, gCons, gNil, tPar, tSl, tPart, tNoPart, rAppend, rClear, rSetL, rIxL, rIxT, rSlL, rEq, rNe, sl0, sl1, sl2, sl3, sl4, sl5, sl6, sl7, sl8, sl9, sl10, sl11, sl12, sl13, st0, st1, st2, st3, st4, st5, st6, st7, st8, st9, st10, st11, st12, st13, Option.some.injEq, V.int.injEq, V.bl.injEq, V.ref.injEq, V.str.injEq, List.cons.injEq, HO.ins.injEq, HO.lst.injEq, HO.tup.injEq, HO.dK.injEq, exists_eq_left', exists_eq_left, exists_eq_right, exists_and_left, exists_and_right, exists_const, and_assoc, true_and, and_true, decide_eq_true_eq, Int.toNat_natCast, mfl_width, mfl_base, mfl_rows, mfl_counts, mfl_entered, bfl_width, bfl_side, bfl_row, cx_K, upd_same, List.append_nil, List.cons_append, List.nil_append, List.length_cons, List.length_nil, tChain, Bool.not_true, Bool.not_false, if_true, if_false, tYes, scal_ii, scal_ss, scal_bb, ite_t, ite_f, dec_ii, dec_ss] using q
theorem c_is_integer (T : Tx K mg) : Cal P w K mg base CX0 "is_integer" 1 ["value"] [] (sp_is_integer K) := by
  obtain ⟨fd, F⟩ := f_is_integer T
  exact ⟨_, fd, [], G_is_integer T, F.kp, o_is_integer T F, B_is_integer F, .nil⟩
/-! ### is_between -/
theorem sc_is_between : FnScope ["value", "low", "high"] ["value", "low", "high"] (defScope s_is_between) := ⟨rfl, rfl, rfl, by decide +kernel, rfl, by decide +kernel, by decide +kernel⟩
def sp_is_between (K : PySem.W.Frag) : Sp := fun vs H Q E => ∃ (i lo hi : Int), vs = [.int i, .int lo, .int hi] ∧ (Q (.bl (decide (lo ≤ i) && decide (i ≤ hi))) H)
theorem o_is_between (T : Tx K mg) {fd : FuncData} (F : FunD K "is_between" "is_between" (defArgs s_is_between) (defBody s_is_between) (defScope s_is_between) [] [] (He.fAd K ("is_between", none)) fd) : FnOk P w K mg base CX0 2 (He.fAd K ("is_between", none)) fd ["value", "low", "high"] (sp_is_between K) := by
  refine F.ok sc_is_between (fun vs H Q E h => ?_) (fun cdv A outer s H vs Q E hr h => ?_)
  · obtain ⟨i, lo, hi, rfl, _⟩ := h
    rfl
  · obtain ⟨i, lo, hi, rfl, q⟩ := h
    refine ⟨_, PSs.nox (pss_one (ps_ret (pe_and (pc (c_is_integer T) hr (by decide) pass0 (pa_cons (pv 0) pa_nil)) (pe_one (pe_chain op_le op_le (pv 1) (pv 0) (pv 2)))))), ?_⟩
    rw [show L2.start ["value", "low", "high"] [.int i, .int lo, .int hi] = [some (.int i), some (.int lo), some (.int hi)] from rfl]
    simp only [tMake, tMeth, tDGet, sDPut, tSeq, tAsg, gName, tDrop, tRet, tRetN, tIfS, tNext, tTest, tB, tAnd, tOr, tNot, tAndV, tOrV, tNotV, tNever, tOp, tUn, rI0, rI, rU, tVar, tC, tCons, tNil, tBM, tBM0, tCB, tCall, tFld, sFld, tTup, tLst, gSub, gTup, gCons, gNil, tPar, tSl, tPart, tNoPart, rAppend, rClear, rSetL, rIxL, rIxT, rSlL, rEq, rNe, sl0, sl1, sl2, sl3, sl4, sl5, sl6, sl7, sl8, sl9, sl10, sl11, sl12, sl13, st0, st1, st2, st3, st4, st5, st6, st7, st8, st9, st10, st11, st12, st13, Option.some.injEq, V.int.injEq, V.bl.injEq, V.ref.injEq, V.str.injEq, List.cons.injEq, HO.ins.injEq, HO.lst.injEq, HO.tup.injEq, HO.dK.injEq, exists_eq_left', exists_eq_left, exists_eq_right, exists_and_left, exists_and_right, exists_const, and_assoc, true_and, and_true, decide_eq_true_eq, Int.toNat_natCast, mfl_width, mfl_base, mfl_rows, mfl_counts, mfl_entered, bfl_width, bfl_side, bfl_row, cx_K, upd_same, List.append_nil, List.cons_append, List.nil_append, List.length_cons, List.length_nil, tChain, Bool.not_true, Bool.not_false, if_true, if_false, tYes, scal_ii, scal_ss, scal_bb, ite_t, ite_f, dec_ii, dec_ss]
    refine ⟨_, true, rfl, intTy, ?_⟩
    simp only [tMake, tMeth, tDGet, sDPut, tSeq, tAsg, gName, tDrop, tRet, tRetN, tIfS, tNext, tTest, tB, tAnd, tOr, tNot, tAndV, tOrV, tNotV, tNever, tOp, tUn, rI0, rI, rU, tVar, tC, tCons, tNil, tBM, tBM0, tCB, tCall, tFld, sFld, tTup, tLst, gSub, gTup, gCons, gNil, tPar, tSl, tPart, tNoPart, rAppend, rClear, rSetL, rIxL, rIxT, rSlL, rEq, rNe, sl0, sl1, sl2, sl3, sl4, sl5, sl6, sl7, sl8, sl9, sl10, sl11, sl12, sl13, st0, st1, st2, st3, st4, st5, st6, st7, st8, st9, st10, st11, st12, st13, Option.some.injEq, V.int.injEq, V.bl.injEq, V.ref.injEq, V.str.injEq, List.cons.injEq, HO.ins.injEq, HO.lst.injEq, HO.tup.injEq, HO.dK.injEq, exists_eq_left', exists_eq_left, exists_eq_right, exists_and_left, exists_and_right, exists_const, and_assoc, true_and, and_true, decide_eq_true_eq, Int.toNat_natCast, mfl_width, mfl_base, mfl_rows, mfl_counts, mfl_entered, bfl_width, bfl_side, bfl_row, cx_K, upd_same, List.append_nil, List.cons_append, List.nil_append, List.length_cons, List.length_nil, tChain, Bool.not_true, Bool.not_false, if_true, if_false, tYes, scal_ii, scal_ss, scal_bb, ite_t, ite_f, dec_ii, dec_ss]
    by_cases h : lo ≤ i
    · rw [if_pos h]; simpa [h] using q
    · rw [if_neg h]; simpa [h] using q
theorem c_is_between (T : Tx K mg) : Cal P w K mg base CX0 "is_between" 2 ["value", "low", "high"] [] (sp_is_between K) := by
  obtain ⟨fd, F⟩ := f_is_between T
  exact ⟨_, fd, [], G_is_between T, F.kp, o_is_between T F, B_is_between F, .nil⟩
/-! ### check_integer -/
theorem sc_check_integer : FnScope ["argument", "value"] ["argument", "value"] (defScope s_check_integer) := ⟨rfl, rfl, rfl, by decide +kernel, rfl, by decide +kernel, by decide +kernel⟩
def sp_check_integer (K : PySem.W.Frag) : Sp := fun vs H Q E => ∃ (a : Str) (i : Int), vs = [.str a, .int i] ∧ (Q .non H)
theorem o_check_integer (T : Tx K mg) {fd : FuncData} (F : FunD K "check_integer" "check_integer" (defArgs s_check_integer) (defBody s_check_integer) (defScope s_check_integer) [] [] (He.fAd K ("check_integer", none)) fd) : FnOk P w K mg base CX0 2 (He.fAd K ("check_integer", none)) fd ["argument", "value"] (sp_check_integer K) := by
  refine F.ok sc_check_integer (fun vs H Q E h => ?_) (fun cdv A outer s H vs Q E hr h => ?_)
  · obtain ⟨a, i, rfl, _⟩ := h
    rfl
  · obtain ⟨a, i, rfl, q⟩ := h
    refine ⟨_, PSs.nox (pss_one (ps_if (pt_not (pt_val (pc (c_is_integer T) hr (by decide) pass0 (pa_cons (pv 1) pa_nil)))) (pss_one ps_never) pss_nil)), ?_⟩
    rw [show L2.start ["argument", "value"] [.str a, .int i] = [some (.str a), some (.int i)] from rfl]
    simp only [tMake, tMeth, tDGet, sDPut, tSeq, tAsg, gName, tDrop, tRet, tRetN, tIfS, tNext, tTest, tB, tAnd, tOr, tNot, tAndV, tOrV, tNotV, tNever, tOp, tUn, rI0, rI, rU, tVar, tC, tCons, tNil, tBM, tBM0, tCB, tCall, tFld, sFld, tTup, tLst, gSub, gTup, gCons, gNil, tPar, tSl, tPart, tNoPart, rAppend, rClear, rSetL, rIxL, rIxT, rSlL, rEq, rNe, sl0, sl1, sl2, sl3, sl4, sl5, sl6, sl7, sl8, sl9, sl10, sl11, sl12, sl13, st0, st1, st2, st3, st4, st5, st6, st7, st8, st9, st10, st11, st12, st13, Option.some.injEq, V.int.injEq, V.bl.injEq, V.ref.injEq, V.str.injEq, List.cons.injEq, HO.ins.injEq, HO.lst.injEq, HO.tup.injEq, HO.dK.injEq, exists_eq_left', exists_eq_left, exists_eq_right, exists_and_left, exists_and_right, exists_const, and_assoc, true_and, and_true, decide_eq_true_eq, Int.toNat_natCast, mfl_width, mfl_base, mfl_rows, mfl_counts, mfl_entered, bfl_width, bfl_side, bfl_row, cx_K, upd_same, List.append_nil, List.cons_append, List.nil_append, List.length_cons, List.length_nil, tChain, Bool.not_true, Bool.not_false, if_true, if_false, tYes, scal_ii, scal_ss, scal_bb, ite_t, ite_f, dec_ii, dec_ss]
    refine ⟨_, true, rfl, intTy, ?_⟩
    simpa only [tMake, tMeth, tDGet, sDPut, tSeq, tAsg, gName, tDrop, tRet, tRetN, tIfS, tNext, tTest, tB, tAnd, tOr, tNot, tAndV, tOrV, tNotV, tNever, tOp, tUn, rI0, rI, rU, tVar, tC, tCons, tNil, tBM, tBM0, tCB, tCall, tFld, sFld, tTup, tLst, gSub, gTup, gCons, gNil, tPar, tSl, tPart, tNoPart, rAppend, rClear, rSetL, rIxL, rIxT, rSlL, rEq, rNe, sl0, sl1, sl2, sl3, sl4, sl5, sl6, sl7, sl8, sl9, sl10, sl11, sl12, sl13, st0, st1, st2, st3, st4, st5, st6, st7, st8, st9, st10, st11, st12, st13, Option.some.injEq, V.int.injEq, V.bl.injEq, V.ref.injEq, V.str.injEq, List.cons.injEq, HO.ins.injEq, HO.lst.injEq, HO.tup.injEq, HO.dK.injEq, exists_eq_left', exists_eq_left, exists_eq_right, exists_and_left, exists_and_right, exists_const, and_assoc, true_and, and_true, decide_eq_true_eq, Int.toNat_natCast, mfl_width, mfl_base, mfl_rows, mfl_counts, mfl_entered, bfl_width, bfl_side, bfl_row, cx_K, upd_same, List.append_nil, List.cons_append, List.nil_append, List.length_cons, List.length_nil, tChain, Bool.not_true, Bool.not_false, if_true, if_false, tYes, scal_ii, scal_ss, scal_bb, ite_t, ite_f, dec_ii, dec_ss] using q
theorem c_check_integer (T : Tx K mg) : Cal P w K mg base CX0 "check_integer" 2 ["argument", "value"] [] (sp_check_integer K) := by
  obtain ⟨fd, F⟩ := f_check_integer T
  exact ⟨_, fd, [], G_check_integer T, F.kp, o_check_integer T F, B_check_integer F, .nil⟩
/-! ### Machine.__init__ -/
theorem sc_Machine_init : FnScope ["self", "bits", "cutoff", "word"] ["self", "bits", "cutoff"] (defScope s_Machine_init) := ⟨rfl, rfl, rfl, by decide +kernel, rfl, by decide +kernel, by decide +kernel⟩
def sp_Machine_init (K : PySem.W.Frag) : Sp := fun vs H Q E => ∃ (a dx : Addr) (b : Nat) (c : Int), vs = [.ref a, .int (b : Int), .int c] ∧ (H a = some (.ins (He.ga K "Machine") dx [])) ∧ (8 ≤ b ∧ b ≤ 30) ∧ (2 ≤ c ∧ c ≤ 1000) ∧ (∀ H' d e, (∀ x o, x ≠ a → H x = some o → H' x = some o) → H d = none → H e = none → MAt K H' a d e ⟨b, c, fun _ => 0, []⟩ → Q .non H')
theorem o_Machine_init (T : Tx K mg) {fd : FuncData} (F : FunD K "__init__" "Machine.__init__" (defArgs s_Machine_init) (defBody s_Machine_init) (defScope s_Machine_init) (d_Machine_init.dvs K) [] (He.fAd K ("Machine", some "__init__")) fd) : FnOk P w K mg base CX0 3 (He.fAd K ("Machine", some "__init__")) fd ["self", "bits", "cutoff"] (sp_Machine_init K) := by
  refine F.ok sc_Machine_init (fun vs H Q E h => ?_) (fun cdv A outer s H vs Q E hr h => ?_)
  · obtain ⟨a, dx, b, c, rfl, _⟩ := h
    rfl
  · obtain ⟨a, dx, b, c, rfl, h0, hb, hc, q⟩ := h
    refine ⟨_, PSs.nox (pss_cons (ps_if (pt_not (pt_val (pc (c_is_between T) hr (by decide) pass0 (pa_cons (pv 1) (pa_cons (g_LEAST_BITS T) (pa_cons (g_MOST_BITS T) pa_nil)))))) (pss_one ps_never) pss_nil)
      (pss_cons (ps_if (pt_not (pt_val (pc (c_is_between T) hr (by decide) pass0 (pa_cons (pv 2) (pa_cons pe_int (pa_cons (g_MOST_CUTOFF T) pa_nil)))))) (pss_one ps_never) pss_nil)
      (pss_cons (ps_fld (pv 0) (pv 1) rfl)
      (pss_cons (ps_fld (pv 0) (pv 2) rfl)
      (pss_cons (ps_fld (pv 0) (pe_op op_shlW pe_int (pv 1)) rfl)
      (pss_cons (ps_fld (pv 0) (pe_callTy (call_dictP rfl) (by rfl) (b_dict T) (by decide +kernel) (pa_cons (pe_lc (own := [("word", 3)]) (g := (gName 3)) rfl sc_Machine_init.nd (pi_tup (g_WORDS T)) (blkOk_by (own := [("word", 3)]) (N := ["self", "bits", "cutoff", "word"]) (sc := defScope s_Machine_init) (by decide +kernel)) (fun _ _ _ _ _ => (pg_name (i := 3) sc_Machine_init.nd rfl (.inl rfl))) (fun _ _ _ _ _ => pts_nil) (fun _ _ _ _ _ => (pe_tup (pa_cons (pv 3) (pa_cons pe_int pa_nil))))) pa_nil)) rfl)
      (pss_one (ps_fld (pv 0) (pe_lst pa_nil) rfl)))))))), ?_⟩
    rw [show L2.start ["self", "bits", "cutoff", "word"] [.ref a, .int (b : Int), .int c] = [some (.ref a), some (.int (b : Int)), some (.int c), none] from rfl]
    simp only [h0, K_Machine T, A_Machine_width T, A_Machine_limit_of_rows T, A_Machine_base T, A_Machine_counts T, A_Machine_entered T, tMake, tMeth, tDGet, sDPut, tSeq, tAsg, gName, tDrop, tRet, tRetN, tIfS, tNext, tTest, tB, tAnd, tOr, tNot, tAndV, tOrV, tNotV, tNever, tOp, tUn, rI0, rI, rU, tVar, tC, tCons, tNil, tBM, tBM0, tCB, tCall, tFld, sFld, tTup, tLst, gSub, gTup, gCons, gNil, tPar, tSl, tPart, tNoPart, rAppend, rClear, rSetL, rIxL, rIxT, rSlL, rEq, rNe, sl0, sl1, sl2, sl3, sl4, sl5, sl6, sl7, sl8, sl9, sl10, sl11, sl12, sl13, st0, st1, st2, st3, st4, st5, st6, st7, st8, st9, st10, st11, st12, st13, Option.some.injEq, V.int.injEq, V.bl.injEq, V.ref.injEq, V.str.injEq, List.cons.injEq, HO.ins.injEq, HO.lst.injEq, HO.tup.injEq, HO.dK.injEq, exists_eq_left', exists_eq_left, exists_eq_right, exists_and_left, exists_and_right, exists_const, and_assoc, true_and, and_true, decide_eq_true_eq, Int.toNat_natCast, mfl_width, mfl_base, mfl_rows, mfl_counts, mfl_entered, bfl_width, bfl_side, bfl_row, cx_K, upd_same, List.append_nil, List.cons_append, List.nil_append, List.length_cons, List.length_nil, tChain, Bool.not_true, Bool.not_false, if_true, if_false, tYes, scal_ii, scal_ss, scal_bb, ite_t, ite_f, dec_ii, dec_ss]
    refine ⟨(b : Int), 8, 30, rfl, ?_⟩
    rw [show (decide (8 ≤ (b : Int)) && decide ((b : Int) ≤ 30)) = true by simp; omega]
    simp only [tMake, tMeth, tDGet, sDPut, tSeq, tAsg, gName, tDrop, tRet, tRetN, tIfS, tNext, tTest, tB, tAnd, tOr, tNot, tAndV, tOrV, tNotV, tNever, tOp, tUn, rI0, rI, rU, tVar, tC, tCons, tNil, tBM, tBM0, tCB, tCall, tFld, sFld, tTup, tLst, gSub, gTup, gCons, gNil, tPar, tSl, tPart, tNoPart, rAppend, rClear, rSetL, rIxL, rIxT, rSlL, rEq, rNe, sl0, sl1, sl2, sl3, sl4, sl5, sl6, sl7, sl8, sl9, sl10, sl11, sl12, sl13, st0, st1, st2, st3, st4, st5, st6, st7, st8, st9, st10, st11, st12, st13, Option.some.injEq, V.int.injEq, V.bl.injEq, V.ref.injEq, V.str.injEq, List.cons.injEq, HO.ins.injEq, HO.lst.injEq, HO.tup.injEq, HO.dK.injEq, exists_eq_left', exists_eq_left, exists_eq_right, exists_and_left, exists_and_right, exists_const, and_assoc, true_and, and_true, decide_eq_true_eq, Int.toNat_natCast, mfl_width, mfl_base, mfl_rows, mfl_counts, mfl_entered, bfl_width, bfl_side, bfl_row, cx_K, upd_same, List.append_nil, List.cons_append, List.nil_append, List.length_cons, List.length_nil, tChain, Bool.not_true, Bool.not_false, if_true, if_false, tYes, scal_ii, scal_ss, scal_bb, ite_t, ite_f, dec_ii, dec_ss]
    refine ⟨c, 2, 1000, rfl, ?_⟩
    rw [show (decide (2 ≤ c) && decide (c ≤ 1000)) = true by simp [hc]]
    simp only [h0, K_Machine T, A_Machine_width T, A_Machine_limit_of_rows T, A_Machine_base T, A_Machine_counts T, A_Machine_entered T, mp1, mp2, mp3, upd_upd, Int.one_mul, tMake, tMeth, tDGet, sDPut, tSeq, tAsg, gName, tDrop, tRet, tRetN, tIfS, tNext, tTest, tB, tAnd, tOr, tNot, tAndV, tOrV, tNotV, tNever, tOp, tUn, rI0, rI, rU, tVar, tC, tCons, tNil, tBM, tBM0, tCB, tCall, tFld, sFld, tTup, tLst, gSub, gTup, gCons, gNil, tPar, tSl, tPart, tNoPart, rAppend, rClear, rSetL, rIxL, rIxT, rSlL, rEq, rNe, sl0, sl1, sl2, sl3, sl4, sl5, sl6, sl7, sl8, sl9, sl10, sl11, sl12, sl13, st0, st1, st2, st3, st4, st5, st6, st7, st8, st9, st10, st11, st12, st13, Option.some.injEq, V.int.injEq, V.bl.injEq, V.ref.injEq, V.str.injEq, List.cons.injEq, HO.ins.injEq, HO.lst.injEq, HO.tup.injEq, HO.dK.injEq, exists_eq_left', exists_eq_left, exists_eq_right, exists_and_left, exists_and_right, exists_const, and_assoc, true_and, and_true, decide_eq_true_eq, Int.toNat_natCast, mfl_width, mfl_base, mfl_rows, mfl_counts, mfl_entered, bfl_width, bfl_side, bfl_row, cx_K, upd_same, List.append_nil, List.cons_append, List.nil_append, List.length_cons, List.length_nil, tChain, Bool.not_true, Bool.not_false, if_true, if_false, tYes, scal_ii, scal_ss, scal_bb, ite_t, ite_f, dec_ii, dec_ss]
    refine ⟨by decide, by decide, oneShl (by omega), by decide, ?_⟩
    generalize hG : upd H a _ = G
    have hGa := (congrFun hG a).symm.trans upd_same
    have hGb : ∀ x, x ≠ a → G x = H x := fun x hx => by rw [← hG, upd_ne hx]
    refine lcT (A := fun x H' => x = He.ga K "WORDS" ∧ H' = G) (xs := WORDS.map V.str)
      (Pv := fun x D i H' => ∃ ts : List Addr, x = He.ga K "WORDS" ∧ G D = none ∧ But [] G H' ∧ H' D = some (.lst (ts.map V.ref)) ∧ ts.length = i ∧ Paired (fun p (kv : Key × V) => SqT K H' p [kV kv.1, kv.2]) ts ((WORDS.take i).map fun w => ((Sum.inr w : Key), V.int 0)))
      (fun Q q => q _ _ ⟨rfl, rfl⟩) ?_ ?_ ?_ ?_ ?_
    · rintro x H1 ⟨rfl, rfl⟩; exact words_tup (x_WORDS T)
    · rintro x D H1 ⟨rfl, rfl⟩ hD; exact ⟨[], rfl, hD, But.new0 hD, upd_same, rfl, .nil⟩
    · rintro x D i H1 ⟨ts, rfl, _⟩; exact words_tup (x_WORDS T)
    · rintro x D Vn hV i y H1 hy ⟨ts, rfl, hD, hb1, hl, hti, hp⟩
      obtain ⟨wd, hwd, rfl⟩ : ∃ wd, WORDS[i]? = some wd ∧ V.str wd = y := by
        rw [List.getElem?_map] at hy
        cases e : WORDS[i]? with
        | none => rw [e] at hy; cases hy
        | some z => rw [e] at hy; exact ⟨z, rfl, Option.some.inj hy⟩
      simp only [List.map_cons, List.map_nil, wipe, tMake, tMeth, tDGet, sDPut, tSeq, tAsg, gName, tDrop, tRet, tRetN, tIfS, tNext, tTest, tB, tAnd, tOr, tNot, tAndV, tOrV, tNotV, tNever, tOp, tUn, rI0, rI, rU, tVar, tC, tCons, tNil, tBM, tBM0, tCB, tCall, tFld, sFld, tTup, tLst, gSub, gTup, gCons, gNil, tPar, tSl, tPart, tNoPart, rAppend, rClear, rSetL, rIxL, rIxT, rSlL, rEq, rNe, sl0, sl1, sl2, sl3, sl4, sl5, sl6, sl7, sl8, sl9, sl10, sl11, sl12, sl13, st0, st1, st2, st3, st4, st5, st6, st7, st8, st9, st10, st11, st12, st13, Option.some.injEq, V.int.injEq, V.bl.injEq, V.ref.injEq, V.str.injEq, List.cons.injEq, HO.ins.injEq, HO.lst.injEq, HO.tup.injEq, HO.dK.injEq, exists_eq_left', exists_eq_left, exists_eq_right, exists_and_left, exists_and_right, exists_const, and_assoc, true_and, and_true, decide_eq_true_eq, Int.toNat_natCast, mfl_width, mfl_base, mfl_rows, mfl_counts, mfl_entered, bfl_width, bfl_side, bfl_row, cx_K, upd_same, List.append_nil, List.cons_append, List.nil_append, List.length_cons, List.length_nil, tChain, Bool.not_true, Bool.not_false, if_true, if_false, tYes, scal_ii, scal_ss, scal_bb, ite_t, ite_f, dec_ii, dec_ss]
      refine ⟨by show 2 ≤ sizeLine; decide, fun t ht => ?_⟩
      have hDt : D ≠ t := ne_of_none hl ht
      refine ⟨_, by rw [upd_ne hDt]; exact hl, ?_, ?_⟩
      · have : i < 10 := by
          have := (List.getElem?_eq_some_iff.mp hwd).1
          exact this
        rw [List.length_map, hti]
        exact Nat.lt_of_lt_of_le this (by decide)
      · refine hV _ _ ⟨ts ++ [t], rfl, hD, (hb1.new ht).mut hD, ?_, by simp [hti], ?_⟩
        · rw [upd_same, List.map_append]; rfl
        · rw [show WORDS.take (i + 1) = WORDS.take i ++ [wd] by rw [List.take_add_one, hwd]; rfl, List.map_append]
          refine pair_snoc (Paired.mapP hp fun p kv h => ?_) ?_
          · rcases h with h | h
            · left
              rcases h with h | ⟨o, h⟩
              · left; rw [upd_ne (ne_of h hl (by intro z; cases z)), upd_ne (ne_of_none h ht)]; exact h
              · right; refine ⟨o, ?_⟩; rw [upd_ne (ne_of h hl (by intro z; cases z)), upd_ne (ne_of_none h ht)]; exact h
            · exact .inr h
          · refine SqT.of ?_
            rw [upd_ne hDt.symm, upd_same]; rfl
    · rintro x D H1 ⟨ts, rfl, hD, hb1, hl, hti, hp⟩
      have hkv : mergeK [] (WORDS.map fun w => ((Sum.inr w : Key), V.int 0)) = cntKV (fun _ => 0) := by decide +kernel
      rw [List.length_map, List.take_length] at hp
      refine ⟨_, rfl, ts, SqL.of hl, _, hp, fun p hpn => ?_⟩
      rw [hkv]
      have hap : a ≠ p := ne_of_none (hb1 _ _ hGa (by simp)) hpn
      have haD : a ≠ D := ne_of_none hGa hD
      simp only [upd_ne hap, hb1 _ _ hGa (by simp), K_Machine T, A_Machine_counts T, A_Machine_entered T, mp4, upd_upd, List.map_cons, List.map_nil, tMake, tMeth, tDGet, sDPut, tSeq, tAsg, gName, tDrop, tRet, tRetN, tIfS, tNext, tTest, tB, tAnd, tOr, tNot, tAndV, tOrV, tNotV, tNever, tOp, tUn, rI0, rI, rU, tVar, tC, tCons, tNil, tBM, tBM0, tCB, tCall, tFld, sFld, tTup, tLst, gSub, gTup, gCons, gNil, tPar, tSl, tPart, tNoPart, rAppend, rClear, rSetL, rIxL, rIxT, rSlL, rEq, rNe, sl0, sl1, sl2, sl3, sl4, sl5, sl6, sl7, sl8, sl9, sl10, sl11, sl12, sl13, st0, st1, st2, st3, st4, st5, st6, st7, st8, st9, st10, st11, st12, st13, Option.some.injEq, V.int.injEq, V.bl.injEq, V.ref.injEq, V.str.injEq, List.cons.injEq, HO.ins.injEq, HO.lst.injEq, HO.tup.injEq, HO.dK.injEq, exists_eq_left', exists_eq_left, exists_eq_right, exists_and_left, exists_and_right, exists_const, and_assoc, true_and, and_true, decide_eq_true_eq, Int.toNat_natCast, mfl_width, mfl_base, mfl_rows, mfl_counts, mfl_entered, bfl_width, bfl_side, bfl_row, cx_K, upd_same, List.append_nil, List.cons_append, List.nil_append, List.length_cons, List.length_nil, tChain, Bool.not_true, Bool.not_false, if_true, if_false, tYes, scal_ii, scal_ss, scal_bb, ite_t, ite_f, dec_ii, dec_ss]
      refine ⟨by decide, Nat.zero_le _, fun l hl => ?_⟩
      have hal : a ≠ l := fun z => by rw [← z, upd_same] at hl; cases hl
      have hlp : l ≠ p := fun z => by rw [z, upd_ne hap.symm, upd_same] at hl; cases hl
      have hl1 : H1 l = none := by rwa [upd_ne hal.symm, upd_ne hlp] at hl
      simp only [upd_ne hal, K_Machine T, A_Machine_entered T, mp5, tMake, tMeth, tDGet, sDPut, tSeq, tAsg, gName, tDrop, tRet, tRetN, tIfS, tNext, tTest, tB, tAnd, tOr, tNot, tAndV, tOrV, tNotV, tNever, tOp, tUn, rI0, rI, rU, tVar, tC, tCons, tNil, tBM, tBM0, tCB, tCall, tFld, sFld, tTup, tLst, gSub, gTup, gCons, gNil, tPar, tSl, tPart, tNoPart, rAppend, rClear, rSetL, rIxL, rIxT, rSlL, rEq, rNe, sl0, sl1, sl2, sl3, sl4, sl5, sl6, sl7, sl8, sl9, sl10, sl11, sl12, sl13, st0, st1, st2, st3, st4, st5, st6, st7, st8, st9, st10, st11, st12, st13, Option.some.injEq, V.int.injEq, V.bl.injEq, V.ref.injEq, V.str.injEq, List.cons.injEq, HO.ins.injEq, HO.lst.injEq, HO.tup.injEq, HO.dK.injEq, exists_eq_left', exists_eq_left, exists_eq_right, exists_and_left, exists_and_right, exists_const, and_assoc, true_and, and_true, decide_eq_true_eq, Int.toNat_natCast, mfl_width, mfl_base, mfl_rows, mfl_counts, mfl_entered, bfl_width, bfl_side, bfl_row, cx_K, upd_same, List.append_nil, List.cons_append, List.nil_append, List.length_cons, List.length_nil, tChain, Bool.not_true, Bool.not_false, if_true, if_false, tYes, scal_ii, scal_ss, scal_bb, ite_t, ite_f, dec_ii, dec_ss]
      have fromG : ∀ {x}, G x = none → H x = none := fun {x} hx => by
        rcases Decidable.em (x = a) with z | z
        · rw [z, hGa] at hx; cases hx
        · rwa [hGb x z] at hx
      have hpG : G p = none := hb1.free hpn (by simp)
      have hlG : G l = none := hb1.free hl1 (by simp)
      refine ⟨by show 4 < 1000; decide, q _ p l (fun x o hx ho => ?_) (fromG hpG) (fromG hlG) ⟨⟨dx, upd_same⟩, ?_, [], ?_, .nil⟩⟩
      · have hxG : G x = some o := by rw [hGb x hx]; exact ho
        have hx1 := hb1 _ _ hxG (by simp)
        rw [upd_ne hx, upd_ne (ne_of_none hx1 hl1), upd_ne hx, upd_ne (ne_of_none hx1 hpn)]; exact hx1
      · rw [upd_ne hap.symm, upd_ne hlp.symm, upd_ne hap.symm, upd_same]
      · rw [upd_ne hal.symm, upd_same]
theorem c_Machine_init_0 (T : Tx K mg) : CalC P w K mg base CX0 "Machine" 3 ["self", "bits", "cutoff"] ((d_Machine_init.dvs K).drop 0) (sp_Machine_init K) := by
  obtain ⟨fd, F⟩ := f_Machine_init T
  obtain ⟨ds, hv, hb⟩ := F.binds1 (ps := ["self", "bits", "cutoff"]) 1 0 (by simp [He.DefD.dvs, d_Machine_init]) rfl fun T kV doc pm an cdv ct us its h1 h2 => match us, its, h1, h2 with | [_], [_, _], _, _ => ⟨_, rfl, rfl⟩
  exact ⟨_, fd, ds, G_Machine T, N_Machine T, o_Machine_init T F, hb, hv⟩
theorem c_Machine_init_1 (T : Tx K mg) : CalC P w K mg base CX0 "Machine" 3 ["self", "bits", "cutoff"] ((d_Machine_init.dvs K).drop 1) (sp_Machine_init K) := by
  obtain ⟨fd, F⟩ := f_Machine_init T
  obtain ⟨ds, hv, hb⟩ := F.binds1 (ps := ["self", "bits", "cutoff"]) 2 1 (by simp [He.DefD.dvs, d_Machine_init]) rfl fun T kV doc pm an cdv ct us its h1 h2 => match us, its, h1, h2 with | [_, _], [_, _], _, _ => ⟨_, rfl, rfl⟩
  exact ⟨_, fd, ds, G_Machine T, N_Machine T, o_Machine_init T F, hb, hv⟩
theorem c_Machine_init_2 (T : Tx K mg) : CalC P w K mg base CX0 "Machine" 3 ["self", "bits", "cutoff"] ((d_Machine_init.dvs K).drop 2) (sp_Machine_init K) := by
  obtain ⟨fd, F⟩ := f_Machine_init T
  obtain ⟨ds, hv, hb⟩ := F.binds1 (ps := ["self", "bits", "cutoff"]) 3 2 (by simp [He.DefD.dvs, d_Machine_init]) rfl fun T kV doc pm an cdv ct us its h1 h2 => match us, its, h1, h2 with | [_, _, _], [_, _], _, _ => ⟨_, rfl, rfl⟩
  exact ⟨_, fd, ds, G_Machine T, N_Machine T, o_Machine_init T F, hb, hv⟩
theorem mach_make {Q : VK} {E : XK} {H : Hp} {b : Nat} {c : Int} (hb : 8 ≤ b ∧ b ≤ 30) (hc : 2 ≤ c ∧ c ≤ 1000) (h : ∀ a d e H', But [] H H' → H a = none → H d = none → H e = none → MAt K H' a d e ⟨b, c, fun _ => 0, []⟩ → Q (.ref a) H') :
    ∀ x dx, H x = none → H dx = none → dx ≠ x → sp_Machine_init K [.ref x, .int (b : Int), .int c] (upd (upd H dx (.own x)) x (.ins (He.ga K "Machine") dx [])) (fun v H2 => v = .non ∧ Q (.ref x) H2) E := by
  intro x dx hx hdx hne
  have back : ∀ {y}, (upd (upd H dx (.own x)) x (.ins (He.ga K "Machine") dx [])) y = none → H y = none := fun {y} hy => by
    have h1 : y ≠ x := fun z => by rw [z, upd_same] at hy; cases hy
    have h2 : y ≠ dx := fun z => by rw [z, upd_ne hne, upd_same] at hy; cases hy
    rwa [upd_ne h1, upd_ne h2] at hy
  refine ⟨x, dx, b, c, rfl, upd_same, hb, hc, fun H' d e k hd he m => ⟨rfl, h x d e H' (fun y o hy _ => ?_) hx (back hd) (back he) m⟩⟩
  refine k y o (ne_of_none hy hx) ?_
  rw [upd_ne (ne_of_none hy hx), upd_ne (ne_of_none hy hdx)]; exact hy
end


end Th

namespace Th
open PySem PySem.Spec PyProof.Rows L2 Tb
section
variable {P : Program} {w : World} {K : PySem.W.Frag} {mg : Str → Option Value} {base : Heap}
/-! ### value_of -/
theorem sc_value_of : FnScope ["x", "found", "digit"] ["x"] (defScope s_value_of) := ⟨rfl, rfl, rfl, by decide +kernel, rfl, by decide +kernel, by decide +kernel⟩
def sp_value_of (K : PySem.W.Frag) : Sp := fun vs H Q E => ∃ (a : Addr) (wd : Nat) (n : Int), vs = [.ref a] ∧ (BigI K H a wd n) ∧ (Wok wd) ∧ (n.natAbs < 2 ^ lim) ∧ (∀ H', But [] H H' → Q (.int n) H')
theorem o_value_of (T : Tx K mg) {fd : FuncData} (F : FunD K "value_of" "value_of" (defArgs s_value_of) (defBody s_value_of) (defScope s_value_of) [] [] (He.fAd K ("value_of", none)) fd) : FnOk P w K mg base CX0 1 (He.fAd K ("value_of", none)) fd ["x"] (sp_value_of K) := by
  refine F.ok sc_value_of (fun vs H Q E h => ?_) (fun cdv A outer s H vs Q E hr h => ?_)
  · obtain ⟨a, wd, n, rfl, _⟩ := h
    rfl
  · obtain ⟨a, wd, n, rfl, hx, hw, hn, q⟩ := h
    refine ⟨_, PSs.nox (pss_cons (ps_set (i := 1) sc_value_of.nd rfl (.inl rfl) pe_int)
      (Evl.pss_cut (ps_for PassesOwn.never rfl (pi_tup (pe_revT (pe_fld (pv 0) rfl))) (pg_name (i := 2) sc_value_of.nd rfl (.inl rfl)) (pss_one (ps_set (i := 1) sc_value_of.nd rfl (.inl rfl) (pe_op op_or (pe_op op_shlW (pv 1) (pe_fld (pv 0) rfl)) (pv 2)))))
      (pss_one (ps_ret (pe_op op_mul (pe_fld (pv 0) rfl) (pv 1)))))), ?_⟩
    rw [show L2.start ["x", "found", "digit"] [.ref a] = [some (.ref a), none, none] from rfl]
    obtain ⟨dx, r, h1, h2⟩ := hx.has
    have hdl := dgs_lim hw.1 hn
    have hdd := dig_dgs hw.1 n.natAbs
    simp only [tMake, tMeth, tDGet, sDPut, tSeq, tAsg, gName, tDrop, tRet, tRetN, tIfS, tNext, tTest, tB, tAnd, tOr, tNot, tAndV, tOrV, tNotV, tNever, tOp, tUn, rI0, rI, rU, tVar, tC, tCons, tNil, tBM, tBM0, tCB, tCall, tFld, sFld, tTup, tLst, gSub, gTup, gCons, gNil, tPar, tSl, tPart, tNoPart, rAppend, rClear, rSetL, rIxL, rIxT, rSlL, rEq, rNe, sl0, sl1, sl2, sl3, sl4, sl5, sl6, sl7, sl8, sl9, sl10, sl11, sl12, sl13, st0, st1, st2, st3, st4, st5, st6, st7, st8, st9, st10, st11, st12, st13, Option.some.injEq, V.int.injEq, V.bl.injEq, V.ref.injEq, V.str.injEq, List.cons.injEq, HO.ins.injEq, HO.lst.injEq, HO.tup.injEq, HO.dK.injEq, exists_eq_left', exists_eq_left, exists_eq_right, exists_and_left, exists_and_right, exists_const, and_assoc, true_and, and_true, decide_eq_true_eq, Int.toNat_natCast, mfl_width, mfl_base, mfl_rows, mfl_counts, mfl_entered, bfl_width, bfl_side, bfl_row, cx_K, upd_same, List.append_nil, List.cons_append, List.nil_append, List.length_cons, List.length_nil, tChain, Bool.not_true, Bool.not_false, if_true, if_false, tYes, scal_ii, scal_ss, scal_bb, ite_t, ite_f, dec_ii, dec_ss]
    refine fcutT (xs := ((dgs wd n.natAbs).reverse).map .int) (fun σ' H' => But [] H H' ∧ ∃ y, σ' = [some (.ref a), some (.int n.natAbs), y])
      (fun b H' => But [] H H' ∧ H' b = some (.tup (((dgs wd n.natAbs).map V.int).reverse)))
      (fun b i σ' H' => But [] H H' ∧ H' b = some (.tup (((dgs wd n.natAbs).map V.int).reverse)) ∧ ∃ y, σ' = [some (.ref a), some (.int (fromTop wd ((dgs wd n.natAbs).reverse.take i))), y])
      ?_ ?_ ?_ ?_ ?_ ?_
    · intro Q q
      simp only [h1, K_Big T, A_Big_row T, tRevT, tMake, tMeth, tDGet, sDPut, tSeq, tAsg, gName, tDrop, tRet, tRetN, tIfS, tNext, tTest, tB, tAnd, tOr, tNot, tAndV, tOrV, tNotV, tNever, tOp, tUn, rI0, rI, rU, tVar, tC, tCons, tNil, tBM, tBM0, tCB, tCall, tFld, sFld, tTup, tLst, gSub, gTup, gCons, gNil, tPar, tSl, tPart, tNoPart, rAppend, rClear, rSetL, rIxL, rIxT, rSlL, rEq, rNe, sl0, sl1, sl2, sl3, sl4, sl5, sl6, sl7, sl8, sl9, sl10, sl11, sl12, sl13, st0, st1, st2, st3, st4, st5, st6, st7, st8, st9, st10, st11, st12, st13, Option.some.injEq, V.int.injEq, V.bl.injEq, V.ref.injEq, V.str.injEq, List.cons.injEq, HO.ins.injEq, HO.lst.injEq, HO.tup.injEq, HO.dK.injEq, exists_eq_left', exists_eq_left, exists_eq_right, exists_and_left, exists_and_right, exists_const, and_assoc, true_and, and_true, decide_eq_true_eq, Int.toNat_natCast, mfl_width, mfl_base, mfl_rows, mfl_counts, mfl_entered, bfl_width, bfl_side, bfl_row, cx_K, upd_same, List.append_nil, List.cons_append, List.nil_append, List.length_cons, List.length_nil, tChain, Bool.not_true, Bool.not_false, if_true, if_false, tYes, scal_ii, scal_ss, scal_bb, ite_t, ite_f, dec_ii, dec_ss]
      exact ⟨_, SqT.of h2, fun p hp => q p _ ⟨But.new0 hp, upd_same⟩⟩
    · rintro b H1 ⟨hb, hbb⟩
      exact ⟨hb, hbb, none, rfl⟩
    · rintro b i σ' H' _ ⟨hb, hbb, _⟩
      rw [List.map_reverse]; exact SqT.of hbb
    · rintro Vn M b hV hM i x σ' H1 hx' ⟨hb, hbb, y, rfl⟩
      obtain ⟨d, hd, rfl⟩ : ∃ d, (dgs wd n.natAbs).reverse[i]? = some d ∧ V.int d = x := by
        rw [List.getElem?_map] at hx'
        cases e : (dgs wd n.natAbs).reverse[i]? with
        | none => rw [e] at hx'; cases hx'
        | some z => rw [e] at hx'; exact ⟨z, rfl, Option.some.inj hx'⟩
      have hdr : 0 ≤ d ∧ d < 2 ^ wd := hdd d (List.mem_reverse.mp (List.mem_of_getElem? hd))
      have hf := fromTop_bound (n := n.natAbs) hw.1 i
      simp only [hb _ _ h1 (by simp), K_Big T, A_Big_width T, tMake, tMeth, tDGet, sDPut, tSeq, tAsg, gName, tDrop, tRet, tRetN, tIfS, tNext, tTest, tB, tAnd, tOr, tNot, tAndV, tOrV, tNotV, tNever, tOp, tUn, rI0, rI, rU, tVar, tC, tCons, tNil, tBM, tBM0, tCB, tCall, tFld, sFld, tTup, tLst, gSub, gTup, gCons, gNil, tPar, tSl, tPart, tNoPart, rAppend, rClear, rSetL, rIxL, rIxT, rSlL, rEq, rNe, sl0, sl1, sl2, sl3, sl4, sl5, sl6, sl7, sl8, sl9, sl10, sl11, sl12, sl13, st0, st1, st2, st3, st4, st5, st6, st7, st8, st9, st10, st11, st12, st13, Option.some.injEq, V.int.injEq, V.bl.injEq, V.ref.injEq, V.str.injEq, List.cons.injEq, HO.ins.injEq, HO.lst.injEq, HO.tup.injEq, HO.dK.injEq, exists_eq_left', exists_eq_left, exists_eq_right, exists_and_left, exists_and_right, exists_const, and_assoc, true_and, and_true, decide_eq_true_eq, Int.toNat_natCast, mfl_width, mfl_base, mfl_rows, mfl_counts, mfl_entered, bfl_width, bfl_side, bfl_row, cx_K, upd_same, List.append_nil, List.cons_append, List.nil_append, List.length_cons, List.length_nil, tChain, Bool.not_true, Bool.not_false, if_true, if_false, tYes, scal_ii, scal_ss, scal_bb, ite_t, ite_f, dec_ii, dec_ss]
      refine ⟨shl_ok (Nat.lt_of_le_of_lt hf.2 hn) (by have := lim_le; have := hw.2; omega), ?_⟩
      rw [or_low hf.1 hdr.1 hdr.2]
      refine hV _ _ _ ⟨hb, hbb, some (.int d), ?_⟩
      rw [fromTop_take hd]
    · rintro b σ' H' ⟨hb, hbb, y, rfl⟩
      refine ⟨hb, y, ?_⟩
      rw [List.length_map, List.take_length, fromTop_rev, val_dgs hw.1]
    · rintro σ' H' ⟨hb, y, rfl⟩
      simp only [hb _ _ h1 (by simp), K_Big T, A_Big_side T, tMake, tMeth, tDGet, sDPut, tSeq, tAsg, gName, tDrop, tRet, tRetN, tIfS, tNext, tTest, tB, tAnd, tOr, tNot, tAndV, tOrV, tNotV, tNever, tOp, tUn, rI0, rI, rU, tVar, tC, tCons, tNil, tBM, tBM0, tCB, tCall, tFld, sFld, tTup, tLst, gSub, gTup, gCons, gNil, tPar, tSl, tPart, tNoPart, rAppend, rClear, rSetL, rIxL, rIxT, rSlL, rEq, rNe, sl0, sl1, sl2, sl3, sl4, sl5, sl6, sl7, sl8, sl9, sl10, sl11, sl12, sl13, st0, st1, st2, st3, st4, st5, st6, st7, st8, st9, st10, st11, st12, st13, Option.some.injEq, V.int.injEq, V.bl.injEq, V.ref.injEq, V.str.injEq, List.cons.injEq, HO.ins.injEq, HO.lst.injEq, HO.tup.injEq, HO.dK.injEq, exists_eq_left', exists_eq_left, exists_eq_right, exists_and_left, exists_and_right, exists_const, and_assoc, true_and, and_true, decide_eq_true_eq, Int.toNat_natCast, mfl_width, mfl_base, mfl_rows, mfl_counts, mfl_entered, bfl_width, bfl_side, bfl_row, cx_K, upd_same, List.append_nil, List.cons_append, List.nil_append, List.length_cons, List.length_nil, tChain, Bool.not_true, Bool.not_false, if_true, if_false, tYes, scal_ii, scal_ss, scal_bb, ite_t, ite_f, dec_ii, dec_ss]
      refine ⟨.inl ?_, ?_⟩
      · rcases Int.lt_trichotomy n 0 with h | h | h
        · rw [Int.sign_eq_neg_one_of_neg h]; decide
        · rw [h]; decide
        · rw [Int.sign_eq_one_of_pos h]; decide
      · rw [Int.sign_mul_natAbs]; exact q H' hb
theorem c_value_of (T : Tx K mg) : Cal P w K mg base CX0 "value_of" 1 ["x"] [] (sp_value_of K) := by
  obtain ⟨fd, F⟩ := f_value_of T
  exact ⟨_, fd, [], G_value_of T, F.kp, o_value_of T F, B_value_of F, .nil⟩
/-! ### check_machine -/
theorem sc_check_machine : FnScope ["value"] ["value"] (defScope s_check_machine) := ⟨rfl, rfl, rfl, by decide +kernel, rfl, by decide +kernel, by decide +kernel⟩
def sp_check_machine (K : PySem.W.Frag) : Sp := fun vs H Q E => ∃ (p d e : Addr) (S : Ms), vs = [.ref p] ∧ (MAt K H p d e S) ∧ (Q .non H)
theorem o_check_machine (T : Tx K mg) {fd : FuncData} (F : FunD K "check_machine" "check_machine" (defArgs s_check_machine) (defBody s_check_machine) (defScope s_check_machine) [] [] (He.fAd K ("check_machine", none)) fd) : FnOk P w K mg base CX0 1 (He.fAd K ("check_machine", none)) fd ["value"] (sp_check_machine K) := by
  refine F.ok sc_check_machine (fun vs H Q E h => ?_) (fun cdv A outer s H vs Q E hr h => ?_)
  · obtain ⟨p, d, e, S, rfl, _⟩ := h
    rfl
  · obtain ⟨p, d, e, S, rfl, hM, q⟩ := h
    refine ⟨_, PSs.nox (pss_one (ps_if (pt_not (pt_val (pe_callB call_isi (by rfl) (b_isinstance T) (by decide +kernel) (pa_cons (pv 0) (pa_cons (g_Machine T) pa_nil))))) (pss_one ps_never) pss_nil)), ?_⟩
    rw [show L2.start ["value"] [.ref p] = [some (.ref p)] from rfl]
    obtain ⟨⟨dx, hi⟩, _⟩ := hM
    simp only [tMake, tMeth, tDGet, sDPut, tSeq, tAsg, gName, tDrop, tRet, tRetN, tIfS, tNext, tTest, tB, tAnd, tOr, tNot, tAndV, tOrV, tNotV, tNever, tOp, tUn, rI0, rI, rU, tVar, tC, tCons, tNil, tBM, tBM0, tCB, tCall, tFld, sFld, tTup, tLst, gSub, gTup, gCons, gNil, tPar, tSl, tPart, tNoPart, rAppend, rClear, rSetL, rIxL, rIxT, rSlL, rEq, rNe, sl0, sl1, sl2, sl3, sl4, sl5, sl6, sl7, sl8, sl9, sl10, sl11, sl12, sl13, st0, st1, st2, st3, st4, st5, st6, st7, st8, st9, st10, st11, st12, st13, Option.some.injEq, V.int.injEq, V.bl.injEq, V.ref.injEq, V.str.injEq, List.cons.injEq, HO.ins.injEq, HO.lst.injEq, HO.tup.injEq, HO.dK.injEq, exists_eq_left', exists_eq_left, exists_eq_right, exists_and_left, exists_and_right, exists_const, and_assoc, true_and, and_true, decide_eq_true_eq, Int.toNat_natCast, mfl_width, mfl_base, mfl_rows, mfl_counts, mfl_entered, bfl_width, bfl_side, bfl_row, cx_K, upd_same, List.append_nil, List.cons_append, List.nil_append, List.length_cons, List.length_nil, tChain, Bool.not_true, Bool.not_false, if_true, if_false, tYes, scal_ii, scal_ss, scal_bb, ite_t, ite_f, dec_ii, dec_ss]
    refine ⟨_, _, _, _, true, rfl, .own _, isi_ins (x_i_Machine T) (K_Machine T) hi, kit_self, ?_⟩
    simpa only [tMake, tMeth, tDGet, sDPut, tSeq, tAsg, gName, tDrop, tRet, tRetN, tIfS, tNext, tTest, tB, tAnd, tOr, tNot, tAndV, tOrV, tNotV, tNever, tOp, tUn, rI0, rI, rU, tVar, tC, tCons, tNil, tBM, tBM0, tCB, tCall, tFld, sFld, tTup, tLst, gSub, gTup, gCons, gNil, tPar, tSl, tPart, tNoPart, rAppend, rClear, rSetL, rIxL, rIxT, rSlL, rEq, rNe, sl0, sl1, sl2, sl3, sl4, sl5, sl6, sl7, sl8, sl9, sl10, sl11, sl12, sl13, st0, st1, st2, st3, st4, st5, st6, st7, st8, st9, st10, st11, st12, st13, Option.some.injEq, V.int.injEq, V.bl.injEq, V.ref.injEq, V.str.injEq, List.cons.injEq, HO.ins.injEq, HO.lst.injEq, HO.tup.injEq, HO.dK.injEq, exists_eq_left', exists_eq_left, exists_eq_right, exists_and_left, exists_and_right, exists_const, and_assoc, true_and, and_true, decide_eq_true_eq, Int.toNat_natCast, mfl_width, mfl_base, mfl_rows, mfl_counts, mfl_entered, bfl_width, bfl_side, bfl_row, cx_K, upd_same, List.append_nil, List.cons_append, List.nil_append, List.length_cons, List.length_nil, tChain, Bool.not_true, Bool.not_false, if_true, if_false, tYes, scal_ii, scal_ss, scal_bb, ite_t, ite_f, dec_ii, dec_ss] using q
theorem c_check_machine (T : Tx K mg) : Cal P w K mg base CX0 "check_machine" 1 ["value"] [] (sp_check_machine K) := by
  obtain ⟨fd, F⟩ := f_check_machine T
  exact ⟨_, fd, [], G_check_machine T, F.kp, o_check_machine T F, B_check_machine F, .nil⟩
/-! ### check_big -/
theorem sc_check_big : FnScope ["machine", "argument", "value"] ["machine", "argument", "value"] (defScope s_check_big) := ⟨rfl, rfl, rfl, by decide +kernel, rfl, by decide +kernel, by decide +kernel⟩
def sp_check_big (K : PySem.W.Frag) : Sp := fun vs H Q E => ∃ (p d e a : Addr) (S : Ms) (nm : Str) (n : Int), vs = [.ref p, .str nm, .ref a] ∧ (MAt K H p d e S) ∧ (BigI K H a S.w n) ∧ (Q .non H)
theorem o_check_big (T : Tx K mg) {fd : FuncData} (F : FunD K "check_big" "check_big" (defArgs s_check_big) (defBody s_check_big) (defScope s_check_big) [] [] (He.fAd K ("check_big", none)) fd) : FnOk P w K mg base CX0 1 (He.fAd K ("check_big", none)) fd ["machine", "argument", "value"] (sp_check_big K) := by
  refine F.ok sc_check_big (fun vs H Q E h => ?_) (fun cdv A outer s H vs Q E hr h => ?_)
  · obtain ⟨p, d, e, a, S, nm, n, rfl, _⟩ := h
    rfl
  · obtain ⟨p, d, e, a, S, nm, n, rfl, hM, hx, q⟩ := h
    refine ⟨_, PSs.nox (pss_one (ps_if (PW.pt (pw_or (pt_not (pt_val (pe_callB call_isi (by rfl) (b_isinstance T) (by decide +kernel) (pa_cons (pv 2) (pa_cons (g_Big T) pa_nil))))) (pw_or1 (pt_cmpR op_ne (pe_fld (pv 2) rfl) (pe_fld (pv 0) rfl) (nomark _))))) (pss_one ps_never) pss_nil)), ?_⟩
    rw [show L2.start ["machine", "argument", "value"] [.ref p, .str nm, .ref a] = [some (.ref p), some (.str nm), some (.ref a)] from rfl]
    obtain ⟨⟨dx, hi⟩, _⟩ := hM
    obtain ⟨dy, r, h1, h2⟩ := hx.has
    simp only [tMake, tMeth, tDGet, sDPut, tSeq, tAsg, gName, tDrop, tRet, tRetN, tIfS, tNext, tTest, tB, tAnd, tOr, tNot, tAndV, tOrV, tNotV, tNever, tOp, tUn, rI0, rI, rU, tVar, tC, tCons, tNil, tBM, tBM0, tCB, tCall, tFld, sFld, tTup, tLst, gSub, gTup, gCons, gNil, tPar, tSl, tPart, tNoPart, rAppend, rClear, rSetL, rIxL, rIxT, rSlL, rEq, rNe, sl0, sl1, sl2, sl3, sl4, sl5, sl6, sl7, sl8, sl9, sl10, sl11, sl12, sl13, st0, st1, st2, st3, st4, st5, st6, st7, st8, st9, st10, st11, st12, st13, Option.some.injEq, V.int.injEq, V.bl.injEq, V.ref.injEq, V.str.injEq, List.cons.injEq, HO.ins.injEq, HO.lst.injEq, HO.tup.injEq, HO.dK.injEq, exists_eq_left', exists_eq_left, exists_eq_right, exists_and_left, exists_and_right, exists_const, and_assoc, true_and, and_true, decide_eq_true_eq, Int.toNat_natCast, mfl_width, mfl_base, mfl_rows, mfl_counts, mfl_entered, bfl_width, bfl_side, bfl_row, cx_K, upd_same, List.append_nil, List.cons_append, List.nil_append, List.length_cons, List.length_nil, tChain, Bool.not_true, Bool.not_false, if_true, if_false, tYes, scal_ii, scal_ss, scal_bb, ite_t, ite_f, dec_ii, dec_ss]
    refine ⟨_, _, _, _, true, rfl, .own _, isi_ins (x_i_Big T) (K_Big T) h1, kit_self, ?_⟩
    simp only [hi, h1, K_Machine T, K_Big T, A_Machine_width T, A_Big_width T, decide_true, tMake, tMeth, tDGet, sDPut, tSeq, tAsg, gName, tDrop, tRet, tRetN, tIfS, tNext, tTest, tB, tAnd, tOr, tNot, tAndV, tOrV, tNotV, tNever, tOp, tUn, rI0, rI, rU, tVar, tC, tCons, tNil, tBM, tBM0, tCB, tCall, tFld, sFld, tTup, tLst, gSub, gTup, gCons, gNil, tPar, tSl, tPart, tNoPart, rAppend, rClear, rSetL, rIxL, rIxT, rSlL, rEq, rNe, sl0, sl1, sl2, sl3, sl4, sl5, sl6, sl7, sl8, sl9, sl10, sl11, sl12, sl13, st0, st1, st2, st3, st4, st5, st6, st7, st8, st9, st10, st11, st12, st13, Option.some.injEq, V.int.injEq, V.bl.injEq, V.ref.injEq, V.str.injEq, List.cons.injEq, HO.ins.injEq, HO.lst.injEq, HO.tup.injEq, HO.dK.injEq, exists_eq_left', exists_eq_left, exists_eq_right, exists_and_left, exists_and_right, exists_const, and_assoc, true_and, and_true, decide_eq_true_eq, Int.toNat_natCast, mfl_width, mfl_base, mfl_rows, mfl_counts, mfl_entered, bfl_width, bfl_side, bfl_row, cx_K, upd_same, List.append_nil, List.cons_append, List.nil_append, List.length_cons, List.length_nil, tChain, Bool.not_true, Bool.not_false, if_true, if_false, tYes, scal_ii, scal_ss, scal_bb, ite_t, ite_f, dec_ii, dec_ss]
    exact q
theorem c_check_big (T : Tx K mg) : Cal P w K mg base CX0 "check_big" 1 ["machine", "argument", "value"] [] (sp_check_big K) := by
  obtain ⟨fd, F⟩ := f_check_big T
  exact ⟨_, fd, [], G_check_big T, F.kp, o_check_big T F, B_check_big F, .nil⟩
/-! ### check_any -/
theorem sc_check_any : FnScope ["value"] ["value"] (defScope s_check_any) := ⟨rfl, rfl, rfl, by decide +kernel, rfl, by decide +kernel, by decide +kernel⟩
def sp_check_any (K : PySem.W.Frag) : Sp := fun vs H Q E => ∃ (a : Addr) (wd : Nat) (n : Int), vs = [.ref a] ∧ (BigI K H a wd n) ∧ (Q .non H)
theorem o_check_any (T : Tx K mg) {fd : FuncData} (F : FunD K "check_any" "check_any" (defArgs s_check_any) (defBody s_check_any) (defScope s_check_any) [] [] (He.fAd K ("check_any", none)) fd) : FnOk P w K mg base CX0 1 (He.fAd K ("check_any", none)) fd ["value"] (sp_check_any K) := by
  refine F.ok sc_check_any (fun vs H Q E h => ?_) (fun cdv A outer s H vs Q E hr h => ?_)
  · obtain ⟨a, wd, n, rfl, _⟩ := h
    rfl
  · obtain ⟨a, wd, n, rfl, hx, q⟩ := h
    refine ⟨_, PSs.nox (pss_one (ps_if (pt_not (pt_val (pe_callB call_isi (by rfl) (b_isinstance T) (by decide +kernel) (pa_cons (pv 0) (pa_cons (g_Big T) pa_nil))))) (pss_one ps_never) pss_nil)), ?_⟩
    rw [show L2.start ["value"] [.ref a] = [some (.ref a)] from rfl]
    obtain ⟨dy, r, h1, h2⟩ := hx.has
    simp only [tMake, tMeth, tDGet, sDPut, tSeq, tAsg, gName, tDrop, tRet, tRetN, tIfS, tNext, tTest, tB, tAnd, tOr, tNot, tAndV, tOrV, tNotV, tNever, tOp, tUn, rI0, rI, rU, tVar, tC, tCons, tNil, tBM, tBM0, tCB, tCall, tFld, sFld, tTup, tLst, gSub, gTup, gCons, gNil, tPar, tSl, tPart, tNoPart, rAppend, rClear, rSetL, rIxL, rIxT, rSlL, rEq, rNe, sl0, sl1, sl2, sl3, sl4, sl5, sl6, sl7, sl8, sl9, sl10, sl11, sl12, sl13, st0, st1, st2, st3, st4, st5, st6, st7, st8, st9, st10, st11, st12, st13, Option.some.injEq, V.int.injEq, V.bl.injEq, V.ref.injEq, V.str.injEq, List.cons.injEq, HO.ins.injEq, HO.lst.injEq, HO.tup.injEq, HO.dK.injEq, exists_eq_left', exists_eq_left, exists_eq_right, exists_and_left, exists_and_right, exists_const, and_assoc, true_and, and_true, decide_eq_true_eq, Int.toNat_natCast, mfl_width, mfl_base, mfl_rows, mfl_counts, mfl_entered, bfl_width, bfl_side, bfl_row, cx_K, upd_same, List.append_nil, List.cons_append, List.nil_append, List.length_cons, List.length_nil, tChain, Bool.not_true, Bool.not_false, if_true, if_false, tYes, scal_ii, scal_ss, scal_bb, ite_t, ite_f, dec_ii, dec_ss]
    refine ⟨_, _, _, _, true, rfl, .own _, isi_ins (x_i_Big T) (K_Big T) h1, kit_self, ?_⟩
    simpa only [tMake, tMeth, tDGet, sDPut, tSeq, tAsg, gName, tDrop, tRet, tRetN, tIfS, tNext, tTest, tB, tAnd, tOr, tNot, tAndV, tOrV, tNotV, tNever, tOp, tUn, rI0, rI, rU, tVar, tC, tCons, tNil, tBM, tBM0, tCB, tCall, tFld, sFld, tTup, tLst, gSub, gTup, gCons, gNil, tPar, tSl, tPart, tNoPart, rAppend, rClear, rSetL, rIxL, rIxT, rSlL, rEq, rNe, sl0, sl1, sl2, sl3, sl4, sl5, sl6, sl7, sl8, sl9, sl10, sl11, sl12, sl13, st0, st1, st2, st3, st4, st5, st6, st7, st8, st9, st10, st11, st12, st13, Option.some.injEq, V.int.injEq, V.bl.injEq, V.ref.injEq, V.str.injEq, List.cons.injEq, HO.ins.injEq, HO.lst.injEq, HO.tup.injEq, HO.dK.injEq, exists_eq_left', exists_eq_left, exists_eq_right, exists_and_left, exists_and_right, exists_const, and_assoc, true_and, and_true, decide_eq_true_eq, Int.toNat_natCast, mfl_width, mfl_base, mfl_rows, mfl_counts, mfl_entered, bfl_width, bfl_side, bfl_row, cx_K, upd_same, List.append_nil, List.cons_append, List.nil_append, List.length_cons, List.length_nil, tChain, Bool.not_true, Bool.not_false, if_true, if_false, tYes, scal_ii, scal_ss, scal_bb, ite_t, ite_f, dec_ii, dec_ss] using q
theorem c_check_any (T : Tx K mg) : Cal P w K mg base CX0 "check_any" 1 ["value"] [] (sp_check_any K) := by
  obtain ⟨fd, F⟩ := f_check_any T
  exact ⟨_, fd, [], G_check_any T, F.kp, o_check_any T F, B_check_any F, .nil⟩
/-! ### big -/
theorem sc_big : FnScope ["machine", "n"] ["machine", "n"] (defScope s_big) := ⟨rfl, rfl, rfl, by decide +kernel, rfl, by decide +kernel, by decide +kernel⟩
def sp_big (K : PySem.W.Frag) : Sp := fun vs H Q E => ∃ (p d e : Addr) (S : Ms) (n : Int), vs = [.ref p, .int n] ∧ (MAt K H p d e S) ∧ (0 < S.w) ∧ (n.natAbs < 2 ^ lim) ∧ (∀ a H', But [] H H' → H a = none → BigI K H' a S.w n → Q (.ref a) H')
theorem o_big (T : Tx K mg) {fd : FuncData} (F : FunD K "big" "big" (defArgs s_big) (defBody s_big) (defScope s_big) [] [] (He.fAd K ("big", none)) fd) : FnOk P w K mg base CX0 5 (He.fAd K ("big", none)) fd ["machine", "n"] (sp_big K) := by
  refine F.ok sc_big (fun vs H Q E h => ?_) (fun cdv A outer s H vs Q E hr h => ?_)
  · obtain ⟨p, d, e, S, n, rfl, _⟩ := h
    rfl
  · obtain ⟨p, d, e, S, n, rfl, hM, hw, hn, q⟩ := h
    refine ⟨_, PSs.nox (pss_cons (ps_expr (pc (c_check_machine T) hr (by decide) pass0 (pa_cons (pv 0) pa_nil)))
      (pss_cons (ps_expr (pc (c_check_integer T) hr (by decide) pass0 (pa_cons pe_str (pa_cons (pv 1) pa_nil))))
      (pss_one (ps_ret (pc (c_big_of T) hr (by decide) pass0 (pa_cons (pv 0) (pa_cons (pv 1) pa_nil))))))), ?_⟩
    rw [show L2.start ["machine", "n"] [.ref p, .int n] = [some (.ref p), some (.int n)] from rfl]
    simp only [tMake, tMeth, tDGet, sDPut, tSeq, tAsg, gName, tDrop, tRet, tRetN, tIfS, tNext, tTest, tB, tAnd, tOr, tNot, tAndV, tOrV, tNotV, tNever, tOp, tUn, rI0, rI, rU, tVar, tC, tCons, tNil, tBM, tBM0, tCB, tCall, tFld, sFld, tTup, tLst, gSub, gTup, gCons, gNil, tPar, tSl, tPart, tNoPart, rAppend, rClear, rSetL, rIxL, rIxT, rSlL, rEq, rNe, sl0, sl1, sl2, sl3, sl4, sl5, sl6, sl7, sl8, sl9, sl10, sl11, sl12, sl13, st0, st1, st2, st3, st4, st5, st6, st7, st8, st9, st10, st11, st12, st13, Option.some.injEq, V.int.injEq, V.bl.injEq, V.ref.injEq, V.str.injEq, List.cons.injEq, HO.ins.injEq, HO.lst.injEq, HO.tup.injEq, HO.dK.injEq, exists_eq_left', exists_eq_left, exists_eq_right, exists_and_left, exists_and_right, exists_const, and_assoc, true_and, and_true, decide_eq_true_eq, Int.toNat_natCast, mfl_width, mfl_base, mfl_rows, mfl_counts, mfl_entered, bfl_width, bfl_side, bfl_row, cx_K, upd_same, List.append_nil, List.cons_append, List.nil_append, List.length_cons, List.length_nil, tChain, Bool.not_true, Bool.not_false, if_true, if_false, tYes, scal_ii, scal_ss, scal_bb, ite_t, ite_f, dec_ii, dec_ss]
    refine ⟨p, d, e, S, rfl, hM, ?_⟩
    simp only [tMake, tMeth, tDGet, sDPut, tSeq, tAsg, gName, tDrop, tRet, tRetN, tIfS, tNext, tTest, tB, tAnd, tOr, tNot, tAndV, tOrV, tNotV, tNever, tOp, tUn, rI0, rI, rU, tVar, tC, tCons, tNil, tBM, tBM0, tCB, tCall, tFld, sFld, tTup, tLst, gSub, gTup, gCons, gNil, tPar, tSl, tPart, tNoPart, rAppend, rClear, rSetL, rIxL, rIxT, rSlL, rEq, rNe, sl0, sl1, sl2, sl3, sl4, sl5, sl6, sl7, sl8, sl9, sl10, sl11, sl12, sl13, st0, st1, st2, st3, st4, st5, st6, st7, st8, st9, st10, st11, st12, st13, Option.some.injEq, V.int.injEq, V.bl.injEq, V.ref.injEq, V.str.injEq, List.cons.injEq, HO.ins.injEq, HO.lst.injEq, HO.tup.injEq, HO.dK.injEq, exists_eq_left', exists_eq_left, exists_eq_right, exists_and_left, exists_and_right, exists_const, and_assoc, true_and, and_true, decide_eq_true_eq, Int.toNat_natCast, mfl_width, mfl_base, mfl_rows, mfl_counts, mfl_entered, bfl_width, bfl_side, bfl_row, cx_K, upd_same, List.append_nil, List.cons_append, List.nil_append, List.length_cons, List.length_nil, tChain, Bool.not_true, Bool.not_false, if_true, if_false, tYes, scal_ii, scal_ss, scal_bb, ite_t, ite_f, dec_ii, dec_ss]
    refine ⟨_, n, rfl, ?_⟩
    simp only [tMake, tMeth, tDGet, sDPut, tSeq, tAsg, gName, tDrop, tRet, tRetN, tIfS, tNext, tTest, tB, tAnd, tOr, tNot, tAndV, tOrV, tNotV, tNever, tOp, tUn, rI0, rI, rU, tVar, tC, tCons, tNil, tBM, tBM0, tCB, tCall, tFld, sFld, tTup, tLst, gSub, gTup, gCons, gNil, tPar, tSl, tPart, tNoPart, rAppend, rClear, rSetL, rIxL, rIxT, rSlL, rEq, rNe, sl0, sl1, sl2, sl3, sl4, sl5, sl6, sl7, sl8, sl9, sl10, sl11, sl12, sl13, st0, st1, st2, st3, st4, st5, st6, st7, st8, st9, st10, st11, st12, st13, Option.some.injEq, V.int.injEq, V.bl.injEq, V.ref.injEq, V.str.injEq, List.cons.injEq, HO.ins.injEq, HO.lst.injEq, HO.tup.injEq, HO.dK.injEq, exists_eq_left', exists_eq_left, exists_eq_right, exists_and_left, exists_and_right, exists_const, and_assoc, true_and, and_true, decide_eq_true_eq, Int.toNat_natCast, mfl_width, mfl_base, mfl_rows, mfl_counts, mfl_entered, bfl_width, bfl_side, bfl_row, cx_K, upd_same, List.append_nil, List.cons_append, List.nil_append, List.length_cons, List.length_nil, tChain, Bool.not_true, Bool.not_false, if_true, if_false, tYes, scal_ii, scal_ss, scal_bb, ite_t, ite_f, dec_ii, dec_ss]
    exact ⟨p, d, e, S, n, rfl, hM, hw, hn, q⟩
theorem c_big (T : Tx K mg) : Cal P w K mg base CX0 "big" 5 ["machine", "n"] [] (sp_big K) := by
  obtain ⟨fd, F⟩ := f_big T
  exact ⟨_, fd, [], G_big T, F.kp, o_big T F, B_big F, .nil⟩
/-! ### bit_length -/
theorem sc_bit_length : FnScope ["x"] ["x"] (defScope s_bit_length) := ⟨rfl, rfl, rfl, by decide +kernel, rfl, by decide +kernel, by decide +kernel⟩
def sp_bit_length (K : PySem.W.Frag) : Sp := fun vs H Q E => ∃ (a : Addr) (wd : Nat) (n : Int), vs = [.ref a] ∧ (BigI K H a wd n) ∧ (Wok wd) ∧ (Q (.int (Builtin.Int.intBits n : Nat)) H)
theorem o_bit_length (T : Tx K mg) {fd : FuncData} (F : FunD K "bit_length" "bit_length" (defArgs s_bit_length) (defBody s_bit_length) (defScope s_bit_length) [] [] (He.fAd K ("bit_length", none)) fd) : FnOk P w K mg base CX0 2 (He.fAd K ("bit_length", none)) fd ["x"] (sp_bit_length K) := by
  refine F.ok sc_bit_length (fun vs H Q E h => ?_) (fun cdv A outer s H vs Q E hr h => ?_)
  · obtain ⟨a, wd, n, rfl, _⟩ := h
    rfl
  · obtain ⟨a, wd, n, rfl, hx, hw, q⟩ := h
    refine ⟨_, PSs.nox (pss_cons (ps_expr (pc (c_check_any T) hr (by decide) pass0 (pa_cons (pv 0) pa_nil)))
      (pss_one (ps_ret (pe_ifExp (pt_cmpR op_eq (pe_fld (pv 0) rfl) pe_int (nomark _)) pe_int (pe_op op_add (pe_op op_mul (pe_op op_sub (pe_callB call_len_seq (by rfl) (b_len T) PySem.boot_len (pa_cons (pe_fld (pv 0) rfl) pa_nil)) pe_int) (pe_fld (pv 0) rfl)) (pe_bits (pe_ix ix_tup (pe_fld (pv 0) rfl) (pe_un un_neg pe_int) (fun _ _ => rfl)))))))), ?_⟩
    rw [show L2.start ["x"] [.ref a] = [some (.ref a)] from rfl]
    obtain ⟨dy, r, h1, h2⟩ := hx.has
    simp only [tMake, tMeth, tDGet, sDPut, tSeq, tAsg, gName, tDrop, tRet, tRetN, tIfS, tNext, tTest, tB, tAnd, tOr, tNot, tAndV, tOrV, tNotV, tNever, tOp, tUn, rI0, rI, rU, tVar, tC, tCons, tNil, tBM, tBM0, tCB, tCall, tFld, sFld, tTup, tLst, gSub, gTup, gCons, gNil, tPar, tSl, tPart, tNoPart, rAppend, rClear, rSetL, rIxL, rIxT, rSlL, rEq, rNe, sl0, sl1, sl2, sl3, sl4, sl5, sl6, sl7, sl8, sl9, sl10, sl11, sl12, sl13, st0, st1, st2, st3, st4, st5, st6, st7, st8, st9, st10, st11, st12, st13, Option.some.injEq, V.int.injEq, V.bl.injEq, V.ref.injEq, V.str.injEq, List.cons.injEq, HO.ins.injEq, HO.lst.injEq, HO.tup.injEq, HO.dK.injEq, exists_eq_left', exists_eq_left, exists_eq_right, exists_and_left, exists_and_right, exists_const, and_assoc, true_and, and_true, decide_eq_true_eq, Int.toNat_natCast, mfl_width, mfl_base, mfl_rows, mfl_counts, mfl_entered, bfl_width, bfl_side, bfl_row, cx_K, upd_same, List.append_nil, List.cons_append, List.nil_append, List.length_cons, List.length_nil, tChain, Bool.not_true, Bool.not_false, if_true, if_false, tYes, scal_ii, scal_ss, scal_bb, ite_t, ite_f, dec_ii, dec_ss]
    refine ⟨a, wd, n, rfl, hx, ?_⟩
    refine tif (decide (n.sign = 0)) (.int (Builtin.Int.intBits n : Nat)) (fun R r => ?_) (fun hb r => ?_) (fun hb r => ?_) q
    · simp only [h1, K_Big T, A_Big_side T, tMake, tMeth, tDGet, sDPut, tSeq, tAsg, gName, tDrop, tRet, tRetN, tIfS, tNext, tTest, tB, tAnd, tOr, tNot, tAndV, tOrV, tNotV, tNever, tOp, tUn, rI0, rI, rU, tVar, tC, tCons, tNil, tBM, tBM0, tCB, tCall, tFld, sFld, tTup, tLst, gSub, gTup, gCons, gNil, tPar, tSl, tPart, tNoPart, rAppend, rClear, rSetL, rIxL, rIxT, rSlL, rEq, rNe, sl0, sl1, sl2, sl3, sl4, sl5, sl6, sl7, sl8, sl9, sl10, sl11, sl12, sl13, st0, st1, st2, st3, st4, st5, st6, st7, st8, st9, st10, st11, st12, st13, Option.some.injEq, V.int.injEq, V.bl.injEq, V.ref.injEq, V.str.injEq, List.cons.injEq, HO.ins.injEq, HO.lst.injEq, HO.tup.injEq, HO.dK.injEq, exists_eq_left', exists_eq_left, exists_eq_right, exists_and_left, exists_and_right, exists_const, and_assoc, true_and, and_true, decide_eq_true_eq, Int.toNat_natCast, mfl_width, mfl_base, mfl_rows, mfl_counts, mfl_entered, bfl_width, bfl_side, bfl_row, cx_K, upd_same, List.append_nil, List.cons_append, List.nil_append, List.length_cons, List.length_nil, tChain, Bool.not_true, Bool.not_false, if_true, if_false, tYes, scal_ii, scal_ss, scal_bb, ite_t, ite_f, dec_ii, dec_ss]; exact r
    · have : n = 0 := by simpa using hb
      subst this
      simp only [tMake, tMeth, tDGet, sDPut, tSeq, tAsg, gName, tDrop, tRet, tRetN, tIfS, tNext, tTest, tB, tAnd, tOr, tNot, tAndV, tOrV, tNotV, tNever, tOp, tUn, rI0, rI, rU, tVar, tC, tCons, tNil, tBM, tBM0, tCB, tCall, tFld, sFld, tTup, tLst, gSub, gTup, gCons, gNil, tPar, tSl, tPart, tNoPart, rAppend, rClear, rSetL, rIxL, rIxT, rSlL, rEq, rNe, sl0, sl1, sl2, sl3, sl4, sl5, sl6, sl7, sl8, sl9, sl10, sl11, sl12, sl13, st0, st1, st2, st3, st4, st5, st6, st7, st8, st9, st10, st11, st12, st13, Option.some.injEq, V.int.injEq, V.bl.injEq, V.ref.injEq, V.str.injEq, List.cons.injEq, HO.ins.injEq, HO.lst.injEq, HO.tup.injEq, HO.dK.injEq, exists_eq_left', exists_eq_left, exists_eq_right, exists_and_left, exists_and_right, exists_const, and_assoc, true_and, and_true, decide_eq_true_eq, Int.toNat_natCast, mfl_width, mfl_base, mfl_rows, mfl_counts, mfl_entered, bfl_width, bfl_side, bfl_row, cx_K, upd_same, List.append_nil, List.cons_append, List.nil_append, List.length_cons, List.length_nil, tChain, Bool.not_true, Bool.not_false, if_true, if_false, tYes, scal_ii, scal_ss, scal_bb, ite_t, ite_f, dec_ii, dec_ss]; exact r
    · have hn : 0 < n.natAbs := by
        have : ¬ n = 0 := fun z => by simp [z] at hb
        omega
      obtain ⟨l, t, e, ht, ht2⟩ := dgs_last hw.1 hn
      rw [bits_abs, bits_dgs hw.1 hn e ht] at r
      simp only [h1, K_Big T, A_Big_row T, A_Big_width T, tBits, tMake, tMeth, tDGet, sDPut, tSeq, tAsg, gName, tDrop, tRet, tRetN, tIfS, tNext, tTest, tB, tAnd, tOr, tNot, tAndV, tOrV, tNotV, tNever, tOp, tUn, rI0, rI, rU, tVar, tC, tCons, tNil, tBM, tBM0, tCB, tCall, tFld, sFld, tTup, tLst, gSub, gTup, gCons, gNil, tPar, tSl, tPart, tNoPart, rAppend, rClear, rSetL, rIxL, rIxT, rSlL, rEq, rNe, sl0, sl1, sl2, sl3, sl4, sl5, sl6, sl7, sl8, sl9, sl10, sl11, sl12, sl13, st0, st1, st2, st3, st4, st5, st6, st7, st8, st9, st10, st11, st12, st13, Option.some.injEq, V.int.injEq, V.bl.injEq, V.ref.injEq, V.str.injEq, List.cons.injEq, HO.ins.injEq, HO.lst.injEq, HO.tup.injEq, HO.dK.injEq, exists_eq_left', exists_eq_left, exists_eq_right, exists_and_left, exists_and_right, exists_const, and_assoc, true_and, and_true, decide_eq_true_eq, Int.toNat_natCast, mfl_width, mfl_base, mfl_rows, mfl_counts, mfl_entered, bfl_width, bfl_side, bfl_row, cx_K, upd_same, List.append_nil, List.cons_append, List.nil_append, List.length_cons, List.length_nil, tChain, Bool.not_true, Bool.not_false, if_true, if_false, tYes, scal_ii, scal_ss, scal_bb, ite_t, ite_f, dec_ii, dec_ss]
      refine ⟨_, .inr (SqT.of h2), ?_⟩
      refine ⟨.inr ⟨by have := hw.2; omega, by have := hw.2; omega⟩, _, SqT.of h2, .int t, by rw [e, List.map_append]; exact atI_last _ _, t, rfl, ?_⟩
      rw [e, List.length_map, List.length_append, List.length_singleton]
      rw [show (((l.length + 1 : Nat) : Int) - 1) * (wd : Int) + ((Builtin.Int.intBits t : Nat) : Int) = ((l.length * wd + Builtin.Int.intBits t : Nat) : Int) by push_cast; rw [show ((l.length : Int) + 1 - 1) = l.length by omega]]
      exact r
theorem c_bit_length (T : Tx K mg) : Cal P w K mg base CX0 "bit_length" 2 ["x"] [] (sp_bit_length K) := by
  obtain ⟨fd, F⟩ := f_bit_length T
  exact ⟨_, fd, [], G_bit_length T, F.kp, o_bit_length T F, B_bit_length F, .nil⟩
/-! ### Machine.tally -/
theorem sc_Machine_tally : FnScope ["self", "word"] ["self"] (defScope s_Machine_tally) := ⟨rfl, rfl, rfl, by decide +kernel, rfl, by decide +kernel, by decide +kernel⟩
def sp_Machine_tally (K : PySem.W.Frag) : Sp := fun vs H Q E => ∃ (p d e : Addr) (S : Ms), vs = [.ref p] ∧ (MAt K H p d e S) ∧ (∀ l ts H', But [] H H' → H l = none → H' l = some (.lst (ts.map .ref)) → Paired (fun t w => H t = none ∧ H' t = some (.tup [.str w, .int (S.cnt w)])) ts WORDS → Q (.ref l) H')
theorem o_Machine_tally (T : Tx K mg) {fd : FuncData} (F : FunD K "tally" "Machine.tally" (defArgs s_Machine_tally) (defBody s_Machine_tally) (defScope s_Machine_tally) [] [] (He.fAd K ("Machine", some "tally")) fd) : FnOk P w K mg base CX0 1 (He.fAd K ("Machine", some "tally")) fd ["self"] (sp_Machine_tally K) := by
  refine F.ok sc_Machine_tally (fun vs H Q E h => ?_) (fun cdv A outer s H vs Q E hr h => ?_)
  · obtain ⟨p, d, e, S, rfl, _⟩ := h
    rfl
  · obtain ⟨p, d, e, S, rfl, hM, q⟩ := h
    refine ⟨_, PSs.nox (pss_one (ps_ret (pe_lc (own := [("word", 1)]) (g := (gName 1)) rfl sc_Machine_tally.nd (pi_tup (g_WORDS T)) (blkOk_by (own := [("word", 1)]) (N := ["self", "word"]) (sc := defScope s_Machine_tally) (by decide +kernel)) (fun _ _ _ _ _ => (pg_name (i := 1) sc_Machine_tally.nd rfl (.inl rfl))) (fun _ _ _ _ _ => pts_nil) (fun _ _ _ _ _ => by exact (pe_tup (pa_cons (pv 1) (pa_cons (pe_dget (by exact hu_of hr) (pe_fldK (K := K) (pv 0) rfl) (pv 1) (fun _ _ => rfl)) pa_nil))))))), ?_⟩
    rw [show L2.start ["self", "word"] [.ref p] = [some (.ref p), none] from rfl]
    obtain ⟨⟨dx, hi⟩, hc, refs, he, hrf⟩ := id hM
    simp only [tMake, tMeth, tDGet, sDPut, tSeq, tAsg, gName, tDrop, tRet, tRetN, tIfS, tNext, tTest, tB, tAnd, tOr, tNot, tAndV, tOrV, tNotV, tNever, tOp, tUn, rI0, rI, rU, tVar, tC, tCons, tNil, tBM, tBM0, tCB, tCall, tFld, sFld, tTup, tLst, gSub, gTup, gCons, gNil, tPar, tSl, tPart, tNoPart, rAppend, rClear, rSetL, rIxL, rIxT, rSlL, rEq, rNe, sl0, sl1, sl2, sl3, sl4, sl5, sl6, sl7, sl8, sl9, sl10, sl11, sl12, sl13, st0, st1, st2, st3, st4, st5, st6, st7, st8, st9, st10, st11, st12, st13, Option.some.injEq, V.int.injEq, V.bl.injEq, V.ref.injEq, V.str.injEq, List.cons.injEq, HO.ins.injEq, HO.lst.injEq, HO.tup.injEq, HO.dK.injEq, exists_eq_left', exists_eq_left, exists_eq_right, exists_and_left, exists_and_right, exists_const, and_assoc, true_and, and_true, decide_eq_true_eq, Int.toNat_natCast, mfl_width, mfl_base, mfl_rows, mfl_counts, mfl_entered, bfl_width, bfl_side, bfl_row, cx_K, upd_same, List.append_nil, List.cons_append, List.nil_append, List.length_cons, List.length_nil, tChain, Bool.not_true, Bool.not_false, if_true, if_false, tYes, scal_ii, scal_ss, scal_bb, ite_t, ite_f, dec_ii, dec_ss]
    refine lcT (A := fun x H' => x = He.ga K "WORDS" ∧ H' = H) (xs := WORDS.map V.str)
      (Pv := fun x D i H' => ∃ ts : List Addr, x = He.ga K "WORDS" ∧ H D = none ∧ But [] H H' ∧ H' D = some (.lst (ts.map V.ref)) ∧ ts.length = i ∧ Paired (fun t w => H t = none ∧ H' t = some (.tup [.str w, .int (S.cnt w)])) ts (WORDS.take i))
      (fun Q q => q _ _ ⟨rfl, rfl⟩) ?_ ?_ ?_ ?_ ?_
    · rintro x H1 ⟨rfl, rfl⟩; exact words_tup (x_WORDS T)
    · rintro x D H1 ⟨rfl, rfl⟩ hD; exact ⟨[], rfl, hD, But.new0 hD, upd_same, rfl, .nil⟩
    · rintro x D i H1 ⟨ts, rfl, _⟩; exact words_tup (x_WORDS T)
    · rintro x D Vn hV i y H1 hy ⟨ts, rfl, hD, hb1, hl, hti, hp⟩
      obtain ⟨wd, hwd, rfl⟩ : ∃ wd, WORDS[i]? = some wd ∧ V.str wd = y := by
        rw [List.getElem?_map] at hy
        cases e : WORDS[i]? with
        | none => rw [e] at hy; cases hy
        | some z => rw [e] at hy; exact ⟨z, rfl, Option.some.inj hy⟩
      have hmem : wd ∈ WORDS := List.mem_of_getElem? hwd
      simp only [List.map_cons, List.map_nil, wipe, hb1 _ _ hi (by simp), K_Machine T, A_Machine_counts T, tMake, tMeth, tDGet, sDPut, tSeq, tAsg, gName, tDrop, tRet, tRetN, tIfS, tNext, tTest, tB, tAnd, tOr, tNot, tAndV, tOrV, tNotV, tNever, tOp, tUn, rI0, rI, rU, tVar, tC, tCons, tNil, tBM, tBM0, tCB, tCall, tFld, sFld, tTup, tLst, gSub, gTup, gCons, gNil, tPar, tSl, tPart, tNoPart, rAppend, rClear, rSetL, rIxL, rIxT, rSlL, rEq, rNe, sl0, sl1, sl2, sl3, sl4, sl5, sl6, sl7, sl8, sl9, sl10, sl11, sl12, sl13, st0, st1, st2, st3, st4, st5, st6, st7, st8, st9, st10, st11, st12, st13, Option.some.injEq, V.int.injEq, V.bl.injEq, V.ref.injEq, V.str.injEq, List.cons.injEq, HO.ins.injEq, HO.lst.injEq, HO.tup.injEq, HO.dK.injEq, exists_eq_left', exists_eq_left, exists_eq_right, exists_and_left, exists_and_right, exists_const, and_assoc, true_and, and_true, decide_eq_true_eq, Int.toNat_natCast, mfl_width, mfl_base, mfl_rows, mfl_counts, mfl_entered, bfl_width, bfl_side, bfl_row, cx_K, upd_same, List.append_nil, List.cons_append, List.nil_append, List.length_cons, List.length_nil, tChain, Bool.not_true, Bool.not_false, if_true, if_false, tYes, scal_ii, scal_ss, scal_bb, ite_t, ite_f, dec_ii, dec_ss]
      refine ⟨_, Or.inl ⟨_, Sum.inr wd, .inl (hb1 _ _ hc (by simp)), rfl, (valV_cnt hmem).symm⟩, by show 2 ≤ sizeLine; decide, fun t ht => ?_⟩
      have hDt : D ≠ t := ne_of_none hl ht
      refine ⟨_, by rw [upd_ne hDt]; exact hl, ?_, ?_⟩
      · have : i < 10 := (List.getElem?_eq_some_iff.mp hwd).1
        rw [List.length_map, hti]
        exact Nat.lt_of_lt_of_le this (by decide)
      · refine hV _ _ ⟨ts ++ [t], rfl, hD, (hb1.new ht).mut hD, ?_, by simp [hti], ?_⟩
        · rw [upd_same, List.map_append]; rfl
        · rw [show WORDS.take (i + 1) = WORDS.take i ++ [wd] by rw [List.take_add_one, hwd]; rfl]
          refine pair_snoc (Paired.mapP hp fun p kv h => ⟨h.1, ?_⟩) ⟨hb1.free ht (by simp), ?_⟩
          · rw [upd_ne (ne_of h.2 hl (by intro z; cases z)), upd_ne (ne_of_none h.2 ht)]; exact h.2
          · rw [upd_ne hDt.symm, upd_same]
    · rintro x D H1 ⟨ts, rfl, hD, hb1, hl, hti, hp⟩
      rw [List.length_map, List.take_length] at hp
      exact q D ts H1 hb1 hD hl hp
theorem c_Machine_tally (T : Tx K mg) : CalM P w K mg base CX0 "Machine" "tally" 1 ["self"] [] (sp_Machine_tally K) := by
  obtain ⟨fd, F⟩ := f_Machine_tally T
  exact ⟨_, fd, [], K_Machine T, M_Machine_tally T, o_Machine_tally T F, B_Machine_tally F, .nil⟩
/-! ### Machine.walk -/
theorem sc_Machine_walk : FnScope ["self"] ["self"] (defScope s_Machine_walk) := ⟨rfl, rfl, rfl, by decide +kernel, rfl, by decide +kernel, by decide +kernel⟩
def sp_Machine_walk (K : PySem.W.Frag) : Sp := fun vs H Q E => ∃ (p d e : Addr) (S : Ms), vs = [.ref p] ∧ (MAt K H p d e S) ∧ (∀ l refs H', But [] H H' → H l = none → H' l = some (.lst refs) → Paired (WalkV H) refs S.walk → Q (.ref l) H')
theorem o_Machine_walk (T : Tx K mg) {fd : FuncData} (F : FunD K "walk" "Machine.walk" (defArgs s_Machine_walk) (defBody s_Machine_walk) (defScope s_Machine_walk) [] [] (He.fAd K ("Machine", some "walk")) fd) : FnOk P w K mg base CX0 1 (He.fAd K ("Machine", some "walk")) fd ["self"] (sp_Machine_walk K) := by
  refine F.ok sc_Machine_walk (fun vs H Q E h => ?_) (fun cdv A outer s H vs Q E hr h => ?_)
  · obtain ⟨p, d, e, S, rfl, _⟩ := h
    rfl
  · obtain ⟨p, d, e, S, rfl, hM, q⟩ := h
    refine ⟨_, PSs.nox (pss_one (ps_ret (pe_callTy call_list_of (by rfl) (b_list T) (by decide +kernel) (pa_cons (pe_fld (pv 0) rfl) pa_nil)))), ?_⟩
    rw [show L2.start ["self"] [.ref p] = [some (.ref p)] from rfl]
    obtain ⟨⟨dx, hi⟩, hc, refs, he, hrf⟩ := id hM
    simp only [hi, K_Machine T, A_Machine_entered T, tMake, tMeth, tDGet, sDPut, tSeq, tAsg, gName, tDrop, tRet, tRetN, tIfS, tNext, tTest, tB, tAnd, tOr, tNot, tAndV, tOrV, tNotV, tNever, tOp, tUn, rI0, rI, rU, tVar, tC, tCons, tNil, tBM, tBM0, tCB, tCall, tFld, sFld, tTup, tLst, gSub, gTup, gCons, gNil, tPar, tSl, tPart, tNoPart, rAppend, rClear, rSetL, rIxL, rIxT, rSlL, rEq, rNe, sl0, sl1, sl2, sl3, sl4, sl5, sl6, sl7, sl8, sl9, sl10, sl11, sl12, sl13, st0, st1, st2, st3, st4, st5, st6, st7, st8, st9, st10, st11, st12, st13, Option.some.injEq, V.int.injEq, V.bl.injEq, V.ref.injEq, V.str.injEq, List.cons.injEq, HO.ins.injEq, HO.lst.injEq, HO.tup.injEq, HO.dK.injEq, exists_eq_left', exists_eq_left, exists_eq_right, exists_and_left, exists_and_right, exists_const, and_assoc, true_and, and_true, decide_eq_true_eq, Int.toNat_natCast, mfl_width, mfl_base, mfl_rows, mfl_counts, mfl_entered, bfl_width, bfl_side, bfl_row, cx_K, upd_same, List.append_nil, List.cons_append, List.nil_append, List.length_cons, List.length_nil, tChain, Bool.not_true, Bool.not_false, if_true, if_false, tYes, scal_ii, scal_ss, scal_bb, ite_t, ite_f, dec_ii, dec_ss]
    exact ⟨_, .inl (.inl (.inl he)), fun l hl => q l refs _ (But.new0 hl) hl upd_same hrf⟩
theorem c_Machine_walk (T : Tx K mg) : CalM P w K mg base CX0 "Machine" "walk" 1 ["self"] [] (sp_Machine_walk K) := by
  obtain ⟨fd, F⟩ := f_Machine_walk T
  exact ⟨_, fd, [], K_Machine T, M_Machine_walk T, o_Machine_walk T F, B_Machine_walk F, .nil⟩
/-! ### Machine.reset -/
theorem sc_Machine_reset : FnScope ["self", "word"] ["self"] (defScope s_Machine_reset) := ⟨rfl, rfl, rfl, by decide +kernel, rfl, by decide +kernel, by decide +kernel⟩
def sp_Machine_reset (K : PySem.W.Frag) : Sp := fun vs H Q E => ∃ (p d e : Addr) (S : Ms), vs = [.ref p] ∧ (MAt K H p d e S) ∧ (∀ H', But [d, e] H H' → MAt K H' p d e { S with cnt := fun _ => 0, walk := [] } → Q .non H')
theorem o_Machine_reset (T : Tx K mg) {fd : FuncData} (F : FunD K "reset" "Machine.reset" (defArgs s_Machine_reset) (defBody s_Machine_reset) (defScope s_Machine_reset) [] [] (He.fAd K ("Machine", some "reset")) fd) : FnOk P w K mg base CX0 1 (He.fAd K ("Machine", some "reset")) fd ["self"] (sp_Machine_reset K) := by
  refine F.ok sc_Machine_reset (fun vs H Q E h => ?_) (fun cdv A outer s H vs Q E hr h => ?_)
  · obtain ⟨p, d, e, S, rfl, _⟩ := h
    rfl
  · obtain ⟨p, d, e, S, rfl, hM, q⟩ := h
    refine ⟨_, PSs.nox (Evl.pss_cut (ps_for PassesOwn.never rfl (pi_tup (g_WORDS T)) (pg_name (i := 1) sc_Machine_reset.nd rfl (.inl rfl)) (pss_one (ps_dput (by exact hu_of hr) (pe_fld (pv 0) rfl) (pv 1) pe_int rfl)))
      (pss_one (ps_expr (pe_bm0 PySem.F.plainAttrs_list PySem.F.slot_list_clear PySem.F.type_list_clear mt_clear (pe_fld (pv 0) rfl))))), ?_⟩
    rw [show L2.start ["self", "word"] [.ref p] = [some (.ref p), none] from rfl]
    obtain ⟨⟨dx, hi⟩, hc, refs, he, hrf⟩ := id hM
    obtain ⟨n1, n2, n3⟩ := hM.ne
    simp only [tMake, tMeth, tDGet, sDPut, tSeq, tAsg, gName, tDrop, tRet, tRetN, tIfS, tNext, tTest, tB, tAnd, tOr, tNot, tAndV, tOrV, tNotV, tNever, tOp, tUn, rI0, rI, rU, tVar, tC, tCons, tNil, tBM, tBM0, tCB, tCall, tFld, sFld, tTup, tLst, gSub, gTup, gCons, gNil, tPar, tSl, tPart, tNoPart, rAppend, rClear, rSetL, rIxL, rIxT, rSlL, rEq, rNe, sl0, sl1, sl2, sl3, sl4, sl5, sl6, sl7, sl8, sl9, sl10, sl11, sl12, sl13, st0, st1, st2, st3, st4, st5, st6, st7, st8, st9, st10, st11, st12, st13, Option.some.injEq, V.int.injEq, V.bl.injEq, V.ref.injEq, V.str.injEq, List.cons.injEq, HO.ins.injEq, HO.lst.injEq, HO.tup.injEq, HO.dK.injEq, exists_eq_left', exists_eq_left, exists_eq_right, exists_and_left, exists_and_right, exists_const, and_assoc, true_and, and_true, decide_eq_true_eq, Int.toNat_natCast, mfl_width, mfl_base, mfl_rows, mfl_counts, mfl_entered, bfl_width, bfl_side, bfl_row, cx_K, upd_same, List.append_nil, List.cons_append, List.nil_append, List.length_cons, List.length_nil, tChain, Bool.not_true, Bool.not_false, if_true, if_false, tYes, scal_ii, scal_ss, scal_bb, ite_t, ite_f, dec_ii, dec_ss]
    refine fcutT (xs := WORDS.map V.str) (fun σ' H' => σ'[0]? = some (some (.ref p)) ∧ But [d] H H' ∧ MAt K H' p d e { S with cnt := fun _ => 0 })
      (fun b H' => b = He.ga K "WORDS" ∧ H' = H)
      (fun b i σ' H' => b = He.ga K "WORDS" ∧ But [d] H H' ∧ (∃ y, σ' = [some (.ref p), y]) ∧ MAt K H' p d e { S with cnt := fun x => if x ∈ WORDS.take i then 0 else S.cnt x })
      (fun Q q => q _ _ ⟨rfl, rfl⟩) ?_ ?_ ?_ ?_ ?_
    · rintro b H1 ⟨rfl, rfl⟩
      exact ⟨rfl, But.refl _, ⟨_, rfl⟩, by simpa using hM⟩
    · rintro b i σ' H' _ ⟨rfl, _⟩; exact words_tup (x_WORDS T)
    · rintro Vn M b hV hM' i y σ' H1 hy ⟨rfl, hb, ⟨z, rfl⟩, hm⟩
      obtain ⟨wd, hwd, rfl⟩ : ∃ wd, WORDS[i]? = some wd ∧ V.str wd = y := by
        rw [List.getElem?_map] at hy
        cases e : WORDS[i]? with
        | none => rw [e] at hy; cases hy
        | some z => rw [e] at hy; exact ⟨z, rfl, Option.some.inj hy⟩
      obtain ⟨⟨dx1, hi1⟩, hc1, refs1, he1, hrf1⟩ := id hm
      have hmem : wd ∈ WORDS := List.mem_of_getElem? hwd
      simp only [hi1, K_Machine T, A_Machine_counts T, tMake, tMeth, tDGet, sDPut, tSeq, tAsg, gName, tDrop, tRet, tRetN, tIfS, tNext, tTest, tB, tAnd, tOr, tNot, tAndV, tOrV, tNotV, tNever, tOp, tUn, rI0, rI, rU, tVar, tC, tCons, tNil, tBM, tBM0, tCB, tCall, tFld, sFld, tTup, tLst, gSub, gTup, gCons, gNil, tPar, tSl, tPart, tNoPart, rAppend, rClear, rSetL, rIxL, rIxT, rSlL, rEq, rNe, sl0, sl1, sl2, sl3, sl4, sl5, sl6, sl7, sl8, sl9, sl10, sl11, sl12, sl13, st0, st1, st2, st3, st4, st5, st6, st7, st8, st9, st10, st11, st12, st13, Option.some.injEq, V.int.injEq, V.bl.injEq, V.ref.injEq, V.str.injEq, List.cons.injEq, HO.ins.injEq, HO.lst.injEq, HO.tup.injEq, HO.dK.injEq, exists_eq_left', exists_eq_left, exists_eq_right, exists_and_left, exists_and_right, exists_const, and_assoc, true_and, and_true, decide_eq_true_eq, Int.toNat_natCast, mfl_width, mfl_base, mfl_rows, mfl_counts, mfl_entered, bfl_width, bfl_side, bfl_row, cx_K, upd_same, List.append_nil, List.cons_append, List.nil_append, List.length_cons, List.length_nil, tChain, Bool.not_true, Bool.not_false, if_true, if_false, tYes, scal_ii, scal_ss, scal_bb, ite_t, ite_f, dec_ii, dec_ss]
      refine ⟨_, Or.inl ⟨_, Sum.inr wd, hc1, rfl, by rw [cnt_len]; decide, rfl⟩, ?_⟩
      refine hV _ _ _ ⟨rfl, hb.own (by simp), ⟨_, rfl⟩, ?_⟩
      have hp : putK (cntKV fun x => if x ∈ WORDS.take i then 0 else S.cnt x) (Sum.inr wd) (.int 0) = cntKV fun x => if x ∈ WORDS.take (i + 1) then 0 else S.cnt x := by
        unfold cntKV
        rw [putK_map _ wd _ _ hmem]
        apply List.map_congr_left
        intro x _
        rw [show WORDS.take (i + 1) = WORDS.take i ++ [wd] by rw [List.take_add_one, hwd]; rfl]
        by_cases ex : x = wd <;> simp [ex]
      rw [hp]
      refine ⟨⟨dx1, ?_⟩, upd_same, refs1, ?_, Paired.mapP hrf1 fun v t h => ?_⟩
      · rw [upd_ne n2]; exact hi1
      · rw [upd_ne n1.symm]; exact he1
      · obtain ⟨a, r, h⟩ := h
        refine ⟨a, r, ?_⟩
        rw [upd_ne (ne_of h hc1 (by intro z; cases z))]; exact h
    · rintro b σ' H' ⟨rfl, hb, ⟨z, rfl⟩, hm⟩
      refine ⟨rfl, hb, ?_⟩
      rw [List.length_map, List.take_length] at hm
      obtain ⟨a1, a2, a3⟩ := hm
      refine ⟨a1, ?_, a3⟩
      have : cntKV (fun x => if x ∈ WORDS then 0 else S.cnt x) = cntKV (fun _ => 0) := by
        unfold cntKV
        apply List.map_congr_left
        intro x hx
        show ((Sum.inr x : Key), V.int (if x ∈ WORDS then 0 else S.cnt x)) = _
        rw [if_pos hx]
      rw [← this]; exact a2
    · rintro σ' H' ⟨hs, hb, hm⟩
      obtain ⟨⟨dx1, hi1⟩, hc1, refs1, he1, hrf1⟩ := id hm
      simp only [hs, hi1, he1, tyl he1, K_Machine T, A_Machine_entered T, tMake, tMeth, tDGet, sDPut, tSeq, tAsg, gName, tDrop, tRet, tRetN, tIfS, tNext, tTest, tB, tAnd, tOr, tNot, tAndV, tOrV, tNotV, tNever, tOp, tUn, rI0, rI, rU, tVar, tC, tCons, tNil, tBM, tBM0, tCB, tCall, tFld, sFld, tTup, tLst, gSub, gTup, gCons, gNil, tPar, tSl, tPart, tNoPart, rAppend, rClear, rSetL, rIxL, rIxT, rSlL, rEq, rNe, sl0, sl1, sl2, sl3, sl4, sl5, sl6, sl7, sl8, sl9, sl10, sl11, sl12, sl13, st0, st1, st2, st3, st4, st5, st6, st7, st8, st9, st10, st11, st12, st13, Option.some.injEq, V.int.injEq, V.bl.injEq, V.ref.injEq, V.str.injEq, List.cons.injEq, HO.ins.injEq, HO.lst.injEq, HO.tup.injEq, HO.dK.injEq, exists_eq_left', exists_eq_left, exists_eq_right, exists_and_left, exists_and_right, exists_const, and_assoc, true_and, and_true, decide_eq_true_eq, Int.toNat_natCast, mfl_width, mfl_base, mfl_rows, mfl_counts, mfl_entered, bfl_width, bfl_side, bfl_row, cx_K, upd_same, List.append_nil, List.cons_append, List.nil_append, List.length_cons, List.length_nil, tChain, Bool.not_true, Bool.not_false, if_true, if_false, tYes, scal_ii, scal_ss, scal_bb, ite_t, ite_f, dec_ii, dec_ss]
      refine ⟨⟨_, rfl⟩, q _ ((hb.mono (by simp)).own (by simp)) ⟨⟨dx1, ?_⟩, ?_, [], upd_same, .nil⟩⟩
      · rw [upd_ne n3]; exact hi1
      · rw [upd_ne n1]; exact hc1
theorem c_Machine_reset (T : Tx K mg) : CalM P w K mg base CX0 "Machine" "reset" 1 ["self"] [] (sp_Machine_reset K) := by
  obtain ⟨fd, F⟩ := f_Machine_reset T
  exact ⟨_, fd, [], K_Machine T, M_Machine_reset T, o_Machine_reset T F, B_Machine_reset F, .nil⟩
end


end Th

namespace Th
open PySem PySem.Spec PyProof.Rows L2 Tb
section
variable {P : Program} {w : World} {K : PySem.W.Frag} {mg : Str → Option Value} {base : Heap}
/-! ### check_most -/
theorem sc_check_most : FnScope ["value"] ["value"] (defScope s_check_most) := ⟨rfl, rfl, rfl, by decide +kernel, rfl, by decide +kernel, by decide +kernel⟩
def sp_check_most (K : PySem.W.Frag) : Sp := fun vs H Q E => ∃ (v : Int), vs = [.int v] ∧ (v = 0 ∨ 640 ≤ v) ∧ (Q .non H)
theorem o_check_most (T : Tx K mg) {fd : FuncData} (F : FunD K "check_most" "check_most" (defArgs s_check_most) (defBody s_check_most) (defScope s_check_most) [] [] (He.fAd K ("check_most", none)) fd) : FnOk P w K mg base CX0 2 (He.fAd K ("check_most", none)) fd ["value"] (sp_check_most K) := by
  refine F.ok sc_check_most (fun vs H Q E h => ?_) (fun cdv A outer s H vs Q E hr h => ?_)
  · obtain ⟨v, rfl, _⟩ := h
    rfl
  · obtain ⟨v, rfl, hv, q⟩ := h
    refine ⟨_, PSs.nox (pss_one (ps_if (PW.pt (pw_or (pt_not (pt_val (pc (c_is_integer T) hr (by decide) pass0 (pa_cons (pv 0) pa_nil)))) (pw_or1 (PW.pt (pw_and (pt_cmpR op_ne (pv 0) pe_int (nomark _)) (pw_and1 (pt_cmpR op_lt (pv 0) (g_LEAST_LIMIT T) (nomark _)))))))) (pss_one ps_never) pss_nil)), ?_⟩
    rw [show L2.start ["value"] [.int v] = [some (.int v)] from rfl]
    simp only [tM0, tM1, rCat, tMake, tMeth, tDGet, sDPut, tSeq, tAsg, gName, tDrop, tRet, tRetN, tIfS, tNext, tTest, tB, tAnd, tOr, tNot, tAndV, tOrV, tNotV, tNever, tOp, tUn, rI0, rI, rU, tVar, tC, tCons, tNil, tBM, tBM0, tCB, tCall, tFld, sFld, tTup, tLst, gSub, gTup, gCons, gNil, tPar, tSl, tPart, tNoPart, rAppend, rClear, rSetL, rIxL, rIxT, rSlL, rEq, rNe, sl0, sl1, sl2, sl3, sl4, sl5, sl6, sl7, sl8, sl9, sl10, sl11, sl12, sl13, st0, st1, st2, st3, st4, st5, st6, st7, st8, st9, st10, st11, st12, st13, Option.some.injEq, V.int.injEq, V.bl.injEq, V.ref.injEq, V.str.injEq, List.cons.injEq, HO.ins.injEq, HO.lst.injEq, HO.tup.injEq, HO.dK.injEq, exists_eq_left', exists_eq_left, exists_eq_right, exists_and_left, exists_and_right, exists_const, and_assoc, true_and, and_true, decide_eq_true_eq, Int.toNat_natCast, mfl_width, mfl_base, mfl_rows, mfl_counts, mfl_entered, bfl_width, bfl_side, bfl_row, cx_K, upd_same, List.append_nil, List.cons_append, List.nil_append, List.length_cons, List.length_nil, tChain, Bool.not_true, Bool.not_false, if_true, if_false, tYes, scal_ii, scal_ss, scal_bb, ite_t, ite_f, dec_ii, dec_ss]
    refine ⟨_, true, rfl, intTy, ?_⟩
    simp only [tM0, tM1, rCat, tMake, tMeth, tDGet, sDPut, tSeq, tAsg, gName, tDrop, tRet, tRetN, tIfS, tNext, tTest, tB, tAnd, tOr, tNot, tAndV, tOrV, tNotV, tNever, tOp, tUn, rI0, rI, rU, tVar, tC, tCons, tNil, tBM, tBM0, tCB, tCall, tFld, sFld, tTup, tLst, gSub, gTup, gCons, gNil, tPar, tSl, tPart, tNoPart, rAppend, rClear, rSetL, rIxL, rIxT, rSlL, rEq, rNe, sl0, sl1, sl2, sl3, sl4, sl5, sl6, sl7, sl8, sl9, sl10, sl11, sl12, sl13, st0, st1, st2, st3, st4, st5, st6, st7, st8, st9, st10, st11, st12, st13, Option.some.injEq, V.int.injEq, V.bl.injEq, V.ref.injEq, V.str.injEq, List.cons.injEq, HO.ins.injEq, HO.lst.injEq, HO.tup.injEq, HO.dK.injEq, exists_eq_left', exists_eq_left, exists_eq_right, exists_and_left, exists_and_right, exists_const, and_assoc, true_and, and_true, decide_eq_true_eq, Int.toNat_natCast, mfl_width, mfl_base, mfl_rows, mfl_counts, mfl_entered, bfl_width, bfl_side, bfl_row, cx_K, upd_same, List.append_nil, List.cons_append, List.nil_append, List.length_cons, List.length_nil, tChain, Bool.not_true, Bool.not_false, if_true, if_false, tYes, scal_ii, scal_ss, scal_bb, ite_t, ite_f, dec_ii, dec_ss]
    split
    · next h =>
      have h2 : ¬ v = 0 := by simpa using h
      rw [if_neg (by omega)]; exact q
    · exact q
theorem c_check_most (T : Tx K mg) : Cal P w K mg base CX0 "check_most" 2 ["value"] [] (sp_check_most K) := by
  obtain ⟨fd, F⟩ := f_check_most T
  exact ⟨_, fd, [], G_check_most T, F.kp, o_check_most T F, B_check_most F, .nil⟩
/-! ### group -/
theorem sc_group : FnScope ["machine", "base", "size", "power"] ["machine", "base"] (defScope s_group) := ⟨rfl, rfl, rfl, by decide +kernel, rfl, by decide +kernel, by decide +kernel⟩
def sp_group (K : PySem.W.Frag) : Sp := fun vs H Q E => ∃ (p d e : Addr) (S : Ms) (b : Nat), vs = [.ref p, .int (b : Int)] ∧ (MAt K H p d e S) ∧ (S.w ≤ 30) ∧ (2 ≤ b) ∧ (b ≤ 2 ^ S.w) ∧ (∀ a H', But [] H H' → H a = none → H' a = some (.tup [.int (gsz b (2 ^ S.w) : Nat), .int (b ^ gsz b (2 ^ S.w) : Nat)]) → Q (.ref a) H')
theorem o_group (T : Tx K mg) {fd : FuncData} (F : FunD K "group" "group" (defArgs s_group) (defBody s_group) (defScope s_group) [] [] (He.fAd K ("group", none)) fd) : FnOk P w K mg base CX0 1 (He.fAd K ("group", none)) fd ["machine", "base"] (sp_group K) := by
  refine F.ok sc_group (fun vs H Q E h => ?_) (fun cdv A outer s H vs Q E hr h => ?_)
  · obtain ⟨p, d, e, S, b, rfl, _⟩ := h
    rfl
  · obtain ⟨p, d, e, S, b, rfl, hM, hw, hb, hbw, q⟩ := h
    refine ⟨_, PSs.nox (pss_cons (ps_par (i := 2) (j := 3) (by rfl) sc_group.nd rfl rfl (by decide) rfl rfl (pa_cons pe_int (pa_cons (pv 1) pa_nil)) (by rfl))
      (Evl.pss_cut (ps_while PassesOwn.never (pt_cmpR op_le (pe_op op_mul (pv 3) (pv 1)) (pe_fld (pv 0) rfl) (nomark _)) (pss_one (ps_par (i := 2) (j := 3) (by rfl) sc_group.nd rfl rfl (by decide) rfl rfl (pa_cons (pe_op op_add (pv 2) pe_int) (pa_cons (pe_op op_mul (pv 3) (pv 1)) pa_nil)) (by rfl))))
      (pss_one (ps_ret (pe_tup (pa_cons (pv 2) (pa_cons (pv 3) pa_nil))))))), ?_⟩
    rw [show L2.start ["machine", "base", "size", "power"] [.ref p, .int (b : Int)] = [some (.ref p), some (.int (b : Int)), none, none] from rfl]
    obtain ⟨⟨dx, hi⟩, hc, hen⟩ := id hM
    have hM30 : 2 ^ S.w ≤ 2 ^ 30 := Nat.pow_le_pow_right (by decide) hw
    simp only [tM0, tM1, rCat, tMake, tMeth, tDGet, sDPut, tSeq, tAsg, gName, tDrop, tRet, tRetN, tIfS, tNext, tTest, tB, tAnd, tOr, tNot, tAndV, tOrV, tNotV, tNever, tOp, tUn, rI0, rI, rU, tVar, tC, tCons, tNil, tBM, tBM0, tCB, tCall, tFld, sFld, tTup, tLst, gSub, gTup, gCons, gNil, tPar, tSl, tPart, tNoPart, rAppend, rClear, rSetL, rIxL, rIxT, rSlL, rEq, rNe, sl0, sl1, sl2, sl3, sl4, sl5, sl6, sl7, sl8, sl9, sl10, sl11, sl12, sl13, st0, st1, st2, st3, st4, st5, st6, st7, st8, st9, st10, st11, st12, st13, Option.some.injEq, V.int.injEq, V.bl.injEq, V.ref.injEq, V.str.injEq, List.cons.injEq, HO.ins.injEq, HO.lst.injEq, HO.tup.injEq, HO.dK.injEq, exists_eq_left', exists_eq_left, exists_eq_right, exists_and_left, exists_and_right, exists_const, and_assoc, true_and, and_true, decide_eq_true_eq, Int.toNat_natCast, mfl_width, mfl_base, mfl_rows, mfl_counts, mfl_entered, bfl_width, bfl_side, bfl_row, cx_K, upd_same, List.append_nil, List.cons_append, List.nil_append, List.length_cons, List.length_nil, tChain, Bool.not_true, Bool.not_false, if_true, if_false, tYes, scal_ii, scal_ss, scal_bb, ite_t, ite_f, dec_ii, dec_ss]
    refine wcut (fun σ' H' => ∃ s : Nat, b ^ s ≤ 2 ^ S.w ∧ 2 ^ S.w < b ^ (s + 1) ∧ σ' = [some (.ref p), some (.int (b : Int)), some (.int (s : Int)), some (.int (b ^ s : Nat))] ∧ H' = H)
      (fun m σ H' => ∃ s : Nat, 1 ≤ s ∧ b ^ s ≤ 2 ^ S.w ∧ m = 2 ^ S.w - b ^ s ∧ σ = [some (.ref p), some (.int (b : Int)), some (.int (s : Int)), some (.int (b ^ s : Nat))] ∧ H' = H)
      (2 ^ S.w - b ^ 1) ⟨1, Nat.le_refl _, by rwa [Nat.pow_one], rfl, by rw [Nat.pow_one]; rfl, rfl⟩ ?_ ?_
    · rintro Vn M hV hM m σ H1 ⟨s, hs, hbs, rfl, rfl, rfl⟩
      simp only [hi, K_Machine T, A_Machine_base T, tM0, tM1, rCat, tMake, tMeth, tDGet, sDPut, tSeq, tAsg, gName, tDrop, tRet, tRetN, tIfS, tNext, tTest, tB, tAnd, tOr, tNot, tAndV, tOrV, tNotV, tNever, tOp, tUn, rI0, rI, rU, tVar, tC, tCons, tNil, tBM, tBM0, tCB, tCall, tFld, sFld, tTup, tLst, gSub, gTup, gCons, gNil, tPar, tSl, tPart, tNoPart, rAppend, rClear, rSetL, rIxL, rIxT, rSlL, rEq, rNe, sl0, sl1, sl2, sl3, sl4, sl5, sl6, sl7, sl8, sl9, sl10, sl11, sl12, sl13, st0, st1, st2, st3, st4, st5, st6, st7, st8, st9, st10, st11, st12, st13, Option.some.injEq, V.int.injEq, V.bl.injEq, V.ref.injEq, V.str.injEq, List.cons.injEq, HO.ins.injEq, HO.lst.injEq, HO.tup.injEq, HO.dK.injEq, exists_eq_left', exists_eq_left, exists_eq_right, exists_and_left, exists_and_right, exists_const, and_assoc, true_and, and_true, decide_eq_true_eq, Int.toNat_natCast, mfl_width, mfl_base, mfl_rows, mfl_counts, mfl_entered, bfl_width, bfl_side, bfl_row, cx_K, upd_same, List.append_nil, List.cons_append, List.nil_append, List.length_cons, List.length_nil, tChain, Bool.not_true, Bool.not_false, if_true, if_false, tYes, scal_ii, scal_ss, scal_bb, ite_t, ite_f, dec_ii, dec_ss]
      have e1 : ((b ^ s : Nat) : Int) * (b : Int) = ((b ^ (s + 1) : Nat) : Int) := by rw [Nat.pow_succ]; push_cast; rfl
      have e2 : (2 : Int) ^ S.w = ((2 ^ S.w : Nat) : Int) := by norm_cast
      have hcm : CMul ((b ^ s : Nat) : Int) (b : Int) := by
        generalize b ^ s = y at *
        right; constructor <;> omega
      refine ⟨hcm, ?_⟩
      rw [e1, e2]
      refine ite2 (fun hm => ⟨_, fun σ' H' z => z, hcm, ?_⟩) (fun hm => hM _ _ ⟨s, hbs, by exact_mod_cast Int.not_le.mp hm, rfl, rfl⟩)
      have hm' : b ^ (s + 1) ≤ 2 ^ S.w := by exact_mod_cast hm
      have hlt : b ^ s < b ^ (s + 1) := Nat.pow_lt_pow_right (by omega) (Nat.lt_succ_self s)
      exact ⟨2 ^ S.w - b ^ (s + 1), by omega, hV _ _ _ ⟨s + 1, by omega, hm', rfl, rfl, rfl⟩⟩
    · rintro σ' H' ⟨s, h1, h2, rfl, rfl⟩
      simp only [tM0, tM1, rCat, tMake, tMeth, tDGet, sDPut, tSeq, tAsg, gName, tDrop, tRet, tRetN, tIfS, tNext, tTest, tB, tAnd, tOr, tNot, tAndV, tOrV, tNotV, tNever, tOp, tUn, rI0, rI, rU, tVar, tC, tCons, tNil, tBM, tBM0, tCB, tCall, tFld, sFld, tTup, tLst, gSub, gTup, gCons, gNil, tPar, tSl, tPart, tNoPart, rAppend, rClear, rSetL, rIxL, rIxT, rSlL, rEq, rNe, sl0, sl1, sl2, sl3, sl4, sl5, sl6, sl7, sl8, sl9, sl10, sl11, sl12, sl13, st0, st1, st2, st3, st4, st5, st6, st7, st8, st9, st10, st11, st12, st13, Option.some.injEq, V.int.injEq, V.bl.injEq, V.ref.injEq, V.str.injEq, List.cons.injEq, HO.ins.injEq, HO.lst.injEq, HO.tup.injEq, HO.dK.injEq, exists_eq_left', exists_eq_left, exists_eq_right, exists_and_left, exists_and_right, exists_const, and_assoc, true_and, and_true, decide_eq_true_eq, Int.toNat_natCast, mfl_width, mfl_base, mfl_rows, mfl_counts, mfl_entered, bfl_width, bfl_side, bfl_row, cx_K, upd_same, List.append_nil, List.cons_append, List.nil_append, List.length_cons, List.length_nil, tChain, Bool.not_true, Bool.not_false, if_true, if_false, tYes, scal_ii, scal_ss, scal_bb, ite_t, ite_f, dec_ii, dec_ss]
      refine ⟨by decide, fun a ha => q a _ (But.new0 ha) ha ?_⟩
      rw [gsz_spec hb h1 h2, upd_same]
theorem c_group (T : Tx K mg) : Cal P w K mg base CX0 "group" 1 ["machine", "base"] [] (sp_group K) := by
  obtain ⟨fd, F⟩ := f_group T
  exact ⟨_, fd, [], G_group T, F.kp, o_group T F, B_group F, .nil⟩
/-! ### has_more -/
theorem sc_has_more : FnScope ["x", "most", "power", "turn"] ["x", "most"] (defScope s_has_more) := ⟨rfl, rfl, rfl, by decide +kernel, rfl, by decide +kernel, by decide +kernel⟩
def sp_has_more (K : PySem.W.Frag) : Sp := fun vs H Q E => ∃ (a : Addr) (wd : Nat) (n : Int) (m : Int), vs = [.ref a, .int m] ∧ (BigI K H a wd n) ∧ (Wok wd) ∧ (((Builtin.Int.intBits n : Nat) : Int) ≤ 3 * (m - 1)) ∧ (Q (.bl false) H)
theorem o_has_more (T : Tx K mg) {fd : FuncData} (F : FunD K "has_more" "has_more" (defArgs s_has_more) (defBody s_has_more) (defScope s_has_more) [] [] (He.fAd K ("has_more", none)) fd) : FnOk P w K mg base CX0 3 (He.fAd K ("has_more", none)) fd ["x", "most"] (sp_has_more K) := by
  refine F.ok sc_has_more (fun vs H Q E h => ?_) (fun cdv A outer s H vs Q E hr h => ?_)
  · obtain ⟨a, wd, n, m, rfl, _⟩ := h
    rfl
  · obtain ⟨a, wd, n, m, rfl, hx, hw, hs, q⟩ := h
    refine ⟨_, PSs.nox (pss_cons (ps_if (pt_cmpR op_le (pc (c_bit_length T) hr (by decide) pass0 (pa_cons (pv 0) pa_nil)) (pe_op op_mul pe_int (pe_op op_sub (pv 1) pe_int)) (nomark _)) (pss_one (ps_ret pe_bl)) pss_nil)
      (pss_cons (ps_set (i := 2) sc_has_more.nd rfl (.inl rfl) pe_int)
      (Evl.pss_cut (ps_for PassesOwn.never rfl (pi_range1 (by rfl) (b_range T) (pa_cons (pv 1) pa_nil)) (pg_name (i := 3) sc_has_more.nd rfl (.inl rfl)) (pss_one (ps_set (i := 2) sc_has_more.nd rfl (.inl rfl) (pe_op op_mul pe_int (pv 2)))))
      (pss_one (ps_ret (pe_cmpR op_ge (pe_callB call_abs (by rfl) (b_abs T) (by decide +kernel) (pa_cons (pc (c_value_of T) hr (by decide) pass0 (pa_cons (pv 0) pa_nil)) pa_nil)) (pv 2) (nomark _))))))), ?_⟩
    rw [show L2.start ["x", "most", "power", "turn"] [.ref a, .int m] = [some (.ref a), some (.int m), none, none] from rfl]
    simp only [tM0, tM1, rCat, tMake, tMeth, tDGet, sDPut, tSeq, tAsg, gName, tDrop, tRet, tRetN, tIfS, tNext, tTest, tB, tAnd, tOr, tNot, tAndV, tOrV, tNotV, tNever, tOp, tUn, rI0, rI, rU, tVar, tC, tCons, tNil, tBM, tBM0, tCB, tCall, tFld, sFld, tTup, tLst, gSub, gTup, gCons, gNil, tPar, tSl, tPart, tNoPart, rAppend, rClear, rSetL, rIxL, rIxT, rSlL, rEq, rNe, sl0, sl1, sl2, sl3, sl4, sl5, sl6, sl7, sl8, sl9, sl10, sl11, sl12, sl13, st0, st1, st2, st3, st4, st5, st6, st7, st8, st9, st10, st11, st12, st13, Option.some.injEq, V.int.injEq, V.bl.injEq, V.ref.injEq, V.str.injEq, List.cons.injEq, HO.ins.injEq, HO.lst.injEq, HO.tup.injEq, HO.dK.injEq, exists_eq_left', exists_eq_left, exists_eq_right, exists_and_left, exists_and_right, exists_const, and_assoc, true_and, and_true, decide_eq_true_eq, Int.toNat_natCast, mfl_width, mfl_base, mfl_rows, mfl_counts, mfl_entered, bfl_width, bfl_side, bfl_row, cx_K, upd_same, List.append_nil, List.cons_append, List.nil_append, List.length_cons, List.length_nil, tChain, Bool.not_true, Bool.not_false, if_true, if_false, tYes, scal_ii, scal_ss, scal_bb, ite_t, ite_f, dec_ii, dec_ss]
    refine ⟨a, wd, n, rfl, hx, hw, .inl ⟨by decide, by decide⟩, _, rfl, ?_⟩
    rw [if_pos hs]; exact q
theorem c_has_more (T : Tx K mg) : Cal P w K mg base CX0 "has_more" 3 ["x", "most"] [] (sp_has_more K) := by
  obtain ⟨fd, F⟩ := f_has_more T
  exact ⟨_, fd, [], G_has_more T, F.kp, o_has_more T F, B_has_more F, .nil⟩
/-! ### decimal_figures -/
theorem sc_decimal_figures : FnScope ["machine", "row", "size", "power", "items", "steps", "digit", "carry", "place", "texts", "item", "one"] ["machine", "row"] (defScope s_decimal_figures) := ⟨rfl, rfl, rfl, by decide +kernel, rfl, by decide +kernel, by decide +kernel⟩
def sp_decimal_figures (K : PySem.W.Frag) : Sp := fun vs H Q E => ∃ (p d e r : Addr) (S : Ms) (n : Nat), vs = [.ref p, .ref r] ∧ (MAt K H p d e S) ∧ (H r = some (.tup ((dgs S.w n).map .int))) ∧ (4 ≤ S.w ∧ S.w ≤ 30) ∧ (0 < n ∧ n < 2 ^ lim) ∧ (∀ H', But [d, e] H H' → MAt K H' p d e (S.count "quotient" (stp S.w (10 ^ gsz 10 (2 ^ S.w)) n (dgs S.w n).length (dgs S.w n).length : Nat)) → Q (.str (Tb.S (digT 10 n))) H')
theorem o_decimal_figures (T : Tx K mg) {fd : FuncData} (F : FunD K "decimal_figures" "decimal_figures" (defArgs s_decimal_figures) (defBody s_decimal_figures) (defScope s_decimal_figures) [] [] (He.fAd K ("decimal_figures", none)) fd) : FnOk P w K mg base CX0 2 (He.fAd K ("decimal_figures", none)) fd ["machine", "row"] (sp_decimal_figures K) := by
  refine F.ok sc_decimal_figures (fun vs H Q E h => ?_) (fun cdv A outer s H vs Q E hr h => ?_)
  · obtain ⟨p, d, e, r, S, n, rfl, _⟩ := h
    rfl
  · obtain ⟨p, d, e, r, S, n, rfl, hM, hr2, hw, hn, q⟩ := h
    refine ⟨_, PSs.nox (pss_cons (ps_asg (pc (c_group T) hr (by decide) pass0 (pa_cons (pv 0) (pa_cons pe_int pa_nil))) (pg_tup rfl (pgs_cons (pg_name (i := 2) sc_decimal_figures.nd rfl (.inr rfl)) (pgs_cons (pg_name (i := 3) sc_decimal_figures.nd rfl (.inl rfl)) pgs_nil))))
      (pss_cons (ps_par (i := 4) (j := 5) (by rfl) sc_decimal_figures.nd rfl rfl (by decide) rfl rfl (pa_cons (pe_lst pa_nil) (pa_cons pe_int pa_nil)) (by rfl))
      (Evl.pss_cut (ps_for PassesOwn.never rfl (pi_tup (pe_revT (pv 1))) (pg_name (i := 6) sc_decimal_figures.nd rfl (.inl rfl)) (pss_cons (ps_set (i := 7) sc_decimal_figures.nd rfl (.inl rfl) (pv 6))
      (Evl.pss_cut (ps_for PassesOwn.never rfl (pi_range1 (by rfl) (b_range T) (pa_cons (pe_callB call_len_seq (by rfl) (b_len T) PySem.boot_len (pa_cons (pv 4) pa_nil)) pa_nil)) (pg_name (i := 8) sc_decimal_figures.nd rfl (.inl rfl)) (pss_cons (ps_set (i := 7) sc_decimal_figures.nd rfl (.inl rfl) (pe_op op_add (pe_op op_shlW (pe_ix ix_list (pv 4) (pv 8) (fun _ _ => rfl)) (pe_fld (pv 0) rfl)) (pv 7)))
      (pss_cons (ps_asg (pe_op op_mod (pv 7) (pv 3)) (pg_sub (pv 4) (pv 8) set_list))
      (pss_one (ps_set (i := 7) sc_decimal_figures.nd rfl (.inl rfl) (pe_op op_fdivW (pv 7) (pv 3)))))))
      (pss_cons (ps_set (i := 5) sc_decimal_figures.nd rfl (.inl rfl) (pe_op op_add (pv 5) (pe_callB call_len_seq (by rfl) (b_len T) PySem.boot_len (pa_cons (pv 4) pa_nil))))
      (pss_one (ps_while PassesOwn.never (pt_cmpR op_gt (pv 7) pe_int (nomark _)) (pss_cons (ps_expr (pe_bm PySem.F.plainAttrs_list PySem.F.slot_list_append PySem.F.type_list_append mt_append (pv 4) (pa_cons (pe_op op_mod (pv 7) (pv 3)) pa_nil)))
      (pss_one (ps_par (i := 7) (j := 5) (by rfl) sc_decimal_figures.nd rfl rfl (by decide) rfl rfl (pa_cons (pe_op op_fdivW (pv 7) (pv 3)) (pa_cons (pe_op op_add (pv 5) pe_int) pa_nil)) (by rfl))))))))))
      (pss_cons (ps_expr (pm (c_Machine_count T) hr (by decide) pass0 (pv 0) (pa_cons pe_str (pa_cons (pv 5) pa_nil))))
      (pss_cons (ps_setLc (i := 9) (own := [("item", 10)]) (g := (gName 10)) rfl sc_decimal_figures.nd rfl rfl (sw_true rfl rfl rfl (by decide +kernel)) (pi_list (pv 4)) (blkOk_by (own := [("item", 10)]) (N := ["machine", "row", "size", "power", "items", "steps", "digit", "carry", "place", "texts", "item", "one"]) (sc := defScope s_decimal_figures) (by decide +kernel)) (fun _ _ _ _ _ => (pg_name (i := 10) sc_decimal_figures.nd rfl (.inl rfl))) (fun _ _ _ _ _ => pts_nil) (fun _ _ _ _ _ => by exact (pe_callTy call_str_int (by rfl) (b_str T) (by decide +kernel) (pa_cons (pv 10) pa_nil))))
      (pss_one (ps_ret (pe_join pe_str (pe_op op_cat (pe_slice sl_list (pv 9) (po_some (pe_un un_neg pe_int)) po_none) (pe_lc (own := [("one", 11)]) (g := (gName 11)) rfl sc_decimal_figures.nd (pi_list (pe_back2 (pv 9))) (blkOk_by (own := [("one", 11)]) (N := ["machine", "row", "size", "power", "items", "steps", "digit", "carry", "place", "texts", "item", "one"]) (sc := defScope s_decimal_figures) (by decide +kernel)) (fun _ _ _ _ _ => (pg_name (i := 11) sc_decimal_figures.nd rfl (.inl rfl))) (fun _ _ _ _ _ => pts_nil) (fun _ _ _ _ _ => by exact (pe_op op_add_str (pe_op op_repS pe_str (pe_op op_sub (pv 2) (pe_callB call_len_str (by rfl) (b_len T) PySem.boot_len (pa_cons (pv 11) pa_nil)))) (pv 11))))))))))))), ?_⟩
    rw [show L2.start ["machine", "row", "size", "power", "items", "steps", "digit", "carry", "place", "texts", "item", "one"] [.ref p, .ref r] = [some (.ref p), some (.ref r), none, none, none, none, none, none, none, none, none, none] from rfl]
    have h10 : 10 ≤ 2 ^ S.w := Nat.le_trans (by decide) (Nat.pow_le_pow_right (by decide) hw.1)
    simp only [tM0, tM1, rCat, tMake, tMeth, tDGet, sDPut, tSeq, tAsg, gName, tDrop, tRet, tRetN, tIfS, tNext, tTest, tB, tAnd, tOr, tNot, tAndV, tOrV, tNotV, tNever, tOp, tUn, rI0, rI, rU, tVar, tC, tCons, tNil, tBM, tBM0, tCB, tCall, tFld, sFld, tTup, tLst, gSub, gTup, gCons, gNil, tPar, tSl, tPart, tNoPart, rAppend, rClear, rSetL, rIxL, rIxT, rSlL, rEq, rNe, sl0, sl1, sl2, sl3, sl4, sl5, sl6, sl7, sl8, sl9, sl10, sl11, sl12, sl13, st0, st1, st2, st3, st4, st5, st6, st7, st8, st9, st10, st11, st12, st13, Option.some.injEq, V.int.injEq, V.bl.injEq, V.ref.injEq, V.str.injEq, List.cons.injEq, HO.ins.injEq, HO.lst.injEq, HO.tup.injEq, HO.dK.injEq, exists_eq_left', exists_eq_left, exists_eq_right, exists_and_left, exists_and_right, exists_const, and_assoc, true_and, and_true, decide_eq_true_eq, Int.toNat_natCast, mfl_width, mfl_base, mfl_rows, mfl_counts, mfl_entered, bfl_width, bfl_side, bfl_row, cx_K, upd_same, List.append_nil, List.cons_append, List.nil_append, List.length_cons, List.length_nil, tChain, Bool.not_true, Bool.not_false, if_true, if_false, tYes, scal_ii, scal_ss, scal_bb, ite_t, ite_f, dec_ii, dec_ss]
    refine ⟨p, d, e, S, 10, rfl, hM, hw.2, by decide, h10, fun a H1 b1 ha hat => ⟨a, rfl, _, SqT.of hat, rfl, _, _, rfl, _, _, rfl, rfl, Nat.zero_le _, fun l hl => ?_⟩⟩
    obtain ⟨ht1, ht2, ht3⟩ := gsz_ge (by decide) h10
    generalize hT : gsz 10 (2 ^ S.w) = t at *
    have hP : 2 ≤ 10 ^ t := by
      obtain ⟨u, rfl⟩ : ∃ u, t = u + 1 := ⟨t - 1, by omega⟩
      have := Nat.pow_pos (n := u) (show 0 < 10 by decide)
      rw [Nat.pow_succ]; omega
    have hP30 : 10 ^ t ≤ 2 ^ 30 := Nat.le_trans ht2 (Nat.pow_le_pow_right (by decide) hw.2)
    generalize hPe : 10 ^ t = P' at *
    generalize hk : (dgs S.w n).length = k at *
    have hlog : ((P' : Nat) : Int).natAbs.log2 < 9000 := by
      rw [Int.natAbs_natCast]
      have := (Nat.log2_lt (n := P') (k := 31) (by omega)).mpr (by omega)
      omega
    have hlr : l ≠ r := (ne_of_none (b1 _ _ hr2 (by simp)) hl).symm
    have hlen : ∀ u, u ≤ n → (ldig P' u).length ≤ lim := fun u hu => ldig_len_le hP (Nat.lt_of_le_of_lt hu (Nat.lt_of_lt_of_le hn.2 (Nat.pow_le_pow_left hP lim)))
    refine fcutT (xs := ((dgs S.w n).reverse).map .int) (fun σ' H' => But [] H1 H' ∧ H' l = some (.lst ((ldig P' n).map fun d => V.int (d : Nat))) ∧ ∃ y6 y7 y8, σ' = [some (.ref p), some (.ref r), some (.int (t : Nat)), some (.int (P' : Nat)), some (.ref l), some (.int (stp S.w P' n k k : Nat)), y6, y7, y8, none, none, none])
      (fun b H' => But [] H1 H' ∧ H' l = some (.lst []) ∧ H' b = some (.tup (((dgs S.w n).map V.int).reverse)))
      (fun b i σ' H' => But [] H1 H' ∧ H' b = some (.tup (((dgs S.w n).map V.int).reverse)) ∧ H' l = some (.lst ((ldig P' (n / 2 ^ (S.w * (k - i)))).map fun d => V.int (d : Nat))) ∧ ∃ y6 y7 y8, σ' = [some (.ref p), some (.ref r), some (.int (t : Nat)), some (.int (P' : Nat)), some (.ref l), some (.int (stp S.w P' n k i : Nat)), y6, y7, y8, none, none, none])
      ?_ ?_ ?_ ?_ ?_ ?_
    · intro Q q
      simp only [tRevT, tM0, tM1, rCat, tMake, tMeth, tDGet, sDPut, tSeq, tAsg, gName, tDrop, tRet, tRetN, tIfS, tNext, tTest, tB, tAnd, tOr, tNot, tAndV, tOrV, tNotV, tNever, tOp, tUn, rI0, rI, rU, tVar, tC, tCons, tNil, tBM, tBM0, tCB, tCall, tFld, sFld, tTup, tLst, gSub, gTup, gCons, gNil, tPar, tSl, tPart, tNoPart, rAppend, rClear, rSetL, rIxL, rIxT, rSlL, rEq, rNe, sl0, sl1, sl2, sl3, sl4, sl5, sl6, sl7, sl8, sl9, sl10, sl11, sl12, sl13, st0, st1, st2, st3, st4, st5, st6, st7, st8, st9, st10, st11, st12, st13, Option.some.injEq, V.int.injEq, V.bl.injEq, V.ref.injEq, V.str.injEq, List.cons.injEq, HO.ins.injEq, HO.lst.injEq, HO.tup.injEq, HO.dK.injEq, exists_eq_left', exists_eq_left, exists_eq_right, exists_and_left, exists_and_right, exists_const, and_assoc, true_and, and_true, decide_eq_true_eq, Int.toNat_natCast, mfl_width, mfl_base, mfl_rows, mfl_counts, mfl_entered, bfl_width, bfl_side, bfl_row, cx_K, upd_same, List.append_nil, List.cons_append, List.nil_append, List.length_cons, List.length_nil, tChain, Bool.not_true, Bool.not_false, if_true, if_false, tYes, scal_ii, scal_ss, scal_bb, ite_t, ite_f, dec_ii, dec_ss]
      refine ⟨_, SqT.of (by rw [upd_ne hlr.symm]; exact b1 _ _ hr2 (by simp)), fun b hb => q b _ ⟨(But.new0 hl).new hb, ?_, upd_same⟩⟩
      rw [upd_ne (fun z : l = b => by rw [← z, upd_same] at hb; cases hb), upd_same]
    · rintro b H2 ⟨hb, hll, hbb⟩
      refine ⟨hb, hbb, ?_, none, none, none, rfl⟩
      rw [Nat.sub_zero, Nat.div_eq_of_lt (by rw [← hk]; exact dgs_len_lt (by omega)), ldig_zero hP]; exact hll
    · rintro b i σ' H' _ ⟨hb, hbb, _⟩
      rw [List.map_reverse]; exact SqT.of hbb
    · rintro Vn M b hV hM' i x σ' H2 hx' ⟨hb, hbb, hll, y6, y7, y8, rfl⟩
      obtain ⟨d0, hd, rfl⟩ : ∃ d, (dgs S.w n).reverse[i]? = some d ∧ V.int d = x := by
        rw [List.getElem?_map] at hx'
        cases e : (dgs S.w n).reverse[i]? with
        | none => rw [e] at hx'; cases hx'
        | some z => rw [e] at hx'; exact ⟨z, rfl, Option.some.inj hx'⟩
      have hik : i < k := by
        have := (List.getElem?_eq_some_iff.mp hd).1
        rw [List.length_reverse, hk] at this; exact this
      rw [List.getElem?_reverse (by rw [hk]; exact hik), hk, dgs_get (by omega) (by rw [hk]; omega)] at hd
      obtain rfl := (Option.some.inj hd).symm
      have hv := top_step (n := n) (w := S.w) hik
      have hvn : n / 2 ^ (S.w * (k - (i + 1))) ≤ n := Nat.div_le_self _ _
      have hV' := hV (i + 1)
      simp only [stp] at hV'
      generalize hdg : n / 2 ^ (S.w * (k - 1 - i)) % 2 ^ S.w = dg at *
      have hdgl : dg < 2 ^ S.w := by rw [← hdg]; exact Nat.mod_lt _ (two_posN _)
      generalize n / 2 ^ (S.w * (k - (i + 1))) = v' at *
      generalize n / 2 ^ (S.w * (k - i)) = v at *
      have hvv : v ≤ v' := by
        have := Nat.le_mul_of_pos_left v (two_posN S.w)
        omega
      have hL := hlen v (by omega)
      have hL' := hlen v' hvn
      have hll2 := lim_le
      have hbl : ∀ {xs : List V} {G : Hp}, G l = some (.lst xs) → G b = some (.tup (((dgs S.w n).map V.int).reverse)) → b ≠ l := fun h1 h2 => ne_of h2 h1 (by intro z; cases z)
      have hi := hM.ex b1
      obtain ⟨⟨dx, hmi⟩, _⟩ := id hi
      simp only [tM0, tM1, rCat, tMake, tMeth, tDGet, sDPut, tSeq, tAsg, gName, tDrop, tRet, tRetN, tIfS, tNext, tTest, tB, tAnd, tOr, tNot, tAndV, tOrV, tNotV, tNever, tOp, tUn, rI0, rI, rU, tVar, tC, tCons, tNil, tBM, tBM0, tCB, tCall, tFld, sFld, tTup, tLst, gSub, gTup, gCons, gNil, tPar, tSl, tPart, tNoPart, rAppend, rClear, rSetL, rIxL, rIxT, rSlL, rEq, rNe, sl0, sl1, sl2, sl3, sl4, sl5, sl6, sl7, sl8, sl9, sl10, sl11, sl12, sl13, st0, st1, st2, st3, st4, st5, st6, st7, st8, st9, st10, st11, st12, st13, Option.some.injEq, V.int.injEq, V.bl.injEq, V.ref.injEq, V.str.injEq, List.cons.injEq, HO.ins.injEq, HO.lst.injEq, HO.tup.injEq, HO.dK.injEq, exists_eq_left', exists_eq_left, exists_eq_right, exists_and_left, exists_and_right, exists_const, and_assoc, true_and, and_true, decide_eq_true_eq, Int.toNat_natCast, mfl_width, mfl_base, mfl_rows, mfl_counts, mfl_entered, bfl_width, bfl_side, bfl_row, cx_K, upd_same, List.append_nil, List.cons_append, List.nil_append, List.length_cons, List.length_nil, tChain, Bool.not_true, Bool.not_false, if_true, if_false, tYes, scal_ii, scal_ss, scal_bb, ite_t, ite_f, dec_ii, dec_ss]
      refine fcutR (fun σ' H' => But [] H1 H' ∧ H' b = some (.tup (((dgs S.w n).map V.int).reverse)) ∧ ∃ (done : List Nat) (c : Nat) (y8 : Option V), done.length = (ldig P' v).length ∧ (∀ x ∈ done, x < P') ∧ valN P' done + P' ^ done.length * c = v' ∧
          H' l = some (.lst (done.map fun d => V.int (d : Nat))) ∧ σ' = [some (.ref p), some (.ref r), some (.int (t : Nat)), some (.int (P' : Nat)), some (.ref l), some (.int (stp S.w P' n k i : Nat)), some (.int (dg : Nat)), some (.int (c : Nat)), y8, none, none, none])
        (n := ((ldig P' v).length : Nat)) (by omega)
        (fun j σ' H' => But [] H1 H' ∧ H' b = some (.tup (((dgs S.w n).map V.int).reverse)) ∧ ∃ (done : List Nat) (c : Nat) (y8 : Option V), done.length = j ∧ (∀ x ∈ done, x < P') ∧ valN P' done + P' ^ done.length * (c + 2 ^ S.w * valN P' ((ldig P' v).drop j)) = v' ∧
          H' l = some (.lst ((done ++ (ldig P' v).drop j).map fun d => V.int (d : Nat))) ∧ σ' = [some (.ref p), some (.ref r), some (.int (t : Nat)), some (.int (P' : Nat)), some (.ref l), some (.int (stp S.w P' n k i : Nat)), some (.int (dg : Nat)), some (.int (c : Nat)), y8, none, none, none])
        ?_ ?_ ?_ ?_ ?_
      · intro Q q
        simp only [tM0, tM1, rCat, tMake, tMeth, tDGet, sDPut, tSeq, tAsg, gName, tDrop, tRet, tRetN, tIfS, tNext, tTest, tB, tAnd, tOr, tNot, tAndV, tOrV, tNotV, tNever, tOp, tUn, rI0, rI, rU, tVar, tC, tCons, tNil, tBM, tBM0, tCB, tCall, tFld, sFld, tTup, tLst, gSub, gTup, gCons, gNil, tPar, tSl, tPart, tNoPart, rAppend, rClear, rSetL, rIxL, rIxT, rSlL, rEq, rNe, sl0, sl1, sl2, sl3, sl4, sl5, sl6, sl7, sl8, sl9, sl10, sl11, sl12, sl13, st0, st1, st2, st3, st4, st5, st6, st7, st8, st9, st10, st11, st12, st13, Option.some.injEq, V.int.injEq, V.bl.injEq, V.ref.injEq, V.str.injEq, List.cons.injEq, HO.ins.injEq, HO.lst.injEq, HO.tup.injEq, HO.dK.injEq, exists_eq_left', exists_eq_left, exists_eq_right, exists_and_left, exists_and_right, exists_const, and_assoc, true_and, and_true, decide_eq_true_eq, Int.toNat_natCast, mfl_width, mfl_base, mfl_rows, mfl_counts, mfl_entered, bfl_width, bfl_side, bfl_row, cx_K, upd_same, List.append_nil, List.cons_append, List.nil_append, List.length_cons, List.length_nil, tChain, Bool.not_true, Bool.not_false, if_true, if_false, tYes, scal_ii, scal_ss, scal_bb, ite_t, ite_f, dec_ii, dec_ss]
        exact ⟨_, .inl (SqL.of hll), by rw [List.length_map]; exact q⟩
      · refine ⟨hb, hbb, [], dg, y8, rfl, by simp, ?_, by simpa using hll, rfl⟩
        rw [List.drop_zero, valN_ldig hP, hv]; simp [valN]
      · rintro Vj M2 hVj hM2 j σ' H3 hj ⟨hb3, hbb3, done, c, y8, rfl, hdn, he, hl3, rfl⟩
        have hj' : done.length < (ldig P' v).length := by simpa using hj
        have hdr : (ldig P' v).drop done.length = (ldig P' v)[done.length] :: (ldig P' v).drop (done.length + 1) := List.drop_eq_getElem_cons hj'
        generalize (ldig P' v)[done.length] = x at hdr
        have hxP : x < P' := ldig_lt hP v x (List.mem_of_mem_drop (by rw [hdr]; exact List.mem_cons_self ..))
        rw [hdr] at he hl3
        have hst := carry_step hP he
        simp only [hb3 _ _ hmi (by simp), K_Machine T, A_Machine_width T, tM0, tM1, rCat, tMake, tMeth, tDGet, sDPut, tSeq, tAsg, gName, tDrop, tRet, tRetN, tIfS, tNext, tTest, tB, tAnd, tOr, tNot, tAndV, tOrV, tNotV, tNever, tOp, tUn, rI0, rI, rU, tVar, tC, tCons, tNil, tBM, tBM0, tCB, tCall, tFld, sFld, tTup, tLst, gSub, gTup, gCons, gNil, tPar, tSl, tPart, tNoPart, rAppend, rClear, rSetL, rIxL, rIxT, rSlL, rEq, rNe, sl0, sl1, sl2, sl3, sl4, sl5, sl6, sl7, sl8, sl9, sl10, sl11, sl12, sl13, st0, st1, st2, st3, st4, st5, st6, st7, st8, st9, st10, st11, st12, st13, Option.some.injEq, V.int.injEq, V.bl.injEq, V.ref.injEq, V.str.injEq, List.cons.injEq, HO.ins.injEq, HO.lst.injEq, HO.tup.injEq, HO.dK.injEq, exists_eq_left', exists_eq_left, exists_eq_right, exists_and_left, exists_and_right, exists_const, and_assoc, true_and, and_true, decide_eq_true_eq, Int.toNat_natCast, mfl_width, mfl_base, mfl_rows, mfl_counts, mfl_entered, bfl_width, bfl_side, bfl_row, cx_K, upd_same, List.append_nil, List.cons_append, List.nil_append, List.length_cons, List.length_nil, tChain, Bool.not_true, Bool.not_false, if_true, if_false, tYes, scal_ii, scal_ss, scal_bb, ite_t, ite_f, dec_ii, dec_ss]
        have e3 : ((x : Nat) : Int) * 2 ^ S.w + ((c : Nat) : Int) = ((x * 2 ^ S.w + c : Nat) : Int) := by push_cast; rfl
        refine ⟨_, SqL.of hl3, _, at_of (j := done.length) rfl (by simp; rfl), _, rfl, shl_ok (n := 31) (by omega) (by omega), by omega, _, hl3, done.length, Evl.ixN_nat (by simp), ⟨by omega, hlog⟩, ?_⟩
        rw [e3, ← Int.natCast_ediv, ← Int.natCast_emod]
        refine hVj _ _ _ ⟨hb3.mut hl, by rw [upd_ne (hbl hl3 hbb3)]; exact hbb3, _, _, _, by rw [List.length_append, List.length_singleton], ?_, hst, ?_, rfl⟩
        · intro z hz
          rcases List.mem_append.mp hz with hz | hz
          · exact hdn z hz
          · rw [List.mem_singleton.mp hz]; exact Nat.mod_lt _ (by omega)
        · rw [upd_same]; simp
      · rintro σ' H3 ⟨hb3, hbb3, done, c, y8, h1, hdn, he, hl3, rfl⟩
        rw [Int.toNat_natCast] at h1 he hl3
        rw [List.drop_length] at he hl3
        refine ⟨hb3, hbb3, done, c, y8, h1, hdn, ?_, by simpa using hl3, rfl⟩
        simpa [valN] using he
      · rintro σ' H3 ⟨hb3, hbb3, done, c, y8, h1, hdn, he, hl3, rfl⟩
        have hcd := carry_done hP hdn h1 he hvv
        simp only [tM0, tM1, rCat, tMake, tMeth, tDGet, sDPut, tSeq, tAsg, gName, tDrop, tRet, tRetN, tIfS, tNext, tTest, tB, tAnd, tOr, tNot, tAndV, tOrV, tNotV, tNever, tOp, tUn, rI0, rI, rU, tVar, tC, tCons, tNil, tBM, tBM0, tCB, tCall, tFld, sFld, tTup, tLst, gSub, gTup, gCons, gNil, tPar, tSl, tPart, tNoPart, rAppend, rClear, rSetL, rIxL, rIxT, rSlL, rEq, rNe, sl0, sl1, sl2, sl3, sl4, sl5, sl6, sl7, sl8, sl9, sl10, sl11, sl12, sl13, st0, st1, st2, st3, st4, st5, st6, st7, st8, st9, st10, st11, st12, st13, Option.some.injEq, V.int.injEq, V.bl.injEq, V.ref.injEq, V.str.injEq, List.cons.injEq, HO.ins.injEq, HO.lst.injEq, HO.tup.injEq, HO.dK.injEq, exists_eq_left', exists_eq_left, exists_eq_right, exists_and_left, exists_and_right, exists_const, and_assoc, true_and, and_true, decide_eq_true_eq, Int.toNat_natCast, mfl_width, mfl_base, mfl_rows, mfl_counts, mfl_entered, bfl_width, bfl_side, bfl_row, cx_K, upd_same, List.append_nil, List.cons_append, List.nil_append, List.length_cons, List.length_nil, tChain, Bool.not_true, Bool.not_false, if_true, if_false, tYes, scal_ii, scal_ss, scal_bb, ite_t, ite_f, dec_ii, dec_ss]
        refine ⟨_, .inl (SqL.of hl3), ?_⟩
        refine wloop (fun m σ H' => But [] H1 H' ∧ H' b = some (.tup (((dgs S.w n).map V.int).reverse)) ∧ ∃ its : List Nat, its ++ ldig P' m = ldig P' v' ∧ H' l = some (.lst (its.map fun d => V.int (d : Nat))) ∧
            σ = [some (.ref p), some (.ref r), some (.int (t : Nat)), some (.int (P' : Nat)), some (.ref l), some (.int ((stp S.w P' n k i + its.length : Nat) : Int)), some (.int (dg : Nat)), some (.int (m : Nat)), y8, none, none, none])
          c ⟨hb3, hbb3, done, hcd, hl3, by simp⟩ ?_
        rintro Vw hVw m σ' H4 ⟨hb4, hbb4, its, hits, hl4, rfl⟩
        have hil : its.length ≤ lim := by
          have := congrArg List.length hits
          rw [List.length_append] at this; omega
        simp only [hl4, tyl hl4, tM0, tM1, rCat, tMake, tMeth, tDGet, sDPut, tSeq, tAsg, gName, tDrop, tRet, tRetN, tIfS, tNext, tTest, tB, tAnd, tOr, tNot, tAndV, tOrV, tNotV, tNever, tOp, tUn, rI0, rI, rU, tVar, tC, tCons, tNil, tBM, tBM0, tCB, tCall, tFld, sFld, tTup, tLst, gSub, gTup, gCons, gNil, tPar, tSl, tPart, tNoPart, rAppend, rClear, rSetL, rIxL, rIxT, rSlL, rEq, rNe, sl0, sl1, sl2, sl3, sl4, sl5, sl6, sl7, sl8, sl9, sl10, sl11, sl12, sl13, st0, st1, st2, st3, st4, st5, st6, st7, st8, st9, st10, st11, st12, st13, Option.some.injEq, V.int.injEq, V.bl.injEq, V.ref.injEq, V.str.injEq, List.cons.injEq, HO.ins.injEq, HO.lst.injEq, HO.tup.injEq, HO.dK.injEq, exists_eq_left', exists_eq_left, exists_eq_right, exists_and_left, exists_and_right, exists_const, and_assoc, true_and, and_true, decide_eq_true_eq, Int.toNat_natCast, mfl_width, mfl_base, mfl_rows, mfl_counts, mfl_entered, bfl_width, bfl_side, bfl_row, cx_K, upd_same, List.append_nil, List.cons_append, List.nil_append, List.length_cons, List.length_nil, tChain, Bool.not_true, Bool.not_false, if_true, if_false, tYes, scal_ii, scal_ss, scal_bb, ite_t, ite_f, dec_ii, dec_ss]
        refine ite2 (fun hm => ⟨_, fun σ' H' z => z, ?_⟩) (fun hm => hV' _ _ ⟨hb4, hbb4, ?_, some (.int (dg : Nat)), some (.int (m : Nat)), y8, ?_⟩)
        · refine ⟨by omega, by rw [List.length_map]; exact lt_line hil, ⟨by omega, hlog⟩, m / P', Nat.div_lt_self (by omega) (by omega), ?_⟩
          rw [← Int.natCast_ediv, ← Int.natCast_emod]
          refine hVw _ _ _ ⟨hb4.mut hl, by rw [upd_ne (hbl hl4 hbb4)]; exact hbb4, its ++ [m % P'], ?_, by rw [upd_same]; simp, by simp [Int.add_assoc, Nat.add_assoc]⟩
          rw [← hits, ldig_step hP (show 0 < m by omega)]; simp
        · have hm0 : m = 0 := by omega
          rw [hm0, ldig_zero hP, List.append_nil] at hits
          rw [← hits]; exact hl4
        · have hm0 : m = 0 := by omega
          rw [hm0, ldig_zero hP, List.append_nil] at hits
          rw [hits]
    · rintro b σ' H' ⟨hb, hbb, hll, y6, y7, y8, rfl⟩
      rw [List.length_map, List.length_reverse, hk] at hll ⊢
      rw [Nat.sub_self, Nat.mul_zero, Nat.pow_zero, Nat.div_one] at hll
      exact ⟨hb, hll, y6, y7, y8, rfl⟩
    · rintro σ' H2 ⟨hb, hll, y6, y7, y8, rfl⟩
      obtain ⟨⟨dx, hmi⟩, hmd, refs, hme, _⟩ := id (hM.ex (b1.trans hb))
      have hld : l ≠ d := ne_of hll hmd (by intro z; cases z)
      have hle : l ≠ e := (ne_of_none ((hM.ex b1).ent.choose_spec.1) hl).symm
      simp only [tM0, tM1, rCat, tMake, tMeth, tDGet, sDPut, tSeq, tAsg, gName, tDrop, tRet, tRetN, tIfS, tNext, tTest, tB, tAnd, tOr, tNot, tAndV, tOrV, tNotV, tNever, tOp, tUn, rI0, rI, rU, tVar, tC, tCons, tNil, tBM, tBM0, tCB, tCall, tFld, sFld, tTup, tLst, gSub, gTup, gCons, gNil, tPar, tSl, tPart, tNoPart, rAppend, rClear, rSetL, rIxL, rIxT, rSlL, rEq, rNe, sl0, sl1, sl2, sl3, sl4, sl5, sl6, sl7, sl8, sl9, sl10, sl11, sl12, sl13, st0, st1, st2, st3, st4, st5, st6, st7, st8, st9, st10, st11, st12, st13, Option.some.injEq, V.int.injEq, V.bl.injEq, V.ref.injEq, V.str.injEq, List.cons.injEq, HO.ins.injEq, HO.lst.injEq, HO.tup.injEq, HO.dK.injEq, exists_eq_left', exists_eq_left, exists_eq_right, exists_and_left, exists_and_right, exists_const, and_assoc, true_and, and_true, decide_eq_true_eq, Int.toNat_natCast, mfl_width, mfl_base, mfl_rows, mfl_counts, mfl_entered, bfl_width, bfl_side, bfl_row, cx_K, upd_same, List.append_nil, List.cons_append, List.nil_append, List.length_cons, List.length_nil, tChain, Bool.not_true, Bool.not_false, if_true, if_false, tYes, scal_ii, scal_ss, scal_bb, ite_t, ite_f, dec_ii, dec_ss]
      refine ⟨_, _, hmi, rfl, p, d, e, S, _, _, rfl, hM.ex (b1.trans hb), by decide, fun H3 b3 m3 => ?_⟩
      have hl3 := b3 _ _ hll (by simp [hld, hle])
      have bb3 : But [d, e] H H3 := ((b1.trans hb).nil).trans b3
      have hN := hlen n (Nat.le_refl _)
      have hll2 := lim_le
      have hitem : ∀ x ∈ ldig P' n, x < 10 ^ t := fun x hx => by rw [hPe]; exact ldig_lt hP n x hx
      refine lcL (A := fun x H' => x = l ∧ H' = H3) (xs := (ldig P' n).map fun d => V.int (d : Nat))
        (Pv := fun x D i H' => x = l ∧ H3 D = none ∧ But [] H3 H' ∧ H' D = some (.lst (((ldig P' n).take i).map fun d => V.str (Tb.S (numT d)))))
        (fun Q q => by simp only [tM0, tM1, rCat, tMake, tMeth, tDGet, sDPut, tSeq, tAsg, gName, tDrop, tRet, tRetN, tIfS, tNext, tTest, tB, tAnd, tOr, tNot, tAndV, tOrV, tNotV, tNever, tOp, tUn, rI0, rI, rU, tVar, tC, tCons, tNil, tBM, tBM0, tCB, tCall, tFld, sFld, tTup, tLst, gSub, gTup, gCons, gNil, tPar, tSl, tPart, tNoPart, rAppend, rClear, rSetL, rIxL, rIxT, rSlL, rEq, rNe, sl0, sl1, sl2, sl3, sl4, sl5, sl6, sl7, sl8, sl9, sl10, sl11, sl12, sl13, st0, st1, st2, st3, st4, st5, st6, st7, st8, st9, st10, st11, st12, st13, Option.some.injEq, V.int.injEq, V.bl.injEq, V.ref.injEq, V.str.injEq, List.cons.injEq, HO.ins.injEq, HO.lst.injEq, HO.tup.injEq, HO.dK.injEq, exists_eq_left', exists_eq_left, exists_eq_right, exists_and_left, exists_and_right, exists_const, and_assoc, true_and, and_true, decide_eq_true_eq, Int.toNat_natCast, mfl_width, mfl_base, mfl_rows, mfl_counts, mfl_entered, bfl_width, bfl_side, bfl_row, cx_K, upd_same, List.append_nil, List.cons_append, List.nil_append, List.length_cons, List.length_nil, tChain, Bool.not_true, Bool.not_false, if_true, if_false, tYes, scal_ii, scal_ss, scal_bb, ite_t, ite_f, dec_ii, dec_ss]; exact q _ _ ⟨rfl, rfl⟩) ?_ ?_ ?_ ?_ ?_
      · rintro x H1 ⟨rfl, rfl⟩; exact SqL.of hl3
      · rintro x D H1 ⟨rfl, rfl⟩ hD; exact ⟨rfl, hD, But.new0 hD, upd_same⟩
      · rintro x D i H1 ⟨rfl, _, hb1, _⟩; exact SqL.of (hb1 _ _ hl3 (by simp))
      · rintro x D Vn hV i y H4 hy ⟨rfl, hD, hb1, hlD⟩
        obtain ⟨u, hu, rfl⟩ : ∃ u, (ldig P' n)[i]? = some u ∧ V.int (u : Nat) = y := by
          rw [List.getElem?_map] at hy
          cases e : (ldig P' n)[i]? with
          | none => rw [e] at hy; cases hy
          | some z => rw [e] at hy; exact ⟨z, rfl, Option.some.inj hy⟩
        have hul := (List.getElem?_eq_some_iff.mp hu).1
        have hup := hitem u (List.mem_of_getElem? hu)
        simp only [List.map_cons, List.map_nil, wipe, tM0, tM1, rCat, tMake, tMeth, tDGet, sDPut, tSeq, tAsg, gName, tDrop, tRet, tRetN, tIfS, tNext, tTest, tB, tAnd, tOr, tNot, tAndV, tOrV, tNotV, tNever, tOp, tUn, rI0, rI, rU, tVar, tC, tCons, tNil, tBM, tBM0, tCB, tCall, tFld, sFld, tTup, tLst, gSub, gTup, gCons, gNil, tPar, tSl, tPart, tNoPart, rAppend, rClear, rSetL, rIxL, rIxT, rSlL, rEq, rNe, sl0, sl1, sl2, sl3, sl4, sl5, sl6, sl7, sl8, sl9, sl10, sl11, sl12, sl13, st0, st1, st2, st3, st4, st5, st6, st7, st8, st9, st10, st11, st12, st13, Option.some.injEq, V.int.injEq, V.bl.injEq, V.ref.injEq, V.str.injEq, List.cons.injEq, HO.ins.injEq, HO.lst.injEq, HO.tup.injEq, HO.dK.injEq, exists_eq_left', exists_eq_left, exists_eq_right, exists_and_left, exists_and_right, exists_const, and_assoc, true_and, and_true, decide_eq_true_eq, Int.toNat_natCast, mfl_width, mfl_base, mfl_rows, mfl_counts, mfl_entered, bfl_width, bfl_side, bfl_row, cx_K, upd_same, List.append_nil, List.cons_append, List.nil_append, List.length_cons, List.length_nil, tChain, Bool.not_true, Bool.not_false, if_true, if_false, tYes, scal_ii, scal_ss, scal_bb, ite_t, ite_f, dec_ii, dec_ss]
        refine ⟨?_, _, hlD, ?_, ?_⟩
        · rw [Int.natAbs_natCast]
          rcases Nat.eq_zero_or_pos u with z | z
          · rw [z]; decide
          · have := (Nat.log2_lt (n := u) (k := 31) (by omega)).mpr (by omega)
            omega
        · rw [List.length_map, List.length_take]; exact lt_line (by omega)
        · refine hV _ _ ⟨rfl, hD, hb1.mut hD, ?_⟩
          rw [upd_same, str_num, List.take_add_one, hu]; simp
      · rintro x D H4 ⟨rfl, hD, hb4, hlD⟩
        rw [List.length_map, List.take_length] at hlD
        simp only [tM0, tM1, rCat, tMake, tMeth, tDGet, sDPut, tSeq, tAsg, gName, tDrop, tRet, tRetN, tIfS, tNext, tTest, tB, tAnd, tOr, tNot, tAndV, tOrV, tNotV, tNever, tOp, tUn, rI0, rI, rU, tVar, tC, tCons, tNil, tBM, tBM0, tCB, tCall, tFld, sFld, tTup, tLst, gSub, gTup, gCons, gNil, tPar, tSl, tPart, tNoPart, rAppend, rClear, rSetL, rIxL, rIxT, rSlL, rEq, rNe, sl0, sl1, sl2, sl3, sl4, sl5, sl6, sl7, sl8, sl9, sl10, sl11, sl12, sl13, st0, st1, st2, st3, st4, st5, st6, st7, st8, st9, st10, st11, st12, st13, Option.some.injEq, V.int.injEq, V.bl.injEq, V.ref.injEq, V.str.injEq, List.cons.injEq, HO.ins.injEq, HO.lst.injEq, HO.tup.injEq, HO.dK.injEq, exists_eq_left', exists_eq_left, exists_eq_right, exists_and_left, exists_and_right, exists_const, and_assoc, true_and, and_true, decide_eq_true_eq, Int.toNat_natCast, mfl_width, mfl_base, mfl_rows, mfl_counts, mfl_entered, bfl_width, bfl_side, bfl_row, cx_K, upd_same, List.append_nil, List.cons_append, List.nil_append, List.length_cons, List.length_nil, tChain, Bool.not_true, Bool.not_false, if_true, if_false, tYes, scal_ii, scal_ss, scal_bb, ite_t, ite_f, dec_ii, dec_ss]
        obtain ⟨lo, top, el, htop, htop2, e2⟩ := ldig_great (b := 10) (t := t) (by decide) ht1 n hn.1
        rw [hPe] at el
        have hdt := digT_great ht1 e2
        have hlo : ∀ u ∈ lo, u < 10 ^ t := fun u hu => hitem u (by rw [el]; exact List.mem_append_left _ hu)
        have hloN : lo.length ≤ lim := by rw [el, List.length_append] at hN; omega
        have htl : t ≤ 30 := by
          have h1 : 2 ^ t ≤ 10 ^ t := Nat.pow_le_pow_left (by decide) t
          exact (Nat.pow_le_pow_iff_right (by decide : 1 < 2)).mp (Nat.le_trans h1 (by rw [hPe]; exact hP30))
        rw [el, List.map_append] at hlD
        refine ⟨⟨_, rfl⟩, _, SqL.of hlD, fun c1 hc1 => ?_⟩
        rw [show ([top] : List Nat).map (fun d => V.str (Tb.S (numT d))) = [V.str (Tb.S (numT top))] from rfl, cut_last]
        have hDc : D ≠ c1 := ne_of_none hlD hc1
        generalize hG : upd H4 c1 _ = G
        have hGc : G c1 = some (.lst [V.str (Tb.S (numT top))]) := by rw [← hG, upd_same]
        have hGD : G D = some (.lst (lo.map (fun d => V.str (Tb.S (numT d))) ++ [V.str (Tb.S (numT top))])) := by rw [← hG, upd_ne hDc]; exact hlD
        refine lcL (A := fun x H' => But [] G H' ∧ H' x = some (.lst (lo.reverse.map fun d => V.str (Tb.S (numT d))))) (xs := lo.reverse.map fun d => V.str (Tb.S (numT d)))
          (Pv := fun x E i H' => But [] G H' ∧ G E = none ∧ H' x = some (.lst (lo.reverse.map fun d => V.str (Tb.S (numT d)))) ∧ x ≠ E ∧ H' E = some (.lst ((lo.reverse.take i).map fun d => V.str (Tb.S ((padL 10 t d).reverse.map cod)))))
          ?_ ?_ ?_ ?_ ?_ ?_
        · intro Q q
          simp only [tBack2, tM0, tM1, rCat, tMake, tMeth, tDGet, sDPut, tSeq, tAsg, gName, tDrop, tRet, tRetN, tIfS, tNext, tTest, tB, tAnd, tOr, tNot, tAndV, tOrV, tNotV, tNever, tOp, tUn, rI0, rI, rU, tVar, tC, tCons, tNil, tBM, tBM0, tCB, tCall, tFld, sFld, tTup, tLst, gSub, gTup, gCons, gNil, tPar, tSl, tPart, tNoPart, rAppend, rClear, rSetL, rIxL, rIxT, rSlL, rEq, rNe, sl0, sl1, sl2, sl3, sl4, sl5, sl6, sl7, sl8, sl9, sl10, sl11, sl12, sl13, st0, st1, st2, st3, st4, st5, st6, st7, st8, st9, st10, st11, st12, st13, Option.some.injEq, V.int.injEq, V.bl.injEq, V.ref.injEq, V.str.injEq, List.cons.injEq, HO.ins.injEq, HO.lst.injEq, HO.tup.injEq, HO.dK.injEq, exists_eq_left', exists_eq_left, exists_eq_right, exists_and_left, exists_and_right, exists_const, and_assoc, true_and, and_true, decide_eq_true_eq, Int.toNat_natCast, mfl_width, mfl_base, mfl_rows, mfl_counts, mfl_entered, bfl_width, bfl_side, bfl_row, cx_K, upd_same, List.append_nil, List.cons_append, List.nil_append, List.length_cons, List.length_nil, tChain, Bool.not_true, Bool.not_false, if_true, if_false, tYes, scal_ii, scal_ss, scal_bb, ite_t, ite_f, dec_ii, dec_ss]
          refine ⟨_, SqL.of hGD, fun c2 hc2 => q _ _ ⟨But.new0 hc2, ?_⟩⟩
          rw [upd_same]; simp
        · rintro x E1 ⟨hb5, hx⟩; exact SqL.of hx
        · rintro x E1 H5 ⟨hb5, hx⟩ hE1
          exact ⟨hb5.new hE1, hb5.free hE1 (by simp), by rw [upd_ne (ne_of_none hx hE1)]; exact hx, ne_of_none hx hE1, upd_same⟩
        · rintro x E1 i H5 ⟨_, _, hx, _⟩; exact SqL.of hx
        · rintro x E1 Vn hV i y H5 hy ⟨hb5, hE1, hx, hxE, hlE⟩
          obtain ⟨u, hu, rfl⟩ : ∃ u, lo.reverse[i]? = some u ∧ V.str (Tb.S (numT u)) = y := by
            rw [List.getElem?_map] at hy
            cases e : lo.reverse[i]? with
            | none => rw [e] at hy; cases hy
            | some z => rw [e] at hy; exact ⟨z, rfl, Option.some.inj hy⟩
          have hul := (List.getElem?_eq_some_iff.mp hu).1
          have hup := hlo u (List.mem_reverse.mp (List.mem_of_getElem? hu))
          have hnl := numT_len hup ht1
          simp only [List.map_cons, List.map_nil, wipe, tM0, tM1, rCat, tMake, tMeth, tDGet, sDPut, tSeq, tAsg, gName, tDrop, tRet, tRetN, tIfS, tNext, tTest, tB, tAnd, tOr, tNot, tAndV, tOrV, tNotV, tNever, tOp, tUn, rI0, rI, rU, tVar, tC, tCons, tNil, tBM, tBM0, tCB, tCall, tFld, sFld, tTup, tLst, gSub, gTup, gCons, gNil, tPar, tSl, tPart, tNoPart, rAppend, rClear, rSetL, rIxL, rIxT, rSlL, rEq, rNe, sl0, sl1, sl2, sl3, sl4, sl5, sl6, sl7, sl8, sl9, sl10, sl11, sl12, sl13, st0, st1, st2, st3, st4, st5, st6, st7, st8, st9, st10, st11, st12, st13, Option.some.injEq, V.int.injEq, V.bl.injEq, V.ref.injEq, V.str.injEq, List.cons.injEq, HO.ins.injEq, HO.lst.injEq, HO.tup.injEq, HO.dK.injEq, exists_eq_left', exists_eq_left, exists_eq_right, exists_and_left, exists_and_right, exists_const, and_assoc, true_and, and_true, decide_eq_true_eq, Int.toNat_natCast, mfl_width, mfl_base, mfl_rows, mfl_counts, mfl_entered, bfl_width, bfl_side, bfl_row, cx_K, upd_same, List.append_nil, List.cons_append, List.nil_append, List.length_cons, List.length_nil, tChain, Bool.not_true, Bool.not_false, if_true, if_false, tYes, scal_ii, scal_ss, scal_bb, ite_t, ite_f, dec_ii, dec_ss]
          have h30 : 30 ≤ sizeLine := by decide
          have e5 : ((t : Nat) : Int) - ((numT u).length : Nat) = ((t - (numT u).length : Nat) : Int) := by omega
          rw [S_len, e5]
          refine ⟨by omega, [48], by decide, by omega, by omega, by simp only [List.length_singleton, Int.toNat_natCast]; omega, ?_⟩
          rw [Int.toNat_natCast, List.flatten_replicate_singleton, S_append, S_len]
          refine ⟨by rw [List.length_replicate]; omega, _, hlE, ?_, ?_⟩
          · rw [List.length_map, List.length_take]; rw [List.length_reverse] at *; exact lt_line (by omega)
          · rw [numT_pad hup ht1]
            refine hV _ _ ⟨hb5.mut hE1, hE1, by rw [upd_ne hxE]; exact hx, hxE, ?_⟩
            rw [upd_same, List.take_add_one, hu]; simp
        · rintro x E1 H5 ⟨hb5, hE1, hx, hxE, hlE⟩
          rw [List.length_map, List.take_length] at hlE
          refine ⟨_, rfl, _, hb5 _ _ hGc (by simp), _, hlE, ?_, fun z hz => ⟨(numT top :: (lo.reverse.map fun d => (padL 10 t d).reverse.map cod)).map Tb.S, .inl (SqL.of ?_), ?_, ?_⟩⟩
          · rw [List.length_singleton, List.length_map, List.length_reverse]; have := lt_line (n := lim) (Nat.le_refl _); omega
          · rw [upd_same]; simp
          · have hd10 : (digT 10 n).length ≤ lim := by
              unfold digT
              rw [List.length_map, List.length_reverse]
              exact ldig_len_le (by decide) (Nat.lt_of_lt_of_le hn.2 (Nat.pow_le_pow_left (by decide) lim))
            rw [lens_S, List.flatten_cons, List.map_reverse, show numT top = digT 10 top by unfold numT; rw [if_neg (by omega)], ← hdt, show (("" : Str)).length = 0 from rfl]
            omega
          · rw [join_none, List.flatten_cons, List.map_reverse, show numT top = digT 10 top by unfold numT; rw [if_neg (by omega)], ← hdt]
            have hbz : ∀ o, But [] H3 (upd H5 z o) := fun o => by
              refine But.new ?_ hz
              refine hb4.trans (But.trans ?_ hb5)
              rw [← hG]; exact But.new0 hc1
            exact q _ (bb3.trans (hbz _).nil) (m3.ex (hbz _))
theorem c_decimal_figures (T : Tx K mg) : Cal P w K mg base CX0 "decimal_figures" 2 ["machine", "row"] [] (sp_decimal_figures K) := by
  obtain ⟨fd, F⟩ := f_decimal_figures T
  exact ⟨_, fd, [], G_decimal_figures T, F.kp, o_decimal_figures T F, B_decimal_figures F, .nil⟩
end


end Th

namespace Th
open PySem PySem.Spec PyProof.Rows L2 Tb
section
variable {P : Program} {w : World} {K : PySem.W.Frag} {mg : Str → Option Value} {base : Heap}
/-! ### binary_figures -/
theorem sc_binary_figures : FnScope ["machine", "row", "base", "width", "found", "held", "many", "place", "digit"] ["machine", "row", "base"] (defScope s_binary_figures) := ⟨rfl, rfl, rfl, by decide +kernel, rfl, by decide +kernel, by decide +kernel⟩
def sp_binary_figures (K : PySem.W.Frag) : Sp := fun vs H Q E => ∃ (p d e r : Addr) (S : Ms) (n : Nat) (k b : Nat), vs = [.ref p, .ref r, .int (b : Int)] ∧ (MAt K H p d e S) ∧ (H r = some (.tup ((dgs S.w n).map .int))) ∧ (4 ≤ S.w ∧ S.w ≤ 30) ∧ (0 < n ∧ n < 2 ^ lim) ∧ (1 ≤ k ∧ k ≤ 4) ∧ (b = 2 ^ k) ∧ ([((2 : Int), (1 : Int)), (4, 2), (8, 3), (16, 4), (32, 5)].lookup (b : Int) = some (k : Int)) ∧ (∀ H', But [d, e] H H' → MAt K H' p d e (S.count "shifted" ((ldig b n).length : Nat)) → Q (.str (Tb.S (digT b n))) H')
theorem o_binary_figures (T : Tx K mg) {fd : FuncData} (F : FunD K "binary_figures" "binary_figures" (defArgs s_binary_figures) (defBody s_binary_figures) (defScope s_binary_figures) [] [] (He.fAd K ("binary_figures", none)) fd) : FnOk P w K mg base CX0 2 (He.fAd K ("binary_figures", none)) fd ["machine", "row", "base"] (sp_binary_figures K) := by
  refine F.ok sc_binary_figures (fun vs H Q E h => ?_) (fun cdv A outer s H vs Q E hr h => ?_)
  · obtain ⟨p, d, e, r, S, n, k, b, rfl, _⟩ := h
    rfl
  · obtain ⟨p, d, e, r, S, n, k, b, rfl, hM, hr2, hw, hn, hk, hbk, hlk, q⟩ := h
    refine ⟨_, PSs.nox (pss_cons (ps_set (i := 3) sc_binary_figures.nd rfl (.inl rfl) (pe_ix ix_kd (g_BITS_OF_BASES T) (pv 2) (fun _ _ => rfl)))
      (pss_cons (ps_par3 (i := 4) (j := 5) (l := 6) (by rfl) sc_binary_figures.nd rfl rfl rfl (by decide) (by decide) (by decide) rfl rfl rfl (pa_cons (pe_lst pa_nil) (pa_cons pe_int (pa_cons pe_int pa_nil))) (by rfl))
      (Evl.pss_cut (ps_for PassesOwn.never rfl (pi_enumR (by rfl) (b_enumerate T) (pa_cons (pv 1) pa_nil)) (pg_tup rfl (pgs_cons (pg_name (i := 7) sc_binary_figures.nd rfl (.inl rfl)) (pgs_cons (pg_name (i := 8) sc_binary_figures.nd rfl (.inl rfl)) pgs_nil))) (pss_cons (ps_par (i := 5) (j := 6) (by rfl) sc_binary_figures.nd rfl rfl (by decide) rfl rfl (pa_cons (pe_op op_or (pv 5) (pe_op op_shlW (pv 8) (pv 6))) (pa_cons (pe_op op_add (pv 6) (pe_fld (pv 0) rfl)) pa_nil)) (by rfl))
      (pss_one (ps_while PassesOwn.never (pt_ifExp (pt_cmpR op_eq (pe_op op_add (pv 7) pe_int) (pe_callB call_len_seq (by rfl) (b_len T) PySem.boot_len (pa_cons (pv 1) pa_nil)) (nomark _)) (pt_cmpR op_gt (pv 5) pe_int (nomark _)) (pt_cmpR op_ge (pv 6) (pv 3) (nomark _))) (pss_cons (ps_expr (pe_bm PySem.F.plainAttrs_list PySem.F.slot_list_append PySem.F.type_list_append mt_append (pv 4) (pa_cons (pe_ix ix_str (g_FIGURES T) (pe_op op_mod (pv 5) (pv 2)) (fun _ _ => rfl)) pa_nil)))
      (pss_one (ps_par (i := 5) (j := 6) (by rfl) sc_binary_figures.nd rfl rfl (by decide) rfl rfl (pa_cons (pe_op op_shr (pv 5) (pv 3)) (pa_cons (pe_op op_sub (pv 6) (pv 3)) pa_nil)) (by rfl))))))))
      (pss_cons (ps_expr (pm (c_Machine_count T) hr (by decide) pass0 (pv 0) (pa_cons pe_str (pa_cons (pe_callB call_len_seq (by rfl) (b_len T) PySem.boot_len (pa_cons (pv 4) pa_nil)) pa_nil))))
      (pss_one (ps_ret (pe_join pe_str (pe_revL (pv 4))))))))), ?_⟩
    rw [show L2.start ["machine", "row", "base", "width", "found", "held", "many", "place", "digit"] [.ref p, .ref r, .int (b : Int)] = [some (.ref p), some (.ref r), some (.int (b : Int)), none, none, none, none, none, none] from rfl]
    have hb2 : 2 ≤ b := by rw [hbk]; exact Nat.le_trans (by decide) (Nat.pow_le_pow_right (by decide) hk.1)
    have hb36 : b < 36 := by
      have : b ≤ 2 ^ 4 := by rw [hbk]; exact Nat.pow_le_pow_right (by decide) hk.2
      omega
    obtain ⟨⟨dx, hmi⟩, _⟩ := id hM
    simp only [rIxS, tPar3, tCallW, tM0, tM1, rCat, tMake, tMeth, tDGet, sDPut, tSeq, tAsg, gName, tDrop, tRet, tRetN, tIfS, tNext, tTest, tB, tAnd, tOr, tNot, tAndV, tOrV, tNotV, tNever, tOp, tUn, rI0, rI, rU, tVar, tC, tCons, tNil, tBM, tBM0, tCB, tCall, tFld, sFld, tTup, tLst, gSub, gTup, gCons, gNil, tPar, tSl, tPart, tNoPart, rAppend, rClear, rSetL, rIxL, rIxT, rSlL, rEq, rNe, sl0, sl1, sl2, sl3, sl4, sl5, sl6, sl7, sl8, sl9, sl10, sl11, sl12, sl13, st0, st1, st2, st3, st4, st5, st6, st7, st8, st9, st10, st11, st12, st13, Option.some.injEq, V.int.injEq, V.bl.injEq, V.ref.injEq, V.str.injEq, List.cons.injEq, HO.ins.injEq, HO.lst.injEq, HO.tup.injEq, HO.dK.injEq, exists_eq_left', exists_eq_left, exists_eq_right, exists_and_left, exists_and_right, exists_const, and_assoc, true_and, and_true, decide_eq_true_eq, Int.toNat_natCast, mfl_width, mfl_base, mfl_rows, mfl_counts, mfl_entered, bfl_width, bfl_side, bfl_row, cx_K, upd_same, List.append_nil, List.cons_append, List.nil_append, List.length_cons, List.length_nil, tChain, Bool.not_true, Bool.not_false, if_true, if_false, tYes, scal_ii, scal_ss, scal_bb, ite_t, ite_f, dec_ii, dec_ss]
    refine ⟨_, _, _, _, rfl, rfl, x_BITS_OF_BASES T, hlk, ?_⟩
    simp only [rIxS, tPar3, tCallW, tM0, tM1, rCat, tMake, tMeth, tDGet, sDPut, tSeq, tAsg, gName, tDrop, tRet, tRetN, tIfS, tNext, tTest, tB, tAnd, tOr, tNot, tAndV, tOrV, tNotV, tNever, tOp, tUn, rI0, rI, rU, tVar, tC, tCons, tNil, tBM, tBM0, tCB, tCall, tFld, sFld, tTup, tLst, gSub, gTup, gCons, gNil, tPar, tSl, tPart, tNoPart, rAppend, rClear, rSetL, rIxL, rIxT, rSlL, rEq, rNe, sl0, sl1, sl2, sl3, sl4, sl5, sl6, sl7, sl8, sl9, sl10, sl11, sl12, sl13, st0, st1, st2, st3, st4, st5, st6, st7, st8, st9, st10, st11, st12, st13, Option.some.injEq, V.int.injEq, V.bl.injEq, V.ref.injEq, V.str.injEq, List.cons.injEq, HO.ins.injEq, HO.lst.injEq, HO.tup.injEq, HO.dK.injEq, exists_eq_left', exists_eq_left, exists_eq_right, exists_and_left, exists_and_right, exists_const, and_assoc, true_and, and_true, decide_eq_true_eq, Int.toNat_natCast, mfl_width, mfl_base, mfl_rows, mfl_counts, mfl_entered, bfl_width, bfl_side, bfl_row, cx_K, upd_same, List.append_nil, List.cons_append, List.nil_append, List.length_cons, List.length_nil, tChain, Bool.not_true, Bool.not_false, if_true, if_false, tYes, scal_ii, scal_ss, scal_bb, ite_t, ite_f, dec_ii, dec_ss]
    refine ⟨Nat.zero_le _, fun l hl => ?_⟩
    generalize hkn : (dgs S.w n).length = kn at *
    have hnk : n < 2 ^ (S.w * kn) := by rw [← hkn]; exact dgs_len_lt (by omega)
    have hkn0 : 0 < kn := by
      rw [← hkn, dgs_step (by omega) hn.1]; simp
    have hnge : 2 ^ (S.w * (kn - 1)) ≤ n := by rw [← hkn]; exact dgs_len_ge (by omega) hn.1
    have hlb : (ldig b n).length ≤ lim := ldig_len_le hb2 (Nat.lt_of_lt_of_le hn.2 (Nat.pow_le_pow_left hb2 lim))
    have hll2 := lim_le
    refine fcutE (xs := (dgs S.w n).map V.int) (fun σ' H' => But [] H H' ∧ H' l = some (.lst ((ldig b n).map fun d => V.str (Tb.S [cod d]))) ∧ ∃ y5 y6 y7 y8, σ' = [some (.ref p), some (.ref r), some (.int (b : Nat)), some (.int (k : Nat)), some (.ref l), y5, y6, y7, y8])
      (fun i σ' H' => But [] H H' ∧ ∃ (fs : List Nat) (y5 y6 y7 y8 : Option V), H' l = some (.lst (fs.map fun d => V.str (Tb.S [cod d]))) ∧ σ' = [some (.ref p), some (.ref r), some (.int (b : Nat)), some (.int (k : Nat)), some (.ref l), y5, y6, y7, y8] ∧ (i = kn → fs = ldig b n) ∧
        (i < kn → ∃ c, k * c ≤ S.w * i ∧ S.w * i < k * c + k ∧ fs = padL b c n ∧ y5 = some (.int (n % 2 ^ (S.w * i) / b ^ c : Nat)) ∧ y6 = some (.int (S.w * i - k * c : Nat))))
      (by intro Q q; simp only [rIxS, tPar3, tCallW, tM0, tM1, rCat, tMake, tMeth, tDGet, sDPut, tSeq, tAsg, gName, tDrop, tRet, tRetN, tIfS, tNext, tTest, tB, tAnd, tOr, tNot, tAndV, tOrV, tNotV, tNever, tOp, tUn, rI0, rI, rU, tVar, tC, tCons, tNil, tBM, tBM0, tCB, tCall, tFld, sFld, tTup, tLst, gSub, gTup, gCons, gNil, tPar, tSl, tPart, tNoPart, rAppend, rClear, rSetL, rIxL, rIxT, rSlL, rEq, rNe, sl0, sl1, sl2, sl3, sl4, sl5, sl6, sl7, sl8, sl9, sl10, sl11, sl12, sl13, st0, st1, st2, st3, st4, st5, st6, st7, st8, st9, st10, st11, st12, st13, Option.some.injEq, V.int.injEq, V.bl.injEq, V.ref.injEq, V.str.injEq, List.cons.injEq, HO.ins.injEq, HO.lst.injEq, HO.tup.injEq, HO.dK.injEq, exists_eq_left', exists_eq_left, exists_eq_right, exists_and_left, exists_and_right, exists_const, and_assoc, true_and, and_true, decide_eq_true_eq, Int.toNat_natCast, mfl_width, mfl_base, mfl_rows, mfl_counts, mfl_entered, bfl_width, bfl_side, bfl_row, cx_K, upd_same, List.append_nil, List.cons_append, List.nil_append, List.length_cons, List.length_nil, tChain, Bool.not_true, Bool.not_false, if_true, if_false, tYes, scal_ii, scal_ss, scal_bb, ite_t, ite_f, dec_ii, dec_ss]; exact q) ?_ ?_ ?_ ?_ ?_
    · refine ⟨But.new0 hl, [], _, _, _, _, by rw [upd_same]; rfl, rfl, fun z => by omega, fun _ => ⟨0, by omega, by omega, rfl, ?_, ?_⟩⟩
      · rw [Nat.mul_zero, Nat.pow_zero, Nat.mod_one]; simp
      · simp
    · exact .inr fun i σ' H' h => SqT.of (h.1 _ _ hr2 (by simp))
    · rintro Vn M hV hM' i x Tt σ' H2 hx ⟨hb2', fs, y5, y6, y7, y8, hll, rfl, _, hlt⟩ hTt
      have hik : i < kn := by
        have := (List.getElem?_eq_some_iff.mp hx).1
        rwa [List.length_map, hkn] at this
      obtain ⟨c, hc1, hc2, rfl, rfl, rfl⟩ := hlt hik
      rw [List.getElem?_map, dgs_get (by omega) (by rw [hkn]; exact hik)] at hx
      obtain rfl := (Option.some.inj hx).symm
      have hlT : l ≠ Tt := ne_of_none hll hTt
      have hrT : r ≠ Tt := ne_of_none (hb2' _ _ hr2 (by simp)) hTt
      have hpT : p ≠ Tt := ne_of_none (hb2' _ _ hmi (by simp)) hTt
      generalize hG : upd H2 Tt _ = G
      have hGT : G Tt = some (.tup [.int (i : Nat), .int ((n / 2 ^ (S.w * i) % 2 ^ S.w : Nat) : Int)]) := by rw [← hG, upd_same]
      have hGb : But [] H G := by rw [← hG]; exact hb2'.new hTt
      have hGl : G l = some (.lst ((padL b c n).map fun d => V.str (Tb.S [cod d]))) := by rw [← hG, upd_ne hlT]; exact hll
      have hjoin := bin_join (n := n) (w := S.w) (i := i) (k := k) (c := c) hc1
      have hlow := bin_low (n := n) (w := S.w) (i := i) (k := k) (c := c) hc1
      rw [← hbk] at hjoin hlow
      have hdl : n / 2 ^ (S.w * i) % 2 ^ S.w < 2 ^ S.w := Nat.mod_lt _ (two_posN _)
      have hd31 : n / 2 ^ (S.w * i) % 2 ^ S.w < 2 ^ 31 := Nat.lt_of_lt_of_le hdl (Nat.pow_le_pow_right (by decide) (by omega))
      generalize n / 2 ^ (S.w * i) % 2 ^ S.w = dg at *
      simp only [hGb _ _ hmi (by simp), K_Machine T, A_Machine_width T, rIxS, tPar3, tCallW, tM0, tM1, rCat, tMake, tMeth, tDGet, sDPut, tSeq, tAsg, gName, tDrop, tRet, tRetN, tIfS, tNext, tTest, tB, tAnd, tOr, tNot, tAndV, tOrV, tNotV, tNever, tOp, tUn, rI0, rI, rU, tVar, tC, tCons, tNil, tBM, tBM0, tCB, tCall, tFld, sFld, tTup, tLst, gSub, gTup, gCons, gNil, tPar, tSl, tPart, tNoPart, rAppend, rClear, rSetL, rIxL, rIxT, rSlL, rEq, rNe, sl0, sl1, sl2, sl3, sl4, sl5, sl6, sl7, sl8, sl9, sl10, sl11, sl12, sl13, st0, st1, st2, st3, st4, st5, st6, st7, st8, st9, st10, st11, st12, st13, Option.some.injEq, V.int.injEq, V.bl.injEq, V.ref.injEq, V.str.injEq, List.cons.injEq, HO.ins.injEq, HO.lst.injEq, HO.tup.injEq, HO.dK.injEq, exists_eq_left', exists_eq_left, exists_eq_right, exists_and_left, exists_and_right, exists_const, and_assoc, true_and, and_true, decide_eq_true_eq, Int.toNat_natCast, mfl_width, mfl_base, mfl_rows, mfl_counts, mfl_entered, bfl_width, bfl_side, bfl_row, cx_K, upd_same, List.append_nil, List.cons_append, List.nil_append, List.length_cons, List.length_nil, tChain, Bool.not_true, Bool.not_false, if_true, if_false, tYes, scal_ii, scal_ss, scal_bb, ite_t, ite_f, dec_ii, dec_ss]
      refine ⟨_, SqT.of hGT, rfl, _, _, rfl, _, _, rfl, rfl, _, rfl, shl_ok (n := 31) (by omega) (by omega), ?_⟩
      rw [or_high (Int.natCast_nonneg _) (Int.natCast_nonneg _) (by exact_mod_cast hlow)]
      have eh : ((dg : Nat) : Int) * 2 ^ (S.w * i - k * c) + ((n % 2 ^ (S.w * i) / b ^ c : Nat) : Int) = ((n % 2 ^ (S.w * (i + 1)) / b ^ c : Nat) : Int) := by
        rw [← hjoin]; push_cast; exact Int.add_comm _ _
      have em : ((S.w * i - k * c : Nat) : Int) + (S.w : Int) = ((S.w * (i + 1) - k * c : Nat) : Int) := by
        rw [Nat.mul_add, Nat.mul_one]; omega
      rw [eh, em]
      have hkc : k * c ≤ S.w * (i + 1) := by rw [Nat.mul_add]; omega
      by_cases hlast : i + 1 = kn
      · have hb36' : ∀ m : Nat, m % b < 36 := fun m => Nat.lt_trans (Nat.mod_lt m (by omega)) hb36
        have hbn : b ^ c ≤ n := by
          rw [hbk, ← Nat.pow_mul]
          refine Nat.le_trans (Nat.pow_le_pow_right (by decide) hc1) ?_
          rw [show i = kn - 1 by omega]; exact hnge
        refine wloop (fun m σ H' => But [] H H' ∧ ∃ (fs : List Nat) (y6 : Int), fs ++ ldig b m = ldig b n ∧ H' l = some (.lst (fs.map fun d => V.str (Tb.S [cod d]))) ∧
            σ = [some (.ref p), some (.ref r), some (.int (b : Nat)), some (.int (k : Nat)), some (.ref l), some (.int (m : Nat)), some (.int y6), some (.int (i : Nat)), some (.int (dg : Nat))])
          (n % 2 ^ (S.w * (i + 1)) / b ^ c) ⟨hGb, padL b c n, _, ?_, hGl, rfl⟩ ?_
        · rw [hlast, Nat.mod_eq_of_lt hnk]; exact padL_rest hb2 hbn
        · rintro Vw hVw m σ' H4 ⟨hb4, fs, y6, hfs, hl4, rfl⟩
          have hfl : fs.length ≤ lim := by
            have := congrArg List.length hfs
            rw [List.length_append] at this; omega
          have hr4 := hb4 _ _ hr2 (by simp)
          refine tifT true (decide (0 < (m : Int))) (fun R rr => ?_) (fun _ rr => by simpa only [rIxS, tPar3, tCallW, tM0, tM1, rCat, tMake, tMeth, tDGet, sDPut, tSeq, tAsg, gName, tDrop, tRet, tRetN, tIfS, tNext, tTest, tB, tAnd, tOr, tNot, tAndV, tOrV, tNotV, tNever, tOp, tUn, rI0, rI, rU, tVar, tC, tCons, tNil, tBM, tBM0, tCB, tCall, tFld, sFld, tTup, tLst, gSub, gTup, gCons, gNil, tPar, tSl, tPart, tNoPart, rAppend, rClear, rSetL, rIxL, rIxT, rSlL, rEq, rNe, sl0, sl1, sl2, sl3, sl4, sl5, sl6, sl7, sl8, sl9, sl10, sl11, sl12, sl13, st0, st1, st2, st3, st4, st5, st6, st7, st8, st9, st10, st11, st12, st13, Option.some.injEq, V.int.injEq, V.bl.injEq, V.ref.injEq, V.str.injEq, List.cons.injEq, HO.ins.injEq, HO.lst.injEq, HO.tup.injEq, HO.dK.injEq, exists_eq_left', exists_eq_left, exists_eq_right, exists_and_left, exists_and_right, exists_const, and_assoc, true_and, and_true, decide_eq_true_eq, Int.toNat_natCast, mfl_width, mfl_base, mfl_rows, mfl_counts, mfl_entered, bfl_width, bfl_side, bfl_row, cx_K, upd_same, List.append_nil, List.cons_append, List.nil_append, List.length_cons, List.length_nil, tChain, Bool.not_true, Bool.not_false, if_true, if_false, tYes, scal_ii, scal_ss, scal_bb, ite_t, ite_f, dec_ii, dec_ss] using rr) (fun z => by cases z) ?_
          · simp only [rIxS, tPar3, tCallW, tM0, tM1, rCat, tMake, tMeth, tDGet, sDPut, tSeq, tAsg, gName, tDrop, tRet, tRetN, tIfS, tNext, tTest, tB, tAnd, tOr, tNot, tAndV, tOrV, tNotV, tNever, tOp, tUn, rI0, rI, rU, tVar, tC, tCons, tNil, tBM, tBM0, tCB, tCall, tFld, sFld, tTup, tLst, gSub, gTup, gCons, gNil, tPar, tSl, tPart, tNoPart, rAppend, rClear, rSetL, rIxL, rIxT, rSlL, rEq, rNe, sl0, sl1, sl2, sl3, sl4, sl5, sl6, sl7, sl8, sl9, sl10, sl11, sl12, sl13, st0, st1, st2, st3, st4, st5, st6, st7, st8, st9, st10, st11, st12, st13, Option.some.injEq, V.int.injEq, V.bl.injEq, V.ref.injEq, V.str.injEq, List.cons.injEq, HO.ins.injEq, HO.lst.injEq, HO.tup.injEq, HO.dK.injEq, exists_eq_left', exists_eq_left, exists_eq_right, exists_and_left, exists_and_right, exists_const, and_assoc, true_and, and_true, decide_eq_true_eq, Int.toNat_natCast, mfl_width, mfl_base, mfl_rows, mfl_counts, mfl_entered, bfl_width, bfl_side, bfl_row, cx_K, upd_same, List.append_nil, List.cons_append, List.nil_append, List.length_cons, List.length_nil, tChain, Bool.not_true, Bool.not_false, if_true, if_false, tYes, scal_ii, scal_ss, scal_bb, ite_t, ite_f, dec_ii, dec_ss]
            refine ⟨_, .inr (SqT.of hr4), ?_⟩
            rw [show decide (((i : Nat) : Int) + 1 = (((dgs S.w n).map V.int).length : Nat)) = true by rw [List.length_map, hkn]; simp; omega]
            exact rr
          · refine ite2 (fun hm => ⟨_, fun σ' H' z => z, ?_⟩) (fun hm => hV _ _ _ ⟨hb4, fs, _, _, _, _, hl4, rfl, fun _ => ?_, fun z => by omega⟩)
            · have hm0 : 0 < m := by simpa using hm
              simp only [hl4, tyl hl4, rIxS, tPar3, tCallW, tM0, tM1, rCat, tMake, tMeth, tDGet, sDPut, tSeq, tAsg, gName, tDrop, tRet, tRetN, tIfS, tNext, tTest, tB, tAnd, tOr, tNot, tAndV, tOrV, tNotV, tNever, tOp, tUn, rI0, rI, rU, tVar, tC, tCons, tNil, tBM, tBM0, tCB, tCall, tFld, sFld, tTup, tLst, gSub, gTup, gCons, gNil, tPar, tSl, tPart, tNoPart, rAppend, rClear, rSetL, rIxL, rIxT, rSlL, rEq, rNe, sl0, sl1, sl2, sl3, sl4, sl5, sl6, sl7, sl8, sl9, sl10, sl11, sl12, sl13, st0, st1, st2, st3, st4, st5, st6, st7, st8, st9, st10, st11, st12, st13, Option.some.injEq, V.int.injEq, V.bl.injEq, V.ref.injEq, V.str.injEq, List.cons.injEq, HO.ins.injEq, HO.lst.injEq, HO.tup.injEq, HO.dK.injEq, exists_eq_left', exists_eq_left, exists_eq_right, exists_and_left, exists_and_right, exists_const, and_assoc, true_and, and_true, decide_eq_true_eq, Int.toNat_natCast, mfl_width, mfl_base, mfl_rows, mfl_counts, mfl_entered, bfl_width, bfl_side, bfl_row, cx_K, upd_same, List.append_nil, List.cons_append, List.nil_append, List.length_cons, List.length_nil, tChain, Bool.not_true, Bool.not_false, if_true, if_false, tYes, scal_ii, scal_ss, scal_bb, ite_t, ite_f, dec_ii, dec_ss]
              refine ⟨by omega, fig_len, _, fig_at (hb36' m), by rw [List.length_map]; exact lt_line hfl, by omega, m / 2 ^ k, Nat.div_lt_self hm0 (Nat.one_lt_two_pow (show k ≠ 0 by omega)), ?_⟩
              refine hVw _ _ _ ⟨hb4.mut hl, fs ++ [m % b], _, ?_, by rw [upd_same]; simp [S_one], by norm_cast⟩
              rw [← hfs, ldig_step hb2 hm0, hbk]; simp
            · have hm0 : m = 0 := by
                have : ¬ 0 < (m : Int) := by simpa using hm
                omega
              rw [hm0, ldig_zero hb2, List.append_nil] at hfs
              exact hfs
      · have hik2 : i + 1 < kn := by omega
        refine wloop (fun m σ H' => But [] H H' ∧ ∃ c : Nat, k * c ≤ S.w * (i + 1) ∧ m = S.w * (i + 1) - k * c ∧ H' l = some (.lst ((padL b c n).map fun d => V.str (Tb.S [cod d]))) ∧
            σ = [some (.ref p), some (.ref r), some (.int (b : Nat)), some (.int (k : Nat)), some (.ref l), some (.int (n % 2 ^ (S.w * (i + 1)) / b ^ c : Nat)), some (.int (m : Nat)), some (.int (i : Nat)), some (.int (dg : Nat))])
          (S.w * (i + 1) - k * c) ⟨hGb, c, hkc, rfl, hGl, rfl⟩ ?_
        rintro Vw hVw m σ' H4 ⟨hb4, c', hkc', rfl, hl4, rfl⟩
        have hr4 := hb4 _ _ hr2 (by simp)
        have hc'l : c' ≤ lim := by
          have h1 : b ^ c' ≤ n := by
            rw [hbk, ← Nat.pow_mul]
            refine Nat.le_trans (Nat.pow_le_pow_right (by decide) (Nat.le_trans hkc' (Nat.mul_le_mul_left _ (show i + 1 ≤ kn - 1 by omega)))) hnge
          have h2 : b ^ c' < 2 ^ lim := Nat.lt_of_le_of_lt h1 hn.2
          have h3 : b ^ c' < b ^ lim := Nat.lt_of_lt_of_le h2 (Nat.pow_le_pow_left hb2 lim)
          exact Nat.le_of_lt ((Nat.pow_lt_pow_iff_right (by omega)).mp h3)
        refine tifT false (decide ((k : Int) ≤ ((S.w * (i + 1) - k * c' : Nat) : Int))) (fun R rr => ?_) (fun z => by cases z) (fun _ rr => by simpa only [rIxS, tPar3, tCallW, tM0, tM1, rCat, tMake, tMeth, tDGet, sDPut, tSeq, tAsg, gName, tDrop, tRet, tRetN, tIfS, tNext, tTest, tB, tAnd, tOr, tNot, tAndV, tOrV, tNotV, tNever, tOp, tUn, rI0, rI, rU, tVar, tC, tCons, tNil, tBM, tBM0, tCB, tCall, tFld, sFld, tTup, tLst, gSub, gTup, gCons, gNil, tPar, tSl, tPart, tNoPart, rAppend, rClear, rSetL, rIxL, rIxT, rSlL, rEq, rNe, sl0, sl1, sl2, sl3, sl4, sl5, sl6, sl7, sl8, sl9, sl10, sl11, sl12, sl13, st0, st1, st2, st3, st4, st5, st6, st7, st8, st9, st10, st11, st12, st13, Option.some.injEq, V.int.injEq, V.bl.injEq, V.ref.injEq, V.str.injEq, List.cons.injEq, HO.ins.injEq, HO.lst.injEq, HO.tup.injEq, HO.dK.injEq, exists_eq_left', exists_eq_left, exists_eq_right, exists_and_left, exists_and_right, exists_const, and_assoc, true_and, and_true, decide_eq_true_eq, Int.toNat_natCast, mfl_width, mfl_base, mfl_rows, mfl_counts, mfl_entered, bfl_width, bfl_side, bfl_row, cx_K, upd_same, List.append_nil, List.cons_append, List.nil_append, List.length_cons, List.length_nil, tChain, Bool.not_true, Bool.not_false, if_true, if_false, tYes, scal_ii, scal_ss, scal_bb, ite_t, ite_f, dec_ii, dec_ss] using rr) ?_
        · simp only [rIxS, tPar3, tCallW, tM0, tM1, rCat, tMake, tMeth, tDGet, sDPut, tSeq, tAsg, gName, tDrop, tRet, tRetN, tIfS, tNext, tTest, tB, tAnd, tOr, tNot, tAndV, tOrV, tNotV, tNever, tOp, tUn, rI0, rI, rU, tVar, tC, tCons, tNil, tBM, tBM0, tCB, tCall, tFld, sFld, tTup, tLst, gSub, gTup, gCons, gNil, tPar, tSl, tPart, tNoPart, rAppend, rClear, rSetL, rIxL, rIxT, rSlL, rEq, rNe, sl0, sl1, sl2, sl3, sl4, sl5, sl6, sl7, sl8, sl9, sl10, sl11, sl12, sl13, st0, st1, st2, st3, st4, st5, st6, st7, st8, st9, st10, st11, st12, st13, Option.some.injEq, V.int.injEq, V.bl.injEq, V.ref.injEq, V.str.injEq, List.cons.injEq, HO.ins.injEq, HO.lst.injEq, HO.tup.injEq, HO.dK.injEq, exists_eq_left', exists_eq_left, exists_eq_right, exists_and_left, exists_and_right, exists_const, and_assoc, true_and, and_true, decide_eq_true_eq, Int.toNat_natCast, mfl_width, mfl_base, mfl_rows, mfl_counts, mfl_entered, bfl_width, bfl_side, bfl_row, cx_K, upd_same, List.append_nil, List.cons_append, List.nil_append, List.length_cons, List.length_nil, tChain, Bool.not_true, Bool.not_false, if_true, if_false, tYes, scal_ii, scal_ss, scal_bb, ite_t, ite_f, dec_ii, dec_ss]
          refine ⟨_, .inr (SqT.of hr4), ?_⟩
          rw [show decide (((i : Nat) : Int) + 1 = (((dgs S.w n).map V.int).length : Nat)) = false by rw [List.length_map, hkn]; simp; omega]
          exact rr
        · refine ite2 (fun hm => ⟨_, fun σ' H' z => z, ?_⟩) (fun hm => hV _ _ _ ⟨hb4, _, _, _, _, _, hl4, rfl, fun z => by omega, fun _ => ⟨c', hkc', ?_, rfl, rfl, rfl⟩⟩)
          · have hm0 : k ≤ S.w * (i + 1) - k * c' := by simpa using hm
            have hkc1 : k * (c' + 1) ≤ S.w * (i + 1) := by rw [Nat.mul_add, Nat.mul_one]; omega
            simp only [hl4, tyl hl4, rIxS, tPar3, tCallW, tM0, tM1, rCat, tMake, tMeth, tDGet, sDPut, tSeq, tAsg, gName, tDrop, tRet, tRetN, tIfS, tNext, tTest, tB, tAnd, tOr, tNot, tAndV, tOrV, tNotV, tNever, tOp, tUn, rI0, rI, rU, tVar, tC, tCons, tNil, tBM, tBM0, tCB, tCall, tFld, sFld, tTup, tLst, gSub, gTup, gCons, gNil, tPar, tSl, tPart, tNoPart, rAppend, rClear, rSetL, rIxL, rIxT, rSlL, rEq, rNe, sl0, sl1, sl2, sl3, sl4, sl5, sl6, sl7, sl8, sl9, sl10, sl11, sl12, sl13, st0, st1, st2, st3, st4, st5, st6, st7, st8, st9, st10, st11, st12, st13, Option.some.injEq, V.int.injEq, V.bl.injEq, V.ref.injEq, V.str.injEq, List.cons.injEq, HO.ins.injEq, HO.lst.injEq, HO.tup.injEq, HO.dK.injEq, exists_eq_left', exists_eq_left, exists_eq_right, exists_and_left, exists_and_right, exists_const, and_assoc, true_and, and_true, decide_eq_true_eq, Int.toNat_natCast, mfl_width, mfl_base, mfl_rows, mfl_counts, mfl_entered, bfl_width, bfl_side, bfl_row, cx_K, upd_same, List.append_nil, List.cons_append, List.nil_append, List.length_cons, List.length_nil, tChain, Bool.not_true, Bool.not_false, if_true, if_false, tYes, scal_ii, scal_ss, scal_bb, ite_t, ite_f, dec_ii, dec_ss]
            refine ⟨by omega, fig_len, _, fig_at (v := n % 2 ^ (S.w * (i + 1)) / b ^ c' % b) (Nat.lt_trans (Nat.mod_lt _ (by omega)) hb36), by rw [List.length_map, padL_len hb2]; exact lt_line hc'l, by omega, S.w * (i + 1) - k * (c' + 1), by rw [Nat.mul_add k, Nat.mul_one] at hkc1 ⊢; omega, ?_⟩
            refine hVw _ _ _ ⟨hb4.mut hl, c' + 1, hkc1, rfl, ?_, ?_⟩
            · rw [upd_same, S_one, padL_snoc hb2, hbk, bin_digit hkc1]; simp
            · have e1 : ((n % 2 ^ (S.w * (i + 1)) / b ^ c' : Nat) : Int) / 2 ^ k = ((n % 2 ^ (S.w * (i + 1)) / b ^ (c' + 1) : Nat) : Int) := by
                rw [hbk, ← bin_next]; norm_cast
              have e2 : ((S.w * (i + 1) - k * c' : Nat) : Int) - (k : Int) = ((S.w * (i + 1) - k * (c' + 1) : Nat) : Int) := by
                rw [Nat.mul_add k, Nat.mul_one]; omega
              rw [e1, e2]
          · have : ¬ (k : Int) ≤ ((S.w * (i + 1) - k * c' : Nat) : Int) := by simpa using hm
            omega
    · rintro σ' H' ⟨hb3, fs, y5, y6, y7, y8, hll, rfl, hfin, _⟩
      rw [List.length_map, hkn] at hfin
      rw [hfin rfl] at hll
      exact ⟨hb3, hll, y5, y6, y7, y8, rfl⟩
    · rintro σ' H2 ⟨hb3, hll, y5, y6, y7, y8, rfl⟩
      have hmi2 := hb3 _ _ hmi (by simp)
      simp only [tRevL, rIxS, tPar3, tCallW, tM0, tM1, rCat, tMake, tMeth, tDGet, sDPut, tSeq, tAsg, gName, tDrop, tRet, tRetN, tIfS, tNext, tTest, tB, tAnd, tOr, tNot, tAndV, tOrV, tNotV, tNever, tOp, tUn, rI0, rI, rU, tVar, tC, tCons, tNil, tBM, tBM0, tCB, tCall, tFld, sFld, tTup, tLst, gSub, gTup, gCons, gNil, tPar, tSl, tPart, tNoPart, rAppend, rClear, rSetL, rIxL, rIxT, rSlL, rEq, rNe, sl0, sl1, sl2, sl3, sl4, sl5, sl6, sl7, sl8, sl9, sl10, sl11, sl12, sl13, st0, st1, st2, st3, st4, st5, st6, st7, st8, st9, st10, st11, st12, st13, Option.some.injEq, V.int.injEq, V.bl.injEq, V.ref.injEq, V.str.injEq, List.cons.injEq, HO.ins.injEq, HO.lst.injEq, HO.tup.injEq, HO.dK.injEq, exists_eq_left', exists_eq_left, exists_eq_right, exists_and_left, exists_and_right, exists_const, and_assoc, true_and, and_true, decide_eq_true_eq, Int.toNat_natCast, mfl_width, mfl_base, mfl_rows, mfl_counts, mfl_entered, bfl_width, bfl_side, bfl_row, cx_K, upd_same, List.append_nil, List.cons_append, List.nil_append, List.length_cons, List.length_nil, tChain, Bool.not_true, Bool.not_false, if_true, if_false, tYes, scal_ii, scal_ss, scal_bb, ite_t, ite_f, dec_ii, dec_ss]
      refine ⟨_, _, hmi2, rfl, _, .inl (SqL.of hll), p, d, e, S, _, _, rfl, hM.ex hb3, by decide, fun H3 b3 m3 => ⟨⟨_, rfl⟩, (ldig b n).map fun d => V.str (Tb.S [cod d]), .inl (.inl ?_), fun z hz => ⟨(((ldig b n).reverse).map fun d => [cod d]).map Tb.S, .inl (SqL.of ?_), ?_, ?_⟩⟩⟩
      · exact b3 _ _ hll (by
          have := ne_of_none hM.cnts hl
          obtain ⟨_, he, _⟩ := hM.ent
          have := ne_of_none he hl
          simp; constructor <;> (intro z; subst z; contradiction))
      · rw [upd_same]; simp
      · rw [lens_S, show (("" : Str)).length = 0 from rfl, show ((ldig b n).reverse.map fun d => [cod d]).flatten = digT b n from flat_cod _]
        have : (digT b n).length = (ldig b n).length := by simp [digT]
        omega
      · rw [join_none, show ((ldig b n).reverse.map fun d => [cod d]).flatten = digT b n from flat_cod _]
        rw [List.length_map] at m3
        exact q _ ((hb3.nil.trans b3).new hz) (m3.ex (But.new0 hz))
theorem c_binary_figures (T : Tx K mg) : Cal P w K mg base CX0 "binary_figures" 2 ["machine", "row", "base"] [] (sp_binary_figures K) := by
  obtain ⟨fd, F⟩ := f_binary_figures T
  exact ⟨_, fd, [], G_binary_figures T, F.kp, o_binary_figures T F, B_binary_figures F, .nil⟩
end


end Th

namespace Th
open PySem PySem.Spec PyProof.Rows L2 Tb
section
variable {P : Program} {w : World} {K : PySem.W.Frag} {mg : Str → Option Value} {base : Heap}
/-- what to_text leaves in the machine -/
def wrote (S : Ms) (n : Int) (b : Nat) : Ms :=
  let S1 := S.enter "write" ((dgs S.w n.natAbs).length : Nat) (b : Nat)
  if n = 0 then S1 else if b = 10 then S1.count "quotient" (stp S.w (10 ^ gsz 10 (2 ^ S.w)) n.natAbs (dgs S.w n.natAbs).length (dgs S.w n.natAbs).length : Nat) else S1.count "shifted" ((ldig b n.natAbs).length : Nat)
/-! ### to_text -/
theorem sc_to_text : FnScope ["machine", "x", "base", "most", "found"] ["machine", "x", "base", "most"] (defScope s_to_text) := ⟨rfl, rfl, rfl, by decide +kernel, rfl, by decide +kernel, by decide +kernel⟩
def sp_to_text (K : PySem.W.Frag) : Sp := fun vs H Q E => ∃ (p d e a : Addr) (S : Ms) (n : Int) (b : Nat) (m : Int), vs = [.ref p, .ref a, .int (b : Int), .int m] ∧ (MAt K H p d e S) ∧ (BigI K H a S.w n) ∧ (4 ≤ S.w ∧ S.w ≤ 30) ∧ (n.natAbs < 2 ^ lim) ∧ (b = 2 ∨ b = 8 ∨ b = 10 ∨ b = 16) ∧ (m = 0 ∨ 640 ≤ m) ∧ (b = 10 → 0 < m → ((Builtin.Int.intBits n : Nat) : Int) ≤ 3 * (m - 1)) ∧ (∀ H', But [d, e] H H' → MAt K H' p d e (wrote S n b) → Q (.str (Tb.S (txtB b n))) H')
theorem o_to_text (T : Tx K mg) {fd : FuncData} (F : FunD K "to_text" "to_text" (defArgs s_to_text) (defBody s_to_text) (defScope s_to_text) (d_to_text.dvs K) (d_to_text.kws K) (He.fAd K ("to_text", none)) fd) : FnOk P w K mg base CX0 4 (He.fAd K ("to_text", none)) fd ["machine", "x", "base", "most"] (sp_to_text K) := by
  refine F.ok sc_to_text (fun vs H Q E h => ?_) (fun cdv A outer s H vs Q E hr h => ?_)
  · obtain ⟨p, d, e, a, S, n, b, m, rfl, _⟩ := h
    rfl
  · obtain ⟨p, d, e, a, S, n, b, m, rfl, hM, hx, hw, hn, hb, hm, hm2, q⟩ := h
    refine ⟨_, PSs.nox (pss_cons (ps_expr (pc (c_check_machine T) hr (by decide) pass0 (pa_cons (pv 0) pa_nil)))
      (pss_cons (ps_expr (pc (c_check_big T) hr (by decide) pass0 (pa_cons (pv 0) (pa_cons pe_str (pa_cons (pv 1) pa_nil)))))
      (pss_cons (ps_if (PW.pt (pw_or (pt_not (pt_val (pc (c_is_integer T) hr (by decide) pass0 (pa_cons (pv 2) pa_nil)))) (pw_or1 (pt_cmpR op_notIn_seq (pv 2) (g_WRITTEN_BASES T) (by rfl))))) (pss_one ps_never) pss_nil)
      (pss_cons (ps_expr (pc (c_check_most T) hr (by decide) pass0 (pa_cons (pv 3) pa_nil)))
      (Evl.pss_cut (ps_if (PW.pt (pw_and (pt_cmpR op_eq (pv 2) pe_int (nomark _)) (pw_and (pt_cmpR op_gt (pv 3) pe_int (nomark _)) (pw_and1 (pt_val (pc (c_has_more T) hr (by decide) pass0 (pa_cons (pv 1) (pa_cons (pv 3) pa_nil)))))))) (pss_one ps_never) pss_nil)
      (pss_cons (ps_expr (pm (c_Machine_enter T) hr (by decide) pass0 (pv 0) (pa_cons pe_str (pa_cons (pe_callB call_len_seq (by rfl) (b_len T) PySem.boot_len (pa_cons (pe_fld (pv 1) rfl) pa_nil)) (pa_cons (pv 2) pa_nil)))))
      (pss_cons (ps_if (pt_cmpR op_eq (pe_fld (pv 1) rfl) pe_int (nomark _)) (pss_one (ps_ret pe_str)) pss_nil)
      (pss_cons (ps_set (i := 4) sc_to_text.nd rfl (.inl rfl) (pe_ifExp (pt_cmpR op_eq (pv 2) pe_int (nomark _)) (pc (c_decimal_figures T) hr (by decide) pass0 (pa_cons (pv 0) (pa_cons (pe_fld (pv 1) rfl) pa_nil))) (pc (c_binary_figures T) hr (by decide) pass0 (pa_cons (pv 0) (pa_cons (pe_fld (pv 1) rfl) (pa_cons (pv 2) pa_nil))))))
      (pss_one (ps_ret (pe_ifExp (pt_cmpR op_lt (pe_fld (pv 1) rfl) pe_int (nomark _)) (pe_op op_add_str pe_str (pv 4)) (pv 4)))))))))))), ?_⟩
    rw [show L2.start ["machine", "x", "base", "most", "found"] [.ref p, .ref a, .int (b : Int), .int m] = [some (.ref p), some (.ref a), some (.int (b : Int)), some (.int m), none] from rfl]
    obtain ⟨dx, r, h1, h2⟩ := hx.has
    have hbi : (b : Int) = 2 ∨ (b : Int) = 8 ∨ (b : Int) = 10 ∨ (b : Int) = 16 := by omega
    simp only [tCallN, rIxS, tPar3, tCallW, tM0, tM1, rCat, tMake, tMeth, tDGet, sDPut, tSeq, tAsg, gName, tDrop, tRet, tRetN, tIfS, tNext, tTest, tB, tAnd, tOr, tNot, tAndV, tOrV, tNotV, tNever, tOp, tUn, rI0, rI, rU, tVar, tC, tCons, tNil, tBM, tBM0, tCB, tCall, tFld, sFld, tTup, tLst, gSub, gTup, gCons, gNil, tPar, tSl, tPart, tNoPart, rAppend, rClear, rSetL, rIxL, rIxT, rSlL, rEq, rNe, sl0, sl1, sl2, sl3, sl4, sl5, sl6, sl7, sl8, sl9, sl10, sl11, sl12, sl13, st0, st1, st2, st3, st4, st5, st6, st7, st8, st9, st10, st11, st12, st13, Option.some.injEq, V.int.injEq, V.bl.injEq, V.ref.injEq, V.str.injEq, List.cons.injEq, HO.ins.injEq, HO.lst.injEq, HO.tup.injEq, HO.dK.injEq, exists_eq_left', exists_eq_left, exists_eq_right, exists_and_left, exists_and_right, exists_const, and_assoc, true_and, and_true, decide_eq_true_eq, Int.toNat_natCast, mfl_width, mfl_base, mfl_rows, mfl_counts, mfl_entered, bfl_width, bfl_side, bfl_row, cx_K, upd_same, List.append_nil, List.cons_append, List.nil_append, List.length_cons, List.length_nil, tChain, Bool.not_true, Bool.not_false, if_true, if_false, tYes, scal_ii, scal_ss, scal_bb, ite_t, ite_f, dec_ii, dec_ss]
    refine ⟨p, d, e, S, rfl, hM, ?_⟩
    simp only [tCallN, rIxS, tPar3, tCallW, tM0, tM1, rCat, tMake, tMeth, tDGet, sDPut, tSeq, tAsg, gName, tDrop, tRet, tRetN, tIfS, tNext, tTest, tB, tAnd, tOr, tNot, tAndV, tOrV, tNotV, tNever, tOp, tUn, rI0, rI, rU, tVar, tC, tCons, tNil, tBM, tBM0, tCB, tCall, tFld, sFld, tTup, tLst, gSub, gTup, gCons, gNil, tPar, tSl, tPart, tNoPart, rAppend, rClear, rSetL, rIxL, rIxT, rSlL, rEq, rNe, sl0, sl1, sl2, sl3, sl4, sl5, sl6, sl7, sl8, sl9, sl10, sl11, sl12, sl13, st0, st1, st2, st3, st4, st5, st6, st7, st8, st9, st10, st11, st12, st13, Option.some.injEq, V.int.injEq, V.bl.injEq, V.ref.injEq, V.str.injEq, List.cons.injEq, HO.ins.injEq, HO.lst.injEq, HO.tup.injEq, HO.dK.injEq, exists_eq_left', exists_eq_left, exists_eq_right, exists_and_left, exists_and_right, exists_const, and_assoc, true_and, and_true, decide_eq_true_eq, Int.toNat_natCast, mfl_width, mfl_base, mfl_rows, mfl_counts, mfl_entered, bfl_width, bfl_side, bfl_row, cx_K, upd_same, List.append_nil, List.cons_append, List.nil_append, List.length_cons, List.length_nil, tChain, Bool.not_true, Bool.not_false, if_true, if_false, tYes, scal_ii, scal_ss, scal_bb, ite_t, ite_f, dec_ii, dec_ss]
    refine ⟨p, d, e, a, S, _, n, rfl, hM, hx, ?_⟩
    simp only [tCallN, rIxS, tPar3, tCallW, tM0, tM1, rCat, tMake, tMeth, tDGet, sDPut, tSeq, tAsg, gName, tDrop, tRet, tRetN, tIfS, tNext, tTest, tB, tAnd, tOr, tNot, tAndV, tOrV, tNotV, tNever, tOp, tUn, rI0, rI, rU, tVar, tC, tCons, tNil, tBM, tBM0, tCB, tCall, tFld, sFld, tTup, tLst, gSub, gTup, gCons, gNil, tPar, tSl, tPart, tNoPart, rAppend, rClear, rSetL, rIxL, rIxT, rSlL, rEq, rNe, sl0, sl1, sl2, sl3, sl4, sl5, sl6, sl7, sl8, sl9, sl10, sl11, sl12, sl13, st0, st1, st2, st3, st4, st5, st6, st7, st8, st9, st10, st11, st12, st13, Option.some.injEq, V.int.injEq, V.bl.injEq, V.ref.injEq, V.str.injEq, List.cons.injEq, HO.ins.injEq, HO.lst.injEq, HO.tup.injEq, HO.dK.injEq, exists_eq_left', exists_eq_left, exists_eq_right, exists_and_left, exists_and_right, exists_const, and_assoc, true_and, and_true, decide_eq_true_eq, Int.toNat_natCast, mfl_width, mfl_base, mfl_rows, mfl_counts, mfl_entered, bfl_width, bfl_side, bfl_row, cx_K, upd_same, List.append_nil, List.cons_append, List.nil_append, List.length_cons, List.length_nil, tChain, Bool.not_true, Bool.not_false, if_true, if_false, tYes, scal_ii, scal_ss, scal_bb, ite_t, ite_f, dec_ii, dec_ss]
    refine ⟨_, true, rfl, intTy, ?_⟩
    simp only [tCallN, rIxS, tPar3, tCallW, tM0, tM1, rCat, tMake, tMeth, tDGet, sDPut, tSeq, tAsg, gName, tDrop, tRet, tRetN, tIfS, tNext, tTest, tB, tAnd, tOr, tNot, tAndV, tOrV, tNotV, tNever, tOp, tUn, rI0, rI, rU, tVar, tC, tCons, tNil, tBM, tBM0, tCB, tCall, tFld, sFld, tTup, tLst, gSub, gTup, gCons, gNil, tPar, tSl, tPart, tNoPart, rAppend, rClear, rSetL, rIxL, rIxT, rSlL, rEq, rNe, sl0, sl1, sl2, sl3, sl4, sl5, sl6, sl7, sl8, sl9, sl10, sl11, sl12, sl13, st0, st1, st2, st3, st4, st5, st6, st7, st8, st9, st10, st11, st12, st13, Option.some.injEq, V.int.injEq, V.bl.injEq, V.ref.injEq, V.str.injEq, List.cons.injEq, HO.ins.injEq, HO.lst.injEq, HO.tup.injEq, HO.dK.injEq, exists_eq_left', exists_eq_left, exists_eq_right, exists_and_left, exists_and_right, exists_const, and_assoc, true_and, and_true, decide_eq_true_eq, Int.toNat_natCast, mfl_width, mfl_base, mfl_rows, mfl_counts, mfl_entered, bfl_width, bfl_side, bfl_row, cx_K, upd_same, List.append_nil, List.cons_append, List.nil_append, List.length_cons, List.length_nil, tChain, Bool.not_true, Bool.not_false, if_true, if_false, tYes, scal_ii, scal_ss, scal_bb, ite_t, ite_f, dec_ii, dec_ss]
    refine ⟨_, _, rfl, .inr (ints_tup (xs := [2, 8, 10, 16]) (x_WRITTEN_BASES T)), rfl, rfl, ?_⟩
    have hin : inV (V.int (b : Int)) ([2, 8, 10, 16].map V.int) = true := by
      rcases hbi with h | h | h | h <;> rw [h] <;> rfl
    rw [hin]
    simp only [tCallN, rIxS, tPar3, tCallW, tM0, tM1, rCat, tMake, tMeth, tDGet, sDPut, tSeq, tAsg, gName, tDrop, tRet, tRetN, tIfS, tNext, tTest, tB, tAnd, tOr, tNot, tAndV, tOrV, tNotV, tNever, tOp, tUn, rI0, rI, rU, tVar, tC, tCons, tNil, tBM, tBM0, tCB, tCall, tFld, sFld, tTup, tLst, gSub, gTup, gCons, gNil, tPar, tSl, tPart, tNoPart, rAppend, rClear, rSetL, rIxL, rIxT, rSlL, rEq, rNe, sl0, sl1, sl2, sl3, sl4, sl5, sl6, sl7, sl8, sl9, sl10, sl11, sl12, sl13, st0, st1, st2, st3, st4, st5, st6, st7, st8, st9, st10, st11, st12, st13, Option.some.injEq, V.int.injEq, V.bl.injEq, V.ref.injEq, V.str.injEq, List.cons.injEq, HO.ins.injEq, HO.lst.injEq, HO.tup.injEq, HO.dK.injEq, exists_eq_left', exists_eq_left, exists_eq_right, exists_and_left, exists_and_right, exists_const, and_assoc, true_and, and_true, decide_eq_true_eq, Int.toNat_natCast, mfl_width, mfl_base, mfl_rows, mfl_counts, mfl_entered, bfl_width, bfl_side, bfl_row, cx_K, upd_same, List.append_nil, List.cons_append, List.nil_append, List.length_cons, List.length_nil, tChain, Bool.not_true, Bool.not_false, if_true, if_false, tYes, scal_ii, scal_ss, scal_bb, ite_t, ite_f, dec_ii, dec_ss]
    refine ⟨m, rfl, hm, ?_⟩
    simp only [tCallN, rIxS, tPar3, tCallW, tM0, tM1, rCat, tMake, tMeth, tDGet, sDPut, tSeq, tAsg, gName, tDrop, tRet, tRetN, tIfS, tNext, tTest, tB, tAnd, tOr, tNot, tAndV, tOrV, tNotV, tNever, tOp, tUn, rI0, rI, rU, tVar, tC, tCons, tNil, tBM, tBM0, tCB, tCall, tFld, sFld, tTup, tLst, gSub, gTup, gCons, gNil, tPar, tSl, tPart, tNoPart, rAppend, rClear, rSetL, rIxL, rIxT, rSlL, rEq, rNe, sl0, sl1, sl2, sl3, sl4, sl5, sl6, sl7, sl8, sl9, sl10, sl11, sl12, sl13, st0, st1, st2, st3, st4, st5, st6, st7, st8, st9, st10, st11, st12, st13, Option.some.injEq, V.int.injEq, V.bl.injEq, V.ref.injEq, V.str.injEq, List.cons.injEq, HO.ins.injEq, HO.lst.injEq, HO.tup.injEq, HO.dK.injEq, exists_eq_left', exists_eq_left, exists_eq_right, exists_and_left, exists_and_right, exists_const, and_assoc, true_and, and_true, decide_eq_true_eq, Int.toNat_natCast, mfl_width, mfl_base, mfl_rows, mfl_counts, mfl_entered, bfl_width, bfl_side, bfl_row, cx_K, upd_same, List.append_nil, List.cons_append, List.nil_append, List.length_cons, List.length_nil, tChain, Bool.not_true, Bool.not_false, if_true, if_false, tYes, scal_ii, scal_ss, scal_bb, ite_t, ite_f, dec_ii, dec_ss]
    refine ⟨fun σ' H' => σ' = [some (.ref p), some (.ref a), some (.int (b : Int)), some (.int m), none] ∧ H' = H, ?_, ?_⟩
    · simp only [tCallN, rIxS, tPar3, tCallW, tM0, tM1, rCat, tMake, tMeth, tDGet, sDPut, tSeq, tAsg, gName, tDrop, tRet, tRetN, tIfS, tNext, tTest, tB, tAnd, tOr, tNot, tAndV, tOrV, tNotV, tNever, tOp, tUn, rI0, rI, rU, tVar, tC, tCons, tNil, tBM, tBM0, tCB, tCall, tFld, sFld, tTup, tLst, gSub, gTup, gCons, gNil, tPar, tSl, tPart, tNoPart, rAppend, rClear, rSetL, rIxL, rIxT, rSlL, rEq, rNe, sl0, sl1, sl2, sl3, sl4, sl5, sl6, sl7, sl8, sl9, sl10, sl11, sl12, sl13, st0, st1, st2, st3, st4, st5, st6, st7, st8, st9, st10, st11, st12, st13, Option.some.injEq, V.int.injEq, V.bl.injEq, V.ref.injEq, V.str.injEq, List.cons.injEq, HO.ins.injEq, HO.lst.injEq, HO.tup.injEq, HO.dK.injEq, exists_eq_left', exists_eq_left, exists_eq_right, exists_and_left, exists_and_right, exists_const, and_assoc, true_and, and_true, decide_eq_true_eq, Int.toNat_natCast, mfl_width, mfl_base, mfl_rows, mfl_counts, mfl_entered, bfl_width, bfl_side, bfl_row, cx_K, upd_same, List.append_nil, List.cons_append, List.nil_append, List.length_cons, List.length_nil, tChain, Bool.not_true, Bool.not_false, if_true, if_false, tYes, scal_ii, scal_ss, scal_bb, ite_t, ite_f, dec_ii, dec_ss]
      by_cases h10 : (b : Int) = 10
      · rw [if_pos h10]
        by_cases hm0 : 0 < m
        · rw [if_pos hm0]
          exact ⟨a, S.w, n, m, rfl, hx, ⟨by omega, by omega⟩, hm2 (by omega) hm0, _, rfl, by simp only [tCallN, rIxS, tPar3, tCallW, tM0, tM1, rCat, tMake, tMeth, tDGet, sDPut, tSeq, tAsg, gName, tDrop, tRet, tRetN, tIfS, tNext, tTest, tB, tAnd, tOr, tNot, tAndV, tOrV, tNotV, tNever, tOp, tUn, rI0, rI, rU, tVar, tC, tCons, tNil, tBM, tBM0, tCB, tCall, tFld, sFld, tTup, tLst, gSub, gTup, gCons, gNil, tPar, tSl, tPart, tNoPart, rAppend, rClear, rSetL, rIxL, rIxT, rSlL, rEq, rNe, sl0, sl1, sl2, sl3, sl4, sl5, sl6, sl7, sl8, sl9, sl10, sl11, sl12, sl13, st0, st1, st2, st3, st4, st5, st6, st7, st8, st9, st10, st11, st12, st13, Option.some.injEq, V.int.injEq, V.bl.injEq, V.ref.injEq, V.str.injEq, List.cons.injEq, HO.ins.injEq, HO.lst.injEq, HO.tup.injEq, HO.dK.injEq, exists_eq_left', exists_eq_left, exists_eq_right, exists_and_left, exists_and_right, exists_const, and_assoc, true_and, and_true, decide_eq_true_eq, Int.toNat_natCast, mfl_width, mfl_base, mfl_rows, mfl_counts, mfl_entered, bfl_width, bfl_side, bfl_row, cx_K, upd_same, List.append_nil, List.cons_append, List.nil_append, List.length_cons, List.length_nil, tChain, Bool.not_true, Bool.not_false, if_true, if_false, tYes, scal_ii, scal_ss, scal_bb, ite_t, ite_f, dec_ii, dec_ss]⟩
        · rw [if_neg hm0]; trivial
      · rw [if_neg h10]; trivial
    · rintro σ' H' ⟨rfl, rfl⟩
      obtain ⟨⟨dm, hmi⟩, _⟩ := id hM
      simp only [hmi, h1, K_Machine T, K_Big T, A_Big_row T, A_Big_side T, tCallN, rIxS, tPar3, tCallW, tM0, tM1, rCat, tMake, tMeth, tDGet, sDPut, tSeq, tAsg, gName, tDrop, tRet, tRetN, tIfS, tNext, tTest, tB, tAnd, tOr, tNot, tAndV, tOrV, tNotV, tNever, tOp, tUn, rI0, rI, rU, tVar, tC, tCons, tNil, tBM, tBM0, tCB, tCall, tFld, sFld, tTup, tLst, gSub, gTup, gCons, gNil, tPar, tSl, tPart, tNoPart, rAppend, rClear, rSetL, rIxL, rIxT, rSlL, rEq, rNe, sl0, sl1, sl2, sl3, sl4, sl5, sl6, sl7, sl8, sl9, sl10, sl11, sl12, sl13, st0, st1, st2, st3, st4, st5, st6, st7, st8, st9, st10, st11, st12, st13, Option.some.injEq, V.int.injEq, V.bl.injEq, V.ref.injEq, V.str.injEq, List.cons.injEq, HO.ins.injEq, HO.lst.injEq, HO.tup.injEq, HO.dK.injEq, exists_eq_left', exists_eq_left, exists_eq_right, exists_and_left, exists_and_right, exists_const, and_assoc, true_and, and_true, decide_eq_true_eq, Int.toNat_natCast, mfl_width, mfl_base, mfl_rows, mfl_counts, mfl_entered, bfl_width, bfl_side, bfl_row, cx_K, upd_same, List.append_nil, List.cons_append, List.nil_append, List.length_cons, List.length_nil, tChain, Bool.not_true, Bool.not_false, if_true, if_false, tYes, scal_ii, scal_ss, scal_bb, ite_t, ite_f, dec_ii, dec_ss]
      refine ⟨rfl, _, .inr (SqT.of h2), ?_⟩
      refine ⟨p, d, e, S, _, _, _, rfl, hM, fun H1 b1 m1 => ?_⟩
      rw [List.length_map] at m1
      have hx1 := hx.mach b1 hM
      have hw1 : (S.enter "write" ((dgs S.w n.natAbs).length : Nat) (b : Nat)).w = S.w := by unfold Ms.enter; split <;> rfl
      generalize hS1 : S.enter "write" ((dgs S.w n.natAbs).length : Nat) (b : Nat) = S1 at *
      have hi1 : H1 a = some (.ins (He.ga K "Big") dx (bfl S.w n.sign r)) := by
        obtain ⟨_, e2, _⟩ := hM
        obtain ⟨_, e4, _⟩ := (show MAt K H' p d e S from ⟨⟨dm, hmi⟩, e2, by assumption⟩).ent
        exact b1 _ _ h1 (by
          have := ne_of h1 e2 (by intro z; cases z)
          have := ne_of h1 e4 (by intro z; cases z)
          simp [*])
      have hr1 : H1 r = some (.tup ((dgs S.w n.natAbs).map .int)) := by
        obtain ⟨_, e2, _⟩ := hM
        obtain ⟨_, e4, _⟩ := (show MAt K H' p d e S from ⟨⟨dm, hmi⟩, e2, by assumption⟩).ent
        exact b1 _ _ h2 (by
          have := ne_of h2 e2 (by intro z; cases z)
          have := ne_of h2 e4 (by intro z; cases z)
          simp [*])
      simp only [hi1, K_Machine T, K_Big T, A_Big_row T, A_Big_side T, tCallN, rIxS, tPar3, tCallW, tM0, tM1, rCat, tMake, tMeth, tDGet, sDPut, tSeq, tAsg, gName, tDrop, tRet, tRetN, tIfS, tNext, tTest, tB, tAnd, tOr, tNot, tAndV, tOrV, tNotV, tNever, tOp, tUn, rI0, rI, rU, tVar, tC, tCons, tNil, tBM, tBM0, tCB, tCall, tFld, sFld, tTup, tLst, gSub, gTup, gCons, gNil, tPar, tSl, tPart, tNoPart, rAppend, rClear, rSetL, rIxL, rIxT, rSlL, rEq, rNe, sl0, sl1, sl2, sl3, sl4, sl5, sl6, sl7, sl8, sl9, sl10, sl11, sl12, sl13, st0, st1, st2, st3, st4, st5, st6, st7, st8, st9, st10, st11, st12, st13, Option.some.injEq, V.int.injEq, V.bl.injEq, V.ref.injEq, V.str.injEq, List.cons.injEq, HO.ins.injEq, HO.lst.injEq, HO.tup.injEq, HO.dK.injEq, exists_eq_left', exists_eq_left, exists_eq_right, exists_and_left, exists_and_right, exists_const, and_assoc, true_and, and_true, decide_eq_true_eq, Int.toNat_natCast, mfl_width, mfl_base, mfl_rows, mfl_counts, mfl_entered, bfl_width, bfl_side, bfl_row, cx_K, upd_same, List.append_nil, List.cons_append, List.nil_append, List.length_cons, List.length_nil, tChain, Bool.not_true, Bool.not_false, if_true, if_false, tYes, scal_ii, scal_ss, scal_bb, ite_t, ite_f, dec_ii, dec_ss]
      have hS : wrote S n b = if n = 0 then S1 else if b = 10 then S1.count "quotient" (stp S.w (10 ^ gsz 10 (2 ^ S.w)) n.natAbs (dgs S.w n.natAbs).length (dgs S.w n.natAbs).length : Nat) else S1.count "shifted" ((ldig b n.natAbs).length : Nat) := by
        unfold wrote; rw [hS1]
      rw [hS] at q
      by_cases hn0 : n = 0
      · rw [if_pos (by rw [hn0]; rfl)]
        rw [if_pos hn0] at q
        have := q H1 b1 m1
        rw [hn0] at this
        exact this
      · rw [if_neg (by simpa using hn0)]
        rw [if_neg hn0] at q
        have hna : 0 < n.natAbs := by omega
        have hb2 : 2 ≤ b := by omega
        have hdl : (digT b n.natAbs).length ≤ lim := by
          unfold digT
          rw [List.length_map, List.length_reverse]
          exact ldig_len_le hb2 (Nat.lt_of_lt_of_le hn (Nat.pow_le_pow_left hb2 lim))
        have fin : ∀ H2, But [d, e] H1 H2 → MAt K H2 p d e (if b = 10 then S1.count "quotient" (stp S.w (10 ^ gsz 10 (2 ^ S.w)) n.natAbs (dgs S.w n.natAbs).length (dgs S.w n.natAbs).length : Nat) else S1.count "shifted" ((ldig b n.natAbs).length : Nat)) →
            tIf (tTest (tOp (rI0 fun i j => V.bl (decide (i < j))) (tFld K (tVar 1) "side") (tC (V.int 0)))) (tOp (fun x y H Q => ∃ a, x = .str a ∧ ∃ b, y = .str b ∧ a.length + b.length ≤ sizeLine ∧ Q (.str (a ++ b)) H) (tC (V.str "-")) (tVar 4)) (tVar 4)
              [some (V.ref p), some (V.ref a), some (V.int (b : Int)), some (V.int m), some (V.str (Tb.S (digT b n.natAbs)))] H2 Q := by
          intro H2 b2 m2
          have hi2 : H2 a = some (.ins (He.ga K "Big") dx (bfl S.w n.sign r)) := by
            obtain ⟨_, e2, _, e4, _⟩ := m1
            exact b2 _ _ hi1 (by
              have := ne_of hi1 e2 (by intro z; cases z)
              have := ne_of hi1 e4 (by intro z; cases z)
              simp [*])
          refine tif (decide (n < 0)) (.str (Tb.S (txtB b n))) (fun R rr => ?_) (fun hbb rr => ?_) (fun hbb rr => ?_) (q H2 (b1.trans b2) m2)
          · simp only [hi2, K_Big T, A_Big_side T, tCallN, rIxS, tPar3, tCallW, tM0, tM1, rCat, tMake, tMeth, tDGet, sDPut, tSeq, tAsg, gName, tDrop, tRet, tRetN, tIfS, tNext, tTest, tB, tAnd, tOr, tNot, tAndV, tOrV, tNotV, tNever, tOp, tUn, rI0, rI, rU, tVar, tC, tCons, tNil, tBM, tBM0, tCB, tCall, tFld, sFld, tTup, tLst, gSub, gTup, gCons, gNil, tPar, tSl, tPart, tNoPart, rAppend, rClear, rSetL, rIxL, rIxT, rSlL, rEq, rNe, sl0, sl1, sl2, sl3, sl4, sl5, sl6, sl7, sl8, sl9, sl10, sl11, sl12, sl13, st0, st1, st2, st3, st4, st5, st6, st7, st8, st9, st10, st11, st12, st13, Option.some.injEq, V.int.injEq, V.bl.injEq, V.ref.injEq, V.str.injEq, List.cons.injEq, HO.ins.injEq, HO.lst.injEq, HO.tup.injEq, HO.dK.injEq, exists_eq_left', exists_eq_left, exists_eq_right, exists_and_left, exists_and_right, exists_const, and_assoc, true_and, and_true, decide_eq_true_eq, Int.toNat_natCast, mfl_width, mfl_base, mfl_rows, mfl_counts, mfl_entered, bfl_width, bfl_side, bfl_row, cx_K, upd_same, List.append_nil, List.cons_append, List.nil_append, List.length_cons, List.length_nil, tChain, Bool.not_true, Bool.not_false, if_true, if_false, tYes, scal_ii, scal_ss, scal_bb, ite_t, ite_f, dec_ii, dec_ss]
            rwa [show decide (n.sign < 0) = decide (n < 0) by simp [Int.sign_neg_iff]]
          · have hneg : n < 0 := by simpa using hbb
            simp only [tCallN, rIxS, tPar3, tCallW, tM0, tM1, rCat, tMake, tMeth, tDGet, sDPut, tSeq, tAsg, gName, tDrop, tRet, tRetN, tIfS, tNext, tTest, tB, tAnd, tOr, tNot, tAndV, tOrV, tNotV, tNever, tOp, tUn, rI0, rI, rU, tVar, tC, tCons, tNil, tBM, tBM0, tCB, tCall, tFld, sFld, tTup, tLst, gSub, gTup, gCons, gNil, tPar, tSl, tPart, tNoPart, rAppend, rClear, rSetL, rIxL, rIxT, rSlL, rEq, rNe, sl0, sl1, sl2, sl3, sl4, sl5, sl6, sl7, sl8, sl9, sl10, sl11, sl12, sl13, st0, st1, st2, st3, st4, st5, st6, st7, st8, st9, st10, st11, st12, st13, Option.some.injEq, V.int.injEq, V.bl.injEq, V.ref.injEq, V.str.injEq, List.cons.injEq, HO.ins.injEq, HO.lst.injEq, HO.tup.injEq, HO.dK.injEq, exists_eq_left', exists_eq_left, exists_eq_right, exists_and_left, exists_and_right, exists_const, and_assoc, true_and, and_true, decide_eq_true_eq, Int.toNat_natCast, mfl_width, mfl_base, mfl_rows, mfl_counts, mfl_entered, bfl_width, bfl_side, bfl_row, cx_K, upd_same, List.append_nil, List.cons_append, List.nil_append, List.length_cons, List.length_nil, tChain, Bool.not_true, Bool.not_false, if_true, if_false, tYes, scal_ii, scal_ss, scal_bb, ite_t, ite_f, dec_ii, dec_ss]
            rw [show (("-" : Str)) = Tb.S [45] by decide, S_append, S_len, S_len]
            refine ⟨by have := lt_line (n := lim) (Nat.le_refl _); simp; omega, ?_⟩
            rw [txtB, if_pos hneg, if_neg hn0] at rr
            exact rr
          · have hneg : ¬ n < 0 := by simpa using hbb
            simp only [tCallN, rIxS, tPar3, tCallW, tM0, tM1, rCat, tMake, tMeth, tDGet, sDPut, tSeq, tAsg, gName, tDrop, tRet, tRetN, tIfS, tNext, tTest, tB, tAnd, tOr, tNot, tAndV, tOrV, tNotV, tNever, tOp, tUn, rI0, rI, rU, tVar, tC, tCons, tNil, tBM, tBM0, tCB, tCall, tFld, sFld, tTup, tLst, gSub, gTup, gCons, gNil, tPar, tSl, tPart, tNoPart, rAppend, rClear, rSetL, rIxL, rIxT, rSlL, rEq, rNe, sl0, sl1, sl2, sl3, sl4, sl5, sl6, sl7, sl8, sl9, sl10, sl11, sl12, sl13, st0, st1, st2, st3, st4, st5, st6, st7, st8, st9, st10, st11, st12, st13, Option.some.injEq, V.int.injEq, V.bl.injEq, V.ref.injEq, V.str.injEq, List.cons.injEq, HO.ins.injEq, HO.lst.injEq, HO.tup.injEq, HO.dK.injEq, exists_eq_left', exists_eq_left, exists_eq_right, exists_and_left, exists_and_right, exists_const, and_assoc, true_and, and_true, decide_eq_true_eq, Int.toNat_natCast, mfl_width, mfl_base, mfl_rows, mfl_counts, mfl_entered, bfl_width, bfl_side, bfl_row, cx_K, upd_same, List.append_nil, List.cons_append, List.nil_append, List.length_cons, List.length_nil, tChain, Bool.not_true, Bool.not_false, if_true, if_false, tYes, scal_ii, scal_ss, scal_bb, ite_t, ite_f, dec_ii, dec_ss]
            rw [txtB, if_neg hneg, if_neg hn0] at rr
            exact rr
        by_cases h10 : b = 10
        · rw [if_pos h10] at fin
          refine tifB true (fun R rr => ?_) (fun _ => ?_) (fun z => by cases z)
          · simp only [tCallN, rIxS, tPar3, tCallW, tM0, tM1, rCat, tMake, tMeth, tDGet, sDPut, tSeq, tAsg, gName, tDrop, tRet, tRetN, tIfS, tNext, tTest, tB, tAnd, tOr, tNot, tAndV, tOrV, tNotV, tNever, tOp, tUn, rI0, rI, rU, tVar, tC, tCons, tNil, tBM, tBM0, tCB, tCall, tFld, sFld, tTup, tLst, gSub, gTup, gCons, gNil, tPar, tSl, tPart, tNoPart, rAppend, rClear, rSetL, rIxL, rIxT, rSlL, rEq, rNe, sl0, sl1, sl2, sl3, sl4, sl5, sl6, sl7, sl8, sl9, sl10, sl11, sl12, sl13, st0, st1, st2, st3, st4, st5, st6, st7, st8, st9, st10, st11, st12, st13, Option.some.injEq, V.int.injEq, V.bl.injEq, V.ref.injEq, V.str.injEq, List.cons.injEq, HO.ins.injEq, HO.lst.injEq, HO.tup.injEq, HO.dK.injEq, exists_eq_left', exists_eq_left, exists_eq_right, exists_and_left, exists_and_right, exists_const, and_assoc, true_and, and_true, decide_eq_true_eq, Int.toNat_natCast, mfl_width, mfl_base, mfl_rows, mfl_counts, mfl_entered, bfl_width, bfl_side, bfl_row, cx_K, upd_same, List.append_nil, List.cons_append, List.nil_append, List.length_cons, List.length_nil, tChain, Bool.not_true, Bool.not_false, if_true, if_false, tYes, scal_ii, scal_ss, scal_bb, ite_t, ite_f, dec_ii, dec_ss]
            rwa [show decide ((b : Int) = 10) = true by simp; omega]
          · simp only [hi1, K_Big T, A_Big_row T, tCallN, rIxS, tPar3, tCallW, tM0, tM1, rCat, tMake, tMeth, tDGet, sDPut, tSeq, tAsg, gName, tDrop, tRet, tRetN, tIfS, tNext, tTest, tB, tAnd, tOr, tNot, tAndV, tOrV, tNotV, tNever, tOp, tUn, rI0, rI, rU, tVar, tC, tCons, tNil, tBM, tBM0, tCB, tCall, tFld, sFld, tTup, tLst, gSub, gTup, gCons, gNil, tPar, tSl, tPart, tNoPart, rAppend, rClear, rSetL, rIxL, rIxT, rSlL, rEq, rNe, sl0, sl1, sl2, sl3, sl4, sl5, sl6, sl7, sl8, sl9, sl10, sl11, sl12, sl13, st0, st1, st2, st3, st4, st5, st6, st7, st8, st9, st10, st11, st12, st13, Option.some.injEq, V.int.injEq, V.bl.injEq, V.ref.injEq, V.str.injEq, List.cons.injEq, HO.ins.injEq, HO.lst.injEq, HO.tup.injEq, HO.dK.injEq, exists_eq_left', exists_eq_left, exists_eq_right, exists_and_left, exists_and_right, exists_const, and_assoc, true_and, and_true, decide_eq_true_eq, Int.toNat_natCast, mfl_width, mfl_base, mfl_rows, mfl_counts, mfl_entered, bfl_width, bfl_side, bfl_row, cx_K, upd_same, List.append_nil, List.cons_append, List.nil_append, List.length_cons, List.length_nil, tChain, Bool.not_true, Bool.not_false, if_true, if_false, tYes, scal_ii, scal_ss, scal_bb, ite_t, ite_f, dec_ii, dec_ss]
            refine ⟨p, d, e, r, S1, n.natAbs, rfl, m1, by rw [hw1]; exact hr1, by rw [hw1]; exact hw, ⟨hna, hn⟩, fun H2 b2 m2 => ?_⟩
            rw [hw1] at m2
            rw [h10] at fin
            exact fin H2 b2 m2
        · rw [if_neg h10] at fin
          refine tifB false (fun R rr => ?_) (fun z => by cases z) (fun _ => ?_)
          · simp only [tCallN, rIxS, tPar3, tCallW, tM0, tM1, rCat, tMake, tMeth, tDGet, sDPut, tSeq, tAsg, gName, tDrop, tRet, tRetN, tIfS, tNext, tTest, tB, tAnd, tOr, tNot, tAndV, tOrV, tNotV, tNever, tOp, tUn, rI0, rI, rU, tVar, tC, tCons, tNil, tBM, tBM0, tCB, tCall, tFld, sFld, tTup, tLst, gSub, gTup, gCons, gNil, tPar, tSl, tPart, tNoPart, rAppend, rClear, rSetL, rIxL, rIxT, rSlL, rEq, rNe, sl0, sl1, sl2, sl3, sl4, sl5, sl6, sl7, sl8, sl9, sl10, sl11, sl12, sl13, st0, st1, st2, st3, st4, st5, st6, st7, st8, st9, st10, st11, st12, st13, Option.some.injEq, V.int.injEq, V.bl.injEq, V.ref.injEq, V.str.injEq, List.cons.injEq, HO.ins.injEq, HO.lst.injEq, HO.tup.injEq, HO.dK.injEq, exists_eq_left', exists_eq_left, exists_eq_right, exists_and_left, exists_and_right, exists_const, and_assoc, true_and, and_true, decide_eq_true_eq, Int.toNat_natCast, mfl_width, mfl_base, mfl_rows, mfl_counts, mfl_entered, bfl_width, bfl_side, bfl_row, cx_K, upd_same, List.append_nil, List.cons_append, List.nil_append, List.length_cons, List.length_nil, tChain, Bool.not_true, Bool.not_false, if_true, if_false, tYes, scal_ii, scal_ss, scal_bb, ite_t, ite_f, dec_ii, dec_ss]
            rwa [show decide ((b : Int) = 10) = false by simp; omega]
          · simp only [hi1, K_Big T, A_Big_row T, tCallN, rIxS, tPar3, tCallW, tM0, tM1, rCat, tMake, tMeth, tDGet, sDPut, tSeq, tAsg, gName, tDrop, tRet, tRetN, tIfS, tNext, tTest, tB, tAnd, tOr, tNot, tAndV, tOrV, tNotV, tNever, tOp, tUn, rI0, rI, rU, tVar, tC, tCons, tNil, tBM, tBM0, tCB, tCall, tFld, sFld, tTup, tLst, gSub, gTup, gCons, gNil, tPar, tSl, tPart, tNoPart, rAppend, rClear, rSetL, rIxL, rIxT, rSlL, rEq, rNe, sl0, sl1, sl2, sl3, sl4, sl5, sl6, sl7, sl8, sl9, sl10, sl11, sl12, sl13, st0, st1, st2, st3, st4, st5, st6, st7, st8, st9, st10, st11, st12, st13, Option.some.injEq, V.int.injEq, V.bl.injEq, V.ref.injEq, V.str.injEq, List.cons.injEq, HO.ins.injEq, HO.lst.injEq, HO.tup.injEq, HO.dK.injEq, exists_eq_left', exists_eq_left, exists_eq_right, exists_and_left, exists_and_right, exists_const, and_assoc, true_and, and_true, decide_eq_true_eq, Int.toNat_natCast, mfl_width, mfl_base, mfl_rows, mfl_counts, mfl_entered, bfl_width, bfl_side, bfl_row, cx_K, upd_same, List.append_nil, List.cons_append, List.nil_append, List.length_cons, List.length_nil, tChain, Bool.not_true, Bool.not_false, if_true, if_false, tYes, scal_ii, scal_ss, scal_bb, ite_t, ite_f, dec_ii, dec_ss]
            obtain ⟨k, hk1, hk2, hk3⟩ : ∃ k : Nat, (1 ≤ k ∧ k ≤ 4) ∧ b = 2 ^ k ∧ [((2 : Int), (1 : Int)), (4, 2), (8, 3), (16, 4), (32, 5)].lookup (b : Int) = some (k : Int) := by
              rcases hb with rfl | rfl | rfl | rfl
              · exact ⟨1, by decide, rfl, rfl⟩
              · exact ⟨3, by decide, rfl, rfl⟩
              · exact absurd rfl h10
              · exact ⟨4, by decide, rfl, rfl⟩
            refine ⟨p, d, e, r, S1, n.natAbs, k, b, rfl, m1, by rw [hw1]; exact hr1, by rw [hw1]; exact hw, ⟨hna, hn⟩, hk1, hk2, hk3, fun H2 b2 m2 => fin H2 b2 m2⟩
theorem c_to_text_2 (T : Tx K mg) : Cal P w K mg base CX0 "to_text" 4 ["machine", "x", "base", "most"] ((d_to_text.dvs K).drop 0 ++ (d_to_text.kws K).map (·.2)) (sp_to_text K) := by
  obtain ⟨fd, F⟩ := f_to_text T
  obtain ⟨ds, hv, hb⟩ := F.binds (ps := ["machine", "x", "base", "most"]) 2 0 (by simp [He.DefD.dvs, d_to_text]) rfl (fun T D doc pm an cdv ct us its ks h1 h2 h3 => match us, its, ks, h1, h2, h3 with | [_, _], [_], [_], _, _, _ => ⟨_, rfl, ⟨_, _, _, _, _, _, rfl, rfl, rfl⟩⟩) (by simp [He.DefD.kws, d_to_text])
  exact ⟨_, fd, ds, G_to_text T, F.kp, o_to_text T F, hb, hv⟩
theorem c_to_text_3 (T : Tx K mg) : Cal P w K mg base CX0 "to_text" 4 ["machine", "x", "base", "most"] ((d_to_text.dvs K).drop 1 ++ (d_to_text.kws K).map (·.2)) (sp_to_text K) := by
  obtain ⟨fd, F⟩ := f_to_text T
  obtain ⟨ds, hv, hb⟩ := F.binds (ps := ["machine", "x", "base", "most"]) 3 1 (by simp [He.DefD.dvs, d_to_text]) rfl (fun T D doc pm an cdv ct us its ks h1 h2 h3 => match us, its, ks, h1, h2, h3 with | [_, _, _], [_], [_], _, _, _ => ⟨_, rfl, ⟨_, _, _, _, _, _, rfl, rfl, rfl⟩⟩) (by simp [He.DefD.kws, d_to_text])
  exact ⟨_, fd, ds, G_to_text T, F.kp, o_to_text T F, hb, hv⟩
def ga_to_text_0_base_x_machine_most {α : Type} (us its mv ws : List α) : List α := match us, its, mv, ws with | [], [i0], [], [w0, w1, w2, w3] => [w2, w1, w0, w3] | _, _, _, _ => []
theorem gr_ga_to_text_0_base_x_machine_most {a0 : List V} {b0 : List Value} (h0 : Vals a0 b0) {a1 : List V} {b1 : List Value} (h1 : Vals a1 b1) {a2 : List V} {b2 : List Value} (h2 : Vals a2 b2) {a3 : List V} {b3 : List Value} (h3 : Vals a3 b3) : Vals (ga_to_text_0_base_x_machine_most a0 a1 a2 a3) (ga_to_text_0_base_x_machine_most b0 b1 b2 b3) := by
  rcases h0 with _ | ⟨_, _⟩
  all_goals rcases h1 with _ | ⟨_, _ | ⟨_, _⟩⟩
  all_goals rcases h2 with _ | ⟨_, _⟩
  all_goals rcases h3 with _ | ⟨_, _ | ⟨_, _ | ⟨_, _ | ⟨_, _ | ⟨_, _⟩⟩⟩⟩⟩
  all_goals first | exact .nil | (repeat (first | exact .nil | refine .cons (by assumption) ?_))
theorem kc_to_text_0_base_x_machine_most (T : Tx K mg) : CalN P w K mg base CX0 "to_text" 4 ["machine", "x", "base", "most"] 0 ["base", "x", "machine", "most"] (fun vs zs => ga_to_text_0_base_x_machine_most vs [(V.int 10)] [] zs) (sp_to_text K) := by
  obtain ⟨fd, F⟩ := f_to_text T
  obtain ⟨its, mv, hb⟩ := F.kbinds (ps := ["machine", "x", "base", "most"]) 0 ["base", "x", "machine", "most"] [] ga_to_text_0_base_x_machine_most (by simp [He.DefD.dvs, d_to_text]) (by simp [He.DefD.kws, d_to_text]) (by simp [He.DefD.kws, d_to_text, He.Dv.v]) (fun h0 h1 h2 h3 => gr_ga_to_text_0_base_x_machine_most h0 h1 h2 h3) (fun T D doc pm an cdv ct us its mv ws h1 h2 h3 h4 => match us, its, mv, ws, h1, h2, h3, h4 with | [], [_], [], [_, _, _, _], _, _, _, _ => ⟨_, rfl, rfl⟩)
  exact ⟨_, fd, _, G_to_text T, F.kp, o_to_text T F, hb⟩
def ga_to_text_2_most {α : Type} (us its mv ws : List α) : List α := match us, its, mv, ws with | [u0, u1], [i0], [], [w0] => [u0, u1, i0, w0] | _, _, _, _ => []
theorem gr_ga_to_text_2_most {a0 : List V} {b0 : List Value} (h0 : Vals a0 b0) {a1 : List V} {b1 : List Value} (h1 : Vals a1 b1) {a2 : List V} {b2 : List Value} (h2 : Vals a2 b2) {a3 : List V} {b3 : List Value} (h3 : Vals a3 b3) : Vals (ga_to_text_2_most a0 a1 a2 a3) (ga_to_text_2_most b0 b1 b2 b3) := by
  rcases h0 with _ | ⟨_, _ | ⟨_, _ | ⟨_, _⟩⟩⟩
  all_goals rcases h1 with _ | ⟨_, _ | ⟨_, _⟩⟩
  all_goals rcases h2 with _ | ⟨_, _⟩
  all_goals rcases h3 with _ | ⟨_, _ | ⟨_, _⟩⟩
  all_goals first | exact .nil | (repeat (first | exact .nil | refine .cons (by assumption) ?_))
theorem kc_to_text_2_most (T : Tx K mg) : CalN P w K mg base CX0 "to_text" 4 ["machine", "x", "base", "most"] 2 ["most"] (fun vs zs => ga_to_text_2_most vs [(V.int 10)] [] zs) (sp_to_text K) := by
  obtain ⟨fd, F⟩ := f_to_text T
  obtain ⟨its, mv, hb⟩ := F.kbinds (ps := ["machine", "x", "base", "most"]) 2 ["most"] [] ga_to_text_2_most (by simp [He.DefD.dvs, d_to_text]) (by simp [He.DefD.kws, d_to_text]) (by simp [He.DefD.kws, d_to_text, He.Dv.v]) (fun h0 h1 h2 h3 => gr_ga_to_text_2_most h0 h1 h2 h3) (fun T D doc pm an cdv ct us its mv ws h1 h2 h3 h4 => match us, its, mv, ws, h1, h2, h3, h4 with | [_, _], [_], [], [_], _, _, _, _ => ⟨_, rfl, rfl⟩)
  exact ⟨_, fd, _, G_to_text T, F.kp, o_to_text T F, hb⟩
def ga_to_text_3_most {α : Type} (us its mv ws : List α) : List α := match us, its, mv, ws with | [u0, u1, u2], [i0], [], [w0] => [u0, u1, u2, w0] | _, _, _, _ => []
theorem gr_ga_to_text_3_most {a0 : List V} {b0 : List Value} (h0 : Vals a0 b0) {a1 : List V} {b1 : List Value} (h1 : Vals a1 b1) {a2 : List V} {b2 : List Value} (h2 : Vals a2 b2) {a3 : List V} {b3 : List Value} (h3 : Vals a3 b3) : Vals (ga_to_text_3_most a0 a1 a2 a3) (ga_to_text_3_most b0 b1 b2 b3) := by
  rcases h0 with _ | ⟨_, _ | ⟨_, _ | ⟨_, _ | ⟨_, _⟩⟩⟩⟩
  all_goals rcases h1 with _ | ⟨_, _ | ⟨_, _⟩⟩
  all_goals rcases h2 with _ | ⟨_, _⟩
  all_goals rcases h3 with _ | ⟨_, _ | ⟨_, _⟩⟩
  all_goals first | exact .nil | (repeat (first | exact .nil | refine .cons (by assumption) ?_))
theorem kc_to_text_3_most (T : Tx K mg) : CalN P w K mg base CX0 "to_text" 4 ["machine", "x", "base", "most"] 3 ["most"] (fun vs zs => ga_to_text_3_most vs [(V.int 10)] [] zs) (sp_to_text K) := by
  obtain ⟨fd, F⟩ := f_to_text T
  obtain ⟨its, mv, hb⟩ := F.kbinds (ps := ["machine", "x", "base", "most"]) 3 ["most"] [] ga_to_text_3_most (by simp [He.DefD.dvs, d_to_text]) (by simp [He.DefD.kws, d_to_text]) (by simp [He.DefD.kws, d_to_text, He.Dv.v]) (fun h0 h1 h2 h3 => gr_ga_to_text_3_most h0 h1 h2 h3) (fun T D doc pm an cdv ct us its mv ws h1 h2 h3 h4 => match us, its, mv, ws, h1, h2, h3, h4 with | [_, _, _], [_], [], [_], _, _, _, _ => ⟨_, rfl, rfl⟩)
  exact ⟨_, fd, _, G_to_text T, F.kp, o_to_text T F, hb⟩
end


end Th

namespace Th
open PySem PySem.Spec PyProof.Rows L2 Tb
section
variable {P : Program} {w : World} {K : PySem.W.Frag} {mg : Str → Option Value} {base : Heap}
/-- a purse: its three numbers; at most N coins were drawn anew -/
def Pu (H : Hp) (p : Addr) (N : Nat) : Prop := ∃ a b c : Int, H p = some (.lst [.int a, .int b, .int c]) ∧ 0 ≤ a ∧ 0 ≤ b ∧ b < 2147483563 ∧ 0 ≤ c ∧ c ≤ (N : Int)
theorem Pu.up {H : Hp} {p : Addr} {N M : Nat} (h : Pu H p N) (e : N ≤ M) : Pu H p M := by
  obtain ⟨a, b, c, h1, h2, h3, h4, h5, h6⟩ := h
  exact ⟨a, b, c, h1, h2, h3, h4, h5, by omega⟩
theorem Pu.but {L : List Addr} {H H' : Hp} {p : Addr} {N : Nat} (h : Pu H p N) (e : But L H H') (n : p ∉ L) : Pu H' p N := by
  obtain ⟨a, b, c, h1, h2⟩ := h
  exact ⟨a, b, c, e _ _ h1 n, h2⟩
/-! ### _law_purse -/
theorem sc_law_purse : FnScope ["_law_cell"] ["_law_cell"] (defScope s_law_purse) := ⟨rfl, rfl, rfl, by decide +kernel, rfl, by decide +kernel, by decide +kernel⟩
def sp_law_purse (K : PySem.W.Frag) : Sp := fun vs H Q E => ∃ (c : Int), vs = [.int c] ∧ (∀ p H', But [] H H' → H p = none → Pu H' p 7 → Q (.ref p) H')
theorem o_law_purse (T : Tx K mg) {fd : FuncData} (F : FunD K "_law_purse" "_law_purse" (defArgs s_law_purse) (defBody s_law_purse) (defScope s_law_purse) [] [] (He.fAd K ("_law_purse", none)) fd) : FnOk P w K mg base CX0 1 (He.fAd K ("_law_purse", none)) fd ["_law_cell"] (sp_law_purse K) := by
  refine F.ok sc_law_purse (fun vs H Q E h => ?_) (fun cdv A outer s H vs Q E hr h => ?_)
  · obtain ⟨c, rfl, _⟩ := h
    rfl
  · obtain ⟨c, rfl, q⟩ := h
    refine ⟨_, PSs.nox (pss_one (ps_ret (pe_lst (pa_cons (pe_op op_mul (pv 0) (pe_callTy call_intB (by rfl) (b_int T) (by decide +kernel) (pa_cons (pe_cmpR op_ge (pv 0) (pe_op op_pow pe_int pe_int) (nomark _)) pa_nil))) (pa_cons (pe_op op_mod (pe_callTy call_intI (by rfl) (b_int T) (by decide +kernel) (pa_cons (pv 0) pa_nil)) pe_int) (pa_cons pe_int pa_nil)))))), ?_⟩
    rw [show L2.start ["_law_cell"] [.int c] = [some (.int c)] from rfl]
    simp only [tCallN, ga_to_text_0_base_x_machine_most, ga_to_text_2_most, ga_to_text_3_most, rIxS, tPar3, tCallW, tM0, tM1, rCat, tMake, tMeth, tDGet, sDPut, tSeq, tAsg, gName, tDrop, tRet, tRetN, tIfS, tNext, tTest, tB, tAnd, tOr, tNot, tAndV, tOrV, tNotV, tNever, tOp, tUn, rI0, rI, rU, tVar, tC, tCons, tNil, tBM, tBM0, tCB, tCall, tFld, sFld, tTup, tLst, gSub, gTup, gCons, gNil, tPar, tSl, tPart, tNoPart, rAppend, rClear, rSetL, rIxL, rIxT, rSlL, rEq, rNe, sl0, sl1, sl2, sl3, sl4, sl5, sl6, sl7, sl8, sl9, sl10, sl11, sl12, sl13, st0, st1, st2, st3, st4, st5, st6, st7, st8, st9, st10, st11, st12, st13, Option.some.injEq, V.int.injEq, V.bl.injEq, V.ref.injEq, V.str.injEq, List.cons.injEq, HO.ins.injEq, HO.lst.injEq, HO.tup.injEq, HO.dK.injEq, exists_eq_left', exists_eq_left, exists_eq_right, exists_and_left, exists_and_right, exists_const, and_assoc, true_and, and_true, decide_eq_true_eq, Int.toNat_natCast, mfl_width, mfl_base, mfl_rows, mfl_counts, mfl_entered, bfl_width, bfl_side, bfl_row, cx_K, upd_same, List.append_nil, List.cons_append, List.nil_append, List.length_cons, List.length_nil, tChain, Bool.not_true, Bool.not_false, if_true, if_false, tYes, scal_ii, scal_ss, scal_bb, ite_t, ite_f, dec_ii, dec_ss]
    refine ⟨⟨by decide, by decide, by decide⟩, .inr ⟨by split <;> decide, by split <;> decide⟩, by decide, by decide, fun p hp => q p _ (But.new0 hp) hp ⟨_, _, _, upd_same, ?_, by omega, by omega, by omega, by omega⟩⟩
    split
    · next h =>
      have h1 : (10 : Int) ^ Int.toNat 18 = 1000000000000000000 := by decide
      rw [h1] at h; omega
    · omega
theorem c_law_purse (T : Tx K mg) : Cal P w K mg base CX0 "_law_purse" 1 ["_law_cell"] [] (sp_law_purse K) := by
  obtain ⟨fd, F⟩ := f_law_purse T
  exact ⟨_, fd, [], G_law_purse T, F.kp, o_law_purse T F, B_law_purse F, .nil⟩
/-! ### _law_coin -/
theorem sc_law_coin : FnScope ["_law_purse_here", "_law_amount", "_law_coin_here", "_law_mixed"] ["_law_purse_here", "_law_amount"] (defScope s_law_coin) := ⟨rfl, rfl, rfl, by decide +kernel, rfl, by decide +kernel, by decide +kernel⟩
def sp_law_coin (K : PySem.W.Frag) : Sp := fun vs H Q E => ∃ (p : Addr) (N m : Nat), vs = [.ref p, .int (m : Int)] ∧ (Pu H p N) ∧ (N < 2 ^ 40) ∧ (0 < m ∧ m.log2 < 8000) ∧ (∀ (r : Int) H', But [p] H H' → Pu H' p (N + 1) → 0 ≤ r → r < (m : Int) → Q (.int r) H')
theorem o_law_coin (T : Tx K mg) {fd : FuncData} (F : FunD K "_law_coin" "_law_coin" (defArgs s_law_coin) (defBody s_law_coin) (defScope s_law_coin) [] [] (He.fAd K ("_law_coin", none)) fd) : FnOk P w K mg base CX0 1 (He.fAd K ("_law_coin", none)) fd ["_law_purse_here", "_law_amount"] (sp_law_coin K) := by
  refine F.ok sc_law_coin (fun vs H Q E h => ?_) (fun cdv A outer s H vs Q E hr h => ?_)
  · obtain ⟨p, N, m, rfl, _⟩ := h
    rfl
  · obtain ⟨p, N, m, rfl, hP, hN, hm, q⟩ := h
    refine ⟨_, PSs.nox (pss_cons (ps_if (pt_cmpR op_gt (pe_ix ix_list (pv 0) pe_int (fun _ _ => rfl)) pe_int (nomark _)) (pss_cons (ps_set (i := 2) sc_law_coin.nd rfl (.inl rfl) (pe_op op_mod (pe_callTy call_intI (by rfl) (b_int T) (by decide +kernel) (pa_cons (pe_ix ix_list (pv 0) pe_int (fun _ _ => rfl)) pa_nil)) (pv 1)))
      (pss_cons (ps_asg (pe_op op_fdivW (pe_ix ix_list (pv 0) pe_int (fun _ _ => rfl)) (pv 1)) (pg_sub (pv 0) pe_int set_list))
      (pss_one (ps_ret (pv 2))))) pss_nil)
      (pss_cons (ps_asg (pe_op op_add (pe_ix ix_list (pv 0) pe_int (fun _ _ => rfl)) pe_int) (pg_sub (pv 0) pe_int set_list))
      (pss_cons (ps_set (i := 3) sc_law_coin.nd rfl (.inl rfl) (pe_op op_mod (pe_callTy call_intI (by rfl) (b_int T) (by decide +kernel) (pa_cons (pe_op op_pow (pe_op op_add (pe_op op_add (pe_ix ix_list (pv 0) pe_int (fun _ _ => rfl)) (pe_op op_mul pe_int (pe_ix ix_list (pv 0) pe_int (fun _ _ => rfl)))) pe_int) pe_int) pa_nil)) pe_int))
      (pss_cons (ps_set (i := 3) sc_law_coin.nd rfl (.inl rfl) (pe_op op_mod (pe_callTy call_intI (by rfl) (b_int T) (by decide +kernel) (pa_cons (pe_op op_mul (pe_op op_add (pv 3) (pe_op op_mul pe_int (pe_ix ix_list (pv 0) pe_int (fun _ _ => rfl)))) (pe_op op_add (pe_op op_fdivW (pv 3) pe_int) pe_int)) pa_nil)) pe_int))
      (pss_one (ps_ret (pe_op op_mod (pe_callTy call_intI (by rfl) (b_int T) (by decide +kernel) (pa_cons (pe_op op_fdivW (pe_op op_mod (pe_callTy call_intI (by rfl) (b_int T) (by decide +kernel) (pa_cons (pe_op op_mul (pv 3) (pe_op op_add (pe_op op_fdivW (pv 3) pe_int) pe_int)) pa_nil)) pe_int) pe_int) pa_nil)) (pv 1)))))))), ?_⟩
    rw [show L2.start ["_law_purse_here", "_law_amount", "_law_coin_here", "_law_mixed"] [.ref p, .int (m : Int)] = [some (.ref p), some (.int (m : Int)), none, none] from rfl]
    obtain ⟨a, b, c, hp, ha, hb, hb2, hc, hc2⟩ := hP
    simp only [tCallN, ga_to_text_0_base_x_machine_most, ga_to_text_2_most, ga_to_text_3_most, rIxS, tPar3, tCallW, tM0, tM1, rCat, tMake, tMeth, tDGet, sDPut, tSeq, tAsg, gName, tDrop, tRet, tRetN, tIfS, tNext, tTest, tB, tAnd, tOr, tNot, tAndV, tOrV, tNotV, tNever, tOp, tUn, rI0, rI, rU, tVar, tC, tCons, tNil, tBM, tBM0, tCB, tCall, tFld, sFld, tTup, tLst, gSub, gTup, gCons, gNil, tPar, tSl, tPart, tNoPart, rAppend, rClear, rSetL, rIxL, rIxT, rSlL, rEq, rNe, sl0, sl1, sl2, sl3, sl4, sl5, sl6, sl7, sl8, sl9, sl10, sl11, sl12, sl13, st0, st1, st2, st3, st4, st5, st6, st7, st8, st9, st10, st11, st12, st13, Option.some.injEq, V.int.injEq, V.bl.injEq, V.ref.injEq, V.str.injEq, List.cons.injEq, HO.ins.injEq, HO.lst.injEq, HO.tup.injEq, HO.dK.injEq, exists_eq_left', exists_eq_left, exists_eq_right, exists_and_left, exists_and_right, exists_const, and_assoc, true_and, and_true, decide_eq_true_eq, Int.toNat_natCast, mfl_width, mfl_base, mfl_rows, mfl_counts, mfl_entered, bfl_width, bfl_side, bfl_row, cx_K, upd_same, List.append_nil, List.cons_append, List.nil_append, List.length_cons, List.length_nil, tChain, Bool.not_true, Bool.not_false, if_true, if_false, tYes, scal_ii, scal_ss, scal_bb, ite_t, ite_f, dec_ii, dec_ss]
    have hat : ∀ (G : Hp) (x y z : V), G p = some (.lst [x, y, z]) → SqL K G p [x, y, z] := fun G x y z h => SqL.of h
    refine ⟨_, SqL.of hp, _, rfl, _, rfl, ?_⟩
    refine ite2 (fun h0 => ?_) (fun h0 => ?_)
    · refine ⟨_, SqL.of hp, _, rfl, _, rfl, by omega, _, SqL.of hp, _, rfl, _, rfl, ⟨by omega, by rw [Int.natAbs_natCast]; omega⟩, _, hp, 0, rfl, ?_⟩
      refine q _ _ ((But.refl H).own (by simp)) ⟨a / m, b, c, upd_same, Int.ediv_nonneg ha (by omega), hb, hb2, hc, by omega⟩ (Int.emod_nonneg _ (by omega)) (Int.emod_lt_of_pos _ (by omega))
    · refine ⟨_, SqL.of hp, _, rfl, _, rfl, _, hp, 2, rfl, _, SqL.of upd_same, _, rfl, _, SqL.of upd_same, _, rfl, _, rfl, .inl ⟨by decide, by decide⟩, _, rfl, ⟨by decide, by decide, by omega⟩, by decide, ?_⟩
      generalize hm1 : (b + 80021 * (c + 1) + 9) ^ Int.toNat 3 % 2147483587 = m1
      have h1 : 0 ≤ m1 ∧ m1 < 2147483587 := by rw [← hm1]; exact ⟨Int.emod_nonneg _ (by decide), Int.emod_lt_of_pos _ (by decide)⟩
      refine ⟨_, SqL.of upd_same, _, rfl, _, rfl, .inl ⟨by decide, by decide⟩, ⟨by decide, by decide⟩, .inl ⟨by omega, by omega⟩, by decide, ?_⟩
      generalize hm2 : (m1 + 7 * (c + 1)) * (m1 / 1031 + 60089) % 2147483549 = m2
      have h2 : 0 ≤ m2 ∧ m2 < 2147483549 := by rw [← hm2]; exact ⟨Int.emod_nonneg _ (by decide), Int.emod_lt_of_pos _ (by decide)⟩
      refine ⟨⟨by decide, by decide⟩, .inl ⟨by omega, by omega⟩, by decide, ⟨by decide, by decide⟩, by omega, ?_⟩
      exact q _ _ ((But.refl H).own (by simp)) ⟨a, b, c + 1, upd_same, ha, hb, hb2, by omega, by omega⟩ (Int.emod_nonneg _ (by omega)) (Int.emod_lt_of_pos _ (by omega))
theorem c_law_coin (T : Tx K mg) : Cal P w K mg base CX0 "_law_coin" 1 ["_law_purse_here", "_law_amount"] [] (sp_law_coin K) := by
  obtain ⟨fd, F⟩ := f_law_coin T
  exact ⟨_, fd, [], G_law_coin T, F.kp, o_law_coin T F, B_law_coin F, .nil⟩
/-! ### _law_pick -/
theorem sc_law_pick : FnScope ["_law_purse_here", "_law_some"] ["_law_purse_here", "_law_some"] (defScope s_law_pick) := ⟨rfl, rfl, rfl, by decide +kernel, rfl, by decide +kernel, by decide +kernel⟩
def sp_law_pick (K : PySem.W.Frag) : Sp := fun vs H Q E => ∃ (p l : Addr) (N : Nat) (xs : List V), vs = [.ref p, .ref l] ∧ (Pu H p N) ∧ (N < 2 ^ 40) ∧ (H l = some (.lst xs)) ∧ (0 < xs.length ∧ xs.length < 2 ^ 40) ∧ (l ≠ p) ∧ (∀ x H', But [p] H H' → Pu H' p (N + 1) → x ∈ xs → Q x H')
theorem o_law_pick (T : Tx K mg) {fd : FuncData} (F : FunD K "_law_pick" "_law_pick" (defArgs s_law_pick) (defBody s_law_pick) (defScope s_law_pick) [] [] (He.fAd K ("_law_pick", none)) fd) : FnOk P w K mg base CX0 2 (He.fAd K ("_law_pick", none)) fd ["_law_purse_here", "_law_some"] (sp_law_pick K) := by
  refine F.ok sc_law_pick (fun vs H Q E h => ?_) (fun cdv A outer s H vs Q E hr h => ?_)
  · obtain ⟨p, l, N, xs, rfl, _⟩ := h
    rfl
  · obtain ⟨p, l, N, xs, rfl, hP, hN, hl, hx, hne, q⟩ := h
    refine ⟨_, PSs.nox (pss_one (ps_ret (pe_ix ix_list (pv 1) (pc (c_law_coin T) hr (by decide) pass0 (pa_cons (pv 0) (pa_cons (pe_callB call_len_seq (by rfl) (b_len T) PySem.boot_len (pa_cons (pv 1) pa_nil)) pa_nil))) (fun _ _ => rfl)))), ?_⟩
    rw [show L2.start ["_law_purse_here", "_law_some"] [.ref p, .ref l] = [some (.ref p), some (.ref l)] from rfl]
    simp only [tCallN, ga_to_text_0_base_x_machine_most, ga_to_text_2_most, ga_to_text_3_most, rIxS, tPar3, tCallW, tM0, tM1, rCat, tMake, tMeth, tDGet, sDPut, tSeq, tAsg, gName, tDrop, tRet, tRetN, tIfS, tNext, tTest, tB, tAnd, tOr, tNot, tAndV, tOrV, tNotV, tNever, tOp, tUn, rI0, rI, rU, tVar, tC, tCons, tNil, tBM, tBM0, tCB, tCall, tFld, sFld, tTup, tLst, gSub, gTup, gCons, gNil, tPar, tSl, tPart, tNoPart, rAppend, rClear, rSetL, rIxL, rIxT, rSlL, rEq, rNe, sl0, sl1, sl2, sl3, sl4, sl5, sl6, sl7, sl8, sl9, sl10, sl11, sl12, sl13, st0, st1, st2, st3, st4, st5, st6, st7, st8, st9, st10, st11, st12, st13, Option.some.injEq, V.int.injEq, V.bl.injEq, V.ref.injEq, V.str.injEq, List.cons.injEq, HO.ins.injEq, HO.lst.injEq, HO.tup.injEq, HO.dK.injEq, exists_eq_left', exists_eq_left, exists_eq_right, exists_and_left, exists_and_right, exists_const, and_assoc, true_and, and_true, decide_eq_true_eq, Int.toNat_natCast, mfl_width, mfl_base, mfl_rows, mfl_counts, mfl_entered, bfl_width, bfl_side, bfl_row, cx_K, upd_same, List.append_nil, List.cons_append, List.nil_append, List.length_cons, List.length_nil, tChain, Bool.not_true, Bool.not_false, if_true, if_false, tYes, scal_ii, scal_ss, scal_bb, ite_t, ite_f, dec_ii, dec_ss]
    refine ⟨_, .inl (SqL.of hl), p, N, xs.length, rfl, hP, hN, ⟨hx.1, ?_⟩, fun r H' b1 hP' h0 h1 => ?_⟩
    · have := (Nat.log2_lt (n := xs.length) (k := 40) (by omega)).mpr hx.2
      omega
    · obtain ⟨k, rfl⟩ := Int.eq_ofNat_of_zero_le h0
      have hk : k < xs.length := by omega
      refine ⟨_, _, rfl, SqL.of (b1 _ _ hl (by simp [hne])), _, at_of (j := k) rfl (List.getElem?_eq_getElem hk), q _ _ b1 hP' (List.getElem_mem hk)⟩
theorem c_law_pick (T : Tx K mg) : Cal P w K mg base CX0 "_law_pick" 2 ["_law_purse_here", "_law_some"] [] (sp_law_pick K) := by
  obtain ⟨fd, F⟩ := f_law_pick T
  exact ⟨_, fd, [], G_law_pick T, F.kp, o_law_pick T F, B_law_pick F, .nil⟩
end


end Th

namespace Th
open PySem PySem.Spec PyProof.Rows L2 Tb
section
variable {P : Program} {w : World} {K : PySem.W.Frag} {mg : Str → Option Value} {base : Heap}
/-! ### _law_row -/
theorem sc_law_row : FnScope ["_law_purse_here", "_law_bits", "_law_size", "_law_found", "_law_k"] ["_law_purse_here", "_law_bits", "_law_size"] (defScope s_law_row) := ⟨rfl, rfl, rfl, by decide +kernel, rfl, by decide +kernel, by decide +kernel⟩
def sp_law_row (K : PySem.W.Frag) : Sp := fun vs H Q E => ∃ (p : Addr) (N b : Nat) (s : Nat), vs = [.ref p, .int (b : Int), .int (s : Int)] ∧ (Pu H p N) ∧ (N + 3 * s < 2 ^ 40) ∧ (0 < b ∧ b ≤ 30) ∧ (s ≤ 100) ∧ (∀ l (ds : List Int) H', But [p] H H' → Pu H' p (N + 3 * s) → H l = none → H' l = some (.lst (ds.map .int)) → Dig b ds → ds.length ≤ s → Q (.ref l) H')
theorem o_law_row (T : Tx K mg) {fd : FuncData} (F : FunD K "_law_row" "_law_row" (defArgs s_law_row) (defBody s_law_row) (defScope s_law_row) [] [] (He.fAd K ("_law_row", none)) fd) : FnOk P w K mg base CX0 3 (He.fAd K ("_law_row", none)) fd ["_law_purse_here", "_law_bits", "_law_size"] (sp_law_row K) := by
  refine F.ok sc_law_row (fun vs H Q E h => ?_) (fun cdv A outer s H vs Q E hr h => ?_)
  · obtain ⟨p, N, b, s, rfl, _⟩ := h
    rfl
  · obtain ⟨p, N, b, s, rfl, hP, hN, hb, hs, q⟩ := h
    refine ⟨_, PSs.nox (pss_cons (ps_set (i := 3) sc_law_row.nd rfl (.inl rfl) (pe_lst pa_nil))
      (Evl.pss_cut (ps_for PassesOwn.never rfl (pi_range1 (by rfl) (b_range T) (pa_cons (pv 2) pa_nil)) (pg_name (i := 4) sc_law_row.nd rfl (.inl rfl)) (pss_one (ps_expr (pe_bm PySem.F.plainAttrs_list PySem.F.slot_list_append PySem.F.type_list_append mt_append (pv 3) (pa_cons (pc (c_law_pick T) hr (by decide) pass0 (pa_cons (pv 0) (pa_cons (pe_lst (pa_cons (pc (c_law_coin T) hr (by decide) pass0 (pa_cons (pv 0) (pa_cons (pe_op op_shlW pe_int (pv 1)) pa_nil))) (pa_cons (pc (c_law_coin T) hr (by decide) pass0 (pa_cons (pv 0) (pa_cons (pe_op op_shlW pe_int (pv 1)) pa_nil))) (pa_cons pe_int (pa_cons (pe_op op_sub (pe_op op_shlW pe_int (pv 1)) pe_int) pa_nil))))) pa_nil))) pa_nil)))))
      (pss_one (ps_ret (pe_ifExp (pt_cmpR (op_neD hr.units) (pv 3) (pe_lst pa_nil) (nomark _)) (pe_op op_cat (pe_slice sl_list (pv 3) po_none (po_some (pe_un un_neg pe_int))) (pe_lst (pa_cons (pe_callB (call_max2 rfl) (by rfl) (b_max T) (by decide +kernel) (pa_cons pe_int (pa_cons (pe_ix ix_list (pv 3) (pe_un un_neg pe_int) (fun _ _ => rfl)) pa_nil))) pa_nil))) (pe_lst pa_nil)))))), ?_⟩
    rw [show L2.start ["_law_purse_here", "_law_bits", "_law_size", "_law_found", "_law_k"] [.ref p, .int (b : Int), .int (s : Int)] = [some (.ref p), some (.int (b : Int)), some (.int (s : Int)), none, none] from rfl]
    simp only [tCallN, ga_to_text_0_base_x_machine_most, ga_to_text_2_most, ga_to_text_3_most, rIxS, tPar3, tCallW, tM0, tM1, rCat, tMake, tMeth, tDGet, sDPut, tSeq, tAsg, gName, tDrop, tRet, tRetN, tIfS, tNext, tTest, tB, tAnd, tOr, tNot, tAndV, tOrV, tNotV, tNever, tOp, tUn, rI0, rI, rU, tVar, tC, tCons, tNil, tBM, tBM0, tCB, tCall, tFld, sFld, tTup, tLst, gSub, gTup, gCons, gNil, tPar, tSl, tPart, tNoPart, rAppend, rClear, rSetL, rIxL, rIxT, rSlL, rEq, rNe, sl0, sl1, sl2, sl3, sl4, sl5, sl6, sl7, sl8, sl9, sl10, sl11, sl12, sl13, st0, st1, st2, st3, st4, st5, st6, st7, st8, st9, st10, st11, st12, st13, Option.some.injEq, V.int.injEq, V.bl.injEq, V.ref.injEq, V.str.injEq, List.cons.injEq, HO.ins.injEq, HO.lst.injEq, HO.tup.injEq, HO.dK.injEq, exists_eq_left', exists_eq_left, exists_eq_right, exists_and_left, exists_and_right, exists_const, and_assoc, true_and, and_true, decide_eq_true_eq, Int.toNat_natCast, mfl_width, mfl_base, mfl_rows, mfl_counts, mfl_entered, bfl_width, bfl_side, bfl_row, cx_K, upd_same, List.append_nil, List.cons_append, List.nil_append, List.length_cons, List.length_nil, tChain, Bool.not_true, Bool.not_false, if_true, if_false, tYes, scal_ii, scal_ss, scal_bb, ite_t, ite_f, dec_ii, dec_ss]
    refine ⟨Nat.zero_le _, fun l hl => ?_⟩
    have hpl : p ≠ l := by
      obtain ⟨_, _, _, hp, _⟩ := hP
      exact ne_of_none hp hl
    have hbp : (1 : Int) * 2 ^ b = ((2 ^ b : Nat) : Int) := by push_cast; omega
    have hbpos : 0 < 2 ^ b := two_posN b
    have hb30 : 2 ^ b ≤ 2 ^ 30 := Nat.pow_le_pow_right (by decide) hb.2
    have hlog : (2 ^ b).log2 < 8000 := by rw [Nat.log2_two_pow]; omega
    refine fcutR (n := (s : Int)) (fun σ' H' => But [p] H H' ∧ Pu H' p (N + 3 * s) ∧ ∃ (ds : List Int) (y : Option V), ds.length = s ∧ Dig b ds ∧ H' l = some (.lst (ds.map .int)) ∧ σ' = [some (.ref p), some (.int (b : Nat)), some (.int (s : Nat)), some (.ref l), y])
      (by omega)
      (fun i σ' H' => But [p] H H' ∧ Pu H' p (N + 3 * i) ∧ ∃ (ds : List Int) (y : Option V), ds.length = i ∧ Dig b ds ∧ H' l = some (.lst (ds.map .int)) ∧ σ' = [some (.ref p), some (.int (b : Nat)), some (.int (s : Nat)), some (.ref l), y])
      (by intro Q q; simp only [tCallN, ga_to_text_0_base_x_machine_most, ga_to_text_2_most, ga_to_text_3_most, rIxS, tPar3, tCallW, tM0, tM1, rCat, tMake, tMeth, tDGet, sDPut, tSeq, tAsg, gName, tDrop, tRet, tRetN, tIfS, tNext, tTest, tB, tAnd, tOr, tNot, tAndV, tOrV, tNotV, tNever, tOp, tUn, rI0, rI, rU, tVar, tC, tCons, tNil, tBM, tBM0, tCB, tCall, tFld, sFld, tTup, tLst, gSub, gTup, gCons, gNil, tPar, tSl, tPart, tNoPart, rAppend, rClear, rSetL, rIxL, rIxT, rSlL, rEq, rNe, sl0, sl1, sl2, sl3, sl4, sl5, sl6, sl7, sl8, sl9, sl10, sl11, sl12, sl13, st0, st1, st2, st3, st4, st5, st6, st7, st8, st9, st10, st11, st12, st13, Option.some.injEq, V.int.injEq, V.bl.injEq, V.ref.injEq, V.str.injEq, List.cons.injEq, HO.ins.injEq, HO.lst.injEq, HO.tup.injEq, HO.dK.injEq, exists_eq_left', exists_eq_left, exists_eq_right, exists_and_left, exists_and_right, exists_const, and_assoc, true_and, and_true, decide_eq_true_eq, Int.toNat_natCast, mfl_width, mfl_base, mfl_rows, mfl_counts, mfl_entered, bfl_width, bfl_side, bfl_row, cx_K, upd_same, List.append_nil, List.cons_append, List.nil_append, List.length_cons, List.length_nil, tChain, Bool.not_true, Bool.not_false, if_true, if_false, tYes, scal_ii, scal_ss, scal_bb, ite_t, ite_f, dec_ii, dec_ss]; exact q) ?_ ?_ ?_ ?_
    · refine ⟨But.new0 hl, hP.but (L := []) (But.new0 hl) (by simp), [], none, rfl, Dig.nil, upd_same, rfl⟩
    · rintro Vn M hV hM i σ' H1 hi ⟨b1, hP1, ds, y, rfl, hdd, hll, rfl⟩
      have hi' : ds.length < s := by simpa using hi
      simp only [hll, tyl hll, hbp, tCallN, ga_to_text_0_base_x_machine_most, ga_to_text_2_most, ga_to_text_3_most, rIxS, tPar3, tCallW, tM0, tM1, rCat, tMake, tMeth, tDGet, sDPut, tSeq, tAsg, gName, tDrop, tRet, tRetN, tIfS, tNext, tTest, tB, tAnd, tOr, tNot, tAndV, tOrV, tNotV, tNever, tOp, tUn, rI0, rI, rU, tVar, tC, tCons, tNil, tBM, tBM0, tCB, tCall, tFld, sFld, tTup, tLst, gSub, gTup, gCons, gNil, tPar, tSl, tPart, tNoPart, rAppend, rClear, rSetL, rIxL, rIxT, rSlL, rEq, rNe, sl0, sl1, sl2, sl3, sl4, sl5, sl6, sl7, sl8, sl9, sl10, sl11, sl12, sl13, st0, st1, st2, st3, st4, st5, st6, st7, st8, st9, st10, st11, st12, st13, Option.some.injEq, V.int.injEq, V.bl.injEq, V.ref.injEq, V.str.injEq, List.cons.injEq, HO.ins.injEq, HO.lst.injEq, HO.tup.injEq, HO.dK.injEq, exists_eq_left', exists_eq_left, exists_eq_right, exists_and_left, exists_and_right, exists_const, and_assoc, true_and, and_true, decide_eq_true_eq, Int.toNat_natCast, mfl_width, mfl_base, mfl_rows, mfl_counts, mfl_entered, bfl_width, bfl_side, bfl_row, cx_K, upd_same, List.append_nil, List.cons_append, List.nil_append, List.length_cons, List.length_nil, tChain, Bool.not_true, Bool.not_false, if_true, if_false, tYes, scal_ii, scal_ss, scal_bb, ite_t, ite_f, dec_ii, dec_ss]
      refine ⟨oneShl (by omega), ?_⟩
      refine ⟨p, _, 2 ^ b, rfl, hP1, by omega, ⟨hbpos, hlog⟩, fun r1 H2 b2 hP2 h10 h11 => ?_⟩
      refine ⟨oneShl (by omega), ?_⟩
      refine ⟨p, _, 2 ^ b, rfl, hP2, by omega, ⟨hbpos, hlog⟩, fun r2 H3 b3 hP3 h20 h21 => ?_⟩
      refine ⟨oneShl (by omega), by decide, fun c hc => ?_⟩
      have hl3 := b3 _ _ (b2 _ _ hll (by simp [hpl.symm])) (by simp [hpl.symm])
      have hpc : p ≠ c := by
        obtain ⟨_, _, _, hp, _⟩ := hP3
        exact ne_of_none hp hc
      refine ⟨p, c, _, _, rfl, hP3.but (L := []) (But.new0 hc) (by simp), by omega, upd_same, ⟨by simp, by simp⟩, hpc.symm, fun x H4 b4 hP4 hx => ?_⟩
      have hl4 := b4 _ _ (show upd H3 c _ l = _ by rw [upd_ne (ne_of_none hl3 hc)]; exact hl3) (by simp [hpl.symm])
      obtain ⟨r, rfl, hr0, hr1⟩ : ∃ r, x = .int r ∧ 0 ≤ r ∧ r < ((2 ^ b : Nat) : Int) := by
        simp only [List.mem_cons, List.not_mem_nil, or_false] at hx
        rcases hx with rfl | rfl | rfl | rfl
        · exact ⟨_, rfl, h10, h11⟩
        · exact ⟨_, rfl, h20, h21⟩
        · exact ⟨_, rfl, by omega, by omega⟩
        · exact ⟨_, rfl, by omega, by omega⟩
      have bb : But [p] H1 H4 := (b2.trans b3).trans (((But.new0 hc).nil).trans b4)
      refine ⟨_, hl4, by rw [List.length_map]; exact Nat.lt_of_lt_of_le (by omega : ds.length < 200) (by decide), ?_⟩
      refine hV _ _ _ ⟨(b1.trans bb).mut hl, (hP4.but (L := [l]) ((But.refl _).own (by simp)) (by simp [hpl])).up (by omega), ds ++ [r], _, by simp, hdd.append (Dig.cons ⟨hr0, by exact_mod_cast hr1⟩ Dig.nil), by rw [upd_same, List.map_append]; rfl, rfl⟩
    · rintro σ' H1 ⟨b1, hP1, ds, y, h1, hdd, hll, rfl⟩
      rw [Int.toNat_natCast] at hP1 h1
      exact ⟨b1, hP1, ds, y, h1, hdd, hll, rfl⟩
    · rintro σ' H1 ⟨b1, hP1, ds, y, h1, hdd, hll, rfl⟩
      simp only [tCallN, ga_to_text_0_base_x_machine_most, ga_to_text_2_most, ga_to_text_3_most, rIxS, tPar3, tCallW, tM0, tM1, rCat, tMake, tMeth, tDGet, sDPut, tSeq, tAsg, gName, tDrop, tRet, tRetN, tIfS, tNext, tTest, tB, tAnd, tOr, tNot, tAndV, tOrV, tNotV, tNever, tOp, tUn, rI0, rI, rU, tVar, tC, tCons, tNil, tBM, tBM0, tCB, tCall, tFld, sFld, tTup, tLst, gSub, gTup, gCons, gNil, tPar, tSl, tPart, tNoPart, rAppend, rClear, rSetL, rIxL, rIxT, rSlL, rEq, rNe, sl0, sl1, sl2, sl3, sl4, sl5, sl6, sl7, sl8, sl9, sl10, sl11, sl12, sl13, st0, st1, st2, st3, st4, st5, st6, st7, st8, st9, st10, st11, st12, st13, Option.some.injEq, V.int.injEq, V.bl.injEq, V.ref.injEq, V.str.injEq, List.cons.injEq, HO.ins.injEq, HO.lst.injEq, HO.tup.injEq, HO.dK.injEq, exists_eq_left', exists_eq_left, exists_eq_right, exists_and_left, exists_and_right, exists_const, and_assoc, true_and, and_true, decide_eq_true_eq, Int.toNat_natCast, mfl_width, mfl_base, mfl_rows, mfl_counts, mfl_entered, bfl_width, bfl_side, bfl_row, cx_K, upd_same, List.append_nil, List.cons_append, List.nil_append, List.length_cons, List.length_nil, tChain, Bool.not_true, Bool.not_false, if_true, if_false, tYes, scal_ii, scal_ss, scal_bb, ite_t, ite_f, dec_ii, dec_ss]
      simp only [tIf, rNeD, tCallN, ga_to_text_0_base_x_machine_most, ga_to_text_2_most, ga_to_text_3_most, rIxS, tPar3, tCallW, tM0, tM1, rCat, tMake, tMeth, tDGet, sDPut, tSeq, tAsg, gName, tDrop, tRet, tRetN, tIfS, tNext, tTest, tB, tAnd, tOr, tNot, tAndV, tOrV, tNotV, tNever, tOp, tUn, rI0, rI, rU, tVar, tC, tCons, tNil, tBM, tBM0, tCB, tCall, tFld, sFld, tTup, tLst, gSub, gTup, gCons, gNil, tPar, tSl, tPart, tNoPart, rAppend, rClear, rSetL, rIxL, rIxT, rSlL, rEq, rNe, sl0, sl1, sl2, sl3, sl4, sl5, sl6, sl7, sl8, sl9, sl10, sl11, sl12, sl13, st0, st1, st2, st3, st4, st5, st6, st7, st8, st9, st10, st11, st12, st13, Option.some.injEq, V.int.injEq, V.bl.injEq, V.ref.injEq, V.str.injEq, List.cons.injEq, HO.ins.injEq, HO.lst.injEq, HO.tup.injEq, HO.dK.injEq, exists_eq_left', exists_eq_left, exists_eq_right, exists_and_left, exists_and_right, exists_const, and_assoc, true_and, and_true, decide_eq_true_eq, Int.toNat_natCast, mfl_width, mfl_base, mfl_rows, mfl_counts, mfl_entered, bfl_width, bfl_side, bfl_row, cx_K, upd_same, List.append_nil, List.cons_append, List.nil_append, List.length_cons, List.length_nil, tChain, Bool.not_true, Bool.not_false, if_true, if_false, tYes, scal_ii, scal_ss, scal_bb, ite_t, ite_f, dec_ii, dec_ss]
      refine ⟨Nat.zero_le _, fun c hc => ⟨_, dp_list (by rw [upd_ne (ne_of_none hll hc)]; exact hll), _, .lst (SqL.of upd_same) .nil, shaped_ints ds, by decide, ?_⟩⟩
      rw [eqv_nil]
      have hlc := ne_of_none hll hc
      generalize hG : upd H1 c _ = G
      have b2 : But [p] H G := by rw [← hG]; exact b1.new hc
      have hPG : Pu G p (N + 3 * s) := by rw [← hG]; exact hP1.but (L := []) (But.new0 hc) (by simp)
      have hlG : G l = some (.lst (ds.map .int)) := by rw [← hG, upd_ne hlc]; exact hll
      by_cases hds : ds = []
      · simp only [hds, decide_true, tCallN, ga_to_text_0_base_x_machine_most, ga_to_text_2_most, ga_to_text_3_most, rIxS, tPar3, tCallW, tM0, tM1, rCat, tMake, tMeth, tDGet, sDPut, tSeq, tAsg, gName, tDrop, tRet, tRetN, tIfS, tNext, tTest, tB, tAnd, tOr, tNot, tAndV, tOrV, tNotV, tNever, tOp, tUn, rI0, rI, rU, tVar, tC, tCons, tNil, tBM, tBM0, tCB, tCall, tFld, sFld, tTup, tLst, gSub, gTup, gCons, gNil, tPar, tSl, tPart, tNoPart, rAppend, rClear, rSetL, rIxL, rIxT, rSlL, rEq, rNe, sl0, sl1, sl2, sl3, sl4, sl5, sl6, sl7, sl8, sl9, sl10, sl11, sl12, sl13, st0, st1, st2, st3, st4, st5, st6, st7, st8, st9, st10, st11, st12, st13, Option.some.injEq, V.int.injEq, V.bl.injEq, V.ref.injEq, V.str.injEq, List.cons.injEq, HO.ins.injEq, HO.lst.injEq, HO.tup.injEq, HO.dK.injEq, exists_eq_left', exists_eq_left, exists_eq_right, exists_and_left, exists_and_right, exists_const, and_assoc, true_and, and_true, decide_eq_true_eq, Int.toNat_natCast, mfl_width, mfl_base, mfl_rows, mfl_counts, mfl_entered, bfl_width, bfl_side, bfl_row, cx_K, upd_same, List.append_nil, List.cons_append, List.nil_append, List.length_cons, List.length_nil, tChain, Bool.not_true, Bool.not_false, if_true, if_false, tYes, scal_ii, scal_ss, scal_bb, ite_t, ite_f, dec_ii, dec_ss]
        refine ⟨Nat.zero_le _, fun r hr => q r [] _ (b2.new hr) (hPG.but (L := []) (But.new0 hr) (by simp)) (b2.free hr ?_) upd_same Dig.nil (Nat.zero_le _)⟩
        obtain ⟨_, _, _, hpG, _⟩ := hPG
        have := ne_of_none hpG hr
        simp [this.symm]
      · simp only [hds, decide_false, tCallN, ga_to_text_0_base_x_machine_most, ga_to_text_2_most, ga_to_text_3_most, rIxS, tPar3, tCallW, tM0, tM1, rCat, tMake, tMeth, tDGet, sDPut, tSeq, tAsg, gName, tDrop, tRet, tRetN, tIfS, tNext, tTest, tB, tAnd, tOr, tNot, tAndV, tOrV, tNotV, tNever, tOp, tUn, rI0, rI, rU, tVar, tC, tCons, tNil, tBM, tBM0, tCB, tCall, tFld, sFld, tTup, tLst, gSub, gTup, gCons, gNil, tPar, tSl, tPart, tNoPart, rAppend, rClear, rSetL, rIxL, rIxT, rSlL, rEq, rNe, sl0, sl1, sl2, sl3, sl4, sl5, sl6, sl7, sl8, sl9, sl10, sl11, sl12, sl13, st0, st1, st2, st3, st4, st5, st6, st7, st8, st9, st10, st11, st12, st13, Option.some.injEq, V.int.injEq, V.bl.injEq, V.ref.injEq, V.str.injEq, List.cons.injEq, HO.ins.injEq, HO.lst.injEq, HO.tup.injEq, HO.dK.injEq, exists_eq_left', exists_eq_left, exists_eq_right, exists_and_left, exists_and_right, exists_const, and_assoc, true_and, and_true, decide_eq_true_eq, Int.toNat_natCast, mfl_width, mfl_base, mfl_rows, mfl_counts, mfl_entered, bfl_width, bfl_side, bfl_row, cx_K, upd_same, List.append_nil, List.cons_append, List.nil_append, List.length_cons, List.length_nil, tChain, Bool.not_true, Bool.not_false, if_true, if_false, tYes, scal_ii, scal_ss, scal_bb, ite_t, ite_f, dec_ii, dec_ss]
        obtain ⟨d0, t, rfl⟩ : ∃ d0 t, ds = d0 ++ [t] := ⟨ds.dropLast, ds.getLast hds, (List.dropLast_concat_getLast hds).symm⟩
        refine ⟨_, SqL.of hlG, fun c1 hc1 => ?_⟩
        have hl1 := ne_of_none hlG hc1
        rw [cut_but, List.map_append]
        refine ⟨_, SqL.of (by rw [upd_ne hl1]; exact hlG), V.int t, by rw [List.map_append]; exact atI_last _ _, t, rfl, by decide, fun c2 hc2 => ?_⟩
        have hc12 : c1 ≠ c2 := fun z => by rw [z, upd_same] at hc2; cases hc2
        refine ⟨(d0.map V.int), by rw [upd_ne hc12, upd_same]; simp, by rw [List.length_map]; rw [List.length_append] at h1; exact Nat.le_trans (by simp at h1 ⊢; omega : d0.length + (0 + 1) ≤ 101) (by decide), fun r hr => ?_⟩
        have b4 : ∀ o, But [p] H (upd (upd (upd G c1 (.lst ((d0.map V.int ++ [t].map V.int).dropLast))) c2 (.lst [V.int (if t > 1 then t else 1)])) r o) := fun o => ((b2.new hc1).new hc2).new hr
        have hP4 : ∀ o, Pu (upd (upd (upd G c1 (.lst ((d0.map V.int ++ [t].map V.int).dropLast))) c2 (.lst [V.int (if t > 1 then t else 1)])) r o) p (N + 3 * s) := fun o =>
          (((hPG.but (L := []) (But.new0 hc1) (by simp)).but (L := []) (But.new0 hc2) (by simp)).but (L := []) (But.new0 hr) (by simp))
        have hrH : H r = none := by
          refine (b2.new hc1).new hc2 |>.free hr ?_
          obtain ⟨_, _, _, hpG, _⟩ := (hPG.but (L := []) (But.new0 hc1) (by simp)).but (L := []) (But.new0 hc2) (by simp)
          have := ne_of_none hpG hr
          simp [this.symm]
        refine q r (d0 ++ [if t > 1 then t else 1]) _ (b4 _) (hP4 _) hrH ?_ ?_ ?_
        · rw [upd_same]; simp
        · have ht := hdd t (by simp)
          refine Dig.append (fun z hz => hdd z (by simp [hz])) (Dig.cons ?_ Dig.nil)
          have : (2 : Int) ^ 1 ≤ 2 ^ b := by
            have := Nat.pow_le_pow_right (show 0 < 2 by decide) hb.1
            exact_mod_cast this
          split <;> omega
        · rw [List.length_append] at h1 ⊢; simp at h1 ⊢; omega
theorem c_law_row (T : Tx K mg) : Cal P w K mg base CX0 "_law_row" 3 ["_law_purse_here", "_law_bits", "_law_size"] [] (sp_law_row K) := by
  obtain ⟨fd, F⟩ := f_law_row T
  exact ⟨_, fd, [], G_law_row T, F.kp, o_law_row T F, B_law_row F, .nil⟩
/-! ### _law_worth -/
theorem sc_law_worth : FnScope ["_law_bits", "_law_row_here", "_law_found", "_law_digit"] ["_law_bits", "_law_row_here"] (defScope s_law_worth) := ⟨rfl, rfl, rfl, by decide +kernel, rfl, by decide +kernel, by decide +kernel⟩
def sp_law_worth (K : PySem.W.Frag) : Sp := fun vs H Q E => ∃ (b : Nat) (l : Addr) (ds : List Int), vs = [.int (b : Int), .ref l] ∧ (H l = some (.lst (ds.map .int))) ∧ (Dig b ds) ∧ (0 < b ∧ b ≤ 30) ∧ (ds.length ≤ 100) ∧ (∀ H', But [] H H' → Q (.int (val b ds)) H')
theorem o_law_worth (T : Tx K mg) {fd : FuncData} (F : FunD K "_law_worth" "_law_worth" (defArgs s_law_worth) (defBody s_law_worth) (defScope s_law_worth) [] [] (He.fAd K ("_law_worth", none)) fd) : FnOk P w K mg base CX0 1 (He.fAd K ("_law_worth", none)) fd ["_law_bits", "_law_row_here"] (sp_law_worth K) := by
  refine F.ok sc_law_worth (fun vs H Q E h => ?_) (fun cdv A outer s H vs Q E hr h => ?_)
  · obtain ⟨b, l, ds, rfl, _⟩ := h
    rfl
  · obtain ⟨b, l, ds, rfl, hl, hd, hb, hs, q⟩ := h
    refine ⟨_, PSs.nox (pss_cons (ps_set (i := 2) sc_law_worth.nd rfl (.inl rfl) pe_int)
      (Evl.pss_cut (ps_for PassesOwn.never rfl (pi_list (pe_revL (pv 1))) (pg_name (i := 3) sc_law_worth.nd rfl (.inl rfl)) (pss_one (ps_set (i := 2) sc_law_worth.nd rfl (.inl rfl) (pe_op op_add (pe_op op_shlW (pv 2) (pv 0)) (pv 3)))))
      (pss_one (ps_ret (pv 2))))), ?_⟩
    rw [show L2.start ["_law_bits", "_law_row_here", "_law_found", "_law_digit"] [.int (b : Int), .ref l] = [some (.int (b : Int)), some (.ref l), none, none] from rfl]
    simp only [tCallN, ga_to_text_0_base_x_machine_most, ga_to_text_2_most, ga_to_text_3_most, rIxS, tPar3, tCallW, tM0, tM1, rCat, tMake, tMeth, tDGet, sDPut, tSeq, tAsg, gName, tDrop, tRet, tRetN, tIfS, tNext, tTest, tB, tAnd, tOr, tNot, tAndV, tOrV, tNotV, tNever, tOp, tUn, rI0, rI, rU, tVar, tC, tCons, tNil, tBM, tBM0, tCB, tCall, tFld, sFld, tTup, tLst, gSub, gTup, gCons, gNil, tPar, tSl, tPart, tNoPart, rAppend, rClear, rSetL, rIxL, rIxT, rSlL, rEq, rNe, sl0, sl1, sl2, sl3, sl4, sl5, sl6, sl7, sl8, sl9, sl10, sl11, sl12, sl13, st0, st1, st2, st3, st4, st5, st6, st7, st8, st9, st10, st11, st12, st13, Option.some.injEq, V.int.injEq, V.bl.injEq, V.ref.injEq, V.str.injEq, List.cons.injEq, HO.ins.injEq, HO.lst.injEq, HO.tup.injEq, HO.dK.injEq, exists_eq_left', exists_eq_left, exists_eq_right, exists_and_left, exists_and_right, exists_const, and_assoc, true_and, and_true, decide_eq_true_eq, Int.toNat_natCast, mfl_width, mfl_base, mfl_rows, mfl_counts, mfl_entered, bfl_width, bfl_side, bfl_row, cx_K, upd_same, List.append_nil, List.cons_append, List.nil_append, List.length_cons, List.length_nil, tChain, Bool.not_true, Bool.not_false, if_true, if_false, tYes, scal_ii, scal_ss, scal_bb, ite_t, ite_f, dec_ii, dec_ss]
    refine fcutL (xs := (ds.map V.int).reverse) (fun σ' H' => But [] H H' ∧ ∃ y, σ' = [some (.int (b : Nat)), some (.ref l), some (.int (val b ds)), y])
      (fun a H' => But [] H H' ∧ H' a = some (.lst (ds.map V.int).reverse))
      (fun a i σ' H' => But [] H H' ∧ H' a = some (.lst (ds.map V.int).reverse) ∧ ∃ y, σ' = [some (.int (b : Nat)), some (.ref l), some (.int (fromTop b (ds.reverse.take i))), y])
      ?_ ?_ ?_ ?_ ?_ ?_
    · intro Q q
      simp only [tRevL, tCallN, ga_to_text_0_base_x_machine_most, ga_to_text_2_most, ga_to_text_3_most, rIxS, tPar3, tCallW, tM0, tM1, rCat, tMake, tMeth, tDGet, sDPut, tSeq, tAsg, gName, tDrop, tRet, tRetN, tIfS, tNext, tTest, tB, tAnd, tOr, tNot, tAndV, tOrV, tNotV, tNever, tOp, tUn, rI0, rI, rU, tVar, tC, tCons, tNil, tBM, tBM0, tCB, tCall, tFld, sFld, tTup, tLst, gSub, gTup, gCons, gNil, tPar, tSl, tPart, tNoPart, rAppend, rClear, rSetL, rIxL, rIxT, rSlL, rEq, rNe, sl0, sl1, sl2, sl3, sl4, sl5, sl6, sl7, sl8, sl9, sl10, sl11, sl12, sl13, st0, st1, st2, st3, st4, st5, st6, st7, st8, st9, st10, st11, st12, st13, Option.some.injEq, V.int.injEq, V.bl.injEq, V.ref.injEq, V.str.injEq, List.cons.injEq, HO.ins.injEq, HO.lst.injEq, HO.tup.injEq, HO.dK.injEq, exists_eq_left', exists_eq_left, exists_eq_right, exists_and_left, exists_and_right, exists_const, and_assoc, true_and, and_true, decide_eq_true_eq, Int.toNat_natCast, mfl_width, mfl_base, mfl_rows, mfl_counts, mfl_entered, bfl_width, bfl_side, bfl_row, cx_K, upd_same, List.append_nil, List.cons_append, List.nil_append, List.length_cons, List.length_nil, tChain, Bool.not_true, Bool.not_false, if_true, if_false, tYes, scal_ii, scal_ss, scal_bb, ite_t, ite_f, dec_ii, dec_ss]
      exact ⟨_, SqL.of hl, fun c hc => q c _ ⟨But.new0 hc, upd_same⟩⟩
    · rintro a H1 ⟨b1, ha⟩
      exact ⟨b1, ha, none, rfl⟩
    · rintro a i σ' H1 _ ⟨b1, ha, _⟩; exact SqL.of ha
    · rintro Vn M a hV hM i x σ' H1 hx ⟨b1, ha, y, rfl⟩
      rw [← List.map_reverse] at hx
      obtain ⟨d, hd', rfl⟩ : ∃ d, ds.reverse[i]? = some d ∧ V.int d = x := by
        rw [List.getElem?_map] at hx
        cases e : ds.reverse[i]? with
        | none => rw [e] at hx; cases hx
        | some z => rw [e] at hx; exact ⟨z, rfl, Option.some.inj hx⟩
      have hdr : Dig b (ds.reverse.take i) := fun z hz => hd z (List.mem_reverse.mp (List.mem_of_mem_take hz))
      have h0 := fromTop_nonneg hdr
      have h1 := fromTop_lt hdr
      have h2 : b * (ds.reverse.take i).length ≤ 3000 := by
        have : (ds.reverse.take i).length ≤ 100 := by rw [List.length_take, List.length_reverse]; omega
        exact Nat.mul_le_mul hb.2 this
      simp only [tCallN, ga_to_text_0_base_x_machine_most, ga_to_text_2_most, ga_to_text_3_most, rIxS, tPar3, tCallW, tM0, tM1, rCat, tMake, tMeth, tDGet, sDPut, tSeq, tAsg, gName, tDrop, tRet, tRetN, tIfS, tNext, tTest, tB, tAnd, tOr, tNot, tAndV, tOrV, tNotV, tNever, tOp, tUn, rI0, rI, rU, tVar, tC, tCons, tNil, tBM, tBM0, tCB, tCall, tFld, sFld, tTup, tLst, gSub, gTup, gCons, gNil, tPar, tSl, tPart, tNoPart, rAppend, rClear, rSetL, rIxL, rIxT, rSlL, rEq, rNe, sl0, sl1, sl2, sl3, sl4, sl5, sl6, sl7, sl8, sl9, sl10, sl11, sl12, sl13, st0, st1, st2, st3, st4, st5, st6, st7, st8, st9, st10, st11, st12, st13, Option.some.injEq, V.int.injEq, V.bl.injEq, V.ref.injEq, V.str.injEq, List.cons.injEq, HO.ins.injEq, HO.lst.injEq, HO.tup.injEq, HO.dK.injEq, exists_eq_left', exists_eq_left, exists_eq_right, exists_and_left, exists_and_right, exists_const, and_assoc, true_and, and_true, decide_eq_true_eq, Int.toNat_natCast, mfl_width, mfl_base, mfl_rows, mfl_counts, mfl_entered, bfl_width, bfl_side, bfl_row, cx_K, upd_same, List.append_nil, List.cons_append, List.nil_append, List.length_cons, List.length_nil, tChain, Bool.not_true, Bool.not_false, if_true, if_false, tYes, scal_ii, scal_ss, scal_bb, ite_t, ite_f, dec_ii, dec_ss]
      refine ⟨shl_ok (n := 3000) ?_ (by omega), hV _ _ _ ⟨b1, ha, some (.int d), ?_⟩⟩
      · have h3 : (2 : Nat) ^ (b * (ds.reverse.take i).length) ≤ 2 ^ 3000 := Nat.pow_le_pow_right (by decide) h2
        have h4 : (fromTop b (ds.reverse.take i)).natAbs < 2 ^ (b * (ds.reverse.take i).length) := by
          have e : (2 : Int) ^ (b * (ds.reverse.take i).length) = ((2 ^ (b * (ds.reverse.take i).length) : Nat) : Int) := by norm_cast
          rw [e] at h1; omega
        exact Nat.lt_of_lt_of_le h4 h3
      · rw [fromTop_take hd']
    · rintro a σ' H1 ⟨b1, ha, y, rfl⟩
      refine ⟨b1, y, ?_⟩
      rw [List.length_reverse, List.length_map, ← List.length_reverse (as := ds), List.take_length, fromTop_rev]
    · rintro σ' H1 ⟨b1, y, rfl⟩
      simp only [tCallN, ga_to_text_0_base_x_machine_most, ga_to_text_2_most, ga_to_text_3_most, rIxS, tPar3, tCallW, tM0, tM1, rCat, tMake, tMeth, tDGet, sDPut, tSeq, tAsg, gName, tDrop, tRet, tRetN, tIfS, tNext, tTest, tB, tAnd, tOr, tNot, tAndV, tOrV, tNotV, tNever, tOp, tUn, rI0, rI, rU, tVar, tC, tCons, tNil, tBM, tBM0, tCB, tCall, tFld, sFld, tTup, tLst, gSub, gTup, gCons, gNil, tPar, tSl, tPart, tNoPart, rAppend, rClear, rSetL, rIxL, rIxT, rSlL, rEq, rNe, sl0, sl1, sl2, sl3, sl4, sl5, sl6, sl7, sl8, sl9, sl10, sl11, sl12, sl13, st0, st1, st2, st3, st4, st5, st6, st7, st8, st9, st10, st11, st12, st13, Option.some.injEq, V.int.injEq, V.bl.injEq, V.ref.injEq, V.str.injEq, List.cons.injEq, HO.ins.injEq, HO.lst.injEq, HO.tup.injEq, HO.dK.injEq, exists_eq_left', exists_eq_left, exists_eq_right, exists_and_left, exists_and_right, exists_const, and_assoc, true_and, and_true, decide_eq_true_eq, Int.toNat_natCast, mfl_width, mfl_base, mfl_rows, mfl_counts, mfl_entered, bfl_width, bfl_side, bfl_row, cx_K, upd_same, List.append_nil, List.cons_append, List.nil_append, List.length_cons, List.length_nil, tChain, Bool.not_true, Bool.not_false, if_true, if_false, tYes, scal_ii, scal_ss, scal_bb, ite_t, ite_f, dec_ii, dec_ss]
      exact q _ b1
theorem c_law_worth (T : Tx K mg) : Cal P w K mg base CX0 "_law_worth" 1 ["_law_bits", "_law_row_here"] [] (sp_law_worth K) := by
  obtain ⟨fd, F⟩ := f_law_worth T
  exact ⟨_, fd, [], G_law_worth T, F.kp, o_law_worth T F, B_law_worth F, .nil⟩
/-! ### _law_counted -/
theorem sc_law_counted : FnScope ["_law_engine", "_law_found", "_law_row_here"] ["_law_engine"] (defScope s_law_counted) := ⟨rfl, rfl, rfl, by decide +kernel, rfl, by decide +kernel, by decide +kernel⟩
def sp_law_counted (K : PySem.W.Frag) : Sp := fun vs H Q E => ∃ (p d e : Addr) (S : Ms), vs = [.ref p] ∧ (MAt K H p d e S) ∧ (∀ t D L refs H', But [d, e] H H' → MAt K H' p d e { S with cnt := fun _ => 0, walk := [] } → H t = none → H D = none → H' t = some (.tup [.ref D, .ref L]) → H' D = some (.dK ((WORDS.filter fun x => decide (S.cnt x ≠ 0)).map fun x => (Sum.inr x, V.int (S.cnt x)))) → H' L = some (.lst refs) → Paired (WalkV H') refs S.walk → Q (.ref t) H')
theorem o_law_counted (T : Tx K mg) {fd : FuncData} (F : FunD K "_law_counted" "_law_counted" (defArgs s_law_counted) (defBody s_law_counted) (defScope s_law_counted) [] [] (He.fAd K ("_law_counted", none)) fd) : FnOk P w K mg base CX0 2 (He.fAd K ("_law_counted", none)) fd ["_law_engine"] (sp_law_counted K) := by
  refine F.ok sc_law_counted (fun vs H Q E h => ?_) (fun cdv A outer s H vs Q E hr h => ?_)
  · obtain ⟨p, d, e, S, rfl, _⟩ := h
    rfl
  · obtain ⟨p, d, e, S, rfl, hM, q⟩ := h
    refine ⟨_, PSs.nox (pss_cons (ps_set (i := 1) sc_law_counted.nd rfl (.inl rfl) (pe_tup (pa_cons (pe_callTy (call_dictP rfl) (by rfl) (b_dict T) (by decide +kernel) (pa_cons (pe_lc (own := [("_law_row_here", 2)]) (g := (gName 2)) rfl sc_law_counted.nd (pi_list (pm0 (c_Machine_tally T) hr (by decide) pass0 (pv 0))) (blkOk_by (own := [("_law_row_here", 2)]) (N := ["_law_engine", "_law_found", "_law_row_here"]) (sc := defScope s_law_counted) (by decide +kernel)) (fun _ _ _ _ _ => (pg_name (i := 2) sc_law_counted.nd rfl (.inl rfl))) (fun _ _ _ _ _ => (pts_one (pt_cmpR op_ne (pe_ix (ix_tupK (K := K)) (pv 2) pe_int (fun _ _ => rfl)) pe_int (nomark _)))) (fun _ _ _ _ _ => by exact (pv 2))) pa_nil)) (pa_cons (pm0 (c_Machine_walk T) hr (by decide) pass0 (pv 0)) pa_nil))))
      (pss_cons (ps_expr (pm0 (c_Machine_reset T) hr (by decide) pass0 (pv 0)))
      (pss_one (ps_ret (pv 1))))), ?_⟩
    rw [show L2.start ["_law_engine", "_law_found", "_law_row_here"] [.ref p] = [some (.ref p), none, none] from rfl]
    simp only [tCallN, ga_to_text_0_base_x_machine_most, ga_to_text_2_most, ga_to_text_3_most, rIxS, tPar3, tCallW, tM0, tM1, rCat, tMake, tMeth, tDGet, sDPut, tSeq, tAsg, gName, tDrop, tRet, tRetN, tIfS, tNext, tTest, tB, tAnd, tOr, tNot, tAndV, tOrV, tNotV, tNever, tOp, tUn, rI0, rI, rU, tVar, tC, tCons, tNil, tBM, tBM0, tCB, tCall, tFld, sFld, tTup, tLst, gSub, gTup, gCons, gNil, tPar, tSl, tPart, tNoPart, rAppend, rClear, rSetL, rIxL, rIxT, rSlL, rEq, rNe, sl0, sl1, sl2, sl3, sl4, sl5, sl6, sl7, sl8, sl9, sl10, sl11, sl12, sl13, st0, st1, st2, st3, st4, st5, st6, st7, st8, st9, st10, st11, st12, st13, Option.some.injEq, V.int.injEq, V.bl.injEq, V.ref.injEq, V.str.injEq, List.cons.injEq, HO.ins.injEq, HO.lst.injEq, HO.tup.injEq, HO.dK.injEq, exists_eq_left', exists_eq_left, exists_eq_right, exists_and_left, exists_and_right, exists_const, and_assoc, true_and, and_true, decide_eq_true_eq, Int.toNat_natCast, mfl_width, mfl_base, mfl_rows, mfl_counts, mfl_entered, bfl_width, bfl_side, bfl_row, cx_K, upd_same, List.append_nil, List.cons_append, List.nil_append, List.length_cons, List.length_nil, tChain, Bool.not_true, Bool.not_false, if_true, if_false, tYes, scal_ii, scal_ss, scal_bb, ite_t, ite_f, dec_ii, dec_ss]
    obtain ⟨⟨dx, hi⟩, hc, refs, he, hrf⟩ := id hM
    refine lcX (A := fun xs x H1 => ∃ ts : List Addr, xs = ts.map V.ref ∧ But [] H H1 ∧ H1 x = some (.lst xs) ∧ Paired (fun t w => H1 t = some (.tup [.str w, .int (S.cnt w)])) ts WORDS)
      (Pv := fun xs x D i H1 => ∃ ts : List Addr, xs = ts.map V.ref ∧ But [] H H1 ∧ H D = none ∧ H1 x = some (.lst xs) ∧ x ≠ D ∧ Paired (fun t w => H1 t = some (.tup [.str w, .int (S.cnt w)])) ts WORDS ∧
        ∃ fs : List Addr, H1 D = some (.lst (fs.map V.ref)) ∧ Paired (fun t w => H1 t = some (.tup [.str w, .int (S.cnt w)])) fs ((WORDS.take i).filter fun x => decide (S.cnt x ≠ 0)))
      ?_ ?_ ?_ ?_ ?_ ?_
    · intro Q q
      simp only [tCallN, ga_to_text_0_base_x_machine_most, ga_to_text_2_most, ga_to_text_3_most, rIxS, tPar3, tCallW, tM0, tM1, rCat, tMake, tMeth, tDGet, sDPut, tSeq, tAsg, gName, tDrop, tRet, tRetN, tIfS, tNext, tTest, tB, tAnd, tOr, tNot, tAndV, tOrV, tNotV, tNever, tOp, tUn, rI0, rI, rU, tVar, tC, tCons, tNil, tBM, tBM0, tCB, tCall, tFld, sFld, tTup, tLst, gSub, gTup, gCons, gNil, tPar, tSl, tPart, tNoPart, rAppend, rClear, rSetL, rIxL, rIxT, rSlL, rEq, rNe, sl0, sl1, sl2, sl3, sl4, sl5, sl6, sl7, sl8, sl9, sl10, sl11, sl12, sl13, st0, st1, st2, st3, st4, st5, st6, st7, st8, st9, st10, st11, st12, st13, Option.some.injEq, V.int.injEq, V.bl.injEq, V.ref.injEq, V.str.injEq, List.cons.injEq, HO.ins.injEq, HO.lst.injEq, HO.tup.injEq, HO.dK.injEq, exists_eq_left', exists_eq_left, exists_eq_right, exists_and_left, exists_and_right, exists_const, and_assoc, true_and, and_true, decide_eq_true_eq, Int.toNat_natCast, mfl_width, mfl_base, mfl_rows, mfl_counts, mfl_entered, bfl_width, bfl_side, bfl_row, cx_K, upd_same, List.append_nil, List.cons_append, List.nil_append, List.length_cons, List.length_nil, tChain, Bool.not_true, Bool.not_false, if_true, if_false, tYes, scal_ii, scal_ss, scal_bb, ite_t, ite_f, dec_ii, dec_ss]
      refine ⟨_, _, hi, rfl, p, d, e, S, rfl, hM, fun l ts H1 b1 hl hl1 hp => q _ l H1 ⟨ts, rfl, b1, hl1, Paired.mapP hp fun _ _ h => h.2⟩⟩
    · rintro xs x H1 ⟨ts, rfl, b1, hx, hp⟩; exact SqL.of hx
    · rintro xs x D H1 ⟨ts, rfl, b1, hx, hp⟩ hD
      refine ⟨ts, rfl, b1.new hD, b1.free hD (by simp), by rw [upd_ne (ne_of_none hx hD)]; exact hx, ne_of_none hx hD, Paired.mapP hp fun t w h => by rw [upd_ne (ne_of_none h hD)]; exact h, [], upd_same, .nil⟩
    · rintro xs x D i H1 ⟨ts, rfl, b1, hD, hx, _⟩; exact SqL.of hx
    · rintro xs x D Vn hV i y H1 hy ⟨ts, rfl, b1, hD, hx, hxD, hp, fs, hlD, hfs⟩
      obtain ⟨t, ht, rfl⟩ : ∃ t, ts[i]? = some t ∧ V.ref t = y := by
        rw [List.getElem?_map] at hy
        cases e : ts[i]? with
        | none => rw [e] at hy; cases hy
        | some z => rw [e] at hy; exact ⟨z, rfl, Option.some.inj hy⟩
      obtain ⟨wd, hwd, htw⟩ : ∃ wd, WORDS[i]? = some wd ∧ H1 t = some (.tup [.str wd, .int (S.cnt wd)]) := by
        have hil := (List.getElem?_eq_some_iff.mp ht).1
        have hlen := Paired.length hp
        have h2 : WORDS[i]? = some WORDS[i] := List.getElem?_eq_getElem (by omega)
        exact ⟨_, h2, pair_at (F := fun t w => H1 t = some (.tup [.str w, .int (S.cnt w)])) hp ht h2⟩
      simp only [List.map_cons, List.map_nil, wipe, tCallN, ga_to_text_0_base_x_machine_most, ga_to_text_2_most, ga_to_text_3_most, rIxS, tPar3, tCallW, tM0, tM1, rCat, tMake, tMeth, tDGet, sDPut, tSeq, tAsg, gName, tDrop, tRet, tRetN, tIfS, tNext, tTest, tB, tAnd, tOr, tNot, tAndV, tOrV, tNotV, tNever, tOp, tUn, rI0, rI, rU, tVar, tC, tCons, tNil, tBM, tBM0, tCB, tCall, tFld, sFld, tTup, tLst, gSub, gTup, gCons, gNil, tPar, tSl, tPart, tNoPart, rAppend, rClear, rSetL, rIxL, rIxT, rSlL, rEq, rNe, sl0, sl1, sl2, sl3, sl4, sl5, sl6, sl7, sl8, sl9, sl10, sl11, sl12, sl13, st0, st1, st2, st3, st4, st5, st6, st7, st8, st9, st10, st11, st12, st13, Option.some.injEq, V.int.injEq, V.bl.injEq, V.ref.injEq, V.str.injEq, List.cons.injEq, HO.ins.injEq, HO.lst.injEq, HO.tup.injEq, HO.dK.injEq, exists_eq_left', exists_eq_left, exists_eq_right, exists_and_left, exists_and_right, exists_const, and_assoc, true_and, and_true, decide_eq_true_eq, Int.toNat_natCast, mfl_width, mfl_base, mfl_rows, mfl_counts, mfl_entered, bfl_width, bfl_side, bfl_row, cx_K, upd_same, List.append_nil, List.cons_append, List.nil_append, List.length_cons, List.length_nil, tChain, Bool.not_true, Bool.not_false, if_true, if_false, tYes, scal_ii, scal_ss, scal_bb, ite_t, ite_f, dec_ii, dec_ss]
      refine ⟨_, SqT.of htw, _, rfl, rfl, ?_⟩
      have htake : (WORDS.take (i + 1)).filter (fun x => decide (S.cnt x ≠ 0)) = (WORDS.take i).filter (fun x => decide (S.cnt x ≠ 0)) ++ (if S.cnt wd ≠ 0 then [wd] else []) := by
        rw [List.take_add_one, hwd, List.filter_append]
        by_cases h : S.cnt wd = 0 <;> simp [h]
      have hfl : fs.length ≤ 10 := by
        have := Paired.length hfs
        have h2 := (List.filter_sublist (p := fun x => decide (S.cnt x ≠ 0)) (l := WORDS.take i)).length_le
        rw [List.length_take] at h2
        have : WORDS.length = 10 := rfl
        omega
      by_cases hz : S.cnt wd = 0
      · rw [if_neg (by simpa using hz)]
        refine hV _ _ ⟨ts, rfl, b1, hD, hx, hxD, hp, fs, hlD, ?_⟩
        rw [htake, if_neg (by simpa using hz), List.append_nil]; exact hfs
      · rw [if_pos (by simpa using hz)]
        refine ⟨_, hlD, by rw [List.length_map]; exact Nat.lt_of_le_of_lt hfl (by decide), ?_⟩
        have keep : ∀ t w, H1 t = some (.tup [.str w, .int (S.cnt w)]) → ∀ o, upd H1 D o t = some (.tup [.str w, .int (S.cnt w)]) := fun t w h o => by
          rw [upd_ne (ne_of h hlD (by intro z; cases z))]; exact h
        refine hV _ _ ⟨ts, rfl, b1.mut hD, hD, by rw [upd_ne hxD]; exact hx, hxD, Paired.mapP hp fun t w h => keep t w h _, fs ++ [t], by rw [upd_same, List.map_append]; rfl, ?_⟩
        rw [htake, if_pos (by simpa using hz)]
        exact pair_snoc (Paired.mapP hfs fun t w h => keep t w h _) (keep _ _ htw _)
    · rintro xs x D H1 ⟨ts, rfl, b1, hD, hx, hxD, hp, fs, hlD, hfs⟩
      rw [List.length_map, Paired.length hp, List.take_length] at hfs
      have hnd : (WORDS.filter fun x => decide (S.cnt x ≠ 0)).Nodup := words_nodup.sublist List.filter_sublist
      refine ⟨D, rfl, fs, SqL.of hlD, (WORDS.filter fun x => decide (S.cnt x ≠ 0)).map fun x => (Sum.inr x, V.int (S.cnt x)), ?_, fun p1 hp1 => ?_⟩
      · exact paired_mapR (Paired.mapP hfs fun t w h => SqT.of h)
      rw [mergeK_new (kf := fun x => Sum.inr x) (vf := fun x => V.int (S.cnt x)) (fun x y z => Sum.inr.inj z) _ _ hnd (fun _ _ => rfl), List.nil_append]
      have hi1 := b1 _ _ hi (by simp)
      have hM1 := hM.ex (b1.new hp1 (o := .dK ((WORDS.filter fun x => decide (S.cnt x ≠ 0)).map fun x => (Sum.inr x, V.int (S.cnt x)))))
      generalize hG : upd H1 p1 _ = G at *
      have hGp : G p1 = some (.dK ((WORDS.filter fun x => decide (S.cnt x ≠ 0)).map fun x => (Sum.inr x, V.int (S.cnt x)))) := by rw [← hG, upd_same]
      have bG : But [] H G := by rw [← hG]; exact b1.new hp1
      have hp1H : H p1 = none := b1.free hp1 (by simp)
      obtain ⟨⟨dy, hiG⟩, _⟩ := id hM1
      refine ⟨_, _, hiG, rfl, p, d, e, S, rfl, hM1, fun L refs1 H2 b2 hL hL2 hpw => ⟨by decide, fun t ht => ?_⟩⟩
      have hM2 := (hM1.ex b2).ex (But.new0 (L := []) ht (o := .tup [.ref p1, .ref L]))
      obtain ⟨⟨dz, hi2⟩, _⟩ := id hM2
      refine ⟨_, _, hi2, rfl, p, d, e, S, rfl, hM2, fun H3 b3 m3 => ?_⟩
      have hcH := hc
      have fr : ∀ {x : Addr}, H x = none → x ∉ [d, e] := fun {x} hx => by
        have h1 := ne_of_none hc hx
        have h2 := ne_of_none he hx
        simp [h1.symm, h2.symm]
      have b02 : But [] H H2 := bG.trans b2
      have htH : H t = none := b02.free ht (by simp)
      have hLH : H L = none := bG.free hL (by simp)
      have hLt : L ≠ t := ne_of_none hL2 ht
      refine q t p1 L refs1 H3 (((b02.new ht).nil).trans b3) m3 htH hp1H ?_ ?_ ?_ ?_
      · exact b3 _ _ upd_same (fr htH)
      · refine b3 _ _ ?_ (fr hp1H)
        have := b2 _ _ hGp (by simp)
        rw [upd_ne (ne_of_none this ht)]; exact this
      · refine b3 _ _ ?_ (fr hLH)
        rw [upd_ne hLt]; exact hL2
      · refine Paired.mapP hpw fun v u h => ?_
        obtain ⟨a, rv, ha⟩ := h
        have ha2 := b2 _ _ ha (by simp)
        refine ⟨a, rv, b3 _ _ (show upd H2 t _ a = _ by rw [upd_ne (ne_of_none ha2 ht)]; exact ha2) ?_⟩
        have h1 := ne_of ha (b1.nil (L := []) |>.trans (show But [] H1 G by rw [← hG]; exact But.new0 hp1) _ _ hc (by simp)) (by intro z; cases z)
        have h2 := ne_of ha (b1.nil (L := []) |>.trans (show But [] H1 G by rw [← hG]; exact But.new0 hp1) _ _ he (by simp)) (by intro z; cases z)
        simp [h1, h2]
theorem c_law_counted (T : Tx K mg) : Cal P w K mg base CX0 "_law_counted" 2 ["_law_engine"] [] (sp_law_counted K) := by
  obtain ⟨fd, F⟩ := f_law_counted T
  exact ⟨_, fd, [], G_law_counted T, F.kp, o_law_counted T F, B_law_counted F, .nil⟩
/-! ### _law_text -/
theorem sc_law_text : FnScope ["_law_n", "_law_radix", "_law_found", "_law_rest"] ["_law_n", "_law_radix"] (defScope s_law_text) := ⟨rfl, rfl, rfl, by decide +kernel, rfl, by decide +kernel, by decide +kernel⟩
def sp_law_text (K : PySem.W.Frag) : Sp := fun vs H Q E => ∃ (n : Int) (b : Nat), vs = [.int n, .int (b : Int)] ∧ (2 ≤ b ∧ b < 36) ∧ (n.natAbs < 2 ^ lim) ∧ (Q (.str (Tb.S (txtB b n))) H)
theorem o_law_text (T : Tx K mg) {fd : FuncData} (F : FunD K "_law_text" "_law_text" (defArgs s_law_text) (defBody s_law_text) (defScope s_law_text) [] [] (He.fAd K ("_law_text", none)) fd) : FnOk P w K mg base CX0 1 (He.fAd K ("_law_text", none)) fd ["_law_n", "_law_radix"] (sp_law_text K) := by
  refine F.ok sc_law_text (fun vs H Q E h => ?_) (fun cdv A outer s H vs Q E hr h => ?_)
  · obtain ⟨n, b, rfl, _⟩ := h
    rfl
  · obtain ⟨n, b, rfl, hb, hn, q⟩ := h
    refine ⟨_, PSs.nox (pss_cons (ps_par (i := 2) (j := 3) (by rfl) sc_law_text.nd rfl rfl (by decide) rfl rfl (pa_cons pe_str (pa_cons (pe_callB call_abs (by rfl) (b_abs T) (by decide +kernel) (pa_cons (pv 0) pa_nil)) pa_nil)) (by rfl))
      (Evl.pss_cut (ps_while PassesOwn.never (pt_cmpR op_gt (pv 3) pe_int (nomark _)) (pss_cons (ps_set (i := 2) sc_law_text.nd rfl (.inl rfl) (pe_op op_add_str (pe_ix ix_str pe_str (pe_op op_mod (pe_callTy call_intI (by rfl) (b_int T) (by decide +kernel) (pa_cons (pv 3) pa_nil)) (pv 1)) (fun _ _ => rfl)) (pv 2)))
      (pss_one (ps_set (i := 3) sc_law_text.nd rfl (.inl rfl) (pe_op op_fdivW (pv 3) (pv 1))))))
      (pss_one (ps_ret (pe_op op_add_str (pe_ifExp (pt_cmpR op_lt (pv 0) pe_int (nomark _)) pe_str pe_str) (pe_ifExp (pt_cmpR op_ne (pv 2) pe_str (nomark _)) (pv 2) pe_str)))))), ?_⟩
    rw [show L2.start ["_law_n", "_law_radix", "_law_found", "_law_rest"] [.int n, .int (b : Int)] = [some (.int n), some (.int (b : Int)), none, none] from rfl]
    simp only [tCallN, ga_to_text_0_base_x_machine_most, ga_to_text_2_most, ga_to_text_3_most, rIxS, tPar3, tCallW, tM0, tM1, rCat, tMake, tMeth, tDGet, sDPut, tSeq, tAsg, gName, tDrop, tRet, tRetN, tIfS, tNext, tTest, tB, tAnd, tOr, tNot, tAndV, tOrV, tNotV, tNever, tOp, tUn, rI0, rI, rU, tVar, tC, tCons, tNil, tBM, tBM0, tCB, tCall, tFld, sFld, tTup, tLst, gSub, gTup, gCons, gNil, tPar, tSl, tPart, tNoPart, rAppend, rClear, rSetL, rIxL, rIxT, rSlL, rEq, rNe, sl0, sl1, sl2, sl3, sl4, sl5, sl6, sl7, sl8, sl9, sl10, sl11, sl12, sl13, st0, st1, st2, st3, st4, st5, st6, st7, st8, st9, st10, st11, st12, st13, Option.some.injEq, V.int.injEq, V.bl.injEq, V.ref.injEq, V.str.injEq, List.cons.injEq, HO.ins.injEq, HO.lst.injEq, HO.tup.injEq, HO.dK.injEq, exists_eq_left', exists_eq_left, exists_eq_right, exists_and_left, exists_and_right, exists_const, and_assoc, true_and, and_true, decide_eq_true_eq, Int.toNat_natCast, mfl_width, mfl_base, mfl_rows, mfl_counts, mfl_entered, bfl_width, bfl_side, bfl_row, cx_K, upd_same, List.append_nil, List.cons_append, List.nil_append, List.length_cons, List.length_nil, tChain, Bool.not_true, Bool.not_false, if_true, if_false, tYes, scal_ii, scal_ss, scal_bb, ite_t, ite_f, dec_ii, dec_ss]
    have hll := lt_line (n := lim) (Nat.le_refl _)
    have e1 : (if n < 0 then -n else n) = ((n.natAbs : Nat) : Int) := by split <;> omega
    have hdl : ∀ m : Nat, (digT b m).length = (ldig b m).length := fun m => by simp [digT]
    have hnl : (ldig b n.natAbs).length ≤ lim := ldig_len_le hb.1 (Nat.lt_of_lt_of_le hn (Nat.pow_le_pow_left hb.1 lim))
    have hlog : ((b : Nat) : Int).natAbs.log2 < 9000 := by
      rw [Int.natAbs_natCast]
      have := (Nat.log2_lt (n := b) (k := 6) (by omega)).mpr (by omega)
      omega
    rw [e1]
    refine wcut (fun σ' H' => H' = H ∧ σ' = [some (.int n), some (.int (b : Nat)), some (.str (Tb.S (digT b n.natAbs))), some (.int 0)])
      (fun m σ' H' => H' = H ∧ ∃ done : List Nat, digT b m ++ done = digT b n.natAbs ∧ σ' = [some (.int n), some (.int (b : Nat)), some (.str (Tb.S done)), some (.int (m : Nat))])
      n.natAbs ⟨rfl, [], by simp, by rw [S_nil]⟩ ?_ ?_
    · rintro Vn M hV hM m σ' H1 ⟨rfl, done, hdn, rfl⟩
      have hdl2 : done.length ≤ lim := by
        have := congrArg List.length hdn
        rw [List.length_append, hdl, hdl] at this; omega
      simp only [tCallN, ga_to_text_0_base_x_machine_most, ga_to_text_2_most, ga_to_text_3_most, rIxS, tPar3, tCallW, tM0, tM1, rCat, tMake, tMeth, tDGet, sDPut, tSeq, tAsg, gName, tDrop, tRet, tRetN, tIfS, tNext, tTest, tB, tAnd, tOr, tNot, tAndV, tOrV, tNotV, tNever, tOp, tUn, rI0, rI, rU, tVar, tC, tCons, tNil, tBM, tBM0, tCB, tCall, tFld, sFld, tTup, tLst, gSub, gTup, gCons, gNil, tPar, tSl, tPart, tNoPart, rAppend, rClear, rSetL, rIxL, rIxT, rSlL, rEq, rNe, sl0, sl1, sl2, sl3, sl4, sl5, sl6, sl7, sl8, sl9, sl10, sl11, sl12, sl13, st0, st1, st2, st3, st4, st5, st6, st7, st8, st9, st10, st11, st12, st13, Option.some.injEq, V.int.injEq, V.bl.injEq, V.ref.injEq, V.str.injEq, List.cons.injEq, HO.ins.injEq, HO.lst.injEq, HO.tup.injEq, HO.dK.injEq, exists_eq_left', exists_eq_left, exists_eq_right, exists_and_left, exists_and_right, exists_const, and_assoc, true_and, and_true, decide_eq_true_eq, Int.toNat_natCast, mfl_width, mfl_base, mfl_rows, mfl_counts, mfl_entered, bfl_width, bfl_side, bfl_row, cx_K, upd_same, List.append_nil, List.cons_append, List.nil_append, List.length_cons, List.length_nil, tChain, Bool.not_true, Bool.not_false, if_true, if_false, tYes, scal_ii, scal_ss, scal_bb, ite_t, ite_f, dec_ii, dec_ss]
      refine ite2 (fun hm => ⟨_, fun σ' H' z => z, ?_⟩) (fun hm => hM _ _ ⟨rfl, ?_⟩)
      · have hm0 : 0 < m := by omega
        refine ⟨by omega, fig_len, _, fig_at (v := m % b) (Nat.lt_trans (Nat.mod_lt _ (by omega)) hb.2), ?_, ⟨by omega, hlog⟩, m / b, Nat.div_lt_self hm0 (by omega), ?_⟩
        · rw [S_one, S_len, S_len]; simp; omega
        · rw [S_one, S_append]
          refine hV _ _ _ ⟨rfl, [cod (m % b)] ++ done, ?_, by norm_cast⟩
          rw [← hdn, digT_step hb.1 hm0]; simp
      · have hm0 : m = 0 := by omega
        rw [hm0, digT_zero hb.1, List.nil_append] at hdn
        rw [hdn, hm0]; rfl
    · rintro σ' H1 ⟨rfl, rfl⟩
      simp only [tCallN, ga_to_text_0_base_x_machine_most, ga_to_text_2_most, ga_to_text_3_most, rIxS, tPar3, tCallW, tM0, tM1, rCat, tMake, tMeth, tDGet, sDPut, tSeq, tAsg, gName, tDrop, tRet, tRetN, tIfS, tNext, tTest, tB, tAnd, tOr, tNot, tAndV, tOrV, tNotV, tNever, tOp, tUn, rI0, rI, rU, tVar, tC, tCons, tNil, tBM, tBM0, tCB, tCall, tFld, sFld, tTup, tLst, gSub, gTup, gCons, gNil, tPar, tSl, tPart, tNoPart, rAppend, rClear, rSetL, rIxL, rIxT, rSlL, rEq, rNe, sl0, sl1, sl2, sl3, sl4, sl5, sl6, sl7, sl8, sl9, sl10, sl11, sl12, sl13, st0, st1, st2, st3, st4, st5, st6, st7, st8, st9, st10, st11, st12, st13, Option.some.injEq, V.int.injEq, V.bl.injEq, V.ref.injEq, V.str.injEq, List.cons.injEq, HO.ins.injEq, HO.lst.injEq, HO.tup.injEq, HO.dK.injEq, exists_eq_left', exists_eq_left, exists_eq_right, exists_and_left, exists_and_right, exists_const, and_assoc, true_and, and_true, decide_eq_true_eq, Int.toNat_natCast, mfl_width, mfl_base, mfl_rows, mfl_counts, mfl_entered, bfl_width, bfl_side, bfl_row, cx_K, upd_same, List.append_nil, List.cons_append, List.nil_append, List.length_cons, List.length_nil, tChain, Bool.not_true, Bool.not_false, if_true, if_false, tYes, scal_ii, scal_ss, scal_bb, ite_t, ite_f, dec_ii, dec_ss]
      have h45 : (("-" : Str)) = Tb.S [45] := by decide
      have h48 : (("0" : Str)) = Tb.S [48] := by decide
      have hsz : ∀ a c : List Nat, a.length + c.length ≤ lim + 1 → (Tb.S a).length + (Tb.S c).length ≤ sizeLine := fun a c h => by rw [S_len, S_len]; omega
      have hD : ∀ pre : List Nat, pre.length ≤ 1 → (∀ t, t = pre ++ (if n = 0 then [48] else digT b n.natAbs) → Q (.str (Tb.S t)) H1) →
          tIf (tTest (tOp rNe (tVar 2) (tC (V.str "")))) (tVar 2) (tC (V.str "0")) [some (V.int n), some (V.int (b : Int)), some (V.str (Tb.S (digT b n.natAbs))), some (V.int 0)] H1 (fun y H2 => ∃ i, V.str (Tb.S pre) = V.str i ∧ ∃ x, y = V.str x ∧ i.length + x.length ≤ sizeLine ∧ Q (V.str (i ++ x)) H2) := by
        intro pre hpre hq
        refine tifB (decide (n ≠ 0)) (fun R rr => ?_) (fun hne => ?_) (fun hne => ?_)
        · simp only [tCallN, ga_to_text_0_base_x_machine_most, ga_to_text_2_most, ga_to_text_3_most, rIxS, tPar3, tCallW, tM0, tM1, rCat, tMake, tMeth, tDGet, sDPut, tSeq, tAsg, gName, tDrop, tRet, tRetN, tIfS, tNext, tTest, tB, tAnd, tOr, tNot, tAndV, tOrV, tNotV, tNever, tOp, tUn, rI0, rI, rU, tVar, tC, tCons, tNil, tBM, tBM0, tCB, tCall, tFld, sFld, tTup, tLst, gSub, gTup, gCons, gNil, tPar, tSl, tPart, tNoPart, rAppend, rClear, rSetL, rIxL, rIxT, rSlL, rEq, rNe, sl0, sl1, sl2, sl3, sl4, sl5, sl6, sl7, sl8, sl9, sl10, sl11, sl12, sl13, st0, st1, st2, st3, st4, st5, st6, st7, st8, st9, st10, st11, st12, st13, Option.some.injEq, V.int.injEq, V.bl.injEq, V.ref.injEq, V.str.injEq, List.cons.injEq, HO.ins.injEq, HO.lst.injEq, HO.tup.injEq, HO.dK.injEq, exists_eq_left', exists_eq_left, exists_eq_right, exists_and_left, exists_and_right, exists_const, and_assoc, true_and, and_true, decide_eq_true_eq, Int.toNat_natCast, mfl_width, mfl_base, mfl_rows, mfl_counts, mfl_entered, bfl_width, bfl_side, bfl_row, cx_K, upd_same, List.append_nil, List.cons_append, List.nil_append, List.length_cons, List.length_nil, tChain, Bool.not_true, Bool.not_false, if_true, if_false, tYes, scal_ii, scal_ss, scal_bb, ite_t, ite_f, dec_ii, dec_ss]
          by_cases h0 : n = 0
          · subst h0
            rw [show Tb.S (digT b (0 : Int).natAbs) = ("" : Str) by rw [show (0 : Int).natAbs = 0 from rfl, digT_zero hb.1, S_nil]]
            simpa using rr
          · rw [show decide (Tb.S (digT b n.natAbs) = ("" : Str)) = false by
              rw [decide_eq_false_iff_not, ← S_nil]
              exact fun z => digT_pos hb.1 (show 0 < n.natAbs by omega) (S_inj z)]
            simpa [h0] using rr
        · have h0 : n ≠ 0 := by simpa using hne
          simp only [tCallN, ga_to_text_0_base_x_machine_most, ga_to_text_2_most, ga_to_text_3_most, rIxS, tPar3, tCallW, tM0, tM1, rCat, tMake, tMeth, tDGet, sDPut, tSeq, tAsg, gName, tDrop, tRet, tRetN, tIfS, tNext, tTest, tB, tAnd, tOr, tNot, tAndV, tOrV, tNotV, tNever, tOp, tUn, rI0, rI, rU, tVar, tC, tCons, tNil, tBM, tBM0, tCB, tCall, tFld, sFld, tTup, tLst, gSub, gTup, gCons, gNil, tPar, tSl, tPart, tNoPart, rAppend, rClear, rSetL, rIxL, rIxT, rSlL, rEq, rNe, sl0, sl1, sl2, sl3, sl4, sl5, sl6, sl7, sl8, sl9, sl10, sl11, sl12, sl13, st0, st1, st2, st3, st4, st5, st6, st7, st8, st9, st10, st11, st12, st13, Option.some.injEq, V.int.injEq, V.bl.injEq, V.ref.injEq, V.str.injEq, List.cons.injEq, HO.ins.injEq, HO.lst.injEq, HO.tup.injEq, HO.dK.injEq, exists_eq_left', exists_eq_left, exists_eq_right, exists_and_left, exists_and_right, exists_const, and_assoc, true_and, and_true, decide_eq_true_eq, Int.toNat_natCast, mfl_width, mfl_base, mfl_rows, mfl_counts, mfl_entered, bfl_width, bfl_side, bfl_row, cx_K, upd_same, List.append_nil, List.cons_append, List.nil_append, List.length_cons, List.length_nil, tChain, Bool.not_true, Bool.not_false, if_true, if_false, tYes, scal_ii, scal_ss, scal_bb, ite_t, ite_f, dec_ii, dec_ss]
          refine ⟨hsz _ _ (by rw [hdl]; omega), ?_⟩
          rw [S_append]; exact hq _ (by rw [if_neg h0])
        · have h0 : n = 0 := by simpa using hne
          simp only [tCallN, ga_to_text_0_base_x_machine_most, ga_to_text_2_most, ga_to_text_3_most, rIxS, tPar3, tCallW, tM0, tM1, rCat, tMake, tMeth, tDGet, sDPut, tSeq, tAsg, gName, tDrop, tRet, tRetN, tIfS, tNext, tTest, tB, tAnd, tOr, tNot, tAndV, tOrV, tNotV, tNever, tOp, tUn, rI0, rI, rU, tVar, tC, tCons, tNil, tBM, tBM0, tCB, tCall, tFld, sFld, tTup, tLst, gSub, gTup, gCons, gNil, tPar, tSl, tPart, tNoPart, rAppend, rClear, rSetL, rIxL, rIxT, rSlL, rEq, rNe, sl0, sl1, sl2, sl3, sl4, sl5, sl6, sl7, sl8, sl9, sl10, sl11, sl12, sl13, st0, st1, st2, st3, st4, st5, st6, st7, st8, st9, st10, st11, st12, st13, Option.some.injEq, V.int.injEq, V.bl.injEq, V.ref.injEq, V.str.injEq, List.cons.injEq, HO.ins.injEq, HO.lst.injEq, HO.tup.injEq, HO.dK.injEq, exists_eq_left', exists_eq_left, exists_eq_right, exists_and_left, exists_and_right, exists_const, and_assoc, true_and, and_true, decide_eq_true_eq, Int.toNat_natCast, mfl_width, mfl_base, mfl_rows, mfl_counts, mfl_entered, bfl_width, bfl_side, bfl_row, cx_K, upd_same, List.append_nil, List.cons_append, List.nil_append, List.length_cons, List.length_nil, tChain, Bool.not_true, Bool.not_false, if_true, if_false, tYes, scal_ii, scal_ss, scal_bb, ite_t, ite_f, dec_ii, dec_ss]
          rw [h48]
          refine ⟨hsz _ _ (by have := lim_ge; simp; omega), ?_⟩
          rw [S_append]; exact hq _ (by rw [if_pos h0])
      refine tifB (decide (n < 0)) (fun R rr => by simpa only [tCallN, ga_to_text_0_base_x_machine_most, ga_to_text_2_most, ga_to_text_3_most, rIxS, tPar3, tCallW, tM0, tM1, rCat, tMake, tMeth, tDGet, sDPut, tSeq, tAsg, gName, tDrop, tRet, tRetN, tIfS, tNext, tTest, tB, tAnd, tOr, tNot, tAndV, tOrV, tNotV, tNever, tOp, tUn, rI0, rI, rU, tVar, tC, tCons, tNil, tBM, tBM0, tCB, tCall, tFld, sFld, tTup, tLst, gSub, gTup, gCons, gNil, tPar, tSl, tPart, tNoPart, rAppend, rClear, rSetL, rIxL, rIxT, rSlL, rEq, rNe, sl0, sl1, sl2, sl3, sl4, sl5, sl6, sl7, sl8, sl9, sl10, sl11, sl12, sl13, st0, st1, st2, st3, st4, st5, st6, st7, st8, st9, st10, st11, st12, st13, Option.some.injEq, V.int.injEq, V.bl.injEq, V.ref.injEq, V.str.injEq, List.cons.injEq, HO.ins.injEq, HO.lst.injEq, HO.tup.injEq, HO.dK.injEq, exists_eq_left', exists_eq_left, exists_eq_right, exists_and_left, exists_and_right, exists_const, and_assoc, true_and, and_true, decide_eq_true_eq, Int.toNat_natCast, mfl_width, mfl_base, mfl_rows, mfl_counts, mfl_entered, bfl_width, bfl_side, bfl_row, cx_K, upd_same, List.append_nil, List.cons_append, List.nil_append, List.length_cons, List.length_nil, tChain, Bool.not_true, Bool.not_false, if_true, if_false, tYes, scal_ii, scal_ss, scal_bb, ite_t, ite_f, dec_ii, dec_ss] using rr) (fun hneg => ?_) (fun hneg => ?_)
      · rw [h45]
        exact hD [45] (by decide) fun t ht => by rw [ht]; rw [txtB, if_pos (by simpa using hneg)] at q; exact q
      · rw [← S_nil]
        exact hD [] (by decide) fun t ht => by rw [ht]; rw [txtB, if_neg (by simpa using hneg)] at q; exact q
theorem c_law_text (T : Tx K mg) : Cal P w K mg base CX0 "_law_text" 1 ["_law_n", "_law_radix"] [] (sp_law_text K) := by
  obtain ⟨fd, F⟩ := f_law_text T
  exact ⟨_, fd, [], G_law_text T, F.kp, o_law_text T F, B_law_text F, .nil⟩
/-! ### _law_group -/
theorem sc_law_group : FnScope ["_law_bits", "_law_radix", "_law_size", "_law_worth_here"] ["_law_bits", "_law_radix"] (defScope s_law_group) := ⟨rfl, rfl, rfl, by decide +kernel, rfl, by decide +kernel, by decide +kernel⟩
def sp_law_group (K : PySem.W.Frag) : Sp := fun vs H Q E => ∃ (wd b : Nat), vs = [.int (wd : Int), .int (b : Int)] ∧ (wd ≤ 30) ∧ (2 ≤ b) ∧ (b ≤ 2 ^ wd) ∧ (∀ a H', But [] H H' → H a = none → H' a = some (.tup [.int (gsz b (2 ^ wd) : Nat), .int (b ^ gsz b (2 ^ wd) : Nat)]) → Q (.ref a) H')
theorem o_law_group (T : Tx K mg) {fd : FuncData} (F : FunD K "_law_group" "_law_group" (defArgs s_law_group) (defBody s_law_group) (defScope s_law_group) [] [] (He.fAd K ("_law_group", none)) fd) : FnOk P w K mg base CX0 1 (He.fAd K ("_law_group", none)) fd ["_law_bits", "_law_radix"] (sp_law_group K) := by
  refine F.ok sc_law_group (fun vs H Q E h => ?_) (fun cdv A outer s H vs Q E hr h => ?_)
  · obtain ⟨wd, b, rfl, _⟩ := h
    rfl
  · obtain ⟨wd, b, rfl, hw, hb, hbw, q⟩ := h
    refine ⟨_, PSs.nox (pss_cons (ps_par (i := 2) (j := 3) (by rfl) sc_law_group.nd rfl rfl (by decide) rfl rfl (pa_cons pe_int (pa_cons (pv 1) pa_nil)) (by rfl))
      (Evl.pss_cut (ps_while PassesOwn.never (pt_cmpR op_le (pe_op op_mul (pv 3) (pv 1)) (pe_op op_shlW pe_int (pv 0)) (nomark _)) (pss_one (ps_par (i := 2) (j := 3) (by rfl) sc_law_group.nd rfl rfl (by decide) rfl rfl (pa_cons (pe_op op_add (pv 2) pe_int) (pa_cons (pe_op op_mul (pv 3) (pv 1)) pa_nil)) (by rfl))))
      (pss_one (ps_ret (pe_tup (pa_cons (pv 2) (pa_cons (pv 3) pa_nil))))))), ?_⟩
    rw [show L2.start ["_law_bits", "_law_radix", "_law_size", "_law_worth_here"] [.int (wd : Int), .int (b : Int)] = [some (.int (wd : Int)), some (.int (b : Int)), none, none] from rfl]
    simp only [tCallN, ga_to_text_0_base_x_machine_most, ga_to_text_2_most, ga_to_text_3_most, rIxS, tPar3, tCallW, tM0, tM1, rCat, tMake, tMeth, tDGet, sDPut, tSeq, tAsg, gName, tDrop, tRet, tRetN, tIfS, tNext, tTest, tB, tAnd, tOr, tNot, tAndV, tOrV, tNotV, tNever, tOp, tUn, rI0, rI, rU, tVar, tC, tCons, tNil, tBM, tBM0, tCB, tCall, tFld, sFld, tTup, tLst, gSub, gTup, gCons, gNil, tPar, tSl, tPart, tNoPart, rAppend, rClear, rSetL, rIxL, rIxT, rSlL, rEq, rNe, sl0, sl1, sl2, sl3, sl4, sl5, sl6, sl7, sl8, sl9, sl10, sl11, sl12, sl13, st0, st1, st2, st3, st4, st5, st6, st7, st8, st9, st10, st11, st12, st13, Option.some.injEq, V.int.injEq, V.bl.injEq, V.ref.injEq, V.str.injEq, List.cons.injEq, HO.ins.injEq, HO.lst.injEq, HO.tup.injEq, HO.dK.injEq, exists_eq_left', exists_eq_left, exists_eq_right, exists_and_left, exists_and_right, exists_const, and_assoc, true_and, and_true, decide_eq_true_eq, Int.toNat_natCast, mfl_width, mfl_base, mfl_rows, mfl_counts, mfl_entered, bfl_width, bfl_side, bfl_row, cx_K, upd_same, List.append_nil, List.cons_append, List.nil_append, List.length_cons, List.length_nil, tChain, Bool.not_true, Bool.not_false, if_true, if_false, tYes, scal_ii, scal_ss, scal_bb, ite_t, ite_f, dec_ii, dec_ss]
    have hM30 : 2 ^ wd ≤ 2 ^ 30 := Nat.pow_le_pow_right (by decide) hw
    refine wcut (fun σ' H' => ∃ s : Nat, b ^ s ≤ 2 ^ wd ∧ 2 ^ wd < b ^ (s + 1) ∧ σ' = [some (.int (wd : Int)), some (.int (b : Int)), some (.int (s : Int)), some (.int (b ^ s : Nat))] ∧ H' = H)
      (fun m σ H' => ∃ s : Nat, 1 ≤ s ∧ b ^ s ≤ 2 ^ wd ∧ m = 2 ^ wd - b ^ s ∧ σ = [some (.int (wd : Int)), some (.int (b : Int)), some (.int (s : Int)), some (.int (b ^ s : Nat))] ∧ H' = H)
      (2 ^ wd - b ^ 1) ⟨1, Nat.le_refl _, by rwa [Nat.pow_one], rfl, by rw [Nat.pow_one]; rfl, rfl⟩ ?_ ?_
    · rintro Vn M hV hM m σ H1 ⟨s, hs, hbs, rfl, rfl, rfl⟩
      simp only [tCallN, ga_to_text_0_base_x_machine_most, ga_to_text_2_most, ga_to_text_3_most, rIxS, tPar3, tCallW, tM0, tM1, rCat, tMake, tMeth, tDGet, sDPut, tSeq, tAsg, gName, tDrop, tRet, tRetN, tIfS, tNext, tTest, tB, tAnd, tOr, tNot, tAndV, tOrV, tNotV, tNever, tOp, tUn, rI0, rI, rU, tVar, tC, tCons, tNil, tBM, tBM0, tCB, tCall, tFld, sFld, tTup, tLst, gSub, gTup, gCons, gNil, tPar, tSl, tPart, tNoPart, rAppend, rClear, rSetL, rIxL, rIxT, rSlL, rEq, rNe, sl0, sl1, sl2, sl3, sl4, sl5, sl6, sl7, sl8, sl9, sl10, sl11, sl12, sl13, st0, st1, st2, st3, st4, st5, st6, st7, st8, st9, st10, st11, st12, st13, Option.some.injEq, V.int.injEq, V.bl.injEq, V.ref.injEq, V.str.injEq, List.cons.injEq, HO.ins.injEq, HO.lst.injEq, HO.tup.injEq, HO.dK.injEq, exists_eq_left', exists_eq_left, exists_eq_right, exists_and_left, exists_and_right, exists_const, and_assoc, true_and, and_true, decide_eq_true_eq, Int.toNat_natCast, mfl_width, mfl_base, mfl_rows, mfl_counts, mfl_entered, bfl_width, bfl_side, bfl_row, cx_K, upd_same, List.append_nil, List.cons_append, List.nil_append, List.length_cons, List.length_nil, tChain, Bool.not_true, Bool.not_false, if_true, if_false, tYes, scal_ii, scal_ss, scal_bb, ite_t, ite_f, dec_ii, dec_ss]
      have e1 : ((b ^ s : Nat) : Int) * (b : Int) = ((b ^ (s + 1) : Nat) : Int) := by rw [Nat.pow_succ]; push_cast; rfl
      have e2 : (1 : Int) * 2 ^ wd = ((2 ^ wd : Nat) : Int) := by push_cast; omega
      have hcm : CMul ((b ^ s : Nat) : Int) (b : Int) := by
        generalize b ^ s = y at *
        right; constructor <;> omega
      refine ⟨hcm, oneShl (by omega), ?_⟩
      rw [e1]
      simp only [e2]
      refine ite2 (fun hm => ⟨_, fun σ' H' z => z, hcm, ?_⟩) (fun hm => hM _ _ ⟨s, hbs, by exact_mod_cast Int.not_le.mp hm, rfl, rfl⟩)
      have hm' : b ^ (s + 1) ≤ 2 ^ wd := by exact_mod_cast hm
      have hlt : b ^ s < b ^ (s + 1) := Nat.pow_lt_pow_right (by omega) (Nat.lt_succ_self s)
      exact ⟨2 ^ wd - b ^ (s + 1), by omega, hV _ _ _ ⟨s + 1, by omega, hm', rfl, rfl, rfl⟩⟩
    · rintro σ' H' ⟨s, h1, h2, rfl, rfl⟩
      simp only [tCallN, ga_to_text_0_base_x_machine_most, ga_to_text_2_most, ga_to_text_3_most, rIxS, tPar3, tCallW, tM0, tM1, rCat, tMake, tMeth, tDGet, sDPut, tSeq, tAsg, gName, tDrop, tRet, tRetN, tIfS, tNext, tTest, tB, tAnd, tOr, tNot, tAndV, tOrV, tNotV, tNever, tOp, tUn, rI0, rI, rU, tVar, tC, tCons, tNil, tBM, tBM0, tCB, tCall, tFld, sFld, tTup, tLst, gSub, gTup, gCons, gNil, tPar, tSl, tPart, tNoPart, rAppend, rClear, rSetL, rIxL, rIxT, rSlL, rEq, rNe, sl0, sl1, sl2, sl3, sl4, sl5, sl6, sl7, sl8, sl9, sl10, sl11, sl12, sl13, st0, st1, st2, st3, st4, st5, st6, st7, st8, st9, st10, st11, st12, st13, Option.some.injEq, V.int.injEq, V.bl.injEq, V.ref.injEq, V.str.injEq, List.cons.injEq, HO.ins.injEq, HO.lst.injEq, HO.tup.injEq, HO.dK.injEq, exists_eq_left', exists_eq_left, exists_eq_right, exists_and_left, exists_and_right, exists_const, and_assoc, true_and, and_true, decide_eq_true_eq, Int.toNat_natCast, mfl_width, mfl_base, mfl_rows, mfl_counts, mfl_entered, bfl_width, bfl_side, bfl_row, cx_K, upd_same, List.append_nil, List.cons_append, List.nil_append, List.length_cons, List.length_nil, tChain, Bool.not_true, Bool.not_false, if_true, if_false, tYes, scal_ii, scal_ss, scal_bb, ite_t, ite_f, dec_ii, dec_ss]
      refine ⟨by decide, fun a ha => q a _ (But.new0 ha) ha ?_⟩
      rw [gsz_spec hb h1 h2, upd_same]
theorem c_law_group (T : Tx K mg) : Cal P w K mg base CX0 "_law_group" 1 ["_law_bits", "_law_radix"] [] (sp_law_group K) := by
  obtain ⟨fd, F⟩ := f_law_group T
  exact ⟨_, fd, [], G_law_group T, F.kp, o_law_group T F, B_law_group F, .nil⟩
/-! ### _law_steps_out -/
theorem sc_law_steps_out : FnScope ["_law_bits", "_law_n", "_law_size", "_law_worth_here", "_law_found", "_law_length", "_law_digit", "_law_rest"] ["_law_bits", "_law_n"] (defScope s_law_steps_out) := ⟨rfl, rfl, rfl, by decide +kernel, rfl, by decide +kernel, by decide +kernel⟩
def sp_law_steps_out (K : PySem.W.Frag) : Sp := fun vs H Q E => ∃ (wd n : Nat), vs = [.int (wd : Int), .int (n : Int)] ∧ (4 ≤ wd ∧ wd ≤ 30) ∧ (n < 2 ^ lim) ∧ (∀ H', But [] H H' → Q (.int (stp wd (10 ^ gsz 10 (2 ^ wd)) n (dgs wd n).length (dgs wd n).length : Nat)) H')
theorem o_law_steps_out (T : Tx K mg) {fd : FuncData} (F : FunD K "_law_steps_out" "_law_steps_out" (defArgs s_law_steps_out) (defBody s_law_steps_out) (defScope s_law_steps_out) [] [] (He.fAd K ("_law_steps_out", none)) fd) : FnOk P w K mg base CX0 2 (He.fAd K ("_law_steps_out", none)) fd ["_law_bits", "_law_n"] (sp_law_steps_out K) := by
  refine F.ok sc_law_steps_out (fun vs H Q E h => ?_) (fun cdv A outer s H vs Q E hr h => ?_)
  · obtain ⟨wd, n, rfl, _⟩ := h
    rfl
  · obtain ⟨wd, n, rfl, hw, hn, q⟩ := h
    refine ⟨_, PSs.nox (pss_cons (ps_asg (pc (c_law_group T) hr (by decide) pass0 (pa_cons (pv 0) (pa_cons pe_int pa_nil))) (pg_tup rfl (pgs_cons (pg_name (i := 2) sc_law_steps_out.nd rfl (.inl rfl)) (pgs_cons (pg_name (i := 3) sc_law_steps_out.nd rfl (.inl rfl)) pgs_nil))))
      (pss_cons (ps_par (i := 4) (j := 5) (by rfl) sc_law_steps_out.nd rfl rfl (by decide) rfl rfl (pa_cons pe_int (pa_cons (pe_op op_fdivW (pe_op op_sub (pe_op op_add (pe_bits (pv 1)) (pv 0)) pe_int) (pv 0)) pa_nil)) (by rfl))
      (Evl.pss_cut (ps_for PassesOwn.never rfl (pi_range1 (by rfl) (b_range T) (pa_cons (pv 5) pa_nil)) (pg_name (i := 6) sc_law_steps_out.nd rfl (.inl rfl)) (pss_cons (ps_set (i := 7) sc_law_steps_out.nd rfl (.inl rfl) (pe_op op_shr (pv 1) (pe_op op_mul (pv 0) (pe_op op_sub (pe_op op_sub (pv 5) pe_int) (pv 6)))))
      (pss_one (ps_while PassesOwn.never (pt_cmpR op_gt (pv 7) pe_int (nomark _)) (pss_one (ps_par (i := 4) (j := 7) (by rfl) sc_law_steps_out.nd rfl rfl (by decide) rfl rfl (pa_cons (pe_op op_add (pv 4) pe_int) (pa_cons (pe_op op_fdivW (pv 7) (pv 3)) pa_nil)) (by rfl)))))))
      (pss_one (ps_ret (pv 4)))))), ?_⟩
    rw [show L2.start ["_law_bits", "_law_n", "_law_size", "_law_worth_here", "_law_found", "_law_length", "_law_digit", "_law_rest"] [.int (wd : Int), .int (n : Int)] = [some (.int (wd : Int)), some (.int (n : Int)), none, none, none, none, none, none] from rfl]
    simp only [tCallN, ga_to_text_0_base_x_machine_most, ga_to_text_2_most, ga_to_text_3_most, rIxS, tPar3, tCallW, tM0, tM1, rCat, tMake, tMeth, tDGet, sDPut, tSeq, tAsg, gName, tDrop, tRet, tRetN, tIfS, tNext, tTest, tB, tAnd, tOr, tNot, tAndV, tOrV, tNotV, tNever, tOp, tUn, rI0, rI, rU, tVar, tC, tCons, tNil, tBM, tBM0, tCB, tCall, tFld, sFld, tTup, tLst, gSub, gTup, gCons, gNil, tPar, tSl, tPart, tNoPart, rAppend, rClear, rSetL, rIxL, rIxT, rSlL, rEq, rNe, sl0, sl1, sl2, sl3, sl4, sl5, sl6, sl7, sl8, sl9, sl10, sl11, sl12, sl13, st0, st1, st2, st3, st4, st5, st6, st7, st8, st9, st10, st11, st12, st13, Option.some.injEq, V.int.injEq, V.bl.injEq, V.ref.injEq, V.str.injEq, List.cons.injEq, HO.ins.injEq, HO.lst.injEq, HO.tup.injEq, HO.dK.injEq, exists_eq_left', exists_eq_left, exists_eq_right, exists_and_left, exists_and_right, exists_const, and_assoc, true_and, and_true, decide_eq_true_eq, Int.toNat_natCast, mfl_width, mfl_base, mfl_rows, mfl_counts, mfl_entered, bfl_width, bfl_side, bfl_row, cx_K, upd_same, List.append_nil, List.cons_append, List.nil_append, List.length_cons, List.length_nil, tChain, Bool.not_true, Bool.not_false, if_true, if_false, tYes, scal_ii, scal_ss, scal_bb, ite_t, ite_f, dec_ii, dec_ss]
    have h10 : 10 ≤ 2 ^ wd := Nat.le_trans (by decide) (Nat.pow_le_pow_right (by decide) hw.1)
    refine ⟨wd, 10, rfl, hw.2, by decide, h10, fun a H1 b1 ha hat => ⟨a, rfl, _, SqT.of hat, rfl, _, _, rfl, _, _, rfl, rfl, ?_⟩⟩
    obtain ⟨ht1, ht2, ht3⟩ := gsz_ge (by decide) h10
    generalize gsz 10 (2 ^ wd) = t at *
    have hP : 2 ≤ 10 ^ t := by
      obtain ⟨u, rfl⟩ : ∃ u, t = u + 1 := ⟨t - 1, by omega⟩
      have := Nat.pow_pos (n := u) (show 0 < 10 by decide)
      rw [Nat.pow_succ]; omega
    have hP30 : 10 ^ t ≤ 2 ^ 30 := Nat.le_trans ht2 (Nat.pow_le_pow_right (by decide) hw.2)
    generalize 10 ^ t = P' at *
    have hlog : ((P' : Nat) : Int).natAbs.log2 < 9000 := by
      rw [Int.natAbs_natCast]
      have := (Nat.log2_lt (n := P') (k := 31) (by omega)).mpr (by omega)
      omega
    have hkl := dgs_lim (w := wd) (by omega) hn
    have hk2 := lim_le
    have ek : (((Builtin.Int.intBits (n : Int) : Nat) : Int) + (wd : Int) - 1) / (wd : Int) = (((dgs wd n).length : Nat) : Int) := by
      rw [← len_bits (w := wd) (n := n) (by omega)]
      generalize Builtin.Int.intBits (n : Int) = z
      rw [Int.natCast_ediv]
      congr 1
      omega
    generalize (dgs wd n).length = k at *
    simp only [tBits, tCallN, ga_to_text_0_base_x_machine_most, ga_to_text_2_most, ga_to_text_3_most, rIxS, tPar3, tCallW, tM0, tM1, rCat, tMake, tMeth, tDGet, sDPut, tSeq, tAsg, gName, tDrop, tRet, tRetN, tIfS, tNext, tTest, tB, tAnd, tOr, tNot, tAndV, tOrV, tNotV, tNever, tOp, tUn, rI0, rI, rU, tVar, tC, tCons, tNil, tBM, tBM0, tCB, tCall, tFld, sFld, tTup, tLst, gSub, gTup, gCons, gNil, tPar, tSl, tPart, tNoPart, rAppend, rClear, rSetL, rIxL, rIxT, rSlL, rEq, rNe, sl0, sl1, sl2, sl3, sl4, sl5, sl6, sl7, sl8, sl9, sl10, sl11, sl12, sl13, st0, st1, st2, st3, st4, st5, st6, st7, st8, st9, st10, st11, st12, st13, Option.some.injEq, V.int.injEq, V.bl.injEq, V.ref.injEq, V.str.injEq, List.cons.injEq, HO.ins.injEq, HO.lst.injEq, HO.tup.injEq, HO.dK.injEq, exists_eq_left', exists_eq_left, exists_eq_right, exists_and_left, exists_and_right, exists_const, and_assoc, true_and, and_true, decide_eq_true_eq, Int.toNat_natCast, mfl_width, mfl_base, mfl_rows, mfl_counts, mfl_entered, bfl_width, bfl_side, bfl_row, cx_K, upd_same, List.append_nil, List.cons_append, List.nil_append, List.length_cons, List.length_nil, tChain, Bool.not_true, Bool.not_false, if_true, if_false, tYes, scal_ii, scal_ss, scal_bb, ite_t, ite_f, dec_ii, dec_ss]
    refine ⟨⟨by omega, by rw [Int.natAbs_natCast]; exact Nat.lt_of_le_of_lt (Nat.log2_le_self _) (by omega)⟩, ?_⟩
    rw [ek]
    refine fcutR (n := (k : Int)) (fun σ' H' => H' = H1 ∧ ∃ y6 y7, σ' = [some (.int (wd : Nat)), some (.int (n : Nat)), some (.int (t : Nat)), some (.int (P' : Nat)), some (.int (stp wd P' n k k : Nat)), some (.int (k : Nat)), y6, y7])
      (by omega)
      (fun i σ' H' => H' = H1 ∧ ∃ y6 y7, σ' = [some (.int (wd : Nat)), some (.int (n : Nat)), some (.int (t : Nat)), some (.int (P' : Nat)), some (.int (stp wd P' n k i : Nat)), some (.int (k : Nat)), y6, y7])
      (by intro Q q; simp only [tCallN, ga_to_text_0_base_x_machine_most, ga_to_text_2_most, ga_to_text_3_most, rIxS, tPar3, tCallW, tM0, tM1, rCat, tMake, tMeth, tDGet, sDPut, tSeq, tAsg, gName, tDrop, tRet, tRetN, tIfS, tNext, tTest, tB, tAnd, tOr, tNot, tAndV, tOrV, tNotV, tNever, tOp, tUn, rI0, rI, rU, tVar, tC, tCons, tNil, tBM, tBM0, tCB, tCall, tFld, sFld, tTup, tLst, gSub, gTup, gCons, gNil, tPar, tSl, tPart, tNoPart, rAppend, rClear, rSetL, rIxL, rIxT, rSlL, rEq, rNe, sl0, sl1, sl2, sl3, sl4, sl5, sl6, sl7, sl8, sl9, sl10, sl11, sl12, sl13, st0, st1, st2, st3, st4, st5, st6, st7, st8, st9, st10, st11, st12, st13, Option.some.injEq, V.int.injEq, V.bl.injEq, V.ref.injEq, V.str.injEq, List.cons.injEq, HO.ins.injEq, HO.lst.injEq, HO.tup.injEq, HO.dK.injEq, exists_eq_left', exists_eq_left, exists_eq_right, exists_and_left, exists_and_right, exists_const, and_assoc, true_and, and_true, decide_eq_true_eq, Int.toNat_natCast, mfl_width, mfl_base, mfl_rows, mfl_counts, mfl_entered, bfl_width, bfl_side, bfl_row, cx_K, upd_same, List.append_nil, List.cons_append, List.nil_append, List.length_cons, List.length_nil, tChain, Bool.not_true, Bool.not_false, if_true, if_false, tYes, scal_ii, scal_ss, scal_bb, ite_t, ite_f, dec_ii, dec_ss]; exact q) ⟨rfl, none, none, rfl⟩ ?_ ?_ ?_
    · rintro Vn M hV hM i σ' H2 hi ⟨rfl, y6, y7, rfl⟩
      have hik : i < k := by simpa using hi
      have ei : ((k : Int) - 1 - (i : Int)) = ((k - 1 - i : Nat) : Int) := by omega
      have hV' := hV (i + 1)
      simp only [stp] at hV'
      simp only [tCallN, ga_to_text_0_base_x_machine_most, ga_to_text_2_most, ga_to_text_3_most, rIxS, tPar3, tCallW, tM0, tM1, rCat, tMake, tMeth, tDGet, sDPut, tSeq, tAsg, gName, tDrop, tRet, tRetN, tIfS, tNext, tTest, tB, tAnd, tOr, tNot, tAndV, tOrV, tNotV, tNever, tOp, tUn, rI0, rI, rU, tVar, tC, tCons, tNil, tBM, tBM0, tCB, tCall, tFld, sFld, tTup, tLst, gSub, gTup, gCons, gNil, tPar, tSl, tPart, tNoPart, rAppend, rClear, rSetL, rIxL, rIxT, rSlL, rEq, rNe, sl0, sl1, sl2, sl3, sl4, sl5, sl6, sl7, sl8, sl9, sl10, sl11, sl12, sl13, st0, st1, st2, st3, st4, st5, st6, st7, st8, st9, st10, st11, st12, st13, Option.some.injEq, V.int.injEq, V.bl.injEq, V.ref.injEq, V.str.injEq, List.cons.injEq, HO.ins.injEq, HO.lst.injEq, HO.tup.injEq, HO.dK.injEq, exists_eq_left', exists_eq_left, exists_eq_right, exists_and_left, exists_and_right, exists_const, and_assoc, true_and, and_true, decide_eq_true_eq, Int.toNat_natCast, mfl_width, mfl_base, mfl_rows, mfl_counts, mfl_entered, bfl_width, bfl_side, bfl_row, cx_K, upd_same, List.append_nil, List.cons_append, List.nil_append, List.length_cons, List.length_nil, tChain, Bool.not_true, Bool.not_false, if_true, if_false, tYes, scal_ii, scal_ss, scal_bb, ite_t, ite_f, dec_ii, dec_ss]
      rw [ei]
      refine ⟨.inl ⟨by omega, by omega⟩, Int.mul_nonneg (by omega) (by omega), ?_⟩
      have er : ((n : Nat) : Int) / 2 ^ ((wd : Int) * ((k - 1 - i : Nat) : Int)).toNat = ((n / 2 ^ (wd * (k - (i + 1))) : Nat) : Int) := by
        rw [show k - (i + 1) = k - 1 - i by omega]
        rw [← Int.natCast_mul, Int.toNat_natCast]
        norm_cast
      rw [er]
      generalize n / 2 ^ (wd * (k - (i + 1))) = v at *
      refine wloop (fun m σ' H' => H' = H2 ∧ ∃ f : Nat, f + (ldig P' m).length = stp wd P' n k i + (ldig P' v).length ∧ σ' = [some (.int (wd : Nat)), some (.int (n : Nat)), some (.int (t : Nat)), some (.int (P' : Nat)), some (.int (f : Nat)), some (.int (k : Nat)), some (.int (i : Nat)), some (.int (m : Nat))])
        v ⟨rfl, _, rfl, rfl⟩ ?_
      rintro Vw hVw m σ' H3 ⟨rfl, f, hf, rfl⟩
      simp only [tCallN, ga_to_text_0_base_x_machine_most, ga_to_text_2_most, ga_to_text_3_most, rIxS, tPar3, tCallW, tM0, tM1, rCat, tMake, tMeth, tDGet, sDPut, tSeq, tAsg, gName, tDrop, tRet, tRetN, tIfS, tNext, tTest, tB, tAnd, tOr, tNot, tAndV, tOrV, tNotV, tNever, tOp, tUn, rI0, rI, rU, tVar, tC, tCons, tNil, tBM, tBM0, tCB, tCall, tFld, sFld, tTup, tLst, gSub, gTup, gCons, gNil, tPar, tSl, tPart, tNoPart, rAppend, rClear, rSetL, rIxL, rIxT, rSlL, rEq, rNe, sl0, sl1, sl2, sl3, sl4, sl5, sl6, sl7, sl8, sl9, sl10, sl11, sl12, sl13, st0, st1, st2, st3, st4, st5, st6, st7, st8, st9, st10, st11, st12, st13, Option.some.injEq, V.int.injEq, V.bl.injEq, V.ref.injEq, V.str.injEq, List.cons.injEq, HO.ins.injEq, HO.lst.injEq, HO.tup.injEq, HO.dK.injEq, exists_eq_left', exists_eq_left, exists_eq_right, exists_and_left, exists_and_right, exists_const, and_assoc, true_and, and_true, decide_eq_true_eq, Int.toNat_natCast, mfl_width, mfl_base, mfl_rows, mfl_counts, mfl_entered, bfl_width, bfl_side, bfl_row, cx_K, upd_same, List.append_nil, List.cons_append, List.nil_append, List.length_cons, List.length_nil, tChain, Bool.not_true, Bool.not_false, if_true, if_false, tYes, scal_ii, scal_ss, scal_bb, ite_t, ite_f, dec_ii, dec_ss]
      refine ite2 (fun hm => ⟨_, fun σ' H' z => z, ⟨by omega, hlog⟩, m / P', Nat.div_lt_self (by omega) (by omega), hVw _ _ _ ⟨rfl, f + 1, ?_, by norm_cast⟩⟩) (fun hm => hV' _ _ ⟨rfl, some (.int (i : Nat)), some (.int (m : Nat)), ?_⟩)
      · rw [ldig_step hP (show 0 < m by omega), List.length_cons] at hf; omega
      · have hm0 : m = 0 := by omega
        rw [hm0, ldig_zero hP] at hf
        rw [← hf]; rfl
    · rintro σ' H2 ⟨rfl, y6, y7, rfl⟩
      rw [Int.toNat_natCast]
      exact ⟨rfl, y6, y7, rfl⟩
    · rintro σ' H2 ⟨rfl, y6, y7, rfl⟩
      simp only [tCallN, ga_to_text_0_base_x_machine_most, ga_to_text_2_most, ga_to_text_3_most, rIxS, tPar3, tCallW, tM0, tM1, rCat, tMake, tMeth, tDGet, sDPut, tSeq, tAsg, gName, tDrop, tRet, tRetN, tIfS, tNext, tTest, tB, tAnd, tOr, tNot, tAndV, tOrV, tNotV, tNever, tOp, tUn, rI0, rI, rU, tVar, tC, tCons, tNil, tBM, tBM0, tCB, tCall, tFld, sFld, tTup, tLst, gSub, gTup, gCons, gNil, tPar, tSl, tPart, tNoPart, rAppend, rClear, rSetL, rIxL, rIxT, rSlL, rEq, rNe, sl0, sl1, sl2, sl3, sl4, sl5, sl6, sl7, sl8, sl9, sl10, sl11, sl12, sl13, st0, st1, st2, st3, st4, st5, st6, st7, st8, st9, st10, st11, st12, st13, Option.some.injEq, V.int.injEq, V.bl.injEq, V.ref.injEq, V.str.injEq, List.cons.injEq, HO.ins.injEq, HO.lst.injEq, HO.tup.injEq, HO.dK.injEq, exists_eq_left', exists_eq_left, exists_eq_right, exists_and_left, exists_and_right, exists_const, and_assoc, true_and, and_true, decide_eq_true_eq, Int.toNat_natCast, mfl_width, mfl_base, mfl_rows, mfl_counts, mfl_entered, bfl_width, bfl_side, bfl_row, cx_K, upd_same, List.append_nil, List.cons_append, List.nil_append, List.length_cons, List.length_nil, tChain, Bool.not_true, Bool.not_false, if_true, if_false, tYes, scal_ii, scal_ss, scal_bb, ite_t, ite_f, dec_ii, dec_ss]
      exact q _ b1
theorem c_law_steps_out (T : Tx K mg) : Cal P w K mg base CX0 "_law_steps_out" 2 ["_law_bits", "_law_n"] [] (sp_law_steps_out K) := by
  obtain ⟨fd, F⟩ := f_law_steps_out T
  exact ⟨_, fd, [], G_law_steps_out T, F.kp, o_law_steps_out T F, B_law_steps_out F, .nil⟩
/-! ### _law_drawn -/
theorem sc_law_drawn : FnScope ["_law_purse_here", "_law_bits", "_law_row_here", "_law_tens", "_law_some"] ["_law_purse_here", "_law_bits"] (defScope s_law_drawn) := ⟨rfl, rfl, rfl, by decide +kernel, rfl, by decide +kernel, by decide +kernel⟩
def sp_law_drawn (K : PySem.W.Frag) : Sp := fun vs H Q E => ∃ (p : Addr) (N b : Nat), vs = [.ref p, .int (b : Int)] ∧ (Pu H p N) ∧ (N + 100 < 2 ^ 40) ∧ (0 < b ∧ b ≤ 30) ∧ (∀ (n : Int) H', But [p] H H' → Pu H' p (N + 100) → n.natAbs < 2 ^ 700 → Q (.int n) H')
theorem o_law_drawn (T : Tx K mg) {fd : FuncData} (F : FunD K "_law_drawn" "_law_drawn" (defArgs s_law_drawn) (defBody s_law_drawn) (defScope s_law_drawn) [] [] (He.fAd K ("_law_drawn", none)) fd) : FnOk P w K mg base CX0 4 (He.fAd K ("_law_drawn", none)) fd ["_law_purse_here", "_law_bits"] (sp_law_drawn K) := by
  refine F.ok sc_law_drawn (fun vs H Q E h => ?_) (fun cdv A outer s H vs Q E hr h => ?_)
  · obtain ⟨p, N, b, rfl, _⟩ := h
    rfl
  · obtain ⟨p, N, b, rfl, hP, hN, hb, q⟩ := h
    refine ⟨_, PSs.nox (pss_cons (ps_set (i := 2) sc_law_drawn.nd rfl (.inl rfl) (pc (c_law_row T) hr (by decide) pass0 (pa_cons (pv 0) (pa_cons (pv 1) (pa_cons (pc (c_law_coin T) hr (by decide) pass0 (pa_cons (pv 0) (pa_cons (pc (c_law_pick T) hr (by decide) pass0 (pa_cons (pv 0) (pa_cons (pe_lst (pa_cons pe_int (pa_cons pe_int (pa_cons pe_int pa_nil)))) pa_nil))) pa_nil))) pa_nil)))))
      (pss_cons (ps_set (i := 3) sc_law_drawn.nd rfl (.inl rfl) (pe_callTy call_int_str (by rfl) (b_int T) (by decide +kernel) (pa_cons (pe_op op_add_str pe_str (pe_op op_repS pe_str (pc (c_law_coin T) hr (by decide) pass0 (pa_cons (pv 0) (pa_cons pe_int pa_nil))))) pa_nil)))
      (pss_cons (ps_set (i := 4) sc_law_drawn.nd rfl (.inl rfl) (pe_lst (pa_cons (pc (c_law_worth T) hr (by decide) pass0 (pa_cons (pv 1) (pa_cons (pv 2) pa_nil))) (pa_cons (pc (c_law_worth T) hr (by decide) pass0 (pa_cons (pv 1) (pa_cons (pv 2) pa_nil))) (pa_cons (pv 3) (pa_cons (pe_op op_shlW pe_int (pc (c_law_coin T) hr (by decide) pass0 (pa_cons (pv 0) (pa_cons pe_int pa_nil)))) (pa_cons (pc (c_law_coin T) hr (by decide) pass0 (pa_cons (pv 0) (pa_cons pe_int pa_nil))) pa_nil)))))))
      (pss_one (ps_ret (pe_op op_mul (pe_callB (call_max2 rfl) (by rfl) (b_max T) (by decide +kernel) (pa_cons pe_int (pa_cons (pe_op op_sub (pe_op op_add (pc (c_law_pick T) hr (by decide) pass0 (pa_cons (pv 0) (pa_cons (pv 4) pa_nil))) (pc (c_law_coin T) hr (by decide) pass0 (pa_cons (pv 0) (pa_cons pe_int pa_nil)))) pe_int) pa_nil))) (pc (c_law_pick T) hr (by decide) pass0 (pa_cons (pv 0) (pa_cons (pe_lst (pa_cons pe_int (pa_cons (pe_un un_neg pe_int) pa_nil))) pa_nil))))))))), ?_⟩
    rw [show L2.start ["_law_purse_here", "_law_bits", "_law_row_here", "_law_tens", "_law_some"] [.ref p, .int (b : Int)] = [some (.ref p), some (.int (b : Int)), none, none, none] from rfl]
    simp only [tCallN, ga_to_text_0_base_x_machine_most, ga_to_text_2_most, ga_to_text_3_most, rIxS, tPar3, tCallW, tM0, tM1, rCat, tMake, tMeth, tDGet, sDPut, tSeq, tAsg, gName, tDrop, tRet, tRetN, tIfS, tNext, tTest, tB, tAnd, tOr, tNot, tAndV, tOrV, tNotV, tNever, tOp, tUn, rI0, rI, rU, tVar, tC, tCons, tNil, tBM, tBM0, tCB, tCall, tFld, sFld, tTup, tLst, gSub, gTup, gCons, gNil, tPar, tSl, tPart, tNoPart, rAppend, rClear, rSetL, rIxL, rIxT, rSlL, rEq, rNe, sl0, sl1, sl2, sl3, sl4, sl5, sl6, sl7, sl8, sl9, sl10, sl11, sl12, sl13, st0, st1, st2, st3, st4, st5, st6, st7, st8, st9, st10, st11, st12, st13, Option.some.injEq, V.int.injEq, V.bl.injEq, V.ref.injEq, V.str.injEq, List.cons.injEq, HO.ins.injEq, HO.lst.injEq, HO.tup.injEq, HO.dK.injEq, exists_eq_left', exists_eq_left, exists_eq_right, exists_and_left, exists_and_right, exists_const, and_assoc, true_and, and_true, decide_eq_true_eq, Int.toNat_natCast, mfl_width, mfl_base, mfl_rows, mfl_counts, mfl_entered, bfl_width, bfl_side, bfl_row, cx_K, upd_same, List.append_nil, List.cons_append, List.nil_append, List.length_cons, List.length_nil, tChain, Bool.not_true, Bool.not_false, if_true, if_false, tYes, scal_ii, scal_ss, scal_bb, ite_t, ite_f, dec_ii, dec_ss]
    have hpow : ∀ a c : Nat, a ≤ c → (2 : Nat) ^ a ≤ 2 ^ c := fun a c h => Nat.pow_le_pow_right (by decide) h
    have hPp : ∀ {G : Hp} {N : Nat}, Pu G p N → ∃ o, G p = some o := fun h => by
      obtain ⟨_, _, _, h, _⟩ := h
      exact ⟨_, h⟩
    refine ⟨by decide, fun c1 hc1 => ?_⟩
    obtain ⟨_, hp1⟩ := hPp hP
    have hpc := ne_of_none hp1 hc1
    refine ⟨p, c1, N, _, rfl, hP.but (L := []) (But.new0 hc1) (by simp), by omega, upd_same, ⟨by simp, by simp⟩, hpc.symm, fun x H1 b1 hP1 hx => ?_⟩
    obtain ⟨m, rfl, hm1, hm2⟩ : ∃ m : Nat, x = .int (m : Int) ∧ 0 < m ∧ m ≤ 21 := by
      simp only [List.mem_cons, List.not_mem_nil, or_false] at hx
      rcases hx with rfl | rfl | rfl
      · exact ⟨3, rfl, by decide, by decide⟩
      · exact ⟨8, rfl, by decide, by decide⟩
      · exact ⟨21, rfl, by decide, by decide⟩
    have hmlog : m.log2 < 8000 := by
      have := (Nat.log2_lt (n := m) (k := 6) (by omega)).mpr (by omega)
      omega
    have bb1 : But [p] H H1 := (But.new0 hc1).trans b1
    refine ⟨p, _, m, rfl, hP1, by omega, ⟨hm1, hmlog⟩, fun r1 H2 b2 hP2 h10 h11 => ?_⟩
    obtain ⟨s, rfl⟩ := Int.eq_ofNat_of_zero_le h10
    refine ⟨p, _, b, s, rfl, hP2, by omega, hb, by omega, fun l ds H3 b3 hP3 hlN hl hdd hdl => ?_⟩
    have hpl : p ≠ l := by
      obtain ⟨_, h⟩ := hPp hP2
      exact ne_of_none h hlN
    have bb3 : But [p] H H3 := (bb1.trans b2).trans b3
    refine ⟨p, _, 120, rfl, hP3, by omega, ⟨by decide, by decide +kernel⟩, fun r4 H4 b4 hP4 h40 h41 => ?_⟩
    obtain ⟨k, rfl⟩ := Int.eq_ofNat_of_zero_le h40
    have hk : k < 120 := by omega
    have e1 : (("1" : Str)) = Tb.S [49] := by decide
    have e0 : (("0" : Str)) = Tb.S [48] := by decide
    have hsz : 1000 ≤ sizeLine := by decide
    refine ⟨[48], e0, _, rfl, by omega, by omega, by simp only [List.length_singleton, Int.toNat_natCast]; omega, ?_⟩
    rw [Int.toNat_natCast, List.flatten_replicate_singleton, e1, S_append, S_len, S_len, S_len]
    simp only [List.length_append, List.length_singleton, List.length_replicate, List.singleton_append, List.length_cons]
    refine ⟨by rw [List.length_nil]; omega, _, tens_text (by omega), by omega, ?_⟩
    have hl4 := b4 _ _ hl (by simp [hpl.symm])
    have hvb : (val b ds).natAbs < 2 ^ 690 := by
      have h1 := val_lt hdd
      have h0 := val_nonneg hdd
      have h2 : (2 : Nat) ^ (b * ds.length) ≤ 2 ^ 690 := hpow _ _ (Nat.le_trans (Nat.mul_le_mul hb.2 (by omega : ds.length ≤ 21)) (by decide))
      have e : (2 : Int) ^ (b * ds.length) = ((2 ^ (b * ds.length) : Nat) : Int) := by norm_cast
      rw [e] at h1; omega
    refine ⟨b, l, ds, rfl, hl4, hdd, hb, by omega, fun H5 b5 => ?_⟩
    refine ⟨b, l, ds, rfl, b5 _ _ hl4 (by simp), hdd, hb, by omega, fun H6 b6 => ?_⟩
    have hP6 := hP4.but (b5.trans b6) (by simp)
    refine ⟨p, _, 400, rfl, hP6, by omega, ⟨by decide, by decide +kernel⟩, fun r7 H7 b7 hP7 h70 h71 => ?_⟩
    obtain ⟨c, rfl⟩ := Int.eq_ofNat_of_zero_le h70
    refine ⟨_, rfl, oneShl (by omega), ?_⟩
    refine ⟨p, _, 300, rfl, hP7, by omega, ⟨by decide, by decide +kernel⟩, fun r8 H8 b8 hP8 h80 h81 => ⟨by decide, fun c2 hc2 => ?_⟩⟩
    obtain ⟨_, hp8⟩ := hPp hP8
    have hpc2 := ne_of_none hp8 hc2
    refine ⟨p, c2, _, _, rfl, hP8.but (L := []) (But.new0 hc2) (by simp), by omega, upd_same, ⟨by simp, by simp⟩, hpc2.symm, fun x H9 b9 hP9 hx => ?_⟩
    obtain ⟨v, rfl, hv⟩ : ∃ v, x = .int v ∧ v.natAbs < 2 ^ 690 := by
      simp only [List.mem_cons, List.not_mem_nil, or_false] at hx
      rcases hx with rfl | rfl | rfl | rfl | rfl
      · exact ⟨_, rfl, hvb⟩
      · exact ⟨_, rfl, hvb⟩
      · refine ⟨_, rfl, ?_⟩
        rw [Int.natAbs_natCast]
        have h1 : (10 : Nat) ^ k ≤ 16 ^ k := Nat.pow_le_pow_left (by decide) k
        rw [show (16 : Nat) = 2 ^ 4 by decide, ← Nat.pow_mul] at h1
        exact Nat.lt_of_le_of_lt h1 (Nat.pow_lt_pow_right (by decide) (by omega))
      · refine ⟨_, rfl, ?_⟩
        rw [Int.toNat_natCast, show (1 : Int) * 2 ^ c = ((2 ^ c : Nat) : Int) by push_cast; omega, Int.natAbs_natCast]
        exact Nat.pow_lt_pow_right (by decide) (by omega)
      · refine ⟨_, rfl, Nat.lt_of_lt_of_le (show r8.natAbs < 2 ^ 10 by omega) (hpow _ _ (by decide))⟩
    refine ⟨p, _, 3, rfl, hP9, by omega, ⟨by decide, by decide +kernel⟩, fun r10 H10 b10 hP10 h100 h101 => ?_⟩
    refine ⟨v, rfl, r10, rfl, by decide, fun c3 hc3 => ?_⟩
    obtain ⟨_, hp10⟩ := hPp hP10
    have hpc3 := ne_of_none hp10 hc3
    refine ⟨p, c3, _, _, rfl, hP10.but (L := []) (But.new0 hc3) (by simp), by omega, upd_same, ⟨by simp, by simp⟩, hpc3.symm, fun x H11 b11 hP11 hx => ?_⟩
    obtain ⟨sg, rfl, hsg⟩ : ∃ sg : Int, x = .int sg ∧ (sg = 1 ∨ sg = -1) := by
      simp only [List.mem_cons, List.not_mem_nil, or_false] at hx
      rcases hx with rfl | rfl
      · exact ⟨_, rfl, .inl rfl⟩
      · exact ⟨_, rfl, .inr rfl⟩
    have bb : But [p] H H11 := by
      refine bb3.trans (b4.trans ((b5.trans b6).nil.trans (b7.trans (b8.trans ((But.new0 hc2).trans (b9.trans (b10.trans ((But.new0 hc3).trans b11))))))))
    refine ⟨sg, rfl, .inr ⟨by rcases hsg with rfl | rfl <;> decide, by rcases hsg with rfl | rfl <;> decide⟩, q _ _ bb (hP11.up (by omega)) ?_⟩
    have h690 : (2 : Nat) ^ 690 + 10 ≤ 2 ^ 700 := by decide +kernel
    generalize (2 : Nat) ^ 690 = A1 at *
    generalize (2 : Nat) ^ 700 = A2 at *
    rcases hsg with rfl | rfl
    · rw [Int.mul_one]; split <;> omega
    · rw [Int.mul_neg_one, Int.natAbs_neg]; split <;> omega
theorem c_law_drawn (T : Tx K mg) : Cal P w K mg base CX0 "_law_drawn" 4 ["_law_purse_here", "_law_bits"] [] (sp_law_drawn K) := by
  obtain ⟨fd, F⟩ := f_law_drawn T
  exact ⟨_, fd, [], G_law_drawn T, F.kp, o_law_drawn T F, B_law_drawn F, .nil⟩
end


end Th

namespace Th
open PySem PySem.Spec PyProof.Rows L2 Tb
section
variable {P : Program} {w : World} {K : PySem.W.Frag} {mg : Str → Option Value} {base : Heap}
theorem mach_makeR {R : Addr → Hp → Prop} {E : XK} {H : Hp} {b : Nat} {c : Int} (hb : 8 ≤ b ∧ b ≤ 30) (hc : 2 ≤ c ∧ c ≤ 1000)
    (h : ∀ a d e H', But [] H H' → H a = none → H d = none → H e = none → MAt K H' a d e ⟨b, c, fun _ => 0, []⟩ → R a H') :
    ∀ x dx, H x = none → H dx = none → dx ≠ x → sp_Machine_init K [.ref x, .int (b : Int), .int c] (upd (upd H dx (.own x)) x (.ins (He.ga K "Machine") dx [])) (fun v H2 => v = .non ∧ R x H2) E := by
  intro x dx hx hdx hne
  have k := mach_make (K := K) (E := E) (Q := fun v H2 => v = .ref x → R x H2) hb hc (fun a d e H' b1 ha hd he m z => by
    obtain rfl := V.ref.inj z
    exact h a d e H' b1 ha hd he m) x dx hx hdx hne
  obtain ⟨a, dx', b', c', e1, e2, e3, e4, q⟩ := k
  exact ⟨a, dx', b', c', e1, e2, e3, e4, fun H' d e k1 k2 k3 k4 => ⟨(q H' d e k1 k2 k3 k4).1, (q H' d e k1 k2 k3 k4).2 rfl⟩⟩
/-- what the writing of n counts, but the zeros -/
def tal (w : Nat) (n : Int) (b : Nat) : List (Str × Int) :=
  if n = 0 then [] else [(if b = 10 then "quotient" else "shifted", if b = 10 then (stp w (10 ^ gsz 10 (2 ^ w)) n.natAbs (dgs w n.natAbs).length (dgs w n.natAbs).length : Nat) else ((ldig b n.natAbs).length : Nat))]
def clean (w : Nat) (c : Int) : Ms := ⟨w, c, fun _ => 0, []⟩
theorem filter_one {s : Int} (hs : s ≠ 0) {x : Str} (hx : x = "quotient" ∨ x = "shifted") : (WORDS.filter fun y => decide ((if y = x then (0 : Int) + s else 0) ≠ 0)) = [x] := by
  have e : (fun y : Str => decide ((if y = x then (0 : Int) + s else 0) ≠ 0)) = fun y => decide (y = x) := by
    funext y
    by_cases h : y = x <;> simp [h, hs]
  rw [e]
  rcases hx with rfl | rfl <;> decide +kernel
theorem one_row {s : Int} (hs : s ≠ 0) {x : Str} (hx : x = "quotient" ∨ x = "shifted") :
    ((WORDS.filter fun y => decide ((if y = x then (0 : Int) + s else 0) ≠ 0)).map fun y => ((Sum.inr y : Key), V.int (if y = x then (0 : Int) + s else 0))) = [(Sum.inr x, V.int s)] := by
  rw [filter_one hs hx]; simp
theorem stp_pos {w P n k : Nat} (hP : 2 ≤ P) (hn : 0 < n) (hk : 0 < k) : stp w P n k k ≠ 0 := by
  obtain ⟨j, rfl⟩ : ∃ j, k = j + 1 := ⟨k - 1, by omega⟩
  show stp w P n (j + 1) j + (ldig P (n / 2 ^ (w * (j + 1 - (j + 1))))).length ≠ 0
  rw [Nat.sub_self, Nat.mul_zero, Nat.pow_zero, Nat.div_one, ldig_step hP hn, List.length_cons]; omega
theorem wrote_clean {w : Nat} {c : Int} {n : Int} {b : Nat} (hw : 4 ≤ w ∧ w ≤ 30) (hb : 2 ≤ b) :
    ((WORDS.filter fun x => decide ((wrote (clean w c) n b).cnt x ≠ 0)).map fun x => ((Sum.inr x : Key), V.int ((wrote (clean w c) n b).cnt x))) = (tal w n b).map (fun q => (Sum.inr q.1, V.int q.2)) ∧
    (wrote (clean w c) n b).walk = [(("write" : Str), (((dgs w n.natAbs).length : Nat) : Int), (b : Int))] ∧ { wrote (clean w c) n b with cnt := fun _ => 0, walk := [] } = clean w c ∧ (wrote (clean w c) n b).w = w := by
  have h10 : 10 ≤ 2 ^ w := Nat.le_trans (by decide) (Nat.pow_le_pow_right (by decide) hw.1)
  obtain ⟨ht1, _, _⟩ := gsz_ge (by decide) h10
  have hP : 2 ≤ 10 ^ gsz 10 (2 ^ w) := by
    obtain ⟨u, hu⟩ : ∃ u, gsz 10 (2 ^ w) = u + 1 := ⟨_, (Nat.sub_add_cancel ht1).symm⟩
    have := Nat.pow_pos (n := u) (show 0 < 10 by decide)
    rw [hu, Nat.pow_succ]; omega
  unfold wrote tal
  by_cases hn : n = 0
  · simp only [hn, if_true]
    exact ⟨rfl, rfl, rfl, rfl⟩
  · have hna : 0 < n.natAbs := by omega
    simp only [if_neg hn]
    by_cases hb10 : b = 10
    · simp only [if_pos hb10]
      have hs : ((stp w (10 ^ gsz 10 (2 ^ w)) n.natAbs (dgs w n.natAbs).length (dgs w n.natAbs).length : Nat) : Int) ≠ 0 := by
        have := stp_pos (w := w) (n := n.natAbs) (k := (dgs w n.natAbs).length) hP hna (by rw [dgs_step (by omega) hna]; simp)
        exact_mod_cast this
      refine ⟨?_, rfl, rfl, rfl⟩
      exact one_row hs (.inl rfl)
    · simp only [if_neg hb10]
      have hs : (((ldig b n.natAbs).length : Nat) : Int) ≠ 0 := by
        rw [ldig_step hb hna, List.length_cons]; omega
      refine ⟨?_, rfl, rfl, rfl⟩
      exact one_row hs (.inr rfl)
/-! ### _law_right -/
theorem sc_law_right : FnScope ["_law_purse_here", "_law_bits", "_law_engine", "_law_n", "_law_held", "_law_size", "_law_radix", "_law_due", "_law_steps", "_law_counts"] ["_law_purse_here"] (defScope s_law_right) := ⟨rfl, rfl, rfl, by decide +kernel, rfl, by decide +kernel, by decide +kernel⟩
def sp_law_right (K : PySem.W.Frag) : Sp := fun vs H Q E => ∃ (p : Addr) (N : Nat), vs = [.ref p] ∧ (Pu H p N) ∧ (N + 200 < 2 ^ 40) ∧ (∀ H', But [p] H H' → Pu H' p (N + 200) → Q (.bl true) H')
theorem o_law_right (T : Tx K mg) {fd : FuncData} (F : FunD K "_law_right" "_law_right" (defArgs s_law_right) (defBody s_law_right) (defScope s_law_right) [] [] (He.fAd K ("_law_right", none)) fd) : FnOk P w K mg base CX0 6 (He.fAd K ("_law_right", none)) fd ["_law_purse_here"] (sp_law_right K) := by
  refine F.ok sc_law_right (fun vs H Q E h => ?_) (fun cdv A outer s H vs Q E hr h => ?_)
  · obtain ⟨p, N, rfl, _⟩ := h
    rfl
  · obtain ⟨p, N, rfl, hP, hN, q⟩ := h
    refine ⟨_, PSs.nox (pss_cons (ps_set (i := 1) sc_law_right.nd rfl (.inl rfl) (pc (c_law_pick T) hr (by decide) pass0 (pa_cons (pv 0) (pa_cons (pe_lst (pa_cons pe_int (pa_cons pe_int (pa_cons pe_int (pa_cons pe_int (pa_cons (pe_op op_add pe_int (pc (c_law_coin T) hr (by decide) pass0 (pa_cons (pv 0) (pa_cons pe_int pa_nil)))) pa_nil)))))) pa_nil))))
      (pss_cons (ps_par (i := 2) (j := 3) (by rfl) sc_law_right.nd rfl rfl (by decide) rfl rfl (pa_cons (pk (c_Machine_init_1 T) hr (by decide) pass0 (pa_cons (pv 1) pa_nil)) (pa_cons (pc (c_law_drawn T) hr (by decide) pass0 (pa_cons (pv 0) (pa_cons (pv 1) pa_nil))) pa_nil)) (by rfl))
      (pss_cons (ps_par (i := 4) (j := 5) (by rfl) sc_law_right.nd rfl rfl (by decide) rfl rfl (pa_cons (pc (c_big T) hr (by decide) pass0 (pa_cons (pv 2) (pa_cons (pv 3) pa_nil))) (pa_cons (pe_op op_fdivW (pe_op op_sub (pe_op op_add (pe_bits (pe_callB call_abs (by rfl) (b_abs T) (by decide +kernel) (pa_cons (pv 3) pa_nil))) (pv 1)) pe_int) (pv 1)) pa_nil)) (by rfl))
      (Evl.pss_cut (ps_for PassesOwn.never rfl (pi_tup (pe_tup (pa_cons pe_int (pa_cons pe_int (pa_cons pe_int (pa_cons pe_int pa_nil)))))) (pg_name (i := 6) sc_law_right.nd rfl (.inl rfl)) (pss_cons (ps_set (i := 7) sc_law_right.nd rfl (.inl rfl) (pc (c_law_text T) hr (by decide) pass0 (pa_cons (pv 3) (pa_cons (pv 6) pa_nil))))
      (pss_cons (ps_if (pt_cmpR op_ne (pc (c_to_text_3 T) hr (by decide) pass0 (pa_cons (pv 2) (pa_cons (pv 4) (pa_cons (pv 6) pa_nil)))) (pv 7) (nomark _)) (pss_one (ps_ret pe_bl)) pss_nil)
      (pss_cons (ps_set (i := 8) sc_law_right.nd rfl (.inl rfl) (pe_ifExp (pt_cmpR op_eq (pv 6) pe_int (nomark _)) (pc (c_law_steps_out T) hr (by decide) pass0 (pa_cons (pv 1) (pa_cons (pe_callB call_abs (by rfl) (b_abs T) (by decide +kernel) (pa_cons (pv 3) pa_nil)) pa_nil))) (pe_op op_sub (pe_callB call_len_str (by rfl) (b_len T) PySem.boot_len (pa_cons (pv 7) pa_nil)) (pe_callTy call_intB (by rfl) (b_int T) (by decide +kernel) (pa_cons (pe_cmpR op_lt (pv 3) pe_int (nomark _)) pa_nil)))))
      (pss_cons (ps_set (i := 9) sc_law_right.nd rfl (.inl rfl) (pe_ifExp (pt_cmpR op_ne (pv 3) pe_int (nomark _)) (pe_disp (pps_cons (pe_ifExp (pt_cmpR op_eq (pv 6) pe_int (nomark _)) pe_str pe_str) (pv 8) pps_nil) (by rfl) (by rfl) (fun z => by cases z) (by decide)) pe_dnewK))
      (pss_cons (ps_if (pt_cmpR (op_neT hr.units) (pc (c_law_counted T) hr (by decide) pass0 (pa_cons (pv 2) pa_nil)) (pe_tup (pa_cons (pv 9) (pa_cons (pe_lst (pa_cons (pe_tup (pa_cons pe_str (pa_cons (pv 5) (pa_cons (pv 6) pa_nil)))) pa_nil)) pa_nil))) (nomark _)) (pss_one (ps_ret pe_bl)) pss_nil)
      (pss_one (ps_if (PW.pt (pw_or (pt_cmpR op_ne (pcW (kc_to_text_0_base_x_machine_most T) hr (by decide) pass0 (pk_cons (pv 6) (pk_cons (pv 4) (pk_cons (pv 2) (pk_cons pe_int pk_nil))))) (pv 7) (nomark _)) (pw_or1 (pt_cmpR (op_ne_dictA (Nat.lt_of_le_of_lt (Nat.le_add_right _ 64) hr.units)) (pe_ix ix_tup (pc (c_law_counted T) hr (by decide) pass0 (pa_cons (pv 2) pa_nil)) pe_int (fun _ _ => rfl)) (pv 9) (nomark _))))) (pss_one (ps_ret pe_bl)) pss_nil))))))))
      (pss_one (ps_ret (pe_cmpR op_eq (pc (c_to_text_2 T) hr (by decide) pass0 (pa_cons (pv 2) (pa_cons (pv 4) pa_nil))) (pc (c_law_text T) hr (by decide) pass0 (pa_cons (pv 3) (pa_cons pe_int pa_nil))) (nomark _)))))))), ?_⟩
    rw [show L2.start ["_law_purse_here", "_law_bits", "_law_engine", "_law_n", "_law_held", "_law_size", "_law_radix", "_law_due", "_law_steps", "_law_counts"] [.ref p] = [some (.ref p), none, none, none, none, none, none, none, none, none] from rfl]
    have hPp : ∀ {G : Hp} {N : Nat}, Pu G p N → ∃ o, G p = some (.lst o) := fun h => by
      obtain ⟨_, _, _, h, _⟩ := h
      exact ⟨_, h⟩
    simp only [tCallN, ga_to_text_0_base_x_machine_most, ga_to_text_2_most, ga_to_text_3_most, rRep, rNeT, rEqT, rNeDA, rEqDA, rNeD, rEqD, tPairs, tDisp, tDNewK, rIxS, tPar3, tCallW, tM0, tM1, rCat, tMake, tMeth, tDGet, sDPut, tSeq, tAsg, gName, tDrop, tRet, tRetN, tIfS, tNext, tTest, tB, tAnd, tOr, tNot, tAndV, tOrV, tNotV, tNever, tOp, tUn, rI0, rI, rU, tVar, tC, tCons, tNil, tBM, tBM0, tCB, tCall, tFld, sFld, tTup, tLst, gSub, gTup, gCons, gNil, tPar, tSl, tPart, tNoPart, rAppend, rClear, rSetL, rIxL, rIxT, rSlL, rEq, rNe, sl0, sl1, sl2, sl3, sl4, sl5, sl6, sl7, sl8, sl9, sl10, sl11, sl12, sl13, st0, st1, st2, st3, st4, st5, st6, st7, st8, st9, st10, st11, st12, st13, Option.some.injEq, V.int.injEq, V.bl.injEq, V.ref.injEq, V.str.injEq, List.cons.injEq, HO.ins.injEq, HO.lst.injEq, HO.tup.injEq, HO.dK.injEq, exists_eq_left', exists_eq_left, exists_eq_right, exists_and_left, exists_and_right, exists_const, and_assoc, true_and, and_true, decide_eq_true_eq, Int.toNat_natCast, mfl_width, mfl_base, mfl_rows, mfl_counts, mfl_entered, bfl_width, bfl_side, bfl_row, cx_K, upd_same, List.append_nil, List.cons_append, List.nil_append, List.length_cons, List.length_nil, tChain, Bool.not_true, Bool.not_false, if_true, if_false, tYes, scal_ii, scal_ss, scal_bb, ite_t, ite_f, dec_ii, dec_ss]
    refine ⟨p, N, 23, rfl, hP, by omega, ⟨by decide, by decide +kernel⟩, fun r1 H1 b1 hP1 h10 h11 => ⟨_, rfl, by decide, fun c1 hc1 => ?_⟩⟩
    obtain ⟨_, hp1⟩ := hPp hP1
    have hpc := ne_of_none hp1 hc1
    refine ⟨p, c1, _, _, rfl, hP1.but (L := []) (But.new0 hc1) (by simp), by omega, upd_same, ⟨by simp, by simp⟩, hpc.symm, fun x H2 b2 hP2 hx => ?_⟩
    obtain ⟨w, rfl, hw8, hw30⟩ : ∃ w : Nat, x = .int (w : Int) ∧ 8 ≤ w ∧ w ≤ 30 := by
      simp only [List.mem_cons, List.not_mem_nil, or_false] at hx
      rcases hx with rfl | rfl | rfl | rfl | rfl
      · exact ⟨8, rfl, by decide, by decide⟩
      · exact ⟨9, rfl, by decide, by decide⟩
      · exact ⟨15, rfl, by decide, by decide⟩
      · exact ⟨30, rfl, by decide, by decide⟩
      · exact ⟨(8 + r1).toNat, by congr 1; omega, by omega, by omega⟩
    have bb2 : But [p] H H2 := b1.trans ((But.new0 hc1).trans b2)
    refine mach_makeR (c := 70) ⟨hw8, hw30⟩ ⟨by decide, by decide⟩ fun e d et H3 b3 he hd het hM => ?_
    have hP3 := hP2.but b3 (by simp)
    refine ⟨p, _, w, rfl, hP3, by omega, ⟨by omega, by omega⟩, fun n H4 b4 hP4 hn => ?_⟩
    obtain ⟨_, hp2⟩ := hPp hP2
    obtain ⟨_, hp3⟩ := hPp hP3
    have hpd := ne_of_none hp2 hd
    have hpet := ne_of_none hp2 het
    have hM4 : MAt K H4 e d et (clean w 70) := hM.but b4 fun l hl => by
      obtain rfl := List.mem_singleton.mp hl
      exact ⟨hpd, hpet, fun C dx fs z => (by rw [hp3] at z; cases z), fun xs z => (by rw [hp3] at z; cases z)⟩
    have hnl := lim700 hn
    have habs : (if n < 0 then -n else n).natAbs = n.natAbs := by split <;> omega
    simp only [tCallN, ga_to_text_0_base_x_machine_most, ga_to_text_2_most, ga_to_text_3_most, rRep, rNeT, rEqT, rNeDA, rEqDA, rNeD, rEqD, tPairs, tDisp, tDNewK, rIxS, tPar3, tCallW, tM0, tM1, rCat, tMake, tMeth, tDGet, sDPut, tSeq, tAsg, gName, tDrop, tRet, tRetN, tIfS, tNext, tTest, tB, tAnd, tOr, tNot, tAndV, tOrV, tNotV, tNever, tOp, tUn, rI0, rI, rU, tVar, tC, tCons, tNil, tBM, tBM0, tCB, tCall, tFld, sFld, tTup, tLst, gSub, gTup, gCons, gNil, tPar, tSl, tPart, tNoPart, rAppend, rClear, rSetL, rIxL, rIxT, rSlL, rEq, rNe, sl0, sl1, sl2, sl3, sl4, sl5, sl6, sl7, sl8, sl9, sl10, sl11, sl12, sl13, st0, st1, st2, st3, st4, st5, st6, st7, st8, st9, st10, st11, st12, st13, Option.some.injEq, V.int.injEq, V.bl.injEq, V.ref.injEq, V.str.injEq, List.cons.injEq, HO.ins.injEq, HO.lst.injEq, HO.tup.injEq, HO.dK.injEq, exists_eq_left', exists_eq_left, exists_eq_right, exists_and_left, exists_and_right, exists_const, and_assoc, true_and, and_true, decide_eq_true_eq, Int.toNat_natCast, mfl_width, mfl_base, mfl_rows, mfl_counts, mfl_entered, bfl_width, bfl_side, bfl_row, cx_K, upd_same, List.append_nil, List.cons_append, List.nil_append, List.length_cons, List.length_nil, tChain, Bool.not_true, Bool.not_false, if_true, if_false, tYes, scal_ii, scal_ss, scal_bb, ite_t, ite_f, dec_ii, dec_ss]
    refine ⟨e, d, et, clean w 70, n, rfl, hM4, (by show 0 < w; omega), hnl, fun a H5 b5 ha hB => ?_⟩
    have hM5 := hM4.ex b5
    have hP5 := hP4.but b5 (by simp)
    simp only [tBits, tCallN, ga_to_text_0_base_x_machine_most, ga_to_text_2_most, ga_to_text_3_most, rRep, rNeT, rEqT, rNeDA, rEqDA, rNeD, rEqD, tPairs, tDisp, tDNewK, rIxS, tPar3, tCallW, tM0, tM1, rCat, tMake, tMeth, tDGet, sDPut, tSeq, tAsg, gName, tDrop, tRet, tRetN, tIfS, tNext, tTest, tB, tAnd, tOr, tNot, tAndV, tOrV, tNotV, tNever, tOp, tUn, rI0, rI, rU, tVar, tC, tCons, tNil, tBM, tBM0, tCB, tCall, tFld, sFld, tTup, tLst, gSub, gTup, gCons, gNil, tPar, tSl, tPart, tNoPart, rAppend, rClear, rSetL, rIxL, rIxT, rSlL, rEq, rNe, sl0, sl1, sl2, sl3, sl4, sl5, sl6, sl7, sl8, sl9, sl10, sl11, sl12, sl13, st0, st1, st2, st3, st4, st5, st6, st7, st8, st9, st10, st11, st12, st13, Option.some.injEq, V.int.injEq, V.bl.injEq, V.ref.injEq, V.str.injEq, List.cons.injEq, HO.ins.injEq, HO.lst.injEq, HO.tup.injEq, HO.dK.injEq, exists_eq_left', exists_eq_left, exists_eq_right, exists_and_left, exists_and_right, exists_const, and_assoc, true_and, and_true, decide_eq_true_eq, Int.toNat_natCast, mfl_width, mfl_base, mfl_rows, mfl_counts, mfl_entered, bfl_width, bfl_side, bfl_row, cx_K, upd_same, List.append_nil, List.cons_append, List.nil_append, List.length_cons, List.length_nil, tChain, Bool.not_true, Bool.not_false, if_true, if_false, tYes, scal_ii, scal_ss, scal_bb, ite_t, ite_f, dec_ii, dec_ss]
    refine ⟨⟨by omega, by rw [Int.natAbs_natCast]; exact Nat.lt_of_le_of_lt (Nat.log2_le_self _) (by omega)⟩, ?_⟩
    rw [size_bits (by omega), habs]
    have hHb : ∀ {H' : Hp}, But [d, et] H5 H' → BigI K H' a w n := fun {H'} b' => hB.mach b' hM5
    refine fcutT (xs := [10, 2, 8, 16].map V.int) (fun σ' H' => But [d, et] H5 H' ∧ MAt K H' e d et (clean w 70) ∧ ∃ y6 y7 y8 y9, σ' = [some (.ref p), some (.int (w : Nat)), some (.ref e), some (.int n), some (.ref a), some (.int ((dgs w n.natAbs).length : Nat)), y6, y7, y8, y9])
      (fun b H' => But [d, et] H5 H' ∧ MAt K H' e d et (clean w 70) ∧ H' b = some (.tup ([10, 2, 8, 16].map V.int)))
      (fun b i σ' H' => But [d, et] H5 H' ∧ MAt K H' e d et (clean w 70) ∧ H' b = some (.tup ([10, 2, 8, 16].map V.int)) ∧ ∃ y6 y7 y8 y9, σ' = [some (.ref p), some (.int (w : Nat)), some (.ref e), some (.int n), some (.ref a), some (.int ((dgs w n.natAbs).length : Nat)), y6, y7, y8, y9])
      ?_ ?_ ?_ ?_ ?_ ?_
    · intro Q q
      simp only [tCallN, ga_to_text_0_base_x_machine_most, ga_to_text_2_most, ga_to_text_3_most, rRep, rNeT, rEqT, rNeDA, rEqDA, rNeD, rEqD, tPairs, tDisp, tDNewK, rIxS, tPar3, tCallW, tM0, tM1, rCat, tMake, tMeth, tDGet, sDPut, tSeq, tAsg, gName, tDrop, tRet, tRetN, tIfS, tNext, tTest, tB, tAnd, tOr, tNot, tAndV, tOrV, tNotV, tNever, tOp, tUn, rI0, rI, rU, tVar, tC, tCons, tNil, tBM, tBM0, tCB, tCall, tFld, sFld, tTup, tLst, gSub, gTup, gCons, gNil, tPar, tSl, tPart, tNoPart, rAppend, rClear, rSetL, rIxL, rIxT, rSlL, rEq, rNe, sl0, sl1, sl2, sl3, sl4, sl5, sl6, sl7, sl8, sl9, sl10, sl11, sl12, sl13, st0, st1, st2, st3, st4, st5, st6, st7, st8, st9, st10, st11, st12, st13, Option.some.injEq, V.int.injEq, V.bl.injEq, V.ref.injEq, V.str.injEq, List.cons.injEq, HO.ins.injEq, HO.lst.injEq, HO.tup.injEq, HO.dK.injEq, exists_eq_left', exists_eq_left, exists_eq_right, exists_and_left, exists_and_right, exists_const, and_assoc, true_and, and_true, decide_eq_true_eq, Int.toNat_natCast, mfl_width, mfl_base, mfl_rows, mfl_counts, mfl_entered, bfl_width, bfl_side, bfl_row, cx_K, upd_same, List.append_nil, List.cons_append, List.nil_append, List.length_cons, List.length_nil, tChain, Bool.not_true, Bool.not_false, if_true, if_false, tYes, scal_ii, scal_ss, scal_bb, ite_t, ite_f, dec_ii, dec_ss]
      exact ⟨by decide, fun c hc => q c _ ⟨But.new0 hc, hM5.ex (But.new0 hc), upd_same⟩⟩
    · rintro b H6 ⟨b6, m6, hb⟩
      exact ⟨b6, m6, hb, _, _, _, _, rfl⟩
    · rintro b i σ' H6 _ ⟨b6, m6, hb, _⟩; exact SqT.of hb
    · rintro Vn M bb hV hM' i x σ' H6 hx ⟨b6, m6, hb, y6, y7, y8, y9, rfl⟩
      obtain ⟨b, rfl, hbv⟩ : ∃ b : Nat, x = .int (b : Int) ∧ (b = 2 ∨ b = 8 ∨ b = 10 ∨ b = 16) := by
        have := List.mem_of_getElem? hx
        simp only [List.map_cons, List.map_nil, List.mem_cons, List.not_mem_nil, or_false] at this
        rcases this with rfl | rfl | rfl | rfl
        · exact ⟨10, rfl, by simp⟩
        · exact ⟨2, rfl, by simp⟩
        · exact ⟨8, rfl, by simp⟩
        · exact ⟨16, rfl, by simp⟩
      have hb36 : 2 ≤ b ∧ b < 36 := by omega
      obtain ⟨wc1, wc2, wc3, wc4⟩ := wrote_clean (w := w) (c := 70) (n := n) (b := b) ⟨by omega, hw30⟩ hb36.1
      simp only [tCallN, ga_to_text_0_base_x_machine_most, ga_to_text_2_most, ga_to_text_3_most, rRep, rNeT, rEqT, rNeDA, rEqDA, rNeD, rEqD, tPairs, tDisp, tDNewK, rIxS, tPar3, tCallW, tM0, tM1, rCat, tMake, tMeth, tDGet, sDPut, tSeq, tAsg, gName, tDrop, tRet, tRetN, tIfS, tNext, tTest, tB, tAnd, tOr, tNot, tAndV, tOrV, tNotV, tNever, tOp, tUn, rI0, rI, rU, tVar, tC, tCons, tNil, tBM, tBM0, tCB, tCall, tFld, sFld, tTup, tLst, gSub, gTup, gCons, gNil, tPar, tSl, tPart, tNoPart, rAppend, rClear, rSetL, rIxL, rIxT, rSlL, rEq, rNe, sl0, sl1, sl2, sl3, sl4, sl5, sl6, sl7, sl8, sl9, sl10, sl11, sl12, sl13, st0, st1, st2, st3, st4, st5, st6, st7, st8, st9, st10, st11, st12, st13, Option.some.injEq, V.int.injEq, V.bl.injEq, V.ref.injEq, V.str.injEq, List.cons.injEq, HO.ins.injEq, HO.lst.injEq, HO.tup.injEq, HO.dK.injEq, exists_eq_left', exists_eq_left, exists_eq_right, exists_and_left, exists_and_right, exists_const, and_assoc, true_and, and_true, decide_eq_true_eq, Int.toNat_natCast, mfl_width, mfl_base, mfl_rows, mfl_counts, mfl_entered, bfl_width, bfl_side, bfl_row, cx_K, upd_same, List.append_nil, List.cons_append, List.nil_append, List.length_cons, List.length_nil, tChain, Bool.not_true, Bool.not_false, if_true, if_false, tYes, scal_ii, scal_ss, scal_bb, ite_t, ite_f, dec_ii, dec_ss]
      refine ⟨n, b, rfl, hb36, hnl, ?_⟩
      refine ⟨e, d, et, a, clean w 70, n, b, 4300, rfl, m6, hHb b6, ⟨by show 4 ≤ w; omega, hw30⟩, hnl, hbv, .inr (by decide), fun _ _ => ?_, fun H7 b7 m7 => ?_⟩
      · have := bits_le hn; omega
      refine ⟨rfl, ?_⟩
      rw [if_neg (by simp)]
      have hab : (if n < 0 then -n else n) = ((n.natAbs : Nat) : Int) := by split <;> omega
      have hbi : ((b : Int) = 10) = (b = 10) := by apply propext; omega
      obtain ⟨st, hst⟩ : ∃ st : Int, st = if b = 10 then ((stp w (10 ^ gsz 10 (2 ^ w)) n.natAbs (dgs w n.natAbs).length (dgs w n.natAbs).length : Nat) : Int) else ((txtB b n).length : Int) - (if n < 0 then 1 else 0) := ⟨_, rfl⟩
      have htal : n ≠ 0 → tal w n b = [((if b = 10 then "quotient" else "shifted" : Str), st)] := by
        intro hn0
        unfold tal
        rw [if_neg hn0, hst]
        by_cases h10 : b = 10
        · rw [if_pos h10, if_pos h10, if_pos h10]
        · rw [if_neg h10, if_neg h10, if_neg h10, len_txtB hn0]
      refine tifM (decide (b = 10)) (fun v H' => v = .int st ∧ But [] H7 H') (fun R rr => ?_) (fun hb1 R rr => ?_) (fun hb1 R rr => ?_) ?_
      · simp only [hbi, tCallN, ga_to_text_0_base_x_machine_most, ga_to_text_2_most, ga_to_text_3_most, rRep, rNeT, rEqT, rNeDA, rEqDA, rNeD, rEqD, tPairs, tDisp, tDNewK, rIxS, tPar3, tCallW, tM0, tM1, rCat, tMake, tMeth, tDGet, sDPut, tSeq, tAsg, gName, tDrop, tRet, tRetN, tIfS, tNext, tTest, tB, tAnd, tOr, tNot, tAndV, tOrV, tNotV, tNever, tOp, tUn, rI0, rI, rU, tVar, tC, tCons, tNil, tBM, tBM0, tCB, tCall, tFld, sFld, tTup, tLst, gSub, gTup, gCons, gNil, tPar, tSl, tPart, tNoPart, rAppend, rClear, rSetL, rIxL, rIxT, rSlL, rEq, rNe, sl0, sl1, sl2, sl3, sl4, sl5, sl6, sl7, sl8, sl9, sl10, sl11, sl12, sl13, st0, st1, st2, st3, st4, st5, st6, st7, st8, st9, st10, st11, st12, st13, Option.some.injEq, V.int.injEq, V.bl.injEq, V.ref.injEq, V.str.injEq, List.cons.injEq, HO.ins.injEq, HO.lst.injEq, HO.tup.injEq, HO.dK.injEq, exists_eq_left', exists_eq_left, exists_eq_right, exists_and_left, exists_and_right, exists_const, and_assoc, true_and, and_true, decide_eq_true_eq, Int.toNat_natCast, mfl_width, mfl_base, mfl_rows, mfl_counts, mfl_entered, bfl_width, bfl_side, bfl_row, cx_K, upd_same, List.append_nil, List.cons_append, List.nil_append, List.length_cons, List.length_nil, tChain, Bool.not_true, Bool.not_false, if_true, if_false, tYes, scal_ii, scal_ss, scal_bb, ite_t, ite_f, dec_ii, dec_ss]; exact rr
      · have h10 : b = 10 := by simpa using hb1
        simp only [tCallN, ga_to_text_0_base_x_machine_most, ga_to_text_2_most, ga_to_text_3_most, rRep, rNeT, rEqT, rNeDA, rEqDA, rNeD, rEqD, tPairs, tDisp, tDNewK, rIxS, tPar3, tCallW, tM0, tM1, rCat, tMake, tMeth, tDGet, sDPut, tSeq, tAsg, gName, tDrop, tRet, tRetN, tIfS, tNext, tTest, tB, tAnd, tOr, tNot, tAndV, tOrV, tNotV, tNever, tOp, tUn, rI0, rI, rU, tVar, tC, tCons, tNil, tBM, tBM0, tCB, tCall, tFld, sFld, tTup, tLst, gSub, gTup, gCons, gNil, tPar, tSl, tPart, tNoPart, rAppend, rClear, rSetL, rIxL, rIxT, rSlL, rEq, rNe, sl0, sl1, sl2, sl3, sl4, sl5, sl6, sl7, sl8, sl9, sl10, sl11, sl12, sl13, st0, st1, st2, st3, st4, st5, st6, st7, st8, st9, st10, st11, st12, st13, Option.some.injEq, V.int.injEq, V.bl.injEq, V.ref.injEq, V.str.injEq, List.cons.injEq, HO.ins.injEq, HO.lst.injEq, HO.tup.injEq, HO.dK.injEq, exists_eq_left', exists_eq_left, exists_eq_right, exists_and_left, exists_and_right, exists_const, and_assoc, true_and, and_true, decide_eq_true_eq, Int.toNat_natCast, mfl_width, mfl_base, mfl_rows, mfl_counts, mfl_entered, bfl_width, bfl_side, bfl_row, cx_K, upd_same, List.append_nil, List.cons_append, List.nil_append, List.length_cons, List.length_nil, tChain, Bool.not_true, Bool.not_false, if_true, if_false, tYes, scal_ii, scal_ss, scal_bb, ite_t, ite_f, dec_ii, dec_ss]
        refine ⟨w, n.natAbs, by rw [hab], ⟨by omega, hw30⟩, hnl, fun H8 b8 => rr _ _ ⟨?_, b8⟩⟩
        rw [hst, if_pos h10]
      · have h10 : ¬ b = 10 := by simpa using hb1
        simp only [tCallN, ga_to_text_0_base_x_machine_most, ga_to_text_2_most, ga_to_text_3_most, rRep, rNeT, rEqT, rNeDA, rEqDA, rNeD, rEqD, tPairs, tDisp, tDNewK, rIxS, tPar3, tCallW, tM0, tM1, rCat, tMake, tMeth, tDGet, sDPut, tSeq, tAsg, gName, tDrop, tRet, tRetN, tIfS, tNext, tTest, tB, tAnd, tOr, tNot, tAndV, tOrV, tNotV, tNever, tOp, tUn, rI0, rI, rU, tVar, tC, tCons, tNil, tBM, tBM0, tCB, tCall, tFld, sFld, tTup, tLst, gSub, gTup, gCons, gNil, tPar, tSl, tPart, tNoPart, rAppend, rClear, rSetL, rIxL, rIxT, rSlL, rEq, rNe, sl0, sl1, sl2, sl3, sl4, sl5, sl6, sl7, sl8, sl9, sl10, sl11, sl12, sl13, st0, st1, st2, st3, st4, st5, st6, st7, st8, st9, st10, st11, st12, st13, Option.some.injEq, V.int.injEq, V.bl.injEq, V.ref.injEq, V.str.injEq, List.cons.injEq, HO.ins.injEq, HO.lst.injEq, HO.tup.injEq, HO.dK.injEq, exists_eq_left', exists_eq_left, exists_eq_right, exists_and_left, exists_and_right, exists_const, and_assoc, true_and, and_true, decide_eq_true_eq, Int.toNat_natCast, mfl_width, mfl_base, mfl_rows, mfl_counts, mfl_entered, bfl_width, bfl_side, bfl_row, cx_K, upd_same, List.append_nil, List.cons_append, List.nil_append, List.length_cons, List.length_nil, tChain, Bool.not_true, Bool.not_false, if_true, if_false, tYes, scal_ii, scal_ss, scal_bb, ite_t, ite_f, dec_ii, dec_ss]
        refine ⟨?_, rr _ _ ⟨?_, But.refl _⟩⟩
        · rw [S_len]
          have h1 : (txtB b n).length ≤ lim + 2 := by
            unfold txtB
            rw [List.length_append]
            have h2 := ldig_len_le hb36.1 (Nat.lt_of_lt_of_le hnl (Nat.pow_le_pow_left hb36.1 lim))
            split <;> split <;> simp [len_digT] <;> omega
          have h2 := lim_le
          exact Nat.le_trans h1 (Nat.le_trans (show lim + 2 ≤ 10000002 by omega) (by decide))
        · rw [hst, if_neg h10, S_len]
      · rintro _ H8 ⟨rfl, b8⟩
        refine tifM (decide (n ≠ 0)) (fun v H' => ∃ C, v = .ref C ∧ But [] H8 H' ∧ H8 C = none ∧ H' C = some (.dK ((tal w n b).map fun q => (Sum.inr q.1, V.int q.2)))) (fun R rr => ?_) (fun hb1 R rr => ?_) (fun hb1 R rr => ?_) ?_
        · simp only [tCallN, ga_to_text_0_base_x_machine_most, ga_to_text_2_most, ga_to_text_3_most, rRep, rNeT, rEqT, rNeDA, rEqDA, rNeD, rEqD, tPairs, tDisp, tDNewK, rIxS, tPar3, tCallW, tM0, tM1, rCat, tMake, tMeth, tDGet, sDPut, tSeq, tAsg, gName, tDrop, tRet, tRetN, tIfS, tNext, tTest, tB, tAnd, tOr, tNot, tAndV, tOrV, tNotV, tNever, tOp, tUn, rI0, rI, rU, tVar, tC, tCons, tNil, tBM, tBM0, tCB, tCall, tFld, sFld, tTup, tLst, gSub, gTup, gCons, gNil, tPar, tSl, tPart, tNoPart, rAppend, rClear, rSetL, rIxL, rIxT, rSlL, rEq, rNe, sl0, sl1, sl2, sl3, sl4, sl5, sl6, sl7, sl8, sl9, sl10, sl11, sl12, sl13, st0, st1, st2, st3, st4, st5, st6, st7, st8, st9, st10, st11, st12, st13, Option.some.injEq, V.int.injEq, V.bl.injEq, V.ref.injEq, V.str.injEq, List.cons.injEq, HO.ins.injEq, HO.lst.injEq, HO.tup.injEq, HO.dK.injEq, exists_eq_left', exists_eq_left, exists_eq_right, exists_and_left, exists_and_right, exists_const, and_assoc, true_and, and_true, decide_eq_true_eq, Int.toNat_natCast, mfl_width, mfl_base, mfl_rows, mfl_counts, mfl_entered, bfl_width, bfl_side, bfl_row, cx_K, upd_same, List.append_nil, List.cons_append, List.nil_append, List.length_cons, List.length_nil, tChain, Bool.not_true, Bool.not_false, if_true, if_false, tYes, scal_ii, scal_ss, scal_bb, ite_t, ite_f, dec_ii, dec_ss]
          by_cases hn0 : n = 0
          · simpa [hn0] using rr
          · simpa [hn0] using rr
        · have hn0 : n ≠ 0 := by simpa using hb1
          simp only [tCallN, ga_to_text_0_base_x_machine_most, ga_to_text_2_most, ga_to_text_3_most, rRep, rNeT, rEqT, rNeDA, rEqDA, rNeD, rEqD, tPairs, tDisp, tDNewK, rIxS, tPar3, tCallW, tM0, tM1, rCat, tMake, tMeth, tDGet, sDPut, tSeq, tAsg, gName, tDrop, tRet, tRetN, tIfS, tNext, tTest, tB, tAnd, tOr, tNot, tAndV, tOrV, tNotV, tNever, tOp, tUn, rI0, rI, rU, tVar, tC, tCons, tNil, tBM, tBM0, tCB, tCall, tFld, sFld, tTup, tLst, gSub, gTup, gCons, gNil, tPar, tSl, tPart, tNoPart, rAppend, rClear, rSetL, rIxL, rIxT, rSlL, rEq, rNe, sl0, sl1, sl2, sl3, sl4, sl5, sl6, sl7, sl8, sl9, sl10, sl11, sl12, sl13, st0, st1, st2, st3, st4, st5, st6, st7, st8, st9, st10, st11, st12, st13, Option.some.injEq, V.int.injEq, V.bl.injEq, V.ref.injEq, V.str.injEq, List.cons.injEq, HO.ins.injEq, HO.lst.injEq, HO.tup.injEq, HO.dK.injEq, exists_eq_left', exists_eq_left, exists_eq_right, exists_and_left, exists_and_right, exists_const, and_assoc, true_and, and_true, decide_eq_true_eq, Int.toNat_natCast, mfl_width, mfl_base, mfl_rows, mfl_counts, mfl_entered, bfl_width, bfl_side, bfl_row, cx_K, upd_same, List.append_nil, List.cons_append, List.nil_append, List.length_cons, List.length_nil, tChain, Bool.not_true, Bool.not_false, if_true, if_false, tYes, scal_ii, scal_ss, scal_bb, ite_t, ite_f, dec_ii, dec_ss]
          intro C hC
          refine tif (decide (b = 10)) (.str (if b = 10 then "quotient" else "shifted")) (fun R rr => ?_) (fun h10 rr => ?_) (fun h10 rr => ?_) ?_
          · simp only [hbi, tCallN, ga_to_text_0_base_x_machine_most, ga_to_text_2_most, ga_to_text_3_most, rRep, rNeT, rEqT, rNeDA, rEqDA, rNeD, rEqD, tPairs, tDisp, tDNewK, rIxS, tPar3, tCallW, tM0, tM1, rCat, tMake, tMeth, tDGet, sDPut, tSeq, tAsg, gName, tDrop, tRet, tRetN, tIfS, tNext, tTest, tB, tAnd, tOr, tNot, tAndV, tOrV, tNotV, tNever, tOp, tUn, rI0, rI, rU, tVar, tC, tCons, tNil, tBM, tBM0, tCB, tCall, tFld, sFld, tTup, tLst, gSub, gTup, gCons, gNil, tPar, tSl, tPart, tNoPart, rAppend, rClear, rSetL, rIxL, rIxT, rSlL, rEq, rNe, sl0, sl1, sl2, sl3, sl4, sl5, sl6, sl7, sl8, sl9, sl10, sl11, sl12, sl13, st0, st1, st2, st3, st4, st5, st6, st7, st8, st9, st10, st11, st12, st13, Option.some.injEq, V.int.injEq, V.bl.injEq, V.ref.injEq, V.str.injEq, List.cons.injEq, HO.ins.injEq, HO.lst.injEq, HO.tup.injEq, HO.dK.injEq, exists_eq_left', exists_eq_left, exists_eq_right, exists_and_left, exists_and_right, exists_const, and_assoc, true_and, and_true, decide_eq_true_eq, Int.toNat_natCast, mfl_width, mfl_base, mfl_rows, mfl_counts, mfl_entered, bfl_width, bfl_side, bfl_row, cx_K, upd_same, List.append_nil, List.cons_append, List.nil_append, List.length_cons, List.length_nil, tChain, Bool.not_true, Bool.not_false, if_true, if_false, tYes, scal_ii, scal_ss, scal_bb, ite_t, ite_f, dec_ii, dec_ss]; exact rr
          · have h10' : b = 10 := by simpa using h10
            rw [if_pos h10'] at rr
            simp only [tCallN, ga_to_text_0_base_x_machine_most, ga_to_text_2_most, ga_to_text_3_most, rRep, rNeT, rEqT, rNeDA, rEqDA, rNeD, rEqD, tPairs, tDisp, tDNewK, rIxS, tPar3, tCallW, tM0, tM1, rCat, tMake, tMeth, tDGet, sDPut, tSeq, tAsg, gName, tDrop, tRet, tRetN, tIfS, tNext, tTest, tB, tAnd, tOr, tNot, tAndV, tOrV, tNotV, tNever, tOp, tUn, rI0, rI, rU, tVar, tC, tCons, tNil, tBM, tBM0, tCB, tCall, tFld, sFld, tTup, tLst, gSub, gTup, gCons, gNil, tPar, tSl, tPart, tNoPart, rAppend, rClear, rSetL, rIxL, rIxT, rSlL, rEq, rNe, sl0, sl1, sl2, sl3, sl4, sl5, sl6, sl7, sl8, sl9, sl10, sl11, sl12, sl13, st0, st1, st2, st3, st4, st5, st6, st7, st8, st9, st10, st11, st12, st13, Option.some.injEq, V.int.injEq, V.bl.injEq, V.ref.injEq, V.str.injEq, List.cons.injEq, HO.ins.injEq, HO.lst.injEq, HO.tup.injEq, HO.dK.injEq, exists_eq_left', exists_eq_left, exists_eq_right, exists_and_left, exists_and_right, exists_const, and_assoc, true_and, and_true, decide_eq_true_eq, Int.toNat_natCast, mfl_width, mfl_base, mfl_rows, mfl_counts, mfl_entered, bfl_width, bfl_side, bfl_row, cx_K, upd_same, List.append_nil, List.cons_append, List.nil_append, List.length_cons, List.length_nil, tChain, Bool.not_true, Bool.not_false, if_true, if_false, tYes, scal_ii, scal_ss, scal_bb, ite_t, ite_f, dec_ii, dec_ss]; simpa only [tCallN, ga_to_text_0_base_x_machine_most, ga_to_text_2_most, ga_to_text_3_most, rRep, rNeT, rEqT, rNeDA, rEqDA, rNeD, rEqD, tPairs, tDisp, tDNewK, rIxS, tPar3, tCallW, tM0, tM1, rCat, tMake, tMeth, tDGet, sDPut, tSeq, tAsg, gName, tDrop, tRet, tRetN, tIfS, tNext, tTest, tB, tAnd, tOr, tNot, tAndV, tOrV, tNotV, tNever, tOp, tUn, rI0, rI, rU, tVar, tC, tCons, tNil, tBM, tBM0, tCB, tCall, tFld, sFld, tTup, tLst, gSub, gTup, gCons, gNil, tPar, tSl, tPart, tNoPart, rAppend, rClear, rSetL, rIxL, rIxT, rSlL, rEq, rNe, sl0, sl1, sl2, sl3, sl4, sl5, sl6, sl7, sl8, sl9, sl10, sl11, sl12, sl13, st0, st1, st2, st3, st4, st5, st6, st7, st8, st9, st10, st11, st12, st13, Option.some.injEq, V.int.injEq, V.bl.injEq, V.ref.injEq, V.str.injEq, List.cons.injEq, HO.ins.injEq, HO.lst.injEq, HO.tup.injEq, HO.dK.injEq, exists_eq_left', exists_eq_left, exists_eq_right, exists_and_left, exists_and_right, exists_const, and_assoc, true_and, and_true, decide_eq_true_eq, Int.toNat_natCast, mfl_width, mfl_base, mfl_rows, mfl_counts, mfl_entered, bfl_width, bfl_side, bfl_row, cx_K, upd_same, List.append_nil, List.cons_append, List.nil_append, List.length_cons, List.length_nil, tChain, Bool.not_true, Bool.not_false, if_true, if_false, tYes, scal_ii, scal_ss, scal_bb, ite_t, ite_f, dec_ii, dec_ss] using rr
          · have h10' : ¬ b = 10 := by simpa using h10
            rw [if_neg h10'] at rr
            simp only [tCallN, ga_to_text_0_base_x_machine_most, ga_to_text_2_most, ga_to_text_3_most, rRep, rNeT, rEqT, rNeDA, rEqDA, rNeD, rEqD, tPairs, tDisp, tDNewK, rIxS, tPar3, tCallW, tM0, tM1, rCat, tMake, tMeth, tDGet, sDPut, tSeq, tAsg, gName, tDrop, tRet, tRetN, tIfS, tNext, tTest, tB, tAnd, tOr, tNot, tAndV, tOrV, tNotV, tNever, tOp, tUn, rI0, rI, rU, tVar, tC, tCons, tNil, tBM, tBM0, tCB, tCall, tFld, sFld, tTup, tLst, gSub, gTup, gCons, gNil, tPar, tSl, tPart, tNoPart, rAppend, rClear, rSetL, rIxL, rIxT, rSlL, rEq, rNe, sl0, sl1, sl2, sl3, sl4, sl5, sl6, sl7, sl8, sl9, sl10, sl11, sl12, sl13, st0, st1, st2, st3, st4, st5, st6, st7, st8, st9, st10, st11, st12, st13, Option.some.injEq, V.int.injEq, V.bl.injEq, V.ref.injEq, V.str.injEq, List.cons.injEq, HO.ins.injEq, HO.lst.injEq, HO.tup.injEq, HO.dK.injEq, exists_eq_left', exists_eq_left, exists_eq_right, exists_and_left, exists_and_right, exists_const, and_assoc, true_and, and_true, decide_eq_true_eq, Int.toNat_natCast, mfl_width, mfl_base, mfl_rows, mfl_counts, mfl_entered, bfl_width, bfl_side, bfl_row, cx_K, upd_same, List.append_nil, List.cons_append, List.nil_append, List.length_cons, List.length_nil, tChain, Bool.not_true, Bool.not_false, if_true, if_false, tYes, scal_ii, scal_ss, scal_bb, ite_t, ite_f, dec_ii, dec_ss]; simpa only [tCallN, ga_to_text_0_base_x_machine_most, ga_to_text_2_most, ga_to_text_3_most, rRep, rNeT, rEqT, rNeDA, rEqDA, rNeD, rEqD, tPairs, tDisp, tDNewK, rIxS, tPar3, tCallW, tM0, tM1, rCat, tMake, tMeth, tDGet, sDPut, tSeq, tAsg, gName, tDrop, tRet, tRetN, tIfS, tNext, tTest, tB, tAnd, tOr, tNot, tAndV, tOrV, tNotV, tNever, tOp, tUn, rI0, rI, rU, tVar, tC, tCons, tNil, tBM, tBM0, tCB, tCall, tFld, sFld, tTup, tLst, gSub, gTup, gCons, gNil, tPar, tSl, tPart, tNoPart, rAppend, rClear, rSetL, rIxL, rIxT, rSlL, rEq, rNe, sl0, sl1, sl2, sl3, sl4, sl5, sl6, sl7, sl8, sl9, sl10, sl11, sl12, sl13, st0, st1, st2, st3, st4, st5, st6, st7, st8, st9, st10, st11, st12, st13, Option.some.injEq, V.int.injEq, V.bl.injEq, V.ref.injEq, V.str.injEq, List.cons.injEq, HO.ins.injEq, HO.lst.injEq, HO.tup.injEq, HO.dK.injEq, exists_eq_left', exists_eq_left, exists_eq_right, exists_and_left, exists_and_right, exists_const, and_assoc, true_and, and_true, decide_eq_true_eq, Int.toNat_natCast, mfl_width, mfl_base, mfl_rows, mfl_counts, mfl_entered, bfl_width, bfl_side, bfl_row, cx_K, upd_same, List.append_nil, List.cons_append, List.nil_append, List.length_cons, List.length_nil, tChain, Bool.not_true, Bool.not_false, if_true, if_false, tYes, scal_ii, scal_ss, scal_bb, ite_t, ite_f, dec_ii, dec_ss] using rr
          · refine ⟨upd_same, [(Sum.inr (if b = 10 then "quotient" else "shifted"), V.int st)], rfl, by simp, rr _ _ ⟨C, rfl, ?_, hC, ?_⟩⟩
            · rw [upd_upd]; exact But.new0 hC
            · rw [upd_same, htal hn0]; rfl
        · have hn0 : n = 0 := by simpa using hb1
          simp only [tCallN, ga_to_text_0_base_x_machine_most, ga_to_text_2_most, ga_to_text_3_most, rRep, rNeT, rEqT, rNeDA, rEqDA, rNeD, rEqD, tPairs, tDisp, tDNewK, rIxS, tPar3, tCallW, tM0, tM1, rCat, tMake, tMeth, tDGet, sDPut, tSeq, tAsg, gName, tDrop, tRet, tRetN, tIfS, tNext, tTest, tB, tAnd, tOr, tNot, tAndV, tOrV, tNotV, tNever, tOp, tUn, rI0, rI, rU, tVar, tC, tCons, tNil, tBM, tBM0, tCB, tCall, tFld, sFld, tTup, tLst, gSub, gTup, gCons, gNil, tPar, tSl, tPart, tNoPart, rAppend, rClear, rSetL, rIxL, rIxT, rSlL, rEq, rNe, sl0, sl1, sl2, sl3, sl4, sl5, sl6, sl7, sl8, sl9, sl10, sl11, sl12, sl13, st0, st1, st2, st3, st4, st5, st6, st7, st8, st9, st10, st11, st12, st13, Option.some.injEq, V.int.injEq, V.bl.injEq, V.ref.injEq, V.str.injEq, List.cons.injEq, HO.ins.injEq, HO.lst.injEq, HO.tup.injEq, HO.dK.injEq, exists_eq_left', exists_eq_left, exists_eq_right, exists_and_left, exists_and_right, exists_const, and_assoc, true_and, and_true, decide_eq_true_eq, Int.toNat_natCast, mfl_width, mfl_base, mfl_rows, mfl_counts, mfl_entered, bfl_width, bfl_side, bfl_row, cx_K, upd_same, List.append_nil, List.cons_append, List.nil_append, List.length_cons, List.length_nil, tChain, Bool.not_true, Bool.not_false, if_true, if_false, tYes, scal_ii, scal_ss, scal_bb, ite_t, ite_f, dec_ii, dec_ss]
          intro C hC
          refine rr _ _ ⟨C, rfl, But.new0 hC, hC, ?_⟩
          rw [upd_same]
          unfold tal
          rw [if_pos hn0]; rfl
        · rintro _ H9 ⟨C, rfl, b9, hC8, hC9⟩
          have hWw : (wrote (clean w 70) n b).w = w := wc4
          have m9 := (m7.ex b8).ex b9
          have bt : But [d, et] H5 H9 := (b6.trans b7).trans (b8.trans b9).nil
          refine ⟨e, d, et, _, rfl, m9, fun t D L refs H10 b10 m10 htn hDn ht hD hL hW => ⟨by decide, fun p1 hp1 => ⟨by decide, fun p2 hp2 => ⟨by decide, fun p3 hp3 => ?_⟩⟩⟩⟩
          rw [wc1] at hD
          rw [wc2] at hW
          rw [wc3] at m10
          generalize hG : upd (upd (upd H10 p1 _) p2 _) p3 _ = G
          have bG : But [] H10 G := by rw [← hG]; exact ((But.new0 hp1).new hp2).new hp3
          have hp12 : p1 ≠ p2 := fun z => by rw [z, upd_same] at hp2; cases hp2
          have hp23 : p2 ≠ p3 := fun z => by rw [z, upd_same] at hp3; cases hp3
          have hp13 : p1 ≠ p3 := fun z => by rw [z, upd_ne hp23.symm, ← z, upd_same] at hp3; cases hp3
          have hG1 : G p1 = some (.tup [.str "write", .int ((dgs w n.natAbs).length : Nat), .int (b : Int)]) := by rw [← hG, upd_ne hp13, upd_ne hp12, upd_same]
          have hG2 : G p2 = some (.lst [.ref p1]) := by rw [← hG, upd_ne hp23, upd_same]
          have hG3 : G p3 = some (.tup [.ref C, .ref p2]) := by rw [← hG, upd_same]
          have hCde : C ∉ [d, et] := by
            have m8 := m7.ex b8
            obtain ⟨_, hc8, _, he8, _⟩ := m8
            have h1 := ne_of_none hc8 hC8
            have h2 := ne_of_none he8 hC8
            simp [h1.symm, h2.symm]
          have hC10 := b10 _ _ hC9 hCde
          have hCG := bG _ _ hC10 (by simp)
          have hval : ∀ q ∈ (tal w n b).map (fun q => ((Sum.inr q.1 : Key), V.int q.2)), valV ((tal w n b).map fun q => ((Sum.inr q.1 : Key), V.int q.2)) q.1 = some q.2 ∧ flatB q.2 = true := by
            unfold tal
            by_cases hn0 : n = 0
            · rw [if_pos hn0]; simp
            · rw [if_neg hn0]
              intro q hq
              simp only [List.map_cons, List.map_nil, List.mem_singleton] at hq
              subst hq
              exact ⟨by simp [valV], rfl⟩
          obtain ⟨u, q, rfl, rfl, hq⟩ : ∃ u q, refs = [u] ∧ u = .ref q ∧ H10 q = some (.tup [.str "write", .int ((dgs w n.natAbs).length : Nat), .int (b : Int)]) := by
            cases hW with
            | cons h t =>
              cases t
              obtain ⟨q, h1, h2⟩ := h
              exact ⟨_, q, rfl, h1, h2⟩
          refine ⟨⟨3, t, p3, _, _, by decide, rfl, rfl, SqT.of (bG _ _ ht (by simp)), SqT.of hG3, .cons ?_ (.cons ?_ .nil)⟩, ?_⟩
          · refine .inr (.inr (.inr ⟨D, C, _, _, rfl, rfl, bG _ _ hD (by simp), hCG, rfl, fun z hz => ⟨z.2, (hval z hz).1, .inl ⟨rfl, (hval z hz).2⟩⟩⟩))
          · refine .inr (.inr (.inl ⟨L, p2, _, _, rfl, rfl, SqL.of (bG _ _ hL (by simp)), SqL.of hG2, .cons ?_ .nil⟩))
            refine .inr (.inl ⟨q, p1, _, _, rfl, rfl, SqT.of (bG _ _ hq (by simp)), SqT.of hG1, .cons (.inl ⟨rfl, rfl⟩) (.cons (.inl ⟨rfl, rfl⟩) (.cons (.inl ⟨rfl, rfl⟩) .nil))⟩)
          · have mG := m10.ex bG
            have btG : But [d, et] H5 G := bt.trans (b10.trans bG.nil)
            refine ⟨e, d, et, a, clean w 70, n, b, 0, rfl, mG, hHb btG, ⟨by show 4 ≤ w; omega, hw30⟩, hnl, hbv, .inl rfl, fun _ h => absurd h (by decide), fun H11 b11 m11 => ⟨rfl, ?_⟩⟩
            rw [if_neg (by simp)]
            refine ⟨e, d, et, _, rfl, m11, fun t2 D2 L2 refs2 H12 b12 m12 htn2 hDn2 ht2 hD2 hL2 hW2 => ⟨t2, rfl, _, SqT.of ht2, _, rfl, D2, rfl, C, rfl, _, hD2, _, b12 _ _ (b11 _ _ hCG hCde) hCde, ?_⟩⟩
            rw [wc1]
            rw [wc3] at m12
            have hbde : bb ∉ [d, et] := by
              obtain ⟨_, hc6, _, he6, _⟩ := m6
              have h1 := ne_of hb hc6 (by intro z; cases z)
              have h2 := ne_of hb he6 (by intro z; cases z)
              simp [h1, h2]
            exact ⟨rfl, hval, hV _ _ _ ⟨btG.trans (b11.trans b12), m12, b12 _ _ (b11 _ _ (bG _ _ (b10 _ _ (b9 _ _ (b8 _ _ (b7 _ _ hb hbde) (by simp)) (by simp)) hbde) (by simp)) hbde) hbde, _, _, _, _, rfl⟩⟩
    · rintro b σ' H6 ⟨b6, m6, hb, y⟩; exact ⟨b6, m6, y⟩
    · rintro σ' H6 ⟨b6, m6, y6, y7, y8, y9, rfl⟩
      simp only [tCallN, ga_to_text_0_base_x_machine_most, ga_to_text_2_most, ga_to_text_3_most, rRep, rNeT, rEqT, rNeDA, rEqDA, rNeD, rEqD, tPairs, tDisp, tDNewK, rIxS, tPar3, tCallW, tM0, tM1, rCat, tMake, tMeth, tDGet, sDPut, tSeq, tAsg, gName, tDrop, tRet, tRetN, tIfS, tNext, tTest, tB, tAnd, tOr, tNot, tAndV, tOrV, tNotV, tNever, tOp, tUn, rI0, rI, rU, tVar, tC, tCons, tNil, tBM, tBM0, tCB, tCall, tFld, sFld, tTup, tLst, gSub, gTup, gCons, gNil, tPar, tSl, tPart, tNoPart, rAppend, rClear, rSetL, rIxL, rIxT, rSlL, rEq, rNe, sl0, sl1, sl2, sl3, sl4, sl5, sl6, sl7, sl8, sl9, sl10, sl11, sl12, sl13, st0, st1, st2, st3, st4, st5, st6, st7, st8, st9, st10, st11, st12, st13, Option.some.injEq, V.int.injEq, V.bl.injEq, V.ref.injEq, V.str.injEq, List.cons.injEq, HO.ins.injEq, HO.lst.injEq, HO.tup.injEq, HO.dK.injEq, exists_eq_left', exists_eq_left, exists_eq_right, exists_and_left, exists_and_right, exists_const, and_assoc, true_and, and_true, decide_eq_true_eq, Int.toNat_natCast, mfl_width, mfl_base, mfl_rows, mfl_counts, mfl_entered, bfl_width, bfl_side, bfl_row, cx_K, upd_same, List.append_nil, List.cons_append, List.nil_append, List.length_cons, List.length_nil, tChain, Bool.not_true, Bool.not_false, if_true, if_false, tYes, scal_ii, scal_ss, scal_bb, ite_t, ite_f, dec_ii, dec_ss]
      refine ⟨e, d, et, a, clean w 70, n, 10, 4300, rfl, m6, hHb b6, ⟨by show 4 ≤ w; omega, hw30⟩, hnl, by simp, .inr (by decide), fun _ _ => ?_, fun H7 b7 m7 => ?_⟩
      · have := bits_le hn; omega
      refine ⟨n, 10, rfl, ⟨by decide, by decide⟩, hnl, rfl, ?_⟩
      rw [decide_eq_true (by rfl)]
      refine q _ ?_ ?_
      · have h1 : But [p, d, et] H H5 := (bb2.trans ((b3.nil.trans b4).trans b5.nil)).mono (by simp)
        have h2 : But [p, d, et] H5 H7 := (b6.trans b7).mono (fun x hx => by
          simp at hx
          rcases hx with rfl | rfl <;> simp)
        refine (h1.trans h2).less fun x hx => ?_
        simp only [List.mem_cons, List.not_mem_nil, or_false] at hx
        rcases hx with rfl | rfl | rfl
        · left; simp
        · right; exact bb2.free hd (by simp [hpd.symm])
        · right; exact bb2.free het (by simp [hpet.symm])
      · exact (hP5.but (b6.trans b7) (by simp [hpd, hpet])).up (by omega)
theorem c_law_right (T : Tx K mg) : Cal P w K mg base CX0 "_law_right" 6 ["_law_purse_here"] [] (sp_law_right K) := by
  obtain ⟨fd, F⟩ := f_law_right T
  exact ⟨_, fd, [], G_law_right T, F.kp, o_law_right T F, B_law_right F, .nil⟩
/-! ### law -/
theorem sc_law : FnScope ["_law_script", "_law_cell", "_law_purse_here", "_law_turn", "_law_tiny", "_law_got"] ["_law_script"] (defScope s_law) := ⟨rfl, rfl, rfl, by decide +kernel, rfl, by decide +kernel, by decide +kernel⟩
def sp_law (K : PySem.W.Frag) : Sp := fun vs H Q E => ∃ (sc : Addr) (cs : List Int), vs = [.ref sc] ∧ (SqL K H sc (cs.map .int)) ∧ (∀ H', Q (.bl true) H')
theorem o_law (T : Tx K mg) {fd : FuncData} (F : FunD K "law" "law" (defArgs s_law) (defBody s_law) (defScope s_law) [] [] (He.fAd K ("law", none)) fd) : FnOk P w K mg base CX0 7 (He.fAd K ("law", none)) fd ["_law_script"] (sp_law K) := by
  refine F.ok sc_law (fun vs H Q E h => ?_) (fun cdv A outer s H vs Q E hr h => ?_)
  · obtain ⟨sc, cs, rfl, _⟩ := h
    rfl
  · obtain ⟨sc, cs, rfl, hs, q⟩ := h
    refine ⟨_, PSs.nox (Evl.pss_cut (ps_for PassesOwn.never rfl (pi_list (pe_op op_cat (pe_slice sl_list (pv 0) po_none (po_some pe_int)) (pe_lst (pa_cons pe_int pa_nil)))) (pg_name (i := 1) sc_law.nd rfl (.inl rfl)) (pss_cons (ps_set (i := 2) sc_law.nd rfl (.inl rfl) (pc (c_law_purse T) hr (by decide) pass0 (pa_cons (pv 1) pa_nil)))
      (pss_one (ps_for PassesOwn.never rfl (pi_range1 (by rfl) (b_range T) (pa_cons pe_int pa_nil)) (pg_name (i := 3) sc_law.nd rfl (.inl rfl)) (pss_one (ps_if (pt_not (pt_val (pc (c_law_right T) hr (by decide) pass0 (pa_cons (pv 2) pa_nil)))) (pss_one (ps_ret pe_bl)) pss_nil))))))
      (pss_cons (ps_set (i := 4) sc_law.nd rfl (.inl rfl) (pk (c_Machine_init_2 T) hr (by decide) pass0 (pa_cons pe_int (pa_cons pe_int pa_nil))))
      (pss_cons (ps_if (pt_cmpR (op_neD hr.units) (pe_lst (pa_cons (pc (c_to_text_2 T) hr (by decide) pass0 (pa_cons (pv 4) (pa_cons (pc (c_big T) hr (by decide) pass0 (pa_cons (pv 4) (pa_cons (pe_un un_neg pe_int) pa_nil))) pa_nil))) (pa_cons (pc (c_to_text_2 T) hr (by decide) pass0 (pa_cons (pv 4) (pa_cons (pc (c_big T) hr (by decide) pass0 (pa_cons (pv 4) (pa_cons (pe_un un_neg pe_int) pa_nil))) pa_nil))) pa_nil))) (pe_op op_rep (pe_lst (pa_cons pe_str pa_nil)) pe_int) (nomark _)) (pss_one (ps_ret pe_bl)) pss_nil)
      (pss_cons (ps_if (pt_cmpR (op_neT hr.units) (pc (c_law_counted T) hr (by decide) pass0 (pa_cons (pv 4) pa_nil)) (pe_tup (pa_cons (pe_disp (pps_cons pe_str pe_int pps_nil) (by rfl) (by rfl) (fun z => by cases z) (by decide)) (pa_cons (pe_op op_rep (pe_lst (pa_cons (pe_tup (pa_cons pe_str (pa_cons pe_int (pa_cons pe_int pa_nil)))) pa_nil)) pe_int) pa_nil))) (nomark _)) (pss_one (ps_ret pe_bl)) pss_nil)
      (pss_cons (ps_set (i := 5) sc_law.nd rfl (.inl rfl) (pe_lst (pa_cons (pc (c_to_text_2 T) hr (by decide) pass0 (pa_cons (pv 4) (pa_cons (pc (c_big T) hr (by decide) pass0 (pa_cons (pv 4) (pa_cons (pe_un un_neg pe_int) pa_nil))) pa_nil))) (pa_cons (pc (c_to_text_3 T) hr (by decide) pass0 (pa_cons (pv 4) (pa_cons (pc (c_big T) hr (by decide) pass0 (pa_cons (pv 4) (pa_cons pe_int pa_nil))) (pa_cons pe_int pa_nil)))) pa_nil))))
      (pss_cons (ps_if (pt_cmpR (op_neT hr.units) (pc (c_law_counted T) hr (by decide) pass0 (pa_cons (pv 4) pa_nil)) (pe_tup (pa_cons (pe_disp (pps_cons pe_str pe_int (pps_cons pe_str pe_int pps_nil)) (by rfl) (by rfl) (fun z => by cases z) (by decide)) (pa_cons (pe_lst (pa_cons (pe_tup (pa_cons pe_str (pa_cons pe_int (pa_cons pe_int pa_nil)))) (pa_cons (pe_tup (pa_cons pe_str (pa_cons pe_int (pa_cons pe_int pa_nil)))) pa_nil))) pa_nil))) (nomark _)) (pss_one (ps_ret pe_bl)) pss_nil)
      (pss_one (ps_ret (pe_cmpR (op_eqD hr.units) (pv 5) (pe_lst (pa_cons pe_str (pa_cons pe_str pa_nil))) (nomark _)))))))))), ?_⟩
    rw [show L2.start ["_law_script", "_law_cell", "_law_purse_here", "_law_turn", "_law_tiny", "_law_got"] [.ref sc] = [some (.ref sc), none, none, none, none, none] from rfl]
    simp only [tCallN, ga_to_text_0_base_x_machine_most, ga_to_text_2_most, ga_to_text_3_most, rRep, rNeT, rEqT, rNeDA, rEqDA, rNeD, rEqD, tPairs, tDisp, tDNewK, rIxS, tPar3, tCallW, tM0, tM1, rCat, tMake, tMeth, tDGet, sDPut, tSeq, tAsg, gName, tDrop, tRet, tRetN, tIfS, tNext, tTest, tB, tAnd, tOr, tNot, tAndV, tOrV, tNotV, tNever, tOp, tUn, rI0, rI, rU, tVar, tC, tCons, tNil, tBM, tBM0, tCB, tCall, tFld, sFld, tTup, tLst, gSub, gTup, gCons, gNil, tPar, tSl, tPart, tNoPart, rAppend, rClear, rSetL, rIxL, rIxT, rSlL, rEq, rNe, sl0, sl1, sl2, sl3, sl4, sl5, sl6, sl7, sl8, sl9, sl10, sl11, sl12, sl13, st0, st1, st2, st3, st4, st5, st6, st7, st8, st9, st10, st11, st12, st13, Option.some.injEq, V.int.injEq, V.bl.injEq, V.ref.injEq, V.str.injEq, List.cons.injEq, HO.ins.injEq, HO.lst.injEq, HO.tup.injEq, HO.dK.injEq, exists_eq_left', exists_eq_left, exists_eq_right, exists_and_left, exists_and_right, exists_const, and_assoc, true_and, and_true, decide_eq_true_eq, Int.toNat_natCast, mfl_width, mfl_base, mfl_rows, mfl_counts, mfl_entered, bfl_width, bfl_side, bfl_row, cx_K, upd_same, List.append_nil, List.cons_append, List.nil_append, List.length_cons, List.length_nil, tChain, Bool.not_true, Bool.not_false, if_true, if_false, tYes, scal_ii, scal_ss, scal_bb, ite_t, ite_f, dec_ii, dec_ss]
    refine fcutL (xs := (cs.take 3 ++ [0]).map V.int) (fun σ' H' => ∃ y1 y2 y3, σ' = [some (.ref sc), y1, y2, y3, none, none])
      (fun a H' => H' a = some (.lst ((cs.take 3 ++ [0]).map V.int)))
      (fun a i σ' H' => H' a = some (.lst ((cs.take 3 ++ [0]).map V.int)) ∧ ∃ y1 y2 y3, σ' = [some (.ref sc), y1, y2, y3, none, none])
      ?_ ?_ ?_ ?_ ?_ ?_
    · intro Q q
      simp only [tCallN, ga_to_text_0_base_x_machine_most, ga_to_text_2_most, ga_to_text_3_most, rRep, rNeT, rEqT, rNeDA, rEqDA, rNeD, rEqD, tPairs, tDisp, tDNewK, rIxS, tPar3, tCallW, tM0, tM1, rCat, tMake, tMeth, tDGet, sDPut, tSeq, tAsg, gName, tDrop, tRet, tRetN, tIfS, tNext, tTest, tB, tAnd, tOr, tNot, tAndV, tOrV, tNotV, tNever, tOp, tUn, rI0, rI, rU, tVar, tC, tCons, tNil, tBM, tBM0, tCB, tCall, tFld, sFld, tTup, tLst, gSub, gTup, gCons, gNil, tPar, tSl, tPart, tNoPart, rAppend, rClear, rSetL, rIxL, rIxT, rSlL, rEq, rNe, sl0, sl1, sl2, sl3, sl4, sl5, sl6, sl7, sl8, sl9, sl10, sl11, sl12, sl13, st0, st1, st2, st3, st4, st5, st6, st7, st8, st9, st10, st11, st12, st13, Option.some.injEq, V.int.injEq, V.bl.injEq, V.ref.injEq, V.str.injEq, List.cons.injEq, HO.ins.injEq, HO.lst.injEq, HO.tup.injEq, HO.dK.injEq, exists_eq_left', exists_eq_left, exists_eq_right, exists_and_left, exists_and_right, exists_const, and_assoc, true_and, and_true, decide_eq_true_eq, Int.toNat_natCast, mfl_width, mfl_base, mfl_rows, mfl_counts, mfl_entered, bfl_width, bfl_side, bfl_row, cx_K, upd_same, List.append_nil, List.cons_append, List.nil_append, List.length_cons, List.length_nil, tChain, Bool.not_true, Bool.not_false, if_true, if_false, tYes, scal_ii, scal_ss, scal_bb, ite_t, ite_f, dec_ii, dec_ss]
      refine ⟨_, hs, fun c1 hc1 => ⟨by decide, fun c2 hc2 => ?_⟩⟩
      have h12 : c1 ≠ c2 := fun z => by rw [z, upd_same] at hc2; cases hc2
      refine ⟨_, by rw [upd_ne h12, upd_same], ?_, fun c3 hc3 => q c3 _ ?_⟩
      · rw [show ((3 : Int)) = ((3 : Nat) : Int) from rfl, cut_to, List.length_take]
        exact Nat.le_trans (show min 3 _ + (0 + 1) ≤ 4 by omega) (by decide)
      · rw [upd_same, show ((3 : Int)) = ((3 : Nat) : Int) from rfl, cut_to, ← List.map_take]; simp
    · rintro a H1 ha; exact ⟨ha, none, none, none, rfl⟩
    · rintro a i σ' H1 _ ⟨ha, _⟩; exact SqL.of ha
    · rintro Vn M a hV hM i x σ' H1 hx ⟨ha, y1, y2, y3, rfl⟩
      obtain ⟨c, rfl⟩ : ∃ c : Int, x = .int c := by
        rw [List.getElem?_map] at hx
        cases e : (cs.take 3 ++ [0])[i]? with
        | none => rw [e] at hx; cases hx
        | some z => rw [e] at hx; exact ⟨z, (Option.some.inj hx).symm⟩
      simp only [tCallN, ga_to_text_0_base_x_machine_most, ga_to_text_2_most, ga_to_text_3_most, rRep, rNeT, rEqT, rNeDA, rEqDA, rNeD, rEqD, tPairs, tDisp, tDNewK, rIxS, tPar3, tCallW, tM0, tM1, rCat, tMake, tMeth, tDGet, sDPut, tSeq, tAsg, gName, tDrop, tRet, tRetN, tIfS, tNext, tTest, tB, tAnd, tOr, tNot, tAndV, tOrV, tNotV, tNever, tOp, tUn, rI0, rI, rU, tVar, tC, tCons, tNil, tBM, tBM0, tCB, tCall, tFld, sFld, tTup, tLst, gSub, gTup, gCons, gNil, tPar, tSl, tPart, tNoPart, rAppend, rClear, rSetL, rIxL, rIxT, rSlL, rEq, rNe, sl0, sl1, sl2, sl3, sl4, sl5, sl6, sl7, sl8, sl9, sl10, sl11, sl12, sl13, st0, st1, st2, st3, st4, st5, st6, st7, st8, st9, st10, st11, st12, st13, Option.some.injEq, V.int.injEq, V.bl.injEq, V.ref.injEq, V.str.injEq, List.cons.injEq, HO.ins.injEq, HO.lst.injEq, HO.tup.injEq, HO.dK.injEq, exists_eq_left', exists_eq_left, exists_eq_right, exists_and_left, exists_and_right, exists_const, and_assoc, true_and, and_true, decide_eq_true_eq, Int.toNat_natCast, mfl_width, mfl_base, mfl_rows, mfl_counts, mfl_entered, bfl_width, bfl_side, bfl_row, cx_K, upd_same, List.append_nil, List.cons_append, List.nil_append, List.length_cons, List.length_nil, tChain, Bool.not_true, Bool.not_false, if_true, if_false, tYes, scal_ii, scal_ss, scal_bb, ite_t, ite_f, dec_ii, dec_ss]
      refine ⟨c, rfl, fun p H2 b2 hp hP => ?_⟩
      have hap : a ≠ p := ne_of_none ha hp
      refine floopR (n := 5) (by decide) (fun j σ' H' => Pu H' p (7 + 200 * j) ∧ H' a = some (.lst ((cs.take 3 ++ [0]).map V.int)) ∧ ∃ y1 y3, σ' = [some (.ref sc), y1, some (.ref p), y3, none, none])
        (by intro Q q; simp only [tCallN, ga_to_text_0_base_x_machine_most, ga_to_text_2_most, ga_to_text_3_most, rRep, rNeT, rEqT, rNeDA, rEqDA, rNeD, rEqD, tPairs, tDisp, tDNewK, rIxS, tPar3, tCallW, tM0, tM1, rCat, tMake, tMeth, tDGet, sDPut, tSeq, tAsg, gName, tDrop, tRet, tRetN, tIfS, tNext, tTest, tB, tAnd, tOr, tNot, tAndV, tOrV, tNotV, tNever, tOp, tUn, rI0, rI, rU, tVar, tC, tCons, tNil, tBM, tBM0, tCB, tCall, tFld, sFld, tTup, tLst, gSub, gTup, gCons, gNil, tPar, tSl, tPart, tNoPart, rAppend, rClear, rSetL, rIxL, rIxT, rSlL, rEq, rNe, sl0, sl1, sl2, sl3, sl4, sl5, sl6, sl7, sl8, sl9, sl10, sl11, sl12, sl13, st0, st1, st2, st3, st4, st5, st6, st7, st8, st9, st10, st11, st12, st13, Option.some.injEq, V.int.injEq, V.bl.injEq, V.ref.injEq, V.str.injEq, List.cons.injEq, HO.ins.injEq, HO.lst.injEq, HO.tup.injEq, HO.dK.injEq, exists_eq_left', exists_eq_left, exists_eq_right, exists_and_left, exists_and_right, exists_const, and_assoc, true_and, and_true, decide_eq_true_eq, Int.toNat_natCast, mfl_width, mfl_base, mfl_rows, mfl_counts, mfl_entered, bfl_width, bfl_side, bfl_row, cx_K, upd_same, List.append_nil, List.cons_append, List.nil_append, List.length_cons, List.length_nil, tChain, Bool.not_true, Bool.not_false, if_true, if_false, tYes, scal_ii, scal_ss, scal_bb, ite_t, ite_f, dec_ii, dec_ss]; exact q) ⟨hP, b2 _ _ ha (by simp), _, _, rfl⟩ ?_ ?_
      · rintro Vj hVj j σ' H3 hj ⟨hP3, ha3, y1, y3, rfl⟩
        simp only [tCallN, ga_to_text_0_base_x_machine_most, ga_to_text_2_most, ga_to_text_3_most, rRep, rNeT, rEqT, rNeDA, rEqDA, rNeD, rEqD, tPairs, tDisp, tDNewK, rIxS, tPar3, tCallW, tM0, tM1, rCat, tMake, tMeth, tDGet, sDPut, tSeq, tAsg, gName, tDrop, tRet, tRetN, tIfS, tNext, tTest, tB, tAnd, tOr, tNot, tAndV, tOrV, tNotV, tNever, tOp, tUn, rI0, rI, rU, tVar, tC, tCons, tNil, tBM, tBM0, tCB, tCall, tFld, sFld, tTup, tLst, gSub, gTup, gCons, gNil, tPar, tSl, tPart, tNoPart, rAppend, rClear, rSetL, rIxL, rIxT, rSlL, rEq, rNe, sl0, sl1, sl2, sl3, sl4, sl5, sl6, sl7, sl8, sl9, sl10, sl11, sl12, sl13, st0, st1, st2, st3, st4, st5, st6, st7, st8, st9, st10, st11, st12, st13, Option.some.injEq, V.int.injEq, V.bl.injEq, V.ref.injEq, V.str.injEq, List.cons.injEq, HO.ins.injEq, HO.lst.injEq, HO.tup.injEq, HO.dK.injEq, exists_eq_left', exists_eq_left, exists_eq_right, exists_and_left, exists_and_right, exists_const, and_assoc, true_and, and_true, decide_eq_true_eq, Int.toNat_natCast, mfl_width, mfl_base, mfl_rows, mfl_counts, mfl_entered, bfl_width, bfl_side, bfl_row, cx_K, upd_same, List.append_nil, List.cons_append, List.nil_append, List.length_cons, List.length_nil, tChain, Bool.not_true, Bool.not_false, if_true, if_false, tYes, scal_ii, scal_ss, scal_bb, ite_t, ite_f, dec_ii, dec_ss]
        have hj5 : j < 5 := hj
        refine ⟨p, _, rfl, hP3, by omega, fun H4 b4 hP4 => ?_⟩
        simp only [tCallN, ga_to_text_0_base_x_machine_most, ga_to_text_2_most, ga_to_text_3_most, rRep, rNeT, rEqT, rNeDA, rEqDA, rNeD, rEqD, tPairs, tDisp, tDNewK, rIxS, tPar3, tCallW, tM0, tM1, rCat, tMake, tMeth, tDGet, sDPut, tSeq, tAsg, gName, tDrop, tRet, tRetN, tIfS, tNext, tTest, tB, tAnd, tOr, tNot, tAndV, tOrV, tNotV, tNever, tOp, tUn, rI0, rI, rU, tVar, tC, tCons, tNil, tBM, tBM0, tCB, tCall, tFld, sFld, tTup, tLst, gSub, gTup, gCons, gNil, tPar, tSl, tPart, tNoPart, rAppend, rClear, rSetL, rIxL, rIxT, rSlL, rEq, rNe, sl0, sl1, sl2, sl3, sl4, sl5, sl6, sl7, sl8, sl9, sl10, sl11, sl12, sl13, st0, st1, st2, st3, st4, st5, st6, st7, st8, st9, st10, st11, st12, st13, Option.some.injEq, V.int.injEq, V.bl.injEq, V.ref.injEq, V.str.injEq, List.cons.injEq, HO.ins.injEq, HO.lst.injEq, HO.tup.injEq, HO.dK.injEq, exists_eq_left', exists_eq_left, exists_eq_right, exists_and_left, exists_and_right, exists_const, and_assoc, true_and, and_true, decide_eq_true_eq, Int.toNat_natCast, mfl_width, mfl_base, mfl_rows, mfl_counts, mfl_entered, bfl_width, bfl_side, bfl_row, cx_K, upd_same, List.append_nil, List.cons_append, List.nil_append, List.length_cons, List.length_nil, tChain, Bool.not_true, Bool.not_false, if_true, if_false, tYes, scal_ii, scal_ss, scal_bb, ite_t, ite_f, dec_ii, dec_ss]
        exact hVj _ _ _ ⟨hP4.up (by omega), b4 _ _ ha3 (by simp [hap]), _, _, rfl⟩
      · rintro σ' H3 ⟨hP3, ha3, y1, y3, rfl⟩
        exact hV _ _ _ ⟨ha3, _, _, _, rfl⟩
    · rintro a σ' H1 ⟨ha, y⟩; exact y
    · rintro σ' H1 ⟨y1, y2, y3, rfl⟩
      simp only [tCallN, ga_to_text_0_base_x_machine_most, ga_to_text_2_most, ga_to_text_3_most, rRep, rNeT, rEqT, rNeDA, rEqDA, rNeD, rEqD, tPairs, tDisp, tDNewK, rIxS, tPar3, tCallW, tM0, tM1, rCat, tMake, tMeth, tDGet, sDPut, tSeq, tAsg, gName, tDrop, tRet, tRetN, tIfS, tNext, tTest, tB, tAnd, tOr, tNot, tAndV, tOrV, tNotV, tNever, tOp, tUn, rI0, rI, rU, tVar, tC, tCons, tNil, tBM, tBM0, tCB, tCall, tFld, sFld, tTup, tLst, gSub, gTup, gCons, gNil, tPar, tSl, tPart, tNoPart, rAppend, rClear, rSetL, rIxL, rIxT, rSlL, rEq, rNe, sl0, sl1, sl2, sl3, sl4, sl5, sl6, sl7, sl8, sl9, sl10, sl11, sl12, sl13, st0, st1, st2, st3, st4, st5, st6, st7, st8, st9, st10, st11, st12, st13, Option.some.injEq, V.int.injEq, V.bl.injEq, V.ref.injEq, V.str.injEq, List.cons.injEq, HO.ins.injEq, HO.lst.injEq, HO.tup.injEq, HO.dK.injEq, exists_eq_left', exists_eq_left, exists_eq_right, exists_and_left, exists_and_right, exists_const, and_assoc, true_and, and_true, decide_eq_true_eq, Int.toNat_natCast, mfl_width, mfl_base, mfl_rows, mfl_counts, mfl_entered, bfl_width, bfl_side, bfl_row, cx_K, upd_same, List.append_nil, List.cons_append, List.nil_append, List.length_cons, List.length_nil, tChain, Bool.not_true, Bool.not_false, if_true, if_false, tYes, scal_ii, scal_ss, scal_bb, ite_t, ite_f, dec_ii, dec_ss]
      refine mach_makeR (b := 8) (c := 4) ⟨by decide, by decide⟩ ⟨by decide, by decide⟩ fun e d et H2 b2 he hd het hM => ?_
      have h2k : ((-2000 : Int)).natAbs < 2 ^ lim := lim700 (by decide)
      have h255 : ((255 : Int)).natAbs < 2 ^ lim := lim700 (by decide)
      have ht : Tb.S (txtB 10 (-2000)) = ("-2000" : Str) := by decide +kernel
      have hff : Tb.S (txtB 16 255) = ("ff" : Str) := by decide +kernel
      have hM2 : MAt K H2 e d et (clean 8 4) := hM
      obtain ⟨S1, hS1⟩ : ∃ S1, S1 = wrote (clean 8 4) (-2000) 10 := ⟨_, rfl⟩
      obtain ⟨S2, hS2⟩ : ∃ S2, S2 = wrote S1 (-2000) 10 := ⟨_, rfl⟩
      obtain ⟨S3, hS3⟩ : ∃ S3, S3 = wrote S1 255 16 := ⟨_, rfl⟩
      have hw1 : S1.w = 8 := by rw [hS1]; decide +kernel
      have f2a : (WORDS.filter fun x => decide (S2.cnt x ≠ 0)).map (fun x => (x, S2.cnt x)) = [(("quotient" : Str), (6 : Int))] := by rw [hS2, hS1]; decide +kernel
      have f2b : S2.walk = [(("write" : Str), (2 : Int), (10 : Int)), ("write", 2, 10)] := by rw [hS2, hS1]; decide +kernel
      have f2c : ({ S2 with cnt := fun _ => 0, walk := [] } : Ms) = clean 8 4 := by rw [hS2, hS1]; rfl
      have f3a : (WORDS.filter fun x => decide (S3.cnt x ≠ 0)).map (fun x => (x, S3.cnt x)) = [(("quotient" : Str), (3 : Int)), ("shifted", 2)] := by rw [hS3, hS1]; decide +kernel
      have f3b : S3.walk = [(("write" : Str), (2 : Int), (10 : Int)), ("write", 1, 16)] := by rw [hS3, hS1]; decide +kernel
      refine ⟨e, d, et, _, -2000, rfl, hM2, by decide, h2k, fun a1 H3 b3 _ hB1 => ?_⟩
      refine ⟨e, d, et, a1, _, -2000, 10, 4300, rfl, hM2.ex b3, hB1, ⟨by decide, by decide⟩, h2k, by simp, .inr (by decide), fun _ _ => by decide +kernel, fun H4 b4 m4 => ?_⟩
      rw [← hS1] at m4
      refine ⟨e, d, et, _, -2000, rfl, m4, by rw [hw1]; decide, h2k, fun a2 H5 b5 _ hB2 => ?_⟩
      refine ⟨e, d, et, a2, _, -2000, 10, 4300, rfl, m4.ex b5, hB2, by rw [hw1]; decide, h2k, by simp, .inr (by decide), fun _ _ => by decide +kernel, fun H6 b6 m6 => ⟨by decide, fun c1 hc1 => ⟨by decide, fun c2 hc2 => ?_⟩⟩⟩
      rw [← hS2] at m6
      have h12 : c1 ≠ c2 := fun z => by rw [z, upd_same] at hc2; cases hc2
      refine ⟨by decide, by decide, by decide, fun c3 hc3 => ?_⟩
      have h13 : c1 ≠ c3 := fun z => by rw [z, upd_ne (show c3 ≠ c2 from fun y => by rw [z, y] at h12; exact h12 rfl), upd_same] at hc3; cases hc3
      rw [ht] at hc2 hc3 ⊢
      refine ⟨_, dp_slist (ds := ["-2000", "-2000"]) (by rw [upd_ne h13, upd_ne h12, upd_same]; rfl), _, dp_slist (ds := ["-2000", "-2000"]) (by rw [upd_same]; rfl), shaped_strs _ (by decide +kernel), shaped_strs _ (by decide +kernel), ?_⟩
      rw [eqv_strs]
      simp only [tCallN, ga_to_text_0_base_x_machine_most, ga_to_text_2_most, ga_to_text_3_most, rRep, rNeT, rEqT, rNeDA, rEqDA, rNeD, rEqD, tPairs, tDisp, tDNewK, rIxS, tPar3, tCallW, tM0, tM1, rCat, tMake, tMeth, tDGet, sDPut, tSeq, tAsg, gName, tDrop, tRet, tRetN, tIfS, tNext, tTest, tB, tAnd, tOr, tNot, tAndV, tOrV, tNotV, tNever, tOp, tUn, rI0, rI, rU, tVar, tC, tCons, tNil, tBM, tBM0, tCB, tCall, tFld, sFld, tTup, tLst, gSub, gTup, gCons, gNil, tPar, tSl, tPart, tNoPart, rAppend, rClear, rSetL, rIxL, rIxT, rSlL, rEq, rNe, sl0, sl1, sl2, sl3, sl4, sl5, sl6, sl7, sl8, sl9, sl10, sl11, sl12, sl13, st0, st1, st2, st3, st4, st5, st6, st7, st8, st9, st10, st11, st12, st13, Option.some.injEq, V.int.injEq, V.bl.injEq, V.ref.injEq, V.str.injEq, List.cons.injEq, HO.ins.injEq, HO.lst.injEq, HO.tup.injEq, HO.dK.injEq, exists_eq_left', exists_eq_left, exists_eq_right, exists_and_left, exists_and_right, exists_const, and_assoc, true_and, and_true, decide_eq_true_eq, Int.toNat_natCast, mfl_width, mfl_base, mfl_rows, mfl_counts, mfl_entered, bfl_width, bfl_side, bfl_row, cx_K, upd_same, List.append_nil, List.cons_append, List.nil_append, List.length_cons, List.length_nil, tChain, Bool.not_true, Bool.not_false, if_true, if_false, tYes, scal_ii, scal_ss, scal_bb, ite_t, ite_f, dec_ii, dec_ss]
      generalize hG : upd (upd (upd H6 c1 _) c2 _) c3 _ = G
      have mG : MAt K G e d et S2 := by rw [← hG]; exact m6.ex (((But.new0 hc1).new hc2).new hc3)
      refine ⟨e, d, et, _, rfl, mG, fun t D L refs H7 b7 m7 htn hDn ht7 hD hL hW p1 hp1 => ⟨[(Sum.inr "quotient", .int 6)], rfl, by decide, by decide, fun p2 hp2 => ⟨by decide, fun p3 hp3 => ?_⟩⟩⟩
      rw [tab_map _ _ f2a] at hD
      rw [f2b] at hW
      rw [f2c] at m7
      refine ⟨by decide, by decide, by decide, fun p4 hp4 => ⟨by decide, fun p5 hp5 => ?_⟩⟩
      simp only [upd_upd] at hp2 hp3 hp4 hp5 ⊢
      have ex : ∀ {A B : Hp} {q : Addr} {o : HO}, upd A q o = B → A q = none → B q = some o ∧ But [] A B := fun {A B q o} h1 h2 => by
        rw [← h1]; exact ⟨upd_same, But.new0 h2⟩
      generalize hA1 : upd H7 p1 _ = A1 at *
      obtain ⟨v1, k1⟩ := ex hA1 hp1
      generalize hA2 : upd A1 p2 _ = A2 at *
      obtain ⟨v2, k2⟩ := ex hA2 hp2
      generalize hA3 : upd A2 p3 _ = A3 at *
      obtain ⟨v3, k3⟩ := ex hA3 hp3
      generalize hA4 : upd A3 p4 _ = A4 at *
      obtain ⟨v4, k4⟩ := ex hA4 hp4
      generalize hA5 : upd A4 p5 _ = A5 at *
      obtain ⟨v5, k5⟩ := ex hA5 hp5
      have k25 := ((k2.trans k3).trans k4).trans k5
      have k75 := k1.trans k25
      have hT2 : A5 p2 = some (.tup [.str "write", .int 2, .int 10]) := ((k3.trans k4).trans k5) _ _ v2 (by simp)
      refine ⟨evt_counted (k75 _ _ ht7 (by simp)) v5 (k75 _ _ hD (by simp)) (k25 _ _ v1 (by simp)) rfl ?_ (k75 _ _ hL (by simp)) (k5 _ _ v4 (by simp)) (Paired.mapP hW fun v u h => ?_) (.cons ⟨p2, rfl, hT2⟩ (.cons ⟨p2, rfl, hT2⟩ .nil)), ?_⟩
      · intro z hz
        simp only [List.map_cons, List.map_nil, List.mem_singleton] at hz
        subst hz
        exact ⟨by decide, rfl⟩
      · obtain ⟨q, h1, h2⟩ := h
        exact ⟨q, h1, k75 _ _ h2 (by simp)⟩
      have mA : MAt K A5 e d et (clean 8 4) := m7.ex k75
      refine ⟨e, d, et, _, -2000, rfl, mA, by decide, h2k, fun a3 B1 j1 _ hB3 => ?_⟩
      refine ⟨e, d, et, a3, _, -2000, 10, 4300, rfl, mA.ex j1, hB3, ⟨by decide, by decide⟩, h2k, by simp, .inr (by decide), fun _ _ => by decide +kernel, fun B2 j2 n2 => ?_⟩
      rw [← hS1] at n2
      refine ⟨e, d, et, _, 255, rfl, n2, by rw [hw1]; decide, h255, fun a4 B3 j3 _ hB4 => ?_⟩
      refine ⟨e, d, et, a4, _, 255, 16, 4300, rfl, n2.ex j3, hB4, by rw [hw1]; decide, h255, by simp, .inr (by decide), (fun z => absurd z (by decide)), fun B4 j4 n4 => ⟨by decide, fun g hg => ?_⟩⟩
      rw [← hS3] at n4
      rw [ht, hff]
      have n5 := n4.ex (But.new0 (L := []) hg (o := .lst [.str "-2000", .str "ff"]))
      have hg1 : upd B4 g (.lst [.str "-2000", .str "ff"]) g = some (.lst ((["-2000", "ff"] : List Str).map V.str)) := upd_same
      generalize upd B4 g _ = B5 at *
      refine ⟨e, d, et, _, rfl, n5, fun t' D' L' refs' C0 i0 n6 htn' hDn' ht' hD' hL' hW' q1 hq1 => ⟨[(Sum.inr "quotient", .int 3), (Sum.inr "shifted", .int 2)], rfl, by decide, by decide, fun q2 hq2 => ⟨by decide, fun q3 hq3 => ⟨by decide, fun q4 hq4 => ⟨by decide, fun q5 hq5 => ?_⟩⟩⟩⟩⟩
      rw [tab_map _ _ f3a] at hD'
      rw [f3b] at hW'
      have hgde : g ∉ [d, et] := by
        obtain ⟨_, hc6, _, he6, _⟩ := n5
        have h1 := ne_of hg1 hc6 (by intro z; cases z)
        have h2 : g ≠ et := fun z => by
          obtain ⟨_, _, _, he4, _⟩ := n4
          rw [← z, hg] at he4; cases he4
        simp [h1, h2]
      have hg0 := i0 _ _ hg1 hgde
      generalize hA1 : upd C0 q1 _ = D1 at *
      obtain ⟨w1, l1⟩ := ex hA1 hq1
      generalize hA2 : upd D1 q2 _ = D2 at *
      obtain ⟨w2, l2⟩ := ex hA2 hq2
      generalize hA3 : upd D2 q3 _ = D3 at *
      obtain ⟨w3, l3⟩ := ex hA3 hq3
      generalize hA4 : upd D3 q4 _ = D4 at *
      obtain ⟨w4, l4⟩ := ex hA4 hq4
      generalize hA5 : upd D4 q5 _ = D5 at *
      obtain ⟨w5, l5⟩ := ex hA5 hq5
      have l25 := ((l2.trans l3).trans l4).trans l5
      have l05 := l1.trans l25
      refine ⟨evt_counted (l05 _ _ ht' (by simp)) w5 (l05 _ _ hD' (by simp)) (l25 _ _ w1 (by simp)) rfl ?_ (l05 _ _ hL' (by simp)) (l5 _ _ w4 (by simp)) (Paired.mapP hW' fun v u h => ?_)
        (.cons ⟨q2, rfl, ((l3.trans l4).trans l5) _ _ w2 (by simp)⟩ (.cons ⟨q3, rfl, (l4.trans l5) _ _ w3 (by simp)⟩ .nil)), ?_⟩
      · intro z hz
        simp only [List.map_cons, List.map_nil, List.mem_cons, List.not_mem_nil, or_false] at hz
        rcases hz with rfl | rfl
        · exact ⟨by decide, rfl⟩
        · exact ⟨by decide, rfl⟩
      · obtain ⟨q, h1, h2⟩ := h
        exact ⟨q, h1, l05 _ _ h2 (by simp)⟩
      refine ⟨by decide, fun z hz => ?_⟩
      have hgD := l05 _ _ hg0 (by simp)
      have hgz := ne_of_none hgD hz
      refine ⟨_, dp_slist (ds := ["-2000", "ff"]) (by rw [upd_ne hgz]; exact hgD), _, dp_slist (ds := ["-2000", "ff"]) (by rw [upd_same]; rfl), shaped_strs _ (by decide +kernel), shaped_strs _ (by decide +kernel), ?_⟩
      rw [eqv_strs]
      exact q _
theorem c_law (T : Tx K mg) : Cal P w K mg base CX0 "law" 7 ["_law_script"] [] (sp_law K) := by
  obtain ⟨fd, F⟩ := f_law T
  exact ⟨_, fd, [], G_law T, F.kp, o_law T F, B_law F, .nil⟩
end


end Th

namespace Th
open PySem PySem.Spec PyProof.Rows L2 Tb
abbrev RR : PySem.W.OpenRow := PySem.W.OpenLaw.row PySem.Challenge.rw_thirtybits_k64_texts_written
abbrev hk : PySem.W.Hook := He.hookX 5 fa fn [] [] exB
def ob (s : PySem.W.SharedT) : He.AlX := He.obsX 5 fa fn [] [] exB (HandSHeadRun.getT s)
theorem ob_eq (s : PySem.W.SharedT) : ob s = hk.obs s.abs := He.obsX_eq (HandSHeadRun.getT_eq s)
theorem run (w : World) : HandSHeadRun.RunEq RR (PySem.W.view RR.prog [51]) hk ob 4000 names w :=
  PySem.W.byRow2 "special-get-raises" (P := fun w => HandSHeadRun.RunEq RR (PySem.W.view RR.prog [51]) hk ob 4000 names w) (fun w => by intro os; kernel_rfl) (fun w => by intro os; kernel_rfl) w
end Th
open PySem PySem.W PySem.Calls PyProof.Rows
theorem PySem.Challenge.cw_thirtybits_k64_texts_written_holds : PySem.Challenge.rw_thirtybits_k64_texts_written.Holds := by
  w_on; o_law
  refine HandSHeadRun.head_any (r := OpenLaw.row PySem.Challenge.rw_thirtybits_k64_texts_written) (q := view (OpenLaw.row PySem.Challenge.rw_thirtybits_k64_texts_written).prog [51]) (H := Th.hk) (ob := Th.ob) (M := 4000) (loose := Th.names) (d := HandSHeadRun.topDef (OpenLaw.row PySem.Challenge.rw_thirtybits_k64_texts_written).prog 51) (kwd := []) Th.ob_eq
    (by kernel_rfl) (fun s => by kernel_rfl) Th.run (by kernel_rfl) (by kernel_rfl) (by kernel_rfl) (by rfl) (by first | assumption | decide +kernel) (by decide +kernel) ⟨rfl, rfl, rfl, rfl, rfl, by decide +kernel⟩ ?hw ?hc
  case hw => w_witness2
  case hc =>
    refine L2.walk_ofE (l := PySem.Challenge.rw_thirtybits_k64_texts_written) (n := 63) (k := 7) (x := "_law_script") (CX := L2.CX0) rfl (by decide) (by kernel_rfl) ⟨rfl, by decide, by decide⟩ ?F (fun _ _ _ _ z => z)
    intro w mg fa h Y G hmg0
    obtain ⟨K, KX, c⟩ := Y
    have hmg : mg ("law" : PySem.Str) = some (.ref fa) := by
      have e : (HandSHeadRun.topDef (OpenLaw.row PySem.Challenge.rw_thirtybits_k64_texts_written).prog 51).name = ("law" : PySem.Str) := by kernel_rfl
      rw [← e]
      exact hmg0
    have T : Th.Tx K mg := ⟨h, KX, G, He.SaysT.d c.t, c.more⟩
    have e := hmg.symm.trans (Th.G_law T)
    cases e
    obtain ⟨fd, F⟩ := Th.f_law T
    have b := L2.FunD.bindsA (ps := ["_law_script"]) F fun _ _ _ _ _ _ us hl => match us, hl with | [_], _ => rfl
    exact ⟨K, fd, Th.sp_law K, KX, fun s v => b s [v] rfl, fun H a ns hl _ hS => ⟨a, ns, rfl, hS, fun _ => rfl⟩, fun base _ _ => Th.o_law T F⟩


