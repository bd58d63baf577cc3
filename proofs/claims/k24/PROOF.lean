import PyProof.Rows.All
import Wide.All
import OpenK.AllK
import Wide.FinOn
import HandS.ForMost
import HandS.ForExc
import HandS.ExcInit
import HandS.ExcField
import HandS.ExcIs
import HandS.StrMore
import HandS.Codes
import KE.KExcIs
import PyProof.Rows.StrLast
import PySem.Challenge.RW_asforetold_k24_first_fault_of_a_trace
set_option Elab.async false
set_option linter.all false
set_option maxRecDepth 100000
set_option maxHeartbeats 8000000
/-! The mathematics of the reader of traces: texts as lists of codes. -/
namespace K24
open PySem
/-! ### parts -/
def isSep (c : Nat) : Bool := c == 32 || c == 10
def partL (l : List Nat) : List Nat := l.takeWhile fun c => !isSep c
def free (l : List Nat) : Bool := l.all fun c => !isSep c
/-- nothing follows, or a sign that separates -/
def Cut (t : List Nat) : Prop := t = [] ∨ ∃ d r, t = d :: r ∧ isSep d = true
theorem Cut.nil : Cut [] := .inl rfl
theorem Cut.sp {r : List Nat} : Cut (32 :: r) := .inr ⟨_, _, rfl, rfl⟩
theorem Cut.nl {r : List Nat} : Cut (10 :: r) := .inr ⟨_, _, rfl, rfl⟩
theorem partL_cut : ∀ {p t : List Nat}, free p = true → Cut t → partL (p ++ t) = p
  | [], t, _, c => by
    rcases c with rfl | ⟨d, r, rfl, h⟩
    · rfl
    · show (d :: r).takeWhile _ = []
      rw [List.takeWhile_cons, h]
      rfl
  | a :: p, t, h, c => by
    have h1 : ((!isSep a) && free p) = true := h
    obtain ⟨ha, hp⟩ := Bool.and_eq_true_iff.mp h1
    show (a :: (p ++ t)).takeWhile _ = a :: p
    rw [List.takeWhile_cons, if_pos ha]
    exact congrArg (a :: ·) (partL_cut hp c)
theorem partL_run : ∀ {l : List Nat} {j : Nat}, (∀ i, i < j → ∃ c, l[i]? = some c ∧ isSep c = false) → (j = l.length ∨ ∃ c, l[j]? = some c ∧ isSep c = true) → partL l = l.take j
  | l, 0, _, h => by
    rw [List.take_zero]
    rcases h with h | ⟨c, h, hc⟩
    · have e : l = [] := List.length_eq_zero_iff.mp h.symm
      rw [e]
      rfl
    · cases l with
      | nil => simp at h
      | cons a l =>
        have e : a = c := Option.some.inj h
        subst e
        show (a :: l).takeWhile _ = []
        rw [List.takeWhile_cons, hc]
        rfl
  | [], j + 1, h, _ => by
    obtain ⟨c, h, _⟩ := h 0 (Nat.succ_pos _)
    simp at h
  | a :: l, j + 1, h, h2 => by
    obtain ⟨c, h0, hc⟩ := h 0 (Nat.succ_pos _)
    have e : a = c := Option.some.inj h0
    subst e
    show (a :: l).takeWhile _ = a :: l.take j
    rw [List.takeWhile_cons, hc]
    refine congrArg (a :: ·) (partL_run (l := l) (j := j) (fun i hi => h (i + 1) (by omega)) ?_)
    rcases h2 with h2 | h2
    · exact .inl (Nat.succ.inj h2)
    · exact .inr h2
theorem partL_len (l : List Nat) : (partL l).length ≤ l.length := by
  unfold partL
  exact (List.takeWhile_sublist _).length_le
theorem partL_pre (l : List Nat) : partL l = l.take (partL l).length := by
  have h : partL l <+: l := List.takeWhile_prefix _
  exact List.prefix_iff_eq_take.mp h
/-! ### what a part may be -/
def isDig (c : Nat) : Bool := decide (48 ≤ c) && decide (c ≤ 57)
def numOk (l : List Nat) : Bool := (decide (1 ≤ l.length) && decide (l.length ≤ 7)) && (!(l.head? == some 48 && decide (1 < l.length)) && l.all isDig)
def numVal (l : List Nat) : Nat := NumText.digitsVal l
def cuts (c : Nat) (l : List Nat) : List (List Nat) := TL.spl [c] 0 [] l
def pathOk (l : List Nat) : Bool := (cuts 46 l).all numOk
def instOk (l : List Nat) : Bool := pathOk l && decide ((cuts 46 l).length = 2)
def startOk (l : List Nat) : Bool := instOk l || l == [45]
def outOk (l : List Nat) : Bool := (l == [99, 111, 109, 112, 108, 101, 116, 101, 100] || l == [102, 97, 105, 108, 101, 100]) || l == [99, 97, 110, 99, 101, 108, 108, 101, 100]
def dlL : List Nat := [100, 101, 97, 100, 108, 105, 110, 101]
def oneOk (l : List Nat) : Bool := l == dlL || (numOk l && decide (numVal l ≤ 999))
def resOk (l : List Nat) : Bool := l == [45] || ((cuts 44 l).all oneOk && decide ((cuts 44 l).length ≤ 60))
/-! ### the items of a line -/
abbrev Flt := Nat × Str
structure Kind where
  ok : List Nat → Bool
  w : Str
  c : Nat
  sw : Str
def item (k : Kind) (r : List Nat) : Except Flt Nat :=
  if k.ok (partL r) = true then (if r[(partL r).length]? = some k.c then .ok ((partL r).length + 1) else .error ((partL r).length, k.sw)) else .error (0, k.w)
def kPath : Kind := ⟨pathOk, "expected a path", 32, "expected a space"⟩
def kStart : Kind := ⟨startOk, "expected an instant", 32, "expected a space"⟩
def kInst : Kind := ⟨instOk, "expected an instant", 32, "expected a space"⟩
def kOut : Kind := ⟨outOk, "expected an outcome", 32, "expected a space"⟩
def kRes : Kind := ⟨resOk, "expected results", 10, "expected a newline"⟩
def kinds : List Kind := [kPath, kStart, kInst, kOut, kRes]
/-- an answer that begins k signs (and n lines) further on -/
def sh (k n : Nat) : Except Flt Nat → Except Flt Nat
  | .ok c => .ok (n + c)
  | .error (m, w) => .error (k + m, w)
theorem sh_sh (k n k' n' : Nat) (a : Except Flt Nat) : sh k n (sh k' n' a) = sh (k + k') (n + n') a := by
  cases a with
  | ok c => show Except.ok (n + (n' + c)) = Except.ok (n + n' + c); rw [Nat.add_assoc]
  | error e =>
    obtain ⟨m, w⟩ := e
    show Except.error (k + (k' + m), w) = Except.error (k + k' + m, w)
    rw [Nat.add_assoc]
theorem sh_zero (a : Except Flt Nat) : sh 0 0 a = a := by
  cases a with
  | ok c => show Except.ok (0 + c) = Except.ok c; rw [Nat.zero_add]
  | error e =>
    obtain ⟨m, w⟩ := e
    show Except.error (0 + m, w) = Except.error (m, w)
    rw [Nat.zero_add]
/-- the signs of a line read from r on: how many, or the fault -/
def items : List Kind → List Nat → Except Flt Nat
  | [], _ => .ok 0
  | k :: ks, r => match item k r with
    | .error e => .error e
    | .ok n => sh n n (items ks (r.drop n))
inductive Reads : List Nat → Except Flt Nat → Prop
  | nil : Reads [] (.ok 0)
  | bad {r : List Nat} {e : Flt} : r ≠ [] → items kinds r = .error e → Reads r (.error e)
  | more {r : List Nat} {n : Nat} {a : Except Flt Nat} : r ≠ [] → items kinds r = .ok n → Reads (r.drop n) a → Reads r (sh n 1 a)
theorem item_good {k : Kind} {p t : List Nat} (hp : k.ok p = true) (hf : free p = true) (hs : isSep k.c = true) : item k (p ++ k.c :: t) = .ok (p.length + 1) := by
  unfold item
  rw [partL_cut hf (.inr ⟨_, _, rfl, hs⟩), if_pos hp, if_pos (by simp)]
theorem item_bad {k : Kind} {p t : List Nat} (hp : k.ok p = false) (hf : free p = true) (hc : Cut t) : item k (p ++ t) = .error (0, k.w) := by
  unfold item
  rw [partL_cut hf hc, hp, if_neg Bool.false_ne_true]
theorem item_sign {k : Kind} {p t : List Nat} (hp : k.ok p = true) (hf : free p = true) (hc : Cut t) (hn : t.head? ≠ some k.c) : item k (p ++ t) = .error (p.length, k.sw) := by
  unfold item
  rw [partL_cut hf hc, if_pos hp, if_neg]
  rw [List.getElem?_append_right (Nat.le_refl _), Nat.sub_self, ← List.head?_eq_getElem?]
  exact hn
theorem items_cons_ok {k : Kind} {ks : List Kind} {r : List Nat} {n : Nat} (h : item k r = .ok n) : items (k :: ks) r = sh n n (items ks (r.drop n)) := by
  simp only [items, h]
theorem items_cons_err {k : Kind} {ks : List Kind} {r : List Nat} {e : Flt} (h : item k r = .error e) : items (k :: ks) r = .error e := by
  simp only [items, h]
theorem items_step {k : Kind} {ks : List Kind} {p t : List Nat} (hp : k.ok p = true) (hf : free p = true) (hs : isSep k.c = true) :
    items (k :: ks) (p ++ k.c :: t) = sh (p.length + 1) (p.length + 1) (items ks t) := by
  rw [items_cons_ok (item_good hp hf hs)]
  have e : (p ++ k.c :: t).drop (p.length + 1) = t := by
    rw [show p ++ k.c :: t = (p ++ [k.c]) ++ t by rw [List.append_assoc]; rfl, show p.length + 1 = (p ++ [k.c]).length by rw [List.length_append]; rfl, List.drop_left]
  rw [e]
/-! ### lines -/
structure Good (p0 p1 p2 p3 p4 : List Nat) : Prop where
  f0 : free p0 = true
  f1 : free p1 = true
  f2 : free p2 = true
  f3 : free p3 = true
  f4 : free p4 = true
  g0 : pathOk p0 = true
  g1 : startOk p1 = true
  g2 : instOk p2 = true
  g3 : outOk p3 = true
  g4 : resOk p4 = true
def lineOf5 (p0 p1 p2 p3 p4 : List Nat) : List Nat := p0 ++ 32 :: (p1 ++ 32 :: (p2 ++ 32 :: (p3 ++ 32 :: (p4 ++ [10]))))
def GoodLine (l : List Nat) : Prop := ∃ p0 p1 p2 p3 p4, Good p0 p1 p2 p3 p4 ∧ l = lineOf5 p0 p1 p2 p3 p4
theorem GoodLine.ne {l : List Nat} (g : GoodLine l) : 1 ≤ l.length := by
  obtain ⟨p0, p1, p2, p3, p4, _, rfl⟩ := g
  unfold lineOf5
  rw [List.length_append, List.length_cons]
  omega
/-- the first k parts, each with its space -/
def ahead : List (List Nat) → List Nat
  | [] => []
  | p :: ps => p ++ 32 :: ahead ps
theorem ahead_app (ps qs : List (List Nat)) : ahead (ps ++ qs) = ahead ps ++ ahead qs := by
  induction ps with
  | nil => rfl
  | cons p ps ih =>
    show p ++ 32 :: ahead (ps ++ qs) = (p ++ 32 :: ahead ps) ++ ahead qs
    rw [ih, List.append_assoc]
    rfl
inductive Fit : List Kind → List (List Nat) → Prop
  | nil : Fit [] []
  | cons {k : Kind} {ks : List Kind} {p : List Nat} {ps : List (List Nat)} : k.ok p = true → free p = true → k.c = 32 → Fit ks ps → Fit (k :: ks) (p :: ps)
theorem items_ahead {ks : List Kind} {ps : List (List Nat)} (h : Fit ks ps) (rest : List Kind) (t : List Nat) : items (ks ++ rest) (ahead ps ++ t) = sh (ahead ps).length (ahead ps).length (items rest t) := by
  induction h with
  | nil => exact (sh_zero _).symm
  | cons hk hf hc _ ih =>
    rename_i k ks p ps _
    show items (k :: (ks ++ rest)) ((p ++ 32 :: ahead ps) ++ t) = _
    rw [List.append_assoc]
    show items (k :: (ks ++ rest)) (p ++ 32 :: (ahead ps ++ t)) = _
    rw [← hc, items_step hk hf (by rw [hc]; rfl), ih, sh_sh]
    have e : p.length + 1 + (ahead ps).length = (ahead (p :: ps)).length := by
      show _ = (p ++ 32 :: ahead ps).length
      rw [List.length_append, List.length_cons]
      omega
    rw [e]
theorem items_line {p0 p1 p2 p3 p4 : List Nat} (g : Good p0 p1 p2 p3 p4) (t : List Nat) : items kinds (lineOf5 p0 p1 p2 p3 p4 ++ t) = .ok (lineOf5 p0 p1 p2 p3 p4).length := by
  have h : Fit [kPath, kStart, kInst, kOut] [p0, p1, p2, p3] := .cons g.g0 g.f0 rfl (.cons g.g1 g.f1 rfl (.cons g.g2 g.f2 rfl (.cons g.g3 g.f3 rfl .nil)))
  have e : lineOf5 p0 p1 p2 p3 p4 = ahead [p0, p1, p2, p3] ++ (p4 ++ [10]) := by
    simp [lineOf5, ahead]
  have a := items_ahead h [kRes] (p4 ++ 10 :: t)
  have b : items [kRes] (p4 ++ 10 :: t) = sh (p4.length + 1) (p4.length + 1) (items [] t) := items_step (k := kRes) (ks := []) (p := p4) (t := t) g.g4 g.f4 rfl
  rw [b] at a
  rw [e, List.append_assoc, List.append_assoc]
  refine a.trans ?_
  show Except.ok ((ahead [p0, p1, p2, p3]).length + ((p4.length + 1) + 0)) = _
  rw [List.length_append, List.length_append]
  rfl
/-- good lines, then r -/
theorem reads_lines {ls : List (List Nat)} (h : ∀ l ∈ ls, GoodLine l) {r : List Nat} {a : Except Flt Nat} (q : Reads r a) : Reads (ls.flatten ++ r) (sh ls.flatten.length ls.length a) := by
  induction ls with
  | nil =>
    show Reads r (sh 0 0 a)
    rw [sh_zero]
    exact q
  | cons l ls ih =>
    have ih := ih fun x hx => h x (List.mem_cons_of_mem _ hx)
    obtain ⟨p0, p1, p2, p3, p4, g, e⟩ := h l (List.mem_cons_self ..)
    have i : items kinds (l ++ (ls.flatten ++ r)) = .ok l.length := by rw [e]; exact items_line g _
    have n1 : 1 ≤ l.length := GoodLine.ne ⟨p0, p1, p2, p3, p4, g, e⟩
    have ne : l ++ (ls.flatten ++ r) ≠ [] := by
      intro z
      have z2 := congrArg List.length z
      rw [List.length_append, List.length_nil] at z2
      omega
    have m := Reads.more (n := l.length) (a := sh ls.flatten.length ls.length a) ne i (by rw [List.drop_left]; exact ih)
    rw [sh_sh] at m
    rw [List.flatten_cons, List.append_assoc, List.length_append, List.length_cons, Nat.add_comm ls.length 1]
    exact m
theorem reads_all {ls : List (List Nat)} (h : ∀ l ∈ ls, GoodLine l) : Reads ls.flatten (.ok ls.length) := by
  have q := reads_lines h Reads.nil
  rw [List.append_nil] at q
  exact q
/-- good lines, then the first parts of one, then a fault -/
theorem reads_fault {ls : List (List Nat)} (h : ∀ l ∈ ls, GoodLine l) {ks : List Kind} {k : Kind} {rest : List Kind} {ps : List (List Nat)} {t : List Nat} {m : Nat} {w : Str}
    (ek : kinds = ks ++ k :: rest) (f : Fit ks ps) (i : item k t = .error (m, w)) (ne : ahead ps ++ t ≠ []) : Reads (ls.flatten ++ (ahead ps ++ t)) (.error (ls.flatten.length + ((ahead ps).length + m), w)) := by
  have a := items_ahead f (k :: rest) t
  rw [← ek, items_cons_err i] at a
  exact reads_lines h (Reads.bad ne a)
/-! ### line and column -/
def nlS : Str := "\n"
theorem tl_nl : TL.tl nlS = [10] := by decide +kernel
theorem nl_eq : nlS = ⟨#[10]⟩ := by decide +kernel
theorem at_nl (x : Str) (i : Nat) : StrLaws.At x nlS x.length i ↔ (TL.tl x)[i]? = some 10 := by
  rw [TL.at_iff (by rw [tl_nl]; simp), tl_nl]
  show ((((TL.tl x).drop i).take 1) == [10]) = true ↔ _
  rw [beq_iff_eq]
  constructor
  · intro h
    have e : (((TL.tl x).drop i).take 1)[0]? = some 10 := by rw [h]; rfl
    rw [List.getElem?_take, if_pos (by decide), List.getElem?_drop] at e
    exact e
  · intro h
    have hl : i < (TL.tl x).length := by
      rcases Nat.lt_or_ge i (TL.tl x).length with q | q
      · exact q
      · rw [List.getElem?_eq_none q] at h
        cases h
    rw [List.drop_eq_getElem_cons hl, List.take_succ_cons, List.take_zero]
    rw [List.getElem?_eq_getElem hl] at h
    rw [Option.some.inj h]
/-- where the last line begins -/
def Head (A : List Nat) : Prop := A = [] ∨ ∃ A', A = A' ++ [10]
theorem rfind_at {x : Str} {A B : List Nat} (e : TL.tl x = A ++ B) (hA : Head A) (hB : (10 : Nat) ∉ B) : Txt.rfind x nlS = (A.length : Int) - 1 := by
  have out : ∀ k, A.length ≤ k → (TL.tl x)[k]? ≠ some 10 := fun k hk z => by
    rw [e, List.getElem?_append_right hk] at z
    exact hB (List.mem_of_getElem? z)
  rcases PyProof.Rows.rfind_whole x nlS with ⟨h, n⟩ | ⟨i, h, hi, n⟩
  · rw [h]
    rcases hA with rfl | ⟨A', rfl⟩
    · rfl
    · refine absurd ((at_nl x A'.length).mpr ?_) (n _)
      rw [e, List.append_assoc, List.getElem?_append_right (Nat.le_refl _), Nat.sub_self]
      rfl
  · rw [h]
    have hi' := (at_nl x i).mp hi
    rcases hA with rfl | ⟨A', rfl⟩
    · exact absurd hi' (out i (Nat.zero_le _))
    · have l1 : i < (A' ++ [10]).length := by
        rcases Nat.lt_or_ge i (A' ++ [10]).length with q | q
        · exact q
        · exact absurd hi' (out i q)
      have l2 : ¬ i < A'.length := fun q => n A'.length q ((at_nl x _).mpr (by
        rw [e, List.append_assoc, List.getElem?_append_right (Nat.le_refl _), Nat.sub_self]
        rfl))
      rw [List.length_append] at l1 ⊢
      have l3 : ([10] : List Nat).length = 1 := rfl
      rw [l3] at l1 ⊢
      omega
end K24
/-! The text by places, what the top has written, the promises. -/
namespace K24
open PySem PySem.Spec PyProof.Rows L2
def topS (i : Nat) : Stmt := PySem.Challenge.pw_asforetold_k24_first_fault_of_a_trace.main.body.getD i (.Pass ⟨0, 0, 0, 0⟩)
abbrev sTI : Stmt := inClass (topS 2) 0
abbrev sOI : Stmt := inClass (topS 3) 0
abbrev sNum : Stmt := topS 6
abbrev sPath : Stmt := topS 7
abbrev sInst : Stmt := topS 15
abbrev sRes : Stmt := topS 16
abbrev sRI : Stmt := inClass (topS 17) 0
abbrev sAt : Stmt := inClass (topS 17) 1
abbrev sRef : Stmt := inClass (topS 17) 2
abbrev sPart : Stmt := inClass (topS 17) 3
abbrev sStep : Stmt := inClass (topS 17) 4
abbrev sExp : Stmt := inClass (topS 17) 5
abbrev sRP : Stmt := inClass (topS 17) 6
abbrev sRN : Stmt := inClass (topS 17) 7
abbrev sRO : Stmt := inClass (topS 17) 8
abbrev sRR : Stmt := inClass (topS 17) 9
abbrev sTr : Stmt := topS 18
abbrev sCell : Stmt := topS 20
abbrev sDig : Stmt := topS 21
abbrev sDraw : Stmt := topS 22
abbrev sTold : Stmt := topS 23
abbrev sLine : Stmt := topS 24
abbrev sWrong : Stmt := topS 25
abbrev sLaw : Stmt := topS 26
/-- where the top has laid the classes and the defs -/
structure Adr where
  (CE CT CO CR fTI fOI fNum fPath fInst fRes fRI fAt fRef fPart fStep fExp fRP fRN fRO fRR fTr fCell fDig fDraw fTold fLine fWrong aOut : Addr)
/-- a def of the text -/
def FunE (K : PySem.W.Frag) (x qual : Str) (st : Stmt) (f : Addr) (ps : List Str) : Prop := ∃ fd, Fun K x qual st f fd ∧ Binds K fd ps []
/-- a def of the module -/
structure FunG (K : PySem.W.Frag) (mg : Str → Option Value) (x : Str) (st : Stmt) (f : Addr) (ps : List Str) : Prop where
  fe : FunE K x x st f ps
  mg : mg x = some (.ref f)
  kp : PySem.W.keepIn K (.ref f) = true
/-- an own error's class -/
structure ErrC (K : PySem.W.Frag) (mg : Str → Option Value) (x : Str) (C f : Addr) : Prop where
  ox : OexC K C
  ini : PySem.W.findIn K (.ref C) "__init__" = some (some (.ref f))
  ty : PySem.W.typeIn K (.ref f) = some (.type "function")
  mg : mg x = some (.ref C)
  xf : XfC K C
  ec : ExcC K C
/-- a method of Reader -/
structure MethE (K : PySem.W.Frag) (C : Addr) (x qual : Str) (st : Stmt) (f : Addr) (ps : List Str) : Prop where
  fe : FunE K x qual st f ps
  me : Meth K C x f
/-- what the top has written -/
structure TopOk (K : PySem.W.Frag) (mg : Str → Option Value) (a : Adr) : Prop where
  eT : ErrC K mg "TextFault" a.CT a.fTI
  eO : ErrC K mg "OutOfRange" a.CO a.fOI
  nl : PySem.W.findIn K (.ref a.CT) "line" = some none
  nc : PySem.W.findIn K (.ref a.CT) "column" = some none
  nw : PySem.W.findIn K (.ref a.CT) "words" = some none
  nn : PySem.W.findIn K (.ref a.CO) "name" = some none
  gE : mg "ForetoldError" = some (.ref a.CE)
  hT : PySem.W.exmOne K (.ref a.CT) (.ref a.CE) = some true
  hO : PySem.W.exmOne K (.ref a.CO) (.ref a.CE) = some true
  kTT : PySem.W.kitOne K (.ref a.CT) (.ref a.CT) = some true
  kTO : PySem.W.kitOne K (.ref a.CT) (.ref a.CO) = some false
  kOT : PySem.W.kitOne K (.ref a.CO) (.ref a.CT) = some false
  kOO : PySem.W.kitOne K (.ref a.CO) (.ref a.CO) = some true
  cR : Cls K a.CR
  mkR : Mk K a.CR a.fRI
  gR : mg "Reader" = some (.ref a.CR)
  nt : NoAttr K a.CR "_text"
  na : NoAttr K a.CR "_at"
  fTI : FunE K "__init__" "TextFault.__init__" sTI a.fTI ["self", "line", "column", "words"]
  fOI : FunE K "__init__" "OutOfRange.__init__" sOI a.fOI ["self", "name"]
  fRI : FunE K "__init__" "Reader.__init__" sRI a.fRI ["self", "text"]
  mAt : MethE K a.CR "at_end" "Reader.at_end" sAt a.fAt ["self"]
  mRef : MethE K a.CR "refuse" "Reader.refuse" sRef a.fRef ["self", "words"]
  mPart : MethE K a.CR "part" "Reader.part" sPart a.fPart ["self"]
  mStep : MethE K a.CR "step" "Reader.step" sStep a.fStep ["self", "many"]
  mExp : MethE K a.CR "expect" "Reader.expect" sExp a.fExp ["self", "sign", "words"]
  mRP : MethE K a.CR "read_path" "Reader.read_path" sRP a.fRP ["self"]
  mRN : MethE K a.CR "read_instant" "Reader.read_instant" sRN a.fRN ["self", "free"]
  mRO : MethE K a.CR "read_outcome" "Reader.read_outcome" sRO a.fRO ["self"]
  mRR : MethE K a.CR "read_results" "Reader.read_results" sRR a.fRR ["self"]
  dNum : FunG K mg "read_number" sNum a.fNum ["text"]
  dPath : FunG K mg "read_path" sPath a.fPath ["text"]
  gPath : mg "read_path_paths" = some (.ref a.fPath)
  dInst : FunG K mg "_read_instant" sInst a.fInst ["text"]
  dRes : FunG K mg "_read_results" sRes a.fRes ["text"]
  dTr : FunG K mg "read_trace" sTr a.fTr ["text"]
  dCell : FunG K mg "_law_cell" sCell a.fCell ["_law_script", "_law_k"]
  dDig : FunG K mg "_law_digits" sDig a.fDig ["_law_script", "_law_first", "_law_last"]
  dDraw : FunG K mg "_law_draw" sDraw a.fDraw ["_law_box", "_law_many"]
  dTold : FunG K mg "_law_told" sTold a.fTold ["_law_text"]
  dLine : FunG K mg "_law_line" sLine a.fLine ["_law_box"]
  dWrong : FunG K mg "_law_wrong" sWrong a.fWrong ["_law_box", "_law_k"]
  cN : ∃ t, mg "NUMBER_SIGNS" = some (.int 7 t)
  cD : ∃ t, mg "DEADLINE" = some (.str "deadline exceeded" t)
  cT : ∃ t, mg "TRACE_MOST" = some (.int 20000 t)
  cS : ∃ t, mg "RESULTS_MOST" = some (.int 60 t)
  cE : ∃ t, mg "ERROR_MOST" = some (.int 999 t)
  cO : mg "OUTCOMES" = some (.ref a.aOut)
  tO : ∀ H, SqT K H a.aOut [.str "completed", .str "failed", .str "cancelled"]
  zlen : mg "len" = none
  zint : mg "int" = none
  zstr : mg "str" = none
  zrange : mg "range" = none
  ztuple : mg "tuple" = none
  zisi : mg "isinstance" = none
/-! ### heaps -/
def But (p : Addr) (H H' : Hp) : Prop := ∀ b o, H b = some o → b ≠ p → H' b = some o
theorem But.refl (p : Addr) (H : Hp) : But p H H := fun _ _ h _ => h
theorem But.trans {p : Addr} {H H1 H2 : Hp} (a : But p H H1) (b : But p H1 H2) : But p H H2 := fun c o h n => b c o (a c o h n) n
theorem Same.but {p : Addr} {H H1 : Hp} (a : Same H H1) : But p H H1 := fun c o h _ => a c o h
theorem But.upd (p : Addr) (H : Hp) (o : HO) : But p H (upd H p o) := fun c u h n => (upd_ne n).trans h
theorem same_upd {H : Hp} {p : Addr} {o : HO} (h : H p = none) : Same H (upd H p o) := fun b x e => by
  rw [upd_ne (ne_of_none e h)]
  exact e
/-- behind a new object that was not there before -/
theorem But.same {p : Addr} {H H1 H2 : Hp} (n : H p = none) (s : Same H H1) (b : But p H1 H2) : Same H H2 := fun c o h => b c o (s c o h) (ne_of_none h n)
/-! ### the faults -/
def lineOf (z : Str) (k : Nat) : Int := 1 + Txt.count (cutS z none (some (k : Int))) nlS
def colOf (z : Str) (k : Nat) : Int := (k : Int) - Txt.rfind (cutS z none (some (k : Int))) nlS
def xfs (z : Str) (k : Nat) (w : Str) : List (Str × V) := [("words", .str w), ("column", .int (colOf z k)), ("line", .int (lineOf z k))]
/-- an error at place k of z: what is wished of it, the reader at p -/
def FltB (C p : Addr) (H : Hp) (E : XK) (z : Str) (k : Nat) (w : Str) : Prop := ∀ d H', But p H H' → H' d = some (.xd (xfs z k w)) → E (.ref C) (some d) H'
theorem FltB.step {C p : Addr} {H H1 : Hp} {E : XK} {z : Str} {k : Nat} {w : Str} (f : FltB C p H E z k w) (b : But p H H1) : FltB C p H1 E z k w := fun d H' b' e => f d H' (b.trans b') e
/-! ### the reader -/
def rdF (z : Str) (k : Nat) : List (Str × V) := [("_text", .str z), ("_at", .int (k : Int))]
def Rdr (C : Addr) (H : Hp) (p : Addr) (z : Str) (k : Nat) : Prop := ∃ dx, H p = some (.ins C dx (rdF z k))
theorem rd_text (z : Str) (k : Nat) : (rdF z k).lookup ("_text" : Str) = some (.str z) := by
  unfold rdF
  rw [L2.lookup_put, if_pos rfl]
theorem at_ne_text : ¬ (("_at" : Str) = "_text") := by decide +kernel
theorem text_ne_at : ¬ (("_text" : Str) = "_at") := by decide +kernel
theorem rd_at (z : Str) (k : Nat) : (rdF z k).lookup ("_at" : Str) = some (.int (k : Int)) := by
  unfold rdF
  rw [L2.lookup_put, if_neg at_ne_text, L2.lookup_put, if_pos rfl]
theorem rd_put (z : Str) (k : Nat) (i : Int) : putF "_at" (.int i) (rdF z k) = ([("_text", .str z), ("_at", .int i)] : List (Str × V)) := by
  unfold rdF putF
  rw [if_neg text_ne_at]
  unfold putF
  rw [if_pos rfl]
theorem rd_none (z : Str) (k : Nat) {m : Str} (h1 : ¬ m = "_text") (h2 : ¬ m = "_at") : (rdF z k).lookup m = none := by
  unfold rdF
  rw [L2.lookup_put, if_neg h1, L2.lookup_put, if_neg h2]
  rfl
/-! ### the promises -/
def spTI (a : Adr) : Sp := fun vs H Q _ => ∃ (e : Addr) (x y z : V), vs = [.ref e, x, y, z] ∧ H e = some (exo e a.CT none) ∧
  ∀ (d : Addr) (H' : Hp), H d = none → d ≠ e → H' e = some (exo e a.CT (some d)) → H' d = some (exd d [("words", z), ("column", y), ("line", x)]) → (∀ b, b ≠ e → b ≠ d → H' b = H b) → Q .non H'
def spOI (a : Adr) : Sp := fun vs H Q _ => ∃ (e : Addr) (x : V), vs = [.ref e, x] ∧ H e = some (exo e a.CO none) ∧
  ∀ (d : Addr) (H' : Hp), H d = none → d ≠ e → H' e = some (exo e a.CO (some d)) → H' d = some (exd d [("name", x)]) → (∀ b, b ≠ e → b ≠ d → H' b = H b) → Q .non H'
def spNum : Sp := fun vs H Q _ => ∃ z : Str, vs = [.str z] ∧ z.length ≤ 20000 ∧ (numOk (TL.tl z) = true → Q (.int (numVal (TL.tl z) : Nat)) H) ∧ (numOk (TL.tl z) = false → Q .non H)
def spPath : Sp := fun vs H Q _ => ∃ z : Str, vs = [.str z] ∧ z.length ≤ 20000 ∧
  (pathOk (TL.tl z) = true → ∀ (p : Addr) (H' : Hp) (xs : List V), Same H H' → H' p = some (.tup xs) → xs.length = (cuts 46 (TL.tl z)).length → Q (.ref p) H') ∧
  (pathOk (TL.tl z) = false → ∀ H' : Hp, Same H H' → Q .non H')
/-- a value or None -/
def spOpt (ok : List Nat → Bool) : Sp := fun vs H Q _ => ∃ z : Str, vs = [.str z] ∧ z.length ≤ 20000 ∧
  (ok (TL.tl z) = true → ∀ (p : Addr) (H' : Hp), Same H H' → Q (.ref p) H') ∧ (ok (TL.tl z) = false → ∀ H' : Hp, Same H H' → Q .non H')
def spRI (a : Adr) : Sp := fun vs H Q _ => ∃ (p dx : Addr) (z : Str), vs = [.ref p, .str z] ∧ H p = some (.ins a.CR dx []) ∧ ∀ H', Rdr a.CR H' p z 0 → But p H H' → Q .non H'
def spAt (a : Adr) : Sp := fun vs H Q _ => ∃ (p : Addr) (z : Str) (k : Nat), vs = [.ref p] ∧ Rdr a.CR H p z k ∧ z.length ≤ 20000 ∧ Q (.bl (decide (k = z.length))) H
def spRef (a : Adr) : Sp := fun vs H _ E => ∃ (p : Addr) (z : Str) (k : Nat) (w : Str), vs = [.ref p, .str w] ∧ Rdr a.CR H p z k ∧ z.length ≤ 20000 ∧ FltB a.CT p H E z k w
def spPart (a : Adr) : Sp := fun vs H Q _ => ∃ (p : Addr) (z : Str) (k : Nat), vs = [.ref p] ∧ Rdr a.CR H p z k ∧ z.length ≤ 20000 ∧ k ≤ z.length ∧ ∀ y : Str, TL.tl y = partL ((TL.tl z).drop k) → Q (.str y) H
def spStep (a : Adr) : Sp := fun vs H Q _ => ∃ (p : Addr) (z : Str) (k m : Nat), vs = [.ref p, .int (m : Int)] ∧ Rdr a.CR H p z k ∧ ∀ H', Rdr a.CR H' p z (k + m) → But p H H' → Q .non H'
def spExp (a : Adr) : Sp := fun vs H Q E => ∃ (p : Addr) (z : Str) (k : Nat) (s w : Str) (c : Nat), vs = [.ref p, .str s, .str w] ∧ TL.tl s = [c] ∧ Rdr a.CR H p z k ∧ z.length ≤ 20000 ∧ k ≤ z.length ∧
  ((TL.tl z)[k]? = some c → ∀ H', Rdr a.CR H' p z (k + 1) → But p H H' → Q .non H') ∧ ((TL.tl z)[k]? ≠ some c → FltB a.CT p H E z k w)
/-- a part of a line is read -/
def Item (a : Adr) (kd : Kind) (p : Addr) (H : Hp) (Q : VK) (E : XK) : Prop := ∃ (z : Str) (k : Nat), Rdr a.CR H p z k ∧ z.length ≤ 20000 ∧ k ≤ z.length ∧
  (∀ n, item kd ((TL.tl z).drop k) = .ok n → ∀ v H', Rdr a.CR H' p z (k + n) → But p H H' → Q v H') ∧ (∀ m w, item kd ((TL.tl z).drop k) = .error (m, w) → FltB a.CT p H E z (k + m) w)
def spItem (a : Adr) (kd : Kind) : Sp := fun vs H Q E => ∃ p : Addr, vs = [.ref p] ∧ Item a kd p H Q E
def spRN (a : Adr) : Sp := fun vs H Q E => ∃ (p : Addr) (fr : Bool), vs = [.ref p, .bl fr] ∧ Item a (if fr then kStart else kInst) p H Q E
def spTr (a : Adr) : Sp := fun vs H Q E => ∃ z : Str, vs = [.str z] ∧ z.length ≤ 1000000 ∧
  (20000 < z.length → ∀ d H', Same H H' → H' d = some (.xd [("name", .str "text")]) → E (.ref a.CO) (some d) H') ∧
  (z.length ≤ 20000 → ∃ ans, Reads (TL.tl z) ans ∧ (∀ n, ans = .ok n → ∀ p H' xs, Same H H' → H' p = some (.tup xs) → xs.length = n → Q (.ref p) H') ∧
    (∀ m w, ans = .error (m, w) → ∀ d H', Same H H' → H' d = some (.xd (xfs z m w)) → E (.ref a.CT) (some d) H'))
def spTold : Sp := fun vs H Q _ => ∃ z : Str, vs = [.str z] ∧ z.length ≤ 1000000 ∧
  (20000 < z.length → ∀ p H', Same H H' → H' p = some (.tup [.str "refused", .str "text"]) → Q (.ref p) H') ∧
  (z.length ≤ 20000 → ∃ ans, Reads (TL.tl z) ans ∧ (∀ n : Nat, ans = .ok n → ∀ H', Same H H' → Q (.int (n : Int)) H') ∧
    (∀ m w, ans = .error (m, w) → ∀ p H', Same H H' → H' p = some (.tup [.str "refused", .int (lineOf z m), .int (colOf z m), .str w]) → Q (.ref p) H'))
theorem len_line {n : Nat} (h : n ≤ 1000000) : n ≤ sizeLine := Nat.le_trans h (by rw [sizeLine_eq]; decide)
section
variable {P : Program} {w : World} {K : PySem.W.Frag} {mg : Str → Option Value} {base : Heap} {a : Adr}
/-- a def's promise, with how its arguments bind -/
def DefOk (P : Program) (w : World) (K : PySem.W.Frag) (mg : Str → Option Value) (base : Heap) (CX : CXT) (k : Nat) (f : Addr) (ps : List Str) (sp : Sp) : Prop := ∃ fd, FnOk P w K mg base CX k f fd ps sp ∧ Binds K fd ps []
/-! ### the errors' own fields -/
theorem scTI : FnScope ["self", "line", "column", "words"] ["self", "line", "column", "words"] (defScope sTI) := ⟨rfl, rfl, rfl, by decide +kernel, rfl, by decide +kernel, by decide +kernel⟩
theorem ok_TI (T : TopOk K mg a) : DefOk P w K mg base CX0 1 a.fTI ["self", "line", "column", "words"] (spTI a) := by
  obtain ⟨fd, F, b⟩ := T.fTI
  refine ⟨fd, F.ok scTI (fun vs H Q E h => ?_) (fun cdv A outer s H vs Q E hr h => ?_), b⟩
  · obtain ⟨e, x, y, z, rfl, _⟩ := h
    rfl
  · obtain ⟨e, x, y, z, rfl, he, q⟩ := h
    refine ⟨_, pss_cons (ps_ost (pv 0) (pv 1)) (pss_cons (ps_ost (pv 0) (pv 2)) (pss_one (ps_ost (pv 0) (pv 3)))), ?_⟩
    refine ⟨x, rfl, .ref e, rfl, e, a.CT, rfl, T.eT.ox, T.nl, .inl ⟨he, fun d nd ne => ?_⟩⟩
    refine ⟨y, rfl, .ref e, rfl, e, a.CT, rfl, T.eT.ox, T.nc, .inr ⟨d, _, upd_same, (by rw [upd_ne ne]; exact upd_same), (by show 1 ≤ 900; decide), ?_⟩⟩
    refine ⟨z, rfl, .ref e, rfl, e, a.CT, rfl, T.eT.ox, T.nw, .inr ⟨d, _, (by rw [upd_ne (Ne.symm ne)]; exact upd_same), upd_same, (by show 2 ≤ 900; decide), ?_⟩⟩
    refine q d _ nd ne (by rw [upd_ne (Ne.symm ne), upd_ne (Ne.symm ne)]; exact upd_same) upd_same fun b1 h1 h2 => ?_
    rw [upd_ne h2, upd_ne h2, upd_ne h1, upd_ne h2]
theorem scOI : FnScope ["self", "name"] ["self", "name"] (defScope sOI) := ⟨rfl, rfl, rfl, by decide +kernel, rfl, by decide +kernel, by decide +kernel⟩
theorem ok_OI (T : TopOk K mg a) : DefOk P w K mg base CX0 1 a.fOI ["self", "name"] (spOI a) := by
  obtain ⟨fd, F, b⟩ := T.fOI
  refine ⟨fd, F.ok scOI (fun vs H Q E h => ?_) (fun cdv A outer s H vs Q E hr h => ?_), b⟩
  · obtain ⟨e, x, rfl, _⟩ := h
    rfl
  · obtain ⟨e, x, rfl, he, q⟩ := h
    refine ⟨_, pss_one (ps_ost (pv 0) (pv 1)), ?_⟩
    refine ⟨x, rfl, .ref e, rfl, e, a.CO, rfl, T.eO.ox, T.nn, .inl ⟨he, fun d nd ne => ?_⟩⟩
    refine q d _ nd ne upd_same (by rw [upd_ne ne]; exact upd_same) fun b1 h1 h2 => ?_
    rw [upd_ne h1, upd_ne h2]
/-! ### the reader's small methods -/
theorem scRI : FnScope ["self", "text"] ["self", "text"] (defScope sRI) := ⟨rfl, rfl, rfl, by decide +kernel, rfl, by decide +kernel, by decide +kernel⟩
theorem ok_RI (T : TopOk K mg a) : DefOk P w K mg base CX0 1 a.fRI ["self", "text"] (spRI a) := by
  obtain ⟨fd, F, b⟩ := T.fRI
  refine ⟨fd, F.ok scRI (fun vs H Q E h => ?_) (fun cdv A outer s H vs Q E hr h => ?_), b⟩
  · obtain ⟨p, dx, z, rfl, _⟩ := h
    rfl
  · obtain ⟨p, dx, z, rfl, hp, q⟩ := h
    refine ⟨_, pss_cons (ps_fld (pv 0) (pv 1) rfl) (pss_one (ps_fld (pv 0) pe_int rfl)), ?_⟩
    refine ⟨_, rfl, _, rfl, p, a.CR, dx, [], rfl, hp, T.cR, T.nt, (by show 0 < 1000; decide), _, rfl, p, a.CR, dx, _, rfl, upd_same, T.cR, T.na, (by show 1 < 1000; decide), ?_⟩
    refine q _ ⟨dx, upd_same.trans ?_⟩ ((But.upd p H _).trans (But.upd p _ _))
    refine congrArg (fun l => some (HO.ins a.CR dx l)) ?_
    show putF "_at" (V.int 0) [(("_text" : Str), V.str z)] = rdF z 0
    unfold rdF putF
    rw [if_neg text_ne_at]
    rfl
theorem scAt : FnScope ["self"] ["self"] (defScope sAt) := ⟨rfl, rfl, rfl, by decide +kernel, rfl, by decide +kernel, by decide +kernel⟩
theorem ok_At (T : TopOk K mg a) : DefOk P w K mg base CX0 1 a.fAt ["self"] (spAt a) := by
  obtain ⟨fd, F, b⟩ := T.mAt.fe
  refine ⟨fd, F.ok scAt (fun vs H Q E h => ?_) (fun cdv A outer s H vs Q E hr h => ?_), b⟩
  · obtain ⟨p, z, k, rfl, _⟩ := h
    rfl
  · obtain ⟨p, z, k, rfl, ⟨dx, hp⟩, hz, q⟩ := h
    refine ⟨_, pss_one (ps_ret (pe_cmpR op_eq (pe_fld (pv 0) rfl) (pe_callB call_len_str (by rfl) T.zlen PySem.boot_len (pa_cons (pe_fld (pv 0) rfl) pa_nil)) (nomark _))), ?_⟩
    refine ⟨_, rfl, p, a.CR, dx, _, _, rfl, hp, T.cR, T.na, rd_at z k, _, rfl, p, a.CR, dx, _, _, rfl, hp, T.cR, T.nt, rd_text z k, z, rfl, len_line (by omega), rfl, ?_⟩
    have e : decide (V.int (k : Int) = V.int (z.length : Int)) = decide (k = z.length) := by
      by_cases c : k = z.length
      · rw [decide_eq_true c, c, decide_eq_true rfl]
      · rw [decide_eq_false c, decide_eq_false fun q => c (by have := V.int.inj q; omega)]
    rw [e]
    exact q
theorem scStep : FnScope ["self", "many"] ["self", "many"] (defScope sStep) := ⟨rfl, rfl, rfl, by decide +kernel, rfl, by decide +kernel, by decide +kernel⟩
theorem ok_Step (T : TopOk K mg a) : DefOk P w K mg base CX0 1 a.fStep ["self", "many"] (spStep a) := by
  obtain ⟨fd, F, b⟩ := T.mStep.fe
  refine ⟨fd, F.ok scStep (fun vs H Q E h => ?_) (fun cdv A outer s H vs Q E hr h => ?_), b⟩
  · obtain ⟨p, z, k, m, rfl, _⟩ := h
    rfl
  · obtain ⟨p, z, k, m, rfl, ⟨dx, hp⟩, q⟩ := h
    refine ⟨_, pss_one (ps_fld (pv 0) (pe_op op_add (pe_fld (pv 0) rfl) (pv 1)) rfl), ?_⟩
    refine ⟨_, rfl, p, a.CR, dx, _, _, rfl, hp, T.cR, T.na, rd_at z k, _, rfl, _, _, rfl, rfl, _, rfl, p, a.CR, dx, _, rfl, hp, T.cR, T.na, (by show 2 < 1000; decide), ?_⟩
    refine q _ ⟨dx, upd_same.trans ?_⟩ (But.upd p H _)
    rw [rd_put]
    rfl
end
end K24
/-! The reader: refuse, part, expect. -/
namespace K24
open PySem PySem.Spec PyProof.Rows L2
theorem tl_cut_to (z : Str) (k : Nat) : TL.tl (cutS z none (some (k : Int))) = (TL.tl z).take k := by
  show (z.cps.toList.drop (HT.sIx z.length 0 none)).take (HT.sIx z.length z.length (some (k : Int)) - HT.sIx z.length 0 none) = _
  rw [HT.sIx_none, HT.sIx_nat, List.drop_zero, Nat.sub_zero]
  rw [TL.len_tl z]
  by_cases h : k ≤ (TL.tl z).length
  · rw [Nat.min_eq_left h]
  · rw [Nat.min_eq_right (by omega), List.take_of_length_le (Nat.le_refl _), List.take_of_length_le (by omega)]
theorem tl_cut_mid (z : Str) (i j : Nat) (hi : i ≤ z.length) : TL.tl (cutS z (some (i : Int)) (some (j : Int))) = ((TL.tl z).drop i).take (j - i) := by
  show (z.cps.toList.drop (HT.sIx z.length 0 (some (i : Int)))).take (HT.sIx z.length z.length (some (j : Int)) - HT.sIx z.length 0 (some (i : Int))) = _
  rw [HT.sIx_nat, HT.sIx_nat, Nat.min_eq_left hi]
  by_cases h : j ≤ z.length
  · rw [Nat.min_eq_left h]
  · rw [Nat.min_eq_right (by omega), List.take_of_length_le (i := z.length - i), List.take_of_length_le (i := j - i)]
    · rw [List.length_drop, ← TL.len_tl]
      omega
    · rw [List.length_drop]
      rw [show z.cps.toList.length = z.length from (TL.len_tl z).symm]
      omega
theorem sp_eq : (" " : Str) = ⟨#[32]⟩ := by decide +kernel
theorem one_ne (c d : Nat) : (!decide (V.str ⟨#[c]⟩ = V.str ⟨#[d]⟩)) = !(c == d) := by
  by_cases h : c = d
  · subst h
    simp
  · rw [decide_eq_false (fun q => h (by injection q with q; injection q with q; simpa using q))]
    simp [h]
section
variable {P : Program} {w : World} {K : PySem.W.Frag} {mg : Str → Option Value} {base : Heap} {a : Adr}
theorem scRef : FnScope ["self", "words", "before"] ["self", "words"] (defScope sRef) := ⟨rfl, rfl, rfl, by decide +kernel, rfl, by decide +kernel, by decide +kernel⟩
theorem ok_Ref (T : TopOk K mg a) : DefOk P w K mg base (L2.CX P w) 3 a.fRef ["self", "words"] (spRef a) := by
  obtain ⟨fdI, GI, bI⟩ := ok_TI (P := P) (w := w) (base := base) T
  obtain ⟨fd, F, b⟩ := T.mRef.fe
  refine ⟨fd, F.okX scRef (fun vs H Q E h => ?_) (fun cdv A outer s H vs Q E hr h => ?_), b⟩
  · obtain ⟨p, z, k, w, rfl, _⟩ := h
    rfl
  · obtain ⟨p, z, k, w, rfl, ⟨dx, hp⟩, hz, f⟩ := h
    refine ⟨_, pss_cons (ps_set (i := 2) scRef.nd rfl (Or.inl rfl) (pe_slice sl_str (pe_fld (pv 0) rfl) po_none (po_some (pe_fld (pv 0) rfl))))
      (pss_one (ps_raise rfl (takes_of rfl rfl rfl rfl) (pmk_oex T.eT.ox T.eT.ini T.eT.ty GI hr bI .nil pass0 (by rfl) T.eT.mg
        (pa_cons (pe_op op_add pe_int (pe_m1 PySem.F.slot_str_count PySem.F.type_str_count mt_count (pv 2) pe_str))
          (pa_cons (pe_op op_sub (pe_fld (pv 0) rfl) (pe_m1 PySem.F.slot_str_rfind PySem.F.type_str_rfind mt_rfind (pv 2) pe_str)) (pa_cons (pv 1) pa_nil)))))), ?_⟩
    -- before = self._text[:self._at]
    refine ⟨_, rfl, p, a.CR, dx, _, _, rfl, hp, T.cR, T.nt, rd_text z k, _, rfl, p, a.CR, dx, _, _, rfl, hp, T.cR, T.na, rd_at z k, (k : Int), rfl, z, rfl, len_line (by omega), ?_⟩
    -- raise TextFault(..)
    refine ⟨_, rfl, ⟨_, rfl⟩, _, _, rfl, rfl, _, _, rfl, rfl, ?_⟩
    refine ⟨_, rfl, p, a.CR, dx, _, _, rfl, hp, T.cR, T.na, rd_at z k, _, rfl, ⟨_, rfl⟩, _, _, rfl, rfl, _, _, rfl, rfl, ?_⟩
    refine ⟨_, rfl, (by show 3 ≤ 1000; decide), fun e ne => ⟨e, _, _, _, rfl, upd_same, fun d H' nd nde he hd hb => ⟨rfl, d, _, he, hd, ?_, ?_⟩⟩⟩
    · rw [upd_ne nde] at nd
      exact nd
    · rw [upd_ne nde] at nd
      refine f d _ (fun b o hbo hbp => ?_) upd_same
      have h1 : b ≠ e := ne_of_none hbo ne
      have h2 : b ≠ d := ne_of_none hbo nd
      rw [upd_ne h2, del_ne h1, hb b h1 h2, upd_ne h1]
      exact hbo
theorem scPart : FnScope ["self", "end"] ["self"] (defScope sPart) := ⟨rfl, rfl, rfl, by decide +kernel, rfl, by decide +kernel, by decide +kernel⟩
theorem ok_Part (T : TopOk K mg a) : DefOk P w K mg base CX0 1 a.fPart ["self"] (spPart a) := by
  obtain ⟨fd, F, b⟩ := T.mPart.fe
  refine ⟨fd, F.ok scPart (fun vs H Q E h => ?_) (fun cdv A outer s H vs Q E hr h => ?_), b⟩
  · obtain ⟨p, z, k, rfl, _⟩ := h
    rfl
  · obtain ⟨p, z, k, rfl, ⟨dx, hp⟩, hz, hk, q⟩ := h
    have hl : z.length ≤ sizeLine := len_line (by omega)
    refine ⟨_, pss_cons (ps_set (i := 1) scPart.nd rfl (Or.inl rfl) (pe_fld (pv 0) rfl))
      (pss_cons (ps_while PassesOwn.never
          (PW.pt (pw_and (pt_cmpR op_lt (pv 1) (pe_callB call_len_str (by rfl) T.zlen PySem.boot_len (pa_cons (pe_fld (pv 0) rfl) pa_nil)) (nomark _))
            (pw_and (pt_cmpR op_ne (pe_ix ix_str (pe_fld (pv 0) rfl) (pv 1) (fun _ _ => rfl)) pe_str (nomark _))
              (pw_and1 (pt_cmpR op_ne (pe_ix ix_str (pe_fld (pv 0) rfl) (pv 1) (fun _ _ => rfl)) pe_str (nomark _))))))
          (pss_one (ps_set (i := 1) scPart.nd rfl (Or.inl rfl) (pe_op op_add (pv 1) pe_int))))
      (pss_one (ps_ret (pe_slice sl_str (pe_fld (pv 0) rfl) (po_some (pe_fld (pv 0) rfl)) (po_some (pv 1)))))), ?_⟩
    refine ⟨_, rfl, p, a.CR, dx, _, _, rfl, hp, T.cR, T.na, rd_at z k, ?_⟩
    refine ⟨fun m σ H' => ∃ e : Nat, σ = [some (.ref p), some (.int (e : Int))] ∧ H' = H ∧ k ≤ e ∧ e ≤ z.length ∧ m = z.length - e ∧ ∀ i, k ≤ i → i < e → ∃ c, (TL.tl z)[i]? = some c ∧ isSep c = false,
      ⟨_, k, rfl, rfl, Nat.le_refl _, hk, rfl, fun i h1 h2 => absurd h1 (by omega)⟩, fun m σ H' hW => ?_⟩
    obtain ⟨e, rfl, rfl, h1, h2, rfl, hs⟩ := hW
    -- what stands behind the loop
    have out : (e = z.length ∨ ∃ c, (TL.tl z)[e]? = some c ∧ isSep c = true) → tRet (tSl rSlS (tFld K (tVar 0) "_text") (tPart (tFld K (tVar 0) "_at")) (tPart (tVar 1))) { nx := fun _ H' => Q .non H', rt := Q } [some (.ref p), some (.int (e : Int))] H' := fun ho => by
      refine ⟨_, rfl, p, a.CR, dx, _, _, rfl, hp, T.cR, T.nt, rd_text z k, _, rfl, p, a.CR, dx, _, _, rfl, hp, T.cR, T.na, rd_at z k, (k : Int), rfl, _, rfl, (e : Int), rfl, z, rfl, hl, ?_⟩
      refine q _ ?_
      rw [tl_cut_mid z k e hk]
      refine (partL_run (fun i hi => ?_) ?_).symm
      · obtain ⟨c, hc, hn⟩ := hs (k + i) (by omega) (by omega)
        exact ⟨c, by rw [List.getElem?_drop]; exact hc, hn⟩
      · rcases ho with ho | ⟨c, hc, hn⟩
        · refine .inl ?_
          rw [List.length_drop, ← TL.len_tl]
          omega
        · refine .inr ⟨c, ?_, hn⟩
          rw [List.getElem?_drop, show k + (e - k) = e by omega]
          exact hc
    refine ⟨_, rfl, _, rfl, p, a.CR, dx, _, _, rfl, hp, T.cR, T.nt, rd_text z k, z, rfl, hl, _, _, rfl, rfl, _, rfl, ite2 (fun hlt => ?_) (fun hnl => ?_)⟩
    · have hlt' : e < z.length := by
        have := of_decide_eq_true hlt
        omega
      have hg : (TL.tl z)[e]? = some (TL.tl z)[e] := List.getElem?_eq_getElem (by rw [← TL.len_tl]; exact hlt')
      refine ⟨_, rfl, p, a.CR, dx, _, _, rfl, hp, T.cR, T.nt, rd_text z k, _, rfl, z, (e : Int), (TL.tl z)[e], rfl, rfl, hl, atI_nat hg, rfl, _, rfl, ?_⟩
      rw [show V.str (Str.ofString " ") = V.str ⟨#[32]⟩ from congrArg V.str sp_eq, one_ne]
      by_cases c1 : (TL.tl z)[e] = 32
      · rw [c1]
        exact out (.inr ⟨32, by rw [hg, c1], rfl⟩)
      · have c1' : ((TL.tl z)[e] == 32) = false := by simpa using c1
        rw [c1']
        refine ⟨_, rfl, p, a.CR, dx, _, _, rfl, hp, T.cR, T.nt, rd_text z k, _, rfl, z, (e : Int), (TL.tl z)[e], rfl, rfl, hl, atI_nat hg, rfl, _, rfl, ?_⟩
        rw [show V.str (Str.ofString "\n") = V.str ⟨#[10]⟩ from congrArg V.str nl_eq, one_ne]
        by_cases c2 : (TL.tl z)[e] = 10
        · rw [c2]
          exact out (.inr ⟨10, by rw [hg, c2], rfl⟩)
        · have c2' : ((TL.tl z)[e] == 10) = false := by simpa using c2
          rw [c2']
          refine ⟨fun σ' H2 => σ' = [some (.ref p), some (.int ((e + 1 : Nat) : Int))] ∧ H2 = H', fun σ' H2 hN => ?_, ?_⟩
          · obtain ⟨rfl, rfl⟩ := hN
            refine ⟨_, ?_, e + 1, rfl, rfl, by omega, by omega, rfl, fun i i1 i2 => ?_⟩
            · omega
            · by_cases ie : i = e
              · subst ie
                exact ⟨_, hg, by unfold isSep; rw [c1', c2']; rfl⟩
              · exact hs i i1 (by omega)
          · exact ⟨_, rfl, _, _, rfl, rfl, rfl, rfl⟩
    · exact out (.inl (by
        have : ¬ ((e : Int) < (z.length : Int)) := fun q => hnl (decide_eq_true q)
        omega))
theorem scExp : FnScope ["self", "sign", "words"] ["self", "sign", "words"] (defScope sExp) := ⟨rfl, rfl, rfl, by decide +kernel, rfl, by decide +kernel, by decide +kernel⟩
theorem ok_Exp (T : TopOk K mg a) : DefOk P w K mg base (L2.CX P w) 4 a.fExp ["self", "sign", "words"] (spExp a) := by
  obtain ⟨fdR, GR, bR⟩ := ok_Ref (P := P) (w := w) (base := base) T
  obtain ⟨fdS, GS, bS⟩ := ok_Step (P := P) (w := w) (base := base) T
  obtain ⟨fd, F, b⟩ := T.mExp.fe
  refine ⟨fd, F.okX scExp (fun vs H Q E h => ?_) (fun cdv A outer s H vs Q E hr h => ?_), b⟩
  · obtain ⟨p, z, k, s, w, c, rfl, _⟩ := h
    rfl
  · obtain ⟨p, z, k, s, w, c, rfl, hs, ⟨dx, hp⟩, hz, hk, q1, q2⟩ := h
    have hr1 : Room 1 _ := hr.mono (by decide)
    refine ⟨_, pss_cons (ps_if (pt_cmpR op_ne (pe_slice sl_str (pe_fld (pv 0) rfl) (po_some (pe_fld (pv 0) rfl)) (po_some (pe_op op_add (pe_fld (pv 0) rfl) pe_int))) (pv 1) (nomark _))
        (pss_one (ps_expr (pe_meth (pv 0) T.cR T.mRef.me GR hr bR .nil (passes_call (takes_of rfl rfl rfl rfl) fun _ _ _ _ h => h) (pa_cons (pv 2) pa_nil)))) pss_nil)
      (pss_one (ps_expr (pe_meth (pv 0) T.cR T.mStep.me GS hr1 bS .nil pass0 (pa_cons pe_int pa_nil)))), ?_⟩
    refine ⟨_, rfl, p, a.CR, dx, _, _, rfl, hp, T.cR, T.nt, rd_text z k, _, rfl, p, a.CR, dx, _, _, rfl, hp, T.cR, T.na, rd_at z k, (k : Int), rfl,
      _, rfl, p, a.CR, dx, _, _, rfl, hp, T.cR, T.na, rd_at z k, _, _, rfl, rfl, _, rfl, z, rfl, len_line (by omega), _, rfl, rfl, _, rfl, ?_⟩
    have et : TL.tl (cutS z (some (k : Int)) (some ((k : Int) + 1))) = ((TL.tl z).drop k).take 1 := by
      have e := tl_cut_mid z k (k + 1) hk
      rw [show k + 1 - k = 1 by omega] at e
      exact e
    by_cases hc : (TL.tl z)[k]? = some c
    · have e : cutS z (some (k : Int)) (some ((k : Int) + 1)) = s := TL.ext_tl (by
        rw [et, hs]
        have hlt : k < (TL.tl z).length := by
          rcases Nat.lt_or_ge k (TL.tl z).length with q | q
          · exact q
          · rw [List.getElem?_eq_none q] at hc
            cases hc
        rw [List.drop_eq_getElem_cons hlt, List.take_succ_cons, List.take_zero]
        rw [List.getElem?_eq_getElem hlt] at hc
        rw [Option.some.inj hc])
      refine iteNS (congrArg V.str e) ?_
      -- self.step(1)
      exact ⟨_, rfl, p, dx, _, rfl, hp, rd_none z k (by decide +kernel) (by decide +kernel), p, z, k, 1, rfl, ⟨dx, hp⟩, fun H' r b => q1 hc H' r b⟩
    · have e : ¬ V.str (cutS z (some (k : Int)) (some ((k : Int) + 1))) = V.str s := fun e => hc (by
        have e1 : cutS z (some (k : Int)) (some ((k : Int) + 1)) = s := V.str.inj e
        have e2 := congrArg TL.tl e1
        rw [et, hs] at e2
        have e3 : (((TL.tl z).drop k).take 1)[0]? = some c := by rw [e2]; rfl
        rw [List.getElem?_take, if_pos (by decide), List.getElem?_drop] at e3
        exact e3)
      rw [decide_eq_false e]
      refine iteT ?_
      exact ⟨_, rfl, p, dx, _, rfl, hp, rd_none z k (by decide +kernel) (by decide +kernel), _, rfl, p, z, k, w, rfl, ⟨dx, hp⟩, hz, q2 hc⟩
end
end K24
/-! Numbers, paths, instants, results. -/
namespace K24
open PySem PySem.Spec PyProof.Rows L2
theorem if_yes {c : Bool} {A B : Prop} (hc : c = true) (h : A) : if c = true then A else B := by
  rw [if_pos hc]
  exact h
theorem if_no {c : Bool} {A B : Prop} (hc : c = false) (h : B) : if c = true then A else B := by
  rw [if_neg (by rw [hc]; exact Bool.false_ne_true)]
  exact h
theorem zero_eq : ("0" : Str) = ⟨#[48]⟩ := by decide +kernel
theorem nine_eq : ("9" : Str) = ⟨#[57]⟩ := by decide +kernel
theorem one_eq (c d : Nat) : decide (V.str ⟨#[c]⟩ = V.str ⟨#[d]⟩) = (c == d) := by
  have h := one_ne c d
  cases h1 : decide (V.str ⟨#[c]⟩ = V.str ⟨#[d]⟩) <;> cases h2 : (c == d) <;> rw [h1, h2] at h <;> first | rfl | cases h
theorem lt_one (c d : Nat) : decide (([c] : List Nat) < [d]) = decide (c < d) := by
  by_cases h : c < d
  · rw [decide_eq_true h, decide_eq_true (by simp [List.cons_lt_cons_iff, h])]
  · rw [decide_eq_false h, decide_eq_false (by simp [List.cons_lt_cons_iff, h])]
theorem get_tl {z : Str} {i : Nat} : z.cps[i]? = (TL.tl z)[i]? := by
  show z.cps[i]? = z.cps.toList[i]?
  rw [Array.getElem?_toList]
/-- the pieces of a text -/
theorem spl_len (S : List Nat) : ∀ (l : List Nat) (k : Nat) (acc : List Nat), ∀ p ∈ TL.spl S k acc l, p.length ≤ acc.length + l.length
  | [], k, acc, p, h => by
    rw [TL.spl_nil] at h
    rw [List.mem_singleton.mp h]
    exact Nat.le_add_right _ _
  | c :: r, 0, acc, p, h => by
    cases hp : TL.pre S (c :: r) with
    | true =>
      rw [TL.spl_hit hp] at h
      rcases List.mem_cons.mp h with e | e
      · rw [e]
        exact Nat.le_add_right _ _
      · have q := spl_len S r _ [] p e
        rw [List.length_nil] at q
        rw [List.length_cons]
        omega
    | false =>
      rw [TL.spl_miss hp] at h
      have q := spl_len S r 0 (acc ++ [c]) p h
      rw [List.length_append, List.length_singleton] at q
      rw [List.length_cons]
      omega
  | c :: r, k + 1, acc, p, h => by
    have q := spl_len S r k acc p h
    rw [List.length_cons]
    omega
theorem spl_many (S : List Nat) : ∀ (l : List Nat) (k : Nat) (acc : List Nat), (TL.spl S k acc l).length ≤ l.length + 1
  | [], k, acc => by rw [TL.spl_nil]; exact Nat.le_refl _
  | c :: r, 0, acc => by
    cases hp : TL.pre S (c :: r) with
    | true =>
      rw [TL.spl_hit hp]
      have q := spl_many S r (S.length - 1) []
      rw [List.length_cons, List.length_cons]
      omega
    | false =>
      rw [TL.spl_miss hp]
      have q := spl_many S r 0 (acc ++ [c])
      rw [List.length_cons]
      omega
  | c :: r, k + 1, acc => by
    have q := spl_many S r k acc
    show (TL.spl S k acc r).length ≤ _
    rw [List.length_cons]
    omega
theorem split_cuts {z s : Str} {c : Nat} (h : TL.tl s = [c]) (hc : c < 256) : (Txt.split z s).map TL.tl = cuts c (TL.tl z) := by
  have e : s = ⟨#[c]⟩ := TL.ext_tl h
  rw [TL.split_spl z s (by rw [h]; simp) (TL.kind_ok (by rw [e]; simpa using hc)), h]
  rfl
theorem dot_tl : TL.tl "." = [46] := by decide +kernel
theorem comma_tl : TL.tl "," = [44] := by decide +kernel
theorem dash_tl : TL.tl "-" = [45] := by decide +kernel
theorem dl_tl : TL.tl "deadline" = dlL := by decide +kernel
/-- what read_number hands back -/
def numV (x : Str) : V := if numOk (TL.tl x) = true then .int (numVal (TL.tl x) : Nat) else .non
theorem numV_flat (x : Str) : flatV (numV x) = true := by
  unfold numV
  split <;> rfl
theorem numV_non (x : Str) : eqV (numV x) .non = !numOk (TL.tl x) := by
  unfold numV
  cases numOk (TL.tl x) <;> rfl
theorem take_more {α : Type} : ∀ {l : List α} {i : Nat} {x : α}, l[i]? = some x → l.take (i + 1) = l.take i ++ [x]
  | [], i, x, h => by simp at h
  | a :: l, 0, x, h => by
    have e : a = x := Option.some.inj h
    subst e
    rfl
  | a :: l, i + 1, x, h => by
    have ih := take_more (l := l) (i := i) (x := x) h
    show a :: l.take (i + 1) = a :: l.take i ++ [x]
    rw [ih]
    rfl
theorem num_len {l : List Nat} (h : numOk l = true) : 1 ≤ l.length ∧ l.length ≤ 7 ∧ (l.head? == some 48 && decide (1 < l.length)) = false ∧ l.all isDig = true := by
  unfold numOk at h
  simp only [Bool.and_eq_true, decide_eq_true_eq, Bool.not_eq_true'] at h
  exact ⟨h.1.1, h.1.2, h.2.1, h.2.2⟩
section
variable {P : Program} {w : World} {K : PySem.W.Frag} {mg : Str → Option Value} {base : Heap} {a : Adr}
theorem scNum : FnScope ["text", "sign"] ["text"] (defScope sNum) := ⟨rfl, rfl, rfl, by decide +kernel, rfl, by decide +kernel, by decide +kernel⟩
theorem ok_Num (T : TopOk K mg a) : DefOk P w K mg base CX0 1 a.fNum ["text"] spNum := by
  obtain ⟨fd, F, b⟩ := T.dNum.fe
  obtain ⟨tN, cN⟩ := T.cN
  refine ⟨fd, F.ok scNum (fun vs H Q E h => ?_) (fun cdv A outer s H vs Q E hr h => ?_), b⟩
  · obtain ⟨z, rfl, _⟩ := h
    rfl
  · obtain ⟨z, rfl, hz, q1, q2⟩ := h
    have hl : z.length ≤ sizeLine := len_line (by omega)
    refine ⟨_, pss_cons (ps_if (PW.pt (pw_or (pt_not (pt_chain op_le op_le pe_int (pe_callB call_len_str (by rfl) T.zlen PySem.boot_len (pa_cons (pv 0) pa_nil)) (pe_glob (v := .int 7) (by rfl) cN ⟨_, rfl⟩)))
          (pw_or1 (PW.pt (pw_and (pt_cmpR op_eq (pe_ix ix_str (pv 0) pe_int (fun _ _ => rfl)) pe_str (nomark _)) (pw_and1 (pt_cmpR op_gt (pe_callB call_len_str (by rfl) T.zlen PySem.boot_len (pa_cons (pv 0) pa_nil)) pe_int (nomark _))))))))
        (pss_one (ps_ret pe_non)) pss_nil)
      (pss_cons (ps_for PassesOwn.never rfl (pi_str (pv 0)) (pg_name (i := 1) scNum.nd rfl (.inl rfl))
        (pss_one (ps_if (pt_not (pt_chain op_le_str op_le_str pe_str (pv 1) pe_str)) (pss_one (ps_ret pe_non)) pss_nil)))
      (pss_one (ps_ret (pe_callTy call_int_str (by rfl) T.zint (by decide +kernel) (pa_cons (pv 0) pa_nil))))), ?_⟩
    have ln := TL.len_tl z
    have hbad : ¬ (1 ≤ z.length ∧ z.length ≤ 7) → numOk (TL.tl z) = false := fun hn => by
      cases e : numOk (TL.tl z) with
      | false => rfl
      | true =>
        obtain ⟨h1, h2, _⟩ := num_len e
        exact absurd ⟨by omega, by omega⟩ hn
    refine ⟨_, rfl, z, rfl, hl, _, _, rfl, rfl, _, rfl, ?_⟩
    by_cases h1 : 1 ≤ z.length
    · refine if_yes (decide_eq_true (by omega)) ⟨_, _, rfl, rfl, _, rfl, ?_⟩
      by_cases h2 : z.length ≤ 7
      · refine if_no (by rw [decide_eq_true (show ((z.length : Int) ≤ 7) by omega)]; rfl) ?_
        have hg : (TL.tl z)[0]? = some (TL.tl z)[0] := List.getElem?_eq_getElem (by rw [← ln]; omega)
        have hh : (TL.tl z).head? = some (TL.tl z)[0] := by rw [List.head?_eq_getElem?]; exact hg
        refine ⟨_, rfl, z, 0, (TL.tl z)[0], rfl, rfl, hl, atI_nat (j := 0) hg, rfl, _, rfl, ?_⟩
        rw [show V.str (Str.ofString "0") = V.str ⟨#[48]⟩ from congrArg V.str zero_eq, one_eq]
        -- behind the test
        have go : ((TL.tl z).head? == some 48 && decide (1 < (TL.tl z).length)) = false →
            tSeq (tFor (iStr (tVar 0)) (gName 1) (tIfS (tNot (tTest (tChain (fun x y H Q => ∃ i j, x = .str i ∧ y = .str j ∧ Q (.bl (!decide (j.cps.toList < i.cps.toList))) H) (fun x y H Q => ∃ i j, x = .str i ∧ y = .str j ∧ Q (.bl (!decide (j.cps.toList < i.cps.toList))) H) (tC (.str "0")) (tVar 1) (tC (.str "9"))))) (tRet (tC .non)) tNext))
              (tRet (tCB (fun xs H Q => ∃ a n, xs = [.str a] ∧ PySem.intText? a = some n ∧ a.length ≤ 640 ∧ Q (.int n) H) (tCons (tVar 0) tNil))) { nx := fun _ H' => Q .non H', rt := Q } (start ["text", "sign"] [V.str z]) H := fun hd => by
          refine ⟨_, rfl, z, rfl, fun i m σ H' => ∃ y, σ = [some (.str z), y] ∧ H' = H ∧ i + m = z.length ∧ ∀ j, j < i → ∃ c, (TL.tl z)[j]? = some c ∧ isDig c = true,
            ⟨z.length, none, rfl, rfl, by omega, fun j hj => absurd hj (by omega)⟩, fun i m σ H' hW => ?_⟩
          obtain ⟨y, rfl, rfl, em, hs⟩ := hW
          by_cases hi : i < z.length
          · refine .inr ⟨hi, fun σ' H2 => ∃ y, σ' = [some (.str z), y] ∧ H2 = H' ∧ ∃ c, (TL.tl z)[i]? = some c ∧ isDig c = true, fun σ' H2 hN => ?_, fun x H2 hy => ?_⟩
            · obtain ⟨y, rfl, rfl, hc⟩ := hN
              refine ⟨m - 1, by omega, y, rfl, rfl, by omega, fun j hj => ?_⟩
              by_cases ej : j = i
              · rw [ej]
                exact hc
              · exact hs j (by omega)
            · obtain ⟨rfl, c, hc, rfl⟩ := hy
              rw [get_tl] at hc
              have bad : isDig c = false → numOk (TL.tl z) = false := fun hb => by
                cases e : numOk (TL.tl z) with
                | false => rfl
                | true =>
                  obtain ⟨_, _, _, h4⟩ := num_len e
                  have := List.all_eq_true.mp h4 c (List.mem_of_getElem? hc)
                  rw [hb] at this
                  cases this
              refine ⟨_, rfl, _, _, rfl, rfl, _, rfl, ?_⟩
              rw [show ((Str.ofString "0").cps.toList) = [48] from by decide +kernel]
              show if (!decide (([c] : List Nat) < [48])) = true then _ else _
              rw [lt_one]
              by_cases c1 : c < 48
              · refine if_no (by rw [decide_eq_true c1]; rfl) ⟨_, rfl, ?_⟩
                exact if_yes rfl (q2 (bad (by unfold isDig; rw [decide_eq_false (show ¬ 48 ≤ c by omega)]; rfl)))
              · refine if_yes (by rw [decide_eq_false c1]; rfl) ⟨_, _, rfl, rfl, _, rfl, ?_⟩
                rw [show ((Str.ofString "9").cps.toList) = [57] from by decide +kernel]
                show if (!(!decide (([57] : List Nat) < [c]))) = true then _ else _
                rw [lt_one]
                by_cases c2 : 57 < c
                · refine if_yes (by rw [decide_eq_true c2]; rfl) ?_
                  exact q2 (bad (by unfold isDig; rw [decide_eq_false (show ¬ c ≤ 57 by omega), Bool.and_false]))
                · refine if_no (by rw [decide_eq_false c2]; rfl) ?_
                  exact ⟨some (.str ⟨#[c]⟩), rfl, rfl, c, hc, by unfold isDig; rw [decide_eq_true (show 48 ≤ c by omega), decide_eq_true (show c ≤ 57 by omega)]; rfl⟩
          · refine .inl ⟨by show z.cps.size ≤ i; exact Nat.le_of_not_lt hi, ?_⟩
            have hall : (TL.tl z).all isDig = true := List.all_eq_true.mpr fun c hc => by
              obtain ⟨j, hj⟩ := List.mem_iff_getElem?.mp hc
              have jl : j < (TL.tl z).length := by
                rcases Nat.lt_or_ge j (TL.tl z).length with q | q
                · exact q
                · rw [List.getElem?_eq_none q] at hj
                  cases hj
              obtain ⟨c', h3, h4⟩ := hs j (by omega)
              rw [hj] at h3
              rw [Option.some.inj h3]
              exact h4
            have hok : numOk (TL.tl z) = true := by
              unfold numOk
              rw [decide_eq_true (show 1 ≤ (TL.tl z).length by omega), decide_eq_true (show (TL.tl z).length ≤ 7 by omega), hd, hall]
              rfl
            have hdg : NumText.AllDigits (TL.tl z) := fun c hc => by
              have := List.all_eq_true.mp hall c hc
              unfold isDig at this
              simp only [Bool.and_eq_true, decide_eq_true_eq] at this
              exact this
            have hne : TL.tl z ≠ [] := fun e => by
              rw [e] at ln
              rw [List.length_nil] at ln
              omega
            exact ⟨_, rfl, z, _, rfl, intText_digits hdg hne (by omega), by omega, q1 hok⟩
        by_cases c0 : (TL.tl z)[0] = 48
        · refine if_yes (by rw [c0]; rfl) ?_
          refine ⟨_, rfl, z, rfl, hl, _, _, rfl, rfl, _, rfl, ?_⟩
          by_cases h3 : 1 < z.length
          · refine if_yes (decide_eq_true (by omega)) ?_
            refine q2 ?_
            unfold numOk
            rw [hh, c0, decide_eq_true (show 1 < (TL.tl z).length by omega)]
            simp
          · refine if_no (decide_eq_false (by omega)) ?_
            exact go (by rw [decide_eq_false (show ¬ 1 < (TL.tl z).length by omega), Bool.and_false])
        · refine if_no (by simpa using c0) ?_
          exact go (by rw [hh]; simp [c0])
      · refine if_yes (by rw [decide_eq_false (show ¬ ((z.length : Int) ≤ 7) by omega)]; rfl) ?_
        exact q2 (hbad (by omega))
    · refine if_no (decide_eq_false (by omega)) ⟨_, rfl, ?_⟩
      exact if_yes rfl (q2 (hbad (by omega)))
end
end K24
/-! Paths, instants, results. -/
namespace K24
open PySem PySem.Spec PyProof.Rows L2
theorem split_len {z s : Str} {c : Nat} (h : TL.tl s = [c]) (hc : c < 256) : ∀ p ∈ Txt.split z s, p.length ≤ z.length := fun p hp => by
  have e := split_cuts (z := z) h hc
  have m : TL.tl p ∈ cuts c (TL.tl z) := by
    rw [← e]
    exact List.mem_map.mpr ⟨p, hp, rfl⟩
  have q := spl_len _ _ _ _ _ m
  rw [TL.len_tl, TL.len_tl]
  rw [List.length_nil] at q
  omega
theorem split_many {z s : Str} {c : Nat} (h : TL.tl s = [c]) (hc : c < 256) : (Txt.split z s).length = (cuts c (TL.tl z)).length ∧ (Txt.split z s).length ≤ z.length + 1 := by
  have e := congrArg List.length (split_cuts (z := z) h hc)
  rw [List.length_map] at e
  refine ⟨e, ?_⟩
  rw [e, TL.len_tl]
  exact spl_many _ _ _ _
theorem split_all {z s : Str} {c : Nat} (h : TL.tl s = [c]) (hc : c < 256) (f : List Nat → Bool) : (cuts c (TL.tl z)).all f = (Txt.split z s).all fun p => f (TL.tl p) := by
  rw [← split_cuts h hc, List.all_map]
  rfl
theorem inV_non (ps : List Str) : inV .non (ps.map numV) = !(ps.all fun p => numOk (TL.tl p)) := by
  unfold inV
  induction ps with
  | nil => rfl
  | cons p ps ih =>
    rw [List.map_cons, List.any_cons, List.all_cons, ih, numV_non, Bool.not_and]
theorem flat_nums (ps : List Str) : (ps.map numV).all flatV = true := by
  induction ps with
  | nil => rfl
  | cons p ps ih =>
    rw [List.map_cons, List.all_cons, ih, numV_flat]
    rfl
section
variable {P : Program} {w : World} {K : PySem.W.Frag} {mg : Str → Option Value} {base : Heap} {a : Adr}
theorem scPath : FnScope ["text", "numbers", "part"] ["text"] (defScope sPath) := ⟨rfl, rfl, rfl, by decide +kernel, rfl, by decide +kernel, by decide +kernel⟩
theorem ok_Path (T : TopOk K mg a) : DefOk P w K mg base CX0 2 a.fPath ["text"] spPath := by
  obtain ⟨fdN, GN, bN⟩ := ok_Num (P := P) (w := w) (base := base) T
  obtain ⟨fd, F, b⟩ := T.dPath.fe
  refine ⟨fd, F.ok scPath (fun vs H Q E h => ?_) (fun cdv A outer s H vs Q E hr h => ?_), b⟩
  · obtain ⟨z, rfl, _⟩ := h
    rfl
  · obtain ⟨z, rfl, hz, q1, q2⟩ := h
    refine ⟨_, pss_cons (ps_setLc (i := 1) (own := [("part", 2)]) (g := gName 2) (tt := tYes) (by rfl) scPath.nd rfl rfl (sw_true rfl rfl rfl (by decide +kernel)) (pi_list (pe_split (pv 0) pe_str))
          (blkOk_by (own := [("part", 2)]) (N := ["text", "numbers", "part"]) (sc := defScope sPath) (by decide +kernel)) (fun _ _ _ _ _ => pg_name (i := 2) scPath.nd rfl (Or.inl rfl)) (fun _ _ _ _ _ => pts_nil)
          (fun _ _ _ _ _ => pe_call GN hr (by rfl) T.dNum.mg T.dNum.kp bN .nil pass0 (pa_cons (pv 2) pa_nil)))
      (pss_one (ps_ret (pe_ifExp (pt_cmpR op_in_seq pe_non (pv 1) (by rfl)) pe_non (pe_callTy call_tuple_of (by rfl) T.ztuple (by decide +kernel) (pa_cons (pv 1) pa_nil))))), ?_⟩
    obtain ⟨em, hm⟩ := split_many (z := z) dot_tl (by decide)
    refine ⟨_, rfl, ⟨_, rfl⟩, z, _, rfl, rfl, rfl, Nat.le_trans (Nat.add_le_add_right hz 2) (len_line (by decide)), fun p np => ?_⟩
    have s1 : Same H (upd H p (.lst ((Txt.split z (Str.ofString ".")).map V.str))) := same_upd np
    refine ⟨p, rfl, ⟨_, .inl (.inl upd_same)⟩, fun D nD => ?_⟩
    refine lc_list (K := K) (a := p) (xs := (Txt.split z (Str.ofString ".")).map V.str)
      (fun i H' => H' D = some (.lst (((Txt.split z (Str.ofString ".")).take i).map numV)) ∧ Same (upd H p (.lst ((Txt.split z (Str.ofString ".")).map V.str))) H')
      ⟨upd_same, same_upd nD⟩ (fun i H' _ h => h.2.seq (.inl (.inl upd_same))) (fun i x H' hx h => ?_) (fun H' h => ?_)
    · obtain ⟨hD, hS⟩ := h
      rw [List.getElem?_map] at hx
      cases e : (Txt.split z (Str.ofString "."))[i]? with
      | none =>
        rw [e] at hx
        cases hx
      | some y =>
        rw [e] at hx
        obtain rfl : V.str y = x := Option.some.inj hx
        refine ⟨rfl, ?_⟩
        have hy := split_len dot_tl (by decide) y (List.mem_of_getElem? e)
        have fin : ∃ acc, H' D = some (.lst acc) ∧ acc.length < sizeLine ∧ (upd H' D (.lst (acc ++ [numV y]))) D = some (.lst (((Txt.split z (Str.ofString ".")).take (i + 1)).map numV)) ∧ Same (upd H p (.lst ((Txt.split z (Str.ofString ".")).map V.str))) (upd H' D (.lst (acc ++ [numV y]))) := by
          refine ⟨_, hD, ?_, ?_, fun b o hb => ?_⟩
          · rw [List.length_map, List.length_take]
            exact Nat.lt_of_le_of_lt (Nat.min_le_right _ _) (Nat.lt_of_le_of_lt hm (Nat.lt_of_lt_of_le (show z.length + 1 < 1000000 by omega) (len_line (Nat.le_refl _))))
          · rw [upd_same, take_more e, List.map_append]
            rfl
          · rw [upd_ne (ne_of_none hb nD)]
            exact hS b o hb
        refine ⟨_, rfl, y, rfl, Nat.le_trans hy hz, fun hn => ?_, fun hn => ?_⟩
        · unfold numV at fin
          rw [if_pos hn] at fin
          exact fin
        · unfold numV at fin
          rw [if_neg (by rw [hn]; exact Bool.false_ne_true)] at fin
          exact fin
    · obtain ⟨hD, hS⟩ := h
      rw [List.length_map, List.take_length] at hD
      -- return None if None in numbers else tuple(numbers)
      refine ⟨_, rfl, D, _, rfl, .inl (.inl (.inl hD)), rfl, flat_nums _, _, rfl, ?_⟩
      have ep : pathOk (TL.tl z) = (Txt.split z (Str.ofString ".")).all fun p => numOk (TL.tl p) := split_all dot_tl (by decide) numOk
      cases hp : pathOk (TL.tl z) with
      | true =>
        refine if_no (by show inV _ _ = false; rw [inV_non, ← ep, hp]; rfl) ?_
        refine ⟨_, rfl, D, _, rfl, .inl ⟨.inl (.inl hD), fun l nl => ?_⟩⟩
        refine q1 hp l _ _ ((s1.trans hS).trans (same_upd nl)) upd_same ?_
        rw [List.length_map]
        exact em
      | false =>
        refine if_yes (by show inV _ _ = true; rw [inV_non, ← ep, hp]; rfl) ?_
        exact q2 hp _ (s1.trans hS)
theorem scInst : FnScope ["text", "numbers"] ["text"] (defScope sInst) := ⟨rfl, rfl, rfl, by decide +kernel, rfl, by decide +kernel, by decide +kernel⟩
theorem ok_Inst (T : TopOk K mg a) : DefOk P w K mg base CX0 3 a.fInst ["text"] (spOpt instOk) := by
  obtain ⟨fdP, GP, bP⟩ := ok_Path (P := P) (w := w) (base := base) T
  obtain ⟨fd, F, b⟩ := T.dInst.fe
  refine ⟨fd, F.ok scInst (fun vs H Q E h => ?_) (fun cdv A outer s H vs Q E hr h => ?_), b⟩
  · obtain ⟨z, rfl, _⟩ := h
    rfl
  · obtain ⟨z, rfl, hz, q1, q2⟩ := h
    refine ⟨_, pss_cons (ps_set (i := 1) scInst.nd rfl (Or.inl rfl) (pe_call GP hr (by rfl) T.gPath T.dPath.kp bP .nil pass0 (pa_cons (pv 0) pa_nil)))
      (pss_one (ps_ret (pe_ifExp (PW.pt (pw_and (pt_cmpR op_notN (pv 1) pe_non (nomark _)) (pw_and1 (pt_cmpR op_eq (pe_callB call_len_seq (by rfl) T.zlen PySem.boot_len (pa_cons (pv 1) pa_nil)) pe_int (nomark _))))) (pv 1) pe_non))), ?_⟩
    refine ⟨_, rfl, z, rfl, hz, fun hp p H' xs sm hx hl => ?_, fun hp H' sm => ?_⟩
    · refine ⟨_, rfl, rfl, _, rfl, if_yes rfl ?_⟩
      refine ⟨_, rfl, p, xs, rfl, .inr (.inl (.inl hx)), rfl, _, rfl, ?_⟩
      by_cases c : (cuts 46 (TL.tl z)).length = 2
      · refine if_yes (decide_eq_true (congrArg V.int (by rw [hl, c]; rfl))) ⟨_, rfl, ?_⟩
        exact q1 (by unfold instOk; rw [hp, decide_eq_true c]; rfl) p H' sm
      · refine if_no (decide_eq_false fun e => c (by have := V.int.inj e; omega)) ?_
        exact q2 (by unfold instOk; rw [decide_eq_false c, Bool.and_false]) H' sm
    · refine ⟨_, rfl, rfl, _, rfl, if_no rfl (if_no rfl ?_)⟩
      exact q2 (by unfold instOk; rw [hp]; rfl) H' sm
/-- what one of the results is -/
def oneV (x : Str) : V := if TL.tl x = dlL then .str "deadline exceeded" else numV x
theorem scRes : FnScope ["text", "results", "part", "number"] ["text"] (defScope sRes) := ⟨rfl, rfl, rfl, by decide +kernel, rfl, by decide +kernel, by decide +kernel⟩
theorem ok_Res (T : TopOk K mg a) : DefOk P w K mg base CX0 2 a.fRes ["text"] (spOpt resOk) := by
  obtain ⟨fdN, GN, bN⟩ := ok_Num (P := P) (w := w) (base := base) T
  obtain ⟨fd, F, b⟩ := T.dRes.fe
  obtain ⟨tD, cD⟩ := T.cD
  obtain ⟨tE, cE⟩ := T.cE
  obtain ⟨tS, cS⟩ := T.cS
  refine ⟨fd, F.ok scRes (fun vs H Q E h => ?_) (fun cdv A outer s H vs Q E hr h => ?_), b⟩
  · obtain ⟨z, rfl, _⟩ := h
    rfl
  · obtain ⟨z, rfl, hz, q1, q2⟩ := h
    refine ⟨_, pss_cons (ps_if (pt_cmpR op_eq (pv 0) pe_str (nomark _)) (pss_one (ps_ret (pe_tup pa_nil))) pss_nil)
      (pss_cons (ps_set (i := 1) scRes.nd rfl (Or.inl rfl) (pe_lst pa_nil))
      (pss_cons (ps_for PassesOwn.never rfl (pi_list (pe_split (pv 0) pe_str)) (pg_name (i := 2) scRes.nd rfl (.inl rfl))
        (pss_cons (ps_set (i := 3) scRes.nd rfl (Or.inl rfl) (pe_ifExp (pt_cmpR op_eq (pv 2) pe_str (nomark _)) (pe_glob (v := .str "deadline exceeded") (by rfl) cD ⟨_, rfl⟩) (pe_call GN hr (by rfl) T.dNum.mg T.dNum.kp bN .nil pass0 (pa_cons (pv 2) pa_nil))))
        (pss_cons (ps_if (PW.pt (pw_or (pt_cmpR op_isN (pv 3) pe_non (nomark _)) (pw_or1 (PW.pt (pw_and (pt_cmpR op_ne (pv 3) (pe_glob (v := .str "deadline exceeded") (by rfl) cD ⟨_, rfl⟩) (nomark _))
              (pw_and1 (pt_cmpR op_gt (pv 3) (pe_glob (v := .int 999) (by rfl) cE ⟨_, rfl⟩) (nomark _))))))))
            (pss_one (ps_ret pe_non)) pss_nil)
        (pss_one (ps_expr (pe_bm PySem.F.plainAttrs_list PySem.F.slot_list_append PySem.F.type_list_append mt_append (pv 1) (pa_cons (pv 3) pa_nil)))))))
      (pss_one (ps_ret (pe_ifExp (pt_cmpR op_le (pe_callB call_len_seq (by rfl) T.zlen PySem.boot_len (pa_cons (pv 1) pa_nil)) (pe_glob (v := .int 60) (by rfl) cS ⟨_, rfl⟩) (nomark _))
        (pe_callTy call_tuple_of (by rfl) T.ztuple (by decide +kernel) (pa_cons (pv 1) pa_nil)) pe_non))))), ?_⟩
    obtain ⟨em, hm⟩ := split_many (z := z) comma_tl (by decide)
    refine ⟨_, rfl, rfl, _, rfl, ite2 (fun h0 => ?_) (fun h0 => ?_)⟩
    · have e0 : z = "-" := V.str.inj (of_decide_eq_true h0)
      refine ⟨Nat.zero_le _, fun p np => ?_⟩
      exact q1 (by unfold resOk; rw [e0, dash_tl]; rfl) p _ (same_upd np)
    · have n0 : (TL.tl z == [45]) = false := by
        cases e : (TL.tl z == [45]) with
        | false => rfl
        | true => exact absurd (decide_eq_true (congrArg V.str (TL.ext_tl ((beq_iff_eq.mp e).trans dash_tl.symm)))) h0
      have eo : resOk (TL.tl z) = ((Txt.split z (Str.ofString ",")).all (fun p => oneOk (TL.tl p)) && decide ((cuts 44 (TL.tl z)).length ≤ 60)) := by
        unfold resOk
        rw [n0, split_all (z := z) comma_tl (by decide) oneOk]
        rfl
      refine ⟨Nat.zero_le _, fun r nr => ?_⟩
      refine ⟨_, rfl, ⟨_, rfl⟩, z, _, rfl, rfl, rfl, Nat.le_trans (Nat.add_le_add_right hz 2) (len_line (by decide)), fun p np => ?_⟩
      have npr : p ≠ r := fun e => by
        rw [e, upd_same] at np
        cases np
      have nHp : H p = none := by
        rw [upd_ne npr] at np
        exact np
      refine ⟨p, rfl, ⟨_, .inl (.inl upd_same)⟩, ?_⟩
      refine for_list (K := K) (a := p) (xs := (Txt.split z (Str.ofString ",")).map V.str)
        (fun i σ H' => ∃ y2 y3 xs, σ = [some (.str z), some (.ref r), y2, y3] ∧ H' r = some (.lst xs) ∧ xs.length = i ∧ (∀ b o, H b = some o → H' b = some o) ∧ H' p = some (.lst ((Txt.split z (Str.ofString ",")).map V.str)) ∧
          ((Txt.split z (Str.ofString ",")).take i).all (fun p => oneOk (TL.tl p)) = true)
        ⟨none, none, [], rfl, (by rw [upd_ne npr.symm]; exact upd_same), rfl, fun b o hb => (by rw [upd_ne (ne_of_none hb nHp), upd_ne (ne_of_none hb nr)]; exact hb), upd_same, rfl⟩
        (fun i σ H' _ h => by obtain ⟨_, _, _, _, _, _, _, hp, _⟩ := h; exact .inl (.inl hp)) (fun i x σ H' hx h => ?_) (fun σ H' h => ?_)
      · obtain ⟨y2, y3, xs, rfl, hr1, hxl, hS, hp, hall⟩ := h
        have hxi := hx
        rw [List.getElem?_map] at hx
        cases e : (Txt.split z (Str.ofString ","))[i]? with
        | none =>
          rw [e] at hx
          cases hx
        | some y =>
          rw [e] at hx
          obtain rfl : V.str y = x := Option.some.inj hx
          have hy := split_len comma_tl (by decide) y (List.mem_of_getElem? e)
          have il : i < (Txt.split z (Str.ofString ",")).length := by
            rcases Nat.lt_or_ge i (Txt.split z (Str.ofString ",")).length with q | q
            · exact q
            · rw [List.getElem?_eq_none q] at e
              cases e
          have sml : i < sizeLine := Nat.lt_of_lt_of_le (show i < 1000000 by omega) (len_line (Nat.le_refl _))
          have bad : oneOk (TL.tl y) = false → resOk (TL.tl z) = false := fun hb => by
            rw [eo]
            cases ea : (Txt.split z (Str.ofString ",")).all (fun p => oneOk (TL.tl p)) with
            | false => rfl
            | true =>
              have := List.all_eq_true.mp ea y (List.mem_of_getElem? e)
              rw [hb] at this
              cases this
          -- the append
          have app : ∀ v : V, oneOk (TL.tl y) = true → ∃ y2 y3 xs', [some (.str z), some (.ref r), some (.str y), some v] = ([some (.str z), some (.ref r), y2, y3] : L2.St) ∧ (upd H' r (.lst (xs ++ [v]))) r = some (.lst xs') ∧ xs'.length = i + 1 ∧
              (∀ b o, H b = some o → (upd H' r (.lst (xs ++ [v]))) b = some o) ∧ (upd H' r (.lst (xs ++ [v]))) p = some (.lst ((Txt.split z (Str.ofString ",")).map V.str)) ∧ ((Txt.split z (Str.ofString ",")).take (i + 1)).all (fun p => oneOk (TL.tl p)) = true := fun v ho =>
            ⟨_, _, _, rfl, upd_same, by rw [List.length_append, hxl]; rfl, fun b o hb => (by rw [upd_ne (ne_of_none hb nr)]; exact hS b o hb), (by rw [upd_ne npr]; exact hp), by
              rw [take_more e, List.all_append, hall]
              show (oneOk (TL.tl y) && true) = true
              rw [ho]
              rfl⟩
          refine ⟨_, rfl, rfl, _, rfl, ?_⟩
          by_cases cd : TL.tl y = dlL
          · have ey : y = "deadline" := TL.ext_tl (cd.trans dl_tl.symm)
            refine if_yes (decide_eq_true (congrArg V.str ey)) ?_
            -- number = DEADLINE
            refine ⟨_, rfl, rfl, _, rfl, if_no rfl ?_⟩
            refine ⟨_, rfl, rfl, _, rfl, if_no (by rw [decide_eq_true rfl]; rfl) (if_no rfl ?_)⟩
            refine ⟨_, rfl, .inl ⟨rfl, _, .inl (.inl hr1)⟩, _, rfl, r, xs, _, rfl, rfl, hr1, by rw [hxl]; exact sml, ?_⟩
            exact app _ (by unfold oneOk; rw [cd]; rfl)
          · refine if_no (decide_eq_false fun q => cd (by rw [V.str.inj q]; exact dl_tl)) ?_
            have cd' : (TL.tl y == dlL) = false := by simpa using cd
            refine ⟨_, rfl, y, rfl, Nat.le_trans hy hz, fun hn => ?_, fun hn => ?_⟩
            · refine ⟨_, rfl, rfl, _, rfl, if_no rfl ?_⟩
              refine ⟨_, rfl, rfl, _, rfl, if_yes rfl ?_⟩
              refine ⟨_, rfl, _, _, rfl, rfl, _, rfl, ?_⟩
              by_cases c9 : numVal (TL.tl y) ≤ 999
              · refine if_no (decide_eq_false (by omega)) ?_
                refine ⟨_, rfl, .inl ⟨rfl, _, .inl (.inl hr1)⟩, _, rfl, r, xs, _, rfl, rfl, hr1, by rw [hxl]; exact sml, ?_⟩
                exact app _ (by unfold oneOk; rw [cd', hn, decide_eq_true c9]; rfl)
              · refine if_yes (decide_eq_true (by omega)) ?_
                exact q2 (bad (by unfold oneOk; rw [cd', decide_eq_false c9, Bool.and_false]; rfl)) _ hS
            · refine ⟨_, rfl, rfl, _, rfl, if_yes rfl (if_yes rfl ?_)⟩
              exact q2 (bad (by unfold oneOk; rw [cd', hn]; rfl)) _ hS
      · obtain ⟨y2, y3, xs, rfl, hr1, hxl, hS, hp, hall⟩ := h
        rw [List.length_map] at hxl hall
        rw [List.take_length] at hall
        refine ⟨_, rfl, r, xs, rfl, .inl (.inl (.inl hr1)), _, _, rfl, rfl, _, rfl, ?_⟩
        by_cases c6 : (cuts 44 (TL.tl z)).length ≤ 60
        · refine if_yes (decide_eq_true (by omega)) ?_
          refine ⟨_, rfl, r, xs, rfl, .inl ⟨.inl (.inl hr1), fun l nl => ?_⟩⟩
          exact q1 (by rw [eo, hall, decide_eq_true c6]; rfl) l _ (Same.trans hS (same_upd nl))
        · refine if_no (decide_eq_false (by omega)) ?_
          exact q2 (by rw [eo, decide_eq_false c6, Bool.and_false]) _ hS
end
end K24
/-! The reader's parts. -/
namespace K24
open PySem PySem.Spec PyProof.Rows L2
theorem item_ok {kd : Kind} {r : List Nat} (h : kd.ok (partL r) = true) (hc : r[(partL r).length]? = some kd.c) : item kd r = .ok ((partL r).length + 1) := by
  unfold item
  rw [if_pos h, if_pos hc]
theorem item_sg {kd : Kind} {r : List Nat} (h : kd.ok (partL r) = true) (hc : r[(partL r).length]? ≠ some kd.c) : item kd r = .error ((partL r).length, kd.sw) := by
  unfold item
  rw [if_pos h, if_neg hc]
theorem item_no {kd : Kind} {r : List Nat} (h : kd.ok (partL r) = false) : item kd r = .error (0, kd.w) := by
  unfold item
  rw [if_neg (by rw [h]; exact Bool.false_ne_true)]
theorem item_le {kd : Kind} {r : List Nat} {n : Nat} (h : item kd r = .ok n) : 1 ≤ n ∧ n ≤ r.length := by
  unfold item at h
  split at h
  · split at h
    · rename_i hc
      have e : (partL r).length + 1 = n := Except.ok.inj h
      have l : (partL r).length < r.length := by
        rcases Nat.lt_or_ge (partL r).length r.length with q | q
        · exact q
        · rw [List.getElem?_eq_none q] at hc
          cases hc
      omega
    · cases h
  · cases h
theorem sp_tl : TL.tl " " = [32] := by decide +kernel
theorem part_le {z y : Str} {k : Nat} (e : TL.tl y = partL ((TL.tl z).drop k)) (hk : k ≤ z.length) : k + y.length ≤ z.length := by
  have h := partL_len ((TL.tl z).drop k)
  rw [← e, List.length_drop, ← TL.len_tl, ← TL.len_tl] at h
  omega
theorem in_out (y : Str) : inV (.str y) [.str "completed", .str "failed", .str "cancelled"] = outOk (TL.tl y) := by
  have e : ∀ (s : Str) (l : List Nat), TL.tl s = l → eqV (.str s) (.str y) = (TL.tl y == l) := fun s l h => by
    show (s == y) = _
    by_cases c : s = y
    · subst c
      rw [h]
      simp
    · rw [beq_eq_false_iff_ne.mpr c]
      refine (beq_eq_false_iff_ne.mpr fun q => c (TL.ext_tl (h.trans q.symm))).symm
  show (eqV (.str "completed") (.str y) || (eqV (.str "failed") (.str y) || (eqV (.str "cancelled") (.str y) || false))) = _
  rw [e "completed" _ (by decide +kernel : TL.tl "completed" = [99, 111, 109, 112, 108, 101, 116, 101, 100]), e "failed" _ (by decide +kernel : TL.tl "failed" = [102, 97, 105, 108, 101, 100]), e "cancelled" _ (by decide +kernel : TL.tl "cancelled" = [99, 97, 110, 99, 101, 108, 108, 101, 100]), Bool.or_false, ← Bool.or_assoc]
  rfl
section
variable {P : Program} {w : World} {K : PySem.W.Frag} {mg : Str → Option Value} {base : Heap} {a : Adr}
theorem FltB.zero {C p : Addr} {H : Hp} {E : XK} {z : Str} {k : Nat} {w : Str} (f : FltB C p H E z (k + 0) w) : FltB C p H E z k w := f
theorem scRP : FnScope ["self", "text", "path"] ["self"] (defScope sRP) := ⟨rfl, rfl, rfl, by decide +kernel, rfl, by decide +kernel, by decide +kernel⟩
theorem ok_RP (T : TopOk K mg a) : DefOk P w K mg base (L2.CX P w) 5 a.fRP ["self"] (spItem a kPath) := by
  obtain ⟨fdA, GA, bA⟩ := ok_Part (P := P) (w := w) (base := base) T
  obtain ⟨fdP, GP, bP⟩ := ok_Path (P := P) (w := w) (base := base) T
  obtain ⟨fdR, GR, bR⟩ := ok_Ref (P := P) (w := w) (base := base) T
  obtain ⟨fdS, GS, bS⟩ := ok_Step (P := P) (w := w) (base := base) T
  obtain ⟨fdE, GE, bE⟩ := ok_Exp (P := P) (w := w) (base := base) T
  obtain ⟨fd, F, b⟩ := T.mRP.fe
  refine ⟨fd, F.okX scRP (fun vs H Q E h => ?_) (fun cdv A outer s H vs Q E hr h => ?_), b⟩
  · obtain ⟨p, rfl, _⟩ := h
    rfl
  · obtain ⟨p, rfl, z, k, ⟨dx, hp⟩, hz, hk, q1, q2⟩ := h
    have hr1 : Room 1 _ := hr.mono (by decide)
    have hr2 : Room 2 _ := hr.mono (by decide)
    have hr3 : Room 3 _ := hr.mono (by decide)
    refine ⟨_, pss_cons (ps_set (i := 1) scRP.nd rfl (Or.inl rfl) (pe_meth0 (pv 0) T.cR T.mPart.me GA hr1 bA .nil pass0))
      (pss_cons (ps_set (i := 2) scRP.nd rfl (Or.inl rfl) (pe_call GP hr2 (by rfl) T.gPath T.dPath.kp bP .nil pass0 (pa_cons (pv 1) pa_nil)))
      (pss_cons (ps_if (pt_cmpR op_isN (pv 2) pe_non (nomark _)) (pss_one (ps_expr (pe_meth (pv 0) T.cR T.mRef.me GR hr3 bR .nil (passes_call (takes_of rfl rfl rfl rfl) fun _ _ _ _ h => h) (pa_cons pe_str pa_nil)))) pss_nil)
      (pss_cons (ps_expr (pe_meth (pv 0) T.cR T.mStep.me GS hr1 bS .nil pass0 (pa_cons (pe_callB call_len_str (by rfl) T.zlen PySem.boot_len (pa_cons (pv 1) pa_nil)) pa_nil)))
      (pss_cons (ps_expr (pe_meth (pv 0) T.cR T.mExp.me GE hr bE .nil (passes_call (takes_of rfl rfl rfl rfl) fun _ _ _ _ h => h) (pa_cons pe_str (pa_cons pe_str pa_nil))))
      (pss_one (ps_ret (pv 2))))))), ?_⟩
    refine ⟨_, rfl, p, dx, _, rfl, hp, rd_none z k (by decide +kernel) (by decide +kernel), p, z, k, rfl, ⟨dx, hp⟩, hz, hk, fun y ey => ?_⟩
    have hy := part_le ey hk
    have eat : ((TL.tl z).drop k)[(partL ((TL.tl z).drop k)).length]? = (TL.tl z)[k + y.length]? := by rw [List.getElem?_drop, ← ey, TL.len_tl y]
    have el : (partL ((TL.tl z).drop k)).length = y.length := by rw [← ey, ← TL.len_tl]
    refine ⟨_, rfl, y, rfl, by omega, fun ho x H1 xs sm _ _ => ?_, fun ho H1 sm => ?_⟩
    · have ho' : kPath.ok (partL ((TL.tl z).drop k)) = true := by rw [← ey]; exact ho
      refine ⟨_, rfl, rfl, _, rfl, if_no rfl ?_⟩
      -- self.step(len(text))
      refine ⟨_, rfl, p, dx, _, rfl, sm _ _ hp, rd_none z k (by decide +kernel) (by decide +kernel), _, rfl, y, rfl, len_line (by omega), p, z, k, y.length, rfl, ⟨dx, sm _ _ hp⟩, fun H2 r2 b2 => ?_⟩
      obtain ⟨dx2, hp2⟩ := r2
      have B2 : But p H H2 := (Same.but sm).trans b2
      -- self.expect(..)
      refine ⟨_, rfl, p, dx2, _, rfl, hp2, rd_none z _ (by decide +kernel) (by decide +kernel), p, z, k + y.length, _, _, 32, rfl, sp_tl, ⟨dx2, hp2⟩, hz, hy, fun hc H3 r3 b3 => ?_, fun hc => ?_⟩
      · refine ⟨_, rfl, q1 _ (item_ok ho' (eat.trans hc)) _ _ ?_ (B2.trans b3)⟩
        rw [el]
        exact r3
      · have f := (q2 _ _ (item_sg ho' fun q => hc (eat.symm.trans q))).step B2
        rw [el] at f
        exact f
    · have ho' : kPath.ok (partL ((TL.tl z).drop k)) = false := by rw [← ey]; exact ho
      refine ⟨_, rfl, rfl, _, rfl, if_yes rfl ?_⟩
      exact ⟨_, rfl, p, dx, _, rfl, sm _ _ hp, rd_none z k (by decide +kernel) (by decide +kernel), p, z, k, _, rfl, ⟨dx, sm _ _ hp⟩, hz, (q2 _ _ (item_no ho')).step (Same.but sm)⟩
theorem scRN : FnScope ["self", "free", "text", "instant"] ["self", "free"] (defScope sRN) := ⟨rfl, rfl, rfl, by decide +kernel, rfl, by decide +kernel, by decide +kernel⟩
theorem ok_RN (T : TopOk K mg a) : DefOk P w K mg base (L2.CX P w) 5 a.fRN ["self", "free"] (spRN a) := by
  obtain ⟨fdA, GA, bA⟩ := ok_Part (P := P) (w := w) (base := base) T
  obtain ⟨fdP, GP, bP⟩ := ok_Inst (P := P) (w := w) (base := base) T
  obtain ⟨fdR, GR, bR⟩ := ok_Ref (P := P) (w := w) (base := base) T
  obtain ⟨fdS, GS, bS⟩ := ok_Step (P := P) (w := w) (base := base) T
  obtain ⟨fdE, GE, bE⟩ := ok_Exp (P := P) (w := w) (base := base) T
  obtain ⟨fd, F, b⟩ := T.mRN.fe
  refine ⟨fd, F.okX scRN (fun vs H Q E h => ?_) (fun cdv A outer s H vs Q E hr h => ?_), b⟩
  · obtain ⟨p, fr, rfl, _⟩ := h
    rfl
  · obtain ⟨p, fr, rfl, z, k, ⟨dx, hp⟩, hz, hk, q1, q2⟩ := h
    have hr1 : Room 1 _ := hr.mono (by decide)
    have hr3 : Room 3 _ := hr.mono (by decide)
    refine ⟨_, pss_cons (ps_set (i := 2) scRN.nd rfl (Or.inl rfl) (pe_meth0 (pv 0) T.cR T.mPart.me GA hr1 bA .nil pass0))
      (pss_cons (ps_set (i := 3) scRN.nd rfl (Or.inl rfl) (pe_call GP hr3 (by rfl) T.dInst.mg T.dInst.kp bP .nil pass0 (pa_cons (pv 2) pa_nil)))
      (pss_cons (ps_if (PW.pt (pw_and (pt_cmpR op_isN (pv 3) pe_non (nomark _)) (pw_and1 (pt_not (PW.pt (pw_and (pt_val (pv 1)) (pw_and1 (pt_cmpR op_eq (pv 2) pe_str (nomark _)))))))))
        (pss_one (ps_expr (pe_meth (pv 0) T.cR T.mRef.me GR hr3 bR .nil (passes_call (takes_of rfl rfl rfl rfl) fun _ _ _ _ h => h) (pa_cons pe_str pa_nil)))) pss_nil)
      (pss_cons (ps_expr (pe_meth (pv 0) T.cR T.mStep.me GS hr1 bS .nil pass0 (pa_cons (pe_callB call_len_str (by rfl) T.zlen PySem.boot_len (pa_cons (pv 2) pa_nil)) pa_nil)))
      (pss_cons (ps_expr (pe_meth (pv 0) T.cR T.mExp.me GE hr bE .nil (passes_call (takes_of rfl rfl rfl rfl) fun _ _ _ _ h => h) (pa_cons pe_str (pa_cons pe_str pa_nil))))
      (pss_one (ps_ret (pv 3))))))), ?_⟩
    refine ⟨_, rfl, p, dx, _, rfl, hp, rd_none z k (by decide +kernel) (by decide +kernel), p, z, k, rfl, ⟨dx, hp⟩, hz, hk, fun y ey => ?_⟩
    have hy := part_le ey hk
    have eat : ((TL.tl z).drop k)[(partL ((TL.tl z).drop k)).length]? = (TL.tl z)[k + y.length]? := by rw [List.getElem?_drop, ← ey, TL.len_tl y]
    have el : (partL ((TL.tl z).drop k)).length = y.length := by rw [← ey, ← TL.len_tl]
    have ec : (if fr = true then kStart else kInst).c = 32 := by cases fr <;> rfl
    have esw : (if fr = true then kStart else kInst).sw = "expected a space" := by cases fr <;> rfl
    have ew : (if fr = true then kStart else kInst).w = "expected an instant" := by cases fr <;> rfl
    -- what stands behind the test
    have tail : ∀ (x : V) (H1 : Hp), Same H H1 → (if fr = true then kStart else kInst).ok (partL ((TL.tl z).drop k)) = true →
        tSeq (tDrop (tMeth a.CR "step" (spStep a) [] E0 (tVar 0) (tCons (tCB (fun xs H Q => ∃ z, xs = [.str z] ∧ z.length ≤ sizeLine ∧ Q (.int z.length) H) (tCons (tVar 2) tNil)) tNil)))
          (tSeq (tDrop (tMeth a.CR "expect" (spExp a) [] E (tVar 0) (tCons (tC (.str " ")) (tCons (tC (.str "expected a space")) tNil)))) (tRet (tVar 3)))
          { nx := fun _ H' => Q .non H', rt := Q } [some (.ref p), some (.bl fr), some (.str y), some x] H1 := fun x H1 sm ho' => by
      refine ⟨_, rfl, p, dx, _, rfl, sm _ _ hp, rd_none z k (by decide +kernel) (by decide +kernel), _, rfl, y, rfl, len_line (by omega), p, z, k, y.length, rfl, ⟨dx, sm _ _ hp⟩, fun H2 r2 b2 => ?_⟩
      obtain ⟨dx2, hp2⟩ := r2
      have B2 : But p H H2 := (Same.but sm).trans b2
      refine ⟨_, rfl, p, dx2, _, rfl, hp2, rd_none z _ (by decide +kernel) (by decide +kernel), p, z, k + y.length, _, _, 32, rfl, sp_tl, ⟨dx2, hp2⟩, hz, hy, fun hc H3 r3 b3 => ?_, fun hc => ?_⟩
      · refine ⟨_, rfl, q1 _ (item_ok ho' (eat.trans (hc.trans (congrArg some ec.symm)))) _ _ ?_ (B2.trans b3)⟩
        rw [el]
        exact r3
      · have f := (q2 _ _ (item_sg ho' fun q => hc (eat.symm.trans (q.trans (congrArg some ec))))).step B2
        rw [el, esw] at f
        exact f
    refine ⟨_, rfl, y, rfl, by omega, fun ho x H1 sm => ?_, fun ho H1 sm => ?_⟩
    · refine ⟨_, rfl, rfl, _, rfl, if_no rfl (if_no rfl ?_)⟩
      refine tail (.ref x) H1 sm ?_
      rw [← ey]
      cases fr with
      | true => show (instOk (TL.tl y) || _) = true; rw [ho]; rfl
      | false => exact ho
    · refine ⟨_, rfl, rfl, _, rfl, if_yes rfl ?_⟩
      refine ⟨_, rfl, _, rfl, ?_⟩
      have dead : (if fr = true then kStart else kInst).ok (partL ((TL.tl z).drop k)) = false → FltB a.CT p H1 E z k "expected an instant" := fun hn => by
        have f := (q2 _ _ (item_no hn)).step (Same.but sm)
        rw [ew] at f
        exact f
      cases fr with
      | false =>
        refine if_no rfl (if_yes rfl ?_)
        exact ⟨_, rfl, p, dx, _, rfl, sm _ _ hp, rd_none z k (by decide +kernel) (by decide +kernel), p, z, k, _, rfl, ⟨dx, sm _ _ hp⟩, hz, dead (by rw [← ey]; exact ho)⟩
      | true =>
        refine if_yes rfl ?_
        refine ⟨_, rfl, rfl, _, rfl, ?_⟩
        by_cases c : y = "-"
        · refine if_no (by rw [decide_eq_true (congrArg V.str c)]; rfl) ?_
          refine tail .non H1 sm ?_
          rw [← ey, c, dash_tl]
          rfl
        · refine if_yes (by rw [decide_eq_false (fun q => c (V.str.inj q))]; rfl) ?_
          refine ⟨_, rfl, p, dx, _, rfl, sm _ _ hp, rd_none z k (by decide +kernel) (by decide +kernel), p, z, k, _, rfl, ⟨dx, sm _ _ hp⟩, hz, dead ?_⟩
          rw [← ey]
          show (instOk (TL.tl y) || (TL.tl y == [45])) = false
          rw [ho, beq_eq_false_iff_ne.mpr fun q => c (TL.ext_tl (q.trans dash_tl.symm))]
          rfl
theorem scRO : FnScope ["self", "text"] ["self"] (defScope sRO) := ⟨rfl, rfl, rfl, by decide +kernel, rfl, by decide +kernel, by decide +kernel⟩
theorem ok_RO (T : TopOk K mg a) : DefOk P w K mg base (L2.CX P w) 5 a.fRO ["self"] (spItem a kOut) := by
  obtain ⟨fdA, GA, bA⟩ := ok_Part (P := P) (w := w) (base := base) T
  obtain ⟨fdR, GR, bR⟩ := ok_Ref (P := P) (w := w) (base := base) T
  obtain ⟨fdS, GS, bS⟩ := ok_Step (P := P) (w := w) (base := base) T
  obtain ⟨fdE, GE, bE⟩ := ok_Exp (P := P) (w := w) (base := base) T
  obtain ⟨fd, F, b⟩ := T.mRO.fe
  refine ⟨fd, F.okX scRO (fun vs H Q E h => ?_) (fun cdv A outer s H vs Q E hr h => ?_), b⟩
  · obtain ⟨p, rfl, _⟩ := h
    rfl
  · obtain ⟨p, rfl, z, k, ⟨dx, hp⟩, hz, hk, q1, q2⟩ := h
    have hr1 : Room 1 _ := hr.mono (by decide)
    have hr3 : Room 3 _ := hr.mono (by decide)
    refine ⟨_, pss_cons (ps_set (i := 1) scRO.nd rfl (Or.inl rfl) (pe_meth0 (pv 0) T.cR T.mPart.me GA hr1 bA .nil pass0))
      (pss_cons (ps_if (pt_cmpR op_notIn_seq (pv 1) (pe_glob (v := .ref a.aOut) (by rfl) T.cO rfl) (by rfl)) (pss_one (ps_expr (pe_meth (pv 0) T.cR T.mRef.me GR hr3 bR .nil (passes_call (takes_of rfl rfl rfl rfl) fun _ _ _ _ h => h) (pa_cons pe_str pa_nil)))) pss_nil)
      (pss_cons (ps_expr (pe_meth (pv 0) T.cR T.mStep.me GS hr1 bS .nil pass0 (pa_cons (pe_callB call_len_str (by rfl) T.zlen PySem.boot_len (pa_cons (pv 1) pa_nil)) pa_nil)))
      (pss_cons (ps_expr (pe_meth (pv 0) T.cR T.mExp.me GE hr bE .nil (passes_call (takes_of rfl rfl rfl rfl) fun _ _ _ _ h => h) (pa_cons pe_str (pa_cons pe_str pa_nil))))
      (pss_one (ps_ret (pv 1)))))), ?_⟩
    refine ⟨_, rfl, p, dx, _, rfl, hp, rd_none z k (by decide +kernel) (by decide +kernel), p, z, k, rfl, ⟨dx, hp⟩, hz, hk, fun y ey => ?_⟩
    have hy := part_le ey hk
    have eat : ((TL.tl z).drop k)[(partL ((TL.tl z).drop k)).length]? = (TL.tl z)[k + y.length]? := by rw [List.getElem?_drop, ← ey, TL.len_tl y]
    have el : (partL ((TL.tl z).drop k)).length = y.length := by rw [← ey, ← TL.len_tl]
    refine ⟨_, rfl, a.aOut, _, rfl, .inr (T.tO H), rfl, rfl, _, rfl, ?_⟩
    cases ho : outOk (TL.tl y) with
    | true =>
      have ho' : kOut.ok (partL ((TL.tl z).drop k)) = true := by rw [← ey]; exact ho
      refine if_no (by show (!inV _ _) = false; rw [in_out, ho]; rfl) ?_
      refine ⟨_, rfl, p, dx, _, rfl, hp, rd_none z k (by decide +kernel) (by decide +kernel), _, rfl, y, rfl, len_line (by omega), p, z, k, y.length, rfl, ⟨dx, hp⟩, fun H2 r2 b2 => ?_⟩
      obtain ⟨dx2, hp2⟩ := r2
      refine ⟨_, rfl, p, dx2, _, rfl, hp2, rd_none z _ (by decide +kernel) (by decide +kernel), p, z, k + y.length, _, _, 32, rfl, sp_tl, ⟨dx2, hp2⟩, hz, hy, fun hc H3 r3 b3 => ?_, fun hc => ?_⟩
      · refine ⟨_, rfl, q1 _ (item_ok ho' (eat.trans hc)) _ _ ?_ (b2.trans b3)⟩
        rw [el]
        exact r3
      · have f := (q2 _ _ (item_sg ho' fun q => hc (eat.symm.trans q))).step b2
        rw [el] at f
        exact f
    | false =>
      have ho' : kOut.ok (partL ((TL.tl z).drop k)) = false := by rw [← ey]; exact ho
      refine if_yes (by show (!inV _ _) = true; rw [in_out, ho]; rfl) ?_
      exact ⟨_, rfl, p, dx, _, rfl, hp, rd_none z k (by decide +kernel) (by decide +kernel), p, z, k, _, rfl, ⟨dx, hp⟩, hz, q2 _ _ (item_no ho')⟩
theorem scRR : FnScope ["self", "text", "results"] ["self"] (defScope sRR) := ⟨rfl, rfl, rfl, by decide +kernel, rfl, by decide +kernel, by decide +kernel⟩
theorem ok_RR (T : TopOk K mg a) : DefOk P w K mg base (L2.CX P w) 5 a.fRR ["self"] (spItem a kRes) := by
  obtain ⟨fdA, GA, bA⟩ := ok_Part (P := P) (w := w) (base := base) T
  obtain ⟨fdP, GP, bP⟩ := ok_Res (P := P) (w := w) (base := base) T
  obtain ⟨fdR, GR, bR⟩ := ok_Ref (P := P) (w := w) (base := base) T
  obtain ⟨fdS, GS, bS⟩ := ok_Step (P := P) (w := w) (base := base) T
  obtain ⟨fdE, GE, bE⟩ := ok_Exp (P := P) (w := w) (base := base) T
  obtain ⟨fd, F, b⟩ := T.mRR.fe
  refine ⟨fd, F.okX scRR (fun vs H Q E h => ?_) (fun cdv A outer s H vs Q E hr h => ?_), b⟩
  · obtain ⟨p, rfl, _⟩ := h
    rfl
  · obtain ⟨p, rfl, z, k, ⟨dx, hp⟩, hz, hk, q1, q2⟩ := h
    have hr1 : Room 1 _ := hr.mono (by decide)
    have hr2 : Room 2 _ := hr.mono (by decide)
    have hr3 : Room 3 _ := hr.mono (by decide)
    refine ⟨_, pss_cons (ps_set (i := 1) scRR.nd rfl (Or.inl rfl) (pe_meth0 (pv 0) T.cR T.mPart.me GA hr1 bA .nil pass0))
      (pss_cons (ps_set (i := 2) scRR.nd rfl (Or.inl rfl) (pe_call GP hr2 (by rfl) T.dRes.mg T.dRes.kp bP .nil pass0 (pa_cons (pv 1) pa_nil)))
      (pss_cons (ps_if (pt_cmpR op_isN (pv 2) pe_non (nomark _)) (pss_one (ps_expr (pe_meth (pv 0) T.cR T.mRef.me GR hr3 bR .nil (passes_call (takes_of rfl rfl rfl rfl) fun _ _ _ _ h => h) (pa_cons pe_str pa_nil)))) pss_nil)
      (pss_cons (ps_expr (pe_meth (pv 0) T.cR T.mStep.me GS hr1 bS .nil pass0 (pa_cons (pe_callB call_len_str (by rfl) T.zlen PySem.boot_len (pa_cons (pv 1) pa_nil)) pa_nil)))
      (pss_cons (ps_expr (pe_meth (pv 0) T.cR T.mExp.me GE hr bE .nil (passes_call (takes_of rfl rfl rfl rfl) fun _ _ _ _ h => h) (pa_cons pe_str (pa_cons pe_str pa_nil))))
      (pss_one (ps_ret (pv 2))))))), ?_⟩
    refine ⟨_, rfl, p, dx, _, rfl, hp, rd_none z k (by decide +kernel) (by decide +kernel), p, z, k, rfl, ⟨dx, hp⟩, hz, hk, fun y ey => ?_⟩
    have hy := part_le ey hk
    have eat : ((TL.tl z).drop k)[(partL ((TL.tl z).drop k)).length]? = (TL.tl z)[k + y.length]? := by rw [List.getElem?_drop, ← ey, TL.len_tl y]
    have el : (partL ((TL.tl z).drop k)).length = y.length := by rw [← ey, ← TL.len_tl]
    refine ⟨_, rfl, y, rfl, by omega, fun ho x H1 sm => ?_, fun ho H1 sm => ?_⟩
    · have ho' : kRes.ok (partL ((TL.tl z).drop k)) = true := by rw [← ey]; exact ho
      refine ⟨_, rfl, rfl, _, rfl, if_no rfl ?_⟩
      refine ⟨_, rfl, p, dx, _, rfl, sm _ _ hp, rd_none z k (by decide +kernel) (by decide +kernel), _, rfl, y, rfl, len_line (by omega), p, z, k, y.length, rfl, ⟨dx, sm _ _ hp⟩, fun H2 r2 b2 => ?_⟩
      obtain ⟨dx2, hp2⟩ := r2
      have B2 : But p H H2 := (Same.but sm).trans b2
      refine ⟨_, rfl, p, dx2, _, rfl, hp2, rd_none z _ (by decide +kernel) (by decide +kernel), p, z, k + y.length, _, _, 10, rfl, tl_nl, ⟨dx2, hp2⟩, hz, hy, fun hc H3 r3 b3 => ?_, fun hc => ?_⟩
      · refine ⟨_, rfl, q1 _ (item_ok ho' (eat.trans hc)) _ _ ?_ (B2.trans b3)⟩
        rw [el]
        exact r3
      · have f := (q2 _ _ (item_sg ho' fun q => hc (eat.symm.trans q))).step B2
        rw [el] at f
        exact f
    · have ho' : kRes.ok (partL ((TL.tl z).drop k)) = false := by rw [← ey]; exact ho
      refine ⟨_, rfl, rfl, _, rfl, if_yes rfl ?_⟩
      exact ⟨_, rfl, p, dx, _, rfl, sm _ _ hp, rd_none z k (by decide +kernel) (by decide +kernel), p, z, k, _, rfl, ⟨dx, sm _ _ hp⟩, hz, (q2 _ _ (item_no ho')).step (Same.but sm)⟩
end
end K24
/-! read_trace. -/
namespace K24
open PySem PySem.Spec PyProof.Rows L2
theorem reads_nil {ans : Except Flt Nat} (h : K24.Reads [] ans) : ans = .ok 0 := by
  generalize e : ([] : List Nat) = r at h
  cases h with
  | nil => rfl
  | bad ne _ => exact absurd e.symm ne
  | more ne _ _ => exact absurd e.symm ne
theorem reads_err {r : List Nat} {ans : Except Flt Nat} {e : Flt} (h : K24.Reads r ans) (hi : items kinds r = .error e) (ne : r ≠ []) : ans = .error e := by
  cases h with
  | nil => exact absurd rfl ne
  | bad _ h2 =>
    rw [hi] at h2
    rw [Except.error.inj h2]
  | more _ h2 _ =>
    rw [hi] at h2
    cases h2
theorem reads_ok {r : List Nat} {ans : Except Flt Nat} {n : Nat} (h : K24.Reads r ans) (hi : items kinds r = .ok n) (ne : r ≠ []) : ∃ b, ans = sh n 1 b ∧ K24.Reads (r.drop n) b := by
  cases h with
  | nil => exact absurd rfl ne
  | bad _ h2 =>
    rw [hi] at h2
    cases h2
  | more _ h2 h3 =>
    rw [hi] at h2
    rw [← Except.ok.inj h2] at h3
    rw [Except.ok.inj h2]
    rw [Except.ok.inj h2] at h3
    exact ⟨_, rfl, h3⟩
/-- within a line, o signs behind its beginning r: what is left to read -/
theorem items_left {r : List Nat} {o n : Nat} {k : Kind} {ks : List Kind} (h : items kinds r = sh o o (items (k :: ks) (r.drop o))) (hi : item k (r.drop o) = .ok n) : items kinds r = sh (o + n) (o + n) (items ks (r.drop (o + n))) := by
  rw [h, items_cons_ok hi, sh_sh, List.drop_drop]
theorem items_fail {r : List Nat} {o m : Nat} {w : Str} {k : Kind} {ks : List Kind} (h : items kinds r = sh o o (items (k :: ks) (r.drop o))) (hi : item k (r.drop o) = .error (m, w)) : items kinds r = .error (o + m, w) := by
  rw [h, items_cons_err hi]
  rfl
section
variable {P : Program} {w : World} {K : PySem.W.Frag} {mg : Str → Option Value} {base : Heap} {a : Adr}
theorem scTr : FnScope ["text", "reader", "trace", "path", "start", "end", "outcome"] ["text"] (defScope sTr) := ⟨rfl, rfl, rfl, by decide +kernel, rfl, by decide +kernel, by decide +kernel⟩
theorem ok_Tr (T : TopOk K mg a) : DefOk P w K mg base (L2.CX P w) 6 a.fTr ["text"] (spTr a) := by
  obtain ⟨fdO, GO, bO⟩ := ok_OI (P := P) (w := w) (base := base) T
  obtain ⟨fdI, GI, bI⟩ := ok_RI (P := P) (w := w) (base := base) T
  obtain ⟨fdA, GA, bA⟩ := ok_At (P := P) (w := w) (base := base) T
  obtain ⟨fdP, GP, bP⟩ := ok_RP (P := P) (w := w) (base := base) T
  obtain ⟨fdN, GN, bN⟩ := ok_RN (P := P) (w := w) (base := base) T
  obtain ⟨fdU, GU, bU⟩ := ok_RO (P := P) (w := w) (base := base) T
  obtain ⟨fdR, GR, bR⟩ := ok_RR (P := P) (w := w) (base := base) T
  obtain ⟨fd, F, b⟩ := T.dTr.fe
  obtain ⟨tT, cT⟩ := T.cT
  refine ⟨fd, F.okX scTr (fun vs H Q E h => ?_) (fun cdv A outer s H vs Q E hr h => ?_), b⟩
  · obtain ⟨z, rfl, _⟩ := h
    rfl
  · obtain ⟨z, rfl, hzl, qO, qR⟩ := h
    have hr1 : Room 1 _ := hr.mono (by decide)
    have hr2 : Room 2 _ := hr.mono (by decide)
    refine ⟨_, pss_cons (ps_if (pt_cmpR op_gt (pe_callB call_len_str (by rfl) T.zlen PySem.boot_len (pa_cons (pv 0) pa_nil)) (pe_glob (v := .int 20000) (by rfl) cT ⟨_, rfl⟩) (nomark _))
        (pss_one (ps_raise rfl (takes_of rfl rfl rfl rfl) (pmk_oex T.eO.ox T.eO.ini T.eO.ty GO hr2 bO .nil pass0 (by rfl) T.eO.mg (pa_cons pe_str pa_nil)))) pss_nil)
      (pss_cons (ps_set (i := 1) scTr.nd rfl (Or.inl rfl) (pe_make T.mkR GI hr2 (by rfl) T.gR bI .nil pass0 (pa_cons (pv 0) pa_nil)))
      (pss_cons (ps_set (i := 2) scTr.nd rfl (Or.inl rfl) (pe_lst pa_nil))
      (pss_cons (ps_while (passes_of rfl) (pt_not (pt_val (pe_meth0 (pv 1) T.cR T.mAt.me GA hr1 bA .nil pass0)))
        (pss_cons (ps_set (i := 3) scTr.nd rfl (Or.inl rfl) (pe_meth0 (pv 1) T.cR T.mRP.me GP hr bP .nil (passes_call (takes_of rfl rfl rfl rfl) fun _ _ _ _ h => h)))
        (pss_cons (ps_set (i := 4) scTr.nd rfl (Or.inl rfl) (pe_meth (pv 1) T.cR T.mRN.me GN hr bN .nil (passes_call (takes_of rfl rfl rfl rfl) fun _ _ _ _ h => h) (pa_cons pe_bl pa_nil)))
        (pss_cons (ps_set (i := 5) scTr.nd rfl (Or.inl rfl) (pe_meth (pv 1) T.cR T.mRN.me GN hr bN .nil (passes_call (takes_of rfl rfl rfl rfl) fun _ _ _ _ h => h) (pa_cons pe_bl pa_nil)))
        (pss_cons (ps_set (i := 6) scTr.nd rfl (Or.inl rfl) (pe_meth0 (pv 1) T.cR T.mRO.me GU hr bU .nil (passes_call (takes_of rfl rfl rfl rfl) fun _ _ _ _ h => h)))
        (pss_one (ps_expr (pe_bm PySem.F.plainAttrs_list PySem.F.slot_list_append PySem.F.type_list_append mt_append (pv 2)
          (pa_cons (pe_tup (pa_cons (pv 3) (pa_cons (pv 4) (pa_cons (pv 5) (pa_cons (pv 6) (pa_cons (pe_meth0 (pv 1) T.cR T.mRR.me GR hr bR .nil (passes_call (takes_of rfl rfl rfl rfl) fun _ _ _ _ h => h)) pa_nil)))))) pa_nil)))))))))
      (pss_one (ps_ret (pe_callTy call_tuple_of (by rfl) T.ztuple (by decide +kernel) (pa_cons (pv 2) pa_nil))))))), ?_⟩
    have hl : z.length ≤ sizeLine := len_line hzl
    refine ⟨_, rfl, z, rfl, hl, _, _, rfl, rfl, _, rfl, ?_⟩
    by_cases big : 20000 < z.length
    · -- raise OutOfRange("text")
      refine if_yes (decide_eq_true (by omega)) ?_
      refine ⟨(by show 1 ≤ 1000; decide), fun e ne => ⟨e, _, rfl, upd_same, fun d H' nd nde he hd hb => ⟨rfl, d, _, he, hd, ?_, ?_⟩⟩⟩
      · rw [upd_ne nde] at nd
        exact nd
      · rw [upd_ne nde] at nd
        refine qO big d _ (fun b o hbo => ?_) upd_same
        have h1 : b ≠ e := ne_of_none hbo ne
        have h2 : b ≠ d := ne_of_none hbo nd
        rw [upd_ne h2, del_ne h1, hb b h1 h2, upd_ne h1]
        exact hbo
    · refine if_no (decide_eq_false (by omega)) ?_
      obtain ⟨ans, hRd, hOk, hEr⟩ := qR (by omega)
      have hz : z.length ≤ 20000 := by omega
      -- reader = Reader(text)
      refine ⟨_, rfl, fun p dp np ndp npd => ⟨p, dp, z, rfl, upd_same, fun H1 r1 b1 => ⟨rfl, ?_⟩⟩⟩
      have S1 : ∀ b o, H b = some o → H1 b = some o := fun b o hb => b1 b o (by rw [upd_ne (ne_of_none hb np), upd_ne (ne_of_none hb ndp)]; exact hb) (ne_of_none hb np)
      -- trace = []
      refine ⟨Nat.zero_le _, fun t nt => ?_⟩
      have ntp : t ≠ p := fun e => by
        obtain ⟨dx, hp⟩ := r1
        rw [e, hp] at nt
        cases nt
      have nHt : H t = none := by
        cases q : H t with
        | none => rfl
        | some o =>
          rw [S1 t o q] at nt
          cases nt
      have r2 : Rdr a.CR (upd H1 t (.lst [])) p z 0 := by
        obtain ⟨dx, hp⟩ := r1
        exact ⟨dx, by rw [upd_ne ntp.symm]; exact hp⟩
      have S2 : ∀ b o, H b = some o → (upd H1 t (.lst [])) b = some o := fun b o hb => by
        rw [upd_ne (ne_of_none hb nHt)]
        exact S1 b o hb
      refine ⟨fun m σ H' => ∃ (xs : List V) (k : Nat) (y3 y4 y5 y6 : Option V) (b : Except Flt Nat), σ = [some (.str z), some (.ref p), some (.ref t), y3, y4, y5, y6] ∧ Rdr a.CR H' p z k ∧ H' t = some (.lst xs) ∧ k ≤ z.length ∧ m = z.length - k ∧
          K24.Reads ((TL.tl z).drop k) b ∧ ans = sh k xs.length b ∧ (∀ b o, H b = some o → H' b = some o) ∧ xs.length ≤ k,
        ⟨_, [], 0, none, none, none, none, ans, rfl, r2, upd_same, Nat.zero_le _, rfl, hRd, (sh_zero _).symm, S2, Nat.le_refl _⟩, fun m σ H' hW => ?_⟩
      obtain ⟨xs, k, y3, y4, y5, y6, b, rfl, ⟨dx, hp⟩, ht, hk, rfl, hB, hA, hS, hx⟩ := hW
      have sml : xs.length < sizeLine := Nat.lt_of_lt_of_le (show xs.length < 1000000 by omega) (len_line (Nat.le_refl _))
      refine ⟨_, rfl, p, dx, _, rfl, hp, rd_none z k (by decide +kernel) (by decide +kernel), p, z, k, rfl, ⟨dx, hp⟩, hz, _, rfl, ?_⟩
      by_cases fin : k = z.length
      · -- return tuple(trace)
        refine if_no (by rw [decide_eq_true fin]; rfl) ?_
        have eb : b = .ok 0 := reads_nil (by
          rw [List.drop_eq_nil_of_le (by rw [← TL.len_tl]; omega)] at hB
          exact hB)
        refine ⟨_, rfl, t, xs, rfl, .inl ⟨.inl (.inl ht), fun l nl => ?_⟩⟩
        refine hOk xs.length (by rw [hA, eb]; rfl) l _ xs (fun b o hb => ?_) upd_same rfl
        rw [upd_ne (ne_of_none (hS b o hb) nl)]
        exact hS b o hb
      · refine if_yes (by rw [decide_eq_false fin]; rfl) ?_
        have ne : (TL.tl z).drop k ≠ [] := fun e => by
          have e2 := congrArg List.length e
          rw [List.length_drop, ← TL.len_tl, List.length_nil] at e2
          omega
        have lr : ((TL.tl z).drop k).length = z.length - k := by rw [List.length_drop, ← TL.len_tl]
        -- what an error of this line comes to
        have dead : ∀ (o m : Nat) (w : Str) (H2 : Hp), items kinds ((TL.tl z).drop k) = .error (o + m, w) → (∀ b o, H b = some o → H2 b = some o) → FltB a.CT p H2 E z (k + o + m) w := fun o m w H2 hi s2 d H3 b3 e3 => by
          have eb := reads_err hB hi ne
          refine hEr (k + (o + m)) w (by rw [hA, eb]; rfl) d H3 (fun b o hb => b3 b o (s2 b o hb) (ne_of_none hb np)) ?_
          rw [← Nat.add_assoc]
          exact e3
        have drp : ∀ o, (TL.tl z).drop (k + o) = ((TL.tl z).drop k).drop o := fun o => by rw [List.drop_drop]
        have L0 : items kinds ((TL.tl z).drop k) = sh 0 0 (items kinds (((TL.tl z).drop k).drop 0)) := by rw [sh_zero, List.drop_zero]
        refine ⟨fun σ' H2 => ∃ (n : Nat) (x : V) (y3 y4 y5 y6 : Option V), σ' = [some (.str z), some (.ref p), some (.ref t), y3, y4, y5, y6] ∧ 1 ≤ n ∧ k + n ≤ z.length ∧ items kinds ((TL.tl z).drop k) = .ok n ∧ Rdr a.CR H2 p z (k + n) ∧ H2 t = some (.lst (xs ++ [x])) ∧
            (∀ b o, H b = some o → H2 b = some o), fun σ' H2 hN => ?_, ?_⟩
        · obtain ⟨n, x, y3, y4, y5, y6, rfl, n1, n2, hi, r, ht2, hS2⟩ := hN
          obtain ⟨b', eb, hB'⟩ := reads_ok hB hi ne
          refine ⟨z.length - (k + n), by omega, xs ++ [x], k + n, y3, y4, y5, y6, b', rfl, r, ht2, n2, rfl, ?_, ?_, hS2, ?_⟩
          · rw [drp]
            exact hB'
          · rw [hA, eb, sh_sh, List.length_append]
            rfl
          · rw [List.length_append]
            show xs.length + 1 ≤ k + n
            omega
        · -- path = reader.read_path()
          refine ⟨_, rfl, p, dx, _, rfl, hp, rd_none z k (by decide +kernel) (by decide +kernel), p, rfl, z, k, ⟨dx, hp⟩, hz, hk, fun n1 i1 v1 H2 r2 b2 => ?_, fun m w i1 => dead 0 m w _ (items_fail L0 i1) hS⟩
          obtain ⟨g1, l1⟩ := item_le i1
          obtain ⟨dx2, hp2⟩ := r2
          have L1 := items_left L0 i1
          rw [Nat.zero_add] at L1
          have hS2 : ∀ b o, H b = some o → H2 b = some o := fun b o hb => b2 b o (hS b o hb) (ne_of_none hb np)
          have ht2 := b2 t _ ht ntp
          -- start = reader.read_instant(True)
          refine ⟨_, rfl, p, dx2, _, rfl, hp2, rd_none z _ (by decide +kernel) (by decide +kernel), p, true, rfl, z, k + n1, ⟨dx2, hp2⟩, hz, by omega, fun n2 i2 v2 H3 r3 b3 => ?_, fun m w i2 => ?_⟩
          rotate_left
          · rw [drp] at i2
            exact dead n1 m w _ (items_fail L1 i2) hS2
          rw [drp] at i2
          obtain ⟨g2, l2⟩ := item_le i2
          rw [List.length_drop] at l2
          obtain ⟨dx3, hp3⟩ := r3
          have L2' := items_left L1 i2
          have hS3 : ∀ b o, H b = some o → H3 b = some o := fun b o hb => b3 b o (hS2 b o hb) (ne_of_none hb np)
          have ht3 := b3 t _ ht2 ntp
          -- end = reader.read_instant(False)
          refine ⟨_, rfl, p, dx3, _, rfl, hp3, rd_none z _ (by decide +kernel) (by decide +kernel), p, false, rfl, z, k + n1 + n2, ⟨dx3, hp3⟩, hz, by omega, fun n3 i3 v3 H4 r4 b4 => ?_, fun m w i3 => ?_⟩
          rotate_left
          · rw [Nat.add_assoc k n1 n2, drp] at i3
            rw [Nat.add_assoc k n1 n2]
            exact dead (n1 + n2) m w _ (items_fail L2' i3) hS3
          rw [Nat.add_assoc k n1 n2, drp] at i3
          obtain ⟨g3, l3⟩ := item_le i3
          rw [List.length_drop] at l3
          obtain ⟨dx4, hp4⟩ := r4
          have L3 := items_left L2' i3
          have hS4 : ∀ b o, H b = some o → H4 b = some o := fun b o hb => b4 b o (hS3 b o hb) (ne_of_none hb np)
          have ht4 := b4 t _ ht3 ntp
          -- outcome = reader.read_outcome()
          refine ⟨_, rfl, p, dx4, _, rfl, hp4, rd_none z _ (by decide +kernel) (by decide +kernel), p, rfl, z, k + n1 + n2 + n3, ⟨dx4, hp4⟩, hz, by omega, fun n4 i4 v4 H5 r5 b5 => ?_, fun m w i4 => ?_⟩
          rotate_left
          · rw [show k + n1 + n2 + n3 = k + (n1 + n2 + n3) by omega, drp] at i4
            rw [show k + n1 + n2 + n3 = k + (n1 + n2 + n3) by omega]
            exact dead (n1 + n2 + n3) m w _ (items_fail L3 i4) hS4
          rw [show k + n1 + n2 + n3 = k + (n1 + n2 + n3) by omega, drp] at i4
          obtain ⟨g4, l4⟩ := item_le i4
          rw [List.length_drop] at l4
          obtain ⟨dx5, hp5⟩ := r5
          have L4 := items_left L3 i4
          have hS5 : ∀ b o, H b = some o → H5 b = some o := fun b o hb => b5 b o (hS4 b o hb) (ne_of_none hb np)
          have ht5 := b5 t _ ht4 ntp
          -- trace.append((.., reader.read_results()))
          refine ⟨_, rfl, .inl ⟨rfl, _, .inl (.inl ht5)⟩, v1, rfl, v2, rfl, v3, rfl, v4, rfl, _, rfl, p, dx5, _, rfl, hp5, rd_none z _ (by decide +kernel) (by decide +kernel), p, rfl, z, k + n1 + n2 + n3 + n4, ⟨dx5, hp5⟩, hz, by omega, fun n5 i5 v5 H6 r6 b6 => ?_, fun m w i5 => ?_⟩
          rotate_left
          · rw [show k + n1 + n2 + n3 + n4 = k + (n1 + n2 + n3 + n4) by omega, drp] at i5
            rw [show k + n1 + n2 + n3 + n4 = k + (n1 + n2 + n3 + n4) by omega]
            exact dead (n1 + n2 + n3 + n4) m w _ (items_fail L4 i5) hS5
          rw [show k + n1 + n2 + n3 + n4 = k + (n1 + n2 + n3 + n4) by omega, drp] at i5
          obtain ⟨g5, l5⟩ := item_le i5
          rw [List.length_drop] at l5
          obtain ⟨dx6, hp6⟩ := r6
          have L5 := items_left L4 i5
          have hS6 : ∀ b o, H b = some o → H6 b = some o := fun b o hb => b6 b o (hS5 b o hb) (ne_of_none hb np)
          have ht6 := b6 t _ ht5 ntp
          refine ⟨(by show 5 ≤ sizeLine; decide), fun q nq => ?_⟩
          have ntq : t ≠ q := ne_of_none ht6 nq
          have npq : p ≠ q := ne_of_none hp6 nq
          refine ⟨t, xs, _, rfl, rfl, (by rw [upd_ne ntq]; exact ht6), sml, ?_⟩
          refine ⟨n1 + n2 + n3 + n4 + n5, .ref q, some v1, some v2, some v3, some v4, rfl, by omega, by omega, L5, ⟨dx6, ?_⟩, upd_same, fun b o hb => ?_⟩
          · rw [upd_ne ntp.symm, upd_ne npq]
            refine hp6.trans ?_
            rw [show k + n1 + n2 + n3 + n4 + n5 = k + (n1 + n2 + n3 + n4 + n5) by omega]
          · rw [upd_ne (ne_of_none hb nHt), upd_ne (ne_of_none (hS6 b o hb) nq)]
            exact hS6 b o hb
end
end K24
/-! _law_told. -/
namespace K24
open PySem PySem.Spec PyProof.Rows L2
/-- isinstance(e, c), e the exception that the suite holds, with its own dict at d -/
def rIsD (K : PySem.W.Frag) (cls : Value) (d : Option Addr) (a : Addr) : List V → Hp → VK → Prop := fun xs H Q => ∃ (c : V) (cv : Value) (b : Bool) (D dd : Addr) (fs : List (Str × V)),
  xs = [.ref a, c] ∧ (∀ u, RelV c u → u = cv) ∧ cls = .ref D ∧ d = some dd ∧ ExcC K D ∧ H dd = some (.xd fs) ∧ PySem.W.kitOne K (.ref D) cv = some b ∧ Q (.bl b) H
theorem call_isD {X : Cx} {a : Addr} {oe : Obj} {cls : Value} {d : Option Addr} {pn : List (Addr × Obj)} (hz : Zc cls d oe) (hf : ∃ vs, oe.data = .fields vs) : CallR (X.suite a ((a, oe) :: pn)) (.builtin "isinstance") (rIsD X.K cls d a) := by
  intro pins s σ H xs us Q I r h
  obtain ⟨c, cv, b, D, dd, fs, rfl, hcv, rfl, rfl, C, ea, e, q⟩ := h
  cases r with
  | cons rx rr =>
    cases rr with
    | cons rt rr =>
      cases rr
      cases rx
      have ec := hcv _ rt
      subst ec
      obtain ⟨hget, _⟩ := I.pin (a, oe) (List.mem_append.mpr (.inl List.mem_cons_self))
      obtain ⟨vs, hv⟩ := hf
      have hx : ObjOk X.prog X.w H s.heap dd (.xd fs) := I.hok dd _ ea
      obtain ⟨mA, hns, _⟩ := hx
      obtain ⟨od, ho, _⟩ := lookIn_ns hns
      have J : PySem.W.InstAt s.heap a oe D (some od) := ⟨hget, hz.1, by unfold PySem.W.notCls; rw [hv] <;> rfl, by rw [hz.2]; exact ho⟩
      have hcl : (PySem.W.clsIn X.K D).isSome = true := by
        have h1 := C.hd
        unfold PySem.W.hasDictIn at h1
        cases e1 : PySem.W.clsIn X.K D with
        | none =>
          rw [e1] at h1
          exact absurd h1 (by simp)
        | some cd => rfl
      exact PySem.W.kia_one (PySem.W.kitx_exc hcl C.hg C.hk C.hs C.ha C.hn C.ht C.hm) I.kIn J e (fun z => nomatch z) fun tk => ⟨.bl b, H, I.kept (t' := tk) fun _ _ z => z, rfl, q⟩
theorem xfs_line (z : Str) (k : Nat) (w : Str) : (xfs z k w).lookup ("line" : Str) = some (.int (lineOf z k)) := by
  unfold xfs
  rw [L2.lookup_put, if_neg (by decide +kernel), L2.lookup_put, if_neg (by decide +kernel), L2.lookup_put, if_pos rfl]
theorem xfs_col (z : Str) (k : Nat) (w : Str) : (xfs z k w).lookup ("column" : Str) = some (.int (colOf z k)) := by
  unfold xfs
  rw [L2.lookup_put, if_neg (by decide +kernel), L2.lookup_put, if_pos rfl]
theorem xfs_words (z : Str) (k : Nat) (w : Str) : (xfs z k w).lookup ("words" : Str) = some (.str w) := by
  unfold xfs
  rw [L2.lookup_put, if_pos rfl]
section
variable {P : Program} {w : World} {K : PySem.W.Frag} {mg : Str → Option Value} {base : Heap} {a : Adr}
theorem scTold : FnScope ["_law_text", "e"] ["_law_text"] (defScope sTold) := ⟨rfl, rfl, rfl, by decide +kernel, rfl, by decide +kernel, by decide +kernel⟩
def tIs (K : PySem.W.Frag) (e : Addr) (cls : Value) (d : Option Addr) (C : Addr) : TE := tCB (rIsD K cls d e) (tCons (tVar 1) (tCons (tC (.ref C)) tNil))
def tSuite (K : PySem.W.Frag) (a : Adr) : Addr → Value → Option Addr → TS := fun e cls d =>
  tSeq (tIfS (tAnd (tB (tIs K e cls d a.CT)) (tNot (tB (tIs K e cls d a.CO)))) (tRet (tTup (tCons (tC (.str "refused")) (tCons (tXf e cls d a.CT "line" (tVar 1)) (tCons (tXf e cls d a.CT "column" (tVar 1)) (tCons (tXf e cls d a.CT "words" (tVar 1)) tNil)))))) tNext)
    (tSeq (tIfS (tB (tIs K e cls d a.CO)) (tRet (tTup (tCons (tC (.str "refused")) (tCons (tXf e cls d a.CO "name" (tVar 1)) tNil)))) tNext) (tRet (tC (.str "wrong"))))
def tTry (K : PySem.W.Frag) (a : Adr) (W : WX) : TS := tRet (tCB (fun xs H Q => ∃ p ys, xs = [.ref p] ∧ (SqL K H p ys ∨ SqT K H p ys) ∧ Q (.int ys.length) H) (tCons (tCallS (spTr a) (WE W) (tCons (tVar 0) tNil)) tNil))
theorem ok_Told (T : TopOk K mg a) : DefOk P w K mg base CX0 7 a.fTold ["_law_text"] spTold := by
  obtain ⟨fdT, GT, bT⟩ := ok_Tr (P := P) (w := w) (base := base) T
  obtain ⟨fd, F, b⟩ := T.dTold.fe
  refine ⟨fd, F.ok scTold (fun vs H Q E h => ?_) (fun cdv A outer s H vs Q E hr h => ?_), b⟩
  · obtain ⟨z, rfl, _⟩ := h
    rfl
  · obtain ⟨z, rfl, hzl, qO, qR⟩ := h
    refine ⟨_, pss_one (ps_try_as (i := 1) (tb := tTry K a) (ts := tSuite K a) (Wout := fun _ _ _ _ => False) rfl rfl scTold.nd rfl rfl ⟨rfl, by decide, Or.inl T.gE⟩ takes0
        (fun W pn xe tk _ => pss_one (ps_ret (by exact (pe_callB call_len_seq (by rfl) T.zlen PySem.boot_len (pa_cons (pe_callS GT hr (by rfl) T.dTr.mg T.dTr.kp bT (fun σ => passAt tk σ) (by exact (pa_cons (pv 0) pa_nil))) pa_nil)))))
        (fun e oe cls d pn hz hf => pss_cons (ps_if (PW.pt (pw_and (pt_val (by exact (pe_callB (call_isD hz hf) (by rfl) T.zisi (by decide +kernel) (pa_cons (pv 1) (pa_cons (pe_glob (v := .ref a.CT) (by rfl) T.eT.mg rfl) pa_nil)))))
              (pw_and1 (pt_not (pt_val (by exact (pe_callB (call_isD hz hf) (by rfl) T.zisi (by decide +kernel) (pa_cons (pv 1) (pa_cons (pe_glob (v := .ref a.CO) (by rfl) T.eO.mg rfl) pa_nil)))))))))
            (pss_one (ps_ret (pe_tup (pa_cons pe_str (pa_cons (pe_xf T.eT.xf T.nl hz hf (pv 1)) (pa_cons (pe_xf T.eT.xf T.nc hz hf (pv 1)) (pa_cons (pe_xf T.eT.xf T.nw hz hf (pv 1)) pa_nil))))))) pss_nil)
          (pss_cons (ps_if (pt_val (by exact (pe_callB (call_isD hz hf) (by rfl) T.zisi (by decide +kernel) (pa_cons (pv 1) (pa_cons (pe_glob (v := .ref a.CO) (by rfl) T.eO.mg rfl) pa_nil)))))
            (pss_one (ps_ret (pe_tup (pa_cons pe_str (pa_cons (pe_xf T.eO.xf T.nn hz hf (pv 1)) pa_nil))))) pss_nil)
          (pss_one (ps_ret pe_str))))), ?_⟩
    -- an error of the class OutOfRange
    have big : ∀ d H', Same H H' → H' d = some (.xd [("name", .str "text")]) → 20000 < z.length →
        wAs K (.ref a.CE) 1 (tSuite K a) (fun _ _ _ _ => False) { nx := fun _ H' => Q .non H', rt := Q } (.ref a.CO) (some d) (start ["_law_text", "e"] [V.str z]) H' := fun d H' sm ed hb =>
      ⟨true, T.hO, fun _ e ne => by
        refine ⟨_, rfl, .ref a.CT, .ref a.CT, false, a.CO, d, _, rfl, (fun u r => r), rfl, rfl, T.eO.ec, ed, T.kOT, _, rfl, if_no rfl (if_no rfl ?_)⟩
        refine ⟨_, rfl, .ref a.CO, .ref a.CO, true, a.CO, d, _, rfl, (fun u r => r), rfl, rfl, T.eO.ec, ed, T.kOO, _, rfl, if_yes rfl ?_⟩
        refine ⟨_, rfl, rfl, rfl, d, _, .str "text", rfl, ed, (by rw [L2.lookup_put, if_pos rfl]), (by show 2 ≤ sizeLine; decide), fun p np => ?_⟩
        exact qO hb p _ (Same.trans sm (same_upd np)) upd_same, fun q => nomatch q⟩
    refine ⟨_, rfl, z, rfl, hzl, fun hb d H' sm ed => big d H' sm ed hb, fun hs => ?_⟩
    obtain ⟨ans, hRd, hOk, hEr⟩ := qR hs
    refine ⟨ans, hRd, fun n en p H' xs sm ep el => ?_, fun m w em d H' sm ed => ?_⟩
    · refine ⟨p, xs, rfl, .inr (.inl (.inl ep)), ?_⟩
      rw [el]
      exact hOk n en H' sm
    · refine ⟨true, T.hT, fun _ e ne => ?_, fun q => nomatch q⟩
      refine ⟨_, rfl, .ref a.CT, .ref a.CT, true, a.CT, d, _, rfl, (fun u r => r), rfl, rfl, T.eT.ec, ed, T.kTT, _, rfl, if_yes rfl ?_⟩
      refine ⟨_, rfl, .ref a.CO, .ref a.CO, false, a.CT, d, _, rfl, (fun u r => r), rfl, rfl, T.eT.ec, ed, T.kTO, _, rfl, if_yes rfl ?_⟩
      refine ⟨_, rfl, rfl, rfl, d, _, _, rfl, ed, xfs_line z m w, _, rfl, rfl, rfl, d, _, _, rfl, ed, xfs_col z m w, _, rfl, rfl, rfl, d, _, _, rfl, ed, xfs_words z m w, (by show 4 ≤ sizeLine; decide), fun p np => ?_⟩
      exact hEr m w em p _ (Same.trans sm (same_upd np)) upd_same
end
end K24
/-! The law's draws. -/
namespace K24
open PySem PySem.Spec PyProof.Rows L2
/-- the box: the digits and the place -/
def Box (H : Hp) (b d : Addr) : Prop := ∃ (k : Nat) (ds : List Int), H b = some (.lst [.ref d, .int (k : Int)]) ∧ H d = some (.lst (ds.map V.int))
theorem box_ne {H : Hp} {b d : Addr} {k : Int} {ds : List Int} (h1 : H b = some (.lst [.ref d, .int k])) (h2 : H d = some (.lst (ds.map V.int))) : b ≠ d := ne_of h1 h2 (by
  intro z
  cases ds with
  | nil => cases z
  | cons x r => cases z)
theorem Box.same {H H' : Hp} {b d : Addr} (x : Box H b d) (s : Same H H') : Box H' b d := by
  obtain ⟨k, ds, h1, h2⟩ := x
  exact ⟨k, ds, s _ _ h1, s _ _ h2⟩
theorem Box.new {H : Hp} {b d p : Addr} {o : HO} (B : Box H b d) (n : H p = none) : Box (upd H p o) b d := B.same (same_upd n)
theorem Box.ne_new {H : Hp} {b d p : Addr} (B : Box H b d) (n : H p = none) : p ≠ b ∧ p ≠ d := by
  obtain ⟨k, ds, h1, h2⟩ := B
  exact ⟨(ne_of_none h1 n).symm, (ne_of_none h2 n).symm⟩
/-- an object of one's own is stored -/
theorem Box.put {H : Hp} {b d p : Addr} {o : HO} (B : Box H b d) (h1 : p ≠ b) (h2 : p ≠ d) : Box (upd H p o) b d := by
  obtain ⟨k, ds, g1, g2⟩ := B
  exact ⟨k, ds, by rw [upd_ne h1.symm]; exact g1, by rw [upd_ne h2.symm]; exact g2⟩
def spCell (K : PySem.W.Frag) : Sp := fun vs H Q _ => ∃ (s : Addr) (ns : List Int) (k : Nat), vs = [.ref s, .int (k : Int)] ∧ SqL K H s (ns.map V.int) ∧ ∀ i : Int, Q (.int i) H
def spDig (K : PySem.W.Frag) : Sp := fun vs H Q _ => ∃ (s : Addr) (ns : List Int), vs = [.ref s, .int 0, .int 63] ∧ SqL K H s (ns.map V.int) ∧
  ∀ p H' (ds : List Int), Same H H' → H' p = some (.lst (ds.map V.int)) → Q (.ref p) H'
def spDraw : Sp := fun vs H Q _ => ∃ (b d : Addr) (m : Nat), vs = [.ref b, .int (m : Int)] ∧ 0 < m ∧ Box H b d ∧ ∀ (j : Nat) H', j < m → Box H' b d → But b H H' → Q (.int (j : Int)) H'
section
variable {P : Program} {w : World} {K : PySem.W.Frag} {mg : Str → Option Value} {base : Heap} {a : Adr}
theorem scCell : FnScope ["_law_script", "_law_k"] ["_law_script", "_law_k"] (defScope sCell) := ⟨rfl, rfl, rfl, by decide +kernel, rfl, by decide +kernel, by decide +kernel⟩
theorem ok_Cell (T : TopOk K mg a) : DefOk P w K mg base CX0 1 a.fCell ["_law_script", "_law_k"] (spCell K) := by
  obtain ⟨fd, F, b⟩ := T.dCell.fe
  refine ⟨fd, F.ok scCell (fun vs H Q E h => ?_) (fun cdv A outer s H vs Q E hr h => ?_), b⟩
  · obtain ⟨s, ns, k, rfl, _⟩ := h
    rfl
  · obtain ⟨s, ns, k, rfl, hS, q⟩ := h
    refine ⟨_, pss_cons (ps_if (pt_cmpR op_lt (pv 1) (pe_callB call_len_seq (by rfl) T.zlen PySem.boot_len (pa_cons (pv 0) pa_nil)) (nomark _)) (pss_one (ps_ret (pe_ix ix_list (pv 0) (pv 1) (fun _ _ => rfl)))) pss_nil)
      (pss_one (ps_ret pe_int)), ?_⟩
    refine ⟨_, rfl, _, rfl, s, _, rfl, .inl hS, _, _, rfl, rfl, _, rfl, ite2 (fun h => ?_) (fun _ => q 0)⟩
    have hl : k < ns.length := by
      have h1 := of_decide_eq_true h
      rw [List.length_map] at h1
      omega
    refine ⟨_, rfl, _, rfl, s, _, _, _, rfl, rfl, hS, atI_nat (v := .int ns[k]) ?_, q _⟩
    rw [List.getElem?_map, List.getElem?_eq_getElem hl]
    rfl
theorem scDig : FnScope ["_law_script", "_law_first", "_law_last", "_law_digits_here", "_law_k", "_law_cell_here", "_law_turn", "_law_seed"] ["_law_script", "_law_first", "_law_last"] (defScope sDig) := ⟨rfl, rfl, rfl, by decide +kernel, rfl, by decide +kernel, by decide +kernel⟩
theorem ok_Dig (T : TopOk K mg a) : DefOk P w K mg base CX0 2 a.fDig ["_law_script", "_law_first", "_law_last"] (spDig K) := by
  obtain ⟨fdC, GC, bC⟩ := ok_Cell (P := P) (w := w) (base := base) T
  obtain ⟨fd, F, b⟩ := T.dDig.fe
  refine ⟨fd, F.ok scDig (fun vs H Q E h => ?_) (fun cdv A outer s H vs Q E hr h => ?_), b⟩
  · obtain ⟨s, ns, rfl, _⟩ := h
    rfl
  · obtain ⟨sa, ns, rfl, hS, q⟩ := h
    refine ⟨_, pss_cons (ps_set (i := 3) scDig.nd rfl (Or.inl rfl) (pe_lst pa_nil))
      (pss_cons (ps_for PassesOwn.never rfl (pi_range2 (by rfl) T.zrange (pa_cons (pv 1) (pa_cons (pv 2) pa_nil))) (pg_name (i := 4) scDig.nd rfl (.inl rfl))
        (pss_cons (ps_set (i := 5) scDig.nd rfl (Or.inl rfl) (pe_call GC hr (by rfl) T.dCell.mg T.dCell.kp bC .nil pass0 (pa_cons (pv 0) (pa_cons (pv 4) pa_nil))))
        (C8.pss_cut (ps_if (pt_cmpR op_lt (pv 5) pe_int (nomark _)) (pss_one (ps_set (i := 5) scDig.nd rfl (Or.inl rfl) (pe_op op_sub pe_int (pe_op op_mul pe_int (pv 5))))) pss_nil)
        (pss_one (ps_if (pt_cmpR op_ge (pv 5) pe_int (nomark _))
          (pss_one (ps_for PassesOwn.never rfl (pi_range1 (by rfl) T.zrange (pa_cons pe_int pa_nil)) (pg_name (i := 6) scDig.nd rfl (.inl rfl))
            (pss_one (ps_if (pt_cmpR op_gt (pv 5) pe_int (nomark _))
              (pss_cons (ps_expr (pe_bm PySem.F.plainAttrs_list PySem.F.slot_list_append PySem.F.type_list_append mt_append (pv 3) (pa_cons (pe_op op_mod (pe_callTy call_int1 (by rfl) T.zint (by decide +kernel) (pa_cons (pv 5) pa_nil)) pe_int) pa_nil)))
              (pss_one (ps_set (i := 5) scDig.nd rfl (Or.inl rfl) (pe_op op_fdivN (pv 5) pe_int)))) pss_nil))))
          (pss_cons (ps_set (i := 7) scDig.nd rfl (Or.inl rfl) (pe_op op_mod (pe_callTy call_int1 (by rfl) T.zint (by decide +kernel) (pa_cons (pe_op op_add (pe_op op_add (pe_op op_mul (pv 5) pe_int) (pe_op op_mul (pv 4) pe_int)) pe_int) pa_nil)) pe_int))
          (pss_one (ps_for PassesOwn.never rfl (pi_range1 (by rfl) T.zrange (pa_cons pe_int pa_nil)) (pg_name (i := 6) scDig.nd rfl (.inl rfl))
            (pss_cons (ps_set (i := 7) scDig.nd rfl (Or.inl rfl) (pe_op op_mod (pe_callTy call_int1 (by rfl) T.zint (by decide +kernel) (pa_cons (pe_op op_add (pe_op op_add (pe_op op_mul (pv 7) pe_int) (pe_op op_mul pe_int (pv 6))) pe_int) pa_nil)) pe_int))
            (pss_one (ps_expr (pe_bm PySem.F.plainAttrs_list PySem.F.slot_list_append PySem.F.type_list_append mt_append (pv 3)
              (pa_cons (pe_op op_mod (pe_callTy call_int1 (by rfl) T.zint (by decide +kernel) (pa_cons (pe_op op_fdivN (pv 7) pe_int) pa_nil)) pe_int) pa_nil)))))))))))))
      (pss_one (ps_ret (pv 3)))), ?_⟩
    refine ⟨Nat.zero_le _, fun p np => ?_⟩
    -- for k in range(first, last)
    refine ⟨_, rfl, _, rfl, 0, 63, rfl, ⟨by decide, by decide, by decide, by decide⟩, ?_⟩
    refine for_range (lo := 0) (n := 63) (fun i σ H' => ∃ (y4 y5 y6 y7 : Option V) (ds : List Int), σ = [some (.ref sa), some (.int 0), some (.int 63), some (.ref p), y4, y5, y6, y7] ∧ H' p = some (.lst (ds.map V.int)) ∧ ds.length ≤ 60 * i ∧ ∀ b o, H b = some o → H' b = some o)
      ⟨none, none, none, none, [], rfl, upd_same, Nat.zero_le _, fun b o hb => (by rw [upd_ne (ne_of_none hb np)]; exact hb)⟩ (fun i σ H' hi h => ?_) (fun σ H' h => ?_)
    · obtain ⟨y4, y5, y6, y7, ds, rfl, hp, hl, hs⟩ := h
      have app : ∀ (H1 : Hp) (es : List Int) (v : Int), H1 p = some (.lst (es.map V.int)) → (∀ b o, H b = some o → H1 b = some o) → (upd H1 p (.lst (es.map V.int ++ [.int v]))) p = some (.lst ((es ++ [v]).map V.int)) ∧ ∀ b o, H b = some o → (upd H1 p (.lst (es.map V.int ++ [.int v]))) b = some o := fun H1 es v h1 h2 =>
        ⟨by rw [upd_same, List.map_append]; rfl, fun b o hb => by rw [upd_ne (ne_of_none hb np)]; exact h2 b o hb⟩
      have sml : ∀ n : Nat, n ≤ 1000000 → n ≤ sizeLine := fun n h => len_line h
      refine ⟨_, rfl, _, rfl, sa, ns, i, by rw [show ((0 : Int) + (i : Int)) = (i : Int) by omega]; rfl, Same.seq hs hS, fun c => ?_⟩
      -- if cell < 0
      refine ⟨fun σ' H2 => ∃ c' : Int, σ' = [some (.ref sa), some (.int 0), some (.int 63), some (.ref p), some (.int (0 + (i : Int))), some (.int c'), y6, y7] ∧ H2 = H', ?_, fun σ' H2 hM => ?_⟩
      · refine ⟨_, rfl, _, _, rfl, rfl, _, rfl, ite2 (fun _ => ?_) (fun _ => ⟨c, rfl, rfl⟩)⟩
        exact ⟨_, rfl, _, _, rfl, rfl, .inl ⟨by decide, by decide⟩, _, _, rfl, rfl, _, rfl, rfl⟩
      · obtain ⟨c', rfl, rfl⟩ := hM
        refine ⟨_, rfl, _, _, rfl, rfl, _, rfl, ite2 (fun _ => ?_) (fun _ => ?_)⟩
        · -- for turn in range(60)
          refine ⟨60, rfl, by decide, by decide, ?_⟩
          refine for_range (lo := 0) (n := 60) (fun t σ H2 => ∃ (c : Int) (y6 : Option V) (es : List Int), σ = [some (.ref sa), some (.int 0), some (.int 63), some (.ref p), some (.int (0 + (i : Int))), some (.int c), y6, y7] ∧ H2 p = some (.lst (es.map V.int)) ∧ es.length ≤ 60 * i + t ∧ ∀ b o, H b = some o → H2 b = some o)
            ⟨c', y6, ds, rfl, hp, by omega, hs⟩ (fun t σ H2 ht h => ?_) (fun σ H2 h => ?_)
          · obtain ⟨c1, z6, es, rfl, h1, h2, h3⟩ := h
            refine ⟨_, rfl, _, _, rfl, rfl, _, rfl, ite2 (fun _ => ?_) (fun _ => ⟨c1, _, es, rfl, h1, by omega, h3⟩)⟩
            obtain ⟨g1, g2⟩ := app H2 es (c1 % 1000) h1 h3
            refine ⟨_, rfl, .inl ⟨rfl, _, .inl (.inl h1)⟩, _, rfl, .inl ⟨_, rfl, _, _, rfl, rfl, (by show (0 : Int) < 1000; decide), p, _, _, rfl, rfl, h1, ?_, ?_⟩⟩
            · rw [List.length_map]
              exact Nat.lt_of_lt_of_le (show es.length < 1000000 by omega) (sml _ (Nat.le_refl _))
            · exact ⟨_, rfl, _, _, rfl, rfl, ⟨by decide, by decide⟩, _, _, _, rfl, g1, by rw [List.length_append]; show es.length + 1 ≤ _; omega, g2⟩
          · obtain ⟨c1, z6, es, rfl, h1, h2, h3⟩ := h
            exact ⟨_, _, _, _, es, rfl, h1, by omega, h3⟩
        · -- the seed
          refine ⟨_, rfl, _, _, rfl, rfl, .inr ⟨by decide, by decide⟩, _, rfl, _, _, rfl, rfl, .inr ⟨by decide, by decide⟩, _, _, rfl, rfl, _, _, rfl, rfl, .inl ⟨_, rfl, _, _, rfl, rfl, (by show (0 : Int) < 2147483399; decide), ?_⟩⟩
          refine ⟨12, rfl, by decide, by decide, ?_⟩
          refine for_range (lo := 0) (n := 12) (fun t σ H2 => ∃ (c : Int) (y6 : Option V) (es : List Int), σ = [some (.ref sa), some (.int 0), some (.int 63), some (.ref p), some (.int (0 + (i : Int))), some (.int c'), y6, some (.int c)] ∧ H2 p = some (.lst (es.map V.int)) ∧ es.length ≤ 60 * i + t ∧ ∀ b o, H b = some o → H2 b = some o)
            ⟨_, y6, ds, rfl, hp, by omega, hs⟩ (fun t σ H2 ht h => ?_) (fun σ H2 h => ?_)
          · obtain ⟨c1, z6, es, rfl, h1, h2, h3⟩ := h
            refine ⟨_, rfl, _, _, rfl, rfl, .inr ⟨by decide, by decide⟩, _, rfl, _, _, rfl, rfl, .inl ⟨by decide, by decide⟩, _, _, rfl, rfl, _, _, rfl, rfl, .inl ⟨_, rfl, _, _, rfl, rfl, (by show (0 : Int) < 2147483563; decide), ?_⟩⟩
            refine ⟨_, rfl, .inl ⟨rfl, _, .inl (.inl h1)⟩, _, rfl, _, _, rfl, rfl, ⟨by decide, by decide⟩, .inl ⟨_, rfl, _, _, rfl, rfl, (by show (0 : Int) < 1000; decide), p, _, _, rfl, rfl, h1, ?_, ?_⟩⟩
            · rw [List.length_map]
              exact Nat.lt_of_lt_of_le (show es.length < 1000000 by omega) (sml _ (Nat.le_refl _))
            · obtain ⟨g1, g2⟩ := app H2 es _ h1 h3
              exact ⟨_, _, _, rfl, g1, by rw [List.length_append]; show es.length + 1 ≤ _; omega, g2⟩
          · obtain ⟨c1, z6, es, rfl, h1, h2, h3⟩ := h
            exact ⟨_, _, _, _, es, rfl, h1, by omega, h3⟩
    · obtain ⟨y4, y5, y6, y7, ds, rfl, hp, hl, hs⟩ := h
      exact ⟨_, rfl, q p H' ds hs hp⟩
theorem scDraw : FnScope ["_law_box", "_law_many", "_law_at"] ["_law_box", "_law_many"] (defScope sDraw) := ⟨rfl, rfl, rfl, by decide +kernel, rfl, by decide +kernel, by decide +kernel⟩
theorem mod_nat {i : Int} {m : Nat} (h : 0 < m) : ∃ j : Nat, j < m ∧ i % (m : Int) = (j : Int) := by
  have h1 : 0 ≤ i % (m : Int) := Int.emod_nonneg _ (by omega)
  have h2 : i % (m : Int) < (m : Int) := Int.emod_lt_of_pos _ (by omega)
  exact ⟨(i % (m : Int)).toNat, by omega, by omega⟩
theorem ok_Draw (T : TopOk K mg a) : DefOk P w K mg base CX0 1 a.fDraw ["_law_box", "_law_many"] spDraw := by
  obtain ⟨fd, F, b⟩ := T.dDraw.fe
  refine ⟨fd, F.ok scDraw (fun vs H Q E h => ?_) (fun cdv A outer s H vs Q E hr h => ?_), b⟩
  · obtain ⟨b, d, m, rfl, _⟩ := h
    rfl
  · obtain ⟨b, d, m, rfl, hm, ⟨k, ds, hb, hd⟩, q⟩ := h
    have nbd := box_ne hb hd
    refine ⟨_, pss_cons (ps_set (i := 2) scDraw.nd rfl (Or.inl rfl) (pe_ix ix_list (pv 0) pe_int (fun _ _ => rfl)))
      (pss_cons (ps_asg (pe_op op_add (pv 2) pe_int) (pg_sub (pv 0) pe_int set_list))
      (pss_cons (ps_if (pt_cmpR op_lt (pv 2) (pe_callB call_len_seq (by rfl) T.zlen PySem.boot_len (pa_cons (pe_ix ix_list (pv 0) pe_int (fun _ _ => rfl)) pa_nil)) (nomark _))
          (pss_one (ps_ret (pe_op op_mod (pe_callTy call_int1 (by rfl) T.zint (by decide +kernel) (pa_cons (pe_ix ix_list (pe_ix ix_list (pv 0) pe_int (fun _ _ => rfl)) (pv 2) (fun _ _ => rfl)) pa_nil)) (pv 1)))) pss_nil)
      (pss_one (ps_ret (pe_op op_mod (pe_callTy call_int1 (by rfl) T.zint (by decide +kernel) (pa_cons (pe_op op_add (pe_op op_mul (pv 2) pe_int) pe_int) pa_nil)) (pv 1)))))), ?_⟩
    refine ⟨_, rfl, b, _, 1, .int (k : Int), rfl, rfl, .inl (.inl hb), atI_nat (j := 1) rfl, ?_⟩
    refine ⟨_, rfl, _, _, rfl, rfl, _, rfl, b, _, 1, 1, rfl, rfl, hb, rfl, ?_⟩
    have hb' : (upd H b (.lst ([V.ref d, .int (k : Int)].set 1 (.int ((k : Int) + 1))))) b = some (.lst [.ref d, .int ((k + 1 : Nat) : Int)]) := upd_same
    have hd' : (upd H b (.lst ([V.ref d, .int (k : Int)].set 1 (.int ((k : Int) + 1))))) d = some (.lst (ds.map V.int)) := by
      rw [upd_ne nbd.symm]
      exact hd
    have fin : ∀ i : Int, Q (.int (i % (m : Int))) (upd H b (.lst ([V.ref d, .int (k : Int)].set 1 (.int ((k : Int) + 1))))) := fun i => by
      obtain ⟨j, hj, e⟩ := mod_nat (i := i) hm
      rw [e]
      exact q j _ hj ⟨k + 1, ds, hb', hd'⟩ (But.upd b H _)
    refine ⟨_, rfl, _, rfl, b, _, 0, .ref d, rfl, rfl, .inl (.inl hb'), atI_nat (j := 0) rfl, d, _, rfl, .inl (.inl (.inl hd')), _, _, rfl, rfl, _, rfl, ite2 (fun h => ?_) (fun _ => ?_)⟩
    · have hl : k < ds.length := by
        have h1 := of_decide_eq_true h
        rw [List.length_map] at h1
        omega
      refine ⟨_, rfl, b, _, 0, .ref d, rfl, rfl, .inl (.inl hb'), atI_nat (j := 0) rfl, _, rfl, d, _, _, .int ds[k], rfl, rfl, .inl (.inl hd'), atI_nat (j := k) ?_, .inl ⟨_, rfl, _, rfl, _, _, rfl, rfl, (by show (0 : Int) < (m : Int); omega), fin _⟩⟩
      rw [List.getElem?_map, List.getElem?_eq_getElem hl]
      rfl
    · exact ⟨_, rfl, _, _, rfl, rfl, .inr ⟨by decide, by decide⟩, _, _, rfl, rfl, .inl ⟨_, rfl, _, rfl, _, _, rfl, rfl, (by show (0 : Int) < (m : Int); omega), fin _⟩⟩
end
end K24
/-! What the law builds: good parts and wrong ones. -/
namespace K24
open PySem PySem.Spec PyProof.Rows L2
structure Ln where
  (p0 p1 p2 p3 p4 : Str)
def Ln.parts (l : Ln) : List Str := [l.p0, l.p1, l.p2, l.p3, l.p4]
structure OkLn (l : Ln) : Prop where
  good : Good (TL.tl l.p0) (TL.tl l.p1) (TL.tl l.p2) (TL.tl l.p3) (TL.tl l.p4)
  sz : ∀ p ∈ l.parts, p.length ≤ 40
theorem pick {l : List Str} {j : Nat} (h : j < l.length) : ∃ v, v ∈ l ∧ atI (l.map V.str) (j : Int) = some (.str v) :=
  ⟨l[j], List.getElem_mem h, atI_nat (by rw [List.getElem?_map, List.getElem?_eq_getElem h]; rfl)⟩
/-- a part that may stand there -/
def fine (kd : Kind) (v : Str) : Bool := kd.ok (TL.tl v) && (free (TL.tl v) && decide (v.length ≤ 40))
theorem fine_of {kd : Kind} {v : Str} (h : fine kd v = true) : kd.ok (TL.tl v) = true ∧ free (TL.tl v) = true ∧ v.length ≤ 40 := by
  unfold fine at h
  simp only [Bool.and_eq_true, decide_eq_true_eq] at h
  exact h
/-- one that may not -/
def wrong (kd : Kind) (v : Str) : Bool := !kd.ok (TL.tl v) && (free (TL.tl v) && decide (v.length ≤ 130))
theorem wrong_of {kd : Kind} {v : Str} (h : wrong kd v = true) : kd.ok (TL.tl v) = false ∧ free (TL.tl v) = true ∧ v.length ≤ 130 := by
  unfold wrong at h
  simp only [Bool.and_eq_true, decide_eq_true_eq, Bool.not_eq_true'] at h
  exact h
/-! ### numbers -/
def numS (n : Nat) : Str := Str.ofString (toString (n : Int))
theorem numS_tl (n : Nat) : TL.tl (numS n) = TL.numL n := TL.tl_num n
theorem num12 : ∀ n, n < 12 → (numOk (TL.numL n) && (free (TL.numL n) && (decide ((TL.numL n).length ≤ 2) && (TL.numL n).all fun c => c != 46))) = true := by decide +kernel
theorem start1000 : ∀ n, n < 1000 → (startOk (TL.numL n ++ [46, 50]) && (free (TL.numL n ++ [46, 50]) && decide ((TL.numL n ++ [46, 50]).length ≤ 40))) = true := by decide +kernel
theorem end1000 : ∀ n, n < 1000 → (instOk (TL.numL (1000 + n) ++ [46, 48]) && (free (TL.numL (1000 + n) ++ [46, 48]) && decide ((TL.numL (1000 + n) ++ [46, 48]).length ≤ 40))) = true := by decide +kernel
theorem log_small {n : Nat} (h : n < 2048) : ((n : Nat) : Int).natAbs.log2 < 1920 := Nat.lt_trans (PySem.Flt.log2_lt_of (k := 11) (by decide) (by show n < 2 ^ 11; exact h)) (by decide)
theorem joinL_free : ∀ {ls : List (List Nat)}, (∀ p ∈ ls, free p = true) → ∀ {S : List Nat}, free S = true → free (TL.joinL S ls) = true
  | [], _, _, _ => rfl
  | [p], h, _, _ => h p (List.mem_singleton.mpr rfl)
  | p :: q :: r, h, S, hS => by
    show (p ++ (S ++ TL.joinL S (q :: r))).all _ = true
    rw [List.all_append, List.all_append]
    have h1 : (p.all fun c => !isSep c) = true := h p (List.mem_cons_self ..)
    have h2 : (S.all fun c => !isSep c) = true := hS
    have h3 : ((TL.joinL S (q :: r)).all fun c => !isSep c) = true := joinL_free (fun x hx => h x (List.mem_cons_of_mem _ hx)) hS
    rw [h1, h2, h3]
    rfl
theorem joinL_len {S : List Nat} {c : Nat} : ∀ {ls : List (List Nat)}, (∀ p ∈ ls, p.length ≤ c) → (TL.joinL S ls).length ≤ (c + S.length) * ls.length
  | [], _ => Nat.zero_le _
  | [p], h => by
    have := h p (List.mem_singleton.mpr rfl)
    show p.length ≤ (c + S.length) * 1
    omega
  | p :: q :: r, h => by
    have h1 := h p (List.mem_cons_self ..)
    have h2 := joinL_len (S := S) (c := c) (ls := q :: r) fun x hx => h x (List.mem_cons_of_mem _ hx)
    show (p ++ (S ++ TL.joinL S (q :: r))).length ≤ (c + S.length) * ((q :: r).length + 1)
    rw [List.length_append, List.length_append, Nat.mul_add, Nat.mul_one]
    omega
theorem sum_len {c : Nat} : ∀ {ys : List Str}, (∀ y ∈ ys, y.length ≤ c) → (ys.map (·.length)).sum ≤ c * ys.length
  | [], _ => Nat.zero_le _
  | y :: ys, h => by
    have h1 := h y (List.mem_cons_self ..)
    have h2 := sum_len (c := c) (ys := ys) fun x hx => h x (List.mem_cons_of_mem _ hx)
    rw [List.map_cons, List.sum_cons, List.length_cons, Nat.mul_add, Nat.mul_one]
    omega
theorem path_fine {ns : List Nat} (h : ∀ n ∈ ns, n < 12) (h1 : ns ≠ []) (h5 : ns.length ≤ 5) : fine kPath (Txt.join "." (ns.map numS)) = true := by
  have e : TL.tl (Txt.join "." (ns.map numS)) = TL.joinL [46] (ns.map TL.numL) := by
    rw [TL.join_eq, TL.tl_join, dot_tl, List.map_map]
    congr 1
    exact List.map_congr_left fun n _ => numS_tl n
  have key : ∀ p ∈ ns.map TL.numL, numOk p = true ∧ free p = true ∧ p.length ≤ 2 ∧ (46 : Nat) ∉ p := fun p hp => by
    obtain ⟨n, hn, rfl⟩ := List.mem_map.mp hp
    have q := num12 n (h n hn)
    simp only [Bool.and_eq_true, decide_eq_true_eq, List.all_eq_true, bne_iff_ne] at q
    exact ⟨q.1, q.2.1, q.2.2.1, fun hm => q.2.2.2 46 hm rfl⟩
  have g1 : pathOk (TL.joinL [46] (ns.map TL.numL)) = true := by
    unfold pathOk cuts
    rw [TL.spl_join (by simpa using h1) fun p hp => (key p hp).2.2.2]
    exact List.all_eq_true.mpr fun p hp => (key p hp).1
  have g2 : free (TL.joinL [46] (ns.map TL.numL)) = true := joinL_free (fun p hp => (key p hp).2.1) rfl
  have g3 : (TL.joinL [46] (ns.map TL.numL)).length ≤ 15 := by
    have q := joinL_len (S := [46]) (c := 2) (ls := ns.map TL.numL) fun p hp => (key p hp).2.2.1
    rw [List.length_map] at q
    have l1 : ([46] : List Nat).length = 1 := rfl
    rw [l1] at q
    omega
  unfold fine
  rw [TL.len_tl, e, show kPath.ok = pathOk from rfl, g1, g2, decide_eq_true (show (TL.joinL [46] (ns.map TL.numL)).length ≤ 40 by omega)]
  rfl
theorem join_small {ns : List Nat} (h : ∀ n ∈ ns, n < 12) (h5 : ns.length ≤ 5) : ((ns.map numS).map (·.length)).sum + (ns.map numS).length * (Str.ofString ".").length ≤ 16777216 := by
  have q := sum_len (c := 2) (ys := ns.map numS) fun y hy => by
    obtain ⟨n, hn, rfl⟩ := List.mem_map.mp hy
    rw [TL.len_tl, numS_tl]
    have q := num12 n (h n hn)
    simp only [Bool.and_eq_true, decide_eq_true_eq] at q
    exact q.2.2.1
  rw [List.length_map] at q ⊢
  have l1 : (Str.ofString ".").length = 1 := by decide +kernel
  rw [l1]
  omega
theorem starts_fine {j : Nat} (hj : j < 1000) : ∀ v ∈ (["-", "0.0", numS j ++ ".2"] : List Str), fine kStart v = true := fun v hv => by
  rcases List.mem_cons.mp hv with rfl | hv
  · decide +kernel
  rcases List.mem_cons.mp hv with rfl | hv
  · decide +kernel
  rw [List.mem_singleton.mp hv]
  unfold fine
  rw [TL.len_tl, TL.tl_append, numS_tl, show TL.tl ".2" = [46, 50] from by decide +kernel]
  exact start1000 j hj
theorem ends_fine {j : Nat} (hj : j < 1000) : ∀ v ∈ ([numS (1000 + j) ++ ".0", "9999999.1"] : List Str), fine kInst v = true := fun v hv => by
  rcases List.mem_cons.mp hv with rfl | hv
  · unfold fine
    rw [TL.len_tl, TL.tl_append, numS_tl, show TL.tl ".0" = [46, 48] from by decide +kernel]
    exact end1000 j hj
  · rw [List.mem_singleton.mp hv]
    decide +kernel
theorem all_mem {kd : Kind} {f : Kind → Str → Bool} {l : List Str} (h : l.all (f kd) = true) : ∀ v ∈ l, f kd v = true := List.all_eq_true.mp h
theorem outs_fine : ∀ v ∈ (["completed", "failed", "cancelled"] : List Str), fine kOut v = true := all_mem (f := fine) (by decide +kernel)
theorem ress_fine : ∀ v ∈ (["-", "7", "0,999", "deadline", "deadline,5"] : List Str), fine kRes v = true := all_mem (f := fine) (by decide +kernel)
def numbersW : List Str := ["", "01", "1.", "x", ".1", "1..2", "12345678", "1,2"]
theorem wrong0 : ∀ v ∈ numbersW ++ (["-", "1.02"] : List Str), wrong kPath v = true := all_mem (f := wrong) (by decide +kernel)
theorem wrong1 : ∀ v ∈ numbersW ++ (["5", "1.2.3", "1.12345678"] : List Str), wrong kStart v = true := all_mem (f := wrong) (by decide +kernel)
theorem wrong2 : ∀ v ∈ (numbersW ++ (["5", "1.2.3", "1.12345678"] : List Str)) ++ (["-"] : List Str), wrong kInst v = true := all_mem (f := wrong) (by decide +kernel)
theorem wrong3 : ∀ v ∈ (["", "complete", "Failed", "-", "cancelled,", "7"] : List Str), wrong kOut v = true := all_mem (f := wrong) (by decide +kernel)
def ones : Str := Txt.join "," (List.replicate 61 "1")
theorem wrong4 : ∀ v ∈ (["", "1000", "01", "7,", ",7", "7,,8", "dead", "7;8", "deadline,-", ones] : List Str), wrong kRes v = true := all_mem (f := wrong) (by decide +kernel)
theorem ones_size : ((List.replicate 61 (Str.ofString "1")).map (·.length)).sum + (List.replicate 61 (Str.ofString "1")).length * (Str.ofString ",").length ≤ 16777216 := by decide +kernel
end K24
/-! _law_line, _law_wrong. -/
namespace K24
open PySem PySem.Spec PyProof.Rows L2
def wordsV : List V := [.str "expected a path", .str "expected an instant", .str "expected an instant", .str "expected an outcome", .str "expected results"]
/-- a line as the law holds it: at q a list of two lists -/
def RowAt (H : Hp) (q x y : Addr) (l : Ln) : Prop := H q = some (.lst [.ref x, .ref y]) ∧ H x = some (.lst (l.parts.map V.str)) ∧ H y = some (.lst wordsV)
theorem Box.ne {H : Hp} {b d q : Addr} {xs : List V} (B : Box H b d) (h : H q = some (.lst xs)) (hx : ∀ (d : Addr) (k : Int), xs ≠ [.ref d, .int k]) : q ≠ b := by
  obtain ⟨k, ds, h1, _⟩ := B
  exact ne_of h h1 (fun e => by
    injection e with e
    exact hx d k e)
theorem RowAt.but {H H' : Hp} {b d q x y : Addr} {l : Ln} (B : Box H b d) (r : RowAt H q x y l) (s : But b H H') : RowAt H' q x y l := by
  obtain ⟨h1, h2, h3⟩ := r
  refine ⟨s _ _ h1 (B.ne h1 fun d k e => ?_), s _ _ h2 (B.ne h2 fun d k e => ?_), s _ _ h3 (B.ne h3 fun d k e => ?_)⟩
  · injection e with _ e
    injection e with e _
    cases e
  · injection e with e _
    cases e
  · injection e with e _
    cases e
def spLine : Sp := fun vs H Q _ => ∃ b d : Addr, vs = [.ref b] ∧ Box H b d ∧ ∀ q x y H' l, OkLn l → RowAt H' q x y l → H q = none → H x = none → H y = none → Box H' b d → But b H H' → Q (.ref q) H'
def kd : Nat → Kind
  | 0 => kPath
  | 1 => kStart
  | 2 => kInst
  | 3 => kOut
  | _ => kRes
def spWrong : Sp := fun vs H Q _ => ∃ (b d : Addr) (k : Nat), vs = [.ref b, .int (k : Int)] ∧ k < 5 ∧ Box H b d ∧ ∀ v H', wrong (kd k) v = true → Box H' b d → But b H H' → Q (.str v) H'
section
variable {P : Program} {w : World} {K : PySem.W.Frag} {mg : Str → Option Value} {base : Heap} {a : Adr}
theorem scLine : FnScope ["_law_box", "_law_path", "_law_started", "_law_ended", "_law_outcome", "_law_results", "_law_words", "_law_k"] ["_law_box"] (defScope sLine) := ⟨rfl, rfl, rfl, by decide +kernel, rfl, by decide +kernel, by decide +kernel⟩
theorem ok_Line (T : TopOk K mg a) : DefOk P w K mg base CX0 2 a.fLine ["_law_box"] spLine := by
  obtain ⟨fdD, GD, bD⟩ := ok_Draw (P := P) (w := w) (base := base) T
  obtain ⟨fd, F, bb⟩ := T.dLine.fe
  refine ⟨fd, F.ok scLine (fun vs H Q E h => ?_) (fun cdv A outer s H vs Q E hr h => ?_), bb⟩
  · obtain ⟨b, d, rfl, _⟩ := h
    rfl
  · obtain ⟨b, d, rfl, B, q⟩ := h
    refine ⟨_, pss_cons (ps_set (i := 1) scLine.nd rfl (Or.inl rfl) (pe_join pe_str (pe_lc (own := [("_law_k", 7)]) (g := gName 7) (tt := tYes) (by rfl) scLine.nd
          (pi_range1 (by rfl) T.zrange (pa_cons (pe_op op_add pe_int (pe_op op_mul pe_int (pe_call GD hr (by rfl) T.dDraw.mg T.dDraw.kp bD .nil pass0 (pa_cons (pv 0) (pa_cons pe_int pa_nil))))) pa_nil))
          (blkOk_by (own := [("_law_k", 7)]) (N := ["_law_box", "_law_path", "_law_started", "_law_ended", "_law_outcome", "_law_results", "_law_words", "_law_k"]) (sc := defScope sLine) (by decide +kernel))
          (fun _ _ _ _ _ => pg_name (i := 7) scLine.nd rfl (Or.inl rfl)) (fun _ _ _ _ _ => pts_nil)
          (fun _ _ _ _ _ => pe_callTy call_str_int (by rfl) T.zstr (by decide +kernel) (pa_cons (pe_call GD hr (by rfl) T.dDraw.mg T.dDraw.kp bD .nil pass0 (pa_cons (pv 0) (pa_cons pe_int pa_nil))) pa_nil)))))
      (pss_cons (ps_set (i := 2) scLine.nd rfl (Or.inl rfl) (pe_ix ix_list (pe_lst (pa_cons pe_str (pa_cons pe_str (pa_cons (pe_op op_add_str (pe_callTy call_str_int (by rfl) T.zstr (by decide +kernel) (pa_cons (pe_call GD hr (by rfl) T.dDraw.mg T.dDraw.kp bD .nil pass0 (pa_cons (pv 0) (pa_cons pe_int pa_nil))) pa_nil)) pe_str) pa_nil))))
          (pe_call GD hr (by rfl) T.dDraw.mg T.dDraw.kp bD .nil pass0 (pa_cons (pv 0) (pa_cons pe_int pa_nil))) (fun _ _ => rfl)))
      (pss_cons (ps_set (i := 3) scLine.nd rfl (Or.inl rfl) (pe_ix ix_list (pe_lst (pa_cons (pe_op op_add_str (pe_callTy call_str_int (by rfl) T.zstr (by decide +kernel) (pa_cons (pe_op op_add pe_int (pe_call GD hr (by rfl) T.dDraw.mg T.dDraw.kp bD .nil pass0 (pa_cons (pv 0) (pa_cons pe_int pa_nil)))) pa_nil)) pe_str) (pa_cons pe_str pa_nil)))
          (pe_call GD hr (by rfl) T.dDraw.mg T.dDraw.kp bD .nil pass0 (pa_cons (pv 0) (pa_cons pe_int pa_nil))) (fun _ _ => rfl)))
      (pss_cons (ps_set (i := 4) scLine.nd rfl (Or.inl rfl) (pe_ix ix_list (pe_lst (pa_cons pe_str (pa_cons pe_str (pa_cons pe_str pa_nil))))
          (pe_call GD hr (by rfl) T.dDraw.mg T.dDraw.kp bD .nil pass0 (pa_cons (pv 0) (pa_cons pe_int pa_nil))) (fun _ _ => rfl)))
      (pss_cons (ps_set (i := 5) scLine.nd rfl (Or.inl rfl) (pe_ix ix_list (pe_lst (pa_cons pe_str (pa_cons pe_str (pa_cons pe_str (pa_cons pe_str (pa_cons pe_str pa_nil))))))
          (pe_call GD hr (by rfl) T.dDraw.mg T.dDraw.kp bD .nil pass0 (pa_cons (pv 0) (pa_cons pe_int pa_nil))) (fun _ _ => rfl)))
      (pss_cons (ps_set (i := 6) scLine.nd rfl (Or.inl rfl) (pe_lst (pa_cons pe_str (pa_cons pe_str (pa_cons pe_str (pa_cons pe_str (pa_cons pe_str pa_nil)))))))
      (pss_one (ps_ret (pe_lst (pa_cons (pe_lst (pa_cons (pv 1) (pa_cons (pv 2) (pa_cons (pv 3) (pa_cons (pv 4) (pa_cons (pv 5) pa_nil)))))) (pa_cons (pv 6) pa_nil)))))))))), ?_⟩
    -- the path
    refine ⟨⟨_, rfl⟩, _, rfl, b, d, 3, rfl, by decide, B, fun j H1 hj B1 b1 => ?_⟩
    refine ⟨_, _, rfl, rfl, .inl ⟨by decide, by decide⟩, _, _, rfl, rfl, _, rfl, (by omega), (by omega), fun D nD => ?_⟩
    obtain ⟨nDb, nDd⟩ := B1.ne_new nD
    refine lc_range (lo := 0) (n := (1 + 2 * (j : Int)).toNat) (fun i H' => ∃ ns : List Nat, H' D = some (.lst ((ns.map numS).map V.str)) ∧ ns.length = i ∧ (∀ n ∈ ns, n < 12) ∧ Box H' b d ∧ But b H H')
      ⟨[], upd_same, rfl, fun n hn => absurd hn List.not_mem_nil, B1.new nD, b1.trans (Same.but (same_upd nD))⟩ (fun i H' hi h => ?_) (fun H' h => ?_)
    · obtain ⟨ns, hD, hl, hns, B2, b2⟩ := h
      refine ⟨rfl, ?_⟩
      refine ⟨_, rfl, b, d, 12, rfl, by decide, B2, fun n H3 hn B3 b3 => ?_⟩
      have hD3 := b3 D _ hD nDb
      refine ⟨_, rfl, log_small (by omega), _, hD3, ?_, ns ++ [n], ?_, ?_, ?_, B3.put nDb nDd, ?_⟩
      · rw [List.length_map, List.length_map]
        exact Nat.lt_of_lt_of_le (show ns.length < 1000000 by omega) (len_line (Nat.le_refl _))
      · rw [upd_same, List.map_append, List.map_append]
        rfl
      · rw [List.length_append, hl]
        rfl
      · intro x hx
        rcases List.mem_append.mp hx with hx | hx
        · exact hns x hx
        · rw [List.mem_singleton.mp hx]
          exact hn
      · exact fun c o h n => by
          rw [upd_ne (ne_of_none (b1 c o h n) nD)]
          exact b3 c o (b2 c o h n) n
    · obtain ⟨ns, hD, hl, hns, B2, b2⟩ := h
      have l5 : ns.length ≤ 5 := by omega
      have l1 : ns ≠ [] := fun e => by
        rw [e, List.length_nil] at hl
        omega
      refine ⟨_, D, _, rfl, rfl, .inl (.inl (.inl hD)), join_small hns l5, ?_⟩
      have f0 := path_fine hns l1 l5
      -- the start
      refine ⟨_, rfl, b, d, 1000, rfl, by decide, B2, fun js H3 hjs B3 b3 => ?_⟩
      refine ⟨_, rfl, log_small (by omega), _, _, rfl, rfl, ?_, (by show 3 ≤ sizeLine; decide), fun q1 n1 => ?_⟩
      · have := (fine_of (starts_fine hjs (numS js ++ ".2") (by simp))).2.2
        have e : (numS js ++ Str.ofString ".2").length = (numS js).length + (Str.ofString ".2").length := by rw [TL.len_tl, TL.len_tl (numS js), TL.len_tl (Str.ofString ".2"), TL.tl_append, List.length_append]
        show (numS js).length + (Str.ofString ".2").length ≤ sizeLine
        rw [← e]
        exact Nat.le_trans this (len_line (by decide))
      obtain ⟨m1, _⟩ := B3.ne_new n1
      refine ⟨_, rfl, b, d, 3, rfl, by decide, B3.new n1, fun j1 H4 hj1 B4 b4 => ?_⟩
      obtain ⟨p1, mem1, e1⟩ := pick (l := ["-", "0.0", numS js ++ ".2"]) (j := j1) (by show j1 < 3; exact hj1)
      refine ⟨q1, _, _, _, rfl, rfl, .inl (.inl (b4 q1 _ upd_same m1)), e1, ?_⟩
      have f1 := starts_fine hjs p1 mem1
      have k4 : But b H H4 := ((b2.trans b3).trans (Same.but (same_upd n1))).trans b4
      -- the end
      refine ⟨_, rfl, b, d, 1000, rfl, by decide, B4, fun je H5 hje B5 b5 => ?_⟩
      refine ⟨_, _, rfl, rfl, _, rfl, ?_, _, _, rfl, rfl, ?_, (by show 2 ≤ sizeLine; decide), fun q2 n2 => ?_⟩
      · exact log_small (n := 1000 + je) (by omega)
      · have := (fine_of (ends_fine hje (numS (1000 + je) ++ ".0") (by simp))).2.2
        have e : (numS (1000 + je) ++ Str.ofString ".0").length = (numS (1000 + je)).length + (Str.ofString ".0").length := by rw [TL.len_tl, TL.len_tl (numS (1000 + je)), TL.len_tl (Str.ofString ".0"), TL.tl_append, List.length_append]
        show (numS (1000 + je)).length + (Str.ofString ".0").length ≤ sizeLine
        rw [← e]
        exact Nat.le_trans this (len_line (by decide))
      obtain ⟨m2, _⟩ := B5.ne_new n2
      refine ⟨_, rfl, b, d, 2, rfl, by decide, B5.new n2, fun j2 H6 hj2 B6 b6 => ?_⟩
      obtain ⟨p2, mem2, e2⟩ := pick (l := [numS (1000 + je) ++ ".0", "9999999.1"]) (j := j2) (by show j2 < 2; exact hj2)
      refine ⟨q2, _, _, _, rfl, rfl, .inl (.inl (b6 q2 _ upd_same m2)), e2, ?_⟩
      have f2 := ends_fine hje p2 mem2
      have k6 : But b H H6 := ((k4.trans b5).trans (Same.but (same_upd n2))).trans b6
      -- the outcome
      refine ⟨(by show 3 ≤ sizeLine; decide), fun q3 n3 => ?_⟩
      obtain ⟨m3, _⟩ := B6.ne_new n3
      refine ⟨_, rfl, b, d, 3, rfl, by decide, B6.new n3, fun j3 H7 hj3 B7 b7 => ?_⟩
      obtain ⟨p3, mem3, e3⟩ := pick (l := ["completed", "failed", "cancelled"]) (j := j3) (by show j3 < 3; exact hj3)
      refine ⟨q3, _, _, _, rfl, rfl, .inl (.inl (b7 q3 _ upd_same m3)), e3, ?_⟩
      have f3 := outs_fine p3 mem3
      have k7 : But b H H7 := (k6.trans (Same.but (same_upd n3))).trans b7
      -- the results
      refine ⟨(by show 5 ≤ sizeLine; decide), fun q4 n4 => ?_⟩
      obtain ⟨m4, _⟩ := B7.ne_new n4
      refine ⟨_, rfl, b, d, 5, rfl, by decide, B7.new n4, fun j4 H8 hj4 B8 b8 => ?_⟩
      obtain ⟨p4, mem4, e4⟩ := pick (l := ["-", "7", "0,999", "deadline", "deadline,5"]) (j := j4) (by show j4 < 5; exact hj4)
      refine ⟨q4, _, _, _, rfl, rfl, .inl (.inl (b8 q4 _ upd_same m4)), e4, ?_⟩
      have f4 := ress_fine p4 mem4
      have k8 : But b H H8 := (k7.trans (Same.but (same_upd n4))).trans b8
      -- the words, and out
      refine ⟨(by show 5 ≤ sizeLine; decide), fun qw nw => ?_⟩
      refine ⟨_, rfl, _, rfl, _, rfl, _, rfl, _, rfl, (by show 5 ≤ sizeLine; decide), fun qp np => ?_⟩
      have B9 := B8.new (o := .lst wordsV) nw
      have npw : qw ≠ qp := fun e => by
        rw [e] at np
        rw [upd_same] at np
        cases np
      refine ⟨_, rfl, (by show 2 ≤ sizeLine; decide), fun qq nq => ?_⟩
      obtain ⟨g0, s0, z0⟩ := fine_of f0
      obtain ⟨g1, s1, z1⟩ := fine_of f1
      obtain ⟨g2, s2, z2⟩ := fine_of f2
      obtain ⟨g3, s3, z3⟩ := fine_of f3
      obtain ⟨g4, s4, z4⟩ := fine_of f4
      obtain ⟨mq, _⟩ := (B9.new (o := .lst [.str (Txt.join "." (ns.map numS)), .str p1, .str p2, .str p3, .str p4]) np).ne_new nq
      obtain ⟨mp, _⟩ := B9.ne_new np
      obtain ⟨mw, _⟩ := B8.ne_new nw
      have b9 := k8.trans (Same.but (same_upd (o := .lst wordsV) nw))
      have b10 := b9.trans (Same.but (same_upd (o := .lst [.str (Txt.join "." (ns.map numS)), .str p1, .str p2, .str p3, .str p4]) np))
      have fr : ∀ {H1 : Hp} {c : Addr}, But b H H1 → c ≠ b → H1 c = none → H c = none := fun {H1 c} s m n => by
        cases e : H c with
        | none => rfl
        | some o =>
          rw [s c o e m] at n
          cases n
      refine q qq qp qw _ ⟨Txt.join "." (ns.map numS), p1, p2, p3, p4⟩ ⟨⟨s0, s1, s2, s3, s4, g0, g1, g2, g3, g4⟩, fun p hp => ?_⟩ ⟨upd_same, ?_, ?_⟩ (fr b10 mq nq) (fr b9 mp np) (fr k8 mw nw) ((B9.new np).new nq)
        (((k8.trans (Same.but (same_upd nw))).trans (Same.but (same_upd np))).trans (Same.but (same_upd nq)))
      · have hp' : p ∈ [Txt.join "." (ns.map numS), p1, p2, p3, p4] := hp
        simp only [List.mem_cons, List.not_mem_nil, or_false] at hp'
        rcases hp' with rfl | rfl | rfl | rfl | rfl <;> assumption
      · rw [upd_ne (ne_of_none upd_same nq)]
        exact upd_same
      · have h1 : (upd (upd H8 qw (.lst wordsV)) qp (.lst [.str (Txt.join "." (ns.map numS)), .str p1, .str p2, .str p3, .str p4])) qw = some (.lst wordsV) := by
          rw [upd_ne npw]
          exact upd_same
        rw [upd_ne (ne_of_none h1 nq)]
        exact h1
theorem scWrong : FnScope ["_law_box", "_law_k", "_law_numbers", "_law_instants", "_law_results"] ["_law_box", "_law_k"] (defScope sWrong) := ⟨rfl, rfl, rfl, by decide +kernel, rfl, by decide +kernel, by decide +kernel⟩
theorem ok_Wrong (T : TopOk K mg a) : DefOk P w K mg base CX0 2 a.fWrong ["_law_box", "_law_k"] spWrong := by
  obtain ⟨fdD, GD, bD⟩ := ok_Draw (P := P) (w := w) (base := base) T
  obtain ⟨fd, F, bb⟩ := T.dWrong.fe
  refine ⟨fd, F.ok scWrong (fun vs H Q E h => ?_) (fun cdv A outer s H vs Q E hr h => ?_), bb⟩
  · obtain ⟨b, d, k, rfl, _⟩ := h
    rfl
  · obtain ⟨b, d, k, rfl, hk, B, q⟩ := h
    refine ⟨_, pss_cons (ps_set (i := 2) scWrong.nd rfl (Or.inl rfl) (pe_lst (pa_cons pe_str (pa_cons pe_str (pa_cons pe_str (pa_cons pe_str (pa_cons pe_str (pa_cons pe_str (pa_cons pe_str (pa_cons pe_str pa_nil))))))))))
      (pss_cons (ps_if (pt_cmpR op_eq (pv 1) pe_int (nomark _)) (pss_one (ps_ret (pe_ix ix_list (pe_op op_cat (pv 2) (pe_lst (pa_cons pe_str (pa_cons pe_str pa_nil))))
          (pe_call GD hr (by rfl) T.dDraw.mg T.dDraw.kp bD .nil pass0 (pa_cons (pv 0) (pa_cons pe_int pa_nil))) (fun _ _ => rfl)))) pss_nil)
      (pss_cons (ps_if (pt_cmpR op_le (pv 1) pe_int (nomark _))
          (pss_cons (ps_set (i := 3) scWrong.nd rfl (Or.inl rfl) (pe_op op_cat (pv 2) (pe_lst (pa_cons pe_str (pa_cons pe_str (pa_cons pe_str pa_nil))))))
          (C8.pss_cut (ps_if (pt_cmpR op_eq (pv 1) pe_int (nomark _)) (pss_one (ps_expr (pe_bm PySem.F.plainAttrs_list PySem.F.slot_list_append PySem.F.type_list_append mt_append (pv 3) (pa_cons pe_str pa_nil)))) pss_nil)
          (pss_one (ps_ret (pe_ix ix_list (pv 3) (pe_call GD hr (by rfl) T.dDraw.mg T.dDraw.kp bD .nil pass0 (pa_cons (pv 0) (pa_cons (pe_callB call_len_seq (by rfl) T.zlen PySem.boot_len (pa_cons (pv 3) pa_nil)) pa_nil))) (fun _ _ => rfl)))))) pss_nil)
      (pss_cons (ps_if (pt_cmpR op_eq (pv 1) pe_int (nomark _)) (pss_one (ps_ret (pe_ix ix_list (pe_lst (pa_cons pe_str (pa_cons pe_str (pa_cons pe_str (pa_cons pe_str (pa_cons pe_str (pa_cons pe_str pa_nil)))))))
          (pe_call GD hr (by rfl) T.dDraw.mg T.dDraw.kp bD .nil pass0 (pa_cons (pv 0) (pa_cons pe_int pa_nil))) (fun _ _ => rfl)))) pss_nil)
      (pss_cons (ps_set (i := 4) scWrong.nd rfl (Or.inl rfl) (pe_lst (pa_cons pe_str (pa_cons pe_str (pa_cons pe_str (pa_cons pe_str (pa_cons pe_str (pa_cons pe_str (pa_cons pe_str (pa_cons pe_str (pa_cons pe_str
          (pa_cons (pe_join pe_str (pe_op op_rep (pe_lst (pa_cons pe_str pa_nil)) pe_int)) pa_nil))))))))))))
      (pss_one (ps_ret (pe_ix ix_list (pv 4) (pe_call GD hr (by rfl) T.dDraw.mg T.dDraw.kp bD .nil pass0 (pa_cons (pv 0) (pa_cons pe_int pa_nil))) (fun _ _ => rfl)))))))), ?_⟩
    have eq_k : ∀ n : Int, decide (V.int (k : Int) = V.int n) = decide ((k : Int) = n) := fun n => by
      by_cases c : (k : Int) = n
      · rw [decide_eq_true c, decide_eq_true (congrArg V.int c)]
      · rw [decide_eq_false c, decide_eq_false fun e => c (V.int.inj e)]
    refine ⟨(by show 8 ≤ sizeLine; decide), fun q1 n1 => ?_⟩
    obtain ⟨m1, _⟩ := B.ne_new n1
    have B1 := B.new (o := .lst (numbersW.map V.str)) n1
    have k1 : But b H (upd H q1 (.lst (numbersW.map V.str))) := Same.but (same_upd n1)
    refine ⟨_, rfl, rfl, _, rfl, ?_⟩
    rw [eq_k]
    by_cases c0 : k = 0
    · subst c0
      refine if_yes rfl ?_
      refine ⟨_, rfl, (by show 2 ≤ sizeLine; decide), fun q2 n2 => ?_⟩
      refine ⟨q1, q2, _, _, rfl, rfl, (by rw [upd_ne (ne_of_none upd_same n2)]; exact upd_same), upd_same, (by show 10 ≤ sizeLine; decide), fun q3 n3 => ?_⟩
      have B3 := (B1.new (o := .lst [.str "-", .str "1.02"]) n2).new (o := .lst ((numbersW ++ (["-", "1.02"] : List Str)).map V.str)) n3
      obtain ⟨m3, _⟩ := (B1.new (o := .lst [.str "-", .str "1.02"]) n2).ne_new n3
      refine ⟨_, rfl, b, d, 10, rfl, by decide, B3, fun j H4 hj B4 b4 => ?_⟩
      obtain ⟨v, mem, e⟩ := pick (l := numbersW ++ (["-", "1.02"] : List Str)) (j := j) (by show j < 10; exact hj)
      exact ⟨q3, _, _, _, rfl, rfl, .inl (.inl (b4 q3 _ upd_same m3)), e, q v H4 (wrong0 v mem) B4 (((k1.trans (Same.but (same_upd n2))).trans (Same.but (same_upd n3))).trans b4)⟩
    · refine if_no (decide_eq_false (by omega)) ?_
      refine ⟨_, rfl, _, _, rfl, rfl, _, rfl, ?_⟩
      by_cases c2 : k ≤ 2
      · refine if_yes (decide_eq_true (by omega)) ?_
        refine ⟨_, rfl, (by show 3 ≤ sizeLine; decide), fun q2 n2 => ?_⟩
        refine ⟨q1, q2, _, _, rfl, rfl, (by rw [upd_ne (ne_of_none upd_same n2)]; exact upd_same), upd_same, (by show 11 ≤ sizeLine; decide), fun q3 n3 => ?_⟩
        have B2 := B1.new (o := .lst [.str "5", .str "1.2.3", .str "1.12345678"]) n2
        obtain ⟨m3, m3d⟩ := B2.ne_new n3
        have B3 := B2.new (o := .lst ((numbersW ++ (["5", "1.2.3", "1.12345678"] : List Str)).map V.str)) n3
        have k3 := (k1.trans (Same.but (same_upd (o := .lst [.str "5", .str "1.2.3", .str "1.12345678"]) n2))).trans (Same.but (same_upd (o := .lst ((numbersW ++ (["5", "1.2.3", "1.12345678"] : List Str)).map V.str)) n3))
        refine ⟨fun σ' H2 => ∃ (l : List Str) (y4 : Option V), σ' = [some (.ref b), some (.int (k : Int)), some (.ref q1), some (.ref q3), y4] ∧ H2 q3 = some (.lst (l.map V.str)) ∧ 0 < l.length ∧ (∀ v ∈ l, wrong (kd k) v = true) ∧ Box H2 b d ∧ But b H H2, ?_, fun σ' H2 hM => ?_⟩
        · refine ⟨_, rfl, rfl, _, rfl, ?_⟩
          rw [eq_k]
          by_cases c22 : k = 2
          · refine if_yes (decide_eq_true (by omega)) ?_
            refine ⟨_, rfl, .inl ⟨rfl, _, .inl (.inl upd_same)⟩, q3, _, _, rfl, rfl, upd_same, (by show 11 < sizeLine; decide), (numbersW ++ (["5", "1.2.3", "1.12345678"] : List Str)) ++ (["-"] : List Str), _, rfl, ?_, (by show 0 < 12; decide), fun v hv => ?_, B3.put m3 m3d, fun c o h n => ?_⟩
            · rw [upd_same, List.map_append]
              rfl
            · rw [c22]
              exact wrong2 v hv
            · have n2' := k1 c o h n
              have e2 : c ≠ q2 := ne_of_none n2' n2
              have n3' := (Same.but (p := b) (same_upd (o := .lst [.str "5", .str "1.2.3", .str "1.12345678"]) n2)) c o n2' n
              rw [upd_ne (ne_of_none n3' n3)]
              exact k3 c o h n
          · refine if_no (decide_eq_false (by omega)) ?_
            have c1 : k = 1 := by omega
            refine ⟨numbersW ++ (["5", "1.2.3", "1.12345678"] : List Str), _, rfl, upd_same, (by show 0 < 11; decide), fun v hv => ?_, B3, k3⟩
            rw [c1]
            exact wrong1 v hv
        · obtain ⟨l, y4, rfl, h1, h2, h3, B4, k4⟩ := hM
          refine ⟨_, rfl, _, rfl, _, rfl, q3, _, rfl, .inl (.inl (.inl h1)), b, d, l.length, by rw [List.length_map]; rfl, h2, B4, fun j H4 hj B5 b5 => ?_⟩
          obtain ⟨v, mem, e⟩ := pick (l := l) (j := j) hj
          exact ⟨q3, _, _, _, rfl, rfl, .inl (.inl (b5 q3 _ h1 m3)), e, q v H4 (h3 v mem) B5 (k4.trans b5)⟩
      · refine if_no (decide_eq_false (by omega)) ?_
        refine ⟨_, rfl, rfl, _, rfl, ?_⟩
        rw [eq_k]
        by_cases c3 : k = 3
        · subst c3
          refine if_yes rfl ?_
          refine ⟨(by show 6 ≤ sizeLine; decide), fun q2 n2 => ?_⟩
          obtain ⟨m2, _⟩ := B1.ne_new n2
          refine ⟨_, rfl, b, d, 6, rfl, by decide, B1.new n2, fun j H4 hj B4 b4 => ?_⟩
          obtain ⟨v, mem, e⟩ := pick (l := ["", "complete", "Failed", "-", "cancelled,", "7"]) (j := j) (by show j < 6; exact hj)
          exact ⟨q2, _, _, _, rfl, rfl, .inl (.inl (b4 q2 _ upd_same m2)), e, q v H4 (wrong3 v mem) B4 ((k1.trans (Same.but (same_upd n2))).trans b4)⟩
        · have c4 : k = 4 := by omega
          subst c4
          refine if_no rfl ?_
          refine ⟨⟨_, rfl⟩, (by show 1 ≤ sizeLine; decide), fun q2 n2 => ?_⟩
          have B2 := B1.new (o := .lst [.str "1"]) n2
          refine ⟨q2, 61, _, rfl, rfl, upd_same, (by decide), (by decide), (by show 1 * 61 ≤ sizeLine; decide), fun q3 n3 => ?_⟩
          have B3 := B2.new (o := .lst ((List.replicate 61 (Str.ofString "1")).map V.str)) n3
          refine ⟨_, q3, List.replicate 61 (Str.ofString "1"), rfl, rfl, .inl (.inl (.inl upd_same)), ones_size, ?_⟩
          refine ⟨(by show 10 ≤ sizeLine; decide), fun q4 n4 => ?_⟩
          obtain ⟨m4, _⟩ := B3.ne_new n4
          refine ⟨_, rfl, _, rfl, b, d, 10, rfl, by decide, B3.new n4, fun j H4 hj B4 b4 => ?_⟩
          obtain ⟨v, mem, e⟩ := pick (l := ["", "1000", "01", "7,", ",7", "7,,8", "dead", "7;8", "deadline,-", ones]) (j := j) (by show j < 10; exact hj)
          exact ⟨q4, _, _, _, rfl, rfl, .inl (.inl (b4 q4 _ upd_same m4)), e, q v H4 (wrong4 v mem) B4
            ((((k1.trans (Same.but (same_upd n2))).trans (Same.but (same_upd n3))).trans (Same.but (same_upd n4))).trans b4)⟩
end
end K24
/-! The law's texts. -/
namespace K24
open PySem PySem.Spec PyProof.Rows L2
/-! ### a text times a number -/
theorem foldl_flat : ∀ (l : List (Array Nat)) (a : Array Nat), (l.foldl (· ++ ·) a).toList = a.toList ++ (l.map Array.toList).flatten
  | [], a => by simp
  | x :: l, a => by
    rw [List.foldl_cons, foldl_flat l, Array.toList_append, List.map_cons, List.flatten_cons, List.append_assoc]
theorem rep_len (n : Nat) (l : List Nat) : (List.replicate n l).flatten.length = n * l.length := by
  induction n with
  | zero => simp
  | succ n ih => rw [List.replicate_succ, List.flatten_cons, List.length_append, ih, Nat.succ_mul, Nat.add_comm]
theorem mul_tl {z : Str} {n : Nat} (hn : 2 ≤ n) (hz : 1 ≤ z.length) : TL.tl (Txt.mul z (n : Int)) = (List.replicate n (TL.tl z)).flatten := by
  unfold Txt.mul
  rw [if_neg (by omega), if_neg (by
    simp only [Bool.or_eq_true, beq_iff_eq]
    omega)]
  show ((List.replicate (n : Int).toNat z.cps).foldl (· ++ ·) #[]).toList = _
  rw [foldl_flat, Int.toNat_natCast, List.map_replicate]
  rfl
theorem op_mulS {X : Cx} : OpR X (binaryOp .Mult) (fun x y H Q => ∃ (z : Str) (n : Nat), x = .str z ∧ y = .int (n : Int) ∧ 2 ≤ n ∧ 1 ≤ z.length ∧ z.length * n ≤ 1000000 ∧ ∀ r : Str, TL.tl r = (List.replicate n (TL.tl z)).flatten → Q (.str r) H) := by
  intro pins s σ H x y v u Q I rx ry h
  obtain ⟨z, n, rfl, rfl, h2, h1, hz, q⟩ := h
  obtain ⟨t, rfl⟩ := rx
  obtain ⟨t', rfl⟩ := ry
  have hn : n ≤ 1000000 := Nat.le_trans (Nat.le_mul_of_pos_left n h1) hz
  refine PySem.SB.mul ⟨?_, fun _ _ => ?_, fun _ _ => ?_⟩ fun tk k => ⟨.str _, H, I.tok _, ⟨_, rfl⟩, q _ (mul_tl h2 h1)⟩
  · rw [decide_eq_false (show ¬ ((n : Int) < -(2 ^ 63 : Int)) by omega), decide_eq_false (show ¬ ((n : Int) ≥ 2 ^ 63) by omega)]
    rfl
  · have e : ((z.length : Int) * (n : Int)) ≤ 2 ^ 63 - 1 := by
      have : ((z.length * n : Nat) : Int) ≤ 1000000 := by omega
      rw [Int.natCast_mul] at this
      omega
    have := (Int.le_ediv_iff_mul_le (show (0 : Int) < (n : Int) by omega)).mpr e
    omega
  · unfold PySem.Builtin.Str.tooLong
    rw [Int.toNat_natCast]
    have := len_line hz
    exact decide_eq_false (by omega)
/-! ### lines -/
def nlC : Str := "\n"
def lineS (l : Ln) : Str := Txt.join " " l.parts ++ "\n"
def lineL (l : Ln) : List Nat := lineOf5 (TL.tl l.p0) (TL.tl l.p1) (TL.tl l.p2) (TL.tl l.p3) (TL.tl l.p4)
theorem tl_lineS (l : Ln) : TL.tl (lineS l) = lineL l := by
  unfold lineS
  rw [TL.tl_append, TL.join_eq, TL.tl_join, sp_tl, show TL.tl (Str.ofString "\n") = [10] from tl_nl]
  show (TL.tl l.p0 ++ ([32] ++ (TL.tl l.p1 ++ ([32] ++ (TL.tl l.p2 ++ ([32] ++ (TL.tl l.p3 ++ ([32] ++ TL.tl l.p4)))))))) ++ [10] = _
  simp [lineL, lineOf5]
theorem OkLn.line {l : Ln} (o : OkLn l) : GoodLine (lineL l) := ⟨_, _, _, _, _, o.good, rfl⟩
theorem OkLn.part {l : Ln} (o : OkLn l) : ∀ p ∈ l.parts, (TL.tl p).length ≤ 40 := fun p hp => by
  rw [← TL.len_tl]
  exact o.sz p hp
theorem lineL_len {l : Ln} (o : OkLn l) : (lineL l).length ≤ 205 := by
  have h0 := o.part l.p0 (by simp [Ln.parts])
  have h1 := o.part l.p1 (by simp [Ln.parts])
  have h2 := o.part l.p2 (by simp [Ln.parts])
  have h3 := o.part l.p3 (by simp [Ln.parts])
  have h4 := o.part l.p4 (by simp [Ln.parts])
  unfold lineL lineOf5
  simp only [List.length_append, List.length_cons, List.length_nil]
  omega
theorem joinL_nil : ∀ ls : List (List Nat), TL.joinL [] ls = ls.flatten
  | [] => rfl
  | [p] => by simp [TL.joinL]
  | p :: q :: r => by
    show p ++ ([] ++ TL.joinL [] (q :: r)) = _
    rw [joinL_nil (q :: r), List.nil_append]
    rfl
theorem em_tl : TL.tl "" = [] := by decide +kernel
theorem join_lines (ls : List Ln) : TL.tl (Txt.join "" (ls.map lineS)) = (ls.map lineL).flatten := by
  rw [TL.join_eq, TL.tl_join, em_tl, joinL_nil, List.map_map]
  congr 1
  exact List.map_congr_left fun l _ => tl_lineS l
theorem flat_len {ls : List Ln} (h : ∀ l ∈ ls, OkLn l) : (ls.map lineL).flatten.length ≤ 205 * ls.length := by
  induction ls with
  | nil => exact Nat.zero_le _
  | cons l ls ih =>
    have h1 := lineL_len (h l (List.mem_cons_self ..))
    have h2 := ih fun x hx => h x (List.mem_cons_of_mem _ hx)
    rw [List.map_cons, List.flatten_cons, List.length_append, List.length_cons]
    omega
theorem lineS_len {l : Ln} (o : OkLn l) : (lineS l).length ≤ 205 := by
  rw [TL.len_tl, tl_lineS]
  exact lineL_len o
theorem joinL_ahead : ∀ {ps : List (List Nat)}, ps ≠ [] → TL.joinL [32] ps ++ [32] = ahead ps
  | [], h => absurd rfl h
  | [p], _ => rfl
  | p :: q :: r, _ => by
    show (p ++ ([32] ++ TL.joinL [32] (q :: r))) ++ [32] = p ++ 32 :: ahead (q :: r)
    rw [List.append_assoc, List.append_assoc, joinL_ahead (ps := q :: r) (by simp)]
    rfl
theorem ahead_len {ps : List (List Nat)} (h : ∀ p ∈ ps, p.length ≤ 40) : (ahead ps).length ≤ 41 * ps.length := by
  induction ps with
  | nil => exact Nat.zero_le _
  | cons p ps ih =>
    have h1 := h p (List.mem_cons_self ..)
    have h2 := ih fun x hx => h x (List.mem_cons_of_mem _ hx)
    show (p ++ 32 :: ahead ps).length ≤ _
    rw [List.length_append, List.length_cons, List.length_cons]
    omega
/-- the parts ahead of the k-th -/
def ahd (l : Ln) (k : Nat) : List Nat := ahead ((l.parts.take k).map TL.tl)
theorem ahd_len {l : Ln} (o : OkLn l) (k : Nat) : (ahd l k).length ≤ 205 := by
  have q := ahead_len (ps := (l.parts.take k).map TL.tl) fun p hp => by
    obtain ⟨x, hx, rfl⟩ := List.mem_map.mp hp
    exact o.part x (List.mem_of_mem_take hx)
  rw [List.length_map, List.length_take, show l.parts.length = 5 from rfl] at q
  unfold ahd
  omega
theorem join_take (l : Ln) (k : Nat) : TL.tl (Txt.join " " (l.parts.take k)) = TL.joinL [32] ((l.parts.take k).map TL.tl) := by
  rw [TL.join_eq, TL.tl_join, sp_tl]
theorem ahd_zero (l : Ln) : TL.tl (Txt.join " " (l.parts.take 0)) = ahd l 0 := by
  rw [join_take]
  rfl
theorem ahd_pos (l : Ln) {k : Nat} (h : 0 < k) : TL.tl (Txt.join " " (l.parts.take k) ++ " ") = ahd l k := by
  rw [TL.tl_append, join_take, sp_tl]
  refine joinL_ahead ?_
  intro e
  have e2 := congrArg List.length e
  rw [List.length_map, List.length_take, show l.parts.length = 5 from rfl, List.length_nil] at e2
  omega
theorem parts_join {l : Ln} (o : OkLn l) {ps : List Str} (h : ∀ p ∈ ps, p ∈ l.parts) (h5 : ps.length ≤ 5) : (ps.map (·.length)).sum + ps.length * (Str.ofString " ").length ≤ 16777216 ∧ (TL.tl (Txt.join " " ps)).length ≤ 205 := by
  have q := sum_len (c := 40) (ys := ps) fun y hy => o.sz y (h y hy)
  have l1 : (Str.ofString " ").length = 1 := by decide +kernel
  have q2 := joinL_len (S := [32]) (c := 40) (ls := ps.map TL.tl) fun p hp => by
    obtain ⟨x, hx, rfl⟩ := List.mem_map.mp hp
    exact o.part x (h x hx)
  rw [List.length_map] at q2
  have l2 : ([32] : List Nat).length = 1 := rfl
  rw [l2] at q2
  refine ⟨by rw [l1]; omega, ?_⟩
  rw [TL.join_eq, TL.tl_join, sp_tl]
  omega
/-! ### line and column -/
theorem free_nl {p : List Nat} (h : free p = true) : (10 : Nat) ∉ p := fun hm => by
  have := List.all_eq_true.mp h 10 hm
  cases this
theorem cnt_line {p0 p1 p2 p3 p4 : List Nat} (g : Good p0 p1 p2 p3 p4) : cnt 10 (lineOf5 p0 p1 p2 p3 p4) = 1 := by
  unfold lineOf5
  simp only [cnt_append, cnt_cons, cnt_none 10 _ (free_nl g.f0), cnt_none 10 _ (free_nl g.f1), cnt_none 10 _ (free_nl g.f2), cnt_none 10 _ (free_nl g.f3), cnt_none 10 _ (free_nl g.f4), cnt_nil]
  rfl
theorem cnt_lines {ls : List Ln} (h : ∀ l ∈ ls, OkLn l) : cnt 10 (ls.map lineL).flatten = (ls.length : Int) := by
  induction ls with
  | nil => rfl
  | cons l ls ih =>
    rw [List.map_cons, List.flatten_cons, cnt_append, ih fun x hx => h x (List.mem_cons_of_mem _ hx), show cnt 10 (lineL l) = 1 from cnt_line (h l (List.mem_cons_self ..)).good, List.length_cons]
    omega
theorem head_lines (ls : List Ln) : Head (ls.map lineL).flatten := by
  rcases List.eq_nil_or_concat ls with rfl | ⟨r, l, rfl⟩
  · exact .inl rfl
  · refine .inr ⟨(r.map lineL).flatten ++ (TL.tl l.p0 ++ 32 :: (TL.tl l.p1 ++ 32 :: (TL.tl l.p2 ++ 32 :: (TL.tl l.p3 ++ 32 :: TL.tl l.p4)))), ?_⟩
    simp [lineL, lineOf5]
theorem ahead_nl {ps : List (List Nat)} (h : ∀ p ∈ ps, (10 : Nat) ∉ p) : (10 : Nat) ∉ ahead ps := by
  induction ps with
  | nil => exact List.not_mem_nil
  | cons p ps ih =>
    intro hm
    rcases List.mem_append.mp (show (10 : Nat) ∈ p ++ 32 :: ahead ps from hm) with hm | hm
    · exact h p (List.mem_cons_self ..) hm
    · rcases List.mem_cons.mp hm with hm | hm
      · cases hm
      · exact ih (fun x hx => h x (List.mem_cons_of_mem _ hx)) hm
theorem line_col {z : Str} {A B C : List Nat} {n : Nat} (e : TL.tl z = A ++ (B ++ C)) (hA : Head A) (hn : cnt 10 A = (n : Int)) (hB : (10 : Nat) ∉ B) :
    lineOf z (A.length + B.length) = (n : Int) + 1 ∧ colOf z (A.length + B.length) = (B.length : Int) + 1 := by
  have et : TL.tl (cutS z none (some ((A.length + B.length : Nat) : Int))) = A ++ B := by
    rw [tl_cut_to, e, ← List.append_assoc, ← List.length_append, List.take_left]
  refine ⟨?_, ?_⟩
  · unfold lineOf
    rw [nl_eq, count_cnt, show (cutS z none (some ((A.length + B.length : Nat) : Int))).cps.toList = A ++ B from et, cnt_append, hn, cnt_none 10 B hB]
    omega
  · unfold colOf
    rw [rfind_at et hA hB]
    omega
theorem kinds_at {k : Nat} (hk : k < 5) : kinds = kinds.take k ++ kd k :: kinds.drop (k + 1) := by
  match k, hk with
  | 0, _ => rfl
  | 1, _ => rfl
  | 2, _ => rfl
  | 3, _ => rfl
  | 4, _ => rfl
theorem fit_at {l : Ln} (o : OkLn l) {k : Nat} (hk : k < 5) : Fit (kinds.take k) ((l.parts.take k).map TL.tl) := by
  have g := o.good
  match k, hk with
  | 0, _ => exact .nil
  | 1, _ => exact .cons g.g0 g.f0 rfl .nil
  | 2, _ => exact .cons g.g0 g.f0 rfl (.cons g.g1 g.f1 rfl .nil)
  | 3, _ => exact .cons g.g0 g.f0 rfl (.cons g.g1 g.f1 rfl (.cons g.g2 g.f2 rfl .nil))
  | 4, _ => exact .cons g.g0 g.f0 rfl (.cons g.g1 g.f1 rfl (.cons g.g2 g.f2 rfl (.cons g.g3 g.f3 rfl .nil)))
theorem parts_free {l : Ln} (o : OkLn l) : ∀ p ∈ l.parts, free (TL.tl p) = true := fun p hp => by
  have hp' : p ∈ [l.p0, l.p1, l.p2, l.p3, l.p4] := hp
  simp only [List.mem_cons, List.not_mem_nil, or_false] at hp'
  have g := o.good
  rcases hp' with rfl | rfl | rfl | rfl | rfl
  · exact g.f0
  · exact g.f1
  · exact g.f2
  · exact g.f3
  · exact g.f4
theorem part_ok {l : Ln} (o : OkLn l) {k : Nat} {p : Str} (hp : l.parts[k]? = some p) : (kd k).ok (TL.tl p) = true := by
  have g := o.good
  match k, hp with
  | 0, e => rw [← Option.some.inj e]; exact g.g0
  | 1, e => rw [← Option.some.inj e]; exact g.g1
  | 2, e => rw [← Option.some.inj e]; exact g.g2
  | 3, e => rw [← Option.some.inj e]; exact g.g3
  | 4, e => rw [← Option.some.inj e]; exact g.g4
/-- THE FAULT: good lines, the first k parts of one, then what cannot stand there -/
theorem law_fault {ls : List Ln} (hls : ∀ l ∈ ls, OkLn l) {l : Ln} (hl : OkLn l) {k : Nat} (hk : k < 5) {t : List Nat} {m : Nat} {w : Str} (hi : item (kd k) t = .error (m, w)) (ne : ahd l k ++ t ≠ []) (hm : (10 : Nat) ∉ t.take m) (hm2 : m ≤ t.length)
    {z : Str} (hz : TL.tl z = (ls.map lineL).flatten ++ (ahd l k ++ t)) :
    ∃ M, K24.Reads (TL.tl z) (.error (M, w)) ∧ lineOf z M = (ls.length : Int) + 1 ∧ colOf z M = ((ahd l k).length : Int) + (m : Int) + 1 := by
  have r := reads_fault (ls := ls.map lineL) (fun x hx => by
    obtain ⟨y, hy, rfl⟩ := List.mem_map.mp hx
    exact (hls y hy).line) (kinds_at hk) (fit_at hl hk) hi ne
  have a := line_col (z := z) (A := (ls.map lineL).flatten) (B := ahd l k ++ t.take m) (C := t.drop m) (by rw [hz, List.append_assoc, List.take_append_drop]) (head_lines ls) (cnt_lines hls) (fun hm' => by
    rcases List.mem_append.mp hm' with h | h
    · exact ahead_nl (fun p hp => by
        obtain ⟨x, hx, rfl⟩ := List.mem_map.mp hp
        exact free_nl (parts_free hl x (List.mem_of_mem_take hx))) h
    · exact hm h)
  rw [List.length_append, List.length_take, Nat.min_eq_left hm2] at a
  refine ⟨_, ?_, a.1, ?_⟩
  · rw [hz]
    exact r
  · rw [a.2]
    omega
/-- a wrong part -/
theorem fault_wrong {ls : List Ln} (hls : ∀ l ∈ ls, OkLn l) {l : Ln} (hl : OkLn l) {k : Nat} (hk : k < 5) {v : Str} (hv : wrong (kd k) v = true) {t : List Nat} (ht : Cut t) (ne : ahd l k ++ (TL.tl v ++ t) ≠ [])
    {z : Str} (hz : TL.tl z = (ls.map lineL).flatten ++ (ahd l k ++ (TL.tl v ++ t))) :
    ∃ M, K24.Reads (TL.tl z) (.error (M, (kd k).w)) ∧ lineOf z M = (ls.length : Int) + 1 ∧ colOf z M = ((ahd l k).length : Int) + 1 := by
  obtain ⟨h1, h2, _⟩ := wrong_of hv
  obtain ⟨M, r, a, b⟩ := law_fault hls hl hk (item_bad h1 h2 ht) ne (by rw [List.take_zero]; exact List.not_mem_nil) (Nat.zero_le _) hz
  exact ⟨M, r, a, by rw [b]; omega⟩
/-- another sign behind a good part -/
theorem fault_sign {ls : List Ln} (hls : ∀ l ∈ ls, OkLn l) {l : Ln} (hl : OkLn l) {k : Nat} (hk : k < 5) {p : Str} (hp : l.parts[k]? = some p) {t : List Nat} (ht : Cut t) (hs : t.head? ≠ some (kd k).c) (ne : ahd l k ++ (TL.tl p ++ t) ≠ [])
    {z : Str} (hz : TL.tl z = (ls.map lineL).flatten ++ (ahd l k ++ (TL.tl p ++ t))) :
    ∃ M, K24.Reads (TL.tl z) (.error (M, (kd k).sw)) ∧ lineOf z M = (ls.length : Int) + 1 ∧ colOf z M = ((ahd l k).length : Int) + (p.length : Int) + 1 := by
  have f := parts_free hl p (List.mem_of_getElem? hp)
  obtain ⟨M, r, a, b⟩ := law_fault hls hl hk (item_sign (part_ok hl hp) f ht hs) ne (by rw [List.take_left]; exact free_nl f) (by rw [List.length_append]; exact Nat.le_add_right _ _) hz
  exact ⟨M, r, a, by rw [b, ← TL.len_tl p]⟩
end K24
/-! The law. -/
namespace K24
open PySem PySem.Spec PyProof.Rows L2
abbrev LN : List Str := ["_law_script", "_law_box", "_law_line_here", "_law_turn", "_law_k", "_law_lines", "_law_texts", "_law_at", "_law_ahead", "_law_before", "_law_wrong_here", "_law_rest", "_law_good", "_law_sign", "_law_words", "_law_row"]
theorem scLaw : FnScope LN ["_law_script"] (defScope sLaw) := ⟨rfl, rfl, rfl, by decide +kernel, rfl, by decide +kernel, by decide +kernel⟩
def lineH : Str := "0 - 1.0 failed 7\n"
theorem lineH_len : lineH.length = 17 := by decide +kernel
theorem lineH_good : GoodLine (TL.tl lineH) := ⟨[48], [45], [49, 46, 48], [102, 97, 105, 108, 101, 100], [55], ⟨by decide +kernel, by decide +kernel, by decide +kernel, by decide +kernel, by decide +kernel, by decide +kernel, by decide +kernel, by decide +kernel, by decide +kernel, by decide +kernel⟩, by decide +kernel⟩
theorem lineH_reads (n : Nat) : K24.Reads (List.replicate n (TL.tl lineH)).flatten (.ok n) := by
  have q := reads_all (ls := List.replicate n (TL.tl lineH)) fun l hl => by
    rw [List.eq_of_mem_replicate hl]
    exact lineH_good
  rw [List.length_replicate] at q
  exact q
theorem lineH_many (n : Nat) {r : Str} (h : TL.tl r = (List.replicate n (TL.tl lineH)).flatten) : r.length = n * 17 := by
  rw [TL.len_tl, h, rep_len, ← TL.len_tl, lineH_len]
theorem kd_nil {k : Nat} (hk : k < 5) : (kd k).ok [] = false := by
  match k, hk with
  | 0, _ => decide +kernel
  | 1, _ => decide +kernel
  | 2, _ => decide +kernel
  | 3, _ => decide +kernel
  | 4, _ => decide +kernel
theorem wrong_nil {k : Nat} (hk : k < 5) : wrong (kd k) "" = true := by
  unfold wrong
  rw [em_tl, kd_nil hk]
  decide +kernel
theorem words_at {k : Nat} (hk : k < 5) : atI wordsV (k : Int) = some (.str (kd k).w) ∧ PyData.strOk (kd k).w = true ∧ PyData.strOk (kd k).sw = true := by
  match k, hk with
  | 0, _ => exact ⟨rfl, by decide +kernel, by decide +kernel⟩
  | 1, _ => exact ⟨rfl, by decide +kernel, by decide +kernel⟩
  | 2, _ => exact ⟨rfl, by decide +kernel, by decide +kernel⟩
  | 3, _ => exact ⟨rfl, by decide +kernel, by decide +kernel⟩
  | 4, _ => exact ⟨rfl, by decide +kernel, by decide +kernel⟩
/-- the sign that may not stand behind the k-th part -/
theorem sign_at {k : Nat} (hk : k < 5) : ∃ (sg : Str) (c : Nat), atI [V.str " ", V.str "\n"] (if decide ((k : Int) < 4) = true then 1 else 0) = some (.str sg) ∧ atI [V.str "expected a newline", V.str "expected a space"] (if decide ((k : Int) < 4) = true then 1 else 0) = some (.str (kd k).sw) ∧
    TL.tl sg = [c] ∧ isSep c = true ∧ c ≠ (kd k).c := by
  match k, hk with
  | 0, _ => exact ⟨"\n", 10, rfl, rfl, tl_nl, rfl, by decide⟩
  | 1, _ => exact ⟨"\n", 10, rfl, rfl, tl_nl, rfl, by decide⟩
  | 2, _ => exact ⟨"\n", 10, rfl, rfl, tl_nl, rfl, by decide⟩
  | 3, _ => exact ⟨"\n", 10, rfl, rfl, tl_nl, rfl, by decide⟩
  | 4, _ => exact ⟨" ", 32, rfl, rfl, sp_tl, rfl, by decide⟩
theorem cut_take (ps : List Str) (k : Nat) : cutV (ps.map V.str) none (some (k : Int)) = (ps.take k).map V.str := by
  unfold cutV
  rw [HT.sIx_none, HT.sIx_nat, List.drop_zero, Nat.sub_zero, List.map_take, List.length_map]
  by_cases h : k ≤ ps.length
  · rw [Nat.min_eq_left h]
  · rw [Nat.min_eq_right (by omega), List.take_of_length_le (by rw [List.length_map]; exact Nat.le_refl _), List.take_of_length_le (by rw [List.length_map]; omega)]
theorem cut_drop (ps : List Str) (k : Nat) : cutV (ps.map V.str) (some (k : Int)) none = (ps.drop k).map V.str := by
  unfold cutV
  rw [HT.sIx_none, HT.sIx_nat, List.length_map, List.map_drop]
  by_cases h : k ≤ ps.length
  · rw [Nat.min_eq_left h, List.take_of_length_le (by rw [List.length_drop, List.length_map]; exact Nat.le_refl _)]
  · rw [Nat.min_eq_right (by omega), List.drop_eq_nil_of_le (by rw [List.length_map]; exact Nat.le_refl _), List.drop_eq_nil_of_le (by rw [List.length_map]; omega), List.take_nil]
theorem len_app (x y : Str) : (x ++ y).length = x.length + y.length := by
  rw [TL.len_tl, TL.tl_append, List.length_append, ← TL.len_tl, ← TL.len_tl]
/-- two like tuples -/
theorem ne_told {K : PySem.W.Frag} {H : Hp} {p q : Addr} {l1 l2 c1 c2 : Int} {w1 w2 : Str} {Q : VK} (hp : H p = some (.tup [.str "refused", .int l1, .int c1, .str w1])) (hq : H q = some (.tup [.str "refused", .int l2, .int c2, .str w2]))
    (el : l1 = l2) (ec : c1 = c2) (ew : w1 = w2) (hw : PyData.strOk w1 = true) (h : Q (.bl false) H) : rNeD K (.ref p) (.ref q) H Q := by
  subst el ec ew
  have s0 : PyData.strOk (Str.ofString "refused") = true := by decide +kernel
  have hs : PyData.canLay0 (.tuple [.str "refused", .int l1, .int c1, .str w1]) = true := by
    simp [PyData.canLay0, PyData.canLayAll0, hw, s0]
  have hsh : SeqAt.shaped (.tuple [.str "refused", .int l1, .int c1, .str w1]) = true := by
    unfold SeqAt.shaped
    rw [hs]
    rfl
  refine ⟨_, _, .tup (.inl (.inl hp)) (.cons (.str _) (.cons (.int _) (.cons (.int _) (.cons (.str _) .nil)))), .tup (.inl (.inl hq)) (.cons (.str _) (.cons (.int _) (.cons (.int _) (.cons (.str _) .nil)))), hsh, hsh, ?_⟩
  rw [SeqAt.eqv_refl _ hs]
  exact h
theorem ne_text {K : PySem.W.Frag} {H : Hp} {p q : Addr} {Q : VK} (hp : H p = some (.tup [.str "refused", .str "text"])) (hq : H q = some (.tup [.str "refused", .str "text"])) (h : Q (.bl false) H) : rNeD K (.ref p) (.ref q) H Q := by
  have hs : PyData.canLay0 (.tuple [.str "refused", .str "text"]) = true := by decide +kernel
  have hsh : SeqAt.shaped (.tuple [.str "refused", .str "text"]) = true := by
    unfold SeqAt.shaped
    rw [hs]
    rfl
  refine ⟨_, _, .tup (.inl (.inl hp)) (.cons (.str _) (.cons (.str _) .nil)), .tup (.inl (.inl hq)) (.cons (.str _) (.cons (.str _) .nil)), hsh, hsh, ?_⟩
  rw [SeqAt.eqv_refl _ hs]
  exact h
theorem refs_ne : ∀ (qs : List Addr) (d : Addr) (k : Int), qs.map V.ref ≠ [.ref d, .int k]
  | [], _, _, e => by cases e
  | [_], _, _, e => by cases e
  | _ :: _ :: _, _, _, e => by
    injection e with _ e
    injection e with e _
    cases e
theorem strs_ne : ∀ (ys : List Str) (d : Addr) (k : Int), ys.map V.str ≠ [.ref d, .int k]
  | [], _, _, e => by cases e
  | _ :: _, _, _, e => by
    injection e with e _
    cases e
/-- what the turn holds: the box, the lines at L, the texts at t, the line that was drawn -/
structure Sel (H : Hp) (b d L t : Addr) (qs : List Addr) (ls : List Ln) (q x y : Addr) (l : Ln) : Prop where
  bx : Box H b d
  hL : H L = some (.lst (qs.map V.ref))
  ht : H t = some (.lst ((ls.map lineS).map V.str))
  hr : RowAt H q x y l
theorem Sel.but {H H' : Hp} {b d L t : Addr} {qs : List Addr} {ls : List Ln} {q x y : Addr} {l : Ln} (S : Sel H b d L t qs ls q x y l) (B : Box H' b d) (s : But b H H') : Sel H' b d L t qs ls q x y l :=
  ⟨B, s _ _ S.hL (S.bx.ne S.hL (refs_ne qs)), s _ _ S.ht (S.bx.ne S.ht (strs_ne _)), S.hr.but S.bx s⟩
theorem Sel.same {H H' : Hp} {b d L t : Addr} {qs : List Addr} {ls : List Ln} {q x y : Addr} {l : Ln} (S : Sel H b d L t qs ls q x y l) (s : Same H H') : Sel H' b d L t qs ls q x y l :=
  ⟨S.bx.same s, s _ _ S.hL, s _ _ S.ht, s _ _ S.hr.1, s _ _ S.hr.2.1, s _ _ S.hr.2.2⟩
theorem sz {n : Nat} (h : n ≤ 100000) : n ≤ sizeLine := len_line (by omega)
def spLaw (K : PySem.W.Frag) : Sp := fun vs H Q _ => ∃ (s : Addr) (ns : List Int), vs = [.ref s] ∧ SqL K H s (ns.map V.int) ∧ ∀ H', Q (.bl true) H'
/-- ' '.join(_law_row[0]) + '\n' -/
def tRow (K : PySem.W.Frag) : TE := tOp (fun x y H Q => ∃ i j, x = .str i ∧ y = .str j ∧ i.length + j.length ≤ sizeLine ∧ Q (.str (i ++ j)) H)
  (tM1 (fun x xs H Q => ∃ a p, ∃ ys : List Str, x = .str a ∧ xs = [.ref p] ∧ (SqL K H p (ys.map V.str) ∨ SqT K H p (ys.map V.str)) ∧ (ys.map (·.length)).sum + ys.length * a.length ≤ 16777216 ∧ Q (.str (Txt.join a ys)) H) (tC (.str " ")) (tOp (rIxL K) (tVar 15) (tC (.int 0)))) (tC (.str "\n"))
section
variable {P : Program} {w : World} {K : PySem.W.Frag} {mg : Str → Option Value} {base : Heap} {a : Adr}
theorem ok_Law (T : TopOk K mg a) {fLaw : Addr} {fd : FuncData} (F : Fun K "law" "law" sLaw fLaw fd) : FnOk P w K mg base CX0 8 fLaw fd ["_law_script"] (spLaw K) := by
  obtain ⟨fdG, GG, bG⟩ := ok_Dig (P := P) (w := w) (base := base) T
  obtain ⟨fdD, GD, bD⟩ := ok_Draw (P := P) (w := w) (base := base) T
  obtain ⟨fdL, GL, bL⟩ := ok_Line (P := P) (w := w) (base := base) T
  obtain ⟨fdW, GW, bW⟩ := ok_Wrong (P := P) (w := w) (base := base) T
  obtain ⟨fdT, GT, bT⟩ := ok_Told (P := P) (w := w) (base := base) T
  obtain ⟨tT, cT⟩ := T.cT
  refine F.ok scLaw (fun vs H Q E h => ?_) (fun cdv A outer s H vs Q E hr h => ?_)
  · obtain ⟨s, ns, rfl, _⟩ := h
    rfl
  · obtain ⟨sa, ns, rfl, hS, fin⟩ := h
    have hr1 : Room 1 _ := hr.mono (by decide)
    have hr2 : Room 2 _ := hr.mono (by decide)
    refine ⟨_, pss_cons (ps_set (i := 1) scLaw.nd rfl (Or.inr rfl) (pe_lst (pa_cons (pe_call GG hr2 (by rfl) T.dDig.mg T.dDig.kp bG .nil pass0 (pa_cons (pv 0) (pa_cons pe_int (pa_cons pe_int pa_nil)))) (pa_cons pe_int pa_nil))))
      (pss_cons (ps_set (i := 2) scLaw.nd rfl (Or.inl rfl) pe_str)
      (pss_cons (ps_if (PW.pt (pw_or (pt_cmpR op_ne (pe_glob (v := .int 20000) (by rfl) cT ⟨_, rfl⟩) pe_int (nomark _)) (pw_or (pt_cmpR op_ne (pe_call GT hr (by rfl) T.dTold.mg T.dTold.kp bT .nil pass0 (pa_cons (pe_op op_mulS (pv 2) pe_int) pa_nil)) pe_int (nomark _))
          (pw_or1 (pt_cmpR (op_neD hr.units) (pe_call GT hr (by rfl) T.dTold.mg T.dTold.kp bT .nil pass0 (pa_cons (pe_op op_mulS (pv 2) pe_int) pa_nil)) (pe_tup (pa_cons pe_str (pa_cons pe_str pa_nil))) (nomark _)))))) (pss_one (ps_ret pe_bl)) pss_nil)
      (pss_cons (ps_for PassesOwn.never rfl (pi_range1 (by rfl) T.zrange (pa_cons pe_int pa_nil)) (pg_name (i := 3) scLaw.nd rfl (.inl rfl))
          (pss_cons (ps_setLc (i := 5) (own := [("_law_k", 4)]) (g := gName 4) (tt := tYes) (by rfl) scLaw.nd rfl rfl (sw_true rfl rfl rfl (by decide +kernel)) (pi_range1 (by rfl) T.zrange (pa_cons (pe_op op_add pe_int (pe_call GD hr1 (by rfl) T.dDraw.mg T.dDraw.kp bD .nil pass0 (pa_cons (pv 1) (pa_cons pe_int pa_nil)))) pa_nil)) (blkOk_by (own := [("_law_k", 4)]) (N := LN) (sc := defScope sLaw) (by decide +kernel)) (fun _ _ _ _ _ => pg_name (i := 4) scLaw.nd rfl (Or.inl rfl)) (fun _ _ _ _ _ => pts_nil) (fun _ _ _ _ _ => pe_call GL hr2 (by rfl) T.dLine.mg T.dLine.kp bL .nil pass0 (pa_cons (pv 1) pa_nil)))
          (pss_cons (ps_setLc (i := 6) (own := [("_law_row", 15)]) (g := gName 15) (tt := tYes) (te := tRow K) (by rfl) scLaw.nd rfl rfl (sw_true rfl rfl rfl (by decide +kernel)) (pi_list (pv 5)) (blkOk_by (own := [("_law_row", 15)]) (N := LN) (sc := defScope sLaw) (by decide +kernel)) (fun _ _ _ _ _ => pg_name (i := 15) scLaw.nd rfl (Or.inl rfl)) (fun _ _ _ _ _ => pts_nil) (fun _ _ _ _ _ => by exact (pe_op op_add_str (pe_join pe_str (pe_ix ix_list (pv 15) pe_int (fun _ _ => rfl))) pe_str)))
          (pss_cons (ps_if (pt_cmpR op_ne (pe_call GT hr (by rfl) T.dTold.mg T.dTold.kp bT .nil pass0 (pa_cons (pe_join pe_str (pv 6)) pa_nil)) (pe_callB call_len_seq (by rfl) T.zlen PySem.boot_len (pa_cons (pv 5) pa_nil)) (nomark _)) (pss_one (ps_ret pe_bl)) pss_nil)
          (pss_cons (ps_set (i := 7) scLaw.nd rfl (Or.inl rfl) (pe_call GD hr1 (by rfl) T.dDraw.mg T.dDraw.kp bD .nil pass0 (pa_cons (pv 1) (pa_cons (pe_callB call_len_seq (by rfl) T.zlen PySem.boot_len (pa_cons (pv 5) pa_nil)) pa_nil))))
          (pss_cons (ps_set (i := 4) scLaw.nd rfl (Or.inl rfl) (pe_call GD hr1 (by rfl) T.dDraw.mg T.dDraw.kp bD .nil pass0 (pa_cons (pv 1) (pa_cons pe_int pa_nil))))
          (pss_cons (ps_set (i := 8) scLaw.nd rfl (Or.inl rfl) (pe_join pe_str (pe_slice sl_list (pe_ix ix_list (pe_ix ix_list (pv 5) (pv 7) (fun _ _ => rfl)) pe_int (fun _ _ => rfl)) po_none (po_some (pv 4)))))
          (C8.pss_cut (ps_if (pt_cmpR op_gt (pv 4) pe_int (nomark _)) (pss_one (ps_set (i := 8) scLaw.nd rfl (Or.inl rfl) (pe_op op_add_str (pv 8) pe_str))) pss_nil)
          (pss_cons (ps_set (i := 9) scLaw.nd rfl (Or.inl rfl) (pe_op op_add_str (pe_join pe_str (pe_slice sl_list (pv 6) po_none (po_some (pv 7)))) (pv 8)))
          (pss_cons (ps_set (i := 10) scLaw.nd rfl (Or.inl rfl) (pe_call GW hr2 (by rfl) T.dWrong.mg T.dWrong.kp bW .nil pass0 (pa_cons (pv 1) (pa_cons (pv 4) pa_nil))))
          (pss_cons (ps_set (i := 11) scLaw.nd rfl (Or.inl rfl) (pe_op op_add_str (pe_op op_add_str (pe_ix ix_list (pe_lst (pa_cons pe_str (pa_cons pe_str (pa_cons pe_str pa_nil)))) (pe_call GD hr1 (by rfl) T.dDraw.mg T.dDraw.kp bD .nil pass0 (pa_cons (pv 1) (pa_cons pe_int pa_nil))) (fun _ _ => rfl)) (pe_join pe_str (pe_slice sl_list (pe_ix ix_list (pe_ix ix_list (pv 5) (pv 7) (fun _ _ => rfl)) pe_int (fun _ _ => rfl)) (po_some (pe_op op_add (pv 4) pe_int)) po_none))) pe_str))
          (C8.pss_cut (ps_if (PW.pt (pw_or (pt_cmpR op_eq (pv 10) pe_str (nomark _)) (pw_or1 (pt_cmpR op_notIn_sign (pe_ix ix_str (pv 11) pe_int (fun _ _ => rfl)) pe_str (by rfl))))) (pss_one (ps_set (i := 11) scLaw.nd rfl (Or.inl rfl) (pe_op op_add_str pe_str (pv 11)))) pss_nil)
          (pss_cons (ps_if (pt_cmpR (op_neD hr.units) (pe_call GT hr (by rfl) T.dTold.mg T.dTold.kp bT .nil pass0 (pa_cons (pe_op op_add_str (pe_op op_add_str (pv 9) (pv 10)) (pv 11)) pa_nil)) (pe_tup (pa_cons pe_str (pa_cons (pe_op op_add (pv 7) pe_int) (pa_cons (pe_op op_add (pe_callB call_len_str (by rfl) T.zlen PySem.boot_len (pa_cons (pv 8) pa_nil)) pe_int) (pa_cons (pe_ix ix_list (pe_ix ix_list (pe_ix ix_list (pv 5) (pv 7) (fun _ _ => rfl)) pe_int (fun _ _ => rfl)) (pv 4) (fun _ _ => rfl)) pa_nil))))) (nomark _)) (pss_one (ps_ret pe_bl)) pss_nil)
          (pss_cons (ps_set (i := 12) scLaw.nd rfl (Or.inl rfl) (pe_ix ix_list (pe_ix ix_list (pe_ix ix_list (pv 5) (pv 7) (fun _ _ => rfl)) pe_int (fun _ _ => rfl)) (pv 4) (fun _ _ => rfl)))
          (pss_cons (ps_set (i := 13) scLaw.nd rfl (Or.inl rfl) (pe_ix ix_list (pe_lst (pa_cons pe_str (pa_cons pe_str pa_nil))) (pe_callTy call_int1 (by rfl) T.zint (by decide +kernel) (pa_cons (pe_cmpR op_lt (pv 4) pe_int (nomark _)) pa_nil)) (fun _ _ => rfl)))
          (pss_cons (ps_set (i := 14) scLaw.nd rfl (Or.inl rfl) (pe_ix ix_list (pe_lst (pa_cons pe_str (pa_cons pe_str pa_nil))) (pe_callTy call_int1 (by rfl) T.zint (by decide +kernel) (pa_cons (pe_cmpR op_lt (pv 4) pe_int (nomark _)) pa_nil)) (fun _ _ => rfl)))
          (pss_cons (ps_if (pt_cmpR (op_neD hr.units) (pe_call GT hr (by rfl) T.dTold.mg T.dTold.kp bT .nil pass0 (pa_cons (pe_op op_add_str (pe_op op_add_str (pe_op op_add_str (pv 9) (pv 12)) (pv 13)) pe_str) pa_nil)) (pe_tup (pa_cons pe_str (pa_cons (pe_op op_add (pv 7) pe_int) (pa_cons (pe_op op_add (pe_op op_add (pe_callB call_len_str (by rfl) T.zlen PySem.boot_len (pa_cons (pv 8) pa_nil)) (pe_callB call_len_str (by rfl) T.zlen PySem.boot_len (pa_cons (pv 12) pa_nil))) pe_int) (pa_cons (pv 14) pa_nil))))) (nomark _)) (pss_one (ps_ret pe_bl)) pss_nil)
          (pss_cons (ps_if (pt_cmpR (op_neD hr.units) (pe_call GT hr (by rfl) T.dTold.mg T.dTold.kp bT .nil pass0 (pa_cons (pe_op op_add_str (pv 9) (pv 12)) pa_nil)) (pe_tup (pa_cons pe_str (pa_cons (pe_op op_add (pv 7) pe_int) (pa_cons (pe_op op_add (pe_op op_add (pe_callB call_len_str (by rfl) T.zlen PySem.boot_len (pa_cons (pv 8) pa_nil)) (pe_callB call_len_str (by rfl) T.zlen PySem.boot_len (pa_cons (pv 12) pa_nil))) pe_int) (pa_cons (pv 14) pa_nil))))) (nomark _)) (pss_one (ps_ret pe_bl)) pss_nil)
          (pss_one (ps_if (PW.pt (pw_and (pt_cmpR op_gt (pv 4) pe_int (nomark _)) (pw_and1 (pt_cmpR (op_neD hr.units) (pe_call GT hr (by rfl) T.dTold.mg T.dTold.kp bT .nil pass0 (pa_cons (pv 9) pa_nil)) (pe_tup (pa_cons pe_str (pa_cons (pe_op op_add (pv 7) pe_int) (pa_cons (pe_op op_add (pe_callB call_len_str (by rfl) T.zlen PySem.boot_len (pa_cons (pv 8) pa_nil)) pe_int) (pa_cons (pe_ix ix_list (pe_ix ix_list (pe_ix ix_list (pv 5) (pv 7) (fun _ _ => rfl)) pe_int (fun _ _ => rfl)) (pv 4) (fun _ _ => rfl)) pa_nil))))) (nomark _))))) (pss_one (ps_ret pe_bl)) pss_nil))))))))))))))))))))
      (pss_one (ps_ret pe_bl))))), ?_⟩
    -- the box
    refine ⟨_, rfl, sa, ns, rfl, hS, fun dg H1 ds s1 hdg => ⟨(by show 2 ≤ sizeLine; decide), fun b nb => ?_⟩⟩
    have nbd : dg ≠ b := ne_of_none hdg nb
    have B1 : Box (upd H1 b (.lst [.ref dg, .int 0])) b dg := ⟨0, ds, upd_same, by rw [upd_ne nbd]; exact hdg⟩
    -- the three tests
    refine ⟨rfl, _, rfl, if_no rfl ?_⟩
    refine ⟨_, rfl, lineH, 1176, rfl, rfl, by decide, by rw [lineH_len]; decide, by rw [lineH_len]; decide, fun r er => ?_⟩
    have l1 := lineH_many 1176 er
    refine ⟨r, rfl, by omega, fun hb => absurd hb (by omega), fun _ => ⟨.ok 1176, by rw [er]; exact lineH_reads 1176, fun n en H2 s2 => ?_, fun m w em => nomatch em⟩⟩
    cases en
    refine ⟨rfl, _, rfl, if_no rfl ?_⟩
    refine ⟨_, rfl, lineH, 1177, rfl, rfl, by decide, by rw [lineH_len]; decide, by rw [lineH_len]; decide, fun r2 er2 => ?_⟩
    have l2 := lineH_many 1177 er2
    refine ⟨r2, rfl, by omega, fun _ p H3 s3 hp3 => ?_, fun hb => absurd hb (by omega)⟩
    refine ⟨(by show 2 ≤ sizeLine; decide), fun p2 np2 => ?_⟩
    refine ne_text (by rw [upd_ne (ne_of_none hp3 np2)]; exact hp3) upd_same ⟨_, rfl, if_no rfl ?_⟩
    have B4 := (((B1.same s2).same s3).new (o := .tup [.str "refused", .str "text"]) np2)
    -- for _law_turn in range(5)
    refine ⟨5, rfl, by decide, by decide, ?_⟩
    refine for_range (lo := 0) (n := 5) (fun i σ H' => ∃ (y3 y4 y5 y6 y7 y8 y9 y10 y11 y12 y13 y14 : Option V), σ = [some (.ref sa), some (.ref b), some (.str lineH), y3, y4, y5, y6, y7, y8, y9, y10, y11, y12, y13, y14, none] ∧ Box H' b dg)
      ⟨_, _, _, _, _, _, _, _, _, _, _, _, rfl, B4⟩ (fun i σ H4 hi h => ?_) (fun σ H' h => by
        obtain ⟨_, _, _, _, _, _, _, _, _, _, _, _, rfl, _⟩ := h
        exact fin _)
    obtain ⟨y3, y4, y5, y6, y7, y8, y9, y10, y11, y12, y13, y14, rfl, Bx⟩ := h
    -- _law_lines
    refine ⟨_, rfl, b, dg, 6, rfl, by decide, Bx, fun j0 H5 hj0 B5 b5 => ?_⟩
    refine ⟨_, _, rfl, rfl, _, rfl, (by omega), (by omega), fun L nL => ?_⟩
    obtain ⟨nLb, nLd⟩ := B5.ne_new nL
    refine lc_range (lo := 0) (n := (1 + (j0 : Int)).toNat) (fun i H' => ∃ (qs : List Addr) (ls : List Ln), H' L = some (.lst (qs.map V.ref)) ∧ qs.length = i ∧ ls.length = i ∧ (∀ l ∈ ls, OkLn l) ∧ Box H' b dg ∧
        ∀ (i : Nat) q l, qs[i]? = some q → ls[i]? = some l → ∃ x y, RowAt H' q x y l ∧ q ≠ L ∧ x ≠ L ∧ y ≠ L)
      ⟨[], [], upd_same, rfl, rfl, fun l hl => absurd hl List.not_mem_nil, B5.new nL, fun i q l hq => by simp at hq⟩ (fun i H' hi h => ?_) (fun H6 h => ?_)
    · obtain ⟨qs, ls, hL, e1, e2, ok, B, rows⟩ := h
      refine ⟨rfl, ?_⟩
      refine ⟨_, rfl, b, dg, rfl, B, fun q x y H7 l ol r nq nx ny B7 b7 => ?_⟩
      have hL7 := b7 L _ hL nLb
      have mq : q ≠ L := (ne_of_none hL nq).symm
      have mx : x ≠ L := (ne_of_none hL nx).symm
      have my : y ≠ L := (ne_of_none hL ny).symm
      refine ⟨_, hL7, ?_, qs ++ [q], ls ++ [l], ?_, ?_, ?_, ?_, B7.put nLb nLd, ?_⟩
      · rw [List.length_map, e1]
        exact Nat.lt_of_lt_of_le (show i < 1000000 by omega) (len_line (Nat.le_refl _))
      · rw [upd_same, List.map_append]
        rfl
      · rw [List.length_append, e1]
        rfl
      · rw [List.length_append, e2]
        rfl
      · intro z hz
        rcases List.mem_append.mp hz with hz | hz
        · exact ok z hz
        · rw [List.mem_singleton.mp hz]
          exact ol
      · intro i2 q2 l2 hq hl
        have keep : ∀ {q x y : Addr} {l : Ln}, RowAt H7 q x y l → q ≠ L → x ≠ L → y ≠ L → RowAt (upd H7 L (.lst (qs.map V.ref ++ [.ref q]))) q x y l → True := fun _ _ _ _ _ => trivial
        by_cases c : i2 < qs.length
        · rw [List.getElem?_append_left c] at hq
          rw [List.getElem?_append_left (by omega)] at hl
          obtain ⟨x2, y2, r2, m1, m2, m3⟩ := rows i2 q2 l2 hq hl
          obtain ⟨r21, r22, r23⟩ := r2.but B b7
          exact ⟨x2, y2, ⟨by rw [upd_ne m1]; exact r21, by rw [upd_ne m2]; exact r22, by rw [upd_ne m3]; exact r23⟩, m1, m2, m3⟩
        · have ei : i2 = qs.length := by
            rcases Nat.lt_or_ge i2 (qs ++ [q]).length with g | g
            · rw [List.length_append] at g
              have : ([q] : List Addr).length = 1 := rfl
              omega
            · rw [List.getElem?_eq_none g] at hq
              cases hq
          subst ei
          rw [List.getElem?_append_right (Nat.le_refl _), Nat.sub_self] at hq
          rw [List.getElem?_append_right (by omega), show qs.length - ls.length = 0 by omega] at hl
          obtain rfl : q = q2 := Option.some.inj hq
          obtain rfl : l = l2 := Option.some.inj hl
          exact ⟨x, y, ⟨by rw [upd_ne mq]; exact r.1, by rw [upd_ne mx]; exact r.2.1, by rw [upd_ne my]; exact r.2.2⟩, mq, mx, my⟩
    obtain ⟨qs, ls, hL, e1, e2, ok, B6, rows⟩ := h
    have ln1 : 1 ≤ ls.length := by omega
    have ln6 : ls.length ≤ 6 := by omega
    have eqs : qs.length = ls.length := by omega
    -- _law_texts
    refine ⟨_, rfl, L, rfl, ⟨_, .inl (.inl hL)⟩, fun t nt => ?_⟩
    refine lc_list (K := K) (a := L) (xs := qs.map V.ref) (fun i H' => H' t = some (.lst (((ls.map lineS).take i).map V.str)) ∧ Same H6 H') ⟨upd_same, same_upd nt⟩ (fun i H' _ h => h.2.seq (.inl (.inl hL))) (fun i x H' hx h => ?_) (fun H7 h => ?_)
    · obtain ⟨ht, sm⟩ := h
      rw [List.getElem?_map] at hx
      cases eq : qs[i]? with
      | none =>
        rw [eq] at hx
        cases hx
      | some q =>
        rw [eq] at hx
        obtain rfl : V.ref q = x := Option.some.inj hx
        have il : i < ls.length := by
          rcases Nat.lt_or_ge i qs.length with g | g
          · omega
          · rw [List.getElem?_eq_none g] at eq
            cases eq
        have el : ls[i]? = some ls[i] := List.getElem?_eq_getElem il
        obtain ⟨x, y, r, _, _, _⟩ := rows i q _ eq el
        have ol := ok ls[i] (List.getElem_mem il)
        obtain ⟨z1, z2⟩ := parts_join ol (ps := ls[i].parts) (fun p hp => hp) (Nat.le_refl 5)
        refine ⟨rfl, ?_⟩
        refine ⟨⟨_, rfl⟩, _, rfl, q, _, 0, .ref x, rfl, rfl, .inl (.inl (sm _ _ r.1)), atI_nat (j := 0) rfl, _, x, ls[i].parts, rfl, rfl, .inl (.inl (.inl (sm _ _ r.2.1))), z1, ?_⟩
        refine ⟨_, _, rfl, rfl, ?_, _, ht, ?_, ?_, fun c o h => ?_⟩
        · rw [← len_app]
          exact sz (Nat.le_trans (lineS_len ol) (by decide))
        · rw [List.length_map, List.length_take, List.length_map]
          exact Nat.lt_of_le_of_lt (Nat.min_le_left _ _) (Nat.lt_of_lt_of_le (show i < 1000000 by omega) (len_line (Nat.le_refl _)))
        · rw [upd_same, take_more (l := ls.map lineS) (x := lineS ls[i]) (by rw [List.getElem?_map, el]; rfl), List.map_append]
          rfl
        · rw [upd_ne (ne_of_none h nt)]
          exact sm c o h
    obtain ⟨ht, s7⟩ := h
    rw [List.length_map, List.take_of_length_le (by rw [List.length_map]; omega)] at ht
    -- all of them
    have F1 := flat_len ok
    have zj : ((ls.map lineS).map (·.length)).sum + (ls.map lineS).length * (Str.ofString "").length ≤ 16777216 := by
      have q := sum_len (c := 205) (ys := ls.map lineS) fun y hy => by
        obtain ⟨l, hl, rfl⟩ := List.mem_map.mp hy
        exact lineS_len (ok l hl)
      rw [List.length_map] at q ⊢
      rw [show (Str.ofString "").length = 0 from by decide +kernel]
      omega
    have lz : (Txt.join (Str.ofString "") (ls.map lineS)).length ≤ 1230 := by
      rw [TL.len_tl, join_lines]
      omega
    refine ⟨⟨_, rfl⟩, _, rfl, _, t, ls.map lineS, rfl, rfl, .inl (.inl (.inl ht)), zj, ?_⟩
    refine ⟨_, rfl, by omega, fun hb => absurd hb (by omega), fun _ => ⟨.ok ls.length, ?_, fun n en H8 s8 => ?_, fun m w em => nomatch em⟩⟩
    · rw [join_lines]
      have q := reads_all (ls := ls.map lineL) fun x hx => by
        obtain ⟨l, hl, rfl⟩ := List.mem_map.mp hx
        exact (ok l hl).line
      rw [List.length_map] at q
      exact q
    cases en
    have hL8 := s8 _ _ (s7 _ _ hL)
    refine ⟨_, rfl, L, _, rfl, .inl (.inl (.inl hL8)), rfl, _, rfl, if_no (by rw [List.length_map, eqs, decide_eq_true rfl]; rfl) ?_⟩
    -- _law_at, _law_k
    have B8 := (B6.same s7).same s8
    refine ⟨_, rfl, _, rfl, L, _, rfl, .inl (.inl (.inl hL8)), b, dg, (qs.map V.ref).length, rfl, by rw [List.length_map]; omega, B8, fun j H9 hj B9 b9 => ?_⟩
    rw [List.length_map] at hj
    have hj2 : j < ls.length := by omega
    have eq : qs[j]? = some qs[j] := List.getElem?_eq_getElem hj
    have el : ls[j]? = some ls[j] := List.getElem?_eq_getElem hj2
    obtain ⟨x, y, r, _, _, _⟩ := rows j _ _ eq el
    have ol : OkLn ls[j] := ok _ (List.getElem_mem hj2)
    have S8 : Sel H8 b dg L t qs ls qs[j] x y ls[j] := (Sel.mk (B6.same s7) (s7 _ _ hL) ht ⟨s7 _ _ r.1, s7 _ _ r.2.1, s7 _ _ r.2.2⟩ : Sel H7 b dg L t qs ls qs[j] x y ls[j]).same s8
    have S9 := S8.but B9 b9
    have okt : ∀ z ∈ ls.take j, OkLn z := fun z hz => ok z (List.mem_of_mem_take hz)
    have lt : (ls.take j).length = j := by rw [List.length_take]; omega
    have eat : atI (qs.map V.ref) (j : Int) = some (.ref qs[j]) := atI_nat (by rw [List.getElem?_map, eq]; rfl)
    generalize ls[j] = l at S9 ol
    generalize qs[j] = q at S9 eat
    refine ⟨_, rfl, b, dg, 5, rfl, by decide, B9, fun k H10 hk B10 b10 => ?_⟩
    have S10 := S9.but B10 b10
    -- _law_ahead
    obtain ⟨zt1, zt2⟩ := parts_join ol (ps := l.parts.take k) (fun p hp => List.mem_of_mem_take hp) (by rw [List.length_take]; exact Nat.min_le_right _ _)
    refine ⟨⟨_, rfl⟩, _, rfl, _, rfl, L, _, _, .ref q, rfl, rfl, .inl (.inl S10.hL), eat, q, _, _, .ref x, rfl, rfl, .inl (.inl S10.hr.1), atI_nat (j := 0) rfl, _, rfl, (k : Int), rfl, x, _, rfl, .inl (.inl S10.hr.2.1), fun c1 nc1 => ?_⟩
    have S11 := S10.same (same_upd (o := .lst (cutV (l.parts.map V.str) none (some (k : Int)))) nc1)
    refine ⟨_, c1, l.parts.take k, rfl, rfl, .inl (.inl (.inl (by rw [upd_same, cut_take]))), zt1, ?_⟩
    generalize upd H10 c1 (.lst (cutV (l.parts.map V.str) none (some (k : Int)))) = H11 at S11
    have lA : (Txt.join (Str.ofString " ") (l.parts.take k)).length ≤ 205 := by rw [TL.len_tl]; exact zt2
    refine ⟨fun σ' H' => ∃ A : Str, σ' = [some (.ref sa), some (.ref b), some (.str lineH), some (.int (0 + (i : Int))), some (.int (k : Int)), some (.ref L), some (.ref t), some (.int (j : Int)), some (.str A), y9, y10, y11, y12, y13, y14, none] ∧ TL.tl A = ahd l k ∧ H' = H11, ?_, fun σ' H' hM => ?_⟩
    · refine ⟨_, rfl, _, _, rfl, rfl, _, rfl, ite2 (fun h => ?_) (fun h => ?_)⟩
      · have k0 : 0 < k := by
          have := of_decide_eq_true h
          omega
        refine ⟨_, rfl, _, _, rfl, rfl, ?_, _, rfl, ahd_pos l k0, rfl⟩
        rw [show (Str.ofString " ").length = 1 from by decide +kernel]
        exact sz (by omega)
      · have k0 : k = 0 := by
          have : ¬ ((0 : Int) < (k : Int)) := fun q => h (decide_eq_true q)
          omega
        subst k0
        exact ⟨_, rfl, ahd_zero l, rfl⟩
    obtain ⟨A, rfl, eA, rfl⟩ := hM
    have lA2 : A.length ≤ 205 := by rw [TL.len_tl, eA]; exact ahd_len ol k
    -- _law_before
    have lB0 : (Txt.join (Str.ofString "") ((ls.take j).map lineS)).length ≤ 1230 := by
      rw [TL.len_tl, join_lines]
      have := flat_len okt
      rw [lt] at this
      omega
    have zj2 : (((ls.take j).map lineS).map (·.length)).sum + ((ls.take j).map lineS).length * (Str.ofString "").length ≤ 16777216 := by
      have q := sum_len (c := 205) (ys := (ls.take j).map lineS) fun y hy => by
        obtain ⟨l, hl, rfl⟩ := List.mem_map.mp hy
        exact lineS_len (okt l hl)
      rw [List.length_map, lt] at q
      rw [List.length_map, lt, show (Str.ofString "").length = 0 from by decide +kernel]
      omega
    have ejt : (ls.map lineS).take j = (ls.take j).map lineS := by rw [List.map_take]
    refine ⟨⟨_, rfl⟩, _, rfl, _, rfl, (j : Int), rfl, t, _, rfl, .inl (.inl S11.ht), fun c2 nc2 => ?_⟩
    have S12 := S11.same (same_upd (o := .lst (cutV ((ls.map lineS).map V.str) none (some (j : Int)))) nc2)
    refine ⟨_, c2, (ls.take j).map lineS, rfl, rfl, .inl (.inl (.inl (by rw [upd_same, cut_take, ejt]))), zj2, _, rfl, _, _, rfl, rfl, sz (by omega), ?_⟩
    generalize upd H' c2 (.lst (cutV ((ls.map lineS).map V.str) none (some (j : Int)))) = H12 at S12
    have eB : TL.tl (Txt.join (Str.ofString "") ((ls.take j).map lineS) ++ A) = ((ls.take j).map lineL).flatten ++ ahd l k := by
      rw [TL.tl_append, join_lines, eA]
    have lB : (Txt.join (Str.ofString "") ((ls.take j).map lineS) ++ A).length ≤ 1435 := by
      rw [len_app]
      omega
    generalize Txt.join (Str.ofString "") ((ls.take j).map lineS) ++ A = Bf at eB lB
    -- _law_wrong_here
    refine ⟨_, rfl, _, rfl, b, dg, k, rfl, hk, S12.bx, fun v H13 hv B13 b13 => ?_⟩
    have S13 := S12.but B13 b13
    obtain ⟨_, _, lv⟩ := wrong_of hv
    -- _law_rest
    refine ⟨(by show 3 ≤ sizeLine; decide), fun c3 nc3 => ?_⟩
    have S14 := S13.same (same_upd (o := .lst [.str " ", .str "\n", .str ""]) nc3)
    obtain ⟨mc3, _⟩ := S13.bx.ne_new nc3
    refine ⟨_, rfl, b, dg, 3, rfl, by decide, S14.bx, fun j3 H15 hj3 B15 b15 => ?_⟩
    have S15 := S14.but B15 b15
    obtain ⟨v0, mem0, e0⟩ := pick (l := [" ", "\n", ""]) (j := j3) (by show j3 < 3; exact hj3)
    have lv0 : v0.length ≤ 1 := by
      simp only [List.mem_cons, List.not_mem_nil, or_false] at mem0
      rcases mem0 with rfl | rfl | rfl <;> decide +kernel
    obtain ⟨zd1, zd2⟩ := parts_join ol (ps := l.parts.drop (k + 1)) (fun p hp => List.mem_of_mem_drop hp) (by rw [List.length_drop]; exact Nat.sub_le _ _)
    refine ⟨c3, _, _, _, rfl, rfl, .inl (.inl (b15 c3 _ upd_same mc3)), e0, ⟨_, rfl⟩, _, rfl, _, rfl, L, _, _, .ref q, rfl, rfl, .inl (.inl S15.hL), eat, q, _, _, .ref x, rfl, rfl, .inl (.inl S15.hr.1), atI_nat (j := 0) rfl, _, rfl, _, _, rfl, rfl, _, rfl, x, _, rfl, .inl (.inl S15.hr.2.1), fun c4 nc4 => ?_⟩
    have S16 := S15.same (same_upd (o := .lst (cutV (l.parts.map V.str) (some ((k : Int) + 1)) none)) nc4)
    have ldr : (Txt.join (Str.ofString " ") (l.parts.drop (k + 1))).length ≤ 205 := by rw [TL.len_tl]; exact zd2
    refine ⟨_, c4, l.parts.drop (k + 1), rfl, rfl, .inl (.inl (.inl (upd_same.trans (congrArg (fun z => some (HO.lst z)) (cut_drop l.parts (k + 1)))))), zd1, _, _, rfl, rfl, sz (by omega), _, _, rfl, rfl, ?_, ?_⟩
    · rw [len_app, show (Str.ofString "\n").length = 1 from by decide +kernel]
      exact sz (by omega)
    generalize upd H15 c4 (.lst (cutV (l.parts.map V.str) (some ((k : Int) + 1)) none)) = H16 at S16
    have lR0 : (v0 ++ Txt.join (Str.ofString " ") (l.parts.drop (k + 1)) ++ Str.ofString "\n").length ≤ 300 := by
      rw [len_app, len_app, show (Str.ofString "\n").length = 1 from by decide +kernel]
      omega
    have nR0 : TL.tl (v0 ++ Txt.join (Str.ofString " ") (l.parts.drop (k + 1)) ++ Str.ofString "\n") ≠ [] := by
      rw [TL.tl_append, show TL.tl (Str.ofString "\n") = [10] from tl_nl]
      simp
    generalize v0 ++ Txt.join (Str.ofString " ") (l.parts.drop (k + 1)) ++ Str.ofString "\n" = R0 at lR0 nR0
    refine ⟨fun σ' H' => ∃ R : Str, σ' = [some (.ref sa), some (.ref b), some (.str lineH), some (.int (0 + (i : Int))), some (.int (k : Int)), some (.ref L), some (.ref t), some (.int (j : Int)), some (.str A), some (.str Bf), some (.str v), some (.str R), y12, y13, y14, none] ∧ Cut (TL.tl R) ∧ TL.tl R ≠ [] ∧ R.length ≤ 301 ∧ H' = H16, ?_, fun σ' H' hM => ?_⟩
    · have yes : tAsg (tOp (fun x y H Q => ∃ i j, x = .str i ∧ y = .str j ∧ i.length + j.length ≤ sizeLine ∧ Q (.str (i ++ j)) H) (tC (.str " ")) (tVar 11)) (gName 11) { nx := fun σ' H' => ∃ R : Str, σ' = [some (.ref sa), some (.ref b), some (.str lineH), some (.int (0 + (i : Int))), some (.int (k : Int)), some (.ref L), some (.ref t), some (.int (j : Int)), some (.str A), some (.str Bf), some (.str v), some (.str R), y12, y13, y14, none] ∧ Cut (TL.tl R) ∧ TL.tl R ≠ [] ∧ R.length ≤ 301 ∧ H' = H16, rt := Q, bk := fun _ _ => False, ct := fun _ _ => False }
          [some (.ref sa), some (.ref b), some (.str lineH), some (.int (0 + (i : Int))), some (.int (k : Int)), some (.ref L), some (.ref t), some (.int (j : Int)), some (.str A), some (.str Bf), some (.str v), some (.str R0), y12, y13, y14, none] H16 := by
        have e1 : (Str.ofString " ").length = 1 := by decide +kernel
        refine ⟨_, rfl, _, _, rfl, rfl, sz (by omega), _, rfl, ?_, ?_, ?_, rfl⟩
        · rw [TL.tl_append, sp_tl]
          exact .sp
        · rw [TL.tl_append, sp_tl]
          simp
        · rw [len_app]
          omega
      refine ⟨_, rfl, rfl, _, rfl, ?_⟩
      by_cases cv : v = ""
      · exact if_yes (decide_eq_true (congrArg V.str cv)) (if_yes rfl yes)
      · refine if_no (decide_eq_false fun e => cv (V.str.inj e)) ?_
        obtain ⟨c, cr, ec⟩ : ∃ c cr, TL.tl R0 = c :: cr := by
          cases e : TL.tl R0 with
          | nil => exact absurd e nR0
          | cons c cr => exact ⟨c, cr, rfl⟩
        refine ⟨_, rfl, R0, 0, c, rfl, rfl, sz (by omega), atI_nat (j := 0) (by rw [show R0.cps.toList = c :: cr from ec]; rfl), c, _, rfl, rfl, _, rfl, ?_⟩
        rw [show (Str.ofString " \n").cps.toList = [32, 10] from by decide +kernel]
        by_cases cc : c ∈ [32, 10]
        · refine if_no (by rw [decide_eq_true cc]; rfl) ⟨R0, rfl, .inr ⟨c, cr, ec, ?_⟩, nR0, by omega, rfl⟩
          simp only [List.mem_cons, List.not_mem_nil, or_false] at cc
          rcases cc with rfl | rfl <;> rfl
        · exact if_yes (by rw [decide_eq_false cc]; rfl) yes
    obtain ⟨R, rfl, cR, nR, lR, rfl⟩ := hM
    obtain ⟨ewk, hw1, hw2⟩ := words_at hk
    -- another part
    have eZ : TL.tl (Bf ++ v ++ R) = ((ls.take j).map lineL).flatten ++ (ahd l k ++ (TL.tl v ++ TL.tl R)) := by
      rw [TL.tl_append, TL.tl_append, eB]
      simp
    have lZ : (Bf ++ v ++ R).length ≤ 2000 := by
      rw [len_app, len_app]
      omega
    obtain ⟨M1, rd1, ln1', cl1⟩ := fault_wrong okt ol hk hv cR (by simp [nR]) eZ
    rw [lt] at ln1'
    rw [← eA, ← TL.len_tl] at cl1
    refine ⟨_, rfl, _, rfl, _, _, rfl, rfl, sz (by omega), _, rfl, _, _, rfl, rfl, (by rw [len_app]; exact sz (by omega)), ?_⟩
    refine ⟨_, rfl, by omega, fun hb => absurd hb (by omega), fun _ => ⟨.error (M1, (kd k).w), rd1, fun n en => (nomatch en), fun m w em p1 H17 s17 hp1 => ?_⟩⟩
    cases em
    have S17 := S16.same s17
    refine ⟨_, rfl, _, _, rfl, rfl, _, rfl, A, rfl, sz (by omega), _, _, rfl, rfl, _, rfl, _, rfl, L, _, _, .ref q, rfl, rfl, .inl (.inl S17.hL), eat, q, _, _, .ref y, rfl, rfl, .inl (.inl S17.hr.1), atI_nat (j := 1) rfl, _, rfl, y, _, _, _, rfl, rfl, .inl (.inl S17.hr.2.2), ewk, (by show 4 ≤ sizeLine; decide), fun c5 nc5 => ?_⟩
    refine ne_told (by rw [upd_ne (ne_of_none hp1 nc5)]; exact hp1) upd_same ln1' cl1 rfl hw1 ⟨_, rfl, if_no rfl ?_⟩
    have S18 := S17.same (same_upd (o := .tup [.str "refused", .int ((j : Int) + 1), .int ((A.length : Int) + 1), .str (kd k).w]) nc5)
    generalize upd H17 c5 (.tup [.str "refused", .int ((j : Int) + 1), .int ((A.length : Int) + 1), .str (kd k).w]) = H18 at S18
    -- the good part, another sign
    obtain ⟨gp, egp, hgp⟩ : ∃ gp : Str, atI (l.parts.map V.str) (k : Int) = some (.str gp) ∧ l.parts[k]? = some gp := by
      have e : l.parts[k]? = some l.parts[k] := List.getElem?_eq_getElem (show k < 5 from hk)
      exact ⟨_, atI_nat (by rw [List.getElem?_map, e]; rfl), e⟩
    have lg : gp.length ≤ 40 := ol.sz gp (List.mem_of_getElem? hgp)
    obtain ⟨sg, c, esg, esw, tsg, sc, nc⟩ := sign_at hk
    refine ⟨_, rfl, _, rfl, L, _, _, .ref q, rfl, rfl, .inl (.inl S18.hL), eat, q, _, _, .ref x, rfl, rfl, .inl (.inl S18.hr.1), atI_nat (j := 0) rfl, _, rfl, x, _, _, _, rfl, rfl, .inl (.inl S18.hr.2.1), egp, ?_⟩
    refine ⟨(by show 2 ≤ sizeLine; decide), fun c6 nc6 => ?_⟩
    have S19 := S18.same (same_upd (o := .lst [.str " ", .str "\n"]) nc6)
    refine ⟨_, rfl, _, _, rfl, rfl, .inr ⟨_, rfl, c6, _, _, _, rfl, rfl, .inl (.inl upd_same), esg, ?_⟩⟩
    refine ⟨(by show 2 ≤ sizeLine; decide), fun c7 nc7 => ?_⟩
    have S20 := S19.same (same_upd (o := .lst [.str "expected a newline", .str "expected a space"]) nc7)
    refine ⟨_, rfl, _, _, rfl, rfl, .inr ⟨_, rfl, c7, _, _, _, rfl, rfl, .inl (.inl upd_same), esw, ?_⟩⟩
    generalize upd (upd H18 c6 (.lst [.str " ", .str "\n"])) c7 (.lst [.str "expected a newline", .str "expected a space"]) = H20 at S20
    have lsg : sg.length = 1 := by rw [TL.len_tl, tsg]; rfl
    have lx : (Str.ofString "x").length = 1 := by decide +kernel
    have ngp : TL.tl gp ≠ [] := fun e => by
      have q1 := part_ok ol hgp
      rw [e, kd_nil hk] at q1
      cases q1
    have eZ2 : TL.tl (Bf ++ gp ++ sg ++ Str.ofString "x") = ((ls.take j).map lineL).flatten ++ (ahd l k ++ (TL.tl gp ++ (c :: TL.tl (Str.ofString "x")))) := by
      rw [TL.tl_append, TL.tl_append, TL.tl_append, eB, tsg]
      simp
    have lZ2 : (Bf ++ gp ++ sg ++ Str.ofString "x").length ≤ 2000 := by
      rw [len_app, len_app, len_app]
      omega
    obtain ⟨M2, rd2, ln2, cl2⟩ := fault_sign okt ol hk hgp (.inr ⟨_, _, rfl, sc⟩) (fun e => nc (Option.some.inj e)) (by simp) eZ2
    rw [lt] at ln2
    rw [← eA, ← TL.len_tl] at cl2
    refine ⟨_, rfl, _, rfl, _, _, rfl, rfl, sz (by omega), _, rfl, _, _, rfl, rfl, (by rw [len_app]; exact sz (by omega)), _, _, rfl, rfl, (by rw [len_app, len_app]; exact sz (by omega)), ?_⟩
    refine ⟨_, rfl, by omega, fun hb => absurd hb (by omega), fun _ => ⟨.error (M2, (kd k).sw), rd2, fun n en => (nomatch en), fun m w em p2 H21 s21 hp2 => ?_⟩⟩
    cases em
    have S21 := S20.same s21
    refine ⟨_, rfl, _, _, rfl, rfl, _, rfl, A, rfl, sz (by omega), _, rfl, gp, rfl, sz (by omega), _, _, rfl, rfl, _, _, rfl, rfl, _, rfl, (by show 4 ≤ sizeLine; decide), fun c8 nc8 => ?_⟩
    refine ne_told (by rw [upd_ne (ne_of_none hp2 nc8)]; exact hp2) upd_same ln2 cl2 rfl hw2 ⟨_, rfl, if_no rfl ?_⟩
    have S22 := S21.same (same_upd (o := .tup [.str "refused", .int ((j : Int) + 1), .int ((A.length : Int) + (gp.length : Int) + 1), .str (kd k).sw]) nc8)
    generalize upd H21 c8 (.tup [.str "refused", .int ((j : Int) + 1), .int ((A.length : Int) + (gp.length : Int) + 1), .str (kd k).sw]) = H22 at S22
    -- the text ends behind the good part
    have eZ3 : TL.tl (Bf ++ gp) = ((ls.take j).map lineL).flatten ++ (ahd l k ++ (TL.tl gp ++ [])) := by
      rw [TL.tl_append, eB]
      simp
    have lZ3 : (Bf ++ gp).length ≤ 2000 := by
      rw [len_app]
      omega
    obtain ⟨M3, rd3, ln3, cl3⟩ := fault_sign okt ol hk hgp Cut.nil (fun e => nomatch e) (by simp [ngp]) eZ3
    rw [lt] at ln3
    rw [← eA, ← TL.len_tl] at cl3
    refine ⟨_, rfl, _, rfl, _, _, rfl, rfl, sz (by omega), ?_⟩
    refine ⟨_, rfl, by omega, fun hb => absurd hb (by omega), fun _ => ⟨.error (M3, (kd k).sw), rd3, fun n en => (nomatch en), fun m w em p3 H23 s23 hp3 => ?_⟩⟩
    cases em
    have S23 := S22.same s23
    refine ⟨_, rfl, _, _, rfl, rfl, _, rfl, A, rfl, sz (by omega), _, rfl, gp, rfl, sz (by omega), _, _, rfl, rfl, _, _, rfl, rfl, _, rfl, (by show 4 ≤ sizeLine; decide), fun c9 nc9 => ?_⟩
    refine ne_told (by rw [upd_ne (ne_of_none hp3 nc9)]; exact hp3) upd_same ln3 cl3 rfl hw2 ⟨_, rfl, if_no rfl ?_⟩
    have S24 := S23.same (same_upd (o := .tup [.str "refused", .int ((j : Int) + 1), .int ((A.length : Int) + (gp.length : Int) + 1), .str (kd k).sw]) nc9)
    generalize upd H23 c9 (.tup [.str "refused", .int ((j : Int) + 1), .int ((A.length : Int) + (gp.length : Int) + 1), .str (kd k).sw]) = H24 at S24
    -- the text ends ahead of the part
    refine ⟨_, rfl, _, _, rfl, rfl, _, rfl, ite2 (fun h => ?_) (fun _ => if_no rfl ⟨_, _, _, _, _, _, _, _, _, _, _, _, rfl, S24.bx⟩)⟩
    have k0 : 0 < k := by
      have := of_decide_eq_true h
      omega
    have eZ4 : TL.tl Bf = ((ls.take j).map lineL).flatten ++ (ahd l k ++ (TL.tl (Str.ofString "") ++ [])) := by
      rw [em_tl, eB]
      simp
    have nah : ahd l k ≠ [] := by
      rw [← ahd_pos l k0, TL.tl_append, sp_tl]
      simp
    obtain ⟨M4, rd4, ln4, cl4⟩ := fault_wrong okt ol hk (wrong_nil hk) Cut.nil (by simp [nah]) eZ4
    rw [lt] at ln4
    rw [← eA, ← TL.len_tl] at cl4
    refine ⟨_, rfl, ?_⟩
    refine ⟨_, rfl, by omega, fun hb => absurd hb (by omega), fun _ => ⟨.error (M4, (kd k).w), rd4, fun n en => (nomatch en), fun m w em p4 H25 s25 hp4 => ?_⟩⟩
    cases em
    have S25 := S24.same s25
    refine ⟨_, rfl, _, _, rfl, rfl, _, rfl, A, rfl, sz (by omega), _, _, rfl, rfl, _, rfl, _, rfl, L, _, _, .ref q, rfl, rfl, .inl (.inl S25.hL), eat, q, _, _, .ref y, rfl, rfl, .inl (.inl S25.hr.1), atI_nat (j := 1) rfl, _, rfl, y, _, _, _, rfl, rfl, .inl (.inl S25.hr.2.2), ewk, (by show 4 ≤ sizeLine; decide), fun c10 nc10 => ?_⟩
    refine ne_told (by rw [upd_ne (ne_of_none hp4 nc10)]; exact hp4) upd_same ln4 cl4 rfl hw1 ⟨_, rfl, if_no rfl ?_⟩
    exact ⟨_, _, _, _, _, _, _, _, _, _, _, _, rfl, S25.bx.new nc10⟩
end
end K24
/-! What the top has written; the end. -/
namespace K24
open PySem PySem.Spec PyProof.Rows L2
theorem kit_same {K : PySem.W.Frag} (C : Addr) : PySem.W.kitOne K (.ref C) (.ref C) = some true := by
  unfold PySem.W.kitOne
  rw [if_pos (beq_self_eq_true _)]
theorem kit_sub {K : PySem.W.Frag} {C D : Addr} {b : Bool} (h2 : PySem.W.isClsIn K D = true) (h3 : PySem.W.typeIn K (.ref D) = some (.type "type")) (h4 : PySem.W.subIn K (.ref C) (.ref D) = some b) (ne : C ≠ D) : PySem.W.kitOne K (.ref C) (.ref D) = some b := by
  unfold PySem.W.kitOne
  rw [if_neg (fun e => ne (by injection beq_iff_eq.mp e))]
  show (if ((PySem.W.clsIn K D).isSome && PySem.W.typeIn K (.ref D) == some (.type "type")) = true then PySem.W.subIn K (.ref C) (.ref D) else none) = some b
  have h2' : (PySem.W.clsIn K D).isSome = true := h2
  rw [if_pos (by rw [h2', h3]; exact beq_self_eq_true _)]
  exact h4
theorem ne_sub {K : PySem.W.Frag} {C D : Addr} (h1 : PySem.W.subIn K (.ref C) (.ref C) = some true) (h2 : PySem.W.subIn K (.ref C) (.ref D) = some false) : C ≠ D := fun e => by
  rw [← e, h1] at h2
  cases h2
theorem all_mk {l : PySem.W.OpenLaw} {w : World} {K : PySem.W.Frag} {h : Heap} {mg : Str → Option Value} {fa CE CT CO CR : Addr} (X : K.In h) (G : h.Ns mainGlobals mg) (hfa : mg "law" = some (.ref fa))
    {nmCT qCT : Str} {NCT : Addr} {bsCT : List Value} {snCT : List Str} {subCT : List Value} {abCT : Bool} {colCT : Option Bool} {ddCT : Option Addr} {m0CT m1CT m2CT m3CT m5CT : Option Value}
    {nmCO qCO : Str} {NCO : Addr} {bsCO : List Value} {snCO : List Str} {subCO : List Value} {abCO : Bool} {colCO : Option Bool} {ddCO : Option Addr} {m0CO m1CO m2CO m3CO m5CO : Option Value}
    {fTI : Addr} {ocTI kVTI dcTI pmTI cdTI ctTI : Value} {odTI anTI : Option Addr} {slTI : Array (Option Value)}
    {fOI : Addr} {ocOI kVOI dcOI pmOI cdOI ctOI : Value} {odOI anOI : Option Addr} {slOI : Array (Option Value)}
    {fNum : Addr} {ocNum kVNum dcNum pmNum cdNum ctNum : Value} {odNum anNum : Option Addr} {slNum : Array (Option Value)}
    {fPath : Addr} {ocPath kVPath dcPath pmPath cdPath ctPath : Value} {odPath anPath : Option Addr} {slPath : Array (Option Value)}
    {fInst : Addr} {ocInst kVInst dcInst pmInst cdInst ctInst : Value} {odInst anInst : Option Addr} {slInst : Array (Option Value)}
    {fRes : Addr} {ocRes kVRes dcRes pmRes cdRes ctRes : Value} {odRes anRes : Option Addr} {slRes : Array (Option Value)}
    {fRI : Addr} {ocRI kVRI dcRI pmRI cdRI ctRI : Value} {odRI anRI : Option Addr} {slRI : Array (Option Value)}
    {fAt : Addr} {ocAt kVAt dcAt pmAt cdAt ctAt : Value} {odAt anAt : Option Addr} {slAt : Array (Option Value)}
    {fRef : Addr} {ocRef kVRef dcRef pmRef cdRef ctRef : Value} {odRef anRef : Option Addr} {slRef : Array (Option Value)}
    {fPart : Addr} {ocPart kVPart dcPart pmPart cdPart ctPart : Value} {odPart anPart : Option Addr} {slPart : Array (Option Value)}
    {fStep : Addr} {ocStep kVStep dcStep pmStep cdStep ctStep : Value} {odStep anStep : Option Addr} {slStep : Array (Option Value)}
    {fExp : Addr} {ocExp kVExp dcExp pmExp cdExp ctExp : Value} {odExp anExp : Option Addr} {slExp : Array (Option Value)}
    {fRP : Addr} {ocRP kVRP dcRP pmRP cdRP ctRP : Value} {odRP anRP : Option Addr} {slRP : Array (Option Value)}
    {fRN : Addr} {ocRN kVRN dcRN pmRN cdRN ctRN : Value} {odRN anRN : Option Addr} {slRN : Array (Option Value)}
    {fRO : Addr} {ocRO kVRO dcRO pmRO cdRO ctRO : Value} {odRO anRO : Option Addr} {slRO : Array (Option Value)}
    {fRR : Addr} {ocRR kVRR dcRR pmRR cdRR ctRR : Value} {odRR anRR : Option Addr} {slRR : Array (Option Value)}
    {fTr : Addr} {ocTr kVTr dcTr pmTr cdTr ctTr : Value} {odTr anTr : Option Addr} {slTr : Array (Option Value)}
    {fCell : Addr} {ocCell kVCell dcCell pmCell cdCell ctCell : Value} {odCell anCell : Option Addr} {slCell : Array (Option Value)}
    {fDig : Addr} {ocDig kVDig dcDig pmDig cdDig ctDig : Value} {odDig anDig : Option Addr} {slDig : Array (Option Value)}
    {fDraw : Addr} {ocDraw kVDraw dcDraw pmDraw cdDraw ctDraw : Value} {odDraw anDraw : Option Addr} {slDraw : Array (Option Value)}
    {fTold : Addr} {ocTold kVTold dcTold pmTold cdTold ctTold : Value} {odTold anTold : Option Addr} {slTold : Array (Option Value)}
    {fLine : Addr} {ocLine kVLine dcLine pmLine cdLine ctLine : Value} {odLine anLine : Option Addr} {slLine : Array (Option Value)}
    {fWrong : Addr} {ocWrong kVWrong dcWrong pmWrong cdWrong ctWrong : Value} {odWrong anWrong : Option Addr} {slWrong : Array (Option Value)}
    {fLaw : Addr} {ocLaw kVLaw dcLaw pmLaw cdLaw ctLaw : Value} {odLaw anLaw : Option Addr} {slLaw : Array (Option Value)}
    {tN : Tok}
    {tD : Tok}
    {tT : Tok}
    {tS : Tok}
    {tE : Tok}
    {aOut : Addr} {odO : Option Addr} {tO1 tO2 tO3 : Tok} {mO : Nat} {slO : Array (Option Value)}
    (nCE : PySem.W.nsIn K mainGlobals "ForetoldError" = some (some (.ref CE)))
    (nCT : PySem.W.nsIn K mainGlobals "TextFault" = some (some (.ref CT)))
    (nCO : PySem.W.nsIn K mainGlobals "OutOfRange" = some (some (.ref CO)))
    (nCR : PySem.W.nsIn K mainGlobals "Reader" = some (some (.ref CR)))
    (xCT : K.lookup CT = some (excClassObj nmCT qCT CT NCT bsCT [.ref CE, .type "ValueError", .type "Exception", .type "BaseException", .type "object"] true snCT subCT abCT colCT ddCT m0CT m1CT m2CT m3CT m5CT "ValueError.__new__"))
    (saCT : PySem.W.findIn K (.ref CT) "__setattr__" = some (some (.builtin "object.__setattr__")))
    (exCT : PySem.W.subIn K (.ref CT) (.type "BaseException") = some true)
    (tyCT : PySem.W.typeIn K (.ref CT) = some (.type "type"))
    (kpCT : PySem.W.keepIn K (.ref CT) = true)
    (gaCT : PySem.W.findIn K (.ref CT) "__getattribute__" = some (some (.builtin "BaseException.__getattribute__")))
    (ggCT : PySem.W.findIn K (.ref CT) "__getattr__" = some (none))
    (hdCT : PySem.W.hasDictIn K CT = true)
    (clCT : PySem.W.findIn K (.ref CT) "__class__" = some (some (.builtin "object.__class__")))
    (mrCT : PySem.W.mroIn K CT (.type "object") = some true)
    (icCT : PySem.W.isClsIn K CT = true)
    (seCT : PySem.W.subIn K (.ref CT) (.ref CE) = some true)
    (ssCT : PySem.W.subIn K (.ref CT) (.ref CT) = some true)
    (xCO : K.lookup CO = some (excClassObj nmCO qCO CO NCO bsCO [.ref CE, .type "ValueError", .type "Exception", .type "BaseException", .type "object"] true snCO subCO abCO colCO ddCO m0CO m1CO m2CO m3CO m5CO "ValueError.__new__"))
    (saCO : PySem.W.findIn K (.ref CO) "__setattr__" = some (some (.builtin "object.__setattr__")))
    (exCO : PySem.W.subIn K (.ref CO) (.type "BaseException") = some true)
    (tyCO : PySem.W.typeIn K (.ref CO) = some (.type "type"))
    (kpCO : PySem.W.keepIn K (.ref CO) = true)
    (gaCO : PySem.W.findIn K (.ref CO) "__getattribute__" = some (some (.builtin "BaseException.__getattribute__")))
    (ggCO : PySem.W.findIn K (.ref CO) "__getattr__" = some (none))
    (hdCO : PySem.W.hasDictIn K CO = true)
    (clCO : PySem.W.findIn K (.ref CO) "__class__" = some (some (.builtin "object.__class__")))
    (mrCO : PySem.W.mroIn K CO (.type "object") = some true)
    (icCO : PySem.W.isClsIn K CO = true)
    (seCO : PySem.W.subIn K (.ref CO) (.ref CE) = some true)
    (ssCO : PySem.W.subIn K (.ref CO) (.ref CO) = some true)
    (sTO : PySem.W.subIn K (.ref CT) (.ref CO) = some false)
    (sOT : PySem.W.subIn K (.ref CO) (.ref CT) = some false)
    (exCE : PySem.W.subIn K (.ref CE) (.type "BaseException") = some true)
    (hdCE : PySem.W.hasDictIn K CE = true)
    (tyCE : PySem.W.typeIn K (.ref CE) = some (.type "type"))
    (spc : PySem.W.specialIn K (.builtin "object.__class__") "__get__" = some (some (.builtin "getset_descriptor.__get__")))
    (tks : PySem.W.takesIn K (.builtin "object.__class__") = some true)
    (zline : PySem.W.findIn K (.ref CT) "line" = some (none))
    (zcolumn : PySem.W.findIn K (.ref CT) "column" = some (none))
    (zwords : PySem.W.findIn K (.ref CT) "words" = some (none))
    (zname : PySem.W.findIn K (.ref CO) "name" = some (none))
    (pgR : PySem.W.plainGet K CR Str.empty = true)
    (hdR : PySem.W.hasDictIn K CR = true)
    (poR : PySem.W.plainOver K CR = true)
    (saR : PySem.W.findIn K (.ref CR) "__setattr__" = some (some (.builtin "object.__setattr__")))
    (mkR : PySem.W.makesIn K CR = true)
    (kpR : PySem.W.keepIn K (.ref CR) = true)
    (ntR : PySem.W.findIn K (.ref CR) "_text" = some (none))
    (naR : PySem.W.findIn K (.ref CR) "_at" = some (none))
    (aTI : PySem.W.findIn K (.ref CT) "__init__" = some (some (.ref fTI)))
    (iTI : PySem.W.typeIn K (.ref fTI) = some (.type "function"))
    (lTI : K.lookup fTI = some ⟨ocTI, odTI, .func (PySem.W.fnOf "__init__" "TextFault.__init__" (defArgs sTI) (defBody sTI) (defScope sTI) .none kVTI dcTI pmTI anTI cdTI ctTI), slTI⟩)
    (cTI : PySem.W.codeIn K cdTI "TextFault.__init__" = true)
    (kTI : PySem.W.keepIn K (.ref fTI) = true)
    (aOI : PySem.W.findIn K (.ref CO) "__init__" = some (some (.ref fOI)))
    (iOI : PySem.W.typeIn K (.ref fOI) = some (.type "function"))
    (lOI : K.lookup fOI = some ⟨ocOI, odOI, .func (PySem.W.fnOf "__init__" "OutOfRange.__init__" (defArgs sOI) (defBody sOI) (defScope sOI) .none kVOI dcOI pmOI anOI cdOI ctOI), slOI⟩)
    (cOI : PySem.W.codeIn K cdOI "OutOfRange.__init__" = true)
    (kOI : PySem.W.keepIn K (.ref fOI) = true)
    (aNum : PySem.W.nsIn K mainGlobals "read_number" = some (some (.ref fNum)))
    (lNum : K.lookup fNum = some ⟨ocNum, odNum, .func (PySem.W.fnOf "read_number" "read_number" (defArgs sNum) (defBody sNum) (defScope sNum) .none kVNum dcNum pmNum anNum cdNum ctNum), slNum⟩)
    (cNum : PySem.W.codeIn K cdNum "read_number" = true)
    (kNum : PySem.W.keepIn K (.ref fNum) = true)
    (aPath : PySem.W.nsIn K mainGlobals "read_path" = some (some (.ref fPath)))
    (lPath : K.lookup fPath = some ⟨ocPath, odPath, .func (PySem.W.fnOf "read_path" "read_path" (defArgs sPath) (defBody sPath) (defScope sPath) .none kVPath dcPath pmPath anPath cdPath ctPath), slPath⟩)
    (cPath : PySem.W.codeIn K cdPath "read_path" = true)
    (kPath : PySem.W.keepIn K (.ref fPath) = true)
    (aInst : PySem.W.nsIn K mainGlobals "_read_instant" = some (some (.ref fInst)))
    (lInst : K.lookup fInst = some ⟨ocInst, odInst, .func (PySem.W.fnOf "_read_instant" "_read_instant" (defArgs sInst) (defBody sInst) (defScope sInst) .none kVInst dcInst pmInst anInst cdInst ctInst), slInst⟩)
    (cInst : PySem.W.codeIn K cdInst "_read_instant" = true)
    (kInst : PySem.W.keepIn K (.ref fInst) = true)
    (aRes : PySem.W.nsIn K mainGlobals "_read_results" = some (some (.ref fRes)))
    (lRes : K.lookup fRes = some ⟨ocRes, odRes, .func (PySem.W.fnOf "_read_results" "_read_results" (defArgs sRes) (defBody sRes) (defScope sRes) .none kVRes dcRes pmRes anRes cdRes ctRes), slRes⟩)
    (cRes : PySem.W.codeIn K cdRes "_read_results" = true)
    (kRes : PySem.W.keepIn K (.ref fRes) = true)
    (aRI : PySem.W.findIn K (.ref CR) "__init__" = some (some (.ref fRI)))
    (iRI : PySem.W.isFn K (.ref fRI) = true)
    (lRI : K.lookup fRI = some ⟨ocRI, odRI, .func (PySem.W.fnOf "__init__" "Reader.__init__" (defArgs sRI) (defBody sRI) (defScope sRI) .none kVRI dcRI pmRI anRI cdRI ctRI), slRI⟩)
    (cRI : PySem.W.codeIn K cdRI "Reader.__init__" = true)
    (kRI : PySem.W.keepIn K (.ref fRI) = true)
    (aAt : PySem.W.findIn K (.ref CR) "at_end" = some (some (.ref fAt)))
    (iAt : PySem.W.isFn K (.ref fAt) = true)
    (lAt : K.lookup fAt = some ⟨ocAt, odAt, .func (PySem.W.fnOf "at_end" "Reader.at_end" (defArgs sAt) (defBody sAt) (defScope sAt) .none kVAt dcAt pmAt anAt cdAt ctAt), slAt⟩)
    (cAt : PySem.W.codeIn K cdAt "Reader.at_end" = true)
    (kAt : PySem.W.keepIn K (.ref fAt) = true)
    (aRef : PySem.W.findIn K (.ref CR) "refuse" = some (some (.ref fRef)))
    (iRef : PySem.W.isFn K (.ref fRef) = true)
    (lRef : K.lookup fRef = some ⟨ocRef, odRef, .func (PySem.W.fnOf "refuse" "Reader.refuse" (defArgs sRef) (defBody sRef) (defScope sRef) .none kVRef dcRef pmRef anRef cdRef ctRef), slRef⟩)
    (cRef : PySem.W.codeIn K cdRef "Reader.refuse" = true)
    (kRef : PySem.W.keepIn K (.ref fRef) = true)
    (aPart : PySem.W.findIn K (.ref CR) "part" = some (some (.ref fPart)))
    (iPart : PySem.W.isFn K (.ref fPart) = true)
    (lPart : K.lookup fPart = some ⟨ocPart, odPart, .func (PySem.W.fnOf "part" "Reader.part" (defArgs sPart) (defBody sPart) (defScope sPart) .none kVPart dcPart pmPart anPart cdPart ctPart), slPart⟩)
    (cPart : PySem.W.codeIn K cdPart "Reader.part" = true)
    (kPart : PySem.W.keepIn K (.ref fPart) = true)
    (aStep : PySem.W.findIn K (.ref CR) "step" = some (some (.ref fStep)))
    (iStep : PySem.W.isFn K (.ref fStep) = true)
    (lStep : K.lookup fStep = some ⟨ocStep, odStep, .func (PySem.W.fnOf "step" "Reader.step" (defArgs sStep) (defBody sStep) (defScope sStep) .none kVStep dcStep pmStep anStep cdStep ctStep), slStep⟩)
    (cStep : PySem.W.codeIn K cdStep "Reader.step" = true)
    (kStep : PySem.W.keepIn K (.ref fStep) = true)
    (aExp : PySem.W.findIn K (.ref CR) "expect" = some (some (.ref fExp)))
    (iExp : PySem.W.isFn K (.ref fExp) = true)
    (lExp : K.lookup fExp = some ⟨ocExp, odExp, .func (PySem.W.fnOf "expect" "Reader.expect" (defArgs sExp) (defBody sExp) (defScope sExp) .none kVExp dcExp pmExp anExp cdExp ctExp), slExp⟩)
    (cExp : PySem.W.codeIn K cdExp "Reader.expect" = true)
    (kExp : PySem.W.keepIn K (.ref fExp) = true)
    (aRP : PySem.W.findIn K (.ref CR) "read_path" = some (some (.ref fRP)))
    (iRP : PySem.W.isFn K (.ref fRP) = true)
    (lRP : K.lookup fRP = some ⟨ocRP, odRP, .func (PySem.W.fnOf "read_path" "Reader.read_path" (defArgs sRP) (defBody sRP) (defScope sRP) .none kVRP dcRP pmRP anRP cdRP ctRP), slRP⟩)
    (cRP : PySem.W.codeIn K cdRP "Reader.read_path" = true)
    (kRP : PySem.W.keepIn K (.ref fRP) = true)
    (aRN : PySem.W.findIn K (.ref CR) "read_instant" = some (some (.ref fRN)))
    (iRN : PySem.W.isFn K (.ref fRN) = true)
    (lRN : K.lookup fRN = some ⟨ocRN, odRN, .func (PySem.W.fnOf "read_instant" "Reader.read_instant" (defArgs sRN) (defBody sRN) (defScope sRN) .none kVRN dcRN pmRN anRN cdRN ctRN), slRN⟩)
    (cRN : PySem.W.codeIn K cdRN "Reader.read_instant" = true)
    (kRN : PySem.W.keepIn K (.ref fRN) = true)
    (aRO : PySem.W.findIn K (.ref CR) "read_outcome" = some (some (.ref fRO)))
    (iRO : PySem.W.isFn K (.ref fRO) = true)
    (lRO : K.lookup fRO = some ⟨ocRO, odRO, .func (PySem.W.fnOf "read_outcome" "Reader.read_outcome" (defArgs sRO) (defBody sRO) (defScope sRO) .none kVRO dcRO pmRO anRO cdRO ctRO), slRO⟩)
    (cRO : PySem.W.codeIn K cdRO "Reader.read_outcome" = true)
    (kRO : PySem.W.keepIn K (.ref fRO) = true)
    (aRR : PySem.W.findIn K (.ref CR) "read_results" = some (some (.ref fRR)))
    (iRR : PySem.W.isFn K (.ref fRR) = true)
    (lRR : K.lookup fRR = some ⟨ocRR, odRR, .func (PySem.W.fnOf "read_results" "Reader.read_results" (defArgs sRR) (defBody sRR) (defScope sRR) .none kVRR dcRR pmRR anRR cdRR ctRR), slRR⟩)
    (cRR : PySem.W.codeIn K cdRR "Reader.read_results" = true)
    (kRR : PySem.W.keepIn K (.ref fRR) = true)
    (aTr : PySem.W.nsIn K mainGlobals "read_trace" = some (some (.ref fTr)))
    (lTr : K.lookup fTr = some ⟨ocTr, odTr, .func (PySem.W.fnOf "read_trace" "read_trace" (defArgs sTr) (defBody sTr) (defScope sTr) .none kVTr dcTr pmTr anTr cdTr ctTr), slTr⟩)
    (cTr : PySem.W.codeIn K cdTr "read_trace" = true)
    (kTr : PySem.W.keepIn K (.ref fTr) = true)
    (aCell : PySem.W.nsIn K mainGlobals "_law_cell" = some (some (.ref fCell)))
    (lCell : K.lookup fCell = some ⟨ocCell, odCell, .func (PySem.W.fnOf "_law_cell" "_law_cell" (defArgs sCell) (defBody sCell) (defScope sCell) .none kVCell dcCell pmCell anCell cdCell ctCell), slCell⟩)
    (cCell : PySem.W.codeIn K cdCell "_law_cell" = true)
    (kCell : PySem.W.keepIn K (.ref fCell) = true)
    (aDig : PySem.W.nsIn K mainGlobals "_law_digits" = some (some (.ref fDig)))
    (lDig : K.lookup fDig = some ⟨ocDig, odDig, .func (PySem.W.fnOf "_law_digits" "_law_digits" (defArgs sDig) (defBody sDig) (defScope sDig) .none kVDig dcDig pmDig anDig cdDig ctDig), slDig⟩)
    (cDig : PySem.W.codeIn K cdDig "_law_digits" = true)
    (kDig : PySem.W.keepIn K (.ref fDig) = true)
    (aDraw : PySem.W.nsIn K mainGlobals "_law_draw" = some (some (.ref fDraw)))
    (lDraw : K.lookup fDraw = some ⟨ocDraw, odDraw, .func (PySem.W.fnOf "_law_draw" "_law_draw" (defArgs sDraw) (defBody sDraw) (defScope sDraw) .none kVDraw dcDraw pmDraw anDraw cdDraw ctDraw), slDraw⟩)
    (cDraw : PySem.W.codeIn K cdDraw "_law_draw" = true)
    (kDraw : PySem.W.keepIn K (.ref fDraw) = true)
    (aTold : PySem.W.nsIn K mainGlobals "_law_told" = some (some (.ref fTold)))
    (lTold : K.lookup fTold = some ⟨ocTold, odTold, .func (PySem.W.fnOf "_law_told" "_law_told" (defArgs sTold) (defBody sTold) (defScope sTold) .none kVTold dcTold pmTold anTold cdTold ctTold), slTold⟩)
    (cTold : PySem.W.codeIn K cdTold "_law_told" = true)
    (kTold : PySem.W.keepIn K (.ref fTold) = true)
    (aLine : PySem.W.nsIn K mainGlobals "_law_line" = some (some (.ref fLine)))
    (lLine : K.lookup fLine = some ⟨ocLine, odLine, .func (PySem.W.fnOf "_law_line" "_law_line" (defArgs sLine) (defBody sLine) (defScope sLine) .none kVLine dcLine pmLine anLine cdLine ctLine), slLine⟩)
    (cLine : PySem.W.codeIn K cdLine "_law_line" = true)
    (kLine : PySem.W.keepIn K (.ref fLine) = true)
    (aWrong : PySem.W.nsIn K mainGlobals "_law_wrong" = some (some (.ref fWrong)))
    (lWrong : K.lookup fWrong = some ⟨ocWrong, odWrong, .func (PySem.W.fnOf "_law_wrong" "_law_wrong" (defArgs sWrong) (defBody sWrong) (defScope sWrong) .none kVWrong dcWrong pmWrong anWrong cdWrong ctWrong), slWrong⟩)
    (cWrong : PySem.W.codeIn K cdWrong "_law_wrong" = true)
    (kWrong : PySem.W.keepIn K (.ref fWrong) = true)
    (aLaw : PySem.W.nsIn K mainGlobals "law" = some (some (.ref fLaw)))
    (lLaw : K.lookup fLaw = some ⟨ocLaw, odLaw, .func (PySem.W.fnOf "law" "law" (defArgs sLaw) (defBody sLaw) (defScope sLaw) .none kVLaw dcLaw pmLaw anLaw cdLaw ctLaw), slLaw⟩)
    (cLaw : PySem.W.codeIn K cdLaw "law" = true)
    (kLaw : PySem.W.keepIn K (.ref fLaw) = true)
    (pp : PySem.W.nsIn K mainGlobals "read_path_paths" = some (some (.ref fPath)))
    (gN : PySem.W.nsIn K mainGlobals "NUMBER_SIGNS" = some (some (.int 7 tN)))
    (gD : PySem.W.nsIn K mainGlobals "DEADLINE" = some (some (.str "deadline exceeded" tD)))
    (gT : PySem.W.nsIn K mainGlobals "TRACE_MOST" = some (some (.int 20000 tT)))
    (gS : PySem.W.nsIn K mainGlobals "RESULTS_MOST" = some (some (.int 60 tS)))
    (gE : PySem.W.nsIn K mainGlobals "ERROR_MOST" = some (some (.int 999 tE)))
    (nO : PySem.W.nsIn K mainGlobals "OUTCOMES" = some (some (.ref aOut)))
    (lO : K.lookup aOut = some ⟨.type "tuple", odO, .seq #[.str "completed" tO1, .str "failed" tO2, .str "cancelled" tO3] mO, slO⟩)
    (z_len : PySem.W.nsIn K mainGlobals "len" = some (none))
    (z_int : PySem.W.nsIn K mainGlobals "int" = some (none))
    (z_str : PySem.W.nsIn K mainGlobals "str" = some (none))
    (z_range : PySem.W.nsIn K mainGlobals "range" = some (none))
    (z_tuple : PySem.W.nsIn K mainGlobals "tuple" = some (none))
    (z_isinstance : PySem.W.nsIn K mainGlobals "isinstance" = some (none))
    : ∃ fd : FuncData, (∀ (s : Shared) (v : Value), BindsTo s fd ⟨[v], []⟩ [("_law_script", v)]) ∧ ∀ base : Heap, K.In base → base.Ns mainGlobals mg → FnOk l.prog w K mg base CX0 8 fa fd ["_law_script"] (spLaw K) := by
  have e := hfa.symm.trans (PySem.W.mg_of X G aLaw)
  cases e
  have FTI := fun_mk (st := sTI) lTI cTI kTI
  have ETI : FunE K "__init__" "TextFault.__init__" sTI fTI ["self", "line", "column", "words"] := ⟨_, FTI, FTI.binds (ps := ["self", "line", "column", "words"]) fun _ _ _ _ _ _ us hl => match us, hl with | [_, _, _, _], _ => rfl⟩
  have FOI := fun_mk (st := sOI) lOI cOI kOI
  have EOI : FunE K "__init__" "OutOfRange.__init__" sOI fOI ["self", "name"] := ⟨_, FOI, FOI.binds (ps := ["self", "name"]) fun _ _ _ _ _ _ us hl => match us, hl with | [_, _], _ => rfl⟩
  have FNum := fun_mk (st := sNum) lNum cNum kNum
  have ENum : FunE K "read_number" "read_number" sNum fNum ["text"] := ⟨_, FNum, FNum.binds (ps := ["text"]) fun _ _ _ _ _ _ us hl => match us, hl with | [_], _ => rfl⟩
  have FPath := fun_mk (st := sPath) lPath cPath kPath
  have EPath : FunE K "read_path" "read_path" sPath fPath ["text"] := ⟨_, FPath, FPath.binds (ps := ["text"]) fun _ _ _ _ _ _ us hl => match us, hl with | [_], _ => rfl⟩
  have FInst := fun_mk (st := sInst) lInst cInst kInst
  have EInst : FunE K "_read_instant" "_read_instant" sInst fInst ["text"] := ⟨_, FInst, FInst.binds (ps := ["text"]) fun _ _ _ _ _ _ us hl => match us, hl with | [_], _ => rfl⟩
  have FRes := fun_mk (st := sRes) lRes cRes kRes
  have ERes : FunE K "_read_results" "_read_results" sRes fRes ["text"] := ⟨_, FRes, FRes.binds (ps := ["text"]) fun _ _ _ _ _ _ us hl => match us, hl with | [_], _ => rfl⟩
  have FRI := fun_mk (st := sRI) lRI cRI kRI
  have ERI : FunE K "__init__" "Reader.__init__" sRI fRI ["self", "text"] := ⟨_, FRI, FRI.binds (ps := ["self", "text"]) fun _ _ _ _ _ _ us hl => match us, hl with | [_, _], _ => rfl⟩
  have FAt := fun_mk (st := sAt) lAt cAt kAt
  have EAt : FunE K "at_end" "Reader.at_end" sAt fAt ["self"] := ⟨_, FAt, FAt.binds (ps := ["self"]) fun _ _ _ _ _ _ us hl => match us, hl with | [_], _ => rfl⟩
  have FRef := fun_mk (st := sRef) lRef cRef kRef
  have ERef : FunE K "refuse" "Reader.refuse" sRef fRef ["self", "words"] := ⟨_, FRef, FRef.binds (ps := ["self", "words"]) fun _ _ _ _ _ _ us hl => match us, hl with | [_, _], _ => rfl⟩
  have FPart := fun_mk (st := sPart) lPart cPart kPart
  have EPart : FunE K "part" "Reader.part" sPart fPart ["self"] := ⟨_, FPart, FPart.binds (ps := ["self"]) fun _ _ _ _ _ _ us hl => match us, hl with | [_], _ => rfl⟩
  have FStep := fun_mk (st := sStep) lStep cStep kStep
  have EStep : FunE K "step" "Reader.step" sStep fStep ["self", "many"] := ⟨_, FStep, FStep.binds (ps := ["self", "many"]) fun _ _ _ _ _ _ us hl => match us, hl with | [_, _], _ => rfl⟩
  have FExp := fun_mk (st := sExp) lExp cExp kExp
  have EExp : FunE K "expect" "Reader.expect" sExp fExp ["self", "sign", "words"] := ⟨_, FExp, FExp.binds (ps := ["self", "sign", "words"]) fun _ _ _ _ _ _ us hl => match us, hl with | [_, _, _], _ => rfl⟩
  have FRP := fun_mk (st := sRP) lRP cRP kRP
  have ERP : FunE K "read_path" "Reader.read_path" sRP fRP ["self"] := ⟨_, FRP, FRP.binds (ps := ["self"]) fun _ _ _ _ _ _ us hl => match us, hl with | [_], _ => rfl⟩
  have FRN := fun_mk (st := sRN) lRN cRN kRN
  have ERN : FunE K "read_instant" "Reader.read_instant" sRN fRN ["self", "free"] := ⟨_, FRN, FRN.binds (ps := ["self", "free"]) fun _ _ _ _ _ _ us hl => match us, hl with | [_, _], _ => rfl⟩
  have FRO := fun_mk (st := sRO) lRO cRO kRO
  have ERO : FunE K "read_outcome" "Reader.read_outcome" sRO fRO ["self"] := ⟨_, FRO, FRO.binds (ps := ["self"]) fun _ _ _ _ _ _ us hl => match us, hl with | [_], _ => rfl⟩
  have FRR := fun_mk (st := sRR) lRR cRR kRR
  have ERR : FunE K "read_results" "Reader.read_results" sRR fRR ["self"] := ⟨_, FRR, FRR.binds (ps := ["self"]) fun _ _ _ _ _ _ us hl => match us, hl with | [_], _ => rfl⟩
  have FTr := fun_mk (st := sTr) lTr cTr kTr
  have ETr : FunE K "read_trace" "read_trace" sTr fTr ["text"] := ⟨_, FTr, FTr.binds (ps := ["text"]) fun _ _ _ _ _ _ us hl => match us, hl with | [_], _ => rfl⟩
  have FCell := fun_mk (st := sCell) lCell cCell kCell
  have ECell : FunE K "_law_cell" "_law_cell" sCell fCell ["_law_script", "_law_k"] := ⟨_, FCell, FCell.binds (ps := ["_law_script", "_law_k"]) fun _ _ _ _ _ _ us hl => match us, hl with | [_, _], _ => rfl⟩
  have FDig := fun_mk (st := sDig) lDig cDig kDig
  have EDig : FunE K "_law_digits" "_law_digits" sDig fDig ["_law_script", "_law_first", "_law_last"] := ⟨_, FDig, FDig.binds (ps := ["_law_script", "_law_first", "_law_last"]) fun _ _ _ _ _ _ us hl => match us, hl with | [_, _, _], _ => rfl⟩
  have FDraw := fun_mk (st := sDraw) lDraw cDraw kDraw
  have EDraw : FunE K "_law_draw" "_law_draw" sDraw fDraw ["_law_box", "_law_many"] := ⟨_, FDraw, FDraw.binds (ps := ["_law_box", "_law_many"]) fun _ _ _ _ _ _ us hl => match us, hl with | [_, _], _ => rfl⟩
  have FTold := fun_mk (st := sTold) lTold cTold kTold
  have ETold : FunE K "_law_told" "_law_told" sTold fTold ["_law_text"] := ⟨_, FTold, FTold.binds (ps := ["_law_text"]) fun _ _ _ _ _ _ us hl => match us, hl with | [_], _ => rfl⟩
  have FLine := fun_mk (st := sLine) lLine cLine kLine
  have ELine : FunE K "_law_line" "_law_line" sLine fLine ["_law_box"] := ⟨_, FLine, FLine.binds (ps := ["_law_box"]) fun _ _ _ _ _ _ us hl => match us, hl with | [_], _ => rfl⟩
  have FWrong := fun_mk (st := sWrong) lWrong cWrong kWrong
  have EWrong : FunE K "_law_wrong" "_law_wrong" sWrong fWrong ["_law_box", "_law_k"] := ⟨_, FWrong, FWrong.binds (ps := ["_law_box", "_law_k"]) fun _ _ _ _ _ _ us hl => match us, hl with | [_, _], _ => rfl⟩
  have FLaw := fun_mk (st := sLaw) lLaw cLaw kLaw
  have T : TopOk K mg ⟨CE, CT, CO, CR, fTI, fOI, fNum, fPath, fInst, fRes, fRI, fAt, fRef, fPart, fStep, fExp, fRP, fRN, fRO, fRR, fTr, fCell, fDig, fDraw, fTold, fLine, fWrong, aOut⟩ :=
    { eT := ⟨⟨⟨nmCT, qCT, NCT, bsCT, [.ref CE, .type "ValueError", .type "Exception", .type "BaseException", .type "object"], snCT, subCT, abCT, colCT, ddCT, m0CT, m1CT, m2CT, m3CT, m5CT, xCT, by rfl⟩, saCT, exCT, tyCT, kpCT⟩, aTI, iTI, PySem.W.mg_of X G nCT, ⟨gaCT, ggCT, exCT, hdCT⟩, ⟨gaCT, ggCT, exCT, hdCT, clCT, spc, tks, mrCT⟩⟩
      eO := ⟨⟨⟨nmCO, qCO, NCO, bsCO, [.ref CE, .type "ValueError", .type "Exception", .type "BaseException", .type "object"], snCO, subCO, abCO, colCO, ddCO, m0CO, m1CO, m2CO, m3CO, m5CO, xCO, by rfl⟩, saCO, exCO, tyCO, kpCO⟩, aOI, iOI, PySem.W.mg_of X G nCO, ⟨gaCO, ggCO, exCO, hdCO⟩, ⟨gaCO, ggCO, exCO, hdCO, clCO, spc, tks, mrCO⟩⟩
      nl := zline, nc := zcolumn, nw := zwords, nn := zname
      gE := PySem.W.mg_of X G nCE
      hT := PySem.W.exm_ref exCE hdCE tyCE seCT, hO := PySem.W.exm_ref exCE hdCE tyCE seCO
      kTT := kit_same CT, kTO := kit_sub icCO tyCO sTO (ne_sub ssCT sTO), kOT := kit_sub icCT tyCT sOT (ne_sub ssCO sOT), kOO := kit_same CO
      cR := ⟨pgR, hdR, poR, saR⟩, mkR := ⟨mkR, aRI, iRI, kpR⟩, gR := PySem.W.mg_of X G nCR, nt := ntR, na := naR
      fTI := ETI, fOI := EOI, fRI := ERI
      mAt := ⟨EAt, ⟨aAt, iAt, kAt⟩⟩
      mRef := ⟨ERef, ⟨aRef, iRef, kRef⟩⟩
      mPart := ⟨EPart, ⟨aPart, iPart, kPart⟩⟩
      mStep := ⟨EStep, ⟨aStep, iStep, kStep⟩⟩
      mExp := ⟨EExp, ⟨aExp, iExp, kExp⟩⟩
      mRP := ⟨ERP, ⟨aRP, iRP, kRP⟩⟩
      mRN := ⟨ERN, ⟨aRN, iRN, kRN⟩⟩
      mRO := ⟨ERO, ⟨aRO, iRO, kRO⟩⟩
      mRR := ⟨ERR, ⟨aRR, iRR, kRR⟩⟩
      dNum := ⟨ENum, PySem.W.mg_of X G aNum, kNum⟩
      dPath := ⟨EPath, PySem.W.mg_of X G aPath, kPath⟩
      dInst := ⟨EInst, PySem.W.mg_of X G aInst, kInst⟩
      dRes := ⟨ERes, PySem.W.mg_of X G aRes, kRes⟩
      dTr := ⟨ETr, PySem.W.mg_of X G aTr, kTr⟩
      dCell := ⟨ECell, PySem.W.mg_of X G aCell, kCell⟩
      dDig := ⟨EDig, PySem.W.mg_of X G aDig, kDig⟩
      dDraw := ⟨EDraw, PySem.W.mg_of X G aDraw, kDraw⟩
      dTold := ⟨ETold, PySem.W.mg_of X G aTold, kTold⟩
      dLine := ⟨ELine, PySem.W.mg_of X G aLine, kLine⟩
      dWrong := ⟨EWrong, PySem.W.mg_of X G aWrong, kWrong⟩
      gPath := PySem.W.mg_of X G pp
      cN := ⟨tN, PySem.W.mg_of X G gN⟩, cD := ⟨tD, PySem.W.mg_of X G gD⟩, cT := ⟨tT, PySem.W.mg_of X G gT⟩, cS := ⟨tS, PySem.W.mg_of X G gS⟩, cE := ⟨tE, PySem.W.mg_of X G gE⟩
      cO := PySem.W.mg_of X G nO
      tO := fun H => .inr ⟨_, _, _, lO, rfl, rfl, (by show 3 ≤ sizeLine; decide), .cons ⟨_, rfl⟩ (.cons ⟨_, rfl⟩ (.cons ⟨_, rfl⟩ .nil))⟩
      zlen := PySem.W.mg_none_of X G z_len, zint := PySem.W.mg_none_of X G z_int, zstr := PySem.W.mg_none_of X G z_str, zrange := PySem.W.mg_none_of X G z_range, ztuple := PySem.W.mg_none_of X G z_tuple, zisi := PySem.W.mg_none_of X G z_isinstance }
  exact ⟨PySem.W.fnOf "law" "law" (defArgs sLaw) (defBody sLaw) (defScope sLaw) .none kVLaw dcLaw pmLaw anLaw cdLaw ctLaw, fun s v => .of_eq rfl, fun base _ _ => ok_Law T FLaw⟩
end K24
open PySem PySem.W PyProof.Rows
set_option maxRecDepth 100000 in
set_option maxHeartbeats 0 in
theorem PySem.Challenge.cw_asforetold_k24_first_fault_of_a_trace_holds : PySem.Challenge.rw_asforetold_k24_first_fault_of_a_trace.Holds := by
  w_on; o_law; k_head; (case hw => w_witness2)
  k_fill
  refine L2.walk_of (l := PySem.Challenge.rw_asforetold_k24_first_fault_of_a_trace) (n := 63) (k := 8) (x := "_law_script") (CX := fun _ => L2.CX0) (sp := fun w => K24.spLaw _) rfl (by decide) rfl ⟨rfl, by decide, by decide⟩ (fun w h Y => PySem.W.kIn_of Y) ?F (fun _ _ a ns hl _ hS => ⟨a, ns, rfl, hS, fun _ => rfl⟩) (fun _ _ _ _ _ h => h)
  case F =>
    intro w mg fa h KX G hmg
    refine' K24.all_mk KX G hmg ?nCE ?nCT ?nCO ?nCR ?xCT ?saCT ?exCT ?tyCT ?kpCT ?gaCT ?ggCT ?hdCT ?clCT ?mrCT ?icCT ?seCT ?ssCT ?xCO ?saCO ?exCO ?tyCO ?kpCO ?gaCO ?ggCO ?hdCO ?clCO ?mrCO ?icCO ?seCO ?ssCO ?sTO ?sOT ?exCE ?hdCE ?tyCE ?spc ?tks ?zline ?zcolumn ?zwords ?zname ?pgR ?hdR ?poR ?saR ?mkR ?kpR ?ntR ?naR ?aTI ?iTI ?lTI ?cTI ?kTI ?aOI ?iOI ?lOI ?cOI ?kOI ?aNum ?lNum ?cNum ?kNum ?aPath ?lPath ?cPath ?kPath ?aInst ?lInst ?cInst ?kInst ?aRes ?lRes ?cRes ?kRes ?aRI ?iRI ?lRI ?cRI ?kRI ?aAt ?iAt ?lAt ?cAt ?kAt ?aRef ?iRef ?lRef ?cRef ?kRef ?aPart ?iPart ?lPart ?cPart ?kPart ?aStep ?iStep ?lStep ?cStep ?kStep ?aExp ?iExp ?lExp ?cExp ?kExp ?aRP ?iRP ?lRP ?cRP ?kRP ?aRN ?iRN ?lRN ?cRN ?kRN ?aRO ?iRO ?lRO ?cRO ?kRO ?aRR ?iRR ?lRR ?cRR ?kRR ?aTr ?lTr ?cTr ?kTr ?aCell ?lCell ?cCell ?kCell ?aDig ?lDig ?cDig ?kDig ?aDraw ?lDraw ?cDraw ?kDraw ?aTold ?lTold ?cTold ?kTold ?aLine ?lLine ?cLine ?kLine ?aWrong ?lWrong ?cWrong ?kWrong ?aLaw ?lLaw ?cLaw ?kLaw ?pp ?gN ?gD ?gT ?gS ?gE ?nO ?lO ?z_len ?z_int ?z_str ?z_range ?z_tuple ?z_isinstance
    (case nCE => k_is)
    (case nCT => k_is)
    (case nCO => k_is)
    (case nCR => k_is)
    (case xCT => k_is)
    (case saCT => k_is)
    (case exCT => k_is)
    (case tyCT => k_is)
    (case kpCT => k_is)
    (case gaCT => k_is)
    (case ggCT => k_is)
    (case hdCT => k_is)
    (case clCT => k_is)
    (case mrCT => k_is)
    (case icCT => k_is)
    (case seCT => k_is)
    (case ssCT => k_is)
    (case xCO => k_is)
    (case saCO => k_is)
    (case exCO => k_is)
    (case tyCO => k_is)
    (case kpCO => k_is)
    (case gaCO => k_is)
    (case ggCO => k_is)
    (case hdCO => k_is)
    (case clCO => k_is)
    (case mrCO => k_is)
    (case icCO => k_is)
    (case seCO => k_is)
    (case ssCO => k_is)
    (case sTO => k_is)
    (case sOT => k_is)
    (case exCE => k_is)
    (case hdCE => k_is)
    (case tyCE => k_is)
    (case spc => k_is)
    (case tks => k_is)
    (case zline => k_is)
    (case zcolumn => k_is)
    (case zwords => k_is)
    (case zname => k_is)
    (case pgR => k_is)
    (case hdR => k_is)
    (case poR => k_is)
    (case saR => k_is)
    (case mkR => k_is)
    (case kpR => k_is)
    (case ntR => k_is)
    (case naR => k_is)
    (case aTI => k_is)
    (case iTI => k_is)
    (case lTI => k_is)
    (case cTI => k_is)
    (case kTI => k_is)
    (case aOI => k_is)
    (case iOI => k_is)
    (case lOI => k_is)
    (case cOI => k_is)
    (case kOI => k_is)
    (case aNum => k_is)
    (case lNum => k_is)
    (case cNum => k_is)
    (case kNum => k_is)
    (case aPath => k_is)
    (case lPath => k_is)
    (case cPath => k_is)
    (case kPath => k_is)
    (case aInst => k_is)
    (case lInst => k_is)
    (case cInst => k_is)
    (case kInst => k_is)
    (case aRes => k_is)
    (case lRes => k_is)
    (case cRes => k_is)
    (case kRes => k_is)
    (case aRI => k_is)
    (case iRI => k_is)
    (case lRI => k_is)
    (case cRI => k_is)
    (case kRI => k_is)
    (case aAt => k_is)
    (case iAt => k_is)
    (case lAt => k_is)
    (case cAt => k_is)
    (case kAt => k_is)
    (case aRef => k_is)
    (case iRef => k_is)
    (case lRef => k_is)
    (case cRef => k_is)
    (case kRef => k_is)
    (case aPart => k_is)
    (case iPart => k_is)
    (case lPart => k_is)
    (case cPart => k_is)
    (case kPart => k_is)
    (case aStep => k_is)
    (case iStep => k_is)
    (case lStep => k_is)
    (case cStep => k_is)
    (case kStep => k_is)
    (case aExp => k_is)
    (case iExp => k_is)
    (case lExp => k_is)
    (case cExp => k_is)
    (case kExp => k_is)
    (case aRP => k_is)
    (case iRP => k_is)
    (case lRP => k_is)
    (case cRP => k_is)
    (case kRP => k_is)
    (case aRN => k_is)
    (case iRN => k_is)
    (case lRN => k_is)
    (case cRN => k_is)
    (case kRN => k_is)
    (case aRO => k_is)
    (case iRO => k_is)
    (case lRO => k_is)
    (case cRO => k_is)
    (case kRO => k_is)
    (case aRR => k_is)
    (case iRR => k_is)
    (case lRR => k_is)
    (case cRR => k_is)
    (case kRR => k_is)
    (case aTr => k_is)
    (case lTr => k_is)
    (case cTr => k_is)
    (case kTr => k_is)
    (case aCell => k_is)
    (case lCell => k_is)
    (case cCell => k_is)
    (case kCell => k_is)
    (case aDig => k_is)
    (case lDig => k_is)
    (case cDig => k_is)
    (case kDig => k_is)
    (case aDraw => k_is)
    (case lDraw => k_is)
    (case cDraw => k_is)
    (case kDraw => k_is)
    (case aTold => k_is)
    (case lTold => k_is)
    (case cTold => k_is)
    (case kTold => k_is)
    (case aLine => k_is)
    (case lLine => k_is)
    (case cLine => k_is)
    (case kLine => k_is)
    (case aWrong => k_is)
    (case lWrong => k_is)
    (case cWrong => k_is)
    (case kWrong => k_is)
    (case aLaw => k_is)
    (case lLaw => k_is)
    (case cLaw => k_is)
    (case kLaw => k_is)
    (case pp => k_is)
    (case gN => k_is)
    (case gD => k_is)
    (case gT => k_is)
    (case gS => k_is)
    (case gE => k_is)
    (case nO => k_is)
    (case lO => k_is)
    (case z_len => k_is)
    (case z_int => k_is)
    (case z_str => k_is)
    (case z_range => k_is)
    (case z_tuple => k_is)
    (case z_isinstance => k_is)
