import PyProof.Rows.All
import Wide.All
import OpenK.AllK
import Wide.FinOn
import HandS.ForSpec
import HandS.Comp
import HandS.Dict
import HandS.Iter
import HandS.Conv
import HandS.Style
import HandS.Deep
import HandS.IsInst
import HandS.SetKeys
import HandS.WideBits
import HandS.RevRange
import HandS.Defaults
import HandS.ExcInit
import HandS.ExcCtx
import HandS.ExcField
import HandS.SuiteRaise
import HandS.ExcInitHot
import HandS.HeadHook2
import HandS.Steps
import HandS.Head0
import HandS.Head1
import HandS.Head2
import HandS.Head3
import HandS.Head4
import HandS.HeadEnd
import HandS.HeadHook3
import HandS.HeadHook4
import PySem.Challenge.RW_toldpatterns_s01_judge
set_option Elab.async false
set_option linter.all false
set_option maxRecDepth 100000
set_option maxHeartbeats 2000000
/-! P1: the mirror of reading (scalars.py, nodes.py's builder, reading.py) in plain Lean. -/
namespace Mi
abbrev Bs := List Nat
/-- a fault: its kind and its place -/
abbrev Fl := Nat × Nat
def sizeBy (l : Nat) : Nat :=
  if l < 128 then 1 else if 194 ≤ l ∧ l ≤ 223 then 2 else if 224 ≤ l ∧ l ≤ 239 then 3 else if 240 ≤ l ∧ l ≤ 244 then 4 else 0
def secondBounds (l : Nat) : Nat × Nat :=
  if l = 224 then (160, 191) else if l = 237 then (128, 159) else if l = 240 then (144, 191) else if l = 244 then (128, 143) else (128, 191)
def boundsAt (l k : Nat) : Nat × Nat := if k = 1 then secondBounds l else (128, 191)
def sub0 (size : Nat) : Nat := [0, 0, 192, 224, 240].getD size 0
/-- the rest of value_at's loop: j turns left, k the next one -/
def vGo (B : Bs) (at_ lead : Nat) : Nat → Nat → Nat → Except Fl Nat
  | 0, _, found => .ok found
  | j + 1, k, found => match B[at_ + k]? with
    | none => .error (1, at_ + k)
    | some c => if (boundsAt lead k).1 ≤ c ∧ c ≤ (boundsAt lead k).2 then vGo B at_ lead j (k + 1) (64 * found + c - 128) else .error (2, at_ + k)
def valueAt (B : Bs) (at_ : Nat) : Except Fl (Nat × Nat) :=
  let lead := B.getD at_ 0
  let size := sizeBy lead
  if size = 0 then .error (2, at_) else (vGo B at_ lead (size - 1) 1 (lead - sub0 size)).map fun f => (f, size)
/-- read_text's loop, f turns at most: the values, the offsets -/
def tGo (B : Bs) : Nat → Nat → List Nat → List Nat → Except Fl (List Nat × List Nat)
  | 0, _, sc, os => .ok (sc, os)
  | f + 1, at_, sc, os => if at_ < B.length then match valueAt B at_ with
      | .error e => .error e
      | .ok (v, size) => tGo B f (at_ + size) (sc ++ [v]) (os ++ [at_ + size])
    else .ok (sc, os)
def readText (B : Bs) : Except Fl (List Nat × List Nat) := tGo B (B.length + 1) 0 [] [0]

/-! nodes -/
abbrev Bnds := List (Nat × Nat)
inductive Nd where
  | test (bs : Bnds) (turned : Bool)
  | bgn | fin | edge | empty
  | pair (a b : Nat)
  | either (a b : Nat)
  | step (a b : Nat) (free : Bool)
  | loop (a : Nat)
  | named (a k : Nat)
  deriving DecidableEq
structure Bd where
  nodes : List Nd
  weights : List Nat
def Bd.added (b : Bd) (nd : Nd) (w : Nat) : Bd × Nat := (⟨b.nodes ++ [nd], b.weights ++ [w]⟩, b.nodes.length)
def Bd.w (b : Bd) (i : Nat) : Nat := b.weights.getD i 0
def Bd.rowGo : Bd × Nat → List Nat → Bd × Nat
  | s, [] => s
  | s, p :: r => rowGo (s.1.added (.pair p s.2) (s.1.w p + s.1.w s.2)) r
def Bd.row (b : Bd) (parts : List Nat) : Bd × Nat := Bd.rowGo (b.added .empty 0) parts.reverse
def Bd.eitherGo : Bd × Nat → List Nat → Bd × Nat
  | s, [] => s
  | s, p :: r => eitherGo (s.1.added (.either p s.2) (s.1.w p + s.1.w s.2)) r
def Bd.oneOf (b : Bd) (some_ : List Nat) : Bd × Nat := Bd.eitherGo (b, some_.getLast?.getD 0) some_.dropLast.reverse
def Bd.namedN (b : Bd) (inner k : Nat) : Bd × Nat := b.added (.named inner k) (b.w inner)
/-- j turns left -/
def Bd.endlessGo (inner weight : Nat) : Nat → Bd × Nat → Bd × Nat
  | 0, s => s
  | j + 1, s => endlessGo inner weight j (s.1.added (.step inner s.2 false) weight)
def Bd.endless (b : Bd) (inner least : Nat) : Bd × Nat :=
  Bd.endlessGo inner (max 1 least * b.w inner) least (b.added (.loop inner) (max 1 least * b.w inner))
/-- k: turns left, the next k handed over is k - 1 -/
def Bd.oftenGo (inner least most : Nat) : Nat → Bd × Nat → Bd × Nat
  | 0, s => s
  | k + 1, s => oftenGo inner least most k (s.1.added (.step inner s.2 (decide (least ≤ k))) (most * s.1.w inner))
def Bd.often (b : Bd) (inner least : Nat) : Option Nat → Bd × Nat
  | none => b.endless inner least
  | some most => Bd.oftenGo inner least most most (b.added .empty 0)

/-! reading -/
def GREATEST : Nat := 1114111
def figB : Bnds := [(48, 57)]
def wordB : Bnds := [(48, 57), (65, 90), (95, 95), (97, 122)]
def blankB : Bnds := [(9, 13), (32, 32)]
/-- all_but's loop: what is found so far, low -/
def butGo : Bnds → Bnds → Nat → Bnds
  | [], found, low => if low ≤ GREATEST then found ++ [(low, GREATEST)] else found
  | (one, other) :: r, found, low => butGo r (if low < one then found ++ [(low, one - 1)] else found) (other + 1)
def allBut (bs : Bnds) : Bnds := butGo bs [] 0
def classBounds (c : Nat) : Option Bnds :=
  if c = 100 then some figB else if c = 119 then some wordB else if c = 115 then some blankB
  else if c = 68 then some (allBut figB) else if c = 87 then some (allBut wordB) else if c = 83 then some (allBut blankB) else none
def isFigure (c : Nat) : Bool := decide (48 ≤ c) && decide (c ≤ 48 + 9)
def isSmall (c : Nat) : Bool := decide (97 ≤ c) && decide (c ≤ 122)
def isInName (c : Nat) : Bool := isSmall c || (isFigure c || decide (c = 95))
def selfSigns : List Nat := [36, 40, 41, 42, 43, 45, 46, 60, 62, 63, 91, 92, 93, 94, 123, 124, 125]
def escaped (c : Nat) : Option Nat := if c ∈ selfSigns then some c else if c = 110 then some 10 else if c = 116 then some 9 else none
/-- the byte that comes next -/
def byte (B : Bs) (p : Nat) : Except Fl Nat := match B[p]? with
  | none => .error (1, p)
  | some c => .ok c
def plain (B : Bs) (p : Nat) : Except Fl (Nat × Nat) := (valueAt B p).map fun x => (x.1, p + x.2)
def endOfPart (B : Bs) (p : Nat) : Except Fl (Nat × Nat) := match byte B p with
  | .error e => .error e
  | .ok c => if c = 92 then match byte B (p + 1) with
      | .error e => .error e
      | .ok d => match escaped d with
        | none => .error (2, p + 1)
        | some v => .ok (v, p + 2)
    else if c ∈ [93, 91, 45, 94] then .error (2, p) else plain B p
def classPart (B : Bs) (p : Nat) : Except Fl (Option Bnds × Nat) := match byte B p with
  | .error e => .error e
  | .ok c => if c ≠ 92 ∨ p + 1 = B.length then .ok (none, p) else match classBounds (B.getD (p + 1) 0) with
    | none => .ok (none, p)
    | some b => .ok (some b, p + 2)
def part (B : Bs) (p : Nat) : Except Fl (Bnds × Nat) := match classPart B p with
  | .error e => .error e
  | .ok (some b, q) => .ok (b, q)
  | .ok (none, q) => match endOfPart B q with
    | .error e => .error e
    | .ok (low, q1) => match byte B q1 with
      | .error e => .error e
      | .ok c => if c ≠ 45 then .ok ([(low, low)], q1) else match endOfPart B (q1 + 1) with
        | .error e => .error e
        | .ok (high, q2) => if high < low then .error (6, p) else .ok ([(low, high)], q2)
/-- value_set's loop, f turns at most -/
def setGo (B : Bs) : Nat → Bnds → Nat → Except Fl (Bnds × Nat)
  | 0, _, p => .error (0, p)
  | f + 1, bs, p => match byte B p with
    | .error e => .error e
    | .ok c => if c = 93 then .ok (bs, p) else match part B p with
      | .error e => .error e
      | .ok (b, q) => setGo B f (bs ++ b) q
/-- a set: bounds, turned, the place behind it -/
def valueSet (B : Bs) (p : Nat) : Except Fl ((Bnds × Bool) × Nat) := match byte B (p + 1) with
  | .error e => .error e
  | .ok c =>
    let q := if c = 94 then p + 2 else p + 1
    match part B q with
    | .error e => .error e
    | .ok (b, q1) => match setGo B (B.length + 1) b q1 with
      | .error e => .error e
      | .ok (bs, q2) => .ok ((bs, decide (c = 94)), q2 + 1)
/-- an atom that isn't a bracket: the node, the place behind it -/
def escape (B : Bs) (p : Nat) : Except Fl (Nd × Nat) := match byte B (p + 1) with
  | .error e => .error e
  | .ok d =>
    let bounds : Option Bnds := match escaped d with
      | some v => some [(v, v)]
      | none => classBounds d
    match bounds with
    | some bs => .ok (.test bs false, p + 2)
    | none => if d = 98 then .ok (.edge, p + 2) else .error (2, p + 1)
def atom (B : Bs) (p c : Nat) : Except Fl (Nd × Nat) :=
  if c = 91 then match valueSet B p with
    | .error e => .error e
    | .ok (x, q) => .ok (.test x.1 x.2, q)
  else if c = 92 then escape B p
  else if c = 94 then .ok (.bgn, p + 1)
  else if c = 36 then .ok (.fin, p + 1)
  else if c = 46 then .ok (.test [(0, GREATEST)] false, p + 1)
  else match plain B p with
    | .error e => .error e
    | .ok (v, q) => .ok (.test [(v, v)] false, q)
/-- number's loop, f turns at most: found, the place -/
def digGo (B : Bs) (start : Nat) : Nat → Nat → Nat → Except Fl (Nat × Nat)
  | 0, _, p => .error (0, p)
  | f + 1, found, p => match byte B p with
    | .error e => .error e
    | .ok c => if isFigure c = true ∧ B.getD start 0 ≠ 48 then digGo B start f (10 * found + c - 48) (p + 1) else .ok (found, p)
def number (B : Bs) (p : Nat) : Except Fl (Nat × Nat) := match byte B p with
  | .error e => .error e
  | .ok c => if isFigure c = false then .error (2, p) else match digGo B p (B.length + 1) (c - 48) (p + 1) with
    | .error e => .error e
    | .ok (n, q) => if 20 < n then .error (3, p) else .ok (n, q)
/-- what stands between braces, from behind the first one on -/
def numbers (B : Bs) (p : Nat) : Except Fl ((Nat × Option Nat) × Nat) := match number B p with
  | .error e => .error e
  | .ok (least, q) => match byte B q with
    | .error e => .error e
    | .ok c => if c = 44 then match byte B (q + 1) with
        | .error e => .error e
        | .ok d => if d = 125 then .ok ((least, none), q + 2) else match number B (q + 1) with
          | .error e => .error e
          | .ok (most, q2) => if most < least then .error (3, q + 1) else match byte B q2 with
            | .error e => .error e
            | .ok g => if g = 125 then .ok ((least, some most), q2 + 1) else .error (2, q2)
      else if c = 125 then .ok ((least, some least), q + 1) else .error (2, q)
/-- the sign of repetition c, which stands at p -/
def times (B : Bs) (p c : Nat) : Except Fl ((Nat × Option Nat) × Nat) :=
  if c = 43 then .ok ((1, none), p + 1) else if c = 63 then .ok ((0, some 1), p + 1) else if c = 123 then numbers B (p + 1) else .ok ((0, none), p + 1)

/-! the reader's state -/
structure Lv where
  closing : Option Nat
  name : Option Nat
  rows : List Nat
  parts : List Nat
structure St where
  place : Nat
  bd : Bd
  names : List (Nat × Nat)
  top : Lv
  below : List Lv          -- the last one first
  hasAtom : Bool
def St.add (s : St) (node : Nat) : St := { s with top := { s.top with parts := s.top.parts ++ [node] }, hasAtom := true }
def St.endRow (s : St) : St :=
  let x := s.bd.row s.top.parts
  { s with bd := x.1, top := { s.top with rows := s.top.rows ++ [x.2], parts := [] }, hasAtom := false }
def slice (B : Bs) (i n : Nat) : Bs := (B.drop i).take n
def isNewName (B : Bs) (names : List (Nat × Nat)) (name : Bs) : Bool :=
  if 32 < name.length ∨ names.length = 16 then false else !(names.map fun x => slice B x.1 x.2).contains name
/-- take_name's loop, f turns at most: where the name ends -/
def nameGo (B : Bs) : Nat → Nat → Except Fl Nat
  | 0, p => .error (0, p)
  | f + 1, p => match byte B p with
    | .error e => .error e
    | .ok c => if isInName c = true then nameGo B f (p + 1) else .ok p
/-- a name that begins at p: its span (begin, length), the place behind the blank -/
def takeName (B : Bs) (names : List (Nat × Nat)) (p : Nat) : Except Fl ((Nat × Nat) × Nat) := match byte B p with
  | .error e => .error e
  | .ok c => if isSmall c = false then .error (2, p) else match nameGo B (B.length + 1) p with
    | .error e => .error e
    | .ok q => if isNewName B names (slice B p (q - p)) = false then .error (4, p) else match byte B q with
      | .error e => .error e
      | .ok d => if d = 32 then .ok ((p, q - p), q + 1) else .error (2, q)
def St.open_ (B : Bs) (s : St) (c : Nat) : Except Fl St :=
  if 40 < s.below.length + 1 then .error (5, s.place) else
  if c = 40 then .ok { s with place := s.place + 1, top := ⟨some 41, none, [], []⟩, below := s.top :: s.below, hasAtom := false }
  else match takeName B s.names (s.place + 1) with
    | .error e => .error e
    | .ok (n, q) => .ok { s with place := q, names := s.names ++ [n], top := ⟨some 62, some s.names.length, [], []⟩, below := s.top :: s.below, hasAtom := false }
def St.close (s : St) (c : Nat) : Except Fl St :=
  if s.top.closing ≠ some c then .error (2, s.place) else
  let s1 := s.endRow
  let x := s1.bd.oneOf s1.top.rows
  let y := match s1.top.name with
    | none => x
    | some k => x.1.namedN x.2 k
  match s1.below with
  | [] => .error (0, 0)
  | l :: r => .ok (St.add { s1 with place := s1.place + 1, bd := y.1, top := l, below := r } y.2)
def St.repeat_ (B : Bs) (s : St) (c : Nat) : Except Fl St :=
  if s.hasAtom = false then .error (2, s.place) else match times B s.place c with
    | .error e => .error e
    | .ok (mn, q) =>
      let x := s.bd.often (s.top.parts.getLast?.getD 0) mn.1 mn.2
      .ok { s with place := q, bd := x.1, top := { s.top with parts := s.top.parts.dropLast ++ [x.2] }, hasAtom := false }
def St.take (B : Bs) (s : St) (c : Nat) : Except Fl St :=
  if c = 124 then .ok { s.endRow with place := s.place + 1 }
  else if c = 41 ∨ c = 62 then s.close c
  else if c = 40 ∨ c = 60 then s.open_ B c
  else if c = 42 ∨ c = 43 ∨ c = 63 ∨ c = 123 then s.repeat_ B c
  else if c = 93 ∨ c = 125 then .error (2, s.place)
  else match atom B s.place c with
    | .error e => .error e
    | .ok (nd, q) =>
      let x := s.bd.added nd 1
      .ok (St.add { s with place := q, bd := x.1 } x.2)
/-- behind the last byte -/
def St.finish (s : St) : Except Fl (Bd × Nat × List (Nat × Nat)) :=
  if s.below ≠ [] then .error (1, s.place) else
  let s1 := s.endRow
  let x := s1.bd.oneOf s1.top.rows
  if 200 < x.1.w x.2 then .error (7, 0) else .ok (x.1, x.2, s1.names)
/-- the reader's loop, as far as it goes -/
inductive Run (B : Bs) : St → Except Fl (Bd × Nat × List (Nat × Nat)) → Prop where
  | done {s : St} : B.length ≤ s.place → Run B s s.finish
  | err {s : St} {c : Nat} {e : Fl} : B[s.place]? = some c → s.take B c = .error e → Run B s (.error e)
  | step {s s' : St} {c : Nat} {r} : B[s.place]? = some c → s.take B c = .ok s' → Run B s' r → Run B s r
def St.fresh : St := ⟨0, ⟨[], []⟩, [], ⟨none, none, [], []⟩, [], false⟩
end Mi
/-! P2: the reading of a pattern by the mirror is the specification's. -/
namespace Mi
open PatUtf PatWords
def T (B : Bs) (p : Nat) : Bytes := (B.drop p).map UInt8.ofNat
/-- bytes are below 256 -/
def Ok (B : Bs) : Prop := ∀ c ∈ B, c < 256
theorem t_nil {B : Bs} {p : Nat} (h : B.length ≤ p) : T B p = [] := by
  unfold T; rw [List.drop_eq_nil_of_le h]; rfl
theorem t_cons {B : Bs} {p c : Nat} (h : B[p]? = some c) : T B p = UInt8.ofNat c :: T B (p + 1) := by
  unfold T
  obtain ⟨hl, e⟩ := List.getElem?_eq_some_iff.mp h
  rw [List.drop_eq_getElem_cons hl, List.map_cons, e]
theorem t_len (B : Bs) (p : Nat) : (T B p).length = B.length - p := by
  unfold T; rw [List.length_map, List.length_drop]
theorem u8n {c : Nat} (h : c < 256) : (UInt8.ofNat c).toNat = c := by
  rw [UInt8.toNat_ofNat']; omega
theorem Ok.lt {B : Bs} (o : Ok B) {p c : Nat} (h : B[p]? = some c) : c < 256 := o c (List.mem_of_getElem? h)
theorem lt_of_some {B : Bs} {p c : Nat} (h : B[p]? = some c) : p < B.length := (List.getElem?_eq_some_iff.mp h).1
theorem le_of_none {B : Bs} {p : Nat} (h : B[p]? = none) : B.length ≤ p := List.getElem?_eq_none_iff.mp h
theorem some_of_lt {B : Bs} {p : Nat} (h : p < B.length) : ∃ c, B[p]? = some c := ⟨_, List.getElem?_eq_getElem h⟩
theorem getD_of {B : Bs} {p c : Nat} (h : B[p]? = some c) : B.getD p 0 = c := by
  rw [List.getD_eq_getElem?_getD, h]; rfl
theorem u8eq {c d : Nat} (h : c < 256) (h' : d < 256) : (UInt8.ofNat c = UInt8.ofNat d) ↔ c = d := by
  constructor
  · intro e
    have := congrArg UInt8.toNat e
    rwa [u8n h, u8n h'] at this
  · rintro rfl; rfl
theorem bounds_ge (lead k : Nat) : 128 ≤ (boundsAt lead k).1 ∧ (boundsAt lead k).2 ≤ 191 := by
  unfold boundsAt secondBounds
  repeat' split
  all_goals simp
/-- the loop of value_at is the specification's follow -/
theorem follow_eq {B : Bs} (o : Ok B) (at_ lead : Nat) : ∀ (j k x : Nat), 1 ≤ k → at_ + k ≤ B.length →
    follow j (boundsAt lead k).1 (boundsAt lead k).2 x (at_ + k) (T B (at_ + k)) = (match vGo B at_ lead j k x with
      | .error e => .error e.2
      | .ok v => .ok (v, T B (at_ + k + j))) ∧
    ∀ e, vGo B at_ lead j k x = .error e → (e.1 = 1 ∧ e.2 = B.length) ∨ (e.1 = 2 ∧ at_ < e.2 ∧ e.2 < B.length)
  | 0, k, x, _, _ => by
    refine ⟨?_, fun e h => by simp [vGo] at h⟩
    simp [vGo, follow]
  | j + 1, k, x, hk, hl => by
    unfold vGo
    cases h : B[at_ + k]? with
    | none =>
      have := le_of_none h
      rw [t_nil this]
      refine ⟨by simp [follow], fun e h => ?_⟩
      simp at h
      subst h
      exact .inl ⟨rfl, by simp; omega⟩
    | some c =>
      have hc := o.lt h
      have hlt := lt_of_some h
      rw [t_cons h]
      dsimp only
      unfold follow
      rw [u8n hc]
      by_cases hb : (boundsAt lead k).1 ≤ c ∧ c ≤ (boundsAt lead k).2
      · rw [if_pos hb, if_pos hb]
        have bg := bounds_ge lead k
        have e1 : 64 * x + c % 64 = 64 * x + c - 128 := by omega
        have e2 : boundsAt lead (k + 1) = (128, 191) := by unfold boundsAt; rw [if_neg (by omega)]
        have ih := follow_eq o at_ lead j (k + 1) (64 * x + c - 128) (by omega) (by omega)
        rw [e2] at ih
        rw [e1]
        have e3 : at_ + k + (j + 1) = at_ + (k + 1) + j := by omega
        rw [e3]
        exact ih
      · rw [if_neg hb, if_neg hb]
        refine ⟨rfl, fun e h => ?_⟩
        simp at h
        subst h
        exact .inr ⟨rfl, by simp; omega, hlt⟩
theorem vGo_ok_le {B : Bs} (at_ lead : Nat) : ∀ (j k x v : Nat), at_ + k ≤ B.length → vGo B at_ lead j k x = .ok v → at_ + k + j ≤ B.length
  | 0, k, x, v, hl, _ => by omega
  | j + 1, k, x, v, hl, h => by
    unfold vGo at h
    cases h1 : B[at_ + k]? with
    | none => rw [h1] at h; simp at h
    | some c =>
      rw [h1] at h
      dsimp only at h
      have hlt := lt_of_some h1
      split at h
      · have := vGo_ok_le at_ lead j (k + 1) _ v (by omega) h
        omega
      · simp at h
theorem leads_eq {c : Nat} (h : c < 256) : leads c = if sizeBy c = 0 then none else some (sizeBy c - 1, if sizeBy c = 1 then (0, 0) else boundsAt c 1) := by
  revert c
  decide +kernel
theorem first_eq {c : Nat} (h : c < 256) : sizeBy c ≠ 0 → firstBits (sizeBy c - 1) c = c - sub0 (sizeBy c) := by
  revert c
  decide +kernel
theorem valueP_eq {B : Bs} (o : Ok B) {p : Nat} (hp : p < B.length) : valueP p (T B p) = match valueAt B p with
    | .error e => .error ⟨e.1, e.2⟩
    | .ok x => .ok (x.1, T B (p + x.2), p + x.2) := by
  obtain ⟨c, hc⟩ := some_of_lt hp
  have hlt := o.lt hc
  unfold valueP scalarAt valueAt
  rw [t_cons hc, getD_of hc]
  dsimp only
  rw [u8n hlt, leads_eq hlt]
  by_cases h0 : sizeBy c = 0
  · rw [if_pos h0, if_pos h0]
    dsimp only
    rw [if_neg (by rw [List.length_cons]; omega)]
  · rw [if_neg h0, if_neg h0]
    dsimp only
    rw [first_eq hlt h0]
    by_cases h1 : sizeBy c = 1
    · rw [h1]
      simp [follow, vGo, Except.map, t_len]
    · rw [if_neg h1]
      have f := follow_eq o p c (sizeBy c - 1) 1 (c - sub0 (sizeBy c)) (by omega) (by omega)
      have hle := vGo_ok_le (B := B) p c (sizeBy c - 1) 1 (c - sub0 (sizeBy c))
      cases hv : vGo B p c (sizeBy c - 1) 1 (c - sub0 (sizeBy c)) with
      | error e =>
        rw [hv] at f
        rw [f.1]
        dsimp only [Except.map]
        have := f.2 e rfl
        rw [List.length_cons, t_len]
        rcases this with ⟨e1, e2⟩ | ⟨e1, e2, e3⟩
        · rw [if_pos (by omega)]
          rw [e1]
        · rw [if_neg (by omega)]
          rw [e1]
      | ok v =>
        rw [hv] at f
        rw [f.1]
        dsimp only [Except.map]
        have hle' := hle v (by omega) hv
        have e1 : p + 1 + (sizeBy c - 1) = p + sizeBy c := by omega
        rw [e1] at hle' ⊢
        simp only [List.length_cons, t_len]
        have e2 : p + (B.length - (p + 1) + 1 - (B.length - (p + sizeBy c))) = p + sizeBy c := by omega
        rw [e2]
/-- where a value stands it has a size, and ends within the bytes -/
theorem valueAt_le {B : Bs} {p v n : Nat} (hp : p < B.length) (h : valueAt B p = .ok (v, n)) : 0 < n ∧ p + n ≤ B.length := by
  unfold valueAt at h
  dsimp only at h
  split at h
  · simp at h
  · rename_i h0
    cases hv : vGo B p (B.getD p 0) (sizeBy (B.getD p 0) - 1) 1 (B.getD p 0 - sub0 (sizeBy (B.getD p 0))) with
    | error e => rw [hv] at h; simp [Except.map] at h
    | ok w =>
      rw [hv] at h
      dsimp only [Except.map] at h
      injection h with h
      injection h with h1 h2
      have := vGo_ok_le p _ _ _ _ _ (by omega) hv
      omega
end Mi
namespace Mi
open PatUtf PatWords
def SameSet (l bs : List (Nat × Nat)) : Prop := ∀ c, c ≤ 1114111 → inSet l c = inSet bs c
theorem esc_eq {c : Nat} (h : c < 256) : escapedOf (UInt8.ofNat c) = escaped c := by
  revert c
  decide +kernel
theorem set_eq {c : Nat} (h : c < 256) : setSigns.contains (UInt8.ofNat c) = decide (c ∈ [92, 93, 91, 45, 94]) := by
  revert c
  decide +kernel
theorem signs_eq {c : Nat} (h : c < 256) : signs.contains (UInt8.ofNat c) = decide (c ∈ [124, 42, 43, 63, 123, 125, 46, 94, 36, 92, 91, 93, 40, 41, 60, 62]) := by
  revert c
  decide +kernel
theorem others_d : others digits = [(0, 47), (58, 1114111)] := by decide +kernel
theorem others_w : others wordSet = [(0, 47), (58, 64), (91, 94), (96, 96), (123, 1114111)] := by
  unfold others wordSet
  simp [List.mergeSort, List.MergeSort.Internal.splitInTwo]
theorem others_s : others spaceSet = [(0, 8), (14, 31), (33, 1114111)] := by
  unfold others spaceSet
  simp [List.mergeSort, List.MergeSort.Internal.splitInTwo]
theorem but_d : allBut figB = [(0, 47), (58, 1114111)] := by decide +kernel
theorem but_w : allBut wordB = [(0, 47), (58, 64), (91, 94), (96, 96), (123, 1114111)] := by decide +kernel
theorem but_s : allBut blankB = [(0, 8), (14, 31), (33, 1114111)] := by decide +kernel
theorem class_none {c : Nat} (h : c < 256) : classBounds c = none ↔ classOf (UInt8.ofNat c) = none := by
  revert c
  decide +kernel
theorem SameSet.refl (l : List (Nat × Nat)) : SameSet l l := fun _ _ => rfl
theorem SameSet.append {a b c d : List (Nat × Nat)} (h : SameSet a b) (h' : SameSet c d) : SameSet (a ++ c) (b ++ d) := fun x hx => by
  have e1 := h x hx
  have e2 := h' x hx
  unfold inSet at *
  rw [List.any_append, List.any_append, e1, e2]
theorem word_same : SameSet wordSet wordB := fun x _ => by
  simp only [wordSet, wordB, inSet, List.any_cons, List.any_nil]
  rw [Bool.eq_iff_iff]
  simp
  omega
theorem space_same : SameSet spaceSet blankB := fun x _ => by
  simp only [spaceSet, blankB, inSet, List.any_cons, List.any_nil]
  rw [Bool.eq_iff_iff]
  simp
  omega
theorem class_some {c : Nat} (h : c < 256) {bs : Bnds} (hb : classBounds c = some bs) : ∃ l, classOf (UInt8.ofNat c) = some l ∧ SameSet l bs := by
  unfold classBounds at hb
  have e : ∀ d, d < 256 → (UInt8.ofNat c = UInt8.ofNat d ↔ c = d) := fun d hd => u8eq h hd
  have k : ∀ d, d < 256 → c = d → UInt8.ofNat c = UInt8.ofNat d := fun d hd => (e d hd).mpr
  split at hb
  · rename_i h1; subst h1; cases hb; exact ⟨_, rfl, .refl _⟩
  split at hb
  · rename_i h1; subst h1; cases hb; exact ⟨_, rfl, word_same⟩
  split at hb
  · rename_i h1; subst h1; cases hb; exact ⟨_, rfl, space_same⟩
  split at hb
  · rename_i h1; subst h1; cases hb; exact ⟨_, rfl, by rw [others_d, but_d]; exact .refl _⟩
  split at hb
  · rename_i h1; subst h1; cases hb; exact ⟨_, rfl, by rw [others_w, but_w]; exact .refl _⟩
  split at hb
  · rename_i h1; subst h1; cases hb; exact ⟨_, rfl, by rw [others_s, but_s]; exact .refl _⟩
  · cases hb

/-- a fault as the specification tells it -/
def fl (e : Fl) : Fault := ⟨e.1, e.2⟩
theorem byte_some {B : Bs} {p c : Nat} (h : B[p]? = some c) : byte B p = .ok c := by unfold byte; rw [h]
theorem byte_none {B : Bs} {p : Nat} (h : B[p]? = none) : byte B p = .error (1, p) := by unfold byte; rw [h]
theorem byte_cases (B : Bs) (p : Nat) : (B[p]? = none ∧ byte B p = .error (1, p)) ∨ ∃ c, B[p]? = some c ∧ byte B p = .ok c := by
  cases h : B[p]? with
  | none => exact .inl ⟨rfl, byte_none h⟩
  | some c => exact .inr ⟨c, rfl, byte_some h⟩
/-- a class in a set -/
theorem oneP_class {B : Bs} (o : Ok B) {p q : Nat} {bs : Bnds} (h : classPart B p = .ok (some bs, q)) :
    q = p + 2 ∧ q ≤ B.length ∧ endOfPart B p = .error (2, p + 1) ∧ ∃ l, oneP p (T B p) = .ok (.inr l, T B q, q) ∧ SameSet l bs := by
  unfold classPart at h
  rcases byte_cases B p with ⟨hn, e⟩ | ⟨c, hc, e⟩
  · rw [e] at h; cases h
  rw [e] at h
  dsimp only at h
  split at h
  · cases h
  rename_i hcon
  have hc92 : c = 92 := by
    by_cases z : c = 92
    · exact z
    · exact absurd (Or.inl z) hcon
  have hne : p + 1 ≠ B.length := fun z => hcon (.inr z)
  have hlt := lt_of_some hc
  obtain ⟨d, hd⟩ := some_of_lt (B := B) (p := p + 1) (by omega)
  rw [getD_of hd] at h
  cases hb : classBounds d with
  | none => rw [hb] at h; cases h
  | some b =>
    rw [hb] at h
    cases h
    have hd256 := o.lt hd
    obtain ⟨l, hl, hs⟩ := class_some hd256 hb
    subst hc92
    have hesc : escaped d = none := by
      have : ∀ d : Nat, d < 256 → classBounds d ≠ none → escaped d = none := by decide +kernel
      exact this d hd256 (by rw [hb]; simp)
    refine ⟨rfl, ?_, ?_, l, ?_, hs⟩
    · have := lt_of_some hd; omega
    · unfold endOfPart
      rw [e]
      dsimp only
      rw [if_pos rfl, byte_some hd]
      dsimp only
      rw [hesc]
    · rw [t_cons hc, t_cons hd]
      unfold oneP
      dsimp only
      rw [if_pos (by decide), hl]
/-- no class there -/
theorem oneP_none {B : Bs} (o : Ok B) {p q : Nat} (h : classPart B p = .ok (none, q)) : q = p ∧ oneP p (T B p) = match endOfPart B p with
    | .error e => .error (fl e)
    | .ok x => .ok (.inl x.1, T B x.2, x.2) := by
  unfold classPart at h
  rcases byte_cases B p with ⟨hn, e⟩ | ⟨c, hc, e⟩
  · rw [e] at h; cases h
  rw [e] at h
  dsimp only at h
  have hlt := lt_of_some hc
  have h256 := o.lt hc
  have hq : q = p := by
    split at h
    · cases h; rfl
    · split at h
      · cases h; rfl
      · cases h
  refine ⟨hq, ?_⟩
  rw [t_cons hc]
  unfold oneP endOfPart
  rw [e]
  dsimp only
  by_cases h92 : c = 92
  · subst h92
    rw [if_pos (by decide), if_pos rfl]
    rcases byte_cases B (p + 1) with ⟨hn, e1⟩ | ⟨d, hd, e1⟩
    · rw [e1, t_nil (le_of_none hn)]
      rfl
    · rw [e1, t_cons hd]
      dsimp only
      have hd256 := o.lt hd
      have hcl : classBounds d = none := by
        rw [if_neg (by have := lt_of_some hd; simp; omega), getD_of hd] at h
        split at h
        · assumption
        · cases h
      rw [(class_none hd256).mp hcl]
      dsimp only
      rw [esc_eq hd256]
      cases escaped d with
      | none => rfl
      | some v => rfl
  · rw [if_neg (by rw [show (92 : UInt8) = UInt8.ofNat 92 from rfl, u8eq h256 (by omega)]; exact h92), if_neg h92, set_eq h256]
    by_cases hm : c ∈ [93, 91, 45, 94]
    · rw [if_pos hm, if_pos (by simp at hm ⊢; omega)]
      rfl
    · rw [if_neg hm, if_neg (by simp at hm ⊢; omega), ← t_cons hc, valueP_eq o hlt]
      unfold plain
      cases valueAt B p with
      | error e => rfl
      | ok x => rfl
theorem oneP_err {B : Bs} {p : Nat} {e : Fl} (h : classPart B p = .error e) : e = (1, p) ∧ oneP p (T B p) = .error (fl e) := by
  unfold classPart at h
  rcases byte_cases B p with ⟨hn, e1⟩ | ⟨c, hc, e1⟩
  · rw [e1] at h
    cases h
    rw [t_nil (le_of_none hn)]
    exact ⟨rfl, rfl⟩
  · rw [e1] at h
    dsimp only at h
    split at h
    · cases h
    · split at h <;> cases h
theorem endOfPart_le {B : Bs} {p v q : Nat} (h : endOfPart B p = .ok (v, q)) : p < q ∧ q ≤ B.length := by
  unfold endOfPart at h
  rcases byte_cases B p with ⟨hn, e⟩ | ⟨c, hc, e⟩
  · rw [e] at h; cases h
  rw [e] at h
  dsimp only at h
  have hlt := lt_of_some hc
  split at h
  · rcases byte_cases B (p + 1) with ⟨hn, e1⟩ | ⟨d, hd, e1⟩
    · rw [e1] at h; cases h
    · rw [e1] at h
      dsimp only at h
      have := lt_of_some hd
      split at h
      · cases h
      · cases h; omega
  · split at h
    · cases h
    · unfold plain at h
      cases hv : valueAt B p with
      | error e => rw [hv] at h; cases h
      | ok x =>
        rw [hv] at h
        simp only [Except.map] at h
        injection h with h
        injection h with h1 h2
        have := valueAt_le hlt (v := x.1) (n := x.2) hv
        omega
theorem part_le {B : Bs} (o : Ok B) {p q : Nat} {b : Bnds} (h : part B p = .ok (b, q)) : p < q ∧ q ≤ B.length := by
  unfold part at h
  cases hc : classPart B p with
  | error e => rw [hc] at h; cases h
  | ok x =>
    rw [hc] at h
    obtain ⟨x1, x2⟩ := x
    cases x1 with
    | some bs =>
      have := oneP_class o hc
      cases h
      omega
    | none =>
      obtain ⟨e, _⟩ := oneP_none o hc
      subst e
      dsimp only at h
      cases he : endOfPart B x2 with
      | error e => rw [he] at h; cases h
      | ok y =>
        obtain ⟨low, q1⟩ := y
        rw [he] at h
        dsimp only at h
        have := endOfPart_le he
        rcases byte_cases B q1 with ⟨hn, e1⟩ | ⟨d, hd, e1⟩
        · rw [e1] at h; cases h
        rw [e1] at h
        dsimp only at h
        split at h
        · cases h; omega
        · cases he2 : endOfPart B (q1 + 1) with
          | error e => rw [he2] at h; cases h
          | ok z =>
            obtain ⟨high, q2⟩ := z
            rw [he2] at h
            dsimp only at h
            have := endOfPart_le he2
            split at h
            · cases h
            · cases h; omega
/-- one part of a set -/
theorem part_step {B : Bs} (o : Ok B) {p f : Nat} {sm : Bool} {acc : List (Nat × Nat)} (hc : B[p]? ≠ some 93) : match part B p with
    | .error e => partsP (f + 1) sm acc p (T B p) = .error (fl e)
    | .ok x => ∃ l, SameSet l x.1 ∧ partsP (f + 1) sm acc p (T B p) = partsP f true (acc ++ l) x.2 (T B x.2) := by
  rcases byte_cases B p with ⟨hn, eb⟩ | ⟨c, hcc, eb⟩
  · have e1 : part B p = .error (1, p) := by unfold part classPart; rw [eb]
    rw [e1, t_nil (le_of_none hn)]
    rfl
  have h256 := o.lt hcc
  have hne : c ≠ 93 := fun z => hc (by rw [hcc, z])
  have un : partsP (f + 1) sm acc p (T B p) = (do
      let (x, s, q) ← oneP p (T B p)
      match x with
        | .inr l => partsP f true (acc ++ l) q s
        | .inl lo => match s with
          | d :: u =>
            if d = 45 then do
              let (y, v, k) ← oneP (q + 1) u
              (match y with
                | .inr _ => .error ⟨2, q + 2⟩
                | .inl hi => if hi < lo then .error ⟨6, p⟩ else partsP f true (acc ++ [(lo, hi)]) k v)
            else partsP f true (acc ++ [(lo, lo)]) q s
          | [] => .error ⟨1, q⟩) := by
    rw [t_cons hcc]
    rw [partsP]
    rw [if_neg (by rw [show (93 : UInt8) = UInt8.ofNat 93 from rfl, u8eq h256 (by omega)]; exact hne)]
    rfl
  rw [un]
  unfold part
  cases hcl : classPart B p with
  | error e =>
    rw [(oneP_err hcl).2]
    rfl
  | ok x =>
    obtain ⟨x1, x2⟩ := x
    cases x1 with
    | some bs =>
      obtain ⟨_, _, _, l, e1, hs⟩ := oneP_class o hcl
      rw [e1]
      exact ⟨l, hs, rfl⟩
    | none =>
      obtain ⟨e, e1⟩ := oneP_none o hcl
      subst e
      rw [e1]
      dsimp only
      cases he : endOfPart B x2 with
      | error e => rfl
      | ok y =>
        obtain ⟨low, q1⟩ := y
        dsimp only
        rcases byte_cases B q1 with ⟨hn, e2⟩ | ⟨d, hd, e2⟩
        · rw [e2, t_nil (le_of_none hn)]
          rfl
        have hd256 := o.lt hd
        rw [e2, t_cons hd]
        dsimp only
        by_cases h45 : d = 45
        · subst h45
          rw [if_neg (by simp)]
          have key : oneP (q1 + 1) (T B (q1 + 1)) = (match endOfPart B (q1 + 1) with
              | .error e => .error (fl e)
              | .ok x => .ok (.inl x.1, T B x.2, x.2)) ∨ (∃ l s k, oneP (q1 + 1) (T B (q1 + 1)) = .ok (.inr l, s, k)) ∧ endOfPart B (q1 + 1) = .error (2, q1 + 2) := by
            cases hcl2 : classPart B (q1 + 1) with
            | error e =>
              obtain ⟨z1, z2⟩ := oneP_err hcl2
              left
              rw [z2]
              subst z1
              unfold classPart at hcl2
              rcases byte_cases B (q1 + 1) with ⟨_, e3⟩ | ⟨g, _, e3⟩
              · unfold endOfPart
                rw [e3]
              · rw [e3] at hcl2
                dsimp only at hcl2
                split at hcl2
                · cases hcl2
                · split at hcl2 <;> cases hcl2
            | ok w =>
              obtain ⟨w1, w2⟩ := w
              cases w1 with
              | none => exact .inl (oneP_none o hcl2).2
              | some bs2 =>
                obtain ⟨_, _, z3, l, z4, _⟩ := oneP_class o hcl2
                exact .inr ⟨⟨l, _, _, z4⟩, z3⟩
          rcases key with key | ⟨⟨l, s, k, key⟩, key2⟩
          · cases he2 : endOfPart B (q1 + 1) with
            | error e =>
              rw [he2] at key
              simp only [bind, Except.bind]
              rw [if_pos (by decide), key]
            | ok z =>
              obtain ⟨high, q2⟩ := z
              rw [he2] at key
              dsimp only
              by_cases hlh : high < low
              · rw [if_pos hlh]
                simp only [bind, Except.bind]
                rw [if_pos (by decide), key]
                simp only [bind, Except.bind]
                rw [if_pos hlh]
                rfl
              · rw [if_neg hlh]
                refine ⟨[(low, high)], .refl _, ?_⟩
                simp only [bind, Except.bind]
                rw [if_pos (by decide), key]
                simp only [bind, Except.bind]
                rw [if_neg hlh]
          · rw [key2]
            simp only [bind, Except.bind]
            rw [if_pos (by decide), key]
            rfl
        · rw [if_pos h45]
          refine ⟨[(low, low)], .refl _, ?_⟩
          simp only [bind, Except.bind]
          rw [if_neg (by rw [show (45 : UInt8) = UInt8.ofNat 45 from rfl, u8eq hd256 (by omega)]; exact h45), t_cons hd]
end Mi
namespace Mi
open PatUtf PatWords
theorem eq8 {c : Nat} (h : c < 256) (d : Nat) (hd : d < 256 := by omega) : (UInt8.ofNat c = UInt8.ofNat d) = (c = d) := propext (u8eq h hd)
theorem setGo_eq {B : Bs} (o : Ok B) : ∀ (n f : Nat) (acc accM : Bnds) (p : Nat), B.length - p < n → B.length - p < f → p ≤ B.length → SameSet acc accM →
    match setGo B n accM p with
    | .error e => partsP f true acc p (T B p) = .error (fl e)
    | .ok x => B[x.2]? = some 93 ∧ p ≤ x.2 ∧ ∃ l, SameSet l x.1 ∧ partsP f true acc p (T B p) = .ok (l, T B (x.2 + 1), x.2 + 1)
  | 0, _, _, _, _, h, _, _, _ => absurd h (by omega)
  | _ + 1, 0, _, _, _, _, h, _, _ => absurd h (by omega)
  | n + 1, f + 1, acc, accM, p, h1, h2, hp, hs => by
    unfold setGo
    rcases byte_cases B p with ⟨hn, e⟩ | ⟨c, hc, e⟩
    · rw [e, t_nil (le_of_none hn)]
      rfl
    rw [e]
    dsimp only
    have hlt := lt_of_some hc
    have h256 := o.lt hc
    by_cases h93 : c = 93
    · subst h93
      rw [if_pos rfl]
      refine ⟨hc, Nat.le_refl _, acc, hs, ?_⟩
      rw [t_cons hc, partsP, if_pos (by decide), if_pos rfl]
    · rw [if_neg h93]
      have ps := part_step (f := f) (sm := true) (acc := acc) o (p := p) (by rw [hc]; simpa using h93)
      cases hpt : part B p with
      | error e => rw [hpt] at ps; exact ps
      | ok x =>
        obtain ⟨b, q⟩ := x
        rw [hpt] at ps
        obtain ⟨l, hl, e2⟩ := ps
        have le := part_le o hpt
        dsimp only at e2 ⊢
        rw [e2]
        have ih := setGo_eq o n f (acc ++ l) (accM ++ b) q (by omega) (by omega) le.2 (hs.append hl)
        cases hg : setGo B n (accM ++ b) q with
        | error e => rw [hg] at ih; exact ih
        | ok y =>
          rw [hg] at ih
          exact ⟨ih.1, by have := ih.2.1; omega, ih.2.2⟩
inductive NdPat : Nd → Pat → Prop where
  | any : NdPat (.test [(0, GREATEST)] false) .any
  | cls {bs l t} : SameSet l bs → NdPat (.test bs t) (.cls t l)
  | bgn : NdPat .bgn .first
  | fin : NdPat .fin .last
  | edge : NdPat .edge .edge
theorem valueSet_eq {B : Bs} (o : Ok B) {p : Nat} (hc : B[p]? = some 91) (f n : Nat) (ns : List (Nat × Name)) :
    match valueSet B p with
    | .error e => atomP (f + 1) n ns p (T B p) = .error (fl e)
    | .ok x => p < x.2 ∧ x.2 ≤ B.length ∧ ∃ l, SameSet l x.1.1 ∧ atomP (f + 1) n ns p (T B p) = .ok (.cls x.1.2 l, ns, T B x.2, x.2) := by
  have hlt := lt_of_some hc
  unfold valueSet
  rw [t_cons hc, atomP.eq_def]
  dsimp only
  rw [if_neg (by decide), if_neg (by decide), if_neg (by decide), if_neg (by decide), if_pos (by decide)]
  rcases byte_cases B (p + 1) with ⟨hn, e⟩ | ⟨c, hcc, e⟩
  · rw [e, t_nil (le_of_none hn)]
    rfl
  rw [e]
  have h256 := o.lt hcc
  have hlt2 := lt_of_some hcc
  dsimp only
  -- the body, from q on
  have body : ∀ q, p < q → q ≤ B.length → match (match part B q with
      | .error e => .error e
      | .ok (b, q1) => match setGo B (B.length + 1) b q1 with
        | .error e => .error e
        | .ok (bs, q2) => .ok (bs, q2 + 1) : Except Fl (Bnds × Nat)) with
      | .error e => partsP (B.length + 1 - p) false [] q (T B q) = .error (fl e)
      | .ok x => p < x.2 ∧ x.2 ≤ B.length ∧ ∃ l, SameSet l x.1 ∧ partsP (B.length + 1 - p) false [] q (T B q) = .ok (l, T B x.2, x.2) := by
    intro q hpq hq
    obtain ⟨f', hf'⟩ : ∃ f', B.length + 1 - p = f' + 1 := ⟨B.length - p, by omega⟩
    rw [hf']
    by_cases h93 : B[q]? = some 93
    · have e1 : part B q = .error (2, q) := by
        unfold part classPart
        rw [byte_some h93]
        dsimp only
        rw [if_pos (by simp)]
        dsimp only
        unfold endOfPart
        rw [byte_some h93]
        rfl
      rw [e1, t_cons h93, partsP, if_pos (by decide)]
      rfl
    · have ps := part_step (f := f') (sm := false) (acc := []) o (p := q) h93
      cases hpt : part B q with
      | error e => rw [hpt] at ps; exact ps
      | ok x =>
        obtain ⟨b, q1⟩ := x
        rw [hpt] at ps
        obtain ⟨l, hl, e2⟩ := ps
        have le := part_le o hpt
        dsimp only at e2 ⊢
        rw [e2]
        have ih := setGo_eq o (B.length + 1) f' ([] ++ l) b q1 (by omega) (by omega) le.2 hl
        cases hg : setGo B (B.length + 1) b q1 with
        | error e => rw [hg] at ih; exact ih
        | ok y =>
          rw [hg] at ih
          obtain ⟨i1, i2, i3⟩ := ih
          have := lt_of_some i1
          exact ⟨by dsimp only; omega, by dsimp only; omega, i3⟩
  have hlen : (UInt8.ofNat 91 :: T B (p + 1)).length + 1 = B.length + 1 - p := by rw [List.length_cons, t_len]; omega
  rw [t_cons hcc]
  dsimp only
  by_cases h94 : c = 94
  · subst h94
    have b := body (p + 2) (by omega) (by omega)
    rw [if_pos rfl, if_pos (by decide)]
    rw [← t_cons hcc, hlen]
    show match (match part B (p + 2) with | .error e => _ | .ok (b, q1) => _ : Except Fl ((Bnds × Bool) × Nat)) with | .error e => _ | .ok x => _
    cases hpt : part B (p + 2) with
    | error e =>
      rw [hpt] at b
      dsimp only at b ⊢
      rw [b]
      rfl
    | ok x =>
      rw [hpt] at b
      dsimp only at b ⊢
      cases hg : setGo B (B.length + 1) x.1 x.2 with
      | error e =>
        rw [hg] at b
        dsimp only at b ⊢
        rw [b]
        rfl
      | ok y =>
        rw [hg] at b
        obtain ⟨b1, b2, l, b3, b4⟩ := b
        dsimp only at b4 ⊢
        rw [b4]
        exact ⟨b1, b2, l, b3, rfl⟩
  · have b := body (p + 1) (by omega) (by omega)
    rw [if_neg h94, if_neg (by rw [show (94 : UInt8) = UInt8.ofNat 94 from rfl, eq8 h256 94]; exact h94)]
    rw [← t_cons hcc, hlen]
    cases hpt : part B (p + 1) with
    | error e =>
      rw [hpt] at b
      dsimp only at b ⊢
      rw [b]
      rfl
    | ok x =>
      rw [hpt] at b
      dsimp only at b ⊢
      cases hg : setGo B (B.length + 1) x.1 x.2 with
      | error e =>
        rw [hg] at b
        dsimp only at b ⊢
        rw [b]
        rfl
      | ok y =>
        rw [hg] at b
        obtain ⟨b1, b2, l, b3, b4⟩ := b
        dsimp only at b4 ⊢
        rw [b4, decide_eq_false h94]
        exact ⟨b1, b2, l, b3, rfl⟩
/-- what stands at the head of an atom that isn't a bracket -/
def isBracket (c : Nat) : Bool := decide (c ∈ [124, 41, 62, 40, 60, 42, 43, 63, 123, 93, 125])
theorem atom_eq {B : Bs} (o : Ok B) {p c : Nat} (hc : B[p]? = some c) (hb : isBracket c = false) (f n : Nat) (ns : List (Nat × Name)) :
    match atom B p c with
    | .error e => atomP (f + 1) n ns p (T B p) = .error (fl e)
    | .ok x => p < x.2 ∧ x.2 ≤ B.length ∧ ∃ a, NdPat x.1 a ∧ atomP (f + 1) n ns p (T B p) = .ok (a, ns, T B x.2, x.2) := by
  have hlt := lt_of_some hc
  have h256 := o.lt hc
  have k8 : ∀ d, d < 256 → (UInt8.ofNat c = UInt8.ofNat d) = (c = d) := fun d hd => eq8 h256 d hd
  unfold atom
  by_cases h91 : c = 91
  · subst h91
    rw [if_pos rfl]
    have v := valueSet_eq o hc f n ns
    cases hv : valueSet B p with
    | error e => rw [hv] at v; exact v
    | ok x =>
      rw [hv] at v
      obtain ⟨v1, v2, l, v3, v4⟩ := v
      exact ⟨v1, v2, _, .cls v3, v4⟩
  rw [if_neg h91]
  by_cases h92 : c = 92
  · subst h92
    rw [if_pos rfl]
    unfold escape
    rw [t_cons hc, atomP.eq_def]
    dsimp only
    rw [if_neg (by decide), if_neg (by decide), if_neg (by decide), if_pos (by decide)]
    rcases byte_cases B (p + 1) with ⟨hn, e⟩ | ⟨d, hd, e⟩
    · rw [e, t_nil (le_of_none hn)]
      rfl
    rw [e, t_cons hd]
    have hd256 := o.lt hd
    have hdl := lt_of_some hd
    dsimp only
    have hb98 : (UInt8.ofNat d = 98) = (d = 98) := eq8 hd256 98
    simp only [hb98]
    by_cases h98 : d = 98
    · subst h98
      have z1 : escaped 98 = none := by decide
      have z2 : classBounds 98 = none := by decide
      simp only [z1, z2, if_true]
      exact ⟨by omega, by omega, _, .edge, rfl⟩
    · simp only [if_neg h98, esc_eq hd256]
      cases hcl : classBounds d with
      | some bs =>
        obtain ⟨l, hl, hs⟩ := class_some hd256 hcl
        have hesc : escaped d = none := by
          have : ∀ d : Nat, d < 256 → classBounds d ≠ none → escaped d = none := by decide +kernel
          exact this d hd256 (by rw [hcl]; simp)
        rw [hesc, hl]
        exact ⟨by dsimp only; omega, by dsimp only; omega, _, .cls hs, rfl⟩
      | none =>
        rw [(class_none hd256).mp hcl]
        cases escaped d with
        | none => rfl
        | some v => exact ⟨by dsimp only; omega, by dsimp only; omega, _, .cls (.refl _), rfl⟩
  rw [if_neg h92, t_cons hc, atomP.eq_def]
  dsimp only
  have c46 : (UInt8.ofNat c = 46) = (c = 46) := eq8 h256 46
  have c94 : (UInt8.ofNat c = 94) = (c = 94) := eq8 h256 94
  have c36 : (UInt8.ofNat c = 36) = (c = 36) := eq8 h256 36
  have c92 : (UInt8.ofNat c = 92) = (c = 92) := eq8 h256 92
  have c91 : (UInt8.ofNat c = 91) = (c = 91) := eq8 h256 91
  have c40 : (UInt8.ofNat c = 40) = (c = 40) := eq8 h256 40
  have c60 : (UInt8.ofNat c = 60) = (c = 60) := eq8 h256 60
  simp only [c46, c94, c36, c92, c91, c40, c60, signs_eq h256]
  have nb : c ≠ 40 ∧ c ≠ 60 := by
    unfold isBracket at hb
    simp at hb
    omega
  by_cases h46 : c = 46
  · subst h46
    exact ⟨by dsimp only; omega, by dsimp only; omega, _, .any, rfl⟩
  by_cases h94 : c = 94
  · subst h94
    exact ⟨by dsimp only; omega, by dsimp only; omega, _, .bgn, rfl⟩
  by_cases h36 : c = 36
  · subst h36
    exact ⟨by dsimp only; omega, by dsimp only; omega, _, .fin, rfl⟩
  have hs : ¬ decide (c ∈ [124, 42, 43, 63, 123, 125, 46, 94, 36, 92, 91, 93, 40, 41, 60, 62]) = true := by
    unfold isBracket at hb
    simp at hb ⊢
    omega
  simp only [if_neg h94, if_neg h36, if_neg h46, if_neg h92, if_neg h91, if_neg nb.1, if_neg nb.2, if_neg hs]
  rw [← t_cons hc, valueP_eq o hlt]
  unfold plain
  cases hv : valueAt B p with
  | error e => rfl
  | ok x =>
    have := valueAt_le hlt (v := x.1) (n := x.2) hv
    exact ⟨by dsimp only [Except.map]; omega, by dsimp only [Except.map]; omega, _, .cls (.refl _), rfl⟩
end Mi
namespace Mi
open PatUtf PatWords
theorem dig8 {c : Nat} (h : c < 256) : PatUtf.isDigit (UInt8.ofNat c) = isFigure c := by
  unfold PatUtf.isDigit isFigure
  rw [u8n h]
theorem digGo_eq {B : Bs} (o : Ok B) {start : Nat} (h0 : B.getD start 0 ≠ 48) : ∀ (f found q : Nat), B.length - q < f → q ≤ B.length →
    digGo B start f found q = if q + ((T B q).takeWhile PatUtf.isDigit).length = B.length then .error (1, B.length) else
      .ok (((T B q).takeWhile PatUtf.isDigit).foldl (fun (m : Nat) (x : UInt8) => 10 * m + (x.toNat - 48)) found, q + ((T B q).takeWhile PatUtf.isDigit).length)
  | 0, _, _, h, _ => absurd h (by omega)
  | f + 1, found, q, hf, hq => by
    unfold digGo
    rcases byte_cases B q with ⟨hn, e⟩ | ⟨c, hc, e⟩
    · rw [e, t_nil (le_of_none hn)]
      have := le_of_none hn
      have : q = B.length := by omega
      subst this
      rw [if_pos (by simp)]
    · rw [e, t_cons hc]
      have h256 := o.lt hc
      have hlt := lt_of_some hc
      dsimp only
      by_cases hg : isFigure c = true
      · have tw : (UInt8.ofNat c :: T B (q + 1)).takeWhile PatUtf.isDigit = UInt8.ofNat c :: (T B (q + 1)).takeWhile PatUtf.isDigit := by
          rw [List.takeWhile_cons, if_pos (by rw [dig8 h256]; exact hg)]
        rw [if_pos ⟨hg, h0⟩, digGo_eq o h0 f _ (q + 1) (by omega) (by omega), tw]
        rw [List.length_cons, List.foldl_cons, u8n h256]
        have e1 : q + (((T B (q + 1)).takeWhile PatUtf.isDigit).length + 1) = q + 1 + ((T B (q + 1)).takeWhile PatUtf.isDigit).length := by omega
        have e2 : 10 * found + c - 48 = 10 * found + (c - 48) := by
          unfold isFigure at hg; simp at hg; omega
        rw [e1, e2]
      · have tw : (UInt8.ofNat c :: T B (q + 1)).takeWhile PatUtf.isDigit = [] := by
          rw [List.takeWhile_cons, if_neg (by rw [dig8 h256]; exact hg)]
        rw [if_neg (fun z => hg z.1), tw, if_neg (by simp; omega)]
        rfl
theorem number_eq {B : Bs} (o : Ok B) {p : Nat} (hp : p ≤ B.length) : timesP p (T B p) = match number B p with
    | .error e => .error (fl e)
    | .ok x => .ok (x.1, T B x.2, x.2) := by
  unfold number
  rcases byte_cases B p with ⟨hn, e⟩ | ⟨c, hc, e⟩
  · rw [e, t_nil (le_of_none hn)]; rfl
  rw [e]
  have h256 := o.lt hc
  have hlt := lt_of_some hc
  rw [t_cons hc]
  unfold timesP
  dsimp only
  rw [dig8 h256]
  by_cases hg : isFigure c = false
  · rw [if_pos hg, if_pos hg]; rfl
  rw [if_neg hg, if_neg hg]
  have hg' : isFigure c = true := by simpa using hg
  have c48 : (UInt8.ofNat c = 48) = (c = 48) := eq8 h256 48
  simp only [c48]
  by_cases h48 : c = 48
  · subst h48
    rw [if_pos rfl]
    unfold digGo
    rcases byte_cases B (p + 1) with ⟨hn, e1⟩ | ⟨d, hd, e1⟩
    · rw [e1, t_nil (le_of_none hn)]; rfl
    · rw [e1, t_cons hd]
      dsimp only
      rw [if_neg (by rw [getD_of hc]; simp)]
      simp only [Nat.sub_self, Nat.not_lt_zero, if_false]
      rw [← t_cons hd]
  · rw [if_neg h48]
    have g := digGo_eq o (start := p) (by rw [getD_of hc]; exact h48) (B.length + 1) (c - 48) (p + 1) (by omega) (by omega)
    rw [g]
    have tw : (UInt8.ofNat c :: T B (p + 1)).takeWhile PatUtf.isDigit = UInt8.ofNat c :: (T B (p + 1)).takeWhile PatUtf.isDigit := by
      rw [List.takeWhile_cons, if_pos (by rw [dig8 h256]; exact hg')]
    rw [tw]
    have hl : (List.takeWhile PatUtf.isDigit (T B (p + 1))).length ≤ (T B (p + 1)).length := List.IsPrefix.length_le (List.takeWhile_prefix _)
    rw [t_len] at hl
    simp only [List.length_cons, t_len, List.foldl_cons, u8n h256, Nat.mul_zero, Nat.zero_add]
    by_cases hend : p + 1 + (List.takeWhile PatUtf.isDigit (T B (p + 1))).length = B.length
    · rw [if_pos (by omega), if_pos hend]
      have e2 : p + (B.length - (p + 1) + 1) = B.length := by omega
      rw [e2]; rfl
    · rw [if_neg (by omega), if_neg hend]
      dsimp only
      unfold TIMES
      split
      · rfl
      · have e3 : p + ((List.takeWhile PatUtf.isDigit (T B (p + 1))).length + 1) = p + 1 + (List.takeWhile PatUtf.isDigit (T B (p + 1))).length := by omega
        rw [e3]
        have e4 : List.drop ((List.takeWhile PatUtf.isDigit (T B (p + 1))).length + 1) (UInt8.ofNat c :: T B (p + 1)) = T B (p + 1 + (List.takeWhile PatUtf.isDigit (T B (p + 1))).length) := by
          rw [List.drop_succ_cons]
          unfold T
          rw [← List.map_drop, List.drop_drop]
        rw [e4]
theorem number_le {B : Bs} (o : Ok B) {p n q : Nat} (h : number B p = .ok (n, q)) : p < q ∧ q < B.length ∧ n ≤ 20 := by
  unfold number at h
  rcases byte_cases B p with ⟨hn, e⟩ | ⟨c, hc, e⟩
  · rw [e] at h; cases h
  rw [e] at h
  have hlt := lt_of_some hc
  dsimp only at h
  split at h
  · cases h
  have key : ∀ (f found q0 v q1 : Nat), q0 ≤ B.length → digGo B p f found q0 = .ok (v, q1) → q0 ≤ q1 ∧ q1 < B.length := by
    intro f
    induction f with
    | zero => intro found q0 v q1 _ h; cases h
    | succ f ih =>
      intro found q0 v q1 hq h
      unfold digGo at h
      rcases byte_cases B q0 with ⟨hn, e⟩ | ⟨d, hd, e⟩
      · rw [e] at h; cases h
      rw [e] at h
      have := lt_of_some hd
      dsimp only at h
      split at h
      · have := ih _ _ _ _ (by omega) h; omega
      · cases h; omega
  cases hd : digGo B p (B.length + 1) (c - 48) (p + 1) with
  | error e => rw [hd] at h; cases h
  | ok x =>
    rw [hd] at h
    dsimp only at h
    have k := key _ _ _ _ _ (by omega) hd
    split at h
    · cases h
    · cases h
      omega
/-- a sign of repetition -/
def isRep (c : Nat) : Bool := decide (c ∈ [42, 43, 63, 123])
theorem rep_none {B : Bs} (o : Ok B) (a : Pat) {p : Nat} (h : ∀ c, B[p]? = some c → isRep c = false) : repP a p (T B p) = .ok (a, T B p, p) := by
  rcases byte_cases B p with ⟨hn, e⟩ | ⟨c, hc, e⟩
  · rw [t_nil (le_of_none hn)]; rfl
  have h256 := o.lt hc
  rw [t_cons hc]
  have hr := h c hc
  unfold isRep at hr
  simp at hr
  unfold repP
  dsimp only
  rw [if_neg (by rw [show (42 : UInt8) = UInt8.ofNat 42 from rfl, eq8 h256 42]; omega), if_neg (by rw [show (43 : UInt8) = UInt8.ofNat 43 from rfl, eq8 h256 43]; omega),
    if_neg (by rw [show (63 : UInt8) = UInt8.ofNat 63 from rfl, eq8 h256 63]; omega), if_neg (by rw [show (123 : UInt8) = UInt8.ofNat 123 from rfl, eq8 h256 123]; omega)]
theorem numbers_eq {B : Bs} (o : Ok B) (a : Pat) {p : Nat} (hc : B[p]? = some 123) : repP a p (T B p) = match numbers B (p + 1) with
    | .error e => .error (fl e)
    | .ok x => .ok (.rep a x.1.1 x.1.2, T B x.2, x.2) := by
  have hlt := lt_of_some hc
  rw [t_cons hc]
  unfold repP numbers
  dsimp only
  rw [if_neg (by decide), if_neg (by decide), if_neg (by decide), if_pos (by decide), number_eq o (by omega)]
  cases hn : number B (p + 1) with
  | error e => rfl
  | ok x =>
    obtain ⟨least, q⟩ := x
    have le := number_le o hn
    simp only [bind, Except.bind]
    obtain ⟨d, hd⟩ := some_of_lt le.2.1
    have hd256 := o.lt hd
    rw [byte_some hd, t_cons hd]
    dsimp only
    have d125 : (UInt8.ofNat d = 125) = (d = 125) := eq8 hd256 125
    have d44 : (UInt8.ofNat d = 44) = (d = 44) := eq8 hd256 44
    simp only [d125, d44, ne_eq]
    by_cases h44 : d = 44
    · subst h44
      rw [if_neg (by omega), if_neg (by omega), if_pos rfl]
      rcases byte_cases B (q + 1) with ⟨hn1, e1⟩ | ⟨g, hg, e1⟩
      · rw [e1, t_nil (le_of_none hn1)]; rfl
      have hg256 := o.lt hg
      rw [e1, t_cons hg]
      have g125 : (UInt8.ofNat g = 125) = (g = 125) := eq8 hg256 125
      simp only [g125]
      by_cases h125 : g = 125
      · rw [if_pos h125, if_pos h125]
      · rw [if_neg h125, if_neg h125, ← t_cons hg, number_eq o (by have := lt_of_some hg; omega)]
        cases hn2 : number B (q + 1) with
        | error e => rfl
        | ok y =>
          obtain ⟨most, q2⟩ := y
          have le2 := number_le o hn2
          dsimp only
          split
          · rfl
          · obtain ⟨z, hz⟩ := some_of_lt le2.2.1
            have hz256 := o.lt hz
            rw [byte_some hz, t_cons hz]
            have z125 : (UInt8.ofNat z = 125) = (z = 125) := eq8 hz256 125
            simp only [z125]
            split <;> rfl
    · by_cases h125 : d = 125
      · subst h125
        rw [if_pos rfl, if_neg (by omega), if_pos rfl]
      · rw [if_neg h125, if_pos h44, if_neg h44, if_neg h125]
        rfl
theorem times_eq {B : Bs} (o : Ok B) (a : Pat) {p c : Nat} (hc : B[p]? = some c) (hr : isRep c = true) : repP a p (T B p) = match times B p c with
    | .error e => .error (fl e)
    | .ok x => .ok (.rep a x.1.1 x.1.2, T B x.2, x.2) := by
  unfold times
  by_cases h43 : c = 43
  · subst h43; rw [t_cons hc]; rfl
  by_cases h63 : c = 63
  · subst h63; rw [t_cons hc]; rfl
  by_cases h123 : c = 123
  · subst h123
    rw [numbers_eq o a hc]
    rfl
  · have : c = 42 := by
      unfold isRep at hr
      simp at hr
      omega
    subst this
    rw [t_cons hc]; rfl
theorem numbers_le {B : Bs} (o : Ok B) {p q : Nat} {mn : Nat × Option Nat} (h : numbers B p = .ok (mn, q)) : p < q ∧ q ≤ B.length ∧ mn.1 ≤ 20 ∧ ∀ n, mn.2 = some n → mn.1 ≤ n ∧ n ≤ 20 := by
  unfold numbers at h
  cases hn : number B p with
  | error e => rw [hn] at h; cases h
  | ok x =>
    obtain ⟨least, q1⟩ := x
    have le := number_le o hn
    rw [hn] at h
    dsimp only at h
    obtain ⟨d, hd⟩ := some_of_lt le.2.1
    rw [byte_some hd] at h
    dsimp only at h
    split at h
    · rcases byte_cases B (q1 + 1) with ⟨hn1, e1⟩ | ⟨g, hg, e1⟩
      · rw [e1] at h; cases h
      have := lt_of_some hg
      rw [e1] at h
      dsimp only at h
      split at h
      · cases h
        exact ⟨by omega, by omega, le.2.2, fun n z => by cases z⟩
      · cases hn2 : number B (q1 + 1) with
        | error e => rw [hn2] at h; cases h
        | ok y =>
          obtain ⟨most, q2⟩ := y
          have le2 := number_le o hn2
          rw [hn2] at h
          dsimp only at h
          split at h
          · cases h
          · obtain ⟨z, hz⟩ := some_of_lt le2.2.1
            rw [byte_some hz] at h
            dsimp only at h
            split at h
            · cases h
              refine ⟨by omega, by omega, le.2.2, fun n z => ?_⟩
              cases z
              dsimp only
              omega
            · cases h
    · split at h
      · cases h
        refine ⟨by omega, by omega, le.2.2, fun n z => ?_⟩
        cases z
        exact ⟨Nat.le_refl _, le.2.2⟩
      · cases h
theorem times_le {B : Bs} (o : Ok B) {p c q : Nat} {mn : Nat × Option Nat} (hc : B[p]? = some c) (h : times B p c = .ok (mn, q)) : p < q ∧ q ≤ B.length ∧ mn.1 ≤ 20 ∧ ∀ n, mn.2 = some n → mn.1 ≤ n ∧ n ≤ 20 := by
  have hlt := lt_of_some hc
  unfold times at h
  split at h
  · cases h; exact ⟨by omega, by omega, by simp, fun n z => by cases z⟩
  split at h
  · cases h; exact ⟨by omega, by omega, by simp, fun n z => by cases z; simp⟩
  split at h
  · have := numbers_le o h; exact ⟨by omega, this.2⟩
  · cases h; exact ⟨by omega, by omega, by simp, fun n z => by cases z⟩
end Mi
namespace Mi
open PatUtf PatWords
/-! ### nodes that stand for a pattern -/
def capNames : Pat → List Name
  | .seq a b => capNames a ++ capNames b
  | .alt a b => capNames a ++ capNames b
  | .rep a _ _ => capNames a
  | .cap n a => n :: capNames a
  | _ => []
structure Ext (b b' : Bd) : Prop where
  n : ∀ (i : Nat) x, b.nodes[i]? = some x → b'.nodes[i]? = some x
  w : ∀ (i : Nat) x, b.weights[i]? = some x → b'.weights[i]? = some x
  l : b.nodes.length ≤ b'.nodes.length
theorem Ext.refl (b : Bd) : Ext b b := ⟨fun _ _ h => h, fun _ _ h => h, Nat.le_refl _⟩
theorem Ext.trans {a b c : Bd} (h : Ext a b) (h' : Ext b c) : Ext a c := ⟨fun i x q => h'.n i x (h.n i x q), fun i x q => h'.w i x (h.w i x q), Nat.le_trans h.l h'.l⟩
inductive StB (b : Bd) (x m n : Nat) : Nat → Nat → Prop where
  | stop {i} : b.nodes[i]? = some .empty → StB b x m n n i
  | more {k i j} : k < n → b.nodes[i]? = some (.step x j (decide (m ≤ k))) → j < i → x < i → StB b x m n (k + 1) j → StB b x m n k i
inductive StU (b : Bd) (x m : Nat) : Nat → Nat → Prop where
  | stop {i} : b.nodes[i]? = some (.loop x) → x < i → StU b x m m i
  | more {k i j} : k < m → b.nodes[i]? = some (.step x j false) → j < i → x < i → StU b x m (k + 1) j → StU b x m k i
inductive Rep (b : Bd) (ns : List Name) : Nat → Pat → Prop where
  | atom {i nd p} : b.nodes[i]? = some nd → b.weights[i]? = some 1 → NdPat nd p → Rep b ns i p
  | empty {i} : b.nodes[i]? = some .empty → b.weights[i]? = some 0 → Rep b ns i .nothing
  | pair {i x y a c} : b.nodes[i]? = some (.pair x y) → b.weights[i]? = some (a.size + c.size) → x < i → y < i → Rep b ns x a → Rep b ns y c → Rep b ns i (.seq a c)
  | either {i x y a c} : b.nodes[i]? = some (.either x y) → b.weights[i]? = some (a.size + c.size) → x < i → y < i → Rep b ns x a → Rep b ns y c → Rep b ns i (.alt a c)
  | cap {i x k n a} : b.nodes[i]? = some (.named x k) → b.weights[i]? = some a.size → x < i → ns[k]? = some n → n ∉ capNames a → Rep b ns x a → Rep b ns i (.cap n a)
  | repB {i x m n a} : StB b x m n 0 i → b.weights[i]? = some (n * a.size) → Rep b ns x a → Rep b ns i (.rep a m (some n))
  | repU {i x m a} : StU b x m 0 i → b.weights[i]? = some (max m 1 * a.size) → Rep b ns x a → Rep b ns i (.rep a m none)
theorem StB.mono {b b' : Bd} (e : Ext b b') {x m n k i : Nat} (h : StB b x m n k i) : StB b' x m n k i := by
  induction h with
  | stop h => exact .stop (e.n _ _ h)
  | more h1 h2 h3 h4 _ ih => exact .more h1 (e.n _ _ h2) h3 h4 ih
theorem StU.mono {b b' : Bd} (e : Ext b b') {x m k i : Nat} (h : StU b x m k i) : StU b' x m k i := by
  induction h with
  | stop h h' => exact .stop (e.n _ _ h) h'
  | more h1 h2 h3 h4 _ ih => exact .more h1 (e.n _ _ h2) h3 h4 ih
theorem get_app {α : Type} {l : List α} {i : Nat} {x : α} (h : l[i]? = some x) (m : List α) : (l ++ m)[i]? = some x := by
  rw [List.getElem?_append_left (List.getElem?_eq_some_iff.mp h).1]
  exact h
theorem Rep.mono {b b' : Bd} (e : Ext b b') {ns : List Name} (more : List Name) {i : Nat} {p : Pat} (h : Rep b ns i p) : Rep b' (ns ++ more) i p := by
  induction h with
  | atom h1 h2 h3 => exact .atom (e.n _ _ h1) (e.w _ _ h2) h3
  | empty h1 h2 => exact .empty (e.n _ _ h1) (e.w _ _ h2)
  | pair h1 h2 h3 h4 _ _ i1 i2 => exact .pair (e.n _ _ h1) (e.w _ _ h2) h3 h4 i1 i2
  | either h1 h2 h3 h4 _ _ i1 i2 => exact .either (e.n _ _ h1) (e.w _ _ h2) h3 h4 i1 i2
  | cap h1 h2 h3 h4 h5 _ ih => exact .cap (e.n _ _ h1) (e.w _ _ h2) h3 (get_app h4 _) h5 ih
  | repB h1 h2 _ ih => exact .repB (h1.mono e) (e.w _ _ h2) ih
  | repU h1 h2 _ ih => exact .repU (h1.mono e) (e.w _ _ h2) ih
theorem Rep.mono' {b b' : Bd} (e : Ext b b') {ns : List Name} {i : Nat} {p : Pat} (h : Rep b ns i p) : Rep b' ns i p := by
  have := h.mono e []
  rwa [List.append_nil] at this
theorem NdPat.size {nd : Nd} {p : Pat} (h : NdPat nd p) : p.size = 1 := by cases h <;> rfl
theorem NdPat.caps {nd : Nd} {p : Pat} (h : NdPat nd p) : capNames p = [] := by cases h <;> rfl
theorem Rep.weight {b : Bd} {ns : List Name} {i : Nat} {p : Pat} (h : Rep b ns i p) : b.weights[i]? = some p.size := by
  cases h with
  | atom h1 h2 h3 => rw [h3.size]; exact h2
  | empty h1 h2 => exact h2
  | pair h1 h2 => exact h2
  | either h1 h2 => exact h2
  | cap h1 h2 => exact h2
  | repB h1 h2 => exact h2
  | repU h1 h2 => exact h2
/-! ### the builder -/
def Wf (b : Bd) : Prop := b.nodes.length = b.weights.length
theorem w_of {b : Bd} {i x : Nat} (h : b.weights[i]? = some x) : b.w i = x := by
  unfold Bd.w
  rw [List.getD_eq_getElem?_getD, h]; rfl
theorem Rep.w {b : Bd} {ns : List Name} {i : Nat} {p : Pat} (h : Rep b ns i p) : b.w i = p.size := w_of h.weight
theorem Rep.lt {b : Bd} (wf : Wf b) {ns : List Name} {i : Nat} {p : Pat} (h : Rep b ns i p) : i < b.nodes.length := by
  rw [wf]
  exact (List.getElem?_eq_some_iff.mp h.weight).1
theorem added_ext (b : Bd) (nd : Nd) (w : Nat) : Ext b (b.added nd w).1 := ⟨fun i x h => get_app h _, fun i x h => get_app h _, by simp [Bd.added]⟩
theorem added_wf {b : Bd} (h : Wf b) (nd : Nd) (w : Nat) : Wf (b.added nd w).1 := by
  unfold Wf Bd.added at *
  simp [h]
theorem added_n (b : Bd) (nd : Nd) (w : Nat) : (b.added nd w).1.nodes[(b.added nd w).2]? = some nd := by
  simp [Bd.added]
theorem added_w {b : Bd} (h : Wf b) (nd : Nd) (w : Nat) : (b.added nd w).1.weights[(b.added nd w).2]? = some w := by
  unfold Wf at h
  simp [Bd.added, h]
theorem added_2 (b : Bd) (nd : Nd) (w : Nat) : (b.added nd w).2 = b.nodes.length := rfl
inductive RepRow (b : Bd) (ns : List Name) : List Nat → Pat → Prop where
  | nil : RepRow b ns [] .nothing
  | cons {j js a d} : Rep b ns j a → RepRow b ns js d → RepRow b ns (j :: js) (.seq a d)
theorem RepRow.mono {b b' : Bd} (e : Ext b b') {ns : List Name} (more : List Name) {js : List Nat} {p : Pat} (h : RepRow b ns js p) : RepRow b' (ns ++ more) js p := by
  induction h with
  | nil => exact .nil
  | cons h _ ih => exact .cons (h.mono e more) ih
/-- a row, built from its end -/
theorem row_ok {b : Bd} (wf : Wf b) {ns : List Name} {js : List Nat} {d : Pat} (h : RepRow b ns js d) : Ext b (b.row js).1 ∧ Wf (b.row js).1 ∧ Rep (b.row js).1 ns (b.row js).2 d := by
  unfold Bd.row
  -- by induction from the end: a state that stands for what is behind
  have key : ∀ (l : List Nat) (s : Bd × Nat), Bd.rowGo s (l.reverse) = Bd.rowGo s l.reverse := fun _ _ => rfl
  have app : ∀ (l m : List Nat) (s : Bd × Nat), Bd.rowGo s (l ++ m) = Bd.rowGo (Bd.rowGo s l) m := by
    intro l
    induction l with
    | nil => intro m s; rfl
    | cons x l ih => intro m s; exact ih m _
  have main : ∀ (js : List Nat) (d : Pat), RepRow b ns js d → let s := Bd.rowGo (b.added .empty 0) js.reverse; Ext b s.1 ∧ Wf s.1 ∧ Rep s.1 ns s.2 d := by
    intro js d h
    induction h with
    | nil => exact ⟨added_ext _ _ _, added_wf wf _ _, .empty (added_n _ _ _) (added_w wf _ _)⟩
    | @cons j js a d hj _ ih =>
      rw [List.reverse_cons, app]
      obtain ⟨e, w, r⟩ := ih
      have hj' := hj.mono' e
      show Ext b (Bd.added _ _ _).1 ∧ Wf (Bd.added _ _ _).1 ∧ Rep (Bd.added _ _ _).1 ns (Bd.added _ _ _).2 _
      refine ⟨e.trans (added_ext _ _ _), added_wf w _ _, .pair (added_n _ _ _) ?_ (hj'.lt w) (r.lt w) (hj'.mono' (added_ext _ _ _)) (r.mono' (added_ext _ _ _))⟩
      rw [added_w w, hj'.w, r.w]
  exact main js d h
/-- rows that stand for alternatives -/
inductive RepAlts (b : Bd) (ns : List Name) : List Nat → Pat → Prop where
  | one {j a} : Rep b ns j a → RepAlts b ns [j] a
  | cons {j js a d} : Rep b ns j a → RepAlts b ns js d → RepAlts b ns (j :: js) (.alt a d)
theorem RepAlts.mono {b b' : Bd} (e : Ext b b') {ns : List Name} (more : List Name) {js : List Nat} {p : Pat} (h : RepAlts b ns js p) : RepAlts b' (ns ++ more) js p := by
  induction h with
  | one h => exact .one (h.mono e more)
  | cons h _ ih => exact .cons (h.mono e more) ih
theorem RepAlts.ne {b : Bd} {ns : List Name} {js : List Nat} {p : Pat} (h : RepAlts b ns js p) : js ≠ [] := by cases h <;> simp
theorem oneOf_ok {b : Bd} (wf : Wf b) {ns : List Name} {js : List Nat} {d : Pat} (h : RepAlts b ns js d) : Ext b (b.oneOf js).1 ∧ Wf (b.oneOf js).1 ∧ Rep (b.oneOf js).1 ns (b.oneOf js).2 d := by
  unfold Bd.oneOf
  have app : ∀ (l m : List Nat) (s : Bd × Nat), Bd.eitherGo s (l ++ m) = Bd.eitherGo (Bd.eitherGo s l) m := by
    intro l
    induction l with
    | nil => intro m s; rfl
    | cons x l ih => intro m s; exact ih m _
  induction h with
  | @one j a h => exact ⟨.refl b, wf, h⟩
  | @cons j js a d hj hjs ih =>
    have ne := hjs.ne
    obtain ⟨y, ys, rfl⟩ := List.exists_cons_of_ne_nil ne
    rw [List.getLast?_cons_cons, List.dropLast_cons₂, List.reverse_cons, app]
    obtain ⟨e, w, r⟩ := ih
    have hj' := hj.mono' e
    show Ext b (Bd.added _ _ _).1 ∧ Wf (Bd.added _ _ _).1 ∧ Rep (Bd.added _ _ _).1 ns (Bd.added _ _ _).2 _
    refine ⟨e.trans (added_ext _ _ _), added_wf w _ _, .either (added_n _ _ _) ?_ (hj'.lt w) (r.lt w) (hj'.mono' (added_ext _ _ _)) (r.mono' (added_ext _ _ _))⟩
    rw [added_w w, hj'.w, r.w]
theorem named_ok {b : Bd} (wf : Wf b) {ns : List Name} {x k : Nat} {n : Name} {a : Pat} (h : Rep b ns x a) (hk : ns[k]? = some n) (hn : n ∉ capNames a) :
    Ext b (b.namedN x k).1 ∧ Wf (b.namedN x k).1 ∧ Rep (b.namedN x k).1 ns (b.namedN x k).2 (.cap n a) := by
  unfold Bd.namedN
  refine ⟨added_ext _ _ _, added_wf wf _ _, .cap (added_n _ _ _) ?_ (h.lt wf) hk hn (h.mono' (added_ext _ _ _))⟩
  rw [added_w wf, h.w]
theorem often_ok {b : Bd} (wf : Wf b) {ns : List Name} {x : Nat} {a : Pat} (h : Rep b ns x a) (m : Nat) (n : Option Nat) :
    Ext b (b.often x m n).1 ∧ Wf (b.often x m n).1 ∧ Rep (b.often x m n).1 ns (b.often x m n).2 (.rep a m n) := by
  cases n with
  | some n =>
    show let s := Bd.oftenGo x m n n (b.added .empty 0); Ext b s.1 ∧ Wf s.1 ∧ Rep s.1 ns s.2 (.rep a m (some n))
    have key : ∀ (k : Nat) (s : Bd × Nat), k ≤ n → Ext b s.1 → Wf s.1 → s.2 < s.1.nodes.length → StB s.1 x m n k s.2 → s.1.weights[s.2]? = some (if k = n then 0 else n * a.size) →
        let t := Bd.oftenGo x m n k s; Ext b t.1 ∧ Wf t.1 ∧ Rep t.1 ns t.2 (.rep a m (some n)) := by
      intro k
      induction k with
      | zero =>
        intro s hk e w hl st hw
        refine ⟨e, w, .repB st ?_ (h.mono' e)⟩
        refine hw.trans ?_
        split
        · rename_i z; rw [← z]; simp
        · rfl
      | succ k ih =>
        intro s hk e w hl st hw
        have hx := h.mono' e
        refine ih _ (by omega) (e.trans (added_ext _ _ _)) (added_wf w _ _) (by simp [Bd.added]) (.more (by omega) (added_n _ _ _) hl (hx.lt w) (st.mono (added_ext _ _ _))) ?_
        rw [added_w w, hx.w, if_neg (by omega)]
    exact key n _ (Nat.le_refl n) (added_ext _ _ _) (added_wf wf _ _) (by simp [Bd.added]) (.stop (added_n _ _ _)) (by rw [added_w wf, if_pos rfl])
  | none =>
    show let s := Bd.endlessGo x (max 1 m * b.w x) m (b.added (.loop x) (max 1 m * b.w x)); Ext b s.1 ∧ Wf s.1 ∧ Rep s.1 ns s.2 (.rep a m none)
    rw [h.w]
    have key : ∀ (j : Nat) (s : Bd × Nat), j ≤ m → Ext b s.1 → Wf s.1 → s.2 < s.1.nodes.length → StU s.1 x m j s.2 → s.1.weights[s.2]? = some (max 1 m * a.size) →
        let t := Bd.endlessGo x (max 1 m * a.size) j s; Ext b t.1 ∧ Wf t.1 ∧ Rep t.1 ns t.2 (.rep a m none) := by
      intro j
      induction j with
      | zero =>
        intro s hk e w hl st hw
        exact ⟨e, w, .repU st (by rw [Nat.max_comm m 1]; exact hw) (h.mono' e)⟩
      | succ k ih =>
        intro s hk e w hl st hw
        have hx := h.mono' e
        exact ih _ (by omega) (e.trans (added_ext _ _ _)) (added_wf w _ _) (by simp [Bd.added]) (.more (by omega) (added_n _ _ _) hl (hx.lt w) (st.mono (added_ext _ _ _))) (added_w w _ _)
    exact key m _ (Nat.le_refl m) (added_ext _ _ _) (added_wf wf _ _) (by simp [Bd.added]) (.stop (added_n _ _ _) (h.lt wf)) (added_w wf _ _)
end Mi
namespace Mi
open PatUtf PatWords
/-! ### names -/
def bn (B : Bs) (x : Nat × Nat) : Name := (slice B x.1 x.2).map UInt8.ofNat
def nsOf (B : Bs) (names : List (Nat × Nat)) : List (Nat × Name) := names.map fun x => (x.1, bn B x)
theorem nsOf_app (B : Bs) (a b : List (Nat × Nat)) : nsOf B (a ++ b) = nsOf B a ++ nsOf B b := List.map_append
theorem slice_ok {B : Bs} (o : Ok B) (i n : Nat) : Ok (slice B i n) := fun c h => o c (List.mem_of_mem_drop (List.mem_of_mem_take h))
theorem map8_inj : ∀ {a b : Bs}, Ok a → Ok b → a.map UInt8.ofNat = b.map UInt8.ofNat → a = b
  | [], [], _, _, _ => rfl
  | [], _ :: _, _, _, h => by simp at h
  | _ :: _, [], _, _, h => by simp at h
  | x :: a, y :: b, h1, h2, h => by
    rw [List.map_cons, List.map_cons] at h
    injection h with e1 e2
    have := (u8eq (h1 x List.mem_cons_self) (h2 y List.mem_cons_self)).mp e1
    subst this
    rw [map8_inj (fun c z => h1 c (List.mem_cons_of_mem _ z)) (fun c z => h2 c (List.mem_cons_of_mem _ z)) e2]
theorem any_eq {B : Bs} (o : Ok B) (names : List (Nat × Nat)) {name : Bs} (on : Ok name) :
    ((nsOf B names).any fun (y : Nat × Name) => y.2 == name.map UInt8.ofNat) = (names.map fun x => slice B x.1 x.2).contains name := by
  rw [Bool.eq_iff_iff]
  unfold nsOf
  simp only [List.any_map, List.any_eq_true, Function.comp, beq_iff_eq, List.contains_iff_mem, List.mem_map, bn]
  constructor
  · rintro ⟨x, hx, e⟩
    exact ⟨x, hx, map8_inj (slice_ok o _ _) on e⟩
  · rintro ⟨x, hx, e⟩
    exact ⟨x, hx, by rw [e]⟩
theorem name8 {c : Nat} (h : c < 256) : PatUtf.inName (UInt8.ofNat c) = isInName c := by
  unfold PatUtf.inName isInName
  rw [dig8 h]
  have e1 : PatUtf.isSmall (UInt8.ofNat c) = isSmall c := by unfold PatUtf.isSmall isSmall; rw [u8n h]
  have e2 : (UInt8.ofNat c == 95) = decide (c = 95) := by
    rw [Bool.eq_iff_iff, beq_iff_eq, decide_eq_true_iff]
    exact u8eq (d := 95) h (by decide)
  rw [e1, e2]
theorem small8 {c : Nat} (h : c < 256) : PatUtf.isSmall (UInt8.ofNat c) = isSmall c := by unfold PatUtf.isSmall isSmall; rw [u8n h]
theorem nameGo_eq {B : Bs} (o : Ok B) : ∀ (f p : Nat), B.length - p < f → p ≤ B.length →
    nameGo B f p = if p + ((T B p).takeWhile PatUtf.inName).length = B.length then .error (1, B.length) else .ok (p + ((T B p).takeWhile PatUtf.inName).length)
  | 0, _, h, _ => absurd h (by omega)
  | f + 1, p, hf, hp => by
    unfold nameGo
    rcases byte_cases B p with ⟨hn, e⟩ | ⟨c, hc, e⟩
    · rw [e, t_nil (le_of_none hn)]
      have : p = B.length := by have := le_of_none hn; omega
      subst this
      rw [if_pos (by simp)]
    · rw [e, t_cons hc]
      have h256 := o.lt hc
      have hlt := lt_of_some hc
      dsimp only
      by_cases hg : isInName c = true
      · have tw : (UInt8.ofNat c :: T B (p + 1)).takeWhile PatUtf.inName = UInt8.ofNat c :: (T B (p + 1)).takeWhile PatUtf.inName := by
          rw [List.takeWhile_cons, if_pos (by rw [name8 h256]; exact hg)]
        rw [if_pos hg, nameGo_eq o f (p + 1) (by omega) (by omega), tw, List.length_cons]
        have e1 : p + (((T B (p + 1)).takeWhile PatUtf.inName).length + 1) = p + 1 + ((T B (p + 1)).takeWhile PatUtf.inName).length := by omega
        rw [e1]
      · have tw : (UInt8.ofNat c :: T B (p + 1)).takeWhile PatUtf.inName = [] := by
          rw [List.takeWhile_cons, if_neg (by rw [name8 h256]; exact hg)]
        rw [if_neg hg, tw, if_neg (by simp; omega)]
        rfl
theorem slice_t (B : Bs) (p n : Nat) : (slice B p n).map UInt8.ofNat = (T B p).take n := by
  unfold slice T
  rw [List.map_take]
theorem t_drop (B : Bs) (p n : Nat) : (T B p).drop n = T B (p + n) := by
  unfold T
  rw [← List.map_drop, List.drop_drop]
/-- the head of a named bracket, behind its sign -/
theorem takeName_eq {B : Bs} (o : Ok B) {p : Nat} (hp : p ≤ B.length) {names : List (Nat × Nat)} (h16 : names.length ≤ 16) {α : Type} (k : Name → Bytes → Except Fault α) :
    ((match T B p with
      | [] => .error ⟨1, p⟩
      | d :: _ => if PatUtf.isSmall d = false then .error ⟨2, p⟩ else
          let n := (T B p).takeWhile PatUtf.inName
          if n.length = (T B p).length then .error ⟨1, p + n.length⟩ else if NAMELEN < n.length ∨ ((nsOf B names).any fun (y : Nat × Name) => y.2 == n) = true ∨ NAMES ≤ (nsOf B names).length then .error ⟨4, p⟩ else match (T B p).drop n.length with
            | [] => .error ⟨1, p + n.length⟩
            | e :: s => if e ≠ 32 then .error ⟨2, p + n.length⟩ else k n s) : Except Fault α) = match takeName B names p with
      | .error e => .error (fl e)
      | .ok x => k (bn B x.1) (T B x.2) := by
  unfold takeName
  rcases byte_cases B p with ⟨hn, e⟩ | ⟨c, hc, e⟩
  · rw [e, t_nil (le_of_none hn)]; rfl
  rw [e]
  have h256 := o.lt hc
  have hlt := lt_of_some hc
  have hT := t_cons hc
  rw [hT]
  dsimp only
  rw [small8 h256]
  by_cases hs : isSmall c = false
  · rw [if_pos hs, if_pos hs]; rfl
  rw [if_neg hs, if_neg hs, ← hT, nameGo_eq o (B.length + 1) p (by omega) hp]
  have hl : ((T B p).takeWhile PatUtf.inName).length ≤ (T B p).length := List.IsPrefix.length_le (List.takeWhile_prefix _)
  rw [t_len] at hl ⊢
  generalize htw : (T B p).takeWhile PatUtf.inName = tw at *
  by_cases hend : p + tw.length = B.length
  · rw [if_pos (by omega), if_pos hend, hend]; rfl
  rw [if_neg (by omega), if_neg hend]
  dsimp only
  have esl : (slice B p (p + tw.length - p)).map UInt8.ofNat = tw := by
    rw [slice_t, ← htw]
    have := List.prefix_iff_eq_take.mp (List.takeWhile_prefix PatUtf.inName (l := T B p))
    have e1 : p + (List.takeWhile PatUtf.inName (T B p)).length - p = (List.takeWhile PatUtf.inName (T B p)).length := by omega
    rw [e1]
    exact this.symm
  have esn : (slice B p (p + tw.length - p)).length = tw.length := by rw [← List.length_map (f := UInt8.ofNat), esl]
  have enew : isNewName B names (slice B p (p + tw.length - p)) = false ↔ (NAMELEN < tw.length ∨ ((nsOf B names).any fun (y : Nat × Name) => y.2 == tw) = true ∨ NAMES ≤ (nsOf B names).length) := by
    unfold isNewName
    rw [esn]
    have a := any_eq o names (slice_ok o p (p + tw.length - p))
    rw [esl] at a
    rw [a]
    have hl2 : (nsOf B names).length = names.length := List.length_map _
    rw [hl2]
    unfold NAMELEN NAMES
    by_cases h1 : 32 < tw.length ∨ names.length = 16
    · rw [if_pos h1]
      constructor
      · intro _; omega
      · intro _; rfl
    · rw [if_neg h1]
      cases hcn : (List.map (fun x => slice B x.1 x.2) names).contains (slice B p (p + tw.length - p)) with
      | true => simp
      | false =>
        simp
        omega
  by_cases hnew : isNewName B names (slice B p (p + tw.length - p)) = false
  · rw [if_pos (enew.mp hnew), if_pos hnew]; rfl
  rw [if_neg (fun z => hnew (enew.mpr z)), if_neg hnew, t_drop]
  obtain ⟨d, hd⟩ := some_of_lt (B := B) (p := p + tw.length) (by omega)
  have hd256 := o.lt hd
  rw [t_cons hd, byte_some hd]
  have d32 : (UInt8.ofNat d = 32) = (d = 32) := eq8 hd256 32
  simp only [ne_eq, d32]
  by_cases h32 : d = 32
  · rw [if_neg (by simpa using h32), if_pos h32]
    show k tw _ = k (bn B (p, p + tw.length - p)) _
    unfold bn
    rw [esl]
  · rw [if_pos h32, if_neg h32]; rfl
theorem takeName_le {B : Bs} (o : Ok B) {p q : Nat} {names : List (Nat × Nat)} {x : Nat × Nat} (hp : p ≤ B.length) (h : takeName B names p = .ok (x, q)) :
    p < q ∧ q ≤ B.length ∧ names.length ≠ 16 ∧ (names.map fun x => slice B x.1 x.2).contains (slice B x.1 x.2) = false := by
  unfold takeName at h
  rcases byte_cases B p with ⟨hn, e⟩ | ⟨c, hc, e⟩
  · rw [e] at h; cases h
  rw [e] at h
  dsimp only at h
  split at h
  · cases h
  rw [nameGo_eq o (B.length + 1) p (by omega) hp] at h
  generalize (T B p).takeWhile PatUtf.inName = tw at *
  by_cases hend : p + tw.length = B.length
  · rw [if_pos hend] at h; cases h
  rw [if_neg hend] at h
  dsimp only at h
  split at h
  · cases h
  rename_i hnew
  rcases byte_cases B (p + tw.length) with ⟨hn, e1⟩ | ⟨d, hd, e1⟩
  · rw [e1] at h; cases h
  have := lt_of_some hd
  rw [e1] at h
  dsimp only at h
  split at h
  · cases h
    unfold isNewName at hnew
    split at hnew
    · exact absurd rfl hnew
    · rename_i hno
      refine ⟨by omega, by omega, by omega, ?_⟩
      simpa using hnew
  · cases h
end Mi
namespace Mi
open PatUtf PatWords
/-! ### the reader goes as the specification's recursion -/
def nms (B : Bs) (s : St) : List Name := s.names.map (bn B)
structure Pre (B : Bs) (s : St) : Prop where
  wf : Wf s.bd
  le : s.place ≤ B.length
  n16 : s.names.length ≤ 16
  nd : (nms B s).Nodup
  b40 : s.below.length ≤ 40
structure Post (B : Bs) (s s' : St) (more : List (Nat × Nat)) : Prop where
  pre : Pre B s'
  place : s.place ≤ s'.place
  ext : Ext s.bd s'.bd
  names : s'.names = s.names ++ more
  below : s'.below = s.below
  closing : s'.top.closing = s.top.closing
  name : s'.top.name = s.top.name
  run : ∀ r, Run B s' r → Run B s r
inductive RepPat (b : Bd) (ns : List Name) : List Nat → List Nat → Pat → Prop where
  | last {js d} : RepRow b ns js d → RepPat b ns [] js d
  | cons {r rs js a d} : Rep b ns r a → RepPat b ns rs js d → RepPat b ns (r :: rs) js (.alt a d)
theorem RepPat.mono {b b' : Bd} (e : Ext b b') {ns : List Name} (more : List Name) {rs js : List Nat} {p : Pat} (h : RepPat b ns rs js p) : RepPat b' (ns ++ more) rs js p := by
  induction h with
  | last h => exact .last (h.mono e more)
  | cons h _ ih => exact .cons (h.mono e more) ih
theorem RepPat.alts {b : Bd} (wf : Wf b) {ns : List Name} {rs js : List Nat} {d : Pat} (h : RepPat b ns rs js d) : RepAlts (b.row js).1 ns (rs ++ [(b.row js).2]) d := by
  induction h with
  | last h => exact .one (row_ok wf h).2.2
  | @cons r rs js a d h h2 ih =>
    refine .cons ?_ ih
    have e : ∀ {rs js d}, RepPat b ns rs js d → Ext b (b.row js).1 := by
      intro rs js d h
      induction h with
      | last h => exact (row_ok wf h).1
      | cons _ _ ih => exact ih
    exact h.mono' (e h2)
theorem RepPat.row {b : Bd} (wf : Wf b) {ns : List Name} {rs js : List Nat} {d : Pat} (h : RepPat b ns rs js d) : Ext b (b.row js).1 ∧ Wf (b.row js).1 := by
  induction h with
  | last h => exact ⟨(row_ok wf h).1, (row_ok wf h).2.1⟩
  | cons _ _ ih => exact ih
theorem nms_app {B : Bs} {s s' : St} {more : List (Nat × Nat)} (h : s'.names = s.names ++ more) : nms B s' = nms B s ++ more.map (bn B) := by
  unfold nms
  rw [h, List.map_append]
theorem Post.trans {B : Bs} {a b c : St} {m n : List (Nat × Nat)} (h : Post B a b m) (h' : Post B b c n) : Post B a c (m ++ n) where
  pre := h'.pre
  place := Nat.le_trans h.place h'.place
  ext := h.ext.trans h'.ext
  names := by rw [h'.names, h.names, List.append_assoc]
  below := h'.below.trans h.below
  closing := h'.closing.trans h.closing
  name := h'.name.trans h.name
  run := fun r z => h.run r (h'.run r z)
theorem Post.refl {B : Bs} {s : St} (h : Pre B s) : Post B s s [] := ⟨h, Nat.le_refl _, .refl _, by simp, rfl, rfl, rfl, fun _ z => z⟩
abbrev Res := Pat × List (Nat × Name) × Bytes × Nat
def Stop (B : Bs) (p : Nat) (l : List Nat) : Prop := ∀ c, B[p]? = some c → c ∈ l
/-- the specification's answer, told by what the machine does -/
def Told (B : Bs) (s : St) (r : Except Fault Res) (ok : St → List (Nat × Nat) → Pat → Prop) : Prop := match r with
  | .error e => ∃ e', e = fl e' ∧ Run B s (.error e')
  | .ok x => ∃ s' more, Post B s s' more ∧ x.2.1 = nsOf B s'.names ∧ x.2.2.1 = T B s'.place ∧ x.2.2.2 = s'.place ∧ (∀ n ∈ capNames x.1, n ∈ more.map (bn B)) ∧ ok s' more x.1
def CRow (B : Bs) (f : Nat) : Prop := ∀ s, Pre B s → (s.hasAtom = false ∨ ∀ c, B[s.place]? = some c → isRep c = false) → 3 * (B.length - s.place) + 2 ≤ f →
  Told B s (rowP f s.below.length (nsOf B s.names) s.place (T B s.place)) fun s' _ d => Stop B s'.place [124, 41, 62] ∧ s'.top.rows = s.top.rows ∧ ∃ js, s'.top.parts = s.top.parts ++ js ∧ RepRow s'.bd (nms B s') js d
def CPat (B : Bs) (f : Nat) : Prop := ∀ s, Pre B s → s.hasAtom = false → s.top.parts = [] → 3 * (B.length - s.place) + 3 ≤ f →
  Told B s (patP f s.below.length (nsOf B s.names) s.place (T B s.place)) fun s' _ d => Stop B s'.place [41, 62] ∧ ∃ rs, s'.top.rows = s.top.rows ++ rs ∧ RepPat s'.bd (nms B s') rs s'.top.parts d
def CAtom (B : Bs) (f : Nat) : Prop := ∀ s c, Pre B s → B[s.place]? = some c → c ∉ [124, 41, 62] → (s.hasAtom = false ∨ isRep c = false) → 3 * (B.length - s.place) + 1 ≤ f →
  Told B s (atomP f s.below.length (nsOf B s.names) s.place (T B s.place)) fun s' _ d => s'.hasAtom = true ∧ s.place < s'.place ∧ s'.top.rows = s.top.rows ∧ ∃ j, s'.top.parts = s.top.parts ++ [j] ∧ Rep s'.bd (nms B s') j d
theorem run_step {B : Bs} {s s' : St} {c : Nat} (hc : B[s.place]? = some c) (h : s.take B c = .ok s') : ∀ r, Run B s' r → Run B s r := fun _ z => .step hc h z
theorem patP_eq (f o : Nat) (ns : List (Nat × Name)) (p : Nat) (b : Bytes) : patP (f + 1) o ns p b = (match rowP f o ns p b with
    | .error e => .error e
    | .ok x => match x.2.2.1 with
      | [] => .ok x
      | c :: s => if c = 124 then (match patP f o x.2.1 (x.2.2.2 + 1) s with
          | .error e => .error e
          | .ok y => .ok (.alt x.1 y.1, y.2))
        else .ok x : Except Fault Res) := by
  rw [patP.eq_def]
  dsimp only
  cases rowP f o ns p b with
  | error e => rfl
  | ok x =>
    obtain ⟨a, ns', r, q⟩ := x
    simp only [bind, Except.bind]
    cases r with
    | nil => rfl
    | cons c s =>
      dsimp only
      split
      · cases patP f o ns' (q + 1) s <;> rfl
      · rfl
theorem rowP_eq (f o : Nat) (ns : List (Nat × Name)) (p : Nat) (c : UInt8) (r : Bytes) (h : ¬ (c = 124 ∨ c = 41 ∨ c = 62)) : rowP (f + 1) o ns p (c :: r) = (match atomP f o ns p (c :: r) with
    | .error e => .error e
    | .ok x => match repP x.1 x.2.2.2 x.2.2.1 with
      | .error e => .error e
      | .ok y => match rowP f o x.2.1 y.2.2 y.2.1 with
        | .error e => .error e
        | .ok z => .ok (.seq y.1 z.1, z.2) : Except Fault Res) := by
  rw [rowP.eq_def]
  dsimp only
  rw [if_neg h]
  cases atomP f o ns p (c :: r) with
  | error e => rfl
  | ok x =>
    obtain ⟨a, ns', r', q⟩ := x
    simp only [bind, Except.bind]
    cases repP a q r' with
    | error e => rfl
    | ok y =>
      obtain ⟨a', r2, q2⟩ := y
      dsimp only
      cases rowP f o ns' q2 r2 <;> rfl
theorem pat_step {B : Bs} (o : Ok B) {f : Nat} (hr : CRow B f) (hp : CPat B f) : CPat B (f + 1) := by
  intro s pre ha hparts hf
  rw [patP_eq]
  have hrow := hr s pre (.inl ha) (by omega)
  cases hx : rowP f s.below.length (nsOf B s.names) s.place (T B s.place) with
  | error e => rw [hx] at hrow; exact hrow
  | ok x =>
    rw [hx] at hrow
    obtain ⟨s1, more, post, e1, e2, e3, e4, hstop, hrows, js, hjs, hrep⟩ := hrow
    obtain ⟨a, ns1, r1, q1⟩ := x
    dsimp only at e1 e2 e3 e4 hrep
    subst e1 e2 e3
    dsimp only
    rw [hparts, List.nil_append] at hjs
    rcases byte_cases B s1.place with ⟨hn, _⟩ | ⟨c, hc, _⟩
    · rw [t_nil (le_of_none hn)]
      refine ⟨s1, more, post, rfl, ?_, rfl, e4, fun c hc => (by rw [hn] at hc; cases hc), [], by rw [hrows, List.append_nil], by rw [hjs]; exact .last hrep⟩
      dsimp only
      rw [t_nil (le_of_none hn)]
    · have h256 := o.lt hc
      have hlt := lt_of_some hc
      rw [t_cons hc]
      dsimp only
      have c124 : (UInt8.ofNat c = 124) = (c = 124) := eq8 h256 124
      simp only [c124]
      by_cases h124 : c = 124
      · rw [if_pos h124]
        subst h124
        -- the machine ends the row
        have hrow' := row_ok post.pre.wf hrep
        have wfs : Wf (s1.endRow).bd := by
          show Wf (s1.bd.row s1.top.parts).1
          rw [hjs]
          exact hrow'.2.1
        have pl := post.place
        have ho : s.below.length = s1.below.length := by rw [post.below]
        have hp2 := hp { s1.endRow with place := s1.place + 1 } ⟨wfs, hlt, post.pre.n16, post.pre.nd, post.pre.b40⟩ rfl rfl (by show 3 * (B.length - (s1.place + 1)) + 3 ≤ f; omega)
        have hrun : ∀ r, Run B { s1.endRow with place := s1.place + 1 } r → Run B s r := fun r z => post.run r (run_step hc (by unfold St.take; rw [if_pos rfl]) r z)
        rw [ho]
        show Told B s (match patP f s1.below.length (nsOf B s1.names) (s1.place + 1) (T B (s1.place + 1)) with | .error e => _ | .ok y => _) _
        cases hy : patP f s1.below.length (nsOf B s1.names) (s1.place + 1) (T B (s1.place + 1)) with
        | error e =>
          have hp2' : Told B { s1.endRow with place := s1.place + 1 } (patP f s1.below.length (nsOf B s1.names) (s1.place + 1) (T B (s1.place + 1))) _ := hp2
          rw [hy] at hp2'
          obtain ⟨e', z1, z2⟩ := hp2'
          exact ⟨e', z1, hrun _ z2⟩
        | ok y =>
          have hp2' : Told B { s1.endRow with place := s1.place + 1 } (patP f s1.below.length (nsOf B s1.names) (s1.place + 1) (T B (s1.place + 1))) _ := hp2
          rw [hy] at hp2'
          obtain ⟨s2, more2, post2, f1, f2, f3, f4, hstop2, rs, hrs, hrp⟩ := hp2'
          have ext1 : Ext s1.bd s1.endRow.bd := by
            show Ext s1.bd (s1.bd.row s1.top.parts).1
            rw [hjs]
            exact hrow'.1
          have nm2 : nms B s2 = nms B s1 ++ more2.map (bn B) := nms_app (s := s1) post2.names
          have p2 := post2.place
          dsimp only at p2
          refine ⟨s2, more ++ more2, ⟨post2.pre, by omega, (post.ext.trans ext1).trans post2.ext, ?_, ?_, ?_, ?_, fun r z => hrun r (post2.run r z)⟩, f1, f2, f3, ?_, hstop2, (s1.bd.row s1.top.parts).2 :: rs, ?_, ?_⟩
          · rw [post2.names, ← List.append_assoc, ← post.names]; rfl
          · rw [post2.below]; exact post.below
          · rw [post2.closing]; exact post.closing
          · rw [post2.name]; exact post.name
          · intro n hn
            rw [List.map_append, List.mem_append]
            rcases List.mem_append.mp hn with z | z
            · exact .inl (e4 n z)
            · exact .inr (f4 n z)
          · rw [hrs]
            show (s1.top.rows ++ [(s1.bd.row s1.top.parts).2]) ++ rs = _
            rw [hrows, List.append_assoc]; rfl
          · refine .cons ?_ hrp
            rw [nm2]
            refine Rep.mono (b := s1.endRow.bd) post2.ext _ ?_
            show Rep (s1.bd.row s1.top.parts).1 _ (s1.bd.row s1.top.parts).2 a
            rw [hjs]
            exact hrow'.2.2
      · rw [if_neg h124]
        refine ⟨s1, more, post, rfl, ?_, rfl, e4, fun d hd => ?_, [], by rw [hrows, List.append_nil], by rw [hjs]; exact .last hrep⟩
        · dsimp only; rw [t_cons hc]
        · have := hstop d hd
          rw [hc] at hd
          cases hd
          simp at this ⊢
          omega
theorem row_step {B : Bs} (o : Ok B) {f : Nat} (ha : CAtom B f) (hr : CRow B f) : CRow B (f + 1) := by
  intro s pre hat hf
  rcases byte_cases B s.place with ⟨hn, _⟩ | ⟨c, hc, _⟩
  · have hT := t_nil (le_of_none hn)
    rw [hT, rowP.eq_def]
    exact ⟨s, [], .refl pre, rfl, by rw [hT], rfl, fun n hn => (by cases hn), fun c hc => (by rw [hn] at hc; cases hc), rfl, [], by simp, .nil⟩
  have h256 := o.lt hc
  have hlt := lt_of_some hc
  have hT := t_cons hc
  have cst : (UInt8.ofNat c = 124 ∨ UInt8.ofNat c = 41 ∨ UInt8.ofNat c = 62) = (c = 124 ∨ c = 41 ∨ c = 62) := by
    have c1 : (UInt8.ofNat c = 124) = (c = 124) := eq8 h256 124
    have c2 : (UInt8.ofNat c = 41) = (c = 41) := eq8 h256 41
    have c3 : (UInt8.ofNat c = 62) = (c = 62) := eq8 h256 62
    rw [c1, c2, c3]
  by_cases hst : c = 124 ∨ c = 41 ∨ c = 62
  · rw [hT, rowP.eq_def]
    dsimp only
    rw [if_pos (by rw [cst]; exact hst)]
    refine ⟨s, [], .refl pre, rfl, by rw [hT], rfl, fun n hn => (by cases hn), fun d hd => ?_, rfl, [], by simp, .nil⟩
    rw [hc] at hd
    cases hd
    simp
    omega
  have hatom := ha s c pre hc (by simp; omega) (hat.imp_right fun z => z c hc) (by omega)
  rw [hT, rowP_eq f _ _ _ _ _ (by rw [cst]; exact hst), ← hT]
  cases hx : atomP f s.below.length (nsOf B s.names) s.place (T B s.place) with
  | error e => rw [hx] at hatom; exact hatom
  | ok x =>
    rw [hx] at hatom
    obtain ⟨s1, more, post, e1, e2, e3, e4, hh, hpl, hrows, j, hj, hrep⟩ := hatom
    obtain ⟨a, ns1, r1, q1⟩ := x
    dsimp only at e1 e2 e3 e4 hrep
    subst e1 e2 e3
    dsimp only
    -- behind an item: the rest of the row
    have rest : ∀ (s2 : St) (a2 : Pat), Post B s1 s2 [] → (s2.hasAtom = false ∨ ∀ c, B[s2.place]? = some c → isRep c = false) → s2.top.rows = s1.top.rows → (∃ j2, s2.top.parts = s.top.parts ++ [j2] ∧ Rep s2.bd (nms B s2) j2 a2) → capNames a2 = capNames a →
        Told B s (match rowP f s.below.length (nsOf B s1.names) s2.place (T B s2.place) with
          | .error e => .error e
          | .ok z => .ok (.seq a2 z.1, z.2)) fun s' _ d => Stop B s'.place [124, 41, 62] ∧ s'.top.rows = s.top.rows ∧ ∃ js, s'.top.parts = s.top.parts ++ js ∧ RepRow s'.bd (nms B s') js d := by
      intro s2 a2 post2 hat2 hrows2 ⟨j2, hj2, hrep2⟩ hcaps
      have ho : s.below.length = s2.below.length := by rw [post2.below, post.below]
      have hns : nsOf B s1.names = nsOf B s2.names := by rw [post2.names, List.append_nil]
      have p2 := post2.place
      have hrow := hr s2 post2.pre hat2 (by omega)
      rw [ho, hns]
      cases hz : rowP f s2.below.length (nsOf B s2.names) s2.place (T B s2.place) with
      | error e =>
        rw [hz] at hrow
        obtain ⟨e', z1, z2⟩ := hrow
        exact ⟨e', z1, post.run _ (post2.run _ z2)⟩
      | ok z =>
        rw [hz] at hrow
        obtain ⟨s3, more3, post3, g1, g2, g3, g4, hstop, hrows3, js, hjs, hrp⟩ := hrow
        have pt := (post.trans post2).trans post3
        rw [List.append_nil] at pt
        refine ⟨s3, more ++ more3, pt, g1, g2, g3, fun n hn => ?_, hstop, by rw [hrows3, hrows2, hrows], j2 :: js, ?_, .cons ?_ hrp⟩
        · rw [List.map_append, List.mem_append]
          rcases List.mem_append.mp hn with y | y
          · exact .inl (e4 n (by rw [← hcaps]; exact y))
          · exact .inr (g4 n y)
        · rw [hjs, hj2, List.append_assoc]; rfl
        · rw [nms_app post3.names]
          exact hrep2.mono post3.ext _
    by_cases hrp : ∃ d, B[s1.place]? = some d ∧ isRep d = true
    · obtain ⟨d, hd, hdr⟩ := hrp
      rw [times_eq o a hd hdr]
      have htake : s1.take B d = s1.repeat_ B d := by
        unfold isRep at hdr
        simp at hdr
        unfold St.take
        rw [if_neg (by omega), if_neg (by omega), if_neg (by omega), if_pos (by omega)]
      cases ht : times B s1.place d with
      | error e =>
        refine ⟨e, rfl, post.run _ (.err hd ?_)⟩
        rw [htake]
        unfold St.repeat_
        rw [hh, if_neg (by simp), ht]
      | ok y =>
        obtain ⟨mn, q⟩ := y
        have tl := times_le o hd ht
        dsimp only
        have eq2 : s1.repeat_ B d = .ok { s1 with place := q, bd := (s1.bd.often j mn.1 mn.2).1, top := { s1.top with parts := s.top.parts ++ [(s1.bd.often j mn.1 mn.2).2] }, hasAtom := false } := by
          unfold St.repeat_
          rw [hh, if_neg (by simp), ht]
          dsimp only
          rw [hj, List.getLast?_concat, List.dropLast_concat]
          rfl
        have of := often_ok post.pre.wf hrep mn.1 mn.2
        refine rest { s1 with place := q, bd := (s1.bd.often j mn.1 mn.2).1, top := { s1.top with parts := s.top.parts ++ [(s1.bd.often j mn.1 mn.2).2] }, hasAtom := false } _ ⟨⟨of.2.1, tl.2.1, post.pre.n16, post.pre.nd, post.pre.b40⟩, ?_, of.1, by simp, rfl, rfl, rfl, fun r z => ?_⟩ (.inl rfl) rfl ⟨_, rfl, of.2.2⟩ rfl
        · show s1.place ≤ q
          omega
        · exact .step hd (by rw [htake]; exact eq2) z
    · have hno : ∀ d, B[s1.place]? = some d → isRep d = false := fun d hd => by
        cases z : isRep d with
        | false => rfl
        | true => exact absurd ⟨d, hd, z⟩ hrp
      rw [rep_none o a hno]
      exact rest s1 a (.refl post.pre) (.inr hno) rfl ⟨j, hj, hrep⟩ rfl
end Mi
namespace Mi
open PatUtf PatWords
theorem atomP_open (f o : Nat) (ns : List (Nat × Name)) (p : Nat) (r : Bytes) : atomP (f + 1) o ns p (40 :: r) = (if OPENED ≤ o then .error ⟨5, p⟩ else match patP f (o + 1) ns (p + 1) r with
    | .error e => .error e
    | .ok x => match x.2.2.1 with
      | [] => .error ⟨1, x.2.2.2⟩
      | z :: v => if z = 41 then .ok (x.1, x.2.1, v, x.2.2.2 + 1) else .error ⟨2, x.2.2.2⟩ : Except Fault Res) := by
  rw [atomP.eq_def]
  dsimp only
  rw [if_neg (by decide), if_neg (by decide), if_neg (by decide), if_neg (by decide), if_neg (by decide), if_pos rfl]
  split
  · rfl
  · cases patP f (o + 1) ns (p + 1) r with
    | error e => rfl
    | ok x =>
      obtain ⟨a, ns', u, k⟩ := x
      cases u <;> rfl
theorem atomP_less (f o : Nat) (ns : List (Nat × Name)) (p : Nat) (r : Bytes) : atomP (f + 1) o ns p (60 :: r) = (if OPENED ≤ o then .error ⟨5, p⟩ else
    match r with
      | [] => .error ⟨1, p + 1⟩
      | d :: _ => if PatUtf.isSmall d = false then .error ⟨2, p + 1⟩ else
          let n := r.takeWhile PatUtf.inName
          if n.length = r.length then .error ⟨1, p + 1 + n.length⟩ else if NAMELEN < n.length ∨ (ns.any fun (y : Nat × Name) => y.2 == n) = true ∨ NAMES ≤ ns.length then .error ⟨4, p + 1⟩ else match r.drop n.length with
            | [] => .error ⟨1, p + 1 + n.length⟩
            | e :: s => if e ≠ 32 then .error ⟨2, p + 1 + n.length⟩ else (fun (n : Name) (s : Bytes) => match patP f (o + 1) (ns ++ [(p + 1, n)]) (p + 2 + n.length) s with
              | .error e => .error e
              | .ok x => match x.2.2.1 with
                | [] => .error ⟨1, x.2.2.2⟩
                | z :: v => if z = 62 then .ok (.cap n x.1, x.2.1, v, x.2.2.2 + 1) else .error ⟨2, x.2.2.2⟩ : Name → Bytes → Except Fault Res) n s : Except Fault Res) := by
  rw [atomP.eq_def]
  dsimp only
  rw [if_neg (by decide), if_neg (by decide), if_neg (by decide), if_neg (by decide), if_neg (by decide), if_neg (by decide), if_pos rfl]
  split
  · rfl
  · cases r with
    | nil => rfl
    | cons d r =>
      dsimp only
      split
      · rfl
      · split
        · rfl
        · split
          · rfl
          · cases List.drop ((d :: r).takeWhile PatUtf.inName).length (d :: r) with
            | nil => rfl
            | cons e s =>
              dsimp only
              split
              · rfl
              · cases patP f (o + 1) (ns ++ [(p + 1, (d :: r).takeWhile PatUtf.inName)]) (p + 2 + ((d :: r).takeWhile PatUtf.inName).length) s with
                | error e => rfl
                | ok x =>
                  obtain ⟨a, ns', u, k⟩ := x
                  cases u <;> rfl
/-- what stands between a bracket's two signs, read; then the second one -/
theorem level_ok {B : Bs} (o : Ok B) {f : Nat} (hp : CPat B f) {s s1 : St} {close : Nat} (hcl : close < 256) (h1 : s1.top.closing = some close) (hb : s1.below = s.top :: s.below) (pre1 : Pre B s1) (ha1 : s1.hasAtom = false) (hpt : s1.top.parts = []) (hrw : s1.top.rows = [])
    (hf : 3 * (B.length - s1.place) + 3 ≤ f) (hcc : close = 41 ∨ close = 62) (hext : Ext s.bd s1.bd) (hpl : s.place < s1.place) {m0 : List (Nat × Nat)} (hnm : s1.names = s.names ++ m0) (pre : Pre B s) (hrun : ∀ r, Run B s1 r → Run B s r) (w : Pat → Pat)
    (hname : ∀ (b : Bd) (ns : List Name) (x : Nat) (a : Pat) (more : List (Nat × Nat)), Wf b → ns = nms B s1 ++ more.map (bn B) → ns.Nodup → (∀ n ∈ capNames a, n ∈ more.map (bn B)) → Rep b ns x a → let y := (match s1.top.name with | none => (b, x) | some k => b.namedN x k); Ext b y.1 ∧ Wf y.1 ∧ Rep y.1 ns y.2 (w a))
    (hcaps : ∀ a more, (∀ n ∈ capNames a, n ∈ more.map (bn B)) → ∀ n ∈ capNames (w a), n ∈ (m0 ++ more).map (bn B)) :
    Told B s (match patP f s1.below.length (nsOf B s1.names) s1.place (T B s1.place) with
      | .error e => .error e
      | .ok x => match x.2.2.1 with
        | [] => .error ⟨1, x.2.2.2⟩
        | z :: v => if z = UInt8.ofNat close then .ok (w x.1, x.2.1, v, x.2.2.2 + 1) else .error ⟨2, x.2.2.2⟩)
      fun s' _ d => s'.hasAtom = true ∧ s.place < s'.place ∧ s'.top.rows = s.top.rows ∧ ∃ j, s'.top.parts = s.top.parts ++ [j] ∧ Rep s'.bd (nms B s') j d := by
  have hpat := hp s1 pre1 ha1 hpt hf
  cases hx : patP f s1.below.length (nsOf B s1.names) s1.place (T B s1.place) with
  | error e =>
    rw [hx] at hpat
    obtain ⟨e', z1, z2⟩ := hpat
    exact ⟨e', z1, hrun _ z2⟩
  | ok x =>
    rw [hx] at hpat
    obtain ⟨s2, more, post, e1, e2, e3, e4, hstop, rs, hrs, hrep⟩ := hpat
    obtain ⟨a, ns1, r1, q1⟩ := x
    dsimp only at e1 e2 e3 e4 hrep
    subst e1 e2 e3
    dsimp only
    rw [hrw, List.nil_append] at hrs
    rcases byte_cases B s2.place with ⟨hn, _⟩ | ⟨c, hc, _⟩
    · rw [t_nil (le_of_none hn)]
      refine ⟨(1, s2.place), rfl, hrun _ (post.run _ ?_)⟩
      have hfin : s2.finish = .error (1, s2.place) := by
        unfold St.finish
        rw [if_pos (by rw [post.below, hb]; simp)]
      rw [← hfin]
      exact .done (le_of_none hn)
    have h256 := o.lt hc
    have hlt := lt_of_some hc
    rw [t_cons hc]
    dsimp only
    have c8 := u8eq h256 hcl
    have hst := hstop c hc
    have htake : s2.take B c = s2.close c := by
      simp at hst
      unfold St.take
      rw [if_neg (by omega), if_pos (by omega)]
    by_cases hcc2 : c = close
    · rw [if_pos (c8.mpr hcc2)]
      subst hcc2
      have al := hrep.alts post.pre.wf
      have ro := hrep.row post.pre.wf
      have oo := oneOf_ok ro.2 al
      have nm2 := nms_app (B := B) post.names
      have nmd := hname _ (nms B s2) _ _ more oo.2.1 nm2 post.pre.nd e4 oo.2.2
      have p2 := post.place
      -- the state behind
      have key : ∃ y : Bd × Nat, y = (match s2.top.name with
          | none => (s2.bd.row s2.top.parts).1.oneOf (rs ++ [(s2.bd.row s2.top.parts).2])
          | some k => ((s2.bd.row s2.top.parts).1.oneOf (rs ++ [(s2.bd.row s2.top.parts).2])).1.namedN ((s2.bd.row s2.top.parts).1.oneOf (rs ++ [(s2.bd.row s2.top.parts).2])).2 k) := ⟨_, rfl⟩
      obtain ⟨y, hy⟩ := key
      have hclose : s2.close c = .ok (St.add { s2.endRow with place := s2.place + 1, bd := y.1, top := s.top, below := s.below } y.2) := by
        unfold St.close
        rw [if_neg (by rw [post.closing, h1]; simp)]
        have hbl : (s2.endRow).below = s.top :: s.below := by rw [← hb, ← post.below]; rfl
        have hrows : (s2.endRow).top.rows = rs ++ [(s2.bd.row s2.top.parts).2] := by
          show s2.top.rows ++ _ = _
          rw [hrs]
        simp only [hbl, hrows]
        rw [hy]
        rfl
      have ey : Ext ((s2.bd.row s2.top.parts).1.oneOf (rs ++ [(s2.bd.row s2.top.parts).2])).1 y.1 ∧ Wf y.1 ∧ Rep y.1 (nms B s2) y.2 (w a) := by
        rw [hy, post.name]
        cases hnn : s1.top.name with
        | none => rw [hnn] at nmd; exact nmd
        | some k => rw [hnn] at nmd; exact nmd
      have hb40 : s.below.length ≤ 40 := pre.b40
      refine ⟨St.add { s2.endRow with place := s2.place + 1, bd := y.1, top := s.top, below := s.below } y.2, m0 ++ more, ⟨⟨ey.2.1, hlt, post.pre.n16, post.pre.nd, hb40⟩, ?_, ?_, ?_, rfl, rfl, rfl, fun r z => hrun _ (post.run _ (.step hc (by rw [htake]; exact hclose) z))⟩, rfl, rfl, rfl, hcaps a more e4, rfl, ?_, rfl, y.2, rfl, ey.2.2⟩
      · show s.place ≤ s2.place + 1
        omega
      · exact ((hext.trans post.ext).trans ro.1).trans (oo.1.trans ey.1)
      · show s2.names = s.names ++ (m0 ++ more)
        rw [post.names, hnm, List.append_assoc]
      · show s.place < s2.place + 1
        omega
    · rw [if_neg (fun z => hcc2 (c8.mp z))]
      refine ⟨(2, s2.place), rfl, hrun _ (post.run _ (.err hc ?_))⟩
      rw [htake]
      unfold St.close
      rw [if_pos (by rw [post.closing, h1]; simp; omega)]
theorem told_eq {B : Bs} {s : St} {r r' : Except Fault Res} {ok : St → List (Nat × Nat) → Pat → Prop} (e : r = r') (h : Told B s r' ok) : Told B s r ok := e ▸ h
theorem atom_step {B : Bs} (o : Ok B) {f : Nat} (hp : CPat B f) : CAtom B (f + 1) := by
  intro s c pre hc hcs hat hf
  have h256 := o.lt hc
  have hlt := lt_of_some hc
  have hT := t_cons hc
  simp only [List.mem_cons, List.not_mem_nil, or_false, not_or] at hcs
  by_cases hbr : isBracket c = false
  · have hb := hbr
    unfold isBracket at hb
    simp at hb
    have htake : s.take B c = (match atom B s.place c with
        | .error e => .error e
        | .ok x => .ok (St.add { s with place := x.2, bd := (s.bd.added x.1 1).1 } (s.bd.added x.1 1).2)) := by
      unfold St.take
      rw [if_neg (by omega), if_neg (by omega), if_neg (by omega), if_neg (by omega), if_neg (by omega)]
      cases atom B s.place c <;> rfl
    have ae := atom_eq o hc hbr f s.below.length (nsOf B s.names)
    cases hx : atom B s.place c with
    | error e =>
      rw [hx] at ae htake
      dsimp only at ae
      rw [ae]
      exact ⟨e, rfl, .err hc htake⟩
    | ok x =>
      rw [hx] at ae htake
      obtain ⟨a1, a2, a, a3, a4⟩ := ae
      rw [a4]
      refine ⟨St.add { s with place := x.2, bd := (s.bd.added x.1 1).1 } (s.bd.added x.1 1).2, [], ⟨⟨added_wf pre.wf x.1 1, a2, pre.n16, pre.nd, pre.b40⟩, Nat.le_of_lt a1, added_ext _ _ _, by simp [St.add], rfl, rfl, rfl, fun r z => .step hc htake z⟩, rfl, rfl, rfl, fun n hn => ?_, rfl, a1, rfl, _, rfl, .atom (added_n _ _ _) (added_w pre.wf _ _) a3⟩
      rw [a3.caps] at hn
      cases hn
  by_cases h40 : c = 40
  · subst h40
    have e40 : UInt8.ofNat 40 = 40 := rfl
    rw [hT, e40, atomP_open]
    have hopen : s.take B 40 = s.open_ B 40 := by
      unfold St.take
      rw [if_neg (by omega), if_neg (by omega), if_pos (by omega)]
    unfold OPENED
    by_cases hdeep : 40 ≤ s.below.length
    · rw [if_pos hdeep]
      refine ⟨(5, s.place), rfl, .err hc ?_⟩
      rw [hopen]
      unfold St.open_
      rw [if_pos (by omega)]
    · rw [if_neg hdeep]
      have hst : s.open_ B 40 = .ok { s with place := s.place + 1, top := ⟨some 41, none, [], []⟩, below := s.top :: s.below, hasAtom := false } := by
        unfold St.open_
        rw [if_neg (by omega), if_pos rfl]
      refine level_ok (s1 := { s with place := s.place + 1, top := ⟨some 41, none, [], []⟩, below := s.top :: s.below, hasAtom := false }) o hp (close := 41) (by omega) rfl rfl ⟨pre.wf, hlt, pre.n16, pre.nd, by show s.below.length + 1 ≤ 40; omega⟩ rfl rfl rfl
        (by show 3 * (B.length - (s.place + 1)) + 3 ≤ f; omega) (.inl rfl) (.refl _) (Nat.lt_succ_self _) (m0 := []) (by simp) pre (fun r z => .step hc (by rw [hopen]; exact hst) z) (fun a => a) (fun b ns x a more wf _ _ _ r => ⟨.refl b, wf, r⟩) (fun a more h n hn => h n hn)
  by_cases h60 : c = 60
  · subst h60
    have e60 : UInt8.ofNat 60 = 60 := rfl
    rw [hT, e60, atomP_less]
    have hopen : s.take B 60 = s.open_ B 60 := by
      unfold St.take
      rw [if_neg (by omega), if_neg (by omega), if_pos (by omega)]
    unfold OPENED
    by_cases hdeep : 40 ≤ s.below.length
    · rw [if_pos hdeep]
      refine ⟨(5, s.place), rfl, .err hc ?_⟩
      rw [hopen]
      unfold St.open_
      rw [if_pos (by omega)]
    · rw [if_neg hdeep]
      have te := takeName_eq o (p := s.place + 1) hlt (names := s.names) pre.n16 (fun (n : Name) (sb : Bytes) => (match patP f (s.below.length + 1) (nsOf B s.names ++ [(s.place + 1, n)]) (s.place + 2 + n.length) sb with
              | .error e => .error e
              | .ok x => match x.2.2.1 with
                | [] => .error ⟨1, x.2.2.2⟩
                | z :: v => if z = 62 then .ok (.cap n x.1, x.2.1, v, x.2.2.2 + 1) else .error ⟨2, x.2.2.2⟩ : Except Fault Res))
      refine told_eq te ?_
      have hst : s.open_ B 60 = (match takeName B s.names (s.place + 1) with
          | .error e => .error e
          | .ok x => .ok { s with place := x.2, names := s.names ++ [x.1], top := ⟨some 62, some s.names.length, [], []⟩, below := s.top :: s.below, hasAtom := false }) := by
        unfold St.open_
        rw [if_neg (by omega), if_neg (by omega)]
        cases takeName B s.names (s.place + 1) <;> rfl
      cases hx : takeName B s.names (s.place + 1) with
      | error e =>
        rw [hx] at hst
        exact ⟨e, rfl, .err hc (by rw [hopen]; exact hst)⟩
      | ok x =>
        obtain ⟨⟨nb, nl⟩, q⟩ := x
        rw [hx] at hst
        have tl := takeName_le o (p := s.place + 1) hlt hx
        dsimp only at tl ⊢
        have hb1 : nb = s.place + 1 ∧ q = s.place + 2 + nl ∧ (bn B (nb, nl)).length = nl := by
          unfold takeName at hx
          rcases byte_cases B (s.place + 1) with ⟨hn, e⟩ | ⟨c1, hc1, e⟩
          · rw [e] at hx; cases hx
          rw [e] at hx
          dsimp only at hx
          split at hx
          · cases hx
          rw [nameGo_eq o (B.length + 1) (s.place + 1) (by omega) hlt] at hx
          have hl : ((T B (s.place + 1)).takeWhile PatUtf.inName).length ≤ (T B (s.place + 1)).length := List.IsPrefix.length_le (List.takeWhile_prefix _)
          rw [t_len] at hl
          generalize (T B (s.place + 1)).takeWhile PatUtf.inName = tw at *
          by_cases hend : s.place + 1 + tw.length = B.length
          · rw [if_pos hend] at hx; cases hx
          rw [if_neg hend] at hx
          dsimp only at hx
          split at hx
          · cases hx
          · rcases byte_cases B (s.place + 1 + tw.length) with ⟨hn, e1⟩ | ⟨d, hd, e1⟩
            · rw [e1] at hx; cases hx
            rw [e1] at hx
            dsimp only at hx
            split at hx
            · cases hx
              refine ⟨rfl, by omega, ?_⟩
              unfold bn slice
              rw [List.length_map, List.length_take, List.length_drop]
              dsimp only
              omega
            · cases hx
        obtain ⟨b1, b2, b3⟩ := hb1
        subst b1
        have ens : nsOf B s.names ++ [(s.place + 1, bn B (s.place + 1, nl))] = nsOf B (s.names ++ [(s.place + 1, nl)]) := by rw [nsOf_app]; rfl
        have epl : s.place + 2 + (bn B (s.place + 1, nl)).length = q := by rw [b3, b2]
        rw [ens, epl]
        have nd1 : (List.map (bn B) (s.names ++ [(s.place + 1, nl)])).Nodup := by
          rw [List.map_append, List.map_cons, List.map_nil]
          refine List.nodup_append.mpr ⟨pre.nd, by simp, fun a ha b hb => ?_⟩
          rw [List.mem_singleton] at hb
          subst hb
          rintro rfl
          have t4 := tl.2.2.2
          rw [← any_eq o s.names (slice_ok o _ _)] at t4
          rw [List.any_eq_false] at t4
          obtain ⟨y, hy, e⟩ := List.mem_map.mp ha
          exact t4 (y.1, bn B y) (List.mem_map.mpr ⟨y, hy, rfl⟩) (by simpa [bn] using e)
        have lo := level_ok (s := s) (s1 := { s with place := q, names := s.names ++ [(s.place + 1, nl)], top := ⟨some 62, some s.names.length, [], []⟩, below := s.top :: s.below, hasAtom := false }) o hp (close := 62) (by omega) rfl rfl
          ⟨pre.wf, tl.2.1, by have := pre.n16; have := tl.2.2.1; simp; omega, nd1, by show s.below.length + 1 ≤ 40; omega⟩ rfl rfl rfl
          (by show 3 * (B.length - q) + 3 ≤ f; omega) (.inr rfl) (.refl _) (by show s.place < q; omega) (m0 := [(s.place + 1, nl)]) rfl pre (fun r z => .step hc (by rw [hopen]; exact hst) z) (fun a => .cap (bn B (s.place + 1, nl)) a) ?_ ?_
        · exact lo
        · intro b ns x a more wf hns hnd hsub hrep
          have hnms : nms B { s with place := q, names := s.names ++ [(s.place + 1, nl)], top := ⟨some 62, some s.names.length, [], []⟩, below := s.top :: s.below, hasAtom := false } = List.map (bn B) s.names ++ [bn B (s.place + 1, nl)] := by
            unfold nms
            rw [List.map_append]; rfl
          rw [hnms] at hns
          refine named_ok wf hrep ?_ ?_
          · rw [hns, List.append_assoc, List.getElem?_append_right (by simp)]
            simp
          · intro hin
            have := hsub _ hin
            rw [hns] at hnd
            have h2 := (List.nodup_append.mp hnd).2.2 (bn B (s.place + 1, nl)) (by simp) _ this
            exact h2 rfl
        · intro a more h n hn
          rw [List.map_append, List.mem_append]
          rcases List.mem_cons.mp hn with z | z
          · exact .inl (by rw [z]; simp)
          · exact .inr (h n z)
  -- signs that can't stand there
  have hsg : c ∈ [42, 43, 63, 123, 93, 125] := by
    unfold isBracket at hbr
    simp at hbr ⊢
    omega
  have herr : s.take B c = .error (2, s.place) := by
    simp at hsg
    unfold St.take
    rw [if_neg (by omega), if_neg (by omega), if_neg (by omega)]
    by_cases hr : isRep c = true
    · have hnr : s.hasAtom = false := by
        rcases hat with z | z
        · exact z
        · rw [hr] at z; cases z
      unfold isRep at hr
      simp at hr
      rw [if_pos (by omega)]
      unfold St.repeat_
      rw [if_pos hnr]
    · unfold isRep at hr
      simp at hr
      rw [if_neg (by omega), if_pos (by omega)]
  have hspec : atomP (f + 1) s.below.length (nsOf B s.names) s.place (T B s.place) = .error ⟨2, s.place⟩ := by
    rw [hT]
    simp at hsg
    rcases hsg with h | h | h | h | h | h <;> subst h <;> (rw [atomP.eq_def]; rfl)
  rw [hspec]
  exact ⟨(2, s.place), rfl, .err hc herr⟩
theorem all_steps {B : Bs} (o : Ok B) : ∀ f, CPat B f ∧ CRow B f ∧ CAtom B f
  | 0 => ⟨fun s pre _ _ h => absurd h (by omega), fun s pre _ h => absurd h (by omega), fun s c pre _ _ _ h => absurd h (by omega)⟩
  | f + 1 => by
    obtain ⟨h1, h2, h3⟩ := all_steps o f
    exact ⟨pat_step o h2 h1, row_step o h3 h2, atom_step o h1⟩
/-- **THE LAW OF READING**: the machine, from its beginning, answers as the specification -/
theorem read_told {B : Bs} (o : Ok B) : match PatWords.read (T B 0) with
    | .error e => ∃ e', e = fl e' ∧ Run B St.fresh (.error e')
    | .ok x => ∃ b i names, Run B St.fresh (.ok (b, i, names)) ∧ x.2 = nsOf B names ∧ Rep b (names.map (bn B)) i x.1 ∧ Wf b ∧ (names.map (bn B)).Nodup ∧ (∀ n ∈ capNames x.1, n ∈ names.map (bn B)) ∧ names.length ≤ 16 := by
  have hp := (all_steps o (4 * (T B 0).length + 8)).1 St.fresh ⟨rfl, Nat.zero_le _, by simp [St.fresh], by simp [nms, St.fresh], by simp [St.fresh]⟩ rfl rfl (by rw [t_len]; show 3 * (B.length - 0) + 3 ≤ _; omega)
  have hp' : Told B St.fresh (patP (4 * (T B 0).length + 8) 0 [] 0 (T B 0)) _ := hp
  unfold PatWords.read
  cases hx : patP (4 * (T B 0).length + 8) 0 [] 0 (T B 0) with
  | error e =>
    rw [hx] at hp'
    exact hp'
  | ok x =>
    rw [hx] at hp'
    obtain ⟨s', more, post, e1, e2, e3, e4, hstop, rs, hrs, hrep⟩ := hp'
    obtain ⟨a, ns, r, q⟩ := x
    dsimp only at e1 e2 e3 e4 hrep
    subst e1 e2 e3
    dsimp only
    have hbelow : s'.below = [] := post.below
    rcases byte_cases B s'.place with ⟨hn, _⟩ | ⟨c, hc, _⟩
    · have hT := t_nil (le_of_none hn)
      rw [hT, if_neg (by simp)]
      have al := hrep.alts post.pre.wf
      have ro := hrep.row post.pre.wf
      have oo := oneOf_ok ro.2 al
      have hrs' : s'.top.rows = rs := hrs
      have hfin : s'.finish = if 200 < a.size then .error (7, 0) else .ok (((s'.bd.row s'.top.parts).1.oneOf (rs ++ [(s'.bd.row s'.top.parts).2])).1, ((s'.bd.row s'.top.parts).1.oneOf (rs ++ [(s'.bd.row s'.top.parts).2])).2, s'.names) := by
        unfold St.finish
        rw [if_neg (by rw [hbelow]; simp)]
        have hr2 : (s'.endRow).top.rows = rs ++ [(s'.bd.row s'.top.parts).2] := by
          show s'.top.rows ++ _ = _
          rw [hrs']
        simp only [hr2]
        show (if 200 < ((s'.bd.row s'.top.parts).1.oneOf (rs ++ [(s'.bd.row s'.top.parts).2])).1.w ((s'.bd.row s'.top.parts).1.oneOf (rs ++ [(s'.bd.row s'.top.parts).2])).2 then _ else _ : Except Fl (Bd × Nat × List (Nat × Nat))) = _
        rw [oo.2.2.w]
        rfl
      have hrun := post.run _ (.done (le_of_none hn))
      rw [hfin] at hrun
      unfold ATOMS
      by_cases hbig : 200 < a.size
      · rw [if_pos hbig] at hrun ⊢
        exact ⟨(7, 0), rfl, hrun⟩
      · rw [if_neg hbig] at hrun ⊢
        have hnm : s'.names = more := by rw [post.names]; rfl
        exact ⟨_, _, _, hrun, rfl, oo.2.2, oo.2.1, post.pre.nd, by rw [hnm]; exact e4, post.pre.n16⟩
    · rw [t_cons hc, if_pos (by simp)]
      have hst := hstop c hc
      refine ⟨(2, s'.place), rfl, post.run _ (.err hc ?_)⟩
      simp at hst
      unfold St.take
      rw [if_neg (by omega), if_pos (by omega)]
      unfold St.close
      rw [if_pos (by rw [post.closing]; simp [St.fresh])]
end Mi
/-! P10: the reader keeps within its bounds. -/
namespace Mi
theorem byte_lt {B : Bs} {p c : Nat} (h : byte B p = .ok c) : p < B.length ∧ B[p]? = some c := by
  unfold byte at h
  cases e : B[p]? with
  | none => rw [e] at h; cases h
  | some d =>
    rw [e] at h
    cases h
    exact ⟨(List.getElem?_eq_some_iff.mp e).1, rfl⟩
theorem vGo_lt {B : Bs} {a l : Nat} : ∀ {j k f v}, vGo B a l j k f = .ok v → a + k ≤ B.length → a + k + j ≤ B.length
  | 0, k, f, v, _, h => h
  | j + 1, k, f, v, h, hk => by
    unfold vGo at h
    split at h
    · cases h
    · rename_i c e
      split at h
      · have := (List.getElem?_eq_some_iff.mp e).1
        have := vGo_lt h (by omega)
        omega
      · cases h
theorem sizeBy_le (l : Nat) : sizeBy l ≤ 4 := by unfold sizeBy; split <;> (try split) <;> (try split) <;> (try split) <;> omega
theorem valueAt_lt {B : Bs} {p v n : Nat} (h : valueAt B p = .ok (v, n)) (hp : p < B.length) : 1 ≤ n ∧ n ≤ 4 ∧ p + n ≤ B.length := by
  unfold valueAt at h
  simp only at h
  split at h
  · cases h
  · rename_i hz
    cases e : vGo B p (B.getD p 0) (sizeBy (B.getD p 0) - 1) 1 (B.getD p 0 - sub0 (sizeBy (B.getD p 0))) with
    | error x => rw [e] at h; cases h
    | ok f =>
      rw [e] at h
      cases h
      have h1 := vGo_lt e (by omega)
      have h2 := sizeBy_le (B.getD p 0)
      omega
theorem plain_lt {B : Bs} {p v q : Nat} (h : plain B p = .ok (v, q)) (hp : p < B.length) : p < q ∧ q ≤ B.length := by
  unfold plain at h
  cases e : valueAt B p with
  | error x => rw [e] at h; cases h
  | ok x =>
    rw [e] at h
    cases h
    have := valueAt_lt (v := x.1) (n := x.2) e hp
    omega
theorem endOfPart_lt {B : Bs} {p v q : Nat} (h : endOfPart B p = .ok (v, q)) : p < q ∧ q ≤ B.length := by
  unfold endOfPart at h
  split at h
  · cases h
  · rename_i c hc
    have h1 := (byte_lt hc).1
    split at h
    · split at h
      · cases h
      · rename_i d hd
        have h2 := (byte_lt hd).1
        split at h
        · cases h
        · cases h; omega
    · split at h
      · cases h
      · exact plain_lt h h1
theorem classPart_lt {B : Bs} {p q : Nat} {o} (h : classPart B p = .ok (o, q)) : p ≤ q ∧ q ≤ B.length ∧ p < B.length ∧ (o ≠ none → p < q) := by
  unfold classPart at h
  split at h
  · cases h
  · rename_i c hc
    have h1 := (byte_lt hc).1
    split at h
    · cases h; exact ⟨by omega, by omega, h1, fun z => absurd rfl z⟩
    · rename_i hn
      split at h
      · cases h; exact ⟨by omega, by omega, h1, fun z => absurd rfl z⟩
      · cases h
        have : ¬ p + 1 = B.length := fun z => hn (.inr z)
        exact ⟨by omega, by omega, h1, fun _ => by omega⟩
theorem part_lt {B : Bs} {p q : Nat} {b} (h : part B p = .ok (b, q)) : p < q ∧ q ≤ B.length := by
  unfold part at h
  split at h
  · cases h
  · rename_i hc
    cases h
    have := classPart_lt hc
    exact ⟨this.2.2.2 (by simp), this.2.1⟩
  · rename_i q0 hc
    have h0 := classPart_lt hc
    split at h
    · cases h
    · rename_i low q1 h1
      have h1 := endOfPart_lt h1
      split at h
      · cases h
      · rename_i c hc1
        have hc1 := (byte_lt hc1).1
        split at h
        · cases h; omega
        · split at h
          · cases h
          · rename_i high q2 h2
            have h2 := endOfPart_lt h2
            split at h
            · cases h
            · cases h; omega
theorem setGo_lt {B : Bs} : ∀ {f bs p r q}, setGo B f bs p = .ok (r, q) → p ≤ q ∧ q < B.length
  | 0, _, _, _, _, h => by cases h
  | f + 1, bs, p, r, q, h => by
    unfold setGo at h
    split at h
    · cases h
    · rename_i c hc
      have hc := (byte_lt hc).1
      split at h
      · cases h; omega
      · split at h
        · cases h
        · rename_i b q1 h1
          have h1 := part_lt h1
          have := setGo_lt h
          omega
theorem valueSet_lt {B : Bs} {p q : Nat} {x} (h : valueSet B p = .ok (x, q)) : p < q ∧ q ≤ B.length := by
  unfold valueSet at h
  split at h
  · cases h
  · rename_i c hc
    simp only at h
    split at h
    · cases h
    · rename_i b q1 h1
      have h1 := part_lt h1
      split at h
      · cases h
      · rename_i bs q2 h2
        have h2 := setGo_lt h2
        cases h
        split at h1 <;> omega
theorem escape_lt {B : Bs} {p q : Nat} {x} (h : escape B p = .ok (x, q)) : p < q ∧ q ≤ B.length := by
  unfold escape at h
  split at h
  · cases h
  · rename_i d hd
    have hd := (byte_lt hd).1
    simp only at h
    split at h
    · cases h; omega
    · split at h
      · cases h; omega
      · cases h
theorem atom_lt {B : Bs} {p c q : Nat} {x} (h : atom B p c = .ok (x, q)) (hp : p < B.length) : p < q ∧ q ≤ B.length := by
  unfold atom at h
  split at h
  · split at h
    · cases h
    · rename_i x q h1
      cases h
      exact valueSet_lt h1
  · split at h
    · exact escape_lt h
    · split at h
      · cases h; omega
      · split at h
        · cases h; omega
        · split at h
          · cases h; omega
          · split at h
            · cases h
            · rename_i v q h1
              cases h
              exact plain_lt h1 hp
theorem digGo_lt {B : Bs} {s : Nat} : ∀ {f n p r q}, digGo B s f n p = .ok (r, q) → p ≤ q ∧ q < B.length
  | 0, _, _, _, _, h => by cases h
  | f + 1, n, p, r, q, h => by
    unfold digGo at h
    split at h
    · cases h
    · rename_i c hc
      have hc := (byte_lt hc).1
      split at h
      · have := digGo_lt h; omega
      · cases h; omega
theorem number_lt {B : Bs} {p n q : Nat} (h : number B p = .ok (n, q)) : p < q ∧ q < B.length ∧ n ≤ 20 := by
  unfold number at h
  split at h
  · cases h
  · split at h
    · cases h
    · split at h
      · cases h
      · rename_i m q1 h1
        have h1 := digGo_lt h1
        split at h
        · cases h
        · cases h; omega
theorem numbers_lt {B : Bs} {p q : Nat} {x} (h : numbers B p = .ok (x, q)) : p < q ∧ q ≤ B.length ∧ x.1 ≤ 20 ∧ ∀ k, x.2 = some k → k ≤ 20 := by
  unfold numbers at h
  split at h
  · cases h
  · rename_i least q1 h1
    have h1 := number_lt h1
    split at h
    · cases h
    · rename_i c hc
      have hc := (byte_lt hc).1
      split at h
      · split at h
        · cases h
        · rename_i d hd
          have hd := (byte_lt hd).1
          split at h
          · cases h; exact ⟨by omega, by omega, by omega, fun k z => by cases z⟩
          · split at h
            · cases h
            · rename_i most q2 h2
              have h2 := number_lt h2
              split at h
              · cases h
              · split at h
                · cases h
                · rename_i g hg
                  have hg := (byte_lt hg).1
                  split at h
                  · cases h; exact ⟨by omega, by omega, by omega, fun k z => by cases z; omega⟩
                  · cases h
      · split at h
        · cases h; exact ⟨by omega, by omega, by omega, fun k z => by cases z; omega⟩
        · cases h
theorem times_lt {B : Bs} {p c q : Nat} {x} (h : times B p c = .ok (x, q)) (hp : p < B.length) : p < q ∧ q ≤ B.length ∧ x.1 ≤ 20 ∧ ∀ k, x.2 = some k → k ≤ 20 := by
  unfold times at h
  split at h
  · cases h; exact ⟨by omega, by omega, by decide, fun k z => by cases z⟩
  · split at h
    · cases h; exact ⟨by omega, by omega, by decide, fun k z => by cases z; decide⟩
    · split at h
      · have := numbers_lt h
        exact ⟨by omega, this.2.1, this.2.2⟩
      · cases h; exact ⟨by omega, by omega, by decide, fun k z => by cases z⟩
theorem nameGo_lt {B : Bs} : ∀ {f p q}, nameGo B f p = .ok q → p ≤ q ∧ q < B.length
  | 0, _, _, h => by cases h
  | f + 1, p, q, h => by
    unfold nameGo at h
    split at h
    · cases h
    · rename_i c hc
      have hc := (byte_lt hc).1
      split at h
      · have := nameGo_lt h; omega
      · cases h; omega
theorem takeName_lt {B : Bs} {ns p q x} (h : takeName B ns p = .ok (x, q)) : p < q ∧ q ≤ B.length ∧ ns.length ≠ 16 ∧ x = (p, x.2) ∧ p + x.2 ≤ B.length := by
  unfold takeName at h
  split at h
  · cases h
  · split at h
    · cases h
    · split at h
      · cases h
      · rename_i q1 h1
        have h1 := nameGo_lt h1
        split at h
        · cases h
        · rename_i hn
          split at h
          · cases h
          · rename_i d hd
            have hd := (byte_lt hd).1
            split at h
            · cases h
              refine ⟨by omega, by omega, ?_, rfl, by show p + (q1 - p) ≤ _; omega⟩
              intro z
              apply hn
              unfold isNewName
              rw [if_pos (.inr z)]
            · cases h
/-! nodes -/
theorem added_len (b : Bd) (nd : Nd) (w : Nat) : (b.added nd w).1.nodes.length = b.nodes.length + 1 ∧ (b.added nd w).2 = b.nodes.length := by simp [Bd.added]
theorem rowGo_len : ∀ (ps : List Nat) (s : Bd × Nat), s.2 < s.1.nodes.length → (Bd.rowGo s ps).1.nodes.length = s.1.nodes.length + ps.length ∧ (Bd.rowGo s ps).2 < (Bd.rowGo s ps).1.nodes.length
  | [], s, h => by simp [Bd.rowGo, h]
  | p :: r, s, h => by
    unfold Bd.rowGo
    have a := added_len s.1 (.pair p s.2) (s.1.w p + s.1.w s.2)
    have := rowGo_len r (s.1.added (.pair p s.2) (s.1.w p + s.1.w s.2)) (by omega)
    simp only [List.length_cons]
    omega
theorem row_len (b : Bd) (ps : List Nat) : (b.row ps).1.nodes.length = b.nodes.length + 1 + ps.length ∧ (b.row ps).2 < (b.row ps).1.nodes.length := by
  have a := added_len b .empty 0
  have := rowGo_len ps.reverse (b.added .empty 0) (by omega)
  rw [List.length_reverse] at this
  unfold Bd.row
  omega
theorem eitherGo_len : ∀ (ps : List Nat) (s : Bd × Nat), s.2 < s.1.nodes.length → (Bd.eitherGo s ps).1.nodes.length = s.1.nodes.length + ps.length ∧ (Bd.eitherGo s ps).2 < (Bd.eitherGo s ps).1.nodes.length
  | [], s, h => by simp [Bd.eitherGo, h]
  | p :: r, s, h => by
    unfold Bd.eitherGo
    have a := added_len s.1 (.either p s.2) (s.1.w p + s.1.w s.2)
    have := eitherGo_len r (s.1.added (.either p s.2) (s.1.w p + s.1.w s.2)) (by omega)
    simp only [List.length_cons]
    omega
theorem oneOf_len (b : Bd) (ps : List Nat) (hne : ps ≠ []) (h : ∀ p ∈ ps, p < b.nodes.length) : (b.oneOf ps).1.nodes.length = b.nodes.length + (ps.length - 1) ∧ (b.oneOf ps).2 < (b.oneOf ps).1.nodes.length := by
  unfold Bd.oneOf
  have hl : ps.getLast?.getD 0 < b.nodes.length := by
    rw [List.getLast?_eq_some_getLast hne]
    exact h _ (List.getLast_mem hne)
  have := eitherGo_len ps.dropLast.reverse (b, ps.getLast?.getD 0) hl
  rw [List.length_reverse, List.length_dropLast] at this
  exact this
theorem endlessGo_len {x w : Nat} : ∀ (j : Nat) (s : Bd × Nat), s.2 < s.1.nodes.length → (Bd.endlessGo x w j s).1.nodes.length = s.1.nodes.length + j ∧ (Bd.endlessGo x w j s).2 < (Bd.endlessGo x w j s).1.nodes.length
  | 0, s, h => by simp [Bd.endlessGo, h]
  | j + 1, s, h => by
    unfold Bd.endlessGo
    have a := added_len s.1 (.step x s.2 false) w
    have := endlessGo_len (x := x) (w := w) j (s.1.added (.step x s.2 false) w) (by omega)
    omega
theorem oftenGo_len {x l m : Nat} : ∀ (j : Nat) (s : Bd × Nat), s.2 < s.1.nodes.length → (Bd.oftenGo x l m j s).1.nodes.length = s.1.nodes.length + j ∧ (Bd.oftenGo x l m j s).2 < (Bd.oftenGo x l m j s).1.nodes.length
  | 0, s, h => by simp [Bd.oftenGo, h]
  | j + 1, s, h => by
    unfold Bd.oftenGo
    have a := added_len s.1 (.step x s.2 (decide (l ≤ j))) (m * s.1.w x)
    have := oftenGo_len (x := x) (l := l) (m := m) j (s.1.added (.step x s.2 (decide (l ≤ j))) (m * s.1.w x)) (by omega)
    omega
theorem often_len (b : Bd) (x m : Nat) (mo : Option Nat) (hm : m ≤ 20) (hk : ∀ k, mo = some k → k ≤ 20) : b.nodes.length ≤ (b.often x m mo).1.nodes.length ∧ (b.often x m mo).1.nodes.length ≤ b.nodes.length + 21 ∧ (b.often x m mo).2 < (b.often x m mo).1.nodes.length := by
  cases mo with
  | none =>
    unfold Bd.often Bd.endless
    have a := added_len b (.loop x) (max 1 m * b.w x)
    have := endlessGo_len (x := x) (w := max 1 m * b.w x) m (b.added (.loop x) (max 1 m * b.w x)) (by omega)
    simp only
    omega
  | some k =>
    unfold Bd.often
    have a := added_len b .empty 0
    have := oftenGo_len (x := x) (l := m) (m := k) k (b.added .empty 0) (by omega)
    have := hk k rfl
    simp only
    omega
/-! the reader's state -/
def cntL (ls : List Lv) : Nat := (ls.map fun l => l.rows.length + l.parts.length).sum
def Clo : List Lv → Prop
  | [] => False
  | l :: r => (l.closing = none ∧ r = []) ∨ (l.closing ≠ none ∧ Clo r)
structure StOk (B : Bs) (s : St) : Prop where
  place : s.place ≤ B.length
  ix : ∀ l ∈ s.top :: s.below, ∀ i ∈ l.rows ++ l.parts, i < s.bd.nodes.length
  cnt : s.bd.nodes.length + cntL (s.top :: s.below) ≤ 21 * s.place
  atom : s.hasAtom = true → s.top.parts ≠ []
  names : s.names.length ≤ 16
  deep : s.below.length ≤ 40
  clo : Clo (s.top :: s.below)
theorem StOk.fresh (B : Bs) : StOk B St.fresh := ⟨by simp [St.fresh], by simp [St.fresh], by simp [St.fresh, cntL], by simp [St.fresh], by simp [St.fresh], by simp [St.fresh], by simp [St.fresh, Clo]⟩
theorem cntL_cons (l : Lv) (r : List Lv) : cntL (l :: r) = l.rows.length + l.parts.length + cntL r := by simp [cntL]
/-- end_row, the place a byte on -/
theorem StOk.bar {B : Bs} {s : St} (o : StOk B s) (hp : s.place < B.length) : StOk B { s.endRow with place := s.place + 1 } := by
  have h := row_len s.bd s.top.parts
  have hc := o.cnt
  have hcl := o.clo
  rw [cntL_cons] at hc
  refine ⟨hp, ?_, ?_, by simp [St.endRow], o.names, o.deep, hcl⟩
  · intro l hl i hi
    show i < (s.bd.row s.top.parts).1.nodes.length
    rcases List.mem_cons.mp hl with rfl | hl
    · simp [St.endRow] at hi
      rcases hi with hi | rfl
      · have := o.ix s.top (by simp) i (by simp [hi]); omega
      · exact h.2
    · have := o.ix l (List.mem_cons_of_mem _ hl) i hi
      omega
  · show (s.bd.row s.top.parts).1.nodes.length + cntL (_ :: s.below) ≤ 21 * (s.place + 1)
    rw [cntL_cons]
    simp [St.endRow]
    omega
theorem take_ok {B : Bs} {s s' : St} {c : Nat} (o : StOk B s) (hp : s.place < B.length) (h : s.take B c = .ok s') : StOk B s' ∧ s.place < s'.place := by
  have hc := o.cnt
  rw [cntL_cons] at hc
  unfold St.take at h
  split at h
  · cases h
    exact ⟨o.bar hp, by simp⟩
  split at h
  · -- close
    unfold St.close at h
    split at h
    · cases h
    rename_i hclo
    simp only at h
    split at h
    · cases h
    rename_i l r hb
    have hb' : s.below = l :: r := hb
    have hr := row_len s.bd s.top.parts
    have hix : ∀ p ∈ s.top.rows ++ [(s.bd.row s.top.parts).2], p < (s.bd.row s.top.parts).1.nodes.length := by
      intro p hp
      rcases List.mem_append.mp hp with h | h
      · have := o.ix s.top (by simp) p (by simp [h]); omega
      · simp at h; subst h; exact hr.2
    have ho := oneOf_len (s.bd.row s.top.parts).1 (s.top.rows ++ [(s.bd.row s.top.parts).2]) (by simp) hix
    simp only [List.length_append, List.length_singleton] at ho
    have hcl := o.clo
    rw [hb'] at hcl
    have hcl2 : Clo (l :: r) := by
      rcases hcl with ⟨_, z⟩ | ⟨_, z⟩
      · cases z
      · exact z
    rw [hb', cntL_cons] at hc
    have key : ∀ y : Bd × Nat, ((s.bd.row s.top.parts).1.oneOf (s.top.rows ++ [(s.bd.row s.top.parts).2])).1.nodes.length ≤ y.1.nodes.length → y.1.nodes.length ≤ ((s.bd.row s.top.parts).1.oneOf (s.top.rows ++ [(s.bd.row s.top.parts).2])).1.nodes.length + 1 → y.2 < y.1.nodes.length →
        StOk B (St.add { s.endRow with place := s.endRow.place + 1, bd := y.1, top := l, below := r } y.2) := by
      intro y h1 h2 h3
      refine ⟨hp, ?_, ?_, by simp [St.add], o.names, ?_, ?_⟩
      · intro k hk i hi
        show i < y.1.nodes.length
        rcases List.mem_cons.mp hk with rfl | hk
        · simp [St.add] at hi
          rcases hi with hi | hi | rfl
          · have := o.ix l (by simp [hb']) i (by simp [hi]); omega
          · have := o.ix l (by simp [hb']) i (by simp [hi]); omega
          · exact h3
        · have := o.ix k (by simp [hb']; exact .inr (.inr hk)) i hi
          omega
      · show y.1.nodes.length + cntL (_ :: r) ≤ 21 * (s.place + 1)
        rw [cntL_cons]
        simp [St.add]
        omega
      · have := o.deep; rw [hb'] at this; simp at this; show r.length ≤ 40; omega
      · rcases hcl2 with ⟨a, b⟩ | ⟨a, b⟩
        · exact .inl ⟨a, b⟩
        · exact .inr ⟨a, b⟩
    cases h
    refine ⟨?_, by simp [St.add, St.endRow]⟩
    split
    · exact key ((s.bd.row s.top.parts).1.oneOf (s.top.rows ++ [(s.bd.row s.top.parts).2])) (Nat.le_refl _) (Nat.le_succ _) ho.2
    · rename_i k _
      have a : ∀ (X : Bd × Nat) (k : Nat), (X.1.namedN X.2 k).1.nodes.length = X.1.nodes.length + 1 ∧ (X.1.namedN X.2 k).2 = X.1.nodes.length := by simp [Bd.namedN, Bd.added]
      have z := a ((s.bd.row s.top.parts).1.oneOf (s.top.rows ++ [(s.bd.row s.top.parts).2])) k
      exact key (Bd.namedN ((s.bd.row s.top.parts).1.oneOf (s.top.rows ++ [(s.bd.row s.top.parts).2])).1 ((s.bd.row s.top.parts).1.oneOf (s.top.rows ++ [(s.bd.row s.top.parts).2])).2 k) (by omega) (by omega) (by omega)
  split at h
  · -- open
    unfold St.open_ at h
    split at h
    · cases h
    rename_i hd
    split at h
    · cases h
      refine ⟨⟨hp, ?_, ?_, by simp, o.names, by show s.below.length + 1 ≤ 40; omega, .inr ⟨by simp, o.clo⟩⟩, by simp⟩
      · intro k hk i hi
        rcases List.mem_cons.mp hk with rfl | hk
        · simp at hi
        · exact o.ix k hk i hi
      · show s.bd.nodes.length + cntL (_ :: s.top :: s.below) ≤ 21 * (s.place + 1)
        rw [cntL_cons, cntL_cons]
        simp
        omega
    · split at h
      · cases h
      rename_i n q hq
      have hq := takeName_lt hq
      have := o.names
      cases h
      refine ⟨⟨hq.2.1, ?_, ?_, by simp, by simp; omega, by show s.below.length + 1 ≤ 40; omega, .inr ⟨by simp, o.clo⟩⟩, by show s.place < q; omega⟩
      · intro k hk i hi
        rcases List.mem_cons.mp hk with rfl | hk
        · simp at hi
        · exact o.ix k hk i hi
      · show s.bd.nodes.length + cntL (_ :: s.top :: s.below) ≤ 21 * q
        rw [cntL_cons, cntL_cons]
        simp
        omega
  split at h
  · unfold St.repeat_ at h
    split at h
    · cases h
    rename_i ha
    split at h
    · cases h
    rename_i mn q ht
    have ht := times_lt ht hp
    have hl := often_len s.bd (s.top.parts.getLast?.getD 0) mn.1 mn.2 ht.2.2.1 ht.2.2.2
    have hne := o.atom (by simpa using ha)
    have hlen : s.top.parts.length ≠ 0 := fun z => hne (List.length_eq_zero_iff.mp z)
    cases h
    refine ⟨⟨ht.2.1, ?_, ?_, by simp, o.names, o.deep, ?_⟩, ht.1⟩
    · intro k hk i hi
      show i < (s.bd.often _ _ _).1.nodes.length
      rcases List.mem_cons.mp hk with rfl | hk
      · simp at hi
        rcases hi with hi | hi | rfl
        · have := o.ix s.top (by simp) i (by simp [hi]); omega
        · have := o.ix s.top (by simp) i (by simp [List.dropLast_subset _ hi]); omega
        · exact hl.2.2
      · have := o.ix k (List.mem_cons_of_mem _ hk) i hi
        omega
    · show (s.bd.often _ _ _).1.nodes.length + cntL (_ :: s.below) ≤ 21 * q
      rw [cntL_cons]
      simp
      omega
    · exact o.clo
  split at h
  · cases h
  split at h
  · cases h
  rename_i nd q ha
  have ha := atom_lt ha hp
  have a := added_len s.bd nd 1
  cases h
  refine ⟨⟨ha.2, ?_, ?_, by simp [St.add], o.names, o.deep, o.clo⟩, ha.1⟩
  · intro k hk i hi
    show i < (s.bd.added nd 1).1.nodes.length
    rcases List.mem_cons.mp hk with rfl | hk
    · simp [St.add] at hi
      rcases hi with hi | hi | rfl
      · have := o.ix s.top (by simp) i (by simp [hi]); omega
      · have := o.ix s.top (by simp) i (by simp [hi]); omega
      · omega
    · have := o.ix k (List.mem_cons_of_mem _ hk) i hi
      omega
  · show (s.bd.added nd 1).1.nodes.length + cntL (_ :: s.below) ≤ 21 * q
    rw [cntL_cons]
    simp [St.add]
    omega
end Mi
/-! W0: words of the walk: defs, methods, classes by name; readings of raise and try; values step by step. -/
namespace Mi
open PySem PySem.Spec PyProof.Rows L2
abbrev Ky := PySem.W.Frag
abbrev xAdd : R2 := rI0 fun i j => .int (i + j)
abbrev xSub : R2 := rI0 fun i j => .int (i - j)
abbrev xMul : R2 := rI CMul fun i j => .int (i * j)
abbrev xShl : R2 := rI CPow fun i j => .int (i * 2 ^ j.toNat)
abbrev xAnd : R2 := rI0 fun i j => .int (Builtin.bitAnd i j)
abbrev xOr : R2 := rI0 fun i j => .int (Builtin.bitOr i j)
abbrev xLt : R2 := rI0 fun i j => .bl (decide (i < j))
abbrev xLe : R2 := rI0 fun i j => .bl (decide (i ≤ j))
abbrev xGt : R2 := rI0 fun i j => .bl (decide (j < i))
abbrev xGe : R2 := rI0 fun i j => .bl (decide (j ≤ i))
abbrev xIsN : R2 := fun x y H Q => y = .non ∧ Q (.bl (decide (x = .non))) H
abbrev xNotN : R2 := fun x y H Q => y = .non ∧ Q (.bl (!decide (x = .non))) H
abbrev xLen (K : Ky) : List V → Hp → VK → Prop := fun xs H Q => ∃ x n, xs = [x] ∧ LenV K x H n ∧ Q (.int n) H
abbrev xMax2 : List V → Hp → VK → Prop := fun xs H Q => ∃ i j, xs = [.int i, .int j] ∧ Q (.int (if j > i then j else i)) H
abbrev xInt1 : List V → Hp → VK → Prop := fun xs H Q => (∃ i, xs = [.int i] ∧ Q (.int i) H) ∨ ∃ k, xs = [.bl k] ∧ Q (.int (if k then 1 else 0)) H
abbrev xList (K : Ky) : List V → Hp → VK → Prop := fun xs H Q => ∃ p ys, xs = [.ref p] ∧ (SqL K H p ys ∨ SqT K H p ys) ∧ ∀ l, H l = none → Q (.ref l) (upd H l (.lst ys))
theorem nomark_ (b : Expr) {op : CmpOp} (h : op ≠ .In := by decide) (h2 : op ≠ .NotIn := by decide) : behindInMarks op b = false := nomark b h h2
theorem pe_gint {X : Cx} {x : Str} {v : Int} {pos : Pos} (hg : Gl X x) (hm : ∃ t, X.mg x = some (.int v t)) (hd : (x == ("__debug__" : Str)) = false := by decide) : PE X (.Name x pos) (tC (.int v)) :=
  let ⟨t, e⟩ := hm
  pe_glob hg e ⟨t, rfl⟩ hd
/-! ### defs, methods, classes by name -/
section
variable (P : Program) (w : World) (K : Ky) (mg : Str → Option Value) (base : Heap) (CX : CXT) (k : Nat)
structure Fn (x : Str) (ps : List Str) (sp : Sp) : Prop where
  fn : ∃ fd, FnOk P w K mg base CX k (He.ga K x) fd ps sp ∧ Binds K fd ps []
  mg : mg x = some (.ref (He.ga K x))
  kp : PySem.W.keepIn K (.ref (He.ga K x)) = true
structure Mt (C m : Str) (ps : List Str) (sp : Sp) : Prop where
  fn : ∃ fd, FnOk P w K mg base CX k (He.ma K (He.ga K C) m) fd ps sp ∧ Binds K fd ps []
  mt : Meth K (He.ga K C) m (He.ma K (He.ga K C) m)
  cl : Cls K (He.ga K C)
structure Mo (C : Str) (ps : List Str) (sp : Sp) : Prop where
  fn : ∃ fd, FnOk P w K mg base CX k (He.ma K (He.ga K C) "__init__") fd ps sp ∧ Binds K fd ps []
  mkk : Mk K (He.ga K C) (He.ma K (He.ga K C) "__init__")
  mg : mg C = some (.ref (He.ga K C))
/-- an exception's __init__ -/
structure Xi (C : Str) (ps : List Str) (sp : Sp) : Prop where
  fn : ∃ fd, FnOk P w K mg base CX k (He.ma K (He.ga K C) "__init__") fd ps sp ∧ Binds K fd ps []
structure XiH (C : Str) (ps : List Str) (sp : Sp) : Prop where
  fn : ∃ fd, L2H.FnH P w K mg base CX k (He.ma K (He.ga K C) "__init__") fd ps sp ∧ Binds K fd ps []
end
/-- an exception's class -/
structure Xc (K : Ky) (mg : Str → Option Value) (C : Str) : Prop where
  oex : OexC K (He.ga K C)
  init : PySem.W.findIn K (.ref (He.ga K C)) "__init__" = some (some (.ref (He.ma K (He.ga K C) "__init__")))
  ty : PySem.W.typeIn K (.ref (He.ma K (He.ga K C) "__init__")) = some (.type "function")
  mg : mg C = some (.ref (He.ga K C))
  xf : XfC K (He.ga K C)
section
variable {X : Cx} {CX : CXT} {k : Nat} {ps : List Str} {sp : Sp} {E : XK} {x m C : Str} {p pos apos : Pos} {e o : Expr} {es : List Expr} {ta : TE} {t : TA} {W : WX}
theorem pe_fn (F : Fn X.prog X.w X.K X.mg X.base CX k x ps sp) (hr : Room k X.A) (hx : Passes CX X E) (ha : PA X (e :: es) t) (hg : Gl X x := by rfl) (hdb : (x == ("__debug__" : Str)) = false := by decide)
    (he : starEach (e :: es) X.env = (false, eval e X.env) :: starEach es X.env := by rfl) (hpl : (backTo pos (starEach es X.env)).any (·.1) = false := by rfl) : PE X (.Call (.Name x p) (e :: es) [] pos) (tCall sp [] E t) := by
  obtain ⟨fd, G, b⟩ := F.fn
  exact pe_call G hr hg F.mg F.kp b .nil hx ha hdb he hpl
theorem pe_fnS (F : Fn X.prog X.w X.K X.mg X.base CX k x ps sp) (hr : Room k X.A) {E : L2.St → XK} (hx : ∀ σ, PassesAt CX X σ (E σ)) (ha : PA X (e :: es) t) (hg : Gl X x := by rfl) (hdb : (x == ("__debug__" : Str)) = false := by decide)
    (he : starEach (e :: es) X.env = (false, eval e X.env) :: starEach es X.env := by rfl) (hpl : (backTo pos (starEach es X.env)).any (·.1) = false := by rfl) : PE X (.Call (.Name x p) (e :: es) [] pos) (tCallS sp E t) := by
  obtain ⟨fd, G, b⟩ := F.fn
  exact pe_callS G hr hg F.mg F.kp b hx ha hdb he hpl
theorem pe_mt {pl : Sem Bool} (he : PE X o ta) (F : Mt X.prog X.w X.K X.mg X.base CX k C m ps sp) (hr : Room k X.A) (hx : Passes CX X E) (ha : PA X (e :: es) t)
    (hst : starEach (e :: es) X.env = (false, eval e X.env) :: starEach es X.env := by rfl) (hpl : (backTo pos (starEach es X.env)).any (·.1) = false := by rfl)
    (ht : eval (.Call (.Attribute o m apos) (e :: es) [] pos) X.env = (do
      let ov ← eval o X.env
      standAt apos.atName
      let (f, first) ← holding [ov] (getMethod ov m pl)
      callWith pos f first (backTo pos (starEach (e :: es) X.env)) (backToKw pos (keywordEach [] X.env))) := by rfl) :
    PE X (.Call (.Attribute o m apos) (e :: es) [] pos) (tMeth (He.ga X.K C) m sp [] E ta t) := by
  obtain ⟨fd, G, b⟩ := F.fn
  exact pe_meth (pl := pl) he F.cl F.mt G hr b .nil hx ha hst hpl ht
theorem pe_mt0 {pl : Sem Bool} (he : PE X o ta) (F : Mt X.prog X.w X.K X.mg X.base CX k C m ps sp) (hr : Room k X.A) (hx : Passes CX X E)
    (ht : eval (.Call (.Attribute o m apos) [] [] pos) X.env = (do
      let ov ← eval o X.env
      standAt apos.atName
      let (f, first) ← holding [ov] (getMethod ov m pl)
      callWith pos f first (backTo pos (starEach [] X.env)) (backToKw pos (keywordEach [] X.env))) := by rfl) :
    PE X (.Call (.Attribute o m apos) [] [] pos) (tMeth (He.ga X.K C) m sp [] E ta tNil) := by
  obtain ⟨fd, G, b⟩ := F.fn
  exact pe_meth0 (pl := pl) he F.cl F.mt G hr b .nil hx ht
theorem pe_mko (F : Mo X.prog X.w X.K X.mg X.base CX k x ps sp) (hr : Room (k + 1) X.A) (hx : Passes CX X E) (ha : PA X (e :: es) t) (hg : Gl X x := by rfl) (hdb : (x == ("__debug__" : Str)) = false := by decide)
    (he : starEach (e :: es) X.env = (false, eval e X.env) :: starEach es X.env := by rfl) (hpl : (backTo pos (starEach es X.env)).any (·.1) = false := by rfl) : PE X (.Call (.Name x p) (e :: es) [] pos) (tMake (He.ga X.K x) sp [] E t) := by
  obtain ⟨fd, G, b⟩ := F.fn
  exact pe_make F.mkk G hr hg F.mg b .nil hx ha hdb he hpl
theorem pe_mko0 (F : Mo X.prog X.w X.K X.mg X.base CX k x ps sp) (hr : Room (k + 1) X.A) (hx : Passes CX X E) (hg : Gl X x := by rfl) (hdb : (x == ("__debug__" : Str)) = false := by decide) : PE X (.Call (.Name x p) [] [] pos) (tMake (He.ga X.K x) sp [] E tNil) := by
  obtain ⟨fd, G, b⟩ := F.fn
  exact pe_make0 F.mkk G hr hg F.mg b .nil hx hdb
end
/-! ### what a def lets out -/
theorem takesN {X : Cx} {E : XK} (hs : X.stack = X.env :: X.outer) (hf : X.env.frame = some X.env.locals) (hex : X.ex = []) {E1 : Value → Shared → Prop}
    (hx : X.xe = fun e s' => wpAny (model X.prog X.w) X.A (leaving X.env e) (fun _ s'' => L2N.CX X.prog X.w X.outer X.H_0 X.s_0 E e s'') E1 s') : L2N.Takes X (fun cls d _ H => E cls d H) := L2N.takes_of hs hf hex hx
theorem takesX {X : Cx} {E : XK} (hs : X.stack = X.env :: X.outer) (hf : X.env.frame = some X.env.locals) (hex : X.ex = []) {E1 : Value → Shared → Prop}
    (hx : X.xe = fun e s' => wpAny (model X.prog X.w) X.A (leaving X.env e) (fun _ s'' => L2.CX X.prog X.w X.outer X.H_0 X.s_0 E e s'') E1 s') : L2.Takes X (fun cls d _ H => E cls d H) := L2.takes_of hs hf hex hx
theorem passN {X : Cx} {E : XK} (hs : X.stack = X.env :: X.outer) (hf : X.env.frame = some X.env.locals) (hex : X.ex = []) {E1 : Value → Shared → Prop}
    (hx : X.xe = fun e s' => wpAny (model X.prog X.w) X.A (leaving X.env e) (fun _ s'' => L2N.CX X.prog X.w X.outer X.H_0 X.s_0 E e s'') E1 s') : Passes (L2N.CX X.prog X.w) X E :=
  L2N.passes_call (takesN hs hf hex hx) fun _ _ _ _ h => h
theorem passX {X : Cx} {E : XK} (hs : X.stack = X.env :: X.outer) (hf : X.env.frame = some X.env.locals) (hex : X.ex = []) {E1 : Value → Shared → Prop}
    (hx : X.xe = fun e s' => wpAny (model X.prog X.w) X.A (leaving X.env e) (fun _ s'' => L2.CX X.prog X.w X.outer X.H_0 X.s_0 E e s'') E1 s') : Passes (L2.CX X.prog X.w) X E :=
  L2.passes_call (takesX hs hf hex hx) fun _ _ _ _ h => h
theorem passes_ownN {X : Cx} {K : Value → Shared → Prop} {E1 : Value → Shared → Prop} (hx : X.xe = fun e s' => wpAny (model X.prog X.w) X.A (leaving X.env e) (fun _ s'' => K e s'') E1 s') : PassesOwn (model X.prog X.w) X.A X.env X.xe := passes_of hx
theorem passes_ownX {X : Cx} {K : Value → Shared → Prop} {E1 : Value → Shared → Prop} (hx : X.xe = fun e s' => wpAny (model X.prog X.w) X.A (leaving X.env e) (fun _ s'' => K e s'') E1 s') : PassesOwn (model X.prog X.w) X.A X.env X.xe := passes_of hx
/-! ### raise C(e, ..), C an exception with an __init__ of its own -/
def tRaiseO (C : Addr) (sp : Sp) (E : XK) (t : TA) : TS := fun _ σ H => tMkO C sp [] t σ H fun cls d H' => E cls d H'
section
variable {X : Cx} {CX : CXT} {k : Nat} {ps : List Str} {sp : Sp} {E : XK} {x : Str} {p pos pos2 : Pos} {e : Expr} {es : List Expr} {t : TA}
theorem pmk_oexN {fI C : Addr} {fd : FuncData} (T : OexC X.K C) (iC : PySem.W.findIn X.K (.ref C) "__init__" = some (some (.ref fI))) (tI : PySem.W.typeIn X.K (.ref fI) = some (.type "function"))
    (F1 : FnOk X.prog X.w X.K X.mg X.base CX k fI fd ps sp) (hr : Room (k + 1) X.A) (hb : Binds X.K fd ps []) (hx : Passes CX X (fun _ _ _ => False)) (hg : Gl X x) (hm : X.mg x = some (.ref C)) (ha : PA X (e :: es) t)
    (hdb : (x == ("__debug__" : Str)) = false := by decide) (he : starEach (e :: es) X.env = (false, eval e X.env) :: starEach es X.env := by rfl) (hpl : (backTo pos (starEach es X.env)).any (·.1) = false := by rfl) :
    L2N.PMk X (.Call (.Name x p) (e :: es) [] pos) (tMkO C sp [] t) := by
  intro pins s σ H Q I h
  -- the plain rule, and besides: what stands at the exception has no context
  obtain ⟨nm, q, N, bs, bm, sn, sub, ab, col, dd, k0, k1, k2, k3, k5, hC, hbm⟩ := T.cls
  refine wpAny_Call_Name_kw (ld_glob I hg hm ?_ hdb)
  refine PySem.W.callWith_K (h₀ := X.base) I.ok.mod.kin T.kC (thn (ha.run pos pins s σ H _ I h) fun us s1 ⟨vs, H1, I1, r1, hz, q1⟩ => ⟨I1.kIn, ?_⟩) he hpl
  show wpAny _ _ (call (.ref C) us) _ _ _
  obtain ⟨hp, g, dr, tk, os⟩ := s1
  let a0 := hp.objs.size + 1
  let hp2 := (hp.push (PySem.W.kdv_tup us)).push (PySem.HandSPX.excO C hp.objs.size)
  have hsz : hp.objs.size ≤ a0 := Nat.le_succ _
  have hq := q1 a0 (I1.hok.fresh hsz)
  have keep : ∀ b o, hp.get? b = some o → hp2.get? b = some o := fun b o z => Heap.get?_push_of_some _ (Heap.get?_push_of_some _ z)
  have hget : hp2.get? a0 = some (PySem.HandSPX.excO C hp.objs.size) := by show ((hp.push (PySem.W.kdv_tup us)).push (PySem.HandSPX.excO C hp.objs.size)).get? (hp.objs.size + 1) = _; heap_get
  have I2 : Inv X pins σ (upd H1 a0 (exo a0 C none)) ⟨hp2, g, dr, tk, os⟩ := I1.laid (t' := tk) (a := a0) (o := exo a0 C none) (h' := hp2) keep hsz (exo_ok hget)
  have r2 : Vals (V.ref a0 :: (vs ++ [])) (Value.ref a0 :: (us ++ [])) := .cons rfl (r1.append .nil)
  have hl : (Value.ref a0 :: us ++ []).length = ps.length := by
    have z := r2.length
    rw [F1.len _ _ _ _ hq] at z
    exact z.symm
  have hus : us.length ≤ sizeLine := by
    rw [← Paired.length r1, sizeLine_eq]
    omega
  have b2 : BindsTo (⟨hp2, g, dr, tk, os⟩ : Shared) fd ⟨Value.ref a0 :: us, []⟩ (ps.zip (Value.ref a0 :: (us ++ []))) := hb _ (Value.ref a0 :: us) I2.kIn hl
  refine wpAny_call (PySem.HandSPX.call_own F.excBase_ValueError (fun Y => PySem.HandSPX.refsVE_contains Y bm hbm) (I1.kIn _ _ hC) (PySem.W.looks_findIn I1.kIn iC) (fun self => PySem.W.bind_fn I1.kIn self tI) hus
    (codeAny_mono (F1.run _ X.stack _ _ ⟨Value.ref a0 :: us, []⟩ (Value.ref a0 :: (us ++ [])) _ _ (fun _ _ _ => False) (hr.make C us []) (I2.env0.make C us []) b2 r2 hq) fun r s' hq' => ?_))
  match r, hq' with
  | .error er, hq' => exact hx pins σ _ _ er s' I2 hq'
  | .ok (.ret u), hq' =>
    obtain ⟨v, H2, os2, bare2, un2, hok2, rv, ev, d, fs, ea, ed, hd1, q2⟩ := hq'
    subst ev
    obtain ⟨h2, g2, d2, t2, os'⟩ := s'
    obtain ⟨t0, G, J, kG, ge, hoe, na⟩ := mk_end0 (d2 := d2) (t2 := t2) I1 hsz keep un2 hok2 os2 bare2 ea ed hd1
    exact ⟨rv, a0, _, _, ⟨G, g2, d2, t2, os'⟩, _, .ref C, some d, rfl, J, kG, ge, hoe, ⟨rfl, rfl, fun vs hv => (by cases hv; rfl)⟩, rfl, rfl, na, rfl, bare2, raises_own T.exC T.tyC, q2⟩
  | .ok .next, hq' => exact False.elim hq'
  | .ok .brk, hq' => exact False.elim hq'
  | .ok .cont, hq' => exact False.elim hq'
theorem ps_raiseON (hc : X.calm = true) (tk : L2N.Takes X (fun cls d _ H => E cls d H)) (F : Xi X.prog X.w X.K X.mg X.base CX0 k x ps sp) (T : Xc X.K X.mg x) (hr : Room (k + 1) X.A) (ha : PA X (e :: es) t) (hg : Gl X x := by rfl) (hdb : (x == ("__debug__" : Str)) = false := by decide)
    (he : starEach (e :: es) X.env = (false, eval e X.env) :: starEach es X.env := by rfl) (hpl : (backTo pos (starEach es X.env)).any (·.1) = false := by rfl) :
    PS X (.Raise (some (.Call (.Name x p) (e :: es) [] pos)) none pos2) (tRaiseO (He.ga X.K x) sp E t) := by
  obtain ⟨fd, G, b⟩ := F.fn
  exact L2N.ps_raise hc tk (pmk_oexN T.oex T.init T.ty G hr b pass0 hg T.mg ha hdb he hpl)
theorem ps_raiseOX (hc : X.calm = true) (tk : L2.Takes X (fun cls d _ H => E cls d H)) (F : Xi X.prog X.w X.K X.mg X.base CX0 k x ps sp) (T : Xc X.K X.mg x) (hr : Room (k + 1) X.A) (ha : PA X (e :: es) t) (hg : Gl X x := by rfl) (hdb : (x == ("__debug__" : Str)) = false := by decide)
    (he : starEach (e :: es) X.env = (false, eval e X.env) :: starEach es X.env := by rfl) (hpl : (backTo pos (starEach es X.env)).any (·.1) = false := by rfl) :
    PS X (.Raise (some (.Call (.Name x p) (e :: es) [] pos)) none pos2) (tRaiseO (He.ga X.K x) sp E t) := by
  obtain ⟨fd, G, b⟩ := F.fn
  exact L2.ps_raise hc tk (pmk_oex T.oex T.init T.ty G hr b .nil pass0 hg T.mg ha hdb he hpl)
theorem ps_raiseOH (hot : L2H.HotC X) (tk : L2.Takes X (fun cls d _ H => E cls d H)) (F : XiH X.prog X.w X.K X.mg X.base CX0 k x ps sp) (T : Xc X.K X.mg x) (hr : L2H.RoomH (k + 1) X.A) (ha : PA X (e :: es) t) (hg : Gl X x := by rfl) (hdb : (x == ("__debug__" : Str)) = false := by decide)
    (he : starEach (e :: es) X.env = (false, eval e X.env) :: starEach es X.env := by rfl) (hpl : (backTo pos (starEach es X.env)).any (·.1) = false := by rfl) :
    PS X (.Raise (some (.Call (.Name x p) (e :: es) [] pos)) none pos2) (tRaiseO (He.ga X.K x) sp E t) := by
  obtain ⟨fd, G, b⟩ := F.fn
  exact L2H.ps_raiseH hot tk (L2H.pmk5_oexH T.oex T.init T.ty G hr hot b pass0 hg T.mg ha hdb he hpl).pmk
end
/-! ### try -/
/-- try: body, except C: a suite that raises -/
def tTryOX (K : Ky) (C : Addr) (E : XK) (tb : WX → TS) (ts : Addr → Value → Option Addr → TS) : TS := fun D σ H => tb (wOnly K (.ref C) ts (fun cls d _ H => E cls d H) D) D σ H
/-- try: body, except C as n: suite -/
def tTryA (K : Ky) (C : Addr) (i : Nat) (tb : WX → TS) (ts : Addr → Value → Option Addr → TS) : TS := fun D σ H => tb (wAs K (.ref C) i ts (fun _ _ _ _ => False) D) D σ H
section
variable {X : Cx} {x n : Str} {body suite : List Stmt} {b0 : Stmt} {np pos pos' : Pos} {tb : WX → TS} {ts : Addr → Value → Option Addr → TS} {E : XK} {i : Nat} {C : Addr}
theorem ps_tryA (hs : X.stack = X.env :: X.outer) (hf : X.env.frame = some X.env.locals) (hN : X.N.Nodup) (hi : X.N[i]? = some n) (hln : X.env.kindOf n = some .local) (hm : X.mg x = some (.ref C))
    (hb : ∀ (W : WX) (pn : List (Addr × Obj)) (xe : Value → Shared → Prop), L2.Takes (X.tr pn xe) W → PassesOwn (model X.prog X.w) X.A X.env xe → PSs (X.tr pn xe) body (tb W))
    (hsu : ∀ (a : Addr) (oe : Obj) (cls : Value) (d : Option Addr) (pn : List (Addr × Obj)), Zc cls d oe → (∃ vs, oe.data = .fields vs) → PSs (X.suite a ((a, oe) :: pn)) (b0 :: suite) (ts a cls d)) (hg : Gl X x := by rfl) (hdb : (x == ("__debug__" : Str)) = false := by decide) :
    PS X (.Try body [.ExceptHandler (some (.Name x np)) (some n) (b0 :: suite) pos'] [] [] pos) (tTryA X.K C i tb ts) :=
  L2.ps_try_as hs hf hN hi hln ⟨hg, hdb, .inl hm⟩ takes0 hb hsu
theorem ps_tryOX (hs : X.stack = X.env :: X.outer) (hf : X.env.frame = some X.env.locals) (hm : X.mg x = some (.ref C)) {E1 : Value → Shared → Prop}
    (hex : X.ex = []) (hx : X.xe = fun e s' => wpAny (model X.prog X.w) X.A (leaving X.env e) (fun _ s'' => L2.CX X.prog X.w X.outer X.H_0 X.s_0 E e s'') E1 s')
    (hb : ∀ (W : WX) (pn : List (Addr × Obj)) (xe : Value → Shared → Prop), L2N.Takes (X.tr pn xe) W → L2.Takes (X.tr pn xe) (L2H.wPass X.K (.ref C) (fun cls d _ H => E cls d H)) → PassesOwn (model X.prog X.w) X.A X.env xe → PSs (X.tr pn xe) body (tb W))
    (hsu : ∀ (a : Addr) (oe : Obj) (cls : Value) (d : Option Addr) (pn : List (Addr × Obj)), L2N.Zn cls d oe → (∃ vs, oe.data = .fields vs) → L2.Takes (L2H.suiteX X a ((a, oe) :: pn)) (fun cls d _ H => E cls d H) → L2H.HotC (L2H.suiteX X a ((a, oe) :: pn)) →
      PSs (L2H.suiteX X a ((a, oe) :: pn)) (b0 :: suite) (ts a cls d)) (hg : Gl X x := by rfl) (hdb : (x == ("__debug__" : Str)) = false := by decide) :
    PS X (.Try body [.ExceptHandler (some (.Name x np)) none (b0 :: suite) pos'] [] [] pos) (tTryOX X.K C E tb ts) :=
  L2H.ps_try_onlyX hs hf ⟨hg, hdb, .inl hm⟩ (fun hd => L2H.passesAt_of hx hd) (takesX hs hf hex hx) hb hsu
end
end Mi
/-! W1: values step by step; what stands in the heap. -/
namespace Mi
open PySem PySem.Spec PyProof.Rows L2
section
variable {σ : L2.St} {H : Hp} {D : Ends} {Q : VK} {te ta tb tc : TE} {t u : TS} {tt : TT} {v x y : V} {i j k : Int} {b : Bool} {K : Ky} {a p : Addr} {xs : List V} {tA : TA} {vs : List V}
theorem v_i0 {g : Int → Int → V} (ha : Val ta σ H (.int i)) (hb : Val tb σ H (.int j)) : Val (tOp (rI0 g) ta tb) σ H (g i j) := val_op ha hb fun _ q => ⟨i, j, rfl, rfl, q⟩
theorem v_mul (ha : Val ta σ H (.int i)) (hb : Val tb σ H (.int j)) (hc : CMul i j) : Val (tOp xMul ta tb) σ H (.int (i * j)) := val_op ha hb fun _ q => ⟨i, j, rfl, rfl, hc, q⟩
theorem v_eq (ha : Val ta σ H x) (hb : Val tb σ H y) (hs : scal x y = true := by rfl) : Val (tOp rEq ta tb) σ H (.bl (decide (x = y))) := val_op ha hb fun _ q => ⟨hs, q⟩
theorem v_ne (ha : Val ta σ H x) (hb : Val tb σ H y) (hs : scal x y = true := by rfl) : Val (tOp rNe ta tb) σ H (.bl (!decide (x = y))) := val_op ha hb fun _ q => ⟨hs, q⟩
theorem dI {i j : Int} : (V.int i = V.int j) ↔ i = j := ⟨fun h => V.int.inj h, fun h => by rw [h]⟩
theorem v_eqI (ha : Val ta σ H (.int i)) (hb : Val tb σ H (.int j)) : Val (tOp rEq ta tb) σ H (.bl (decide (i = j))) := by
  have := v_eq ha hb
  rwa [show decide (V.int i = V.int j) = decide (i = j) from by rw [decide_eq_decide]; exact dI] at this
theorem v_isN (ha : Val ta σ H x) : Val (tOp xIsN ta (tC .non)) σ H (.bl (decide (x = .non))) := val_op ha val_c fun _ q => ⟨rfl, q⟩
theorem v_notN (ha : Val ta σ H x) : Val (tOp xNotN ta (tC .non)) σ H (.bl (!decide (x = .non))) := val_op ha val_c fun _ q => ⟨rfl, q⟩
theorem v_chain (ha : Val ta σ H (.int i)) (hb : Val tb σ H (.int j)) (hc : Val tc σ H (.int k)) : Val (tChain xLe xLe ta tb tc) σ H (.bl (decide (i ≤ j ∧ j ≤ k))) := by
  intro Q q
  refine ha _ ?_
  refine hb _ ?_
  refine ⟨i, j, rfl, rfl, _, rfl, ?_⟩
  by_cases h1 : i ≤ j
  · rw [if_pos (decide_eq_true h1)]
    refine hc _ ⟨j, k, rfl, rfl, ?_⟩
    have : decide (i ≤ j ∧ j ≤ k) = decide (j ≤ k) := by rw [decide_eq_decide]; exact ⟨fun h => h.2, fun h => ⟨h1, h⟩⟩
    rw [this] at q
    exact q
  · rw [if_neg (by rw [decide_eq_false h1]; decide)]
    rw [decide_eq_false (fun h => h1 h.1)] at q
    exact q
theorem v_or {b1 b2 : Bool} (h1 : Val ta σ H (.bl b1)) (h2 : b1 = false → Val tb σ H (.bl b2)) : Val (tOrV ta tb) σ H (.bl (b1 || b2)) := by
  intro Q q
  refine h1 _ ⟨b1, rfl, ?_⟩
  cases b1 with
  | true => exact q
  | false => exact h2 rfl Q q
theorem v_and {b1 b2 : Bool} (h1 : Val ta σ H (.bl b1)) (h2 : b1 = true → Val tb σ H (.bl b2)) : Val (tAndV ta tb) σ H (.bl (b1 && b2)) := by
  intro Q q
  refine h1 _ ⟨b1, rfl, ?_⟩
  cases b1 with
  | true => exact h2 rfl Q q
  | false => exact q
theorem v_len (hx : Val ta σ H (.ref p)) (h : SqL K H p xs) : Val (tCB (xLen K) (tCons ta tNil)) σ H (.int xs.length) := by
  intro Q q
  refine hx _ ?_
  exact ⟨_, _, rfl, .inl ⟨_, h, rfl⟩, q⟩
theorem v_ix (ha : Val ta σ H (.ref p)) (hb : Val tb σ H (.int i)) (h : SqL K H p xs) (hv : atI xs i = some v) : Val (tOp (rIxL K) ta tb) σ H v := val_op ha hb fun _ q => ⟨p, xs, i, v, rfl, rfl, h, hv, q⟩
theorem v_max2 (ha : Val ta σ H (.int i)) (hb : Val tb σ H (.int j)) : Val (tCB xMax2 (tCons ta (tCons tb tNil))) σ H (.int (if j > i then j else i)) := by
  intro Q q
  refine ha _ ?_
  refine hb _ ?_
  exact ⟨i, j, rfl, q⟩
theorem v_int1 (ha : Val ta σ H (.bl b)) : Val (tCB xInt1 (tCons ta tNil)) σ H (.int (if b then 1 else 0)) := by
  intro Q q
  refine ha _ ?_
  exact .inr ⟨b, rfl, q⟩
theorem v_neg (ha : Val ta σ H (.int i)) : Val (tUn (rU fun i => .int (-i)) ta) σ H (.int (-i)) := by
  intro Q q
  refine ha _ ?_
  exact ⟨i, rfl, q⟩
/-- arguments that change nothing -/
def AVal (tA : TA) (σ : L2.St) (H : Hp) (vs : List V) : Prop := ∀ Q : List V → Hp → Prop, Q vs H → tA σ H Q
theorem a_nil : AVal tNil σ H [] := fun _ q => q
theorem a_cons (h : Val ta σ H v) (r : AVal tA σ H vs) : AVal (tCons ta tA) σ H (v :: vs) := fun Q q => h _ (r _ q)
theorem t_test (h : Val te σ H (.bl b)) : Ans (tTest te) σ H b := fun Q q => h _ ⟨b, rfl, q⟩
theorem t_B (h : Val te σ H (.bl b)) : Ans (tB te) σ H b := fun Q q => h _ ⟨b, rfl, q⟩
theorem t_or {t u : TT} {b1 b2 : Bool} (h1 : Ans t σ H b1) (h2 : b1 = false → Ans u σ H b2) : Ans (tOr t u) σ H (b1 || b2) := by
  intro Q q
  refine h1 _ ?_
  cases b1 with
  | true => exact q
  | false => exact h2 rfl Q q
theorem t_and {t u : TT} {b1 b2 : Bool} (h1 : Ans t σ H b1) (h2 : b1 = true → Ans u σ H b2) : Ans (tAnd t u) σ H (b1 && b2) := by
  intro Q q
  refine h1 _ ?_
  cases b1 with
  | true => exact h2 rfl Q q
  | false => exact q
theorem t_not {t : TT} (h : Ans t σ H b) : Ans (tNot t) σ H (!b) := fun Q q => h _ q
/-! statements -/
theorem s_seq (h : t { D with nx := u D } σ H) : tSeq t u D σ H := h
theorem s_if (h : Ans tt σ H b) (h1 : b = true → t D σ H) (h2 : b = false → u D σ H) : tIfS tt t u D σ H := by
  refine h _ ?_
  cases b with
  | true => exact h1 rfl
  | false => exact h2 rfl
theorem s_ifn {P : Prop} [Decidable P] (h : Ans tt σ H (decide P)) (h1 : P → t { D with nx := u D } σ H) (h2 : ¬ P → u D σ H) : tSeq (tIfS tt t tNext) u D σ H := by
  refine h _ ?_
  by_cases p : P
  · rw [decide_eq_true p]; exact h1 p
  · rw [decide_eq_false p]; exact h2 p
theorem s_ifnb (h : Ans tt σ H b) (h1 : b = true → t { D with nx := u D } σ H) (h2 : b = false → u D σ H) : tSeq (tIfS tt t tNext) u D σ H := by
  refine h _ ?_
  cases b with
  | true => exact h1 rfl
  | false => exact h2 rfl
theorem c_op {r : R2} (h : ta σ H fun x H1 => tb σ H1 fun y H2 => r x y H2 Q) : tOp r ta tb σ H Q := h
theorem c_asg {g : TG} (h : te σ H fun x H1 => g x σ H1 D.nx) : tAsg te g D σ H := h
theorem c_ret (h : te σ H D.rt) : tRet te D σ H := h
theorem c_drop (h : te σ H fun _ H1 => D.nx σ H1) : tDrop te D σ H := h
theorem c_cons {Q : List V → Hp → Prop} (h : ta σ H fun x H1 => tA σ H1 fun xs H2 => Q (x :: xs) H2) : tCons ta tA σ H Q := h
theorem c_fld {C dx : Addr} {f : Str} {fs : List (Str × V)} (ha : Val ta σ H (.ref a)) (ho : H a = some (.ins C dx fs)) (hc : Cls K C) (hn : NoAttr K C f) (hl : fs.lookup f = some v) (q : Q v H) : tFld K ta f σ H Q := val_fld ha ho hc hn hl Q q
theorem c_sfld {f : Str} (h : tb σ H fun y H1 => ta σ H1 fun x H2 => ∃ a C dx fs, x = .ref a ∧ H2 a = some (.ins C dx fs) ∧ Cls K C ∧ NoAttr K C f ∧ fs.length < 1000 ∧ D.nx σ (upd H2 a (.ins C dx (putF f y fs)))) : sFld K ta tb f D σ H := h
theorem q_asg {n : Nat} (h : Val te σ H v) (q : u D (σ.set n (some v)) H) : tSeq (tAsg te (gName n)) u D σ H := h _ q
theorem q_asgC {n : Nat} (h : te σ H fun x H1 => u D (σ.set n (some x)) H1) : tSeq (tAsg te (gName n)) u D σ H := h
theorem q_asgG {g : TG} (h : te σ H fun x H1 => g x σ H1 (u D)) : tSeq (tAsg te g) u D σ H := h
theorem q_drop (h : te σ H fun _ H1 => u D σ H1) : tSeq (tDrop te) u D σ H := h
theorem q_sfld {f : Str} (h : tb σ H fun y H1 => ta σ H1 fun x H2 => ∃ a C dx fs, x = .ref a ∧ H2 a = some (.ins C dx fs) ∧ Cls K C ∧ NoAttr K C f ∧ fs.length < 1000 ∧ u D σ (upd H2 a (.ins C dx (putF f y fs)))) : tSeq (sFld K ta tb f) u D σ H := h
theorem q_fld {C dx : Addr} {f : Str} {fs fs' : List (Str × V)} (hv : Val tb σ H y) (ha : Val ta σ H (.ref a)) (ho : H a = some (.ins C dx fs)) (hc : Cls K C) (hn : NoAttr K C f) (hl : fs.length < 1000) (e : putF f y fs = fs') (q : u D σ (upd H a (.ins C dx fs'))) : tSeq (sFld K ta tb f) u D σ H := by
  refine hv _ ?_
  refine ha _ ?_
  refine ⟨a, C, dx, fs, rfl, ho, hc, hn, hl, ?_⟩
  rw [e]
  exact q
theorem c_tup {K : Ky} {n : Nat} {g : TGs} {QQ : L2.St → Hp → Prop} (h : SqT K H a xs) (hl : xs.length = n) (q : g xs σ H QQ) : gTup K n g (.ref a) σ H QQ := ⟨a, xs, rfl, h, hl, q⟩
def ForG (J : It) (g : TG) (tb : TS) (D : Ends) (σ : L2.St) (H1 : Hp) : Prop := ∃ W : Nat → Nat → L2.St → Hp → Prop, (∃ m, W 0 m σ H1) ∧ ∀ i m σ H, W i m σ H →
  (J.stop i H ∧ D.nx σ H) ∨ (J.go i H ∧ ∃ N : L2.St → Hp → Prop, (∀ σ' H', N σ' H' → ∃ m', m' < m ∧ W (i + 1) m' σ' H') ∧ ∀ x H', J.yld i H x H' → g x σ H' fun σ2 H2 => tb { D with nx := N, ct := N, bk := D.nx } σ2 H2)
theorem c_forL {tl : TE} {g : TG} (h : tl σ H fun x H1 => ∃ a, x = .ref a ∧ (∃ xs, SqL K H1 a xs) ∧ ForG (Itl K a) g t D σ H1) : tFor (iList K tl) g t D σ H := h
theorem c_forT {tl : TE} {g : TG} (h : tl σ H fun x H1 => ∃ a, x = .ref a ∧ (∃ xs, SqT K H1 a xs) ∧ ForG (Itt K a) g t D σ H1) : tFor (iTup K tl) g t D σ H := h
theorem c_revL (h : te σ H fun x H1 => ∃ a xs, x = .ref a ∧ SqL K H1 a xs ∧ ∀ p, H1 p = none → Q (.ref p) (upd H1 p (.lst xs.reverse))) : tRevL K te σ H Q := h
theorem c_make {C : Addr} {sp : Sp} {E : XK} (h : tA σ H fun vs H1 => ∀ x dx, H1 x = none → H1 dx = none → dx ≠ x → sp (.ref x :: (vs ++ [])) (upd (upd H1 dx (.own x)) x (.ins C dx [])) (fun v H2 => v = .non ∧ Q (.ref x) H2) E) : tMake C sp [] E tA σ H Q := h
theorem c_forR2 {g : TG} {lo hi : Int} (h : AVal tA σ H [.int lo, .int hi]) (hb : -(2 ^ 62) ≤ lo ∧ lo < 2 ^ 62 ∧ -(2 ^ 62) ≤ hi ∧ hi < 2 ^ 62) (Pv : Nat → L2.St → Hp → Prop) (h0 : Pv 0 σ H)
    (hs : ∀ i σ H, i < (hi - lo).toNat → Pv i σ H → g (.int (lo + i)) σ H fun σ2 H2 => t { D with nx := Pv (i + 1), ct := Pv (i + 1), bk := D.nx } σ2 H2) (hd : ∀ σ H, Pv (hi - lo).toNat σ H → D.nx σ H) : tFor (iRng2 tA) g t D σ H :=
  h _ ⟨lo, hi, rfl, hb, for_range Pv h0 hs hd⟩
theorem c_forR1 {g : TG} {n : Nat} (h : AVal tA σ H [.int n]) (hb : (n : Int) < 2 ^ 62) (Pv : Nat → L2.St → Hp → Prop) (h0 : Pv 0 σ H)
    (hs : ∀ i σ H, i < n → Pv i σ H → g (.int i) σ H fun σ2 H2 => t { D with nx := Pv (i + 1), ct := Pv (i + 1), bk := D.nx } σ2 H2) (hd : ∀ σ H, Pv n σ H → D.nx σ H) : tFor (iRng1 tA) g t D σ H :=
  h _ ⟨n, rfl, by omega, hb, for_range (lo := 0) (n := (n : Int).toNat) Pv h0 (fun i σ H hi p => by rw [Int.zero_add]; exact hs i σ H (by omega) p) (by rw [Int.toNat_natCast]; exact hd)⟩
/-- reversed(range(n)) -/
theorem c_forRR {g : TG} {n : Nat} (h : Val te σ H (.int n)) (hb : (n : Int) < 2 ^ 62) (Pv : Nat → L2.St → Hp → Prop) (h0 : Pv 0 σ H)
    (hs : ∀ i σ H, i < n → Pv i σ H → g (.int ((n - 1 - i : Nat) : Int)) σ H fun σ2 H2 => t { D with nx := Pv (i + 1), ct := Pv (i + 1), bk := D.nx } σ2 H2) (hd : ∀ σ H, Pv n σ H → D.nx σ H) : tFor (iRevR (tRg1 te)) g t D σ H := by
  refine h _ ⟨n, rfl, by decide, by decide, by omega, hb, ?_⟩
  have e : ((n : Int) - 0).toNat = n := by omega
  rw [e]
  refine for_rangeC (lo := 0 + ((n : Nat) : Int) - 1) (c := -1) (n := n) Pv h0 (fun i σ H hi p => ?_) hd
  have e2 : (0 + ((n : Nat) : Int) - 1) + (i : Nat) * (-1) = ((n - 1 - i : Nat) : Int) := by omega
  rw [e2]
  exact hs i σ H hi p
/-- while: a test that changes nothing -/
theorem c_while {P : L2.St → Hp → Bool} (Pv : L2.St → Hp → Prop) (m : L2.St → Hp → Nat) (h0 : Pv σ H) (ht : ∀ σ H, Pv σ H → Ans tt σ H (P σ H))
    (hs : ∀ σ H, Pv σ H → P σ H = true → t { D with nx := fun σ' H' => Pv σ' H' ∧ m σ' H' < m σ H, ct := fun σ' H' => Pv σ' H' ∧ m σ' H' < m σ H, bk := D.nx } σ H) (hd : ∀ σ H, Pv σ H → P σ H = false → D.nx σ H) : tWhile tt t D σ H := by
  refine ⟨fun k σ H => k = m σ H ∧ Pv σ H, ⟨_, rfl, h0⟩, ?_⟩
  rintro k σ H ⟨rfl, p⟩
  refine ht σ H p _ ?_
  cases e : P σ H with
  | true =>
    rw [if_pos rfl]
    exact ⟨_, fun σ' H' ⟨h1, h2⟩ => ⟨_, h2, rfl, h1⟩, hs σ H p e⟩
  | false =>
    rw [if_neg (by decide)]
    exact hd σ H p e
/-- a test of a proposition -/
theorem s_ifd {P : Prop} [Decidable P] (h : Ans tt σ H (decide P)) (h1 : P → t D σ H) (h2 : ¬ P → u D σ H) : tIfS tt t u D σ H :=
  s_if h (fun e => h1 (of_decide_eq_true e)) (fun e => h2 (of_decide_eq_false e))
theorem s_asg {n : Nat} (h : Val te σ H v) (q : D.nx (σ.set n (some v)) H) : tAsg te (gName n) D σ H := h _ q
theorem s_ret (h : Val te σ H v) (q : D.rt v H) : tRet te D σ H := h _ q
theorem s_call {sp : Sp} {E : XK} (h : AVal tA σ H vs) (q : sp vs H Q E) : tCall sp [] E tA σ H Q := h _ (by rw [List.append_nil]; exact q)
theorem s_meth {C dx : Addr} {m : Str} {sp : Sp} {E : XK} {fs : List (Str × V)} (hx : Val ta σ H (.ref a)) (ho : H a = some (.ins C dx fs)) (hl : fs.lookup m = none) (h : AVal tA σ H vs) (q : sp (.ref a :: vs) H Q E) : tMeth C m sp [] E ta tA σ H Q := by
  refine hx _ ⟨a, dx, fs, rfl, ho, hl, h _ ?_⟩
  rw [List.append_nil]
  exact q
theorem s_tup (h : AVal tA σ H vs) (hz : vs.length ≤ 1000) (q : ∀ p, H p = none → Q (.ref p) (upd H p (.tup vs))) : tTup tA σ H Q := h _ ⟨Nat.le_of_lt (small1000 hz), q⟩
theorem s_lst (h : AVal tA σ H vs) (hz : vs.length ≤ 1000) (q : ∀ p, H p = none → Q (.ref p) (upd H p (.lst vs))) : tLst tA σ H Q := h _ ⟨Nat.le_of_lt (small1000 hz), q⟩
theorem s_fld {C dx : Addr} {f : Str} {fs fs' : List (Str × V)} (hv : Val tb σ H y) (ha : Val ta σ H (.ref a)) (ho : H a = some (.ins C dx fs)) (hc : Cls K C) (hn : NoAttr K C f) (hl : fs.length < 1000) (e : putF f y fs = fs') (q : D.nx σ (upd H a (.ins C dx fs'))) : sFld K ta tb f D σ H := by
  refine hv _ ?_
  refine ha _ ?_
  refine ⟨a, C, dx, fs, rfl, ho, hc, hn, hl, ?_⟩
  rw [e]
  exact q
theorem s_app {l : Addr} (hx : Val ta σ H (.ref l)) (hv : Val tb σ H v) (hl : H l = some (.lst xs)) (hz : xs.length < sizeLine) (q : Q .non (upd H l (.lst (xs ++ [v])))) : tBM K "list" rAppend ta (tCons tb tNil) σ H Q := by
  refine hx _ ⟨.inl ⟨rfl, _, SqL.of hl⟩, ?_⟩
  refine hv _ ?_
  exact ⟨l, xs, v, rfl, rfl, hl, hz, q⟩
end
/-! ### heaps -/
theorem Same.seqT {K : Ky} {H H' : Hp} {a : Addr} {xs : List V} (e : Same H H') (h : SqT K H a xs) : SqT K H' a xs := by
  rcases h with (h | ⟨o, h⟩) | h
  · exact .inl (.inl (e _ _ h))
  · exact .inl (.inr ⟨o, e _ _ h⟩)
  · exact .inr h
theorem Same.new {H : Hp} {p : Addr} {o : HO} (h : H p = none) : Same H (upd H p o) := fun b u e => by
  rw [upd_ne (ne_of_none e h)]; exact e
/-- what may be read of R grows to R'; nothing of it that H had besides -/
structure Grow (R R' H : Hp) : Prop where
  same : Same R R'
  new : ∀ a o, H a = some o → R a = none → R' a = none
theorem Grow.refl (R H : Hp) : Grow R R H := ⟨Same.refl R, fun _ _ _ h => h⟩
theorem Grow.upd {R H : Hp} {p : Addr} {o : HO} (hs : Same R H) (h : H p = none) : Grow R (upd R p o) H :=
  ⟨Same.new (hs.free h), fun a u e n => by rw [upd_ne (ne_of_none e h)]; exact n⟩
/-- all of H but at the addresses of S stands in H' -/
def But (S : List Addr) (H H' : Hp) : Prop := ∀ b o, H b = some o → b ∉ S → H' b = some o
theorem But.refl (S : List Addr) (H : Hp) : But S H H := fun _ _ h _ => h
theorem But.trans {S : List Addr} {H H1 H2 : Hp} (a : But S H H1) (b : But S H1 H2) : But S H H2 := fun c o h n => b c o (a c o h n) n
theorem But.upd {S : List Addr} {H : Hp} {p : Addr} {o : HO} (h : p ∈ S) : But S H (upd H p o) := fun b u e n => by
  rw [upd_ne (fun z => n (by rw [z]; exact h))]; exact e
theorem But.new {S : List Addr} {H : Hp} {p : Addr} {o : HO} (h : H p = none) : But S H (L2.upd H p o) := fun b u e _ => Same.new h b u e
theorem But.mono {S S' : List Addr} {H H' : Hp} (h : But S H H') (hs : ∀ a ∈ S, a ∈ S') : But S' H H' := fun b o e n => h b o e fun z => n (hs b z)
theorem But.same {S : List Addr} {R H H' : Hp} (h : But S H H') (hs : Same R H) (hn : ∀ a ∈ S, R a = none) : Same R H' := fun b o e => h b o (hs b o e) fun z => by rw [hn b z] at e; cases e
theorem Same.but {S : List Addr} {H H' : Hp} (h : Same H H') : But S H H' := fun b o e _ => h b o e
def nV (n : Nat) : V := .int n
def oV : Option Nat → V
  | none => .non
  | some n => .int n
def nsV (l : List Nat) : List V := l.map nV
end Mi
/-! S1: promises of scalars.py and nodes.py (as far as reading goes). -/
namespace Mi
open PySem PySem.Spec PyProof.Rows L2
/-! ### facts of the classes -/
structure KFault (K : Ky) : Prop where
  oex : OexC K (He.ga K "Fault")
  n_kind : PySem.W.findIn K (.ref (He.ga K "Fault")) "kind" = some none
  n_place : PySem.W.findIn K (.ref (He.ga K "Fault")) "place" = some none
structure KNode (K : Ky) : Prop where
  cl : Cls K (He.ga K "Node")
  n_kind : NoAttr K (He.ga K "Node") "kind"
  n_one : NoAttr K (He.ga K "Node") "one"
  n_other : NoAttr K (He.ga K "Node") "other"
  n_told : NoAttr K (He.ga K "Node") "told"
structure KBuilder (K : Ky) : Prop where
  cl : Cls K (He.ga K "Builder")
  n_nodes : NoAttr K (He.ga K "Builder") "nodes"
  n_weights : NoAttr K (He.ga K "Builder") "weights"
/-! ### faults -/
def ftF (e : Fl) : List (Str × V) := [("place", nV e.2), ("kind", nV e.1)]
/-- a fault may be let out -/
def Flt (K : Ky) (E : XK) (e : Fl) : Prop := ∀ (d : Addr) (H' : Hp), H' d = some (.xd (ftF e)) → E (.ref (He.ga K "Fault")) (some d) H'
def sp_Fault___init__ (K : Ky) : Sp := fun vs H Q _ => ∃ (a : Addr) (k p : Nat), vs = [.ref a, nV k, nV p] ∧ H a = some (exo a (He.ga K "Fault") none) ∧
  ∀ (H' : Hp) (d : Addr), H d = none → d ≠ a → H' a = some (exo a (He.ga K "Fault") (some d)) → H' d = some (exd d (ftF (k, p))) → Q .non H'
/-! ### scalars -/
def sp_size_by (_ : Ky) : Sp := fun vs H Q _ => ∃ l : Nat, vs = [nV l] ∧ Q (nV (sizeBy l)) H
def TupQ (H : Hp) (xs : List V) (Q : VK) : Prop := ∀ p, H p = none → Q (.ref p) (upd H p (.tup xs))
def sp_second_bounds (_ : Ky) : Sp := fun vs H Q _ => ∃ l : Nat, vs = [nV l] ∧ TupQ H [nV (secondBounds l).1, nV (secondBounds l).2] Q
def sp_bounds_at (_ : Ky) : Sp := fun vs H Q _ => ∃ l k : Nat, vs = [nV l, nV k] ∧ TupQ H [nV (boundsAt l k).1, nV (boundsAt l k).2] Q
def sp_value_at (K : Ky) : Sp := fun vs H Q E => ∃ (a : Addr) (B : Bs) (p : Nat), vs = [.ref a, nV p] ∧ Ok B ∧ SqL K H a (nsV B) ∧ p < B.length ∧
  (∀ v n H' q, valueAt B p = .ok (v, n) → Same H H' → H q = none → H' q = some (.tup [nV v, nV n]) → Q (.ref q) H') ∧ (∀ e, valueAt B p = .error e → Flt K E e)
/-! ### nodes -/
def ndF (k o t d : V) : List (Str × V) := [("kind", k), ("one", o), ("other", t), ("told", d)]
def sp_Node___init__ (K : Ky) : Sp := fun vs H Q _ => ∃ (a dx : Addr) (k o t d : V), vs = [.ref a, k, o, t, d] ∧ H a = some (.ins (He.ga K "Node") dx []) ∧ Q .non (upd H a (.ins (He.ga K "Node") dx (ndF k o t d)))
/-- bounds, as a list of pairs -/
def PrAt (K : Ky) (R : Hp) (a : Addr) (r : Nat × Nat) : Prop := SqT K R a [nV r.1, nV r.2]
def BnAt (K : Ky) (R : Hp) (l : Addr) (bs : Bnds) : Prop := ∃ as : List Addr, R l = some (.lst (as.map V.ref)) ∧ Paired (PrAt K R) as bs
def kindOf : Nd → Str
  | .test _ _ => "test"
  | .bgn => "begin"
  | .fin => "end"
  | .edge => "edge"
  | .empty => "empty"
  | .pair _ _ => "pair"
  | .either _ _ => "either"
  | .step _ _ _ => "step"
  | .loop _ => "loop"
  | .named _ _ => "named"
def oneOf_ : Nd → V
  | .pair a _ => nV a
  | .either a _ => nV a
  | .step a _ _ => nV a
  | .loop a => nV a
  | .named a _ => nV a
  | _ => .non
def otherOf : Nd → V
  | .pair _ b => nV b
  | .either _ b => nV b
  | .step _ b _ => nV b
  | _ => .non
/-- what is told of it besides -/
def ToldAt (K : Ky) (R : Hp) : Nd → V → Prop
  | .test bs t, d => ∃ tp bl, d = .ref tp ∧ R tp = some (.tup [.ref bl, .bl t]) ∧ BnAt K R bl bs
  | .step _ _ f, d => d = .bl f
  | .loop _, d => d = .bl true
  | .named _ k, d => d = nV k
  | _, d => d = .non
def NdAt (K : Ky) (R : Hp) (a : Addr) (nd : Nd) : Prop := ∃ dx d, R a = some (.ins (He.ga K "Node") dx (ndF (.str (kindOf nd)) (oneOf_ nd) (otherOf nd) d)) ∧ ToldAt K R nd d
def bdF (n w : Addr) : List (Str × V) := [("nodes", .ref n), ("weights", .ref w)]
/-- the builder at bd: its lists at n and w, the nodes at nds -/
structure BdAt (K : Ky) (R H : Hp) (bd n w : Addr) (nds : List Addr) (b : Bd) : Prop where
  sub : Same R H
  obj : ∃ dx, H bd = some (.ins (He.ga K "Builder") dx (bdF n w))
  nodes : H n = some (.lst (nds.map V.ref))
  weights : H w = some (.lst (nsV b.weights))
  at_ : Paired (NdAt K R) nds b.nodes
  wf : b.nodes.length = b.weights.length
  ne : n ≠ w
  fn : R n = none
  fw : R w = none
  fb : R bd = none
  small : b.nodes.length ≤ 100000
/-- a builder's method: it answers a number, the builder is b' then -/
def BdQ (K : Ky) (R H : Hp) (bd n w : Addr) (b' : Bd) (v : V) (Q : VK) : Prop :=
  ∀ (R' H' : Hp) (nds' : List Addr), BdAt K R' H' bd n w nds' b' → Grow R R' H → But [n, w] H H' → Q v H'
def sp_Builder___init__ (K : Ky) : Sp := fun vs H Q _ => ∃ (a dx : Addr), vs = [.ref a] ∧ H a = some (.ins (He.ga K "Builder") dx []) ∧
  ∀ (H' : Hp) (n w : Addr), H n = none → H w = none → n ≠ w → H' a = some (.ins (He.ga K "Builder") dx (bdF n w)) → H' n = some (.lst []) → H' w = some (.lst []) → But [a] H H' → Q .non H'
/-- a node, not yet of the builder, is handed in -/
def sp_Builder_added (K : Ky) : Sp := fun vs H Q _ => ∃ (R : Hp) (bd n w a : Addr) (nds : List Addr) (b : Bd) (nd : Nd) (wt : Nat), vs = [.ref bd, .ref a, nV wt] ∧ BdAt K R H bd n w nds b ∧ NdAt K R a nd ∧ b.nodes.length < 100000 ∧
  BdQ K R H bd n w (b.added nd wt).1 (nV (b.added nd wt).2) Q
def sp_Builder_test (K : Ky) : Sp := fun vs H Q _ => ∃ (R : Hp) (bd n w l : Addr) (nds : List Addr) (b : Bd) (bs : Bnds) (t : Bool), vs = [.ref bd, .ref l, .bl t] ∧ BdAt K R H bd n w nds b ∧ BnAt K R l bs ∧ b.nodes.length < 100000 ∧
  BdQ K R H bd n w (b.added (.test bs t) 1).1 (nV (b.added (.test bs t) 1).2) Q
def sp_Builder_sign (K : Ky) : Sp := fun vs H Q _ => ∃ (R : Hp) (bd n w : Addr) (nds : List Addr) (b : Bd) (nd : Nd), vs = [.ref bd, .str (kindOf nd)] ∧ (nd = .bgn ∨ nd = .fin ∨ nd = .edge) ∧ BdAt K R H bd n w nds b ∧ b.nodes.length < 100000 ∧
  BdQ K R H bd n w (b.added nd 1).1 (nV (b.added nd 1).2) Q
def sp_Builder_empty (K : Ky) : Sp := fun vs H Q _ => ∃ (R : Hp) (bd n w : Addr) (nds : List Addr) (b : Bd), vs = [.ref bd] ∧ BdAt K R H bd n w nds b ∧ b.nodes.length < 100000 ∧
  BdQ K R H bd n w (b.added .empty 0).1 (nV (b.added .empty 0).2) Q
def sp_Builder_row (K : Ky) : Sp := fun vs H Q _ => ∃ (R : Hp) (bd n w l : Addr) (nds : List Addr) (b : Bd) (ps : List Nat), vs = [.ref bd, .ref l] ∧ BdAt K R H bd n w nds b ∧ H l = some (.lst (nsV ps)) ∧ l ≠ n ∧ l ≠ w ∧
  (∀ p ∈ ps, p < b.nodes.length) ∧ b.nodes.length + ps.length < 100000 ∧ BdQ K R H bd n w (b.row ps).1 (nV (b.row ps).2) Q
def sp_Builder_one_of (K : Ky) : Sp := fun vs H Q _ => ∃ (R : Hp) (bd n w l : Addr) (nds : List Addr) (b : Bd) (ps : List Nat), vs = [.ref bd, .ref l] ∧ BdAt K R H bd n w nds b ∧ H l = some (.lst (nsV ps)) ∧ l ≠ n ∧ l ≠ w ∧ ps ≠ [] ∧
  (∀ p ∈ ps, p < b.nodes.length) ∧ b.nodes.length + ps.length < 100000 ∧ BdQ K R H bd n w (b.oneOf ps).1 (nV (b.oneOf ps).2) Q
def sp_Builder_named (K : Ky) : Sp := fun vs H Q _ => ∃ (R : Hp) (bd n w : Addr) (nds : List Addr) (b : Bd) (x k : Nat), vs = [.ref bd, nV x, nV k] ∧ BdAt K R H bd n w nds b ∧ x < b.nodes.length ∧ b.nodes.length < 100000 ∧
  BdQ K R H bd n w (b.namedN x k).1 (nV (b.namedN x k).2) Q
def sp_Builder_endless (K : Ky) : Sp := fun vs H Q _ => ∃ (R : Hp) (bd n w : Addr) (nds : List Addr) (b : Bd) (x m : Nat), vs = [.ref bd, nV x, nV m] ∧ BdAt K R H bd n w nds b ∧ x < b.nodes.length ∧ m ≤ 20 ∧ b.nodes.length + 100 < 100000 ∧
  BdQ K R H bd n w (b.endless x m).1 (nV (b.endless x m).2) Q
def sp_Builder_often (K : Ky) : Sp := fun vs H Q _ => ∃ (R : Hp) (bd n w : Addr) (nds : List Addr) (b : Bd) (x m : Nat) (mo : Option Nat), vs = [.ref bd, nV x, nV m, oV mo] ∧ BdAt K R H bd n w nds b ∧ x < b.nodes.length ∧ m ≤ 20 ∧ (∀ k, mo = some k → k ≤ 20) ∧ b.nodes.length + 100 < 100000 ∧
  BdQ K R H bd n w (b.often x m mo).1 (nV (b.often x m mo).2) Q
/-! ### reading's small defs -/
def sp_is_figure (_ : Ky) : Sp := fun vs H Q _ => ∃ c : Nat, vs = [nV c] ∧ Q (.bl (isFigure c)) H
def sp_is_small (_ : Ky) : Sp := fun vs H Q _ => ∃ c : Nat, vs = [nV c] ∧ Q (.bl (isSmall c)) H
def sp_is_in_name (_ : Ky) : Sp := fun vs H Q _ => ∃ c : Nat, vs = [nV c] ∧ Q (.bl (isInName c)) H
/-- a new list of bounds -/
def BnQ (K : Ky) (R H : Hp) (bs : Bnds) (Q : VK) : Prop := ∀ R' H' l, Same R' H' → Grow R R' H → Same H H' → BnAt K R' l bs → Q (.ref l) H'
def sp_all_but (K : Ky) : Sp := fun vs H Q _ => ∃ (R : Hp) (t : Addr) (as : List Addr) (bs : Bnds), vs = [.ref t] ∧ Same R H ∧ SqT K R t (as.map V.ref) ∧ Paired (PrAt K R) as bs ∧ bs.length ≤ 100 ∧ (∀ r ∈ bs, r.1 ≤ r.2) ∧ BnQ K R H (allBut bs) Q
def sp_class_bounds (K : Ky) : Sp := fun vs H Q _ => ∃ (R : Hp) (c : Nat), vs = [nV c] ∧ Same R H ∧ (classBounds c = none → ∀ R' H', Same R' H' → Grow R R' H → Same H H' → Q .non H') ∧ ∀ bs, classBounds c = some bs → BnQ K R H bs Q
end Mi
/-! R1: readings (printed by gen.py). -/
namespace Mi
open PySem PySem.Spec PyProof.Rows L2
/-- Fault.__init__ -/
def t_Fault___init__ (K : Ky) (E : XK) : TS :=
  (tSeq (tOst K "kind" (tVar 0) (tVar 1))
    (tOst K "place" (tVar 0) (tVar 2)))
abbrev N_Fault___init__ : List Str := ["self", "kind", "place"]
/-- size_by -/
def t_size_by (K : Ky) (E : XK) : TS :=
  (tSeq (tIfS (tTest (tOp xLt (tVar 0) (tC (.int 128)))) (tRet (tC (.int 1))) tNext)
    (tSeq (tIfS (tTest (tChain xLe xLe (tC (.int 194)) (tVar 0) (tC (.int 223)))) (tRet (tC (.int 2))) tNext)
    (tSeq (tIfS (tTest (tChain xLe xLe (tC (.int 224)) (tVar 0) (tC (.int 239)))) (tRet (tC (.int 3))) tNext)
    (tSeq (tIfS (tTest (tChain xLe xLe (tC (.int 240)) (tVar 0) (tC (.int 244)))) (tRet (tC (.int 4))) tNext)
    (tRet (tC (.int 0)))))))
abbrev N_size_by : List Str := ["lead"]
/-- second_bounds -/
def t_second_bounds (K : Ky) (E : XK) : TS :=
  (tSeq (tIfS (tTest (tOp rEq (tVar 0) (tC (.int 224)))) (tRet (tTup (tCons (tC (.int 160)) (tCons (tC (.int 191)) tNil)))) tNext)
    (tSeq (tIfS (tTest (tOp rEq (tVar 0) (tC (.int 237)))) (tRet (tTup (tCons (tC (.int 128)) (tCons (tC (.int 159)) tNil)))) tNext)
    (tSeq (tIfS (tTest (tOp rEq (tVar 0) (tC (.int 240)))) (tRet (tTup (tCons (tC (.int 144)) (tCons (tC (.int 191)) tNil)))) tNext)
    (tSeq (tIfS (tTest (tOp rEq (tVar 0) (tC (.int 244)))) (tRet (tTup (tCons (tC (.int 128)) (tCons (tC (.int 143)) tNil)))) tNext)
    (tRet (tTup (tCons (tC (.int 128)) (tCons (tC (.int 191)) tNil))))))))
abbrev N_second_bounds : List Str := ["lead"]
/-- bounds_at -/
def t_bounds_at (K : Ky) (E : XK) : TS :=
  (tSeq (tIfS (tTest (tOp rEq (tVar 1) (tC (.int 1)))) (tRet (tCall (sp_second_bounds K) [] E0 (tCons (tVar 0) tNil))) tNext)
    (tRet (tTup (tCons (tC (.int 128)) (tCons (tC (.int 191)) tNil)))))
abbrev N_bounds_at : List Str := ["lead", "k"]
/-- value_at -/
def t_value_at (K : Ky) (E : XK) : TS :=
  (tSeq (tAsg (tOp (rIxL K) (tVar 0) (tVar 1)) (gName 2))
    (tSeq (tAsg (tCall (sp_size_by K) [] E0 (tCons (tVar 2) tNil)) (gName 3))
    (tSeq (tIfS (tTest (tOp rEq (tVar 3) (tC (.int 0)))) (tRaiseO (He.ga K "Fault") (sp_Fault___init__ K) E (tCons (tC (.int 2)) (tCons (tVar 1) tNil))) tNext)
    (tSeq (tAsg (tOp xSub (tVar 2) (tOp (rIxL K) (tLst (tCons (tC (.int 0)) (tCons (tC (.int 0)) (tCons (tC (.int 192)) (tCons (tC (.int 224)) (tCons (tC (.int 240)) tNil)))))) (tVar 3))) (gName 4))
    (tSeq (tFor (iRng2 (tCons (tC (.int 1)) (tCons (tVar 3) tNil))) (gName 5) (tSeq (tIfS (tTest (tOp rEq (tOp xAdd (tVar 1) (tVar 5)) (tCB (xLen K) (tCons (tVar 0) tNil)))) (tRaiseO (He.ga K "Fault") (sp_Fault___init__ K) E (tCons (tC (.int 1)) (tCons (tOp xAdd (tVar 1) (tVar 5)) tNil))) tNext)
    (tSeq (tAsg (tCall (sp_bounds_at K) [] E0 (tCons (tVar 2) (tCons (tVar 5) tNil))) (gTup K 2 (gCons (gName 6) (gCons (gName 7) gNil))))
    (tSeq (tIfS (tNot (tTest (tChain xLe xLe (tVar 6) (tOp (rIxL K) (tVar 0) (tOp xAdd (tVar 1) (tVar 5))) (tVar 7)))) (tRaiseO (He.ga K "Fault") (sp_Fault___init__ K) E (tCons (tC (.int 2)) (tCons (tOp xAdd (tVar 1) (tVar 5)) tNil))) tNext)
    (tAsg (tOp xSub (tOp xAdd (tOp xMul (tC (.int 64)) (tVar 4)) (tOp (rIxL K) (tVar 0) (tOp xAdd (tVar 1) (tVar 5)))) (tC (.int 128))) (gName 4))))))
    (tRet (tTup (tCons (tVar 4) (tCons (tVar 3) tNil)))))))))
abbrev N_value_at : List Str := ["text", "at", "lead", "size", "found", "k", "low", "high"]
/-- Node.__init__ -/
def t_Node___init__ (K : Ky) (E : XK) : TS :=
  (tSeq (sFld K (tVar 0) (tVar 1) "kind")
    (tSeq (sFld K (tVar 0) (tVar 2) "one")
    (tSeq (sFld K (tVar 0) (tVar 3) "other")
    (sFld K (tVar 0) (tVar 4) "told"))))
abbrev N_Node___init__ : List Str := ["self", "kind", "one", "other", "told"]
/-- all_but -/
def t_all_but (K : Ky) (E : XK) : TS :=
  (tSeq (tAsg (tLst tNil) (gName 1))
    (tSeq (tAsg (tC (.int 0)) (gName 2))
    (tSeq (tFor (iTup K (tVar 0)) (gTup K 2 (gCons (gName 3) (gCons (gName 4) gNil))) (tSeq (tIfS (tTest (tOp xLt (tVar 2) (tVar 3))) (tDrop (tBM K "list" rAppend (tVar 1) (tCons (tTup (tCons (tVar 2) (tCons (tOp xSub (tVar 3) (tC (.int 1))) tNil))) tNil))) tNext)
    (tAsg (tOp xAdd (tVar 4) (tC (.int 1))) (gName 2))))
    (tSeq (tIfS (tTest (tOp xLe (tVar 2) (tC (.int 1114111)))) (tDrop (tBM K "list" rAppend (tVar 1) (tCons (tTup (tCons (tVar 2) (tCons (tC (.int 1114111)) tNil))) tNil))) tNext)
    (tRet (tVar 1))))))
abbrev N_all_but : List Str := ["bounds", "found", "low", "one", "other"]
/-- Builder.__init__ -/
def t_Builder___init__ (K : Ky) (E : XK) : TS :=
  (tSeq (sFld K (tVar 0) (tLst tNil) "nodes")
    (sFld K (tVar 0) (tLst tNil) "weights"))
abbrev N_Builder___init__ : List Str := ["self"]
/-- Builder.added -/
def t_Builder_added (K : Ky) (E : XK) : TS :=
  (tSeq (tDrop (tBM K "list" rAppend (tFld K (tVar 0) "nodes") (tCons (tVar 1) tNil)))
    (tSeq (tDrop (tBM K "list" rAppend (tFld K (tVar 0) "weights") (tCons (tVar 2) tNil)))
    (tRet (tOp xSub (tCB (xLen K) (tCons (tFld K (tVar 0) "nodes") tNil)) (tC (.int 1))))))
abbrev N_Builder_added : List Str := ["self", "node", "weight"]
/-- Builder.test -/
def t_Builder_test (K : Ky) (E : XK) : TS :=
  (tRet (tMeth (He.ga K "Builder") "added" (sp_Builder_added K) [] E0 (tVar 0) (tCons (tMake (He.ga K "Node") (sp_Node___init__ K) [] E0 (tCons (tC (.str "test")) (tCons (tC .non) (tCons (tC .non) (tCons (tTup (tCons (tVar 1) (tCons (tVar 2) tNil))) tNil))))) (tCons (tC (.int 1)) tNil))))
abbrev N_Builder_test : List Str := ["self", "bounds", "is_turned"]
/-- Builder.sign -/
def t_Builder_sign (K : Ky) (E : XK) : TS :=
  (tRet (tMeth (He.ga K "Builder") "added" (sp_Builder_added K) [] E0 (tVar 0) (tCons (tMake (He.ga K "Node") (sp_Node___init__ K) [] E0 (tCons (tVar 1) (tCons (tC .non) (tCons (tC .non) (tCons (tC .non) tNil))))) (tCons (tC (.int 1)) tNil))))
abbrev N_Builder_sign : List Str := ["self", "kind"]
/-- Builder.empty -/
def t_Builder_empty (K : Ky) (E : XK) : TS :=
  (tRet (tMeth (He.ga K "Builder") "added" (sp_Builder_added K) [] E0 (tVar 0) (tCons (tMake (He.ga K "Node") (sp_Node___init__ K) [] E0 (tCons (tC (.str "empty")) (tCons (tC .non) (tCons (tC .non) (tCons (tC .non) tNil))))) (tCons (tC (.int 0)) tNil))))
abbrev N_Builder_empty : List Str := ["self"]
/-- Builder.row -/
def t_Builder_row (K : Ky) (E : XK) : TS :=
  (tSeq (tAsg (tMeth (He.ga K "Builder") "empty" (sp_Builder_empty K) [] E0 (tVar 0) tNil) (gName 2))
    (tSeq (tFor (iList K (tRevL K (tVar 1))) (gName 3) (tSeq (tAsg (tOp xAdd (tOp (rIxL K) (tFld K (tVar 0) "weights") (tVar 3)) (tOp (rIxL K) (tFld K (tVar 0) "weights") (tVar 2))) (gName 4))
    (tAsg (tMeth (He.ga K "Builder") "added" (sp_Builder_added K) [] E0 (tVar 0) (tCons (tMake (He.ga K "Node") (sp_Node___init__ K) [] E0 (tCons (tC (.str "pair")) (tCons (tVar 3) (tCons (tVar 2) (tCons (tC .non) tNil))))) (tCons (tVar 4) tNil))) (gName 2))))
    (tRet (tVar 2))))
abbrev N_Builder_row : List Str := ["self", "parts", "found", "part", "weight"]
/-- Builder.one_of -/
def t_Builder_one_of (K : Ky) (E : XK) : TS :=
  (tSeq (tAsg (tOp (rIxL K) (tVar 1) (tUn (rU fun i => .int (-i)) (tC (.int 1)))) (gName 2))
    (tSeq (tFor (iList K (tRevL K (tSl (rSlL K) (tVar 1) tNoPart (tPart (tUn (rU fun i => .int (-i)) (tC (.int 1))))))) (gName 3) (tSeq (tAsg (tOp xAdd (tOp (rIxL K) (tFld K (tVar 0) "weights") (tVar 3)) (tOp (rIxL K) (tFld K (tVar 0) "weights") (tVar 2))) (gName 4))
    (tAsg (tMeth (He.ga K "Builder") "added" (sp_Builder_added K) [] E0 (tVar 0) (tCons (tMake (He.ga K "Node") (sp_Node___init__ K) [] E0 (tCons (tC (.str "either")) (tCons (tVar 3) (tCons (tVar 2) (tCons (tC .non) tNil))))) (tCons (tVar 4) tNil))) (gName 2))))
    (tRet (tVar 2))))
abbrev N_Builder_one_of : List Str := ["self", "some", "found", "row", "weight"]
/-- Builder.named -/
def t_Builder_named (K : Ky) (E : XK) : TS :=
  (tRet (tMeth (He.ga K "Builder") "added" (sp_Builder_added K) [] E0 (tVar 0) (tCons (tMake (He.ga K "Node") (sp_Node___init__ K) [] E0 (tCons (tC (.str "named")) (tCons (tVar 1) (tCons (tC .non) (tCons (tVar 2) tNil))))) (tCons (tOp (rIxL K) (tFld K (tVar 0) "weights") (tVar 1)) tNil))))
abbrev N_Builder_named : List Str := ["self", "inner", "name"]
/-- Builder.endless -/
def t_Builder_endless (K : Ky) (E : XK) : TS :=
  (tSeq (tAsg (tOp xMul (tCB xMax2 (tCons (tC (.int 1)) (tCons (tVar 2) tNil))) (tOp (rIxL K) (tFld K (tVar 0) "weights") (tVar 1))) (gName 3))
    (tSeq (tAsg (tMeth (He.ga K "Builder") "added" (sp_Builder_added K) [] E0 (tVar 0) (tCons (tMake (He.ga K "Node") (sp_Node___init__ K) [] E0 (tCons (tC (.str "loop")) (tCons (tVar 1) (tCons (tC .non) (tCons (tC (.bl true)) tNil))))) (tCons (tVar 3) tNil))) (gName 4))
    (tSeq (tFor (iRng1 (tCons (tVar 2) tNil)) (gName 5) (tAsg (tMeth (He.ga K "Builder") "added" (sp_Builder_added K) [] E0 (tVar 0) (tCons (tMake (He.ga K "Node") (sp_Node___init__ K) [] E0 (tCons (tC (.str "step")) (tCons (tVar 1) (tCons (tVar 4) (tCons (tC (.bl false)) tNil))))) (tCons (tVar 3) tNil))) (gName 4)))
    (tRet (tVar 4)))))
abbrev N_Builder_endless : List Str := ["self", "inner", "least", "weight", "found", "k"]
/-- Builder.often -/
def t_Builder_often (K : Ky) (E : XK) : TS :=
  (tSeq (tIfS (tTest (tOp xIsN (tVar 3) (tC .non))) (tRet (tMeth (He.ga K "Builder") "endless" (sp_Builder_endless K) [] E0 (tVar 0) (tCons (tVar 1) (tCons (tVar 2) tNil)))) tNext)
    (tSeq (tAsg (tMeth (He.ga K "Builder") "empty" (sp_Builder_empty K) [] E0 (tVar 0) tNil) (gName 4))
    (tSeq (tFor (iRevR (tRg1 (tVar 3))) (gName 5) (tAsg (tMeth (He.ga K "Builder") "added" (sp_Builder_added K) [] E0 (tVar 0) (tCons (tMake (He.ga K "Node") (sp_Node___init__ K) [] E0 (tCons (tC (.str "step")) (tCons (tVar 1) (tCons (tVar 4) (tCons (tOp xGe (tVar 5) (tVar 2)) tNil))))) (tCons (tOp xMul (tVar 3) (tOp (rIxL K) (tFld K (tVar 0) "weights") (tVar 1))) tNil))) (gName 4)))
    (tRet (tVar 4)))))
abbrev N_Builder_often : List Str := ["self", "inner", "least", "most", "found", "k"]
/-- class_bounds -/
def t_class_bounds (K : Ky) (E : XK) : TS :=
  (tSeq (tIfS (tTest (tOp rEq (tVar 0) (tC (.int 100)))) (tRet (tCB (xList K) (tCons (tC (.ref (He.ga K "FIGURE_BOUNDS"))) tNil))) tNext)
    (tSeq (tIfS (tTest (tOp rEq (tVar 0) (tC (.int 119)))) (tRet (tCB (xList K) (tCons (tC (.ref (He.ga K "WORD_BOUNDS"))) tNil))) tNext)
    (tSeq (tIfS (tTest (tOp rEq (tVar 0) (tC (.int 115)))) (tRet (tCB (xList K) (tCons (tC (.ref (He.ga K "BLANK_BOUNDS"))) tNil))) tNext)
    (tSeq (tIfS (tTest (tOp rEq (tVar 0) (tC (.int 68)))) (tRet (tCall (sp_all_but K) [] E0 (tCons (tC (.ref (He.ga K "FIGURE_BOUNDS"))) tNil))) tNext)
    (tSeq (tIfS (tTest (tOp rEq (tVar 0) (tC (.int 87)))) (tRet (tCall (sp_all_but K) [] E0 (tCons (tC (.ref (He.ga K "WORD_BOUNDS"))) tNil))) tNext)
    (tSeq (tIfS (tTest (tOp rEq (tVar 0) (tC (.int 83)))) (tRet (tCall (sp_all_but K) [] E0 (tCons (tC (.ref (He.ga K "BLANK_BOUNDS"))) tNil))) tNext)
    (tRet (tC .non))))))))
abbrev N_class_bounds : List Str := ["byte"]
/-- is_figure -/
def t_is_figure (K : Ky) (E : XK) : TS :=
  (tRet (tChain xLe xLe (tC (.int 48)) (tVar 0) (tOp xAdd (tC (.int 48)) (tC (.int 9)))))
abbrev N_is_figure : List Str := ["byte"]
/-- is_small -/
def t_is_small (K : Ky) (E : XK) : TS :=
  (tRet (tChain xLe xLe (tC (.int 97)) (tVar 0) (tC (.int 122))))
abbrev N_is_small : List Str := ["byte"]
/-- is_in_name -/
def t_is_in_name (K : Ky) (E : XK) : TS :=
  (tRet (tOrV (tCall (sp_is_small K) [] E0 (tCons (tVar 0) tNil)) (tOrV (tCall (sp_is_figure K) [] E0 (tCons (tVar 0) tNil)) (tOp rEq (tVar 0) (tC (.int 95))))))
abbrev N_is_in_name : List Str := ["byte"]
end Mi
/-! U1: what the readings of scalars.py and nodes.py answer. -/
namespace Mi
open PySem PySem.Spec PyProof.Rows L2
abbrev fin (Q : VK) : Ends := { nx := fun _ H' => Q .non H', rt := Q }
theorem pure_Fault___init__ {K : Ky} (kf : KFault K) (vs : List V) (H : Hp) (Q : VK) (E : XK) (h : sp_Fault___init__ K vs H Q E) : t_Fault___init__ K E (fin Q) (L2.start N_Fault___init__ vs) H := by
  obtain ⟨a, k, p, rfl, ha, q⟩ := h
  refine ⟨_, rfl, _, rfl, a, _, rfl, kf.oex, kf.n_kind, .inl ⟨ha, fun d hd hda => ?_⟩⟩
  refine ⟨_, rfl, _, rfl, a, _, rfl, kf.oex, kf.n_place, .inr ⟨d, _, upd_same, (by rw [upd_ne hda, upd_same]), (by show 1 ≤ 900; decide), ?_⟩⟩
  exact q _ d hd hda (by rw [upd_ne (Ne.symm hda), upd_same]) upd_same
theorem pure_size_by {K : Ky} (vs : List V) (H : Hp) (Q : VK) (E : XK) (h : sp_size_by K vs H Q E) : t_size_by K E (fin Q) (L2.start N_size_by vs) H := by
  obtain ⟨l, rfl, q⟩ := h
  unfold sizeBy at q
  refine (s_ifn (t_test (v_i0 (val_var rfl) val_c)) (fun h1 => s_ret val_c ?_) fun h1 => ?_)
  · rw [if_pos (by omega)] at q; exact q
  rw [if_neg (by omega)] at q
  refine (s_ifn (t_test (v_chain val_c (val_var rfl) val_c)) (fun h1 => s_ret val_c ?_) fun h1 => ?_)
  · rw [if_pos (by omega)] at q; exact q
  rw [if_neg (by omega)] at q
  refine (s_ifn (t_test (v_chain val_c (val_var rfl) val_c)) (fun h1 => s_ret val_c ?_) fun h1 => ?_)
  · rw [if_pos (by omega)] at q; exact q
  rw [if_neg (by omega)] at q
  refine (s_ifn (t_test (v_chain val_c (val_var rfl) val_c)) (fun h1 => s_ret val_c ?_) fun h1 => ?_)
  · rw [if_pos (by omega)] at q; exact q
  rw [if_neg (by omega)] at q
  exact s_ret (te := tC (.int 0)) val_c q
theorem pure_second_bounds {K : Ky} (vs : List V) (H : Hp) (Q : VK) (E : XK) (h : sp_second_bounds K vs H Q E) : t_second_bounds K E (fin Q) (L2.start N_second_bounds vs) H := by
  obtain ⟨l, rfl, q⟩ := h
  unfold secondBounds at q
  have two : ∀ {x y : Nat} {D : Ends} {σ}, D.rt = Q → TupQ H [nV x, nV y] Q → tRet (tTup (tCons (tC (.int x)) (tCons (tC (.int y)) tNil))) D σ H := fun {x y D σ} e q => by
    show tTup _ σ H D.rt
    rw [e]
    exact s_tup (a_cons val_c (a_cons val_c a_nil)) (by show 2 ≤ 1000; decide) q
  refine (s_ifn (t_test (v_eqI (val_var rfl) val_c)) (fun h1 => two rfl ?_) fun h1 => ?_)
  · rw [if_pos (by omega)] at q; exact q
  rw [if_neg (by omega)] at q
  refine (s_ifn (t_test (v_eqI (val_var rfl) val_c)) (fun h1 => two rfl ?_) fun h1 => ?_)
  · rw [if_pos (by omega)] at q; exact q
  rw [if_neg (by omega)] at q
  refine (s_ifn (t_test (v_eqI (val_var rfl) val_c)) (fun h1 => two rfl ?_) fun h1 => ?_)
  · rw [if_pos (by omega)] at q; exact q
  rw [if_neg (by omega)] at q
  refine (s_ifn (t_test (v_eqI (val_var rfl) val_c)) (fun h1 => two rfl ?_) fun h1 => ?_)
  · rw [if_pos (by omega)] at q; exact q
  rw [if_neg (by omega)] at q
  exact two rfl q
theorem pure_bounds_at {K : Ky} (vs : List V) (H : Hp) (Q : VK) (E : XK) (h : sp_bounds_at K vs H Q E) : t_bounds_at K E (fin Q) (L2.start N_bounds_at vs) H := by
  obtain ⟨l, k, rfl, q⟩ := h
  unfold boundsAt at q
  refine (s_ifn (t_test (v_eqI (val_var rfl) val_c)) (fun h1 => ?_) fun h1 => ?_)
  · rw [if_pos (by omega)] at q
    exact s_call (a_cons (val_var rfl) a_nil) ⟨l, rfl, q⟩
  · rw [if_neg (by omega)] at q
    exact c_ret (s_tup (a_cons val_c (a_cons val_c a_nil)) (by show 2 ≤ 1000; decide) q)
/-- a fault raised -/
theorem s_fault {K : Ky} {E : XK} {D : Ends} {σ : L2.St} {H : Hp} {t : TA} {e : Fl} (h : AVal t σ H [nV e.1, nV e.2]) (hf : Flt K E e) : tRaiseO (He.ga K "Fault") (sp_Fault___init__ K) E t D σ H := by
  refine h _ ⟨by show 2 ≤ 1000; decide, fun a ha => ⟨a, e.1, e.2, rfl, upd_same, fun H' d hd hda h1 h2 => ⟨rfl, d, _, h1, h2, ?_, hf d _ upd_same⟩⟩⟩
  rw [upd_ne hda] at hd
  exact hd
theorem at_n {l : List Nat} {i c : Nat} (h : l[i]? = some c) : atI (nsV l) (i : Int) = some (nV c) := atI_nat (by unfold nsV; rw [List.getElem?_map, h]; rfl)
theorem pure_value_at {K : Ky} (vs : List V) (H : Hp) (Q : VK) (E : XK) (h : sp_value_at K vs H Q E) : t_value_at K E (fin Q) (L2.start N_value_at vs) H := by
  obtain ⟨a, B, p, rfl, o, hB, hp, q, qe⟩ := h
  obtain ⟨c, hc⟩ := some_of_lt hp
  have h256 := o.lt hc
  unfold valueAt at q qe
  rw [getD_of hc] at q qe
  dsimp only at q qe
  refine s_seq (s_asg (v_ix (val_var rfl) (val_var rfl) hB (at_n hc)) ?_)
  refine s_seq (s_call (a_cons (val_var rfl) a_nil) ⟨c, rfl, ?_⟩)
  refine (s_ifn (t_test (v_eqI (val_var rfl) val_c)) (fun h1 => ?_) fun h1 => ?_)
  · exact s_fault (e := (2, p)) (a_cons val_c (a_cons (val_var rfl) a_nil)) (qe _ (by rw [if_pos (by omega)]))
  have h0 : sizeBy c ≠ 0 := by omega
  have h5 : sizeBy c < 5 := by
    have : ∀ c : Nat, c < 256 → sizeBy c < 5 := by decide +kernel
    exact this c h256
  rw [if_neg h0] at q qe
  -- found = lead - [0, 0, 192, 224, 240][size]
  have hsub : ([0, 0, 192, 224, 240] : List Nat)[sizeBy c]? = some (sub0 (sizeBy c)) := by
    have : ∀ s : Nat, s < 5 → ([0, 0, 192, 224, 240] : List Nat)[s]? = some (sub0 s) := by decide
    exact this _ h5
  have hle : sub0 (sizeBy c) ≤ c := by
    have : ∀ c : Nat, c < 256 → sub0 (sizeBy c) ≤ c := by decide +kernel
    exact this c h256
  refine s_seq (c_asg (c_op ?_))
  refine val_var (v := nV c) rfl _ (c_op ?_)
  refine s_lst (a_cons val_c (a_cons val_c (a_cons val_c (a_cons val_c (a_cons val_c a_nil))))) (by show 5 ≤ 1000; decide) fun l hl => ?_
  refine val_var (v := nV (sizeBy c)) rfl _ ?_
  refine ⟨l, nsV [0, 0, 192, 224, 240], _, _, rfl, rfl, SqL.of upd_same, at_n hsub, _, _, rfl, rfl, ?_⟩
  have ef : (c : Int) - (sub0 (sizeBy c) : Nat) = ((c - sub0 (sizeBy c) : Nat) : Int) := by omega
  -- the loop
  generalize hG : vGo B p c (sizeBy c - 1) 1 (c - sub0 (sizeBy c)) = G at q qe
  refine s_seq (c_forR2 (lo := 1) (hi := (sizeBy c : Int)) (a_cons val_c (a_cons (val_var rfl) a_nil)) (by omega) (fun i σ H' => ∃ (f : Nat) (v5 v6 v7 : Option V), σ = [some (.ref a), some (nV p), some (nV c), some (nV (sizeBy c)), some (nV f), v5, v6, v7] ∧ Same H H' ∧ p + 1 + i ≤ B.length ∧
    vGo B p c (sizeBy c - 1 - i) (1 + i) f = G) ?_ ?_ ?_)
  · refine ⟨c - sub0 (sizeBy c), none, none, none, ?_, Same.new hl, by omega, hG⟩
    show [some (V.ref a), some (nV p), some (nV c), some (nV (sizeBy c)), some (.int ((c : Int) - (sub0 (sizeBy c) : Nat))), none, none, none] = _
    rw [ef]; rfl
  · rintro i σ H' hi ⟨f, v5, v6, v7, rfl, hs, hl2, hg⟩
    have hj : sizeBy c - 1 - i = (sizeBy c - 1 - (i + 1)) + 1 := by omega
    rw [hj] at hg
    unfold vGo at hg
    have hB' := Same.seq hs hB
    have e1 : (p : Int) + (1 + (i : Int)) = ((p + (1 + i) : Nat) : Int) := by omega
    have hlen : (nsV B).length = B.length := List.length_map _
    have vat : ∀ {σ : L2.St}, σ[1]? = some (some (nV p)) → σ[5]? = some (some (.int (1 + (i : Int)))) → Val (tOp xAdd (tVar 1) (tVar 5)) σ H' (nV (p + (1 + i))) := fun {σ} h1 h2 => by
      have := v_i0 (g := fun i j => .int (i + j)) (val_var (H := H') h1) (val_var (H := H') h2)
      have e : (V.int ((p : Int) + (1 + (i : Int)))) = nV (p + (1 + i)) := by unfold nV; rw [e1]
      rw [← e]
      exact this
    refine (s_ifn (t_test (v_eqI (vat rfl rfl) (v_len (val_var rfl) hB'))) (fun h1 => ?_) fun h1 => ?_)
    · rw [hlen] at h1
      have hn : B[p + (1 + i)]? = none := List.getElem?_eq_none_iff.mpr (by omega)
      rw [hn] at hg
      dsimp only at hg
      exact s_fault (e := (1, p + (1 + i))) (a_cons val_c (a_cons (vat rfl rfl) a_nil)) (qe _ (by rw [← hg]; rfl))
    · rw [hlen] at h1
      obtain ⟨x, hx⟩ := some_of_lt (B := B) (p := p + (1 + i)) (by omega)
      have hx256 := o.lt hx
      rw [hx] at hg
      dsimp only at hg
      -- low, high = bounds_at(lead, k)
      refine s_seq (s_call (a_cons (val_var rfl) (a_cons (val_var rfl) a_nil)) ⟨c, 1 + i, ?_, fun tp htp => ?_⟩)
      · show [nV c, V.int (1 + (i : Int))] = [nV c, nV (1 + i)]
        unfold nV
        have : (1 : Int) + (i : Int) = ((1 + i : Nat) : Int) := by omega
        rw [this]
      have hs2 : Same H' (upd H' tp (.tup [nV (boundsAt c (1 + i)).1, nV (boundsAt c (1 + i)).2])) := Same.new htp
      refine ⟨tp, _, rfl, SqT.of upd_same, rfl, _, _, rfl, _, _, rfl, rfl, ?_⟩
      have hB2 := Same.seq hs2 hB'
      have vat2 : ∀ {σ : L2.St}, σ[1]? = some (some (nV p)) → σ[5]? = some (some (.int (1 + (i : Int)))) → Val (tOp xAdd (tVar 1) (tVar 5)) σ (upd H' tp (.tup [nV (boundsAt c (1 + i)).1, nV (boundsAt c (1 + i)).2])) (nV (p + (1 + i))) := fun {σ} h1 h2 => by
        have := v_i0 (g := fun i j => .int (i + j)) (val_var (H := upd H' tp (.tup [nV (boundsAt c (1 + i)).1, nV (boundsAt c (1 + i)).2])) h1) (val_var h2)
        have e : (V.int ((p : Int) + (1 + (i : Int)))) = nV (p + (1 + i)) := by unfold nV; rw [e1]
        rw [← e]
        exact this
      refine (s_ifnb (t_not (t_test (v_chain (val_var rfl) (v_ix (val_var rfl) (vat2 rfl rfl) hB2 (at_n hx)) (val_var rfl)))) (fun h2 => ?_) fun h2 => ?_)
      · have hno : ¬ ((boundsAt c (1 + i)).1 ≤ x ∧ x ≤ (boundsAt c (1 + i)).2) := fun z => by
          rw [decide_eq_true (by omega)] at h2
          cases h2
        rw [if_neg hno] at hg
        exact s_fault (e := (2, p + (1 + i))) (a_cons val_c (a_cons (vat2 rfl rfl) a_nil)) (qe _ (by rw [← hg]; rfl))
      · have hyes : (boundsAt c (1 + i)).1 ≤ x ∧ x ≤ (boundsAt c (1 + i)).2 := by
          by_cases z : ((boundsAt c (1 + i)).1 : Int) ≤ (x : Int) ∧ (x : Int) ≤ ((boundsAt c (1 + i)).2 : Nat)
          · omega
          · rw [decide_eq_false z] at h2
            cases h2
        rw [if_pos hyes] at hg
        have bg := bounds_ge c (1 + i)
        refine s_asg (v_i0 (v_i0 (v_mul val_c (val_var rfl) (.inl ⟨by decide, by decide⟩)) (v_ix (val_var rfl) (vat2 rfl rfl) hB2 (at_n hx))) val_c) ?_
        refine ⟨64 * f + x - 128, some (.int (1 + (i : Int))), some (nV (boundsAt c (1 + i)).1), some (nV (boundsAt c (1 + i)).2), ?_, hs.trans hs2, by omega, ?_⟩
        · have e2 : (64 : Int) * (f : Int) + (x : Int) - 128 = ((64 * f + x - 128 : Nat) : Int) := by omega
          show [some (V.ref a), some (nV p), some (nV c), some (nV (sizeBy c)), some (.int ((64 : Int) * (f : Int) + (x : Int) - 128)), some (.int (1 + (i : Int))), some (nV (boundsAt c (1 + i)).1), some (nV (boundsAt c (1 + i)).2)] = _
          rw [e2]; rfl
        · rw [← hg]
          have : 1 + (i + 1) = 1 + i + 1 := by omega
          rw [this]
  · rintro σ H' ⟨f, v5, v6, v7, rfl, hs, hl2, hg⟩
    have e0 : sizeBy c - 1 - ((sizeBy c : Int) - 1).toNat = 0 := by omega
    rw [e0] at hg
    unfold vGo at hg
    refine s_tup (a_cons (val_var rfl) (a_cons (val_var rfl) a_nil)) (by show 2 ≤ 1000; decide) fun t ht => ?_
    exact q f (sizeBy c) _ t (by rw [← hg]; rfl) (hs.trans (Same.new ht)) (hs.free ht) upd_same
theorem pure_Node___init__ {K : Ky} (kn : KNode K) (vs : List V) (H : Hp) (Q : VK) (E : XK) (h : sp_Node___init__ K vs H Q E) : t_Node___init__ K E (fin Q) (L2.start N_Node___init__ vs) H := by
  obtain ⟨a, dx, k, o, t, d, rfl, ha, q⟩ := h
  refine s_seq (s_fld (fs' := [("kind", k)]) (val_var rfl) (val_var rfl) ha kn.cl kn.n_kind (by show 0 < 1000; decide) rfl ?_)
  refine s_seq (s_fld (fs' := [("kind", k), ("one", o)]) (val_var rfl) (val_var rfl) upd_same kn.cl kn.n_one (by show 1 < 1000; decide) rfl ?_)
  refine s_seq (s_fld (fs' := [("kind", k), ("one", o), ("other", t)]) (val_var rfl) (val_var rfl) upd_same kn.cl kn.n_other (by show 2 < 1000; decide) rfl ?_)
  refine s_fld (fs' := ndF k o t d) (val_var rfl) (val_var rfl) upd_same kn.cl kn.n_told (by show 3 < 1000; decide) rfl ?_
  rw [upd_upd, upd_upd, upd_upd]
  exact q
end Mi
/-! U2: the builder's readings. -/
namespace Mi
open PySem PySem.Spec PyProof.Rows L2
theorem Paired.mono {α β : Type} {F G : α → β → Prop} {l : List α} {m : List β} (h : Paired F l m) (f : ∀ a b, F a b → G a b) : Paired G l m := by
  induction h with
  | nil => exact .nil
  | cons r _ ih => exact .cons (f _ _ r) ih
theorem Paired.snoc {α β : Type} {F : α → β → Prop} {l : List α} {m : List β} {a : α} {b : β} (h : Paired F l m) (r : F a b) : Paired F (l ++ [a]) (m ++ [b]) := by
  induction h with
  | nil => exact .cons r .nil
  | cons q _ ih => exact .cons q ih
theorem Paired.len {α β : Type} {F : α → β → Prop} {l : List α} {m : List β} (h : Paired F l m) : l.length = m.length := Paired.length h
theorem PrAt.mono {K : Ky} {R R' : Hp} (e : Same R R') {a : Addr} {r : Nat × Nat} (h : PrAt K R a r) : PrAt K R' a r := Same.seqT e h
theorem BnAt.mono {K : Ky} {R R' : Hp} (e : Same R R') {l : Addr} {bs : Bnds} (h : BnAt K R l bs) : BnAt K R' l bs := by
  obtain ⟨as, h1, h2⟩ := h
  exact ⟨as, e _ _ h1, h2.mono fun _ _ => PrAt.mono e⟩
theorem ToldAt.mono {K : Ky} {R R' : Hp} (e : Same R R') {nd : Nd} {d : V} (h : ToldAt K R nd d) : ToldAt K R' nd d := by
  cases nd with
  | test bs t => obtain ⟨tp, bl, h1, h2, h3⟩ := h; exact ⟨tp, bl, h1, e _ _ h2, h3.mono e⟩
  | _ => exact h
theorem NdAt.mono {K : Ky} {R R' : Hp} (e : Same R R') {a : Addr} {nd : Nd} (h : NdAt K R a nd) : NdAt K R' a nd := by
  obtain ⟨dx, d, h1, h2⟩ := h
  exact ⟨dx, d, e _ _ h1, h2.mono e⟩
section
variable {K : Ky} {R H : Hp} {bd n w : Addr} {nds : List Addr} {b : Bd}
/-- new things beside, and what is read grown -/
theorem BdAt.grow {R' H' : Hp} (B : BdAt K R H bd n w nds b) (g : Grow R R' H) (s : Same H H') (s' : Same R' H') : BdAt K R' H' bd n w nds b := by
  obtain ⟨dx, ho⟩ := B.obj
  exact ⟨s', ⟨dx, s _ _ ho⟩, s _ _ B.nodes, s _ _ B.weights, B.at_.mono fun _ _ => NdAt.mono g.same, B.wf, B.ne, g.new _ _ B.nodes B.fn, g.new _ _ B.weights B.fw, g.new _ _ ho B.fb, B.small⟩
theorem Grow.trans {R R1 R2 H H1 : Hp} (a : Grow R R1 H) (b : Grow R1 R2 H1) (h : ∀ x o, H x = some o → ∃ o', H1 x = some o') : Grow R R2 H :=
  ⟨Same.trans a.same b.same, fun x o e n => by
    obtain ⟨o', e'⟩ := h x o e
    exact b.new x o' e' (a.new x o e n)⟩
theorem Same.there {H H' : Hp} (s : Same H H') : ∀ x o, H x = some o → ∃ o', H' x = some o' := fun x o e => ⟨o, s x o e⟩
theorem BdAt.wt {x : Nat} (B : BdAt K R H bd n w nds b) (hx : x < b.nodes.length) : b.weights[x]? = some (b.w x) := by
  have hl : x < b.weights.length := by rw [← B.wf]; exact hx
  unfold Bd.w
  rw [List.getD_eq_getElem?_getD, List.getElem?_eq_getElem hl]
  rfl
end
theorem big : (100000 : Nat) < sizeLine := by decide
theorem pure_Builder___init__ {K : Ky} (kb : KBuilder K) (vs : List V) (H : Hp) (Q : VK) (E : XK) (h : sp_Builder___init__ K vs H Q E) : t_Builder___init__ K E (fin Q) (L2.start N_Builder___init__ vs) H := by
  obtain ⟨a, dx, rfl, ha, q⟩ := h
  refine s_seq (c_sfld ?_)
  refine s_lst a_nil (by decide) fun n hn => ?_
  have na : a ≠ n := ne_of_none ha hn
  refine val_var (v := V.ref a) rfl _ ⟨a, _, dx, _, rfl, (by rw [upd_ne na]; exact ha), kb.cl, kb.n_nodes, (by show 0 < 1000; decide), ?_⟩
  dsimp only
  refine c_sfld ?_
  refine s_lst a_nil (by decide) fun w hw => ?_
  have wa : w ≠ a := fun z => by rw [z, upd_same] at hw; cases hw
  rw [upd_ne wa] at hw
  have wn : w ≠ n := fun z => by rw [z, upd_same] at hw; cases hw
  rw [upd_ne wn] at hw
  refine val_var (v := V.ref a) rfl _ ⟨a, _, dx, _, rfl, (by rw [upd_ne (Ne.symm wa), upd_same]), kb.cl, kb.n_weights, (by show 1 < 1000; decide), ?_⟩
  refine q _ n w hn hw (Ne.symm wn) upd_same ?_ ?_ ?_
  · rw [upd_ne (Ne.symm na), upd_ne (Ne.symm wn), upd_ne (Ne.symm na), upd_same]
  · rw [upd_ne wa, upd_same]
  · intro c o hc hn'
    have hca : c ≠ a := fun z => hn' (by rw [z]; exact List.mem_singleton.mpr rfl)
    rw [upd_ne hca, upd_ne (ne_of_none hc hw), upd_ne hca, upd_ne (ne_of_none hc hn)]
    exact hc
theorem pure_Builder_added {K : Ky} (kb : KBuilder K) (vs : List V) (H : Hp) (Q : VK) (E : XK) (h : sp_Builder_added K vs H Q E) : t_Builder_added K E (fin Q) (L2.start N_Builder_added vs) H := by
  obtain ⟨R, bd, n, w, a, nds, b, nd, wt, rfl, B, hnd, hsm, q⟩ := h
  obtain ⟨dx, ho⟩ := B.obj
  have nb : bd ≠ n := ne_of ho B.nodes (by intro z; cases z)
  have wb : bd ≠ w := ne_of ho B.weights (by intro z; cases z)
  have hlen := Paired.len B.at_
  refine s_seq (c_drop (s_app (val_fld (val_var rfl) ho kb.cl kb.n_nodes rfl) (val_var rfl) B.nodes (by rw [List.length_map, hlen]; exact Nat.lt_trans hsm big) ?_))
  refine s_seq (c_drop (s_app (val_fld (val_var rfl) (by rw [upd_ne nb]; exact ho) kb.cl kb.n_weights rfl) (val_var rfl) (by rw [upd_ne (Ne.symm B.ne)]; exact B.weights) (by unfold nsV; rw [List.length_map, ← B.wf]; exact Nat.lt_trans hsm big) ?_))
  have hN : upd (upd H n (.lst (nds.map V.ref ++ [V.ref a]))) w (.lst (nsV b.weights ++ [nV wt])) n = some (.lst (nds.map V.ref ++ [V.ref a])) := by rw [upd_ne B.ne, upd_same]
  have hO : upd (upd H n (.lst (nds.map V.ref ++ [V.ref a]))) w (.lst (nsV b.weights ++ [nV wt])) bd = some (.ins (He.ga K "Builder") dx (bdF n w)) := by rw [upd_ne wb, upd_ne nb]; exact ho
  refine c_ret (v_i0 (v_len (val_fld (val_var rfl) hO kb.cl kb.n_nodes rfl) (SqL.of hN)) val_c _ ?_)
  have el : (((nds.map V.ref ++ [V.ref a]).length : Nat) : Int) - 1 = ((b.nodes.length : Nat) : Int) := by
    rw [List.length_append, List.length_map, hlen, List.length_singleton]; omega
  show Q (.int ((((nds.map V.ref ++ [V.ref a]).length : Nat) : Int) - 1)) _
  rw [el]
  refine q R _ (nds ++ [a]) ⟨fun c o hc => ?_, ⟨dx, hO⟩, ?_, ?_, B.at_.snoc hnd, ?_, B.ne, B.fn, B.fw, B.fb, ?_⟩ (Grow.refl _ _) ?_
  · have h1 : c ≠ n := fun z => by rw [z, B.fn] at hc; cases hc
    have h2 : c ≠ w := fun z => by rw [z, B.fw] at hc; cases hc
    rw [upd_ne h2, upd_ne h1]
    exact B.sub c o hc
  · rw [hN, List.map_append]; rfl
  · rw [upd_same]
    show some (HO.lst (nsV b.weights ++ [nV wt])) = some (.lst (nsV (b.weights ++ [wt])))
    unfold nsV
    rw [List.map_append]; rfl
  · show (b.nodes ++ [nd]).length = (b.weights ++ [wt]).length
    rw [List.length_append, List.length_append, B.wf]; rfl
  · show (b.nodes ++ [nd]).length ≤ 100000
    rw [List.length_append, List.length_singleton]; omega
  · intro c o hc hn
    have h1 : c ≠ n := fun z => hn (by simp [z])
    have h2 : c ≠ w := fun z => hn (by simp [z])
    rw [upd_ne h2, upd_ne h1]
    exact hc
/-- Node(..) made, then handed to added -/
theorem node_k {K : Ky} {R H : Hp} {bd n w : Addr} {nds : List Addr} {b : Bd} (B : BdAt K R H bd n w nds b) (nd : Nd) (wt : Nat) (d : V) (hd : ToldAt K R nd d) (hsm : b.nodes.length < 100000) {Q : VK} (q : BdQ K R H bd n w (b.added nd wt).1 (nV (b.added nd wt).2) Q)
    {σ : L2.St} {tw : TE} (h5 : ∀ H', Same H H' → Val tw σ H' (nV wt)) : ∀ x xd, H x = none → H xd = none → xd ≠ x →
    sp_Node___init__ K (.ref x :: ([.str (kindOf nd), oneOf_ nd, otherOf nd, d] ++ [])) (upd (upd H xd (.own x)) x (.ins (He.ga K "Node") xd [])) (fun v H2 => v = .non ∧ tCons tw tNil σ H2 fun xs H3 => sp_Builder_added K (.ref bd :: ((.ref x :: xs) ++ [])) H3 Q E0) E0 := by
  intro x xd hx hxd hne
  refine ⟨x, xd, _, _, _, _, rfl, upd_same, rfl, ?_⟩
  rw [upd_upd]
  have s2 : Same H (upd (upd H xd (.own x)) x (.ins (He.ga K "Node") xd (ndF (.str (kindOf nd)) (oneOf_ nd) (otherOf nd) d))) := fun c o hc => by
    rw [upd_ne (ne_of_none hc hx), upd_ne (ne_of_none hc hxd)]; exact hc
  refine (a_cons (h5 _ s2) a_nil) _ ?_
  let R1 := upd R x (.ins (He.ga K "Node") xd (ndF (.str (kindOf nd)) (oneOf_ nd) (otherOf nd) d))
  have sR : Same R R1 := Same.new (Same.free B.sub hx)
  have g1 : Grow R R1 H := Grow.upd B.sub hx
  have s3 : Same R1 (upd (upd H xd (.own x)) x (.ins (He.ga K "Node") xd (ndF (.str (kindOf nd)) (oneOf_ nd) (otherOf nd) d))) := fun c o hc => by
    by_cases hcx : c = x
    · subst hcx
      have hc' : upd R c (.ins (He.ga K "Node") xd (ndF (.str (kindOf nd)) (oneOf_ nd) (otherOf nd) d)) c = some o := hc
      rw [upd_same] at hc' ⊢
      exact hc'
    · rw [show R1 c = R c from upd_ne hcx] at hc
      exact s2 c o (B.sub c o hc)
  refine ⟨R1, bd, n, w, x, nds, b, nd, wt, rfl, B.grow g1 s2 s3, ⟨xd, d, upd_same, hd.mono sR⟩, hsm, fun R' H' nds' B' g' u => q R' H' nds' B' (g1.trans g' (Same.there s2)) fun c o hc hn => u c o (s2 c o hc) hn⟩
/-- Node(..), then added -/
theorem s_node {K : Ky} {R H : Hp} {bd n w : Addr} {nds : List Addr} {b : Bd} (B : BdAt K R H bd n w nds b) (nd : Nd) (wt : Nat) (d : V) (hd : ToldAt K R nd d) (hsm : b.nodes.length < 100000) {Q : VK} (q : BdQ K R H bd n w (b.added nd wt).1 (nV (b.added nd wt).2) Q)
    {σ : L2.St} {tk to tt td tw tb : TE} (h0 : Val tb σ H (.ref bd)) (h1 : Val tk σ H (.str (kindOf nd))) (h2 : Val to σ H (oneOf_ nd)) (h3 : Val tt σ H (otherOf nd)) (h4 : Val td σ H d) (h5 : ∀ H', Same H H' → Val tw σ H' (nV wt)) :
    tMeth (He.ga K "Builder") "added" (sp_Builder_added K) [] E0 tb (tCons (tMake (He.ga K "Node") (sp_Node___init__ K) [] E0 (tCons tk (tCons to (tCons tt (tCons td tNil))))) (tCons tw tNil)) σ H Q := by
  obtain ⟨dx, ho⟩ := B.obj
  refine h0 _ ⟨bd, dx, _, rfl, ho, rfl, ?_⟩
  refine c_cons ?_
  exact (a_cons h1 (a_cons h2 (a_cons h3 (a_cons h4 a_nil)))) _ (node_k B nd wt d hd hsm q h5)
theorem pure_Builder_sign {K : Ky} (vs : List V) (H : Hp) (Q : VK) (E : XK) (h : sp_Builder_sign K vs H Q E) : t_Builder_sign K E (fin Q) (L2.start N_Builder_sign vs) H := by
  obtain ⟨R, bd, n, w, nds, b, nd, rfl, hnd, B, hsm, q⟩ := h
  refine c_ret (s_node B nd 1 .non ?_ hsm q (val_var rfl) (val_var rfl) ?_ ?_ val_c fun _ _ => val_c)
  · rcases hnd with rfl | rfl | rfl <;> rfl
  · rcases hnd with rfl | rfl | rfl <;> exact val_c
  · rcases hnd with rfl | rfl | rfl <;> exact val_c
theorem pure_Builder_empty {K : Ky} (vs : List V) (H : Hp) (Q : VK) (E : XK) (h : sp_Builder_empty K vs H Q E) : t_Builder_empty K E (fin Q) (L2.start N_Builder_empty vs) H := by
  obtain ⟨R, bd, n, w, nds, b, rfl, B, hsm, q⟩ := h
  exact c_ret (s_node B .empty 0 .non rfl hsm q (val_var rfl) val_c val_c val_c val_c fun _ _ => val_c)
theorem pure_Builder_named {K : Ky} (kb : KBuilder K) (vs : List V) (H : Hp) (Q : VK) (E : XK) (h : sp_Builder_named K vs H Q E) : t_Builder_named K E (fin Q) (L2.start N_Builder_named vs) H := by
  obtain ⟨R, bd, n, w, nds, b, x, k, rfl, B, hx, hsm, q⟩ := h
  obtain ⟨dx, ho⟩ := B.obj
  exact c_ret (s_node B (.named x k) (b.w x) (nV k) rfl hsm q (val_var rfl) val_c (val_var rfl) val_c (val_var rfl) fun H' s =>
    v_ix (val_fld (val_var rfl) (s _ _ ho) kb.cl kb.n_weights rfl) (val_var rfl) (SqL.of (s _ _ B.weights)) (at_n (B.wt hx)))
end Mi
/-! U3: the builder's loops; small defs of reading. -/
namespace Mi
open PySem PySem.Spec PyProof.Rows L2
theorem pure_Builder_test {K : Ky} (vs : List V) (H : Hp) (Q : VK) (E : XK) (h : sp_Builder_test K vs H Q E) : t_Builder_test K E (fin Q) (L2.start N_Builder_test vs) H := by
  obtain ⟨R, bd, n, w, l, nds, b, bs, t, rfl, B, hb, hsm, q⟩ := h
  obtain ⟨dx, ho⟩ := B.obj
  refine c_ret ?_
  refine val_var (v := V.ref bd) rfl _ ⟨bd, dx, _, rfl, ho, rfl, ?_⟩
  refine c_cons ?_
  refine c_make (c_cons ?_)
  refine val_c _ (c_cons ?_)
  refine val_c _ (c_cons ?_)
  refine val_c _ (c_cons ?_)
  refine s_tup (a_cons (val_var rfl) (a_cons (val_var rfl) a_nil)) (by show 2 ≤ 1000; decide) fun tp htp => ?_
  have s1 : Same H (upd H tp (.tup [.ref l, .bl t])) := Same.new htp
  have g1 : Grow R (upd R tp (.tup [.ref l, .bl t])) H := Grow.upd B.sub htp
  have s2 : Same (upd R tp (.tup [.ref l, .bl t])) (upd H tp (.tup [.ref l, .bl t])) := fun c o hc => by
    by_cases h : c = tp
    · subst h; rw [upd_same] at hc ⊢; exact hc
    · rw [upd_ne h] at hc ⊢; exact B.sub c o hc
  exact node_k (B.grow g1 s1 s2) (.test bs t) 1 (.ref tp) ⟨tp, l, rfl, upd_same, hb.mono g1.same⟩ hsm
    (fun R' H' nds' B' g' u => q R' H' nds' B' (g1.trans g' (Same.there s1)) fun c o hc hn => u c o (s1 c o hc) hn) (fun _ _ => val_c)
theorem But.there2 {n w : Addr} {H H' : Hp} (u : But [n, w] H H') (hn : ∃ o, H' n = some o) (hw : ∃ o, H' w = some o) : ∀ x o, H x = some o → ∃ o', H' x = some o' := fun x o e => by
  by_cases h1 : x = n
  · rw [h1]; exact hn
  · by_cases h2 : x = w
    · rw [h2]; exact hw
    · exact ⟨o, u x o e (by simp [h1, h2])⟩
theorem BdAt.there {K : Ky} {R H R' H' : Hp} {bd n w : Addr} {nds nds' : List Addr} {b b' : Bd} (B : BdAt K R H bd n w nds b) (B' : BdAt K R' H' bd n w nds' b') (u : But [n, w] H H') : ∀ x o, H x = some o → ∃ o', H' x = some o' :=
  u.there2 ⟨_, B'.nodes⟩ ⟨_, B'.weights⟩
/-- self.weights[x], x a number at hand -/
theorem v_weight {K : Ky} (kb : KBuilder K) {R H : Hp} {bd n w : Addr} {nds : List Addr} {b : Bd} (B : BdAt K R H bd n w nds b) {σ : L2.St} {ts tx : TE} {x : Nat} (h0 : Val ts σ H (.ref bd)) (h1 : Val tx σ H (nV x)) (hx : x < b.nodes.length) :
    Val (tOp (rIxL K) (tFld K ts "weights") tx) σ H (nV (b.w x)) := by
  obtain ⟨dx, ho⟩ := B.obj
  exact v_ix (val_fld h0 ho kb.cl kb.n_weights rfl) h1 (SqL.of B.weights) (at_n (B.wt hx))
theorem v_addN {σ : L2.St} {H : Hp} {ta tb : TE} {i j : Nat} (ha : Val ta σ H (nV i)) (hb : Val tb σ H (nV j)) : Val (tOp xAdd ta tb) σ H (nV (i + j)) := by
  have := v_i0 (g := fun i j => .int (i + j)) ha hb
  have e : V.int ((i : Int) + (j : Int)) = nV (i + j) := by unfold nV; rw [Int.natCast_add]
  rw [← e]
  exact this
theorem get_nsV {l : List Nat} {i : Nat} {x : V} (h : (nsV l)[i]? = some x) : ∃ c, l[i]? = some c ∧ x = nV c := by
  unfold nsV at h
  rw [List.getElem?_map] at h
  cases e : l[i]? with
  | none => rw [e] at h; cases h
  | some c => rw [e] at h; exact ⟨c, rfl, (Option.some.inj h).symm⟩
theorem drop_get {l : List Nat} {i c : Nat} (h : l[i]? = some c) : l.drop i = c :: l.drop (i + 1) := by
  obtain ⟨hl, e⟩ := List.getElem?_eq_some_iff.mp h
  rw [List.drop_eq_getElem_cons hl, e]
theorem pure_Builder_row {K : Ky} (kb : KBuilder K) (vs : List V) (H : Hp) (Q : VK) (E : XK) (h : sp_Builder_row K vs H Q E) : t_Builder_row K E (fin Q) (L2.start N_Builder_row vs) H := by
  obtain ⟨R, bd, n, w, l, nds, b, ps, rfl, B, hl, ln, lw, hps, hsm, q⟩ := h
  obtain ⟨dx, ho⟩ := B.obj
  refine q_asgC ((s_meth (val_var rfl) ho rfl a_nil ⟨R, bd, n, w, nds, b, rfl, B, by omega, fun R1 H1 nds1 B1 g1 u1 => ?_⟩))
  have hl1 := u1 _ _ hl (by simp [ln, lw])
  -- parts[::-1]
  refine s_seq (c_forL (c_revL ?_))
  refine val_var (v := V.ref l) rfl _ ⟨l, _, rfl, SqL.of hl1, fun p hp => ⟨p, rfl, ⟨_, SqL.of upd_same⟩, ?_⟩⟩
  have sp : Same H1 (upd H1 p (.lst (nsV ps).reverse)) := Same.new hp
  have rev : (nsV ps).reverse = nsV ps.reverse := by unfold nsV; rw [List.map_reverse]
  rw [rev] at sp ⊢
  have pn : p ≠ n := fun z => by rw [z, B1.nodes] at hp; cases hp
  have pw : p ≠ w := fun z => by rw [z, B1.weights] at hp; cases hp
  refine for_list (K := K) (a := p) (xs := nsV ps.reverse) (fun i σ H' => ∃ (R' : Hp) (nds' : List Addr) (s : Bd × Nat) (v3 v4 : Option V), σ = [some (.ref bd), some (.ref l), some (nV s.2), v3, v4] ∧ BdAt K R' H' bd n w nds' s.1 ∧
    Grow R R' H ∧ But [n, w] H H' ∧ H' p = some (.lst (nsV ps.reverse)) ∧ Bd.rowGo s (ps.reverse.drop i) = b.row ps ∧ s.2 < s.1.nodes.length ∧ b.nodes.length ≤ s.1.nodes.length ∧ s.1.nodes.length = b.nodes.length + 1 + i) ?_ ?_ ?_ ?_
  · refine ⟨R1, nds1, (b.added .empty 0), none, none, rfl, B1.grow (Grow.refl _ _) sp (B1.sub.trans sp), g1, fun c o hc hn => sp _ _ (u1 c o hc hn), upd_same, rfl, by simp [Bd.added], by simp [Bd.added], by simp [Bd.added]⟩
  · rintro i σ H' _ ⟨_, _, _, _, _, _, _, _, _, h5, _⟩
    exact SqL.of h5
  · rintro i x σ H' hi ⟨R', nds', s, v3, v4, rfl, B', g', u', hp', hr, hs2, hle, hlen⟩
    obtain ⟨c, hc, rfl⟩ := get_nsV hi
    have hcm : c ∈ ps := List.mem_reverse.mp (List.mem_of_getElem? hc)
    have hclt := hps c hcm
    have hil : i < ps.length := by
      have := (List.getElem?_eq_some_iff.mp hc).1
      rwa [List.length_reverse] at this
    rw [drop_get hc] at hr
    refine (q_asg (v_addN (v_weight kb B' (val_var rfl) (val_var rfl) (by omega)) (v_weight kb B' (val_var rfl) (val_var rfl) hs2)) ?_)
    refine c_asg (s_node B' (.pair c s.2) (s.1.w c + s.1.w s.2) .non rfl (by omega) (fun R2 H2 nds2 B2 g2 u2 => ?_) (val_var rfl) val_c (val_var rfl) (val_var rfl) val_c fun _ _ => val_var rfl)
    refine ⟨R2, nds2, s.1.added (.pair c s.2) (s.1.w c + s.1.w s.2), some (nV c), some (nV (s.1.w c + s.1.w s.2)), rfl, B2, g'.trans g2 (B.there B' u'), u'.trans u2, u2 _ _ hp' (by simp [pn, pw]), hr, by simp [Bd.added], ?_, ?_⟩
    · show b.nodes.length ≤ (s.1.nodes ++ [_]).length
      rw [List.length_append]; omega
    · show (s.1.nodes ++ [_]).length = _
      rw [List.length_append, hlen, List.length_singleton]; omega
  · rintro σ H' ⟨R', nds', s, v3, v4, rfl, B', g', u', hp', hr, hs2, hle, hlen⟩
    have e0 : ps.reverse.drop (nsV ps.reverse).length = [] := by
      unfold nsV
      rw [List.length_map]
      exact List.drop_eq_nil_of_le (Nat.le_refl _)
    rw [e0] at hr
    have hr' : s = b.row ps := hr
    subst hr'
    exact s_ret (val_var rfl) (q R' H' nds' B' g' u')
theorem pure_is_figure {K : Ky} (vs : List V) (H : Hp) (Q : VK) (E : XK) (h : sp_is_figure K vs H Q E) : t_is_figure K E (fin Q) (L2.start N_is_figure vs) H := by
  obtain ⟨c, rfl, q⟩ := h
  refine s_ret (v_chain val_c (val_var rfl) (v_i0 val_c val_c)) ?_
  have e : decide ((48 : Int) ≤ (c : Int) ∧ (c : Int) ≤ 48 + 9) = isFigure c := by
    unfold isFigure
    rw [← Bool.decide_and, decide_eq_decide]
    omega
  rw [e]
  exact q
theorem pure_is_small {K : Ky} (vs : List V) (H : Hp) (Q : VK) (E : XK) (h : sp_is_small K vs H Q E) : t_is_small K E (fin Q) (L2.start N_is_small vs) H := by
  obtain ⟨c, rfl, q⟩ := h
  refine s_ret (v_chain val_c (val_var rfl) val_c) ?_
  have e : decide ((97 : Int) ≤ (c : Int) ∧ (c : Int) ≤ 122) = isSmall c := by
    unfold isSmall
    rw [← Bool.decide_and, decide_eq_decide]
    omega
  rw [e]
  exact q
theorem v_call {σ : L2.St} {H : Hp} {tA : TA} {sp : Sp} {vs : List V} {v : V} (h : AVal tA σ H vs) (hs : ∀ Q : VK, Q v H → sp vs H Q E0) : Val (tCall sp [] E0 tA) σ H v := fun Q q => s_call h (hs Q q)
theorem pure_is_in_name {K : Ky} (vs : List V) (H : Hp) (Q : VK) (E : XK) (h : sp_is_in_name K vs H Q E) : t_is_in_name K E (fin Q) (L2.start N_is_in_name vs) H := by
  obtain ⟨c, rfl, q⟩ := h
  refine s_ret (v_or (v_call (a_cons (val_var rfl) a_nil) fun Q q => ⟨c, rfl, q⟩) fun _ => v_or (v_call (a_cons (val_var rfl) a_nil) fun Q q => ⟨c, rfl, q⟩) fun _ => v_eqI (val_var rfl) val_c) ?_
  have e : (isSmall c || (isFigure c || decide ((c : Int) = 95))) = isInName c := by
    unfold isInName
    have : decide ((c : Int) = 95) = decide (c = 95) := by rw [decide_eq_decide]; omega
    rw [this]
  rw [e]
  exact q
end Mi
/-! U4: one_of, endless, often, all_but, class_bounds. -/
namespace Mi
open PySem PySem.Spec PyProof.Rows L2
theorem cut_last (xs : List V) : cutV xs none (some (-1)) = xs.dropLast := by
  unfold cutV
  have e1 : HT.sIx xs.length 0 none = 0 := rfl
  have e2 : HT.sIx xs.length xs.length (some (-1)) = xs.length - 1 := by
    show ((-1 : Int) + (xs.length : Int)).toNat = _
    omega
  rw [e1, e2, List.drop_zero, Nat.sub_zero, List.dropLast_eq_take]
def OVal (t : TO) (σ : L2.St) (H : Hp) (o : Option Int) : Prop := ∀ Q : Option Int → Hp → Prop, Q o H → t σ H Q
theorem o_none {σ : L2.St} {H : Hp} : OVal tNoPart σ H none := fun _ q => q
theorem o_some {σ : L2.St} {H : Hp} {te : TE} {i : Int} (h : Val te σ H (.int i)) : OVal (tPart te) σ H (some i) := fun _ q => h _ ⟨i, rfl, q⟩
theorem s_slL {K : Ky} {σ : L2.St} {H : Hp} {Q : VK} {te : TE} {tl th : TO} {lo hi : Option Int} {p : Addr} {xs : List V} (hx : Val te σ H (.ref p)) (hl : OVal tl σ H lo) (hh : OVal th σ H hi) (h : SqL K H p xs)
    (q : ∀ q, H q = none → Q (.ref q) (upd H q (.lst (cutV xs lo hi)))) : tSl (rSlL K) te tl th σ H Q := hx _ (hl _ (hh _ ⟨p, xs, rfl, h, q⟩))
theorem c_sl {r : V → Option Int → Option Int → Hp → VK → Prop} {σ : L2.St} {H : Hp} {Q : VK} {te : TE} {tl th : TO} (h : te σ H fun x H1 => tl σ H1 fun l H2 => th σ H2 fun u H3 => r x l u H3 Q) : tSl r te tl th σ H Q := h
theorem pure_Builder_one_of {K : Ky} (kb : KBuilder K) (vs : List V) (H : Hp) (Q : VK) (E : XK) (h : sp_Builder_one_of K vs H Q E) : t_Builder_one_of K E (fin Q) (L2.start N_Builder_one_of vs) H := by
  obtain ⟨R, bd, n, w, l, nds, b, ps, rfl, B, hl, ln, lw, hne, hps, hsm, q⟩ := h
  obtain ⟨ds, z, rfl⟩ : ∃ ds z, ps = ds ++ [z] := ⟨ps.dropLast, ps.getLast hne, (List.dropLast_concat_getLast hne).symm⟩
  have hz : z < b.nodes.length := hps z (by simp)
  have eV : nsV (ds ++ [z]) = nsV ds ++ [nV z] := by unfold nsV; rw [List.map_append]; rfl
  have e1 : b.oneOf (ds ++ [z]) = Bd.eitherGo (b, z) ds.reverse := by
    unfold Bd.oneOf
    rw [List.getLast?_concat, List.dropLast_concat]
    rfl
  rw [e1] at q
  rw [eV] at hl
  refine q_asg (v_ix (val_var rfl) (v_neg val_c) (SqL.of hl) (atI_last _ _)) ?_
  refine s_seq (c_forL (c_revL (s_slL (val_var rfl) o_none (o_some (v_neg val_c)) (SqL.of hl) fun p hp => ⟨p, _, rfl, SqL.of upd_same, fun p2 hp2 => ⟨p2, rfl, ⟨_, SqL.of upd_same⟩, ?_⟩⟩)))
  rw [cut_last, List.dropLast_concat] at hp2 ⊢
  have rev : (nsV ds).reverse = nsV ds.reverse := by unfold nsV; rw [List.map_reverse]
  rw [rev]
  have s1 : Same H (upd (upd H p (.lst (nsV ds))) p2 (.lst (nsV ds.reverse))) := Same.trans (Same.new hp) (Same.new hp2)
  have hp2' : H p2 = none := (Same.new hp).free hp2
  have pn : p2 ≠ n := fun z => by rw [z, B.nodes] at hp2'; cases hp2'
  have pw : p2 ≠ w := fun z => by rw [z, B.weights] at hp2'; cases hp2'
  refine for_list (K := K) (a := p2) (xs := nsV ds.reverse) (fun i σ H' => ∃ (R' : Hp) (nds' : List Addr) (s : Bd × Nat) (v3 v4 : Option V), σ = [some (.ref bd), some (.ref l), some (nV s.2), v3, v4] ∧ BdAt K R' H' bd n w nds' s.1 ∧
    Grow R R' H ∧ But [n, w] H H' ∧ H' p2 = some (.lst (nsV ds.reverse)) ∧ Bd.eitherGo s (ds.reverse.drop i) = Bd.eitherGo (b, z) ds.reverse ∧ s.2 < s.1.nodes.length ∧ b.nodes.length ≤ s.1.nodes.length ∧ s.1.nodes.length = b.nodes.length + i) ?_ ?_ ?_ ?_
  · exact ⟨R, nds, (b, z), none, none, rfl, B.grow (Grow.refl _ _) s1 (B.sub.trans s1), Grow.refl _ _, Same.but s1, upd_same, rfl, hz, Nat.le_refl _, rfl⟩
  · rintro i σ H' _ ⟨_, _, _, _, _, _, _, _, _, h5, _⟩
    exact SqL.of h5
  · rintro i x σ H' hi ⟨R', nds', s, v3, v4, rfl, B', g', u', hp', hr, hs2, hle, hlen⟩
    obtain ⟨c, hc, rfl⟩ := get_nsV hi
    have hcm : c ∈ ds := List.mem_reverse.mp (List.mem_of_getElem? hc)
    have hclt := hps c (by simp [hcm])
    have hil : i < ds.length := by
      have := (List.getElem?_eq_some_iff.mp hc).1
      rwa [List.length_reverse] at this
    rw [List.length_append] at hsm
    rw [drop_get hc] at hr
    refine (q_asg (v_addN (v_weight kb B' (val_var rfl) (val_var rfl) (by omega)) (v_weight kb B' (val_var rfl) (val_var rfl) hs2)) ?_)
    refine c_asg (s_node B' (.either c s.2) (s.1.w c + s.1.w s.2) .non rfl (by omega) (fun R2 H2 nds2 B2 g2 u2 => ?_) (val_var rfl) val_c (val_var rfl) (val_var rfl) val_c fun _ _ => val_var rfl)
    refine ⟨R2, nds2, s.1.added (.either c s.2) (s.1.w c + s.1.w s.2), some (nV c), some (nV (s.1.w c + s.1.w s.2)), rfl, B2, g'.trans g2 (B.there B' u'), u'.trans u2, u2 _ _ hp' (by simp [pn, pw]), hr, by simp [Bd.added], ?_, ?_⟩
    · show b.nodes.length ≤ (s.1.nodes ++ [_]).length
      rw [List.length_append]; omega
    · show (s.1.nodes ++ [_]).length = _
      rw [List.length_append, hlen, List.length_singleton]; omega
  · rintro σ H' ⟨R', nds', s, v3, v4, rfl, B', g', u', hp', hr, hs2, hle, hlen⟩
    have e0 : ds.reverse.drop (nsV ds.reverse).length = [] := by
      unfold nsV
      rw [List.length_map]
      exact List.drop_eq_nil_of_le (Nat.le_refl _)
    rw [e0] at hr
    have hr' : s = Bd.eitherGo (b, z) ds.reverse := hr
    subst hr'
    exact s_ret (val_var rfl) (q R' H' nds' B' g' u')
theorem pure_Builder_endless {K : Ky} (kb : KBuilder K) (vs : List V) (H : Hp) (Q : VK) (E : XK) (h : sp_Builder_endless K vs H Q E) : t_Builder_endless K E (fin Q) (L2.start N_Builder_endless vs) H := by
  obtain ⟨R, bd, n, w, nds, b, x, m, rfl, B, hx, hm, hsm, q⟩ := h
  refine q_asg (v_mul (v_max2 val_c (val_var rfl)) (v_weight kb B (val_var rfl) (val_var rfl) hx) (.inl ?_)) ?_
  · constructor <;> (split <;> omega)
  have ew : (if (m : Int) > 1 then (m : Int) else 1) * ((b.w x : Nat) : Int) = ((max 1 m * b.w x : Nat) : Int) := by
    have : (if (m : Int) > 1 then (m : Int) else 1) = ((max 1 m : Nat) : Int) := by split <;> omega
    rw [this, Int.natCast_mul]
  rw [ew]
  refine q_asgC (s_node B (.loop x) (max 1 m * b.w x) (.bl true) rfl (by omega) (fun R1 H1 nds1 B1 g1 u1 => ?_) (val_var rfl) val_c (val_var rfl) val_c val_c fun _ _ => val_var rfl)
  refine s_seq (c_forR1 (n := m) (a_cons (val_var rfl) a_nil) (by omega) (fun i σ H' => ∃ (R' : Hp) (nds' : List Addr) (s : Bd × Nat) (v5 : Option V), σ = [some (.ref bd), some (nV x), some (nV m), some (nV (max 1 m * b.w x)), some (nV s.2), v5] ∧ BdAt K R' H' bd n w nds' s.1 ∧
    Grow R R' H ∧ But [n, w] H H' ∧ Bd.endlessGo x (max 1 m * b.w x) (m - i) s = b.endless x m ∧ s.2 < s.1.nodes.length ∧ s.1.nodes.length = b.nodes.length + 1 + i) ?_ ?_ ?_)
  · exact ⟨R1, nds1, _, none, rfl, B1, g1, u1, rfl, by simp [Bd.added], by simp [Bd.added]⟩
  · rintro i σ H' hi ⟨R', nds', s, v5, rfl, B', g', u', hr, hs2, hlen⟩
    have hj : m - i = (m - (i + 1)) + 1 := by omega
    rw [hj] at hr
    refine c_asg (s_node B' (.step x s.2 false) (max 1 m * b.w x) (.bl false) rfl (by omega) (fun R2 H2 nds2 B2 g2 u2 => ?_) (val_var rfl) val_c (val_var rfl) (val_var rfl) val_c fun _ _ => val_var rfl)
    refine ⟨R2, nds2, s.1.added (.step x s.2 false) (max 1 m * b.w x), some (nV i), rfl, B2, g'.trans g2 (B.there B' u'), u'.trans u2, hr, by simp [Bd.added], ?_⟩
    show (s.1.nodes ++ [_]).length = _
    rw [List.length_append, hlen, List.length_singleton]; omega
  · rintro σ H' ⟨R', nds', s, v5, rfl, B', g', u', hr, hs2, hlen⟩
    rw [Nat.sub_self] at hr
    have hr' : s = b.endless x m := hr
    subst hr'
    exact s_ret (val_var rfl) (q R' H' nds' B' g' u')
theorem often_w {x m mo : Nat} : ∀ (k : Nat) (s : Bd × Nat), k ≤ mo → True := fun _ _ _ => trivial
theorem pure_Builder_often {K : Ky} (kb : KBuilder K) (vs : List V) (H : Hp) (Q : VK) (E : XK) (h : sp_Builder_often K vs H Q E) : t_Builder_often K E (fin Q) (L2.start N_Builder_often vs) H := by
  obtain ⟨R, bd, n, w, nds, b, x, m, mo, rfl, B, hx, hm, hmo, hsm, q⟩ := h
  obtain ⟨dx, ho⟩ := B.obj
  cases mo with
  | none =>
    refine s_ifnb (t_test (v_isN (val_var rfl))) (fun _ => ?_) (fun z => by cases z)
    exact c_ret (s_meth (val_var rfl) ho rfl (a_cons (val_var rfl) (a_cons (val_var rfl) a_nil)) ⟨R, bd, n, w, nds, b, x, m, rfl, B, hx, hm, hsm, q⟩)
  | some k =>
    have hk := hmo k rfl
    refine s_ifnb (t_test (v_isN (val_var rfl))) (fun z => by cases z) (fun _ => ?_)
    refine q_asgC ((s_meth (val_var rfl) ho rfl a_nil ⟨R, bd, n, w, nds, b, rfl, B, by omega, fun R1 H1 nds1 B1 g1 u1 => ?_⟩))
    refine s_seq (c_forRR (n := k) (val_var rfl) (by omega) (fun i σ H' => ∃ (R' : Hp) (nds' : List Addr) (s : Bd × Nat) (v5 : Option V), σ = [some (.ref bd), some (nV x), some (nV m), some (nV k), some (nV s.2), v5] ∧ BdAt K R' H' bd n w nds' s.1 ∧
      Grow R R' H ∧ But [n, w] H H' ∧ Bd.oftenGo x m k (k - i) s = b.often x m (some k) ∧ s.2 < s.1.nodes.length ∧ s.1.nodes.length = b.nodes.length + 1 + i) ?_ ?_ ?_)
    · exact ⟨R1, nds1, _, none, rfl, B1, g1, u1, rfl, by simp [Bd.added], by simp [Bd.added]⟩
    · rintro i σ H' hi ⟨R', nds', s, v5, rfl, B', g', u', hr, hs2, hlen⟩
      have hj : k - i = (k - 1 - i) + 1 := by omega
      rw [hj] at hr
      have ed : decide ((m : Int) ≤ ((k - 1 - i : Nat) : Int)) = decide (m ≤ k - 1 - i) := by rw [decide_eq_decide]; omega
      refine c_asg (s_node B' (.step x s.2 (decide (m ≤ k - 1 - i))) (k * s.1.w x) (.bl (decide (m ≤ k - 1 - i))) rfl (by omega) (fun R2 H2 nds2 B2 g2 u2 => ?_) (val_var rfl) val_c (val_var rfl) (val_var rfl) ?_ fun H2 s2 => ?_)
      · refine ⟨R2, nds2, s.1.added (.step x s.2 (decide (m ≤ k - 1 - i))) (k * s.1.w x), some (nV (k - 1 - i)), rfl, B2, g'.trans g2 (B.there B' u'), u'.trans u2, ?_, by simp [Bd.added], ?_⟩
        · have : k - (i + 1) = k - 1 - i := by omega
          rw [this]; exact hr
        · show (s.1.nodes ++ [_]).length = _
          rw [List.length_append, hlen, List.length_singleton]; omega
      · rw [← ed]
        exact v_i0 (g := fun i j => .bl (decide (j ≤ i))) (val_var rfl) (val_var rfl)
      · have hx' : x < s.1.nodes.length := by omega
        have e : V.int ((k : Int) * ((s.1.w x : Nat) : Int)) = nV (k * s.1.w x) := by unfold nV; rw [Int.natCast_mul]
        rw [← e]
        obtain ⟨dx', ho'⟩ := B'.obj
        exact v_mul (val_var rfl) (v_ix (val_fld (val_var rfl) (s2 _ _ ho') kb.cl kb.n_weights rfl) (val_var rfl) (SqL.of (s2 _ _ B'.weights)) (at_n (B'.wt hx'))) (.inl ⟨by omega, by omega⟩)
    · rintro σ H' ⟨R', nds', s, v5, rfl, B', g', u', hr, hs2, hlen⟩
      rw [Nat.sub_self] at hr
      have hr' : s = b.often x m (some k) := hr
      subst hr'
      exact s_ret (val_var rfl) (q R' H' nds' B' g' u')
end Mi
/-! U5: all_but, class_bounds. -/
namespace Mi
open PySem PySem.Spec PyProof.Rows L2
theorem Paired.get {α β : Type} {F : α → β → Prop} : ∀ {l : List α} {m : List β} {i : Nat} {a : α}, Paired F l m → l[i]? = some a → ∃ b, m[i]? = some b ∧ F a b
  | _, _, 0, _, .cons r _, e => ⟨_, rfl, by have := Option.some.inj e; subst this; exact r⟩
  | _, _, i + 1, a, .cons _ t, e => by
    obtain ⟨b, h1, h2⟩ := Paired.get (i := i) t (by simpa using e)
    exact ⟨b, by simpa using h1, h2⟩
  | _, _, _, _, .nil, e => by simp at e
theorem get_refs {as : List Addr} {i : Nat} {x : V} (h : (as.map V.ref)[i]? = some x) : ∃ a, as[i]? = some a ∧ x = .ref a := by
  rw [List.getElem?_map] at h
  cases e : as[i]? with
  | none => rw [e] at h; cases h
  | some c => rw [e] at h; exact ⟨c, rfl, (Option.some.inj h).symm⟩
theorem drop_getP {α : Type} {l : List α} {i : Nat} {c : α} (h : l[i]? = some c) : l.drop i = c :: l.drop (i + 1) := by
  obtain ⟨hl, e⟩ := List.getElem?_eq_some_iff.mp h
  rw [List.drop_eq_getElem_cons hl, e]
theorem Same.upd_upd {R H : Hp} {p : Addr} {o : HO} (h : Same R H) : Same (upd R p o) (upd H p o) := fun c u hc => by
  by_cases e : c = p
  · subst e; rw [upd_same] at hc ⊢; exact hc
  · rw [upd_ne e] at hc ⊢; exact h c u hc
/-- found.append((x, y)), found at l, x and y at hand -/
theorem s_appT {K : Ky} {H : Hp} {l : Addr} {xs : List V} {σ : L2.St} {Q : VK} {ta tx ty : TE} {x y : V} (h0 : Val ta σ H (.ref l)) (h1 : Val tx σ H x) (h2 : Val ty σ H y) (hl : H l = some (.lst xs)) (hz : xs.length < 100000)
    (q : ∀ p, H p = none → p ≠ l → Q .non (upd (upd H p (.tup [x, y])) l (.lst (xs ++ [.ref p])))) : tBM K "list" rAppend ta (tCons (tTup (tCons tx (tCons ty tNil))) tNil) σ H Q := by
  refine h0 _ ⟨.inl ⟨rfl, _, SqL.of hl⟩, ?_⟩
  refine c_cons (s_tup (a_cons h1 (a_cons h2 a_nil)) (by show 2 ≤ 1000; decide) fun p hp => ?_)
  have hne : p ≠ l := fun z => by rw [z, hl] at hp; cases hp
  exact ⟨l, xs, _, rfl, rfl, by rw [upd_ne (Ne.symm hne)]; exact hl, Nat.lt_trans hz big, q p hp hne⟩
theorem pure_all_but {K : Ky} (vs : List V) (H : Hp) (Q : VK) (E : XK) (h : sp_all_but K vs H Q E) : t_all_but K E (fin Q) (L2.start N_all_but vs) H := by
  obtain ⟨R, t, as, bs, rfl, hs, ht, hp, hlen, hle, q⟩ := h
  refine q_asgC (s_lst a_nil (by decide) fun l hl => ?_)
  refine q_asg val_c ?_
  have s0 : Same H (upd H l (.lst [])) := Same.new hl
  have hRl : R l = none := Same.free hs hl
  let Inv : Bnds → Nat → Bnds → Hp → Prop := fun rest low fb H' => ∃ (R' : Hp) (fs : List Addr), Same R' H' ∧ Grow R R' H ∧ Same H H' ∧ R' l = none ∧ H' l = some (.lst (fs.map V.ref)) ∧ Paired (PrAt K R') fs fb ∧ butGo rest fb low = allBut bs ∧ fb.length ≤ 200
  -- one pair more
  have push : ∀ {rest : Bnds} {low : Nat} {fb : Bnds} {H' : Hp} (x y : Nat) (rest2 : Bnds) (low2 : Nat), (∃ (R' : Hp) (fs : List Addr), Same R' H' ∧ Grow R R' H ∧ Same H H' ∧ R' l = none ∧ H' l = some (.lst (fs.map V.ref)) ∧ Paired (PrAt K R') fs fb ∧ fb.length ≤ 199) →
      ∀ {σ : L2.St} {tx ty : TE} {Q : VK}, Val (tVar 1) σ H' (.ref l) → Val tx σ H' (nV x) → Val ty σ H' (nV y) → (∀ H2, (∃ (R' : Hp) (fs : List Addr), Same R' H2 ∧ Grow R R' H ∧ Same H H2 ∧ R' l = none ∧ H2 l = some (.lst (fs.map V.ref)) ∧ Paired (PrAt K R') fs (fb ++ [(x, y)])) → Q .non H2) →
      tBM K "list" rAppend (tVar 1) (tCons (tTup (tCons tx (tCons ty tNil))) tNil) σ H' Q := by
    rintro rest low fb H' x y rest2 low2 ⟨R', fs, h1, h2, h3, h4, h5, h6, h7⟩ σ tx ty Q v0 v1 v2 k
    have hl' := Paired.len h6
    refine s_appT v0 v1 v2 h5 (by rw [List.length_map]; omega) fun p hp hne => k _ ?_
    have sR : Same R' (upd R' p (.tup [nV x, nV y])) := Same.new (Same.free h1 hp)
    refine ⟨upd R' p (.tup [nV x, nV y]), fs ++ [p], fun c o hc => ?_, h2.trans (Grow.upd h1 hp) (Same.there h3), fun c o hc => ?_, by rw [upd_ne (Ne.symm hne)]; exact h4, ?_, ?_⟩
    · have hcl : c ≠ l := fun z => by rw [z, upd_ne (Ne.symm hne), h4] at hc; cases hc
      rw [upd_ne hcl]
      exact Same.upd_upd h1 c o hc
    · have hcl : c ≠ l := ne_of_none hc hl
      rw [upd_ne hcl]
      exact Same.new hp c o (h3 c o hc)
    · rw [upd_same, List.map_append]; rfl
    · exact (h6.mono fun _ _ => PrAt.mono sR).snoc (SqT.of upd_same)
  refine s_seq (c_forT (val_var (v := V.ref t) rfl _ ⟨t, rfl, ⟨_, Same.seqT s0 (Same.seqT hs ht)⟩, ?_⟩))
  refine for_tup (K := K) (a := t) (xs := as.map V.ref) (fun i σ H' => ∃ (low : Nat) (fb : Bnds) (v3 v4 : Option V), σ = [some (.ref t), some (.ref l), some (nV low), v3, v4] ∧ fb.length ≤ i ∧ ∃ (R' : Hp) (fs : List Addr), Same R' H' ∧ Grow R R' H ∧ Same H H' ∧ R' l = none ∧ H' l = some (.lst (fs.map V.ref)) ∧ Paired (PrAt K R') fs fb ∧ butGo (bs.drop i) fb low = allBut bs) ?_ ?_ ?_ ?_
  · exact ⟨0, [], none, none, rfl, Nat.le_refl _, R, [], hs.trans s0, Grow.refl _ _, s0, hRl, upd_same, .nil, rfl⟩
  · rintro i σ H' _ ⟨low, fb, v3, v4, rfl, _, R', fs, h1, h2, h3, _⟩
    exact Same.seqT h3 (Same.seqT hs ht)
  · rintro i x σ H' hi ⟨low, fb, v3, v4, rfl, hfb, R', fs, h1, h2, h3, h4, h5, h6, h7⟩
    obtain ⟨a, ha, rfl⟩ := get_refs hi
    obtain ⟨⟨one, other⟩, hr, hpr⟩ := Paired.get hp ha
    have hpr' : SqT K H' a [nV one, nV other] := Same.seqT h3 (Same.seqT hs hpr)
    have hil := (List.getElem?_eq_some_iff.mp hr).1
    rw [drop_getP hr] at h7
    unfold butGo at h7
    refine c_tup hpr' rfl ⟨_, _, rfl, _, _, rfl, rfl, ?_⟩
    dsimp only
    refine (s_ifn (t_test (v_i0 (val_var rfl) (val_var rfl))) (fun hlt => ?_) fun hlt => ?_)
    · have hlt' : low < one := by omega
      rw [if_pos hlt'] at h7
      have e1 : (one : Int) - 1 = ((one - 1 : Nat) : Int) := by omega
      refine c_drop (push (rest := []) (low := 0) low (one - 1) [] 0 ⟨R', fs, h1, h2, h3, h4, h5, h6, by omega⟩ (val_var rfl) (val_var rfl) ?_ fun H2 ⟨R2, fs2, k1, k2, k3, k4, k5, k6⟩ => ?_)
      · show Val _ _ _ (V.int ((one - 1 : Nat) : Int))
        rw [← e1]
        exact v_i0 (g := fun i j => .int (i - j)) (val_var rfl) val_c
      · refine s_asg (v_addN (j := 1) (val_var rfl) val_c) ?_
        exact ⟨other + 1, fb ++ [(low, one - 1)], _, _, rfl, by rw [List.length_append, List.length_singleton]; omega, R2, fs2, k1, k2, k3, k4, k5, k6, h7⟩
    · have hlt' : ¬ low < one := by omega
      rw [if_neg hlt'] at h7
      refine s_asg (v_addN (j := 1) (val_var rfl) val_c) ?_
      exact ⟨other + 1, fb, _, _, rfl, by omega, R', fs, h1, h2, h3, h4, h5, h6, h7⟩
  · rintro σ H' ⟨low, fb, v3, v4, rfl, hfb, R', fs, h1, h2, h3, h4, h5, h6, h7⟩
    have hl1 := Paired.len hp
    rw [List.length_map] at hfb h7
    rw [hl1, List.drop_eq_nil_of_le (Nat.le_refl _)] at h7
    unfold butGo at h7
    -- the end: found stands in what is read
    have done : ∀ (H2 : Hp) (fb2 : Bnds) (R2 : Hp) (fs2 : List Addr), fb2 = allBut bs → Same R2 H2 → Grow R R2 H → Same H H2 → R2 l = none → H2 l = some (.lst (fs2.map V.ref)) → Paired (PrAt K R2) fs2 fb2 → Q (.ref l) H2 := by
      intro H2 fb2 R2 fs2 e k1 k2 k3 k4 k5 k6
      subst e
      refine q (upd R2 l (.lst (fs2.map V.ref))) H2 l (fun c o hc => ?_) ⟨fun c o hc => ?_, fun c o hc hn => ?_⟩ k3 ⟨fs2, upd_same, k6.mono fun _ _ => PrAt.mono (Same.new k4)⟩
      · by_cases e : c = l
        · subst e; rw [upd_same] at hc; rw [k5]; exact hc
        · rw [upd_ne e] at hc; exact k1 c o hc
      · exact Same.new k4 c o (k2.same c o hc)
      · rw [upd_ne (ne_of_none hc hl)]; exact k2.new c o hc hn
    dsimp only
    refine (s_ifn (t_test (v_i0 (val_var rfl) val_c)) (fun hlt => ?_) fun hlt => ?_)
    · rw [if_pos (by unfold GREATEST; omega)] at h7
      refine c_drop (push (rest := []) (low := 0) low GREATEST [] 0 ⟨R', fs, h1, h2, h3, h4, h5, h6, by omega⟩ (val_var rfl) (val_var rfl) val_c fun H2 ⟨R2, fs2, k1, k2, k3, k4, k5, k6⟩ => ?_)
      exact s_ret (val_var rfl) (done H2 _ R2 fs2 h7 k1 k2 k3 k4 k5 k6)
    · rw [if_neg (by unfold GREATEST; omega)] at h7
      exact s_ret (val_var rfl) (done H' fb R' fs h7 h1 h2 h3 h4 h5 h6)
/-- a table of the module's top: pairs -/
def Tab (K : Ky) (x : Str) (bs : Bnds) : Prop := ∃ as : List Addr, (∀ R : Hp, SqT K R (He.ga K x) (as.map V.ref)) ∧ ∀ R : Hp, Paired (PrAt K R) as bs
abbrev KFIGURE_BOUNDS (K : Ky) : Prop := Tab K "FIGURE_BOUNDS" figB
abbrev KWORD_BOUNDS (K : Ky) : Prop := Tab K "WORD_BOUNDS" wordB
abbrev KBLANK_BOUNDS (K : Ky) : Prop := Tab K "BLANK_BOUNDS" blankB
theorem s_list {K : Ky} {H : Hp} {σ : L2.St} {Q : VK} {ta : TE} {p : Addr} {xs : List V} (h0 : Val ta σ H (.ref p)) (h : SqL K H p xs ∨ SqT K H p xs) (q : ∀ l, H l = none → Q (.ref l) (upd H l (.lst xs))) : tCB (xList K) (tCons ta tNil) σ H Q := by
  refine h0 _ ?_
  exact ⟨p, xs, rfl, h, q⟩
theorem pure_class_bounds {K : Ky} (hf : KFIGURE_BOUNDS K) (hw : KWORD_BOUNDS K) (hb : KBLANK_BOUNDS K) (vs : List V) (H : Hp) (Q : VK) (E : XK) (h : sp_class_bounds K vs H Q E) : t_class_bounds K E (fin Q) (L2.start N_class_bounds vs) H := by
  obtain ⟨R, c, rfl, hs, qn, q⟩ := h
  have tab : ∀ {x : Str} {bs : Bnds} {D : Ends} {σ : L2.St}, Tab K x bs → D.rt = Q → BnQ K R H bs Q → tRet (tCB (xList K) (tCons (tC (.ref (He.ga K x))) tNil)) D σ H := by
    rintro x bs D σ ⟨as, h1, h2⟩ e k
    refine c_ret ?_
    rw [e]
    refine s_list val_c (.inr (h1 H)) fun l hl => k (upd R l (.lst (as.map V.ref))) _ l (Same.upd_upd hs) (Grow.upd hs hl) (Same.new hl) ⟨as, upd_same, h2 _⟩
  have but : ∀ {x : Str} {bs : Bnds} {D : Ends} {σ : L2.St}, Tab K x bs → bs.length ≤ 100 → (∀ r ∈ bs, r.1 ≤ r.2) → D.rt = Q → BnQ K R H (allBut bs) Q → tRet (tCall (sp_all_but K) [] E0 (tCons (tC (.ref (He.ga K x))) tNil)) D σ H := by
    rintro x bs D σ ⟨as, h1, h2⟩ e1 e2 e k
    refine c_ret ?_
    rw [e]
    exact s_call (a_cons val_c a_nil) ⟨R, _, as, bs, rfl, hs, h1 R, h2 R, e1, e2, k⟩
  unfold classBounds at q qn
  refine (s_ifn (t_test (v_eqI (val_var rfl) val_c)) (fun h1 => ?_) fun h1 => ?_)
  · rw [if_pos (by omega)] at q; exact tab hf rfl (q _ rfl)
  rw [if_neg (by omega)] at q qn
  refine (s_ifn (t_test (v_eqI (val_var rfl) val_c)) (fun h1 => ?_) fun h1 => ?_)
  · rw [if_pos (by omega)] at q; exact tab hw rfl (q _ rfl)
  rw [if_neg (by omega)] at q qn
  refine (s_ifn (t_test (v_eqI (val_var rfl) val_c)) (fun h1 => ?_) fun h1 => ?_)
  · rw [if_pos (by omega)] at q; exact tab hb rfl (q _ rfl)
  rw [if_neg (by omega)] at q qn
  refine (s_ifn (t_test (v_eqI (val_var rfl) val_c)) (fun h1 => ?_) fun h1 => ?_)
  · rw [if_pos (by omega)] at q; exact but hf (by decide) (by decide) rfl (q _ rfl)
  rw [if_neg (by omega)] at q qn
  refine (s_ifn (t_test (v_eqI (val_var rfl) val_c)) (fun h1 => ?_) fun h1 => ?_)
  · rw [if_pos (by omega)] at q; exact but hw (by decide) (by decide) rfl (q _ rfl)
  rw [if_neg (by omega)] at q qn
  refine (s_ifn (t_test (v_eqI (val_var rfl) val_c)) (fun h1 => ?_) fun h1 => ?_)
  · rw [if_pos (by omega)] at q; exact but hb (by decide) (by decide) rfl (q _ rfl)
  rw [if_neg (by omega)] at q qn
  exact s_ret (te := tC .non) val_c (qn rfl R H hs (Grow.refl _ _) (Same.refl _))
end Mi
/-! W2: a written dict's get. -/
namespace Mi
open PySem PySem.Spec PyProof.Rows L2
/-- a dict of the module's top: numbers to numbers -/
def KDi (K : Ky) (a : Addr) (kvs : List (Int × Int)) : Prop := ∃ es n, K.lookup a = some ⟨.type "dict", none, .dict es n, #[]⟩ ∧ (a == sysModules) = false ∧
  Paired (fun (e : DictEntry) (kv : Int × Int) => (∃ t, e.key = .int kv.1 t) ∧ e.hash = hashInt kv.1 ∧ ∃ t, e.val = .int kv.2 t) es.toList kvs
def getI (kvs : List (Int × Int)) (i : Int) : V := match kvs.lookup i with
  | none => .non
  | some j => .int j
def tKGet (K : Ky) (td ty : TE) : TE := fun σ H Q => td σ H fun x H1 => ∃ a kvs, x = .ref a ∧ KDi K a kvs ∧ ty σ H1 fun y H2 => ∃ i, y = .int i ∧ Q (getI kvs i) H2
theorem kdi_find {prog : Program} {w : World} {l : List DictEntry} {kvs : List (Int × Int)} (h : Paired (fun (e : DictEntry) (kv : Int × Int) => (∃ t, e.key = .int kv.1 t) ∧ e.hash = hashInt kv.1 ∧ ∃ t, e.val = .int kv.2 t) l kvs) (i : Int) :
    RelV (getI kvs i) (((l.find? fun e => (intKind prog w).is i e.key).map (·.val)).getD .none) := by
  induction h with
  | nil => rfl
  | @cons e kv l kvs r _ ih =>
    obtain ⟨⟨t, e1⟩, _, t2, e2⟩ := r
    obtain ⟨k, v⟩ := kv
    have ek : (intKind prog w).is i e.key = (k == i) := by
      rw [e1]
      show Value.isInt i (.int k t) = _
      rfl
    rw [List.find?_cons, ek]
    unfold getI
    rw [List.lookup_cons]
    by_cases z : i = k
    · subst z
      simp
      rw [e2]
      exact ⟨t2, rfl⟩
    · have z1 : (k == i) = false := by simp; exact fun q => z q.symm
      have z2 : (i == k) = false := by simp; exact z
      rw [z1, z2]
      exact ih
theorem kdi_map {prog : Program} {w : World} {K : Ky} {h : Heap} (X : PySem.W.Frag.In K h) {a : Addr} {kvs : List (Int × Int)} (d : KDi K a kvs) :
    ∃ f : Int → Option Value, h.MapOf (intKind prog w) a f ∧ (∀ i, RelV (getI kvs i) ((f i).getD .none)) ∧ (∃ ob, h.get? a = some ob ∧ ob.dict = none) ∧ (a == sysModules) = false := by
  obtain ⟨es, n, hl, low, hp⟩ := d
  refine ⟨fun k => findBy (intKind prog w).is es k, ⟨_, es, n, X _ _ hl, ⟨rfl, rfl, rfl⟩, rfl, ?_, fun _ => rfl⟩, fun i => ?_, ⟨_, X _ _ hl, rfl⟩, low⟩
  · intro e he
    have key : ∀ {l : List DictEntry} {kvs : List (Int × Int)}, Paired (fun (e : DictEntry) (kv : Int × Int) => (∃ t, e.key = .int kv.1 t) ∧ e.hash = hashInt kv.1 ∧ ∃ t, e.val = .int kv.2 t) l kvs → e ∈ l → ∃ k : Int, (intKind prog w).is k e.key = true ∧ e.hash = (intKind prog w).hash k := by
      intro l kvs h
      induction h with
      | nil => intro z; cases z
      | cons r _ ih =>
        intro z
        rcases List.mem_cons.mp z with rfl | z
        · obtain ⟨⟨t, e1⟩, e2, _⟩ := r
          exact ⟨_, by rw [e1]; exact intKind_is prog w _ t, e2⟩
        · exact ih z
    exact key hp (Array.mem_toList_iff.mpr he)
  · have := kdi_find (prog := prog) (w := w) hp i
    unfold findBy
    show RelV _ ((Option.map (fun x : DictEntry => x.val) (Array.find? (fun e => (intKind prog w).is i e.key) es)).getD .none)
    rw [← Array.find?_toList]
    exact this
section
variable {X : Cx} {o e : Expr} {apos cpos : Pos} {td ty : TE}
theorem pe_kget (ho : PE X o td) (he : PE X e ty) (m : M1 X o "get" apos e cpos := by exact ⟨rfl, rfl, rfl, rfl⟩) : PE X (.Call (.Attribute o "get" apos) [e] [] cpos) (tKGet X.K td ty) := by
  refine ⟨fun pins s σ H Q I h => ?_⟩
  refine wpAny_Call_method m.base m.few m.line PySem.F.plainAttrs_dict PySem.F.slot_dict_get PySem.F.type_dict_get (thn (ho.run pins s σ H _ I h) fun u s1 ⟨x, H1, I1, rx, a, kvs, ex, d, q1⟩ => ?_)
  subst ex
  obtain rfl : u = Value.ref a := rx
  obtain ⟨f, hf, _, ⟨ob, h1, h2⟩, low⟩ := kdi_map (prog := X.prog) (w := X.w) I1.kIn d
  refine ⟨hf.typeIs, fun b q => ?_, ?_⟩
  · cases q
    exact ⟨ob, h1, h2⟩
  rw [m.trees]
  refine Calls.callWith_builtin rfl (Calls.evalArgs_plain (Calls.spliced_cons (thn (he.run pins s1 σ H1 _ I1 q1) fun iv s2 ⟨y, H2, I2, ry, i, ey, q2⟩ => Calls.spliced_nil ?_)))
  subst ey
  obtain ⟨t, rfl⟩ := (show ∃ t, iv = Value.int i t from ry)
  obtain ⟨f, hf, hr, _, _⟩ := kdi_map (prog := X.prog) (w := X.w) I2.kIn d
  exact call_meetsIn PySem.F.slot_dict_get hf.typeIs PySem.F.entry_dict_get (PySem.F.args_dict_get_2 _ _) (meets_dict_get (intKind X.prog X.w) a (intKind_is _ _ _ _) low) ⟨f, hf, _, H2, I2.tok _, hr i, q2⟩
end
end Mi
/-! S2: the reader in the heap; promises of reading.py. -/
namespace Mi
open PySem PySem.Spec PyProof.Rows L2
structure LvA where
  obj : Addr
  rows : Addr
  parts : Addr
structure Ads where
  text : Addr
  bd : Addr
  nodes : Addr
  weights : Addr
  names : Addr
  levels : Addr
  nds : List Addr
  nms : List Addr
  top : LvA
  below : List LvA
def rdF (A : Ads) (place : Nat) (ha : Bool) : List (Str × V) := [("text", .ref A.text), ("place", nV place), ("builder", .ref A.bd), ("names", .ref A.names), ("levels", .ref A.levels), ("has_atom", .bl ha)]
def lvF (c n : Option Nat) (r p : Addr) : List (Str × V) := [("closing", oV c), ("name", oV n), ("rows", .ref r), ("parts", .ref p)]
def LvAt (K : Ky) (H : Hp) (l : LvA) (v : Lv) : Prop := (∃ dx, H l.obj = some (.ins (He.ga K "Level") dx (lvF v.closing v.name l.rows l.parts))) ∧ H l.rows = some (.lst (nsV v.rows)) ∧ H l.parts = some (.lst (nsV v.parts))
def lsL (l : List LvA) : List Addr := l.flatMap fun l => [l.rows, l.parts]
def lsF (A : Ads) : List Addr := [A.nodes, A.weights, A.names, A.levels]
def obL (l : List LvA) : List Addr := l.map LvA.obj
def refsOf (l : List LvA) : List V := l.map fun l => V.ref l.obj
structure RS (K : Ky) (B : Bs) (R H : Hp) (sl : Addr) (s : St) (A : Ads) : Prop where
  ok : Ok B
  pl : s.place ≤ B.length
  sm : B.length ≤ 1000
  tx : SqL K R A.text (nsV B)
  bs : BdAt K R H A.bd A.nodes A.weights A.nds s.bd
  me : ∃ dx, H sl = some (.ins (He.ga K "PatternReader") dx (rdF A s.place s.hasAtom))
  names : H A.names = some (.lst (A.nms.map V.ref))
  nmat : Paired (PrAt K R) A.nms s.names
  levels : H A.levels = some (.lst (refsOf (A.below.reverse ++ [A.top])))
  top : LvAt K H A.top s.top
  below : Paired (LvAt K H) A.below s.below
  ndL : (lsF A ++ lsL (A.top :: A.below)).Nodup
  ndO : ([sl, A.bd] ++ obL (A.top :: A.below)).Nodup
  frL : ∀ a ∈ lsF A ++ lsL (A.top :: A.below), R a = none
  frO : ∀ a ∈ [sl, A.bd] ++ obL (A.top :: A.below), R a = none
/-- on from R and H to R' and H' -/
structure Go (R H R' H' : Hp) : Prop where
  grow : Grow R R' H
  there : ∀ x o, H x = some o → ∃ o', H' x = some o'
theorem Go.refl (R H : Hp) : Go R H R H := ⟨Grow.refl _ _, fun _ o e => ⟨o, e⟩⟩
theorem Go.trans {R H R1 H1 R2 H2 : Hp} (a : Go R H R1 H1) (b : Go R1 H1 R2 H2) : Go R H R2 H2 :=
  ⟨a.grow.trans b.grow a.there, fun x o e => let ⟨o1, e1⟩ := a.there x o e; b.there x o1 e1⟩
theorem Go.of {R R' H H' : Hp} (g : Grow R R' H) (s : Same H H') : Go R H R' H' := ⟨g, fun x o e => ⟨o, s x o e⟩⟩
theorem Go.upd {R H : Hp} {p : Addr} {o : HO} : Go R H R (upd H p o) := ⟨Grow.refl _ _, fun x u e => by
  by_cases h : x = p
  · subst h; exact ⟨_, upd_same⟩
  · exact ⟨u, by rw [upd_ne h]; exact e⟩⟩
/-- .. the reader's lists of nodes and names are the same ones -/
structure Gx (R H : Hp) (A : Ads) (R' H' : Hp) (A' : Ads) : Prop where
  go : Go R H R' H'
  nodes : A'.nodes = A.nodes
  names : A'.names = A.names
theorem Gx.refl (R H : Hp) (A : Ads) : Gx R H A R H A := ⟨Go.refl _ _, rfl, rfl⟩
theorem Gx.trans {R H R1 H1 R2 H2 : Hp} {A A1 A2 : Ads} (a : Gx R H A R1 H1 A1) (b : Gx R1 H1 A1 R2 H2 A2) : Gx R H A R2 H2 A2 := ⟨a.go.trans b.go, b.nodes.trans a.nodes, b.names.trans a.names⟩
theorem Gx.upd {R H : Hp} {A : Ads} {p : Addr} {o : HO} : Gx R H A R (upd H p o) A := ⟨Go.upd, rfl, rfl⟩
/-- the reader is in the state s' then -/
def RSQ (K : Ky) (B : Bs) (R H : Hp) (sl : Addr) (A : Ads) (s' : St) (v : V) (Q : VK) : Prop := ∀ (R' H' : Hp) (A' : Ads), RS K B R' H' sl s' A' → Gx R H A R' H' A' → Q v H'
def Ret {α : Type} (K : Ky) (E : XK) (r : Except Fl α) (ok : α → Prop) : Prop := (∀ e, r = .error e → Flt K E e) ∧ ∀ x, r = .ok x → ok x
/-- bounds, or None -/
def BnO (K : Ky) (R : Hp) : Option Bnds → V → Prop
  | none, v => v = .non
  | some bs, v => ∃ l, v = .ref l ∧ BnAt K R l bs
def RSB (K : Ky) (B : Bs) (R H : Hp) (sl : Addr) (A : Ads) (s' : St) (o : Option Bnds) (Q : VK) : Prop := ∀ (R' H' : Hp) (A' : Ads) (v : V), RS K B R' H' sl s' A' → Gx R H A R' H' A' → BnO K R' o v → Q v H'
def RST (K : Ky) (B : Bs) (R H : Hp) (sl : Addr) (A : Ads) (s' : St) (xs : List V) (Q : VK) : Prop := ∀ (R' H' : Hp) (A' : Ads) (t : Addr), RS K B R' H' sl s' A' → Gx R H A R' H' A' → SqT K R' t xs → Q (.ref t) H'
structure KLevel (K : Ky) : Prop where
  cl : Cls K (He.ga K "Level")
  n_closing : NoAttr K (He.ga K "Level") "closing"
  n_name : NoAttr K (He.ga K "Level") "name"
  n_rows : NoAttr K (He.ga K "Level") "rows"
  n_parts : NoAttr K (He.ga K "Level") "parts"
structure KPatternReader (K : Ky) : Prop where
  cl : Cls K (He.ga K "PatternReader")
  n_text : NoAttr K (He.ga K "PatternReader") "text"
  n_place : NoAttr K (He.ga K "PatternReader") "place"
  n_builder : NoAttr K (He.ga K "PatternReader") "builder"
  n_names : NoAttr K (He.ga K "PatternReader") "names"
  n_levels : NoAttr K (He.ga K "PatternReader") "levels"
  n_has_atom : NoAttr K (He.ga K "PatternReader") "has_atom"
/-! ### what a reader keeps -/
section
variable {K : Ky} {B : Bs} {R R' H H' : Hp} {self : Addr} {s : St} {A : Ads}
theorem LvAt.but {S : List Addr} {l : LvA} {v : Lv} (h : LvAt K H l v) (u : But S H H') (h1 : l.obj ∉ S) (h2 : l.rows ∉ S) (h3 : l.parts ∉ S) : LvAt K H' l v := by
  obtain ⟨⟨dx, a⟩, b, c⟩ := h
  exact ⟨⟨dx, u _ _ a h1⟩, u _ _ b h2, u _ _ c h3⟩
theorem mem_lsL {l : List LvA} {x : LvA} (h : x ∈ l) : x.rows ∈ lsL l ∧ x.parts ∈ lsL l := by
  unfold lsL
  exact ⟨List.mem_flatMap.mpr ⟨x, h, by simp⟩, List.mem_flatMap.mpr ⟨x, h, by simp⟩⟩
theorem mem_obL {l : List LvA} {x : LvA} (h : x ∈ l) : x.obj ∈ obL l := List.mem_map.mpr ⟨x, h, rfl⟩
theorem Paired.monoMem {α β : Type} {F G : α → β → Prop} {l : List α} {m : List β} (h : Paired F l m) (f : ∀ a b, a ∈ l → F a b → G a b) : Paired G l m := by
  induction h with
  | nil => exact .nil
  | cons r _ ih => exact .cons (f _ _ (by simp) r) (ih fun a b ha => f a b (by simp [ha]))
/-- the levels' lists differ from the four others -/
theorem RS.neFL (r : RS K B R H self s A) {a b : Addr} (ha : a ∈ lsF A) (hb : b ∈ lsL (A.top :: A.below)) : a ≠ b := (List.nodup_append.mp r.ndL).2.2 a ha b hb
theorem RS.neOL (r : RS K B R H self s A) {a b : Addr} (ha : a ∈ [self, A.bd]) (hb : b ∈ obL (A.top :: A.below)) : a ≠ b := (List.nodup_append.mp r.ndO).2.2 a ha b hb
/-- an instance is no list -/
theorem RS.objs (r : RS K B R H self s A) {a : Addr} (ha : a ∈ [self, A.bd] ++ obL (A.top :: A.below)) : ∃ C dx fs, H a = some (.ins C dx fs) := by
  rcases List.mem_append.mp ha with h | h
  · obtain ⟨dx, hm⟩ := r.me
    obtain ⟨dx', hb⟩ := r.bs.obj
    simp at h
    rcases h with rfl | rfl
    · exact ⟨_, _, _, hm⟩
    · exact ⟨_, _, _, hb⟩
  · obtain ⟨l, hl, rfl⟩ := List.mem_map.mp h
    rcases List.mem_cons.mp hl with e | hl
    · subst e
      obtain ⟨⟨dx, h1⟩, _⟩ := r.top
      exact ⟨_, _, _, h1⟩
    · have key : ∀ {ls : List LvA} {vs : List Lv}, Paired (LvAt K H) ls vs → l ∈ ls → ∃ v, LvAt K H l v := by
        intro ls vs hp
        induction hp with
        | nil => intro h; cases h
        | cons x _ ih =>
          intro h
          rcases List.mem_cons.mp h with e | h
          · subst e; exact ⟨_, x⟩
          · exact ih h
      obtain ⟨v, ⟨dx, h1⟩, _⟩ := key r.below hl
      exact ⟨_, _, _, h1⟩
theorem RS.lists (r : RS K B R H self s A) {a : Addr} (ha : a ∈ lsF A ++ lsL (A.top :: A.below)) : ∃ xs, H a = some (.lst xs) := by
  rcases List.mem_append.mp ha with h | h
  · simp [lsF] at h
    rcases h with rfl | rfl | rfl | rfl
    · exact ⟨_, r.bs.nodes⟩
    · exact ⟨_, r.bs.weights⟩
    · exact ⟨_, r.names⟩
    · exact ⟨_, r.levels⟩
  · obtain ⟨l, hl, h⟩ := List.mem_flatMap.mp h
    have key : ∃ v, LvAt K H l v := by
      rcases List.mem_cons.mp hl with e | hl
      · subst e; exact ⟨_, r.top⟩
      · have key : ∀ {ls : List LvA} {vs : List Lv}, Paired (LvAt K H) ls vs → l ∈ ls → ∃ v, LvAt K H l v := by
          intro ls vs hp
          induction hp with
          | nil => intro h; cases h
          | cons x _ ih =>
            intro h
            rcases List.mem_cons.mp h with e | h
            · subst e; exact ⟨_, x⟩
            · exact ih h
        exact key r.below hl
    obtain ⟨v, _, h2, h3⟩ := key
    simp at h
    rcases h with rfl | rfl
    · exact ⟨_, h2⟩
    · exact ⟨_, h3⟩
theorem RS.neO (r : RS K B R H self s A) {a b : Addr} (ha : a ∈ [self, A.bd] ++ obL (A.top :: A.below)) (hb : b ∈ lsF A ++ lsL (A.top :: A.below)) : a ≠ b := by
  obtain ⟨C, dx, fs, h1⟩ := r.objs ha
  obtain ⟨xs, h2⟩ := r.lists hb
  exact ne_of h1 h2 (by intro z; cases z)
/-- all that stands is there -/
theorem RS.there (r : RS K B R H self s A) (a : Addr) (ha : a ∈ (lsF A ++ lsL (A.top :: A.below)) ∨ a ∈ [self, A.bd] ++ obL (A.top :: A.below)) : ∃ o, H a = some o := by
  rcases ha with h | h
  · obtain ⟨xs, e⟩ := r.lists h; exact ⟨_, e⟩
  · obtain ⟨C, dx, fs, e⟩ := r.objs h; exact ⟨_, e⟩
/-- new things beside -/
theorem RS.grow (r : RS K B R H self s A) (g : Grow R R' H) (sH : Same H H') (sR : Same R' H') : RS K B R' H' self s A where
  ok := r.ok
  pl := r.pl
  sm := r.sm
  tx := Same.seq g.same r.tx
  bs := r.bs.grow g sH sR
  me := let ⟨dx, h⟩ := r.me; ⟨dx, sH _ _ h⟩
  names := sH _ _ r.names
  nmat := r.nmat.mono fun _ _ => PrAt.mono g.same
  levels := sH _ _ r.levels
  top := r.top.but (S := []) (fun b o e _ => sH b o e) (by simp) (by simp) (by simp)
  below := r.below.mono fun _ _ h => LvAt.but (S := []) h (fun b o e _ => sH b o e) (by simp) (by simp) (by simp)
  ndL := r.ndL
  ndO := r.ndO
  frL := fun a ha => by obtain ⟨o, e⟩ := r.there a (.inl ha); exact g.new a o e (r.frL a ha)
  frO := fun a ha => by obtain ⟨o, e⟩ := r.there a (.inr ha); exact g.new a o e (r.frO a ha)
theorem RS.sub (r : RS K B R H self s A) : Same R H := r.bs.sub
/-- one list or instance of the reader's is written: what of it stands -/
theorem RS.wrote (r : RS K B R H self s A) {x : Addr} {o : HO} (hx : R x = none) : Same R (upd H x o) := fun b u e => by
  rw [upd_ne (fun z => by rw [z, hx] at e; cases e)]
  exact r.sub b u e
/-- self.place, self.has_atom -/
theorem RS.put_self (r : RS K B R H self s A) (p : Nat) (a : Bool) {dx : Addr} (hpl : p ≤ B.length) : RS K B R (upd H self (.ins (He.ga K "PatternReader") dx (rdF A p a))) self { s with place := p, hasAtom := a } A := by
  have mS : self ∈ [self, A.bd] ++ obL (A.top :: A.below) := by simp
  have nL : ∀ b ∈ lsF A ++ lsL (A.top :: A.below), b ≠ self := fun b hb => Ne.symm (r.neO mS hb)
  have nB : A.bd ≠ self := by have := r.ndO; simp at this; exact fun z => this.1.1 z.symm
  have nO : ∀ l ∈ A.top :: A.below, l.obj ≠ self := fun l hl => Ne.symm (r.neOL (by simp) (mem_obL hl))
  have lv : ∀ l v, l ∈ A.top :: A.below → LvAt K H l v → LvAt K (upd H self (.ins (He.ga K "PatternReader") dx (rdF A p a))) l v := fun l v hl h =>
    h.but (But.upd (S := [self]) (by simp)) (by simpa using nO l hl) (by simpa using nL _ (List.mem_append_right _ (mem_lsL hl).1)) (by simpa using nL _ (List.mem_append_right _ (mem_lsL hl).2))
  obtain ⟨dxb, hb⟩ := r.bs.obj
  exact { ok := r.ok, pl := hpl, sm := r.sm, tx := r.tx, me := ⟨dx, upd_same⟩, nmat := r.nmat, ndL := r.ndL, ndO := r.ndO, frL := r.frL, frO := r.frO,
          bs := { r.bs with sub := r.wrote (r.frO _ mS), obj := ⟨dxb, by rw [upd_ne nB]; exact hb⟩, nodes := by rw [upd_ne (nL _ (by simp [lsF]))]; exact r.bs.nodes, weights := by rw [upd_ne (nL _ (by simp [lsF]))]; exact r.bs.weights },
          names := by rw [upd_ne (nL _ (by simp [lsF]))]; exact r.names
          levels := by rw [upd_ne (nL _ (by simp [lsF]))]; exact r.levels
          top := lv _ _ (by simp) r.top
          below := Paired.monoMem r.below fun l v hl => lv l v (by simp [hl]) }
end
end Mi
/-! S3: what a step does to the reader. -/
namespace Mi
open PySem PySem.Spec PyProof.Rows L2
section
variable {K : Ky} {B : Bs} {R R' H H' : Hp} {sl : Addr} {s : St} {A : Ads}
theorem RS.lvs (r : RS K B R H sl s A) {S : List Addr} (u : But S H H') (hS : ∀ l ∈ A.below, l.obj ∉ S ∧ l.rows ∉ S ∧ l.parts ∉ S) : Paired (LvAt K H') A.below s.below :=
  Paired.monoMem r.below fun l v hl h => h.but u (hS l hl).1 (hS l hl).2.1 (hS l hl).2.2
/-- an address of a list differs from the instances -/
theorem RS.nL (r : RS K B R H sl s A) {x : Addr} (hx : x ∈ lsF A ++ lsL (A.top :: A.below)) : sl ≠ x ∧ A.bd ≠ x ∧ A.top.obj ≠ x ∧ ∀ l ∈ A.below, l.obj ≠ x :=
  ⟨r.neO (by simp) hx, r.neO (by simp) hx, r.neO (by simp [obL]) hx, fun l hl => r.neO (by simp [obL]; exact .inr (.inr (.inr ⟨l, hl, rfl⟩))) hx⟩
/-- the lists differ from one another -/
theorem RS.dl (r : RS K B R H sl s A) : ((A.nodes ≠ A.weights ∧ A.nodes ≠ A.names ∧ A.nodes ≠ A.levels ∧ A.nodes ≠ A.top.rows ∧ A.nodes ≠ A.top.parts) ∧ (A.weights ≠ A.names ∧ A.weights ≠ A.levels ∧ A.weights ≠ A.top.rows ∧ A.weights ≠ A.top.parts) ∧ (A.names ≠ A.levels ∧ A.names ≠ A.top.rows ∧ A.names ≠ A.top.parts) ∧ (A.levels ≠ A.top.rows ∧ A.levels ≠ A.top.parts) ∧ A.top.rows ≠ A.top.parts) ∧
    ∀ l ∈ A.below, ∀ x ∈ [A.nodes, A.weights, A.names, A.levels, A.top.rows, A.top.parts], l.rows ≠ x ∧ l.parts ≠ x := by
  have d := r.ndL
  have e : lsF A ++ lsL (A.top :: A.below) = [A.nodes, A.weights, A.names, A.levels, A.top.rows, A.top.parts] ++ lsL A.below := by simp [lsF, lsL]
  rw [e] at d
  obtain ⟨d1, d2, d3⟩ := List.nodup_append.mp d
  refine ⟨?_, fun l hl x hx => ⟨fun z => d3 x hx _ (mem_lsL hl).1 z.symm, fun z => d3 x hx _ (mem_lsL hl).2 z.symm⟩⟩
  simp at d1
  grind
theorem mF {A : Ads} {x : Addr} (h : x ∈ [A.nodes, A.weights, A.names, A.levels, A.top.rows, A.top.parts]) : x ∈ lsF A ++ lsL (A.top :: A.below) := by
  simp [lsF, lsL] at h ⊢
  grind
theorem RS.putParts (r : RS K B R H sl s A) (ps : List Nat) : RS K B R (upd H A.top.parts (.lst (nsV ps))) sl { s with top := { s.top with parts := ps } } A := by
  obtain ⟨n1, n2, n3, n4⟩ := r.nL (x := A.top.parts) (mF (by simp))
  obtain ⟨d1, d2⟩ := r.dl
  obtain ⟨dxb, hb⟩ := r.bs.obj
  obtain ⟨dxm, hm⟩ := r.me
  obtain ⟨⟨dxt, ht⟩, ht2, ht3⟩ := r.top
  have u : But [A.top.parts] H (upd H A.top.parts (.lst (nsV ps))) := But.upd (by simp)
  have nm : ∀ {x o}, H x = some o → x ≠ A.top.parts → upd H A.top.parts (.lst (nsV ps)) x = some o := fun e n => by rw [upd_ne n]; exact e
  exact { r with
    bs := { r.bs with sub := r.wrote (r.frL _ (mF (by simp))), obj := ⟨dxb, nm hb n2⟩, nodes := nm r.bs.nodes (by grind), weights := nm r.bs.weights (by grind) }
    me := ⟨dxm, nm hm n1⟩
    names := nm r.names (by grind)
    levels := nm r.levels (by grind)
    top := ⟨⟨dxt, nm ht n3⟩, nm ht2 (by grind), upd_same⟩
    below := r.lvs u fun l hl => ⟨by simpa using n4 l hl, by simpa using (d2 l hl A.top.parts (by simp)).1, by simpa using (d2 l hl A.top.parts (by simp)).2⟩ }
theorem RS.putRows (r : RS K B R H sl s A) (ps : List Nat) : RS K B R (upd H A.top.rows (.lst (nsV ps))) sl { s with top := { s.top with rows := ps } } A := by
  obtain ⟨n1, n2, n3, n4⟩ := r.nL (x := A.top.rows) (mF (by simp))
  obtain ⟨d1, d2⟩ := r.dl
  obtain ⟨dxb, hb⟩ := r.bs.obj
  obtain ⟨dxm, hm⟩ := r.me
  obtain ⟨⟨dxt, ht⟩, ht2, ht3⟩ := r.top
  have u : But [A.top.rows] H (upd H A.top.rows (.lst (nsV ps))) := But.upd (by simp)
  have nm : ∀ {x o}, H x = some o → x ≠ A.top.rows → upd H A.top.rows (.lst (nsV ps)) x = some o := fun e n => by rw [upd_ne n]; exact e
  exact { r with
    bs := { r.bs with sub := r.wrote (r.frL _ (mF (by simp))), obj := ⟨dxb, nm hb n2⟩, nodes := nm r.bs.nodes (by grind), weights := nm r.bs.weights (by grind) }
    me := ⟨dxm, nm hm n1⟩
    names := nm r.names (by grind)
    levels := nm r.levels (by grind)
    top := ⟨⟨dxt, nm ht n3⟩, upd_same, nm ht3 (by grind)⟩
    below := r.lvs u fun l hl => ⟨by simpa using n4 l hl, by simpa using (d2 l hl A.top.rows (by simp)).1, by simpa using (d2 l hl A.top.rows (by simp)).2⟩ }
/-- the builder went on -/
theorem RS.withBd (r : RS K B R H sl s A) {nds' : List Addr} {b' : Bd} (b : BdAt K R' H' A.bd A.nodes A.weights nds' b') (g : Grow R R' H) (u : But [A.nodes, A.weights] H H') : RS K B R' H' sl { s with bd := b' } { A with nds := nds' } := by
  obtain ⟨d1, d2⟩ := r.dl
  obtain ⟨n1, n2, n3, n4⟩ := r.nL (x := A.nodes) (mF (by simp))
  obtain ⟨m1, m2, m3, m4⟩ := r.nL (x := A.weights) (mF (by simp))
  obtain ⟨dxm, hm⟩ := r.me
  obtain ⟨⟨dxt, ht⟩, ht2, ht3⟩ := r.top
  exact { ok := r.ok, pl := r.pl, sm := r.sm, tx := Same.seq g.same r.tx, bs := b
          me := ⟨dxm, u _ _ hm (by grind)⟩
          names := u _ _ r.names (by grind)
          nmat := r.nmat.mono fun _ _ => PrAt.mono g.same
          levels := u _ _ r.levels (by grind)
          top := ⟨⟨dxt, u _ _ ht (by grind)⟩, u _ _ ht2 (by grind), u _ _ ht3 (by grind)⟩
          below := r.lvs u fun l hl => ⟨by have := n4 l hl; have := m4 l hl; grind, by have := (d2 l hl A.nodes (by simp)).1; have := (d2 l hl A.weights (by simp)).1; grind, by have := (d2 l hl A.nodes (by simp)).2; have := (d2 l hl A.weights (by simp)).2; grind⟩
          ndL := r.ndL, ndO := r.ndO
          frL := fun a ha => by obtain ⟨o, e⟩ := r.there a (.inl ha); exact g.new a o e (r.frL a ha)
          frO := fun a ha => by obtain ⟨o, e⟩ := r.there a (.inr ha); exact g.new a o e (r.frO a ha) }
/-- level.parts = [] -/
theorem RS.newParts (r : RS K B R H sl s A) {p dx : Addr} (hp : H p = none) :
    RS K B R (upd (upd H p (.lst [])) A.top.obj (.ins (He.ga K "Level") dx (lvF s.top.closing s.top.name A.top.rows p))) sl { s with top := { s.top with parts := [] } } { A with top := { A.top with parts := p } } := by
  obtain ⟨d1, d2⟩ := r.dl
  have hmO : A.top.obj ∈ [sl, A.bd] ++ obL (A.top :: A.below) := by simp [obL]
  have nd := r.ndO
  have e : [sl, A.bd] ++ obL (A.top :: A.below) = [sl, A.bd, A.top.obj] ++ obL A.below := by simp [obL]
  rw [e] at nd
  obtain ⟨o1, o2, o3⟩ := List.nodup_append.mp nd
  obtain ⟨dxb, hb⟩ := r.bs.obj
  obtain ⟨dxm, hm⟩ := r.me
  obtain ⟨⟨dxt, ht⟩, ht2, ht3⟩ := r.top
  have tL : ∀ a ∈ lsF A ++ lsL (A.top :: A.below), a ≠ A.top.obj := fun a ha => Ne.symm (r.neO hmO ha)
  have tp : ∀ a ∈ lsF A ++ lsL (A.top :: A.below), a ≠ p := fun a ha => by obtain ⟨xs, h⟩ := r.lists ha; exact ne_of_none h hp
  have u : But [A.top.obj] H (upd (upd H p (.lst [])) A.top.obj (.ins (He.ga K "Level") dx (lvF s.top.closing s.top.name A.top.rows p))) := (But.new hp).trans (But.upd (by simp))
  have np : p ≠ A.top.obj := fun z => by rw [z, ht] at hp; cases hp
  have rp : R p = none := Same.free r.sub hp
  simp at o1
  have hA : ∀ a, a ∈ lsF { A with top := { A.top with parts := p } } ++ lsL ({ A.top with parts := p } :: A.below) → a = p ∨ a ∈ lsF A ++ lsL (A.top :: A.below) := by
    intro a ha
    simp [lsF, lsL] at ha ⊢
    grind
  exact { r with
    bs := { r.bs with sub := But.same u r.sub (by simp; exact r.frO _ hmO), obj := ⟨dxb, u _ _ hb (by grind)⟩, nodes := u _ _ r.bs.nodes (by have := tL A.nodes (mF (by simp)); simp [this]), weights := u _ _ r.bs.weights (by have := tL A.weights (mF (by simp)); simp [this]) }
    me := ⟨dxm, u _ _ hm (by grind)⟩
    names := u _ _ r.names (by have := tL A.names (mF (by simp)); simp [this])
    levels := by
      have h := u _ _ r.levels (by have := tL A.levels (mF (by simp)); simp [this])
      show _ = some (HO.lst (refsOf (A.below.reverse ++ [{ A.top with parts := p }])))
      rw [show refsOf (A.below.reverse ++ [{ A.top with parts := p }]) = refsOf (A.below.reverse ++ [A.top]) from by simp [refsOf]]
      exact h
    top := ⟨⟨dx, upd_same⟩, u _ _ ht2 (by have := tL A.top.rows (mF (by simp)); simp [this]), by show upd _ _ _ p = _; rw [upd_ne np, upd_same]; rfl⟩
    below := r.lvs u fun l hl => ⟨by have := o3 A.top.obj (by simp) l.obj (mem_obL hl); simp; exact Ne.symm this, by simpa using tL _ (List.mem_append_right _ (mem_lsL (List.mem_cons_of_mem _ hl)).1), by simpa using tL _ (List.mem_append_right _ (mem_lsL (List.mem_cons_of_mem _ hl)).2)⟩
    ndL := by
      have d := r.ndL
      have e1 : lsF A ++ lsL (A.top :: A.below) = [A.nodes, A.weights, A.names, A.levels, A.top.rows] ++ (A.top.parts :: lsL A.below) := by simp [lsF, lsL]
      have e2 : lsF { A with top := { A.top with parts := p } } ++ lsL ({ A.top with parts := p } :: A.below) = [A.nodes, A.weights, A.names, A.levels, A.top.rows] ++ (p :: lsL A.below) := by simp [lsF, lsL]
      show (lsF { A with top := { A.top with parts := p } } ++ lsL ({ A.top with parts := p } :: A.below)).Nodup
      rw [e2]
      rw [e1] at d tp
      obtain ⟨a1, a2, a3⟩ := List.nodup_append.mp d
      refine List.nodup_append.mpr ⟨a1, List.nodup_cons.mpr ⟨fun z => tp p (by simp [z]) rfl, (List.nodup_cons.mp a2).2⟩, fun a ha b hb => ?_⟩
      rcases List.mem_cons.mp hb with rfl | hb
      · exact tp a (List.mem_append_left _ ha)
      · exact a3 a ha b (List.mem_cons_of_mem _ hb)
    frL := fun a ha => by
      rcases hA a ha with rfl | h
      · exact rp
      · exact r.frL a h }
/-- a name more -/
theorem RS.addName (r : RS K B R H sl s A) {p : Addr} (x y : Nat) (hp : H p = none) :
    RS K B (upd R p (.tup [nV x, nV y])) (upd (upd H p (.tup [nV x, nV y])) A.names (.lst ((A.nms ++ [p]).map V.ref))) sl { s with names := s.names ++ [(x, y)] } { A with nms := A.nms ++ [p] } := by
  have sH : Same H (upd H p (.tup [nV x, nV y])) := Same.new hp
  have sR : Same R (upd R p (.tup [nV x, nV y])) := Same.new (Same.free r.sub hp)
  have r1 := r.grow (Grow.upd r.sub hp) sH (Same.upd_upd (o := .tup [nV x, nV y]) r.sub)
  obtain ⟨d1, d2⟩ := r.dl
  obtain ⟨n1, n2, n3, n4⟩ := r.nL (x := A.names) (mF (by simp))
  obtain ⟨dxb, hb⟩ := r1.bs.obj
  obtain ⟨dxm, hm⟩ := r1.me
  obtain ⟨⟨dxt, ht⟩, ht2, ht3⟩ := r1.top
  have u : But [A.names] (upd H p (.tup [nV x, nV y])) (upd (upd H p (.tup [nV x, nV y])) A.names (.lst ((A.nms ++ [p]).map V.ref))) := But.upd (by simp)
  exact { r1 with
    bs := { r1.bs with sub := r1.wrote (r1.frL _ (mF (by simp))), obj := ⟨dxb, u _ _ hb (by grind)⟩, nodes := u _ _ r1.bs.nodes (by grind), weights := u _ _ r1.bs.weights (by grind) }
    me := ⟨dxm, u _ _ hm (by grind)⟩
    names := upd_same
    nmat := Paired.snoc r1.nmat (SqT.of upd_same)
    levels := u _ _ r1.levels (by grind)
    top := ⟨⟨dxt, u _ _ ht (by grind)⟩, u _ _ ht2 (by grind), u _ _ ht3 (by grind)⟩
    below := r1.lvs u fun l hl => ⟨by simpa using n4 l hl, by simpa using (d2 l hl A.names (by simp)).1, by simpa using (d2 l hl A.names (by simp)).2⟩ }
/-- a level more: its instance at x, its lists at rows and parts -/
theorem RS.push (r : RS K B R H sl s A) {x dx rows parts : Addr} (cl nm : Option Nat) (sH : Same H H') (hx : H x = none) (hr : H rows = none) (hp : H parts = none) (hne : rows ≠ parts)
    (h1 : H' x = some (.ins (He.ga K "Level") dx (lvF cl nm rows parts))) (h2 : H' rows = some (.lst [])) (h3 : H' parts = some (.lst [])) :
    RS K B R (upd H' A.levels (.lst (refsOf (A.below.reverse ++ [A.top]) ++ [.ref x]))) sl { s with top := ⟨cl, nm, [], []⟩, below := s.top :: s.below } { A with top := ⟨x, rows, parts⟩, below := A.top :: A.below } := by
  have sR : Same R H' := r.sub.trans sH
  have r1 := r.grow (Grow.refl R H) sH sR
  obtain ⟨d1, d2⟩ := r.dl
  obtain ⟨n1, n2, n3, n4⟩ := r.nL (x := A.levels) (mF (by simp))
  obtain ⟨dxb, hb⟩ := r1.bs.obj
  obtain ⟨dxm, hm⟩ := r1.me
  obtain ⟨⟨dxt, ht⟩, ht2, ht3⟩ := r1.top
  have u : But [A.levels] H' (upd H' A.levels (.lst (refsOf (A.below.reverse ++ [A.top]) ++ [.ref x]))) := But.upd (by simp)
  have tO : ∀ a ∈ [sl, A.bd] ++ obL (A.top :: A.below), a ≠ x := fun a ha => by obtain ⟨o, e⟩ := r.there a (.inr ha); exact ne_of_none e hx
  have tr : ∀ a ∈ lsF A ++ lsL (A.top :: A.below), a ≠ rows := fun a ha => by obtain ⟨o, e⟩ := r.there a (.inl ha); exact ne_of_none e hr
  have tp : ∀ a ∈ lsF A ++ lsL (A.top :: A.below), a ≠ parts := fun a ha => by obtain ⟨o, e⟩ := r.there a (.inl ha); exact ne_of_none e hp
  have xl : x ≠ A.levels := fun z => by rw [z, r.levels] at hx; cases hx
  have rl : rows ≠ A.levels := fun z => by rw [z, r.levels] at hr; cases hr
  have pl : parts ≠ A.levels := fun z => by rw [z, r.levels] at hp; cases hp
  exact { ok := r.ok, pl := r.pl, sm := r.sm, tx := r1.tx, nmat := r1.nmat
          bs := { r1.bs with sub := r1.wrote (r1.frL _ (mF (by simp))), obj := ⟨dxb, u _ _ hb (by grind)⟩, nodes := u _ _ r1.bs.nodes (by grind), weights := u _ _ r1.bs.weights (by grind) }
          me := ⟨dxm, u _ _ hm (by grind)⟩
          names := u _ _ r1.names (by grind)
          levels := by rw [upd_same]; simp [refsOf]
          top := ⟨⟨dx, u _ _ h1 (by simpa using xl)⟩, u _ _ h2 (by simpa using rl), u _ _ h3 (by simpa using pl)⟩
          below := .cons ⟨⟨dxt, u _ _ ht (by grind)⟩, u _ _ ht2 (by grind), u _ _ ht3 (by grind)⟩ (r1.lvs u fun l hl => ⟨by simpa using n4 l hl, by simpa using (d2 l hl A.levels (by simp)).1, by simpa using (d2 l hl A.levels (by simp)).2⟩)
          ndL := by
            have e2 : lsF { A with top := ⟨x, rows, parts⟩, below := A.top :: A.below } ++ lsL (⟨x, rows, parts⟩ :: A.top :: A.below) = lsF A ++ (rows :: parts :: lsL (A.top :: A.below)) := by simp [lsF, lsL]
            show (lsF { A with top := ⟨x, rows, parts⟩, below := A.top :: A.below } ++ lsL (⟨x, rows, parts⟩ :: A.top :: A.below)).Nodup
            rw [e2]
            obtain ⟨a1, a2, a3⟩ := List.nodup_append.mp r.ndL
            refine List.nodup_append.mpr ⟨a1, List.nodup_cons.mpr ⟨fun z => ?_, List.nodup_cons.mpr ⟨fun z => tp parts (List.mem_append_right _ z) rfl, a2⟩⟩, fun a ha b hb => ?_⟩
            · rcases List.mem_cons.mp z with z | z
              · exact hne z
              · exact tr rows (List.mem_append_right _ z) rfl
            · rcases List.mem_cons.mp hb with rfl | hb
              · exact tr a (List.mem_append_left _ ha)
              · rcases List.mem_cons.mp hb with rfl | hb
                · exact tp a (List.mem_append_left _ ha)
                · exact a3 a ha b hb
          ndO := by
            have e2 : [sl, A.bd] ++ obL (⟨x, rows, parts⟩ :: A.top :: A.below) = [sl, A.bd] ++ (x :: obL (A.top :: A.below)) := by simp [obL]
            show ([sl, A.bd] ++ obL (⟨x, rows, parts⟩ :: A.top :: A.below)).Nodup
            rw [e2]
            obtain ⟨a1, a2, a3⟩ := List.nodup_append.mp r.ndO
            refine List.nodup_append.mpr ⟨a1, List.nodup_cons.mpr ⟨fun z => tO x (List.mem_append_right _ z) rfl, a2⟩, fun a ha b hb => ?_⟩
            rcases List.mem_cons.mp hb with rfl | hb
            · exact tO a (List.mem_append_left _ ha)
            · exact a3 a ha b hb
          frL := fun a ha => by
            have ha' : a = rows ∨ a = parts ∨ a ∈ lsF A ++ lsL (A.top :: A.below) := by simp [lsF, lsL] at ha ⊢; grind
            rcases ha' with rfl | rfl | h
            · exact Same.free r.sub hr
            · exact Same.free r.sub hp
            · exact r.frL a h
          frO := fun a ha => by
            have ha' : a = x ∨ a ∈ [sl, A.bd] ++ obL (A.top :: A.below) := by simp [obL] at ha ⊢; grind
            rcases ha' with rfl | h
            · exact Same.free r.sub hx
            · exact r.frO a h }
/-- the last level off -/
theorem RS.pop (r : RS K B R H sl s A) {l : LvA} {ls : List LvA} {k : Lv} {ks : List Lv} (ha : A.below = l :: ls) (hs : s.below = k :: ks) :
    RS K B R (upd H A.levels (.lst (refsOf A.below.reverse))) sl { s with top := k, below := ks } { A with top := l, below := ls } := by
  obtain ⟨d1, d2⟩ := r.dl
  obtain ⟨n1, n2, n3, n4⟩ := r.nL (x := A.levels) (mF (by simp))
  obtain ⟨dxb, hb⟩ := r.bs.obj
  obtain ⟨dxm, hm⟩ := r.me
  have u : But [A.levels] H (upd H A.levels (.lst (refsOf A.below.reverse))) := But.upd (by simp)
  have lv := r.lvs u fun l hl => ⟨by simpa using n4 l hl, by simpa using (d2 l hl A.levels (by simp)).1, by simpa using (d2 l hl A.levels (by simp)).2⟩
  rw [ha, hs] at lv
  have lv2 : LvAt K (upd H A.levels (.lst (refsOf A.below.reverse))) l k ∧ Paired (LvAt K (upd H A.levels (.lst (refsOf A.below.reverse)))) ls ks := by
    cases lv with
    | cons a b => exact ⟨by rw [ha]; exact a, by rw [ha]; exact b⟩
  have eL : lsF A ++ lsL (A.top :: A.below) = lsF A ++ (A.top.rows :: A.top.parts :: lsL (l :: ls)) := by rw [ha]; simp [lsL]
  have eO : [sl, A.bd] ++ obL (A.top :: A.below) = [sl, A.bd] ++ (A.top.obj :: obL (l :: ls)) := by rw [ha]; simp [obL]
  have hL := r.ndL
  have hO := r.ndO
  rw [eL] at hL
  rw [eO] at hO
  obtain ⟨a1, a2, a3⟩ := List.nodup_append.mp hL
  obtain ⟨b1, b2, b3⟩ := List.nodup_append.mp hO
  exact { ok := r.ok, pl := r.pl, sm := r.sm, tx := r.tx, nmat := r.nmat
          bs := { r.bs with sub := r.wrote (r.frL _ (mF (by simp))), obj := ⟨dxb, u _ _ hb (by grind)⟩, nodes := u _ _ r.bs.nodes (by grind), weights := u _ _ r.bs.weights (by grind) }
          me := ⟨dxm, u _ _ hm (by grind)⟩
          names := u _ _ r.names (by grind)
          levels := by rw [upd_same, ha]; simp
          top := lv2.1
          below := lv2.2
          ndL := List.nodup_append.mpr ⟨a1, (List.nodup_cons.mp (List.nodup_cons.mp a2).2).2, fun a h b h' => a3 a h b (List.mem_cons_of_mem _ (List.mem_cons_of_mem _ h'))⟩
          ndO := List.nodup_append.mpr ⟨b1, (List.nodup_cons.mp b2).2, fun a h b h' => b3 a h b (List.mem_cons_of_mem _ h')⟩
          frL := fun a h => r.frL a (by rw [eL]; rcases List.mem_append.mp h with h | h; exact List.mem_append_left _ h; exact List.mem_append_right _ (List.mem_cons_of_mem _ (List.mem_cons_of_mem _ h)))
          frO := fun a h => r.frO a (by rw [eO]; rcases List.mem_append.mp h with h | h; exact List.mem_append_left _ h; exact List.mem_append_right _ (List.mem_cons_of_mem _ h)) }
end
end Mi
/-! S4: promises of the reader's methods. -/
namespace Mi
open PySem PySem.Spec PyProof.Rows L2
def sp_Level___init__ (K : Ky) : Sp := fun vs H Q _ => ∃ (x dx : Addr) (cl nm : Option Nat), vs = [.ref x, oV cl, oV nm] ∧ H x = some (.ins (He.ga K "Level") dx []) ∧
  ∀ (H' : Hp) (rows parts : Addr), H rows = none → H parts = none → rows ≠ parts → H' x = some (.ins (He.ga K "Level") dx (lvF cl nm rows parts)) → H' rows = some (.lst []) → H' parts = some (.lst []) → But [x] H H' → Q .non H'
def sp_PatternReader___init__ (K : Ky) : Sp := fun vs H Q _ => ∃ (R : Hp) (a t dx : Addr) (B : Bs), vs = [.ref a, .ref t] ∧ H a = some (.ins (He.ga K "PatternReader") dx []) ∧ R a = none ∧ Same R H ∧ SqL K R t (nsV B) ∧ Ok B ∧ B.length ≤ 1000 ∧
  ∀ (H' : Hp) (A' : Ads), RS K B R H' a St.fresh A' → Go R H R H' → H A'.nodes = none → H A'.names = none → A'.nodes ≠ A'.names → Q .non H'
def sp_PatternReader_byte (K : Ky) : Sp := fun vs H Q E => ∃ (R : Hp) (B : Bs) (sl : Addr) (s : St) (A : Ads), vs = [.ref sl] ∧ RS K B R H sl s A ∧ Ret K E (byte B s.place) fun c => Q (nV c) H
def sp_PatternReader_bar_from (K : Ky) : Sp := fun vs H Q E => ∃ (R : Hp) (B : Bs) (sl : Addr) (s : St) (A : Ads) (b : Bool), vs = [.ref sl, .bl b] ∧ RS K B R H sl s A ∧ (b = false → Flt K E (2, s.place)) ∧ (b = true → Q .non H)
def sp_PatternReader_level (K : Ky) : Sp := fun vs H Q _ => ∃ (R : Hp) (B : Bs) (sl : Addr) (s : St) (A : Ads), vs = [.ref sl] ∧ RS K B R H sl s A ∧ Q (.ref A.top.obj) H
def sp_PatternReader_add (K : Ky) : Sp := fun vs H Q _ => ∃ (R : Hp) (B : Bs) (sl : Addr) (s : St) (A : Ads) (n : Nat), vs = [.ref sl, nV n] ∧ RS K B R H sl s A ∧ s.top.parts.length < 100000 ∧ RSQ K B R H sl A (s.add n) .non Q
/-- what end_row asks -/
structure RowOk (s : St) : Prop where
  ix : ∀ i ∈ s.top.parts, i < s.bd.nodes.length
  small : s.bd.nodes.length + s.top.parts.length + 1 < 100000
  rows : s.top.rows.length < 100000
def sp_PatternReader_end_row (K : Ky) : Sp := fun vs H Q _ => ∃ (R : Hp) (B : Bs) (sl : Addr) (s : St) (A : Ads), vs = [.ref sl] ∧ RS K B R H sl s A ∧ RowOk s ∧ RSQ K B R H sl A s.endRow .non Q
def sp_PatternReader_close (K : Ky) : Sp := fun vs H Q E => ∃ (R : Hp) (B : Bs) (sl : Addr) (s : St) (A : Ads) (c : Nat), vs = [.ref sl, nV c] ∧ RS K B R H sl s A ∧ StOk B s ∧ s.place < B.length ∧ Ret K E (s.close c) fun s' => RSQ K B R H sl A s' .non Q
def sp_PatternReader_is_new_name (K : Ky) : Sp := fun vs H Q _ => ∃ (R : Hp) (B : Bs) (sl : Addr) (s : St) (A : Ads) (l : Addr) (nm : Bs), vs = [.ref sl, .ref l] ∧ RS K B R H sl s A ∧ SqL K H l (nsV nm) ∧ s.names.length ≤ 16 ∧ ∀ H', Same H H' → Q (.bl (isNewName B s.names nm)) H'
def sp_PatternReader_take_name (K : Ky) : Sp := fun vs H Q E => ∃ (R : Hp) (B : Bs) (sl : Addr) (s : St) (A : Ads), vs = [.ref sl] ∧ RS K B R H sl s A ∧ s.names.length ≤ 16 ∧ Ret K E (takeName B s.names s.place) fun x => RSQ K B R H sl A { s with place := x.2, names := s.names ++ [x.1] } .non Q
def sp_PatternReader_open_level (K : Ky) : Sp := fun vs H Q E => ∃ (R : Hp) (B : Bs) (sl : Addr) (s : St) (A : Ads) (c : Nat), vs = [.ref sl, nV c] ∧ RS K B R H sl s A ∧ s.names.length ≤ 16 ∧ s.place < B.length ∧ Ret K E (s.open_ B c) fun s' => RSQ K B R H sl A s' .non Q
def sp_PatternReader_number (K : Ky) : Sp := fun vs H Q E => ∃ (R : Hp) (B : Bs) (sl : Addr) (s : St) (A : Ads), vs = [.ref sl] ∧ RS K B R H sl s A ∧ Ret K E (number B s.place) fun x => RST K B R H sl A { s with place := x.2 } [nV x.1, nV s.place] Q
def sp_PatternReader_numbers (K : Ky) : Sp := fun vs H Q E => ∃ (R : Hp) (B : Bs) (sl : Addr) (s : St) (A : Ads), vs = [.ref sl] ∧ RS K B R H sl s A ∧ Ret K E (numbers B s.place) fun x => RST K B R H sl A { s with place := x.2 } [nV x.1.1, oV x.1.2] Q
def sp_PatternReader_repeat (K : Ky) : Sp := fun vs H Q E => ∃ (R : Hp) (B : Bs) (sl : Addr) (s : St) (A : Ads) (c : Nat), vs = [.ref sl, nV c] ∧ RS K B R H sl s A ∧ StOk B s ∧ s.place < B.length ∧ Ret K E (s.repeat_ B c) fun s' => RSQ K B R H sl A s' .non Q
def sp_PatternReader_class_part (K : Ky) : Sp := fun vs H Q E => ∃ (R : Hp) (B : Bs) (sl : Addr) (s : St) (A : Ads), vs = [.ref sl] ∧ RS K B R H sl s A ∧ Ret K E (classPart B s.place) fun x => RSB K B R H sl A { s with place := x.2 } x.1 Q
def sp_PatternReader_escaped (_ : Ky) : Sp := fun vs H Q _ => ∃ (x : V) (c : Nat), vs = [x, nV c] ∧ Q (oV (escaped c)) H
def sp_PatternReader_plain (K : Ky) : Sp := fun vs H Q E => ∃ (R : Hp) (B : Bs) (sl : Addr) (s : St) (A : Ads), vs = [.ref sl] ∧ RS K B R H sl s A ∧ s.place < B.length ∧ Ret K E (plain B s.place) fun x => RSQ K B R H sl A { s with place := x.2 } (nV x.1) Q
def sp_PatternReader_end_of_part (K : Ky) : Sp := fun vs H Q E => ∃ (R : Hp) (B : Bs) (sl : Addr) (s : St) (A : Ads), vs = [.ref sl] ∧ RS K B R H sl s A ∧ Ret K E (endOfPart B s.place) fun x => RSQ K B R H sl A { s with place := x.2 } (nV x.1) Q
def sp_PatternReader_part (K : Ky) : Sp := fun vs H Q E => ∃ (R : Hp) (B : Bs) (sl : Addr) (s : St) (A : Ads), vs = [.ref sl] ∧ RS K B R H sl s A ∧ Ret K E (part B s.place) fun x => RSB K B R H sl A { s with place := x.2 } (some x.1) Q
/-- an atom: the node nd is added, up to q -/
def RSN (K : Ky) (B : Bs) (R H : Hp) (sl : Addr) (A : Ads) (s : St) (nd : Nd) (q : Nat) (Q : VK) : Prop := RSQ K B R H sl A { s with place := q, bd := (s.bd.added nd 1).1 } (nV (s.bd.added nd 1).2) Q
def sp_PatternReader_value_set (K : Ky) : Sp := fun vs H Q E => ∃ (R : Hp) (B : Bs) (sl : Addr) (s : St) (A : Ads), vs = [.ref sl] ∧ RS K B R H sl s A ∧ s.place < B.length ∧ s.bd.nodes.length < 100000 ∧ Ret K E (valueSet B s.place) fun x => RSN K B R H sl A s (.test x.1.1 x.1.2) x.2 Q
def sp_PatternReader_escape (K : Ky) : Sp := fun vs H Q E => ∃ (R : Hp) (B : Bs) (sl : Addr) (s : St) (A : Ads), vs = [.ref sl] ∧ RS K B R H sl s A ∧ s.place < B.length ∧ s.bd.nodes.length < 100000 ∧ Ret K E (escape B s.place) fun x => RSN K B R H sl A s x.1 x.2 Q
def sp_PatternReader_atom (K : Ky) : Sp := fun vs H Q E => ∃ (R : Hp) (B : Bs) (sl : Addr) (s : St) (A : Ads) (c : Nat), vs = [.ref sl, nV c] ∧ RS K B R H sl s A ∧ s.place < B.length ∧ s.bd.nodes.length < 100000 ∧ Ret K E (atom B s.place c) fun x => RSN K B R H sl A s x.1 x.2 Q
def sp_PatternReader_take (K : Ky) : Sp := fun vs H Q E => ∃ (R : Hp) (B : Bs) (sl : Addr) (s : St) (A : Ads) (c : Nat), vs = [.ref sl, nV c] ∧ RS K B R H sl s A ∧ StOk B s ∧ s.place < B.length ∧ Ret K E (s.take B c) fun s' => RSQ K B R H sl A s' .non Q
def sp_PatternReader_whole (K : Ky) : Sp := fun vs H Q E => ∃ (R : Hp) (B : Bs) (sl : Addr) (s : St) (A : Ads) (r : Except Fl (Bd × Nat × List (Nat × Nat))), vs = [.ref sl] ∧ RS K B R H sl s A ∧ StOk B s ∧ Run B s r ∧ Ret K E r fun x =>
  ∀ (R' H' : Hp) (A' : Ads) (s' : St), RS K B R' H' sl s' A' → Gx R H A R' H' A' → s'.bd = x.1 → s'.names = x.2.2 → x.2.1 < x.1.nodes.length → Q (nV x.2.1) H'
/-! the pattern -/
def ptF (n : Addr) (i : Nat) (nm : Addr) : List (Str × V) := [("nodes", .ref n), ("root", nV i), ("names", .ref nm)]
structure PatAt (K : Ky) (R : Hp) (a : Addr) (b : Bd) (i : Nat) (names : List (Nat × Nat)) : Prop where
  obj : ∃ dx n nm, R a = some (.ins (He.ga K "Pattern") dx (ptF n i nm)) ∧ (∃ nds, R n = some (.lst (nds.map V.ref)) ∧ Paired (NdAt K R) nds b.nodes) ∧ ∃ nms, R nm = some (.lst (nms.map V.ref)) ∧ Paired (PrAt K R) nms names
  root : i < b.nodes.length
  small : b.nodes.length ≤ 100000
structure KPattern (K : Ky) : Prop where
  cl : Cls K (He.ga K "Pattern")
  n_nodes : NoAttr K (He.ga K "Pattern") "nodes"
  n_root : NoAttr K (He.ga K "Pattern") "root"
  n_names : NoAttr K (He.ga K "Pattern") "names"
def sp_Pattern___init__ (K : Ky) : Sp := fun vs H Q _ => ∃ (x dx : Addr) (n r nm : V), vs = [.ref x, n, r, nm] ∧ H x = some (.ins (He.ga K "Pattern") dx []) ∧ Q .non (upd H x (.ins (He.ga K "Pattern") dx [("nodes", n), ("root", r), ("names", nm)]))
def sp_read_pattern (K : Ky) : Sp := fun vs H Q E => ∃ (R : Hp) (t : Addr) (B : Bs) (r : Except Fl (Bd × Nat × List (Nat × Nat))), vs = [.ref t] ∧ Same R H ∧ SqL K R t (nsV B) ∧ Ok B ∧ B.length ≤ 1000 ∧ Run B St.fresh r ∧ Ret K E r fun x =>
  ∀ (R' H' : Hp) (a : Addr), Same R' H' → Go R H R' H' → PatAt K R' a x.1 x.2.1 x.2.2 → Q (.ref a) H'
end Mi
/-! R2: readings, written by gen.py. -/
namespace Mi
open PySem PySem.Spec PyProof.Rows L2
/-- Level.__init__ -/
def t_Level___init__ (K : Ky) (E : XK) : TS :=
  (tSeq (sFld K (tVar 0) (tVar 1) "closing")
    (tSeq (sFld K (tVar 0) (tVar 2) "name")
    (tSeq (sFld K (tVar 0) (tLst tNil) "rows")
    (sFld K (tVar 0) (tLst tNil) "parts"))))
abbrev N_Level___init__ : List Str := ["self", "closing", "name"]
/-- PatternReader.__init__ -/
def t_PatternReader___init__ (K : Ky) (E : XK) : TS :=
  (tSeq (sFld K (tVar 0) (tVar 1) "text")
    (tSeq (sFld K (tVar 0) (tC (.int 0)) "place")
    (tSeq (sFld K (tVar 0) (tMake (He.ga K "Builder") (sp_Builder___init__ K) [] E0 tNil) "builder")
    (tSeq (sFld K (tVar 0) (tLst tNil) "names")
    (tSeq (sFld K (tVar 0) (tLst (tCons (tMake (He.ga K "Level") (sp_Level___init__ K) [] E0 (tCons (tC .non) (tCons (tC .non) tNil))) tNil)) "levels")
    (sFld K (tVar 0) (tC (.bl false)) "has_atom"))))))
abbrev N_PatternReader___init__ : List Str := ["self", "text"]
/-- PatternReader.byte -/
def t_PatternReader_byte (K : Ky) (E : XK) : TS :=
  (tSeq (tIfS (tTest (tOp rEq (tFld K (tVar 0) "place") (tCB (xLen K) (tCons (tFld K (tVar 0) "text") tNil)))) (tRaiseO (He.ga K "Fault") (sp_Fault___init__ K) E (tCons (tC (.int 1)) (tCons (tFld K (tVar 0) "place") tNil))) tNext)
    (tRet (tOp (rIxL K) (tFld K (tVar 0) "text") (tFld K (tVar 0) "place"))))
abbrev N_PatternReader_byte : List Str := ["self"]
/-- PatternReader.bar_from -/
def t_PatternReader_bar_from (K : Ky) (E : XK) : TS :=
  (tIfS (tNot (tB (tVar 1))) (tRaiseO (He.ga K "Fault") (sp_Fault___init__ K) E (tCons (tC (.int 2)) (tCons (tFld K (tVar 0) "place") tNil))) tNext)
abbrev N_PatternReader_bar_from : List Str := ["self", "right"]
/-- PatternReader.level -/
def t_PatternReader_level (K : Ky) (E : XK) : TS :=
  (tRet (tOp (rIxL K) (tFld K (tVar 0) "levels") (tUn (rU fun i => .int (-i)) (tC (.int 1)))))
abbrev N_PatternReader_level : List Str := ["self"]
/-- PatternReader.add -/
def t_PatternReader_add (K : Ky) (E : XK) : TS :=
  (tSeq (tDrop (tBM K "list" rAppend (tFld K (tMeth (He.ga K "PatternReader") "level" (sp_PatternReader_level K) [] E0 (tVar 0) tNil) "parts") (tCons (tVar 1) tNil)))
    (sFld K (tVar 0) (tC (.bl true)) "has_atom"))
abbrev N_PatternReader_add : List Str := ["self", "node"]
/-- PatternReader.end_row -/
def t_PatternReader_end_row (K : Ky) (E : XK) : TS :=
  (tSeq (tAsg (tMeth (He.ga K "PatternReader") "level" (sp_PatternReader_level K) [] E0 (tVar 0) tNil) (gName 1))
    (tSeq (tDrop (tBM K "list" rAppend (tFld K (tVar 1) "rows") (tCons (tMeth (He.ga K "Builder") "row" (sp_Builder_row K) [] E0 (tFld K (tVar 0) "builder") (tCons (tFld K (tVar 1) "parts") tNil)) tNil)))
    (tSeq (sFld K (tVar 1) (tLst tNil) "parts")
    (sFld K (tVar 0) (tC (.bl false)) "has_atom"))))
abbrev N_PatternReader_end_row : List Str := ["self", "level"]
/-- PatternReader.close -/
def t_PatternReader_close (K : Ky) (E : XK) : TS :=
  (tSeq (tDrop (tMeth (He.ga K "PatternReader") "bar_from" (sp_PatternReader_bar_from K) [] E (tVar 0) (tCons (tOp rEq (tFld K (tMeth (He.ga K "PatternReader") "level" (sp_PatternReader_level K) [] E0 (tVar 0) tNil) "closing") (tVar 1)) tNil)))
    (tSeq (tDrop (tMeth (He.ga K "PatternReader") "end_row" (sp_PatternReader_end_row K) [] E0 (tVar 0) tNil))
    (tSeq (tAsg (tBM0 K "list" rPop (tFld K (tVar 0) "levels")) (gName 2))
    (tSeq (tAsg (tMeth (He.ga K "Builder") "one_of" (sp_Builder_one_of K) [] E0 (tFld K (tVar 0) "builder") (tCons (tFld K (tVar 2) "rows") tNil)) (gName 3))
    (tSeq (tIfS (tTest (tOp xNotN (tFld K (tVar 2) "name") (tC .non))) (tAsg (tMeth (He.ga K "Builder") "named" (sp_Builder_named K) [] E0 (tFld K (tVar 0) "builder") (tCons (tVar 3) (tCons (tFld K (tVar 2) "name") tNil))) (gName 3)) tNext)
    (tSeq (sFld K (tVar 0) (tOp xAdd (tFld K (tVar 0) "place") (tC (.int 1))) "place")
    (tDrop (tMeth (He.ga K "PatternReader") "add" (sp_PatternReader_add K) [] E0 (tVar 0) (tCons (tVar 3) tNil)))))))))
abbrev N_PatternReader_close : List Str := ["self", "byte", "level", "found"]
/-- PatternReader.is_new_name -/
def t_PatternReader_is_new_name (K : Ky) (E : XK) : TS :=
  (tSeq (tIfS (tOr (tTest (tOp xGt (tCB (xLen K) (tCons (tVar 1) tNil)) (tC (.int 32)))) (tTest (tOp rEq (tCB (xLen K) (tCons (tFld K (tVar 0) "names") tNil)) (tC (.int 16))))) (tRet (tC (.bl false))) tNext)
    (tRet (tOp (rNotInD K) (tVar 1) (tLc (iList K (tFld K (tVar 0) "names")) (gTup K 2 (gCons (gName 2) (gCons (gName 3) gNil))) tYes (tSl (rSlL K) (tFld K (tVar 0) "text") (tPart (tVar 2)) (tPart (tOp xAdd (tVar 2) (tVar 3)))) [2, 3]))))
abbrev N_PatternReader_is_new_name : List Str := ["self", "name", "start", "size"]
/-- PatternReader.take_name -/
def t_PatternReader_take_name (K : Ky) (E : XK) : TS :=
  (tSeq (tAsg (tFld K (tVar 0) "place") (gName 1))
    (tSeq (tDrop (tMeth (He.ga K "PatternReader") "bar_from" (sp_PatternReader_bar_from K) [] E (tVar 0) (tCons (tCall (sp_is_small K) [] E0 (tCons (tMeth (He.ga K "PatternReader") "byte" (sp_PatternReader_byte K) [] E (tVar 0) tNil) tNil)) tNil)))
    (tSeq (tWhile (tB (tCall (sp_is_in_name K) [] E0 (tCons (tMeth (He.ga K "PatternReader") "byte" (sp_PatternReader_byte K) [] E (tVar 0) tNil) tNil))) (sFld K (tVar 0) (tOp xAdd (tFld K (tVar 0) "place") (tC (.int 1))) "place"))
    (tSeq (tIfS (tNot (tB (tMeth (He.ga K "PatternReader") "is_new_name" (sp_PatternReader_is_new_name K) [] E0 (tVar 0) (tCons (tSl (rSlL K) (tFld K (tVar 0) "text") (tPart (tVar 1)) (tPart (tFld K (tVar 0) "place"))) tNil)))) (tRaiseO (He.ga K "Fault") (sp_Fault___init__ K) E (tCons (tC (.int 4)) (tCons (tVar 1) tNil))) tNext)
    (tSeq (tDrop (tBM K "list" rAppend (tFld K (tVar 0) "names") (tCons (tTup (tCons (tVar 1) (tCons (tOp xSub (tFld K (tVar 0) "place") (tVar 1)) tNil))) tNil)))
    (tSeq (tDrop (tMeth (He.ga K "PatternReader") "bar_from" (sp_PatternReader_bar_from K) [] E (tVar 0) (tCons (tOp rEq (tMeth (He.ga K "PatternReader") "byte" (sp_PatternReader_byte K) [] E (tVar 0) tNil) (tC (.int 32))) tNil)))
    (sFld K (tVar 0) (tOp xAdd (tFld K (tVar 0) "place") (tC (.int 1))) "place")))))))
abbrev N_PatternReader_take_name : List Str := ["self", "start"]
/-- PatternReader.open_level -/
def t_PatternReader_open_level (K : Ky) (E : XK) : TS :=
  (tSeq (tIfS (tTest (tOp xGt (tCB (xLen K) (tCons (tFld K (tVar 0) "levels") tNil)) (tC (.int 40)))) (tRaiseO (He.ga K "Fault") (sp_Fault___init__ K) E (tCons (tC (.int 5)) (tCons (tFld K (tVar 0) "place") tNil))) tNext)
    (tSeq (sFld K (tVar 0) (tOp xAdd (tFld K (tVar 0) "place") (tC (.int 1))) "place")
    (tSeq (tIfS (tTest (tOp rEq (tVar 1) (tC (.int 40)))) (tDrop (tBM K "list" rAppend (tFld K (tVar 0) "levels") (tCons (tMake (He.ga K "Level") (sp_Level___init__ K) [] E0 (tCons (tC (.int 41)) (tCons (tC .non) tNil))) tNil))) (tSeq (tDrop (tMeth (He.ga K "PatternReader") "take_name" (sp_PatternReader_take_name K) [] E (tVar 0) tNil))
    (tDrop (tBM K "list" rAppend (tFld K (tVar 0) "levels") (tCons (tMake (He.ga K "Level") (sp_Level___init__ K) [] E0 (tCons (tC (.int 62)) (tCons (tOp xSub (tCB (xLen K) (tCons (tFld K (tVar 0) "names") tNil)) (tC (.int 1))) tNil))) tNil)))))
    (sFld K (tVar 0) (tC (.bl false)) "has_atom"))))
abbrev N_PatternReader_open_level : List Str := ["self", "byte"]
/-- PatternReader.number -/
def t_PatternReader_number (K : Ky) (E : XK) : TS :=
  (tSeq (tAsg (tFld K (tVar 0) "place") (gName 1))
    (tSeq (tDrop (tMeth (He.ga K "PatternReader") "bar_from" (sp_PatternReader_bar_from K) [] E (tVar 0) (tCons (tCall (sp_is_figure K) [] E0 (tCons (tMeth (He.ga K "PatternReader") "byte" (sp_PatternReader_byte K) [] E (tVar 0) tNil) tNil)) tNil)))
    (tSeq (tAsg (tOp xSub (tMeth (He.ga K "PatternReader") "byte" (sp_PatternReader_byte K) [] E (tVar 0) tNil) (tC (.int 48))) (gName 2))
    (tSeq (sFld K (tVar 0) (tOp xAdd (tFld K (tVar 0) "place") (tC (.int 1))) "place")
    (tSeq (tWhile (tAnd (tB (tCall (sp_is_figure K) [] E0 (tCons (tMeth (He.ga K "PatternReader") "byte" (sp_PatternReader_byte K) [] E (tVar 0) tNil) tNil))) (tTest (tOp rNe (tOp (rIxL K) (tFld K (tVar 0) "text") (tVar 1)) (tC (.int 48))))) (tSeq (tAsg (tOp xSub (tOp xAdd (tOp xMul (tC (.int 10)) (tVar 2)) (tMeth (He.ga K "PatternReader") "byte" (sp_PatternReader_byte K) [] E (tVar 0) tNil)) (tC (.int 48))) (gName 2))
    (sFld K (tVar 0) (tOp xAdd (tFld K (tVar 0) "place") (tC (.int 1))) "place")))
    (tSeq (tIfS (tTest (tOp xGt (tVar 2) (tC (.int 20)))) (tRaiseO (He.ga K "Fault") (sp_Fault___init__ K) E (tCons (tC (.int 3)) (tCons (tVar 1) tNil))) tNext)
    (tRet (tTup (tCons (tVar 2) (tCons (tVar 1) tNil))))))))))
abbrev N_PatternReader_number : List Str := ["self", "start", "found"]
/-- PatternReader.numbers -/
def t_PatternReader_numbers (K : Ky) (E : XK) : TS :=
  (tSeq (tAsg (tMeth (He.ga K "PatternReader") "number" (sp_PatternReader_number K) [] E (tVar 0) tNil) (gTup K 2 (gCons (gName 1) (gCons (gName 2) gNil))))
    (tSeq (tAsg (tVar 1) (gName 3))
    (tSeq (tIfS (tTest (tOp rEq (tMeth (He.ga K "PatternReader") "byte" (sp_PatternReader_byte K) [] E (tVar 0) tNil) (tC (.int 44)))) (tSeq (sFld K (tVar 0) (tOp xAdd (tFld K (tVar 0) "place") (tC (.int 1))) "place")
    (tSeq (tAsg (tC .non) (gName 3))
    (tSeq (tIfS (tTest (tOp rNe (tMeth (He.ga K "PatternReader") "byte" (sp_PatternReader_byte K) [] E (tVar 0) tNil) (tC (.int 125)))) (tAsg (tMeth (He.ga K "PatternReader") "number" (sp_PatternReader_number K) [] E (tVar 0) tNil) (gTup K 2 (gCons (gName 3) (gCons (gName 2) gNil)))) tNext)
    (tIfS (tAnd (tTest (tOp xNotN (tVar 3) (tC .non))) (tTest (tOp xLt (tVar 3) (tVar 1)))) (tRaiseO (He.ga K "Fault") (sp_Fault___init__ K) E (tCons (tC (.int 3)) (tCons (tVar 2) tNil))) tNext)))) tNext)
    (tSeq (tDrop (tMeth (He.ga K "PatternReader") "bar_from" (sp_PatternReader_bar_from K) [] E (tVar 0) (tCons (tOp rEq (tMeth (He.ga K "PatternReader") "byte" (sp_PatternReader_byte K) [] E (tVar 0) tNil) (tC (.int 125))) tNil)))
    (tSeq (sFld K (tVar 0) (tOp xAdd (tFld K (tVar 0) "place") (tC (.int 1))) "place")
    (tRet (tTup (tCons (tVar 1) (tCons (tVar 3) tNil)))))))))
abbrev N_PatternReader_numbers : List Str := ["self", "least", "start", "most"]
/-- PatternReader.repeat -/
def t_PatternReader_repeat (K : Ky) (E : XK) : TS :=
  (tSeq (tDrop (tMeth (He.ga K "PatternReader") "bar_from" (sp_PatternReader_bar_from K) [] E (tVar 0) (tCons (tFld K (tVar 0) "has_atom") tNil)))
    (tSeq (sFld K (tVar 0) (tOp xAdd (tFld K (tVar 0) "place") (tC (.int 1))) "place")
    (tSeq (tAsg (tTup (tCons (tC (.int 0)) (tCons (tC .non) tNil))) (gTup K 2 (gCons (gName 2) (gCons (gName 3) gNil))))
    (tSeq (tIfS (tTest (tOp rEq (tVar 1) (tC (.int 43)))) (tAsg (tC (.int 1)) (gName 2)) tNext)
    (tSeq (tIfS (tTest (tOp rEq (tVar 1) (tC (.int 63)))) (tAsg (tC (.int 1)) (gName 3)) tNext)
    (tSeq (tIfS (tTest (tOp rEq (tVar 1) (tC (.int 123)))) (tAsg (tMeth (He.ga K "PatternReader") "numbers" (sp_PatternReader_numbers K) [] E (tVar 0) tNil) (gTup K 2 (gCons (gName 2) (gCons (gName 3) gNil)))) tNext)
    (tSeq (tAsg (tFld K (tMeth (He.ga K "PatternReader") "level" (sp_PatternReader_level K) [] E0 (tVar 0) tNil) "parts") (gName 4))
    (tSeq (tDrop (tBM K "list" rAppend (tVar 4) (tCons (tMeth (He.ga K "Builder") "often" (sp_Builder_often K) [] E0 (tFld K (tVar 0) "builder") (tCons (tBM0 K "list" rPop (tVar 4)) (tCons (tVar 2) (tCons (tVar 3) tNil)))) tNil)))
    (sFld K (tVar 0) (tC (.bl false)) "has_atom")))))))))
abbrev N_PatternReader_repeat : List Str := ["self", "byte", "least", "most", "parts"]
/-- PatternReader.class_part -/
def t_PatternReader_class_part (K : Ky) (E : XK) : TS :=
  (tSeq (tIfS (tOr (tTest (tOp rNe (tMeth (He.ga K "PatternReader") "byte" (sp_PatternReader_byte K) [] E (tVar 0) tNil) (tC (.int 92)))) (tTest (tOp rEq (tOp xAdd (tFld K (tVar 0) "place") (tC (.int 1))) (tCB (xLen K) (tCons (tFld K (tVar 0) "text") tNil))))) (tRet (tC .non)) tNext)
    (tSeq (tAsg (tCall (sp_class_bounds K) [] E0 (tCons (tOp (rIxL K) (tFld K (tVar 0) "text") (tOp xAdd (tFld K (tVar 0) "place") (tC (.int 1)))) tNil)) (gName 1))
    (tSeq (tIfS (tTest (tOp xNotN (tVar 1) (tC .non))) (sFld K (tVar 0) (tOp xAdd (tFld K (tVar 0) "place") (tC (.int 2))) "place") tNext)
    (tRet (tVar 1)))))
abbrev N_PatternReader_class_part : List Str := ["self", "found"]
/-- PatternReader.escaped -/
def t_PatternReader_escaped (K : Ky) (E : XK) : TS :=
  (tSeq (tIfS (tTest (tOp (rIn K false) (tVar 1) (tC (.ref (He.ga K "SELF_SIGNS"))))) (tRet (tVar 1)) tNext)
    (tRet (tKGet K (tC (.ref (He.ga K "VALUE_SIGNS"))) (tVar 1))))
abbrev N_PatternReader_escaped : List Str := ["self", "byte"]
/-- PatternReader.plain -/
def t_PatternReader_plain (K : Ky) (E : XK) : TS :=
  (tSeq (tAsg (tCall (sp_value_at K) [] E (tCons (tFld K (tVar 0) "text") (tCons (tFld K (tVar 0) "place") tNil))) (gTup K 2 (gCons (gName 1) (gCons (gName 2) gNil))))
    (tSeq (sFld K (tVar 0) (tOp xAdd (tFld K (tVar 0) "place") (tVar 2)) "place")
    (tRet (tVar 1))))
abbrev N_PatternReader_plain : List Str := ["self", "value", "size"]
/-- PatternReader.end_of_part -/
def t_PatternReader_end_of_part (K : Ky) (E : XK) : TS :=
  (tSeq (tAsg (tMeth (He.ga K "PatternReader") "byte" (sp_PatternReader_byte K) [] E (tVar 0) tNil) (gName 1))
    (tSeq (tIfS (tTest (tOp rEq (tVar 1) (tC (.int 92)))) (tSeq (sFld K (tVar 0) (tOp xAdd (tFld K (tVar 0) "place") (tC (.int 1))) "place")
    (tSeq (tAsg (tMeth (He.ga K "PatternReader") "escaped" (sp_PatternReader_escaped K) [] E0 (tVar 0) (tCons (tMeth (He.ga K "PatternReader") "byte" (sp_PatternReader_byte K) [] E (tVar 0) tNil) tNil)) (gName 2))
    (tSeq (tDrop (tMeth (He.ga K "PatternReader") "bar_from" (sp_PatternReader_bar_from K) [] E (tVar 0) (tCons (tOp xNotN (tVar 2) (tC .non)) tNil)))
    (tSeq (sFld K (tVar 0) (tOp xAdd (tFld K (tVar 0) "place") (tC (.int 1))) "place")
    (tRet (tVar 2)))))) tNext)
    (tSeq (tDrop (tMeth (He.ga K "PatternReader") "bar_from" (sp_PatternReader_bar_from K) [] E (tVar 0) (tCons (tOp (rIn K true) (tVar 1) (tTup (tCons (tC (.int 93)) (tCons (tC (.int 91)) (tCons (tC (.int 45)) (tCons (tC (.int 94)) tNil)))))) tNil)))
    (tRet (tMeth (He.ga K "PatternReader") "plain" (sp_PatternReader_plain K) [] E (tVar 0) tNil)))))
abbrev N_PatternReader_end_of_part : List Str := ["self", "byte", "value"]
/-- PatternReader.part -/
def t_PatternReader_part (K : Ky) (E : XK) : TS :=
  (tSeq (tAsg (tFld K (tVar 0) "place") (gName 1))
    (tSeq (tAsg (tMeth (He.ga K "PatternReader") "class_part" (sp_PatternReader_class_part K) [] E (tVar 0) tNil) (gName 2))
    (tSeq (tIfS (tTest (tOp xNotN (tVar 2) (tC .non))) (tRet (tVar 2)) tNext)
    (tSeq (tAsg (tMeth (He.ga K "PatternReader") "end_of_part" (sp_PatternReader_end_of_part K) [] E (tVar 0) tNil) (gName 3))
    (tSeq (tIfS (tTest (tOp rNe (tMeth (He.ga K "PatternReader") "byte" (sp_PatternReader_byte K) [] E (tVar 0) tNil) (tC (.int 45)))) (tRet (tLst (tCons (tTup (tCons (tVar 3) (tCons (tVar 3) tNil))) tNil))) tNext)
    (tSeq (sFld K (tVar 0) (tOp xAdd (tFld K (tVar 0) "place") (tC (.int 1))) "place")
    (tSeq (tAsg (tMeth (He.ga K "PatternReader") "end_of_part" (sp_PatternReader_end_of_part K) [] E (tVar 0) tNil) (gName 4))
    (tSeq (tIfS (tTest (tOp xGt (tVar 3) (tVar 4))) (tRaiseO (He.ga K "Fault") (sp_Fault___init__ K) E (tCons (tC (.int 6)) (tCons (tVar 1) tNil))) tNext)
    (tRet (tLst (tCons (tTup (tCons (tVar 3) (tCons (tVar 4) tNil))) tNil)))))))))))
abbrev N_PatternReader_part : List Str := ["self", "start", "bounds", "low", "high"]
/-- PatternReader.value_set -/
def t_PatternReader_value_set (K : Ky) (E : XK) : TS :=
  (tSeq (sFld K (tVar 0) (tOp xAdd (tFld K (tVar 0) "place") (tC (.int 1))) "place")
    (tSeq (tAsg (tOp rEq (tMeth (He.ga K "PatternReader") "byte" (sp_PatternReader_byte K) [] E (tVar 0) tNil) (tC (.int 94))) (gName 1))
    (tSeq (tIfS (tB (tVar 1)) (sFld K (tVar 0) (tOp xAdd (tFld K (tVar 0) "place") (tC (.int 1))) "place") tNext)
    (tSeq (tAsg (tMeth (He.ga K "PatternReader") "part" (sp_PatternReader_part K) [] E (tVar 0) tNil) (gName 2))
    (tSeq (tWhile (tTest (tOp rNe (tMeth (He.ga K "PatternReader") "byte" (sp_PatternReader_byte K) [] E (tVar 0) tNil) (tC (.int 93)))) (tAsg (tOp rCat (tVar 2) (tMeth (He.ga K "PatternReader") "part" (sp_PatternReader_part K) [] E (tVar 0) tNil)) (gName 2)))
    (tSeq (sFld K (tVar 0) (tOp xAdd (tFld K (tVar 0) "place") (tC (.int 1))) "place")
    (tRet (tMeth (He.ga K "Builder") "test" (sp_Builder_test K) [] E0 (tFld K (tVar 0) "builder") (tCons (tVar 2) (tCons (tVar 1) tNil))))))))))
abbrev N_PatternReader_value_set : List Str := ["self", "is_turned", "bounds"]
/-- PatternReader.escape -/
def t_PatternReader_escape (K : Ky) (E : XK) : TS :=
  (tSeq (sFld K (tVar 0) (tOp xAdd (tFld K (tVar 0) "place") (tC (.int 1))) "place")
    (tSeq (tAsg (tMeth (He.ga K "PatternReader") "byte" (sp_PatternReader_byte K) [] E (tVar 0) tNil) (gName 1))
    (tSeq (tAsg (tMeth (He.ga K "PatternReader") "escaped" (sp_PatternReader_escaped K) [] E0 (tVar 0) (tCons (tVar 1) tNil)) (gName 2))
    (tSeq (tAsg (tCall (sp_class_bounds K) [] E0 (tCons (tVar 1) tNil)) (gName 3))
    (tSeq (tIfS (tTest (tOp xNotN (tVar 2) (tC .non))) (tAsg (tLst (tCons (tTup (tCons (tVar 2) (tCons (tVar 2) tNil))) tNil)) (gName 3)) tNext)
    (tSeq (tDrop (tMeth (He.ga K "PatternReader") "bar_from" (sp_PatternReader_bar_from K) [] E (tVar 0) (tCons (tOrV (tOp xNotN (tVar 3) (tC .non)) (tOp rEq (tVar 1) (tC (.int 98)))) tNil)))
    (tSeq (sFld K (tVar 0) (tOp xAdd (tFld K (tVar 0) "place") (tC (.int 1))) "place")
    (tSeq (tIfS (tTest (tOp xIsN (tVar 3) (tC .non))) (tRet (tMeth (He.ga K "Builder") "sign" (sp_Builder_sign K) [] E0 (tFld K (tVar 0) "builder") (tCons (tC (.str "edge")) tNil))) tNext)
    (tRet (tMeth (He.ga K "Builder") "test" (sp_Builder_test K) [] E0 (tFld K (tVar 0) "builder") (tCons (tVar 3) (tCons (tC (.bl false)) tNil))))))))))))
abbrev N_PatternReader_escape : List Str := ["self", "byte", "value", "bounds"]
/-- PatternReader.atom -/
def t_PatternReader_atom (K : Ky) (E : XK) : TS :=
  (tSeq (tIfS (tTest (tOp rEq (tVar 1) (tC (.int 91)))) (tRet (tMeth (He.ga K "PatternReader") "value_set" (sp_PatternReader_value_set K) [] E (tVar 0) tNil)) tNext)
    (tSeq (tIfS (tTest (tOp rEq (tVar 1) (tC (.int 92)))) (tRet (tMeth (He.ga K "PatternReader") "escape" (sp_PatternReader_escape K) [] E (tVar 0) tNil)) tNext)
    (tSeq (tIfS (tOr (tTest (tOp rEq (tVar 1) (tC (.int 94)))) (tTest (tOp rEq (tVar 1) (tC (.int 36))))) (tSeq (sFld K (tVar 0) (tOp xAdd (tFld K (tVar 0) "place") (tC (.int 1))) "place")
    (tRet (tMeth (He.ga K "Builder") "sign" (sp_Builder_sign K) [] E0 (tFld K (tVar 0) "builder") (tCons (tOp (rIxL K) (tLst (tCons (tC (.str "begin")) (tCons (tC (.str "end")) tNil))) (tCB xInt1 (tCons (tOp rEq (tVar 1) (tC (.int 36))) tNil))) tNil)))) tNext)
    (tSeq (tIfS (tTest (tOp rEq (tVar 1) (tC (.int 46)))) (tSeq (sFld K (tVar 0) (tOp xAdd (tFld K (tVar 0) "place") (tC (.int 1))) "place")
    (tRet (tMeth (He.ga K "Builder") "test" (sp_Builder_test K) [] E0 (tFld K (tVar 0) "builder") (tCons (tLst (tCons (tTup (tCons (tC (.int 0)) (tCons (tC (.int 1114111)) tNil))) tNil)) (tCons (tC (.bl false)) tNil))))) tNext)
    (tSeq (tAsg (tMeth (He.ga K "PatternReader") "plain" (sp_PatternReader_plain K) [] E (tVar 0) tNil) (gName 2))
    (tRet (tMeth (He.ga K "Builder") "test" (sp_Builder_test K) [] E0 (tFld K (tVar 0) "builder") (tCons (tLst (tCons (tTup (tCons (tVar 2) (tCons (tVar 2) tNil))) tNil)) (tCons (tC (.bl false)) tNil)))))))))
abbrev N_PatternReader_atom : List Str := ["self", "byte", "value"]
/-- PatternReader.take -/
def t_PatternReader_take (K : Ky) (E : XK) : TS :=
  (tIfS (tTest (tOp rEq (tVar 1) (tC (.int 124)))) (tSeq (tDrop (tMeth (He.ga K "PatternReader") "end_row" (sp_PatternReader_end_row K) [] E0 (tVar 0) tNil))
    (sFld K (tVar 0) (tOp xAdd (tFld K (tVar 0) "place") (tC (.int 1))) "place")) (tIfS (tTest (tOp (rIn K false) (tVar 1) (tTup (tCons (tC (.int 41)) (tCons (tC (.int 62)) tNil))))) (tDrop (tMeth (He.ga K "PatternReader") "close" (sp_PatternReader_close K) [] E (tVar 0) (tCons (tVar 1) tNil))) (tIfS (tTest (tOp (rIn K false) (tVar 1) (tTup (tCons (tC (.int 40)) (tCons (tC (.int 60)) tNil))))) (tDrop (tMeth (He.ga K "PatternReader") "open_level" (sp_PatternReader_open_level K) [] E (tVar 0) (tCons (tVar 1) tNil))) (tIfS (tTest (tOp (rIn K false) (tVar 1) (tTup (tCons (tC (.int 42)) (tCons (tC (.int 43)) (tCons (tC (.int 63)) (tCons (tC (.int 123)) tNil))))))) (tDrop (tMeth (He.ga K "PatternReader") "repeat" (sp_PatternReader_repeat K) [] E (tVar 0) (tCons (tVar 1) tNil))) (tSeq (tDrop (tMeth (He.ga K "PatternReader") "bar_from" (sp_PatternReader_bar_from K) [] E (tVar 0) (tCons (tOp (rIn K true) (tVar 1) (tTup (tCons (tC (.int 93)) (tCons (tC (.int 125)) tNil)))) tNil)))
    (tDrop (tMeth (He.ga K "PatternReader") "add" (sp_PatternReader_add K) [] E0 (tVar 0) (tCons (tMeth (He.ga K "PatternReader") "atom" (sp_PatternReader_atom K) [] E (tVar 0) (tCons (tVar 1) tNil)) tNil))))))))
abbrev N_PatternReader_take : List Str := ["self", "byte"]
/-- PatternReader.whole -/
def t_PatternReader_whole (K : Ky) (E : XK) : TS :=
  (tSeq (tWhile (tTest (tOp xLt (tFld K (tVar 0) "place") (tCB (xLen K) (tCons (tFld K (tVar 0) "text") tNil)))) (tDrop (tMeth (He.ga K "PatternReader") "take" (sp_PatternReader_take K) [] E (tVar 0) (tCons (tOp (rIxL K) (tFld K (tVar 0) "text") (tFld K (tVar 0) "place")) tNil))))
    (tSeq (tIfS (tTest (tOp xGt (tCB (xLen K) (tCons (tFld K (tVar 0) "levels") tNil)) (tC (.int 1)))) (tRaiseO (He.ga K "Fault") (sp_Fault___init__ K) E (tCons (tC (.int 1)) (tCons (tFld K (tVar 0) "place") tNil))) tNext)
    (tSeq (tDrop (tMeth (He.ga K "PatternReader") "end_row" (sp_PatternReader_end_row K) [] E0 (tVar 0) tNil))
    (tSeq (tAsg (tMeth (He.ga K "Builder") "one_of" (sp_Builder_one_of K) [] E0 (tFld K (tVar 0) "builder") (tCons (tFld K (tMeth (He.ga K "PatternReader") "level" (sp_PatternReader_level K) [] E0 (tVar 0) tNil) "rows") tNil)) (gName 1))
    (tSeq (tIfS (tTest (tOp xGt (tOp (rIxL K) (tFld K (tFld K (tVar 0) "builder") "weights") (tVar 1)) (tC (.int 200)))) (tRaiseO (He.ga K "Fault") (sp_Fault___init__ K) E (tCons (tC (.int 7)) (tCons (tC (.int 0)) tNil))) tNext)
    (tRet (tVar 1)))))))
abbrev N_PatternReader_whole : List Str := ["self", "found"]
/-- Pattern.__init__ -/
def t_Pattern___init__ (K : Ky) (E : XK) : TS :=
  (tSeq (sFld K (tVar 0) (tVar 1) "nodes")
    (tSeq (sFld K (tVar 0) (tVar 2) "root")
    (sFld K (tVar 0) (tVar 3) "names")))
abbrev N_Pattern___init__ : List Str := ["self", "nodes", "root", "names"]
/-- read_pattern -/
def t_read_pattern (K : Ky) (E : XK) : TS :=
  (tSeq (tAsg (tMake (He.ga K "PatternReader") (sp_PatternReader___init__ K) [] E0 (tCons (tVar 0) tNil)) (gName 1))
    (tSeq (tAsg (tMeth (He.ga K "PatternReader") "whole" (sp_PatternReader_whole K) [] E (tVar 1) tNil) (gName 2))
    (tRet (tMake (He.ga K "Pattern") (sp_Pattern___init__ K) [] E0 (tCons (tFld K (tFld K (tVar 1) "builder") "nodes") (tCons (tVar 2) (tCons (tFld K (tVar 1) "names") tNil)))))))
abbrev N_read_pattern : List Str := ["data", "reader", "root"]
end Mi
/-! U6: the reader's small methods. -/
namespace Mi
open PySem PySem.Spec PyProof.Rows L2
section
variable {K : Ky} {B : Bs} {R H : Hp} {sl : Addr} {s : St} {A : Ads} {σ : L2.St} {D : Ends} {u : TS} {E : XK} {Q : VK} {te t0 : TE} {tA : TA} {vs : List V}
theorem r_meth (r : RS K B R H sl s A) {m : Str} {sp : Sp} (hx : Val te σ H (.ref sl)) (h : AVal tA σ H vs) (q : sp (.ref sl :: vs) H Q E) (hm : (rdF A s.place s.hasAtom).lookup m = none := by rfl) : tMeth (He.ga K "PatternReader") m sp [] E te tA σ H Q := by
  obtain ⟨dx, hm'⟩ := r.me
  exact s_meth hx hm' hm h q
theorem r_methC (r : RS K B R H sl s A) {m : Str} {sp : Sp} (hx : Val te σ H (.ref sl)) (h : tA σ H fun xs H2 => sp (.ref sl :: (xs ++ [])) H2 Q E) (hm : (rdF A s.place s.hasAtom).lookup m = none := by rfl) : tMeth (He.ga K "PatternReader") m sp [] E te tA σ H Q := by
  obtain ⟨dx, hm'⟩ := r.me
  exact hx _ ⟨sl, dx, _, rfl, hm', hm, h⟩
theorem v_place (kp : KPatternReader K) (r : RS K B R H sl s A) (h0 : Val t0 σ H (.ref sl)) : Val (tFld K t0 "place") σ H (nV s.place) := by
  obtain ⟨dx, hm⟩ := r.me
  exact val_fld h0 hm kp.cl kp.n_place rfl
theorem v_text (kp : KPatternReader K) (r : RS K B R H sl s A) (h0 : Val t0 σ H (.ref sl)) : Val (tFld K t0 "text") σ H (.ref A.text) := by
  obtain ⟨dx, hm⟩ := r.me
  exact val_fld h0 hm kp.cl kp.n_text rfl
theorem v_bd (kp : KPatternReader K) (r : RS K B R H sl s A) (h0 : Val t0 σ H (.ref sl)) : Val (tFld K t0 "builder") σ H (.ref A.bd) := by
  obtain ⟨dx, hm⟩ := r.me
  exact val_fld h0 hm kp.cl kp.n_builder rfl
theorem v_names (kp : KPatternReader K) (r : RS K B R H sl s A) (h0 : Val t0 σ H (.ref sl)) : Val (tFld K t0 "names") σ H (.ref A.names) := by
  obtain ⟨dx, hm⟩ := r.me
  exact val_fld h0 hm kp.cl kp.n_names rfl
theorem v_levels (kp : KPatternReader K) (r : RS K B R H sl s A) (h0 : Val t0 σ H (.ref sl)) : Val (tFld K t0 "levels") σ H (.ref A.levels) := by
  obtain ⟨dx, hm⟩ := r.me
  exact val_fld h0 hm kp.cl kp.n_levels rfl
theorem v_hasAtom (kp : KPatternReader K) (r : RS K B R H sl s A) (h0 : Val t0 σ H (.ref sl)) : Val (tFld K t0 "has_atom") σ H (.bl s.hasAtom) := by
  obtain ⟨dx, hm⟩ := r.me
  exact val_fld h0 hm kp.cl kp.n_has_atom rfl
theorem RS.text (r : RS K B R H sl s A) : SqL K H A.text (nsV B) := Same.seq r.sub r.tx
theorem v_tlen (kp : KPatternReader K) (r : RS K B R H sl s A) (h0 : Val t0 σ H (.ref sl)) : Val (tCB (xLen K) (tCons (tFld K t0 "text") tNil)) σ H (nV B.length) := by
  have := v_len (v_text kp r h0) r.text
  unfold nsV at this
  rw [List.length_map] at this
  exact this
theorem v_tix (kp : KPatternReader K) (r : RS K B R H sl s A) (h0 : Val t0 σ H (.ref sl)) {i c : Nat} (h1 : Val te σ H (nV i)) (hc : B[i]? = some c) : Val (tOp (rIxL K) (tFld K t0 "text") te) σ H (nV c) :=
  v_ix (v_text kp r h0) h1 r.text (at_n hc)
theorem putF_place {A : Ads} {p q : Nat} {a : Bool} : putF "place" (nV q) (rdF A p a) = rdF A q a := rfl
/-- self.place = .. -/
theorem q_place (kp : KPatternReader K) (r : RS K B R H sl s A) {p : Nat} (h0 : Val t0 σ H (.ref sl)) (hv : Val te σ H (nV p)) (hp : p ≤ B.length) (q : ∀ H', RS K B R H' sl { s with place := p } A → Gx R H A R H' A → u D σ H') : tSeq (sFld K t0 te "place") u D σ H := by
  obtain ⟨dx, hm⟩ := r.me
  exact q_fld hv h0 hm kp.cl kp.n_place (by show 6 < 1000; decide) putF_place (q _ (r.put_self p s.hasAtom hp) Gx.upd)
theorem l_place (kp : KPatternReader K) (r : RS K B R H sl s A) {p : Nat} (h0 : Val t0 σ H (.ref sl)) (hv : Val te σ H (nV p)) (hp : p ≤ B.length) (q : ∀ H', RS K B R H' sl { s with place := p } A → Gx R H A R H' A → D.nx σ H') : sFld K t0 te "place" D σ H := by
  obtain ⟨dx, hm⟩ := r.me
  exact s_fld hv h0 hm kp.cl kp.n_place (by show 6 < 1000; decide) putF_place (q _ (r.put_self p s.hasAtom hp) Gx.upd)
theorem l_has (kp : KPatternReader K) (r : RS K B R H sl s A) {a : Bool} (h0 : Val t0 σ H (.ref sl)) (hv : Val te σ H (.bl a)) (q : ∀ H', RS K B R H' sl { s with hasAtom := a } A → Gx R H A R H' A → D.nx σ H') : sFld K t0 te "has_atom" D σ H := by
  obtain ⟨dx, hm⟩ := r.me
  exact s_fld hv h0 hm kp.cl kp.n_has_atom (by show 6 < 1000; decide) rfl (q _ (r.put_self s.place a r.pl) Gx.upd)
theorem v_place1 (kp : KPatternReader K) (r : RS K B R H sl s A) (h0 : Val t0 σ H (.ref sl)) : Val (tOp xAdd (tFld K t0 "place") (tC (.int 1))) σ H (nV (s.place + 1)) := v_addN (j := 1) (v_place kp r h0) val_c
/-- a method without arguments but itself: what byte gives -/
theorem r_byte (r : RS K B R H sl s A) (h0 : Val t0 σ H (.ref sl)) (q : Ret K E (byte B s.place) fun c => Q (nV c) H) : tMeth (He.ga K "PatternReader") "byte" (sp_PatternReader_byte K) [] E t0 tNil σ H Q :=
  r_meth r h0 a_nil ⟨R, B, sl, s, A, rfl, r, q⟩
end
theorem pure_PatternReader_byte {K : Ky} (kp : KPatternReader K) (vs : List V) (H : Hp) (Q : VK) (E : XK) (h : sp_PatternReader_byte K vs H Q E) : t_PatternReader_byte K E (fin Q) (L2.start N_PatternReader_byte vs) H := by
  obtain ⟨R, B, sl, s, A, rfl, r, qe, q⟩ := h
  have h0 : Val (tVar 0) [some (V.ref sl)] H (.ref sl) := val_var rfl
  refine (s_ifn (t_test (v_eqI (v_place kp r h0) (v_tlen kp r h0))) (fun he => ?_) fun he => ?_)
  · have he' : s.place = B.length := by omega
    refine s_fault (e := (1, s.place)) (a_cons val_c (a_cons (v_place kp r h0) a_nil)) (qe _ ?_)
    unfold byte
    rw [List.getElem?_eq_none (by omega)]
  · have hp := r.pl
    obtain ⟨c, hc⟩ := some_of_lt (B := B) (p := s.place) (by omega)
    refine s_ret (v_tix kp r h0 (v_place kp r h0) hc) (q c ?_)
    unfold byte
    rw [hc]
theorem pure_PatternReader_bar_from {K : Ky} (kp : KPatternReader K) (vs : List V) (H : Hp) (Q : VK) (E : XK) (h : sp_PatternReader_bar_from K vs H Q E) : t_PatternReader_bar_from K E (fin Q) (L2.start N_PatternReader_bar_from vs) H := by
  obtain ⟨R, B, sl, s, A, b, rfl, r, qe, q⟩ := h
  refine s_if (t_not (t_B (val_var (v := .bl b) rfl))) (fun hb => ?_) fun hb => ?_
  · exact s_fault (e := (2, s.place)) (a_cons val_c (a_cons (v_place kp r (val_var rfl)) a_nil)) (qe (by simpa using hb))
  · exact q (by simpa using hb)
theorem RS.lv {K : Ky} {B : Bs} {R H : Hp} {sl : Addr} {s : St} {A : Ads} (r : RS K B R H sl s A) : atI (refsOf (A.below.reverse ++ [A.top])) (-1) = some (.ref A.top.obj) := by
  unfold refsOf
  rw [List.map_append]
  exact atI_last _ _
theorem pure_PatternReader_level {K : Ky} (kp : KPatternReader K) (vs : List V) (H : Hp) (Q : VK) (E : XK) (h : sp_PatternReader_level K vs H Q E) : t_PatternReader_level K E (fin Q) (L2.start N_PatternReader_level vs) H := by
  obtain ⟨R, B, sl, s, A, rfl, r, q⟩ := h
  exact s_ret (v_ix (v_levels kp r (val_var rfl)) (v_neg val_c) (SqL.of r.levels) r.lv) q
/-- self.level() -/
theorem r_level {K : Ky} {B : Bs} {R H : Hp} {sl : Addr} {s : St} {A : Ads} {σ : L2.St} {t0 : TE} (r : RS K B R H sl s A) (h0 : Val t0 σ H (.ref sl)) : Val (tMeth (He.ga K "PatternReader") "level" (sp_PatternReader_level K) [] E0 t0 tNil) σ H (.ref A.top.obj) :=
  fun Q q => r_meth r h0 a_nil ⟨R, B, sl, s, A, rfl, r, q⟩
theorem v_lvParts {K : Ky} (kl : KLevel K) {H : Hp} {l : LvA} {v : Lv} {σ : L2.St} {t0 : TE} (h : LvAt K H l v) (h0 : Val t0 σ H (.ref l.obj)) : Val (tFld K t0 "parts") σ H (.ref l.parts) := by
  obtain ⟨⟨dx, ho⟩, _⟩ := h
  exact val_fld h0 ho kl.cl kl.n_parts rfl
theorem v_lvRows {K : Ky} (kl : KLevel K) {H : Hp} {l : LvA} {v : Lv} {σ : L2.St} {t0 : TE} (h : LvAt K H l v) (h0 : Val t0 σ H (.ref l.obj)) : Val (tFld K t0 "rows") σ H (.ref l.rows) := by
  obtain ⟨⟨dx, ho⟩, _⟩ := h
  exact val_fld h0 ho kl.cl kl.n_rows rfl
theorem v_lvName {K : Ky} (kl : KLevel K) {H : Hp} {l : LvA} {v : Lv} {σ : L2.St} {t0 : TE} (h : LvAt K H l v) (h0 : Val t0 σ H (.ref l.obj)) : Val (tFld K t0 "name") σ H (oV v.name) := by
  obtain ⟨⟨dx, ho⟩, _⟩ := h
  exact val_fld h0 ho kl.cl kl.n_name rfl
theorem v_lvClosing {K : Ky} (kl : KLevel K) {H : Hp} {l : LvA} {v : Lv} {σ : L2.St} {t0 : TE} (h : LvAt K H l v) (h0 : Val t0 σ H (.ref l.obj)) : Val (tFld K t0 "closing") σ H (oV v.closing) := by
  obtain ⟨⟨dx, ho⟩, _⟩ := h
  exact val_fld h0 ho kl.cl kl.n_closing rfl
theorem nsV_snoc (l : List Nat) (x : Nat) : nsV l ++ [nV x] = nsV (l ++ [x]) := by unfold nsV; rw [List.map_append]; rfl
theorem nsV_len (l : List Nat) : (nsV l).length = l.length := by unfold nsV; exact List.length_map ..
theorem pure_PatternReader_add {K : Ky} (kp : KPatternReader K) (kl : KLevel K) (vs : List V) (H : Hp) (Q : VK) (E : XK) (h : sp_PatternReader_add K vs H Q E) : t_PatternReader_add K E (fin Q) (L2.start N_PatternReader_add vs) H := by
  obtain ⟨R, B, sl, s, A, n, rfl, r, hsm, q⟩ := h
  refine q_drop (s_app (v_lvParts kl r.top (r_level r (val_var rfl))) (val_var rfl) r.top.2.2 (by rw [nsV_len]; exact Nat.lt_trans hsm big) ?_)
  rw [nsV_snoc]
  refine l_has kp (r.putParts (s.top.parts ++ [n])) (val_var rfl) val_c fun H' r' g => ?_
  exact q _ _ _ r' (Gx.upd.trans g)
theorem pure_PatternReader_end_row {K : Ky} (kp : KPatternReader K) (kl : KLevel K) (vs : List V) (H : Hp) (Q : VK) (E : XK) (h : sp_PatternReader_end_row K vs H Q E) : t_PatternReader_end_row K E (fin Q) (L2.start N_PatternReader_end_row vs) H := by
  obtain ⟨R, B, sl, s, A, rfl, r, ok, q⟩ := h
  obtain ⟨d1, d2⟩ := r.dl
  obtain ⟨dxb, hb⟩ := r.bs.obj
  refine q_asg (r_level r (val_var rfl)) ?_
  refine q_drop (v_lvRows kl r.top (val_var rfl) _ ⟨.inl ⟨rfl, _, SqL.of r.top.2.1⟩, c_cons ?_⟩)
  refine s_meth (v_bd kp r (val_var rfl)) hb rfl (a_cons (v_lvParts kl r.top (val_var rfl)) a_nil) ⟨R, A.bd, A.nodes, A.weights, A.top.parts, A.nds, s.bd, s.top.parts, rfl, r.bs, r.top.2.2, by grind, by grind, ok.ix, by have := ok.small; omega, fun R1 H1 nds1 B1 g1 u1 => ?_⟩
  have r1 := r.withBd B1 g1 u1
  refine ⟨A.top.rows, nsV s.top.rows, _, rfl, rfl, r1.top.2.1, by rw [nsV_len]; exact Nat.lt_trans ok.rows big, ?_⟩
  rw [nsV_snoc]
  have r2 := r1.putRows (s.top.rows ++ [(s.bd.row s.top.parts).2])
  obtain ⟨⟨dxt, ht⟩, _⟩ := r2.top
  refine q_sfld (s_lst a_nil (by decide) fun p hp => ?_)
  have npt : p ≠ A.top.obj := fun z => by rw [z, show A.top.obj = ({ A with nds := nds1 } : Ads).top.obj from rfl, ht] at hp; cases hp
  refine val_var (v := V.ref A.top.obj) rfl _ ⟨A.top.obj, _, dxt, _, rfl, by rw [upd_ne (Ne.symm npt)]; exact ht, kl.cl, kl.n_parts, by show 4 < 1000; decide, ?_⟩
  have r3 := r2.newParts (dx := dxt) hp
  have there1 : ∀ x o, H x = some o → ∃ o', H1 x = some o' := u1.there2 ⟨_, B1.nodes⟩ ⟨_, B1.weights⟩
  refine l_has kp r3 (val_var rfl) val_c fun H' r' g => ?_
  refine q _ _ _ r' ?_
  exact Gx.trans (A1 := { A with nds := nds1 }) ⟨⟨g1, there1⟩, rfl, rfl⟩ (Gx.trans Gx.upd ⟨(Go.trans Go.upd (Go.trans Go.upd g.go)), g.nodes, g.names⟩)
end Mi
/-! U7: values, parts of a set, numbers. -/
namespace Mi
open PySem PySem.Spec PyProof.Rows L2
/-! ### steps that may raise -/
section
variable {σ : L2.St} {H : Hp} {D : Ends} {Q : VK} {te ta tb tc : TE} {t u v : TS} {tt tt2 : TT} {tA : TA} {P : Bool → Hp → Prop}
theorem q_ifC (h : tt σ H fun b H1 => if b = true then t { D with nx := v D } σ H1 else u { D with nx := v D } σ H1) : tSeq (tIfS tt t u) v D σ H := h
theorem c_ifC (h : tt σ H fun b H1 => if b = true then t D σ H1 else u D σ H1) : tIfS tt t u D σ H := h
theorem c_test (h : te σ H fun x H1 => ∃ b, x = .bl b ∧ P b H1) : tTest te σ H P := h
theorem c_tB (h : te σ H fun x H1 => ∃ b, x = .bl b ∧ P b H1) : tB te σ H P := h
theorem c_or (h : tt σ H fun b H1 => if b = true then P true H1 else tt2 σ H1 P) : tOr tt tt2 σ H P := h
theorem c_and (h : tt σ H fun b H1 => if b = true then tt2 σ H1 P else P false H1) : tAnd tt tt2 σ H P := h
theorem c_not (h : tt σ H fun b H1 => P (!b) H1) : tNot tt σ H P := h
theorem c_call {sp : Sp} {E : XK} (h : tA σ H fun xs H1 => sp (xs ++ []) H1 Q E) : tCall sp [] E tA σ H Q := h
theorem c_whileC (Pv : Nat → L2.St → Hp → Prop) (h0 : ∃ k, Pv k σ H)
    (hs : ∀ k σ H, Pv k σ H → tt σ H fun b H1 => if b = true then ∃ N : L2.St → Hp → Prop, (∀ σ' H', N σ' H' → ∃ m', m' < k ∧ Pv m' σ' H') ∧ t { D with nx := N, ct := N, bk := D.nx } σ H1 else D.nx σ H1) : tWhile tt t D σ H :=
  ⟨fun k σ H => Pv k σ H, h0, hs⟩
end
section
variable {K : Ky} {B : Bs} {R H H' : Hp} {sl : Addr} {s : St} {A : Ads} {σ : L2.St} {D : Ends} {u : TS} {E : XK} {Q : VK} {te tc t0 : TE} {tA : TA} {vs : List V} {e : Fl} {c : Nat} {b : Bool}
theorem eB (r : RS K B R H sl s A) (h0 : Val t0 σ H (.ref sl)) (hb : byte B s.place = .error e) (hf : Flt K E e) : tMeth (He.ga K "PatternReader") "byte" (sp_PatternReader_byte K) [] E t0 tNil σ H Q :=
  r_byte r h0 ⟨fun e' h => (by rw [hb] at h; cases h; exact hf), fun c h => (by rw [hb] at h; cases h)⟩
theorem vB (r : RS K B R H sl s A) (h0 : Val t0 σ H (.ref sl)) (hb : byte B s.place = .ok c) : Val (tMeth (He.ga K "PatternReader") "byte" (sp_PatternReader_byte K) [] E t0 tNil) σ H (nV c) := fun Q q =>
  r_byte r h0 ⟨fun e' h => (by rw [hb] at h; cases h), fun c h => (by rw [hb] at h; cases h; exact q)⟩
theorem bar (r : RS K B R H sl s A) (h0 : Val t0 σ H (.ref sl)) (hv : Val tc σ H (.bl b)) (hf : b = false → Flt K E (2, s.place)) (q : b = true → Q .non H) : tMeth (He.ga K "PatternReader") "bar_from" (sp_PatternReader_bar_from K) [] E t0 (tCons tc tNil) σ H Q :=
  r_meth r h0 (a_cons hv a_nil) ⟨R, B, sl, s, A, b, rfl, r, hf, q⟩
theorem RS.same (r : RS K B R H sl s A) (e : Same H H') : RS K B R H' sl s A := r.grow (Grow.refl R H) e (r.sub.trans e)
theorem Gx.same {R H H' : Hp} {A : Ads} (e : Same H H') : Gx R H A R H' A := ⟨Go.of (Grow.refl _ _) e, rfl, rfl⟩
theorem byte_get (h : byte B s.place = .ok c) : B[s.place]? = some c ∧ s.place < B.length := ⟨(byte_lt h).2, (byte_lt h).1⟩
theorem Ok.c256 (o : Ok B) {p : Nat} (h : byte B p = .ok c) : c < 256 := o.lt (byte_lt h).2
end
theorem pure_PatternReader_plain {K : Ky} (kp : KPatternReader K) (vs : List V) (H : Hp) (Q : VK) (E : XK) (h : sp_PatternReader_plain K vs H Q E) : t_PatternReader_plain K E (fin Q) (L2.start N_PatternReader_plain vs) H := by
  obtain ⟨R, B, sl, s, A, rfl, r, hp, qe, q⟩ := h
  unfold plain at q qe
  refine q_asgG (s_call (a_cons (v_text kp r (val_var rfl)) (a_cons (v_place kp r (val_var rfl)) a_nil)) ⟨A.text, B, s.place, rfl, r.ok, r.text, hp, fun v n H1 t hv sH ht ht' => ?_, fun e he => qe _ (by rw [he]; rfl)⟩)
  have hl := valueAt_lt hv hp
  have r1 := r.same sH
  refine c_tup (SqT.of ht') rfl ⟨_, _, rfl, _, _, rfl, rfl, ?_⟩
  refine q_place kp r1 (p := s.place + n) (val_var rfl) (v_addN (v_place kp r1 (val_var rfl)) (val_var rfl)) (by omega) fun H' r2 g2 => ?_
  exact s_ret (val_var rfl) (q (v, s.place + n) (by rw [hv]; rfl) R H' A r2 ((Gx.same sH).trans g2))
def KSELF_SIGNS (K : Ky) : Prop := ∀ H : Hp, SqT K H (He.ga K "SELF_SIGNS") (nsV selfSigns)
def KVALUE_SIGNS (K : Ky) : Prop := KDi K (He.ga K "VALUE_SIGNS") [(110, 10), (116, 9)]
theorem inV_ns (c : Nat) (l : List Nat) : inV (nV c) (nsV l) = decide (c ∈ l) := by
  unfold inV nsV
  induction l with
  | nil => rfl
  | cons x r ih =>
    rw [List.map_cons, List.any_cons, ih]
    have e : eqV (nV x) (nV c) = decide (c = x) := by
      show decide ((x : Int) = (c : Int)) = _
      rw [decide_eq_decide]
      omega
    rw [e]
    by_cases h : c = x
    · simp [h]
    · simp [h]
theorem flat_ns (l : List Nat) : (nsV l).all flatV = true := by
  unfold nsV
  induction l with
  | nil => rfl
  | cons x r ih => rw [List.map_cons, List.all_cons, ih]; rfl
theorem v_inK {K : Ky} {σ : L2.St} {H : Hp} {te tt : TE} {c : Nat} {p : Addr} {l : List Nat} (h1 : Val te σ H (nV c)) (h2 : Val tt σ H (.ref p)) (hl : SqT K H p (nsV l)) : Val (tOp (rIn K false) te tt) σ H (.bl (decide (c ∈ l))) :=
  val_op h1 h2 fun Q q => ⟨p, _, rfl, .inr hl, rfl, flat_ns l, by rw [inV_ns]; exact q⟩
/-- x in (..), x not in (..): the tuple is made first -/
theorem c_in {K : Ky} {σ : L2.St} {H : Hp} {te : TE} {tA : TA} {c : Nat} {l : List Nat} {Q : VK} (h1 : Val te σ H (nV c)) (h2 : AVal tA σ H (nsV l)) (hl : l.length ≤ 100) {neg : Bool} (q : ∀ H', Same H H' → Q (.bl (if neg = true then !decide (c ∈ l) else decide (c ∈ l))) H') : tOp (rIn K neg) te (tTup tA) σ H Q := by
  refine c_op (h1 _ (s_tup h2 (by rw [nsV_len]; omega) fun p hp => ?_))
  exact ⟨p, _, rfl, .inr (SqT.of upd_same), rfl, flat_ns l, by rw [inV_ns]; exact q _ (Same.new hp)⟩
theorem pure_PatternReader_escaped {K : Ky} (k1 : KSELF_SIGNS K) (k2 : KVALUE_SIGNS K) (vs : List V) (H : Hp) (Q : VK) (E : XK) (h : sp_PatternReader_escaped K vs H Q E) : t_PatternReader_escaped K E (fin Q) (L2.start N_PatternReader_escaped vs) H := by
  obtain ⟨x, c, rfl, q⟩ := h
  unfold escaped at q
  refine (s_ifn (t_test (v_inK (val_var rfl) val_c (k1 H))) (fun he => ?_) fun he => ?_)
  · rw [if_pos he] at q
    exact s_ret (val_var rfl) q
  · rw [if_neg he] at q
    refine c_ret (val_c (v := .ref (He.ga K "VALUE_SIGNS")) _ ⟨_, _, rfl, k2, val_var (v := nV c) rfl _ ⟨c, rfl, ?_⟩⟩)
    have e : getI [(110, 10), (116, 9)] (c : Int) = oV (if c = 110 then some 10 else if c = 116 then some 9 else none) := by
      unfold getI
      rw [List.lookup_cons]
      by_cases h1 : c = 110
      · subst h1; rfl
      · have z : ((c : Int) == 110) = false := by simp; omega
        rw [z, if_neg h1, List.lookup_cons]
        by_cases h2 : c = 116
        · subst h2; rfl
        · have z : ((c : Int) == 116) = false := by simp; omega
          rw [z, if_neg h2]; rfl
    rw [e]
    exact q
theorem v_esc {K : Ky} {H : Hp} {σ : L2.St} {t0 te : TE} {R : Hp} {B : Bs} {sl : Addr} {s : St} {A : Ads} {c : Nat} (r : RS K B R H sl s A) (h0 : Val t0 σ H (.ref sl)) (h1 : Val te σ H (nV c)) : Val (tMeth (He.ga K "PatternReader") "escaped" (sp_PatternReader_escaped K) [] E0 t0 (tCons te tNil)) σ H (oV (escaped c)) := fun Q q =>
  r_meth r h0 (a_cons h1 a_nil) ⟨_, c, rfl, q⟩
theorem oV_isN (o : Option Nat) : decide (oV o = .non) = o.isNone := by cases o <;> rfl
theorem v_notNo {σ : L2.St} {H : Hp} {te : TE} {o : Option Nat} (h : Val te σ H (oV o)) : Val (tOp xNotN te (tC .non)) σ H (.bl o.isSome) := by
  have := v_notN h
  rw [oV_isN] at this
  cases o <;> exact this
theorem pure_PatternReader_end_of_part {K : Ky} (kp : KPatternReader K) (vs : List V) (H : Hp) (Q : VK) (E : XK) (h : sp_PatternReader_end_of_part K vs H Q E) : t_PatternReader_end_of_part K E (fin Q) (L2.start N_PatternReader_end_of_part vs) H := by
  obtain ⟨R, B, sl, s, A, rfl, r, qe, q⟩ := h
  unfold endOfPart at q qe
  cases hb : byte B s.place with
  | error e => rw [hb] at qe; exact q_asgC (eB r (val_var rfl) hb (qe _ rfl))
  | ok c =>
    rw [hb] at q qe
    dsimp only at q qe
    obtain ⟨hg, hl⟩ := byte_get hb
    refine q_asg (vB r (val_var rfl) hb) ?_
    refine (s_ifn (t_test (v_eqI (val_var rfl) val_c)) (fun he => ?_) fun he => ?_)
    · rw [if_pos (by omega)] at q qe
      refine q_place kp r (p := s.place + 1) (val_var rfl) (v_place1 kp r (val_var rfl)) (by omega) fun H1 r1 g1 => ?_
      cases hb1 : byte B (s.place + 1) with
      | error e =>
        rw [hb1] at qe
        exact q_asgC (r_methC r1 (val_var rfl) (c_cons (eB r1 (val_var rfl) hb1 (qe _ rfl))))
      | ok d =>
        rw [hb1] at q qe
        dsimp only at q qe
        obtain ⟨hg1, hl1⟩ := byte_get (s := { s with place := s.place + 1 }) hb1
        refine q_asg (v_esc r1 (val_var rfl) (vB r1 (val_var rfl) hb1)) ?_
        refine q_drop (bar r1 (val_var rfl) (v_notNo (val_var rfl)) (fun hn => ?_) fun hs => ?_)
        · cases hx : escaped d with
          | none => rw [hx] at qe; exact qe _ rfl
          | some v => rw [hx] at hn; cases hn
        · cases hx : escaped d with
          | none => rw [hx] at hs; cases hs
          | some v =>
            rw [hx] at q
            refine q_place kp r1 (p := s.place + 2) (val_var rfl) (v_place1 kp r1 (val_var rfl)) hl1 fun H2 r2 g2 => ?_
            exact s_ret (val_var rfl) (q _ rfl _ _ _ r2 (g1.trans g2))
    · rw [if_neg (by omega)] at q qe
      refine q_drop (r_methC r (val_var rfl) (c_cons (c_in (l := [93, 91, 45, 94]) (val_var rfl) (a_cons val_c (a_cons val_c (a_cons val_c (a_cons val_c a_nil)))) (by decide) fun H1 sH => ?_)))
      have r1 := r.same sH
      refine ⟨R, B, sl, s, A, _, rfl, r1, fun hb => ?_, fun hb => ?_⟩
      · have hm : c ∈ [93, 91, 45, 94] := by
          by_cases z : c ∈ [93, 91, 45, 94]
          · exact z
          · rw [decide_eq_false z] at hb; cases hb
        rw [if_pos hm] at qe
        exact qe _ rfl
      · have hm : ¬ c ∈ [93, 91, 45, 94] := by
          intro z
          rw [decide_eq_true z] at hb; cases hb
        rw [if_neg hm] at q qe
        refine c_ret (r_meth r1 (val_var rfl) a_nil ⟨R, B, sl, s, A, rfl, r1, hl, qe, fun x hx R' H' A' r' g' => ?_⟩)
        exact q x hx R' H' A' r' ((Gx.same sH).trans g')
end Mi
/-! U8: parts of sets, numbers. -/
namespace Mi
open PySem PySem.Spec PyProof.Rows L2
theorem s_classB {K : Ky} {R H : Hp} {σ : L2.St} {te : TE} {c : Nat} {Q : VK} (hs : Same R H) (hv : Val te σ H (nV c)) (q : ∀ R' H' v, Same R' H' → Grow R R' H → Same H H' → BnO K R' (classBounds c) v → Q v H') : tCall (sp_class_bounds K) [] E0 (tCons te tNil) σ H Q := by
  refine s_call (a_cons hv a_nil) ⟨R, c, rfl, hs, fun hn R' H' s1 g1 s2 => q R' H' _ s1 g1 s2 (by rw [hn]; rfl), fun bs hb R' H' l s1 g1 s2 hl => q R' H' _ s1 g1 s2 (by rw [hb]; exact ⟨l, rfl, hl⟩)⟩
theorem bnO_isN {K : Ky} {R : Hp} {o : Option Bnds} {v : V} (h : BnO K R o v) : decide (v = .non) = o.isNone := by
  cases o with
  | none => cases h; rfl
  | some bs => obtain ⟨l, rfl, _⟩ := h; rfl
theorem v_notNb {K : Ky} {R : Hp} {σ : L2.St} {H : Hp} {te : TE} {o : Option Bnds} {v : V} (hb : BnO K R o v) (h : Val te σ H v) : Val (tOp xNotN te (tC .non)) σ H (.bl o.isSome) := by
  have := v_notN h
  rw [bnO_isN hb] at this
  cases o <;> exact this
theorem v_isNb {K : Ky} {R : Hp} {σ : L2.St} {H : Hp} {te : TE} {o : Option Bnds} {v : V} (hb : BnO K R o v) (h : Val te σ H v) : Val (tOp xIsN te (tC .non)) σ H (.bl o.isNone) := by
  have := v_isN h
  rw [bnO_isN hb] at this
  exact this
theorem BnO.mono {K : Ky} {R R' : Hp} (e : Same R R') {o : Option Bnds} {v : V} (h : BnO K R o v) : BnO K R' o v := by
  cases o with
  | none => exact h
  | some bs => obtain ⟨l, h1, h2⟩ := h; exact ⟨l, h1, h2.mono e⟩
theorem v_neI {σ : L2.St} {H : Hp} {ta tb : TE} {i j : Int} (ha : Val ta σ H (.int i)) (hb : Val tb σ H (.int j)) : Val (tOp rNe ta tb) σ H (.bl (decide (i ≠ j))) := by
  have := v_ne ha hb
  have e : (!decide (V.int i = V.int j)) = decide (i ≠ j) := by
    rw [← decide_not, decide_eq_decide]
    exact ⟨fun h z => h (by rw [z]), fun h z => h (V.int.inj z)⟩
  rwa [e] at this
theorem pure_PatternReader_class_part {K : Ky} (kp : KPatternReader K) (vs : List V) (H : Hp) (Q : VK) (E : XK) (h : sp_PatternReader_class_part K vs H Q E) : t_PatternReader_class_part K E (fin Q) (L2.start N_PatternReader_class_part vs) H := by
  obtain ⟨R, B, sl, s, A, rfl, r, qe, q⟩ := h
  unfold classPart at q qe
  cases hb : byte B s.place with
  | error e => rw [hb] at qe; exact q_ifC (c_or (c_test (c_op (eB r (val_var rfl) hb (qe _ rfl)))))
  | ok c =>
    rw [hb] at q qe
    dsimp only at q qe
    obtain ⟨hg, hl⟩ := byte_get hb
    refine s_ifnb (t_or (t_test (v_neI (vB r (val_var rfl) hb) val_c)) fun _ => t_test (v_eqI (v_place1 kp r (val_var rfl)) (v_tlen kp r (val_var rfl)))) (fun he => ?_) fun he => ?_
    · have he' : c ≠ 92 ∨ s.place + 1 = B.length := by
        rcases Bool.or_eq_true_iff.mp he with h | h
        · have := of_decide_eq_true h; left; omega
        · have := of_decide_eq_true h; right; omega
      rw [if_pos he'] at q
      exact s_ret val_c (q _ rfl R H A _ r (Gx.refl _ _ _) rfl)
    · have he' : ¬ (c ≠ 92 ∨ s.place + 1 = B.length) := by
        obtain ⟨h1, h2⟩ := Bool.or_eq_false_iff.mp he
        have h1 := of_decide_eq_false h1
        have h2 := of_decide_eq_false h2
        omega
      rw [if_neg he'] at q qe
      obtain ⟨d, hd⟩ := some_of_lt (B := B) (p := s.place + 1) (by omega)
      rw [getD_of hd] at q
      refine q_asgC (s_classB r.sub (v_tix kp r (val_var rfl) (v_place1 kp r (val_var rfl)) hd) fun R1 H1 v s1 g1 s2 hv => ?_)
      have r1 := r.grow g1 s2 s1
      refine s_ifnb (t_test (v_notNb hv (val_var rfl))) (fun hs => ?_) fun hs => ?_
      · cases ho : classBounds d with
        | none => rw [ho] at hs; cases hs
        | some bs =>
          rw [ho] at q hv
          refine l_place kp r1 (p := s.place + 2) (val_var rfl) (v_addN (j := 2) (v_place kp r1 (val_var rfl)) val_c) (by omega) fun H2 r2 g2 => ?_
          exact s_ret (val_var rfl) (q _ rfl R1 H2 A v r2 (Gx.trans ⟨Go.of g1 s2, rfl, rfl⟩ g2) hv)
      · cases ho : classBounds d with
        | some bs => rw [ho] at hs; cases hs
        | none =>
          rw [ho] at q hv
          exact s_ret (val_var rfl) (q _ rfl R1 H1 A v r1 ⟨Go.of g1 s2, rfl, rfl⟩ hv)
/-- [(x, y)] -/
theorem s_pair1 {K : Ky} {R H : Hp} {σ : L2.St} {t1 t2 : TE} {x y : Nat} {Q : VK} (hs : Same R H) (h1 : Val t1 σ H (nV x)) (h2 : Val t2 σ H (nV y)) (q : BnQ K R H [(x, y)] Q) : tLst (tCons (tTup (tCons t1 (tCons t2 tNil))) tNil) σ H Q := by
  refine c_cons (s_tup (a_cons h1 (a_cons h2 a_nil)) (by show 2 ≤ 1000; decide) fun p hp => ?_)
  refine ⟨by show 1 ≤ _; rw [sizeLine_eq]; decide, fun l hl => ?_⟩
  have s1 : Same H (upd H p (.tup [nV x, nV y])) := Same.new hp
  have g1 : Grow R (upd R p (.tup [nV x, nV y])) H := Grow.upd hs hp
  have s2 : Same (upd R p (.tup [nV x, nV y])) (upd H p (.tup [nV x, nV y])) := Same.upd_upd hs
  have hl0 : H l = none := s1.free hl
  refine q (upd (upd R p (.tup [nV x, nV y])) l (.lst [.ref p])) _ l (Same.upd_upd s2) (g1.trans (Grow.upd s2 hl) (Same.there s1)) (s1.trans (Same.new hl)) ⟨[p], upd_same, .cons (SqT.of ?_) .nil⟩
  have : p ≠ l := fun z => by rw [z, upd_same] at hl; cases hl
  rw [upd_ne this, upd_same]
theorem pure_PatternReader_part {K : Ky} (kp : KPatternReader K) (vs : List V) (H : Hp) (Q : VK) (E : XK) (h : sp_PatternReader_part K vs H Q E) : t_PatternReader_part K E (fin Q) (L2.start N_PatternReader_part vs) H := by
  obtain ⟨R, B, sl, s, A, rfl, r, qe, q⟩ := h
  unfold part at q qe
  refine q_asg (v_place kp r (val_var rfl)) ?_
  refine q_asgC (r_meth r (val_var rfl) a_nil ⟨R, B, sl, s, A, rfl, r, fun e he => qe e (by rw [he]), fun x hx R1 H1 A1 v r1 g1 hv => ?_⟩)
  rw [hx] at q qe
  obtain ⟨o, p1⟩ := x
  refine s_ifnb (t_test (v_notNb hv (val_var rfl))) (fun hs => ?_) fun hs => ?_
  · cases o with
    | none => cases hs
    | some bs => exact s_ret (val_var rfl) (q _ rfl R1 H1 A1 v r1 g1 hv)
  cases o with
  | some bs => cases hs
  | none =>
    dsimp only at q qe
    refine q_asgC (r_meth r1 (val_var rfl) a_nil ⟨R1, B, sl, _, A1, rfl, r1, fun e he => qe e (by rw [show endOfPart B p1 = _ from he]), fun x hx R2 H2 A2 r2 g2 => ?_⟩)
    rw [show endOfPart B p1 = _ from hx] at q qe
    obtain ⟨low, p2⟩ := x
    dsimp only at q qe
    cases hb : byte B p2 with
    | error e => rw [hb] at qe; exact q_ifC (c_test (c_op (eB r2 (val_var rfl) hb (qe _ rfl))))
    | ok c =>
      rw [hb] at q qe
      dsimp only at q qe
      have hl := (byte_lt hb).1
      refine (s_ifn (t_test (v_neI (vB r2 (val_var rfl) hb) val_c)) (fun he => ?_) fun he => ?_)
      · rw [if_pos (by omega)] at q
        refine c_ret (s_pair1 (K := K) r2.sub (val_var rfl) (val_var rfl) fun R3 H3 l s1 g3 s2 hl => ?_)
        exact q _ rfl R3 H3 A2 _ (r2.grow g3 s2 s1) ((g1.trans g2).trans ⟨Go.of g3 s2, rfl, rfl⟩) ⟨l, rfl, hl⟩
      · rw [if_neg (by omega)] at q qe
        refine q_place kp r2 (p := p2 + 1) (val_var rfl) (v_place1 kp r2 (val_var rfl)) (by omega) fun H3 r3 g3 => ?_
        refine q_asgC (r_meth r3 (val_var rfl) a_nil ⟨R2, B, sl, _, A2, rfl, r3, fun e he => qe e (by rw [show endOfPart B (p2 + 1) = _ from he]), fun x hx R4 H4 A4 r4 g4 => ?_⟩)
        rw [show endOfPart B (p2 + 1) = _ from hx] at q qe
        obtain ⟨high, p4⟩ := x
        dsimp only at q qe
        refine (s_ifn (t_test (v_i0 (val_var rfl) (val_var rfl))) (fun he => ?_) fun he => ?_)
        · rw [if_pos (by omega)] at qe
          exact s_fault (e := (6, s.place)) (a_cons val_c (a_cons (val_var rfl) a_nil)) (qe _ rfl)
        · rw [if_neg (by omega)] at q
          refine c_ret (s_pair1 (K := K) r4.sub (val_var rfl) (val_var rfl) fun R5 H5 l s1 g5 s2 hl => ?_)
          exact q _ rfl R5 H5 A4 _ (r4.grow g5 s2 s1) ((((g1.trans g2).trans g3).trans g4).trans ⟨Go.of g5 s2, rfl, rfl⟩) ⟨l, rfl, hl⟩
theorem fig_ge {c : Nat} (h : isFigure c = true) : 48 ≤ c := by
  unfold isFigure at h
  exact of_decide_eq_true (Bool.and_eq_true_iff.mp h).1
theorem v_isFig {K : Ky} {σ : L2.St} {H : Hp} {te : TE} {c : Nat} (h : Val te σ H (nV c)) : Val (tCall (sp_is_figure K) [] E0 (tCons te tNil)) σ H (.bl (isFigure c)) := v_call (a_cons h a_nil) fun Q q => ⟨c, rfl, q⟩
theorem v_isSm {K : Ky} {σ : L2.St} {H : Hp} {te : TE} {c : Nat} (h : Val te σ H (nV c)) : Val (tCall (sp_is_small K) [] E0 (tCons te tNil)) σ H (.bl (isSmall c)) := v_call (a_cons h a_nil) fun Q q => ⟨c, rfl, q⟩
theorem v_isIn {K : Ky} {σ : L2.St} {H : Hp} {te : TE} {c : Nat} (h : Val te σ H (nV c)) : Val (tCall (sp_is_in_name K) [] E0 (tCons te tNil)) σ H (.bl (isInName c)) := v_call (a_cons h a_nil) fun Q q => ⟨c, rfl, q⟩
theorem v_subN {σ : L2.St} {H : Hp} {ta tb : TE} {i j : Nat} (ha : Val ta σ H (nV i)) (hb : Val tb σ H (nV j)) (h : j ≤ i) : Val (tOp xSub ta tb) σ H (nV (i - j)) := by
  have := v_i0 (g := fun i j => .int (i - j)) ha hb
  have e : V.int ((i : Int) - (j : Int)) = nV (i - j) := by unfold nV; rw [Int.natCast_sub h]
  rw [← e]
  exact this
theorem v_mulN {σ : L2.St} {H : Hp} {ta tb : TE} {i j : Nat} (ha : Val ta σ H (nV i)) (hb : Val tb σ H (nV j)) (hc : CMul i j) : Val (tOp xMul ta tb) σ H (nV (i * j)) := by
  have := v_mul ha hb hc
  have e : V.int ((i : Int) * (j : Int)) = nV (i * j) := by unfold nV; rw [Int.natCast_mul]
  rw [← e]
  exact this
end Mi
/-! U9: numbers, names. -/
namespace Mi
open PySem PySem.Spec PyProof.Rows L2
theorem byte_of {B : Bs} {p c : Nat} (h : B[p]? = some c) : byte B p = .ok c := by unfold byte; rw [h]
theorem pure_PatternReader_number {K : Ky} (kp : KPatternReader K) (vs : List V) (H : Hp) (Q : VK) (E : XK) (h : sp_PatternReader_number K vs H Q E) : t_PatternReader_number K E (fin Q) (L2.start N_PatternReader_number vs) H := by
  obtain ⟨R, B, sl, s, A, rfl, r, qe, q⟩ := h
  unfold number at q qe
  refine q_asg (v_place kp r (val_var rfl)) ?_
  cases hb : byte B s.place with
  | error e => rw [hb] at qe; exact q_drop (r_methC r (val_var rfl) (c_cons (c_call (c_cons (eB r (val_var rfl) hb (qe _ rfl))))))
  | ok c =>
    rw [hb] at q qe
    dsimp only at q qe
    obtain ⟨hg, hl⟩ := byte_get hb
    refine q_drop (bar r (val_var rfl) (v_isFig (vB r (val_var rfl) hb)) (fun hn => ?_) fun hf => ?_)
    · rw [if_pos hn] at qe; exact qe _ rfl
    rw [if_neg (by rw [hf]; decide)] at q qe
    refine q_asg (v_subN (j := 48) (vB r (val_var rfl) hb) val_c (fig_ge hf)) ?_
    refine q_place kp r (p := s.place + 1) (val_var rfl) (v_place1 kp r (val_var rfl)) (by omega) fun H1 r1 g1 => ?_
    obtain ⟨Z, hZ⟩ : ∃ Z, digGo B s.place (B.length + 1) (c - 48) (s.place + 1) = Z := ⟨_, rfl⟩
    rw [hZ] at q qe
    refine s_seq (c_whileC (fun k σ H' => ∃ p f n, σ = [some (.ref sl), some (nV s.place), some (nV n)] ∧ RS K B R H' sl { s with place := p } A ∧ Gx R H A R H' A ∧ k = B.length - p ∧ p + f ≥ B.length + 1 ∧ digGo B s.place f n p = Z) ⟨_, _, B.length + 1, _, rfl, r1, g1, rfl, by omega, hZ⟩ ?_)
    rintro k σ H' ⟨p, f, n, rfl, r', g', rfl, hf1, hd⟩
    have hp := r'.pl
    obtain ⟨f, rfl⟩ : ∃ f', f = f' + 1 := ⟨f - 1, by have : p ≤ B.length := hp; omega⟩
    unfold digGo at hd
    refine c_and (c_tB (c_call (c_cons ?_)))
    cases hb1 : byte B p with
    | error e =>
      rw [hb1] at hd
      exact eB r' (val_var rfl) hb1 (qe _ (by rw [← hd]))
    | ok d =>
      rw [hb1] at hd
      dsimp only at hd
      have hpl := (byte_lt hb1).1
      refine vB r' (val_var rfl) hb1 _ ⟨d, rfl, _, rfl, ?_⟩
      -- the loop's end
      have end_ : ∀ σ, σ = [some (.ref sl), some (nV s.place), some (nV n)] → (Except.ok (n, p) : Except Fl (Nat × Nat)) = Z → (tSeq (tIfS (tTest (tOp xGt (tVar 2) (tC (.int 20)))) (tRaiseO (He.ga K "Fault") (sp_Fault___init__ K) E (tCons (tC (.int 3)) (tCons (tVar 1) tNil))) tNext) (tRet (tTup (tCons (tVar 2) (tCons (tVar 1) tNil))))) (fin Q) σ H' := by
        rintro σ rfl hd
        rw [← hd] at q qe
        dsimp only at q qe
        refine (s_ifn (t_test (v_i0 (val_var rfl) val_c)) (fun he => ?_) fun he => ?_)
        · rw [if_pos (by omega)] at qe
          exact s_fault (e := (3, s.place)) (a_cons val_c (a_cons (val_var rfl) a_nil)) (qe _ rfl)
        · rw [if_neg (by omega)] at q
          refine c_ret (s_tup (a_cons (val_var rfl) (a_cons (val_var rfl) a_nil)) (by show 2 ≤ 1000; decide) fun t ht => ?_)
          have sH := Same.new (o := .tup [nV n, nV s.place]) ht
          exact q _ rfl _ _ A t (r'.grow (Grow.upd r'.sub ht) sH (Same.upd_upd r'.sub)) (g'.trans ⟨Go.of (Grow.upd r'.sub ht) sH, rfl, rfl⟩) (SqT.of upd_same)
      cases hfd : isFigure d with
      | false =>
        rw [if_neg (by decide)]
        rw [if_neg (by rw [hfd]; intro z; cases z.1)] at hd
        rw [if_neg (by decide)]
        exact end_ _ rfl hd
      | true =>
        rw [if_pos rfl]
        refine c_test (v_neI (v_tix kp r' (val_var rfl) (val_var rfl) hg) val_c _ ⟨_, rfl, ?_⟩)
        by_cases h48 : (c : Int) ≠ 48
        · rw [if_pos (decide_eq_true h48)]
          rw [if_pos ⟨hfd, by rw [getD_of hg]; omega⟩] at hd
          refine ⟨_, fun _ _ z => z, ?_⟩
          have e10 : 10 * n + d - 48 = 10 * n + d - 48 := rfl
          refine q_asg (v_subN (j := 48) (v_addN (v_mulN (i := 10) val_c (val_var rfl) (.inl (by decide))) (vB r' (val_var rfl) hb1)) val_c (by have := fig_ge hfd; omega)) ?_
          refine l_place kp r' (p := p + 1) (val_var rfl) (v_place1 kp r' (val_var rfl)) hpl fun H2 r2 g2 => ?_
          exact ⟨B.length - (p + 1), by omega, p + 1, f, _, rfl, r2, g'.trans g2, rfl, by omega, hd⟩
        · rw [if_neg (by rw [decide_eq_false h48]; decide)]
          rw [if_neg (by rw [getD_of hg]; omega)] at hd
          exact end_ _ rfl hd
theorem pure_PatternReader_numbers {K : Ky} (kp : KPatternReader K) (vs : List V) (H : Hp) (Q : VK) (E : XK) (h : sp_PatternReader_numbers K vs H Q E) : t_PatternReader_numbers K E (fin Q) (L2.start N_PatternReader_numbers vs) H := by
  obtain ⟨R, B, sl, s, A, rfl, r, qe, q⟩ := h
  unfold numbers at q qe
  refine q_asgG (r_meth r (val_var rfl) a_nil ⟨R, B, sl, s, A, rfl, r, fun e he => qe e (by rw [he]), fun x hx R1 H1 A1 t r1 g1 ht => ?_⟩)
  rw [hx] at q qe
  obtain ⟨least, p1⟩ := x
  dsimp only at q qe
  refine c_tup (Same.seqT r1.sub ht) rfl ⟨_, _, rfl, _, _, rfl, rfl, ?_⟩
  refine q_asg (val_var (v := nV least) rfl) ?_
  -- the end: the byte must be a brace
  have fin_ : ∀ (st : Nat) (mo : Option Nat) (p : Nat) (R' H' : Hp) (A' : Ads), RS K B R' H' sl { s with place := p } A' → Gx R H A R' H' A' →
      (∀ e, byte B p = .error e → Flt K E e) → (∀ g, byte B p = .ok g → g ≠ 125 → Flt K E (2, p)) → (byte B p = .ok 125 → RST K B R H sl A { s with place := p + 1 } [nV least, oV mo] Q) →
      (tSeq (tDrop (tMeth (He.ga K "PatternReader") "bar_from" (sp_PatternReader_bar_from K) [] E (tVar 0) (tCons (tOp rEq (tMeth (He.ga K "PatternReader") "byte" (sp_PatternReader_byte K) [] E (tVar 0) tNil) (tC (.int 125))) tNil)))
        (tSeq (sFld K (tVar 0) (tOp xAdd (tFld K (tVar 0) "place") (tC (.int 1))) "place") (tRet (tTup (tCons (tVar 1) (tCons (tVar 3) tNil)))))) (fin Q) [some (.ref sl), some (nV least), some (nV st), some (oV mo)] H' := by
    intro st mo p R' H' A' r' g' h1 h2 h3
    cases hb : byte B p with
    | error e => exact q_drop (r_methC r' (val_var rfl) (c_cons (c_op (eB r' (val_var rfl) hb (h1 e hb)))))
    | ok g =>
      have hl := (byte_lt hb).1
      refine q_drop (bar r' (val_var rfl) (v_eqI (vB r' (val_var rfl) hb) val_c) (fun hn => ?_) fun hf => ?_)
      · have := of_decide_eq_false hn; exact h2 g hb (by omega)
      · have e125 : g = 125 := by have := of_decide_eq_true hf; omega
        subst e125
        refine q_place kp r' (p := p + 1) (val_var rfl) (v_place1 kp r' (val_var rfl)) (by omega) fun H2 r2 g2 => ?_
        refine c_ret (s_tup (a_cons (val_var rfl) (a_cons (val_var rfl) a_nil)) (by show 2 ≤ 1000; decide) fun t ht => ?_)
        have sH := Same.new (o := .tup [nV least, oV mo]) ht
        exact h3 hb _ _ A' t (r2.grow (Grow.upd r2.sub ht) sH (Same.upd_upd r2.sub)) ((g'.trans g2).trans ⟨Go.of (Grow.upd r2.sub ht) sH, rfl, rfl⟩) (SqT.of upd_same)
  cases hb : byte B p1 with
  | error e => rw [hb] at qe; exact q_ifC (c_test (c_op (eB r1 (val_var rfl) hb (qe _ rfl))))
  | ok c =>
    rw [hb] at q qe
    dsimp only at q qe
    have hl := (byte_lt hb).1
    refine (s_ifn (t_test (v_eqI (vB r1 (val_var rfl) hb) val_c)) (fun he => ?_) fun he => ?_)
    · rw [if_pos (by omega)] at q qe
      refine q_place kp r1 (p := p1 + 1) (val_var rfl) (v_place1 kp r1 (val_var rfl)) (by omega) fun H2 r2 g2 => ?_
      refine q_asg (te := tC .non) val_c ?_
      cases hb2 : byte B (p1 + 1) with
      | error e => rw [hb2] at qe; exact q_ifC (c_test (c_op (eB r2 (val_var rfl) hb2 (qe _ rfl))))
      | ok d =>
        rw [hb2] at q qe
        dsimp only at q qe
        refine (s_ifn (t_test (v_neI (vB r2 (val_var rfl) hb2) val_c)) (fun he2 => ?_) fun he2 => ?_)
        · rw [if_neg (by omega)] at q qe
          refine c_asg (r_meth r2 (val_var rfl) a_nil ⟨R1, B, sl, _, A1, rfl, r2, fun e he => qe e (by rw [show number B (p1 + 1) = _ from he]), fun x hx R3 H3 A3 t3 r3 g3 ht3 => ?_⟩)
          rw [show number B (p1 + 1) = _ from hx] at q qe
          obtain ⟨most, p3⟩ := x
          dsimp only at q qe
          refine c_tup (Same.seqT r3.sub ht3) rfl ⟨_, _, rfl, _, _, rfl, rfl, ?_⟩
          refine s_ifnb (b := decide ((most : Int) < (least : Int))) (t_and (b1 := true) (t_test (v_notNo (o := some most) (val_var rfl))) fun _ => t_test (v_i0 (val_var (v := nV most) rfl) (val_var (v := nV least) rfl))) (fun hlt => ?_) fun hlt => ?_
          · have := of_decide_eq_true hlt
            rw [if_pos (by omega)] at qe
            exact s_fault (e := (3, p1 + 1)) (a_cons val_c (a_cons (val_var rfl) a_nil)) (qe _ rfl)
          · have := of_decide_eq_false hlt
            rw [if_neg (by omega)] at q qe
            refine fin_ (p1 + 1) (some most) p3 R3 H3 A3 r3 ((g1.trans g2).trans g3) (fun e he => qe e (by rw [he])) (fun g hg hn => qe _ (by rw [hg]; exact if_neg hn)) fun hg => ?_
            exact q _ (by rw [hg]; exact if_pos rfl)
        · have e125 : d = 125 := by omega
          rw [if_pos e125] at q
          refine s_ifnb (b := false) (t_and (b1 := false) (b2 := false) (t_test (v_notNo (o := none) (val_var rfl))) fun h => by cases h) (fun hlt => by cases hlt) fun _ => ?_
          subst e125
          exact fin_ s.place none (p1 + 1) R1 H2 A1 r2 (g1.trans g2) (fun e he => by rw [hb2] at he; cases he) (fun g hg hn => by rw [hb2] at hg; cases hg; exact absurd rfl hn) fun hg => q _ rfl
    · rw [if_neg (by omega)] at q qe
      refine fin_ s.place (some least) p1 R1 H1 A1 r1 g1 (fun e he => by rw [hb] at he; cases he) (fun g hg hn => ?_) fun hg => ?_
      · rw [hb] at hg; cases hg; rw [if_neg hn] at qe; exact qe _ rfl
      · rw [hb] at hg; cases hg; rw [if_pos rfl] at q; exact q _ rfl
end Mi
/-! U10: names. -/
namespace Mi
open PySem PySem.Spec PyProof.Rows L2
def dN (l : List Nat) : PyData := .list (l.map fun n : Nat => PyData.int (n : Int))
theorem dpAll_ns {K : Ky} {H : Hp} : ∀ l : List Nat, DpAll K H (nsV l) (l.map fun n : Nat => PyData.int (n : Int))
  | [] => .nil
  | x :: r => .cons (.int _) (dpAll_ns r)
theorem dp_ns {K : Ky} {H : Hp} {a : Addr} {l : List Nat} (h : SqL K H a (nsV l)) : Dp K H (.ref a) (dN l) := .lst h (dpAll_ns l)
theorem dp_nss {K : Ky} {H : Hp} {as : List Addr} {ls : List (List Nat)} (h : Paired (fun a l => SqL K H a (nsV l)) as ls) : DpAll K H (as.map V.ref) (ls.map dN) := by
  induction h with
  | nil => exact .nil
  | cons r _ ih => exact .cons (dp_ns r) ih
theorem dN_lay (l : List Nat) : (dN l).canLay0 = true := by
  unfold dN PyData.canLay0
  induction l with
  | nil => simp [PyData.canLayAll0]
  | cons x r ih => simp [PyData.canLayAll0, PyData.canLay0] at ih ⊢; exact ih
theorem dN_depth (l : List Nat) : (dN l).depth ≤ 1 := by
  unfold dN PyData.depth
  have : PyData.depthAll (l.map fun n : Nat => PyData.int (n : Int)) = 0 := by
    induction l with
    | nil => simp [PyData.depthAll]
    | cons x r ih => simp [PyData.depthAll, PyData.depth] at ih ⊢; exact ih
  rw [this]
  exact Nat.le_refl _
theorem dN_shaped (l : List Nat) : SeqAt.shaped (dN l) = true := by
  have := dN_depth l
  show ((dN l).canLay0 && decide ((dN l).depth ≤ 64)) = true
  rw [dN_lay, decide_eq_true (by omega)]
  rfl
theorem dNs_shaped (ls : List (List Nat)) : SeqAt.shaped (.list (ls.map dN)) = true := by
  have h1 : PyData.canLayAll0 (ls.map dN) = true := by
    induction ls with
    | nil => simp [PyData.canLayAll0]
    | cons x r ih => simp [PyData.canLayAll0, dN_lay x, ih]
  have h2 : PyData.depthAll (ls.map dN) ≤ 1 := by
    induction ls with
    | nil => simp [PyData.depthAll]
    | cons x r ih =>
      have h2 := dN_depth x
      simp only [List.map_cons, PyData.depthAll]
      simp [PyData.canLayAll0, dN_lay x] at h1
      have := ih h1
      omega
  have h3 : PyData.depth (.list (ls.map dN)) ≤ 64 := by simp only [PyData.depth]; omega
  show (PyData.canLay0 (.list (ls.map dN)) && decide (PyData.depth (.list (ls.map dN)) ≤ 64)) = true
  rw [Bool.and_eq_true]
  exact ⟨by simp only [PyData.canLay0]; exact h1, decide_eq_true h3⟩
theorem dN_eqv : ∀ a b : List Nat, PyData.eqv (dN a) (dN b) = decide (a = b)
  | [], [] => by simp [dN, PyData.eqv, PyData.eqvAll]
  | [], _ :: _ => by simp [dN, PyData.eqv, PyData.eqvAll]
  | _ :: _, [] => by simp [dN, PyData.eqv, PyData.eqvAll]
  | x :: a, y :: b => by
    have ih := dN_eqv a b
    simp only [dN, PyData.eqv, List.map_cons, PyData.eqvAll] at ih ⊢
    rw [ih]
    by_cases h : x = y
    · subst h; simp
    · have : ((x : Int) == (y : Int)) = false := beq_eq_false_iff_ne.mpr (by omega)
      rw [this]
      simp [h]
theorem dNs_any (ls : List (List Nat)) (a : List Nat) : ((ls.map dN).any fun z => PyData.eqv z (dN a)) = ls.contains a := by
  rw [List.any_map]
  induction ls with
  | nil => rfl
  | cons x r ih =>
    rw [List.any_cons, List.contains_cons, ih]
    congr 1
    show PyData.eqv (dN x) (dN a) = _
    rw [dN_eqv]
    by_cases h : a = x
    · subst h; simp
    · rw [decide_eq_false (fun z => h z.symm)]; exact (beq_eq_false_iff_ne.mpr h).symm
theorem cut_nat (xs : List V) (i j : Nat) : cutV xs (some (i : Int)) (some (j : Int)) = (xs.drop i).take (j - i) := by
  unfold cutV
  rw [HT.sIx_nat, HT.sIx_nat]
  by_cases h : i ≤ xs.length
  · rw [Nat.min_eq_left h, List.take_eq_take_iff, List.length_drop]
    omega
  · rw [List.drop_eq_nil_of_le (by omega), List.drop_eq_nil_of_le (by omega), List.take_nil, List.take_nil]
theorem cut_slice (B : Bs) (i n : Nat) : cutV (nsV B) (some (i : Int)) (some ((i + n : Nat) : Int)) = nsV (slice B i n) := by
  rw [cut_nat]
  unfold nsV slice
  rw [show i + n - i = n from by omega, List.map_take, List.map_drop]
def LcG (J : It) (g : TG) (tt : TT) (te : TE) (vs : List Nat) (D : Addr) (σ : L2.St) (H1 : Hp) (Qd : Hp → Prop) : Prop := ∃ W : Nat → Nat → Hp → Prop, (∃ m, W 0 m (upd H1 D (.lst []))) ∧ ∀ i m H, W i m H →
  (J.stop i H ∧ Qd H) ∨ (J.go i H ∧ ∃ Nx : Hp → Prop, (∀ H', Nx H' → ∃ m', m' < m ∧ W (i + 1) m' H') ∧ ∀ x H', J.yld i H x H' → g x (wipe σ vs) H' fun σ2 H2 => wipe σ2 vs = wipe σ vs ∧ tt σ2 H2 fun b H3 =>
    if b = true then te σ2 H3 fun y H4 => ∃ acc, H4 D = some (.lst acc) ∧ acc.length < sizeLine ∧ Nx (upd H4 D (.lst (acc ++ [y]))) else Nx H3)
theorem c_yes {σ : L2.St} {H : Hp} {P : Bool → Hp → Prop} (h : P true H) : tYes σ H P := h
theorem c_lcL {K : Ky} {tl te : TE} {g : TG} {tt : TT} {vs : List Nat} {σ : L2.St} {H : Hp} {Q : VK} (h : tl σ H fun x H1 => ∃ a, x = .ref a ∧ (∃ xs, SqL K H1 a xs) ∧ ∀ D, H1 D = none → LcG (Itl K a) g tt te vs D σ H1 fun H2 => Q (.ref D) H2) : tLc (iList K tl) g tt te vs σ H Q := h
theorem pure_PatternReader_is_new_name {K : Ky} (kp : KPatternReader K) (vs : List V) (H : Hp) (Q : VK) (E : XK) (h : sp_PatternReader_is_new_name K vs H Q E) : t_PatternReader_is_new_name K E (fin Q) (L2.start N_PatternReader_is_new_name vs) H := by
  obtain ⟨R, B, sl, s, A, l, nm, rfl, r, hl, h16, q⟩ := h
  have hnm := Paired.len r.nmat
  have h0 : ∀ {v2 v3 : Option V}, Val (tVar 0) [some (V.ref sl), some (.ref l), v2, v3] H (.ref sl) := val_var rfl
  have e1 : (nsV nm).length = nm.length := nsV_len nm
  unfold isNewName at q
  refine s_ifnb (t_or (t_test (v_i0 (v_len (val_var rfl) hl) val_c)) fun _ => t_test (v_eqI (v_len (v_names kp r (val_var rfl)) (SqL.of r.names)) val_c)) (fun he => ?_) fun he => ?_
  · have he' : 32 < nm.length ∨ s.names.length = 16 := by
      rw [e1, List.length_map] at he
      rcases Bool.or_eq_true_iff.mp he with h | h
      · have := of_decide_eq_true h; left; omega
      · have := of_decide_eq_true h; right; omega
    rw [if_pos he'] at q
    exact s_ret val_c (q H (Same.refl H))
  · have he' : ¬ (32 < nm.length ∨ s.names.length = 16) := by
      rw [e1, List.length_map] at he
      obtain ⟨h1, h2⟩ := Bool.or_eq_false_iff.mp he
      have h1 := of_decide_eq_false h1
      have h2 := of_decide_eq_false h2
      omega
    rw [if_neg he'] at q
    refine c_ret (c_op (val_var (v := V.ref l) rfl _ (c_lcL (v_names kp r (val_var rfl) _ ⟨A.names, rfl, ⟨_, SqL.of r.names⟩, fun D hD => ?_⟩))))
    refine lc_list (K := K) (a := A.names) (xs := A.nms.map V.ref) (fun i H' => ∃ las : List Addr, Same H H' ∧ H' D = some (.lst (las.map V.ref)) ∧ Paired (fun a l => H' a = some (.lst (nsV l)) ∧ a ≠ D) las ((s.names.take i).map fun x => slice B x.1 x.2)) ⟨[], Same.new hD, upd_same, .nil⟩ ?_ ?_ ?_
    · rintro i H' _ ⟨las, sH, _⟩
      exact SqL.of (sH _ _ r.names)
    · rintro i x H' hi ⟨las, sH, hDl, hp⟩
      obtain ⟨a, ha, rfl⟩ := get_refs hi
      obtain ⟨⟨x1, x2⟩, hr, hpr⟩ := Paired.get r.nmat ha
      have hi16 : i < s.names.length := (List.getElem?_eq_some_iff.mp hr).1
      have hpr' : SqT K H' a [nV x1, nV x2] := Same.seqT sH (Same.seqT r.sub hpr)
      refine c_tup hpr' rfl ⟨_, _, rfl, _, _, rfl, rfl, rfl, ?_⟩
      refine c_yes ?_
      rw [if_pos rfl]
      have r' := r.same sH
      refine s_slL (v_text kp r' (val_var rfl)) (o_some (i := (x1 : Int)) (val_var (v := nV x1) rfl)) (o_some (i := ((x1 + x2 : Nat) : Int)) (v_addN (i := x1) (j := x2) (val_var rfl) (val_var rfl))) r'.text fun p hp1 => ?_
      rw [cut_slice]
      have npD : p ≠ D := fun z => by rw [z, hDl] at hp1; cases hp1
      have hlen := Paired.len hp
      rw [List.length_map, List.length_take] at hlen
      refine ⟨las.map V.ref, by rw [upd_ne (Ne.symm npD)]; exact hDl, by rw [List.length_map]; exact Nat.lt_trans (by omega : las.length < 100000) big, las ++ [p], ?_, by rw [upd_same, List.map_append]; rfl, ?_⟩
      · intro b o hb
        have hbD : b ≠ D := ne_of_none hb hD
        rw [upd_ne hbD]
        exact Same.new hp1 b o (sH b o hb)
      · rw [List.take_add_one, hr, List.map_append]
        refine Paired.snoc (hp.mono fun a l ⟨h1, h2⟩ => ⟨?_, h2⟩) ⟨?_, npD⟩
        · rw [upd_ne npD, upd_same]
        · rw [upd_ne h2]; exact Same.new hp1 _ _ h1
    · rintro H' ⟨las, sH, hDl, hp⟩
      rw [List.length_map, hnm, List.take_length] at hp
      refine ⟨dN nm, _, dp_ns (Same.seq sH hl), .lst (SqL.of hDl) (dp_nss (hp.mono fun a l h => SqL.of h.1)), dN_shaped _, dNs_shaped _, ?_⟩
      rw [dNs_any]
      exact q H' sH
theorem pure_PatternReader_take_name {K : Ky} (kp : KPatternReader K) (vs : List V) (H : Hp) (Q : VK) (E : XK) (h : sp_PatternReader_take_name K vs H Q E) : t_PatternReader_take_name K E (fin Q) (L2.start N_PatternReader_take_name vs) H := by
  obtain ⟨R, B, sl, s, A, rfl, r, h16, qe, q⟩ := h
  unfold takeName at q qe
  refine q_asg (v_place kp r (val_var rfl)) ?_
  cases hb : byte B s.place with
  | error e => rw [hb] at qe; exact q_drop (r_methC r (val_var rfl) (c_cons (c_call (c_cons (eB r (val_var rfl) hb (qe _ rfl))))))
  | ok c =>
    rw [hb] at q qe
    dsimp only at q qe
    obtain ⟨hg, hl⟩ := byte_get hb
    refine q_drop (bar r (val_var rfl) (v_isSm (vB r (val_var rfl) hb)) (fun hn => ?_) fun hf => ?_)
    · rw [if_pos hn] at qe; exact qe _ rfl
    rw [if_neg (by rw [hf]; decide)] at q qe
    obtain ⟨Z, hZ⟩ : ∃ Z, nameGo B (B.length + 1) s.place = Z := ⟨_, rfl⟩
    rw [hZ] at q qe
    refine s_seq (c_whileC (fun k σ H' => ∃ p f, σ = [some (.ref sl), some (nV s.place)] ∧ RS K B R H' sl { s with place := p } A ∧ Gx R H A R H' A ∧ k = B.length - p ∧ p + f ≥ B.length + 1 ∧ s.place ≤ p ∧ nameGo B f p = Z) ⟨_, s.place, B.length + 1, rfl, r, Gx.refl _ _ _, rfl, by omega, Nat.le_refl _, hZ⟩ ?_)
    rintro k σ H' ⟨p, f, rfl, r', g', rfl, hf1, hsp, hd⟩
    have hp : p ≤ B.length := r'.pl
    obtain ⟨f, rfl⟩ : ∃ f', f = f' + 1 := ⟨f - 1, by omega⟩
    unfold nameGo at hd
    refine c_tB (c_call (c_cons ?_))
    cases hb1 : byte B p with
    | error e =>
      rw [hb1] at hd
      exact eB r' (val_var rfl) hb1 (qe _ (by rw [← hd]))
    | ok d =>
      rw [hb1] at hd
      dsimp only at hd
      have hpl := (byte_lt hb1).1
      refine vB r' (val_var rfl) hb1 _ ⟨d, rfl, _, rfl, ?_⟩
      cases hfd : isInName d with
      | true =>
        rw [if_pos rfl]
        rw [if_pos hfd] at hd
        refine ⟨_, fun _ _ z => z, ?_⟩
        refine l_place kp r' (p := p + 1) (val_var rfl) (v_place1 kp r' (val_var rfl)) hpl fun H2 r2 g2 => ?_
        exact ⟨B.length - (p + 1), by omega, p + 1, f, rfl, r2, g'.trans g2, rfl, by omega, by omega, hd⟩
      | false =>
        rw [if_neg (by decide)]
        rw [if_neg (by rw [hfd]; decide)] at hd
        rw [← hd] at q qe
        dsimp only at q qe
        refine q_ifC (c_not (c_tB (r_methC r' (val_var rfl) (c_cons (s_slL (v_text kp r' (val_var rfl)) (o_some (i := (s.place : Int)) (val_var (v := nV s.place) rfl)) (o_some (i := (p : Int)) (v_place kp r' (val_var rfl))) r'.text fun l hl1 => ?_)))))
        have ep : (p : Int) = ((s.place + (p - s.place) : Nat) : Int) := by omega
        rw [ep, cut_slice]
        have r2 := r'.same (Same.new (o := .lst (nsV (slice B s.place (p - s.place)))) hl1)
        refine ⟨R, B, sl, _, A, l, slice B s.place (p - s.place), rfl, r2, SqL.of upd_same, h16, fun H3 s3 => ⟨_, rfl, ?_⟩⟩
        have r3 := r2.same s3
        have g3 : Gx R H A R H3 A := (g'.trans (Gx.same (Same.new hl1))).trans (Gx.same s3)
        show (if (!isNewName B s.names (slice B s.place (p - s.place))) = true then _ else _)
        cases hn : isNewName B s.names (slice B s.place (p - s.place)) with
        | false =>
          rw [if_pos (show (!false) = true from rfl)]
          rw [if_pos hn] at qe
          exact s_fault (e := (4, s.place)) (a_cons val_c (a_cons (val_var rfl) a_nil)) (qe _ rfl)
        | true =>
          rw [if_neg (show ¬ (!true) = true from by decide)]
          rw [if_neg (by rw [hn]; decide)] at q qe
          refine q_drop (s_appT (v_names kp r3 (val_var rfl)) (val_var (v := nV s.place) rfl) (v_subN (v_place kp r3 (val_var rfl)) (val_var (v := nV s.place) rfl) hsp) r3.names (by rw [List.length_map, Paired.len r3.nmat]; show s.names.length < _; omega) fun t ht htn => ?_)
          have r4 := r3.addName s.place (p - s.place) ht
          rw [List.map_append] at r4
          have g4 : Gx R H A (upd R t (.tup [nV s.place, nV (p - s.place)])) (upd (upd H3 t (.tup [nV s.place, nV (p - s.place)])) A.names (.lst (List.map V.ref A.nms ++ List.map V.ref [t]))) { A with nms := A.nms ++ [t] } := g3.trans ⟨Go.trans (Go.of (Grow.upd r3.sub ht) (Same.new ht)) Go.upd, rfl, rfl⟩
          cases hb2 : byte B p with
          | error e => rw [hb2] at hb1; cases hb1
          | ok d2 =>
            rw [hb2] at q qe
            dsimp only at q qe
            refine q_drop (bar r4 (val_var rfl) (v_eqI (vB r4 (val_var rfl) hb2) val_c) (fun hn => ?_) fun hf2 => ?_)
            · have := of_decide_eq_false hn
              rw [if_neg (by omega)] at qe
              exact qe _ rfl
            · have := of_decide_eq_true hf2
              rw [if_pos (by omega)] at q
              refine l_place kp r4 (p := p + 1) (val_var rfl) (v_place1 kp r4 (val_var rfl)) hpl fun H5 r5 g5 => ?_
              exact q _ rfl _ _ _ r5 (g4.trans g5)
end Mi
/-! U11: levels; the reader is made; atoms. -/
namespace Mi
open PySem PySem.Spec PyProof.Rows L2
theorem pure_Level___init__ {K : Ky} (kl : KLevel K) (vs : List V) (H : Hp) (Q : VK) (E : XK) (h : sp_Level___init__ K vs H Q E) : t_Level___init__ K E (fin Q) (L2.start N_Level___init__ vs) H := by
  obtain ⟨x, dx, cl, nm, rfl, hx, q⟩ := h
  refine q_fld (fs := []) (fs' := [("closing", oV cl)]) (val_var (v := oV cl) rfl) (val_var rfl) hx kl.cl kl.n_closing (by decide) rfl ?_
  refine q_fld (fs' := [("closing", oV cl), ("name", oV nm)]) (val_var (v := oV nm) rfl) (val_var rfl) upd_same kl.cl kl.n_name (by show 1 < 1000; decide) rfl ?_
  rw [upd_upd]
  refine q_sfld (s_lst a_nil (by decide) fun r hr => ?_)
  have nxr : x ≠ r := fun z => by rw [← z, upd_same] at hr; cases hr
  refine val_var (v := V.ref x) rfl _ ⟨x, _, dx, _, rfl, by rw [upd_ne nxr, upd_same], kl.cl, kl.n_rows, by show 2 < 1000; decide, ?_⟩
  refine c_sfld (s_lst a_nil (by decide) fun p hp => ?_)
  have nxp : x ≠ p := fun z => by rw [← z, upd_same] at hp; cases hp
  have nrp : r ≠ p := fun z => by rw [← z, upd_ne (Ne.symm nxr), upd_same] at hp; cases hp
  refine val_var (v := V.ref x) rfl _ ⟨x, _, dx, _, rfl, by rw [upd_ne nxp, upd_same], kl.cl, kl.n_parts, by show 3 < 1000; decide, ?_⟩
  rw [upd_ne (Ne.symm nxr)] at hr
  rw [upd_ne (Ne.symm nxp), upd_ne (Ne.symm nrp), upd_ne (Ne.symm nxp)] at hp
  refine q _ r p hr hp nrp upd_same ?_ ?_ ?_
  · rw [upd_ne (Ne.symm nxr), upd_ne nrp, upd_ne (Ne.symm nxr), upd_same]
  · rw [upd_ne (Ne.symm nxp), upd_same]
  · intro b o hb hn
    have hbx : b ≠ x := by simpa using hn
    rw [upd_ne hbx, upd_ne (ne_of_none hb hp), upd_ne hbx, upd_ne (ne_of_none hb hr), upd_ne hbx]
    exact hb
section
variable {K : Ky} {B : Bs} {R H : Hp} {sl : Addr} {s : St} {A : Ads} {σ : L2.St} {E : XK} {Q : VK} {tc tn t0 : TE}
/-- Level(..) -/
theorem s_mkLevel {cl nm : Option Nat} (h : AVal (tCons tc (tCons tn tNil)) σ H [oV cl, oV nm])
    (q : ∀ (H' : Hp) (x dx rows parts : Addr), Same H H' → H x = none → H rows = none → H parts = none → rows ≠ parts → H' x = some (.ins (He.ga K "Level") dx (lvF cl nm rows parts)) → H' rows = some (.lst []) → H' parts = some (.lst []) → Q (.ref x) H') :
    tMake (He.ga K "Level") (sp_Level___init__ K) [] E0 (tCons tc (tCons tn tNil)) σ H Q := by
  refine c_make (h _ fun x dx hx hdx hne => ⟨x, dx, cl, nm, rfl, upd_same, fun H' rows parts hr hp hn h1 h2 h3 u => ⟨rfl, ?_⟩⟩)
  have hrx : rows ≠ x := fun z => by rw [z, upd_same] at hr; cases hr
  have hpx : parts ≠ x := fun z => by rw [z, upd_same] at hp; cases hp
  have hrd : rows ≠ dx := fun z => by rw [z, upd_ne hne, upd_same] at hr; cases hr
  have hpd : parts ≠ dx := fun z => by rw [z, upd_ne hne, upd_same] at hp; cases hp
  rw [upd_ne hrx, upd_ne hrd] at hr
  rw [upd_ne hpx, upd_ne hpd] at hp
  refine q H' x dx rows parts (fun b o hb => ?_) hx hr hp hn h1 h2 h3
  have hbx : b ≠ x := ne_of_none hb hx
  exact u b o (by rw [upd_ne hbx, upd_ne (ne_of_none hb hdx)]; exact hb) (by simpa using hbx)
theorem s_level (kp : KPatternReader K) (r : RS K B R H sl s A) {cl nm : Option Nat} (h0 : Val t0 σ H (.ref sl)) (h1 : AVal (tCons tc (tCons tn tNil)) σ H [oV cl, oV nm]) (hd : s.below.length ≤ 40)
    (q : ∀ H' A', RS K B R H' sl { s with top := ⟨cl, nm, [], []⟩, below := s.top :: s.below } A' → Gx R H A R H' A' → Q .non H') :
    tBM K "list" rAppend (tFld K t0 "levels") (tCons (tMake (He.ga K "Level") (sp_Level___init__ K) [] E0 (tCons tc (tCons tn tNil))) tNil) σ H Q := by
  refine v_levels kp r h0 _ ⟨.inl ⟨rfl, _, SqL.of r.levels⟩, c_cons (s_mkLevel h1 fun H' x dx rows parts sH hx hr hp hn e1 e2 e3 => ?_)⟩
  have hl := Paired.len r.below
  refine ⟨A.levels, _, _, rfl, rfl, sH _ _ r.levels, ?_, ?_⟩
  · unfold refsOf
    rw [List.length_map, List.length_append, List.length_reverse, hl]
    exact Nat.lt_trans (by show s.below.length + 1 < 100000; omega) big
  · exact q _ _ (r.push cl nm sH hx hr hp hn e1 e2 e3) ⟨Go.trans (Go.of (Grow.refl R H) sH) Go.upd, rfl, rfl⟩
end
theorem lv_len {K : Ky} {B : Bs} {R H : Hp} {sl : Addr} {s : St} {A : Ads} (r : RS K B R H sl s A) : (refsOf (A.below.reverse ++ [A.top])).length = s.below.length + 1 := by
  unfold refsOf
  rw [List.length_map, List.length_append, List.length_reverse, Paired.len r.below]
  rfl
theorem pure_PatternReader_open_level {K : Ky} (kp : KPatternReader K) (vs : List V) (H : Hp) (Q : VK) (E : XK) (h : sp_PatternReader_open_level K vs H Q E) : t_PatternReader_open_level K E (fin Q) (L2.start N_PatternReader_open_level vs) H := by
  obtain ⟨R, B, sl, s, A, c, rfl, r, h16, hl, qe, q⟩ := h
  unfold St.open_ at q qe
  refine (s_ifn (t_test (v_i0 (v_len (v_levels kp r (val_var rfl)) (SqL.of r.levels)) val_c)) (fun he => ?_) fun he => ?_)
  · rw [lv_len r] at he
    rw [if_pos (by omega)] at qe
    exact s_fault (e := (5, s.place)) (a_cons val_c (a_cons (v_place kp r (val_var rfl)) a_nil)) (qe _ rfl)
  · rw [lv_len r] at he
    have hd : s.below.length ≤ 40 := by omega
    rw [if_neg (by omega)] at q qe
    refine q_place kp r (p := s.place + 1) (val_var rfl) (v_place1 kp r (val_var rfl)) hl fun H1 r1 g1 => ?_
    refine s_seq (s_ifd (t_test (v_eqI (val_var rfl) val_c)) (fun he => ?_) fun he => ?_)
    · rw [if_pos (by omega)] at q
      refine c_drop (s_level kp r1 (cl := some 41) (nm := none) (val_var rfl) (a_cons val_c (a_cons val_c a_nil)) hd fun H2 A2 r2 g2 => ?_)
      exact l_has kp r2 (val_var rfl) val_c fun H3 r3 g3 => q _ rfl _ _ _ r3 ((g1.trans g2).trans g3)
    · rw [if_neg (by omega)] at q qe
      refine q_drop (r_meth r1 (val_var rfl) a_nil ⟨R, B, sl, _, A, rfl, r1, h16, fun e he => qe e (by rw [show takeName B s.names (s.place + 1) = _ from he]), fun x hx R2 H2 A2 r2 g2 => ?_⟩)
      rw [show takeName B s.names (s.place + 1) = _ from hx] at q qe
      obtain ⟨n, p2⟩ := x
      dsimp only at q qe
      have hn2 := Paired.len r2.nmat
      have en : ((A2.nms.map V.ref).length : Int) = ((s.names.length + 1 : Nat) : Int) := by
        rw [List.length_map, hn2]
        show (((s.names ++ [n]).length : Nat) : Int) = _
        rw [List.length_append, List.length_singleton]
      have hv : Val (tOp xSub (tCB (xLen K) (tCons (tFld K (tVar 0) "names") tNil)) (tC (.int 1))) [some (V.ref sl), some (nV c)] H2 (oV (some s.names.length)) := by
        have h := v_len (K := K) (v_names kp r2 (t0 := tVar 0) (σ := [some (V.ref sl), some (nV c)]) (val_var rfl)) (SqL.of r2.names)
        rw [en] at h
        exact v_subN (i := s.names.length + 1) (j := 1) h val_c (by omega)
      refine c_drop (s_level kp r2 (cl := some 62) (nm := some s.names.length) (val_var rfl) (a_cons val_c (a_cons hv a_nil)) hd fun H3 A3 r3 g3 => ?_)
      exact l_has kp r3 (val_var rfl) val_c fun H4 r4 g4 => q _ rfl _ _ _ r4 (((g1.trans g2).trans g3).trans g4)
end Mi
/-! U12: atoms. -/
namespace Mi
open PySem PySem.Spec PyProof.Rows L2
section
variable {K : Ky} {B : Bs} {R H : Hp} {sl : Addr} {s : St} {A : Ads} {σ : L2.St} {E : XK} {Q : VK} {tc tn t0 : TE} {tA : TA} {vs : List V}
theorem b_meth (kp : KPatternReader K) (r : RS K B R H sl s A) {m : Str} {sp : Sp} (hx : Val t0 σ H (.ref sl)) (h : AVal tA σ H vs) (q : sp (.ref A.bd :: vs) H Q E) (hm : (bdF A.nodes A.weights).lookup m = none := by rfl) : tMeth (He.ga K "Builder") m sp [] E (tFld K t0 "builder") tA σ H Q := by
  obtain ⟨dx, hb⟩ := r.bs.obj
  exact s_meth (v_bd kp r hx) hb hm h q
theorem b_methC (kp : KPatternReader K) (r : RS K B R H sl s A) {m : Str} {sp : Sp} (hx : Val t0 σ H (.ref sl)) (h : tA σ H fun xs H2 => sp (.ref A.bd :: (xs ++ [])) H2 Q E) (hm : (bdF A.nodes A.weights).lookup m = none := by rfl) : tMeth (He.ga K "Builder") m sp [] E (tFld K t0 "builder") tA σ H Q := by
  obtain ⟨dx, hb⟩ := r.bs.obj
  exact v_bd kp r hx _ ⟨A.bd, dx, _, rfl, hb, hm, h⟩
/-- what the builder did, told of the reader -/
theorem RS.bdq (r : RS K B R H sl s A) {b' : Bd} {v : V} (q : ∀ R' H' A', RS K B R' H' sl { s with bd := b' } A' → Gx R H A R' H' A' → A'.below = A.below → A'.top = A.top → But [A.nodes, A.weights] H H' → Q v H') : BdQ K R H A.bd A.nodes A.weights b' v Q := fun R' H' nds' b g u =>
  q R' H' _ (r.withBd b g u) ⟨⟨g, u.there2 ⟨_, b.nodes⟩ ⟨_, b.weights⟩⟩, rfl, rfl⟩ rfl rfl u
end
theorem Paired.app {α β : Type} {F : α → β → Prop} {l l' : List α} {m m' : List β} (h : Paired F l m) (h' : Paired F l' m') : Paired F (l ++ l') (m ++ m') := by
  induction h with
  | nil => exact h'
  | cons r _ ih => exact .cons r ih
theorem classBounds_len {c : Nat} {b : Bnds} (h : classBounds c = some b) : b.length ≤ 5 := by
  unfold classBounds at h
  split at h
  · cases h; decide
  split at h
  · cases h; decide
  split at h
  · cases h; decide
  split at h
  · cases h; decide
  split at h
  · cases h; decide
  split at h
  · cases h; decide
  · cases h
theorem part_len {B : Bs} {p q : Nat} {b : Bnds} (h : part B p = .ok (b, q)) : b.length ≤ 5 := by
  unfold part at h
  split at h
  · cases h
  · rename_i b' q' hc
    cases h
    unfold classPart at hc
    split at hc
    · cases hc
    · split at hc
      · cases hc
      · split at hc
        · cases hc
        · rename_i hb; cases hc; exact classBounds_len hb
  · split at h
    · cases h
    · split at h
      · cases h
      · split at h
        · cases h; simp
        · split at h
          · cases h
          · split at h
            · cases h
            · cases h; simp
theorem pure_PatternReader_value_set {K : Ky} (kp : KPatternReader K) (vs : List V) (H : Hp) (Q : VK) (E : XK) (h : sp_PatternReader_value_set K vs H Q E) : t_PatternReader_value_set K E (fin Q) (L2.start N_PatternReader_value_set vs) H := by
  obtain ⟨R, B, sl, s, A, rfl, r, hl, hsm, qe, q⟩ := h
  unfold valueSet at q qe
  refine q_place kp r (p := s.place + 1) (val_var rfl) (v_place1 kp r (val_var rfl)) hl fun H1 r1 g1 => ?_
  cases hb : byte B (s.place + 1) with
  | error e => rw [hb] at qe; exact q_asgC (c_op (eB r1 (val_var rfl) hb (qe _ rfl)))
  | ok c =>
    rw [hb] at q qe
    dsimp only at q qe
    have hl1 := (byte_lt hb).1
    refine q_asg (v_eqI (vB r1 (val_var rfl) hb) val_c) ?_
    have e94 : decide ((c : Int) = 94) = decide (c = 94) := by rw [decide_eq_decide]; omega
    rw [e94]
    -- from behind the hat on
    have rest : ∀ (p : Nat) (H2 : Hp), RS K B R H2 sl { s with place := p } A → Gx R H A R H2 A → p = (if c = 94 then s.place + 2 else s.place + 1) →
        tSeq (tAsg (tMeth (He.ga K "PatternReader") "part" (sp_PatternReader_part K) [] E (tVar 0) tNil) (gName 2))
          (tSeq (tWhile (tTest (tOp rNe (tMeth (He.ga K "PatternReader") "byte" (sp_PatternReader_byte K) [] E (tVar 0) tNil) (tC (.int 93)))) (tAsg (tOp rCat (tVar 2) (tMeth (He.ga K "PatternReader") "part" (sp_PatternReader_part K) [] E (tVar 0) tNil)) (gName 2)))
          (tSeq (sFld K (tVar 0) (tOp xAdd (tFld K (tVar 0) "place") (tC (.int 1))) "place")
          (tRet (tMeth (He.ga K "Builder") "test" (sp_Builder_test K) [] E0 (tFld K (tVar 0) "builder") (tCons (tVar 2) (tCons (tVar 1) tNil)))))) (fin Q) [some (.ref sl), some (.bl (decide (c = 94))), none] H2 := by
      intro p H2 r2 g2 hp
      rw [← hp] at q qe
      refine q_asgC (r_meth r2 (val_var rfl) a_nil ⟨R, B, sl, _, A, rfl, r2, fun e he => qe e (by rw [show part B p = _ from he]), fun x hx R3 H3 A3 v r3 g3 hv => ?_⟩)
      rw [show part B p = _ from hx] at q qe
      obtain ⟨b, p1⟩ := x
      dsimp only at q qe
      obtain ⟨l, rfl, hbn⟩ := hv
      obtain ⟨Z, hZ⟩ : ∃ Z, setGo B (B.length + 1) b p1 = Z := ⟨_, rfl⟩
      rw [hZ] at q qe
      have hplt := part_lt hx
      have hpb := part_len hx
      refine s_seq (c_whileC (fun k σ H' => ∃ p f bs l R' A', σ = [some (.ref sl), some (.bl (decide (c = 94))), some (.ref l)] ∧ RS K B R' H' sl { s with place := p } A' ∧ Gx R H A R' H' A' ∧ BnAt K R' l bs ∧ bs.length ≤ 5 * p ∧ k = B.length - p ∧ p + f ≥ B.length + 1 ∧ setGo B f bs p = Z) ⟨_, p1, B.length + 1, b, l, R3, A3, rfl, r3, g2.trans g3, hbn, by omega, rfl, by omega, hZ⟩ ?_)
      rintro k σ H' ⟨p, f, bs, l, R', A', rfl, r', g', hbn, hbl, rfl, hf1, hd⟩
      have hp : p ≤ B.length := r'.pl
      have hsmB := r.sm
      obtain ⟨f, rfl⟩ : ∃ f', f = f' + 1 := ⟨f - 1, by omega⟩
      unfold setGo at hd
      cases hb1 : byte B p with
      | error e =>
        rw [hb1] at hd
        exact c_test (c_op (eB r' (val_var rfl) hb1 (qe _ (by rw [← hd]))))
      | ok d =>
        rw [hb1] at hd
        dsimp only at hd
        have hpl := (byte_lt hb1).1
        refine c_test (v_neI (vB r' (val_var rfl) hb1) val_c _ ⟨_, rfl, ?_⟩)
        by_cases h93 : (d : Int) ≠ 93
        · rw [if_pos (decide_eq_true h93)]
          rw [if_neg (by omega)] at hd
          refine ⟨_, fun _ _ z => z, ?_⟩
          refine c_asg (c_op (val_var (v := V.ref l) rfl _ (r_meth r' (val_var rfl) a_nil ⟨R', B, sl, _, A', rfl, r', fun e he => qe e (by rw [← hd, show part B p = _ from he]), fun x hx R4 H4 A4 v r4 g4 hv => ?_⟩)))
          rw [show part B p = _ from hx] at hd
          obtain ⟨b2, p2⟩ := x
          dsimp only at hd
          obtain ⟨l2, rfl, as2, hl2, hp2⟩ := hv
          obtain ⟨as1, hl1, hp1⟩ := hbn.mono g4.go.grow.same
          have hlt := part_lt hx
          have hlb := part_len hx
          have hple : p2 ≤ B.length := r4.pl
          have ea1 := Paired.len hp1
          have ea2 := Paired.len hp2
          have hsum : (as1.map V.ref).length + (as2.map V.ref).length ≤ sizeLine := by
            rw [List.length_map, List.length_map]
            exact Nat.le_of_lt (Nat.lt_trans (by dsimp only at hlt hlb ea2; omega : as1.length + as2.length < 100000) big)
          refine ⟨l, l2, _, _, rfl, rfl, r4.sub _ _ hl1, r4.sub _ _ hl2, hsum, fun q hq => ?_⟩
          have sH := Same.new (o := .lst (as1.map V.ref ++ as2.map V.ref)) hq
          have gg : Grow R4 (upd R4 q (.lst (as1.map V.ref ++ as2.map V.ref))) H4 := Grow.upd r4.sub hq
          refine ⟨B.length - p2, by dsimp only at hlt; omega, p2, f, bs ++ b2, q, _, _, rfl, r4.grow gg sH (Same.upd_upd r4.sub), (g'.trans g4).trans ⟨Go.of gg sH, rfl, rfl⟩, ⟨as1 ++ as2, by rw [upd_same, List.map_append], Paired.app (hp1.mono fun _ _ => PrAt.mono gg.same) (hp2.mono fun _ _ => PrAt.mono gg.same)⟩, by rw [List.length_append]; dsimp only at hlt hlb; omega, rfl, by dsimp only at hlt; omega, hd⟩
        · rw [if_neg (by rw [decide_eq_false h93]; decide)]
          rw [if_pos (by omega)] at hd
          rw [← hd] at q qe
          dsimp only at q qe
          refine q_place kp r' (p := p + 1) (val_var rfl) (v_place1 kp r' (val_var rfl)) hpl fun H5 r5 g5 => ?_
          refine c_ret (b_meth kp r5 (val_var rfl) (a_cons (val_var rfl) (a_cons (val_var rfl) a_nil)) ⟨R', A'.bd, A'.nodes, A'.weights, l, A'.nds, s.bd, bs, _, rfl, r5.bs, hbn, hsm, r5.bdq fun R6 H6 A6 r6 g6 _ _ _ => ?_⟩)
          exact q _ rfl _ _ _ r6 ((g'.trans g5).trans g6)
    refine s_ifnb (t_B (val_var (v := .bl (decide (c = 94))) rfl)) (fun he => ?_) fun he => ?_
    · have he := of_decide_eq_true he
      refine l_place kp r1 (p := s.place + 2) (val_var rfl) (v_place1 kp r1 (val_var rfl)) hl1 fun H2 r2 g2 => ?_
      exact rest _ _ r2 (g1.trans g2) (by rw [if_pos he])
    · have he := of_decide_eq_false he
      exact rest _ _ r1 g1 (by rw [if_neg he])
theorem pure_PatternReader_escape {K : Ky} (kp : KPatternReader K) (vs : List V) (H : Hp) (Q : VK) (E : XK) (h : sp_PatternReader_escape K vs H Q E) : t_PatternReader_escape K E (fin Q) (L2.start N_PatternReader_escape vs) H := by
  obtain ⟨R, B, sl, s, A, rfl, r, hl, hsm, qe, q⟩ := h
  unfold escape at q qe
  refine q_place kp r (p := s.place + 1) (val_var rfl) (v_place1 kp r (val_var rfl)) hl fun H1 r1 g1 => ?_
  cases hb : byte B (s.place + 1) with
  | error e => rw [hb] at qe; exact q_asgC (eB r1 (val_var rfl) hb (qe _ rfl))
  | ok d =>
    rw [hb] at q qe
    dsimp only at q qe
    have hl1 := (byte_lt hb).1
    refine q_asg (vB r1 (val_var rfl) hb) ?_
    refine q_asg (v_esc r1 (val_var rfl) (val_var rfl)) ?_
    refine q_asgC (s_classB r1.sub (val_var rfl) fun R2 H2 v s1 g2 s2 hv => ?_)
    have r2 := r1.grow g2 s2 s1
    have g2' : Gx R H A R2 H2 A := g1.trans ⟨Go.of g2 s2, rfl, rfl⟩
    -- from behind the bounds on
    have rest : ∀ (o : Option Bnds) (v : V) (R3 H3 : Hp), RS K B R3 H3 sl { s with place := s.place + 1 } A → Gx R H A R3 H3 A → BnO K R3 o v →
        (∀ bs, o = some bs → RSN K B R H sl A s (.test bs false) (s.place + 2) Q) → (o = none → (d = 98 → RSN K B R H sl A s .edge (s.place + 2) Q) ∧ (d ≠ 98 → Flt K E (2, s.place + 1))) →
        tSeq (tDrop (tMeth (He.ga K "PatternReader") "bar_from" (sp_PatternReader_bar_from K) [] E (tVar 0) (tCons (tOrV (tOp xNotN (tVar 3) (tC .non)) (tOp rEq (tVar 1) (tC (.int 98)))) tNil)))
          (tSeq (sFld K (tVar 0) (tOp xAdd (tFld K (tVar 0) "place") (tC (.int 1))) "place")
          (tSeq (tIfS (tTest (tOp xIsN (tVar 3) (tC .non))) (tRet (tMeth (He.ga K "Builder") "sign" (sp_Builder_sign K) [] E0 (tFld K (tVar 0) "builder") (tCons (tC (.str "edge")) tNil))) tNext)
          (tRet (tMeth (He.ga K "Builder") "test" (sp_Builder_test K) [] E0 (tFld K (tVar 0) "builder") (tCons (tVar 3) (tCons (tC (.bl false)) tNil)))))) (fin Q) [some (.ref sl), some (nV d), some (oV (escaped d)), some v] H3 := by
      intro o v R3 H3 r3 g3 hv hso hno
      refine q_drop (bar r3 (val_var rfl) (v_or (v_notNb hv (val_var rfl)) fun _ => v_eqI (val_var (v := nV d) rfl) val_c) (fun hn => ?_) fun hf => ?_)
      · obtain ⟨h1, h2⟩ := Bool.or_eq_false_iff.mp hn
        have h2 := of_decide_eq_false h2
        cases o with
        | some b => cases h1
        | none => exact (hno rfl).2 (by omega)
      · refine q_place kp r3 (p := s.place + 2) (val_var rfl) (v_place1 kp r3 (val_var rfl)) hl1 fun H4 r4 g4 => ?_
        refine s_ifnb (t_test (v_isNb hv (val_var rfl))) (fun he => ?_) fun he => ?_
        · cases o with
          | some b => cases he
          | none =>
            have h98 : d = 98 := by
              rcases Bool.or_eq_true_iff.mp hf with h | h
              · cases h
              · have := of_decide_eq_true h; omega
            refine c_ret (b_meth kp r4 (val_var rfl) (a_cons val_c a_nil) ⟨R3, A.bd, A.nodes, A.weights, A.nds, s.bd, .edge, rfl, .inr (.inr rfl), r4.bs, hsm, r4.bdq fun R6 H6 A6 r6 g6 _ _ _ => ?_⟩)
            exact (hno rfl).1 h98 _ _ _ r6 ((g3.trans g4).trans g6)
        · cases o with
          | none => cases he
          | some b =>
            obtain ⟨l, rfl, hbn⟩ := hv
            refine c_ret (b_meth kp r4 (val_var rfl) (a_cons (val_var rfl) (a_cons val_c a_nil)) ⟨R3, A.bd, A.nodes, A.weights, l, A.nds, s.bd, b, false, rfl, r4.bs, hbn, hsm, r4.bdq fun R6 H6 A6 r6 g6 _ _ _ => ?_⟩)
            exact hso _ rfl _ _ _ r6 ((g3.trans g4).trans g6)
    refine s_ifnb (t_test (v_notNo (val_var rfl))) (fun he => ?_) fun he => ?_
    · cases hx : escaped d with
      | none => rw [hx] at he; cases he
      | some x =>
        refine c_asg (s_pair1 (K := K) r2.sub (val_var (v := nV x) rfl) (val_var (v := nV x) rfl) fun R3 H3 l s3 g3 s4 hl => ?_)
        have := rest (some [(x, x)]) (.ref l) R3 H3 (r2.grow g3 s4 s3) (g2'.trans ⟨Go.of g3 s4, rfl, rfl⟩) ⟨l, rfl, hl⟩ (fun bs e => by cases e; rw [hx] at q; exact q _ rfl) (fun e => by cases e)
        rw [hx] at this
        exact this
    · cases hx : escaped d with
      | some x => rw [hx] at he; cases he
      | none =>
        rw [hx] at q qe
        dsimp only at q qe
        have := rest (classBounds d) v R2 H2 r2 g2' hv (fun bs e => by rw [e] at q; exact q _ rfl) (fun e => ⟨fun h98 => by rw [e] at q; dsimp only at q; rw [if_pos h98] at q; exact q _ rfl, fun h98 => by rw [e] at qe; dsimp only at qe; rw [if_neg h98] at qe; exact qe _ rfl⟩)
        rw [hx] at this
        exact this
theorem pure_PatternReader_atom {K : Ky} (kp : KPatternReader K) (vs : List V) (H : Hp) (Q : VK) (E : XK) (h : sp_PatternReader_atom K vs H Q E) : t_PatternReader_atom K E (fin Q) (L2.start N_PatternReader_atom vs) H := by
  obtain ⟨R, B, sl, s, A, c, rfl, r, hl, hsm, qe, q⟩ := h
  unfold atom at q qe
  have eI : ∀ k : Nat, ((c : Int) = (k : Int)) ↔ c = k := fun k => by omega
  refine (s_ifn (t_test (v_eqI (val_var rfl) val_c)) (fun he => ?_) fun he => ?_)
  · rw [if_pos (by omega)] at q qe
    refine c_ret (r_meth r (val_var rfl) a_nil ⟨R, B, sl, s, A, rfl, r, hl, hsm, fun e he => qe e (by rw [he]), fun x hx => ?_⟩)
    exact q (_, x.2) (by rw [hx])
  rw [if_neg (by omega)] at q qe
  refine (s_ifn (t_test (v_eqI (val_var rfl) val_c)) (fun he => ?_) fun he => ?_)
  · rw [if_pos (by omega)] at q qe
    exact c_ret (r_meth r (val_var rfl) a_nil ⟨R, B, sl, s, A, rfl, r, hl, hsm, qe, q⟩)
  rw [if_neg (by omega)] at q qe
  refine s_ifnb (t_or (t_test (v_eqI (val_var rfl) val_c)) fun _ => t_test (v_eqI (val_var rfl) val_c)) (fun he => ?_) fun he => ?_
  · refine q_place kp r (p := s.place + 1) (val_var rfl) (v_place1 kp r (val_var rfl)) hl fun H1 r1 g1 => ?_
    refine c_ret (b_methC kp r1 (val_var rfl) (c_cons (c_op (s_lst (a_cons val_c (a_cons val_c a_nil)) (by show 2 ≤ 1000; decide) fun l hl2 => ?_))))
    have r2 := r1.same (Same.new (o := .lst [.str "begin", .str "end"]) hl2)
    have g2 := g1.trans (Gx.same (Same.new (o := .lst [.str "begin", .str "end"]) hl2))
    refine v_int1 (v_eqI (val_var (v := nV c) rfl) val_c) _ ?_
    by_cases h36 : c = 36
    · have e1 : decide ((c : Int) = 36) = true := decide_eq_true (by omega)
      rw [e1]
      rw [if_neg (by omega), if_pos h36] at q
      refine ⟨l, _, 1, .str "end", rfl, rfl, SqL.of upd_same, rfl, ?_⟩
      refine ⟨R, A.bd, A.nodes, A.weights, A.nds, s.bd, .fin, rfl, .inr (.inl rfl), r2.bs, hsm, r2.bdq fun R6 H6 A6 r6 g6 _ _ _ => ?_⟩
      exact q _ rfl _ _ _ r6 (g2.trans g6)
    · have e1 : decide ((c : Int) = 36) = false := decide_eq_false (by omega)
      rw [e1]
      have h94 : c = 94 := by
        rcases Bool.or_eq_true_iff.mp he with h | h
        · have := of_decide_eq_true h; omega
        · have := of_decide_eq_true h; omega
      rw [if_pos h94] at q
      refine ⟨l, _, 0, .str "begin", rfl, rfl, SqL.of upd_same, rfl, ?_⟩
      refine ⟨R, A.bd, A.nodes, A.weights, A.nds, s.bd, .bgn, rfl, .inl rfl, r2.bs, hsm, r2.bdq fun R6 H6 A6 r6 g6 _ _ _ => ?_⟩
      exact q _ rfl _ _ _ r6 (g2.trans g6)
  obtain ⟨h1, h2⟩ := Bool.or_eq_false_iff.mp he
  have h1 := of_decide_eq_false h1
  have h2 := of_decide_eq_false h2
  rw [if_neg (by omega), if_neg (by omega)] at q qe
  -- the builder's test of one pair
  have one : ∀ (R1 H1 : Hp) (A1 : Ads) (p x y : Nat) (σ : L2.St) (t1 t2 : TE), RS K B R1 H1 sl { s with place := p } A1 → Gx R H A R1 H1 A1 → Val (tVar 0) σ H1 (.ref sl) → (∀ H2, Val t1 σ H2 (nV x)) → (∀ H2, Val t2 σ H2 (nV y)) → RSN K B R H sl A s (.test [(x, y)] false) p Q →
      tRet (tMeth (He.ga K "Builder") "test" (sp_Builder_test K) [] E0 (tFld K (tVar 0) "builder") (tCons (tLst (tCons (tTup (tCons t1 (tCons t2 tNil))) tNil)) (tCons (tC (.bl false)) tNil))) (fin Q) σ H1 := by
    intro R1 H1 A1 p x y σ t1 t2 r1 g1 h0 v1 v2 q
    refine c_ret (b_methC kp r1 h0 (c_cons (s_pair1 (K := K) r1.sub (v1 _) (v2 _) fun R3 H3 l s3 g3 s4 hl => ?_)))
    have r3 := r1.grow g3 s4 s3
    refine ⟨R3, A1.bd, A1.nodes, A1.weights, l, A1.nds, s.bd, [(x, y)], false, rfl, r3.bs, hl, hsm, r3.bdq fun R6 H6 A6 r6 g6 _ _ _ => ?_⟩
    exact q _ _ _ r6 ((g1.trans ⟨Go.of g3 s4, rfl, rfl⟩).trans g6)
  refine (s_ifn (t_test (v_eqI (val_var rfl) val_c)) (fun he => ?_) fun he => ?_)
  · rw [if_pos (by omega)] at q
    refine q_place kp r (p := s.place + 1) (val_var rfl) (v_place1 kp r (val_var rfl)) hl fun H1 r1 g1 => ?_
    exact one R H1 A (s.place + 1) 0 GREATEST _ _ _ r1 g1 (val_var rfl) (fun _ => val_c) (fun _ => val_c) (q _ rfl)
  · rw [if_neg (by omega)] at q qe
    refine q_asgC (r_meth r (val_var rfl) a_nil ⟨R, B, sl, s, A, rfl, r, hl, fun e he => qe e (by rw [he]), fun x hx R1 H1 A1 r1 g1 => ?_⟩)
    obtain ⟨v, p⟩ := x
    exact one R1 H1 A1 p v v _ _ _ r1 g1 (val_var rfl) (fun _ => val_var rfl) (fun _ => val_var rfl) (q (_, p) (by rw [hx]))
end Mi
/-! U13: repeat, close. -/
namespace Mi
open PySem PySem.Spec PyProof.Rows L2
theorem nsV_dropLast (l : List Nat) : (nsV l).dropLast = nsV l.dropLast := by unfold nsV; rw [List.map_dropLast]
theorem nsV_last {l : List Nat} (h : l ≠ []) : (nsV l)[(nsV l).length - 1]? = some (nV (l.getLast?.getD 0)) := by
  rw [nsV_len]
  unfold nsV
  rw [List.getElem?_map, ← List.getLast?_eq_getElem?, List.getLast?_eq_some_getLast h]
  rfl
theorem StOk.small {B : Bs} {s : St} (o : StOk B s) (hB : B.length ≤ 1000) : s.bd.nodes.length + s.top.parts.length + s.top.rows.length ≤ 21000 := by
  have h1 := o.cnt
  have h2 := o.place
  rw [cntL_cons] at h1
  omega
theorem StOk.rowOk {B : Bs} {s : St} (o : StOk B s) (hB : B.length ≤ 1000) : RowOk s := by
  have := o.small hB
  exact ⟨fun i hi => o.ix s.top (by simp) i (by simp [hi]), by omega, by omega⟩
theorem pure_PatternReader_repeat {K : Ky} (kp : KPatternReader K) (kl : KLevel K) (vs : List V) (H : Hp) (Q : VK) (E : XK) (h : sp_PatternReader_repeat K vs H Q E) : t_PatternReader_repeat K E (fin Q) (L2.start N_PatternReader_repeat vs) H := by
  obtain ⟨R, B, sl, s, A, c, rfl, r, ok, hl, qe, q⟩ := h
  unfold St.repeat_ at q qe
  refine q_drop (bar r (val_var rfl) (v_hasAtom kp r (val_var rfl)) (fun hn => ?_) fun ha => ?_)
  · rw [if_pos hn] at qe; exact qe _ rfl
  rw [if_neg (by rw [ha]; decide)] at q qe
  have hsm := ok.small r.sm
  have hne := ok.atom ha
  refine q_place kp r (p := s.place + 1) (val_var rfl) (v_place1 kp r (val_var rfl)) hl fun H1 r1 g1 => ?_
  refine q_asgG (s_tup (a_cons val_c (a_cons val_c a_nil)) (by show 2 ≤ 1000; decide) fun t ht => ?_)
  have sH := Same.new (o := .tup [.int 0, .non]) ht
  have r2 := r1.same sH
  have g2 := g1.trans (Gx.same sH)
  refine c_tup (SqT.of upd_same) rfl ⟨_, _, rfl, _, _, rfl, rfl, ?_⟩
  -- from the numbers on
  have rest : ∀ (m : Nat) (mo : Option Nat) (p : Nat) (R3 H3 : Hp) (A3 : Ads), RS K B R3 H3 sl { s with place := p } A3 → Gx R H A R3 H3 A3 → m ≤ 20 → (∀ k, mo = some k → k ≤ 20) → times B s.place c = .ok ((m, mo), p) →
      tSeq (tAsg (tFld K (tMeth (He.ga K "PatternReader") "level" (sp_PatternReader_level K) [] E0 (tVar 0) tNil) "parts") (gName 4))
        (tSeq (tDrop (tBM K "list" rAppend (tVar 4) (tCons (tMeth (He.ga K "Builder") "often" (sp_Builder_often K) [] E0 (tFld K (tVar 0) "builder") (tCons (tBM0 K "list" rPop (tVar 4)) (tCons (tVar 2) (tCons (tVar 3) tNil)))) tNil)))
        (sFld K (tVar 0) (tC (.bl false)) "has_atom")) (fin Q) [some (.ref sl), some (nV c), some (nV m), some (oV mo), none] H3 := by
    intro m mo p R3 H3 A3 r3 g3 hm hmo ht
    rw [ht] at q
    dsimp only at q
    refine q_asg (v_lvParts kl r3.top (r_level r3 (val_var rfl))) ?_
    refine q_drop (val_var (v := V.ref A3.top.parts) rfl _ ⟨.inl ⟨rfl, _, SqL.of r3.top.2.2⟩, c_cons ?_⟩)
    refine b_methC kp r3 (val_var rfl) (c_cons (val_var (v := V.ref A3.top.parts) rfl _ ⟨.inl ⟨rfl, _, SqL.of r3.top.2.2⟩, A3.top.parts, nsV s.top.parts, _, rfl, rfl, r3.top.2.2, nsV_last hne, ?_⟩))
    rw [nsV_dropLast]
    have r4 := r3.putParts s.top.parts.dropLast
    refine (a_cons (val_var (v := nV m) rfl) (a_cons (val_var (v := oV mo) rfl) a_nil)) _ ?_
    have hx : s.top.parts.getLast?.getD 0 < s.bd.nodes.length := by
      rw [List.getLast?_eq_some_getLast hne]
      exact ok.ix s.top (by simp) _ (by simp [List.getLast_mem hne])
    refine ⟨R3, A3.bd, A3.nodes, A3.weights, A3.nds, s.bd, s.top.parts.getLast?.getD 0, m, mo, rfl, r4.bs, hx, hm, hmo, by omega, r4.bdq fun R5 H5 A5 r5 g5 hb5 ht5 u5 => ?_⟩
    refine ⟨A5.top.parts, _, _, by rw [ht5], rfl, r5.top.2.2, by rw [nsV_len]; exact Nat.lt_trans (by show s.top.parts.dropLast.length < 100000; rw [List.length_dropLast]; omega) big, ?_⟩
    rw [nsV_snoc]
    have r6 := r5.putParts (s.top.parts.dropLast ++ [(s.bd.often (s.top.parts.getLast?.getD 0) m mo).2])
    refine l_has kp r6 (val_var rfl) val_c fun H7 r7 g7 => ?_
    exact q _ rfl _ _ _ r7 (((g3.trans Gx.upd).trans g5).trans (Gx.trans Gx.upd g7))
  have eI : ∀ k : Nat, ((c : Int) = (k : Int)) ↔ c = k := fun k => by omega
  -- if byte == PLUS: least = 1
  have st1 : ∀ {u : TS}, (c = 43 → u (fin Q) [some (.ref sl), some (nV c), some (nV 1), some .non, none] (upd H1 t (.tup [.int 0, .non]))) → (c ≠ 43 → u (fin Q) [some (.ref sl), some (nV c), some (nV 0), some .non, none] (upd H1 t (.tup [.int 0, .non]))) →
      tSeq (tIfS (tTest (tOp rEq (tVar 1) (tC (.int 43)))) (tAsg (tC (.int 1)) (gName 2)) tNext) u (fin Q) [some (.ref sl), some (nV c), some (nV 0), some .non, none] (upd H1 t (.tup [.int 0, .non])) := by
    intro u h1 h2
    refine (s_ifn (t_test (v_eqI (val_var rfl) val_c)) (fun he => ?_) fun he => ?_)
    · exact s_asg (te := tC (.int 1)) val_c (h1 (by omega))
    · exact h2 (by omega)
  refine st1 (fun h43 => ?_) (fun h43 => ?_)
  · subst h43
    refine (s_ifn (t_test (v_eqI (val_var rfl) val_c)) (fun he => by cases he) fun _ => ?_)
    refine (s_ifn (t_test (v_eqI (val_var rfl) val_c)) (fun he => by cases he) fun _ => ?_)
    exact rest 1 none (s.place + 1) _ _ _ r2 g2 (by decide) (fun k z => by cases z) (by unfold times; rw [if_pos rfl])
  refine (s_ifn (t_test (v_eqI (val_var rfl) val_c)) (fun he => ?_) fun he => ?_)
  · have h63 : c = 63 := by omega
    subst h63
    refine s_asg (te := tC (.int 1)) val_c ?_
    refine (s_ifn (t_test (v_eqI (val_var rfl) val_c)) (fun he => by cases he) fun _ => ?_)
    exact rest 0 (some 1) (s.place + 1) _ _ _ r2 g2 (by decide) (fun k z => by cases z; decide) (by unfold times; rw [if_neg (by decide), if_pos rfl])
  have h63 : c ≠ 63 := by omega
  refine (s_ifn (t_test (v_eqI (val_var rfl) val_c)) (fun he => ?_) fun he => ?_)
  · have h123 : c = 123 := by omega
    subst h123
    have et : times B s.place 123 = numbers B (s.place + 1) := by unfold times; rw [if_neg (by decide), if_neg (by decide), if_pos rfl]
    refine c_asg (r_meth r2 (val_var rfl) a_nil ⟨R, B, sl, _, A, rfl, r2, fun e he => qe e (by rw [et, show numbers B (s.place + 1) = _ from he]), fun x hx R3 H3 A3 t3 r3 g3 ht3 => ?_⟩)
    obtain ⟨⟨m, mo⟩, p3⟩ := x
    have hlt := numbers_lt hx
    refine c_tup (Same.seqT r3.sub ht3) rfl ⟨_, _, rfl, _, _, rfl, rfl, ?_⟩
    exact rest m mo p3 _ _ _ r3 (g2.trans g3) hlt.2.2.1 hlt.2.2.2 (by rw [et]; exact hx)
  · have h123 : c ≠ 123 := by omega
    exact rest 0 none (s.place + 1) _ _ _ r2 g2 (by decide) (fun k z => by cases z) (by unfold times; rw [if_neg h43, if_neg h63, if_neg h123])
theorem oV_eq (o : Option Nat) (c : Nat) : decide (oV o = nV c) = decide (o = some c) := by
  rw [decide_eq_decide]
  cases o with
  | none => exact ⟨fun h => (by cases h), fun h => (by cases h)⟩
  | some x =>
    show V.int x = V.int c ↔ _
    exact ⟨fun h => by have := V.int.inj h; simp; omega, fun h => by cases h; rfl⟩
theorem refs_pop (A : Ads) : (refsOf (A.below.reverse ++ [A.top])).dropLast = refsOf A.below.reverse ∧ (refsOf (A.below.reverse ++ [A.top]))[(refsOf (A.below.reverse ++ [A.top])).length - 1]? = some (.ref A.top.obj) := by
  unfold refsOf
  rw [List.map_append]
  constructor
  · exact List.dropLast_concat
  · rw [← List.getLast?_eq_getElem?]
    exact List.getLast?_concat ..
theorem pure_PatternReader_close {K : Ky} (kp : KPatternReader K) (kl : KLevel K) (vs : List V) (H : Hp) (Q : VK) (E : XK) (h : sp_PatternReader_close K vs H Q E) : t_PatternReader_close K E (fin Q) (L2.start N_PatternReader_close vs) H := by
  obtain ⟨R, B, sl, s, A, c, rfl, r, ok, hl, qe, q⟩ := h
  unfold St.close at q qe
  have hsm := ok.small r.sm
  have hv : Val (tOp rEq (tFld K (tMeth (He.ga K "PatternReader") "level" (sp_PatternReader_level K) [] E0 (tVar 0) tNil) "closing") (tVar 1)) (L2.start N_PatternReader_close [.ref sl, nV c]) H (.bl (decide (s.top.closing = some c))) := by
    have := v_eq (v_lvClosing kl r.top (r_level r (t0 := tVar 0) (σ := L2.start N_PatternReader_close [.ref sl, nV c]) (val_var rfl))) (val_var (i := 1) (v := nV c) rfl) (by cases s.top.closing <;> rfl)
    rwa [oV_eq] at this
  refine q_drop (bar r (val_var rfl) hv (fun hn => ?_) fun ha => ?_)
  · rw [if_pos (of_decide_eq_false hn)] at qe; exact qe _ rfl
  have hcl := of_decide_eq_true ha
  rw [if_neg (fun z => z hcl)] at q
  dsimp only at q
  obtain ⟨k, ks, hks⟩ : ∃ k ks, s.below = k :: ks := by
    cases hb : s.below with
    | cons k ks => exact ⟨k, ks, rfl⟩
    | nil =>
      have := ok.clo
      rw [hb] at this
      rcases this with ⟨z, _⟩ | ⟨_, z⟩
      · rw [hcl] at z; cases z
      · cases z
  refine q_drop (r_meth r (val_var rfl) a_nil ⟨R, B, sl, s, A, rfl, r, ok.rowOk r.sm, fun R1 H1 A1 r1 g1 => ?_⟩)
  have hks1 : s.endRow.below = k :: ks := hks
  obtain ⟨l, ls, hls⟩ : ∃ l ls, A1.below = l :: ls := by
    have := Paired.len r1.below
    rw [hks1] at this
    cases hb : A1.below with
    | cons l ls => exact ⟨l, ls, rfl⟩
    | nil => rw [hb] at this; cases this
  obtain ⟨p1, p2⟩ := refs_pop A1
  refine q_asgC (v_levels kp r1 (val_var rfl) _ ⟨.inl ⟨rfl, _, SqL.of r1.levels⟩, A1.levels, _, _, rfl, rfl, r1.levels, p2, ?_⟩)
  rw [p1]
  have r2 := r1.pop hls hks1
  obtain ⟨d1, d2⟩ := r1.dl
  obtain ⟨n1, n2, n3, n4⟩ := r1.nL (x := A1.levels) (mF (by simp))
  obtain ⟨m1, m2, m3, m4⟩ := r1.nL (x := A1.nodes) (mF (by simp))
  obtain ⟨w1, w2, w3, w4⟩ := r1.nL (x := A1.weights) (mF (by simp))
  have lv2 : LvAt K (upd H1 A1.levels (.lst (refsOf A1.below.reverse))) A1.top s.endRow.top := r1.top.but (S := [A1.levels]) (But.upd (by simp)) (by simp; exact n3) (by simp; grind) (by simp; grind)
  have hix : ∀ p ∈ s.endRow.top.rows, p < s.endRow.bd.nodes.length := by
    intro p hp
    have hr := row_len s.bd s.top.parts
    show p < (s.bd.row s.top.parts).1.nodes.length
    have hp' : p ∈ s.top.rows ++ [(s.bd.row s.top.parts).2] := hp
    rcases List.mem_append.mp hp' with h | h
    · have := ok.ix s.top (by simp) p (by simp [h]); omega
    · simp at h; subst h; exact hr.2
  have hrl : s.endRow.bd.nodes.length = s.bd.nodes.length + 1 + s.top.parts.length := (row_len s.bd s.top.parts).1
  have hrr : s.endRow.top.rows.length = s.top.rows.length + 1 := by show (s.top.rows ++ [_]).length = _; simp
  have hne : s.endRow.top.rows ≠ [] := by show s.top.rows ++ [_] ≠ []; simp
  have ho := oneOf_len s.endRow.bd s.endRow.top.rows hne hix
  refine q_asgC (b_meth kp r2 (val_var rfl) (a_cons (v_lvRows kl lv2 (val_var rfl)) a_nil) ⟨R1, A1.bd, A1.nodes, A1.weights, A1.top.rows, A1.nds, s.endRow.bd, s.endRow.top.rows, rfl, r2.bs, lv2.2.1, by grind, by grind, hne, hix, by omega, r2.bdq fun R3 H3 A3 r3 g3 hb3 ht3 u3 => ?_⟩)
  have lv3 : LvAt K H3 A1.top s.endRow.top := lv2.but u3 (by simp; exact ⟨m3, w3⟩) (by simp; grind) (by simp; grind)
  have g3' : Gx R H A R3 H3 A3 := Gx.trans (A1 := { A1 with top := l, below := ls }) (Gx.trans g1 ⟨Go.upd, rfl, rfl⟩) g3
  -- from the name on
  have rest : ∀ (y : Bd × Nat) (R4 H4 : Hp) (A4 : Ads), RS K B R4 H4 sl { s.endRow with bd := y.1, top := k, below := ks } A4 → Gx R H A R4 H4 A4 →
      RSQ K B R H sl A (St.add { s.endRow with place := s.place + 1, bd := y.1, top := k, below := ks } y.2) .non Q →
      tSeq (sFld K (tVar 0) (tOp xAdd (tFld K (tVar 0) "place") (tC (.int 1))) "place")
        (tDrop (tMeth (He.ga K "PatternReader") "add" (sp_PatternReader_add K) [] E0 (tVar 0) (tCons (tVar 3) tNil))) (fin Q) [some (.ref sl), some (nV c), some (.ref A1.top.obj), some (nV y.2)] H4 := by
    intro y R4 H4 A4 r4 g4 q
    refine q_place kp r4 (p := s.endRow.place + 1) (val_var rfl) (v_place1 (s := { s.endRow with bd := y.1, top := k, below := ks }) kp r4 (val_var rfl)) hl fun H5 r5 g5 => ?_
    have hkp : k.parts.length < 100000 := by
      have h1 := ok.cnt
      have h2 := r.sm
      have h3 := ok.place
      rw [hks, cntL_cons, cntL_cons] at h1
      omega
    refine c_drop (r_meth r5 (val_var rfl) (a_cons (val_var rfl) a_nil) ⟨R4, B, sl, _, A4, y.2, rfl, r5, hkp, fun R6 H6 A6 r6 g6 => ?_⟩)
    exact q _ _ _ r6 ((g4.trans g5).trans g6)
  refine s_seq (s_if (t_test (v_notNo (v_lvName kl lv3 (val_var rfl)))) (fun hs => ?_) fun hs => ?_)
  · cases hn : s.endRow.top.name with
    | none => rw [hn] at hs; cases hs
    | some nk =>
      rw [hn] at q
      dsimp only at q
      rw [hks1] at q
      dsimp only at q
      have hvn : Val (tFld K (tVar 2) "name") [some (.ref sl), some (nV c), some (.ref A1.top.obj), some (nV (s.endRow.bd.oneOf s.endRow.top.rows).2)] H3 (nV nk) := by
        have := v_lvName kl lv3 (t0 := tVar 2) (σ := [some (.ref sl), some (nV c), some (.ref A1.top.obj), some (nV (s.endRow.bd.oneOf s.endRow.top.rows).2)]) (val_var rfl)
        rw [hn] at this
        exact this
      refine c_asg (b_meth kp r3 (val_var rfl) (a_cons (val_var rfl) (a_cons hvn a_nil)) ⟨R3, A3.bd, A3.nodes, A3.weights, A3.nds, (s.endRow.bd.oneOf s.endRow.top.rows).1, (s.endRow.bd.oneOf s.endRow.top.rows).2, nk, rfl, r3.bs, ho.2, by omega, r3.bdq fun R4 H4 A4 r4 g4 _ _ _ => ?_⟩)
      exact rest _ R4 H4 A4 r4 (g3'.trans g4) (q _ rfl)
  · cases hn : s.endRow.top.name with
    | some nk => rw [hn] at hs; cases hs
    | none =>
      rw [hn] at q
      dsimp only at q
      rw [hks1] at q
      dsimp only at q
      exact rest _ R3 H3 A3 r3 g3' (q _ rfl)
end Mi
/-! U14: take, whole, the reader's making, read_pattern. -/
namespace Mi
open PySem PySem.Spec PyProof.Rows L2
theorem c_tif {σ : L2.St} {H : Hp} {D : Ends} {te : TE} {t u : TS} (h : te σ H fun x H1 => ∃ b, x = .bl b ∧ if b = true then t D σ H1 else u D σ H1) : tIfS (tTest te) t u D σ H := h
theorem pure_PatternReader_take {K : Ky} (kp : KPatternReader K) (vs : List V) (H : Hp) (Q : VK) (E : XK) (h : sp_PatternReader_take K vs H Q E) : t_PatternReader_take K E (fin Q) (L2.start N_PatternReader_take vs) H := by
  obtain ⟨R, B, sl, s, A, c, rfl, r, ok, hl, qe, q⟩ := h
  unfold St.take at q qe
  refine s_ifd (t_test (v_eqI (val_var rfl) val_c)) (fun he => ?_) fun he => ?_
  · rw [if_pos (by omega)] at q
    refine q_drop (r_meth r (val_var rfl) a_nil ⟨R, B, sl, s, A, rfl, r, ok.rowOk r.sm, fun R1 H1 A1 r1 g1 => ?_⟩)
    exact l_place kp r1 (p := s.place + 1) (val_var rfl) (v_place1 (s := s.endRow) kp r1 (val_var rfl)) hl fun H2 r2 g2 => q _ rfl _ _ _ r2 (g1.trans g2)
  rw [if_neg (by omega)] at q qe
  refine c_tif (c_in (l := [41, 62]) (val_var rfl) (a_cons val_c (a_cons val_c a_nil)) (by decide) fun H1 s1 => ⟨_, rfl, ?_⟩)
  have r1 := r.same s1
  have g1 : Gx R H A R H1 A := Gx.same s1
  show (if decide (c ∈ [41, 62]) = true then _ else _)
  by_cases h1 : c = 41 ∨ c = 62
  · rw [if_pos (decide_eq_true (show c ∈ [41, 62] by simpa using h1))]
    rw [if_pos h1] at q qe
    exact c_drop (r_meth r1 (val_var rfl) (a_cons (val_var rfl) a_nil) ⟨R, B, sl, s, A, c, rfl, r1, ok, hl, qe, fun s' hs R2 H2 A2 r2 g2 => q s' hs _ _ _ r2 (g1.trans g2)⟩)
  rw [if_neg (by rw [decide_eq_false (show ¬ c ∈ [41, 62] by simpa using h1)]; decide)]
  rw [if_neg h1] at q qe
  refine c_tif (c_in (l := [40, 60]) (val_var rfl) (a_cons val_c (a_cons val_c a_nil)) (by decide) fun H2 s2 => ⟨_, rfl, ?_⟩)
  have r2 := r1.same s2
  have g2 : Gx R H A R H2 A := g1.trans (Gx.same s2)
  show (if decide (c ∈ [40, 60]) = true then _ else _)
  by_cases h2 : c = 40 ∨ c = 60
  · rw [if_pos (decide_eq_true (show c ∈ [40, 60] by simpa using h2))]
    rw [if_pos h2] at q qe
    exact c_drop (r_meth r2 (val_var rfl) (a_cons (val_var rfl) a_nil) ⟨R, B, sl, s, A, c, rfl, r2, ok.names, hl, qe, fun s' hs R3 H3 A3 r3 g3 => q s' hs _ _ _ r3 (g2.trans g3)⟩)
  rw [if_neg (by rw [decide_eq_false (show ¬ c ∈ [40, 60] by simpa using h2)]; decide)]
  rw [if_neg h2] at q qe
  refine c_tif (c_in (l := [42, 43, 63, 123]) (val_var rfl) (a_cons val_c (a_cons val_c (a_cons val_c (a_cons val_c a_nil)))) (by decide) fun H3 s3 => ⟨_, rfl, ?_⟩)
  have r3 := r2.same s3
  have g3 : Gx R H A R H3 A := g2.trans (Gx.same s3)
  show (if decide (c ∈ [42, 43, 63, 123]) = true then _ else _)
  by_cases h3 : c = 42 ∨ c = 43 ∨ c = 63 ∨ c = 123
  · rw [if_pos (decide_eq_true (show c ∈ [42, 43, 63, 123] by simpa using h3))]
    rw [if_pos h3] at q qe
    exact c_drop (r_meth r3 (val_var rfl) (a_cons (val_var rfl) a_nil) ⟨R, B, sl, s, A, c, rfl, r3, ok, hl, qe, fun s' hs R4 H4 A4 r4 g4 => q s' hs _ _ _ r4 (g3.trans g4)⟩)
  rw [if_neg (by rw [decide_eq_false (show ¬ c ∈ [42, 43, 63, 123] by simpa using h3)]; decide)]
  rw [if_neg h3] at q qe
  refine q_drop (r_methC r3 (val_var rfl) (c_cons (c_in (l := [93, 125]) (val_var rfl) (a_cons val_c (a_cons val_c a_nil)) (by decide) fun H4 s4 => ?_)))
  have r4 := r3.same s4
  have g4 : Gx R H A R H4 A := g3.trans (Gx.same s4)
  refine ⟨R, B, sl, s, A, _, rfl, r4, fun hb => ?_, fun hb => ?_⟩
  · have hm : c ∈ [93, 125] := by
      by_cases z : c ∈ [93, 125]
      · exact z
      · rw [decide_eq_false z] at hb; cases hb
    rw [if_pos (by simpa using hm)] at qe
    exact qe _ rfl
  · have hm : ¬ c ∈ [93, 125] := by
      intro z
      rw [decide_eq_true z] at hb; cases hb
    rw [if_neg (by simpa using hm)] at q qe
    have hsm := ok.small r.sm
    refine c_drop (r_methC r4 (val_var rfl) (c_cons (r_meth r4 (val_var rfl) (a_cons (val_var rfl) a_nil) ⟨R, B, sl, s, A, c, rfl, r4, hl, by omega, fun e he => qe e (by rw [he]), fun x hx R5 H5 A5 r5 g5 => ?_⟩)))
    obtain ⟨nd, p⟩ := x
    refine ⟨R5, B, sl, _, A5, (s.bd.added nd 1).2, rfl, r5, by show s.top.parts.length < 100000; omega, fun R6 H6 A6 r6 g6 => ?_⟩
    exact q _ (by rw [hx]) _ _ _ r6 ((g4.trans g5).trans g6)
theorem Run.inv {B : Bs} {s : St} {r} (h : Run B s r) {c : Nat} (hc : B[s.place]? = some c) : (∃ e, s.take B c = .error e ∧ r = .error e) ∨ ∃ s', s.take B c = .ok s' ∧ Run B s' r := by
  cases h with
  | done hd => have := (List.getElem?_eq_some_iff.mp hc).1; omega
  | err h1 h2 => rw [hc] at h1; cases h1; exact .inl ⟨_, h2, rfl⟩
  | step h1 h2 h3 => rw [hc] at h1; cases h1; exact .inr ⟨_, h2, h3⟩
theorem Run.fin_ {B : Bs} {s : St} {r} (h : Run B s r) (hl : B.length ≤ s.place) : r = s.finish := by
  cases h with
  | done hd => rfl
  | err h1 h2 => have := (List.getElem?_eq_some_iff.mp h1).1; omega
  | step h1 h2 h3 => have := (List.getElem?_eq_some_iff.mp h1).1; omega
theorem pure_PatternReader_whole {K : Ky} (kp : KPatternReader K) (kl : KLevel K) (kb : KBuilder K) (vs : List V) (H : Hp) (Q : VK) (E : XK) (h : sp_PatternReader_whole K vs H Q E) : t_PatternReader_whole K E (fin Q) (L2.start N_PatternReader_whole vs) H := by
  obtain ⟨R, B, sl, s0, A0, res, rfl, r0, ok0, run0, qe, q⟩ := h
  refine s_seq (c_whileC (fun k σ H' => ∃ R' A' s, σ = [some (.ref sl), none] ∧ RS K B R' H' sl s A' ∧ Gx R H A0 R' H' A' ∧ StOk B s ∧ Run B s res ∧ k = B.length - s.place) ⟨_, R, A0, s0, rfl, r0, Gx.refl _ _ _, ok0, run0, rfl⟩ ?_)
  rintro k σ H' ⟨R', A', s, rfl, r, g, ok, run, rfl⟩
  refine c_test (v_i0 (v_place kp r (val_var rfl)) (v_tlen kp r (val_var rfl)) _ ⟨_, rfl, ?_⟩)
  by_cases hlt : (s.place : Int) < (B.length : Int)
  · rw [if_pos (decide_eq_true hlt)]
    have hl : s.place < B.length := by omega
    obtain ⟨c, hc⟩ := some_of_lt hl
    refine ⟨_, fun _ _ z => z, ?_⟩
    refine c_drop (r_meth r (val_var rfl) (a_cons (v_tix kp r (val_var rfl) (v_place kp r (val_var rfl)) hc) a_nil) ⟨R', B, sl, s, A', c, rfl, r, ok, hl, fun e he => ?_, fun s' hs R2 H2 A2 r2 g2 => ?_⟩)
    · rcases run.inv hc with ⟨e2, h1, h2⟩ | ⟨s', h1, h2⟩
      · rw [he] at h1; cases h1; exact qe _ h2
      · rw [he] at h1; cases h1
    · rcases run.inv hc with ⟨e2, h1, h2⟩ | ⟨s2, h1, h2⟩
      · rw [hs] at h1; cases h1
      · rw [hs] at h1; cases h1
        have ht := take_ok ok hl hs
        exact ⟨_, by have := ht.2; omega, R2, A2, s', rfl, r2, g.trans g2, ht.1, h2, rfl⟩
  · rw [if_neg (by rw [decide_eq_false hlt]; decide)]
    have hr := run.fin_ (by omega)
    subst hr
    unfold St.finish at q qe
    dsimp only
    refine (s_ifn (t_test (v_i0 (v_len (v_levels kp r (val_var rfl)) (SqL.of r.levels)) val_c)) (fun he => ?_) fun he => ?_)
    · rw [lv_len r] at he
      have hne : s.below ≠ [] := fun z => by rw [z] at he; simp at he
      rw [if_pos hne] at qe
      exact s_fault (e := (1, s.place)) (a_cons val_c (a_cons (v_place kp r (val_var rfl)) a_nil)) (qe _ rfl)
    · rw [lv_len r] at he
      have hne : s.below = [] := by
        cases hb : s.below with
        | nil => rfl
        | cons a b => rw [hb] at he; simp at he; omega
      rw [if_neg (fun z => z hne)] at q qe
      dsimp only at q qe
      have hsm := ok.small r.sm
      have rw_ := row_len s.bd s.top.parts
      refine q_drop (r_meth r (val_var rfl) a_nil ⟨R', B, sl, s, A', rfl, r, ok.rowOk r.sm, fun R1 H1 A1 r1 g1 => ?_⟩)
      have hix : ∀ p ∈ s.endRow.top.rows, p < s.endRow.bd.nodes.length := by
        intro p hp
        show p < (s.bd.row s.top.parts).1.nodes.length
        have hp' : p ∈ s.top.rows ++ [(s.bd.row s.top.parts).2] := hp
        rcases List.mem_append.mp hp' with h | h
        · have := ok.ix s.top (by simp) p (by simp [h]); omega
        · simp at h; subst h; exact rw_.2
      have hrl : s.endRow.bd.nodes.length = s.bd.nodes.length + 1 + s.top.parts.length := rw_.1
      have hrr : s.endRow.top.rows.length = s.top.rows.length + 1 := by show (s.top.rows ++ [_]).length = _; simp
      have hne2 : s.endRow.top.rows ≠ [] := by show s.top.rows ++ [_] ≠ []; simp
      have ho := oneOf_len s.endRow.bd s.endRow.top.rows hne2 hix
      obtain ⟨d1, d2⟩ := r1.dl
      refine q_asgC (b_meth kp r1 (val_var rfl) (a_cons (v_lvRows kl r1.top (r_level r1 (val_var rfl))) a_nil) ⟨R1, A1.bd, A1.nodes, A1.weights, A1.top.rows, A1.nds, s.endRow.bd, s.endRow.top.rows, rfl, r1.bs, r1.top.2.1, by grind, by grind, hne2, hix, by omega, r1.bdq fun R3 H3 A3 r3 g3 hb3 ht3 u3 => ?_⟩)
      refine (s_ifn (t_test (v_i0 (v_weight kb r3.bs (v_bd kp r3 (val_var rfl)) (val_var rfl) ho.2) val_c)) (fun he => ?_) fun he => ?_)
      · dsimp only at he
        rw [if_pos (by omega)] at qe
        exact s_fault (e := (7, 0)) (a_cons val_c (a_cons val_c a_nil)) (qe _ rfl)
      · dsimp only at he
        rw [if_neg (by omega)] at q
        exact s_ret (val_var rfl) (q _ rfl R3 H3 A3 _ r3 ((g.trans g1).trans g3) rfl rfl ho.2)
theorem pure_Pattern___init__ {K : Ky} (k : KPattern K) (vs : List V) (H : Hp) (Q : VK) (E : XK) (h : sp_Pattern___init__ K vs H Q E) : t_Pattern___init__ K E (fin Q) (L2.start N_Pattern___init__ vs) H := by
  obtain ⟨x, dx, n, i, nm, rfl, hx, q⟩ := h
  refine q_fld (fs := []) (fs' := [("nodes", n)]) (val_var (v := n) rfl) (val_var rfl) hx k.cl k.n_nodes (by decide) rfl ?_
  refine q_fld (fs' := [("nodes", n), ("root", i)]) (val_var (v := i) rfl) (val_var rfl) upd_same k.cl k.n_root (by show 1 < 1000; decide) rfl ?_
  refine s_fld (fs' := [("nodes", n), ("root", i), ("names", nm)]) (val_var (v := nm) rfl) (val_var rfl) upd_same k.cl k.n_names (by show 2 < 1000; decide) rfl ?_
  rw [upd_upd, upd_upd]
  exact q
end Mi
/-! U15: the reader's making, read_pattern. -/
namespace Mi
open PySem PySem.Spec PyProof.Rows L2
theorem pure_PatternReader___init__ {K : Ky} (kp : KPatternReader K) (vs : List V) (H : Hp) (Q : VK) (E : XK) (h : sp_PatternReader___init__ K vs H Q E) : t_PatternReader___init__ K E (fin Q) (L2.start N_PatternReader___init__ vs) H := by
  obtain ⟨R, a, t, dx, B, rfl, ha, hRa, hs, ht, ok, hB, q⟩ := h
  refine q_fld (fs := []) (fs' := [("text", .ref t)]) (val_var (v := V.ref t) rfl) (val_var rfl) ha kp.cl kp.n_text (by decide) rfl ?_
  refine q_fld (fs' := [("text", .ref t), ("place", .int 0)]) (tb := tC (.int 0)) val_c (val_var rfl) upd_same kp.cl kp.n_place (by show 1 < 1000; decide) rfl ?_
  rw [upd_upd]
  generalize h1 : upd H a (.ins (He.ga K "PatternReader") dx [("text", .ref t), ("place", .int 0)]) = H1
  have a1 : H1 a = some (.ins (He.ga K "PatternReader") dx [("text", .ref t), ("place", .int 0)]) := by rw [← h1, upd_same]
  have e1 : ∀ b, b ≠ a → H1 b = H b := fun b hb => by rw [← h1, upd_ne hb]
  -- the builder
  refine q_sfld (c_make ?_)
  intro bd dxb hbd hdx hne
  refine ⟨bd, dxb, rfl, upd_same, fun H2 n w hn hw hnw h2bd h2n h2w u => ⟨rfl, ?_⟩⟩
  have nbd : n ≠ bd := fun z => by rw [z, upd_same] at hn; cases hn
  have wbd : w ≠ bd := fun z => by rw [z, upd_same] at hw; cases hw
  have ndx : n ≠ dxb := fun z => by rw [z, upd_ne hne, upd_same] at hn; cases hn
  have wdx : w ≠ dxb := fun z => by rw [z, upd_ne hne, upd_same] at hw; cases hw
  rw [upd_ne nbd, upd_ne ndx] at hn
  rw [upd_ne wbd, upd_ne wdx] at hw
  have s12 : Same H1 H2 := fun b o hb => u b o (by rw [upd_ne (ne_of_none hb hbd), upd_ne (ne_of_none hb hdx)]; exact hb) (by simpa using ne_of_none hb hbd)
  have a2 := s12 _ _ a1
  have bda : bd ≠ a := fun z => by rw [z, a1] at hbd; cases hbd
  have na : n ≠ a := fun z => by rw [z, a1] at hn; cases hn
  have wa : w ≠ a := fun z => by rw [z, a1] at hw; cases hw
  refine val_var (v := V.ref a) rfl _ ⟨a, _, dx, _, rfl, a2, kp.cl, kp.n_builder, by show 2 < 1000; decide, ?_⟩
  -- the names
  refine q_sfld (s_lst a_nil (by decide) fun p hp => ?_)
  have pa : p ≠ a := fun z => by rw [z, upd_same] at hp; cases hp
  rw [upd_ne pa] at hp
  refine val_var (v := V.ref a) rfl _ ⟨a, _, dx, _, rfl, by rw [upd_ne (Ne.symm pa), upd_same], kp.cl, kp.n_names, by show 3 < 1000; decide, ?_⟩
  generalize h3 : upd (upd (upd H2 a _) p (.lst [])) a _ = H3
  have e3 : ∀ b, b ≠ a → b ≠ p → H3 b = H2 b := fun b hb hb2 => by rw [← h3, upd_ne hb, upd_ne hb2, upd_ne hb]
  have a3 : H3 a = some (.ins (He.ga K "PatternReader") dx [("text", .ref t), ("place", .int 0), ("builder", .ref bd), ("names", .ref p)]) := by rw [← h3, upd_same]; rfl
  have p3 : H3 p = some (.lst []) := by rw [← h3, upd_ne pa, upd_same]
  -- the levels
  refine q_sfld (c_cons (s_mkLevel (K := K) (cl := none) (nm := none) (a_cons val_c (a_cons val_c a_nil)) fun H4 x dxl rows parts s34 hx hr hpt hrp h4x h4r h4p => ?_))
  refine ⟨by show 1 ≤ _; rw [sizeLine_eq]; decide, fun l hl => ?_⟩
  have a4 := s34 _ _ a3
  have la : l ≠ a := fun z => by rw [z, a4] at hl; cases hl
  refine val_var (v := V.ref a) rfl _ ⟨a, _, dx, _, rfl, by rw [upd_ne (Ne.symm la)]; exact a4, kp.cl, kp.n_levels, by show 4 < 1000; decide, ?_⟩
  refine s_fld (fs' := rdF ⟨t, bd, n, w, p, l, [], [], ⟨x, rows, parts⟩, []⟩ 0 false) (tb := tC (.bl false)) val_c (val_var rfl) upd_same kp.cl kp.n_has_atom (by show 5 < 1000; decide) rfl ?_
  rw [upd_upd]
  generalize h5 : upd (upd H4 l (.lst [.ref x])) a _ = H5
  have a5 : H5 a = some (.ins (He.ga K "PatternReader") dx (rdF ⟨t, bd, n, w, p, l, [], [], ⟨x, rows, parts⟩, []⟩ 0 false)) := by rw [← h5, upd_same]
  have e5 : ∀ b o, b ≠ a → H4 b = some o → H5 b = some o := fun b o hb e => by rw [← h5, upd_ne hb, upd_ne (ne_of_none e hl)]; exact e
  have l5 : H5 l = some (.lst [.ref x]) := by rw [← h5, upd_ne la, upd_same]
  have e25 : ∀ b o, b ≠ a → H2 b = some o → H5 b = some o := fun b o hb e => e5 b o hb (s34 b o (by rw [e3 b hb (ne_of_none e hp)]; exact e))
  have e05 : ∀ b o, b ≠ a → H b = some o → H5 b = some o := fun b o hb e => e25 b o hb (s12 b o (by rw [e1 b hb]; exact e))
  have xa : x ≠ a := fun z => by rw [z, a3] at hx; cases hx
  have ra : rows ≠ a := fun z => by rw [z, a3] at hr; cases hr
  have pta : parts ≠ a := fun z => by rw [z, a3] at hpt; cases hpt
  have i3 : ∀ {b o}, b ≠ a → H2 b = some o → H3 b = some o := fun hb e => by rw [e3 _ hb (ne_of_none e hp)]; exact e
  have k3bd := i3 bda h2bd
  have k3n := i3 na h2n
  have k3w := i3 wa h2w
  have fr : ∀ b, b ≠ a → H b = none → R b = none := fun b _ e => Same.free hs e
  have f0 : ∀ b, b ≠ a → H1 b = none → H b = none := fun b hb e => by rw [← e1 b hb]; exact e
  have f1 : ∀ b, b ≠ a → H2 b = none → H b = none := fun b hb e => f0 b hb (s12.free e)
  have f3 : ∀ b, b ≠ a → H3 b = none → H b = none := fun b hb e => by
    have : b ≠ p := fun z => by rw [z, p3] at e; cases e
    exact f1 b hb (by rw [← e3 b hb this]; exact e)
  have f4 : ∀ b, b ≠ a → H4 b = none → H b = none := fun b hb e => f3 b hb (s34.free e)
  have subR : Same R H5 := fun b o e => by
    have hb : b ≠ a := fun z => by rw [z, hRa] at e; cases e
    exact e05 b o hb (hs b o e)
  have x4 : ∀ {b o}, H3 b = some o → b ≠ x ∧ b ≠ rows ∧ b ≠ parts ∧ b ≠ l := fun e => ⟨ne_of_none e hx, ne_of_none e hr, ne_of_none e hpt, ne_of_none (s34 _ _ e) hl⟩
  have hpn : p ≠ n := fun z => by rw [z, h2n] at hp; cases hp
  have hpw : p ≠ w := fun z => by rw [z, h2w] at hp; cases hp
  have hlr : rows ≠ l := ne_of_none h4r hl
  have hlp : parts ≠ l := ne_of_none h4p hl
  refine q H5 ⟨t, bd, n, w, p, l, [], [], ⟨x, rows, parts⟩, []⟩ ?_ ⟨Grow.refl _ _, fun b o e => ?_⟩ (f0 n na hn) (f1 p pa hp) (Ne.symm hpn)
  · have L : ∀ b ∈ [n, w, p, l, rows, parts], H b = none := by
      intro b hb
      simp at hb
      rcases hb with rfl | rfl | rfl | rfl | rfl | rfl
      · exact f0 _ na hn
      · exact f0 _ wa hw
      · exact f1 _ pa hp
      · exact f4 _ la hl
      · exact f3 _ ra hr
      · exact f3 _ pta hpt
    exact { ok := ok, pl := Nat.zero_le _, sm := hB, tx := ht
            bs := ⟨subR, ⟨dxb, e25 _ _ bda h2bd⟩, e25 _ _ na h2n, e25 _ _ wa h2w, .nil, rfl, hnw, fr _ na (f0 n na hn), fr _ wa (f0 w wa hw), fr _ bda (f0 bd bda hbd), by decide⟩
            me := ⟨dx, a5⟩
            names := e5 _ _ pa (s34 _ _ p3)
            nmat := .nil
            levels := l5
            top := ⟨⟨dxl, e5 _ _ xa h4x⟩, e5 _ _ ra h4r, e5 _ _ pta h4p⟩
            below := .nil
            ndL := by
              have := x4 k3n
              have := x4 k3w
              have := x4 p3
              simp [lsF, lsL]
              grind
            ndO := by
              have := x4 k3bd
              simp [obL]
              grind
            frL := fun b hb => by
              have hb' : b ∈ [n, w, p, l, rows, parts] := by simpa [lsF, lsL] using hb
              exact Same.free hs (L b hb')
            frO := fun b hb => by
              have hb' : b = a ∨ b = bd ∨ b = x := by simpa [obL] using hb
              rcases hb' with rfl | rfl | rfl
              · exact hRa
              · exact fr _ bda (f0 _ bda hbd)
              · exact fr _ xa (f3 _ xa hx) }
  · by_cases hb : b = a
    · subst hb; exact ⟨_, a5⟩
    · exact ⟨o, e05 b o hb e⟩
end Mi
/-! U16: read_pattern. -/
namespace Mi
open PySem PySem.Spec PyProof.Rows L2
theorem pure_read_pattern {K : Ky} (kp : KPatternReader K) (kb : KBuilder K) (vs : List V) (H : Hp) (Q : VK) (E : XK) (h : sp_read_pattern K vs H Q E) : t_read_pattern K E (fin Q) (L2.start N_read_pattern vs) H := by
  obtain ⟨R, t, B, res, rfl, hs, ht, ok, hB, run, qe, q⟩ := h
  refine q_asgC (c_make ((a_cons (val_var (v := V.ref t) rfl) a_nil) _ ?_))
  intro x dx hx hdx hne
  have sH : Same H (upd (upd H dx (.own x)) x (.ins (He.ga K "PatternReader") dx [])) := fun b o e => by rw [upd_ne (ne_of_none e hx), upd_ne (ne_of_none e hdx)]; exact e
  refine ⟨R, x, t, dx, B, rfl, upd_same, Same.free hs hx, hs.trans sH, ht, ok, hB, fun H1 A1 r1 g1 hn1 hm1 hnm => ⟨rfl, ?_⟩⟩
  have hn := sH.free hn1
  have hm := sH.free hm1
  refine q_asgC (r_meth r1 (val_var rfl) a_nil ⟨R, B, x, St.fresh, A1, res, rfl, r1, StOk.fresh B, run, qe, fun y hy R3 H3 A3 s3 r3 g3 hbd hns hlt => ?_⟩)
  obtain ⟨b, i, ns⟩ := y
  dsimp only at hbd hns hlt
  obtain ⟨dxb, hb3⟩ := r3.bs.obj
  refine c_ret (c_make ((a_cons (val_fld (v_bd kp r3 (val_var rfl)) hb3 kb.cl kb.n_nodes rfl) (a_cons (val_var (v := nV i) rfl) (a_cons (v_names kp r3 (val_var rfl)) a_nil))) _ ?_))
  intro x2 dx2 hx2 hdx2 hne2
  refine ⟨x2, dx2, .ref A3.nodes, nV i, .ref A3.names, rfl, upd_same, rfl, ?_⟩
  rw [upd_upd]
  have en : A3.nodes = A1.nodes := g3.nodes
  have em : A3.names = A1.names := g3.names
  obtain ⟨⟨f1, _⟩, _⟩ := r3.dl
  have nn : A3.nodes ≠ A3.names := f1.2.1
  have x2n : x2 ≠ A3.nodes := fun z => by rw [z, r3.bs.nodes] at hx2; cases hx2
  have x2m : x2 ≠ A3.names := fun z => by rw [z, r3.names] at hx2; cases hx2
  have dn : dx2 ≠ A3.nodes := fun z => by rw [z, r3.bs.nodes] at hdx2; cases hdx2
  have dm : dx2 ≠ A3.names := fun z => by rw [z, r3.names] at hdx2; cases hdx2
  have Rn : R3 A3.nodes = none := r3.bs.fn
  have Rm : R3 A3.names = none := r3.frL _ (mF (by simp))
  have Rx : R3 x2 = none := Same.free r3.sub hx2
  let o2 : HO := .ins (He.ga K "Pattern") dx2 (ptF A3.nodes i A3.names)
  let R4 := upd (upd (upd R3 A3.nodes (.lst (A3.nds.map V.ref))) A3.names (.lst (A3.nms.map V.ref))) x2 o2
  have s34 : Same R3 R4 := fun c o e => by
    have h1 : c ≠ x2 := fun z => by rw [z, Rx] at e; cases e
    have h2 : c ≠ A3.names := fun z => by rw [z, Rm] at e; cases e
    have h3 : c ≠ A3.nodes := fun z => by rw [z, Rn] at e; cases e
    show upd _ _ _ c = _
    rw [upd_ne h1, upd_ne h2, upd_ne h3]
    exact e
  have k1 : R4 x2 = some o2 := upd_same
  have k2 : R4 A3.nodes = some (.lst (A3.nds.map V.ref)) := by show upd _ _ _ _ = _; rw [upd_ne (Ne.symm x2n), upd_ne nn, upd_same]
  have k3 : R4 A3.names = some (.lst (A3.nms.map V.ref)) := by show upd _ _ _ _ = _; rw [upd_ne (Ne.symm x2m), upd_same]
  have e3 : ∀ c o, H3 c = some o → upd (upd H3 dx2 (.own x2)) x2 o2 c = some o := fun c o e => by rw [upd_ne (ne_of_none e hx2), upd_ne (ne_of_none e hdx2)]; exact e
  have s4 : Same R4 (upd (upd H3 dx2 (.own x2)) x2 o2) := fun c o e => by
    by_cases h1 : c = x2
    · subst h1; rw [k1] at e; rw [upd_same]; exact e
    · have e' : upd (upd R3 A3.nodes (.lst (A3.nds.map V.ref))) A3.names (.lst (A3.nms.map V.ref)) c = some o := by rw [← e]; show _ = upd _ _ _ c; rw [upd_ne h1]
      apply e3
      by_cases h2 : c = A3.names
      · subst h2; rw [upd_same] at e'; cases e'; exact r3.names
      · rw [upd_ne h2] at e'
        by_cases h3 : c = A3.nodes
        · subst h3; rw [upd_same] at e'; cases e'; exact r3.bs.nodes
        · rw [upd_ne h3] at e'; exact r3.sub c o e'
  have go : Go R H R3 H3 := ⟨⟨g3.go.grow.same, fun c o e n => by
      obtain ⟨o1, e1⟩ := g1.there c o (sH c o e)
      exact g3.go.grow.new c o1 e1 n⟩, fun c o e => by
      obtain ⟨o1, e1⟩ := g1.there c o (sH c o e)
      exact g3.go.there c o1 e1⟩
  refine q (b, i, ns) hy R4 _ x2 s4 ⟨⟨go.grow.same.trans s34, fun c o e n => ?_⟩, fun c o e => ?_⟩ ⟨⟨dx2, A3.nodes, A3.names, k1, ⟨A3.nds, k2, ?_⟩, A3.nms, k3, ?_⟩, hlt, ?_⟩
  · have h1 : c ≠ A3.nodes := fun z => by rw [z, en, hn] at e; cases e
    have h2 : c ≠ A3.names := fun z => by rw [z, em, hm] at e; cases e
    obtain ⟨o3, e3'⟩ := go.there c o e
    have h3 : c ≠ x2 := ne_of_none e3' hx2
    show upd _ _ _ c = none
    rw [upd_ne h3, upd_ne h2, upd_ne h1]
    exact go.grow.new c o e n
  · obtain ⟨o3, e3'⟩ := go.there c o e
    exact ⟨o3, e3 c o3 e3'⟩
  · have := r3.bs.at_
    rw [hbd] at this
    exact this.mono fun _ _ => NdAt.mono s34
  · have := r3.nmat
    rw [hns] at this
    exact this.mono fun _ _ => PrAt.mono s34
  · have := r3.bs.small
    rw [hbd] at this
    exact this
end Mi
/-! S5: promises of the calls. -/
namespace Mi
open PySem PySem.Spec PyProof.Rows L2
structure KRefused (K : Ky) : Prop where
  oex : OexC K (He.ga K "Refused")
  n_answer : PySem.W.findIn K (.ref (He.ga K "Refused")) "answer" = some none
/-- an exception's class is what its clause names -/
def Hit (K : Ky) (C : Str) : Prop := PySem.W.exmOne K (.ref (He.ga K C)) (.ref (He.ga K C)) = some true
def inV' (l : List Int) : List V := l.map V.int
/-- Refused(xs) may be let out -/
def Rfs (K : Ky) (E : XK) (xs : List Int) : Prop := ∀ (d l : Addr) (H' : Hp), H' d = some (.xd [("answer", .ref l)]) → H' l = some (.lst (inV' xs)) → E (.ref (He.ga K "Refused")) (some d) H'
def sp_Refused___init__ (K : Ky) : Sp := fun vs H Q _ => ∃ (a : Addr) (v : V), vs = [.ref a, v] ∧ H a = some (exo a (He.ga K "Refused") none) ∧
  ∀ (H' : Hp) (d : Addr), H d = none → d ≠ a → H' a = some (exo a (He.ga K "Refused") (some d)) → H' d = some (exd d [("answer", v)]) → (∀ b o, H b = some o → b ≠ a → H' b = some o) → Q .non H'
def sp_must_be_short (K : Ky) : Sp := fun vs H Q E => ∃ (l : Addr) (as : List Addr) (xss : List (List V)), vs = [.ref l] ∧ SqL K H l (as.map V.ref) ∧ Paired (fun a xs => SqL K H a xs) as xss ∧ as.length ≤ 1000 ∧
  ((∃ xs ∈ xss, 128 < xs.length) → Rfs K E [-2]) ∧ ((∀ xs ∈ xss, xs.length ≤ 128) → ∀ H', Same H H' → Q .non H')
/-- what reading a pattern ends with -/
def RunAns (B : Bs) (f : Except Fl (Bd × Nat × List (Nat × Nat)) → Prop) : Prop := ∃ r, Run B St.fresh r ∧ f r
def sp_name_told (K : Ky) : Sp := fun vs H Q E => ∃ (k : Int) (p : Addr) (B : Bs), vs = [.int k, .ref p] ∧ SqL K H p (nsV B) ∧ Ok B ∧ (128 < B.length → Rfs K E [-2]) ∧ (B.length ≤ 128 → RunAns B fun r => (∀ e, r = .error e → Rfs K E [-6]) ∧ ∀ x, r = .ok x →
  (¬ (0 ≤ k ∧ k < x.2.2.length) → Rfs K E [-4]) ∧ ∀ n, 0 ≤ k → x.2.2[k.toNat]? = some n → ∀ (H' : Hp) (q : Addr), H' q = some (.lst (inV' [0, n.1, n.2])) → Q (.ref q) H')
def sp_name (K : Ky) : Sp := fun vs H Q _ => ∃ (k : Int) (p : Addr) (B : Bs), vs = [.int k, .ref p] ∧ SqL K H p (nsV B) ∧ Ok B ∧ ∀ (H' : Hp) (q : Addr), H' q = some (.lst (inV' (PyWrpatt.name k (B.map Int.ofNat)))) → Q (.ref q) H'
def sp_judged (K : Ky) : Sp := fun vs H Q E => ∃ (p : Addr) (B : Bs), vs = [.ref p] ∧ SqL K H p (nsV B) ∧ Ok B ∧ (128 < B.length → Rfs K E [-2]) ∧ (B.length ≤ 128 → RunAns B fun r => (∀ e, r = .error e → Rfs K E [-6, e.1, e.2]) ∧ ∀ x, r = .ok x →
  ∀ (R' H' : Hp) (a : Addr), Same R' H' → PatAt K R' a x.1 x.2.1 x.2.2 → Q (.ref a) H')
def sp_judge_told (K : Ky) : Sp := fun vs H Q E => ∃ (p : Addr) (B : Bs), vs = [.ref p] ∧ SqL K H p (nsV B) ∧ Ok B ∧ (128 < B.length → Rfs K E [-2]) ∧ (B.length ≤ 128 → RunAns B fun r => (∀ e, r = .error e → Rfs K E [-6, e.1, e.2]) ∧ ∀ x, r = .ok x →
  ∀ (H' : Hp) (q : Addr), H' q = some (.lst (inV' [(x.2.2.length : Int)])) → Q (.ref q) H')
def sp_judge (K : Ky) : Sp := fun vs H Q _ => ∃ (p : Addr) (B : Bs), vs = [.ref p] ∧ SqL K H p (nsV B) ∧ Ok B ∧ ∀ (H' : Hp) (q : Addr), H' q = some (.lst (inV' (PyWrpatt.judge (B.map Int.ofNat)))) → Q (.ref q) H'
/-- try .. except C as n: the suite raises -/
def tTryAX (K : Ky) (C : Addr) (i : Nat) (E : XK) (tb : WX → TS) (ts : Addr → Value → Option Addr → TS) : TS := fun D σ H => tb (wAs K (.ref C) i ts (fun cls d _ H => E cls d H) D) D σ H
end Mi
/-! R3: readings, written by gen.py. -/
namespace Mi
open PySem PySem.Spec PyProof.Rows L2
/-- Refused.__init__ -/
def t_Refused___init__ (K : Ky) (E : XK) : TS :=
  (tOst K "answer" (tVar 0) (tVar 1))
abbrev N_Refused___init__ : List Str := ["self", "answer"]
/-- must_be_short -/
def t_must_be_short (K : Ky) (E : XK) : TS :=
  (tIfS (tB (tCB (rAny K) (tCons (tLc (iList K (tVar 0)) (gName 1) tYes (tOp xGt (tCB (xLen K) (tCons (tVar 1) tNil)) (tC (.int 128))) [1]) tNil))) (tRaiseO (He.ga K "Refused") (sp_Refused___init__ K) E (tCons (tLst (tCons (tC (.int (-2))) tNil)) tNil)) tNext)
abbrev N_must_be_short : List Str := ["some", "data"]
/-- name_told -/
def t_name_told (K : Ky) (E : XK) : TS :=
  (tSeq (tDrop (tCall (sp_must_be_short K) [] E (tCons (tLst (tCons (tVar 1) tNil)) tNil)))
    (tSeq (tTryOX K (He.ga K "Fault") E (fun W => (tAsg (tFld K (tCallS (sp_read_pattern K) (WE W) (tCons (tCB (xList K) (tCons (tVar 1) tNil)) tNil)) "names") (gName 2))) (fun a cls d => (tRaiseO (He.ga K "Refused") (sp_Refused___init__ K) E (tCons (tLst (tCons (tC (.int (-6))) tNil)) tNil))))
    (tSeq (tIfS (tNot (tTest (tChain xLe xLt (tC (.int 0)) (tVar 0) (tCB (xLen K) (tCons (tVar 2) tNil))))) (tRaiseO (He.ga K "Refused") (sp_Refused___init__ K) E (tCons (tLst (tCons (tC (.int (-4))) tNil)) tNil)) tNext)
    (tRet (tLst (tCons (tC (.int 0)) (tCons (tOp (rIxT K) (tOp (rIxL K) (tVar 2) (tVar 0)) (tC (.int 0))) (tCons (tOp (rIxT K) (tOp (rIxL K) (tVar 2) (tVar 0)) (tC (.int 1))) tNil))))))))
abbrev N_name_told : List Str := ["k", "p", "names"]
/-- name -/
def t_name (K : Ky) (E : XK) : TS :=
  (tSeq (tTryA K (He.ga K "Refused") 3 (fun W => (tAsg (tCallS (sp_name_told K) (WE W) (tCons (tVar 0) (tCons (tVar 1) tNil))) (gName 2))) (fun a cls d => (tAsg (tXf a cls d (He.ga K "Refused") "answer" (tVar 3)) (gName 2))))
    (tRet (tVar 2)))
abbrev N_name : List Str := ["k", "p", "found", "e"]
/-- judged -/
def t_judged (K : Ky) (E : XK) : TS :=
  (tSeq (tDrop (tCall (sp_must_be_short K) [] E (tCons (tLst (tCons (tVar 0) tNil)) tNil)))
    (tSeq (tTryAX K (He.ga K "Fault") 2 E (fun W => (tAsg (tCallS (sp_read_pattern K) (WE W) (tCons (tCB (xList K) (tCons (tVar 0) tNil)) tNil)) (gName 1))) (fun a cls d => (tRaiseO (He.ga K "Refused") (sp_Refused___init__ K) E (tCons (tLst (tCons (tC (.int (-6))) (tCons (tXf a cls d (He.ga K "Fault") "kind" (tVar 2)) (tCons (tXf a cls d (He.ga K "Fault") "place" (tVar 2)) tNil)))) tNil))))
    (tRet (tVar 1))))
abbrev N_judged : List Str := ["p", "found", "e"]
/-- judge_told -/
def t_judge_told (K : Ky) (E : XK) : TS :=
  (tRet (tLst (tCons (tCB (xLen K) (tCons (tFld K (tCall (sp_judged K) [] E (tCons (tVar 0) tNil)) "names") tNil)) tNil)))
abbrev N_judge_told : List Str := ["p"]
/-- judge -/
def t_judge (K : Ky) (E : XK) : TS :=
  (tSeq (tTryA K (He.ga K "Refused") 2 (fun W => (tAsg (tCallS (sp_judge_told K) (WE W) (tCons (tVar 0) tNil)) (gName 1))) (fun a cls d => (tAsg (tXf a cls d (He.ga K "Refused") "answer" (tVar 2)) (gName 1))))
    (tRet (tVar 1)))
abbrev N_judge : List Str := ["p", "found", "e"]
end Mi
/-! P11: the plain law of judge and name. -/
namespace Mi
abbrev intsB (B : Bs) : List Int := B.map Int.ofNat
theorem text_ints {B : Bs} : Neutral.text (intsB B) = T B 0 := by
  unfold Neutral.text intsB T
  simp
theorem T_len {B : Bs} : (T B 0).length = B.length := by unfold T; simp
theorem take_names {B : Bs} {s s' : St} {c : Nat} (h : s.take B c = .ok s') (hn : ∀ n ∈ s.names, n.1 + n.2 ≤ B.length) : ∀ n ∈ s'.names, n.1 + n.2 ≤ B.length := by
  unfold St.take at h
  split at h
  · cases h; exact hn
  split at h
  · unfold St.close at h
    split at h
    · cases h
    simp only at h
    split at h
    · cases h
    · cases h; exact hn
  split at h
  · unfold St.open_ at h
    split at h
    · cases h
    split at h
    · cases h; exact hn
    · split at h
      · cases h
      rename_i n q hq
      have := takeName_lt hq
      cases h
      intro m hm
      rcases List.mem_append.mp hm with hm | hm
      · exact hn m hm
      · simp at hm
        subst hm
        have e := this.2.2.2.1
        rw [e]
        exact this.2.2.2.2 |> fun z => by omega
  split at h
  · unfold St.repeat_ at h
    split at h
    · cases h
    split at h
    · cases h
    · cases h; exact hn
  split at h
  · cases h
  split at h
  · cases h
  · cases h; exact hn
theorem run_names {B : Bs} {s : St} {r} (h : Run B s r) : (∀ n ∈ s.names, n.1 + n.2 ≤ B.length) → ∀ x, r = .ok x → ∀ n ∈ x.2.2, n.1 + n.2 ≤ B.length := by
  induction h with
  | @done s hd =>
    intro hn x hx n hm
    unfold St.finish at hx
    split at hx
    · cases hx
    simp only at hx
    split at hx
    · cases hx
    · cases hx; exact hn n hm
  | err h1 h2 => intro hn x hx; cases hx
  | step h1 h2 h3 ih => intro hn x hx; exact ih (take_names h2 hn) x hx
theorem judge_law {B : Bs} (o : Ok B) : (128 < B.length → PyWrpatt.judge (intsB B) = [-2]) ∧ (B.length ≤ 128 → ∃ r, Run B St.fresh r ∧ (∀ e, r = .error e → PyWrpatt.judge (intsB B) = [-6, (e.1 : Int), (e.2 : Int)]) ∧ ∀ x, r = .ok x → PyWrpatt.judge (intsB B) = [(x.2.2.length : Int)]) := by
  have e : PyWrpatt.judge (intsB B) = Neutral.told (PatSpec.answer (.judge (T B 0))) := by
    show (match Neutral.callOf [[1], intsB B] with | some x => Neutral.told (PatSpec.answer x) | none => []) = _
    show Neutral.told (PatSpec.answer (.judge (Neutral.text (intsB B)))) = _
    rw [text_ints]
  rw [e]
  unfold PatSpec.answer
  simp only
  rw [T_len]
  refine ⟨fun h => ?_, fun h => ?_⟩
  · rw [if_pos (show PatWords.PATTERN < B.length from h)]; rfl
  · rw [if_neg (show ¬ PatWords.PATTERN < B.length from Nat.not_lt.mpr h)]
    have rt := read_told o
    cases hr : PatWords.read (T B 0) with
    | error e =>
      rw [hr] at rt
      obtain ⟨e', rfl, hrun⟩ := rt
      refine ⟨_, hrun, fun e2 z => ?_, fun x z => by cases z⟩
      cases z
      rfl
    | ok x =>
      rw [hr] at rt
      obtain ⟨b, i, names, hrun, hn, _⟩ := rt
      refine ⟨_, hrun, fun e2 z => (by cases z), fun y z => ?_⟩
      cases z
      obtain ⟨pt, ns⟩ := x
      dsimp only at hn
      subst hn
      show Neutral.told (PatSpec.num ((nsOf B names).length : Nat)) = _
      unfold nsOf
      rw [List.length_map]
      rfl
theorem name_law {B : Bs} (o : Ok B) (k : Int) : (128 < B.length → PyWrpatt.name k (intsB B) = [-2]) ∧ (B.length ≤ 128 → ∃ r, Run B St.fresh r ∧ (∀ e, r = .error e → PyWrpatt.name k (intsB B) = [-6]) ∧ ∀ x, r = .ok x →
    (¬ (0 ≤ k ∧ k < x.2.2.length) → PyWrpatt.name k (intsB B) = [-4]) ∧ ∀ n, 0 ≤ k → x.2.2[k.toNat]? = some n → PyWrpatt.name k (intsB B) = [0, (n.1 : Int), (n.2 : Int)]) := by
  have e : PyWrpatt.name k (intsB B) = Neutral.told (PatSpec.answer (.name (T B 0) k)) := by
    show Neutral.told (PatSpec.answer (.name (Neutral.text (intsB B)) k)) = _
    rw [text_ints]
  rw [e]
  unfold PatSpec.answer
  simp only
  rw [T_len]
  refine ⟨fun h => ?_, fun h => ?_⟩
  · rw [if_pos (show PatWords.PATTERN < B.length from h)]; rfl
  · rw [if_neg (show ¬ PatWords.PATTERN < B.length from Nat.not_lt.mpr h)]
    have rt := read_told o
    cases hr : PatWords.read (T B 0) with
    | error e =>
      rw [hr] at rt
      obtain ⟨e', rfl, hrun⟩ := rt
      exact ⟨_, hrun, fun e2 z => rfl, fun x z => by cases z⟩
    | ok x =>
      rw [hr] at rt
      obtain ⟨b, i, names, hrun, hn, _⟩ := rt
      refine ⟨_, hrun, fun e2 z => (by cases z), fun y z => ?_⟩
      have hin := run_names hrun (by simp [St.fresh]) _ rfl
      cases z
      obtain ⟨pt, ns⟩ := x
      dsimp only at hn hin ⊢
      subst hn
      refine ⟨fun hk => ?_, fun n h0 hk => ?_⟩
      · by_cases h0 : k < 0
        · rw [if_pos h0]; rfl
        · rw [if_neg h0]
          have : (nsOf B names)[k.toNat]? = none := by
            unfold nsOf
            rw [List.getElem?_eq_none (by rw [List.length_map]; omega)]
          rw [this]
          rfl
      · rw [if_neg (by omega)]
        have hm := List.mem_of_getElem? hk
        have hl := hin n hm
        have : (nsOf B names)[k.toNat]? = some (n.1, bn B n) := by
          unfold nsOf
          rw [List.getElem?_map, hk]
          rfl
        rw [this]
        have hb : (bn B n).length = n.2 := by
          unfold bn slice
          simp
          omega
        show Neutral.told (PatSpec.nums 0 [(n.1 : Nat), ((bn B n).length : Nat)]) = _
        rw [hb]
        rfl
end Mi
/-! U17: the refusals; name. -/
namespace Mi
open PySem PySem.Spec PyProof.Rows L2
theorem pure_Refused___init__ {K : Ky} (kf : KRefused K) (vs : List V) (H : Hp) (Q : VK) (E : XK) (h : sp_Refused___init__ K vs H Q E) : t_Refused___init__ K E (fin Q) (L2.start N_Refused___init__ vs) H := by
  obtain ⟨a, v, rfl, ha, q⟩ := h
  refine ⟨_, rfl, _, rfl, a, _, rfl, kf.oex, kf.n_answer, .inl ⟨ha, fun d hd hda => ?_⟩⟩
  exact q _ d hd hda upd_same (by rw [upd_ne hda, upd_same]) fun b o hb hba => by rw [upd_ne hba, upd_ne (ne_of_none hb hd)]; exact hb
theorem c_raise {C : Addr} {sp : Sp} {E : XK} {t : TA} {D : Ends} {σ : L2.St} {H : Hp} (h : t σ H fun vs H1 => vs.length ≤ 1000 ∧ ∀ a, H1 a = none → sp (.ref a :: (vs ++ [])) (upd H1 a (exo a C none)) (fun v H2 => v = .non ∧ ∃ d fs, H2 a = some (exo a C (some d)) ∧ H2 d = some (exd d fs) ∧ H1 d = none ∧ E (.ref C) (some d) (upd (del H2 a) d (.xd fs))) fun _ _ _ => False) : tRaiseO C sp E t D σ H := h
theorem s_refused {K : Ky} {E : XK} {D : Ends} {σ : L2.St} {H : Hp} {t : TA} {xs : List Int} (h : AVal t σ H (inV' xs)) (hz : xs.length ≤ 1000) (hf : Rfs K E xs) : tRaiseO (He.ga K "Refused") (sp_Refused___init__ K) E (tCons (tLst t) tNil) D σ H := by
  refine c_raise (c_cons (s_lst h (by unfold inV'; rw [List.length_map]; exact hz) fun l hl => ?_))
  refine ⟨by show 1 ≤ 1000; decide, fun a ha => ⟨a, .ref l, rfl, upd_same, fun H' d hd hda h1 h2 hk => ⟨rfl, d, _, h1, h2, ?_, ?_⟩⟩⟩
  · rw [upd_ne hda] at hd; exact hd
  · have hal : l ≠ a := fun z => by rw [← z, upd_same] at ha; cases ha
    have hl2 := hk l (.lst (inV' xs)) (by rw [upd_ne hal, upd_same]) hal
    have hdl : l ≠ d := fun z => by rw [z, h2] at hl2; cases hl2
    refine hf d l _ upd_same ?_
    rw [upd_ne hdl]
    show del H' a l = _
    unfold del
    rw [if_neg hal]
    exact hl2
theorem c_cb {r : List V → Hp → VK → Prop} {tA : TA} {σ : L2.St} {H : Hp} {Q : VK} (h : tA σ H fun xs H1 => r xs H1 Q) : tCB r tA σ H Q := h
theorem pure_must_be_short {K : Ky} (vs : List V) (H : Hp) (Q : VK) (E : XK) (h : sp_must_be_short K vs H Q E) : t_must_be_short K E (fin Q) (L2.start N_must_be_short vs) H := by
  obtain ⟨l, as, xss, rfl, hl, hp, hz, qe, q⟩ := h
  have hlen := Paired.len hp
  let f : List V → Bool := fun xs => decide (128 < xs.length)
  refine c_ifC (c_tB (c_cb (c_cons (c_lcL (val_var (v := V.ref l) rfl _ ⟨l, rfl, ⟨_, hl⟩, fun D hD => ?_⟩)))))
  refine lc_list (K := K) (a := l) (xs := as.map V.ref) (fun i H' => Same H H' ∧ H' D = some (.lst (((xss.take i).map f).map V.bl))) ⟨Same.new hD, upd_same⟩ (fun i H' _ h => Same.seq h.1 hl) ?_ ?_
  · rintro i x H' hi ⟨sH, hDl⟩
    obtain ⟨a, ha, rfl⟩ := get_refs hi
    obtain ⟨xs, hr, hpr⟩ := Paired.get hp ha
    refine ⟨rfl, c_yes ?_⟩
    rw [if_pos rfl]
    refine v_i0 (v_len (val_var rfl) (Same.seq sH hpr)) val_c _ ?_
    have hi' : i < xss.length := (List.getElem?_eq_some_iff.mp hr).1
    refine ⟨_, hDl, by rw [List.length_map, List.length_map, List.length_take]; exact Nat.lt_trans (by omega : min i xss.length < 100000) big, ?_, ?_⟩
    · intro b o hb
      rw [upd_ne (ne_of_none hb hD)]; exact sH b o hb
    · rw [upd_same, List.take_add_one, hr]
      have e : decide ((128 : Int) < (xs.length : Int)) = f xs := by show _ = decide (128 < xs.length); rw [decide_eq_decide]; omega
      rw [e]
      simp
  · rintro H' ⟨sH, hDl⟩
    rw [List.length_map, hlen, List.take_length] at hDl
    refine ⟨D, xss.map f, rfl, SqL.of hDl, _, rfl, ?_⟩
    cases hb : (xss.map f).any id with
    | true =>
      rw [if_pos rfl]
      obtain ⟨b, hb1, hb2⟩ := List.any_eq_true.mp hb
      obtain ⟨xs, hx, rfl⟩ := List.mem_map.mp hb1
      exact s_refused (xs := [-2]) (a_cons val_c a_nil) (by decide) (qe ⟨xs, hx, of_decide_eq_true hb2⟩)
    | false =>
      rw [if_neg (by decide)]
      refine q (fun xs hx => ?_) H' sH
      have := List.any_eq_false.mp hb (f xs) (List.mem_map.mpr ⟨xs, hx, rfl⟩)
      have : ¬ 128 < xs.length := fun z => this (decide_eq_true z)
      omega
end Mi
/-! U18: name. -/
namespace Mi
open PySem PySem.Spec PyProof.Rows L2
theorem v_chainL {σ : L2.St} {H : Hp} {ta tb tc : TE} {i j k : Int} (ha : Val ta σ H (.int i)) (hb : Val tb σ H (.int j)) (hc : Val tc σ H (.int k)) : Val (tChain xLe xLt ta tb tc) σ H (.bl (decide (i ≤ j ∧ j < k))) := by
  intro Q q
  refine ha _ ?_
  refine hb _ ?_
  refine ⟨i, j, rfl, rfl, _, rfl, ?_⟩
  by_cases h1 : i ≤ j
  · rw [if_pos (decide_eq_true h1)]
    refine hc _ ⟨j, k, rfl, rfl, ?_⟩
    have : decide (i ≤ j ∧ j < k) = decide (j < k) := by rw [decide_eq_decide]; exact ⟨fun h => h.2, fun h => ⟨h1, h⟩⟩
    rw [this] at q
    exact q
  · rw [if_neg (by rw [decide_eq_false h1]; decide)]
    rw [decide_eq_false (fun h => h1 h.1)] at q
    exact q
theorem c_name {n : Nat} {v : V} {σ : L2.St} {H : Hp} {Q : L2.St → Hp → Prop} (h : Q (σ.set n (some v)) H) : gName n v σ H Q := h
theorem Paired.get' {α β : Type} {F : α → β → Prop} : ∀ {l : List α} {m : List β} {i : Nat} {b : β}, Paired F l m → m[i]? = some b → ∃ a, l[i]? = some a ∧ F a b
  | _, _, 0, _, .cons r _, e => ⟨_, rfl, by have := Option.some.inj e; subst this; exact r⟩
  | _, _, i + 1, b, .cons _ t, e => by
    obtain ⟨a, h1, h2⟩ := Paired.get' (i := i) t (by simpa using e)
    exact ⟨a, by simpa using h1, h2⟩
  | _, _, _, _, .nil, e => by simp at e
theorem not_f {b : Bool} (h : (!b) = true) : b = false := by cases b <;> simp_all
theorem not_t {b : Bool} (h : (!b) = false) : b = true := by cases b <;> simp_all
theorem v_ixT {K : Ky} {σ : L2.St} {H : Hp} {ta tb : TE} {p : Addr} {i : Int} {xs : List V} {v : V} (ha : Val ta σ H (.ref p)) (hb : Val tb σ H (.int i)) (h : SqT K H p xs) (hv : atI xs i = some v) : Val (tOp (rIxT K) ta tb) σ H v := val_op ha hb fun _ q => ⟨p, xs, i, v, rfl, rfl, h, hv, q⟩
theorem c_fldC {K : Ky} {σ : L2.St} {H : Hp} {Q : VK} {te : TE} {f : Str} (h : te σ H fun x H1 => ∃ a C dx fs v, x = .ref a ∧ H1 a = some (.ins C dx fs) ∧ Cls K C ∧ NoAttr K C f ∧ fs.lookup f = some v ∧ Q v H1) : tFld K te f σ H Q := h
theorem c_callS {sp : Sp} {E : L2.St → XK} {σ : L2.St} {H : Hp} {Q : VK} {tA : TA} (h : tA σ H fun xs H1 => sp xs H1 Q (E σ)) : tCallS sp E tA σ H Q := h
theorem c_tryOX {K : Ky} {C : Addr} {E : XK} {tb : WX → TS} {ts : Addr → Value → Option Addr → TS} {u : TS} {D : Ends} {σ : L2.St} {H : Hp} (h : tb (wOnly K (.ref C) ts (fun cls d _ H => E cls d H) { D with nx := u D }) { D with nx := u D } σ H) : tSeq (tTryOX K C E tb ts) u D σ H := h
theorem c_tryA {K : Ky} {C : Addr} {i : Nat} {tb : WX → TS} {ts : Addr → Value → Option Addr → TS} {u : TS} {D : Ends} {σ : L2.St} {H : Hp} (h : tb (wAs K (.ref C) i ts (fun _ _ _ _ => False) { D with nx := u D }) { D with nx := u D } σ H) : tSeq (tTryA K C i tb ts) u D σ H := h
/-- read_pattern(list(p)) -/
theorem s_readP {K : Ky} {E : L2.St → XK} {σ : L2.St} {H : Hp} {Q : VK} {te : TE} {p : Addr} {B : Bs} {r : Except Fl (Bd × Nat × List (Nat × Nat))} (hv : Val te σ H (.ref p)) (hs : SqL K H p (nsV B)) (o : Ok B) (hl : B.length ≤ 1000) (run : Run B St.fresh r)
    (qe : ∀ e, r = .error e → Flt K (E σ) e) (q : ∀ x, r = .ok x → ∀ (R' H' : Hp) (a : Addr), Same R' H' → Same H R' → PatAt K R' a x.1 x.2.1 x.2.2 → Q (.ref a) H') : tCallS (sp_read_pattern K) E (tCons (tCB (xList K) (tCons te tNil)) tNil) σ H Q := by
  refine c_callS (c_cons (s_list hv (.inl hs) fun l hl2 => ?_))
  refine ⟨upd H l (.lst (nsV B)), l, B, r, rfl, Same.refl _, SqL.of upd_same, o, hl, run, qe, fun x hx R' H' a s g pa => q x hx R' H' a s ?_ pa⟩
  exact (Same.new hl2).trans g.grow.same
theorem s_short {K : Ky} {E : XK} {σ : L2.St} {H : Hp} {Q : VK} {te : TE} {p : Addr} {B : Bs} (hv : Val te σ H (.ref p)) (hs : SqL K H p (nsV B)) (qe : 128 < B.length → Rfs K E [-2]) (q : B.length ≤ 128 → ∀ H', Same H H' → Q .non H') : tCall (sp_must_be_short K) [] E (tCons (tLst (tCons te tNil)) tNil) σ H Q := by
  refine c_call (c_cons (s_lst (a_cons hv a_nil) (by show 1 ≤ 1000; decide) fun l hl => ?_))
  have sH := Same.new (o := .lst [.ref p]) hl
  refine ⟨l, [p], [nsV B], rfl, SqL.of upd_same, .cons (Same.seq sH hs) .nil, by show 1 ≤ 1000; decide, fun ⟨xs, hx, hlt⟩ => ?_, fun h H' s => ?_⟩
  · simp at hx; subst hx; rw [nsV_len] at hlt; exact qe hlt
  · have := h (nsV B) (by simp)
    rw [nsV_len] at this
    exact q this H' (sH.trans s)
theorem pure_name_told {K : Ky} (kP : KPattern K) (hit : Hit K "Fault") (vs : List V) (H : Hp) (Q : VK) (E : XK) (h : sp_name_told K vs H Q E) : t_name_told K E (fin Q) (L2.start N_name_told vs) H := by
  obtain ⟨k, p, B, rfl, hp, o, qlong, q⟩ := h
  refine q_drop (s_short (val_var rfl) hp qlong fun hle H1 s1 => ?_)
  obtain ⟨r, run, qe, q⟩ := q hle
  refine c_tryOX (c_asg (c_fldC (s_readP (val_var rfl) (Same.seq s1 hp) o (by omega) run (fun e he d H' hd => ?_) fun x hx R2 H2 a s2 s12 pa => ?_)))
  · exact ⟨true, hit, fun _ a ha => s_refused (xs := [-6]) (a_cons val_c a_nil) (by decide) (qe e he), fun z => by cases z⟩
  · obtain ⟨⟨dx, n, nm, hob, _, nms, hnm, hpr⟩, _, _⟩ := pa
    refine ⟨a, _, dx, _, .ref nm, rfl, s2 _ _ hob, kP.cl, kP.n_names, rfl, ?_⟩
    obtain ⟨qk, qn⟩ := q x hx
    have hln := Paired.len hpr
    have hnm2 : SqL K H2 nm (nms.map V.ref) := SqL.of (s2 _ _ hnm)
    refine c_name ?_
    dsimp only
    refine s_ifnb (t_not (t_test (v_chainL val_c (val_var rfl) (v_len (val_var rfl) hnm2)))) (fun hn => ?_) fun hn => ?_
    · have := of_decide_eq_false (not_f hn)
      rw [List.length_map, hln] at this
      exact s_refused (xs := [-4]) (a_cons val_c a_nil) (by decide) (qk (by omega))
    · have := of_decide_eq_true (not_t hn)
      rw [List.length_map, hln] at this
      have hkn : k = (k.toNat : Int) := by omega
      obtain ⟨y, hy⟩ : ∃ y, x.2.2[k.toNat]? = some y := ⟨_, List.getElem?_eq_getElem (by omega)⟩
      obtain ⟨b, hb, hby⟩ := Paired.get' hpr hy
      have hat : atI (nms.map V.ref) k = some (.ref b) := by
        rw [hkn]
        exact atI_nat (by rw [List.getElem?_map, hb]; rfl)
      have hby2 : SqT K H2 b [nV y.1, nV y.2] := Same.seqT s2 hby
      refine c_ret (s_lst (a_cons val_c (a_cons (v_ixT (v_ix (val_var rfl) (val_var rfl) hnm2 hat) val_c hby2 rfl) (a_cons (v_ixT (v_ix (val_var rfl) (val_var rfl) hnm2 hat) val_c hby2 rfl) a_nil))) (by show 3 ≤ 1000; decide) fun q2 hq => ?_)
      exact qn y this.1 hy _ q2 upd_same
theorem pure_name {K : Ky} (hit : Hit K "Refused") (vs : List V) (H : Hp) (Q : VK) (E : XK) (h : sp_name K vs H Q E) : t_name K E (fin Q) (L2.start N_name vs) H := by
  obtain ⟨k, p, B, rfl, hp, o, q⟩ := h
  obtain ⟨l1, l2⟩ := name_law o k
  -- what is refused
  have rf : ∀ {σ : L2.St} {xs : List Int}, σ = [some (.int k), some (.ref p), none, none] → PyWrpatt.name k (intsB B) = xs → Rfs K (WE (wAs K (.ref (He.ga K "Refused")) 3 (fun a cls d => (tAsg (tXf a cls d (He.ga K "Refused") "answer" (tVar 3)) (gName 2))) (fun _ _ _ _ => False) { fin Q with nx := tRet (tVar 2) (fin Q) }) σ) xs := by
    rintro σ xs rfl e d l H' hd hl
    refine ⟨true, hit, fun _ a ha => ?_, fun z => by cases z⟩
    refine c_asg (val_var (v := V.ref a) rfl _ ⟨rfl, rfl, d, _, .ref l, rfl, hd, rfl, c_name ?_⟩)
    dsimp only
    refine s_ret (val_var rfl) (q _ l ?_)
    rw [show PyWrpatt.name k (B.map Int.ofNat) = xs from e]
    exact hl
  refine c_tryA (c_asg (c_callS ((a_cons (val_var (v := .int k) rfl) (a_cons (val_var (v := V.ref p) rfl) a_nil)) _ ?_)))
  refine ⟨k, p, B, rfl, hp, o, fun h => rf rfl (l1 h), fun h => ?_⟩
  obtain ⟨r, run, he, hok⟩ := l2 h
  refine ⟨r, run, fun e h2 => rf rfl (he e h2), fun x hx => ⟨fun hn => rf rfl ((hok x hx).1 hn), fun n h0 hn H' q2 hq => ?_⟩⟩
  refine c_name ?_
  dsimp only
  refine s_ret (val_var rfl) (q H' q2 ?_)
  rw [show PyWrpatt.name k (B.map Int.ofNat) = _ from (hok x hx).2 n h0 hn]
  exact hq
end Mi
/-! W3: try .. except C as n, whose suite raises out of the try. -/
namespace Mi
open PySem PySem.Spec PyProof.Rows L2 HotX
theorem frames_move {B h h' : Heap} {L : Addr} (hs : Heap.SameBut L h h') (ho : ∃ o, h'.get? L = some o ∧ ∀ vs, o.data ≠ .fields vs) : ∀ {l : List Env}, h.FunFrames B l → h'.FunFrames B l
  | [], _ => trivial
  | env :: r, ⟨k, ⟨L', o, e1, e2, e3, e4⟩, t⟩ => by
    refine ⟨k, ?_, frames_move hs ho t⟩
    by_cases e : L' = L
    · subst e
      obtain ⟨o', q1, q2⟩ := ho
      exact ⟨L', o', e1, e2, q1, q2⟩
    · exact ⟨L', o, e1, e2, (hs.2 L' e).trans e3, e4⟩
theorem held_move {B h h' : Heap} {env : Env} {outer : List Env} {a L : Addr} {Z : Obj → Prop} (x : HandSPX.HeldZ B (env :: outer) a Z L h) (hf : env.frame = some L) (hs : Heap.SameBut L h h') (ho : ∃ o, h'.get? L = some o ∧ ∀ vs, o.data ≠ .fields vs) :
    HandSPX.HeldZ B (env :: outer) a Z L h' := by
  obtain ⟨x1, x2, x3, oe, vs, T, oT, ts, y1, y2, y3, y4, y5, y6, y7, y8, y9⟩ := x
  obtain ⟨_, ⟨L', oL, e1, e2, e3, e4⟩, _⟩ := id x3
  have eL : L' = L := Option.some.inj (e1.symm.trans hf)
  subst eL
  have ne : ∀ {b : Addr} {o : Obj} {ws : Array Value}, h.get? b = some o → o.data = .fields ws → b ≠ L' := fun {b o ws} q1 q2 z => by
    rw [z, e3] at q1
    cases q1
    exact e4 _ q2
  refine ⟨fun b o e => ?_, x2, frames_move hs ho x3, oe, vs, T, oT, ts, (hs.2 _ (ne y1 y3)).trans y1, y2, y3, y4, y5, y6, (hs.2 _ (ne y7 y8)).trans y7, y8, y9⟩
  have hb : b ≠ L' := fun z => by rw [z, e2] at e; cases e
  exact (hs.2 b hb).trans (x1 b o e)
/-- noted alone -/
theorem sky_note {M : Model} {A : Around} {E : Value → Shared → Prop} {s : Shared} {B : Heap} {env : Env} {outer : List Env} {L a : Addr} {Z : Obj → Prop} {Q : Unit → Shared → Prop} (hZ : HandSPX.Steady Z) (hfr : A.frames = some (env :: outer)) (hf : env.frame = some L)
    (x : Sky B (env :: outer) a Z L s.heap) (q : ∀ h', HandSPX.HeldZ B (env :: outer) a Z L h' → s.heap.UpToSlots h' → Q () { s with heap := h' }) : wpAny M A (noteFrame (.ref a) env) Q E s := by
  rcases x with ⟨x1, x2, x3, oe, vs, y1, y2, y3, y4⟩ | x | x
  · exact HandSPX.look_newZ hZ hfr x3 hf y1 x1 x2 y3 y4 y2 q
  · exact HandSPX.looks_onZ hZ hfr hf x q
  · exact HandSPX.againZ hf x.2.2.2 (q s.heap x (Heap.UpToSlots.refl _))
section
variable {X : Cx} {pins : List (Addr × Obj)} {σ : L2.St} {H : Hp} {s : Shared} {i : Nat} {n : Str}
/-- the locals' dict changes at one name, whose slot is empty then -/
theorem inv_move (I : Inv X pins σ H s) {h' : Heap} {m' : Str → Option Value} {t : Nat} (hs : Heap.SameBut X.env.locals s.heap h') (hn : h'.Ns X.env.locals m')
    (hm : ∀ (j : Nat) (y : Str) (v' : V), X.N[j]? = some y → (σ.set i none)[j]? = some (some v') → X.env.kindOf y = some .local → ∀ u : Value, (∀ m : Str → Option Value, s.heap.Ns X.env.locals m → m y = some u) → RelV v' u → ∃ u', RelV v' u' ∧ m' y = some u') : Inv X pins (σ.set i none) H { s with heap := h', toks := t } := by
  obtain ⟨m, hn0, look⟩ := id I.loc
  have old : ∀ b o, X.s_0.heap.get? b = some o → b ≠ X.env.locals := fun b o e z => by
    have h1 := Heap.lt_size e
    rw [z] at h1
    exact Nat.lt_irrefl _ (Nat.lt_of_lt_of_le h1 I.ok.above)
  have u := I.base
  refine ⟨I.ok, I.os, I.bare, ⟨fun b o e n1 hb hx => (hs.2 b (old b o e)).trans (u.keep b o e n1 hb hx), fun b o e n1 hb hx => ?_, u.free, fun b o e hx => ?_, u.tups, u.frzs, u.tbls⟩, ⟨m', hn, fun j y v' e1 e2 e3 => ?_⟩, fun y c e => ?_, I.free, I.freeC, fun p hp => ?_, fun b ob e => ?_, by rw [List.length_set]; exact I.len⟩
  · obtain ⟨sl, q⟩ := u.slot b o e n1 hb hx
    exact ⟨sl, (hs.2 b (old b o e)).trans q⟩
  · obtain ⟨o', q⟩ := u.there b o e hx
    exact ⟨o', (hs.2 b (old b o e)).trans q⟩
  · have hj : j ≠ i := fun z => by
      subst z
      rw [List.getElem?_set] at e2
      simp at e2
    have e2' : σ[j]? = some (some v') := by rw [← e2, List.getElem?_set_ne (Ne.symm hj)]
    obtain ⟨u', r, q⟩ := look j y v' e1 e2' e3
    rcases q with ⟨k, q⟩ | ⟨k, c, q1, q2⟩
    · obtain ⟨u2, r2, q2⟩ := hm j y v' e1 e2 k u' (fun m2 hm2 => by
        obtain ⟨o, es, ep, z1, z2, z3, z4⟩ := hn0
        obtain ⟨o2, es2, ep2, w1, w2, w3, w4⟩ := hm2
        rw [z1] at w1
        cases w1
        rw [z2] at w2
        cases w2
        rw [← w4, z4]
        exact q) r
      exact ⟨u2, r2, .inl ⟨k, q2⟩⟩
    · exact ⟨u', r, .inr ⟨k, c, q1, q2.sameBut hs (I.cne y c q1)⟩⟩
  · obtain ⟨w', z⟩ := I.cell y c e
    exact ⟨w', z.sameBut hs (I.cne y c e)⟩
  · obtain ⟨e, n1, ne, nf, d⟩ := I.pin p hp
    exact ⟨(hs.2 p.1 ne).trans e, n1, ne, nf, d⟩
  · refine (I.hok b ob e).stay (fun c w' hc q => (hs.2 c fun z => ?_).trans q) (fun _ q => q) fun _ _ q => q
    subst z
    rcases hc with hc | hc
    · rw [← hc, I.free] at e; cases e
    · rw [I.free] at hc; cases hc
theorem update_but (h : Heap) (a : Addr) (o : Obj) : Heap.SameBut a h (h.update a fun _ => o) := Heap.SameBut.update h a _
end
section
variable {X : Cx} {x n : Str} {c : Value} {i : Nat} {body suite : List Stmt} {b0 : Stmt} {np pos pos' : Pos} {tb : WX → TS} {ts : Addr → Value → Option Addr → TS} {Wout : WX}
/-- the suite's context, whatever takes what it raises -/
abbrev suiteE (X : Cx) (a : Addr) (pn : List (Addr × Obj)) (xe : Value → Shared → Prop) : Cx := { X with A := X.A.mark (some (.ref a)), calm := false, pn := pn, xe := xe }
theorem suiteE_of {pins : List (Addr × Obj)} {σ : L2.St} {H : Hp} {s : Shared} {a : Addr} {pn pn' : List (Addr × Obj)} {xe : Value → Shared → Prop} (I : Inv (X.suite a pn) pn' σ H s) : Inv (suiteE X a pn xe) pn' σ H s := Inv.wish (X := X.suite a pn) I xe
theorem suiteE_to {pins : List (Addr × Obj)} {σ : L2.St} {H : Hp} {s : Shared} {a : Addr} {pn pn' : List (Addr × Obj)} {xe : Value → Shared → Prop} (I : Inv (suiteE X a pn xe) pn' σ H s) : Inv (X.suite a pn) pn' σ H s := Inv.wish (X := suiteE X a pn xe) I fun _ _ => False
/-- the suite raises: noted, the name gone, on its way again -/
theorem suite_out (hs : X.stack = X.env :: X.outer) (hf : X.env.frame = some X.env.locals) (hN : X.N.Nodup) (hi : X.N[i]? = some n) (hln : X.env.kindOf n = some .local) (tk : L2.Takes X Wout) (ok : X.Ok) {pins : List (Addr × Obj)} {a : Addr} {q : Addr × Obj} {E' : Value → Shared → Prop} {R : Value → Shared → Prop}
    (hR : ∀ v s, X.xe v s → R v s) (hfr : X.A.frames = some (X.env :: X.outer)) {R1 R2 : Value → Value → Shared → Prop}
    (hE : E' = fun v s3 => wpAny (model X.prog X.w) (X.A.mark (some (.ref a))) (noteFrame v X.env) (fun _ s4 => wpAny (model X.prog X.w) (X.A.mark (some (.ref a))) (do bindName X.env n .none; unbindBehindTheSuite X.env n pos')
      (fun _ s5 => wpAny (model X.prog X.w) (X.A.mark (some (.ref a))) (passOn "try.except-as" v X.env : Sem Flow) (fun _ _ => False) R s5) (R1 v) s4) (R2 v) s3) :
    L2.Takes (suiteE X a (q :: (X.pn ++ pins)) E') (fun cls d σ H => Wout cls d (σ.set i none) H) := by
  rintro u2 s2 ⟨a2, B2, sI, pn2, σ2, H2, cls2, d2, rfl, I2, nb, up, sky, na, os, ag, w2⟩
  have sky' : Sky B2 (X.env :: X.outer) a2 (Zc cls2 d2) X.env.locals s2.heap := by
    have z : Sky B2 X.stack a2 (Zc cls2 d2) X.env.locals s2.heap := sky
    rw [hs] at z
    exact z
  have hcls : (X.env.scope.kind == .class || (X.env.scope.kind == .module && X.env.locals != X.env.globals)) = false := by
    have := ok.kind
    rw [this]
    rfl
  show E' (.ref a2) s2
  rw [hE]
  refine sky_note Zc.steady hfr hf sky' fun h3 held up3 => ?_
  have J3 : Inv (suiteE X a (q :: (X.pn ++ pins)) E') pn2 σ2 H2 { s2 with heap := h3 } := I2.landed nb held.1 (up.trans up3) os ag
  obtain ⟨m, hn, -⟩ := id J3.loc
  refine wpAny_nameGoes_keeps hln hn hcls fun h5 v hn5 hs5 => ?_
  obtain ⟨oL, es, ep, l1, l2, l3, l4⟩ := id hn5
  have notF : ∀ vs, oL.data ≠ .fields vs := fun vs z => by rw [l2] at z; cases z
  have held5 := held_move held hf hs5 ⟨oL, l1, notF⟩
  obtain ⟨k1, k2, k3, oe, vs, T, oT, ts', he, hz, hd, ht, hr⟩ := id held5
  -- where the exception began, the name gone there too
  let hI := sI.heap.update X.env.locals fun _ => oL
  have hsI : Heap.SameBut X.env.locals sI.heap hI := update_but _ _ _
  obtain ⟨mI, hnI, -⟩ := id I2.loc
  obtain ⟨oI, eI, pI, i1, i2, i3, i4⟩ := id hnI
  have nfr : oL.isFreed = false := by
    obtain ⟨c1, c2, c3, c4⟩ := oL
    dsimp only at l2
    subst l2
    rfl
  have hLI : hI.get? X.env.locals = some oL := Heap.get?_update_self _ i1 nfr
  have hnI5 : hI.Ns X.env.locals (fun x => if x = n then v else m x) := ⟨oL, es, ep, hLI, l2, l3, l4⟩
  -- the two dicts agree: the frames' objects are the same up to slots
  have nI : ∀ vs, oI.data ≠ .fields vs := fun vs z => by rw [i2] at z; cases z
  obtain ⟨sl, e3⟩ := (up.trans up3) _ _ i1 nI
  have mEq : ∀ y, mI y = m y := fun y => by
    obtain ⟨o3, es3, ep3, z1, z2, z3, z4⟩ := hn
    have e3' : h3.get? X.env.locals = some { oI with slots := sl } := e3
    rw [show ({ s2 with heap := h3 } : Shared).heap.get? X.env.locals = h3.get? X.env.locals from rfl, e3'] at z1
    cases z1
    have z2' : oI.data = .dict es3 ep3 := z2
    rw [i2] at z2'
    cases z2'
    rw [← z4, i4]
  have J : Inv (suiteE X a (q :: (X.pn ++ pins)) E') pn2 (σ2.set i none) H2 { sI with heap := hI, toks := sI.toks } := by
    refine inv_move I2 hsI hnI5 fun j y v' e1 e2 k u hu r => ⟨u, r, ?_⟩
    have ny : y ≠ n := fun z => by
      have : j = i := nodup_ix hN e1 (by rw [z]; exact hi)
      subst this
      rw [List.getElem?_set] at e2
      simp at e2
    show (if y = n then v else m y) = some u
    rw [if_neg ny, ← mEq]
    exact hu mI hnI
  have nb' : ∀ b o, hI.get? b = some o → b ∉ frs X.stack → B2.get? b = some o := fun b o e hb => by
    have hbL : b ≠ X.env.locals := fun z => hb (by rw [hs, z]; exact List.mem_filterMap.mpr ⟨X.env, List.mem_cons_self, hf⟩)
    exact nb b o ((hsI.2 b hbL).symm.trans e) hb
  have up' : hI.UpToSlots h5 := fun b o e nf => by
    by_cases hbL : b = X.env.locals
    · subst hbL
      rw [hLI] at e
      cases e
      exact ⟨oL.slots, l1⟩
    · obtain ⟨sl2, q1⟩ := (up.trans up3) b o ((hsI.2 b hbL).symm.trans e) nf
      exact ⟨sl2, (hs5.2 b hbL).trans q1⟩
  unfold PySem.passOn
  refine wpAny_bind (wpAny_field he hd ht ?_)
  rw [if_neg (show ¬ ((Value.ref T == Value.none) = true) from by simp)]
  have fin : wpAny (model X.prog X.w) (X.A.mark (some (.ref a))) (setFlight (.ref a2) X.env.frame) (fun _ s4 => wpAny (model X.prog X.w) (X.A.mark (some (.ref a))) (throw (.ref a2) : Sem Flow) (fun _ _ => False) R s4) R { s2 with heap := h5, toks := s2.toks + 1 } := by
    rw [hf]
    refine HandSPX.setFlight_anyZ k1 k3 held5.2.2.2 fun h6 f1 f2 f3 up6 => wpAny_throw (hR _ _ (tk _ _ ?_))
    exact ⟨a2, B2, _, pins, _, H2, cls2, d2, rfl, Inv.unsuite (suiteE_to (pins := pins) J) ok, nb', up'.trans up6, .inr (.inr (by rw [hs]; exact ⟨f1, k2, f2, f3⟩)), na, os, ag, w2⟩
  first
    | exact wpAny_bind (wpAny_pure (wpAny_bind fin))
    | exact wpAny_bind fin
theorem ps_tryNX (hs : X.stack = X.env :: X.outer) (hf : X.env.frame = some X.env.locals) (hN : X.N.Nodup) (hi : X.N[i]? = some n) (hln : X.env.kindOf n = some .local) (hc : Names X x c) (pa : ∀ hd : Option Value, PassesOwnAt (model X.prog X.w) (X.A.mark hd) X.A X.env X.xe) (tk : L2.Takes X Wout)
    (bd : ∀ (W : WX) (pn : List (Addr × Obj)) (xe : Value → Shared → Prop), L2N.Takes (X.tr pn xe) W → PassesOwn (model X.prog X.w) X.A X.env xe → PSs (X.tr pn xe) body (tb W))
    (su : ∀ (a : Addr) (oe : Obj) (cls : Value) (d : Option Addr) (pn : List (Addr × Obj)) (xe : Value → Shared → Prop), L2N.Zn cls d oe → (∃ vs, oe.data = .fields vs) → L2.Takes (suiteE X a ((a, oe) :: pn) xe) (fun cls d σ H => Wout cls d (σ.set i none) H) → L2H.HotC (suiteE X a ((a, oe) :: pn) xe) →
      PSs (suiteE X a ((a, oe) :: pn) xe) (b0 :: suite) (ts a cls d)) :
    PS X (.Try body [.ExceptHandler (some (.Name x np)) (some n) (b0 :: suite) pos'] [] [] pos) (fun D σ H => tb (wAs X.K c i ts Wout D) D σ H) := by
  refine ⟨fun pins s σ H D I hq => ?_⟩
  have xok := I.ok
  have frX : X.A.frames = some (X.env :: X.outer) := by rw [xok.frames, hs]
  have hloc : Loc X.env.scope n := .inl hln
  refine wpAny_Try_except ?_
  have run := (bd (wAs X.K c i ts Wout D) (X.pn ++ pins) (fun e s1 => wpAny (model X.prog X.w) X.A (noteFrame e X.env) (fun _ s2 => wpAny (model X.prog X.w) X.A (setFlight e none) (fun _ s3 => wpAny (model X.prog X.w) X.A (handleBy e X.env [.ExceptHandler (some (.Name x np)) (some n) (b0 :: suite) pos']) (SP X pins D) X.xe s3) X.xe s2) X.xe s1) (fun u t xx => ?caught) PassesOwn.looking).run [] s σ H D (I.toTry _) hq
  · refine wpAny_mono run (fun f s1 sp => ?_) (fun _ _ z => z)
    cases f with
    | next =>
      obtain ⟨σ1, H1, J, q⟩ := sp
      exact wpAny_execs_nil ⟨σ1, H1, J.ofTry xok, q⟩
    | brk => exact let ⟨σ1, H1, J, q⟩ := sp; ⟨σ1, H1, J.ofTry xok, q⟩
    | cont => exact let ⟨σ1, H1, J, q⟩ := sp; ⟨σ1, H1, J.ofTry xok, q⟩
    | ret u => exact let ⟨v, σ1, H1, J, r, q⟩ := sp; ⟨v, σ1, H1, J.ofTry xok, r, q⟩
  obtain ⟨a, B, sI, pins1, σ1, H1, cls, d, rfl, Jt, nb, up, sky, na, os, ag, b, hb1, hyes, hno⟩ := xx
  have J : Inv X pins σ1 H1 sI := Jt.ofTry xok
  have sky1 : Sky B (X.env :: X.outer) a (L2N.Zn cls d) X.env.locals t.heap := by
    have z : Sky B X.stack a (L2N.Zn cls d) X.env.locals t.heap := sky
    rwa [hs] at z
  show wpAny (model X.prog X.w) X.A (noteFrame (.ref a) X.env) _ _ _
  refine L2N.Sky.land L2N.Zn.steady frX hf sky1 fun h3 fl3 up3 => ?_
  have J3 : Inv X pins σ1 H1 { t with heap := h3 } := J.landed nb fl3.1 (up.trans up3) os ag
  obtain ⟨oe3, vs3, he3, hz3, hd3⟩ := fl3.there
  have nfr : a ∉ frs (X.env :: X.outer) := fun hm => by
    obtain ⟨_, o1, e1, hnf⟩ := fl3.2.2.1.mem hm
    rw [he3] at e1
    cases e1
    exact hnf _ hd3
  have nL : a ≠ X.env.locals := fun z => nfr (List.mem_filterMap.mpr ⟨X.env, List.mem_cons_self, hf.trans (by rw [z])⟩)
  have nF : a ∉ X.fs := fun hm => let ⟨e, he, q⟩ := List.mem_filterMap.mp hm; nfr (List.mem_filterMap.mpr ⟨e, List.mem_cons_of_mem _ he, q⟩)
  have S3 := J3.suite he3 hd3 na nL nF
  refine wpAny_handleBy_cons (codeAny_handlers_test ?_) (by intro q; cases q)
  have LT : PySem.W.Looks (model X.prog X.w) h3 (typeOf (.ref a)) cls := fun _ _ _ _ k q => wpAny_typeOf_ref (k _ _ he3) (by rw [hz3.1]; exact q)
  have LM := PySem.W.exm_one (M := model X.prog X.w) J3.kIn LT hb1
  have test : ∀ {Q E : Value → Shared → Prop}, Q c { t with heap := h3 } → wpAny (model X.prog X.w) (X.A.mark (some (.ref a))) (eval (.Name x np) X.env) Q E { t with heap := h3 } := fun {Q E} q => by
    obtain ⟨hg, hdb, hm | ⟨hm, hv, hnn⟩⟩ := hc
    · exact ld_glob (X := X.suite a ((a, oe3) :: (X.pn ++ pins))) S3 hg hm q hdb
    · exact ld_blt (X := X.suite a ((a, oe3) :: (X.pn ++ pins))) S3 hg hm hv q hnn hdb
  refine test (LM.here ?_)
  cases b with
  | true =>
    refine codeAny_handlers_suite_as ?_
    refine HandSPX.lands_againZ fl3 fun h4 fl4 up4 => ?_
    have J4 : Inv X pins σ1 H1 { t with heap := h4 } := J.landed nb fl4.1 ((up.trans up3).trans up4) os ag
    obtain ⟨oe4, vs4, he4, hz4, hd4⟩ := fl4.there
    have S4 := J4.suite he4 hd4 na nL nF
    refine store_ok (X := X.suite a ((a, oe4) :: (X.pn ++ pins))) (v := .ref a) S4 hN hi hloc rfl (fun s5 S5 => ?_) (.inr hln)
    refine wpAny_mono ((su a oe4 cls d (X.pn ++ pins) _ hz4 ⟨_, hd4⟩ ?out ⟨(a, oe4), ⟨rfl, vs4, hd4, hz4.2.2 vs4 hd4⟩, List.mem_cons_self⟩).run [] s5 _ H1 _ (suiteE_of (pins := pins) S5) (hyes rfl a na)) (fun f s6 sp => ?_) (fun _ _ z => z)
    case out => exact suite_out hs hf hN hi hln tk xok (fun v s z => pa (some (.ref a)) v s z) frX rfl
    have gone : ∀ {xe6 : Value → Shared → Prop} {σ6 : L2.St} {H6 : Hp} {Q : Shared → Prop}, Inv (suiteE X a ((a, oe4) :: (X.pn ++ pins)) xe6) [] σ6 H6 s6 → (∀ s7, Inv X pins (σ6.set i none) H6 s7 → Q s7) →
        wpAny (model X.prog X.w) X.A (do bindName X.env n .none; unbindBehindTheSuite X.env n pos') (fun _ s7 => Q s7) X.xe s6 := fun {xe6 σ6 H6 Q} S6 q => gone_ok (Inv.unsuite (suiteE_to (pins := pins) S6) xok) hN hi hln q
    cases f with
    | next => exact let ⟨σ6, H6, S6, q6⟩ := sp; gone S6 fun s7 J7 => ⟨_, _, J7, q6⟩
    | brk => exact let ⟨σ6, H6, S6, q6⟩ := sp; gone S6 fun s7 J7 => ⟨_, _, J7, q6⟩
    | cont => exact let ⟨σ6, H6, S6, q6⟩ := sp; gone S6 fun s7 J7 => ⟨_, _, J7, q6⟩
    | ret u => exact let ⟨v6, σ6, H6, S6, r6, q6⟩ := sp; gone S6 fun s7 J7 => ⟨_, _, _, J7, r6, q6⟩
  | false =>
    show wpAny _ X.A (handleBy (.ref a) X.env []) _ _ _
    refine wpAny_handleBy_nil ?_
    obtain ⟨k1, k2, k3, oe, vs, T, oT, ts1, he, hz, hd, h1, hr⟩ := L2H.flyingZ_imp (fun o z => z.zc) fl3
    have fl : HandSPX.FlyingZ B (X.env :: X.outer) a (Zc cls d) h3 := L2H.flyingZ_imp (fun o z => z.zc) fl3
    unfold PySem.passOn
    refine wpAny_bind (wpAny_field he hd h1 ?_)
    rw [if_neg (show ¬ ((Value.ref T == Value.none) = true) from by simp)]
    have fin : wpAny (model X.prog X.w) X.A (setFlight (.ref a) X.env.frame) (fun _ s4 => wpAny (model X.prog X.w) X.A (throw (.ref a) : Sem Flow) (SP X pins D) X.xe s4) X.xe { t with heap := h3 } := by
      rw [hf]
      exact HandSPX.setFlight_upZ fl fun h4 hh4 up4 => wpAny_throw (tk _ _ ⟨a, B, sI, pins, σ1, H1, cls, d, rfl, J, nb, (up.trans up3).trans up4, .inr (.inr (by rw [hs]; exact hh4)), na, os, ag, hno rfl⟩)
    first
      | exact wpAny_bind (wpAny_pure (wpAny_bind fin))
      | exact wpAny_bind fin
/-- .. in a def's own body -/
theorem ps_tryAX {E : XK} {C : Addr} (hs : X.stack = X.env :: X.outer) (hf : X.env.frame = some X.env.locals) (hN : X.N.Nodup) (hi : X.N[i]? = some n) (hln : X.env.kindOf n = some .local) (hm : X.mg x = some (.ref C)) {E1 : Value → Shared → Prop}
    (hex : X.ex = []) (hx : X.xe = fun e s' => wpAny (model X.prog X.w) X.A (leaving X.env e) (fun _ s'' => L2.CX X.prog X.w X.outer X.H_0 X.s_0 E e s'') E1 s')
    (bd : ∀ (W : WX) (pn : List (Addr × Obj)) (xe : Value → Shared → Prop), L2N.Takes (X.tr pn xe) W → PassesOwn (model X.prog X.w) X.A X.env xe → PSs (X.tr pn xe) body (tb W))
    (su : ∀ (a : Addr) (oe : Obj) (cls : Value) (d : Option Addr) (pn : List (Addr × Obj)) (xe : Value → Shared → Prop), L2N.Zn cls d oe → (∃ vs, oe.data = .fields vs) → L2.Takes (suiteE X a ((a, oe) :: pn) xe) (fun cls d _ H => E cls d H) → L2H.HotC (suiteE X a ((a, oe) :: pn) xe) →
      PSs (suiteE X a ((a, oe) :: pn) xe) (b0 :: suite) (ts a cls d)) (hg : Gl X x := by rfl) (hdb : (x == ("__debug__" : Str)) = false := by decide) :
    PS X (.Try body [.ExceptHandler (some (.Name x np)) (some n) (b0 :: suite) pos'] [] [] pos) (tTryAX X.K C i E tb ts) :=
  ps_tryNX hs hf hN hi hln ⟨hg, hdb, .inl hm⟩ (fun hd => L2H.passesAt_of hx hd) (takesX hs hf hex hx) bd su
theorem pe_suiteE {a : Addr} {pn : List (Addr × Obj)} {xe : Value → Shared → Prop} {e : Expr} {t : TE} (h : PE (X.suite a pn) e t) : PE (suiteE X a pn xe) e t :=
  ⟨fun pins s σ H Q I q => wpAny_mono (h.run pins s σ H Q (suiteE_to (pins := pins) I) q) (fun _ _ ⟨x, H', I', r, q'⟩ => ⟨x, H', suiteE_of (pins := pins) I', r, q'⟩) fun _ _ z => False.elim z⟩
end
end Mi
/-! U19: judge. -/
namespace Mi
open PySem PySem.Spec PyProof.Rows L2
theorem c_tryAX {K : Ky} {C : Addr} {i : Nat} {E : XK} {tb : WX → TS} {ts : Addr → Value → Option Addr → TS} {u : TS} {D : Ends} {σ : L2.St} {H : Hp} (h : tb (wAs K (.ref C) i ts (fun cls d _ H => E cls d H) { D with nx := u D }) { D with nx := u D } σ H) : tSeq (tTryAX K C i E tb ts) u D σ H := h
theorem pure_judged {K : Ky} (hit : Hit K "Fault") (vs : List V) (H : Hp) (Q : VK) (E : XK) (h : sp_judged K vs H Q E) : t_judged K E (fin Q) (L2.start N_judged vs) H := by
  obtain ⟨p, B, rfl, hp, o, qlong, q⟩ := h
  refine q_drop (s_short (val_var rfl) hp qlong fun hle H1 s1 => ?_)
  obtain ⟨r, run, qe, q⟩ := q hle
  refine c_tryAX (c_asg (s_readP (val_var rfl) (Same.seq s1 hp) o (by omega) run (fun e he d H' hd => ?_) fun x hx R2 H2 a s2 s12 pa => ?_))
  · refine ⟨true, hit, fun _ a ha => ?_, fun z => by cases z⟩
    have vx : ∀ {f : Str} {k : Nat} {σ : L2.St}, (ftF e).lookup f = some (nV k) → Val (tVar 2) σ H' (.ref a) → Val (tXf a (.ref (He.ga K "Fault")) (some d) (He.ga K "Fault") f (tVar 2)) σ H' (nV k) := fun hl h0 Q q => h0 _ ⟨rfl, rfl, d, _, _, rfl, hd, hl, q⟩
    exact s_refused (xs := [-6, (e.1 : Int), (e.2 : Int)]) (a_cons val_c (a_cons (vx rfl (val_var rfl)) (a_cons (vx rfl (val_var rfl)) a_nil))) (by show 3 ≤ 1000; decide) (qe e he)
  · refine c_name ?_
    dsimp only
    exact s_ret (val_var rfl) (q x hx R2 H2 a s2 pa)
theorem pure_judge_told {K : Ky} (kP : KPattern K) (vs : List V) (H : Hp) (Q : VK) (E : XK) (h : sp_judge_told K vs H Q E) : t_judge_told K E (fin Q) (L2.start N_judge_told vs) H := by
  obtain ⟨p, B, rfl, hp, o, qlong, q⟩ := h
  refine c_ret (c_cons (c_cb (c_cons (c_fldC (s_call (a_cons (val_var rfl) a_nil) ⟨p, B, rfl, hp, o, qlong, fun hle => ?_⟩)))))
  obtain ⟨r, run, qe, q⟩ := q hle
  refine ⟨r, run, qe, fun x hx R' H' a s2 pa => ?_⟩
  obtain ⟨⟨dx, n, nm, hob, _, nms, hnm, hpr⟩, _, _⟩ := pa
  refine ⟨a, _, dx, _, .ref nm, rfl, s2 _ _ hob, kP.cl, kP.n_names, rfl, ?_⟩
  have hln := Paired.len hpr
  refine ⟨_, _, rfl, .inl ⟨_, SqL.of (s2 _ _ hnm), rfl⟩, ?_⟩
  refine ⟨by show 1 ≤ _; rw [sizeLine_eq]; decide, fun l hl => ?_⟩
  refine q x hx _ l ?_
  rw [upd_same, List.length_map, hln]
  rfl
theorem pure_judge {K : Ky} (hit : Hit K "Refused") (vs : List V) (H : Hp) (Q : VK) (E : XK) (h : sp_judge K vs H Q E) : t_judge K E (fin Q) (L2.start N_judge vs) H := by
  obtain ⟨p, B, rfl, hp, o, q⟩ := h
  obtain ⟨l1, l2⟩ := judge_law o
  have rf : ∀ {σ : L2.St} {xs : List Int}, σ = [some (.ref p), none, none] → PyWrpatt.judge (intsB B) = xs → Rfs K (WE (wAs K (.ref (He.ga K "Refused")) 2 (fun a cls d => (tAsg (tXf a cls d (He.ga K "Refused") "answer" (tVar 2)) (gName 1))) (fun _ _ _ _ => False) { fin Q with nx := tRet (tVar 1) (fin Q) }) σ) xs := by
    rintro σ xs rfl e d l H' hd hl
    refine ⟨true, hit, fun _ a ha => ?_, fun z => by cases z⟩
    refine c_asg (val_var (v := V.ref a) rfl _ ⟨rfl, rfl, d, _, .ref l, rfl, hd, rfl, c_name ?_⟩)
    dsimp only
    refine s_ret (val_var rfl) (q _ l ?_)
    rw [show PyWrpatt.judge (B.map Int.ofNat) = xs from e]
    exact hl
  refine c_tryA (c_asg (c_callS ((a_cons (val_var (v := V.ref p) rfl) a_nil) _ ?_)))
  refine ⟨p, B, rfl, hp, o, fun h => rf rfl (l1 h), fun h => ?_⟩
  obtain ⟨r, run, he, hok⟩ := l2 h
  refine ⟨r, run, fun e h2 => rf rfl (he e h2), fun x hx H' q2 hq => ?_⟩
  refine c_name ?_
  dsimp only
  refine s_ret (val_var rfl) (q H' q2 ?_)
  rw [show PyWrpatt.judge (B.map Int.ofNat) = _ from hok x hx]
  exact hq
end Mi
/-! H1: facts of what the top has written; the end. -/
namespace Mi
open PySem PySem.Spec PyProof.Rows L2
theorem units65 {k : Nat} {A : Around} (r : Room k A) : A.units + 65 < cLine := by have := r.un; omega
theorem roomH_mark {k : Nat} {A : Around} (r : Room k A) (v : Option Value) : L2H.RoomH k (A.mark v) := ⟨r.dp, r.un⟩
theorem two {a b : Bool} (h : (a && b) = true) : a = true ∧ b = true := Bool.and_eq_true_iff.mp h
/-- an exception's class with an __init__ of its own -/
def oexB (K : Ky) (C : Addr) : Bool := match K.lookup C with
  | some ⟨.type t, _, .cls cd, sl⟩ => (match cd.mro, sl.toList with
    | .ref D :: bm, [_, _, _, _, some (.builtin n), _] => decide (t = "type") && (decide (D = C) && (PySem.HandSPX.refsVE bm && (decide (n = "ValueError.__new__") && (cd.hasDict && !cd.hasDel))))
    | _, _ => false)
  | _ => false
theorem oexB_ok {K : Ky} {C : Addr} (h : oexB K C = true) : ∃ nm q N bs bm sn sub ab col dd k0 k1 k2 k3 k5, K.lookup C = some (excClassObj nm q C N bs bm true sn sub ab col dd k0 k1 k2 k3 k5 "ValueError.__new__") ∧ PySem.HandSPX.refsVE bm = true := by
  unfold oexB at h
  split at h
  · rename_i t dd cd sl ho
    split at h
    · rename_i D bm k0 k1 k2 k3 n k5 hm hs
      obtain ⟨h1, h⟩ := two h
      obtain ⟨h2, h⟩ := two h
      obtain ⟨h3, h⟩ := two h
      obtain ⟨h4, h⟩ := two h
      obtain ⟨h5, h6⟩ := two h
      have e1 := of_decide_eq_true h1
      have e2 := of_decide_eq_true h2
      have e4 := of_decide_eq_true h4
      subst e1 e2 e4
      obtain ⟨nm, bs, mro, ns, qn, hd, sn, sub, ab, col, del⟩ := cd
      dsimp only at hm h5 h6
      subst hm
      have e6 : del = false := by simpa using h6
      subst h5 e6
      have hsl : sl = #[k0, k1, k2, k3, some (.builtin "ValueError.__new__"), k5] := by
        obtain ⟨l⟩ := sl
        simp only at hs
        rw [hs]
      subst hsl
      exact ⟨nm, qn, ns, bs, bm, sn, sub, ab, col, dd, k0, k1, k2, k3, k5, ho, h3⟩
    · cases h
  · cases h
def excB (K : Ky) (C : Str) : Bool := oexB K (He.ga K C) && (decide (PySem.W.findIn K (.ref (He.ga K C)) "__setattr__" = some (some (.builtin "object.__setattr__"))) && (decide (PySem.W.subIn K (.ref (He.ga K C)) (.type "BaseException") = some true) &&
  (decide (PySem.W.typeIn K (.ref (He.ga K C)) = some (.type "type")) && (PySem.W.keepIn K (.ref (He.ga K C)) && (decide (PySem.W.findIn K (.ref (He.ga K C)) "__init__" = some (some (.ref (He.ma K (He.ga K C) "__init__")))) &&
  (decide (PySem.W.typeIn K (.ref (He.ma K (He.ga K C) "__init__")) = some (.type "function")) && xfB K (He.ga K C)))))))
theorem excB_oex {K : Ky} {C : Str} (h : excB K C = true) : OexC K (He.ga K C) := by
  obtain ⟨h1, h⟩ := two h
  obtain ⟨h2, h⟩ := two h
  obtain ⟨h3, h⟩ := two h
  obtain ⟨h4, h⟩ := two h
  obtain ⟨h5, h⟩ := two h
  exact ⟨oexB_ok h1, of_decide_eq_true h2, of_decide_eq_true h3, of_decide_eq_true h4, h5⟩
theorem excB_xc {K : Ky} {mg : Str → Option Value} {C : Str} (h : excB K C = true) (g : mg C = some (.ref (He.ga K C))) : Xc K mg C := by
  have ox := excB_oex h
  obtain ⟨h1, h⟩ := two h
  obtain ⟨h2, h⟩ := two h
  obtain ⟨h3, h⟩ := two h
  obtain ⟨h4, h⟩ := two h
  obtain ⟨h5, h⟩ := two h
  obtain ⟨h6, h⟩ := two h
  obtain ⟨h7, h8⟩ := two h
  exact ⟨ox, of_decide_eq_true h6, of_decide_eq_true h7, g, xfB_ok h8⟩
def hitB (K : Ky) (C : Str) : Bool := decide (PySem.W.exmOne K (.ref (He.ga K C)) (.ref (He.ga K C)) = some true)
theorem hitB_ok {K : Ky} {C : Str} (h : hitB K C = true) : Hit K C := by unfold hitB at h; unfold Hit; exact of_decide_eq_true h
/-! tables of the top -/
def seqAt (K : Ky) (a : Addr) (vs : List V) : Bool := match K.lookup a with
  | some ⟨.type c, _, .seq its _, _⟩ => decide (c = "tuple") && (decide (its.size ≤ sizeLine) && He.relAll vs its.toList)
  | _ => false
theorem seqAt_ok {K : Ky} {a : Addr} {vs : List V} (h : seqAt K a vs = true) (H : Hp) : SqT K H a vs := by
  unfold seqAt at h
  split at h
  · rename_i c od its n sl ho
    obtain ⟨h1, h⟩ := two h
    obtain ⟨h2, h3⟩ := two h
    exact .inr ⟨_, its, n, ho, by rw [of_decide_eq_true h1], rfl, of_decide_eq_true h2, He.relAll_ok h3⟩
  · cases h
/-- what a table's items are at -/
def itemsAt (K : Ky) (a : Addr) : List Addr := match K.lookup a with
  | some ⟨_, _, .seq its _, _⟩ => its.toList.map fun v => match v with
    | .ref b => b
    | _ => 0
  | _ => []
def pairsB (K : Ky) : List Addr → Bnds → Bool
  | [], [] => true
  | a :: as, r :: bs => seqAt K a [nV r.1, nV r.2] && pairsB K as bs
  | _, _ => false
theorem pairsB_ok {K : Ky} : ∀ {as : List Addr} {bs : Bnds}, pairsB K as bs = true → ∀ R : Hp, Paired (PrAt K R) as bs
  | [], [], _, _ => .nil
  | a :: as, r :: bs, h, R => by
    obtain ⟨h1, h2⟩ := two h
    exact .cons (seqAt_ok h1 R) (pairsB_ok h2 R)
  | [], _ :: _, h, _ => by cases h
  | _ :: _, [], h, _ => by cases h
def tabB (K : Ky) (x : Str) (bs : Bnds) : Bool := seqAt K (He.ga K x) ((itemsAt K (He.ga K x)).map V.ref) && pairsB K (itemsAt K (He.ga K x)) bs
theorem tabB_ok {K : Ky} {x : Str} {bs : Bnds} (h : tabB K x bs = true) : Tab K x bs := by
  obtain ⟨h1, h2⟩ := two h
  exact ⟨_, seqAt_ok h1, pairsB_ok h2⟩
def entB : List DictEntry → List (Int × Int) → Bool
  | [], [] => true
  | e :: l, kv :: r => (match e.key with
    | .int i _ => decide (i = kv.1)
    | _ => false) && (decide (e.hash = hashInt kv.1) && ((match e.val with
    | .int i _ => decide (i = kv.2)
    | _ => false) && entB l r))
  | _, _ => false
theorem entB_ok : ∀ {l : List DictEntry} {kvs : List (Int × Int)}, entB l kvs = true → Paired (fun (e : DictEntry) (kv : Int × Int) => (∃ t, e.key = .int kv.1 t) ∧ e.hash = hashInt kv.1 ∧ ∃ t, e.val = .int kv.2 t) l kvs
  | [], [], _ => .nil
  | e :: l, kv :: r, h => by
    obtain ⟨h1, h⟩ := two h
    obtain ⟨h2, h⟩ := two h
    obtain ⟨h3, h4⟩ := two h
    refine .cons ⟨?_, of_decide_eq_true h2, ?_⟩ (entB_ok h4)
    · split at h1
      · rename_i i t e1; exact ⟨t, by rw [e1, of_decide_eq_true h1]⟩
      · cases h1
    · split at h3
      · rename_i i t e1; exact ⟨t, by rw [e1, of_decide_eq_true h3]⟩
      · cases h3
  | [], _ :: _, h => by cases h
  | _ :: _, [], h => by cases h
def kdiB (K : Ky) (a : Addr) (kvs : List (Int × Int)) : Bool := match K.lookup a with
  | some ⟨.type c, none, .dict es _, sl⟩ => decide (c = "dict") && (sl.toList.isEmpty && (!(a == sysModules) && entB es.toList kvs))
  | _ => false
theorem kdiB_ok {K : Ky} {a : Addr} {kvs : List (Int × Int)} (h : kdiB K a kvs = true) : KDi K a kvs := by
  unfold kdiB at h
  split at h
  · rename_i c es n sl ho
    obtain ⟨h1, h⟩ := two h
    obtain ⟨h2, h⟩ := two h
    obtain ⟨h3, h4⟩ := two h
    have e1 := of_decide_eq_true h1
    have e2 : sl = #[] := by
      obtain ⟨l⟩ := sl
      cases l with
      | nil => rfl
      | cons a b => cases h2
    subst e1 e2
    exact ⟨es, n, ho, by simpa using h3, entB_ok h4⟩
  · cases h
/-! the end: a call of the asked def, what the top has written known by facts alone -/
theorem walk_facts {r : PySem.W.OpenSpec} {k : Nat} {q : Program} {loose : List Str} {XP : (Str → Option Value) → Heap → Prop} {YP : World → Heap → Prop} {d : DefRec} {CX : CXT} {ps : List Str} {sp : Ky → Sp} (w1 : r.wellSaid = true) (w2 : d.params.defaults = []) (w3 : r.args.length = ps.length) (w4 : Room k callerA)
    (F : ∀ (w : World) (mg : Str → Option Value) (fa : Addr) (h : Heap), YP w h → h.Ns mainGlobals mg → mg d.name = some (.ref fa) → ∃ (K : Ky) (fd : FuncData), K.In h ∧ (∀ (s : Shared) (us : List Value), us.length = ps.length → BindsTo s fd ⟨us, []⟩ (ps.zip us)) ∧ ∀ base : Heap, K.In base → base.Ns mainGlobals mg → FnOk r.prog w K mg base CX k fa fd ps (sp K))
    (S : ∀ (K : Ky) (H : Hp) (xs : List V) (a : PySem.W.Codec.denoteAll r.args), PySem.W.Codec.withinAll r.args a = true → DwAll K H xs (PySem.W.Codec.encAll r.args a) → sp K xs H (fun v H' => Dw K H' v (r.ret.enc (PySem.W.Codec.app r.args r.f a))) fun _ _ _ => False)
    (N : ∀ (H : Hp) (s : Shared) (e : Value) (s' : Shared), CX [] H s (fun _ _ _ => False) e s' → False) : PySem.W.WalkOS q loose XP YP r d [] (fun f vs => PySem.call f vs) := by
  intro w s0 s1 mg mb G Y fa o pm cd doc dV kV ho hd hcd hD hmg hg args vals as hpre hlay hrd hwl hlo
  obtain ⟨a, e1, -⟩ := PySem.W.os_pre_some hpre
  obtain ⟨rfl, hwi⟩ := PySem.W.Codec.encAll_of_decAll r.args args a e1
  obtain ⟨K, fd, KX, hb, hF⟩ := F w mg fa _ Y G.T.g hmg
  have sc := spec_call (R := []) (cl := classAt s0.heap) (d0 := r.ret.enc (PySem.W.Codec.app r.args r.f a)) KX G.T.g G.T.b G.T.builtins G.T.nolimit hg hwl (pl_encAll _ _) (layable_weight hlay) w4 hF hb (by rw [encAll_len]; exact w3) (fun H xs _ hS => S K H xs a hwi hS) fun H e s' => N H s1 e s'
  refine PySem.W.enter_call (codeAny_mono sc fun r' s' hq => ?_)
  obtain ⟨u, as', rfl, h1, h2, h3, h4⟩ := hq
  refine ⟨.inl ⟨u, _, as', rfl, fun _ => rfl, h1, ?_, fun z => Bool.noConfusion (show false = true from z)⟩, h2, h3, h4⟩
  exact (PySem.W.OpenSpec.post_iff w1 hwi _ _).mpr rfl
end Mi
set_option maxHeartbeats 4000000
namespace Mi
open PySem PySem.Spec PyProof.Rows L2
def top (i : Nat) : Stmt := PySem.Challenge.pw_toldpatterns_s01_judge.main.body.getD i (.Pass ⟨0, 0, 0, 0⟩)
abbrev s_Fault___init__ : Stmt := inClass (top 4) 0
theorem sc_Fault___init__ : FnScope N_Fault___init__ ["self", "kind", "place"] (defScope s_Fault___init__) := ⟨rfl, rfl, rfl, by decide +kernel, rfl, by decide +kernel, by decide +kernel⟩
abbrev s_size_by : Stmt := top 5
theorem sc_size_by : FnScope N_size_by ["lead"] (defScope s_size_by) := ⟨rfl, rfl, rfl, by decide +kernel, rfl, by decide +kernel, by decide +kernel⟩
abbrev s_second_bounds : Stmt := top 6
theorem sc_second_bounds : FnScope N_second_bounds ["lead"] (defScope s_second_bounds) := ⟨rfl, rfl, rfl, by decide +kernel, rfl, by decide +kernel, by decide +kernel⟩
abbrev s_bounds_at : Stmt := top 7
theorem sc_bounds_at : FnScope N_bounds_at ["lead", "k"] (defScope s_bounds_at) := ⟨rfl, rfl, rfl, by decide +kernel, rfl, by decide +kernel, by decide +kernel⟩
abbrev s_value_at : Stmt := top 8
theorem sc_value_at : FnScope N_value_at ["text", "at"] (defScope s_value_at) := ⟨rfl, rfl, rfl, by decide +kernel, rfl, by decide +kernel, by decide +kernel⟩
abbrev s_Node___init__ : Stmt := inClass (top 13) 0
theorem sc_Node___init__ : FnScope N_Node___init__ ["self", "kind", "one", "other", "told"] (defScope s_Node___init__) := ⟨rfl, rfl, rfl, by decide +kernel, rfl, by decide +kernel, by decide +kernel⟩
abbrev s_all_but : Stmt := top 14
theorem sc_all_but : FnScope N_all_but ["bounds"] (defScope s_all_but) := ⟨rfl, rfl, rfl, by decide +kernel, rfl, by decide +kernel, by decide +kernel⟩
abbrev s_Builder___init__ : Stmt := inClass (top 15) 0
theorem sc_Builder___init__ : FnScope N_Builder___init__ ["self"] (defScope s_Builder___init__) := ⟨rfl, rfl, rfl, by decide +kernel, rfl, by decide +kernel, by decide +kernel⟩
abbrev s_Builder_added : Stmt := inClass (top 15) 1
theorem sc_Builder_added : FnScope N_Builder_added ["self", "node", "weight"] (defScope s_Builder_added) := ⟨rfl, rfl, rfl, by decide +kernel, rfl, by decide +kernel, by decide +kernel⟩
abbrev s_Builder_test : Stmt := inClass (top 15) 2
theorem sc_Builder_test : FnScope N_Builder_test ["self", "bounds", "is_turned"] (defScope s_Builder_test) := ⟨rfl, rfl, rfl, by decide +kernel, rfl, by decide +kernel, by decide +kernel⟩
abbrev s_Builder_sign : Stmt := inClass (top 15) 3
theorem sc_Builder_sign : FnScope N_Builder_sign ["self", "kind"] (defScope s_Builder_sign) := ⟨rfl, rfl, rfl, by decide +kernel, rfl, by decide +kernel, by decide +kernel⟩
abbrev s_Builder_empty : Stmt := inClass (top 15) 4
theorem sc_Builder_empty : FnScope N_Builder_empty ["self"] (defScope s_Builder_empty) := ⟨rfl, rfl, rfl, by decide +kernel, rfl, by decide +kernel, by decide +kernel⟩
abbrev s_Builder_row : Stmt := inClass (top 15) 5
theorem sc_Builder_row : FnScope N_Builder_row ["self", "parts"] (defScope s_Builder_row) := ⟨rfl, rfl, rfl, by decide +kernel, rfl, by decide +kernel, by decide +kernel⟩
abbrev s_Builder_one_of : Stmt := inClass (top 15) 6
theorem sc_Builder_one_of : FnScope N_Builder_one_of ["self", "some"] (defScope s_Builder_one_of) := ⟨rfl, rfl, rfl, by decide +kernel, rfl, by decide +kernel, by decide +kernel⟩
abbrev s_Builder_named : Stmt := inClass (top 15) 7
theorem sc_Builder_named : FnScope N_Builder_named ["self", "inner", "name"] (defScope s_Builder_named) := ⟨rfl, rfl, rfl, by decide +kernel, rfl, by decide +kernel, by decide +kernel⟩
abbrev s_Builder_endless : Stmt := inClass (top 15) 8
theorem sc_Builder_endless : FnScope N_Builder_endless ["self", "inner", "least"] (defScope s_Builder_endless) := ⟨rfl, rfl, rfl, by decide +kernel, rfl, by decide +kernel, by decide +kernel⟩
abbrev s_Builder_often : Stmt := inClass (top 15) 9
theorem sc_Builder_often : FnScope N_Builder_often ["self", "inner", "least", "most"] (defScope s_Builder_often) := ⟨rfl, rfl, rfl, by decide +kernel, rfl, by decide +kernel, by decide +kernel⟩
abbrev s_class_bounds : Stmt := top 50
theorem sc_class_bounds : FnScope N_class_bounds ["byte"] (defScope s_class_bounds) := ⟨rfl, rfl, rfl, by decide +kernel, rfl, by decide +kernel, by decide +kernel⟩
abbrev s_is_figure : Stmt := top 51
theorem sc_is_figure : FnScope N_is_figure ["byte"] (defScope s_is_figure) := ⟨rfl, rfl, rfl, by decide +kernel, rfl, by decide +kernel, by decide +kernel⟩
abbrev s_is_small : Stmt := top 52
theorem sc_is_small : FnScope N_is_small ["byte"] (defScope s_is_small) := ⟨rfl, rfl, rfl, by decide +kernel, rfl, by decide +kernel, by decide +kernel⟩
abbrev s_is_in_name : Stmt := top 53
theorem sc_is_in_name : FnScope N_is_in_name ["byte"] (defScope s_is_in_name) := ⟨rfl, rfl, rfl, by decide +kernel, rfl, by decide +kernel, by decide +kernel⟩
abbrev s_Level___init__ : Stmt := inClass (top 54) 0
theorem sc_Level___init__ : FnScope N_Level___init__ ["self", "closing", "name"] (defScope s_Level___init__) := ⟨rfl, rfl, rfl, by decide +kernel, rfl, by decide +kernel, by decide +kernel⟩
abbrev s_PatternReader___init__ : Stmt := inClass (top 55) 0
theorem sc_PatternReader___init__ : FnScope N_PatternReader___init__ ["self", "text"] (defScope s_PatternReader___init__) := ⟨rfl, rfl, rfl, by decide +kernel, rfl, by decide +kernel, by decide +kernel⟩
abbrev s_PatternReader_byte : Stmt := inClass (top 55) 1
theorem sc_PatternReader_byte : FnScope N_PatternReader_byte ["self"] (defScope s_PatternReader_byte) := ⟨rfl, rfl, rfl, by decide +kernel, rfl, by decide +kernel, by decide +kernel⟩
abbrev s_PatternReader_bar_from : Stmt := inClass (top 55) 2
theorem sc_PatternReader_bar_from : FnScope N_PatternReader_bar_from ["self", "right"] (defScope s_PatternReader_bar_from) := ⟨rfl, rfl, rfl, by decide +kernel, rfl, by decide +kernel, by decide +kernel⟩
abbrev s_PatternReader_level : Stmt := inClass (top 55) 3
theorem sc_PatternReader_level : FnScope N_PatternReader_level ["self"] (defScope s_PatternReader_level) := ⟨rfl, rfl, rfl, by decide +kernel, rfl, by decide +kernel, by decide +kernel⟩
abbrev s_PatternReader_add : Stmt := inClass (top 55) 4
theorem sc_PatternReader_add : FnScope N_PatternReader_add ["self", "node"] (defScope s_PatternReader_add) := ⟨rfl, rfl, rfl, by decide +kernel, rfl, by decide +kernel, by decide +kernel⟩
abbrev s_PatternReader_end_row : Stmt := inClass (top 55) 5
theorem sc_PatternReader_end_row : FnScope N_PatternReader_end_row ["self"] (defScope s_PatternReader_end_row) := ⟨rfl, rfl, rfl, by decide +kernel, rfl, by decide +kernel, by decide +kernel⟩
abbrev s_PatternReader_close : Stmt := inClass (top 55) 8
theorem sc_PatternReader_close : FnScope N_PatternReader_close ["self", "byte"] (defScope s_PatternReader_close) := ⟨rfl, rfl, rfl, by decide +kernel, rfl, by decide +kernel, by decide +kernel⟩
abbrev s_PatternReader_is_new_name : Stmt := inClass (top 55) 11
theorem sc_PatternReader_is_new_name : FnScope N_PatternReader_is_new_name ["self", "name"] (defScope s_PatternReader_is_new_name) := ⟨rfl, rfl, rfl, by decide +kernel, rfl, by decide +kernel, by decide +kernel⟩
abbrev s_PatternReader_take_name : Stmt := inClass (top 55) 10
theorem sc_PatternReader_take_name : FnScope N_PatternReader_take_name ["self"] (defScope s_PatternReader_take_name) := ⟨rfl, rfl, rfl, by decide +kernel, rfl, by decide +kernel, by decide +kernel⟩
abbrev s_PatternReader_open_level : Stmt := inClass (top 55) 9
theorem sc_PatternReader_open_level : FnScope N_PatternReader_open_level ["self", "byte"] (defScope s_PatternReader_open_level) := ⟨rfl, rfl, rfl, by decide +kernel, rfl, by decide +kernel, by decide +kernel⟩
abbrev s_PatternReader_number : Stmt := inClass (top 55) 12
theorem sc_PatternReader_number : FnScope N_PatternReader_number ["self"] (defScope s_PatternReader_number) := ⟨rfl, rfl, rfl, by decide +kernel, rfl, by decide +kernel, by decide +kernel⟩
abbrev s_PatternReader_numbers : Stmt := inClass (top 55) 14
theorem sc_PatternReader_numbers : FnScope N_PatternReader_numbers ["self"] (defScope s_PatternReader_numbers) := ⟨rfl, rfl, rfl, by decide +kernel, rfl, by decide +kernel, by decide +kernel⟩
abbrev s_PatternReader_repeat : Stmt := inClass (top 55) 13
theorem sc_PatternReader_repeat : FnScope N_PatternReader_repeat ["self", "byte"] (defScope s_PatternReader_repeat) := ⟨rfl, rfl, rfl, by decide +kernel, rfl, by decide +kernel, by decide +kernel⟩
abbrev s_PatternReader_class_part : Stmt := inClass (top 55) 21
theorem sc_PatternReader_class_part : FnScope N_PatternReader_class_part ["self"] (defScope s_PatternReader_class_part) := ⟨rfl, rfl, rfl, by decide +kernel, rfl, by decide +kernel, by decide +kernel⟩
abbrev s_PatternReader_escaped : Stmt := inClass (top 55) 17
theorem sc_PatternReader_escaped : FnScope N_PatternReader_escaped ["self", "byte"] (defScope s_PatternReader_escaped) := ⟨rfl, rfl, rfl, by decide +kernel, rfl, by decide +kernel, by decide +kernel⟩
abbrev s_PatternReader_plain : Stmt := inClass (top 55) 16
theorem sc_PatternReader_plain : FnScope N_PatternReader_plain ["self"] (defScope s_PatternReader_plain) := ⟨rfl, rfl, rfl, by decide +kernel, rfl, by decide +kernel, by decide +kernel⟩
abbrev s_PatternReader_end_of_part : Stmt := inClass (top 55) 22
theorem sc_PatternReader_end_of_part : FnScope N_PatternReader_end_of_part ["self"] (defScope s_PatternReader_end_of_part) := ⟨rfl, rfl, rfl, by decide +kernel, rfl, by decide +kernel, by decide +kernel⟩
abbrev s_PatternReader_part : Stmt := inClass (top 55) 20
theorem sc_PatternReader_part : FnScope N_PatternReader_part ["self"] (defScope s_PatternReader_part) := ⟨rfl, rfl, rfl, by decide +kernel, rfl, by decide +kernel, by decide +kernel⟩
abbrev s_PatternReader_value_set : Stmt := inClass (top 55) 19
theorem sc_PatternReader_value_set : FnScope N_PatternReader_value_set ["self"] (defScope s_PatternReader_value_set) := ⟨rfl, rfl, rfl, by decide +kernel, rfl, by decide +kernel, by decide +kernel⟩
abbrev s_PatternReader_escape : Stmt := inClass (top 55) 18
theorem sc_PatternReader_escape : FnScope N_PatternReader_escape ["self"] (defScope s_PatternReader_escape) := ⟨rfl, rfl, rfl, by decide +kernel, rfl, by decide +kernel, by decide +kernel⟩
abbrev s_PatternReader_atom : Stmt := inClass (top 55) 15
theorem sc_PatternReader_atom : FnScope N_PatternReader_atom ["self", "byte"] (defScope s_PatternReader_atom) := ⟨rfl, rfl, rfl, by decide +kernel, rfl, by decide +kernel, by decide +kernel⟩
abbrev s_PatternReader_take : Stmt := inClass (top 55) 7
theorem sc_PatternReader_take : FnScope N_PatternReader_take ["self", "byte"] (defScope s_PatternReader_take) := ⟨rfl, rfl, rfl, by decide +kernel, rfl, by decide +kernel, by decide +kernel⟩
abbrev s_PatternReader_whole : Stmt := inClass (top 55) 6
theorem sc_PatternReader_whole : FnScope N_PatternReader_whole ["self"] (defScope s_PatternReader_whole) := ⟨rfl, rfl, rfl, by decide +kernel, rfl, by decide +kernel, by decide +kernel⟩
abbrev s_Pattern___init__ : Stmt := inClass (top 57) 0
theorem sc_Pattern___init__ : FnScope N_Pattern___init__ ["self", "nodes", "root", "names"] (defScope s_Pattern___init__) := ⟨rfl, rfl, rfl, by decide +kernel, rfl, by decide +kernel, by decide +kernel⟩
abbrev s_read_pattern : Stmt := top 58
theorem sc_read_pattern : FnScope N_read_pattern ["data"] (defScope s_read_pattern) := ⟨rfl, rfl, rfl, by decide +kernel, rfl, by decide +kernel, by decide +kernel⟩
abbrev s_Refused___init__ : Stmt := inClass (top 60) 0
theorem sc_Refused___init__ : FnScope N_Refused___init__ ["self", "answer"] (defScope s_Refused___init__) := ⟨rfl, rfl, rfl, by decide +kernel, rfl, by decide +kernel, by decide +kernel⟩
abbrev s_must_be_short : Stmt := top 65
theorem sc_must_be_short : FnScope N_must_be_short ["some"] (defScope s_must_be_short) := ⟨rfl, rfl, rfl, by decide +kernel, rfl, by decide +kernel, by decide +kernel⟩
abbrev s_judged : Stmt := top 66
theorem sc_judged : FnScope N_judged ["p"] (defScope s_judged) := ⟨rfl, rfl, rfl, by decide +kernel, rfl, by decide +kernel, by decide +kernel⟩
abbrev s_judge_told : Stmt := top 67
theorem sc_judge_told : FnScope N_judge_told ["p"] (defScope s_judge_told) := ⟨rfl, rfl, rfl, by decide +kernel, rfl, by decide +kernel, by decide +kernel⟩
abbrev s_judge : Stmt := top 68
theorem sc_judge : FnScope N_judge ["p"] (defScope s_judge) := ⟨rfl, rfl, rfl, by decide +kernel, rfl, by decide +kernel, by decide +kernel⟩
theorem len_Fault___init__ (K : Ky) (vs : List V) (H : Hp) (Q : VK) (E : XK) (h : sp_Fault___init__ K vs H Q E) : vs.length = 3 := by first | (rcases h with ⟨_, rfl, _⟩; rfl) | (rcases h with ⟨_, _, rfl, _⟩; rfl) | (rcases h with ⟨_, _, _, rfl, _⟩; rfl) | (rcases h with ⟨_, _, _, _, rfl, _⟩; rfl) | (rcases h with ⟨_, _, _, _, _, rfl, _⟩; rfl) | (rcases h with ⟨_, _, _, _, _, _, rfl, _⟩; rfl) | (rcases h with ⟨_, _, _, _, _, _, _, rfl, _⟩; rfl) | (rcases h with ⟨_, _, _, _, _, _, _, _, rfl, _⟩; rfl) | (rcases h with ⟨_, _, _, _, _, _, _, _, _, rfl, _⟩; rfl) | (rcases h with ⟨_, _, _, _, _, _, _, _, _, _, rfl, _⟩; rfl) | (rcases h with ⟨_, _, _, _, _, _, _, _, _, _, _, rfl, _⟩; rfl) | (rcases h with ⟨_, _, _, _, _, _, _, _, _, _, _, _, rfl, _⟩; rfl) | (rcases h with ⟨_, _, _, _, _, _, _, _, _, _, _, _, _, rfl, _⟩; rfl)
theorem len_size_by (K : Ky) (vs : List V) (H : Hp) (Q : VK) (E : XK) (h : sp_size_by K vs H Q E) : vs.length = 1 := by first | (rcases h with ⟨_, rfl, _⟩; rfl) | (rcases h with ⟨_, _, rfl, _⟩; rfl) | (rcases h with ⟨_, _, _, rfl, _⟩; rfl) | (rcases h with ⟨_, _, _, _, rfl, _⟩; rfl) | (rcases h with ⟨_, _, _, _, _, rfl, _⟩; rfl) | (rcases h with ⟨_, _, _, _, _, _, rfl, _⟩; rfl) | (rcases h with ⟨_, _, _, _, _, _, _, rfl, _⟩; rfl) | (rcases h with ⟨_, _, _, _, _, _, _, _, rfl, _⟩; rfl) | (rcases h with ⟨_, _, _, _, _, _, _, _, _, rfl, _⟩; rfl) | (rcases h with ⟨_, _, _, _, _, _, _, _, _, _, rfl, _⟩; rfl) | (rcases h with ⟨_, _, _, _, _, _, _, _, _, _, _, rfl, _⟩; rfl) | (rcases h with ⟨_, _, _, _, _, _, _, _, _, _, _, _, rfl, _⟩; rfl) | (rcases h with ⟨_, _, _, _, _, _, _, _, _, _, _, _, _, rfl, _⟩; rfl)
theorem len_second_bounds (K : Ky) (vs : List V) (H : Hp) (Q : VK) (E : XK) (h : sp_second_bounds K vs H Q E) : vs.length = 1 := by first | (rcases h with ⟨_, rfl, _⟩; rfl) | (rcases h with ⟨_, _, rfl, _⟩; rfl) | (rcases h with ⟨_, _, _, rfl, _⟩; rfl) | (rcases h with ⟨_, _, _, _, rfl, _⟩; rfl) | (rcases h with ⟨_, _, _, _, _, rfl, _⟩; rfl) | (rcases h with ⟨_, _, _, _, _, _, rfl, _⟩; rfl) | (rcases h with ⟨_, _, _, _, _, _, _, rfl, _⟩; rfl) | (rcases h with ⟨_, _, _, _, _, _, _, _, rfl, _⟩; rfl) | (rcases h with ⟨_, _, _, _, _, _, _, _, _, rfl, _⟩; rfl) | (rcases h with ⟨_, _, _, _, _, _, _, _, _, _, rfl, _⟩; rfl) | (rcases h with ⟨_, _, _, _, _, _, _, _, _, _, _, rfl, _⟩; rfl) | (rcases h with ⟨_, _, _, _, _, _, _, _, _, _, _, _, rfl, _⟩; rfl) | (rcases h with ⟨_, _, _, _, _, _, _, _, _, _, _, _, _, rfl, _⟩; rfl)
theorem len_bounds_at (K : Ky) (vs : List V) (H : Hp) (Q : VK) (E : XK) (h : sp_bounds_at K vs H Q E) : vs.length = 2 := by first | (rcases h with ⟨_, rfl, _⟩; rfl) | (rcases h with ⟨_, _, rfl, _⟩; rfl) | (rcases h with ⟨_, _, _, rfl, _⟩; rfl) | (rcases h with ⟨_, _, _, _, rfl, _⟩; rfl) | (rcases h with ⟨_, _, _, _, _, rfl, _⟩; rfl) | (rcases h with ⟨_, _, _, _, _, _, rfl, _⟩; rfl) | (rcases h with ⟨_, _, _, _, _, _, _, rfl, _⟩; rfl) | (rcases h with ⟨_, _, _, _, _, _, _, _, rfl, _⟩; rfl) | (rcases h with ⟨_, _, _, _, _, _, _, _, _, rfl, _⟩; rfl) | (rcases h with ⟨_, _, _, _, _, _, _, _, _, _, rfl, _⟩; rfl) | (rcases h with ⟨_, _, _, _, _, _, _, _, _, _, _, rfl, _⟩; rfl) | (rcases h with ⟨_, _, _, _, _, _, _, _, _, _, _, _, rfl, _⟩; rfl) | (rcases h with ⟨_, _, _, _, _, _, _, _, _, _, _, _, _, rfl, _⟩; rfl)
theorem len_value_at (K : Ky) (vs : List V) (H : Hp) (Q : VK) (E : XK) (h : sp_value_at K vs H Q E) : vs.length = 2 := by first | (rcases h with ⟨_, rfl, _⟩; rfl) | (rcases h with ⟨_, _, rfl, _⟩; rfl) | (rcases h with ⟨_, _, _, rfl, _⟩; rfl) | (rcases h with ⟨_, _, _, _, rfl, _⟩; rfl) | (rcases h with ⟨_, _, _, _, _, rfl, _⟩; rfl) | (rcases h with ⟨_, _, _, _, _, _, rfl, _⟩; rfl) | (rcases h with ⟨_, _, _, _, _, _, _, rfl, _⟩; rfl) | (rcases h with ⟨_, _, _, _, _, _, _, _, rfl, _⟩; rfl) | (rcases h with ⟨_, _, _, _, _, _, _, _, _, rfl, _⟩; rfl) | (rcases h with ⟨_, _, _, _, _, _, _, _, _, _, rfl, _⟩; rfl) | (rcases h with ⟨_, _, _, _, _, _, _, _, _, _, _, rfl, _⟩; rfl) | (rcases h with ⟨_, _, _, _, _, _, _, _, _, _, _, _, rfl, _⟩; rfl) | (rcases h with ⟨_, _, _, _, _, _, _, _, _, _, _, _, _, rfl, _⟩; rfl)
theorem len_Node___init__ (K : Ky) (vs : List V) (H : Hp) (Q : VK) (E : XK) (h : sp_Node___init__ K vs H Q E) : vs.length = 5 := by first | (rcases h with ⟨_, rfl, _⟩; rfl) | (rcases h with ⟨_, _, rfl, _⟩; rfl) | (rcases h with ⟨_, _, _, rfl, _⟩; rfl) | (rcases h with ⟨_, _, _, _, rfl, _⟩; rfl) | (rcases h with ⟨_, _, _, _, _, rfl, _⟩; rfl) | (rcases h with ⟨_, _, _, _, _, _, rfl, _⟩; rfl) | (rcases h with ⟨_, _, _, _, _, _, _, rfl, _⟩; rfl) | (rcases h with ⟨_, _, _, _, _, _, _, _, rfl, _⟩; rfl) | (rcases h with ⟨_, _, _, _, _, _, _, _, _, rfl, _⟩; rfl) | (rcases h with ⟨_, _, _, _, _, _, _, _, _, _, rfl, _⟩; rfl) | (rcases h with ⟨_, _, _, _, _, _, _, _, _, _, _, rfl, _⟩; rfl) | (rcases h with ⟨_, _, _, _, _, _, _, _, _, _, _, _, rfl, _⟩; rfl) | (rcases h with ⟨_, _, _, _, _, _, _, _, _, _, _, _, _, rfl, _⟩; rfl)
theorem len_all_but (K : Ky) (vs : List V) (H : Hp) (Q : VK) (E : XK) (h : sp_all_but K vs H Q E) : vs.length = 1 := by first | (rcases h with ⟨_, rfl, _⟩; rfl) | (rcases h with ⟨_, _, rfl, _⟩; rfl) | (rcases h with ⟨_, _, _, rfl, _⟩; rfl) | (rcases h with ⟨_, _, _, _, rfl, _⟩; rfl) | (rcases h with ⟨_, _, _, _, _, rfl, _⟩; rfl) | (rcases h with ⟨_, _, _, _, _, _, rfl, _⟩; rfl) | (rcases h with ⟨_, _, _, _, _, _, _, rfl, _⟩; rfl) | (rcases h with ⟨_, _, _, _, _, _, _, _, rfl, _⟩; rfl) | (rcases h with ⟨_, _, _, _, _, _, _, _, _, rfl, _⟩; rfl) | (rcases h with ⟨_, _, _, _, _, _, _, _, _, _, rfl, _⟩; rfl) | (rcases h with ⟨_, _, _, _, _, _, _, _, _, _, _, rfl, _⟩; rfl) | (rcases h with ⟨_, _, _, _, _, _, _, _, _, _, _, _, rfl, _⟩; rfl) | (rcases h with ⟨_, _, _, _, _, _, _, _, _, _, _, _, _, rfl, _⟩; rfl)
theorem len_Builder___init__ (K : Ky) (vs : List V) (H : Hp) (Q : VK) (E : XK) (h : sp_Builder___init__ K vs H Q E) : vs.length = 1 := by first | (rcases h with ⟨_, rfl, _⟩; rfl) | (rcases h with ⟨_, _, rfl, _⟩; rfl) | (rcases h with ⟨_, _, _, rfl, _⟩; rfl) | (rcases h with ⟨_, _, _, _, rfl, _⟩; rfl) | (rcases h with ⟨_, _, _, _, _, rfl, _⟩; rfl) | (rcases h with ⟨_, _, _, _, _, _, rfl, _⟩; rfl) | (rcases h with ⟨_, _, _, _, _, _, _, rfl, _⟩; rfl) | (rcases h with ⟨_, _, _, _, _, _, _, _, rfl, _⟩; rfl) | (rcases h with ⟨_, _, _, _, _, _, _, _, _, rfl, _⟩; rfl) | (rcases h with ⟨_, _, _, _, _, _, _, _, _, _, rfl, _⟩; rfl) | (rcases h with ⟨_, _, _, _, _, _, _, _, _, _, _, rfl, _⟩; rfl) | (rcases h with ⟨_, _, _, _, _, _, _, _, _, _, _, _, rfl, _⟩; rfl) | (rcases h with ⟨_, _, _, _, _, _, _, _, _, _, _, _, _, rfl, _⟩; rfl)
theorem len_Builder_added (K : Ky) (vs : List V) (H : Hp) (Q : VK) (E : XK) (h : sp_Builder_added K vs H Q E) : vs.length = 3 := by first | (rcases h with ⟨_, rfl, _⟩; rfl) | (rcases h with ⟨_, _, rfl, _⟩; rfl) | (rcases h with ⟨_, _, _, rfl, _⟩; rfl) | (rcases h with ⟨_, _, _, _, rfl, _⟩; rfl) | (rcases h with ⟨_, _, _, _, _, rfl, _⟩; rfl) | (rcases h with ⟨_, _, _, _, _, _, rfl, _⟩; rfl) | (rcases h with ⟨_, _, _, _, _, _, _, rfl, _⟩; rfl) | (rcases h with ⟨_, _, _, _, _, _, _, _, rfl, _⟩; rfl) | (rcases h with ⟨_, _, _, _, _, _, _, _, _, rfl, _⟩; rfl) | (rcases h with ⟨_, _, _, _, _, _, _, _, _, _, rfl, _⟩; rfl) | (rcases h with ⟨_, _, _, _, _, _, _, _, _, _, _, rfl, _⟩; rfl) | (rcases h with ⟨_, _, _, _, _, _, _, _, _, _, _, _, rfl, _⟩; rfl) | (rcases h with ⟨_, _, _, _, _, _, _, _, _, _, _, _, _, rfl, _⟩; rfl)
theorem len_Builder_test (K : Ky) (vs : List V) (H : Hp) (Q : VK) (E : XK) (h : sp_Builder_test K vs H Q E) : vs.length = 3 := by first | (rcases h with ⟨_, rfl, _⟩; rfl) | (rcases h with ⟨_, _, rfl, _⟩; rfl) | (rcases h with ⟨_, _, _, rfl, _⟩; rfl) | (rcases h with ⟨_, _, _, _, rfl, _⟩; rfl) | (rcases h with ⟨_, _, _, _, _, rfl, _⟩; rfl) | (rcases h with ⟨_, _, _, _, _, _, rfl, _⟩; rfl) | (rcases h with ⟨_, _, _, _, _, _, _, rfl, _⟩; rfl) | (rcases h with ⟨_, _, _, _, _, _, _, _, rfl, _⟩; rfl) | (rcases h with ⟨_, _, _, _, _, _, _, _, _, rfl, _⟩; rfl) | (rcases h with ⟨_, _, _, _, _, _, _, _, _, _, rfl, _⟩; rfl) | (rcases h with ⟨_, _, _, _, _, _, _, _, _, _, _, rfl, _⟩; rfl) | (rcases h with ⟨_, _, _, _, _, _, _, _, _, _, _, _, rfl, _⟩; rfl) | (rcases h with ⟨_, _, _, _, _, _, _, _, _, _, _, _, _, rfl, _⟩; rfl)
theorem len_Builder_sign (K : Ky) (vs : List V) (H : Hp) (Q : VK) (E : XK) (h : sp_Builder_sign K vs H Q E) : vs.length = 2 := by first | (rcases h with ⟨_, rfl, _⟩; rfl) | (rcases h with ⟨_, _, rfl, _⟩; rfl) | (rcases h with ⟨_, _, _, rfl, _⟩; rfl) | (rcases h with ⟨_, _, _, _, rfl, _⟩; rfl) | (rcases h with ⟨_, _, _, _, _, rfl, _⟩; rfl) | (rcases h with ⟨_, _, _, _, _, _, rfl, _⟩; rfl) | (rcases h with ⟨_, _, _, _, _, _, _, rfl, _⟩; rfl) | (rcases h with ⟨_, _, _, _, _, _, _, _, rfl, _⟩; rfl) | (rcases h with ⟨_, _, _, _, _, _, _, _, _, rfl, _⟩; rfl) | (rcases h with ⟨_, _, _, _, _, _, _, _, _, _, rfl, _⟩; rfl) | (rcases h with ⟨_, _, _, _, _, _, _, _, _, _, _, rfl, _⟩; rfl) | (rcases h with ⟨_, _, _, _, _, _, _, _, _, _, _, _, rfl, _⟩; rfl) | (rcases h with ⟨_, _, _, _, _, _, _, _, _, _, _, _, _, rfl, _⟩; rfl)
theorem len_Builder_empty (K : Ky) (vs : List V) (H : Hp) (Q : VK) (E : XK) (h : sp_Builder_empty K vs H Q E) : vs.length = 1 := by first | (rcases h with ⟨_, rfl, _⟩; rfl) | (rcases h with ⟨_, _, rfl, _⟩; rfl) | (rcases h with ⟨_, _, _, rfl, _⟩; rfl) | (rcases h with ⟨_, _, _, _, rfl, _⟩; rfl) | (rcases h with ⟨_, _, _, _, _, rfl, _⟩; rfl) | (rcases h with ⟨_, _, _, _, _, _, rfl, _⟩; rfl) | (rcases h with ⟨_, _, _, _, _, _, _, rfl, _⟩; rfl) | (rcases h with ⟨_, _, _, _, _, _, _, _, rfl, _⟩; rfl) | (rcases h with ⟨_, _, _, _, _, _, _, _, _, rfl, _⟩; rfl) | (rcases h with ⟨_, _, _, _, _, _, _, _, _, _, rfl, _⟩; rfl) | (rcases h with ⟨_, _, _, _, _, _, _, _, _, _, _, rfl, _⟩; rfl) | (rcases h with ⟨_, _, _, _, _, _, _, _, _, _, _, _, rfl, _⟩; rfl) | (rcases h with ⟨_, _, _, _, _, _, _, _, _, _, _, _, _, rfl, _⟩; rfl)
theorem len_Builder_row (K : Ky) (vs : List V) (H : Hp) (Q : VK) (E : XK) (h : sp_Builder_row K vs H Q E) : vs.length = 2 := by first | (rcases h with ⟨_, rfl, _⟩; rfl) | (rcases h with ⟨_, _, rfl, _⟩; rfl) | (rcases h with ⟨_, _, _, rfl, _⟩; rfl) | (rcases h with ⟨_, _, _, _, rfl, _⟩; rfl) | (rcases h with ⟨_, _, _, _, _, rfl, _⟩; rfl) | (rcases h with ⟨_, _, _, _, _, _, rfl, _⟩; rfl) | (rcases h with ⟨_, _, _, _, _, _, _, rfl, _⟩; rfl) | (rcases h with ⟨_, _, _, _, _, _, _, _, rfl, _⟩; rfl) | (rcases h with ⟨_, _, _, _, _, _, _, _, _, rfl, _⟩; rfl) | (rcases h with ⟨_, _, _, _, _, _, _, _, _, _, rfl, _⟩; rfl) | (rcases h with ⟨_, _, _, _, _, _, _, _, _, _, _, rfl, _⟩; rfl) | (rcases h with ⟨_, _, _, _, _, _, _, _, _, _, _, _, rfl, _⟩; rfl) | (rcases h with ⟨_, _, _, _, _, _, _, _, _, _, _, _, _, rfl, _⟩; rfl)
theorem len_Builder_one_of (K : Ky) (vs : List V) (H : Hp) (Q : VK) (E : XK) (h : sp_Builder_one_of K vs H Q E) : vs.length = 2 := by first | (rcases h with ⟨_, rfl, _⟩; rfl) | (rcases h with ⟨_, _, rfl, _⟩; rfl) | (rcases h with ⟨_, _, _, rfl, _⟩; rfl) | (rcases h with ⟨_, _, _, _, rfl, _⟩; rfl) | (rcases h with ⟨_, _, _, _, _, rfl, _⟩; rfl) | (rcases h with ⟨_, _, _, _, _, _, rfl, _⟩; rfl) | (rcases h with ⟨_, _, _, _, _, _, _, rfl, _⟩; rfl) | (rcases h with ⟨_, _, _, _, _, _, _, _, rfl, _⟩; rfl) | (rcases h with ⟨_, _, _, _, _, _, _, _, _, rfl, _⟩; rfl) | (rcases h with ⟨_, _, _, _, _, _, _, _, _, _, rfl, _⟩; rfl) | (rcases h with ⟨_, _, _, _, _, _, _, _, _, _, _, rfl, _⟩; rfl) | (rcases h with ⟨_, _, _, _, _, _, _, _, _, _, _, _, rfl, _⟩; rfl) | (rcases h with ⟨_, _, _, _, _, _, _, _, _, _, _, _, _, rfl, _⟩; rfl)
theorem len_Builder_named (K : Ky) (vs : List V) (H : Hp) (Q : VK) (E : XK) (h : sp_Builder_named K vs H Q E) : vs.length = 3 := by first | (rcases h with ⟨_, rfl, _⟩; rfl) | (rcases h with ⟨_, _, rfl, _⟩; rfl) | (rcases h with ⟨_, _, _, rfl, _⟩; rfl) | (rcases h with ⟨_, _, _, _, rfl, _⟩; rfl) | (rcases h with ⟨_, _, _, _, _, rfl, _⟩; rfl) | (rcases h with ⟨_, _, _, _, _, _, rfl, _⟩; rfl) | (rcases h with ⟨_, _, _, _, _, _, _, rfl, _⟩; rfl) | (rcases h with ⟨_, _, _, _, _, _, _, _, rfl, _⟩; rfl) | (rcases h with ⟨_, _, _, _, _, _, _, _, _, rfl, _⟩; rfl) | (rcases h with ⟨_, _, _, _, _, _, _, _, _, _, rfl, _⟩; rfl) | (rcases h with ⟨_, _, _, _, _, _, _, _, _, _, _, rfl, _⟩; rfl) | (rcases h with ⟨_, _, _, _, _, _, _, _, _, _, _, _, rfl, _⟩; rfl) | (rcases h with ⟨_, _, _, _, _, _, _, _, _, _, _, _, _, rfl, _⟩; rfl)
theorem len_Builder_endless (K : Ky) (vs : List V) (H : Hp) (Q : VK) (E : XK) (h : sp_Builder_endless K vs H Q E) : vs.length = 3 := by first | (rcases h with ⟨_, rfl, _⟩; rfl) | (rcases h with ⟨_, _, rfl, _⟩; rfl) | (rcases h with ⟨_, _, _, rfl, _⟩; rfl) | (rcases h with ⟨_, _, _, _, rfl, _⟩; rfl) | (rcases h with ⟨_, _, _, _, _, rfl, _⟩; rfl) | (rcases h with ⟨_, _, _, _, _, _, rfl, _⟩; rfl) | (rcases h with ⟨_, _, _, _, _, _, _, rfl, _⟩; rfl) | (rcases h with ⟨_, _, _, _, _, _, _, _, rfl, _⟩; rfl) | (rcases h with ⟨_, _, _, _, _, _, _, _, _, rfl, _⟩; rfl) | (rcases h with ⟨_, _, _, _, _, _, _, _, _, _, rfl, _⟩; rfl) | (rcases h with ⟨_, _, _, _, _, _, _, _, _, _, _, rfl, _⟩; rfl) | (rcases h with ⟨_, _, _, _, _, _, _, _, _, _, _, _, rfl, _⟩; rfl) | (rcases h with ⟨_, _, _, _, _, _, _, _, _, _, _, _, _, rfl, _⟩; rfl)
theorem len_Builder_often (K : Ky) (vs : List V) (H : Hp) (Q : VK) (E : XK) (h : sp_Builder_often K vs H Q E) : vs.length = 4 := by first | (rcases h with ⟨_, rfl, _⟩; rfl) | (rcases h with ⟨_, _, rfl, _⟩; rfl) | (rcases h with ⟨_, _, _, rfl, _⟩; rfl) | (rcases h with ⟨_, _, _, _, rfl, _⟩; rfl) | (rcases h with ⟨_, _, _, _, _, rfl, _⟩; rfl) | (rcases h with ⟨_, _, _, _, _, _, rfl, _⟩; rfl) | (rcases h with ⟨_, _, _, _, _, _, _, rfl, _⟩; rfl) | (rcases h with ⟨_, _, _, _, _, _, _, _, rfl, _⟩; rfl) | (rcases h with ⟨_, _, _, _, _, _, _, _, _, rfl, _⟩; rfl) | (rcases h with ⟨_, _, _, _, _, _, _, _, _, _, rfl, _⟩; rfl) | (rcases h with ⟨_, _, _, _, _, _, _, _, _, _, _, rfl, _⟩; rfl) | (rcases h with ⟨_, _, _, _, _, _, _, _, _, _, _, _, rfl, _⟩; rfl) | (rcases h with ⟨_, _, _, _, _, _, _, _, _, _, _, _, _, rfl, _⟩; rfl)
theorem len_class_bounds (K : Ky) (vs : List V) (H : Hp) (Q : VK) (E : XK) (h : sp_class_bounds K vs H Q E) : vs.length = 1 := by first | (rcases h with ⟨_, rfl, _⟩; rfl) | (rcases h with ⟨_, _, rfl, _⟩; rfl) | (rcases h with ⟨_, _, _, rfl, _⟩; rfl) | (rcases h with ⟨_, _, _, _, rfl, _⟩; rfl) | (rcases h with ⟨_, _, _, _, _, rfl, _⟩; rfl) | (rcases h with ⟨_, _, _, _, _, _, rfl, _⟩; rfl) | (rcases h with ⟨_, _, _, _, _, _, _, rfl, _⟩; rfl) | (rcases h with ⟨_, _, _, _, _, _, _, _, rfl, _⟩; rfl) | (rcases h with ⟨_, _, _, _, _, _, _, _, _, rfl, _⟩; rfl) | (rcases h with ⟨_, _, _, _, _, _, _, _, _, _, rfl, _⟩; rfl) | (rcases h with ⟨_, _, _, _, _, _, _, _, _, _, _, rfl, _⟩; rfl) | (rcases h with ⟨_, _, _, _, _, _, _, _, _, _, _, _, rfl, _⟩; rfl) | (rcases h with ⟨_, _, _, _, _, _, _, _, _, _, _, _, _, rfl, _⟩; rfl)
theorem len_is_figure (K : Ky) (vs : List V) (H : Hp) (Q : VK) (E : XK) (h : sp_is_figure K vs H Q E) : vs.length = 1 := by first | (rcases h with ⟨_, rfl, _⟩; rfl) | (rcases h with ⟨_, _, rfl, _⟩; rfl) | (rcases h with ⟨_, _, _, rfl, _⟩; rfl) | (rcases h with ⟨_, _, _, _, rfl, _⟩; rfl) | (rcases h with ⟨_, _, _, _, _, rfl, _⟩; rfl) | (rcases h with ⟨_, _, _, _, _, _, rfl, _⟩; rfl) | (rcases h with ⟨_, _, _, _, _, _, _, rfl, _⟩; rfl) | (rcases h with ⟨_, _, _, _, _, _, _, _, rfl, _⟩; rfl) | (rcases h with ⟨_, _, _, _, _, _, _, _, _, rfl, _⟩; rfl) | (rcases h with ⟨_, _, _, _, _, _, _, _, _, _, rfl, _⟩; rfl) | (rcases h with ⟨_, _, _, _, _, _, _, _, _, _, _, rfl, _⟩; rfl) | (rcases h with ⟨_, _, _, _, _, _, _, _, _, _, _, _, rfl, _⟩; rfl) | (rcases h with ⟨_, _, _, _, _, _, _, _, _, _, _, _, _, rfl, _⟩; rfl)
theorem len_is_small (K : Ky) (vs : List V) (H : Hp) (Q : VK) (E : XK) (h : sp_is_small K vs H Q E) : vs.length = 1 := by first | (rcases h with ⟨_, rfl, _⟩; rfl) | (rcases h with ⟨_, _, rfl, _⟩; rfl) | (rcases h with ⟨_, _, _, rfl, _⟩; rfl) | (rcases h with ⟨_, _, _, _, rfl, _⟩; rfl) | (rcases h with ⟨_, _, _, _, _, rfl, _⟩; rfl) | (rcases h with ⟨_, _, _, _, _, _, rfl, _⟩; rfl) | (rcases h with ⟨_, _, _, _, _, _, _, rfl, _⟩; rfl) | (rcases h with ⟨_, _, _, _, _, _, _, _, rfl, _⟩; rfl) | (rcases h with ⟨_, _, _, _, _, _, _, _, _, rfl, _⟩; rfl) | (rcases h with ⟨_, _, _, _, _, _, _, _, _, _, rfl, _⟩; rfl) | (rcases h with ⟨_, _, _, _, _, _, _, _, _, _, _, rfl, _⟩; rfl) | (rcases h with ⟨_, _, _, _, _, _, _, _, _, _, _, _, rfl, _⟩; rfl) | (rcases h with ⟨_, _, _, _, _, _, _, _, _, _, _, _, _, rfl, _⟩; rfl)
theorem len_is_in_name (K : Ky) (vs : List V) (H : Hp) (Q : VK) (E : XK) (h : sp_is_in_name K vs H Q E) : vs.length = 1 := by first | (rcases h with ⟨_, rfl, _⟩; rfl) | (rcases h with ⟨_, _, rfl, _⟩; rfl) | (rcases h with ⟨_, _, _, rfl, _⟩; rfl) | (rcases h with ⟨_, _, _, _, rfl, _⟩; rfl) | (rcases h with ⟨_, _, _, _, _, rfl, _⟩; rfl) | (rcases h with ⟨_, _, _, _, _, _, rfl, _⟩; rfl) | (rcases h with ⟨_, _, _, _, _, _, _, rfl, _⟩; rfl) | (rcases h with ⟨_, _, _, _, _, _, _, _, rfl, _⟩; rfl) | (rcases h with ⟨_, _, _, _, _, _, _, _, _, rfl, _⟩; rfl) | (rcases h with ⟨_, _, _, _, _, _, _, _, _, _, rfl, _⟩; rfl) | (rcases h with ⟨_, _, _, _, _, _, _, _, _, _, _, rfl, _⟩; rfl) | (rcases h with ⟨_, _, _, _, _, _, _, _, _, _, _, _, rfl, _⟩; rfl) | (rcases h with ⟨_, _, _, _, _, _, _, _, _, _, _, _, _, rfl, _⟩; rfl)
theorem len_Level___init__ (K : Ky) (vs : List V) (H : Hp) (Q : VK) (E : XK) (h : sp_Level___init__ K vs H Q E) : vs.length = 3 := by first | (rcases h with ⟨_, rfl, _⟩; rfl) | (rcases h with ⟨_, _, rfl, _⟩; rfl) | (rcases h with ⟨_, _, _, rfl, _⟩; rfl) | (rcases h with ⟨_, _, _, _, rfl, _⟩; rfl) | (rcases h with ⟨_, _, _, _, _, rfl, _⟩; rfl) | (rcases h with ⟨_, _, _, _, _, _, rfl, _⟩; rfl) | (rcases h with ⟨_, _, _, _, _, _, _, rfl, _⟩; rfl) | (rcases h with ⟨_, _, _, _, _, _, _, _, rfl, _⟩; rfl) | (rcases h with ⟨_, _, _, _, _, _, _, _, _, rfl, _⟩; rfl) | (rcases h with ⟨_, _, _, _, _, _, _, _, _, _, rfl, _⟩; rfl) | (rcases h with ⟨_, _, _, _, _, _, _, _, _, _, _, rfl, _⟩; rfl) | (rcases h with ⟨_, _, _, _, _, _, _, _, _, _, _, _, rfl, _⟩; rfl) | (rcases h with ⟨_, _, _, _, _, _, _, _, _, _, _, _, _, rfl, _⟩; rfl)
theorem len_PatternReader___init__ (K : Ky) (vs : List V) (H : Hp) (Q : VK) (E : XK) (h : sp_PatternReader___init__ K vs H Q E) : vs.length = 2 := by first | (rcases h with ⟨_, rfl, _⟩; rfl) | (rcases h with ⟨_, _, rfl, _⟩; rfl) | (rcases h with ⟨_, _, _, rfl, _⟩; rfl) | (rcases h with ⟨_, _, _, _, rfl, _⟩; rfl) | (rcases h with ⟨_, _, _, _, _, rfl, _⟩; rfl) | (rcases h with ⟨_, _, _, _, _, _, rfl, _⟩; rfl) | (rcases h with ⟨_, _, _, _, _, _, _, rfl, _⟩; rfl) | (rcases h with ⟨_, _, _, _, _, _, _, _, rfl, _⟩; rfl) | (rcases h with ⟨_, _, _, _, _, _, _, _, _, rfl, _⟩; rfl) | (rcases h with ⟨_, _, _, _, _, _, _, _, _, _, rfl, _⟩; rfl) | (rcases h with ⟨_, _, _, _, _, _, _, _, _, _, _, rfl, _⟩; rfl) | (rcases h with ⟨_, _, _, _, _, _, _, _, _, _, _, _, rfl, _⟩; rfl) | (rcases h with ⟨_, _, _, _, _, _, _, _, _, _, _, _, _, rfl, _⟩; rfl)
theorem len_PatternReader_byte (K : Ky) (vs : List V) (H : Hp) (Q : VK) (E : XK) (h : sp_PatternReader_byte K vs H Q E) : vs.length = 1 := by first | (rcases h with ⟨_, rfl, _⟩; rfl) | (rcases h with ⟨_, _, rfl, _⟩; rfl) | (rcases h with ⟨_, _, _, rfl, _⟩; rfl) | (rcases h with ⟨_, _, _, _, rfl, _⟩; rfl) | (rcases h with ⟨_, _, _, _, _, rfl, _⟩; rfl) | (rcases h with ⟨_, _, _, _, _, _, rfl, _⟩; rfl) | (rcases h with ⟨_, _, _, _, _, _, _, rfl, _⟩; rfl) | (rcases h with ⟨_, _, _, _, _, _, _, _, rfl, _⟩; rfl) | (rcases h with ⟨_, _, _, _, _, _, _, _, _, rfl, _⟩; rfl) | (rcases h with ⟨_, _, _, _, _, _, _, _, _, _, rfl, _⟩; rfl) | (rcases h with ⟨_, _, _, _, _, _, _, _, _, _, _, rfl, _⟩; rfl) | (rcases h with ⟨_, _, _, _, _, _, _, _, _, _, _, _, rfl, _⟩; rfl) | (rcases h with ⟨_, _, _, _, _, _, _, _, _, _, _, _, _, rfl, _⟩; rfl)
theorem len_PatternReader_bar_from (K : Ky) (vs : List V) (H : Hp) (Q : VK) (E : XK) (h : sp_PatternReader_bar_from K vs H Q E) : vs.length = 2 := by first | (rcases h with ⟨_, rfl, _⟩; rfl) | (rcases h with ⟨_, _, rfl, _⟩; rfl) | (rcases h with ⟨_, _, _, rfl, _⟩; rfl) | (rcases h with ⟨_, _, _, _, rfl, _⟩; rfl) | (rcases h with ⟨_, _, _, _, _, rfl, _⟩; rfl) | (rcases h with ⟨_, _, _, _, _, _, rfl, _⟩; rfl) | (rcases h with ⟨_, _, _, _, _, _, _, rfl, _⟩; rfl) | (rcases h with ⟨_, _, _, _, _, _, _, _, rfl, _⟩; rfl) | (rcases h with ⟨_, _, _, _, _, _, _, _, _, rfl, _⟩; rfl) | (rcases h with ⟨_, _, _, _, _, _, _, _, _, _, rfl, _⟩; rfl) | (rcases h with ⟨_, _, _, _, _, _, _, _, _, _, _, rfl, _⟩; rfl) | (rcases h with ⟨_, _, _, _, _, _, _, _, _, _, _, _, rfl, _⟩; rfl) | (rcases h with ⟨_, _, _, _, _, _, _, _, _, _, _, _, _, rfl, _⟩; rfl)
theorem len_PatternReader_level (K : Ky) (vs : List V) (H : Hp) (Q : VK) (E : XK) (h : sp_PatternReader_level K vs H Q E) : vs.length = 1 := by first | (rcases h with ⟨_, rfl, _⟩; rfl) | (rcases h with ⟨_, _, rfl, _⟩; rfl) | (rcases h with ⟨_, _, _, rfl, _⟩; rfl) | (rcases h with ⟨_, _, _, _, rfl, _⟩; rfl) | (rcases h with ⟨_, _, _, _, _, rfl, _⟩; rfl) | (rcases h with ⟨_, _, _, _, _, _, rfl, _⟩; rfl) | (rcases h with ⟨_, _, _, _, _, _, _, rfl, _⟩; rfl) | (rcases h with ⟨_, _, _, _, _, _, _, _, rfl, _⟩; rfl) | (rcases h with ⟨_, _, _, _, _, _, _, _, _, rfl, _⟩; rfl) | (rcases h with ⟨_, _, _, _, _, _, _, _, _, _, rfl, _⟩; rfl) | (rcases h with ⟨_, _, _, _, _, _, _, _, _, _, _, rfl, _⟩; rfl) | (rcases h with ⟨_, _, _, _, _, _, _, _, _, _, _, _, rfl, _⟩; rfl) | (rcases h with ⟨_, _, _, _, _, _, _, _, _, _, _, _, _, rfl, _⟩; rfl)
theorem len_PatternReader_add (K : Ky) (vs : List V) (H : Hp) (Q : VK) (E : XK) (h : sp_PatternReader_add K vs H Q E) : vs.length = 2 := by first | (rcases h with ⟨_, rfl, _⟩; rfl) | (rcases h with ⟨_, _, rfl, _⟩; rfl) | (rcases h with ⟨_, _, _, rfl, _⟩; rfl) | (rcases h with ⟨_, _, _, _, rfl, _⟩; rfl) | (rcases h with ⟨_, _, _, _, _, rfl, _⟩; rfl) | (rcases h with ⟨_, _, _, _, _, _, rfl, _⟩; rfl) | (rcases h with ⟨_, _, _, _, _, _, _, rfl, _⟩; rfl) | (rcases h with ⟨_, _, _, _, _, _, _, _, rfl, _⟩; rfl) | (rcases h with ⟨_, _, _, _, _, _, _, _, _, rfl, _⟩; rfl) | (rcases h with ⟨_, _, _, _, _, _, _, _, _, _, rfl, _⟩; rfl) | (rcases h with ⟨_, _, _, _, _, _, _, _, _, _, _, rfl, _⟩; rfl) | (rcases h with ⟨_, _, _, _, _, _, _, _, _, _, _, _, rfl, _⟩; rfl) | (rcases h with ⟨_, _, _, _, _, _, _, _, _, _, _, _, _, rfl, _⟩; rfl)
theorem len_PatternReader_end_row (K : Ky) (vs : List V) (H : Hp) (Q : VK) (E : XK) (h : sp_PatternReader_end_row K vs H Q E) : vs.length = 1 := by first | (rcases h with ⟨_, rfl, _⟩; rfl) | (rcases h with ⟨_, _, rfl, _⟩; rfl) | (rcases h with ⟨_, _, _, rfl, _⟩; rfl) | (rcases h with ⟨_, _, _, _, rfl, _⟩; rfl) | (rcases h with ⟨_, _, _, _, _, rfl, _⟩; rfl) | (rcases h with ⟨_, _, _, _, _, _, rfl, _⟩; rfl) | (rcases h with ⟨_, _, _, _, _, _, _, rfl, _⟩; rfl) | (rcases h with ⟨_, _, _, _, _, _, _, _, rfl, _⟩; rfl) | (rcases h with ⟨_, _, _, _, _, _, _, _, _, rfl, _⟩; rfl) | (rcases h with ⟨_, _, _, _, _, _, _, _, _, _, rfl, _⟩; rfl) | (rcases h with ⟨_, _, _, _, _, _, _, _, _, _, _, rfl, _⟩; rfl) | (rcases h with ⟨_, _, _, _, _, _, _, _, _, _, _, _, rfl, _⟩; rfl) | (rcases h with ⟨_, _, _, _, _, _, _, _, _, _, _, _, _, rfl, _⟩; rfl)
theorem len_PatternReader_close (K : Ky) (vs : List V) (H : Hp) (Q : VK) (E : XK) (h : sp_PatternReader_close K vs H Q E) : vs.length = 2 := by first | (rcases h with ⟨_, rfl, _⟩; rfl) | (rcases h with ⟨_, _, rfl, _⟩; rfl) | (rcases h with ⟨_, _, _, rfl, _⟩; rfl) | (rcases h with ⟨_, _, _, _, rfl, _⟩; rfl) | (rcases h with ⟨_, _, _, _, _, rfl, _⟩; rfl) | (rcases h with ⟨_, _, _, _, _, _, rfl, _⟩; rfl) | (rcases h with ⟨_, _, _, _, _, _, _, rfl, _⟩; rfl) | (rcases h with ⟨_, _, _, _, _, _, _, _, rfl, _⟩; rfl) | (rcases h with ⟨_, _, _, _, _, _, _, _, _, rfl, _⟩; rfl) | (rcases h with ⟨_, _, _, _, _, _, _, _, _, _, rfl, _⟩; rfl) | (rcases h with ⟨_, _, _, _, _, _, _, _, _, _, _, rfl, _⟩; rfl) | (rcases h with ⟨_, _, _, _, _, _, _, _, _, _, _, _, rfl, _⟩; rfl) | (rcases h with ⟨_, _, _, _, _, _, _, _, _, _, _, _, _, rfl, _⟩; rfl)
theorem len_PatternReader_is_new_name (K : Ky) (vs : List V) (H : Hp) (Q : VK) (E : XK) (h : sp_PatternReader_is_new_name K vs H Q E) : vs.length = 2 := by first | (rcases h with ⟨_, rfl, _⟩; rfl) | (rcases h with ⟨_, _, rfl, _⟩; rfl) | (rcases h with ⟨_, _, _, rfl, _⟩; rfl) | (rcases h with ⟨_, _, _, _, rfl, _⟩; rfl) | (rcases h with ⟨_, _, _, _, _, rfl, _⟩; rfl) | (rcases h with ⟨_, _, _, _, _, _, rfl, _⟩; rfl) | (rcases h with ⟨_, _, _, _, _, _, _, rfl, _⟩; rfl) | (rcases h with ⟨_, _, _, _, _, _, _, _, rfl, _⟩; rfl) | (rcases h with ⟨_, _, _, _, _, _, _, _, _, rfl, _⟩; rfl) | (rcases h with ⟨_, _, _, _, _, _, _, _, _, _, rfl, _⟩; rfl) | (rcases h with ⟨_, _, _, _, _, _, _, _, _, _, _, rfl, _⟩; rfl) | (rcases h with ⟨_, _, _, _, _, _, _, _, _, _, _, _, rfl, _⟩; rfl) | (rcases h with ⟨_, _, _, _, _, _, _, _, _, _, _, _, _, rfl, _⟩; rfl)
theorem len_PatternReader_take_name (K : Ky) (vs : List V) (H : Hp) (Q : VK) (E : XK) (h : sp_PatternReader_take_name K vs H Q E) : vs.length = 1 := by first | (rcases h with ⟨_, rfl, _⟩; rfl) | (rcases h with ⟨_, _, rfl, _⟩; rfl) | (rcases h with ⟨_, _, _, rfl, _⟩; rfl) | (rcases h with ⟨_, _, _, _, rfl, _⟩; rfl) | (rcases h with ⟨_, _, _, _, _, rfl, _⟩; rfl) | (rcases h with ⟨_, _, _, _, _, _, rfl, _⟩; rfl) | (rcases h with ⟨_, _, _, _, _, _, _, rfl, _⟩; rfl) | (rcases h with ⟨_, _, _, _, _, _, _, _, rfl, _⟩; rfl) | (rcases h with ⟨_, _, _, _, _, _, _, _, _, rfl, _⟩; rfl) | (rcases h with ⟨_, _, _, _, _, _, _, _, _, _, rfl, _⟩; rfl) | (rcases h with ⟨_, _, _, _, _, _, _, _, _, _, _, rfl, _⟩; rfl) | (rcases h with ⟨_, _, _, _, _, _, _, _, _, _, _, _, rfl, _⟩; rfl) | (rcases h with ⟨_, _, _, _, _, _, _, _, _, _, _, _, _, rfl, _⟩; rfl)
theorem len_PatternReader_open_level (K : Ky) (vs : List V) (H : Hp) (Q : VK) (E : XK) (h : sp_PatternReader_open_level K vs H Q E) : vs.length = 2 := by first | (rcases h with ⟨_, rfl, _⟩; rfl) | (rcases h with ⟨_, _, rfl, _⟩; rfl) | (rcases h with ⟨_, _, _, rfl, _⟩; rfl) | (rcases h with ⟨_, _, _, _, rfl, _⟩; rfl) | (rcases h with ⟨_, _, _, _, _, rfl, _⟩; rfl) | (rcases h with ⟨_, _, _, _, _, _, rfl, _⟩; rfl) | (rcases h with ⟨_, _, _, _, _, _, _, rfl, _⟩; rfl) | (rcases h with ⟨_, _, _, _, _, _, _, _, rfl, _⟩; rfl) | (rcases h with ⟨_, _, _, _, _, _, _, _, _, rfl, _⟩; rfl) | (rcases h with ⟨_, _, _, _, _, _, _, _, _, _, rfl, _⟩; rfl) | (rcases h with ⟨_, _, _, _, _, _, _, _, _, _, _, rfl, _⟩; rfl) | (rcases h with ⟨_, _, _, _, _, _, _, _, _, _, _, _, rfl, _⟩; rfl) | (rcases h with ⟨_, _, _, _, _, _, _, _, _, _, _, _, _, rfl, _⟩; rfl)
theorem len_PatternReader_number (K : Ky) (vs : List V) (H : Hp) (Q : VK) (E : XK) (h : sp_PatternReader_number K vs H Q E) : vs.length = 1 := by first | (rcases h with ⟨_, rfl, _⟩; rfl) | (rcases h with ⟨_, _, rfl, _⟩; rfl) | (rcases h with ⟨_, _, _, rfl, _⟩; rfl) | (rcases h with ⟨_, _, _, _, rfl, _⟩; rfl) | (rcases h with ⟨_, _, _, _, _, rfl, _⟩; rfl) | (rcases h with ⟨_, _, _, _, _, _, rfl, _⟩; rfl) | (rcases h with ⟨_, _, _, _, _, _, _, rfl, _⟩; rfl) | (rcases h with ⟨_, _, _, _, _, _, _, _, rfl, _⟩; rfl) | (rcases h with ⟨_, _, _, _, _, _, _, _, _, rfl, _⟩; rfl) | (rcases h with ⟨_, _, _, _, _, _, _, _, _, _, rfl, _⟩; rfl) | (rcases h with ⟨_, _, _, _, _, _, _, _, _, _, _, rfl, _⟩; rfl) | (rcases h with ⟨_, _, _, _, _, _, _, _, _, _, _, _, rfl, _⟩; rfl) | (rcases h with ⟨_, _, _, _, _, _, _, _, _, _, _, _, _, rfl, _⟩; rfl)
theorem len_PatternReader_numbers (K : Ky) (vs : List V) (H : Hp) (Q : VK) (E : XK) (h : sp_PatternReader_numbers K vs H Q E) : vs.length = 1 := by first | (rcases h with ⟨_, rfl, _⟩; rfl) | (rcases h with ⟨_, _, rfl, _⟩; rfl) | (rcases h with ⟨_, _, _, rfl, _⟩; rfl) | (rcases h with ⟨_, _, _, _, rfl, _⟩; rfl) | (rcases h with ⟨_, _, _, _, _, rfl, _⟩; rfl) | (rcases h with ⟨_, _, _, _, _, _, rfl, _⟩; rfl) | (rcases h with ⟨_, _, _, _, _, _, _, rfl, _⟩; rfl) | (rcases h with ⟨_, _, _, _, _, _, _, _, rfl, _⟩; rfl) | (rcases h with ⟨_, _, _, _, _, _, _, _, _, rfl, _⟩; rfl) | (rcases h with ⟨_, _, _, _, _, _, _, _, _, _, rfl, _⟩; rfl) | (rcases h with ⟨_, _, _, _, _, _, _, _, _, _, _, rfl, _⟩; rfl) | (rcases h with ⟨_, _, _, _, _, _, _, _, _, _, _, _, rfl, _⟩; rfl) | (rcases h with ⟨_, _, _, _, _, _, _, _, _, _, _, _, _, rfl, _⟩; rfl)
theorem len_PatternReader_repeat (K : Ky) (vs : List V) (H : Hp) (Q : VK) (E : XK) (h : sp_PatternReader_repeat K vs H Q E) : vs.length = 2 := by first | (rcases h with ⟨_, rfl, _⟩; rfl) | (rcases h with ⟨_, _, rfl, _⟩; rfl) | (rcases h with ⟨_, _, _, rfl, _⟩; rfl) | (rcases h with ⟨_, _, _, _, rfl, _⟩; rfl) | (rcases h with ⟨_, _, _, _, _, rfl, _⟩; rfl) | (rcases h with ⟨_, _, _, _, _, _, rfl, _⟩; rfl) | (rcases h with ⟨_, _, _, _, _, _, _, rfl, _⟩; rfl) | (rcases h with ⟨_, _, _, _, _, _, _, _, rfl, _⟩; rfl) | (rcases h with ⟨_, _, _, _, _, _, _, _, _, rfl, _⟩; rfl) | (rcases h with ⟨_, _, _, _, _, _, _, _, _, _, rfl, _⟩; rfl) | (rcases h with ⟨_, _, _, _, _, _, _, _, _, _, _, rfl, _⟩; rfl) | (rcases h with ⟨_, _, _, _, _, _, _, _, _, _, _, _, rfl, _⟩; rfl) | (rcases h with ⟨_, _, _, _, _, _, _, _, _, _, _, _, _, rfl, _⟩; rfl)
theorem len_PatternReader_class_part (K : Ky) (vs : List V) (H : Hp) (Q : VK) (E : XK) (h : sp_PatternReader_class_part K vs H Q E) : vs.length = 1 := by first | (rcases h with ⟨_, rfl, _⟩; rfl) | (rcases h with ⟨_, _, rfl, _⟩; rfl) | (rcases h with ⟨_, _, _, rfl, _⟩; rfl) | (rcases h with ⟨_, _, _, _, rfl, _⟩; rfl) | (rcases h with ⟨_, _, _, _, _, rfl, _⟩; rfl) | (rcases h with ⟨_, _, _, _, _, _, rfl, _⟩; rfl) | (rcases h with ⟨_, _, _, _, _, _, _, rfl, _⟩; rfl) | (rcases h with ⟨_, _, _, _, _, _, _, _, rfl, _⟩; rfl) | (rcases h with ⟨_, _, _, _, _, _, _, _, _, rfl, _⟩; rfl) | (rcases h with ⟨_, _, _, _, _, _, _, _, _, _, rfl, _⟩; rfl) | (rcases h with ⟨_, _, _, _, _, _, _, _, _, _, _, rfl, _⟩; rfl) | (rcases h with ⟨_, _, _, _, _, _, _, _, _, _, _, _, rfl, _⟩; rfl) | (rcases h with ⟨_, _, _, _, _, _, _, _, _, _, _, _, _, rfl, _⟩; rfl)
theorem len_PatternReader_escaped (K : Ky) (vs : List V) (H : Hp) (Q : VK) (E : XK) (h : sp_PatternReader_escaped K vs H Q E) : vs.length = 2 := by first | (rcases h with ⟨_, rfl, _⟩; rfl) | (rcases h with ⟨_, _, rfl, _⟩; rfl) | (rcases h with ⟨_, _, _, rfl, _⟩; rfl) | (rcases h with ⟨_, _, _, _, rfl, _⟩; rfl) | (rcases h with ⟨_, _, _, _, _, rfl, _⟩; rfl) | (rcases h with ⟨_, _, _, _, _, _, rfl, _⟩; rfl) | (rcases h with ⟨_, _, _, _, _, _, _, rfl, _⟩; rfl) | (rcases h with ⟨_, _, _, _, _, _, _, _, rfl, _⟩; rfl) | (rcases h with ⟨_, _, _, _, _, _, _, _, _, rfl, _⟩; rfl) | (rcases h with ⟨_, _, _, _, _, _, _, _, _, _, rfl, _⟩; rfl) | (rcases h with ⟨_, _, _, _, _, _, _, _, _, _, _, rfl, _⟩; rfl) | (rcases h with ⟨_, _, _, _, _, _, _, _, _, _, _, _, rfl, _⟩; rfl) | (rcases h with ⟨_, _, _, _, _, _, _, _, _, _, _, _, _, rfl, _⟩; rfl)
theorem len_PatternReader_plain (K : Ky) (vs : List V) (H : Hp) (Q : VK) (E : XK) (h : sp_PatternReader_plain K vs H Q E) : vs.length = 1 := by first | (rcases h with ⟨_, rfl, _⟩; rfl) | (rcases h with ⟨_, _, rfl, _⟩; rfl) | (rcases h with ⟨_, _, _, rfl, _⟩; rfl) | (rcases h with ⟨_, _, _, _, rfl, _⟩; rfl) | (rcases h with ⟨_, _, _, _, _, rfl, _⟩; rfl) | (rcases h with ⟨_, _, _, _, _, _, rfl, _⟩; rfl) | (rcases h with ⟨_, _, _, _, _, _, _, rfl, _⟩; rfl) | (rcases h with ⟨_, _, _, _, _, _, _, _, rfl, _⟩; rfl) | (rcases h with ⟨_, _, _, _, _, _, _, _, _, rfl, _⟩; rfl) | (rcases h with ⟨_, _, _, _, _, _, _, _, _, _, rfl, _⟩; rfl) | (rcases h with ⟨_, _, _, _, _, _, _, _, _, _, _, rfl, _⟩; rfl) | (rcases h with ⟨_, _, _, _, _, _, _, _, _, _, _, _, rfl, _⟩; rfl) | (rcases h with ⟨_, _, _, _, _, _, _, _, _, _, _, _, _, rfl, _⟩; rfl)
theorem len_PatternReader_end_of_part (K : Ky) (vs : List V) (H : Hp) (Q : VK) (E : XK) (h : sp_PatternReader_end_of_part K vs H Q E) : vs.length = 1 := by first | (rcases h with ⟨_, rfl, _⟩; rfl) | (rcases h with ⟨_, _, rfl, _⟩; rfl) | (rcases h with ⟨_, _, _, rfl, _⟩; rfl) | (rcases h with ⟨_, _, _, _, rfl, _⟩; rfl) | (rcases h with ⟨_, _, _, _, _, rfl, _⟩; rfl) | (rcases h with ⟨_, _, _, _, _, _, rfl, _⟩; rfl) | (rcases h with ⟨_, _, _, _, _, _, _, rfl, _⟩; rfl) | (rcases h with ⟨_, _, _, _, _, _, _, _, rfl, _⟩; rfl) | (rcases h with ⟨_, _, _, _, _, _, _, _, _, rfl, _⟩; rfl) | (rcases h with ⟨_, _, _, _, _, _, _, _, _, _, rfl, _⟩; rfl) | (rcases h with ⟨_, _, _, _, _, _, _, _, _, _, _, rfl, _⟩; rfl) | (rcases h with ⟨_, _, _, _, _, _, _, _, _, _, _, _, rfl, _⟩; rfl) | (rcases h with ⟨_, _, _, _, _, _, _, _, _, _, _, _, _, rfl, _⟩; rfl)
theorem len_PatternReader_part (K : Ky) (vs : List V) (H : Hp) (Q : VK) (E : XK) (h : sp_PatternReader_part K vs H Q E) : vs.length = 1 := by first | (rcases h with ⟨_, rfl, _⟩; rfl) | (rcases h with ⟨_, _, rfl, _⟩; rfl) | (rcases h with ⟨_, _, _, rfl, _⟩; rfl) | (rcases h with ⟨_, _, _, _, rfl, _⟩; rfl) | (rcases h with ⟨_, _, _, _, _, rfl, _⟩; rfl) | (rcases h with ⟨_, _, _, _, _, _, rfl, _⟩; rfl) | (rcases h with ⟨_, _, _, _, _, _, _, rfl, _⟩; rfl) | (rcases h with ⟨_, _, _, _, _, _, _, _, rfl, _⟩; rfl) | (rcases h with ⟨_, _, _, _, _, _, _, _, _, rfl, _⟩; rfl) | (rcases h with ⟨_, _, _, _, _, _, _, _, _, _, rfl, _⟩; rfl) | (rcases h with ⟨_, _, _, _, _, _, _, _, _, _, _, rfl, _⟩; rfl) | (rcases h with ⟨_, _, _, _, _, _, _, _, _, _, _, _, rfl, _⟩; rfl) | (rcases h with ⟨_, _, _, _, _, _, _, _, _, _, _, _, _, rfl, _⟩; rfl)
theorem len_PatternReader_value_set (K : Ky) (vs : List V) (H : Hp) (Q : VK) (E : XK) (h : sp_PatternReader_value_set K vs H Q E) : vs.length = 1 := by first | (rcases h with ⟨_, rfl, _⟩; rfl) | (rcases h with ⟨_, _, rfl, _⟩; rfl) | (rcases h with ⟨_, _, _, rfl, _⟩; rfl) | (rcases h with ⟨_, _, _, _, rfl, _⟩; rfl) | (rcases h with ⟨_, _, _, _, _, rfl, _⟩; rfl) | (rcases h with ⟨_, _, _, _, _, _, rfl, _⟩; rfl) | (rcases h with ⟨_, _, _, _, _, _, _, rfl, _⟩; rfl) | (rcases h with ⟨_, _, _, _, _, _, _, _, rfl, _⟩; rfl) | (rcases h with ⟨_, _, _, _, _, _, _, _, _, rfl, _⟩; rfl) | (rcases h with ⟨_, _, _, _, _, _, _, _, _, _, rfl, _⟩; rfl) | (rcases h with ⟨_, _, _, _, _, _, _, _, _, _, _, rfl, _⟩; rfl) | (rcases h with ⟨_, _, _, _, _, _, _, _, _, _, _, _, rfl, _⟩; rfl) | (rcases h with ⟨_, _, _, _, _, _, _, _, _, _, _, _, _, rfl, _⟩; rfl)
theorem len_PatternReader_escape (K : Ky) (vs : List V) (H : Hp) (Q : VK) (E : XK) (h : sp_PatternReader_escape K vs H Q E) : vs.length = 1 := by first | (rcases h with ⟨_, rfl, _⟩; rfl) | (rcases h with ⟨_, _, rfl, _⟩; rfl) | (rcases h with ⟨_, _, _, rfl, _⟩; rfl) | (rcases h with ⟨_, _, _, _, rfl, _⟩; rfl) | (rcases h with ⟨_, _, _, _, _, rfl, _⟩; rfl) | (rcases h with ⟨_, _, _, _, _, _, rfl, _⟩; rfl) | (rcases h with ⟨_, _, _, _, _, _, _, rfl, _⟩; rfl) | (rcases h with ⟨_, _, _, _, _, _, _, _, rfl, _⟩; rfl) | (rcases h with ⟨_, _, _, _, _, _, _, _, _, rfl, _⟩; rfl) | (rcases h with ⟨_, _, _, _, _, _, _, _, _, _, rfl, _⟩; rfl) | (rcases h with ⟨_, _, _, _, _, _, _, _, _, _, _, rfl, _⟩; rfl) | (rcases h with ⟨_, _, _, _, _, _, _, _, _, _, _, _, rfl, _⟩; rfl) | (rcases h with ⟨_, _, _, _, _, _, _, _, _, _, _, _, _, rfl, _⟩; rfl)
theorem len_PatternReader_atom (K : Ky) (vs : List V) (H : Hp) (Q : VK) (E : XK) (h : sp_PatternReader_atom K vs H Q E) : vs.length = 2 := by first | (rcases h with ⟨_, rfl, _⟩; rfl) | (rcases h with ⟨_, _, rfl, _⟩; rfl) | (rcases h with ⟨_, _, _, rfl, _⟩; rfl) | (rcases h with ⟨_, _, _, _, rfl, _⟩; rfl) | (rcases h with ⟨_, _, _, _, _, rfl, _⟩; rfl) | (rcases h with ⟨_, _, _, _, _, _, rfl, _⟩; rfl) | (rcases h with ⟨_, _, _, _, _, _, _, rfl, _⟩; rfl) | (rcases h with ⟨_, _, _, _, _, _, _, _, rfl, _⟩; rfl) | (rcases h with ⟨_, _, _, _, _, _, _, _, _, rfl, _⟩; rfl) | (rcases h with ⟨_, _, _, _, _, _, _, _, _, _, rfl, _⟩; rfl) | (rcases h with ⟨_, _, _, _, _, _, _, _, _, _, _, rfl, _⟩; rfl) | (rcases h with ⟨_, _, _, _, _, _, _, _, _, _, _, _, rfl, _⟩; rfl) | (rcases h with ⟨_, _, _, _, _, _, _, _, _, _, _, _, _, rfl, _⟩; rfl)
theorem len_PatternReader_take (K : Ky) (vs : List V) (H : Hp) (Q : VK) (E : XK) (h : sp_PatternReader_take K vs H Q E) : vs.length = 2 := by first | (rcases h with ⟨_, rfl, _⟩; rfl) | (rcases h with ⟨_, _, rfl, _⟩; rfl) | (rcases h with ⟨_, _, _, rfl, _⟩; rfl) | (rcases h with ⟨_, _, _, _, rfl, _⟩; rfl) | (rcases h with ⟨_, _, _, _, _, rfl, _⟩; rfl) | (rcases h with ⟨_, _, _, _, _, _, rfl, _⟩; rfl) | (rcases h with ⟨_, _, _, _, _, _, _, rfl, _⟩; rfl) | (rcases h with ⟨_, _, _, _, _, _, _, _, rfl, _⟩; rfl) | (rcases h with ⟨_, _, _, _, _, _, _, _, _, rfl, _⟩; rfl) | (rcases h with ⟨_, _, _, _, _, _, _, _, _, _, rfl, _⟩; rfl) | (rcases h with ⟨_, _, _, _, _, _, _, _, _, _, _, rfl, _⟩; rfl) | (rcases h with ⟨_, _, _, _, _, _, _, _, _, _, _, _, rfl, _⟩; rfl) | (rcases h with ⟨_, _, _, _, _, _, _, _, _, _, _, _, _, rfl, _⟩; rfl)
theorem len_PatternReader_whole (K : Ky) (vs : List V) (H : Hp) (Q : VK) (E : XK) (h : sp_PatternReader_whole K vs H Q E) : vs.length = 1 := by first | (rcases h with ⟨_, rfl, _⟩; rfl) | (rcases h with ⟨_, _, rfl, _⟩; rfl) | (rcases h with ⟨_, _, _, rfl, _⟩; rfl) | (rcases h with ⟨_, _, _, _, rfl, _⟩; rfl) | (rcases h with ⟨_, _, _, _, _, rfl, _⟩; rfl) | (rcases h with ⟨_, _, _, _, _, _, rfl, _⟩; rfl) | (rcases h with ⟨_, _, _, _, _, _, _, rfl, _⟩; rfl) | (rcases h with ⟨_, _, _, _, _, _, _, _, rfl, _⟩; rfl) | (rcases h with ⟨_, _, _, _, _, _, _, _, _, rfl, _⟩; rfl) | (rcases h with ⟨_, _, _, _, _, _, _, _, _, _, rfl, _⟩; rfl) | (rcases h with ⟨_, _, _, _, _, _, _, _, _, _, _, rfl, _⟩; rfl) | (rcases h with ⟨_, _, _, _, _, _, _, _, _, _, _, _, rfl, _⟩; rfl) | (rcases h with ⟨_, _, _, _, _, _, _, _, _, _, _, _, _, rfl, _⟩; rfl)
theorem len_Pattern___init__ (K : Ky) (vs : List V) (H : Hp) (Q : VK) (E : XK) (h : sp_Pattern___init__ K vs H Q E) : vs.length = 4 := by first | (rcases h with ⟨_, rfl, _⟩; rfl) | (rcases h with ⟨_, _, rfl, _⟩; rfl) | (rcases h with ⟨_, _, _, rfl, _⟩; rfl) | (rcases h with ⟨_, _, _, _, rfl, _⟩; rfl) | (rcases h with ⟨_, _, _, _, _, rfl, _⟩; rfl) | (rcases h with ⟨_, _, _, _, _, _, rfl, _⟩; rfl) | (rcases h with ⟨_, _, _, _, _, _, _, rfl, _⟩; rfl) | (rcases h with ⟨_, _, _, _, _, _, _, _, rfl, _⟩; rfl) | (rcases h with ⟨_, _, _, _, _, _, _, _, _, rfl, _⟩; rfl) | (rcases h with ⟨_, _, _, _, _, _, _, _, _, _, rfl, _⟩; rfl) | (rcases h with ⟨_, _, _, _, _, _, _, _, _, _, _, rfl, _⟩; rfl) | (rcases h with ⟨_, _, _, _, _, _, _, _, _, _, _, _, rfl, _⟩; rfl) | (rcases h with ⟨_, _, _, _, _, _, _, _, _, _, _, _, _, rfl, _⟩; rfl)
theorem len_read_pattern (K : Ky) (vs : List V) (H : Hp) (Q : VK) (E : XK) (h : sp_read_pattern K vs H Q E) : vs.length = 1 := by first | (rcases h with ⟨_, rfl, _⟩; rfl) | (rcases h with ⟨_, _, rfl, _⟩; rfl) | (rcases h with ⟨_, _, _, rfl, _⟩; rfl) | (rcases h with ⟨_, _, _, _, rfl, _⟩; rfl) | (rcases h with ⟨_, _, _, _, _, rfl, _⟩; rfl) | (rcases h with ⟨_, _, _, _, _, _, rfl, _⟩; rfl) | (rcases h with ⟨_, _, _, _, _, _, _, rfl, _⟩; rfl) | (rcases h with ⟨_, _, _, _, _, _, _, _, rfl, _⟩; rfl) | (rcases h with ⟨_, _, _, _, _, _, _, _, _, rfl, _⟩; rfl) | (rcases h with ⟨_, _, _, _, _, _, _, _, _, _, rfl, _⟩; rfl) | (rcases h with ⟨_, _, _, _, _, _, _, _, _, _, _, rfl, _⟩; rfl) | (rcases h with ⟨_, _, _, _, _, _, _, _, _, _, _, _, rfl, _⟩; rfl) | (rcases h with ⟨_, _, _, _, _, _, _, _, _, _, _, _, _, rfl, _⟩; rfl)
theorem len_Refused___init__ (K : Ky) (vs : List V) (H : Hp) (Q : VK) (E : XK) (h : sp_Refused___init__ K vs H Q E) : vs.length = 2 := by first | (rcases h with ⟨_, rfl, _⟩; rfl) | (rcases h with ⟨_, _, rfl, _⟩; rfl) | (rcases h with ⟨_, _, _, rfl, _⟩; rfl) | (rcases h with ⟨_, _, _, _, rfl, _⟩; rfl) | (rcases h with ⟨_, _, _, _, _, rfl, _⟩; rfl) | (rcases h with ⟨_, _, _, _, _, _, rfl, _⟩; rfl) | (rcases h with ⟨_, _, _, _, _, _, _, rfl, _⟩; rfl) | (rcases h with ⟨_, _, _, _, _, _, _, _, rfl, _⟩; rfl) | (rcases h with ⟨_, _, _, _, _, _, _, _, _, rfl, _⟩; rfl) | (rcases h with ⟨_, _, _, _, _, _, _, _, _, _, rfl, _⟩; rfl) | (rcases h with ⟨_, _, _, _, _, _, _, _, _, _, _, rfl, _⟩; rfl) | (rcases h with ⟨_, _, _, _, _, _, _, _, _, _, _, _, rfl, _⟩; rfl) | (rcases h with ⟨_, _, _, _, _, _, _, _, _, _, _, _, _, rfl, _⟩; rfl)
theorem len_must_be_short (K : Ky) (vs : List V) (H : Hp) (Q : VK) (E : XK) (h : sp_must_be_short K vs H Q E) : vs.length = 1 := by first | (rcases h with ⟨_, rfl, _⟩; rfl) | (rcases h with ⟨_, _, rfl, _⟩; rfl) | (rcases h with ⟨_, _, _, rfl, _⟩; rfl) | (rcases h with ⟨_, _, _, _, rfl, _⟩; rfl) | (rcases h with ⟨_, _, _, _, _, rfl, _⟩; rfl) | (rcases h with ⟨_, _, _, _, _, _, rfl, _⟩; rfl) | (rcases h with ⟨_, _, _, _, _, _, _, rfl, _⟩; rfl) | (rcases h with ⟨_, _, _, _, _, _, _, _, rfl, _⟩; rfl) | (rcases h with ⟨_, _, _, _, _, _, _, _, _, rfl, _⟩; rfl) | (rcases h with ⟨_, _, _, _, _, _, _, _, _, _, rfl, _⟩; rfl) | (rcases h with ⟨_, _, _, _, _, _, _, _, _, _, _, rfl, _⟩; rfl) | (rcases h with ⟨_, _, _, _, _, _, _, _, _, _, _, _, rfl, _⟩; rfl) | (rcases h with ⟨_, _, _, _, _, _, _, _, _, _, _, _, _, rfl, _⟩; rfl)
theorem len_judged (K : Ky) (vs : List V) (H : Hp) (Q : VK) (E : XK) (h : sp_judged K vs H Q E) : vs.length = 1 := by first | (rcases h with ⟨_, rfl, _⟩; rfl) | (rcases h with ⟨_, _, rfl, _⟩; rfl) | (rcases h with ⟨_, _, _, rfl, _⟩; rfl) | (rcases h with ⟨_, _, _, _, rfl, _⟩; rfl) | (rcases h with ⟨_, _, _, _, _, rfl, _⟩; rfl) | (rcases h with ⟨_, _, _, _, _, _, rfl, _⟩; rfl) | (rcases h with ⟨_, _, _, _, _, _, _, rfl, _⟩; rfl) | (rcases h with ⟨_, _, _, _, _, _, _, _, rfl, _⟩; rfl) | (rcases h with ⟨_, _, _, _, _, _, _, _, _, rfl, _⟩; rfl) | (rcases h with ⟨_, _, _, _, _, _, _, _, _, _, rfl, _⟩; rfl) | (rcases h with ⟨_, _, _, _, _, _, _, _, _, _, _, rfl, _⟩; rfl) | (rcases h with ⟨_, _, _, _, _, _, _, _, _, _, _, _, rfl, _⟩; rfl) | (rcases h with ⟨_, _, _, _, _, _, _, _, _, _, _, _, _, rfl, _⟩; rfl)
theorem len_judge_told (K : Ky) (vs : List V) (H : Hp) (Q : VK) (E : XK) (h : sp_judge_told K vs H Q E) : vs.length = 1 := by first | (rcases h with ⟨_, rfl, _⟩; rfl) | (rcases h with ⟨_, _, rfl, _⟩; rfl) | (rcases h with ⟨_, _, _, rfl, _⟩; rfl) | (rcases h with ⟨_, _, _, _, rfl, _⟩; rfl) | (rcases h with ⟨_, _, _, _, _, rfl, _⟩; rfl) | (rcases h with ⟨_, _, _, _, _, _, rfl, _⟩; rfl) | (rcases h with ⟨_, _, _, _, _, _, _, rfl, _⟩; rfl) | (rcases h with ⟨_, _, _, _, _, _, _, _, rfl, _⟩; rfl) | (rcases h with ⟨_, _, _, _, _, _, _, _, _, rfl, _⟩; rfl) | (rcases h with ⟨_, _, _, _, _, _, _, _, _, _, rfl, _⟩; rfl) | (rcases h with ⟨_, _, _, _, _, _, _, _, _, _, _, rfl, _⟩; rfl) | (rcases h with ⟨_, _, _, _, _, _, _, _, _, _, _, _, rfl, _⟩; rfl) | (rcases h with ⟨_, _, _, _, _, _, _, _, _, _, _, _, _, rfl, _⟩; rfl)
theorem len_judge (K : Ky) (vs : List V) (H : Hp) (Q : VK) (E : XK) (h : sp_judge K vs H Q E) : vs.length = 1 := by first | (rcases h with ⟨_, rfl, _⟩; rfl) | (rcases h with ⟨_, _, rfl, _⟩; rfl) | (rcases h with ⟨_, _, _, rfl, _⟩; rfl) | (rcases h with ⟨_, _, _, _, rfl, _⟩; rfl) | (rcases h with ⟨_, _, _, _, _, rfl, _⟩; rfl) | (rcases h with ⟨_, _, _, _, _, _, rfl, _⟩; rfl) | (rcases h with ⟨_, _, _, _, _, _, _, rfl, _⟩; rfl) | (rcases h with ⟨_, _, _, _, _, _, _, _, rfl, _⟩; rfl) | (rcases h with ⟨_, _, _, _, _, _, _, _, _, rfl, _⟩; rfl) | (rcases h with ⟨_, _, _, _, _, _, _, _, _, _, rfl, _⟩; rfl) | (rcases h with ⟨_, _, _, _, _, _, _, _, _, _, _, rfl, _⟩; rfl) | (rcases h with ⟨_, _, _, _, _, _, _, _, _, _, _, _, rfl, _⟩; rfl) | (rcases h with ⟨_, _, _, _, _, _, _, _, _, _, _, _, _, rfl, _⟩; rfl)
structure Tx (K : Ky) (mg : Str → Option Value) : Prop where
  i_CANT_STAND : ∃ t, mg "CANT_STAND" = some (.int 2 t)
  x_Fault : Xc K mg "Fault"
  f_range : mg "range" = none
  f_len : mg "len" = none
  i_ENDS_TOO_SOON : ∃ t, mg "ENDS_TOO_SOON" = some (.int 1 t)
  i_GREATEST : ∃ t, mg "GREATEST" = some (.int 1114111 t)
  f_max : mg "max" = none
  f_reversed : mg "reversed" = none
  o_FIGURE_BOUNDS : mg "FIGURE_BOUNDS" = some (.ref (He.ga K "FIGURE_BOUNDS"))
  f_list : mg "list" = none
  o_WORD_BOUNDS : mg "WORD_BOUNDS" = some (.ref (He.ga K "WORD_BOUNDS"))
  o_BLANK_BOUNDS : mg "BLANK_BOUNDS" = some (.ref (He.ga K "BLANK_BOUNDS"))
  i_NOUGHT : ∃ t, mg "NOUGHT" = some (.int 48 t)
  i_MOST_NAME : ∃ t, mg "MOST_NAME" = some (.int 32 t)
  i_MOST_NAMES : ∃ t, mg "MOST_NAMES" = some (.int 16 t)
  i_WRONG_NAME : ∃ t, mg "WRONG_NAME" = some (.int 4 t)
  i_BLANK : ∃ t, mg "BLANK" = some (.int 32 t)
  i_MOST_OPEN : ∃ t, mg "MOST_OPEN" = some (.int 40 t)
  i_TOO_DEEP : ∃ t, mg "TOO_DEEP" = some (.int 5 t)
  i_OPEN : ∃ t, mg "OPEN" = some (.int 40 t)
  i_CLOSE : ∃ t, mg "CLOSE" = some (.int 41 t)
  i_MORE : ∃ t, mg "MORE" = some (.int 62 t)
  i_MOST_NUMBER : ∃ t, mg "MOST_NUMBER" = some (.int 20 t)
  i_WRONG_NUMBER : ∃ t, mg "WRONG_NUMBER" = some (.int 3 t)
  i_COMMA : ∃ t, mg "COMMA" = some (.int 44 t)
  i_END_BRACE : ∃ t, mg "END_BRACE" = some (.int 125 t)
  i_PLUS : ∃ t, mg "PLUS" = some (.int 43 t)
  i_ASK : ∃ t, mg "ASK" = some (.int 63 t)
  i_BRACE : ∃ t, mg "BRACE" = some (.int 123 t)
  i_BACKSLASH : ∃ t, mg "BACKSLASH" = some (.int 92 t)
  o_SELF_SIGNS : mg "SELF_SIGNS" = some (.ref (He.ga K "SELF_SIGNS"))
  o_VALUE_SIGNS : mg "VALUE_SIGNS" = some (.ref (He.ga K "VALUE_SIGNS"))
  i_HAT : ∃ t, mg "HAT" = some (.int 94 t)
  i_MINUS : ∃ t, mg "MINUS" = some (.int 45 t)
  i_SET : ∃ t, mg "SET" = some (.int 91 t)
  i_END_SET : ∃ t, mg "END_SET" = some (.int 93 t)
  i_WRONG_ORDER : ∃ t, mg "WRONG_ORDER" = some (.int 6 t)
  i_LETTER_B : ∃ t, mg "LETTER_B" = some (.int 98 t)
  i_DOLLAR : ∃ t, mg "DOLLAR" = some (.int 36 t)
  f_int : mg "int" = none
  i_DOT : ∃ t, mg "DOT" = some (.int 46 t)
  i_BAR : ∃ t, mg "BAR" = some (.int 124 t)
  i_LESS : ∃ t, mg "LESS" = some (.int 60 t)
  i_STAR : ∃ t, mg "STAR" = some (.int 42 t)
  i_MOST_ATOMS : ∃ t, mg "MOST_ATOMS" = some (.int 200 t)
  i_TOO_MANY : ∃ t, mg "TOO_MANY" = some (.int 7 t)
  i_MOST_BYTES : ∃ t, mg "MOST_BYTES" = some (.int 128 t)
  f_any : mg "any" = none
  i_TOO_LONG : ∃ t, mg "TOO_LONG" = some (.int (-2) t)
  x_Refused : Xc K mg "Refused"
  n_Fault_place : PySem.W.findIn K (.ref (He.ga K "Fault")) "place" = some none
  n_Fault_kind : PySem.W.findIn K (.ref (He.ga K "Fault")) "kind" = some none
  i_NO_PATTERN : ∃ t, mg "NO_PATTERN" = some (.int (-6) t)
  n_Refused_answer : PySem.W.findIn K (.ref (He.ga K "Refused")) "answer" = some none
  D_Fault___init__ : ∃ fd, FunD K "__init__" "Fault.__init__" (defArgs s_Fault___init__) (defBody s_Fault___init__) (defScope s_Fault___init__) [] [] (He.fAd K ("Fault", some "__init__")) fd
  D_size_by : ∃ fd, FunD K "size_by" "size_by" (defArgs s_size_by) (defBody s_size_by) (defScope s_size_by) [] [] (He.fAd K ("size_by", none)) fd
  g_size_by : mg "size_by" = some (.ref (He.ga K "size_by"))
  D_second_bounds : ∃ fd, FunD K "second_bounds" "second_bounds" (defArgs s_second_bounds) (defBody s_second_bounds) (defScope s_second_bounds) [] [] (He.fAd K ("second_bounds", none)) fd
  g_second_bounds : mg "second_bounds" = some (.ref (He.ga K "second_bounds"))
  D_bounds_at : ∃ fd, FunD K "bounds_at" "bounds_at" (defArgs s_bounds_at) (defBody s_bounds_at) (defScope s_bounds_at) [] [] (He.fAd K ("bounds_at", none)) fd
  g_bounds_at : mg "bounds_at" = some (.ref (He.ga K "bounds_at"))
  D_value_at : ∃ fd, FunD K "value_at" "value_at" (defArgs s_value_at) (defBody s_value_at) (defScope s_value_at) [] [] (He.fAd K ("value_at", none)) fd
  g_value_at : mg "value_at" = some (.ref (He.ga K "value_at"))
  D_Node___init__ : ∃ fd, FunD K "__init__" "Node.__init__" (defArgs s_Node___init__) (defBody s_Node___init__) (defScope s_Node___init__) [] [] (He.fAd K ("Node", some "__init__")) fd
  k_Node : Mk K (He.ga K "Node") (He.ma K (He.ga K "Node") "__init__")
  g_Node : mg "Node" = some (.ref (He.ga K "Node"))
  D_all_but : ∃ fd, FunD K "all_but" "all_but" (defArgs s_all_but) (defBody s_all_but) (defScope s_all_but) [] [] (He.fAd K ("all_but", none)) fd
  g_all_but : mg "all_but" = some (.ref (He.ga K "all_but"))
  D_Builder___init__ : ∃ fd, FunD K "__init__" "Builder.__init__" (defArgs s_Builder___init__) (defBody s_Builder___init__) (defScope s_Builder___init__) [] [] (He.fAd K ("Builder", some "__init__")) fd
  k_Builder : Mk K (He.ga K "Builder") (He.ma K (He.ga K "Builder") "__init__")
  g_Builder : mg "Builder" = some (.ref (He.ga K "Builder"))
  D_Builder_added : ∃ fd, FunD K "added" "Builder.added" (defArgs s_Builder_added) (defBody s_Builder_added) (defScope s_Builder_added) [] [] (He.fAd K ("Builder", some "added")) fd
  m_Builder_added : Meth K (He.ga K "Builder") "added" (He.ma K (He.ga K "Builder") "added")
  c_Builder : Cls K (He.ga K "Builder")
  D_Builder_test : ∃ fd, FunD K "test" "Builder.test" (defArgs s_Builder_test) (defBody s_Builder_test) (defScope s_Builder_test) [] [] (He.fAd K ("Builder", some "test")) fd
  m_Builder_test : Meth K (He.ga K "Builder") "test" (He.ma K (He.ga K "Builder") "test")
  D_Builder_sign : ∃ fd, FunD K "sign" "Builder.sign" (defArgs s_Builder_sign) (defBody s_Builder_sign) (defScope s_Builder_sign) [] [] (He.fAd K ("Builder", some "sign")) fd
  m_Builder_sign : Meth K (He.ga K "Builder") "sign" (He.ma K (He.ga K "Builder") "sign")
  D_Builder_empty : ∃ fd, FunD K "empty" "Builder.empty" (defArgs s_Builder_empty) (defBody s_Builder_empty) (defScope s_Builder_empty) [] [] (He.fAd K ("Builder", some "empty")) fd
  m_Builder_empty : Meth K (He.ga K "Builder") "empty" (He.ma K (He.ga K "Builder") "empty")
  D_Builder_row : ∃ fd, FunD K "row" "Builder.row" (defArgs s_Builder_row) (defBody s_Builder_row) (defScope s_Builder_row) [] [] (He.fAd K ("Builder", some "row")) fd
  m_Builder_row : Meth K (He.ga K "Builder") "row" (He.ma K (He.ga K "Builder") "row")
  D_Builder_one_of : ∃ fd, FunD K "one_of" "Builder.one_of" (defArgs s_Builder_one_of) (defBody s_Builder_one_of) (defScope s_Builder_one_of) [] [] (He.fAd K ("Builder", some "one_of")) fd
  m_Builder_one_of : Meth K (He.ga K "Builder") "one_of" (He.ma K (He.ga K "Builder") "one_of")
  D_Builder_named : ∃ fd, FunD K "named" "Builder.named" (defArgs s_Builder_named) (defBody s_Builder_named) (defScope s_Builder_named) [] [] (He.fAd K ("Builder", some "named")) fd
  m_Builder_named : Meth K (He.ga K "Builder") "named" (He.ma K (He.ga K "Builder") "named")
  D_Builder_endless : ∃ fd, FunD K "endless" "Builder.endless" (defArgs s_Builder_endless) (defBody s_Builder_endless) (defScope s_Builder_endless) [] [] (He.fAd K ("Builder", some "endless")) fd
  m_Builder_endless : Meth K (He.ga K "Builder") "endless" (He.ma K (He.ga K "Builder") "endless")
  D_Builder_often : ∃ fd, FunD K "often" "Builder.often" (defArgs s_Builder_often) (defBody s_Builder_often) (defScope s_Builder_often) [] [] (He.fAd K ("Builder", some "often")) fd
  m_Builder_often : Meth K (He.ga K "Builder") "often" (He.ma K (He.ga K "Builder") "often")
  D_class_bounds : ∃ fd, FunD K "class_bounds" "class_bounds" (defArgs s_class_bounds) (defBody s_class_bounds) (defScope s_class_bounds) [] [] (He.fAd K ("class_bounds", none)) fd
  g_class_bounds : mg "class_bounds" = some (.ref (He.ga K "class_bounds"))
  D_is_figure : ∃ fd, FunD K "is_figure" "is_figure" (defArgs s_is_figure) (defBody s_is_figure) (defScope s_is_figure) [] [] (He.fAd K ("is_figure", none)) fd
  g_is_figure : mg "is_figure" = some (.ref (He.ga K "is_figure"))
  D_is_small : ∃ fd, FunD K "is_small" "is_small" (defArgs s_is_small) (defBody s_is_small) (defScope s_is_small) [] [] (He.fAd K ("is_small", none)) fd
  g_is_small : mg "is_small" = some (.ref (He.ga K "is_small"))
  D_is_in_name : ∃ fd, FunD K "is_in_name" "is_in_name" (defArgs s_is_in_name) (defBody s_is_in_name) (defScope s_is_in_name) [] [] (He.fAd K ("is_in_name", none)) fd
  g_is_in_name : mg "is_in_name" = some (.ref (He.ga K "is_in_name"))
  D_Level___init__ : ∃ fd, FunD K "__init__" "Level.__init__" (defArgs s_Level___init__) (defBody s_Level___init__) (defScope s_Level___init__) [] [] (He.fAd K ("Level", some "__init__")) fd
  k_Level : Mk K (He.ga K "Level") (He.ma K (He.ga K "Level") "__init__")
  g_Level : mg "Level" = some (.ref (He.ga K "Level"))
  D_PatternReader___init__ : ∃ fd, FunD K "__init__" "PatternReader.__init__" (defArgs s_PatternReader___init__) (defBody s_PatternReader___init__) (defScope s_PatternReader___init__) [] [] (He.fAd K ("PatternReader", some "__init__")) fd
  k_PatternReader : Mk K (He.ga K "PatternReader") (He.ma K (He.ga K "PatternReader") "__init__")
  g_PatternReader : mg "PatternReader" = some (.ref (He.ga K "PatternReader"))
  D_PatternReader_byte : ∃ fd, FunD K "byte" "PatternReader.byte" (defArgs s_PatternReader_byte) (defBody s_PatternReader_byte) (defScope s_PatternReader_byte) [] [] (He.fAd K ("PatternReader", some "byte")) fd
  m_PatternReader_byte : Meth K (He.ga K "PatternReader") "byte" (He.ma K (He.ga K "PatternReader") "byte")
  c_PatternReader : Cls K (He.ga K "PatternReader")
  D_PatternReader_bar_from : ∃ fd, FunD K "bar_from" "PatternReader.bar_from" (defArgs s_PatternReader_bar_from) (defBody s_PatternReader_bar_from) (defScope s_PatternReader_bar_from) [] [] (He.fAd K ("PatternReader", some "bar_from")) fd
  m_PatternReader_bar_from : Meth K (He.ga K "PatternReader") "bar_from" (He.ma K (He.ga K "PatternReader") "bar_from")
  D_PatternReader_level : ∃ fd, FunD K "level" "PatternReader.level" (defArgs s_PatternReader_level) (defBody s_PatternReader_level) (defScope s_PatternReader_level) [] [] (He.fAd K ("PatternReader", some "level")) fd
  m_PatternReader_level : Meth K (He.ga K "PatternReader") "level" (He.ma K (He.ga K "PatternReader") "level")
  D_PatternReader_add : ∃ fd, FunD K "add" "PatternReader.add" (defArgs s_PatternReader_add) (defBody s_PatternReader_add) (defScope s_PatternReader_add) [] [] (He.fAd K ("PatternReader", some "add")) fd
  m_PatternReader_add : Meth K (He.ga K "PatternReader") "add" (He.ma K (He.ga K "PatternReader") "add")
  D_PatternReader_end_row : ∃ fd, FunD K "end_row" "PatternReader.end_row" (defArgs s_PatternReader_end_row) (defBody s_PatternReader_end_row) (defScope s_PatternReader_end_row) [] [] (He.fAd K ("PatternReader", some "end_row")) fd
  m_PatternReader_end_row : Meth K (He.ga K "PatternReader") "end_row" (He.ma K (He.ga K "PatternReader") "end_row")
  D_PatternReader_close : ∃ fd, FunD K "close" "PatternReader.close" (defArgs s_PatternReader_close) (defBody s_PatternReader_close) (defScope s_PatternReader_close) [] [] (He.fAd K ("PatternReader", some "close")) fd
  m_PatternReader_close : Meth K (He.ga K "PatternReader") "close" (He.ma K (He.ga K "PatternReader") "close")
  D_PatternReader_is_new_name : ∃ fd, FunD K "is_new_name" "PatternReader.is_new_name" (defArgs s_PatternReader_is_new_name) (defBody s_PatternReader_is_new_name) (defScope s_PatternReader_is_new_name) [] [] (He.fAd K ("PatternReader", some "is_new_name")) fd
  m_PatternReader_is_new_name : Meth K (He.ga K "PatternReader") "is_new_name" (He.ma K (He.ga K "PatternReader") "is_new_name")
  D_PatternReader_take_name : ∃ fd, FunD K "take_name" "PatternReader.take_name" (defArgs s_PatternReader_take_name) (defBody s_PatternReader_take_name) (defScope s_PatternReader_take_name) [] [] (He.fAd K ("PatternReader", some "take_name")) fd
  m_PatternReader_take_name : Meth K (He.ga K "PatternReader") "take_name" (He.ma K (He.ga K "PatternReader") "take_name")
  D_PatternReader_open_level : ∃ fd, FunD K "open_level" "PatternReader.open_level" (defArgs s_PatternReader_open_level) (defBody s_PatternReader_open_level) (defScope s_PatternReader_open_level) [] [] (He.fAd K ("PatternReader", some "open_level")) fd
  m_PatternReader_open_level : Meth K (He.ga K "PatternReader") "open_level" (He.ma K (He.ga K "PatternReader") "open_level")
  D_PatternReader_number : ∃ fd, FunD K "number" "PatternReader.number" (defArgs s_PatternReader_number) (defBody s_PatternReader_number) (defScope s_PatternReader_number) [] [] (He.fAd K ("PatternReader", some "number")) fd
  m_PatternReader_number : Meth K (He.ga K "PatternReader") "number" (He.ma K (He.ga K "PatternReader") "number")
  D_PatternReader_numbers : ∃ fd, FunD K "numbers" "PatternReader.numbers" (defArgs s_PatternReader_numbers) (defBody s_PatternReader_numbers) (defScope s_PatternReader_numbers) [] [] (He.fAd K ("PatternReader", some "numbers")) fd
  m_PatternReader_numbers : Meth K (He.ga K "PatternReader") "numbers" (He.ma K (He.ga K "PatternReader") "numbers")
  D_PatternReader_repeat : ∃ fd, FunD K "repeat" "PatternReader.repeat" (defArgs s_PatternReader_repeat) (defBody s_PatternReader_repeat) (defScope s_PatternReader_repeat) [] [] (He.fAd K ("PatternReader", some "repeat")) fd
  m_PatternReader_repeat : Meth K (He.ga K "PatternReader") "repeat" (He.ma K (He.ga K "PatternReader") "repeat")
  D_PatternReader_class_part : ∃ fd, FunD K "class_part" "PatternReader.class_part" (defArgs s_PatternReader_class_part) (defBody s_PatternReader_class_part) (defScope s_PatternReader_class_part) [] [] (He.fAd K ("PatternReader", some "class_part")) fd
  m_PatternReader_class_part : Meth K (He.ga K "PatternReader") "class_part" (He.ma K (He.ga K "PatternReader") "class_part")
  D_PatternReader_escaped : ∃ fd, FunD K "escaped" "PatternReader.escaped" (defArgs s_PatternReader_escaped) (defBody s_PatternReader_escaped) (defScope s_PatternReader_escaped) [] [] (He.fAd K ("PatternReader", some "escaped")) fd
  m_PatternReader_escaped : Meth K (He.ga K "PatternReader") "escaped" (He.ma K (He.ga K "PatternReader") "escaped")
  D_PatternReader_plain : ∃ fd, FunD K "plain" "PatternReader.plain" (defArgs s_PatternReader_plain) (defBody s_PatternReader_plain) (defScope s_PatternReader_plain) [] [] (He.fAd K ("PatternReader", some "plain")) fd
  m_PatternReader_plain : Meth K (He.ga K "PatternReader") "plain" (He.ma K (He.ga K "PatternReader") "plain")
  D_PatternReader_end_of_part : ∃ fd, FunD K "end_of_part" "PatternReader.end_of_part" (defArgs s_PatternReader_end_of_part) (defBody s_PatternReader_end_of_part) (defScope s_PatternReader_end_of_part) [] [] (He.fAd K ("PatternReader", some "end_of_part")) fd
  m_PatternReader_end_of_part : Meth K (He.ga K "PatternReader") "end_of_part" (He.ma K (He.ga K "PatternReader") "end_of_part")
  D_PatternReader_part : ∃ fd, FunD K "part" "PatternReader.part" (defArgs s_PatternReader_part) (defBody s_PatternReader_part) (defScope s_PatternReader_part) [] [] (He.fAd K ("PatternReader", some "part")) fd
  m_PatternReader_part : Meth K (He.ga K "PatternReader") "part" (He.ma K (He.ga K "PatternReader") "part")
  D_PatternReader_value_set : ∃ fd, FunD K "value_set" "PatternReader.value_set" (defArgs s_PatternReader_value_set) (defBody s_PatternReader_value_set) (defScope s_PatternReader_value_set) [] [] (He.fAd K ("PatternReader", some "value_set")) fd
  m_PatternReader_value_set : Meth K (He.ga K "PatternReader") "value_set" (He.ma K (He.ga K "PatternReader") "value_set")
  D_PatternReader_escape : ∃ fd, FunD K "escape" "PatternReader.escape" (defArgs s_PatternReader_escape) (defBody s_PatternReader_escape) (defScope s_PatternReader_escape) [] [] (He.fAd K ("PatternReader", some "escape")) fd
  m_PatternReader_escape : Meth K (He.ga K "PatternReader") "escape" (He.ma K (He.ga K "PatternReader") "escape")
  D_PatternReader_atom : ∃ fd, FunD K "atom" "PatternReader.atom" (defArgs s_PatternReader_atom) (defBody s_PatternReader_atom) (defScope s_PatternReader_atom) [] [] (He.fAd K ("PatternReader", some "atom")) fd
  m_PatternReader_atom : Meth K (He.ga K "PatternReader") "atom" (He.ma K (He.ga K "PatternReader") "atom")
  D_PatternReader_take : ∃ fd, FunD K "take" "PatternReader.take" (defArgs s_PatternReader_take) (defBody s_PatternReader_take) (defScope s_PatternReader_take) [] [] (He.fAd K ("PatternReader", some "take")) fd
  m_PatternReader_take : Meth K (He.ga K "PatternReader") "take" (He.ma K (He.ga K "PatternReader") "take")
  D_PatternReader_whole : ∃ fd, FunD K "whole" "PatternReader.whole" (defArgs s_PatternReader_whole) (defBody s_PatternReader_whole) (defScope s_PatternReader_whole) [] [] (He.fAd K ("PatternReader", some "whole")) fd
  m_PatternReader_whole : Meth K (He.ga K "PatternReader") "whole" (He.ma K (He.ga K "PatternReader") "whole")
  D_Pattern___init__ : ∃ fd, FunD K "__init__" "Pattern.__init__" (defArgs s_Pattern___init__) (defBody s_Pattern___init__) (defScope s_Pattern___init__) [] [] (He.fAd K ("Pattern", some "__init__")) fd
  k_Pattern : Mk K (He.ga K "Pattern") (He.ma K (He.ga K "Pattern") "__init__")
  g_Pattern : mg "Pattern" = some (.ref (He.ga K "Pattern"))
  D_read_pattern : ∃ fd, FunD K "read_pattern" "read_pattern" (defArgs s_read_pattern) (defBody s_read_pattern) (defScope s_read_pattern) [] [] (He.fAd K ("read_pattern", none)) fd
  g_read_pattern : mg "read_pattern" = some (.ref (He.ga K "read_pattern"))
  D_Refused___init__ : ∃ fd, FunD K "__init__" "Refused.__init__" (defArgs s_Refused___init__) (defBody s_Refused___init__) (defScope s_Refused___init__) [] [] (He.fAd K ("Refused", some "__init__")) fd
  D_must_be_short : ∃ fd, FunD K "must_be_short" "must_be_short" (defArgs s_must_be_short) (defBody s_must_be_short) (defScope s_must_be_short) [] [] (He.fAd K ("must_be_short", none)) fd
  g_must_be_short : mg "must_be_short" = some (.ref (He.ga K "must_be_short"))
  D_judged : ∃ fd, FunD K "judged" "judged" (defArgs s_judged) (defBody s_judged) (defScope s_judged) [] [] (He.fAd K ("judged", none)) fd
  g_judged : mg "judged" = some (.ref (He.ga K "judged"))
  D_judge_told : ∃ fd, FunD K "judge_told" "judge_told" (defArgs s_judge_told) (defBody s_judge_told) (defScope s_judge_told) [] [] (He.fAd K ("judge_told", none)) fd
  g_judge_told : mg "judge_told" = some (.ref (He.ga K "judge_told"))
  D_judge : ∃ fd, FunD K "judge" "judge" (defArgs s_judge) (defBody s_judge) (defScope s_judge) [] [] (He.fAd K ("judge", none)) fd
  g_judge : mg "judge" = some (.ref (He.ga K "judge"))
  kk_Fault : KFault K
  kk_Node : KNode K
  kk_Builder : KBuilder K
  kk_Level : KLevel K
  kk_PatternReader : KPatternReader K
  kk_Pattern : KPattern K
  kk_Refused : KRefused K
  h_Fault : Hit K "Fault"
  h_Refused : Hit K "Refused"
  t_FIGURE_BOUNDS : KFIGURE_BOUNDS K
  t_WORD_BOUNDS : KWORD_BOUNDS K
  t_BLANK_BOUNDS : KBLANK_BOUNDS K
  t_SELF_SIGNS : KSELF_SIGNS K
  t_VALUE_SIGNS : KVALUE_SIGNS K
section
variable {P : Program} {w : World} {K : Ky} {mg : Str → Option Value} {base : Heap}
theorem F_Fault___init__ (T : Tx K mg) : Xi P w K mg base CX0 1 "Fault" ["self", "kind", "place"] (sp_Fault___init__ K) := by
  obtain ⟨fd, FD⟩ := T.D_Fault___init__
  have ok := FD.ok (P := P) (w := w) (mg := mg) (base := base) (CX := CX0) (k := 0) sc_Fault___init__ (len_Fault___init__ K) (fun cdv A outer s H vs Q E hr h => ⟨t_Fault___init__ K E, PSs.nox ((pss_cons (ps_ost (pv 0) (pv 1))
      (pss_one (ps_ost (pv 0) (pv 2))))), pure_Fault___init__ T.kk_Fault vs H Q E h⟩)
  have bd := FD.bindsN (ps := ["self", "kind", "place"]) fun _ _ _ _ _ _ us hl => match us, hl with | [_, _, _], _ => rfl
  exact ⟨⟨fd, ok, bd⟩⟩
theorem F_size_by (T : Tx K mg) : Fn P w K mg base CX0 1 "size_by" ["lead"] (sp_size_by K) := by
  obtain ⟨fd, FD⟩ := T.D_size_by
  have ok := FD.ok (P := P) (w := w) (mg := mg) (base := base) (CX := CX0) (k := 0) sc_size_by (len_size_by K) (fun cdv A outer s H vs Q E hr h => ⟨t_size_by K E, PSs.nox ((pss_cons (ps_if (pt_cmpR op_lt (pv 0) pe_int (nomark_ _)) (pss_one (ps_ret pe_int)) pss_nil)
      (pss_cons (ps_if (pt_chain op_le op_le pe_int (pv 0) pe_int) (pss_one (ps_ret pe_int)) pss_nil)
      (pss_cons (ps_if (pt_chain op_le op_le pe_int (pv 0) pe_int) (pss_one (ps_ret pe_int)) pss_nil)
      (pss_cons (ps_if (pt_chain op_le op_le pe_int (pv 0) pe_int) (pss_one (ps_ret pe_int)) pss_nil)
      (pss_one (ps_ret pe_int))))))), pure_size_by vs H Q E h⟩)
  have bd := FD.bindsN (ps := ["lead"]) fun _ _ _ _ _ _ us hl => match us, hl with | [_], _ => rfl
  exact ⟨⟨fd, ok, bd⟩, T.g_size_by, FD.kp⟩
theorem F_second_bounds (T : Tx K mg) : Fn P w K mg base CX0 1 "second_bounds" ["lead"] (sp_second_bounds K) := by
  obtain ⟨fd, FD⟩ := T.D_second_bounds
  have ok := FD.ok (P := P) (w := w) (mg := mg) (base := base) (CX := CX0) (k := 0) sc_second_bounds (len_second_bounds K) (fun cdv A outer s H vs Q E hr h => ⟨t_second_bounds K E, PSs.nox ((pss_cons (ps_if (pt_cmpR op_eq (pv 0) pe_int (nomark_ _)) (pss_one (ps_ret (pe_tup (pa_cons pe_int (pa_cons pe_int pa_nil))))) pss_nil)
      (pss_cons (ps_if (pt_cmpR op_eq (pv 0) pe_int (nomark_ _)) (pss_one (ps_ret (pe_tup (pa_cons pe_int (pa_cons pe_int pa_nil))))) pss_nil)
      (pss_cons (ps_if (pt_cmpR op_eq (pv 0) pe_int (nomark_ _)) (pss_one (ps_ret (pe_tup (pa_cons pe_int (pa_cons pe_int pa_nil))))) pss_nil)
      (pss_cons (ps_if (pt_cmpR op_eq (pv 0) pe_int (nomark_ _)) (pss_one (ps_ret (pe_tup (pa_cons pe_int (pa_cons pe_int pa_nil))))) pss_nil)
      (pss_one (ps_ret (pe_tup (pa_cons pe_int (pa_cons pe_int pa_nil)))))))))), pure_second_bounds vs H Q E h⟩)
  have bd := FD.bindsN (ps := ["lead"]) fun _ _ _ _ _ _ us hl => match us, hl with | [_], _ => rfl
  exact ⟨⟨fd, ok, bd⟩, T.g_second_bounds, FD.kp⟩
theorem F_bounds_at (T : Tx K mg) : Fn P w K mg base CX0 2 "bounds_at" ["lead", "k"] (sp_bounds_at K) := by
  obtain ⟨fd, FD⟩ := T.D_bounds_at
  have ok := FD.ok (P := P) (w := w) (mg := mg) (base := base) (CX := CX0) (k := 1) sc_bounds_at (len_bounds_at K) (fun cdv A outer s H vs Q E hr h => ⟨t_bounds_at K E, PSs.nox ((pss_cons (ps_if (pt_cmpR op_eq (pv 1) pe_int (nomark_ _)) (pss_one (ps_ret (pe_fn (F_second_bounds T) (hr.mono (by decide)) pass0 (pa_cons (pv 0) pa_nil)))) pss_nil)
      (pss_one (ps_ret (pe_tup (pa_cons pe_int (pa_cons pe_int pa_nil))))))), pure_bounds_at vs H Q E h⟩)
  have bd := FD.bindsN (ps := ["lead", "k"]) fun _ _ _ _ _ _ us hl => match us, hl with | [_, _], _ => rfl
  exact ⟨⟨fd, ok, bd⟩, T.g_bounds_at, FD.kp⟩
theorem F_value_at (T : Tx K mg) : Fn P w K mg base (L2N.CX P w) 3 "value_at" ["text", "at"] (sp_value_at K) := by
  obtain ⟨fd, FD⟩ := T.D_value_at
  have ok := FD.ok (P := P) (w := w) (mg := mg) (base := base) (CX := (L2N.CX P w)) (k := 2) sc_value_at (len_value_at K) (fun cdv A outer s H vs Q E hr h => ⟨t_value_at K E, (pss_cons (ps_set (i := 2) sc_value_at.nd rfl (Or.inl rfl) (pe_ix ix_list (pv 0) (pv 1) (fun _ _ => rfl)))
      (pss_cons (ps_set (i := 3) sc_value_at.nd rfl (Or.inl rfl) (pe_fn (F_size_by T) (hr.mono (by decide)) pass0 (pa_cons (pv 2) pa_nil)))
      (pss_cons (ps_if (pt_cmpR op_eq (pv 3) pe_int (nomark_ _)) (pss_one (ps_raiseON rfl (takesN rfl rfl rfl rfl) (F_Fault___init__ T) T.x_Fault (hr.mono (by decide)) (pa_cons (pe_gint rfl T.i_CANT_STAND) (pa_cons (pv 1) pa_nil)))) pss_nil)
      (pss_cons (ps_set (i := 4) sc_value_at.nd rfl (Or.inl rfl) (pe_op op_sub (pv 2) (pe_ix ix_list (pe_lst (pa_cons pe_int (pa_cons pe_int (pa_cons pe_int (pa_cons pe_int (pa_cons pe_int pa_nil)))))) (pv 3) (fun _ _ => rfl))))
      (pss_cons (ps_for (passes_ownN rfl) rfl (pi_range2 (by rfl) T.f_range (pa_cons pe_int (pa_cons (pv 3) pa_nil))) (pg_name (i := 5) sc_value_at.nd rfl (Or.inl rfl)) (pss_cons (ps_if (pt_cmpR op_eq (pe_op op_add (pv 1) (pv 5)) (pe_callB call_len (by rfl) T.f_len (by decide +kernel) (pa_cons (pv 0) pa_nil)) (nomark_ _)) (pss_one (ps_raiseON rfl (takesN rfl rfl rfl rfl) (F_Fault___init__ T) T.x_Fault (hr.mono (by decide)) (pa_cons (pe_gint rfl T.i_ENDS_TOO_SOON) (pa_cons (pe_op op_add (pv 1) (pv 5)) pa_nil)))) pss_nil)
      (pss_cons (ps_asg (pe_fn (F_bounds_at T) (hr.mono (by decide)) pass0 (pa_cons (pv 2) (pa_cons (pv 5) pa_nil))) (pg_tup rfl (pgs_cons (pg_name (i := 6) sc_value_at.nd rfl (Or.inl rfl)) (pgs_cons (pg_name (i := 7) sc_value_at.nd rfl (Or.inl rfl)) pgs_nil))))
      (pss_cons (ps_if (pt_not (pt_chain op_le op_le (pv 6) (pe_ix ix_list (pv 0) (pe_op op_add (pv 1) (pv 5)) (fun _ _ => rfl)) (pv 7))) (pss_one (ps_raiseON rfl (takesN rfl rfl rfl rfl) (F_Fault___init__ T) T.x_Fault (hr.mono (by decide)) (pa_cons (pe_gint rfl T.i_CANT_STAND) (pa_cons (pe_op op_add (pv 1) (pv 5)) pa_nil)))) pss_nil)
      (pss_one (ps_set (i := 4) sc_value_at.nd rfl (Or.inl rfl) (pe_op op_sub (pe_op op_add (pe_op op_mul pe_int (pv 4)) (pe_ix ix_list (pv 0) (pe_op op_add (pv 1) (pv 5)) (fun _ _ => rfl))) pe_int)))))))
      (pss_one (ps_ret (pe_tup (pa_cons (pv 4) (pa_cons (pv 3) pa_nil)))))))))), pure_value_at vs H Q E h⟩)
  have bd := FD.bindsN (ps := ["text", "at"]) fun _ _ _ _ _ _ us hl => match us, hl with | [_, _], _ => rfl
  exact ⟨⟨fd, ok, bd⟩, T.g_value_at, FD.kp⟩
theorem F_Node___init__ (T : Tx K mg) : Mo P w K mg base CX0 1 "Node" ["self", "kind", "one", "other", "told"] (sp_Node___init__ K) := by
  obtain ⟨fd, FD⟩ := T.D_Node___init__
  have ok := FD.ok (P := P) (w := w) (mg := mg) (base := base) (CX := CX0) (k := 0) sc_Node___init__ (len_Node___init__ K) (fun cdv A outer s H vs Q E hr h => ⟨t_Node___init__ K E, PSs.nox ((pss_cons (ps_fld (pv 0) (pv 1) rfl)
      (pss_cons (ps_fld (pv 0) (pv 2) rfl)
      (pss_cons (ps_fld (pv 0) (pv 3) rfl)
      (pss_one (ps_fld (pv 0) (pv 4) rfl)))))), pure_Node___init__ T.kk_Node vs H Q E h⟩)
  have bd := FD.bindsN (ps := ["self", "kind", "one", "other", "told"]) fun _ _ _ _ _ _ us hl => match us, hl with | [_, _, _, _, _], _ => rfl
  exact ⟨⟨fd, ok, bd⟩, T.k_Node, T.g_Node⟩
theorem F_all_but (T : Tx K mg) : Fn P w K mg base CX0 1 "all_but" ["bounds"] (sp_all_but K) := by
  obtain ⟨fd, FD⟩ := T.D_all_but
  have ok := FD.ok (P := P) (w := w) (mg := mg) (base := base) (CX := CX0) (k := 0) sc_all_but (len_all_but K) (fun cdv A outer s H vs Q E hr h => ⟨t_all_but K E, PSs.nox ((pss_cons (ps_set (i := 1) sc_all_but.nd rfl (Or.inl rfl) (pe_lst pa_nil))
      (pss_cons (ps_set (i := 2) sc_all_but.nd rfl (Or.inl rfl) pe_int)
      (pss_cons (ps_for PassesOwn.never rfl (pi_tup (pv 0)) (pg_tup rfl (pgs_cons (pg_name (i := 3) sc_all_but.nd rfl (Or.inl rfl)) (pgs_cons (pg_name (i := 4) sc_all_but.nd rfl (Or.inl rfl)) pgs_nil))) (pss_cons (ps_if (pt_cmpR op_lt (pv 2) (pv 3) (nomark_ _)) (pss_one (ps_expr (pe_bm PySem.F.plainAttrs_list PySem.F.slot_list_append PySem.F.type_list_append mt_append (pv 1) (pa_cons (pe_tup (pa_cons (pv 2) (pa_cons (pe_op op_sub (pv 3) pe_int) pa_nil))) pa_nil)))) pss_nil)
      (pss_one (ps_set (i := 2) sc_all_but.nd rfl (Or.inl rfl) (pe_op op_add (pv 4) pe_int)))))
      (pss_cons (ps_if (pt_cmpR op_le (pv 2) (pe_gint rfl T.i_GREATEST) (nomark_ _)) (pss_one (ps_expr (pe_bm PySem.F.plainAttrs_list PySem.F.slot_list_append PySem.F.type_list_append mt_append (pv 1) (pa_cons (pe_tup (pa_cons (pv 2) (pa_cons (pe_gint rfl T.i_GREATEST) pa_nil))) pa_nil)))) pss_nil)
      (pss_one (ps_ret (pv 1)))))))), pure_all_but vs H Q E h⟩)
  have bd := FD.bindsN (ps := ["bounds"]) fun _ _ _ _ _ _ us hl => match us, hl with | [_], _ => rfl
  exact ⟨⟨fd, ok, bd⟩, T.g_all_but, FD.kp⟩
theorem F_Builder___init__ (T : Tx K mg) : Mo P w K mg base CX0 1 "Builder" ["self"] (sp_Builder___init__ K) := by
  obtain ⟨fd, FD⟩ := T.D_Builder___init__
  have ok := FD.ok (P := P) (w := w) (mg := mg) (base := base) (CX := CX0) (k := 0) sc_Builder___init__ (len_Builder___init__ K) (fun cdv A outer s H vs Q E hr h => ⟨t_Builder___init__ K E, PSs.nox ((pss_cons (ps_fld (pv 0) (pe_lst pa_nil) rfl)
      (pss_one (ps_fld (pv 0) (pe_lst pa_nil) rfl)))), pure_Builder___init__ T.kk_Builder vs H Q E h⟩)
  have bd := FD.bindsN (ps := ["self"]) fun _ _ _ _ _ _ us hl => match us, hl with | [_], _ => rfl
  exact ⟨⟨fd, ok, bd⟩, T.k_Builder, T.g_Builder⟩
theorem F_Builder_added (T : Tx K mg) : Mt P w K mg base CX0 1 "Builder" "added" ["self", "node", "weight"] (sp_Builder_added K) := by
  obtain ⟨fd, FD⟩ := T.D_Builder_added
  have ok := FD.ok (P := P) (w := w) (mg := mg) (base := base) (CX := CX0) (k := 0) sc_Builder_added (len_Builder_added K) (fun cdv A outer s H vs Q E hr h => ⟨t_Builder_added K E, PSs.nox ((pss_cons (ps_expr (pe_bm PySem.F.plainAttrs_list PySem.F.slot_list_append PySem.F.type_list_append mt_append (pe_fld (pv 0) rfl) (pa_cons (pv 1) pa_nil)))
      (pss_cons (ps_expr (pe_bm PySem.F.plainAttrs_list PySem.F.slot_list_append PySem.F.type_list_append mt_append (pe_fld (pv 0) rfl) (pa_cons (pv 2) pa_nil)))
      (pss_one (ps_ret (pe_op op_sub (pe_callB call_len (by rfl) T.f_len (by decide +kernel) (pa_cons (pe_fld (pv 0) rfl) pa_nil)) pe_int)))))), pure_Builder_added T.kk_Builder vs H Q E h⟩)
  have bd := FD.bindsN (ps := ["self", "node", "weight"]) fun _ _ _ _ _ _ us hl => match us, hl with | [_, _, _], _ => rfl
  exact ⟨⟨fd, ok, bd⟩, T.m_Builder_added, T.c_Builder⟩
theorem F_Builder_test (T : Tx K mg) : Mt P w K mg base CX0 3 "Builder" "test" ["self", "bounds", "is_turned"] (sp_Builder_test K) := by
  obtain ⟨fd, FD⟩ := T.D_Builder_test
  have ok := FD.ok (P := P) (w := w) (mg := mg) (base := base) (CX := CX0) (k := 2) sc_Builder_test (len_Builder_test K) (fun cdv A outer s H vs Q E hr h => ⟨t_Builder_test K E, PSs.nox ((pss_one (ps_ret (pe_mt (pv 0) (F_Builder_added T) (hr.mono (by decide)) pass0 (pa_cons (pe_mko (F_Node___init__ T) (hr.mono (by decide)) pass0 (pa_cons pe_str (pa_cons pe_non (pa_cons pe_non (pa_cons (pe_tup (pa_cons (pv 1) (pa_cons (pv 2) pa_nil))) pa_nil))))) (pa_cons pe_int pa_nil)))))), pure_Builder_test vs H Q E h⟩)
  have bd := FD.bindsN (ps := ["self", "bounds", "is_turned"]) fun _ _ _ _ _ _ us hl => match us, hl with | [_, _, _], _ => rfl
  exact ⟨⟨fd, ok, bd⟩, T.m_Builder_test, T.c_Builder⟩
theorem F_Builder_sign (T : Tx K mg) : Mt P w K mg base CX0 3 "Builder" "sign" ["self", "kind"] (sp_Builder_sign K) := by
  obtain ⟨fd, FD⟩ := T.D_Builder_sign
  have ok := FD.ok (P := P) (w := w) (mg := mg) (base := base) (CX := CX0) (k := 2) sc_Builder_sign (len_Builder_sign K) (fun cdv A outer s H vs Q E hr h => ⟨t_Builder_sign K E, PSs.nox ((pss_one (ps_ret (pe_mt (pv 0) (F_Builder_added T) (hr.mono (by decide)) pass0 (pa_cons (pe_mko (F_Node___init__ T) (hr.mono (by decide)) pass0 (pa_cons (pv 1) (pa_cons pe_non (pa_cons pe_non (pa_cons pe_non pa_nil))))) (pa_cons pe_int pa_nil)))))), pure_Builder_sign vs H Q E h⟩)
  have bd := FD.bindsN (ps := ["self", "kind"]) fun _ _ _ _ _ _ us hl => match us, hl with | [_, _], _ => rfl
  exact ⟨⟨fd, ok, bd⟩, T.m_Builder_sign, T.c_Builder⟩
theorem F_Builder_empty (T : Tx K mg) : Mt P w K mg base CX0 3 "Builder" "empty" ["self"] (sp_Builder_empty K) := by
  obtain ⟨fd, FD⟩ := T.D_Builder_empty
  have ok := FD.ok (P := P) (w := w) (mg := mg) (base := base) (CX := CX0) (k := 2) sc_Builder_empty (len_Builder_empty K) (fun cdv A outer s H vs Q E hr h => ⟨t_Builder_empty K E, PSs.nox ((pss_one (ps_ret (pe_mt (pv 0) (F_Builder_added T) (hr.mono (by decide)) pass0 (pa_cons (pe_mko (F_Node___init__ T) (hr.mono (by decide)) pass0 (pa_cons pe_str (pa_cons pe_non (pa_cons pe_non (pa_cons pe_non pa_nil))))) (pa_cons pe_int pa_nil)))))), pure_Builder_empty vs H Q E h⟩)
  have bd := FD.bindsN (ps := ["self"]) fun _ _ _ _ _ _ us hl => match us, hl with | [_], _ => rfl
  exact ⟨⟨fd, ok, bd⟩, T.m_Builder_empty, T.c_Builder⟩
theorem F_Builder_row (T : Tx K mg) : Mt P w K mg base CX0 4 "Builder" "row" ["self", "parts"] (sp_Builder_row K) := by
  obtain ⟨fd, FD⟩ := T.D_Builder_row
  have ok := FD.ok (P := P) (w := w) (mg := mg) (base := base) (CX := CX0) (k := 3) sc_Builder_row (len_Builder_row K) (fun cdv A outer s H vs Q E hr h => ⟨t_Builder_row K E, PSs.nox ((pss_cons (ps_set (i := 2) sc_Builder_row.nd rfl (Or.inl rfl) (pe_mt0 (pv 0) (F_Builder_empty T) (hr.mono (by decide)) pass0))
      (pss_cons (ps_for PassesOwn.never rfl (pi_list (pe_revL (pv 1))) (pg_name (i := 3) sc_Builder_row.nd rfl (Or.inl rfl)) (pss_cons (ps_set (i := 4) sc_Builder_row.nd rfl (Or.inl rfl) (pe_op op_add (pe_ix ix_list (pe_fld (pv 0) rfl) (pv 3) (fun _ _ => rfl)) (pe_ix ix_list (pe_fld (pv 0) rfl) (pv 2) (fun _ _ => rfl))))
      (pss_one (ps_set (i := 2) sc_Builder_row.nd rfl (Or.inl rfl) (pe_mt (pv 0) (F_Builder_added T) (hr.mono (by decide)) pass0 (pa_cons (pe_mko (F_Node___init__ T) (hr.mono (by decide)) pass0 (pa_cons pe_str (pa_cons (pv 3) (pa_cons (pv 2) (pa_cons pe_non pa_nil))))) (pa_cons (pv 4) pa_nil)))))))
      (pss_one (ps_ret (pv 2)))))), pure_Builder_row T.kk_Builder vs H Q E h⟩)
  have bd := FD.bindsN (ps := ["self", "parts"]) fun _ _ _ _ _ _ us hl => match us, hl with | [_, _], _ => rfl
  exact ⟨⟨fd, ok, bd⟩, T.m_Builder_row, T.c_Builder⟩
theorem F_Builder_one_of (T : Tx K mg) : Mt P w K mg base CX0 3 "Builder" "one_of" ["self", "some"] (sp_Builder_one_of K) := by
  obtain ⟨fd, FD⟩ := T.D_Builder_one_of
  have ok := FD.ok (P := P) (w := w) (mg := mg) (base := base) (CX := CX0) (k := 2) sc_Builder_one_of (len_Builder_one_of K) (fun cdv A outer s H vs Q E hr h => ⟨t_Builder_one_of K E, PSs.nox ((pss_cons (ps_set (i := 2) sc_Builder_one_of.nd rfl (Or.inl rfl) (pe_ix ix_list (pv 1) (pe_un un_neg pe_int) (fun _ _ => rfl)))
      (pss_cons (ps_for PassesOwn.never rfl (pi_list (pe_revL (pe_slice sl_list (pv 1) po_none (po_some (pe_un un_neg pe_int))))) (pg_name (i := 3) sc_Builder_one_of.nd rfl (Or.inl rfl)) (pss_cons (ps_set (i := 4) sc_Builder_one_of.nd rfl (Or.inl rfl) (pe_op op_add (pe_ix ix_list (pe_fld (pv 0) rfl) (pv 3) (fun _ _ => rfl)) (pe_ix ix_list (pe_fld (pv 0) rfl) (pv 2) (fun _ _ => rfl))))
      (pss_one (ps_set (i := 2) sc_Builder_one_of.nd rfl (Or.inl rfl) (pe_mt (pv 0) (F_Builder_added T) (hr.mono (by decide)) pass0 (pa_cons (pe_mko (F_Node___init__ T) (hr.mono (by decide)) pass0 (pa_cons pe_str (pa_cons (pv 3) (pa_cons (pv 2) (pa_cons pe_non pa_nil))))) (pa_cons (pv 4) pa_nil)))))))
      (pss_one (ps_ret (pv 2)))))), pure_Builder_one_of T.kk_Builder vs H Q E h⟩)
  have bd := FD.bindsN (ps := ["self", "some"]) fun _ _ _ _ _ _ us hl => match us, hl with | [_, _], _ => rfl
  exact ⟨⟨fd, ok, bd⟩, T.m_Builder_one_of, T.c_Builder⟩
theorem F_Builder_named (T : Tx K mg) : Mt P w K mg base CX0 3 "Builder" "named" ["self", "inner", "name"] (sp_Builder_named K) := by
  obtain ⟨fd, FD⟩ := T.D_Builder_named
  have ok := FD.ok (P := P) (w := w) (mg := mg) (base := base) (CX := CX0) (k := 2) sc_Builder_named (len_Builder_named K) (fun cdv A outer s H vs Q E hr h => ⟨t_Builder_named K E, PSs.nox ((pss_one (ps_ret (pe_mt (pv 0) (F_Builder_added T) (hr.mono (by decide)) pass0 (pa_cons (pe_mko (F_Node___init__ T) (hr.mono (by decide)) pass0 (pa_cons pe_str (pa_cons (pv 1) (pa_cons pe_non (pa_cons (pv 2) pa_nil))))) (pa_cons (pe_ix ix_list (pe_fld (pv 0) rfl) (pv 1) (fun _ _ => rfl)) pa_nil)))))), pure_Builder_named T.kk_Builder vs H Q E h⟩)
  have bd := FD.bindsN (ps := ["self", "inner", "name"]) fun _ _ _ _ _ _ us hl => match us, hl with | [_, _, _], _ => rfl
  exact ⟨⟨fd, ok, bd⟩, T.m_Builder_named, T.c_Builder⟩
theorem F_Builder_endless (T : Tx K mg) : Mt P w K mg base CX0 3 "Builder" "endless" ["self", "inner", "least"] (sp_Builder_endless K) := by
  obtain ⟨fd, FD⟩ := T.D_Builder_endless
  have ok := FD.ok (P := P) (w := w) (mg := mg) (base := base) (CX := CX0) (k := 2) sc_Builder_endless (len_Builder_endless K) (fun cdv A outer s H vs Q E hr h => ⟨t_Builder_endless K E, PSs.nox ((pss_cons (ps_set (i := 3) sc_Builder_endless.nd rfl (Or.inl rfl) (pe_op op_mul (pe_callB (call_max2 rfl) (by rfl) T.f_max (by decide +kernel) (pa_cons pe_int (pa_cons (pv 2) pa_nil))) (pe_ix ix_list (pe_fld (pv 0) rfl) (pv 1) (fun _ _ => rfl))))
      (pss_cons (ps_set (i := 4) sc_Builder_endless.nd rfl (Or.inl rfl) (pe_mt (pv 0) (F_Builder_added T) (hr.mono (by decide)) pass0 (pa_cons (pe_mko (F_Node___init__ T) (hr.mono (by decide)) pass0 (pa_cons pe_str (pa_cons (pv 1) (pa_cons pe_non (pa_cons pe_bl pa_nil))))) (pa_cons (pv 3) pa_nil))))
      (pss_cons (ps_for PassesOwn.never rfl (pi_range1 (by rfl) T.f_range (pa_cons (pv 2) pa_nil)) (pg_name (i := 5) sc_Builder_endless.nd rfl (Or.inl rfl)) (pss_one (ps_set (i := 4) sc_Builder_endless.nd rfl (Or.inl rfl) (pe_mt (pv 0) (F_Builder_added T) (hr.mono (by decide)) pass0 (pa_cons (pe_mko (F_Node___init__ T) (hr.mono (by decide)) pass0 (pa_cons pe_str (pa_cons (pv 1) (pa_cons (pv 4) (pa_cons pe_bl pa_nil))))) (pa_cons (pv 3) pa_nil))))))
      (pss_one (ps_ret (pv 4))))))), pure_Builder_endless T.kk_Builder vs H Q E h⟩)
  have bd := FD.bindsN (ps := ["self", "inner", "least"]) fun _ _ _ _ _ _ us hl => match us, hl with | [_, _, _], _ => rfl
  exact ⟨⟨fd, ok, bd⟩, T.m_Builder_endless, T.c_Builder⟩
theorem F_Builder_often (T : Tx K mg) : Mt P w K mg base CX0 4 "Builder" "often" ["self", "inner", "least", "most"] (sp_Builder_often K) := by
  obtain ⟨fd, FD⟩ := T.D_Builder_often
  have ok := FD.ok (P := P) (w := w) (mg := mg) (base := base) (CX := CX0) (k := 3) sc_Builder_often (len_Builder_often K) (fun cdv A outer s H vs Q E hr h => ⟨t_Builder_often K E, PSs.nox ((pss_cons (ps_if (pt_cmpR op_isN (pv 3) pe_non (nomark_ _)) (pss_one (ps_ret (pe_mt (pv 0) (F_Builder_endless T) (hr.mono (by decide)) pass0 (pa_cons (pv 1) (pa_cons (pv 2) pa_nil))))) pss_nil)
      (pss_cons (ps_set (i := 4) sc_Builder_often.nd rfl (Or.inl rfl) (pe_mt0 (pv 0) (F_Builder_empty T) (hr.mono (by decide)) pass0))
      (pss_cons (ps_for PassesOwn.never rfl (pi_revR (by rfl) T.f_reversed (prg_1 (by rfl) T.f_range (pv 3))) (pg_name (i := 5) sc_Builder_often.nd rfl (Or.inl rfl)) (pss_one (ps_set (i := 4) sc_Builder_often.nd rfl (Or.inl rfl) (pe_mt (pv 0) (F_Builder_added T) (hr.mono (by decide)) pass0 (pa_cons (pe_mko (F_Node___init__ T) (hr.mono (by decide)) pass0 (pa_cons pe_str (pa_cons (pv 1) (pa_cons (pv 4) (pa_cons (pe_cmpR op_ge (pv 5) (pv 2) (nomark_ _)) pa_nil))))) (pa_cons (pe_op op_mul (pv 3) (pe_ix ix_list (pe_fld (pv 0) rfl) (pv 1) (fun _ _ => rfl))) pa_nil))))))
      (pss_one (ps_ret (pv 4))))))), pure_Builder_often T.kk_Builder vs H Q E h⟩)
  have bd := FD.bindsN (ps := ["self", "inner", "least", "most"]) fun _ _ _ _ _ _ us hl => match us, hl with | [_, _, _, _], _ => rfl
  exact ⟨⟨fd, ok, bd⟩, T.m_Builder_often, T.c_Builder⟩
theorem F_class_bounds (T : Tx K mg) : Fn P w K mg base CX0 2 "class_bounds" ["byte"] (sp_class_bounds K) := by
  obtain ⟨fd, FD⟩ := T.D_class_bounds
  have ok := FD.ok (P := P) (w := w) (mg := mg) (base := base) (CX := CX0) (k := 1) sc_class_bounds (len_class_bounds K) (fun cdv A outer s H vs Q E hr h => ⟨t_class_bounds K E, PSs.nox ((pss_cons (ps_if (pt_cmpR op_eq (pv 0) pe_int (nomark_ _)) (pss_one (ps_ret (pe_callTy call_list_of (by rfl) T.f_list (by decide +kernel) (pa_cons (pe_glob rfl T.o_FIGURE_BOUNDS rfl) pa_nil)))) pss_nil)
      (pss_cons (ps_if (pt_cmpR op_eq (pv 0) pe_int (nomark_ _)) (pss_one (ps_ret (pe_callTy call_list_of (by rfl) T.f_list (by decide +kernel) (pa_cons (pe_glob rfl T.o_WORD_BOUNDS rfl) pa_nil)))) pss_nil)
      (pss_cons (ps_if (pt_cmpR op_eq (pv 0) pe_int (nomark_ _)) (pss_one (ps_ret (pe_callTy call_list_of (by rfl) T.f_list (by decide +kernel) (pa_cons (pe_glob rfl T.o_BLANK_BOUNDS rfl) pa_nil)))) pss_nil)
      (pss_cons (ps_if (pt_cmpR op_eq (pv 0) pe_int (nomark_ _)) (pss_one (ps_ret (pe_fn (F_all_but T) (hr.mono (by decide)) pass0 (pa_cons (pe_glob rfl T.o_FIGURE_BOUNDS rfl) pa_nil)))) pss_nil)
      (pss_cons (ps_if (pt_cmpR op_eq (pv 0) pe_int (nomark_ _)) (pss_one (ps_ret (pe_fn (F_all_but T) (hr.mono (by decide)) pass0 (pa_cons (pe_glob rfl T.o_WORD_BOUNDS rfl) pa_nil)))) pss_nil)
      (pss_cons (ps_if (pt_cmpR op_eq (pv 0) pe_int (nomark_ _)) (pss_one (ps_ret (pe_fn (F_all_but T) (hr.mono (by decide)) pass0 (pa_cons (pe_glob rfl T.o_BLANK_BOUNDS rfl) pa_nil)))) pss_nil)
      (pss_one (ps_ret pe_non))))))))), pure_class_bounds T.t_FIGURE_BOUNDS T.t_WORD_BOUNDS T.t_BLANK_BOUNDS vs H Q E h⟩)
  have bd := FD.bindsN (ps := ["byte"]) fun _ _ _ _ _ _ us hl => match us, hl with | [_], _ => rfl
  exact ⟨⟨fd, ok, bd⟩, T.g_class_bounds, FD.kp⟩
theorem F_is_figure (T : Tx K mg) : Fn P w K mg base CX0 1 "is_figure" ["byte"] (sp_is_figure K) := by
  obtain ⟨fd, FD⟩ := T.D_is_figure
  have ok := FD.ok (P := P) (w := w) (mg := mg) (base := base) (CX := CX0) (k := 0) sc_is_figure (len_is_figure K) (fun cdv A outer s H vs Q E hr h => ⟨t_is_figure K E, PSs.nox ((pss_one (ps_ret (pe_chain op_le op_le (pe_gint rfl T.i_NOUGHT) (pv 0) (pe_op op_add (pe_gint rfl T.i_NOUGHT) pe_int))))), pure_is_figure vs H Q E h⟩)
  have bd := FD.bindsN (ps := ["byte"]) fun _ _ _ _ _ _ us hl => match us, hl with | [_], _ => rfl
  exact ⟨⟨fd, ok, bd⟩, T.g_is_figure, FD.kp⟩
theorem F_is_small (T : Tx K mg) : Fn P w K mg base CX0 1 "is_small" ["byte"] (sp_is_small K) := by
  obtain ⟨fd, FD⟩ := T.D_is_small
  have ok := FD.ok (P := P) (w := w) (mg := mg) (base := base) (CX := CX0) (k := 0) sc_is_small (len_is_small K) (fun cdv A outer s H vs Q E hr h => ⟨t_is_small K E, PSs.nox ((pss_one (ps_ret (pe_chain op_le op_le pe_int (pv 0) pe_int)))), pure_is_small vs H Q E h⟩)
  have bd := FD.bindsN (ps := ["byte"]) fun _ _ _ _ _ _ us hl => match us, hl with | [_], _ => rfl
  exact ⟨⟨fd, ok, bd⟩, T.g_is_small, FD.kp⟩
theorem F_is_in_name (T : Tx K mg) : Fn P w K mg base CX0 2 "is_in_name" ["byte"] (sp_is_in_name K) := by
  obtain ⟨fd, FD⟩ := T.D_is_in_name
  have ok := FD.ok (P := P) (w := w) (mg := mg) (base := base) (CX := CX0) (k := 1) sc_is_in_name (len_is_in_name K) (fun cdv A outer s H vs Q E hr h => ⟨t_is_in_name K E, PSs.nox ((pss_one (ps_ret (pe_or (pe_fn (F_is_small T) (hr.mono (by decide)) pass0 (pa_cons (pv 0) pa_nil)) (pe_or (pe_fn (F_is_figure T) (hr.mono (by decide)) pass0 (pa_cons (pv 0) pa_nil)) (pe_one (pe_cmpR op_eq (pv 0) pe_int (nomark_ _)))))))), pure_is_in_name vs H Q E h⟩)
  have bd := FD.bindsN (ps := ["byte"]) fun _ _ _ _ _ _ us hl => match us, hl with | [_], _ => rfl
  exact ⟨⟨fd, ok, bd⟩, T.g_is_in_name, FD.kp⟩
theorem F_Level___init__ (T : Tx K mg) : Mo P w K mg base CX0 1 "Level" ["self", "closing", "name"] (sp_Level___init__ K) := by
  obtain ⟨fd, FD⟩ := T.D_Level___init__
  have ok := FD.ok (P := P) (w := w) (mg := mg) (base := base) (CX := CX0) (k := 0) sc_Level___init__ (len_Level___init__ K) (fun cdv A outer s H vs Q E hr h => ⟨t_Level___init__ K E, PSs.nox ((pss_cons (ps_fld (pv 0) (pv 1) rfl)
      (pss_cons (ps_fld (pv 0) (pv 2) rfl)
      (pss_cons (ps_fld (pv 0) (pe_lst pa_nil) rfl)
      (pss_one (ps_fld (pv 0) (pe_lst pa_nil) rfl)))))), pure_Level___init__ T.kk_Level vs H Q E h⟩)
  have bd := FD.bindsN (ps := ["self", "closing", "name"]) fun _ _ _ _ _ _ us hl => match us, hl with | [_, _, _], _ => rfl
  exact ⟨⟨fd, ok, bd⟩, T.k_Level, T.g_Level⟩
theorem F_PatternReader___init__ (T : Tx K mg) : Mo P w K mg base CX0 3 "PatternReader" ["self", "text"] (sp_PatternReader___init__ K) := by
  obtain ⟨fd, FD⟩ := T.D_PatternReader___init__
  have ok := FD.ok (P := P) (w := w) (mg := mg) (base := base) (CX := CX0) (k := 2) sc_PatternReader___init__ (len_PatternReader___init__ K) (fun cdv A outer s H vs Q E hr h => ⟨t_PatternReader___init__ K E, PSs.nox ((pss_cons (ps_fld (pv 0) (pv 1) rfl)
      (pss_cons (ps_fld (pv 0) pe_int rfl)
      (pss_cons (ps_fld (pv 0) (pe_mko0 (F_Builder___init__ T) (hr.mono (by decide)) pass0) rfl)
      (pss_cons (ps_fld (pv 0) (pe_lst pa_nil) rfl)
      (pss_cons (ps_fld (pv 0) (pe_lst (pa_cons (pe_mko (F_Level___init__ T) (hr.mono (by decide)) pass0 (pa_cons pe_non (pa_cons pe_non pa_nil))) pa_nil)) rfl)
      (pss_one (ps_fld (pv 0) pe_bl rfl)))))))), pure_PatternReader___init__ T.kk_PatternReader vs H Q E h⟩)
  have bd := FD.bindsN (ps := ["self", "text"]) fun _ _ _ _ _ _ us hl => match us, hl with | [_, _], _ => rfl
  exact ⟨⟨fd, ok, bd⟩, T.k_PatternReader, T.g_PatternReader⟩
theorem F_PatternReader_byte (T : Tx K mg) : Mt P w K mg base (L2N.CX P w) 3 "PatternReader" "byte" ["self"] (sp_PatternReader_byte K) := by
  obtain ⟨fd, FD⟩ := T.D_PatternReader_byte
  have ok := FD.ok (P := P) (w := w) (mg := mg) (base := base) (CX := (L2N.CX P w)) (k := 2) sc_PatternReader_byte (len_PatternReader_byte K) (fun cdv A outer s H vs Q E hr h => ⟨t_PatternReader_byte K E, (pss_cons (ps_if (pt_cmpR op_eq (pe_fld (pv 0) rfl) (pe_callB call_len (by rfl) T.f_len (by decide +kernel) (pa_cons (pe_fld (pv 0) rfl) pa_nil)) (nomark_ _)) (pss_one (ps_raiseON rfl (takesN rfl rfl rfl rfl) (F_Fault___init__ T) T.x_Fault (hr.mono (by decide)) (pa_cons (pe_gint rfl T.i_ENDS_TOO_SOON) (pa_cons (pe_fld (pv 0) rfl) pa_nil)))) pss_nil)
      (pss_one (ps_ret (pe_ix ix_list (pe_fld (pv 0) rfl) (pe_fld (pv 0) rfl) (fun _ _ => rfl))))), pure_PatternReader_byte T.kk_PatternReader vs H Q E h⟩)
  have bd := FD.bindsN (ps := ["self"]) fun _ _ _ _ _ _ us hl => match us, hl with | [_], _ => rfl
  exact ⟨⟨fd, ok, bd⟩, T.m_PatternReader_byte, T.c_PatternReader⟩
theorem F_PatternReader_bar_from (T : Tx K mg) : Mt P w K mg base (L2N.CX P w) 3 "PatternReader" "bar_from" ["self", "right"] (sp_PatternReader_bar_from K) := by
  obtain ⟨fd, FD⟩ := T.D_PatternReader_bar_from
  have ok := FD.ok (P := P) (w := w) (mg := mg) (base := base) (CX := (L2N.CX P w)) (k := 2) sc_PatternReader_bar_from (len_PatternReader_bar_from K) (fun cdv A outer s H vs Q E hr h => ⟨t_PatternReader_bar_from K E, (pss_one (ps_if (pt_not (pt_val (pv 1))) (pss_one (ps_raiseON rfl (takesN rfl rfl rfl rfl) (F_Fault___init__ T) T.x_Fault (hr.mono (by decide)) (pa_cons (pe_gint rfl T.i_CANT_STAND) (pa_cons (pe_fld (pv 0) rfl) pa_nil)))) pss_nil)), pure_PatternReader_bar_from T.kk_PatternReader vs H Q E h⟩)
  have bd := FD.bindsN (ps := ["self", "right"]) fun _ _ _ _ _ _ us hl => match us, hl with | [_, _], _ => rfl
  exact ⟨⟨fd, ok, bd⟩, T.m_PatternReader_bar_from, T.c_PatternReader⟩
theorem F_PatternReader_level (T : Tx K mg) : Mt P w K mg base CX0 1 "PatternReader" "level" ["self"] (sp_PatternReader_level K) := by
  obtain ⟨fd, FD⟩ := T.D_PatternReader_level
  have ok := FD.ok (P := P) (w := w) (mg := mg) (base := base) (CX := CX0) (k := 0) sc_PatternReader_level (len_PatternReader_level K) (fun cdv A outer s H vs Q E hr h => ⟨t_PatternReader_level K E, PSs.nox ((pss_one (ps_ret (pe_ix ix_list (pe_fld (pv 0) rfl) (pe_un un_neg pe_int) (fun _ _ => rfl))))), pure_PatternReader_level T.kk_PatternReader vs H Q E h⟩)
  have bd := FD.bindsN (ps := ["self"]) fun _ _ _ _ _ _ us hl => match us, hl with | [_], _ => rfl
  exact ⟨⟨fd, ok, bd⟩, T.m_PatternReader_level, T.c_PatternReader⟩
theorem F_PatternReader_add (T : Tx K mg) : Mt P w K mg base CX0 2 "PatternReader" "add" ["self", "node"] (sp_PatternReader_add K) := by
  obtain ⟨fd, FD⟩ := T.D_PatternReader_add
  have ok := FD.ok (P := P) (w := w) (mg := mg) (base := base) (CX := CX0) (k := 1) sc_PatternReader_add (len_PatternReader_add K) (fun cdv A outer s H vs Q E hr h => ⟨t_PatternReader_add K E, PSs.nox ((pss_cons (ps_expr (pe_bm PySem.F.plainAttrs_list PySem.F.slot_list_append PySem.F.type_list_append mt_append (pe_fld (pe_mt0 (pv 0) (F_PatternReader_level T) (hr.mono (by decide)) pass0) rfl) (pa_cons (pv 1) pa_nil)))
      (pss_one (ps_fld (pv 0) pe_bl rfl)))), pure_PatternReader_add T.kk_PatternReader T.kk_Level vs H Q E h⟩)
  have bd := FD.bindsN (ps := ["self", "node"]) fun _ _ _ _ _ _ us hl => match us, hl with | [_, _], _ => rfl
  exact ⟨⟨fd, ok, bd⟩, T.m_PatternReader_add, T.c_PatternReader⟩
theorem F_PatternReader_end_row (T : Tx K mg) : Mt P w K mg base CX0 5 "PatternReader" "end_row" ["self"] (sp_PatternReader_end_row K) := by
  obtain ⟨fd, FD⟩ := T.D_PatternReader_end_row
  have ok := FD.ok (P := P) (w := w) (mg := mg) (base := base) (CX := CX0) (k := 4) sc_PatternReader_end_row (len_PatternReader_end_row K) (fun cdv A outer s H vs Q E hr h => ⟨t_PatternReader_end_row K E, PSs.nox ((pss_cons (ps_set (i := 1) sc_PatternReader_end_row.nd rfl (Or.inl rfl) (pe_mt0 (pv 0) (F_PatternReader_level T) (hr.mono (by decide)) pass0))
      (pss_cons (ps_expr (pe_bm PySem.F.plainAttrs_list PySem.F.slot_list_append PySem.F.type_list_append mt_append (pe_fld (pv 1) rfl) (pa_cons (pe_mt (pe_fld (pv 0) rfl) (F_Builder_row T) (hr.mono (by decide)) pass0 (pa_cons (pe_fld (pv 1) rfl) pa_nil)) pa_nil)))
      (pss_cons (ps_fld (pv 1) (pe_lst pa_nil) rfl)
      (pss_one (ps_fld (pv 0) pe_bl rfl)))))), pure_PatternReader_end_row T.kk_PatternReader T.kk_Level vs H Q E h⟩)
  have bd := FD.bindsN (ps := ["self"]) fun _ _ _ _ _ _ us hl => match us, hl with | [_], _ => rfl
  exact ⟨⟨fd, ok, bd⟩, T.m_PatternReader_end_row, T.c_PatternReader⟩
theorem F_PatternReader_close (T : Tx K mg) : Mt P w K mg base (L2N.CX P w) 6 "PatternReader" "close" ["self", "byte"] (sp_PatternReader_close K) := by
  obtain ⟨fd, FD⟩ := T.D_PatternReader_close
  have ok := FD.ok (P := P) (w := w) (mg := mg) (base := base) (CX := (L2N.CX P w)) (k := 5) sc_PatternReader_close (len_PatternReader_close K) (fun cdv A outer s H vs Q E hr h => ⟨t_PatternReader_close K E, (pss_cons (ps_expr (pe_mt (pv 0) (F_PatternReader_bar_from T) (hr.mono (by decide)) (passN rfl rfl rfl rfl) (pa_cons (pe_cmpR op_eq (pe_fld (pe_mt0 (pv 0) (F_PatternReader_level T) (hr.mono (by decide)) pass0) rfl) (pv 1) (nomark_ _)) pa_nil)))
      (pss_cons (ps_expr (pe_mt0 (pv 0) (F_PatternReader_end_row T) (hr.mono (by decide)) pass0))
      (pss_cons (ps_set (i := 2) sc_PatternReader_close.nd rfl (Or.inl rfl) (pe_bm0 PySem.F.plainAttrs_list PySem.F.slot_list_pop PySem.F.type_list_pop mt_pop (pe_fld (pv 0) rfl)))
      (pss_cons (ps_set (i := 3) sc_PatternReader_close.nd rfl (Or.inl rfl) (pe_mt (pe_fld (pv 0) rfl) (F_Builder_one_of T) (hr.mono (by decide)) pass0 (pa_cons (pe_fld (pv 2) rfl) pa_nil)))
      (pss_cons (ps_if (pt_cmpR op_notN (pe_fld (pv 2) rfl) pe_non (nomark_ _)) (pss_one (ps_set (i := 3) sc_PatternReader_close.nd rfl (Or.inl rfl) (pe_mt (pe_fld (pv 0) rfl) (F_Builder_named T) (hr.mono (by decide)) pass0 (pa_cons (pv 3) (pa_cons (pe_fld (pv 2) rfl) pa_nil))))) pss_nil)
      (pss_cons (ps_fld (pv 0) (pe_op op_add (pe_fld (pv 0) rfl) pe_int) rfl)
      (pss_one (ps_expr (pe_mt (pv 0) (F_PatternReader_add T) (hr.mono (by decide)) pass0 (pa_cons (pv 3) pa_nil)))))))))), pure_PatternReader_close T.kk_PatternReader T.kk_Level vs H Q E h⟩)
  have bd := FD.bindsN (ps := ["self", "byte"]) fun _ _ _ _ _ _ us hl => match us, hl with | [_, _], _ => rfl
  exact ⟨⟨fd, ok, bd⟩, T.m_PatternReader_close, T.c_PatternReader⟩
theorem F_PatternReader_is_new_name (T : Tx K mg) : Mt P w K mg base CX0 1 "PatternReader" "is_new_name" ["self", "name"] (sp_PatternReader_is_new_name K) := by
  obtain ⟨fd, FD⟩ := T.D_PatternReader_is_new_name
  have ok := FD.ok (P := P) (w := w) (mg := mg) (base := base) (CX := CX0) (k := 0) sc_PatternReader_is_new_name (len_PatternReader_is_new_name K) (fun cdv A outer s H vs Q E hr h => ⟨t_PatternReader_is_new_name K E, PSs.nox ((pss_cons (ps_if (PW.pt (pw_or (pt_cmpR op_gt (pe_callB call_len (by rfl) T.f_len (by decide +kernel) (pa_cons (pv 1) pa_nil)) (pe_gint rfl T.i_MOST_NAME) (nomark_ _)) (pw_or1 (pt_cmpR op_eq (pe_callB call_len (by rfl) T.f_len (by decide +kernel) (pa_cons (pe_fld (pv 0) rfl) pa_nil)) (pe_gint rfl T.i_MOST_NAMES) (nomark_ _))))) (pss_one (ps_ret pe_bl)) pss_nil)
      (pss_one (ps_ret (pe_cmpR (op_notInD (units65 hr)) (pv 1) (pe_lc (own := [("start", 2), ("size", 3)]) (g := (gTup K 2 (gCons (gName 2) (gCons (gName 3) gNil)))) (tt := tYes) (by rfl) sc_PatternReader_is_new_name.nd (pi_list (pe_fld (pv 0) rfl)) (blkOk_by (N := N_PatternReader_is_new_name) (sc := defScope s_PatternReader_is_new_name) (by decide +kernel)) (fun _ _ _ _ _ => pg_tup rfl (pgs_cons (pg_name (i := 2) sc_PatternReader_is_new_name.nd rfl (Or.inl rfl)) (pgs_cons (pg_name (i := 3) sc_PatternReader_is_new_name.nd rfl (Or.inl rfl)) pgs_nil))) (fun _ _ _ _ _ => pts_nil) (fun _ _ _ _ _ => (pe_slice sl_list (pe_fld (pv 0) rfl) (po_some (pv 2)) (po_some (pe_op op_add (pv 2) (pv 3)))))) (by rfl)))))), pure_PatternReader_is_new_name T.kk_PatternReader vs H Q E h⟩)
  have bd := FD.bindsN (ps := ["self", "name"]) fun _ _ _ _ _ _ us hl => match us, hl with | [_, _], _ => rfl
  exact ⟨⟨fd, ok, bd⟩, T.m_PatternReader_is_new_name, T.c_PatternReader⟩
theorem F_PatternReader_take_name (T : Tx K mg) : Mt P w K mg base (L2N.CX P w) 4 "PatternReader" "take_name" ["self"] (sp_PatternReader_take_name K) := by
  obtain ⟨fd, FD⟩ := T.D_PatternReader_take_name
  have ok := FD.ok (P := P) (w := w) (mg := mg) (base := base) (CX := (L2N.CX P w)) (k := 3) sc_PatternReader_take_name (len_PatternReader_take_name K) (fun cdv A outer s H vs Q E hr h => ⟨t_PatternReader_take_name K E, (pss_cons (ps_set (i := 1) sc_PatternReader_take_name.nd rfl (Or.inl rfl) (pe_fld (pv 0) rfl))
      (pss_cons (ps_expr (pe_mt (pv 0) (F_PatternReader_bar_from T) (hr.mono (by decide)) (passN rfl rfl rfl rfl) (pa_cons (pe_fn (F_is_small T) (hr.mono (by decide)) pass0 (pa_cons (pe_mt0 (pv 0) (F_PatternReader_byte T) (hr.mono (by decide)) (passN rfl rfl rfl rfl)) pa_nil)) pa_nil)))
      (pss_cons (ps_while (passes_ownN rfl) (pt_val (pe_fn (F_is_in_name T) (hr.mono (by decide)) pass0 (pa_cons (pe_mt0 (pv 0) (F_PatternReader_byte T) (hr.mono (by decide)) (passN rfl rfl rfl rfl)) pa_nil))) (pss_one (ps_fld (pv 0) (pe_op op_add (pe_fld (pv 0) rfl) pe_int) rfl)))
      (pss_cons (ps_if (pt_not (pt_val (pe_mt (pv 0) (F_PatternReader_is_new_name T) (hr.mono (by decide)) pass0 (pa_cons (pe_slice sl_list (pe_fld (pv 0) rfl) (po_some (pv 1)) (po_some (pe_fld (pv 0) rfl))) pa_nil)))) (pss_one (ps_raiseON rfl (takesN rfl rfl rfl rfl) (F_Fault___init__ T) T.x_Fault (hr.mono (by decide)) (pa_cons (pe_gint rfl T.i_WRONG_NAME) (pa_cons (pv 1) pa_nil)))) pss_nil)
      (pss_cons (ps_expr (pe_bm PySem.F.plainAttrs_list PySem.F.slot_list_append PySem.F.type_list_append mt_append (pe_fld (pv 0) rfl) (pa_cons (pe_tup (pa_cons (pv 1) (pa_cons (pe_op op_sub (pe_fld (pv 0) rfl) (pv 1)) pa_nil))) pa_nil)))
      (pss_cons (ps_expr (pe_mt (pv 0) (F_PatternReader_bar_from T) (hr.mono (by decide)) (passN rfl rfl rfl rfl) (pa_cons (pe_cmpR op_eq (pe_mt0 (pv 0) (F_PatternReader_byte T) (hr.mono (by decide)) (passN rfl rfl rfl rfl)) (pe_gint rfl T.i_BLANK) (nomark_ _)) pa_nil)))
      (pss_one (ps_fld (pv 0) (pe_op op_add (pe_fld (pv 0) rfl) pe_int) rfl)))))))), pure_PatternReader_take_name T.kk_PatternReader vs H Q E h⟩)
  have bd := FD.bindsN (ps := ["self"]) fun _ _ _ _ _ _ us hl => match us, hl with | [_], _ => rfl
  exact ⟨⟨fd, ok, bd⟩, T.m_PatternReader_take_name, T.c_PatternReader⟩
theorem F_PatternReader_open_level (T : Tx K mg) : Mt P w K mg base (L2N.CX P w) 5 "PatternReader" "open_level" ["self", "byte"] (sp_PatternReader_open_level K) := by
  obtain ⟨fd, FD⟩ := T.D_PatternReader_open_level
  have ok := FD.ok (P := P) (w := w) (mg := mg) (base := base) (CX := (L2N.CX P w)) (k := 4) sc_PatternReader_open_level (len_PatternReader_open_level K) (fun cdv A outer s H vs Q E hr h => ⟨t_PatternReader_open_level K E, (pss_cons (ps_if (pt_cmpR op_gt (pe_callB call_len (by rfl) T.f_len (by decide +kernel) (pa_cons (pe_fld (pv 0) rfl) pa_nil)) (pe_gint rfl T.i_MOST_OPEN) (nomark_ _)) (pss_one (ps_raiseON rfl (takesN rfl rfl rfl rfl) (F_Fault___init__ T) T.x_Fault (hr.mono (by decide)) (pa_cons (pe_gint rfl T.i_TOO_DEEP) (pa_cons (pe_fld (pv 0) rfl) pa_nil)))) pss_nil)
      (pss_cons (ps_fld (pv 0) (pe_op op_add (pe_fld (pv 0) rfl) pe_int) rfl)
      (pss_cons (ps_if (pt_cmpR op_eq (pv 1) (pe_gint rfl T.i_OPEN) (nomark_ _)) (pss_one (ps_expr (pe_bm PySem.F.plainAttrs_list PySem.F.slot_list_append PySem.F.type_list_append mt_append (pe_fld (pv 0) rfl) (pa_cons (pe_mko (F_Level___init__ T) (hr.mono (by decide)) pass0 (pa_cons (pe_gint rfl T.i_CLOSE) (pa_cons pe_non pa_nil))) pa_nil)))) (pss_cons (ps_expr (pe_mt0 (pv 0) (F_PatternReader_take_name T) (hr.mono (by decide)) (passN rfl rfl rfl rfl)))
      (pss_one (ps_expr (pe_bm PySem.F.plainAttrs_list PySem.F.slot_list_append PySem.F.type_list_append mt_append (pe_fld (pv 0) rfl) (pa_cons (pe_mko (F_Level___init__ T) (hr.mono (by decide)) pass0 (pa_cons (pe_gint rfl T.i_MORE) (pa_cons (pe_op op_sub (pe_callB call_len (by rfl) T.f_len (by decide +kernel) (pa_cons (pe_fld (pv 0) rfl) pa_nil)) pe_int) pa_nil))) pa_nil))))))
      (pss_one (ps_fld (pv 0) pe_bl rfl))))), pure_PatternReader_open_level T.kk_PatternReader vs H Q E h⟩)
  have bd := FD.bindsN (ps := ["self", "byte"]) fun _ _ _ _ _ _ us hl => match us, hl with | [_, _], _ => rfl
  exact ⟨⟨fd, ok, bd⟩, T.m_PatternReader_open_level, T.c_PatternReader⟩
theorem F_PatternReader_number (T : Tx K mg) : Mt P w K mg base (L2N.CX P w) 4 "PatternReader" "number" ["self"] (sp_PatternReader_number K) := by
  obtain ⟨fd, FD⟩ := T.D_PatternReader_number
  have ok := FD.ok (P := P) (w := w) (mg := mg) (base := base) (CX := (L2N.CX P w)) (k := 3) sc_PatternReader_number (len_PatternReader_number K) (fun cdv A outer s H vs Q E hr h => ⟨t_PatternReader_number K E, (pss_cons (ps_set (i := 1) sc_PatternReader_number.nd rfl (Or.inl rfl) (pe_fld (pv 0) rfl))
      (pss_cons (ps_expr (pe_mt (pv 0) (F_PatternReader_bar_from T) (hr.mono (by decide)) (passN rfl rfl rfl rfl) (pa_cons (pe_fn (F_is_figure T) (hr.mono (by decide)) pass0 (pa_cons (pe_mt0 (pv 0) (F_PatternReader_byte T) (hr.mono (by decide)) (passN rfl rfl rfl rfl)) pa_nil)) pa_nil)))
      (pss_cons (ps_set (i := 2) sc_PatternReader_number.nd rfl (Or.inl rfl) (pe_op op_sub (pe_mt0 (pv 0) (F_PatternReader_byte T) (hr.mono (by decide)) (passN rfl rfl rfl rfl)) (pe_gint rfl T.i_NOUGHT)))
      (pss_cons (ps_fld (pv 0) (pe_op op_add (pe_fld (pv 0) rfl) pe_int) rfl)
      (pss_cons (ps_while (passes_ownN rfl) (PW.pt (pw_and (pt_val (pe_fn (F_is_figure T) (hr.mono (by decide)) pass0 (pa_cons (pe_mt0 (pv 0) (F_PatternReader_byte T) (hr.mono (by decide)) (passN rfl rfl rfl rfl)) pa_nil))) (pw_and1 (pt_cmpR op_ne (pe_ix ix_list (pe_fld (pv 0) rfl) (pv 1) (fun _ _ => rfl)) (pe_gint rfl T.i_NOUGHT) (nomark_ _))))) (pss_cons (ps_set (i := 2) sc_PatternReader_number.nd rfl (Or.inl rfl) (pe_op op_sub (pe_op op_add (pe_op op_mul pe_int (pv 2)) (pe_mt0 (pv 0) (F_PatternReader_byte T) (hr.mono (by decide)) (passN rfl rfl rfl rfl))) (pe_gint rfl T.i_NOUGHT)))
      (pss_one (ps_fld (pv 0) (pe_op op_add (pe_fld (pv 0) rfl) pe_int) rfl))))
      (pss_cons (ps_if (pt_cmpR op_gt (pv 2) (pe_gint rfl T.i_MOST_NUMBER) (nomark_ _)) (pss_one (ps_raiseON rfl (takesN rfl rfl rfl rfl) (F_Fault___init__ T) T.x_Fault (hr.mono (by decide)) (pa_cons (pe_gint rfl T.i_WRONG_NUMBER) (pa_cons (pv 1) pa_nil)))) pss_nil)
      (pss_one (ps_ret (pe_tup (pa_cons (pv 2) (pa_cons (pv 1) pa_nil))))))))))), pure_PatternReader_number T.kk_PatternReader vs H Q E h⟩)
  have bd := FD.bindsN (ps := ["self"]) fun _ _ _ _ _ _ us hl => match us, hl with | [_], _ => rfl
  exact ⟨⟨fd, ok, bd⟩, T.m_PatternReader_number, T.c_PatternReader⟩
theorem F_PatternReader_numbers (T : Tx K mg) : Mt P w K mg base (L2N.CX P w) 5 "PatternReader" "numbers" ["self"] (sp_PatternReader_numbers K) := by
  obtain ⟨fd, FD⟩ := T.D_PatternReader_numbers
  have ok := FD.ok (P := P) (w := w) (mg := mg) (base := base) (CX := (L2N.CX P w)) (k := 4) sc_PatternReader_numbers (len_PatternReader_numbers K) (fun cdv A outer s H vs Q E hr h => ⟨t_PatternReader_numbers K E, (pss_cons (ps_asg (pe_mt0 (pv 0) (F_PatternReader_number T) (hr.mono (by decide)) (passN rfl rfl rfl rfl)) (pg_tup rfl (pgs_cons (pg_name (i := 1) sc_PatternReader_numbers.nd rfl (Or.inl rfl)) (pgs_cons (pg_name (i := 2) sc_PatternReader_numbers.nd rfl (Or.inl rfl)) pgs_nil))))
      (pss_cons (ps_set (i := 3) sc_PatternReader_numbers.nd rfl (Or.inl rfl) (pv 1))
      (pss_cons (ps_if (pt_cmpR op_eq (pe_mt0 (pv 0) (F_PatternReader_byte T) (hr.mono (by decide)) (passN rfl rfl rfl rfl)) (pe_gint rfl T.i_COMMA) (nomark_ _)) (pss_cons (ps_fld (pv 0) (pe_op op_add (pe_fld (pv 0) rfl) pe_int) rfl)
      (pss_cons (ps_set (i := 3) sc_PatternReader_numbers.nd rfl (Or.inl rfl) pe_non)
      (pss_cons (ps_if (pt_cmpR op_ne (pe_mt0 (pv 0) (F_PatternReader_byte T) (hr.mono (by decide)) (passN rfl rfl rfl rfl)) (pe_gint rfl T.i_END_BRACE) (nomark_ _)) (pss_one (ps_asg (pe_mt0 (pv 0) (F_PatternReader_number T) (hr.mono (by decide)) (passN rfl rfl rfl rfl)) (pg_tup rfl (pgs_cons (pg_name (i := 3) sc_PatternReader_numbers.nd rfl (Or.inl rfl)) (pgs_cons (pg_name (i := 2) sc_PatternReader_numbers.nd rfl (Or.inl rfl)) pgs_nil))))) pss_nil)
      (pss_one (ps_if (PW.pt (pw_and (pt_cmpR op_notN (pv 3) pe_non (nomark_ _)) (pw_and1 (pt_cmpR op_lt (pv 3) (pv 1) (nomark_ _))))) (pss_one (ps_raiseON rfl (takesN rfl rfl rfl rfl) (F_Fault___init__ T) T.x_Fault (hr.mono (by decide)) (pa_cons (pe_gint rfl T.i_WRONG_NUMBER) (pa_cons (pv 2) pa_nil)))) pss_nil))))) pss_nil)
      (pss_cons (ps_expr (pe_mt (pv 0) (F_PatternReader_bar_from T) (hr.mono (by decide)) (passN rfl rfl rfl rfl) (pa_cons (pe_cmpR op_eq (pe_mt0 (pv 0) (F_PatternReader_byte T) (hr.mono (by decide)) (passN rfl rfl rfl rfl)) (pe_gint rfl T.i_END_BRACE) (nomark_ _)) pa_nil)))
      (pss_cons (ps_fld (pv 0) (pe_op op_add (pe_fld (pv 0) rfl) pe_int) rfl)
      (pss_one (ps_ret (pe_tup (pa_cons (pv 1) (pa_cons (pv 3) pa_nil)))))))))), pure_PatternReader_numbers T.kk_PatternReader vs H Q E h⟩)
  have bd := FD.bindsN (ps := ["self"]) fun _ _ _ _ _ _ us hl => match us, hl with | [_], _ => rfl
  exact ⟨⟨fd, ok, bd⟩, T.m_PatternReader_numbers, T.c_PatternReader⟩
theorem F_PatternReader_repeat (T : Tx K mg) : Mt P w K mg base (L2N.CX P w) 6 "PatternReader" "repeat" ["self", "byte"] (sp_PatternReader_repeat K) := by
  obtain ⟨fd, FD⟩ := T.D_PatternReader_repeat
  have ok := FD.ok (P := P) (w := w) (mg := mg) (base := base) (CX := (L2N.CX P w)) (k := 5) sc_PatternReader_repeat (len_PatternReader_repeat K) (fun cdv A outer s H vs Q E hr h => ⟨t_PatternReader_repeat K E, (pss_cons (ps_expr (pe_mt (pv 0) (F_PatternReader_bar_from T) (hr.mono (by decide)) (passN rfl rfl rfl rfl) (pa_cons (pe_fld (pv 0) rfl) pa_nil)))
      (pss_cons (ps_fld (pv 0) (pe_op op_add (pe_fld (pv 0) rfl) pe_int) rfl)
      (pss_cons (ps_asg (pe_tup (pa_cons pe_int (pa_cons pe_non pa_nil))) (pg_tup rfl (pgs_cons (pg_name (i := 2) sc_PatternReader_repeat.nd rfl (Or.inl rfl)) (pgs_cons (pg_name (i := 3) sc_PatternReader_repeat.nd rfl (Or.inl rfl)) pgs_nil))))
      (pss_cons (ps_if (pt_cmpR op_eq (pv 1) (pe_gint rfl T.i_PLUS) (nomark_ _)) (pss_one (ps_set (i := 2) sc_PatternReader_repeat.nd rfl (Or.inl rfl) pe_int)) pss_nil)
      (pss_cons (ps_if (pt_cmpR op_eq (pv 1) (pe_gint rfl T.i_ASK) (nomark_ _)) (pss_one (ps_set (i := 3) sc_PatternReader_repeat.nd rfl (Or.inl rfl) pe_int)) pss_nil)
      (pss_cons (ps_if (pt_cmpR op_eq (pv 1) (pe_gint rfl T.i_BRACE) (nomark_ _)) (pss_one (ps_asg (pe_mt0 (pv 0) (F_PatternReader_numbers T) (hr.mono (by decide)) (passN rfl rfl rfl rfl)) (pg_tup rfl (pgs_cons (pg_name (i := 2) sc_PatternReader_repeat.nd rfl (Or.inl rfl)) (pgs_cons (pg_name (i := 3) sc_PatternReader_repeat.nd rfl (Or.inl rfl)) pgs_nil))))) pss_nil)
      (pss_cons (ps_set (i := 4) sc_PatternReader_repeat.nd rfl (Or.inl rfl) (pe_fld (pe_mt0 (pv 0) (F_PatternReader_level T) (hr.mono (by decide)) pass0) rfl))
      (pss_cons (ps_expr (pe_bm PySem.F.plainAttrs_list PySem.F.slot_list_append PySem.F.type_list_append mt_append (pv 4) (pa_cons (pe_mt (pe_fld (pv 0) rfl) (F_Builder_often T) (hr.mono (by decide)) pass0 (pa_cons (pe_bm0 PySem.F.plainAttrs_list PySem.F.slot_list_pop PySem.F.type_list_pop mt_pop (pv 4)) (pa_cons (pv 2) (pa_cons (pv 3) pa_nil)))) pa_nil)))
      (pss_one (ps_fld (pv 0) pe_bl rfl)))))))))), pure_PatternReader_repeat T.kk_PatternReader T.kk_Level vs H Q E h⟩)
  have bd := FD.bindsN (ps := ["self", "byte"]) fun _ _ _ _ _ _ us hl => match us, hl with | [_, _], _ => rfl
  exact ⟨⟨fd, ok, bd⟩, T.m_PatternReader_repeat, T.c_PatternReader⟩
theorem F_PatternReader_class_part (T : Tx K mg) : Mt P w K mg base (L2N.CX P w) 4 "PatternReader" "class_part" ["self"] (sp_PatternReader_class_part K) := by
  obtain ⟨fd, FD⟩ := T.D_PatternReader_class_part
  have ok := FD.ok (P := P) (w := w) (mg := mg) (base := base) (CX := (L2N.CX P w)) (k := 3) sc_PatternReader_class_part (len_PatternReader_class_part K) (fun cdv A outer s H vs Q E hr h => ⟨t_PatternReader_class_part K E, (pss_cons (ps_if (PW.pt (pw_or (pt_cmpR op_ne (pe_mt0 (pv 0) (F_PatternReader_byte T) (hr.mono (by decide)) (passN rfl rfl rfl rfl)) (pe_gint rfl T.i_BACKSLASH) (nomark_ _)) (pw_or1 (pt_cmpR op_eq (pe_op op_add (pe_fld (pv 0) rfl) pe_int) (pe_callB call_len (by rfl) T.f_len (by decide +kernel) (pa_cons (pe_fld (pv 0) rfl) pa_nil)) (nomark_ _))))) (pss_one (ps_ret pe_non)) pss_nil)
      (pss_cons (ps_set (i := 1) sc_PatternReader_class_part.nd rfl (Or.inl rfl) (pe_fn (F_class_bounds T) (hr.mono (by decide)) pass0 (pa_cons (pe_ix ix_list (pe_fld (pv 0) rfl) (pe_op op_add (pe_fld (pv 0) rfl) pe_int) (fun _ _ => rfl)) pa_nil)))
      (pss_cons (ps_if (pt_cmpR op_notN (pv 1) pe_non (nomark_ _)) (pss_one (ps_fld (pv 0) (pe_op op_add (pe_fld (pv 0) rfl) pe_int) rfl)) pss_nil)
      (pss_one (ps_ret (pv 1)))))), pure_PatternReader_class_part T.kk_PatternReader vs H Q E h⟩)
  have bd := FD.bindsN (ps := ["self"]) fun _ _ _ _ _ _ us hl => match us, hl with | [_], _ => rfl
  exact ⟨⟨fd, ok, bd⟩, T.m_PatternReader_class_part, T.c_PatternReader⟩
theorem F_PatternReader_escaped (T : Tx K mg) : Mt P w K mg base CX0 1 "PatternReader" "escaped" ["self", "byte"] (sp_PatternReader_escaped K) := by
  obtain ⟨fd, FD⟩ := T.D_PatternReader_escaped
  have ok := FD.ok (P := P) (w := w) (mg := mg) (base := base) (CX := CX0) (k := 0) sc_PatternReader_escaped (len_PatternReader_escaped K) (fun cdv A outer s H vs Q E hr h => ⟨t_PatternReader_escaped K E, PSs.nox ((pss_cons (ps_if (pt_cmpR op_in_seq (pv 1) (pe_glob rfl T.o_SELF_SIGNS rfl) (by rfl)) (pss_one (ps_ret (pv 1))) pss_nil)
      (pss_one (ps_ret (pe_kget (pe_glob rfl T.o_VALUE_SIGNS rfl) (pv 1)))))), pure_PatternReader_escaped T.t_SELF_SIGNS T.t_VALUE_SIGNS vs H Q E h⟩)
  have bd := FD.bindsN (ps := ["self", "byte"]) fun _ _ _ _ _ _ us hl => match us, hl with | [_, _], _ => rfl
  exact ⟨⟨fd, ok, bd⟩, T.m_PatternReader_escaped, T.c_PatternReader⟩
theorem F_PatternReader_plain (T : Tx K mg) : Mt P w K mg base (L2N.CX P w) 4 "PatternReader" "plain" ["self"] (sp_PatternReader_plain K) := by
  obtain ⟨fd, FD⟩ := T.D_PatternReader_plain
  have ok := FD.ok (P := P) (w := w) (mg := mg) (base := base) (CX := (L2N.CX P w)) (k := 3) sc_PatternReader_plain (len_PatternReader_plain K) (fun cdv A outer s H vs Q E hr h => ⟨t_PatternReader_plain K E, (pss_cons (ps_asg (pe_fn (F_value_at T) (hr.mono (by decide)) (passN rfl rfl rfl rfl) (pa_cons (pe_fld (pv 0) rfl) (pa_cons (pe_fld (pv 0) rfl) pa_nil))) (pg_tup rfl (pgs_cons (pg_name (i := 1) sc_PatternReader_plain.nd rfl (Or.inl rfl)) (pgs_cons (pg_name (i := 2) sc_PatternReader_plain.nd rfl (Or.inl rfl)) pgs_nil))))
      (pss_cons (ps_fld (pv 0) (pe_op op_add (pe_fld (pv 0) rfl) (pv 2)) rfl)
      (pss_one (ps_ret (pv 1))))), pure_PatternReader_plain T.kk_PatternReader vs H Q E h⟩)
  have bd := FD.bindsN (ps := ["self"]) fun _ _ _ _ _ _ us hl => match us, hl with | [_], _ => rfl
  exact ⟨⟨fd, ok, bd⟩, T.m_PatternReader_plain, T.c_PatternReader⟩
theorem F_PatternReader_end_of_part (T : Tx K mg) : Mt P w K mg base (L2N.CX P w) 5 "PatternReader" "end_of_part" ["self"] (sp_PatternReader_end_of_part K) := by
  obtain ⟨fd, FD⟩ := T.D_PatternReader_end_of_part
  have ok := FD.ok (P := P) (w := w) (mg := mg) (base := base) (CX := (L2N.CX P w)) (k := 4) sc_PatternReader_end_of_part (len_PatternReader_end_of_part K) (fun cdv A outer s H vs Q E hr h => ⟨t_PatternReader_end_of_part K E, (pss_cons (ps_set (i := 1) sc_PatternReader_end_of_part.nd rfl (Or.inl rfl) (pe_mt0 (pv 0) (F_PatternReader_byte T) (hr.mono (by decide)) (passN rfl rfl rfl rfl)))
      (pss_cons (ps_if (pt_cmpR op_eq (pv 1) (pe_gint rfl T.i_BACKSLASH) (nomark_ _)) (pss_cons (ps_fld (pv 0) (pe_op op_add (pe_fld (pv 0) rfl) pe_int) rfl)
      (pss_cons (ps_set (i := 2) sc_PatternReader_end_of_part.nd rfl (Or.inl rfl) (pe_mt (pv 0) (F_PatternReader_escaped T) (hr.mono (by decide)) pass0 (pa_cons (pe_mt0 (pv 0) (F_PatternReader_byte T) (hr.mono (by decide)) (passN rfl rfl rfl rfl)) pa_nil)))
      (pss_cons (ps_expr (pe_mt (pv 0) (F_PatternReader_bar_from T) (hr.mono (by decide)) (passN rfl rfl rfl rfl) (pa_cons (pe_cmpR op_notN (pv 2) pe_non (nomark_ _)) pa_nil)))
      (pss_cons (ps_fld (pv 0) (pe_op op_add (pe_fld (pv 0) rfl) pe_int) rfl)
      (pss_one (ps_ret (pv 2))))))) pss_nil)
      (pss_cons (ps_expr (pe_mt (pv 0) (F_PatternReader_bar_from T) (hr.mono (by decide)) (passN rfl rfl rfl rfl) (pa_cons (pe_cmpR op_notIn_seq (pv 1) (pe_tup (pa_cons (pe_gint rfl T.i_END_SET) (pa_cons (pe_gint rfl T.i_SET) (pa_cons (pe_gint rfl T.i_MINUS) (pa_cons (pe_gint rfl T.i_HAT) pa_nil))))) (by rfl)) pa_nil)))
      (pss_one (ps_ret (pe_mt0 (pv 0) (F_PatternReader_plain T) (hr.mono (by decide)) (passN rfl rfl rfl rfl))))))), pure_PatternReader_end_of_part T.kk_PatternReader vs H Q E h⟩)
  have bd := FD.bindsN (ps := ["self"]) fun _ _ _ _ _ _ us hl => match us, hl with | [_], _ => rfl
  exact ⟨⟨fd, ok, bd⟩, T.m_PatternReader_end_of_part, T.c_PatternReader⟩
theorem F_PatternReader_part (T : Tx K mg) : Mt P w K mg base (L2N.CX P w) 6 "PatternReader" "part" ["self"] (sp_PatternReader_part K) := by
  obtain ⟨fd, FD⟩ := T.D_PatternReader_part
  have ok := FD.ok (P := P) (w := w) (mg := mg) (base := base) (CX := (L2N.CX P w)) (k := 5) sc_PatternReader_part (len_PatternReader_part K) (fun cdv A outer s H vs Q E hr h => ⟨t_PatternReader_part K E, (pss_cons (ps_set (i := 1) sc_PatternReader_part.nd rfl (Or.inl rfl) (pe_fld (pv 0) rfl))
      (pss_cons (ps_set (i := 2) sc_PatternReader_part.nd rfl (Or.inl rfl) (pe_mt0 (pv 0) (F_PatternReader_class_part T) (hr.mono (by decide)) (passN rfl rfl rfl rfl)))
      (pss_cons (ps_if (pt_cmpR op_notN (pv 2) pe_non (nomark_ _)) (pss_one (ps_ret (pv 2))) pss_nil)
      (pss_cons (ps_set (i := 3) sc_PatternReader_part.nd rfl (Or.inl rfl) (pe_mt0 (pv 0) (F_PatternReader_end_of_part T) (hr.mono (by decide)) (passN rfl rfl rfl rfl)))
      (pss_cons (ps_if (pt_cmpR op_ne (pe_mt0 (pv 0) (F_PatternReader_byte T) (hr.mono (by decide)) (passN rfl rfl rfl rfl)) (pe_gint rfl T.i_MINUS) (nomark_ _)) (pss_one (ps_ret (pe_lst (pa_cons (pe_tup (pa_cons (pv 3) (pa_cons (pv 3) pa_nil))) pa_nil)))) pss_nil)
      (pss_cons (ps_fld (pv 0) (pe_op op_add (pe_fld (pv 0) rfl) pe_int) rfl)
      (pss_cons (ps_set (i := 4) sc_PatternReader_part.nd rfl (Or.inl rfl) (pe_mt0 (pv 0) (F_PatternReader_end_of_part T) (hr.mono (by decide)) (passN rfl rfl rfl rfl)))
      (pss_cons (ps_if (pt_cmpR op_gt (pv 3) (pv 4) (nomark_ _)) (pss_one (ps_raiseON rfl (takesN rfl rfl rfl rfl) (F_Fault___init__ T) T.x_Fault (hr.mono (by decide)) (pa_cons (pe_gint rfl T.i_WRONG_ORDER) (pa_cons (pv 1) pa_nil)))) pss_nil)
      (pss_one (ps_ret (pe_lst (pa_cons (pe_tup (pa_cons (pv 3) (pa_cons (pv 4) pa_nil))) pa_nil)))))))))))), pure_PatternReader_part T.kk_PatternReader vs H Q E h⟩)
  have bd := FD.bindsN (ps := ["self"]) fun _ _ _ _ _ _ us hl => match us, hl with | [_], _ => rfl
  exact ⟨⟨fd, ok, bd⟩, T.m_PatternReader_part, T.c_PatternReader⟩
theorem F_PatternReader_value_set (T : Tx K mg) : Mt P w K mg base (L2N.CX P w) 7 "PatternReader" "value_set" ["self"] (sp_PatternReader_value_set K) := by
  obtain ⟨fd, FD⟩ := T.D_PatternReader_value_set
  have ok := FD.ok (P := P) (w := w) (mg := mg) (base := base) (CX := (L2N.CX P w)) (k := 6) sc_PatternReader_value_set (len_PatternReader_value_set K) (fun cdv A outer s H vs Q E hr h => ⟨t_PatternReader_value_set K E, (pss_cons (ps_fld (pv 0) (pe_op op_add (pe_fld (pv 0) rfl) pe_int) rfl)
      (pss_cons (ps_set (i := 1) sc_PatternReader_value_set.nd rfl (Or.inl rfl) (pe_cmpR op_eq (pe_mt0 (pv 0) (F_PatternReader_byte T) (hr.mono (by decide)) (passN rfl rfl rfl rfl)) (pe_gint rfl T.i_HAT) (nomark_ _)))
      (pss_cons (ps_if (pt_val (pv 1)) (pss_one (ps_fld (pv 0) (pe_op op_add (pe_fld (pv 0) rfl) pe_int) rfl)) pss_nil)
      (pss_cons (ps_set (i := 2) sc_PatternReader_value_set.nd rfl (Or.inl rfl) (pe_mt0 (pv 0) (F_PatternReader_part T) (hr.mono (by decide)) (passN rfl rfl rfl rfl)))
      (pss_cons (ps_while (passes_ownN rfl) (pt_cmpR op_ne (pe_mt0 (pv 0) (F_PatternReader_byte T) (hr.mono (by decide)) (passN rfl rfl rfl rfl)) (pe_gint rfl T.i_END_SET) (nomark_ _)) (pss_one (ps_set (i := 2) sc_PatternReader_value_set.nd rfl (Or.inl rfl) (pe_op op_cat (pv 2) (pe_mt0 (pv 0) (F_PatternReader_part T) (hr.mono (by decide)) (passN rfl rfl rfl rfl))))))
      (pss_cons (ps_fld (pv 0) (pe_op op_add (pe_fld (pv 0) rfl) pe_int) rfl)
      (pss_one (ps_ret (pe_mt (pe_fld (pv 0) rfl) (F_Builder_test T) (hr.mono (by decide)) pass0 (pa_cons (pv 2) (pa_cons (pv 1) pa_nil))))))))))), pure_PatternReader_value_set T.kk_PatternReader vs H Q E h⟩)
  have bd := FD.bindsN (ps := ["self"]) fun _ _ _ _ _ _ us hl => match us, hl with | [_], _ => rfl
  exact ⟨⟨fd, ok, bd⟩, T.m_PatternReader_value_set, T.c_PatternReader⟩
theorem F_PatternReader_escape (T : Tx K mg) : Mt P w K mg base (L2N.CX P w) 4 "PatternReader" "escape" ["self"] (sp_PatternReader_escape K) := by
  obtain ⟨fd, FD⟩ := T.D_PatternReader_escape
  have ok := FD.ok (P := P) (w := w) (mg := mg) (base := base) (CX := (L2N.CX P w)) (k := 3) sc_PatternReader_escape (len_PatternReader_escape K) (fun cdv A outer s H vs Q E hr h => ⟨t_PatternReader_escape K E, (pss_cons (ps_fld (pv 0) (pe_op op_add (pe_fld (pv 0) rfl) pe_int) rfl)
      (pss_cons (ps_set (i := 1) sc_PatternReader_escape.nd rfl (Or.inl rfl) (pe_mt0 (pv 0) (F_PatternReader_byte T) (hr.mono (by decide)) (passN rfl rfl rfl rfl)))
      (pss_cons (ps_set (i := 2) sc_PatternReader_escape.nd rfl (Or.inl rfl) (pe_mt (pv 0) (F_PatternReader_escaped T) (hr.mono (by decide)) pass0 (pa_cons (pv 1) pa_nil)))
      (pss_cons (ps_set (i := 3) sc_PatternReader_escape.nd rfl (Or.inl rfl) (pe_fn (F_class_bounds T) (hr.mono (by decide)) pass0 (pa_cons (pv 1) pa_nil)))
      (pss_cons (ps_if (pt_cmpR op_notN (pv 2) pe_non (nomark_ _)) (pss_one (ps_set (i := 3) sc_PatternReader_escape.nd rfl (Or.inl rfl) (pe_lst (pa_cons (pe_tup (pa_cons (pv 2) (pa_cons (pv 2) pa_nil))) pa_nil)))) pss_nil)
      (pss_cons (ps_expr (pe_mt (pv 0) (F_PatternReader_bar_from T) (hr.mono (by decide)) (passN rfl rfl rfl rfl) (pa_cons (pe_or (pe_cmpR op_notN (pv 3) pe_non (nomark_ _)) (pe_one (pe_cmpR op_eq (pv 1) (pe_gint rfl T.i_LETTER_B) (nomark_ _)))) pa_nil)))
      (pss_cons (ps_fld (pv 0) (pe_op op_add (pe_fld (pv 0) rfl) pe_int) rfl)
      (pss_cons (ps_if (pt_cmpR op_isN (pv 3) pe_non (nomark_ _)) (pss_one (ps_ret (pe_mt (pe_fld (pv 0) rfl) (F_Builder_sign T) (hr.mono (by decide)) pass0 (pa_cons pe_str pa_nil)))) pss_nil)
      (pss_one (ps_ret (pe_mt (pe_fld (pv 0) rfl) (F_Builder_test T) (hr.mono (by decide)) pass0 (pa_cons (pv 3) (pa_cons pe_bl pa_nil))))))))))))), pure_PatternReader_escape T.kk_PatternReader vs H Q E h⟩)
  have bd := FD.bindsN (ps := ["self"]) fun _ _ _ _ _ _ us hl => match us, hl with | [_], _ => rfl
  exact ⟨⟨fd, ok, bd⟩, T.m_PatternReader_escape, T.c_PatternReader⟩
theorem F_PatternReader_atom (T : Tx K mg) : Mt P w K mg base (L2N.CX P w) 8 "PatternReader" "atom" ["self", "byte"] (sp_PatternReader_atom K) := by
  obtain ⟨fd, FD⟩ := T.D_PatternReader_atom
  have ok := FD.ok (P := P) (w := w) (mg := mg) (base := base) (CX := (L2N.CX P w)) (k := 7) sc_PatternReader_atom (len_PatternReader_atom K) (fun cdv A outer s H vs Q E hr h => ⟨t_PatternReader_atom K E, (pss_cons (ps_if (pt_cmpR op_eq (pv 1) (pe_gint rfl T.i_SET) (nomark_ _)) (pss_one (ps_ret (pe_mt0 (pv 0) (F_PatternReader_value_set T) (hr.mono (by decide)) (passN rfl rfl rfl rfl)))) pss_nil)
      (pss_cons (ps_if (pt_cmpR op_eq (pv 1) (pe_gint rfl T.i_BACKSLASH) (nomark_ _)) (pss_one (ps_ret (pe_mt0 (pv 0) (F_PatternReader_escape T) (hr.mono (by decide)) (passN rfl rfl rfl rfl)))) pss_nil)
      (pss_cons (ps_if (PW.pt (pw_or (pt_cmpR op_eq (pv 1) (pe_gint rfl T.i_HAT) (nomark_ _)) (pw_or1 (pt_cmpR op_eq (pv 1) (pe_gint rfl T.i_DOLLAR) (nomark_ _))))) (pss_cons (ps_fld (pv 0) (pe_op op_add (pe_fld (pv 0) rfl) pe_int) rfl)
      (pss_one (ps_ret (pe_mt (pe_fld (pv 0) rfl) (F_Builder_sign T) (hr.mono (by decide)) pass0 (pa_cons (pe_ix ix_list (pe_lst (pa_cons pe_str (pa_cons pe_str pa_nil))) (pe_callTy call_int1 (by rfl) T.f_int (by decide +kernel) (pa_cons (pe_cmpR op_eq (pv 1) (pe_gint rfl T.i_DOLLAR) (nomark_ _)) pa_nil)) (fun _ _ => rfl)) pa_nil))))) pss_nil)
      (pss_cons (ps_if (pt_cmpR op_eq (pv 1) (pe_gint rfl T.i_DOT) (nomark_ _)) (pss_cons (ps_fld (pv 0) (pe_op op_add (pe_fld (pv 0) rfl) pe_int) rfl)
      (pss_one (ps_ret (pe_mt (pe_fld (pv 0) rfl) (F_Builder_test T) (hr.mono (by decide)) pass0 (pa_cons (pe_lst (pa_cons (pe_tup (pa_cons pe_int (pa_cons (pe_gint rfl T.i_GREATEST) pa_nil))) pa_nil)) (pa_cons pe_bl pa_nil)))))) pss_nil)
      (pss_cons (ps_set (i := 2) sc_PatternReader_atom.nd rfl (Or.inl rfl) (pe_mt0 (pv 0) (F_PatternReader_plain T) (hr.mono (by decide)) (passN rfl rfl rfl rfl)))
      (pss_one (ps_ret (pe_mt (pe_fld (pv 0) rfl) (F_Builder_test T) (hr.mono (by decide)) pass0 (pa_cons (pe_lst (pa_cons (pe_tup (pa_cons (pv 2) (pa_cons (pv 2) pa_nil))) pa_nil)) (pa_cons pe_bl pa_nil)))))))))), pure_PatternReader_atom T.kk_PatternReader vs H Q E h⟩)
  have bd := FD.bindsN (ps := ["self", "byte"]) fun _ _ _ _ _ _ us hl => match us, hl with | [_, _], _ => rfl
  exact ⟨⟨fd, ok, bd⟩, T.m_PatternReader_atom, T.c_PatternReader⟩
theorem F_PatternReader_take (T : Tx K mg) : Mt P w K mg base (L2N.CX P w) 9 "PatternReader" "take" ["self", "byte"] (sp_PatternReader_take K) := by
  obtain ⟨fd, FD⟩ := T.D_PatternReader_take
  have ok := FD.ok (P := P) (w := w) (mg := mg) (base := base) (CX := (L2N.CX P w)) (k := 8) sc_PatternReader_take (len_PatternReader_take K) (fun cdv A outer s H vs Q E hr h => ⟨t_PatternReader_take K E, (pss_one (ps_if (pt_cmpR op_eq (pv 1) (pe_gint rfl T.i_BAR) (nomark_ _)) (pss_cons (ps_expr (pe_mt0 (pv 0) (F_PatternReader_end_row T) (hr.mono (by decide)) pass0))
      (pss_one (ps_fld (pv 0) (pe_op op_add (pe_fld (pv 0) rfl) pe_int) rfl))) (pss_one (ps_if (pt_cmpR op_in_seq (pv 1) (pe_tup (pa_cons (pe_gint rfl T.i_CLOSE) (pa_cons (pe_gint rfl T.i_MORE) pa_nil))) (by rfl)) (pss_one (ps_expr (pe_mt (pv 0) (F_PatternReader_close T) (hr.mono (by decide)) (passN rfl rfl rfl rfl) (pa_cons (pv 1) pa_nil)))) (pss_one (ps_if (pt_cmpR op_in_seq (pv 1) (pe_tup (pa_cons (pe_gint rfl T.i_OPEN) (pa_cons (pe_gint rfl T.i_LESS) pa_nil))) (by rfl)) (pss_one (ps_expr (pe_mt (pv 0) (F_PatternReader_open_level T) (hr.mono (by decide)) (passN rfl rfl rfl rfl) (pa_cons (pv 1) pa_nil)))) (pss_one (ps_if (pt_cmpR op_in_seq (pv 1) (pe_tup (pa_cons (pe_gint rfl T.i_STAR) (pa_cons (pe_gint rfl T.i_PLUS) (pa_cons (pe_gint rfl T.i_ASK) (pa_cons (pe_gint rfl T.i_BRACE) pa_nil))))) (by rfl)) (pss_one (ps_expr (pe_mt (pv 0) (F_PatternReader_repeat T) (hr.mono (by decide)) (passN rfl rfl rfl rfl) (pa_cons (pv 1) pa_nil)))) (pss_cons (ps_expr (pe_mt (pv 0) (F_PatternReader_bar_from T) (hr.mono (by decide)) (passN rfl rfl rfl rfl) (pa_cons (pe_cmpR op_notIn_seq (pv 1) (pe_tup (pa_cons (pe_gint rfl T.i_END_SET) (pa_cons (pe_gint rfl T.i_END_BRACE) pa_nil))) (by rfl)) pa_nil)))
      (pss_one (ps_expr (pe_mt (pv 0) (F_PatternReader_add T) (hr.mono (by decide)) pass0 (pa_cons (pe_mt (pv 0) (F_PatternReader_atom T) (hr.mono (by decide)) (passN rfl rfl rfl rfl) (pa_cons (pv 1) pa_nil)) pa_nil))))))))))))), pure_PatternReader_take T.kk_PatternReader vs H Q E h⟩)
  have bd := FD.bindsN (ps := ["self", "byte"]) fun _ _ _ _ _ _ us hl => match us, hl with | [_, _], _ => rfl
  exact ⟨⟨fd, ok, bd⟩, T.m_PatternReader_take, T.c_PatternReader⟩
theorem F_PatternReader_whole (T : Tx K mg) : Mt P w K mg base (L2N.CX P w) 10 "PatternReader" "whole" ["self"] (sp_PatternReader_whole K) := by
  obtain ⟨fd, FD⟩ := T.D_PatternReader_whole
  have ok := FD.ok (P := P) (w := w) (mg := mg) (base := base) (CX := (L2N.CX P w)) (k := 9) sc_PatternReader_whole (len_PatternReader_whole K) (fun cdv A outer s H vs Q E hr h => ⟨t_PatternReader_whole K E, (pss_cons (ps_while (passes_ownN rfl) (pt_cmpR op_lt (pe_fld (pv 0) rfl) (pe_callB call_len (by rfl) T.f_len (by decide +kernel) (pa_cons (pe_fld (pv 0) rfl) pa_nil)) (nomark_ _)) (pss_one (ps_expr (pe_mt (pv 0) (F_PatternReader_take T) (hr.mono (by decide)) (passN rfl rfl rfl rfl) (pa_cons (pe_ix ix_list (pe_fld (pv 0) rfl) (pe_fld (pv 0) rfl) (fun _ _ => rfl)) pa_nil)))))
      (pss_cons (ps_if (pt_cmpR op_gt (pe_callB call_len (by rfl) T.f_len (by decide +kernel) (pa_cons (pe_fld (pv 0) rfl) pa_nil)) pe_int (nomark_ _)) (pss_one (ps_raiseON rfl (takesN rfl rfl rfl rfl) (F_Fault___init__ T) T.x_Fault (hr.mono (by decide)) (pa_cons (pe_gint rfl T.i_ENDS_TOO_SOON) (pa_cons (pe_fld (pv 0) rfl) pa_nil)))) pss_nil)
      (pss_cons (ps_expr (pe_mt0 (pv 0) (F_PatternReader_end_row T) (hr.mono (by decide)) pass0))
      (pss_cons (ps_set (i := 1) sc_PatternReader_whole.nd rfl (Or.inl rfl) (pe_mt (pe_fld (pv 0) rfl) (F_Builder_one_of T) (hr.mono (by decide)) pass0 (pa_cons (pe_fld (pe_mt0 (pv 0) (F_PatternReader_level T) (hr.mono (by decide)) pass0) rfl) pa_nil)))
      (pss_cons (ps_if (pt_cmpR op_gt (pe_ix ix_list (pe_fld (pe_fld (pv 0) rfl) rfl) (pv 1) (fun _ _ => rfl)) (pe_gint rfl T.i_MOST_ATOMS) (nomark_ _)) (pss_one (ps_raiseON rfl (takesN rfl rfl rfl rfl) (F_Fault___init__ T) T.x_Fault (hr.mono (by decide)) (pa_cons (pe_gint rfl T.i_TOO_MANY) (pa_cons pe_int pa_nil)))) pss_nil)
      (pss_one (ps_ret (pv 1)))))))), pure_PatternReader_whole T.kk_PatternReader T.kk_Level T.kk_Builder vs H Q E h⟩)
  have bd := FD.bindsN (ps := ["self"]) fun _ _ _ _ _ _ us hl => match us, hl with | [_], _ => rfl
  exact ⟨⟨fd, ok, bd⟩, T.m_PatternReader_whole, T.c_PatternReader⟩
theorem F_Pattern___init__ (T : Tx K mg) : Mo P w K mg base CX0 1 "Pattern" ["self", "nodes", "root", "names"] (sp_Pattern___init__ K) := by
  obtain ⟨fd, FD⟩ := T.D_Pattern___init__
  have ok := FD.ok (P := P) (w := w) (mg := mg) (base := base) (CX := CX0) (k := 0) sc_Pattern___init__ (len_Pattern___init__ K) (fun cdv A outer s H vs Q E hr h => ⟨t_Pattern___init__ K E, PSs.nox ((pss_cons (ps_fld (pv 0) (pv 1) rfl)
      (pss_cons (ps_fld (pv 0) (pv 2) rfl)
      (pss_one (ps_fld (pv 0) (pv 3) rfl))))), pure_Pattern___init__ T.kk_Pattern vs H Q E h⟩)
  have bd := FD.bindsN (ps := ["self", "nodes", "root", "names"]) fun _ _ _ _ _ _ us hl => match us, hl with | [_, _, _, _], _ => rfl
  exact ⟨⟨fd, ok, bd⟩, T.k_Pattern, T.g_Pattern⟩
theorem F_read_pattern (T : Tx K mg) : Fn P w K mg base (L2N.CX P w) 11 "read_pattern" ["data"] (sp_read_pattern K) := by
  obtain ⟨fd, FD⟩ := T.D_read_pattern
  have ok := FD.ok (P := P) (w := w) (mg := mg) (base := base) (CX := (L2N.CX P w)) (k := 10) sc_read_pattern (len_read_pattern K) (fun cdv A outer s H vs Q E hr h => ⟨t_read_pattern K E, (pss_cons (ps_set (i := 1) sc_read_pattern.nd rfl (Or.inl rfl) (pe_mko (F_PatternReader___init__ T) (hr.mono (by decide)) pass0 (pa_cons (pv 0) pa_nil)))
      (pss_cons (ps_set (i := 2) sc_read_pattern.nd rfl (Or.inl rfl) (pe_mt0 (pv 1) (F_PatternReader_whole T) (hr.mono (by decide)) (passN rfl rfl rfl rfl)))
      (pss_one (ps_ret (pe_mko (F_Pattern___init__ T) (hr.mono (by decide)) pass0 (pa_cons (pe_fld (pe_fld (pv 1) rfl) rfl) (pa_cons (pv 2) (pa_cons (pe_fld (pv 1) rfl) pa_nil)))))))), pure_read_pattern T.kk_PatternReader T.kk_Builder vs H Q E h⟩)
  have bd := FD.bindsN (ps := ["data"]) fun _ _ _ _ _ _ us hl => match us, hl with | [_], _ => rfl
  exact ⟨⟨fd, ok, bd⟩, T.g_read_pattern, FD.kp⟩
theorem F_Refused___init__ (T : Tx K mg) : Xi P w K mg base CX0 1 "Refused" ["self", "answer"] (sp_Refused___init__ K) := by
  obtain ⟨fd, FD⟩ := T.D_Refused___init__
  have ok := FD.ok (P := P) (w := w) (mg := mg) (base := base) (CX := CX0) (k := 0) sc_Refused___init__ (len_Refused___init__ K) (fun cdv A outer s H vs Q E hr h => ⟨t_Refused___init__ K E, PSs.nox ((pss_one (ps_ost (pv 0) (pv 1)))), pure_Refused___init__ T.kk_Refused vs H Q E h⟩)
  have bd := FD.bindsN (ps := ["self", "answer"]) fun _ _ _ _ _ _ us hl => match us, hl with | [_, _], _ => rfl
  exact ⟨⟨fd, ok, bd⟩⟩
theorem FH_Refused___init__ (T : Tx K mg) : XiH P w K mg base CX0 1 "Refused" ["self", "answer"] (sp_Refused___init__ K) := by
  obtain ⟨fd, FD⟩ := T.D_Refused___init__
  have bd := FD.bindsN (ps := ["self", "answer"]) fun _ _ _ _ _ _ us hl => match us, hl with | [_, _], _ => rfl
  obtain ⟨oc, od, dV, kV, doc, pm, an, cdv, ct, osl, rfl, lk, hcd, _, _⟩ := FD.ex
  exact ⟨⟨_, L2H.fn_ofH lk hcd sc_Refused___init__ (len_Refused___init__ K) (fun A outer s H vs Q E p hot hr h => ⟨t_Refused___init__ K E, PSs.nox ((pss_one (ps_ost (pv 0) (pv 1)))), pure_Refused___init__ T.kk_Refused vs H Q E h⟩), bd⟩⟩
theorem F_must_be_short (T : Tx K mg) : Fn P w K mg base (L2.CX P w) 3 "must_be_short" ["some"] (sp_must_be_short K) := by
  obtain ⟨fd, FD⟩ := T.D_must_be_short
  have ok := FD.ok (P := P) (w := w) (mg := mg) (base := base) (CX := (L2.CX P w)) (k := 2) sc_must_be_short (len_must_be_short K) (fun cdv A outer s H vs Q E hr h => ⟨t_must_be_short K E, (pss_one (ps_if (pt_val (pe_callB (cr_any rfl) (by rfl) T.f_any (by decide +kernel) (pa_cons (pe_lc (own := [("data", 1)]) (g := (gName 1)) (tt := tYes) (by rfl) sc_must_be_short.nd (pi_list (pv 0)) (blkOk_by (N := N_must_be_short) (sc := defScope s_must_be_short) (by decide +kernel)) (fun _ _ _ _ _ => pg_name (i := 1) sc_must_be_short.nd rfl (Or.inl rfl)) (fun _ _ _ _ _ => pts_nil) (fun _ _ _ _ _ => (pe_cmpR op_gt (pe_callB call_len (by rfl) T.f_len (by decide +kernel) (pa_cons (pv 1) pa_nil)) (pe_gint rfl T.i_MOST_BYTES) (nomark_ _)))) pa_nil))) (pss_one (ps_raiseOX rfl (takesX rfl rfl rfl rfl) (F_Refused___init__ T) T.x_Refused (hr.mono (by decide)) (pa_cons (pe_lst (pa_cons (pe_gint rfl T.i_TOO_LONG) pa_nil)) pa_nil))) pss_nil)), pure_must_be_short vs H Q E h⟩)
  have bd := FD.bindsN (ps := ["some"]) fun _ _ _ _ _ _ us hl => match us, hl with | [_], _ => rfl
  exact ⟨⟨fd, ok, bd⟩, T.g_must_be_short, FD.kp⟩
theorem F_judged (T : Tx K mg) : Fn P w K mg base (L2.CX P w) 12 "judged" ["p"] (sp_judged K) := by
  obtain ⟨fd, FD⟩ := T.D_judged
  have ok := FD.ok (P := P) (w := w) (mg := mg) (base := base) (CX := (L2.CX P w)) (k := 11) sc_judged (len_judged K) (fun cdv A outer s H vs Q E hr h => ⟨t_judged K E, (pss_cons (ps_expr (pe_fn (F_must_be_short T) (hr.mono (by decide)) (passX rfl rfl rfl rfl) (pa_cons (pe_lst (pa_cons (pv 0) pa_nil)) pa_nil)))
      (pss_cons (ps_tryAX (i := 2) (by rfl) (by rfl) sc_judged.nd (by rfl) (by rfl) T.x_Fault.mg rfl rfl (fun W pn xe tk _ => (pss_one (ps_set (i := 1) sc_judged.nd rfl (Or.inl rfl) (pe_fnS (F_read_pattern T) (hr.mono (by decide)) (fun σ => L2N.passAt tk σ) (pa_cons (pe_callTy call_list_of (by rfl) T.f_list (by decide +kernel) (pa_cons (pv 0) pa_nil)) pa_nil))))) (fun a oe cls d pn xe hz hf tkS hot => (pss_one (ps_raiseOH hot tkS (FH_Refused___init__ T) T.x_Refused (roomH_mark (hr.mono (by decide)) _) (pa_cons (pe_lst (pa_cons (pe_gint rfl T.i_NO_PATTERN) (pa_cons (pe_suiteE (pe_xf T.x_Fault.xf T.n_Fault_kind hz.zc hf (pv 2))) (pa_cons (pe_suiteE (pe_xf T.x_Fault.xf T.n_Fault_place hz.zc hf (pv 2))) pa_nil)))) pa_nil)))))
      (pss_one (ps_ret (pv 1))))), pure_judged T.h_Fault vs H Q E h⟩)
  have bd := FD.bindsN (ps := ["p"]) fun _ _ _ _ _ _ us hl => match us, hl with | [_], _ => rfl
  exact ⟨⟨fd, ok, bd⟩, T.g_judged, FD.kp⟩
theorem F_judge_told (T : Tx K mg) : Fn P w K mg base (L2.CX P w) 13 "judge_told" ["p"] (sp_judge_told K) := by
  obtain ⟨fd, FD⟩ := T.D_judge_told
  have ok := FD.ok (P := P) (w := w) (mg := mg) (base := base) (CX := (L2.CX P w)) (k := 12) sc_judge_told (len_judge_told K) (fun cdv A outer s H vs Q E hr h => ⟨t_judge_told K E, (pss_one (ps_ret (pe_lst (pa_cons (pe_callB call_len (by rfl) T.f_len (by decide +kernel) (pa_cons (pe_fld (pe_fn (F_judged T) (hr.mono (by decide)) (passX rfl rfl rfl rfl) (pa_cons (pv 0) pa_nil)) rfl) pa_nil)) pa_nil)))), pure_judge_told T.kk_Pattern vs H Q E h⟩)
  have bd := FD.bindsN (ps := ["p"]) fun _ _ _ _ _ _ us hl => match us, hl with | [_], _ => rfl
  exact ⟨⟨fd, ok, bd⟩, T.g_judge_told, FD.kp⟩
theorem F_judge (T : Tx K mg) : Fn P w K mg base CX0 14 "judge" ["p"] (sp_judge K) := by
  obtain ⟨fd, FD⟩ := T.D_judge
  have ok := FD.ok (P := P) (w := w) (mg := mg) (base := base) (CX := CX0) (k := 13) sc_judge (len_judge K) (fun cdv A outer s H vs Q E hr h => ⟨t_judge K E, PSs.nox ((pss_cons (ps_tryA (i := 2) (by rfl) (by rfl) sc_judge.nd (by rfl) (by rfl) T.x_Refused.mg (fun W pn xe tk _ => (pss_one (ps_set (i := 1) sc_judge.nd rfl (Or.inl rfl) (pe_fnS (F_judge_told T) (hr.mono (by decide)) (fun σ => passAt tk σ) (pa_cons (pv 0) pa_nil))))) (fun a oe cls d pn hz hf => (pss_one (ps_set (i := 1) sc_judge.nd rfl (Or.inl rfl) (pe_xf T.x_Refused.xf T.n_Refused_answer hz hf (pv 2))))))
      (pss_one (ps_ret (pv 1))))), pure_judge T.h_Refused vs H Q E h⟩)
  have bd := FD.bindsN (ps := ["p"]) fun _ _ _ _ _ _ us hl => match us, hl with | [_], _ => rfl
  exact ⟨⟨fd, ok, bd⟩, T.g_judge, FD.kp⟩
end
end Mi
set_option maxHeartbeats 0
namespace Mi
open PySem PySem.Spec PyProof.Rows L2
def dd_Fault___init__ : He.DefD := ⟨("Fault", some "__init__"), "__init__", "Fault.__init__", defArgs s_Fault___init__, defBody s_Fault___init__, defScope s_Fault___init__, [], []⟩
def dd_size_by : He.DefD := ⟨("size_by", none), "size_by", "size_by", defArgs s_size_by, defBody s_size_by, defScope s_size_by, [], []⟩
def dd_second_bounds : He.DefD := ⟨("second_bounds", none), "second_bounds", "second_bounds", defArgs s_second_bounds, defBody s_second_bounds, defScope s_second_bounds, [], []⟩
def dd_bounds_at : He.DefD := ⟨("bounds_at", none), "bounds_at", "bounds_at", defArgs s_bounds_at, defBody s_bounds_at, defScope s_bounds_at, [], []⟩
def dd_value_at : He.DefD := ⟨("value_at", none), "value_at", "value_at", defArgs s_value_at, defBody s_value_at, defScope s_value_at, [], []⟩
def dd_Node___init__ : He.DefD := ⟨("Node", some "__init__"), "__init__", "Node.__init__", defArgs s_Node___init__, defBody s_Node___init__, defScope s_Node___init__, [], []⟩
def dd_all_but : He.DefD := ⟨("all_but", none), "all_but", "all_but", defArgs s_all_but, defBody s_all_but, defScope s_all_but, [], []⟩
def dd_Builder___init__ : He.DefD := ⟨("Builder", some "__init__"), "__init__", "Builder.__init__", defArgs s_Builder___init__, defBody s_Builder___init__, defScope s_Builder___init__, [], []⟩
def dd_Builder_added : He.DefD := ⟨("Builder", some "added"), "added", "Builder.added", defArgs s_Builder_added, defBody s_Builder_added, defScope s_Builder_added, [], []⟩
def dd_Builder_test : He.DefD := ⟨("Builder", some "test"), "test", "Builder.test", defArgs s_Builder_test, defBody s_Builder_test, defScope s_Builder_test, [], []⟩
def dd_Builder_sign : He.DefD := ⟨("Builder", some "sign"), "sign", "Builder.sign", defArgs s_Builder_sign, defBody s_Builder_sign, defScope s_Builder_sign, [], []⟩
def dd_Builder_empty : He.DefD := ⟨("Builder", some "empty"), "empty", "Builder.empty", defArgs s_Builder_empty, defBody s_Builder_empty, defScope s_Builder_empty, [], []⟩
def dd_Builder_row : He.DefD := ⟨("Builder", some "row"), "row", "Builder.row", defArgs s_Builder_row, defBody s_Builder_row, defScope s_Builder_row, [], []⟩
def dd_Builder_one_of : He.DefD := ⟨("Builder", some "one_of"), "one_of", "Builder.one_of", defArgs s_Builder_one_of, defBody s_Builder_one_of, defScope s_Builder_one_of, [], []⟩
def dd_Builder_named : He.DefD := ⟨("Builder", some "named"), "named", "Builder.named", defArgs s_Builder_named, defBody s_Builder_named, defScope s_Builder_named, [], []⟩
def dd_Builder_endless : He.DefD := ⟨("Builder", some "endless"), "endless", "Builder.endless", defArgs s_Builder_endless, defBody s_Builder_endless, defScope s_Builder_endless, [], []⟩
def dd_Builder_often : He.DefD := ⟨("Builder", some "often"), "often", "Builder.often", defArgs s_Builder_often, defBody s_Builder_often, defScope s_Builder_often, [], []⟩
def dd_class_bounds : He.DefD := ⟨("class_bounds", none), "class_bounds", "class_bounds", defArgs s_class_bounds, defBody s_class_bounds, defScope s_class_bounds, [], []⟩
def dd_is_figure : He.DefD := ⟨("is_figure", none), "is_figure", "is_figure", defArgs s_is_figure, defBody s_is_figure, defScope s_is_figure, [], []⟩
def dd_is_small : He.DefD := ⟨("is_small", none), "is_small", "is_small", defArgs s_is_small, defBody s_is_small, defScope s_is_small, [], []⟩
def dd_is_in_name : He.DefD := ⟨("is_in_name", none), "is_in_name", "is_in_name", defArgs s_is_in_name, defBody s_is_in_name, defScope s_is_in_name, [], []⟩
def dd_Level___init__ : He.DefD := ⟨("Level", some "__init__"), "__init__", "Level.__init__", defArgs s_Level___init__, defBody s_Level___init__, defScope s_Level___init__, [], []⟩
def dd_PatternReader___init__ : He.DefD := ⟨("PatternReader", some "__init__"), "__init__", "PatternReader.__init__", defArgs s_PatternReader___init__, defBody s_PatternReader___init__, defScope s_PatternReader___init__, [], []⟩
def dd_PatternReader_byte : He.DefD := ⟨("PatternReader", some "byte"), "byte", "PatternReader.byte", defArgs s_PatternReader_byte, defBody s_PatternReader_byte, defScope s_PatternReader_byte, [], []⟩
def dd_PatternReader_bar_from : He.DefD := ⟨("PatternReader", some "bar_from"), "bar_from", "PatternReader.bar_from", defArgs s_PatternReader_bar_from, defBody s_PatternReader_bar_from, defScope s_PatternReader_bar_from, [], []⟩
def dd_PatternReader_level : He.DefD := ⟨("PatternReader", some "level"), "level", "PatternReader.level", defArgs s_PatternReader_level, defBody s_PatternReader_level, defScope s_PatternReader_level, [], []⟩
def dd_PatternReader_add : He.DefD := ⟨("PatternReader", some "add"), "add", "PatternReader.add", defArgs s_PatternReader_add, defBody s_PatternReader_add, defScope s_PatternReader_add, [], []⟩
def dd_PatternReader_end_row : He.DefD := ⟨("PatternReader", some "end_row"), "end_row", "PatternReader.end_row", defArgs s_PatternReader_end_row, defBody s_PatternReader_end_row, defScope s_PatternReader_end_row, [], []⟩
def dd_PatternReader_close : He.DefD := ⟨("PatternReader", some "close"), "close", "PatternReader.close", defArgs s_PatternReader_close, defBody s_PatternReader_close, defScope s_PatternReader_close, [], []⟩
def dd_PatternReader_is_new_name : He.DefD := ⟨("PatternReader", some "is_new_name"), "is_new_name", "PatternReader.is_new_name", defArgs s_PatternReader_is_new_name, defBody s_PatternReader_is_new_name, defScope s_PatternReader_is_new_name, [], []⟩
def dd_PatternReader_take_name : He.DefD := ⟨("PatternReader", some "take_name"), "take_name", "PatternReader.take_name", defArgs s_PatternReader_take_name, defBody s_PatternReader_take_name, defScope s_PatternReader_take_name, [], []⟩
def dd_PatternReader_open_level : He.DefD := ⟨("PatternReader", some "open_level"), "open_level", "PatternReader.open_level", defArgs s_PatternReader_open_level, defBody s_PatternReader_open_level, defScope s_PatternReader_open_level, [], []⟩
def dd_PatternReader_number : He.DefD := ⟨("PatternReader", some "number"), "number", "PatternReader.number", defArgs s_PatternReader_number, defBody s_PatternReader_number, defScope s_PatternReader_number, [], []⟩
def dd_PatternReader_numbers : He.DefD := ⟨("PatternReader", some "numbers"), "numbers", "PatternReader.numbers", defArgs s_PatternReader_numbers, defBody s_PatternReader_numbers, defScope s_PatternReader_numbers, [], []⟩
def dd_PatternReader_repeat : He.DefD := ⟨("PatternReader", some "repeat"), "repeat", "PatternReader.repeat", defArgs s_PatternReader_repeat, defBody s_PatternReader_repeat, defScope s_PatternReader_repeat, [], []⟩
def dd_PatternReader_class_part : He.DefD := ⟨("PatternReader", some "class_part"), "class_part", "PatternReader.class_part", defArgs s_PatternReader_class_part, defBody s_PatternReader_class_part, defScope s_PatternReader_class_part, [], []⟩
def dd_PatternReader_escaped : He.DefD := ⟨("PatternReader", some "escaped"), "escaped", "PatternReader.escaped", defArgs s_PatternReader_escaped, defBody s_PatternReader_escaped, defScope s_PatternReader_escaped, [], []⟩
def dd_PatternReader_plain : He.DefD := ⟨("PatternReader", some "plain"), "plain", "PatternReader.plain", defArgs s_PatternReader_plain, defBody s_PatternReader_plain, defScope s_PatternReader_plain, [], []⟩
def dd_PatternReader_end_of_part : He.DefD := ⟨("PatternReader", some "end_of_part"), "end_of_part", "PatternReader.end_of_part", defArgs s_PatternReader_end_of_part, defBody s_PatternReader_end_of_part, defScope s_PatternReader_end_of_part, [], []⟩
def dd_PatternReader_part : He.DefD := ⟨("PatternReader", some "part"), "part", "PatternReader.part", defArgs s_PatternReader_part, defBody s_PatternReader_part, defScope s_PatternReader_part, [], []⟩
def dd_PatternReader_value_set : He.DefD := ⟨("PatternReader", some "value_set"), "value_set", "PatternReader.value_set", defArgs s_PatternReader_value_set, defBody s_PatternReader_value_set, defScope s_PatternReader_value_set, [], []⟩
def dd_PatternReader_escape : He.DefD := ⟨("PatternReader", some "escape"), "escape", "PatternReader.escape", defArgs s_PatternReader_escape, defBody s_PatternReader_escape, defScope s_PatternReader_escape, [], []⟩
def dd_PatternReader_atom : He.DefD := ⟨("PatternReader", some "atom"), "atom", "PatternReader.atom", defArgs s_PatternReader_atom, defBody s_PatternReader_atom, defScope s_PatternReader_atom, [], []⟩
def dd_PatternReader_take : He.DefD := ⟨("PatternReader", some "take"), "take", "PatternReader.take", defArgs s_PatternReader_take, defBody s_PatternReader_take, defScope s_PatternReader_take, [], []⟩
def dd_PatternReader_whole : He.DefD := ⟨("PatternReader", some "whole"), "whole", "PatternReader.whole", defArgs s_PatternReader_whole, defBody s_PatternReader_whole, defScope s_PatternReader_whole, [], []⟩
def dd_Pattern___init__ : He.DefD := ⟨("Pattern", some "__init__"), "__init__", "Pattern.__init__", defArgs s_Pattern___init__, defBody s_Pattern___init__, defScope s_Pattern___init__, [], []⟩
def dd_read_pattern : He.DefD := ⟨("read_pattern", none), "read_pattern", "read_pattern", defArgs s_read_pattern, defBody s_read_pattern, defScope s_read_pattern, [], []⟩
def dd_Refused___init__ : He.DefD := ⟨("Refused", some "__init__"), "__init__", "Refused.__init__", defArgs s_Refused___init__, defBody s_Refused___init__, defScope s_Refused___init__, [], []⟩
def dd_must_be_short : He.DefD := ⟨("must_be_short", none), "must_be_short", "must_be_short", defArgs s_must_be_short, defBody s_must_be_short, defScope s_must_be_short, [], []⟩
def dd_judged : He.DefD := ⟨("judged", none), "judged", "judged", defArgs s_judged, defBody s_judged, defScope s_judged, [], []⟩
def dd_judge_told : He.DefD := ⟨("judge_told", none), "judge_told", "judge_told", defArgs s_judge_told, defBody s_judge_told, defScope s_judge_told, [], []⟩
def dd_judge : He.DefD := ⟨("judge", none), "judge", "judge", defArgs s_judge, defBody s_judge, defScope s_judge, [], []⟩
def fn0 : List He.DefD := [dd_Fault___init__, dd_size_by, dd_second_bounds, dd_bounds_at, dd_value_at, dd_Node___init__, dd_all_but, dd_Builder___init__, dd_Builder_added, dd_Builder_test, dd_Builder_sign, dd_Builder_empty, dd_Builder_row, dd_Builder_one_of, dd_Builder_named, dd_Builder_endless, dd_Builder_often, dd_class_bounds, dd_is_figure, dd_is_small, dd_is_in_name, dd_Level___init__, dd_PatternReader___init__, dd_PatternReader_byte, dd_PatternReader_bar_from]
def fn1 : List He.DefD := [dd_PatternReader_level, dd_PatternReader_add, dd_PatternReader_end_row, dd_PatternReader_close, dd_PatternReader_is_new_name, dd_PatternReader_take_name, dd_PatternReader_open_level, dd_PatternReader_number, dd_PatternReader_numbers, dd_PatternReader_repeat, dd_PatternReader_class_part, dd_PatternReader_escaped, dd_PatternReader_plain, dd_PatternReader_end_of_part, dd_PatternReader_part, dd_PatternReader_value_set, dd_PatternReader_escape, dd_PatternReader_atom, dd_PatternReader_take, dd_PatternReader_whole, dd_Pattern___init__, dd_read_pattern, dd_Refused___init__, dd_must_be_short, dd_judged]
def fn2 : List He.DefD := [dd_judge_told, dd_judge]
def fn : List He.DefD := fn0 ++ (fn1 ++ (fn2))
def fa0 : List He.Fa := [.int "CANT_STAND" 2, .glo "Fault", .free "range", .free "len", .int "ENDS_TOO_SOON" 1, .int "GREATEST" 1114111, .free "max", .free "reversed", .glo "FIGURE_BOUNDS", .free "list", .glo "WORD_BOUNDS", .glo "BLANK_BOUNDS", .int "NOUGHT" 48, .int "MOST_NAME" 32, .int "MOST_NAMES" 16, .int "WRONG_NAME" 4, .int "BLANK" 32, .int "MOST_OPEN" 40, .int "TOO_DEEP" 5, .int "OPEN" 40, .int "CLOSE" 41, .int "MORE" 62, .int "MOST_NUMBER" 20, .int "WRONG_NUMBER" 3, .int "COMMA" 44]
def fa1 : List He.Fa := [.int "END_BRACE" 125, .int "PLUS" 43, .int "ASK" 63, .int "BRACE" 123, .int "BACKSLASH" 92, .glo "SELF_SIGNS", .glo "VALUE_SIGNS", .int "HAT" 94, .int "MINUS" 45, .int "SET" 91, .int "END_SET" 93, .int "WRONG_ORDER" 6, .int "LETTER_B" 98, .int "DOLLAR" 36, .free "int", .int "DOT" 46, .int "BAR" 124, .int "LESS" 60, .int "STAR" 42, .int "MOST_ATOMS" 200, .int "TOO_MANY" 7, .int "MOST_BYTES" 128, .free "any", .int "TOO_LONG" (-2), .glo "Refused"]
def fa2 : List He.Fa := [.noat "Fault" "place", .noat "Fault" "kind", .int "NO_PATTERN" (-6), .noat "Refused" "answer", .glo "size_by", .glo "second_bounds", .glo "bounds_at", .glo "value_at", .mkr "Node", .glo "Node", .glo "all_but", .mkr "Builder", .glo "Builder", .meth "Builder" "added", .cls "Builder", .meth "Builder" "test", .meth "Builder" "sign", .meth "Builder" "empty", .meth "Builder" "row", .meth "Builder" "one_of", .meth "Builder" "named", .meth "Builder" "endless", .meth "Builder" "often", .glo "class_bounds", .glo "is_figure"]
def fa3 : List He.Fa := [.glo "is_small", .glo "is_in_name", .mkr "Level", .glo "Level", .mkr "PatternReader", .glo "PatternReader", .meth "PatternReader" "byte", .cls "PatternReader", .meth "PatternReader" "bar_from", .meth "PatternReader" "level", .meth "PatternReader" "add", .meth "PatternReader" "end_row", .meth "PatternReader" "close", .meth "PatternReader" "is_new_name", .meth "PatternReader" "take_name", .meth "PatternReader" "open_level", .meth "PatternReader" "number", .meth "PatternReader" "numbers", .meth "PatternReader" "repeat", .meth "PatternReader" "class_part", .meth "PatternReader" "escaped", .meth "PatternReader" "plain", .meth "PatternReader" "end_of_part", .meth "PatternReader" "part", .meth "PatternReader" "value_set"]
def fa4 : List He.Fa := [.meth "PatternReader" "escape", .meth "PatternReader" "atom", .meth "PatternReader" "take", .meth "PatternReader" "whole", .mkr "Pattern", .glo "Pattern", .glo "read_pattern", .glo "must_be_short", .glo "judged", .glo "judge_told", .glo "judge", .cls "Node", .noat "Node" "kind", .noat "Node" "one", .noat "Node" "other", .noat "Node" "told", .noat "Builder" "nodes", .noat "Builder" "weights", .cls "Level", .noat "Level" "closing", .noat "Level" "name", .noat "Level" "rows", .noat "Level" "parts", .noat "PatternReader" "text", .noat "PatternReader" "place"]
def fa5 : List He.Fa := [.noat "PatternReader" "builder", .noat "PatternReader" "names", .noat "PatternReader" "levels", .noat "PatternReader" "has_atom", .cls "Pattern", .noat "Pattern" "nodes", .noat "Pattern" "root", .noat "Pattern" "names"]
def fa : List He.Fa := fa0 ++ (fa1 ++ (fa2 ++ (fa3 ++ (fa4 ++ (fa5)))))
def ex_0 : List (Ky → Bool) := [(fun K => excB K "Fault"), (fun K => excB K "Refused"), (fun K => hitB K "Fault"), (fun K => hitB K "Refused"), (fun K => tabB K "FIGURE_BOUNDS" figB), (fun K => tabB K "WORD_BOUNDS" wordB), (fun K => tabB K "BLANK_BOUNDS" blankB), (fun K => seqAt K (He.ga K "SELF_SIGNS") (nsV selfSigns)), (fun K => kdiB K (He.ga K "VALUE_SIGNS") [(110, 10), (116, 9)])]
def ex_ : List (Ky → Bool) := ex_0
def ex (K : Ky) : Bool := ex_.all fun f => f K
theorem ex_at {K : Ky} (e : ex K = true) (i : Nat) {f : Ky → Bool} (h : ex_[i]? = some f) : f K = true := List.all_eq_true.mp e f (List.mem_of_getElem? h)
theorem tx_of {K : Ky} {h : Heap} {w : World} {mg : Str → Option Value} (X : K.In h) (G : h.Ns mainGlobals mg) (c : He.SaysX fa fn [] [] ex w h K) : Tx K mg where
  i_CANT_STAND := He.int_ok X G (c.t.d.fact 0 (f := .int "CANT_STAND" 2) rfl)
  x_Fault := excB_xc (ex_at c.more 0 (f := fun K => excB K "Fault") rfl) (He.glo_ok X G (c.t.d.fact 1 (f := .glo "Fault") rfl))
  f_range := He.free_ok X G (c.t.d.fact 2 (f := .free "range") rfl)
  f_len := He.free_ok X G (c.t.d.fact 3 (f := .free "len") rfl)
  i_ENDS_TOO_SOON := He.int_ok X G (c.t.d.fact 4 (f := .int "ENDS_TOO_SOON" 1) rfl)
  i_GREATEST := He.int_ok X G (c.t.d.fact 5 (f := .int "GREATEST" 1114111) rfl)
  f_max := He.free_ok X G (c.t.d.fact 6 (f := .free "max") rfl)
  f_reversed := He.free_ok X G (c.t.d.fact 7 (f := .free "reversed") rfl)
  o_FIGURE_BOUNDS := (He.glo_ok X G (c.t.d.fact 8 (f := .glo "FIGURE_BOUNDS") rfl))
  f_list := He.free_ok X G (c.t.d.fact 9 (f := .free "list") rfl)
  o_WORD_BOUNDS := (He.glo_ok X G (c.t.d.fact 10 (f := .glo "WORD_BOUNDS") rfl))
  o_BLANK_BOUNDS := (He.glo_ok X G (c.t.d.fact 11 (f := .glo "BLANK_BOUNDS") rfl))
  i_NOUGHT := He.int_ok X G (c.t.d.fact 12 (f := .int "NOUGHT" 48) rfl)
  i_MOST_NAME := He.int_ok X G (c.t.d.fact 13 (f := .int "MOST_NAME" 32) rfl)
  i_MOST_NAMES := He.int_ok X G (c.t.d.fact 14 (f := .int "MOST_NAMES" 16) rfl)
  i_WRONG_NAME := He.int_ok X G (c.t.d.fact 15 (f := .int "WRONG_NAME" 4) rfl)
  i_BLANK := He.int_ok X G (c.t.d.fact 16 (f := .int "BLANK" 32) rfl)
  i_MOST_OPEN := He.int_ok X G (c.t.d.fact 17 (f := .int "MOST_OPEN" 40) rfl)
  i_TOO_DEEP := He.int_ok X G (c.t.d.fact 18 (f := .int "TOO_DEEP" 5) rfl)
  i_OPEN := He.int_ok X G (c.t.d.fact 19 (f := .int "OPEN" 40) rfl)
  i_CLOSE := He.int_ok X G (c.t.d.fact 20 (f := .int "CLOSE" 41) rfl)
  i_MORE := He.int_ok X G (c.t.d.fact 21 (f := .int "MORE" 62) rfl)
  i_MOST_NUMBER := He.int_ok X G (c.t.d.fact 22 (f := .int "MOST_NUMBER" 20) rfl)
  i_WRONG_NUMBER := He.int_ok X G (c.t.d.fact 23 (f := .int "WRONG_NUMBER" 3) rfl)
  i_COMMA := He.int_ok X G (c.t.d.fact 24 (f := .int "COMMA" 44) rfl)
  i_END_BRACE := He.int_ok X G (c.t.d.fact 25 (f := .int "END_BRACE" 125) rfl)
  i_PLUS := He.int_ok X G (c.t.d.fact 26 (f := .int "PLUS" 43) rfl)
  i_ASK := He.int_ok X G (c.t.d.fact 27 (f := .int "ASK" 63) rfl)
  i_BRACE := He.int_ok X G (c.t.d.fact 28 (f := .int "BRACE" 123) rfl)
  i_BACKSLASH := He.int_ok X G (c.t.d.fact 29 (f := .int "BACKSLASH" 92) rfl)
  o_SELF_SIGNS := (He.glo_ok X G (c.t.d.fact 30 (f := .glo "SELF_SIGNS") rfl))
  o_VALUE_SIGNS := (He.glo_ok X G (c.t.d.fact 31 (f := .glo "VALUE_SIGNS") rfl))
  i_HAT := He.int_ok X G (c.t.d.fact 32 (f := .int "HAT" 94) rfl)
  i_MINUS := He.int_ok X G (c.t.d.fact 33 (f := .int "MINUS" 45) rfl)
  i_SET := He.int_ok X G (c.t.d.fact 34 (f := .int "SET" 91) rfl)
  i_END_SET := He.int_ok X G (c.t.d.fact 35 (f := .int "END_SET" 93) rfl)
  i_WRONG_ORDER := He.int_ok X G (c.t.d.fact 36 (f := .int "WRONG_ORDER" 6) rfl)
  i_LETTER_B := He.int_ok X G (c.t.d.fact 37 (f := .int "LETTER_B" 98) rfl)
  i_DOLLAR := He.int_ok X G (c.t.d.fact 38 (f := .int "DOLLAR" 36) rfl)
  f_int := He.free_ok X G (c.t.d.fact 39 (f := .free "int") rfl)
  i_DOT := He.int_ok X G (c.t.d.fact 40 (f := .int "DOT" 46) rfl)
  i_BAR := He.int_ok X G (c.t.d.fact 41 (f := .int "BAR" 124) rfl)
  i_LESS := He.int_ok X G (c.t.d.fact 42 (f := .int "LESS" 60) rfl)
  i_STAR := He.int_ok X G (c.t.d.fact 43 (f := .int "STAR" 42) rfl)
  i_MOST_ATOMS := He.int_ok X G (c.t.d.fact 44 (f := .int "MOST_ATOMS" 200) rfl)
  i_TOO_MANY := He.int_ok X G (c.t.d.fact 45 (f := .int "TOO_MANY" 7) rfl)
  i_MOST_BYTES := He.int_ok X G (c.t.d.fact 46 (f := .int "MOST_BYTES" 128) rfl)
  f_any := He.free_ok X G (c.t.d.fact 47 (f := .free "any") rfl)
  i_TOO_LONG := He.int_ok X G (c.t.d.fact 48 (f := .int "TOO_LONG" (-2)) rfl)
  x_Refused := excB_xc (ex_at c.more 1 (f := fun K => excB K "Refused") rfl) (He.glo_ok X G (c.t.d.fact 49 (f := .glo "Refused") rfl))
  n_Fault_place := He.noat_ok (c.t.d.fact 50 (f := .noat "Fault" "place") rfl)
  n_Fault_kind := He.noat_ok (c.t.d.fact 51 (f := .noat "Fault" "kind") rfl)
  i_NO_PATTERN := He.int_ok X G (c.t.d.fact 52 (f := .int "NO_PATTERN" (-6)) rfl)
  n_Refused_answer := He.noat_ok (c.t.d.fact 53 (f := .noat "Refused" "answer") rfl)
  D_Fault___init__ := c.t.d.def_ 0 (d := dd_Fault___init__) rfl
  D_size_by := c.t.d.def_ 1 (d := dd_size_by) rfl
  g_size_by := (He.glo_ok X G (c.t.d.fact 54 (f := .glo "size_by") rfl))
  D_second_bounds := c.t.d.def_ 2 (d := dd_second_bounds) rfl
  g_second_bounds := (He.glo_ok X G (c.t.d.fact 55 (f := .glo "second_bounds") rfl))
  D_bounds_at := c.t.d.def_ 3 (d := dd_bounds_at) rfl
  g_bounds_at := (He.glo_ok X G (c.t.d.fact 56 (f := .glo "bounds_at") rfl))
  D_value_at := c.t.d.def_ 4 (d := dd_value_at) rfl
  g_value_at := (He.glo_ok X G (c.t.d.fact 57 (f := .glo "value_at") rfl))
  D_Node___init__ := c.t.d.def_ 5 (d := dd_Node___init__) rfl
  k_Node := He.mkr_ok (c.t.d.fact 58 (f := .mkr "Node") rfl)
  g_Node := (He.glo_ok X G (c.t.d.fact 59 (f := .glo "Node") rfl))
  D_all_but := c.t.d.def_ 6 (d := dd_all_but) rfl
  g_all_but := (He.glo_ok X G (c.t.d.fact 60 (f := .glo "all_but") rfl))
  D_Builder___init__ := c.t.d.def_ 7 (d := dd_Builder___init__) rfl
  k_Builder := He.mkr_ok (c.t.d.fact 61 (f := .mkr "Builder") rfl)
  g_Builder := (He.glo_ok X G (c.t.d.fact 62 (f := .glo "Builder") rfl))
  D_Builder_added := c.t.d.def_ 8 (d := dd_Builder_added) rfl
  m_Builder_added := He.meth_ok (c.t.d.fact 63 (f := .meth "Builder" "added") rfl)
  c_Builder := He.cls_ok (c.t.d.fact 64 (f := .cls "Builder") rfl)
  D_Builder_test := c.t.d.def_ 9 (d := dd_Builder_test) rfl
  m_Builder_test := He.meth_ok (c.t.d.fact 65 (f := .meth "Builder" "test") rfl)
  D_Builder_sign := c.t.d.def_ 10 (d := dd_Builder_sign) rfl
  m_Builder_sign := He.meth_ok (c.t.d.fact 66 (f := .meth "Builder" "sign") rfl)
  D_Builder_empty := c.t.d.def_ 11 (d := dd_Builder_empty) rfl
  m_Builder_empty := He.meth_ok (c.t.d.fact 67 (f := .meth "Builder" "empty") rfl)
  D_Builder_row := c.t.d.def_ 12 (d := dd_Builder_row) rfl
  m_Builder_row := He.meth_ok (c.t.d.fact 68 (f := .meth "Builder" "row") rfl)
  D_Builder_one_of := c.t.d.def_ 13 (d := dd_Builder_one_of) rfl
  m_Builder_one_of := He.meth_ok (c.t.d.fact 69 (f := .meth "Builder" "one_of") rfl)
  D_Builder_named := c.t.d.def_ 14 (d := dd_Builder_named) rfl
  m_Builder_named := He.meth_ok (c.t.d.fact 70 (f := .meth "Builder" "named") rfl)
  D_Builder_endless := c.t.d.def_ 15 (d := dd_Builder_endless) rfl
  m_Builder_endless := He.meth_ok (c.t.d.fact 71 (f := .meth "Builder" "endless") rfl)
  D_Builder_often := c.t.d.def_ 16 (d := dd_Builder_often) rfl
  m_Builder_often := He.meth_ok (c.t.d.fact 72 (f := .meth "Builder" "often") rfl)
  D_class_bounds := c.t.d.def_ 17 (d := dd_class_bounds) rfl
  g_class_bounds := (He.glo_ok X G (c.t.d.fact 73 (f := .glo "class_bounds") rfl))
  D_is_figure := c.t.d.def_ 18 (d := dd_is_figure) rfl
  g_is_figure := (He.glo_ok X G (c.t.d.fact 74 (f := .glo "is_figure") rfl))
  D_is_small := c.t.d.def_ 19 (d := dd_is_small) rfl
  g_is_small := (He.glo_ok X G (c.t.d.fact 75 (f := .glo "is_small") rfl))
  D_is_in_name := c.t.d.def_ 20 (d := dd_is_in_name) rfl
  g_is_in_name := (He.glo_ok X G (c.t.d.fact 76 (f := .glo "is_in_name") rfl))
  D_Level___init__ := c.t.d.def_ 21 (d := dd_Level___init__) rfl
  k_Level := He.mkr_ok (c.t.d.fact 77 (f := .mkr "Level") rfl)
  g_Level := (He.glo_ok X G (c.t.d.fact 78 (f := .glo "Level") rfl))
  D_PatternReader___init__ := c.t.d.def_ 22 (d := dd_PatternReader___init__) rfl
  k_PatternReader := He.mkr_ok (c.t.d.fact 79 (f := .mkr "PatternReader") rfl)
  g_PatternReader := (He.glo_ok X G (c.t.d.fact 80 (f := .glo "PatternReader") rfl))
  D_PatternReader_byte := c.t.d.def_ 23 (d := dd_PatternReader_byte) rfl
  m_PatternReader_byte := He.meth_ok (c.t.d.fact 81 (f := .meth "PatternReader" "byte") rfl)
  c_PatternReader := He.cls_ok (c.t.d.fact 82 (f := .cls "PatternReader") rfl)
  D_PatternReader_bar_from := c.t.d.def_ 24 (d := dd_PatternReader_bar_from) rfl
  m_PatternReader_bar_from := He.meth_ok (c.t.d.fact 83 (f := .meth "PatternReader" "bar_from") rfl)
  D_PatternReader_level := c.t.d.def_ 25 (d := dd_PatternReader_level) rfl
  m_PatternReader_level := He.meth_ok (c.t.d.fact 84 (f := .meth "PatternReader" "level") rfl)
  D_PatternReader_add := c.t.d.def_ 26 (d := dd_PatternReader_add) rfl
  m_PatternReader_add := He.meth_ok (c.t.d.fact 85 (f := .meth "PatternReader" "add") rfl)
  D_PatternReader_end_row := c.t.d.def_ 27 (d := dd_PatternReader_end_row) rfl
  m_PatternReader_end_row := He.meth_ok (c.t.d.fact 86 (f := .meth "PatternReader" "end_row") rfl)
  D_PatternReader_close := c.t.d.def_ 28 (d := dd_PatternReader_close) rfl
  m_PatternReader_close := He.meth_ok (c.t.d.fact 87 (f := .meth "PatternReader" "close") rfl)
  D_PatternReader_is_new_name := c.t.d.def_ 29 (d := dd_PatternReader_is_new_name) rfl
  m_PatternReader_is_new_name := He.meth_ok (c.t.d.fact 88 (f := .meth "PatternReader" "is_new_name") rfl)
  D_PatternReader_take_name := c.t.d.def_ 30 (d := dd_PatternReader_take_name) rfl
  m_PatternReader_take_name := He.meth_ok (c.t.d.fact 89 (f := .meth "PatternReader" "take_name") rfl)
  D_PatternReader_open_level := c.t.d.def_ 31 (d := dd_PatternReader_open_level) rfl
  m_PatternReader_open_level := He.meth_ok (c.t.d.fact 90 (f := .meth "PatternReader" "open_level") rfl)
  D_PatternReader_number := c.t.d.def_ 32 (d := dd_PatternReader_number) rfl
  m_PatternReader_number := He.meth_ok (c.t.d.fact 91 (f := .meth "PatternReader" "number") rfl)
  D_PatternReader_numbers := c.t.d.def_ 33 (d := dd_PatternReader_numbers) rfl
  m_PatternReader_numbers := He.meth_ok (c.t.d.fact 92 (f := .meth "PatternReader" "numbers") rfl)
  D_PatternReader_repeat := c.t.d.def_ 34 (d := dd_PatternReader_repeat) rfl
  m_PatternReader_repeat := He.meth_ok (c.t.d.fact 93 (f := .meth "PatternReader" "repeat") rfl)
  D_PatternReader_class_part := c.t.d.def_ 35 (d := dd_PatternReader_class_part) rfl
  m_PatternReader_class_part := He.meth_ok (c.t.d.fact 94 (f := .meth "PatternReader" "class_part") rfl)
  D_PatternReader_escaped := c.t.d.def_ 36 (d := dd_PatternReader_escaped) rfl
  m_PatternReader_escaped := He.meth_ok (c.t.d.fact 95 (f := .meth "PatternReader" "escaped") rfl)
  D_PatternReader_plain := c.t.d.def_ 37 (d := dd_PatternReader_plain) rfl
  m_PatternReader_plain := He.meth_ok (c.t.d.fact 96 (f := .meth "PatternReader" "plain") rfl)
  D_PatternReader_end_of_part := c.t.d.def_ 38 (d := dd_PatternReader_end_of_part) rfl
  m_PatternReader_end_of_part := He.meth_ok (c.t.d.fact 97 (f := .meth "PatternReader" "end_of_part") rfl)
  D_PatternReader_part := c.t.d.def_ 39 (d := dd_PatternReader_part) rfl
  m_PatternReader_part := He.meth_ok (c.t.d.fact 98 (f := .meth "PatternReader" "part") rfl)
  D_PatternReader_value_set := c.t.d.def_ 40 (d := dd_PatternReader_value_set) rfl
  m_PatternReader_value_set := He.meth_ok (c.t.d.fact 99 (f := .meth "PatternReader" "value_set") rfl)
  D_PatternReader_escape := c.t.d.def_ 41 (d := dd_PatternReader_escape) rfl
  m_PatternReader_escape := He.meth_ok (c.t.d.fact 100 (f := .meth "PatternReader" "escape") rfl)
  D_PatternReader_atom := c.t.d.def_ 42 (d := dd_PatternReader_atom) rfl
  m_PatternReader_atom := He.meth_ok (c.t.d.fact 101 (f := .meth "PatternReader" "atom") rfl)
  D_PatternReader_take := c.t.d.def_ 43 (d := dd_PatternReader_take) rfl
  m_PatternReader_take := He.meth_ok (c.t.d.fact 102 (f := .meth "PatternReader" "take") rfl)
  D_PatternReader_whole := c.t.d.def_ 44 (d := dd_PatternReader_whole) rfl
  m_PatternReader_whole := He.meth_ok (c.t.d.fact 103 (f := .meth "PatternReader" "whole") rfl)
  D_Pattern___init__ := c.t.d.def_ 45 (d := dd_Pattern___init__) rfl
  k_Pattern := He.mkr_ok (c.t.d.fact 104 (f := .mkr "Pattern") rfl)
  g_Pattern := (He.glo_ok X G (c.t.d.fact 105 (f := .glo "Pattern") rfl))
  D_read_pattern := c.t.d.def_ 46 (d := dd_read_pattern) rfl
  g_read_pattern := (He.glo_ok X G (c.t.d.fact 106 (f := .glo "read_pattern") rfl))
  D_Refused___init__ := c.t.d.def_ 47 (d := dd_Refused___init__) rfl
  D_must_be_short := c.t.d.def_ 48 (d := dd_must_be_short) rfl
  g_must_be_short := (He.glo_ok X G (c.t.d.fact 107 (f := .glo "must_be_short") rfl))
  D_judged := c.t.d.def_ 49 (d := dd_judged) rfl
  g_judged := (He.glo_ok X G (c.t.d.fact 108 (f := .glo "judged") rfl))
  D_judge_told := c.t.d.def_ 50 (d := dd_judge_told) rfl
  g_judge_told := (He.glo_ok X G (c.t.d.fact 109 (f := .glo "judge_told") rfl))
  D_judge := c.t.d.def_ 51 (d := dd_judge) rfl
  g_judge := (He.glo_ok X G (c.t.d.fact 110 (f := .glo "judge") rfl))
  kk_Fault := ⟨excB_oex (ex_at c.more 0 (f := fun K => excB K "Fault") rfl), He.noat_ok (c.t.d.fact 51 (f := .noat "Fault" "kind") rfl), He.noat_ok (c.t.d.fact 50 (f := .noat "Fault" "place") rfl)⟩
  kk_Node := ⟨He.cls_ok (c.t.d.fact 111 (f := .cls "Node") rfl), He.noat_ok (c.t.d.fact 112 (f := .noat "Node" "kind") rfl), He.noat_ok (c.t.d.fact 113 (f := .noat "Node" "one") rfl), He.noat_ok (c.t.d.fact 114 (f := .noat "Node" "other") rfl), He.noat_ok (c.t.d.fact 115 (f := .noat "Node" "told") rfl)⟩
  kk_Builder := ⟨He.cls_ok (c.t.d.fact 64 (f := .cls "Builder") rfl), He.noat_ok (c.t.d.fact 116 (f := .noat "Builder" "nodes") rfl), He.noat_ok (c.t.d.fact 117 (f := .noat "Builder" "weights") rfl)⟩
  kk_Level := ⟨He.cls_ok (c.t.d.fact 118 (f := .cls "Level") rfl), He.noat_ok (c.t.d.fact 119 (f := .noat "Level" "closing") rfl), He.noat_ok (c.t.d.fact 120 (f := .noat "Level" "name") rfl), He.noat_ok (c.t.d.fact 121 (f := .noat "Level" "rows") rfl), He.noat_ok (c.t.d.fact 122 (f := .noat "Level" "parts") rfl)⟩
  kk_PatternReader := ⟨He.cls_ok (c.t.d.fact 82 (f := .cls "PatternReader") rfl), He.noat_ok (c.t.d.fact 123 (f := .noat "PatternReader" "text") rfl), He.noat_ok (c.t.d.fact 124 (f := .noat "PatternReader" "place") rfl), He.noat_ok (c.t.d.fact 125 (f := .noat "PatternReader" "builder") rfl), He.noat_ok (c.t.d.fact 126 (f := .noat "PatternReader" "names") rfl), He.noat_ok (c.t.d.fact 127 (f := .noat "PatternReader" "levels") rfl), He.noat_ok (c.t.d.fact 128 (f := .noat "PatternReader" "has_atom") rfl)⟩
  kk_Pattern := ⟨He.cls_ok (c.t.d.fact 129 (f := .cls "Pattern") rfl), He.noat_ok (c.t.d.fact 130 (f := .noat "Pattern" "nodes") rfl), He.noat_ok (c.t.d.fact 131 (f := .noat "Pattern" "root") rfl), He.noat_ok (c.t.d.fact 132 (f := .noat "Pattern" "names") rfl)⟩
  kk_Refused := ⟨excB_oex (ex_at c.more 1 (f := fun K => excB K "Refused") rfl), He.noat_ok (c.t.d.fact 53 (f := .noat "Refused" "answer") rfl)⟩
  h_Fault := hitB_ok (ex_at c.more 2 (f := fun K => hitB K "Fault") rfl)
  h_Refused := hitB_ok (ex_at c.more 3 (f := fun K => hitB K "Refused") rfl)
  t_FIGURE_BOUNDS := tabB_ok (ex_at c.more 4 (f := fun K => tabB K "FIGURE_BOUNDS" figB) rfl)
  t_WORD_BOUNDS := tabB_ok (ex_at c.more 5 (f := fun K => tabB K "WORD_BOUNDS" wordB) rfl)
  t_BLANK_BOUNDS := tabB_ok (ex_at c.more 6 (f := fun K => tabB K "BLANK_BOUNDS" blankB) rfl)
  t_SELF_SIGNS := seqAt_ok (ex_at c.more 7 (f := fun K => seqAt K (He.ga K "SELF_SIGNS") (nsV selfSigns)) rfl)
  t_VALUE_SIGNS := kdiB_ok (ex_at c.more 8 (f := fun K => kdiB K (He.ga K "VALUE_SIGNS") [(110, 10), (116, 9)]) rfl)
abbrev RR : PySem.W.OpenSpec := PySem.Challenge.rw_toldpatterns_s01_judge
abbrev hk : PySem.W.Hook := He.hookX 4 fa fn [] [] ex
def ob (s : PySem.W.SharedT) : He.AlX := He.obsX 4 fa fn [] [] ex (HandSHeadRun.getT s)
theorem ob_eq (s : PySem.W.SharedT) : ob s = hk.obs s.abs := He.obsX_eq (HandSHeadRun.getT_eq s)
def names0 : List Str := ["ENDS_TOO_SOON", "CANT_STAND", "GREATEST", "Fault", "size_by", "second_bounds", "bounds_at", "value_at", "FIGURE_BOUNDS", "WORD_BOUNDS", "BLANK_BOUNDS", "Node", "all_but", "Builder", "WRONG_NUMBER", "WRONG_NAME", "TOO_DEEP", "WRONG_ORDER", "TOO_MANY", "MOST_NUMBER", "MOST_NAME", "MOST_NAMES", "MOST_OPEN", "MOST_ATOMS", "BLANK"]
def names1 : List Str := ["DOLLAR", "OPEN", "CLOSE", "STAR", "PLUS", "COMMA", "MINUS", "DOT", "NOUGHT", "LESS", "MORE", "ASK", "SET", "BACKSLASH", "END_SET", "HAT", "BRACE", "BAR", "END_BRACE", "LETTER_B", "SELF_SIGNS", "VALUE_SIGNS", "class_bounds", "is_figure", "is_small"]
def names2 : List Str := ["is_in_name", "Level", "PatternReader", "Pattern", "read_pattern", "Refused", "MOST_BYTES", "TOO_LONG", "NO_PATTERN", "must_be_short", "judged", "judge_told"]
def names : List Str := names0 ++ (names1 ++ (names2))
theorem run_false (w : World) : HandSHeadRun.RunEqS RR (PySem.W.view RR.prog [68]) hk ob 6000 names (w.withFollow "special-get-raises" false) := by
  intro os
  kernel_rfl
theorem run_true (w : World) : HandSHeadRun.RunEqS RR (PySem.W.view RR.prog [68]) hk ob 6000 names (w.withFollow "special-get-raises" true) := by
  intro os
  kernel_rfl
theorem run_ (w : World) : HandSHeadRun.RunEqS RR (PySem.W.view RR.prog [68]) hk ob 6000 names w := PySem.W.byRow2 "special-get-raises" (P := fun w => HandSHeadRun.RunEqS RR (PySem.W.view RR.prog [68]) hk ob 6000 names w) run_false run_true w
theorem asked_ {P : Program} {w : World} {K : Ky} {h : Heap} {mg : Str → Option Value} {f : Addr} (X : K.In h) (G : h.Ns mainGlobals mg) (hfa : mg "judge" = some (.ref f)) (c : He.SaysX fa fn [] [] ex w h K) :
    ∃ fd : FuncData, (∀ (s : Shared) (us : List Value), us.length = (["p"] : List Str).length → BindsTo s fd ⟨us, []⟩ ((["p"] : List Str).zip us)) ∧ ∀ base : Heap, K.In base → base.Ns mainGlobals mg → FnOk P w K mg base CX0 14 f fd ["p"] (sp_judge K) := by
  have T := tx_of X G c
  have e := hfa.symm.trans (He.glo_ok X G (c.t.d.fact 110 (f := .glo "judge") rfl))
  cases e
  obtain ⟨fd, FD⟩ := T.D_judge
  have bd := FD.bindsA (ps := ["p"]) fun _ _ _ _ _ _ us hl => match us, hl with | [_], _ => rfl
  refine ⟨fd, fun s us hu => bd s us hu, fun base _ _ => ?_⟩
  exact FD.ok (P := P) (w := w) (mg := mg) (base := base) (CX := CX0) (k := 13) sc_judge (len_judge K) (fun cdv A outer s H vs Q E hr h => ⟨t_judge K E, PSs.nox ((pss_cons (ps_tryA (i := 2) (by rfl) (by rfl) sc_judge.nd (by rfl) (by rfl) T.x_Refused.mg (fun W pn xe tk _ => (pss_one (ps_set (i := 1) sc_judge.nd rfl (Or.inl rfl) (pe_fnS (F_judge_told T) (hr.mono (by decide)) (fun σ => passAt tk σ) (pa_cons (pv 0) pa_nil))))) (fun a oe cls d pn hz hf => (pss_one (ps_set (i := 1) sc_judge.nd rfl (Or.inl rfl) (pe_xf T.x_Refused.xf T.n_Refused_answer hz hf (pv 2))))))
      (pss_one (ps_ret (pv 1))))), pure_judge T.h_Refused vs H Q E h⟩)
end Mi
set_option maxHeartbeats 8000000
namespace Mi
open PySem PySem.Spec PyProof.Rows L2
open PySem.W (Codec)
theorem ok_ints {l : List Int} (h : l.all (Codec.inInt 0 255) = true) : ∃ B : Bs, Ok B ∧ l = B.map Int.ofNat := by
  have ha : ∀ z ∈ l, 0 ≤ z ∧ z ≤ 255 := fun z hz => by
    have := List.all_eq_true.mp h z hz
    obtain ⟨h1, h2⟩ := two (show (decide (0 ≤ z) && decide (z ≤ 255)) = true from this)
    exact ⟨of_decide_eq_true h1, of_decide_eq_true h2⟩
  refine ⟨l.map Int.toNat, fun c hc => ?_, ?_⟩
  · obtain ⟨z, hz, rfl⟩ := List.mem_map.mp hc
    have := ha z hz
    omega
  · rw [List.map_map]
    symm
    conv => rhs; rw [← List.map_id l]
    refine List.map_congr_left fun z hz => ?_
    have := ha z hz
    show ((z.toNat : Nat) : Int) = z
    omega
theorem nsV_ints (B : Bs) : (B.map Int.ofNat).map V.int = nsV B := by unfold nsV nV; rw [List.map_map]; rfl
end Mi
open PySem PySem.W PySem.Calls PyProof.Rows
theorem PySem.Challenge.cw_toldpatterns_s01_judge_holds : PySem.Challenge.rw_toldpatterns_s01_judge.Holds := by
  w_on
  refine HandSHeadRun.head_spec (r := PySem.Challenge.rw_toldpatterns_s01_judge) (q := view PySem.Challenge.rw_toldpatterns_s01_judge.prog [68]) (H := Mi.hk) (ob := Mi.ob) (M := 6000) (loose := Mi.names) (d := HandSHeadRun.topDef PySem.Challenge.rw_toldpatterns_s01_judge.prog 68) (kwd := []) Mi.ob_eq
    (by kernel_rfl) (fun s => by kernel_rfl) Mi.run_ (by kernel_rfl) (by kernel_rfl) (by kernel_rfl) os_shapes (by first | assumption | decide +kernel) (by decide +kernel) ⟨rfl, rfl, rfl, rfl, rfl, by decide +kernel⟩ ?hw ?hc
  case hw => exact ⟨[.list []], by decide +kernel, by decide +kernel⟩
  case hc =>
    refine Mi.walk_facts (r := PySem.Challenge.rw_toldpatterns_s01_judge) (k := 14) (CX := L2.CX0) (ps := ["p"]) (sp := Mi.sp_judge) (by decide +kernel) (by kernel_rfl) rfl ⟨rfl, by decide, by decide⟩ ?F ?S (fun _ _ _ _ z => z)
    case F =>
      intro w mg fa h Y G hmg0
      obtain ⟨K, KX, c⟩ := Y
      have hmg : mg ("judge" : PySem.Str) = some (.ref fa) := by
        have e : (HandSHeadRun.topDef PySem.Challenge.rw_toldpatterns_s01_judge.prog 68).name = ("judge" : PySem.Str) := by kernel_rfl
        rw [← e]
        exact hmg0
      obtain ⟨fd, hb, hF⟩ := Mi.asked_ (P := PySem.Challenge.rw_toldpatterns_s01_judge.prog) (w := w) KX G hmg c
      exact ⟨K, fd, KX, hb, hF⟩
    case S =>
      intro K H xs a hwi hx
      cases hx with
      | cons h1 h2 =>
        cases h2
        cases h1 with
        | lst hs ha =>
          have e := L2.ints_dw a.1 _ ha
          subst e
          have q : ((Codec.inLen 0 1000 a.1 && a.1.all (Codec.inInt 0 255)) && true) = true := hwi
          rw [Bool.and_eq_true, Bool.and_eq_true] at q
          obtain ⟨B, ok, eB⟩ := Mi.ok_ints q.1.2
          rw [eB, Mi.nsV_ints] at hs
          refine ⟨_, B, rfl, hs, ok, fun H' p hp => ?_⟩
          refine L2.Dw.lst (L2.SqL.of hp) ?_
          rw [← eB]
          exact L2.dw_ints _
