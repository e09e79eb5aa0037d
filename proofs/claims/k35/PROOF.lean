import PyProof.Rows.All
import Wide.All
import OpenK.AllK
import Wide.FinOn
import PySem.Str
import PyProof.EqAt
import PyProof.EqKinds
import PyProof.TupleCall
import KE.GoesMore
import HandS.ForMost
import HandS.Walk
import HandS.Zip
import HandS.TupMul
import HandS.TupAny
import HandS.IsInst
import HandS.More
import PySem.Challenge.RW_eyesonly_k35_whole_plain_runs_of_rows
import HandS.Style
import KE.KDictZip
import KE.KDictItemsList
import HandS.ListItems
import HandS.NoneIn
import HandS.Conv
import PyProof.ReprHeadsTuple
import PyProof.FitsInt
import HandS.FStrTup
import HandS.Ends
import HandS.Words
import HandS.Call
set_option Elab.async false
section
open PySem PySem.W PyProof.Rows
set_option maxRecDepth 100000 in
set_option maxHeartbeats 0 in
open_top headL for PySem.Challenge.rw_eyesonly_k35_whole_plain_runs_of_rows
end
set_option linter.all false
/-! E0: the plain law: trees and places, rows, kinds, typing, the machine. No program in sight. -/
namespace Eo
open PySem

/-! ### trees and places -/
inductive Kd where
  | place | truth
  deriving DecidableEq

inductive Tr where
  | nil
  | node (g : Str) (l r : Tr)

namespace Tr
def size : Tr → Nat
  | nil => 0
  | node _ l r => 1 + l.size + r.size
def hgt : Tr → Nat
  | nil => 0
  | node _ l r => 1 + max l.hgt r.hgt
def isNil : Tr → Bool
  | nil => true
  | node _ _ _ => false
def tag : Tr → Option Str
  | nil => none
  | node g _ _ => some g
def kid (b : Bool) : Tr → Tr
  | nil => nil
  | node _ l r => if b then r else l
theorem hgt_le : ∀ t : Tr, t.hgt ≤ t.size
  | nil => Nat.le_refl _
  | node _ l r => by
    have := hgt_le l
    have := hgt_le r
    simp only [hgt, size]
    omega
end Tr

def GoodTag (g : Str) : Prop := 1 ≤ g.length ∧ g.length ≤ 8 ∧ ∀ c ∈ g.cps.toList, 97 ≤ c ∧ c ≤ 122
def Tr.good : Tr → Prop
  | .nil => True
  | .node g l r => GoodTag g ∧ l.good ∧ r.good

def sub : List Bool → Tr → Tr
  | [], t => t
  | b :: p, t => sub p (t.kid b)
def isPl : List Bool → Tr → Prop
  | [], _ => True
  | b :: p, t => t.isNil = false ∧ isPl p (t.kid b)

theorem sub_snoc (b : Bool) : ∀ (p : List Bool) (t : Tr), sub (p ++ [b]) t = (sub p t).kid b
  | [], t => rfl
  | c :: p, t => sub_snoc b p (t.kid c)
theorem isPl_snoc (b : Bool) : ∀ (p : List Bool) (t : Tr), isPl p t → (sub p t).isNil = false → isPl (p ++ [b]) t
  | [], t, _, h => ⟨h, trivial⟩
  | c :: p, t, ⟨h1, h2⟩, h => ⟨h1, isPl_snoc b p (t.kid c) h2 h⟩
theorem isPl_drop : ∀ (p : List Bool) (t : Tr), isPl p t → isPl p.dropLast t
  | [], _, _ => trivial
  | [_], _, _ => trivial
  | b :: c :: p, t, ⟨h1, h2⟩ => ⟨h1, isPl_drop (c :: p) (t.kid b) h2⟩
theorem isPl_len : ∀ (p : List Bool) (t : Tr), isPl p t → p.length ≤ t.hgt
  | [], _, _ => Nat.zero_le _
  | b :: p, .nil, ⟨h1, _⟩ => by cases h1
  | b :: p, .node g l r, ⟨_, h2⟩ => by
    have h := isPl_len p _ h2
    have e : (Tr.node g l r).kid b = if b then r else l := rfl
    rw [e] at h
    simp only [Tr.hgt, List.length_cons]
    cases b <;> simp at h <;> omega

/-- all places in order of the walk that puts them into the dict, with what stands there -/
def spots : Tr → List Bool → List (List Bool × Option Str)
  | .nil, p => [(p, none)]
  | .node g l r, p => (p, some g) :: (spots l (p ++ [false]) ++ spots r (p ++ [true]))
theorem spots_len : ∀ (t : Tr) (p : List Bool), (spots t p).length = 2 * t.size + 1
  | .nil, _ => rfl
  | .node g l r, p => by
    simp only [spots, List.length_cons, List.length_append, spots_len l, spots_len r, Tr.size]
    omega
theorem spots_mem : ∀ (t : Tr) (p : List Bool) (q : List Bool) (o : Option Str), (q, o) ∈ spots t p ↔ ∃ s, q = p ++ s ∧ isPl s t ∧ o = (sub s t).tag
  | .nil, p, q, o => by
    simp only [spots, List.mem_singleton, Prod.mk.injEq]
    constructor
    · rintro ⟨rfl, rfl⟩
      exact ⟨[], by simp, trivial, rfl⟩
    · rintro ⟨s, rfl, h, rfl⟩
      cases s with
      | nil => exact ⟨by simp, rfl⟩
      | cons b s => exact absurd h.1 (by simp [Tr.isNil])
  | .node g l r, p, q, o => by
    simp only [spots, List.mem_cons, List.mem_append, spots_mem l, spots_mem r, Prod.mk.injEq]
    constructor
    · rintro (⟨rfl, rfl⟩ | ⟨s, rfl, h, rfl⟩ | ⟨s, rfl, h, rfl⟩)
      · exact ⟨[], by simp, trivial, rfl⟩
      · exact ⟨false :: s, by simp, ⟨rfl, h⟩, rfl⟩
      · exact ⟨true :: s, by simp, ⟨rfl, h⟩, rfl⟩
    · rintro ⟨s, rfl, h, rfl⟩
      cases s with
      | nil => exact .inl ⟨by simp, rfl⟩
      | cons b s =>
        cases b with
        | false => exact .inr (.inl ⟨s, by simp, h.2, rfl⟩)
        | true => exact .inr (.inr ⟨s, by simp, h.2, rfl⟩)

/-! ### rows -/
inductive Row where
  | top (d : Nat) | move (d s : Nat) | left (d s : Nat) | right (d s : Nat) | up (d s : Nat)
  | yes (d : Nat) | no (d : Nat) | has (d s : Nat) (g : Str) | empty (d s : Nat) | same (d s u : Nat) | not (d s : Nat)
  | skip (k : Nat) | unl (s k : Nat) | call (d f : Nat) (as : List Nat) | give (s : Nat)

namespace Row
def reads : Row → List Nat
  | top _ => [] | move _ s => [s] | left _ s => [s] | right _ s => [s] | up _ s => [s]
  | yes _ => [] | no _ => [] | has _ s _ => [s] | empty _ s => [s] | same _ s u => [s, u] | not _ s => [s]
  | skip _ => [] | unl s _ => [s] | call _ _ as => as | give s => [s]
def sets : Row → Option Nat
  | top d => some d | move d _ => some d | left d _ => some d | right d _ => some d | up d _ => some d
  | yes d => some d | no d => some d | has d _ _ => some d | empty d _ => some d | same d _ _ => some d | not d _ => some d
  | skip _ => none | unl _ _ => none | call d _ _ => some d | give _ => none
def want (fk : Kd) : Row → Option Kd
  | top _ => some .place | move _ _ => none | left _ _ => some .place | right _ _ => some .place | up _ _ => some .place
  | yes _ => some .place | no _ => some .place | has _ _ _ => some .place | empty _ _ => some .place | same _ _ _ => some .place | not _ _ => some .truth
  | skip _ => some .place | unl _ _ => some .truth | call _ _ _ => some .place | give _ => some fk
def succs (at_ : Nat) : Row → List Nat
  | skip k => [k]
  | unl _ k => [at_ + 1, k]
  | give _ => []
  | _ => [at_ + 1]
def falls : Row → Bool
  | skip _ => false
  | give _ => false
  | _ => true
end Row

abbrev Heads := List (Kd × Nat)
abbrev Ks := Nat → Option Kd
def Le (a b : Ks) : Prop := ∀ i k, a i = some k → b i = some k
theorem Le.refl (a : Ks) : Le a a := fun _ _ h => h
theorem Le.trans {a b c : Ks} (h : Le a b) (g : Le b c) : Le a c := fun i k e => g i k (h i k e)

def kindSet (hs : Heads) (ks : Ks) : Row → Option Kd
  | .top _ => some .place | .move _ s => ks s | .left _ _ => some .place | .right _ _ => some .place | .up _ _ => some .place
  | .call _ f _ => (hs[f]?).map (·.1)
  | _ => some .truth
def after (hs : Heads) (row : Row) (ks : Ks) : Ks :=
  match row.sets with
  | some d => fun i => if i = d then kindSet hs ks row else ks i
  | none => ks
theorem after_mono {hs : Heads} {row : Row} {a b : Ks} (h : Le a b) : Le (after hs row a) (after hs row b) := by
  intro i k e
  unfold after at e ⊢
  cases hd : row.sets with
  | none =>
    rw [hd] at e
    exact h i k e
  | some d =>
    rw [hd] at e
    simp only at e ⊢
    by_cases hi : i = d
    · rw [if_pos hi] at e ⊢
      cases row <;> first | exact e | exact h _ _ e
    · rw [if_neg hi] at e ⊢
      exact h i k e

def NumX (hs : Heads) (len : Nat) (row : Row) (at_ : Nat) : Prop :=
  match row with
  | .call _ f as => f < hs.length ∧ as.length ≤ 1000
  | .skip k => at_ < k ∧ k < len
  | .unl _ k => at_ < k ∧ k < len
  | .has _ _ g => GoodTag g
  | _ => True
structure NumOk (hs : Heads) (regs len : Nat) (row : Row) (at_ : Nat) : Prop where
  rd : ∀ i ∈ row.reads, i < regs
  st : ∀ d, row.sets = some d → d < regs
  ex : NumX hs len row at_
structure RowOk (hs : Heads) (fk : Kd) (len : Nat) (row : Row) (at_ : Nat) (ks : Ks) : Prop where
  fall : row.falls = true → at_ + 1 < len
  rd : ∀ i ∈ row.reads, ∃ k, ks i = some k ∧ ∀ w, row.want fk = some w → k = w
  many : ∀ d f as, row = .call d f as → ∃ h, hs[f]? = some h ∧ as.length = h.2
theorem RowOk.mono {hs : Heads} {fk : Kd} {len : Nat} {row : Row} {at_ : Nat} {a b : Ks} (h : Le a b) (r : RowOk hs fk len row at_ a) : RowOk hs fk len row at_ b :=
  ⟨r.fall, fun i hi => let ⟨k, e, w⟩ := r.rd i hi; ⟨k, h i k e, w⟩, r.many⟩

structure Fn where
  kind : Kd
  many : Nat
  regs : Nat
  rows : List Row
abbrev Code := List Fn
def Fn.head (f : Fn) : Kd × Nat := (f.kind, f.many)
def heads (c : Code) : Heads := c.map Fn.head

structure TypedBy (hs : Heads) (fn : Fn) (A : Nat → Option Ks) : Prop where
  start : ∃ a0, A 0 = some a0 ∧ ∀ i k, a0 i = some k → i < fn.many ∧ k = .place
  ne : 0 < fn.rows.length
  le : fn.many ≤ fn.regs
  num : ∀ j row, fn.rows[j]? = some row → NumOk hs fn.regs fn.rows.length row j
  ok : ∀ j row ks, fn.rows[j]? = some row → A j = some ks → RowOk hs fn.kind fn.rows.length row j ks
  to : ∀ j row ks, fn.rows[j]? = some row → A j = some ks → ∀ t ∈ row.succs j, ∃ ks', A t = some ks' ∧ Le ks' (after hs row ks)
def Typed (hs : Heads) (fn : Fn) : Prop := ∃ A, TypedBy hs fn A
def GoodCode (c : Code) : Prop := ∀ fn ∈ c, Typed (heads c) fn

theorem heads_get {c : Code} {f : Nat} {h : Kd × Nat} (e : (heads c)[f]? = some h) : ∃ fn, c[f]? = some fn ∧ fn.head = h := by
  unfold heads at e
  rw [List.getElem?_map] at e
  cases q : c[f]? with
  | none => rw [q] at e; cases e
  | some fn => rw [q] at e; exact ⟨fn, rfl, Option.some.inj e⟩
theorem get_heads {c : Code} {f : Nat} {fn : Fn} (e : c[f]? = some fn) : (heads c)[f]? = some fn.head := by
  unfold heads
  rw [List.getElem?_map, e]
  rfl

/-! ### the judge's walk over a function: kinds before rows as lists -/
abbrev KL := List (Option Kd)
def kf (l : KL) : Ks := fun i => (l[i]?).join
theorem kf_get {l : KL} {i : Nat} {k : Kd} (h : kf l i = some k) : l[i]? = some (some k) := by
  unfold kf at h
  cases e : l[i]? with
  | none => rw [e] at h; cases h
  | some o => rw [e] at h; cases o <;> simp at h; rw [h]
theorem kf_of {l : KL} {i : Nat} {o : Option Kd} (h : l[i]? = some o) : kf l i = o := by
  unfold kf
  rw [h]
  rfl
theorem kf_set {l : KL} {d : Nat} {o : Option Kd} (hd : d < l.length) (i : Nat) : kf (l.set d o) i = if i = d then o else kf l i := by
  unfold kf
  by_cases e : i = d
  · subst e
    rw [if_pos rfl, List.getElem?_set_self hd]
    rfl
  · rw [if_neg e, List.getElem?_set_ne (fun q => e q.symm)]
def afterL (hs : Heads) (row : Row) (l : KL) : KL :=
  match row.sets with
  | some d => l.set d (kindSet hs (kf l) row)
  | none => l
theorem afterL_len (hs : Heads) (row : Row) (l : KL) : (afterL hs row l).length = l.length := by
  unfold afterL
  cases row.sets <;> simp
theorem kf_afterL {hs : Heads} {row : Row} {l : KL} (h : ∀ d, row.sets = some d → d < l.length) : kf (afterL hs row l) = after hs row (kf l) := by
  unfold afterL after
  cases e : row.sets with
  | none => rfl
  | some d =>
    funext i
    exact kf_set (h d e) i
def joinL (one other : KL) : KL := one.zipWith (fun a b => if a = b then a else none) other
theorem joinL_len {one other : KL} (h : one.length = other.length) : (joinL one other).length = one.length := by
  unfold joinL
  rw [List.length_zipWith, h]
  exact Nat.min_self _
theorem joinL_le {one other : KL} : Le (kf (joinL one other)) (kf one) ∧ Le (kf (joinL one other)) (kf other) := by
  have key : ∀ i k, kf (joinL one other) i = some k → one[i]? = some (some k) ∧ other[i]? = some (some k) := by
    intro i k e
    have e := kf_get e
    unfold joinL at e
    rw [List.getElem?_zipWith] at e
    cases h1 : one[i]? with
    | none => rw [h1] at e; simp at e
    | some a =>
      cases h2 : other[i]? with
      | none => rw [h1, h2] at e; simp at e
      | some b =>
        rw [h1, h2] at e
        by_cases hab : a = b
        · simp [hab] at e; subst hab; rw [e]; exact ⟨rfl, rfl⟩
        · simp [hab] at e
  exact ⟨fun i k e => kf_of (key i k e).1, fun i k e => kf_of (key i k e).2⟩
theorem le_joinL {a : Ks} {one other : KL} (h1 : Le a (kf one)) (h2 : Le a (kf other)) : Le a (kf (joinL one other)) := by
  intro i k e
  have e1 := kf_get (h1 i k e)
  have e2 := kf_get (h2 i k e)
  refine kf_of ?_
  unfold joinL
  rw [List.getElem?_zipWith, e1, e2]
  simp

/-- what the judge's list holds: rows from i on are reached only where the typing says, with at least its kinds -/
structure Told (fn : Fn) (A : Nat → Option Ks) (i : Nat) (B : List (Option KL)) : Prop where
  len : B.length = fn.rows.length
  reg : ∀ (t : Nat) (bs : KL), B[t]? = some (some bs) → bs.length = fn.regs
  le : ∀ (t : Nat) (bs : KL), i ≤ t → B[t]? = some (some bs) → ∃ ka, A t = some ka ∧ Le ka (kf bs)
def joinO : Option KL → KL → KL
  | none, x => x
  | some o, x => joinL o x
def start0 (many regs : Nat) : KL := List.replicate many (some Kd.place) ++ List.replicate (regs - many) none
theorem start0_len {many regs : Nat} (h : many ≤ regs) : (start0 many regs).length = regs := by
  unfold start0
  rw [List.length_append, List.length_replicate, List.length_replicate]
  omega
theorem Told.start {hs : Heads} {fn : Fn} {A : Nat → Option Ks} (h : TypedBy hs fn A) : Told fn A 0 ((List.replicate fn.rows.length none).set 0 (some (start0 fn.many fn.regs))) := by
  have hn := h.ne
  have key : ∀ (t : Nat) (bs : KL), ((List.replicate fn.rows.length (none : Option KL)).set 0 (some (start0 fn.many fn.regs)))[t]? = some (some bs) → t = 0 ∧ bs = start0 fn.many fn.regs := by
    intro t bs e
    by_cases ht : t = 0
    · subst ht
      rw [List.getElem?_set_self (by simpa using hn)] at e
      exact ⟨rfl, (Option.some.inj (Option.some.inj e)).symm⟩
    · rw [List.getElem?_set_ne (fun q => ht q.symm), List.getElem?_replicate] at e
      split at e <;> cases e
  refine ⟨by simp, fun t bs e => ?_, fun t bs _ e => ?_⟩
  · rw [(key t bs e).2]
    exact start0_len h.le
  · obtain ⟨rfl, rfl⟩ := key t bs e
    obtain ⟨a0, e0, h0⟩ := h.start
    refine ⟨a0, e0, fun i k hk => ?_⟩
    obtain ⟨hi, rfl⟩ := h0 i k hk
    refine kf_of ?_
    unfold start0
    rw [List.getElem?_append_left (by simpa using hi), List.getElem?_replicate, if_pos hi]
theorem Told.next {fn : Fn} {A : Nat → Option Ks} {i : Nat} {B : List (Option KL)} (h : Told fn A i B) : Told fn A (i + 1) B :=
  ⟨h.len, h.reg, fun t bs ht e => h.le t bs (by omega) e⟩
theorem Told.join {fn : Fn} {A : Nat → Option Ks} {i t : Nat} {B : List (Option KL)} {x : KL} {o : Option KL} {ka : Ks} (h : Told fn A i B) (hit : i ≤ t) (ho : B[t]? = some o) (hx : x.length = fn.regs)
    (ha : A t = some ka) (hl : Le ka (kf x)) : Told fn A i (B.set t (some (joinO o x))) := by
  have htl : t < B.length := (List.getElem?_eq_some_iff.mp ho).1
  have hlen : (joinO o x).length = fn.regs := by
    cases o with
    | none => exact hx
    | some b =>
      have hb := h.reg t b ho
      exact (joinL_len (by rw [hb, hx])).trans hb
  have hle : Le ka (kf (joinO o x)) := by
    cases o with
    | none => exact hl
    | some b =>
      obtain ⟨ka', e, l⟩ := h.le t b hit ho
      rw [ha] at e
      cases e
      exact le_joinL l hl
  have key : ∀ (u : Nat) (bs : KL), (B.set t (some (joinO o x)))[u]? = some (some bs) → (u = t ∧ bs = joinO o x) ∨ (u ≠ t ∧ B[u]? = some (some bs)) := by
    intro u bs e
    by_cases hu : u = t
    · subst hu
      rw [List.getElem?_set_self htl] at e
      exact .inl ⟨rfl, (Option.some.inj (Option.some.inj e)).symm⟩
    · rw [List.getElem?_set_ne (fun q => hu q.symm)] at e
      exact .inr ⟨hu, e⟩
  refine ⟨by rw [List.length_set]; exact h.len, fun u bs e => ?_, fun u bs hu e => ?_⟩
  · rcases key u bs e with ⟨_, rfl⟩ | ⟨_, e⟩
    · exact hlen
    · exact h.reg u bs e
  · rcases key u bs e with ⟨rfl, rfl⟩ | ⟨_, e⟩
    · exact ⟨ka, ha, hle⟩
    · exact h.le u bs hu e
end Eo
set_option linter.all false
/-! E1: the machine over rows, and that typed code runs well. -/
namespace Eo
open PySem

inductive Val where
  | pl (p : List Bool)
  | bl (b : Bool)
namespace Val
def path : Val → List Bool
  | pl p => p
  | bl _ => []
def truth : Val → Bool
  | pl _ => false
  | bl b => b
def has (t : Tr) : Val → Kd → Prop
  | pl p, .place => isPl p t
  | bl _, .truth => True
  | _, _ => False
theorem has_place {t : Tr} {v : Val} (h : v.has t .place) : ∃ p, v = .pl p ∧ isPl p t := by
  cases v with
  | pl p => exact ⟨p, rfl, h⟩
  | bl b => exact h.elim
theorem has_truth {t : Tr} {v : Val} (h : v.has t .truth) : ∃ b, v = .bl b := by
  cases v with
  | pl p => exact h.elim
  | bl b => exact ⟨b, rfl⟩
end Val
abbrev Regs := List (Option Val)
def getR (rs : Regs) (i : Nat) : Val := ((rs[i]?).join).getD (.bl false)
theorem getR_of {rs : Regs} {i : Nat} {v : Val} (h : rs[i]? = some (some v)) : getR rs i = v := by
  unfold getR
  rw [h]
  rfl
def led (t : Tr) (b : Bool) (p : List Bool) : List Bool := if (sub p t).isNil = true then p else p ++ [b]
def rowVal (t : Tr) (rs : Regs) : Row → Val
  | .top _ => .pl []
  | .move _ s => getR rs s
  | .left _ s => .pl (led t false (getR rs s).path)
  | .right _ s => .pl (led t true (getR rs s).path)
  | .up _ s => .pl (getR rs s).path.dropLast
  | .yes _ => .bl true
  | .no _ => .bl false
  | .has _ s g => .bl (decide ((sub (getR rs s).path t).tag = some g))
  | .empty _ s => .bl (sub (getR rs s).path t).isNil
  | .same _ s u => .bl (decide ((getR rs s).path = (getR rs u).path))
  | .not _ s => .bl (!(getR rs s).truth)
  | _ => .bl false
structure Fr where
  f : Nat
  at_ : Nat
  regs : Regs
def rowAt (c : Code) (f i : Nat) : Row := ((c[f]?).bind fun fn => fn.rows[i]?).getD (.give 0)
def target (c : Code) (fr : Fr) : Nat := (rowAt c fr.f (fr.at_ - 1)).sets.getD 0
def begin (c : Code) (f : Nat) (args : List Val) : Fr := ⟨f, 0, args.map some ++ List.replicate (((c[f]?).map fun fn => fn.regs - fn.many).getD 0) none⟩
def stepIn (c : Code) (t : Tr) (fr : Fr) (rest : List Fr) : Sum (List Fr) Val :=
  match rowAt c fr.f fr.at_ with
  | .give s => match rest with
    | [] => .inr (getR fr.regs s)
    | fr2 :: r => .inl ({ fr2 with regs := fr2.regs.set (target c fr2) (some (getR fr.regs s)) } :: r)
  | .skip k => .inl ({ fr with at_ := k } :: rest)
  | .unl s k => .inl ({ fr with at_ := if (getR fr.regs s).truth = true then fr.at_ + 1 else k } :: rest)
  | .call _ f as => .inl (begin c f (as.map (getR fr.regs)) :: { fr with at_ := fr.at_ + 1 } :: rest)
  | row => .inl ({ fr with at_ := fr.at_ + 1, regs := fr.regs.set (row.sets.getD 0) (some (rowVal t fr.regs row)) } :: rest)
inductive Res where
  | out
  | given (v : Val) (n : Nat)
def run (c : Code) (t : Tr) : Nat → Nat → List Fr → Res
  | 0, _, _ => .out
  | _ + 1, _, [] => .out
  | n + 1, s, fr :: rest => match stepIn c t fr rest with
    | .inr v => .given v (s + 1)
    | .inl st => run c t n (s + 1) st
theorem run_given {c : Code} {t : Tr} : ∀ {n s : Nat} {st : List Fr} {v : Val} {k : Nat}, run c t n s st = .given v k → s < k ∧ k ≤ s + n
  | 0, _, _, _, _, h => by cases h
  | _ + 1, _, [], _, _, h => by cases h
  | n + 1, s, fr :: rest, v, k, h => by
    unfold run at h
    cases e : stepIn c t fr rest with
    | inr w =>
      rw [e] at h
      cases h
      omega
    | inl st =>
      rw [e] at h
      have := run_given h
      omega
theorem run_more {c : Code} {t : Tr} : ∀ {n s : Nat} {st : List Fr} {v : Val} {k : Nat} (m : Nat), run c t n s st = .given v k → run c t m s st = if k ≤ s + m then .given v k else .out
  | 0, _, _, _, _, _, h => by cases h
  | _ + 1, _, [], _, _, _, h => by cases h
  | n + 1, s, fr :: rest, v, k, m, h => by
    have hk := run_given h
    unfold run at h
    cases m with
    | zero =>
      rw [if_neg (by omega)]
      rfl
    | succ m =>
      show (match stepIn c t fr rest with
        | .inr v => Res.given v (s + 1)
        | .inl st => run c t m (s + 1) st) = _
      cases e : stepIn c t fr rest with
      | inr w =>
        rw [e] at h
        cases h
        rw [if_pos (by omega)]
      | inl st =>
        rw [e] at h
        have q := run_more m h
        simp only
        rw [q]
        have e2 : s + 1 + m = s + (m + 1) := by omega
        rw [e2]
theorem run_out {c : Code} {t : Tr} : ∀ {n s : Nat} {st : List Fr} (m : Nat), m ≤ n → run c t n s st = .out → run c t m s st = .out
  | _, _, _, 0, _, _ => rfl
  | 0, _, _, _ + 1, hm, _ => absurd hm (by omega)
  | n + 1, s, [], m + 1, _, _ => rfl
  | n + 1, s, fr :: rest, m + 1, hm, h => by
    unfold run at h ⊢
    cases e : stepIn c t fr rest with
    | inr w =>
      rw [e] at h
      cases h
    | inl st =>
      rw [e] at h
      exact run_out m (by omega) h

/-! ### typed code runs well -/
structure Good (c : Code) (AA : Nat → Nat → Option Ks) : Prop where
  ty : ∀ f fn, c[f]? = some fn → TypedBy (heads c) fn (AA f)
theorem GoodCode.good {c : Code} (h : GoodCode c) : ∃ AA, Good c AA := by
  have : ∀ f : Nat, ∃ A : Nat → Option Ks, ∀ fn, c[f]? = some fn → TypedBy (heads c) fn A := by
    intro f
    cases e : c[f]? with
    | none => exact ⟨fun _ => none, fun fn q => by cases q⟩
    | some fn =>
      obtain ⟨A, hA⟩ := h fn (List.mem_of_getElem? e)
      exact ⟨A, fun fn' q => by cases q; exact hA⟩
  exact ⟨fun f => Classical.choose (this f), ⟨fun f fn e => Classical.choose_spec (this f) fn e⟩⟩
def RegsOk (t : Tr) (ks : Ks) (rs : Regs) : Prop := ∀ i k, ks i = some k → ∃ v, rs[i]? = some (some v) ∧ v.has t k
/-- a frame that runs -/
structure TopOk (c : Code) (AA : Nat → Nat → Option Ks) (t : Tr) (fr : Fr) (fn : Fn) (row : Row) (ks : Ks) : Prop where
  hfn : c[fr.f]? = some fn
  hrow : fn.rows[fr.at_]? = some row
  hlen : fr.regs.length = fn.regs
  hks : AA fr.f fr.at_ = some ks
  hregs : RegsOk t ks fr.regs
/-- a frame that waits for the outcome of g -/
structure WaitOk (c : Code) (AA : Nat → Nat → Option Ks) (t : Tr) (g : Nat) (fr : Fr) : Prop where
  ex : ∃ fn gn d as ks row, c[fr.f]? = some fn ∧ c[g]? = some gn ∧ 1 ≤ fr.at_ ∧ fn.rows[fr.at_ - 1]? = some (.call d g as) ∧ fn.rows[fr.at_]? = some row ∧ fr.regs.length = fn.regs ∧ d < fn.regs ∧ AA fr.f fr.at_ = some ks ∧
    ∀ i k, ks i = some k → (i = d → k = gn.kind) ∧ (i ≠ d → ∃ v, fr.regs[i]? = some (some v) ∧ v.has t k)
def Waits (c : Code) (AA : Nat → Nat → Option Ks) (t : Tr) : Nat → List Fr → Prop
  | _, [] => True
  | g, fr :: rest => WaitOk c AA t g fr ∧ Waits c AA t fr.f rest
structure WfS (c : Code) (AA : Nat → Nat → Option Ks) (t : Tr) (fr : Fr) (rest : List Fr) : Prop where
  top : ∃ fn row ks, TopOk c AA t fr fn row ks
  below : Waits c AA t fr.f rest
def WfL (c : Code) (AA : Nat → Nat → Option Ks) (t : Tr) : List Fr → Prop
  | [] => False
  | fr :: rest => WfS c AA t fr rest

section
variable {c : Code} {AA : Nat → Nat → Option Ks} {t : Tr} {fr : Fr} {fn : Fn} {row : Row} {ks : Ks} {rest : List Fr}
theorem TopOk.rowAt (h : TopOk c AA t fr fn row ks) : rowAt c fr.f fr.at_ = row := by
  unfold Eo.rowAt
  rw [h.hfn]
  show (fn.rows[fr.at_]?).getD _ = row
  rw [h.hrow]
  rfl
theorem TopOk.num (G : Good c AA) (h : TopOk c AA t fr fn row ks) : NumOk (heads c) fn.regs fn.rows.length row fr.at_ := (G.ty _ _ h.hfn).num _ _ h.hrow
theorem TopOk.ok (G : Good c AA) (h : TopOk c AA t fr fn row ks) : RowOk (heads c) fn.kind fn.rows.length row fr.at_ ks := (G.ty _ _ h.hfn).ok _ _ _ h.hrow h.hks
theorem TopOk.read (G : Good c AA) (h : TopOk c AA t fr fn row ks) {i : Nat} (hi : i ∈ row.reads) : ∃ v k, ks i = some k ∧ fr.regs[i]? = some (some v) ∧ v.has t k ∧ ∀ w, row.want fn.kind = some w → k = w := by
  obtain ⟨k, e, w⟩ := (h.ok G).rd i hi
  obtain ⟨v, ev, hv⟩ := h.hregs i k e
  exact ⟨v, k, e, ev, hv, w⟩
theorem TopOk.readP (G : Good c AA) (h : TopOk c AA t fr fn row ks) {i : Nat} (hi : i ∈ row.reads) (hw : row.want fn.kind = some .place) : ∃ p, fr.regs[i]? = some (some (.pl p)) ∧ isPl p t := by
  obtain ⟨v, k, _, ev, hv, w⟩ := h.read G hi
  cases w _ hw
  obtain ⟨p, rfl, hp⟩ := Val.has_place hv
  exact ⟨p, ev, hp⟩
theorem TopOk.readT (G : Good c AA) (h : TopOk c AA t fr fn row ks) {i : Nat} (hi : i ∈ row.reads) (hw : row.want fn.kind = some .truth) : ∃ b, fr.regs[i]? = some (some (.bl b)) := by
  obtain ⟨v, k, _, ev, hv, w⟩ := h.read G hi
  cases w _ hw
  obtain ⟨b, rfl⟩ := Val.has_truth hv
  exact ⟨b, ev⟩
/-- going on at a row behind, the kinds after the row being held -/
theorem TopOk.go (G : Good c AA) (h : TopOk c AA t fr fn row ks) {fr' : Fr} {at' : Nat} (hs : at' ∈ row.succs fr.at_) (hf : fr'.f = fr.f) (ha : fr'.at_ = at') (hlt : at' < fn.rows.length) (hl : fr'.regs.length = fn.regs)
    (hr : RegsOk t (after (heads c) row ks) fr'.regs) : ∃ fn row ks, TopOk c AA t fr' fn row ks := by
  obtain ⟨ks', e, l⟩ := (G.ty _ _ h.hfn).to _ _ _ h.hrow h.hks _ hs
  refine ⟨fn, fn.rows[at'], ks', by rw [hf]; exact h.hfn, by rw [ha]; exact List.getElem?_eq_getElem hlt, hl, by rw [hf, ha]; exact e, fun i k q => hr i k (l i k q)⟩
theorem led_pl {p : List Bool} (b : Bool) (h : isPl p t) : isPl (led t b p) t := by
  unfold led
  by_cases e : (sub p t).isNil = true
  · rw [if_pos e]; exact h
  · rw [if_neg e]; exact isPl_snoc b p t h (by simpa using e)
theorem rowVal_has (G : Good c AA) (h : TopOk c AA t fr fn row ks) (hs : ∃ d, row.sets = some d) (hc : ∀ d f as, row ≠ .call d f as) {k : Kd} (hk : kindSet (heads c) ks row = some k) : (rowVal t fr.regs row).has t k := by
  obtain ⟨d, hd⟩ := hs
  have key : ∀ i, i ∈ row.reads → row.want fn.kind = some .place → isPl (getR fr.regs i).path t := fun i hi hw => by
    obtain ⟨p, e, hp⟩ := h.readP G hi hw
    rw [getR_of e]
    exact hp
  cases row with
  | top d => cases hk; exact trivial
  | move d s =>
    obtain ⟨v, k', e, ev, hv, _⟩ := h.read G (i := s) (by simp [Row.reads])
    have hk' : ks s = some k := hk
    rw [e] at hk'
    cases hk'
    show (getR fr.regs s).has t _
    rw [getR_of ev]
    exact hv
  | left d s => cases hk; exact led_pl _ (key s (by simp [Row.reads]) rfl)
  | right d s => cases hk; exact led_pl _ (key s (by simp [Row.reads]) rfl)
  | up d s => cases hk; exact isPl_drop _ _ (key s (by simp [Row.reads]) rfl)
  | yes d => cases hk; exact trivial
  | no d => cases hk; exact trivial
  | has d s g => cases hk; exact trivial
  | empty d s => cases hk; exact trivial
  | same d s u => cases hk; exact trivial
  | not d s => cases hk; exact trivial
  | skip k => cases hd
  | unl s k => cases hd
  | call d f as => exact absurd rfl (hc d f as)
  | give s => cases hd
theorem RegsOk.set {rs : Regs} {row : Row} {d : Nat} {v : Val} {hs : Heads} (h : RegsOk t ks rs) (hd : row.sets = some d) (hl : d < rs.length) (hv : ∀ k, kindSet hs ks row = some k → v.has t k) : RegsOk t (after hs row ks) (rs.set d (some v)) := by
  intro i k e
  unfold after at e
  rw [hd] at e
  simp only at e
  by_cases hi : i = d
  · subst hi
    rw [if_pos rfl] at e
    exact ⟨v, List.getElem?_set_self hl, hv k e⟩
  · rw [if_neg hi] at e
    obtain ⟨w, ew, hw⟩ := h i k e
    exact ⟨w, by rw [List.getElem?_set_ne (fun q => hi q.symm)]; exact ew, hw⟩
theorem RegsOk.same {rs : Regs} {row : Row} {hs : Heads} (h : RegsOk t ks rs) (hd : row.sets = none) : RegsOk t (after hs row ks) rs := by
  unfold after
  rw [hd]
  exact h
/-- the frame of a call that starts -/
theorem begin_ok (G : Good c AA) {f : Nat} {gn : Fn} (hf : c[f]? = some gn) {args : List Val} (ha : args.length = gn.many) (hp : ∀ v ∈ args, v.has t .place) : ∃ fn row ks, TopOk c AA t (begin c f args) fn row ks := by
  have T := G.ty _ _ hf
  obtain ⟨a0, e0, h0⟩ := T.start
  have hl := T.le
  refine ⟨gn, gn.rows[0]'T.ne, a0, hf, List.getElem?_eq_getElem T.ne, ?_, e0, fun i k e => ?_⟩
  · unfold begin
    rw [hf]
    simp [ha]
    omega
  · obtain ⟨hi, rfl⟩ := h0 i k e
    have hi' : i < args.length := by omega
    refine ⟨args[i], ?_, hp _ (List.getElem_mem hi')⟩
    unfold begin
    rw [List.getElem?_append_left (by simpa using hi'), List.getElem?_map, List.getElem?_eq_getElem hi']
    rfl
theorem WaitOk.target {g : Nat} {d : Nat} {as : List Nat} {fn : Fn} (hf : c[fr.f]? = some fn) (hr : fn.rows[fr.at_ - 1]? = some (.call d g as)) : target c fr = d := by
  unfold Eo.target Eo.rowAt
  rw [hf]
  show ((fn.rows[fr.at_ - 1]?).getD _).sets.getD 0 = d
  rw [hr]
  rfl
theorem wf_step (G : Good c AA) (h : WfS c AA t fr rest) :
    (∃ st, stepIn c t fr rest = .inl st ∧ WfL c AA t st) ∨ (∃ v fn, stepIn c t fr rest = .inr v ∧ rest = [] ∧ c[fr.f]? = some fn ∧ v.has t fn.kind) := by
  obtain ⟨fn, row, ks, T⟩ := h.top
  have er := T.rowAt
  have N := T.num G
  have O := T.ok G
  have plain : ∀ (d : Nat), row.sets = some d → row.falls = true → fr.at_ + 1 ∈ row.succs fr.at_ → (∀ d f as, row ≠ .call d f as) →
      WfL c AA t ({ fr with at_ := fr.at_ + 1, regs := fr.regs.set (row.sets.getD 0) (some (rowVal t fr.regs row)) } :: rest) := by
    intro d hd hfall hs hc
    have hdl : d < fr.regs.length := by rw [T.hlen]; exact N.st d hd
    refine ⟨T.go G hs rfl rfl (O.fall hfall) (by simp [T.hlen]) ?_, h.below⟩
    rw [hd]
    exact T.hregs.set hd hdl fun k hk => rowVal_has G T ⟨d, hd⟩ hc hk
  unfold stepIn
  rw [er]
  cases row with
  | give s =>
    obtain ⟨v, k, _, ev, hv, w⟩ := T.read G (i := s) (by simp [Row.reads])
    have hk : k = fn.kind := w _ rfl
    subst hk
    simp only
    rw [getR_of ev]
    cases rest with
    | nil => exact .inr ⟨v, fn, rfl, rfl, T.hfn, hv⟩
    | cons fr2 r =>
      refine .inl ⟨_, rfl, ?_, h.below.2⟩
      obtain ⟨fn2, gn, d, as, ks2, row2, e1, e2, h1, e3, e4, hl, hd, e5, hk2⟩ := h.below.1.ex
      rw [T.hfn] at e2
      cases e2
      have et : target c fr2 = d := WaitOk.target e1 e3
      rw [et]
      refine ⟨fn2, row2, ks2, e1, e4, by simp [hl], e5, fun i k e => ?_⟩
      obtain ⟨q1, q2⟩ := hk2 i k e
      by_cases hi : i = d
      · subst hi
        cases q1 rfl
        exact ⟨v, List.getElem?_set_self (by rw [hl]; exact hd), hv⟩
      · obtain ⟨w, ew, hw⟩ := q2 hi
        exact ⟨w, by rw [List.getElem?_set_ne (fun q => hi q.symm)]; exact ew, hw⟩
  | skip k =>
    exact .inl ⟨_, rfl, T.go G (at' := k) (by simp [Row.succs]) rfl rfl N.ex.2 T.hlen (T.hregs.same rfl), h.below⟩
  | unl s k =>
    refine .inl ⟨_, rfl, ?_, h.below⟩
    by_cases e : (getR fr.regs s).truth = true
    · simp only [e, if_true]
      exact T.go G (at' := fr.at_ + 1) (by simp [Row.succs]) rfl rfl (O.fall rfl) T.hlen (T.hregs.same rfl)
    · simp only [e]
      exact T.go G (at' := k) (by simp [Row.succs]) rfl rfl N.ex.2 T.hlen (T.hregs.same rfl)
  | call d f as =>
    obtain ⟨hh, eh, hm⟩ := O.many d f as rfl
    obtain ⟨gn, eg, rfl⟩ := heads_get eh
    refine .inl ⟨_, rfl, begin_ok G eg (by rw [List.length_map]; exact hm) ?_, ⟨?_⟩, h.below⟩
    · intro v hv
      obtain ⟨i, hi, rfl⟩ := List.mem_map.mp hv
      obtain ⟨p, e, hp⟩ := T.readP G (i := i) hi rfl
      rw [getR_of e]
      exact hp
    · obtain ⟨ks', e, l⟩ := (G.ty _ _ T.hfn).to _ _ _ T.hrow T.hks (fr.at_ + 1) (by simp [Row.succs])
      have hlt := O.fall rfl
      refine ⟨fn, gn, d, as, ks', fn.rows[fr.at_ + 1], T.hfn, eg, by simp, (by show fn.rows[fr.at_ + 1 - 1]? = some (.call d f as); simpa using T.hrow), List.getElem?_eq_getElem hlt, T.hlen, N.st d rfl, e, fun i k q => ?_⟩
      have q' := l i k q
      unfold after at q'
      simp only [Row.sets, kindSet] at q'
      refine ⟨fun hi => ?_, fun hi => ?_⟩
      · rw [if_pos hi, eh] at q'
        exact (Option.some.inj q').symm
      · rw [if_neg hi] at q'
        exact T.hregs i k q'
  | top d => exact .inl ⟨_, rfl, plain d rfl rfl (by simp [Row.succs]) (by simp)⟩
  | move d s => exact .inl ⟨_, rfl, plain d rfl rfl (by simp [Row.succs]) (by simp)⟩
  | left d s => exact .inl ⟨_, rfl, plain d rfl rfl (by simp [Row.succs]) (by simp)⟩
  | right d s => exact .inl ⟨_, rfl, plain d rfl rfl (by simp [Row.succs]) (by simp)⟩
  | up d s => exact .inl ⟨_, rfl, plain d rfl rfl (by simp [Row.succs]) (by simp)⟩
  | yes d => exact .inl ⟨_, rfl, plain d rfl rfl (by simp [Row.succs]) (by simp)⟩
  | no d => exact .inl ⟨_, rfl, plain d rfl rfl (by simp [Row.succs]) (by simp)⟩
  | has d s g => exact .inl ⟨_, rfl, plain d rfl rfl (by simp [Row.succs]) (by simp)⟩
  | empty d s => exact .inl ⟨_, rfl, plain d rfl rfl (by simp [Row.succs]) (by simp)⟩
  | same d s u => exact .inl ⟨_, rfl, plain d rfl rfl (by simp [Row.succs]) (by simp)⟩
  | not d s => exact .inl ⟨_, rfl, plain d rfl rfl (by simp [Row.succs]) (by simp)⟩
end
end Eo
set_option linter.all false
set_option maxRecDepth 100000
set_option maxHeartbeats 4000000
namespace Eo
open PySem PySem.Spec PyProof.Rows L2

section
variable {X : Cx}
/-! ### == and != with the empty list, with the empty tuple -/
theorem isEmpty_vals {xs : List V} {us : List Value} (r : Vals xs us) : us.isEmpty = xs.isEmpty := by
  cases r <;> rfl
def rNil (K : PySem.W.Frag) (neg : Bool) : R2 := fun x y H Q => ∃ a b xs, x = .ref a ∧ y = .ref b ∧ SqL K H a xs ∧ SqL K H b [] ∧ Q (.bl (if neg then !xs.isEmpty else xs.isEmpty)) H
theorem op_eqNil (hu : X.A.units < cLine) : OpR X (compareOp .Eq) (rNil X.K false) := by
  intro pins s σ H x y v u Q I rx ry h
  obtain ⟨a, b, xs, rfl, rfl, hx, hy, q⟩ := h
  cases rx
  cases ry
  obtain ⟨its, r, p, hz⟩ := I.list hx
  obtain ⟨its2, r2, p2, hz2⟩ := I.list hy
  cases r2
  cases r with
  | nil => exact SeqAt.eq_listAt (e := fun _ => true) p.isList p2.isList rfl hu (fun j h1 _ => by simp at h1) ⟨.bl true, H, I, rfl, q⟩
  | cons r1 rr => exact SeqAt.eq_list_lengthsAt p.isList p2.isList (by simp) hu ⟨.bl false, H, I, rfl, q⟩
theorem op_neNil (hu : X.A.units < cLine) : OpR X (compareOp .NotEq) (rNil X.K true) := by
  intro pins s σ H x y v u Q I rx ry h
  obtain ⟨a, b, xs, rfl, rfl, hx, hy, q⟩ := h
  cases rx
  cases ry
  obtain ⟨its, r, p, hz⟩ := I.list hx
  obtain ⟨its2, r2, p2, hz2⟩ := I.list hy
  cases r2
  cases r with
  | nil => exact SeqAt.RcNeAt.lists (e := fun _ => true) p.isList p2.isList rfl hu (fun j h1 _ => by simp at h1) X.prog X.w _ _ ⟨.bl false, H, I, rfl, q⟩
  | cons r1 rr => exact SeqAt.RcNeAt.lists_lengths p.isList p2.isList (by simp) hu X.prog X.w _ _ ⟨.bl true, H, I, rfl, q⟩
def rNilT (K : PySem.W.Frag) : R2 := fun x y H Q => ∃ a b xs, x = .ref a ∧ y = .ref b ∧ SqT K H a xs ∧ SqT K H b [] ∧ Q (.bl xs.isEmpty) H
theorem op_eqNilT (hu : X.A.units < cLine) : OpR X (compareOp .Eq) (rNilT X.K) := by
  intro pins s σ H x y v u Q I rx ry h
  obtain ⟨a, b, xs, rfl, rfl, hx, hy, q⟩ := h
  cases rx
  cases ry
  obtain ⟨its, r, p, hz⟩ := I.tuple hx
  obtain ⟨its2, r2, p2, hz2⟩ := I.tuple hy
  cases r2
  refine SeqAt.eq_tupleAt (e := fun _ => true) p p2 hu (fun j _ h2 => by simp at h2) ⟨.bl xs.isEmpty, H, I, ?_, q⟩
  cases r <;> simp <;> rfl
/-! ### a list extended by a tuple -/
theorem extend_tup (l : Addr) (items : Array Value) (n : Nat) (b : Addr) (items2 : Array Value) (n2 : Nat) (dd : Option Addr) (sl : Array (Option Value)) (hs0 : ¬(!items.isEmpty && Builtin.List.listTooLong (items.size + items2.size)) = true) (hs1 : items.size ≤ sizeLine) (hs2 : items.size + items2.size ≤ sizeLine + 1) :
    Meets (Builtin.«list.extend» ⟨[.ref l, .ref b], []⟩) (fun _ R s => s.heap.get? l = some { cls := .type "list", dict := none, data := .seq items n, slots := #[] } ∧ s.heap.get? b = some { cls := .type "tuple", dict := dd, data := .seq items2 n2, slots := sl } ∧
      R (.ok (.ret Value.none)) { s with heap := s.heap.update l (Obj.mapSeq fun x => x ++ items2), toks := s.toks }) :=
  .of_wp fun prog w A R s h => by
    obtain ⟨hp, g, d, tk, os⟩ := s
    obtain ⟨hl, hb, h⟩ := h
    have f1 := AutoSeq1.idx_int
    have f2 := AutoSeq1.sub_tuple_tuple
    have f3 := AutoSeq1.sub_list_list
    have f4 := AutoSeq1.sub_tuple_list
    have f5 := AutoSeq1.sub_list_tuple
    have hz' : (items ++ items2).size ≤ sizeLine + 1 := by rw [Array.size_append]; exact hs2
    wp_walk using (wpAny_updateSeq hl rfl (hz := hs1) (_hz' := hz')), AutoSeq1.wpAny_loadPart' hl, AutoSeq1.wpAny_loadPart' hb
    exact ⟨_, rfl, h⟩
def rExtT (K : PySem.W.Frag) : V → List V → Hp → VK → Prop := fun x vs H Q => ∃ l b xs zs, x = .ref l ∧ vs = [.ref b] ∧ H l = some (.lst xs) ∧ SqT K H b zs ∧ xs.length + zs.length ≤ sizeLine ∧ Q .non (upd H l (.lst (xs ++ zs)))
theorem mt_extendT : MtM X "list.extend" (rExtT X.K) := by
  intro pins s σ H x vs v us Q I rx rv h
  obtain ⟨l, b, xs, zs, rfl, rfl, hH, hB, hz, q⟩ := h
  cases rx
  obtain ⟨u, rfl, ru⟩ := rv.one
  cases ru
  obtain ⟨z, its, n, r, hl, e⟩ := I.lstM hH
  obtain ⟨its2, r2, ⟨⟨cls, dd, data, sl⟩, ho, hc, n2, hd⟩, hz2⟩ := I.tuple hB
  simp only at hc hd
  subst hc hd
  have hl2 := r2.length
  have hsz : its.toArray.size + its2.toArray.size ≤ sizeLine := by rw [List.size_toArray, List.size_toArray]; omega
  have hlong : ¬ (!its.toArray.isEmpty && Builtin.List.listTooLong (its.toArray.size + its2.toArray.size)) = true := by
    rw [notLongL hsz, Bool.and_false]
    exact Bool.false_ne_true
  refine call_meets F.slot_list_extend ⟨_, e, rfl⟩ F.entry_list_extend (F.args_list_extend_2 _ _)
    (extend_tup l its.toArray n b its2.toArray n2 dd sl hlong (by rw [List.size_toArray]; omega) (by omega)) ⟨e, ho, ?_⟩
  refine ⟨.non, _, I.lset (its' := its ++ its2) hH e (by simp) (r.append r2) ?_, rfl, q⟩
  rw [List.length_append]
  omega
end
end Eo
set_option linter.all false
set_option maxRecDepth 100000
set_option maxHeartbeats 4000000
namespace Eo
open PySem PySem.Spec PyProof.Rows L2
section
variable {X : Cx}
/-! ### a tuple of one item times a number from 0 on -/
theorem tup_mul_one (l : Addr) (items : Array Value) (n : Nat) (dd : Option Addr) (sl : Array (Option Value)) (u : Tok) :
    Meets (Builtin.«tuple.__mul__» ⟨[.ref l, .int 1 u], []⟩) (fun _ R s => s.heap.get? l = some { cls := .type "tuple", dict := dd, data := .seq items n, slots := sl } ∧ R (.ok (.ret (Value.ref l))) s) :=
  .of_wp fun prog w A R s h => by
    obtain ⟨hp, g, d, tk, os⟩ := s
    obtain ⟨hl, h⟩ := h
    have f1 := AutoSeq1.idx_int
    wp_walk using AutoSeq1.wpAny_loadPart' hl
    repeat (first
      | (refine wpAny_ite_false (decide_eq_false (by decide)) ?_; wp_walk using AutoSeq1.wpAny_loadPart' hl)
      | (refine wpAny_ite_true (decide_eq_true (by simp)) ?_; wp_walk using AutoSeq1.wpAny_loadPart' hl))
    exact ⟨_, rfl, h⟩
theorem tup_mul_zero (l : Addr) (items : Array Value) (n : Nat) (dd : Option Addr) (sl : Array (Option Value)) (u : Tok) (hi : items.isEmpty = false) :
    Meets (Builtin.«tuple.__mul__» ⟨[.ref l, .int 0 u], []⟩) (fun _ R s => s.heap.get? l = some { cls := .type "tuple", dict := dd, data := .seq items n, slots := sl } ∧
      R (.ok (.ret (Value.ref s.heap.objs.size))) { s with heap := s.heap.push { cls := Value.type "tuple", data := Data.seq #[] }, toks := s.toks }) :=
  .of_wp fun prog w A R s h => by
    obtain ⟨hp, g, d, tk, os⟩ := s
    obtain ⟨hl, h⟩ := h
    have f1 := AutoSeq1.idx_int
    wp_walk using AutoSeq1.wpAny_loadPart' hl
    repeat (first
      | (refine wpAny_ite_false (decide_eq_false (by decide)) ?_; wp_walk using AutoSeq1.wpAny_loadPart' hl)
      | (refine wpAny_ite_false (decide_eq_false (by rw [hi]; decide)) ?_; wp_walk using AutoSeq1.wpAny_loadPart' hl)
      | (refine wpAny_ite_true (decide_eq_true (by simp)) ?_; wp_walk using AutoSeq1.wpAny_loadPart' hl))
    exact ⟨_, rfl, h⟩
/-- v * k, v a tuple of one item: one that holds k of it -/
def rRep1 (K : PySem.W.Frag) : R2 := fun x y H Q => ∃ l k v, x = .ref l ∧ y = .int k ∧ SqT K H l [v] ∧ 0 ≤ k ∧ k ≤ 1000 ∧ ∀ p H', Same H H' → SqT K H' p (List.replicate k.toNat v) → Q (.ref p) H'
theorem same_upd {H : Hp} {p : Addr} {o : HO} (h : H p = none) : Same H (upd H p o) := fun b u e => by
  rw [upd_ne (ne_of_none e h)]
  exact e
theorem op_rep1 : OpR X (binaryOp .Mult) (rRep1 X.K) := by
  intro pins s σ H x y v u Q I rx ry h
  obtain ⟨l, k, z, rfl, rfl, hT, h0, h1, q⟩ := h
  by_cases hk : 2 ≤ k
  · refine op_repT pins s σ H _ _ v u Q I rx ry ⟨l, k, [z], rfl, rfl, hT, by simp, hk, h1, by simp, fun p hp => q p _ (same_upd hp) (SqT.of ?_)⟩
    rw [upd_same]
    congr 2
    clear hk h1 h0
    generalize k.toNat = n
    induction n with
    | zero => rfl
    | succ n ih =>
      rw [List.replicate_succ, List.flatten_cons, ih, List.replicate_succ]
      rfl
  · cases rx
    obtain ⟨t, rfl⟩ := ry
    obtain ⟨its, r, ⟨⟨cls, dd, data, sl⟩, ho, hc, n, hd⟩, hs⟩ := I.tuple hT
    simp only at hc hd
    subst hc hd
    have hi : its.toArray.isEmpty = false := by
      cases r with
      | cons a b => rfl
    have road : ∀ (kk : Int), kk = k → wpAny (model X.prog X.w) X.A (call (.builtin "tuple.__mul__") [.ref l, .int kk t]) (EP X pins σ Q) X.xe s → wpAny (model X.prog X.w) X.A (binaryOp .Mult (.ref l) (.int k t)) (EP X pins σ Q) X.xe s := by
      intro kk e hcall
      subst e
      exact wpAny_binaryOp_repeat_ref (T := "tuple") (U := "int") (by decide) ⟨_, ho, rfl⟩ (fun s' => typeIs_int s' kk t) noFill_tuple_mul F.fills_int_mul F.slot_int_rmul repeat_tuple F.slot_int_index.lookup
        (call_meets F.slot_int_rmul (typeIs_int s kk t) F.entry_int_rmul (F.args_int_rmul_2 _ _) (int_rmul_tuple kk t l its.toArray n dd sl) ⟨ho, rfl, ⟨_, ho, rfl⟩, hcall⟩)
    rcases (by omega : k = 0 ∨ k = 1) with e | e
    · subst e
      refine road 0 rfl (call_meets F.slot_tuple_mul ⟨_, ho, rfl⟩ F.entry_tuple_mul (F.args_tuple_mul_2 _ _) (tup_mul_zero l its.toArray n dd sl t hi) ⟨ho, ?_⟩)
      have hn := I.hok.fresh (Nat.le_refl s.heap.objs.size)
      refine ⟨.ref s.heap.objs.size, _, I.laid (t' := s.toks) (o := .tup []) (fun b ob q => Heap.get?_push_of_some _ q) (Nat.le_refl _) ⟨Nat.zero_le _, [], .nil, IsTup.new _ _⟩, rfl, q _ _ (same_upd hn) (SqT.of upd_same)⟩
    · subst e
      refine road 1 rfl (call_meets F.slot_tuple_mul ⟨_, ho, rfl⟩ F.entry_tuple_mul (F.args_tuple_mul_2 _ _) (tup_mul_one l its.toArray n dd sl t) ⟨ho, ?_⟩)
      exact ⟨.ref l, H, I, rfl, q _ _ (Same.refl _) hT⟩
/-! ### enumerate over a tuple -/
theorem meets_enumerate_newT (l : Addr) (items : Array Value) (n : Nat) (dct : Option Addr) (sl : Array (Option Value)) :
    Meets (Builtin.«enumerate.__new__» ⟨[.type "enumerate", .ref l], []⟩) (fun _ R s => s.heap.get? l = some { cls := .type "tuple", dict := dct, data := .seq items n, slots := sl } ∧
      R (.ok (.ret (.ref (s.heap.push { cls := .type "tuple_iterator", data := .fields #[.ref l, .int 0 0] }).objs.size)))
        { s with heap := (s.heap.push { cls := .type "tuple_iterator", data := .fields #[.ref l, .int 0 0] }).push { cls := .type "enumerate", data := .fields #[.none, .bool false, .ref s.heap.objs.size, rawInt 0, .none, .none] } }) :=
  .of_wp fun prog w A R s h => by
    obtain ⟨hp, g, d, tk, os⟩ := s
    obtain ⟨hl, h⟩ := h
    have hsub := sub_enumerate
    have hL : Heap.IsTuple (Shared.heap ⟨hp, g, d, tk, os⟩) l items := ⟨_, hl, rfl, n, rfl⟩
    wp_walk using AutoSeq1.wpAny_loadPart' hl
    refine wpAny_stack_any fun st => wpAny_pure ?_
    split
    · rename_i c _ _ _ _ _
      cases (c == Value.type "enumerate")
      · wp_walk using AutoSeq1.wpAny_loadPart' hl, wpAny_pyIter_tuple hL
        exact ⟨_, rfl, h⟩
      · wp_walk using AutoSeq1.wpAny_loadPart' hl, wpAny_pyIter_tuple hL
        exact ⟨_, rfl, h⟩
    · wp_walk using AutoSeq1.wpAny_loadPart' hl, wpAny_pyIter_tuple hL
      exact ⟨_, rfl, h⟩
end
section
variable {prog : Program} {w : World} {A : Around} {E : Value → Shared → Prop} {s : Shared}
theorem call_enumerate_tuple {l : Addr} {items : Array Value} {Q : Value → Shared → Prop} (hL : IsTup s.heap l items)
    (h : ∀ h', IsEnum h' (s.heap.objs.size + 1) s.heap.objs.size 0 .none → h'.IsTupleIter s.heap.objs.size l 0 → h'.objs.size = s.heap.objs.size + 2 →
      (∀ b o, s.heap.get? b = some o → h'.get? b = some o) → Q (.ref (s.heap.objs.size + 1)) { s with heap := h' }) :
    wpAny (model prog w) A (call (.type "enumerate") [.ref l]) Q E s := by
  obtain ⟨⟨c, dct, dt, sl⟩, hl, hc, n, hd⟩ := hL
  replace hc : c = .type "tuple" := hc
  replace hd : dt = .seq items n := hd
  subst hc hd
  refine callType_new F.called_enumerate (by decide) (F.typeCall_enumerate_1 _) (F.newCall_enumerate_1 _) (fun obj => F.args_object_init_2 obj _) F.entry_enumerate_new
    (meets_enumerate_newT l items n dct sl) ⟨hl, ?_⟩
  have hz : (s.heap.push { cls := .type "tuple_iterator", data := .fields #[.ref l, .int 0 0] }).objs.size = s.heap.objs.size + 1 := Heap.size_push ..
  show _ ∧ _
  rw [hz]
  have he : IsEnum ((s.heap.push { cls := .type "tuple_iterator", data := .fields #[.ref l, .int 0 0] }).push
      { cls := .type "enumerate", data := .fields #[.none, .bool false, .ref s.heap.objs.size, rawInt 0, .none, .none] }) (s.heap.objs.size + 1) s.heap.objs.size 0 .none := by
    have := Heap.get?_push_size (s.heap.push { cls := .type "tuple_iterator", data := .fields #[.ref l, .int 0 0] })
      (o := { cls := .type "enumerate", data := .fields #[.none, .bool false, .ref s.heap.objs.size, rawInt 0, .none, .none] }) rfl
    rw [hz] at this; exact this
  refine ⟨⟨_, he, rfl⟩, h _ he ⟨_, Heap.get?_push_of_some _ (Heap.get?_push_size _ rfl), rfl, rfl⟩ (by rw [Heap.size_push, hz]) fun b o x => Heap.get?_push_of_some _ (Heap.get?_push_of_some _ x)⟩
end
section
variable {prog : Program} {w : World} {A : Around} {E : Value → Shared → Prop} {s : Shared}
theorem enumT_end {e it l : Addr} {i : Nat} {items : Array Value} {old : Value} {Q : Option Value → Shared → Prop} (hh : A.handled = none)
    (he : IsEnum s.heap e it i old) (hit : s.heap.IsTupleIter it l i) (hl : IsTup s.heap l items) (hx : items[i]? = none)
    (hQ : ∀ h', Heap.ExtBut it s.heap h' → Q none { s with heap := h' }) : wpAny (model prog w) A (pyNext (.ref e)) Q E s := by
  have hT : s.TypeIs (.ref e) "enumerate" := ⟨_, he, rfl⟩
  unfold pyNext
  refine wpAny_bind (wpAny_attempt (wpAny_callSpecial?_slot (name := Str.ofString "__next__") hT F.slot_enumerate_next
    (wpAny_call_entry F.slot_enumerate_next hT F.entry_enumerate_next ?_ (F.args_enumerate_next_1 _))))
  show wpAny _ _ (field (.ref e) 2 >>= _) _ _ _
  refine wpAny_bind (wpAny_field he rfl (x := .ref it) rfl ?_)
  refine wpAny_bind (wpAny_nextOf_tuple_end hh hit hl hx fun h' x he' hx' => ?_)
  obtain ⟨o, ho, hc⟩ := hx'
  refine wpAny_bind (wpAny_isInstance (T := "StopIteration") (b := true) ⟨o, ho, hc⟩ isSubtype_stop ?_)
  exact wpAny_pure (hQ _ he')
end
/-- the tuple at a as it stands at each turn, each item in a new pair -/
def IteT (K : PySem.W.Frag) (a : Addr) : It :=
  ⟨fun i H => ∃ (xs : List V) (x : V), SqT K H a xs ∧ xs[i]? = some x, fun i H v H' => ∃ T x, v = .ref T ∧ H T = none ∧ H' = upd H T (.tup [.int (i : Nat), x]) ∧ ∀ xs, SqT K H a xs → xs[i]? = some x, fun i H => ∃ xs : List V, SqT K H a xs ∧ xs.length ≤ i⟩
theorem turn_enumT {P : Program} {w : World} {K : PySem.W.Frag} {elts : List Expr} {kk : Nat} {tpos : Pos} (a e it : Addr) (hait : a ≠ it) (hae : a ≠ e) :
    Turn P w K (.Tuple elts kk tpos) (IteT K a) [e, it] e (fun i h => (∃ old, IsEnum h e it ((i : Nat) : Int) old) ∧ h.IsTupleIter it a i ∧ e ≠ it) where
  mem := by simp
  obj := fun i h st b hb => by
    obtain ⟨⟨old, he⟩, ⟨o, ho, hc, hd⟩, _⟩ := st
    have e' : b = e ∨ b = it := by simpa using hb
    rcases e' with z | z
    · rw [z]; exact ⟨_, he, fun v q => nomatch q⟩
    · rw [z]; exact ⟨o, ho, fun v q => by rw [hd] at q; cases q⟩
  keep := fun i h h' st k => let ⟨⟨old, he⟩, hi, hne⟩ := st; ⟨⟨old, k e (by simp) _ he⟩, hi.at fun o q => k it (by simp) o q, hne⟩
  item := by
    intro X hP hw hK hc i pins s σ H E I hf st hg
    subst hP hw hK
    obtain ⟨⟨old, he⟩, hit, hne⟩ := st
    obtain ⟨xs, x, hq, hx⟩ := hg
    obtain ⟨its, rv, p, hz⟩ := I.tuple hq
    obtain ⟨u, hu, ru⟩ := rv.get hx
    have hel : e < s.heap.objs.size := Heap.lt_size he
    have hil : it < s.heap.objs.size := by obtain ⟨_, q, _⟩ := hit; exact Heap.lt_size q
    have hlt : i < its.toArray.size := by
      have := (List.getElem?_eq_some_iff.mp hu).1
      simpa using this
    refine wpAny_pyNext_enum_itemD (Draws.tuple (A := X.A.in1) (I.ok.hd hc) it a hait its.toArray) he ⟨hit, p⟩ hlt hne (by simp [hne, hae.symm]) fun y h' tk hP ho hit' hT hsz hk => ?_
    have hy : y = u := by
      have q1 : its.toArray[i]? = some y := hP
      rw [show its.toArray[i]? = some u by simpa using hu] at q1
      exact (Option.some.inj q1).symm
    subst hy
    refine ⟨_, rfl, wpAny_letOwnedTupleGo_enum (s := { s with heap := h', toks := tk + 1 }) ho fun h'' he' sb => ?_⟩
    have hT2 : h''.get? s.heap.objs.size = some { cls := .type "tuple", data := .seq #[.int i tk, y] } := (sb.2 _ (Nat.ne_of_gt hel)).trans hT
    have new : ObjOk X.prog X.w (upd H s.heap.objs.size (.tup [.int (i : Nat), x])) h'' s.heap.objs.size (.tup [.int (i : Nat), x]) :=
      ⟨by show 2 ≤ sizeLine; decide, [.int i tk, y], .cons ⟨_, rfl⟩ (.cons ru .nil), ⟨_, hT2, rfl, _, rfl⟩⟩
    have I1 : L2.Inv X pins σ (upd H s.heap.objs.size (.tup [.int (i : Nat), x])) { s with heap := h'', toks := tk + 1 } :=
      I.turnedNew (ch := [e, it]) (fun b ob hb q => (sb.2 b (fun z => hb (by simp [z]))).trans (hk b ob (fun z => hb (by simp [z])) (fun z => hb (by simp [z])) q)) hf (Nat.le_refl _) new
    refine ⟨.ref s.heap.objs.size, _, I1, rfl, ⟨_, x, rfl, I.hok.fresh (Nat.le_refl _), rfl, fun ys hy => by rw [I.tuple_inj hy hq]; exact hx⟩, ⟨⟨y, ?_⟩, hit'.1.at fun o q => (sb.2 it (Ne.symm hne)).trans q, hne⟩, fun b hb => ?_⟩
    · have e1 : ((i + 1 : Nat) : Int) = (i : Int) + 1 := by omega
      rw [e1]; exact he'
    · have hb' : b < s.heap.objs.size := by
        have e' : b = e ∨ b = it := by simpa using hb
        rcases e' with z | z
        · rw [z]; exact hel
        · rw [z]; exact hil
      rw [upd_ne (Nat.ne_of_lt hb')]
      exact (hf b hb).1
  done := by
    intro X hP hw hK hc i pins s σ H E I hf st hg
    subst hP hw hK
    obtain ⟨⟨old, he⟩, hit, hne⟩ := st
    obtain ⟨xs, hq, hx⟩ := hg
    obtain ⟨its, rv, p, hz⟩ := I.tuple hq
    obtain ⟨f0, f1, f2, f3, f4, f5⟩ := hf it (by simp)
    have hl := rv.length
    have fin : ∀ h', Heap.ExtBut it s.heap h' → (Option.none : Option Value) = none ∧ L2.Inv X pins σ H { s with heap := h' } := fun h' eb => ⟨rfl, I.turned (t' := s.toks) (fun b o hb q => eb b o hb q) f0 f1 f3 f4 f5⟩
    exact enumT_end (I.ok.hd hc) he hit p (by simp; omega) fin
  self := fun A i s Q E st h => let ⟨⟨_, he⟩, _⟩ := st; wpAny_pyIter_enum he h
def iEnumT (K : PySem.W.Frag) (ta : TA) : TI := fun σ H R => ta σ H fun vs H1 => ∃ a xs, vs = [.ref a] ∧ SqT K H1 a xs ∧ R (IteT K a) H1
theorem pi_enumT {X : Cx} {e : Expr} {ta : TA} {p pos tpos : Pos} {elts : List Expr} {kk : Nat} (hg : Gl X "enumerate") (hm : X.mg "enumerate" = none) (ha : PA X [e] ta) (hs : starEach [e] X.env = [(false, eval e X.env)] := by rfl) :
    PI X (.Tuple elts kk tpos) (.Call (.Name "enumerate" p) [e] [] pos) (iEnumT X.K ta) := by
  refine ⟨fun pins s σ H R I h => ?_⟩
  refine Call_ (ld_blt I hg hm boot_enumerate (PyProof.Rows.callWith_type1 (thn (ha.run pos pins s σ H _ I h) fun us s1 ⟨vs, H1, I1, r1, q1⟩ => ?_) hs rfl))
  obtain ⟨a, xs, ex, hq, q⟩ := q1
  subst ex
  cases r1 with
  | cons r rr =>
    cases rr
    cases r
    obtain ⟨its, rv, p', hz⟩ := I1.tuple hq
    have hal : a < s1.heap.objs.size := by
      obtain ⟨o, ho, _⟩ := p'
      exact Heap.lt_size ho
    refine call_enumerate_tuple p' fun h' he hit hsz hk => wpAny_pyIter_enum he ?_
    have I2 : L2.Inv X pins σ H1 { s1 with heap := h' } := I1.kept (t' := s1.toks) hk
    refine ⟨s1.heap.objs.size + 1, [s1.heap.objs.size + 1, s1.heap.objs.size], _, _, H1, rfl, I2, turn_enumT a (s1.heap.objs.size + 1) s1.heap.objs.size (Nat.ne_of_lt hal) (Nat.ne_of_lt (Nat.lt_succ_of_lt hal)), ⟨⟨.none, he⟩, hit, Nat.succ_ne_self _⟩, fun b hb => ?_, q⟩
    have e' : b = s1.heap.objs.size + 1 ∨ b = s1.heap.objs.size := by simpa using hb
    have hle : s1.heap.objs.size ≤ b := by
      rcases e' with z | z
      · rw [z]; exact Nat.le_add_right _ _
      · rw [z]; exact Nat.le_refl _
    exact I1.fpOk hle (I1.hok.fresh hle)
section
variable {K : PySem.W.Frag} {a b : Addr} {xs ys : List V}
theorem walk_enumT : Walk (IteT K a) xs.length (fun H => SqT K H a xs) (YPair (fun i => some (.int (i : Nat))) (fun i => xs[i]?)) := by
  refine ⟨fun i H hi h => ⟨xs, xs[i], h, List.getElem?_eq_getElem hi⟩, fun H h => ⟨xs, h, Nat.le_refl _⟩, fun i H v H' hi h y => ?_⟩
  obtain ⟨T, x, e1, e2, e3, e4⟩ := y
  exact ⟨T, _, x, e1, e2, e3, rfl, e4 xs h⟩
theorem walk_zipT {n : Nat} (hn : n = min xs.length ys.length) : Walk (RZ.ItzT K a b) n (fun H => SqT K H a xs ∧ SqT K H b ys) (YPair (fun i => xs[i]?) (fun i => ys[i]?)) := by
  refine ⟨fun i H hi h => ⟨xs, ys, xs[i]'(by omega), ys[i]'(by omega), h.1, h.2, List.getElem?_eq_getElem (by omega), List.getElem?_eq_getElem (by omega)⟩, fun H h => ⟨xs, ys, h.1, h.2, by omega⟩, fun i H v H' hi h y => ?_⟩
  obtain ⟨T, x, y, e1, e2, e3, e4, e5⟩ := y
  exact ⟨T, x, y, e1, e2, e3, e4 xs h.1, e5 ys h.2⟩
end
end Eo
set_option linter.all false
set_option maxRecDepth 100000
set_option maxHeartbeats 4000000
/-! E2: data in the heap, frames, comprehensions by one lemma. -/
namespace Eo
open PySem L2

/-! ### data -/
inductive Dt where
  | non | bl (b : Bool) | int (i : Int) | str (x : Str) | tup (ds : List Dt)
def Dt.ty : Dt → String
  | non => "NoneType" | bl _ => "bool" | int _ => "int" | str _ => "str" | tup _ => "tuple"
mutual
inductive Rp (K : PySem.W.Frag) (H : Hp) : V → Dt → Prop
  | non : Rp K H .non .non
  | bl (b : Bool) : Rp K H (.bl b) (.bl b)
  | int (i : Int) : Rp K H (.int i) (.int i)
  | str (x : Str) : Rp K H (.str x) (.str x)
  | tup {a : Addr} {xs : List V} {ds : List Dt} : SqT K H a xs → Rps K H xs ds → Rp K H (.ref a) (.tup ds)
inductive Rps (K : PySem.W.Frag) (H : Hp) : List V → List Dt → Prop
  | nil : Rps K H [] []
  | cons {v : V} {vs : List V} {d : Dt} {ds : List Dt} : Rp K H v d → Rps K H vs ds → Rps K H (v :: vs) (d :: ds)
end
/-- tuples stand -/
def Tk (H H' : Hp) : Prop := ∀ a xs, Rd H a (.tup xs) → Rd H' a (.tup xs)
theorem Tk.refl (H : Hp) : Tk H H := fun _ _ h => h
theorem Tk.trans {H H1 H2 : Hp} (a : Tk H H1) (b : Tk H1 H2) : Tk H H2 := fun x xs h => b x xs (a x xs h)
theorem Same.tk {H H' : Hp} (h : Same H H') : Tk H H' := fun a xs r => by
  rcases r with r | ⟨o, r⟩
  · exact .inl (h _ _ r)
  · exact .inr ⟨o, h _ _ r⟩
theorem Tk.sq {K : PySem.W.Frag} {H H' : Hp} {a : Addr} {xs : List V} (h : Tk H H') (e : SqT K H a xs) : SqT K H' a xs := by
  rcases e with e | e
  · exact .inl (h _ _ e)
  · exact .inr e
mutual
theorem Rp.tk {K : PySem.W.Frag} {H H' : Hp} (h : Tk H H') : ∀ {v : V} {d : Dt}, Rp K H v d → Rp K H' v d
  | _, _, .non => .non
  | _, _, .bl b => .bl b
  | _, _, .int i => .int i
  | _, _, .str x => .str x
  | _, _, .tup e r => .tup (h.sq e) (Rps.tk h r)
theorem Rps.tk {K : PySem.W.Frag} {H H' : Hp} (h : Tk H H') : ∀ {vs : List V} {ds : List Dt}, Rps K H vs ds → Rps K H' vs ds
  | _, _, .nil => .nil
  | _, _, .cons r rs => .cons (Rp.tk h r) (Rps.tk h rs)
end
section
variable {K : PySem.W.Frag} {H H' : Hp}
theorem Rp.same {v : V} {d : Dt} (h : Same H H') (r : Rp K H v d) : Rp K H' v d := r.tk (Same.tk h)
theorem Rps.same {v : List V} {d : List Dt} (h : Same H H') (r : Rps K H v d) : Rps K H' v d := r.tk (Same.tk h)
theorem Rps.len : ∀ {vs : List V} {ds : List Dt}, Rps K H vs ds → vs.length = ds.length
  | _, _, .nil => rfl
  | _, _, .cons _ rs => congrArg (· + 1) (Rps.len rs)
theorem Rps.get : ∀ {vs : List V} {ds : List Dt} {i : Nat} {d : Dt}, Rps K H vs ds → ds[i]? = some d → ∃ v, vs[i]? = some v ∧ Rp K H v d
  | _, _, 0, _, .cons r _, h => by cases h; exact ⟨_, rfl, r⟩
  | _, _, i + 1, d, .cons _ rs, h => Rps.get (i := i) (d := d) rs (by simpa using h)
theorem Rps.at_ : ∀ {vs : List V} {ds : List Dt} {i : Nat} {v : V}, Rps K H vs ds → vs[i]? = some v → ∃ d, ds[i]? = some d ∧ Rp K H v d
  | _, _, 0, _, .cons r _, h => by cases h; exact ⟨_, rfl, r⟩
  | _, _, i + 1, d, .cons _ rs, h => Rps.at_ (i := i) (v := d) rs (by simpa using h)
theorem Rps.append : ∀ {vs ws : List V} {ds es : List Dt}, Rps K H vs ds → Rps K H ws es → Rps K H (vs ++ ws) (ds ++ es)
  | _, _, _, _, .nil, r => r
  | _, _, _, _, .cons r rs, s => .cons r (Rps.append rs s)
theorem Rps.drop : ∀ {vs : List V} {ds : List Dt} (n : Nat), Rps K H vs ds → Rps K H (vs.drop n) (ds.drop n)
  | _, _, 0, r => r
  | _, _, _ + 1, .nil => .nil
  | _, _, n + 1, .cons _ rs => Rps.drop n rs
theorem Rps.take : ∀ {vs : List V} {ds : List Dt} (n : Nat), Rps K H vs ds → Rps K H (vs.take n) (ds.take n)
  | _, _, 0, _ => .nil
  | _, _, _ + 1, .nil => .nil
  | _, _, n + 1, .cons r rs => .cons r (Rps.take n rs)
theorem Rps.of_get : ∀ {vs : List V} {ds : List Dt}, vs.length = ds.length → (∀ (i : Nat) (v : V) (d : Dt), vs[i]? = some v → ds[i]? = some d → Rp K H v d) → Rps K H vs ds
  | [], [], _, _ => .nil
  | [], _ :: _, h, _ => by cases h
  | _ :: _, [], h, _ => by cases h
  | v :: vs, d :: ds, h, f => .cons (f 0 v d rfl rfl) (Rps.of_get (by simpa using h) fun i x y hx hy => f (i + 1) x y (by simpa using hx) (by simpa using hy))
theorem Rps.nil_inv {ds : List Dt} (h : Rps K H [] ds) : ds = [] := by cases h; rfl
theorem rps_map {α : Type} (f : α → V) (g : α → Dt) (h : ∀ a, Rp K H (f a) (g a)) : ∀ l : List α, Rps K H (l.map f) (l.map g)
  | [] => .nil
  | a :: l => .cons (h a) (rps_map f g h l)
theorem Rp.tup_inv {v : V} {ds : List Dt} (h : Rp K H v (.tup ds)) : ∃ a xs, v = .ref a ∧ SqT K H a xs ∧ Rps K H xs ds := by
  cases h with
  | tup e r => exact ⟨_, _, rfl, e, r⟩
theorem Rp.int_inv {v : V} {i : Int} (h : Rp K H v (.int i)) : v = .int i := by cases h; rfl
theorem Rp.str_inv {v : V} {x : Str} (h : Rp K H v (.str x)) : v = .str x := by cases h; rfl
theorem Rp.bl_inv {v : V} {b : Bool} (h : Rp K H v (.bl b)) : v = .bl b := by cases h; rfl
theorem Rp.non_inv {v : V} (h : Rp K H v .non) : v = .non := by cases h; rfl
theorem sqT_new {p : Addr} {xs : List V} : SqT K (upd H p (.tup xs)) p xs := SqT.of upd_same
theorem same_new {p : Addr} {o : HO} (h : H p = none) : Same H (upd H p o) := fun b u e => by
  rw [upd_ne (ne_of_none e h)]
  exact e
theorem Rp.new {p : Addr} {xs : List V} {ds : List Dt} (hp : H p = none) (h : Rps K H xs ds) : Rp K (upd H p (.tup xs)) (.ref p) (.tup ds) := .tup sqT_new (h.same (same_new hp))
theorem Rp.ty {v : V} {d : Dt} (h : Rp K H v d) : TyX K H v (.type d.ty) := by
  cases h with
  | non => exact .base .non
  | bl b => exact .base (.bl b)
  | int i => exact .base (.int i)
  | str x => exact .base (.str x)
  | tup e r =>
    rcases e with (e | ⟨o, e⟩) | ⟨o, its, n, e, c, _⟩
    · exact .base (.tup e)
    · exact .fTuple e
    · exact .kTuple e c
end
/-! ### readings, by lemmas that close a step -/
section
variable {K : PySem.W.Frag} {H : Hp} {Q : VK} {v : V}
theorem rd_isi {d : Dt} {n : String} {b : Bool} (h : Rp K H v d) (hb : kitB d.ty n = some b) (q : Q (.bl b) H) : rIsi K [v, .ty n] H Q :=
  ⟨v, .ty n, .type d.ty, .type n, b, rfl, .ty n, h.ty, kit_ty hb, q⟩
theorem rd_ix {ds : List Dt} {i : Nat} {d : Dt} (h : Rp K H v (.tup ds)) (hd : ds[i]? = some d) (q : ∀ w, Rp K H w d → Q w H) : rIxT K v (.int (i : Nat)) H Q := by
  obtain ⟨a, xs, rfl, e, r⟩ := h.tup_inv
  obtain ⟨w, hw, rw_⟩ := r.get hd
  exact ⟨a, xs, _, w, rfl, rfl, e, atI_nat hw, q w rw_⟩
theorem rd_ixL {xs : List V} {a : Addr} {i : Nat} {w : V} (h : SqL K H a xs) (hw : xs[i]? = some w) (q : Q w H) : rIxL K (.ref a) (.int (i : Nat)) H Q := ⟨a, xs, _, w, rfl, rfl, h, atI_nat hw, q⟩
end
theorem iteC {c : Bool} {b : Bool} {A B : Prop} (e : c = b) (h : if b = true then A else B) : if c = true then A else B := by
  rw [e]
  exact h
/-! ### frames: all but the addresses of M stands -/
def Kp (M : Addr → Prop) (H H' : Hp) : Prop := ∀ a o, H a = some o → ¬ M a → H' a = some o
def M0 : Addr → Prop := fun _ => False
theorem Kp.refl (M : Addr → Prop) (H : Hp) : Kp M H H := fun _ _ h _ => h
theorem Kp.trans {M : Addr → Prop} {H H1 H2 : Hp} (a : Kp M H H1) (b : Kp M H1 H2) : Kp M H H2 := fun x o h n => b x o (a x o h n) n
theorem Same.kp {M : Addr → Prop} {H H' : Hp} (h : Same H H') : Kp M H H' := fun a o e _ => h a o e
theorem Kp.same {H H' : Hp} (h : Kp M0 H H') : Same H H' := fun a o e => h a o e (fun z => z)
theorem Kp.upd {M : Addr → Prop} {H H' : Hp} {p : Addr} {o : HO} (h : Kp M H H') (hp : M p ∨ H p = none) : Kp M H (L2.upd H' p o) := fun a u e n => by
  have hne : a ≠ p := by
    intro q
    subst q
    rcases hp with hp | hp
    · exact n hp
    · rw [hp] at e; cases e
  rw [upd_ne hne]
  exact h a u e n
/-- a comprehension whose elements change nothing but M; Pe tells each element, I what stays -/
theorem lc_gen {J : It} {n : Nat} {G : Hp → Prop} {Y : Nat → Hp → V → Hp → Prop} (W : Walk J n G Y) {g : TG} {te : TE} {vs : List Nat} {σ : L2.St} {H1 : Hp} {D : Addr} {Qd : Hp → Prop}
    (M : Addr → Prop) (I : Hp → Prop) (Pe : Nat → V → Prop) (hn : n ≤ 100000) (hD : H1 D = none) (hMD : ¬ M D) (h0 : ∀ H, Kp M H1 H → (∃ acc, H D = some (.lst acc)) → I H1 → I H) (hI : I H1)
    (hup : ∀ H acc acc', I H → H D = some (.lst acc) → I (upd H D (.lst acc')))
    (hG : ∀ H, Kp M H1 H → I H → G H)
    (hs : ∀ i x H H', i < n → Kp M H1 H → I H → Y i H x H' → g x (wipe σ vs) H' fun σ2 H2 => wipe σ2 vs = wipe σ vs ∧
      ∀ Q : VK, (∀ y H4, Kp M H H4 → I H4 → Pe i y → Q y H4) → te σ2 H2 Q)
    (hd : ∀ H ys, Kp M H1 H → I H → H D = some (.lst ys) → ys.length = n → (∀ (i : Nat) y, ys[i]? = some y → Pe i y) → Qd H)
    (gm : ∀ x σ H Q Q', (∀ σ H, Q σ H → Q' σ H) → g x σ H Q → g x σ H Q') :
    ∃ W : Nat → Nat → Hp → Prop, (∃ m, W 0 m (upd H1 D (.lst []))) ∧ ∀ i m H, W i m H →
      (J.stop i H ∧ Qd H) ∨ (J.go i H ∧ ∃ Nx : Hp → Prop, (∀ H', Nx H' → ∃ m', m' < m ∧ W (i + 1) m' H') ∧ ∀ x H', J.yld i H x H' → g x (wipe σ vs) H' fun σ2 H2 => wipe σ2 vs = wipe σ vs ∧ tYes σ2 H2 fun b H3 =>
        if b = true then te σ2 H3 fun y H4 => ∃ acc, H4 D = some (.lst acc) ∧ acc.length < sizeLine ∧ Nx (upd H4 D (.lst (acc ++ [y]))) else Nx H3) := by
  refine lc_it W (fun i H => Kp M H1 H ∧ I H ∧ ∃ acc, H D = some (.lst acc) ∧ acc.length = i ∧ ∀ (j : Nat) y, acc[j]? = some y → Pe j y)
    ⟨(Kp.refl M H1).upd (.inr hD), h0 _ ((Kp.refl M H1).upd (.inr hD)) ⟨_, upd_same⟩ hI, [], upd_same, rfl, fun j y e => by simp at e⟩ (fun i H _ p => hG H p.1 p.2.1) ?_ ?_
  · rintro i x H H' hi ⟨k, iH, acc, hacc, hlen, hPe⟩ y
    refine gm _ _ _ _ _ (fun σ2 H2 ⟨e, q⟩ => ⟨e, ?_⟩) (hs i x H H' hi k iH y)
    dsimp only [tYes]
    first | rw [if_pos rfl] | skip
    refine q _ fun z H4 k4 i4 pz => ?_
    have hD4 : H4 D = some (.lst acc) := k4 D _ hacc hMD
    refine ⟨acc, hD4, Nat.lt_of_lt_of_le (by omega : acc.length < 100000) (by decide), (k.trans k4).upd (.inr hD), hup H4 acc _ i4 hD4, acc ++ [z], upd_same, by simp [hlen], fun j w e => ?_⟩
    by_cases hj : j < acc.length
    · rw [List.getElem?_append_left hj] at e
      exact hPe j w e
    · have hj2 : j = acc.length := by
        have := (List.getElem?_eq_some_iff.mp e).1
        simp at this
        omega
      subst hj2
      simp at e
      subst e
      rw [hlen]
      exact pz
  · rintro H ⟨k, iH, acc, hacc, hlen, hPe⟩
    exact hd H acc k iH hacc hlen hPe
theorem gName_mono {k : Nat} : ∀ (x : V) (σ : L2.St) (H : Hp) (Q Q' : L2.St → Hp → Prop), (∀ σ H, Q σ H → Q' σ H) → gName k x σ H Q → gName k x σ H Q' := fun x σ H Q Q' h q => h _ _ q
/-- .. that change nothing -/
theorem lc_pure {J : It} {n : Nat} {G : Hp → Prop} {Y : Nat → Hp → V → Hp → Prop} (W : Walk J n G Y) {g : TG} {te : TE} {vs : List Nat} {σ : L2.St} {H1 : Hp} {D : Addr} {Qd : Hp → Prop}
    (Pe : Nat → V → Prop) (hn : n ≤ 100000) (hD : H1 D = none)
    (hG : ∀ H, Same H1 H → G H)
    (hs : ∀ i x H H', i < n → Same H1 H → Y i H x H' → g x (wipe σ vs) H' fun σ2 H2 => wipe σ2 vs = wipe σ vs ∧
      ∀ Q : VK, (∀ y H4, Same H H4 → Pe i y → Q y H4) → te σ2 H2 Q)
    (hd : ∀ H ys, Same H1 H → H D = some (.lst ys) → ys.length = n → (∀ (i : Nat) y, ys[i]? = some y → Pe i y) → Qd H)
    (gm : ∀ x σ H Q Q', (∀ σ H, Q σ H → Q' σ H) → g x σ H Q → g x σ H Q') :
    ∃ W : Nat → Nat → Hp → Prop, (∃ m, W 0 m (upd H1 D (.lst []))) ∧ ∀ i m H, W i m H →
      (J.stop i H ∧ Qd H) ∨ (J.go i H ∧ ∃ Nx : Hp → Prop, (∀ H', Nx H' → ∃ m', m' < m ∧ W (i + 1) m' H') ∧ ∀ x H', J.yld i H x H' → g x (wipe σ vs) H' fun σ2 H2 => wipe σ2 vs = wipe σ vs ∧ tYes σ2 H2 fun b H3 =>
        if b = true then te σ2 H3 fun y H4 => ∃ acc, H4 D = some (.lst acc) ∧ acc.length < sizeLine ∧ Nx (upd H4 D (.lst (acc ++ [y]))) else Nx H3) :=
  lc_gen W M0 (fun _ => True) Pe hn hD (fun z => z) (fun _ _ _ _ => trivial) trivial (fun _ _ _ _ _ => trivial) (fun H k _ => hG H k.same)
    (fun i x H H' hi k _ y => gm _ _ _ _ _ (fun σ2 H2 ⟨e, q⟩ => ⟨e, fun Q h => q Q fun z H4 s p => h z H4 (Same.kp s) trivial p⟩) (hs i x H H' hi k.same y))
    (fun H ys k _ e l p => hd H ys k.same e l p) gm
end Eo
set_option linter.all false
set_option maxRecDepth 100000
set_option maxHeartbeats 4000000
/-! E3: the text by places, the scopes, what the top leaves (Tx). -/
namespace Eo
open PySem PySem.Spec PyProof.Rows L2
def top (i : Nat) : Stmt := PySem.Challenge.pw_eyesonly_k35_whole_plain_runs_of_rows.main.body.getD i (.Pass ⟨0, 0, 0, 0⟩)

abbrev s_is_integer : Stmt := top 9
abbrev N_is_integer : List Str := ["thing"]
theorem sc_is_integer : FnScope N_is_integer ["thing"] (defScope s_is_integer) := ⟨rfl, rfl, rfl, by decide +kernel, rfl, by decide +kernel, by decide +kernel⟩
abbrev s_is_from : Stmt := top 10
abbrev N_is_from : List Str := ["thing", "least"]
theorem sc_is_from : FnScope N_is_from ["thing", "least"] (defScope s_is_from) := ⟨rfl, rfl, rfl, by decide +kernel, rfl, by decide +kernel, by decide +kernel⟩
abbrev s_is_tuple : Stmt := top 11
abbrev N_is_tuple : List Str := ["thing", "many"]
theorem sc_is_tuple : FnScope N_is_tuple ["thing", "many"] (defScope s_is_tuple) := ⟨rfl, rfl, rfl, by decide +kernel, rfl, by decide +kernel, by decide +kernel⟩
abbrev s_is_tag_value : Stmt := top 12
abbrev N_is_tag_value : List Str := ["thing", "sign"]
theorem sc_is_tag_value : FnScope N_is_tag_value ["thing"] (defScope s_is_tag_value) := ⟨rfl, rfl, rfl, by decide +kernel, rfl, by decide +kernel, by decide +kernel⟩
abbrev s_is_tree_value : Stmt := top 13
abbrev N_is_tree_value : List Str := ["thing", "parts", "part"]
theorem sc_is_tree_value : FnScope N_is_tree_value ["thing"] (defScope s_is_tree_value) := ⟨rfl, rfl, rfl, by decide +kernel, rfl, by decide +kernel, by decide +kernel⟩
abbrev s_need_tree : Stmt := top 14
abbrev N_need_tree : List Str := ["tree"]
theorem sc_need_tree : FnScope N_need_tree ["tree"] (defScope s_need_tree) := ⟨rfl, rfl, rfl, by decide +kernel, rfl, by decide +kernel, by decide +kernel⟩
abbrev s_is_place_of : Stmt := top 15
abbrev N_is_place_of : List Str := ["tree", "thing", "letter"]
theorem sc_is_place_of : FnScope N_is_place_of ["tree", "thing"] (defScope s_is_place_of) := ⟨rfl, rfl, rfl, by decide +kernel, rfl, by decide +kernel, by decide +kernel⟩
abbrev s_are_cells : Stmt := top 21
abbrev N_are_cells : List Str := ["thing", "item"]
theorem sc_are_cells : FnScope N_are_cells ["thing"] (defScope s_are_cells) := ⟨rfl, rfl, rfl, by decide +kernel, rfl, by decide +kernel, by decide +kernel⟩
abbrev s_is_part_of : Stmt := top 22
abbrev N_is_part_of : List Str := ["shape", "thing"]
theorem sc_is_part_of : FnScope N_is_part_of ["shape", "thing"] (defScope s_is_part_of) := ⟨rfl, rfl, rfl, by decide +kernel, rfl, by decide +kernel, by decide +kernel⟩
abbrev s_is_row_value : Stmt := top 23
abbrev N_is_row_value : List Str := ["thing", "shapes", "shape", "part"]
theorem sc_is_row_value : FnScope N_is_row_value ["thing"] (defScope s_is_row_value) := ⟨rfl, rfl, rfl, by decide +kernel, rfl, by decide +kernel, by decide +kernel⟩
abbrev s_is_code_function : Stmt := top 24
abbrev N_is_code_function : List Str := ["thing", "row"]
theorem sc_is_code_function : FnScope N_is_code_function ["thing"] (defScope s_is_code_function) := ⟨rfl, rfl, rfl, by decide +kernel, rfl, by decide +kernel, by decide +kernel⟩
abbrev s_is_code_value : Stmt := top 25
abbrev N_is_code_value : List Str := ["thing", "function"]
theorem sc_is_code_value : FnScope N_is_code_value ["thing"] (defScope s_is_code_value) := ⟨rfl, rfl, rfl, by decide +kernel, rfl, by decide +kernel, by decide +kernel⟩
abbrev s_cells_read : Stmt := top 26
abbrev N_cells_read : List Str := ["row", "found", "shape", "part"]
theorem sc_cells_read : FnScope N_cells_read ["row"] (defScope s_cells_read) := ⟨rfl, rfl, rfl, by decide +kernel, rfl, by decide +kernel, by decide +kernel⟩
abbrev s_cell_set : Stmt := top 27
abbrev N_cell_set : List Str := ["row"]
theorem sc_cell_set : FnScope N_cell_set ["row"] (defScope s_cell_set) := ⟨rfl, rfl, rfl, by decide +kernel, rfl, by decide +kernel, by decide +kernel⟩
abbrev s_rows_after : Stmt := top 28
abbrev N_rows_after : List Str := ["row", "at"]
theorem sc_rows_after : FnScope N_rows_after ["row", "at"] (defScope s_rows_after) := ⟨rfl, rfl, rfl, by decide +kernel, rfl, by decide +kernel, by decide +kernel⟩
abbrev s_kind_set : Stmt := top 29
abbrev N_kind_set : List Str := ["code", "row", "kinds"]
theorem sc_kind_set : FnScope N_kind_set ["code", "row", "kinds"] (defScope s_kind_set) := ⟨rfl, rfl, rfl, by decide +kernel, rfl, by decide +kernel, by decide +kernel⟩
abbrev s_kinds_after : Stmt := top 30
abbrev N_kinds_after : List Str := ["code", "row", "kinds", "cell"]
theorem sc_kinds_after : FnScope N_kinds_after ["code", "row", "kinds"] (defScope s_kinds_after) := ⟨rfl, rfl, rfl, by decide +kernel, rfl, by decide +kernel, by decide +kernel⟩
abbrev s_has_bad_number : Stmt := top 31
abbrev N_has_bad_number : List Str := ["code", "function", "row", "at", "cells", "cell"]
theorem sc_has_bad_number : FnScope N_has_bad_number ["code", "function", "row", "at"] (defScope s_has_bad_number) := ⟨rfl, rfl, rfl, by decide +kernel, rfl, by decide +kernel, by decide +kernel⟩
abbrev s_wanted_kind : Stmt := top 32
abbrev N_wanted_kind : List Str := ["function", "row"]
theorem sc_wanted_kind : FnScope N_wanted_kind ["function", "row"] (defScope s_wanted_kind) := ⟨rfl, rfl, rfl, by decide +kernel, rfl, by decide +kernel, by decide +kernel⟩
abbrev s_fault_of : Stmt := top 33
abbrev N_fault_of : List Str := ["code", "function", "row", "at", "kinds", "read", "cell", "wanted", "kind"]
theorem sc_fault_of : FnScope N_fault_of ["code", "function", "row", "at", "kinds"] (defScope s_fault_of) := ⟨rfl, rfl, rfl, by decide +kernel, rfl, by decide +kernel, by decide +kernel⟩
abbrev s_joined_kinds : Stmt := top 34
abbrev N_joined_kinds : List Str := ["one", "other", "kind", "unlike"]
theorem sc_joined_kinds : FnScope N_joined_kinds ["one", "other"] (defScope s_joined_kinds) := ⟨rfl, rfl, rfl, by decide +kernel, rfl, by decide +kernel, by decide +kernel⟩
abbrev s_function_told : Stmt := top 35
abbrev N_function_told : List Str := ["code", "f", "function", "rows", "before", "at", "row", "reason", "after", "target"]
theorem sc_function_told : FnScope N_function_told ["code", "f"] (defScope s_function_told) := ⟨rfl, rfl, rfl, by decide +kernel, rfl, by decide +kernel, by decide +kernel⟩
abbrev s_judged : Stmt := top 36
abbrev N_judged : List Str := ["code", "found", "f", "kinds", "fault"]
theorem sc_judged : FnScope N_judged ["code"] (defScope s_judged) := ⟨rfl, rfl, rfl, by decide +kernel, rfl, by decide +kernel, by decide +kernel⟩
abbrev s_is_accepted_value : Stmt := top 37
abbrev N_is_accepted_value : List Str := ["thing"]
theorem sc_is_accepted_value : FnScope N_is_accepted_value ["thing"] (defScope s_is_accepted_value) := ⟨rfl, rfl, rfl, by decide +kernel, rfl, by decide +kernel, by decide +kernel⟩
abbrev s_need_code : Stmt := top 38
abbrev N_need_code : List Str := ["code"]
theorem sc_need_code : FnScope N_need_code ["code"] (defScope s_need_code) := ⟨rfl, rfl, rfl, by decide +kernel, rfl, by decide +kernel, by decide +kernel⟩
abbrev s_subtree : Stmt := top 40
abbrev N_subtree : List Str := ["tree", "place", "letter"]
theorem sc_subtree : FnScope N_subtree ["tree", "place"] (defScope s_subtree) := ⟨rfl, rfl, rfl, by decide +kernel, rfl, by decide +kernel, by decide +kernel⟩
abbrev s_way_led : Stmt := top 41
abbrev N_way_led : List Str := ["tree", "place", "way"]
theorem sc_way_led : FnScope N_way_led ["tree", "place", "way"] (defScope s_way_led) := ⟨rfl, rfl, rfl, by decide +kernel, rfl, by decide +kernel, by decide +kernel⟩
abbrev s_row_value : Stmt := top 44
abbrev N_row_value : List Str := ["tree", "row", "cells", "word", "part"]
theorem sc_row_value : FnScope N_row_value ["tree", "row", "cells"] (defScope s_row_value) := ⟨rfl, rfl, rfl, by decide +kernel, rfl, by decide +kernel, by decide +kernel⟩
abbrev s_next_row : Stmt := top 45
abbrev N_next_row : List Str := ["row", "at", "cells"]
theorem sc_next_row : FnScope N_next_row ["row", "at", "cells"] (defScope s_next_row) := ⟨rfl, rfl, rfl, by decide +kernel, rfl, by decide +kernel, by decide +kernel⟩
abbrev s_called : Stmt := top 46
abbrev N_called : List Str := ["row", "cells", "cell"]
theorem sc_called : FnScope N_called ["row", "cells"] (defScope s_called) := ⟨rfl, rfl, rfl, by decide +kernel, rfl, by decide +kernel, by decide +kernel⟩
abbrev s_cells_for : Stmt := top 47
abbrev N_cells_for : List Str := ["code", "call", "function"]
theorem sc_cells_for : FnScope N_cells_for ["code", "call"] (defScope s_cells_for) := ⟨rfl, rfl, rfl, by decide +kernel, rfl, by decide +kernel, by decide +kernel⟩
abbrev s_are_places : Stmt := top 49
abbrev N_are_places : List Str := ["code", "tree", "f", "thing", "place"]
theorem sc_are_places : FnScope N_are_places ["code", "tree", "f", "thing"] (defScope s_are_places) := ⟨rfl, rfl, rfl, by decide +kernel, rfl, by decide +kernel, by decide +kernel⟩
abbrev s_need_code_call : Stmt := top 50
abbrev N_need_code_call : List Str := ["code", "tree", "f", "places"]
theorem sc_need_code_call : FnScope N_need_code_call ["code", "tree", "f", "places"] (defScope s_need_code_call) := ⟨rfl, rfl, rfl, by decide +kernel, rfl, by decide +kernel, by decide +kernel⟩
abbrev s_Frame_init : Stmt := inClass (top 51) 0
abbrev N_Frame_init : List Str := ["self", "code", "call", "target"]
theorem sc_Frame_init : FnScope N_Frame_init ["self", "code", "call", "target"] (defScope s_Frame_init) := ⟨rfl, rfl, rfl, by decide +kernel, rfl, by decide +kernel, by decide +kernel⟩
abbrev s_run_plain : Stmt := top 52
abbrev N_run_plain : List Str := ["code", "tree", "f", "places", "fuel", "frames", "steps", "frame", "row", "outcome"]
theorem sc_run_plain : FnScope N_run_plain ["code", "tree", "f", "places", "fuel"] (defScope s_run_plain) := ⟨rfl, rfl, rfl, by decide +kernel, rfl, by decide +kernel, by decide +kernel⟩
abbrev s_law_deck : Stmt := top 54
abbrev N_law_deck : List Str := ["_law_script", "_law_mixed", "_law_cell"]
theorem sc_law_deck : FnScope N_law_deck ["_law_script"] (defScope s_law_deck) := ⟨rfl, rfl, rfl, by decide +kernel, rfl, by decide +kernel, by decide +kernel⟩
abbrev s_law_draw : Stmt := top 55
abbrev N_law_draw : List Str := ["_law_deck_here", "_law_many", "_law_number", "_law_cell"]
theorem sc_law_draw : FnScope N_law_draw ["_law_deck_here", "_law_many"] (defScope s_law_draw) := ⟨rfl, rfl, rfl, by decide +kernel, rfl, by decide +kernel, by decide +kernel⟩
abbrev s_law_pick : Stmt := top 56
abbrev N_law_pick : List Str := ["_law_deck_here", "_law_some"]
theorem sc_law_pick : FnScope N_law_pick ["_law_deck_here", "_law_some"] (defScope s_law_pick) := ⟨rfl, rfl, rfl, by decide +kernel, rfl, by decide +kernel, by decide +kernel⟩
abbrev s_law_shapes : Stmt := top 57
abbrev N_law_shapes : List Str := []
theorem sc_law_shapes : FnScope N_law_shapes [] (defScope s_law_shapes) := ⟨rfl, rfl, rfl, by decide +kernel, rfl, by decide +kernel, by decide +kernel⟩
abbrev s_law_set : Stmt := top 58
abbrev N_law_set : List Str := ["_law_row"]
theorem sc_law_set : FnScope N_law_set ["_law_row"] (defScope s_law_set) := ⟨rfl, rfl, rfl, by decide +kernel, rfl, by decide +kernel, by decide +kernel⟩
abbrev s_law_ways : Stmt := top 59
abbrev N_law_ways : List Str := ["_law_row", "_law_at"]
theorem sc_law_ways : FnScope N_law_ways ["_law_row", "_law_at"] (defScope s_law_ways) := ⟨rfl, rfl, rfl, by decide +kernel, rfl, by decide +kernel, by decide +kernel⟩
abbrev s_law_kind_set : Stmt := top 60
abbrev N_law_kind_set : List Str := ["_law_code_here", "_law_row", "_law_kinds"]
theorem sc_law_kind_set : FnScope N_law_kind_set ["_law_code_here", "_law_row", "_law_kinds"] (defScope s_law_kind_set) := ⟨rfl, rfl, rfl, by decide +kernel, rfl, by decide +kernel, by decide +kernel⟩
abbrev s_law_joined : Stmt := top 61
abbrev N_law_joined : List Str := ["_law_one", "_law_other", "_law_x", "_law_y"]
theorem sc_law_joined : FnScope N_law_joined ["_law_one", "_law_other"] (defScope s_law_joined) := ⟨rfl, rfl, rfl, by decide +kernel, rfl, by decide +kernel, by decide +kernel⟩
abbrev s_law_spots : Stmt := top 62
abbrev N_law_spots : List Str := ["_law_tree_here", "_law_place", "_law_found"]
theorem sc_law_spots : FnScope N_law_spots ["_law_tree_here", "_law_place", "_law_found"] (defScope s_law_spots) := ⟨rfl, rfl, rfl, by decide +kernel, rfl, by decide +kernel, by decide +kernel⟩
abbrev s_law_map : Stmt := top 63
abbrev N_law_map : List Str := ["_law_tree_here", "_law_found"]
theorem sc_law_map : FnScope N_law_map ["_law_tree_here"] (defScope s_law_map) := ⟨rfl, rfl, rfl, by decide +kernel, rfl, by decide +kernel, by decide +kernel⟩
abbrev s_law_done : Stmt := top 64
abbrev N_law_done : List Str := ["_law_spots_here", "_law_row", "_law_parts", "_law_word"]
theorem sc_law_done : FnScope N_law_done ["_law_spots_here", "_law_row", "_law_parts"] (defScope s_law_done) := ⟨rfl, rfl, rfl, by decide +kernel, rfl, by decide +kernel, by decide +kernel⟩
abbrev s_law_plain : Stmt := top 65
abbrev N_law_plain : List Str := ["_law_code_here", "_law_spots_here", "_law_call", "_law_fuel", "_law_pile", "_law_steps", "_law_f", "_law_at", "_law_held", "_law_row", "_law_word", "_law_far", "_law_x"]
theorem sc_law_plain : FnScope N_law_plain ["_law_code_here", "_law_spots_here", "_law_call", "_law_fuel"] (defScope s_law_plain) := ⟨rfl, rfl, rfl, by decide +kernel, rfl, by decide +kernel, by decide +kernel⟩
abbrev s_law_tree : Stmt := top 66
abbrev N_law_tree : List Str := ["_law_deck_here", "_law_many", "_law_left"]
theorem sc_law_tree : FnScope N_law_tree ["_law_deck_here", "_law_many"] (defScope s_law_tree) := ⟨rfl, rfl, rfl, by decide +kernel, rfl, by decide +kernel, by decide +kernel⟩
abbrev s_law_some_tree : Stmt := top 67
abbrev N_law_some_tree : List Str := ["_law_deck_here", "_law_many", "_law_left"]
theorem sc_law_some_tree : FnScope N_law_some_tree ["_law_deck_here", "_law_many"] (defScope s_law_some_tree) := ⟨rfl, rfl, rfl, by decide +kernel, rfl, by decide +kernel, by decide +kernel⟩
abbrev s_law_tree_for : Stmt := top 68
abbrev N_law_tree_for : List Str := ["_law_deck_here", "_law_code_here", "_law_many", "_law_it"]
theorem sc_law_tree_for : FnScope N_law_tree_for ["_law_deck_here", "_law_code_here", "_law_many"] (defScope s_law_tree_for) := ⟨rfl, rfl, rfl, by decide +kernel, rfl, by decide +kernel, by decide +kernel⟩
abbrev s_law_heads : Stmt := top 69
abbrev N_law_heads : List Str := ["_law_deck_here", "_law_most", "_law_found", "_law_f"]
theorem sc_law_heads : FnScope N_law_heads ["_law_deck_here", "_law_most"] (defScope s_law_heads) := ⟨rfl, rfl, rfl, by decide +kernel, rfl, by decide +kernel, by decide +kernel⟩
abbrev s_law_drawn_row : Stmt := top 70
abbrev N_law_drawn_row : List Str := ["_law_deck_here", "_law_heads_here", "_law_kinds", "_law_at", "_law_last", "_law_spots_here", "_law_truths", "_law_x", "_law_kind", "_law_d", "_law_way", "_law_f", "_law_turn", "_law_s"]
theorem sc_law_drawn_row : FnScope N_law_drawn_row ["_law_deck_here", "_law_heads_here", "_law_kinds", "_law_at", "_law_last"] (defScope s_law_drawn_row) := ⟨rfl, rfl, rfl, by decide +kernel, rfl, by decide +kernel, by decide +kernel⟩
abbrev s_law_function : Stmt := top 71
abbrev N_law_function : List Str := ["_law_deck_here", "_law_heads_here", "_law_f", "_law_most", "_law_kind", "_law_many", "_law_registers", "_law_size", "_law_ahead", "_law_rows", "_law_at", "_law_kinds", "_law_row", "_law_fit", "_law_x", "_law_it", "_law_after", "_law_d", "_law_one", "_law_other", "_law_to"]
theorem sc_law_function : FnScope N_law_function ["_law_deck_here", "_law_heads_here", "_law_f", "_law_most"] (defScope s_law_function) := ⟨rfl, rfl, rfl, by decide +kernel, rfl, by decide +kernel, by decide +kernel⟩
abbrev s_law_walker : Stmt := top 72
abbrev N_law_walker : List Str := ["_law_deck_here", "_law_heads_here", "_law_f", "_law_kind", "_law_many", "_law_a", "_law_b", "_law_rows", "_law_calls", "_law_tests", "_law_turn", "_law_g", "_law_args", "_law_go", "_law_at"]
theorem sc_law_walker : FnScope N_law_walker ["_law_deck_here", "_law_heads_here", "_law_f"] (defScope s_law_walker) := ⟨rfl, rfl, rfl, by decide +kernel, rfl, by decide +kernel, by decide +kernel⟩
abbrev s_law_code : Stmt := top 73
abbrev N_law_code : List Str := ["_law_deck_here", "_law_functions", "_law_most", "_law_heads_here", "_law_found", "_law_f", "_law_is_walker"]
theorem sc_law_code : FnScope N_law_code ["_law_deck_here", "_law_functions", "_law_most"] (defScope s_law_code) := ⟨rfl, rfl, rfl, by decide +kernel, rfl, by decide +kernel, by decide +kernel⟩
abbrev s_law_asked : Stmt := top 74
abbrev N_law_asked : List Str := ["_law_deck_here", "_law_code_here", "_law_spots_here", "_law_f", "_law_some", "_law_turn"]
theorem sc_law_asked : FnScope N_law_asked ["_law_deck_here", "_law_code_here", "_law_spots_here"] (defScope s_law_asked) := ⟨rfl, rfl, rfl, by decide +kernel, rfl, by decide +kernel, by decide +kernel⟩
abbrev s_law : Stmt := top 75
abbrev N_law : List Str := ["_law_script", "_law_deck_here", "_law_turn", "_law_code_here", "_law_tree_here", "_law_spots_here", "_law_go", "_law_f", "_law_where", "_law_most", "_law_due", "_law_some", "_law_at", "_law_fuel", "_law_far", "_law_told"]
theorem sc_law : FnScope N_law ["_law_script"] (defScope s_law) := ⟨rfl, rfl, rfl, by decide +kernel, rfl, by decide +kernel, by decide +kernel⟩

/-- a def of the top -/
structure Df (K : PySem.W.Frag) (mg : Str → Option Value) (x : Str) (st : Stmt) (ps : List Str) (f : Addr) (fd : FuncData) : Prop where
  F : Fun K x x st f fd
  m : mg x = some (.ref f)
  b : Binds K fd ps []
/-- the shapes of the rows, by their words -/
def SH : List (Str × List Str) := [("top", ["set"]), ("move", ["set", "read"]), ("left", ["set", "read"]), ("right", ["set", "read"]), ("up", ["set", "read"]), ("yes", ["set"]), ("no", ["set"]), ("has", ["set", "read", "tag"]),
  ("empty", ["set", "read"]), ("same", ["set", "read", "read"]), ("not", ["set", "read"]), ("skip", ["row"]), ("unless", ["read", "row"]), ("call", ["set", "function", "args"]), ("give", ["read"])]
/-- what stands where: addresses, functions, values, the dict of the shapes -/
structure Wh where
  A : Nat → Addr
  D : Nat → FuncData
  U : Nat → Value
  es : Array DictEntry
  n : Nat
structure Tx (w : World) (K : PySem.W.Frag) (mg : Str → Option Value) (Z : Wh) : Prop where
  is_integer : Df K mg "is_integer" s_is_integer ["thing"] (Z.A 0) (Z.D 0)
  is_from : Df K mg "is_from" s_is_from ["thing", "least"] (Z.A 1) (Z.D 1)
  is_tuple : Df K mg "is_tuple" s_is_tuple ["thing", "many"] (Z.A 2) (Z.D 2)
  is_tag_value : Df K mg "is_tag_value" s_is_tag_value ["thing"] (Z.A 3) (Z.D 3)
  is_tree_value : Df K mg "is_tree_value" s_is_tree_value ["thing"] (Z.A 4) (Z.D 4)
  need_tree : Df K mg "need_tree" s_need_tree ["tree"] (Z.A 5) (Z.D 5)
  is_place_of : Df K mg "is_place_of" s_is_place_of ["tree", "thing"] (Z.A 6) (Z.D 6)
  are_cells : Df K mg "are_cells" s_are_cells ["thing"] (Z.A 7) (Z.D 7)
  is_part_of : Df K mg "is_part_of" s_is_part_of ["shape", "thing"] (Z.A 8) (Z.D 8)
  is_row_value : Df K mg "is_row_value" s_is_row_value ["thing"] (Z.A 9) (Z.D 9)
  is_code_function : Df K mg "is_code_function" s_is_code_function ["thing"] (Z.A 10) (Z.D 10)
  is_code_value : Df K mg "is_code_value" s_is_code_value ["thing"] (Z.A 11) (Z.D 11)
  cells_read : Df K mg "cells_read" s_cells_read ["row"] (Z.A 12) (Z.D 12)
  cell_set : Df K mg "cell_set" s_cell_set ["row"] (Z.A 13) (Z.D 13)
  rows_after : Df K mg "rows_after" s_rows_after ["row", "at"] (Z.A 14) (Z.D 14)
  kind_set : Df K mg "kind_set" s_kind_set ["code", "row", "kinds"] (Z.A 15) (Z.D 15)
  kinds_after : Df K mg "kinds_after" s_kinds_after ["code", "row", "kinds"] (Z.A 16) (Z.D 16)
  has_bad_number : Df K mg "has_bad_number" s_has_bad_number ["code", "function", "row", "at"] (Z.A 17) (Z.D 17)
  wanted_kind : Df K mg "wanted_kind" s_wanted_kind ["function", "row"] (Z.A 18) (Z.D 18)
  fault_of : Df K mg "fault_of" s_fault_of ["code", "function", "row", "at", "kinds"] (Z.A 19) (Z.D 19)
  joined_kinds : Df K mg "joined_kinds" s_joined_kinds ["one", "other"] (Z.A 20) (Z.D 20)
  function_told : Df K mg "function_told" s_function_told ["code", "f"] (Z.A 21) (Z.D 21)
  judged : Df K mg "judged" s_judged ["code"] (Z.A 22) (Z.D 22)
  is_accepted_value : Df K mg "is_accepted_value" s_is_accepted_value ["thing"] (Z.A 23) (Z.D 23)
  need_code : Df K mg "need_code" s_need_code ["code"] (Z.A 24) (Z.D 24)
  subtree : Df K mg "subtree" s_subtree ["tree", "place"] (Z.A 25) (Z.D 25)
  way_led : Df K mg "way_led" s_way_led ["tree", "place", "way"] (Z.A 26) (Z.D 26)
  row_value : Df K mg "row_value" s_row_value ["tree", "row", "cells"] (Z.A 27) (Z.D 27)
  next_row : Df K mg "next_row" s_next_row ["row", "at", "cells"] (Z.A 28) (Z.D 28)
  called : Df K mg "called" s_called ["row", "cells"] (Z.A 29) (Z.D 29)
  cells_for : Df K mg "cells_for" s_cells_for ["code", "call"] (Z.A 30) (Z.D 30)
  are_places : Df K mg "are_places" s_are_places ["code", "tree", "f", "thing"] (Z.A 31) (Z.D 31)
  need_code_call : Df K mg "need_code_call" s_need_code_call ["code", "tree", "f", "places"] (Z.A 32) (Z.D 32)
  Frame_init_F : Fun K "__init__" "Frame.__init__" s_Frame_init (Z.A 33) (Z.D 33)
  Frame_init_b : Binds K (Z.D 33) ["self", "code", "call", "target"] []
  run_plain : Df K mg "run_plain" s_run_plain ["code", "tree", "f", "places", "fuel"] (Z.A 34) (Z.D 34)
  law_deck : Df K mg "_law_deck" s_law_deck ["_law_script"] (Z.A 35) (Z.D 35)
  law_draw : Df K mg "_law_draw" s_law_draw ["_law_deck_here", "_law_many"] (Z.A 36) (Z.D 36)
  law_pick : Df K mg "_law_pick" s_law_pick ["_law_deck_here", "_law_some"] (Z.A 37) (Z.D 37)
  law_shapes : Df K mg "_law_shapes" s_law_shapes [] (Z.A 38) (Z.D 38)
  law_set : Df K mg "_law_set" s_law_set ["_law_row"] (Z.A 39) (Z.D 39)
  law_ways : Df K mg "_law_ways" s_law_ways ["_law_row", "_law_at"] (Z.A 40) (Z.D 40)
  law_kind_set : Df K mg "_law_kind_set" s_law_kind_set ["_law_code_here", "_law_row", "_law_kinds"] (Z.A 41) (Z.D 41)
  law_joined : Df K mg "_law_joined" s_law_joined ["_law_one", "_law_other"] (Z.A 42) (Z.D 42)
  law_spots : Df K mg "_law_spots" s_law_spots ["_law_tree_here", "_law_place", "_law_found"] (Z.A 43) (Z.D 43)
  law_map : Df K mg "_law_map" s_law_map ["_law_tree_here"] (Z.A 44) (Z.D 44)
  law_done : Df K mg "_law_done" s_law_done ["_law_spots_here", "_law_row", "_law_parts"] (Z.A 45) (Z.D 45)
  law_plain : Df K mg "_law_plain" s_law_plain ["_law_code_here", "_law_spots_here", "_law_call", "_law_fuel"] (Z.A 46) (Z.D 46)
  law_tree : Df K mg "_law_tree" s_law_tree ["_law_deck_here", "_law_many"] (Z.A 47) (Z.D 47)
  law_some_tree : Df K mg "_law_some_tree" s_law_some_tree ["_law_deck_here", "_law_many"] (Z.A 48) (Z.D 48)
  law_tree_for : Df K mg "_law_tree_for" s_law_tree_for ["_law_deck_here", "_law_code_here", "_law_many"] (Z.A 49) (Z.D 49)
  law_heads : Df K mg "_law_heads" s_law_heads ["_law_deck_here", "_law_most"] (Z.A 50) (Z.D 50)
  law_drawn_row : Df K mg "_law_drawn_row" s_law_drawn_row ["_law_deck_here", "_law_heads_here", "_law_kinds", "_law_at", "_law_last"] (Z.A 51) (Z.D 51)
  law_function : Df K mg "_law_function" s_law_function ["_law_deck_here", "_law_heads_here", "_law_f", "_law_most"] (Z.A 52) (Z.D 52)
  law_walker : Df K mg "_law_walker" s_law_walker ["_law_deck_here", "_law_heads_here", "_law_f"] (Z.A 53) (Z.D 53)
  law_code : Df K mg "_law_code" s_law_code ["_law_deck_here", "_law_functions", "_law_most"] (Z.A 54) (Z.D 54)
  law_asked : Df K mg "_law_asked" s_law_asked ["_law_deck_here", "_law_code_here", "_law_spots_here"] (Z.A 55) (Z.D 55)
  law : Df K mg "law" s_law ["_law_script"] (Z.A 56) (Z.D 56)
  Frame_mk : Mk K (Z.A 90) (Z.A 33)
  Frame_m : mg "Frame" = some (.ref (Z.A 90))
  Frame_cl : Cls K (Z.A 90)
  n_rows : NoAttr K (Z.A 90) "rows"
  n_cells : NoAttr K (Z.A 90) "cells"
  n_at : NoAttr K (Z.A 90) "at"
  n_target : NoAttr K (Z.A 90) "target"
  isinstance_ : mg "isinstance" = none
  len_ : mg "len" = none
  all_ : mg "all" = none
  any_ : mg "any" = none
  zip_ : mg "zip" = none
  enumerate_ : mg "enumerate" = none
  range_ : mg "range" = none
  max_ : mg "max" = none
  sorted_ : mg "sorted" = none
  repr_ : mg "repr" = none
  int_ : mg "int" = none
  list_ : mg "list" = none
  tuple_ : mg "tuple" = none
  dict_ : mg "dict" = none
  str_ : mg "str" = none
  bool_ : mg "bool" = none
  m_SMALL : mg "SMALL" = some (Z.U 0)
  r_SMALL : L2.RelV (.str "abcdefghijklmnopqrstuvwxyz") (Z.U 0)
  m_LONGEST_TAG : mg "LONGEST_TAG" = some (Z.U 1)
  r_LONGEST_TAG : L2.RelV (.int 8) (Z.U 1)
  m_KINDS : mg "KINDS" = some (Z.U 2)
  r_KINDS : L2.RelV (.ref (Z.A 91)) (Z.U 2)
  t_KINDS : ∀ H, SqT K H (Z.A 91) [.str "place", .str "truth"]
  m_TO_PLACE : mg "TO_PLACE" = some (Z.U 3)
  r_TO_PLACE : L2.RelV (.ref (Z.A 92)) (Z.U 3)
  t_TO_PLACE : ∀ H, SqT K H (Z.A 92) [.str "top", .str "left", .str "right", .str "up"]
  m_FROM_TRUTH : mg "FROM_TRUTH" = some (Z.U 4)
  r_FROM_TRUTH : L2.RelV (.ref (Z.A 93)) (Z.U 4)
  t_FROM_TRUTH : ∀ H, SqT K H (Z.A 93) [.str "not", .str "unless"]
  m_WAYS : mg "WAYS" = some (Z.U 5)
  r_WAYS : L2.RelV (.ref (Z.A 94)) (Z.U 5)
  t_WAYS : ∀ H, SqT K H (Z.A 94) [.str "left", .str "right", .str "up"]
  m_SHAPES : mg "SHAPES" = some (Z.U 6)
  r_SHAPES : L2.RelV (.ref (Z.A 95)) (Z.U 6)
  SHAPES_kd : KDict K w (Z.A 95) Z.es Z.n
  shp : ∀ p ∈ SH, ∃ a, PySem.W.nsIn K (Z.A 95) p.1 = some (some (.ref a)) ∧ ∀ H, SqT K H a (p.2.map V.str)
section
variable {X : Cx}
theorem ix_kd {d : Addr} {es : Array DictEntry} {n : Nat} (D : KDict X.K X.w d es n) : IxR X (fun x y H Q => ∃ (z : Str) (u0 : Value) (v0 : V), x = .ref d ∧ y = .str z ∧ PySem.W.nsIn X.K d z = some (some u0) ∧ RelV v0 u0 ∧ Q v0 H) := by
  intro value slice pins s σ H x y v u Q I rx ry h hs
  have hT := kd_type D I
  have h1 := op_item_kd D pins s σ H x y v u Q I rx ry h
  obtain ⟨z, u0, v0, rfl, rfl, _⟩ := h
  cases rx
  obtain ⟨t, rfl⟩ := ry
  exact tail_any hT PySem.F.slot_dict_getitem.lookup h1 hs
end
theorem bt_isinstance : bootBuiltins "isinstance" = some (.builtin "isinstance") := by decide +kernel
theorem bt_len : bootBuiltins "len" = some (.builtin "len") := by decide +kernel
theorem bt_all : bootBuiltins "all" = some (.builtin "all") := by decide +kernel
theorem bt_any : bootBuiltins "any" = some (.builtin "any") := by decide +kernel
theorem bt_zip : bootBuiltins "zip" = some (.type "zip") := by decide +kernel
theorem bt_enumerate : bootBuiltins "enumerate" = some (.type "enumerate") := by decide +kernel
theorem bt_range : bootBuiltins "range" = some (.type "range") := by decide +kernel
theorem bt_max : bootBuiltins "max" = some (.builtin "max") := by decide +kernel
theorem bt_sorted : bootBuiltins "sorted" = some (.builtin "sorted") := by decide +kernel
theorem bt_repr : bootBuiltins "repr" = some (.builtin "repr") := by decide +kernel
theorem bt_int : bootBuiltins "int" = some (.type "int") := by decide +kernel
theorem bt_list : bootBuiltins "list" = some (.type "list") := by decide +kernel
theorem bt_tuple : bootBuiltins "tuple" = some (.type "tuple") := by decide +kernel
theorem bt_dict : bootBuiltins "dict" = some (.type "dict") := by decide +kernel
theorem bt_str : bootBuiltins "str" = some (.type "str") := by decide +kernel
theorem bt_bool : bootBuiltins "bool" = some (.type "bool") := by decide +kernel
end Eo
set_option linter.all false
set_option maxRecDepth 100000
set_option maxHeartbeats 4000000
namespace Eo
open PySem PySem.Spec PyProof.Rows L2
section
variable {X : Cx}
/-- t + u: a tuple of all items, new or one of both -/
def rCatS (K : PySem.W.Frag) : R2 := fun x y H Q => ∃ a b xs ys, x = .ref a ∧ y = .ref b ∧ SqT K H a xs ∧ SqT K H b ys ∧ xs.length + ys.length ≤ sizeLine ∧ ∀ p H', Same H H' → SqT K H' p (xs ++ ys) → Q (.ref p) H'
theorem op_catS : OpR X (binaryOp .Add) (rCatS X.K) := by
  intro pins s σ H x y v u Q I rx ry h
  obtain ⟨a, b, xs, ys, rfl, rfl, ha, hb, hz, q⟩ := h
  refine op_catA pins s σ H _ _ v u Q I rx ry ⟨a, b, xs, ys, rfl, rfl, ha, hb, hz, fun e => ?_, fun _ e => ?_, fun _ _ p hp => ?_⟩
  · subst e
    exact q b H (Same.refl _) hb
  · subst e
    exact q a H (Same.refl _) (by rw [List.append_nil]; exact ha)
  · exact q p _ (same_upd hp) (SqT.of upd_same)
theorem cut_whole {xs : List V} {lo hi : Option Int} (h : HT.sIx xs.length 0 lo = 0 ∧ HT.sIx xs.length xs.length hi = xs.length) : cutV xs lo hi = xs := by
  unfold cutV
  rw [h.1, h.2]
  simp
/-- t[lo:hi]: a tuple of these items, new or t itself -/
def rSlS (K : PySem.W.Frag) : V → Option Int → Option Int → Hp → VK → Prop := fun x lo hi H Q => ∃ a xs, x = .ref a ∧ SqT K H a xs ∧ ∀ p H', Same H H' → SqT K H' p (cutV xs lo hi) → Q (.ref p) H'
theorem sl_tupS : SlR X (rSlS X.K) := by
  intro pins s σ H x v vl vu lo hi sl Q I rx hs pl pu h
  obtain ⟨a, xs, rfl, hx, q⟩ := h
  refine sl_tupA pins s σ H _ v vl vu lo hi sl Q I rx hs pl pu ⟨a, xs, rfl, hx, fun hw => ?_, fun _ p hp => q p _ (same_upd hp) (SqT.of upd_same)⟩
  exact q a H (Same.refl _) (by rw [cut_whole hw]; exact hx)
end
theorem cut_from (xs : List V) (k : Nat) : cutV xs (some (k : Int)) none = xs.drop k := by
  unfold cutV
  rw [HT.sIx_nat]
  show (xs.drop (min k xs.length)).take (xs.length - min k xs.length) = xs.drop k
  by_cases h : k ≤ xs.length
  · rw [Nat.min_eq_left h, List.take_of_length_le]
    simp
  · have h' : xs.length ≤ k := by omega
    rw [Nat.min_eq_right h', List.drop_length, List.drop_eq_nil_of_le h']
    simp
theorem cut_to (xs : List V) (k : Nat) : cutV xs none (some (k : Int)) = xs.take k := by
  unfold cutV
  rw [HT.sIx_nat]
  show (xs.drop 0).take (min k xs.length - 0) = xs.take k
  simp
theorem cut_mid (xs : List V) (j k : Nat) (h : j ≤ k) (hk : k ≤ xs.length) : cutV xs (some (j : Int)) (some (k : Int)) = (xs.drop j).take (k - j) := by
  unfold cutV
  rw [HT.sIx_nat, HT.sIx_nat, Nat.min_eq_left (show j ≤ xs.length by omega), Nat.min_eq_left hk]
/-- the target of a pair -/
abbrev gPair (K : PySem.W.Frag) (i j : Nat) : TG := gTup K 2 (gCons (gName i) (gCons (gName j) gNil))
theorem gPair_mono {K : PySem.W.Frag} {i j : Nat} : ∀ (x : V) (σ : L2.St) (H : Hp) (Q Q' : L2.St → Hp → Prop), (∀ σ H, Q σ H → Q' σ H) → gPair K i j x σ H Q → gPair K i j x σ H Q' := by
  intro x σ H Q Q' h q
  obtain ⟨a, xs, e1, e2, e3, v, r, e4, v2, r2, e5, e6, q⟩ := q
  exact ⟨a, xs, e1, e2, e3, v, r, e4, v2, r2, e5, e6, h _ _ q⟩
theorem pair_go {K : PySem.W.Frag} {i j : Nat} {T : Addr} {x y : V} {σ : L2.St} {H : Hp} {Q : L2.St → Hp → Prop} (q : Q ((σ.set i (some x)).set j (some y)) (upd H T (.tup [x, y]))) : gPair K i j (.ref T) σ (upd H T (.tup [x, y])) Q :=
  ⟨T, [x, y], rfl, SqT.of upd_same, rfl, x, [y], rfl, y, [], rfl, rfl, q⟩
end Eo
set_option linter.all false
set_option maxRecDepth 100000
set_option maxHeartbeats 4000000
/-! E4: the looks. -/
namespace Eo
open PySem L2
local macro_rules | `(tactic| walk_at "go") => `(tactic| repeat (first
  | (refine ⟨_, rfl, ?_⟩)
  | (refine ⟨_, _, rfl, rfl, ?_⟩)))
/-! ### words of data -/
def plStr (p : List Bool) : Str := ⟨(p.map fun b => if b then 114 else 108).toArray⟩
def Tr.dt : Tr → Dt
  | .nil => .non
  | .node g l r => .tup [.str g, l.dt, r.dt]
def natsDt (as : List Nat) : Dt := .tup (as.map fun (n : Nat) => .int (n : Int))
def spIsInteger : Sp := fun vs H Q _ => ∃ i : Int, vs = [.int i] ∧ Q (.bl true) H
def spIsFrom : Sp := fun vs H Q _ => ∃ i l : Int, vs = [.int i, .int l] ∧ Q (.bl (decide (l ≤ i))) H
def spIsTuple (K : PySem.W.Frag) : Sp := fun vs H Q _ => ∃ (v : V) (ds : List Dt) (n : Int), vs = [v, .int n] ∧ Rp K H v (.tup ds) ∧ Q (.bl (decide ((ds.length : Int) = n))) H
def spIsTag : Sp := fun vs H Q _ => ∃ g : Str, vs = [.str g] ∧ GoodTag g ∧ ∀ H', Same H H' → Q (.bl true) H'
def spIsPlaceOf (K : PySem.W.Frag) : Sp := fun vs H Q _ => ∃ (v : V) (t : Tr) (p : List Bool), vs = [v, .str (plStr p)] ∧ Rp K H v t.dt ∧ isPl p t ∧ ∀ H', Same H H' → Q (.bl true) H'
section
variable {P : Program} {w : World} {K : PySem.W.Frag} {mg : Str → Option Value} {base : Heap} {Z : Wh}
theorem tyI {H : Hp} {i : Int} : TyX K H (.int i) (.type "int") := .base (.int i)
theorem tyS {H : Hp} {x : Str} : TyX K H (.str x) (.type "str") := .base (.str x)
theorem tyT {H : Hp} {a : Addr} {xs : List V} (e : SqT K H a xs) : TyX K H (.ref a) (.type "tuple") := by
  rcases e with (e | ⟨o, e⟩) | ⟨o, its, n, e, c, _⟩
  · exact .base (.tup e)
  · exact .fTuple e
  · exact .kTuple e c
theorem ok_is_integer (T : Tx w K mg Z) : FnOk P w K mg base CX0 1 (Z.A 0) (Z.D 0) ["thing"] spIsInteger := by
  refine T.is_integer.F.ok sc_is_integer (fun vs H Q E h => ?_) (fun cdv A outer s H vs Q E hr h => ?_)
  · obtain ⟨i, rfl, q⟩ := h
    rfl
  have hu := hu_of hr
  have hu0 := Nat.lt_of_succ_lt hu
  obtain ⟨i, rfl, q⟩ := h
  refine ⟨_, (pss_one (ps_ret (pe_and (pe_callB call_isi rfl T.isinstance_ bt_isinstance (pa_cons (pv 0) (pa_cons (pe_bltn (v := .ty "int") rfl T.int_ bt_int rfl) pa_nil))) (pe_one (pe_not (pe_callB call_isi rfl T.isinstance_ bt_isinstance (pa_cons (pv 0) (pa_cons (pe_bltn (v := .ty "bool") rfl T.bool_ bt_bool rfl) pa_nil)))))))), ?_⟩
  refine ⟨_, rfl, _, _, _, _, true, rfl, .ty _, tyI, kit_ty (by decide +kernel), _, rfl, ?_⟩
  refine ⟨_, rfl, _, _, _, _, false, rfl, .ty _, tyI, kit_ty (by decide +kernel), _, rfl, ?_⟩
  exact q
theorem ok_is_from (T : Tx w K mg Z) : FnOk P w K mg base CX0 2 (Z.A 1) (Z.D 1) ["thing", "least"] spIsFrom := by
  refine T.is_from.F.ok sc_is_from (fun vs H Q E h => ?_) (fun cdv A outer s H vs Q E hr h => ?_)
  · obtain ⟨i, l, rfl, q⟩ := h
    rfl
  have hu := hu_of hr
  have hu0 := Nat.lt_of_succ_lt hu
  obtain ⟨i, l, rfl, q⟩ := h
  refine ⟨_, (pss_one (ps_ret (pe_and (pe_call (ok_is_integer T) (hr.mono (by decide)) rfl T.is_integer.m T.is_integer.F.kp T.is_integer.b .nil pass0 (pa_cons (pv 0) pa_nil)) (pe_one (pe_cmpR op_ge (pv 0) (pv 1) (nomark _)))))), ?_⟩
  refine ⟨_, rfl, i, rfl, _, rfl, ?_⟩
  refine ⟨_, rfl, _, rfl, _, _, rfl, rfl, ?_⟩
  exact q
theorem lenV_tup {H : Hp} {v : V} {ds : List Dt} (h : Rp K H v (.tup ds)) : LenV K v H ds.length := by
  obtain ⟨a, xs, rfl, e, r⟩ := h.tup_inv
  exact .inr ⟨xs, e, r.len.symm⟩
theorem ok_is_tuple (T : Tx w K mg Z) : FnOk P w K mg base CX0 1 (Z.A 2) (Z.D 2) ["thing", "many"] (spIsTuple K) := by
  refine T.is_tuple.F.ok sc_is_tuple (fun vs H Q E h => ?_) (fun cdv A outer s H vs Q E hr h => ?_)
  · obtain ⟨v, ds, n, rfl, hv, q⟩ := h
    rfl
  have hu := hu_of hr
  have hu0 := Nat.lt_of_succ_lt hu
  obtain ⟨v, ds, n, rfl, hv, q⟩ := h
  obtain ⟨a, xs, rfl, e, r⟩ := hv.tup_inv
  refine ⟨_, (pss_one (ps_ret (pe_and (pe_callB call_isi rfl T.isinstance_ bt_isinstance (pa_cons (pv 0) (pa_cons (pe_bltn (v := .ty "tuple") rfl T.tuple_ bt_tuple rfl) pa_nil))) (pe_one (pe_cmpR op_eq (pe_callB call_len rfl T.len_ bt_len (pa_cons (pv 0) pa_nil)) (pv 1) (nomark _)))))), ?_⟩
  refine ⟨_, rfl, _, _, _, _, true, rfl, .ty _, tyT e, kit_ty (by decide +kernel), _, rfl, ?_⟩
  refine ⟨_, rfl, _, _, rfl, lenV_tup hv, _, rfl, rfl, ?_⟩
  have e : decide (V.int (ds.length : Int) = V.int n) = decide ((ds.length : Int) = n) := by simp
  rw [e]
  exact q
theorem all_true {ys : List V} {n : Nat} (hl : ys.length = n) (h : ∀ (i : Nat) y, ys[i]? = some y → y = V.bl true) : ys = (List.replicate n true).map V.bl := by
  subst hl
  apply List.ext_getElem?
  intro i
  cases e : ys[i]? with
  | none =>
    have := List.getElem?_eq_none_iff.mp e
    rw [List.getElem?_eq_none (by simpa using this)]
  | some y =>
    have hy := h i y e
    have hi := (List.getElem?_eq_some_iff.mp e).1
    rw [List.getElem?_map, List.getElem?_replicate, if_pos hi, hy]
    rfl
theorem all_rep (n : Nat) : (List.replicate n true).all id = true := by
  rw [List.all_eq_true]
  intro x hx
  rw [List.eq_of_mem_replicate hx]
  rfl
theorem small_of {c : Nat} (h : 97 ≤ c ∧ c ≤ 122) : decide (c ∈ ("abcdefghijklmnopqrstuvwxyz" : Str).cps.toList) = true := by
  have key : ∀ k : Fin 26, decide ((97 + k.val) ∈ ("abcdefghijklmnopqrstuvwxyz" : Str).cps.toList) = true := by decide +kernel
  have := key ⟨c - 97, by omega⟩
  simpa [show 97 + (c - 97) = c by omega] using this
theorem upd_all {H : Hp} {D : Addr} {ys : List V} {n : Nat} (e : H D = some (.lst ys)) (hl : ys.length = n) (h : ∀ (i : Nat) y, ys[i]? = some y → y = V.bl true) : SqL K H D ((List.replicate n true).map V.bl) := by
  rw [← all_true hl h]
  exact SqL.of e
theorem ok_is_tag_value (T : Tx w K mg Z) : FnOk P w K mg base CX0 1 (Z.A 3) (Z.D 3) ["thing"] spIsTag := by
  refine T.is_tag_value.F.ok sc_is_tag_value (fun vs H Q E h => ?_) (fun cdv A outer s H vs Q E hr h => ?_)
  · obtain ⟨g, rfl, ⟨h1, h8, hc⟩, q⟩ := h
    rfl
  have hu := hu_of hr
  have hu0 := Nat.lt_of_succ_lt hu
  obtain ⟨g, rfl, ⟨h1, h8, hc⟩, q⟩ := h
  refine ⟨_, (pss_cons (ps_if (PW.pt (pw_or (pt_not (pt_val (pe_callB call_isi rfl T.isinstance_ bt_isinstance (pa_cons (pv 0) (pa_cons (pe_bltn (v := .ty "str") rfl T.str_ bt_str rfl) pa_nil))))) (pw_or1 (pt_not (pt_chain op_le op_le pe_int (pe_callB call_len rfl T.len_ bt_len (pa_cons (pv 0) pa_nil)) (pe_glob rfl T.m_LONGEST_TAG T.r_LONGEST_TAG)))))) (pss_one (ps_ret pe_bl)) pss_nil) (pss_one (ps_ret (pe_callB (cr_all rfl) rfl T.all_ bt_all (pa_cons (pe_lc (own := [("sign", 1)]) (g := gName 1) (tt := tYes) rfl sc_is_tag_value.nd (pi_str (pv 0)) (blkOk_by (own := [("sign", 1)]) (N := N_is_tag_value) (sc := defScope s_is_tag_value) (by decide +kernel)) (fun _ _ _ _ _ => (pg_name (i := 1) sc_is_tag_value.nd rfl (by first | exact Or.inl rfl | exact Or.inr rfl))) (fun _ _ _ _ _ => pts_nil) (fun _ _ _ _ _ => (pe_cmpR op_in_sign (pv 1) (pe_glob rfl T.m_SMALL T.r_SMALL) rfl))) pa_nil))))), ?_⟩
  refine ⟨_, rfl, _, _, _, _, true, rfl, .ty _, tyS, kit_ty (by decide +kernel), _, rfl, ?_⟩
  refine ⟨_, rfl, _, _, rfl, ⟨Nat.le_trans h8 (by decide), rfl⟩, _, _, rfl, rfl, _, rfl, ?_⟩
  refine iteC (decide_eq_true (by omega)) ?_
  refine ⟨_, _, rfl, rfl, _, rfl, ?_⟩
  refine iteC (b := false) (by rw [decide_eq_true (by omega)]; rfl) ?_
  refine ⟨_, rfl, _, rfl, fun D hD => lc_pure walk_str (fun _ y => y = V.bl true) (Nat.le_trans h8 (by decide)) hD (fun _ _ => trivial) ?_ ?_ gName_mono⟩
  · rintro i x H1 H2 hi hs ⟨rfl, c, hc1, rfl⟩
    refine ⟨rfl, fun Q' q' => ⟨_, rfl, _, _, rfl, rfl, ?_⟩⟩
    have hcm : c ∈ g.cps.toList := by
      have := Array.getElem?_eq_some_iff.mp hc1
      obtain ⟨hlt, rfl⟩ := this
      simp
    rw [small_of (hc c hcm)]
    exact q' _ _ (Same.refl _) rfl
  · intro H1 ys hs e hl hy
    refine ⟨_, _, rfl, upd_all e hl hy, ?_⟩
    rw [all_rep]
    exact q _ hs
end
end Eo
set_option linter.all false
set_option maxRecDepth 100000
set_option maxHeartbeats 4000000
/-! E5: trees and places looked at. -/
namespace Eo
open PySem L2
theorem Rps.snoc_inv {K : PySem.W.Frag} {H : Hp} : ∀ {ds : List Dt} {xs : List V} {d : Dt}, Rps K H xs (ds ++ [d]) → ∃ xs' v, xs = xs' ++ [v] ∧ Rps K H xs' ds ∧ Rp K H v d
  | [], _, _, .cons r .nil => ⟨[], _, rfl, .nil, r⟩
  | _ :: _, _, _, .cons r rs => by
    obtain ⟨xs', v, rfl, h1, h2⟩ := Rps.snoc_inv rs
    exact ⟨_ :: xs', v, rfl, .cons r h1, h2⟩
theorem nil_or_snoc {α : Type} (l : List α) : l = [] ∨ ∃ l' a, l = l' ++ [a] := by
  rcases List.eq_nil_or_concat l with h | ⟨l', a, h⟩
  · exact .inl h
  · exact .inr ⟨l', a, by rw [h, List.concat_eq_append]⟩
def tsz (ts : List Tr) : Nat := (ts.map fun t => 2 * t.size + 1).sum
theorem tsz_snoc (ts : List Tr) (t : Tr) : tsz (ts ++ [t]) = tsz ts + (2 * t.size + 1) := by
  unfold tsz
  simp
theorem tsz_len : ∀ ts : List Tr, ts.length ≤ tsz ts
  | [] => Nat.le_refl _
  | t :: ts => by
    have := tsz_len ts
    unfold tsz at *
    simp only [List.length_cons, List.map_cons, List.sum_cons]
    omega
def spIsTree (K : PySem.W.Frag) : Sp := fun vs H Q _ => ∃ (v : V) (t : Tr), vs = [v] ∧ Rp K H v t.dt ∧ t.good ∧ t.size ≤ 1000 ∧ ∀ H', Same H H' → Q (.bl true) H'
def spNeedTree (K : PySem.W.Frag) : Sp := fun vs H Q _ => ∃ (v : V) (t : Tr), vs = [v] ∧ Rp K H v t.dt ∧ t.good ∧ t.size ≤ 1000 ∧ ∀ H', Same H H' → Q .non H'
theorem last_of {α : Type} (xs : List α) (v : α) : (xs ++ [v])[(xs ++ [v]).length - 1]? = some v := by
  simp
section
variable {P : Program} {w : World} {K : PySem.W.Frag} {mg : Str → Option Value} {base : Heap} {Z : Wh}
theorem same_at {H H' : Hp} {p : Addr} {o : HO} (h : Same H H') (hp : H p = none) : Same H (upd H' p o) := fun b u e => by
  rw [upd_ne (ne_of_none e hp)]
  exact h b u e
theorem tk_lst {H : Hp} {p : Addr} {xs ys : List V} (h : H p = some (.lst xs)) : Tk H (upd H p (.lst ys)) := fun a zs r => by
  have hne : a ≠ p := by
    rintro rfl
    rcases r with r | ⟨o, r⟩
    · rw [h] at r; cases r
    · rw [h] at r; cases r
  rcases r with r | ⟨o, r⟩
  · exact .inl (by rw [upd_ne hne]; exact r)
  · exact .inr ⟨o, by rw [upd_ne hne]; exact r⟩
theorem node_rp {H : Hp} {v : V} {t : Tr} (h : Rp K H v t.dt) (hn : t.isNil = false) : ∃ a g vl vr l r, t = .node g l r ∧ v = .ref a ∧ SqT K H a [.str g, vl, vr] ∧ Rp K H vl l.dt ∧ Rp K H vr r.dt := by
  cases t with
  | nil => cases hn
  | node g l r =>
    obtain ⟨a, zs, rfl, ea, rz⟩ := h.tup_inv
    cases rz with
    | cons q1 rz =>
      obtain rfl := q1.str_inv
      cases rz with
      | cons q2 rz =>
        cases rz with
        | cons q3 rz =>
          cases rz
          exact ⟨a, g, _, _, l, r, rfl, rfl, ea, q2, q3⟩
theorem ok_is_tree_value (T : Tx w K mg Z) : FnOk P w K mg base CX0 2 (Z.A 4) (Z.D 4) ["thing"] (spIsTree K) := by
  refine T.is_tree_value.F.ok sc_is_tree_value (fun vs H Q E h => ?_) (fun cdv A outer s H vs Q E hr h => ?_)
  · obtain ⟨v, t, rfl, hv, hg, hsz, q⟩ := h
    rfl
  have hu := hu_of hr
  have hu0 := Nat.lt_of_succ_lt hu
  obtain ⟨v, t, rfl, hv, hg, hsz, q⟩ := h
  refine ⟨_, (pss_cons (ps_set (i := 1) sc_is_tree_value.nd rfl (by first | exact Or.inl rfl | exact Or.inr rfl) (pe_lst (pa_cons (pv 0) pa_nil))) (pss_cons (ps_while PassesOwn.never (pt_cmpR (op_neNil hu0) (pv 1) (pe_lst pa_nil) (nomark _)) (pss_cons (ps_set (i := 2) sc_is_tree_value.nd rfl (by first | exact Or.inl rfl | exact Or.inr rfl) (pe_bm0 PySem.F.plainAttrs_list PySem.F.slot_list_pop PySem.F.type_list_pop mt_pop (pv 1))) (pss_cons (ps_if (pt_cmpR op_isN (pv 2) pe_non (nomark _)) (pss_one ps_continue) pss_nil) (pss_cons (ps_if (PW.pt (pw_or (pt_not (pt_val (pe_call (ok_is_tuple T) (hr.mono (by decide)) rfl T.is_tuple.m T.is_tuple.F.kp T.is_tuple.b .nil pass0 (pa_cons (pv 2) (pa_cons pe_int pa_nil))))) (pw_or1 (pt_not (pt_val (pe_call (ok_is_tag_value T) (hr.mono (by decide)) rfl T.is_tag_value.m T.is_tag_value.F.kp T.is_tag_value.b .nil pass0 (pa_cons (pe_ix ix_tup (pv 2) pe_int (fun _ _ => rfl)) pa_nil))))))) (pss_one (ps_ret pe_bl)) pss_nil) (pss_one (ps_expr (pe_bm PySem.F.plainAttrs_list PySem.F.slot_list_extend PySem.F.type_list_extend mt_extendT (pv 1) (pa_cons (pe_slice sl_tupA (pv 2) (po_some pe_int) po_none) pa_nil)))))))) (pss_one (ps_ret pe_bl)))), ?_⟩
  refine ⟨_, rfl, (by show 1 ≤ sizeLine; decide), fun p hp => ?_⟩
  have hin : ∃ (m : Nat) (ts : List Tr) (o : Option V), [some v, some (V.ref p), none] = [some v, some (V.ref p), o] ∧ Same H (upd H p (.lst [v])) ∧ (∃ xs, (upd H p (.lst [v])) p = some (.lst xs) ∧ Rps K (upd H p (.lst [v])) xs (ts.map Tr.dt)) ∧ (∀ t ∈ ts, t.good) ∧ m = tsz ts ∧ m ≤ 2001 :=
    ⟨_, [t], none, rfl, same_new hp, ⟨[v], upd_same, .cons (hv.same (same_new hp)) .nil⟩, by simpa using hg, rfl, by unfold tsz; simp; omega⟩
  refine ⟨fun m σ H' => ∃ (ts : List Tr) (o : Option V), σ = [some v, some (V.ref p), o] ∧ Same H H' ∧ (∃ xs, H' p = some (.lst xs) ∧ Rps K H' xs (ts.map Tr.dt)) ∧ (∀ t ∈ ts, t.good) ∧ m = tsz ts ∧ m ≤ 2001, hin, ?_⟩
  rintro m σ H1 ⟨ts, o, rfl, hs, ⟨xs, hx, rx⟩, hgs, rfl, hm⟩
  refine ⟨_, rfl, (by show 0 ≤ sizeLine; decide), fun r hr1 => ?_⟩
  have hpr : p ≠ r := ne_of_none hx hr1
  have hx1 : (upd H1 r (.lst [])) p = some (.lst xs) := by rw [upd_ne hpr]; exact hx
  refine ⟨_, _, _, rfl, rfl, SqL.of hx1, SqL.of upd_same, _, rfl, ?_⟩
  rcases nil_or_snoc ts with rfl | ⟨ts', t1, rfl⟩
  · cases rx
    exact q _ (hs.trans (same_new hr1))
  · rw [List.map_append] at rx
    obtain ⟨xs', v1, rfl, rx', r1⟩ := rx.snoc_inv
    refine iteC (b := true) (by simp) ?_
    have hm1 := tsz_snoc ts' t1
    refine ⟨fun σ' H' => ∃ m', m' < tsz (ts' ++ [t1]) ∧ ∃ (ts : List Tr) (o : Option V), σ' = [some v, some (V.ref p), o] ∧ Same H H' ∧ (∃ xs, H' p = some (.lst xs) ∧ Rps K H' xs (ts.map Tr.dt)) ∧ (∀ t ∈ ts, t.good) ∧ m' = tsz ts ∧ m' ≤ 2001, fun _ _ h => h, ?_⟩
    refine ⟨_, rfl, .inl ⟨rfl, _, SqL.of hx1⟩, _, _, _, rfl, rfl, hx1, last_of xs' v1, ?_⟩
    have hdl : (xs' ++ [v1]).dropLast = xs' := by simp
    rw [hdl]
    have hpn : H p = none := hp
    have s2 : Same H (upd (upd H1 r (.lst [])) p (.lst xs')) := same_at (hs.trans (same_new hr1)) hpn
    have tk2 : Tk H1 (upd (upd H1 r (.lst [])) p (.lst xs')) := (Same.tk (same_new hr1)).trans (tk_lst hx1)
    have rx2 := rx'.tk tk2
    have r2 := r1.tk tk2
    have hgt : t1.good := hgs t1 (by simp)
    have hgs' : ∀ t ∈ ts', t.good := fun t ht => hgs t (by simp [ht])
    refine ⟨_, rfl, rfl, _, rfl, ?_⟩
    cases t1 with
    | nil =>
      obtain rfl := r1.non_inv
      refine iteC (b := true) (by simp) ?_
      exact ⟨tsz ts', by omega, ts', _, rfl, s2, ⟨xs', upd_same, rx2⟩, hgs', rfl, by omega⟩
    | node g l rr =>
      have r2' := r2
      obtain ⟨a, g, vl, vr, l, rr, et, rfl, ea, q2, q3⟩ := node_rp r2 rfl
      cases et
      refine iteC (b := false) (by simp) ?_
      refine ⟨_, rfl, _, _, _, rfl, r2', _, rfl, ?_⟩
      refine iteC (b := false) (by simp) ?_
      refine ⟨_, rfl, _, _, _, _, rfl, rfl, ea, rfl, _, rfl, hgt.1, fun H3 s3 => ⟨_, rfl, ?_⟩⟩
      refine iteC (b := false) (by simp) ?_
      have ea3 : SqT K H3 a _ := (Same.tk s3).sq ea
      have hx3 : H3 p = some (.lst xs') := s3 _ _ upd_same
      refine ⟨_, rfl, .inl ⟨rfl, _, SqL.of hx3⟩, _, rfl, _, rfl, _, _, rfl, ea3, fun hc => ?_, fun _ t3 ht3 => ?_⟩
      · exact absurd hc.1 (by show ¬ (HT.sIx 3 0 (some 1) = 0); decide)
      have hpt : p ≠ t3 := ne_of_none hx3 ht3
      have hx4 : (upd H3 t3 (.tup (cutV [V.str g, vl, vr] (some 1) none))) p = some (.lst xs') := by rw [upd_ne hpt]; exact hx3
      have hlen : xs'.length = ts'.length := by rw [rx'.len, List.length_map]
      have htl := tsz_len ts'
      have ec : cutV [V.str g, vl, vr] (some 1) none = [vl, vr] := rfl
      have e4 := sqT_new (K := K) (H := H3) (p := t3) (xs := cutV [V.str g, vl, vr] (some 1) none)
      refine ⟨_, _, _, _, rfl, rfl, hx4, e4, ?_, ?_⟩
      · rw [ec, hlen]
        simp only [List.length_cons, List.length_nil]
        exact Nat.le_trans (by omega : _ ≤ 2010) (by decide)
      · rw [ec] at hx4 ⊢
        have tk5 : Tk (upd (upd H1 r (.lst [])) p (.lst xs')) (upd (upd H3 t3 (.tup [vl, vr])) p (.lst (xs' ++ [vl, vr]))) := ((Same.tk s3).trans (Same.tk (same_new ht3))).trans (tk_lst hx4)
        refine ⟨tsz (ts' ++ [l] ++ [rr]), ?_, ts' ++ [l] ++ [rr], _, rfl, same_at ((s2.trans s3).trans (same_new ht3)) hpn, ⟨_, upd_same, ?_⟩, ?_, rfl, ?_⟩
        · rw [tsz_snoc, tsz_snoc, hm1]
          simp only [Tr.size]
          omega
        · rw [List.append_assoc, List.map_append]
          exact (rx2.tk tk5).append (.cons (q2.tk tk5) (.cons (q3.tk tk5) .nil))
        · intro t' ht'
          simp at ht'
          rcases ht' with ht' | rfl | rfl
          · exact hgs' _ ht'
          · exact hgt.2.1
          · exact hgt.2.2
        · rw [tsz_snoc, tsz_snoc]
          simp only [Tr.size] at hm1
          omega
theorem ok_need_tree (T : Tx w K mg Z) : FnOk P w K mg base CX0 3 (Z.A 5) (Z.D 5) ["tree"] (spNeedTree K) := by
  refine T.need_tree.F.ok sc_need_tree (fun vs H Q E h => ?_) (fun cdv A outer s H vs Q E hr h => ?_)
  · obtain ⟨v, t, rfl, hv, hg, hsz, q⟩ := h
    rfl
  have hu := hu_of hr
  have hu0 := Nat.lt_of_succ_lt hu
  obtain ⟨v, t, rfl, hv, hg, hsz, q⟩ := h
  refine ⟨_, (pss_one (ps_if (pt_not (pt_val (pe_call (ok_is_tree_value T) (hr.mono (by decide)) rfl T.is_tree_value.m T.is_tree_value.F.kp T.is_tree_value.b .nil pass0 (pa_cons (pv 0) pa_nil)))) (pss_one ps_never) pss_nil)), ?_⟩
  refine ⟨_, rfl, _, _, rfl, hv, hg, hsz, fun H' hs => ⟨_, rfl, ?_⟩⟩
  refine iteC (b := false) (by simp) ?_
  exact q _ hs
theorem plStr_at {p : List Bool} {i c : Nat} (h : (plStr p).cps[i]? = some c) : ∃ b, p[i]? = some b ∧ c = if b then 114 else 108 := by
  unfold plStr at h
  simp only [List.getElem?_toArray, List.getElem?_map] at h
  cases e : p[i]? with
  | none => rw [e] at h; cases h
  | some b => rw [e] at h; exact ⟨b, rfl, (Option.some.inj h).symm⟩
theorem plStr_size (p : List Bool) : (plStr p).cps.size = p.length := by
  unfold plStr
  simp
theorem sub_take {t : Tr} {p : List Bool} {i : Nat} {b : Bool} (h : p[i]? = some b) : sub (p.take (i + 1)) t = (sub (p.take i) t).kid b := by
  rw [List.take_succ, h]
  exact sub_snoc b _ _
theorem isPl_take : ∀ {p : List Bool} {t : Tr} {i : Nat} {b : Bool}, isPl p t → p[i]? = some b → (sub (p.take i) t).isNil = false
  | c :: p, t, 0, b, h, _ => h.1
  | c :: p, t, i + 1, b, h, e => isPl_take (p := p) (t := t.kid c) (i := i) (b := b) h.2 (by simpa using e)
theorem ok_is_place_of (T : Tx w K mg Z) : FnOk P w K mg base CX0 1 (Z.A 6) (Z.D 6) ["tree", "thing"] (spIsPlaceOf K) := by
  refine T.is_place_of.F.ok sc_is_place_of (fun vs H Q E h => ?_) (fun cdv A outer s H vs Q E hr h => ?_)
  · obtain ⟨v, t, p, rfl, hv, hp, q⟩ := h
    rfl
  have hu := hu_of hr
  have hu0 := Nat.lt_of_succ_lt hu
  obtain ⟨v, t, p, rfl, hv, hp, q⟩ := h
  refine ⟨_, (pss_cons (ps_if (pt_not (pt_val (pe_callB call_isi rfl T.isinstance_ bt_isinstance (pa_cons (pv 1) (pa_cons (pe_bltn (v := .ty "str") rfl T.str_ bt_str rfl) pa_nil))))) (pss_one (ps_ret pe_bl)) pss_nil) (pss_cons (ps_for PassesOwn.never rfl (pi_str (pv 1)) (pg_name (i := 2) sc_is_place_of.nd rfl (by first | exact Or.inl rfl | exact Or.inr rfl)) (pss_cons (ps_if (PW.pt (pw_or (pt_cmpR op_isN (pv 0) pe_non (nomark _)) (pw_or1 (pt_cmpR op_notIn_seq (pv 2) (pe_tup (pa_cons pe_str (pa_cons pe_str pa_nil))) rfl)))) (pss_one (ps_ret pe_bl)) pss_nil) (pss_one (ps_set (i := 0) sc_is_place_of.nd rfl (by first | exact Or.inl rfl | exact Or.inr rfl) (pe_ifExp (pt_cmpR op_eq (pv 2) pe_str (nomark _)) (pe_ix ix_tup (pv 0) pe_int (fun _ _ => rfl)) (pe_ix ix_tup (pv 0) pe_int (fun _ _ => rfl))))))) (pss_one (ps_ret pe_bl)))), ?_⟩
  refine ⟨_, rfl, _, _, _, _, true, rfl, .ty _, tyS, kit_ty (by decide +kernel), _, rfl, ?_⟩
  refine iteC (b := false) (by simp) ?_
  refine ⟨_, rfl, _, rfl, for_it walk_str (fun i σ H' => ∃ v' o, σ = [some v', some (.str (plStr p)), o] ∧ Rp K H' v' (sub (p.take i) t).dt ∧ Same H H') ⟨v, none, rfl, hv, Same.refl _⟩ (fun _ _ _ _ _ => trivial) ?_ ?_⟩
  · rintro i x σ H1 H2 hi ⟨v', o, rfl, hv', hs⟩ ⟨rfl, c, hc, rfl⟩
    obtain ⟨b, hb, rfl⟩ := plStr_at hc
    have hnil := isPl_take hp hb
    obtain ⟨a, g, vl, vr, l, r, et, rfl, ea, rl, rr⟩ := node_rp hv' hnil
    refine ⟨_, rfl, rfl, _, rfl, ?_⟩
    refine iteC (b := false) (by simp) ?_
    refine ⟨_, rfl, (by show 2 ≤ sizeLine; decide), fun q1 hq1 => ?_⟩
    refine ⟨_, _, rfl, .inr sqT_new, rfl, rfl, _, rfl, ?_⟩
    refine iteC (b := false) (by cases b <;> decide +kernel) ?_
    have hs2 : Same H (upd H2 q1 (.tup [.str "l", .str "r"])) := hs.trans (same_new hq1)
    have ea2 := (Same.tk (same_new (o := .tup [.str "l", .str "r"]) hq1)).sq ea
    refine ⟨_, rfl, rfl, _, rfl, ?_⟩
    have ek : sub (p.take (i + 1)) t = if b then r else l := by rw [sub_take hb, et]; rfl
    cases b with
    | false =>
      refine iteC (b := true) (by decide +kernel) ?_
      refine ⟨_, rfl, _, _, _, _, rfl, rfl, ea2, rfl, ?_⟩
      exact ⟨_, _, rfl, by rw [ek]; exact rl.same (same_new hq1), hs2⟩
    | true =>
      refine iteC (b := false) (by decide +kernel) ?_
      refine ⟨_, rfl, _, _, _, _, rfl, rfl, ea2, rfl, ?_⟩
      exact ⟨_, _, rfl, by rw [ek]; exact rr.same (same_new hq1), hs2⟩
  · rintro σ H1 ⟨v', o, rfl, hv', hs⟩
    exact q _ hs
def spSubtree (K : PySem.W.Frag) : Sp := fun vs H Q _ => ∃ (v : V) (t : Tr) (p : List Bool), vs = [v, .str (plStr p)] ∧ Rp K H v t.dt ∧ isPl p t ∧ ∀ v', Rp K H v' (sub p t).dt → Q v' H
theorem ok_subtree (T : Tx w K mg Z) : FnOk P w K mg base CX0 1 (Z.A 25) (Z.D 25) ["tree", "place"] (spSubtree K) := by
  refine T.subtree.F.ok sc_subtree (fun vs H Q E h => ?_) (fun cdv A outer s H vs Q E hr h => ?_)
  · obtain ⟨v, t, p, rfl, hv, hp, q⟩ := h
    rfl
  have hu := hu_of hr
  have hu0 := Nat.lt_of_succ_lt hu
  obtain ⟨v, t, p, rfl, hv, hp, q⟩ := h
  refine ⟨_, (pss_cons (ps_for PassesOwn.never rfl (pi_str (pv 1)) (pg_name (i := 2) sc_subtree.nd rfl (by first | exact Or.inl rfl | exact Or.inr rfl)) (pss_one (ps_set (i := 0) sc_subtree.nd rfl (by first | exact Or.inl rfl | exact Or.inr rfl) (pe_ifExp (pt_cmpR op_eq (pv 2) pe_str (nomark _)) (pe_ix ix_tup (pv 0) pe_int (fun _ _ => rfl)) (pe_ix ix_tup (pv 0) pe_int (fun _ _ => rfl)))))) (pss_one (ps_ret (pv 0)))), ?_⟩
  refine ⟨_, rfl, _, rfl, for_it walk_str (fun i σ H' => ∃ v' o, σ = [some v', some (.str (plStr p)), o] ∧ Rp K H' v' (sub (p.take i) t).dt ∧ H' = H) ⟨v, none, rfl, hv, rfl⟩ (fun _ _ _ _ _ => trivial) ?_ ?_⟩
  · rintro i x σ H1 H2 hi ⟨v', o, rfl, hv', rfl⟩ ⟨rfl, c, hc, rfl⟩
    obtain ⟨b, hb, rfl⟩ := plStr_at hc
    have hnil := isPl_take hp hb
    obtain ⟨a, g, vl, vr, l, r, et, rfl, ea, rl, rr⟩ := node_rp hv' hnil
    refine ⟨_, rfl, rfl, _, rfl, ?_⟩
    have ek : sub (p.take (i + 1)) t = if b then r else l := by rw [sub_take hb, et]; rfl
    cases b with
    | false =>
      refine iteC (b := true) (by decide +kernel) ?_
      refine ⟨_, rfl, _, _, _, _, rfl, rfl, ea, rfl, ?_⟩
      exact ⟨_, _, rfl, by rw [ek]; exact rl, rfl⟩
    | true =>
      refine iteC (b := false) (by decide +kernel) ?_
      refine ⟨_, rfl, _, _, _, _, rfl, rfl, ea, rfl, ?_⟩
      exact ⟨_, _, rfl, by rw [ek]; exact rr, rfl⟩
  · rintro σ H1 ⟨v', o, rfl, hv', rfl⟩
    rw [plStr_size, List.take_length] at hv'
    exact ⟨_, rfl, q _ hv'⟩
end
end Eo
set_option linter.all false
set_option maxRecDepth 100000
set_option maxHeartbeats 4000000
/-! E6: code as data, and the looks at it. -/
namespace Eo
open PySem L2
def Kd.str : Kd → Str
  | .place => "place"
  | .truth => "truth"
def kdDt : Option Kd → Dt
  | none => .non
  | some k => .str k.str
def kdV : Option Kd → V
  | none => .non
  | some k => .str k.str
def klDt (l : KL) : Dt := .tup (l.map kdDt)
def iD (n : Nat) : Dt := .int (n : Int)
/-- the items of a row: the shape, the item, the registers that are read in it -/
def Row.parts : Row → List (Str × Dt × List Nat)
  | .top d => [("set", iD d, [])]
  | .move d s => [("set", iD d, []), ("read", iD s, [s])]
  | .left d s => [("set", iD d, []), ("read", iD s, [s])]
  | .right d s => [("set", iD d, []), ("read", iD s, [s])]
  | .up d s => [("set", iD d, []), ("read", iD s, [s])]
  | .yes d => [("set", iD d, [])]
  | .no d => [("set", iD d, [])]
  | .has d s g => [("set", iD d, []), ("read", iD s, [s]), ("tag", .str g, [])]
  | .empty d s => [("set", iD d, []), ("read", iD s, [s])]
  | .same d s u => [("set", iD d, []), ("read", iD s, [s]), ("read", iD u, [u])]
  | .not d s => [("set", iD d, []), ("read", iD s, [s])]
  | .skip k => [("row", iD k, [])]
  | .unl s k => [("read", iD s, [s]), ("row", iD k, [])]
  | .call d f as => [("set", iD d, []), ("function", iD f, []), ("args", natsDt as, as)]
  | .give s => [("read", iD s, [s])]
def Row.word : Row → Str
  | .top _ => "top" | .move _ _ => "move" | .left _ _ => "left" | .right _ _ => "right" | .up _ _ => "up"
  | .yes _ => "yes" | .no _ => "no" | .has _ _ _ => "has" | .empty _ _ => "empty" | .same _ _ _ => "same" | .not _ _ => "not"
  | .skip _ => "skip" | .unl _ _ => "unless" | .call _ _ _ => "call" | .give _ => "give"
def Row.items (r : Row) : List Dt := r.parts.map (·.2.1)
def Row.shapes (r : Row) : List Str := r.parts.map (·.1)
def Row.dt (r : Row) : Dt := .tup (.str r.word :: r.items)
def RowGood : Row → Prop
  | .has _ _ g => GoodTag g
  | .call _ _ as => as.length ≤ 1000
  | _ => True
def Fn.dt (f : Fn) : Dt := .tup [.str f.kind.str, iD f.many, iD f.regs, .tup (f.rows.map Row.dt)]
def codeDt (c : Code) : Dt := .tup (c.map Fn.dt)
theorem reads_parts (r : Row) : (r.parts.map (·.2.2)).flatten = r.reads := by
  cases r <;> simp [Row.parts, Row.reads]
theorem row_sh (r : Row) : (r.word, r.shapes) ∈ SH := by
  cases r <;> simp [Row.word, Row.shapes, Row.parts, SH]
def POk (p : Str × Dt × List Nat) : Prop :=
  (p.1 = "read" ∧ ∃ n : Nat, p.2.1 = iD n ∧ p.2.2 = [n]) ∨ (p.1 = "args" ∧ ∃ as, p.2.1 = natsDt as ∧ p.2.2 = as ∧ as.length ≤ 1000) ∨
  (p.1 = "tag" ∧ ∃ g, p.2.1 = .str g ∧ GoodTag g ∧ p.2.2 = []) ∨ ((p.1 = "set" ∨ p.1 = "row" ∨ p.1 = "function") ∧ ∃ n : Nat, p.2.1 = iD n ∧ p.2.2 = [])
theorem parts_ok {r : Row} (h : RowGood r) : ∀ p ∈ r.parts, POk p := by
  intro p hp
  cases r <;> simp only [Row.parts, List.mem_cons, List.not_mem_nil, or_false] at hp
  case has d s g =>
    rcases hp with rfl | rfl | rfl
    · exact .inr (.inr (.inr ⟨.inl rfl, _, rfl, rfl⟩))
    · exact .inl ⟨rfl, _, rfl, rfl⟩
    · exact .inr (.inr (.inl ⟨rfl, _, rfl, h, rfl⟩))
  case call d f as =>
    rcases hp with rfl | rfl | rfl
    · exact .inr (.inr (.inr ⟨.inl rfl, _, rfl, rfl⟩))
    · exact .inr (.inr (.inr ⟨.inr (.inr rfl), _, rfl, rfl⟩))
    · exact .inr (.inl ⟨rfl, _, rfl, rfl, h⟩)
  case same d s u =>
    rcases hp with rfl | rfl | rfl
    · exact .inr (.inr (.inr ⟨.inl rfl, _, rfl, rfl⟩))
    · exact .inl ⟨rfl, _, rfl, rfl⟩
    · exact .inl ⟨rfl, _, rfl, rfl⟩
  case unl s k =>
    rcases hp with rfl | rfl
    · exact .inl ⟨rfl, _, rfl, rfl⟩
    · exact .inr (.inr (.inr ⟨.inr (.inl rfl), _, rfl, rfl⟩))
  case skip k =>
    subst hp
    exact .inr (.inr (.inr ⟨.inr (.inl rfl), _, rfl, rfl⟩))
  case give s =>
    subst hp
    exact .inl ⟨rfl, _, rfl, rfl⟩
  case top d =>
    subst hp
    exact .inr (.inr (.inr ⟨.inl rfl, _, rfl, rfl⟩))
  case yes d =>
    subst hp
    exact .inr (.inr (.inr ⟨.inl rfl, _, rfl, rfl⟩))
  case no d =>
    subst hp
    exact .inr (.inr (.inr ⟨.inl rfl, _, rfl, rfl⟩))
  all_goals
    rcases hp with rfl | rfl
    · exact .inr (.inr (.inr ⟨.inl rfl, _, rfl, rfl⟩))
    · exact .inl ⟨rfl, _, rfl, rfl⟩
theorem parts_len (r : Row) : 1 ≤ r.parts.length ∧ r.parts.length ≤ 3 := by
  cases r <;> simp [Row.parts]
def PartOk (sh : Str) (d : Dt) : Prop :=
  (sh = "tag" ∧ ∃ g, d = .str g ∧ GoodTag g) ∨ (sh = "args" ∧ ∃ as, d = natsDt as ∧ as.length ≤ 1000) ∨ (sh ≠ "tag" ∧ sh ≠ "args" ∧ ∃ n : Nat, d = iD n)
theorem POk.part {p : Str × Dt × List Nat} (h : POk p) : PartOk p.1 p.2.1 := by
  rcases h with ⟨e, n, q, _⟩ | ⟨e, as, q, _, l⟩ | ⟨e, g, q, t, _⟩ | ⟨e, n, q, _⟩
  · exact .inr (.inr ⟨by rw [e]; decide +kernel, by rw [e]; decide +kernel, n, q⟩)
  · exact .inr (.inl ⟨e, as, q, l⟩)
  · exact .inl ⟨e, g, q, t⟩
  · refine .inr (.inr ⟨?_, ?_, n, q⟩) <;> rcases e with e | e | e <;> rw [e] <;> decide +kernel
def spAreCells (K : PySem.W.Frag) : Sp := fun vs H Q _ => ∃ (v : V) (as : List Nat), vs = [v] ∧ Rp K H v (natsDt as) ∧ as.length ≤ 1000 ∧ ∀ H', Same H H' → Q (.bl true) H'
def spIsPart (K : PySem.W.Frag) : Sp := fun vs H Q _ => ∃ (sh : Str) (v : V) (d : Dt), vs = [.str sh, v] ∧ Rp K H v d ∧ PartOk sh d ∧ ∀ H', Same H H' → Q (.bl true) H'
def spIsRow (K : PySem.W.Frag) : Sp := fun vs H Q _ => ∃ (v : V) (r : Row), vs = [v] ∧ Rp K H v r.dt ∧ RowGood r ∧ ∀ H', Same H H' → Q (.bl true) H'
structure FnGood (f : Fn) : Prop where
  le : f.many ≤ f.regs
  regs : f.regs ≤ 1000
  len : f.rows.length ≤ 1000
  rows : ∀ r ∈ f.rows, RowGood r
def spIsFn (K : PySem.W.Frag) : Sp := fun vs H Q _ => ∃ (v : V) (f : Fn), vs = [v] ∧ Rp K H v f.dt ∧ FnGood f ∧ ∀ H', Same H H' → Q (.bl true) H'
def spIsCode (K : PySem.W.Frag) : Sp := fun vs H Q _ => ∃ (v : V) (c : Code), vs = [v] ∧ Rp K H v (codeDt c) ∧ (∀ f ∈ c, FnGood f) ∧ c.length ≤ 1000 ∧ ∀ H', Same H H' → Q (.bl true) H'
theorem at0 {x : V} {xs : List V} : atI (x :: xs) 0 = some x := atI_nat (j := 0) rfl
theorem sl1 {xs : List V} (h : 1 ≤ xs.length) : cutV xs (some 1) none = xs.drop 1 := cut_from xs 1
section
variable {P : Program} {w : World} {K : PySem.W.Frag} {mg : Str → Option Value} {base : Heap} {Z : Wh}
theorem same_tup {H : Hp} {T : Addr} {xs : List V} (h : H T = none) : Same H (upd H T (.tup xs)) := same_new h
theorem ok_are_cells (T : Tx w K mg Z) : FnOk P w K mg base CX0 3 (Z.A 7) (Z.D 7) ["thing"] (spAreCells K) := by
  refine T.are_cells.F.ok sc_are_cells (fun vs H Q E h => ?_) (fun cdv A outer s H vs Q E hr h => ?_)
  · obtain ⟨v, as, rfl, hv, hl, q⟩ := h
    rfl
  have hu := hu_of hr
  have hu0 := Nat.lt_of_succ_lt hu
  obtain ⟨v, as, rfl, hv, hl, q⟩ := h
  obtain ⟨a, xs, rfl, ea, rx⟩ := hv.tup_inv
  refine ⟨_, (pss_one (ps_ret (pe_and (pe_callB call_isi rfl T.isinstance_ bt_isinstance (pa_cons (pv 0) (pa_cons (pe_bltn (v := .ty "tuple") rfl T.tuple_ bt_tuple rfl) pa_nil))) (pe_one (pe_callB (cr_all rfl) rfl T.all_ bt_all (pa_cons (pe_lc (own := [("item", 1)]) (g := gName 1) (tt := tYes) rfl sc_are_cells.nd (pi_tup (pv 0)) (blkOk_by (own := [("item", 1)]) (N := N_are_cells) (sc := defScope s_are_cells) (by decide +kernel)) (fun _ _ _ _ _ => (pg_name (i := 1) sc_are_cells.nd rfl (by first | exact Or.inl rfl | exact Or.inr rfl))) (fun _ _ _ _ _ => pts_nil) (fun _ _ _ _ _ => (pe_call (ok_is_from T) (hr.mono (by decide)) rfl T.is_from.m T.is_from.F.kp T.is_from.b .nil pass0 (pa_cons (pv 1) (pa_cons pe_int pa_nil))))) pa_nil)))))), ?_⟩
  refine ⟨_, rfl, _, _, _, _, true, rfl, .ty _, tyT ea, kit_ty (by decide +kernel), _, rfl, ?_⟩
  have hlen : xs.length = as.length := by rw [rx.len, List.length_map]
  refine ⟨_, rfl, a, rfl, ⟨_, ea⟩, fun D hD => lc_pure walk_tup (fun _ y => y = .bl true) (by omega) hD (fun H1 s1 => (Same.tk s1).sq ea) ?_ ?_ gName_mono⟩
  · rintro i x H1 H2 hi hs ⟨rfl, hx⟩
    obtain ⟨d, hd, rd⟩ := rx.at_ hx
    rw [List.getElem?_map] at hd
    cases en : as[i]? with
    | none => rw [en] at hd; cases hd
    | some n =>
      rw [en] at hd
      cases hd
      obtain rfl := rd.int_inv
      refine ⟨rfl, fun Q' q' => ⟨_, rfl, _, _, rfl, ?_⟩⟩
      rw [decide_eq_true (by omega)]
      exact q' _ _ (Same.refl _) rfl
  · intro H1 ys hs e hly hy
    refine ⟨_, _, rfl, upd_all e hly hy, ?_⟩
    rw [all_rep]
    exact q _ hs
theorem ok_is_part_of (T : Tx w K mg Z) : FnOk P w K mg base CX0 4 (Z.A 8) (Z.D 8) ["shape", "thing"] (spIsPart K) := by
  refine T.is_part_of.F.ok sc_is_part_of (fun vs H Q E h => ?_) (fun cdv A outer s H vs Q E hr h => ?_)
  · obtain ⟨sh, v, d, rfl, hv, hp, q⟩ := h
    rfl
  have hu := hu_of hr
  have hu0 := Nat.lt_of_succ_lt hu
  obtain ⟨sh, v, d, rfl, hv, hp, q⟩ := h
  refine ⟨_, (pss_cons (ps_if (pt_cmpR op_eq (pv 0) pe_str (nomark _)) (pss_one (ps_ret (pe_call (ok_is_tag_value T) (hr.mono (by decide)) rfl T.is_tag_value.m T.is_tag_value.F.kp T.is_tag_value.b .nil pass0 (pa_cons (pv 1) pa_nil)))) pss_nil) (pss_one (ps_ret (pe_ifExp (pt_cmpR op_eq (pv 0) pe_str (nomark _)) (pe_call (ok_are_cells T) (hr.mono (by decide)) rfl T.are_cells.m T.are_cells.F.kp T.are_cells.b .nil pass0 (pa_cons (pv 1) pa_nil)) (pe_call (ok_is_from T) (hr.mono (by decide)) rfl T.is_from.m T.is_from.F.kp T.is_from.b .nil pass0 (pa_cons (pv 1) (pa_cons pe_int pa_nil))))))), ?_⟩
  refine ⟨_, rfl, rfl, _, rfl, ?_⟩
  rcases hp with ⟨rfl, g, rfl, hg⟩ | ⟨rfl, as, rfl, hl⟩ | ⟨h1, h2, n, rfl⟩
  · refine iteC (b := true) (by simp) ?_
    obtain rfl := hv.str_inv
    exact ⟨_, rfl, _, rfl, hg, q⟩
  · refine iteC (b := false) (by decide +kernel) ?_
    refine ⟨_, rfl, rfl, _, rfl, ?_⟩
    refine iteC (b := true) (by simp) ?_
    exact ⟨_, rfl, _, _, rfl, hv, hl, q⟩
  · refine iteC (b := false) (by simpa using h1) ?_
    refine ⟨_, rfl, rfl, _, rfl, ?_⟩
    refine iteC (b := false) (by simpa using h2) ?_
    obtain rfl := hv.int_inv
    refine ⟨_, rfl, _, _, rfl, ?_⟩
    rw [decide_eq_true (by omega)]
    exact q _ (Same.refl _)
theorem shp_at (T : Tx w K mg Z) (r : Row) : ∃ a, PySem.W.nsIn K (Z.A 95) r.word = some (some (.ref a)) ∧ ∀ H, SqT K H a (r.shapes.map V.str) := T.shp (r.word, r.shapes) (row_sh r)
theorem row_rp {H : Hp} {v : V} {r : Row} (h : Rp K H v r.dt) : ∃ a xs, v = .ref a ∧ SqT K H a (.str r.word :: xs) ∧ Rps K H xs r.items := by
  obtain ⟨a, xs, rfl, ea, rx⟩ := h.tup_inv
  cases rx with
  | cons q1 rx =>
    obtain rfl := q1.str_inv
    exact ⟨a, _, rfl, ea, rx⟩
theorem part_at {r : Row} {H : Hp} {xs : List V} {i : Nat} {x y : V} (rx : Rps K H xs r.items) (hx : (r.shapes.map V.str)[i]? = some x) (hy : xs[i]? = some y) : ∃ p, r.parts[i]? = some p ∧ p ∈ r.parts ∧ x = .str p.1 ∧ Rp K H y p.2.1 := by
  obtain ⟨d, hd, rd⟩ := rx.at_ hy
  unfold Row.items at hd
  unfold Row.shapes at hx
  rw [List.map_map, List.getElem?_map] at hx
  rw [List.getElem?_map] at hd
  cases e : r.parts[i]? with
  | none => rw [e] at hd; cases hd
  | some p =>
    rw [e] at hd hx
    cases hd
    cases hx
    exact ⟨p, rfl, List.mem_of_getElem? e, rfl, rd⟩
theorem ok_is_row_value (T : Tx w K mg Z) : FnOk P w K mg base CX0 5 (Z.A 9) (Z.D 9) ["thing"] (spIsRow K) := by
  refine T.is_row_value.F.ok sc_is_row_value (fun vs H Q E h => ?_) (fun cdv A outer s H vs Q E hr h => ?_)
  · obtain ⟨v, r, rfl, hv, hg, q⟩ := h
    rfl
  have hu := hu_of hr
  have hu0 := Nat.lt_of_succ_lt hu
  obtain ⟨v, r, rfl, hv, hg, q⟩ := h
  obtain ⟨a, xs, rfl, ea, rx⟩ := row_rp hv
  obtain ⟨sa, hns, hsq⟩ := shp_at T r
  have hl1 : xs.length = r.parts.length := by rw [rx.len]; exact List.length_map _
  have hpl := parts_len r
  refine ⟨_, (pss_cons (ps_if (PW.pt (pw_or (pt_not (pt_val (pe_callB call_isi rfl T.isinstance_ bt_isinstance (pa_cons (pv 0) (pa_cons (pe_bltn (v := .ty "tuple") rfl T.tuple_ bt_tuple rfl) pa_nil))))) (pw_or (pt_cmpR (op_eqNilT hu0) (pv 0) (pe_tup pa_nil) (nomark _)) (pw_or (pt_not (pt_val (pe_callB call_isi rfl T.isinstance_ bt_isinstance (pa_cons (pe_ix ix_tup (pv 0) pe_int (fun _ _ => rfl)) (pa_cons (pe_bltn (v := .ty "str") rfl T.str_ bt_str rfl) pa_nil))))) (pw_or1 (pt_cmpR (op_notIn_kd T.SHAPES_kd) (pe_ix ix_tup (pv 0) pe_int (fun _ _ => rfl)) (pe_glob rfl T.m_SHAPES T.r_SHAPES) rfl)))))) (pss_one (ps_ret pe_bl)) pss_nil) (pss_cons (ps_set (i := 1) sc_is_row_value.nd rfl (by first | exact Or.inl rfl | exact Or.inr rfl) (pe_ix (ix_kd T.SHAPES_kd) (pe_glob rfl T.m_SHAPES T.r_SHAPES) (pe_ix ix_tup (pv 0) pe_int (fun _ _ => rfl)) (fun _ _ => rfl))) (pss_one (ps_ret (pe_and (pe_cmpR op_eq (pe_callB call_len rfl T.len_ bt_len (pa_cons (pv 0) pa_nil)) (pe_op op_add (pe_callB call_len rfl T.len_ bt_len (pa_cons (pv 1) pa_nil)) pe_int) (nomark _)) (pe_one (pe_callB (cr_all rfl) rfl T.all_ bt_all (pa_cons (pe_lc (own := [("shape", 2), ("part", 3)]) (g := gTup K 2 (gCons (gName 2) (gCons (gName 3) gNil))) (tt := tYes) rfl sc_is_row_value.nd (RZ.pi_zipA rfl T.zip_ (pa_cons (pv 1) (pa_cons (pe_slice sl_tupS (pv 0) (po_some pe_int) po_none) pa_nil))) (blkOk_by (own := [("shape", 2), ("part", 3)]) (N := N_is_row_value) (sc := defScope s_is_row_value) (by decide +kernel)) (fun _ _ _ _ _ => (pg_tup rfl (pgs_cons (pg_name (i := 2) sc_is_row_value.nd rfl (by first | exact Or.inl rfl | exact Or.inr rfl)) (pgs_cons (pg_name (i := 3) sc_is_row_value.nd rfl (by first | exact Or.inl rfl | exact Or.inr rfl)) pgs_nil)))) (fun _ _ _ _ _ => pts_nil) (fun _ _ _ _ _ => (pe_call (ok_is_part_of T) (hr.mono (by decide)) rfl T.is_part_of.m T.is_part_of.F.kp T.is_part_of.b .nil pass0 (pa_cons (pv 2) (pa_cons (pv 3) pa_nil))))) pa_nil)))))))), ?_⟩
  refine ⟨_, rfl, _, _, _, _, true, rfl, .ty _, tyT ea, kit_ty (by decide +kernel), _, rfl, ?_⟩
  refine iteC (b := false) (by simp) ?_
  refine ⟨_, rfl, (by show 0 ≤ sizeLine; decide), fun t0 ht0 => ?_⟩
  have ea1 := (Same.tk (same_tup (xs := []) ht0)).sq ea
  refine ⟨_, _, _, rfl, rfl, ea1, sqT_new, _, rfl, ?_⟩
  refine iteC (b := false) (by simp) ?_
  refine ⟨_, rfl, _, _, _, _, rfl, rfl, ea1, at0, _, _, _, _, true, rfl, .ty _, tyS, kit_ty (by decide +kernel), _, rfl, ?_⟩
  refine iteC (b := false) (by simp) ?_
  refine ⟨_, rfl, _, _, _, _, rfl, rfl, ea1, at0, _, _, rfl, rfl, hns, _, rfl, ?_⟩
  refine iteC (b := false) (by simp) ?_
  refine ⟨_, rfl, _, _, _, _, rfl, rfl, ea1, at0, _, _, .ref sa, rfl, rfl, hns, rfl, ?_⟩
  refine ⟨_, rfl, _, _, rfl, .inr ⟨_, ea1, rfl⟩, _, rfl, _, _, rfl, .inr ⟨_, hsq _, rfl⟩, _, _, rfl, rfl, rfl, _, rfl, ?_⟩
  refine iteC (b := true) (by simp [Row.shapes, hl1]) ?_
  refine ⟨_, rfl, _, rfl, _, rfl, _, _, rfl, ea1, fun p2 H2 s2 e2 => ?_⟩
  have ec : cutV (V.str r.word :: xs) (some 1) none = xs := cut_from _ 1
  rw [ec] at e2
  have sH2 : Same H H2 := (same_tup ht0).trans s2
  have hmin : r.parts.length = min (r.shapes.map V.str).length xs.length := by simp [Row.shapes, hl1]
  refine ⟨_, _, _, _, rfl, .inr ⟨hsq _, e2, fun D hD => lc_pure (walk_zipT hmin) (fun _ y => y = .bl true) (by omega) hD (fun H1 s1 => ⟨hsq _, (Same.tk s1).sq e2⟩) ?_ ?_ gPair_mono⟩⟩
  · rintro i x H3 H4 hi hs ⟨t3, y1, y2, rfl, ht3, rfl, hy1, hy2⟩
    refine pair_go ⟨rfl, fun Q' q' => ?_⟩
    obtain ⟨p, _, hp, rfl, rd⟩ := part_at rx hy1 hy2
    have rd4 := rd.same (sH2.trans hs)
    refine ⟨_, rfl, _, rfl, _, _, _, rfl, rd4.same (same_tup ht3), (parts_ok hg p hp).part, fun H5 s5 => ?_⟩
    exact q' _ _ ((same_tup ht3).trans s5) rfl
  · intro H1 ys hs e hly hy
    refine ⟨_, _, rfl, upd_all e hly hy, ?_⟩
    rw [all_rep]
    exact q _ (sH2.trans hs)
theorem fn_rp {H : Hp} {v : V} {f : Fn} (h : Rp K H v f.dt) : ∃ a b xs, v = .ref a ∧ SqT K H a [.str f.kind.str, .int f.many, .int f.regs, .ref b] ∧ SqT K H b xs ∧ Rps K H xs (f.rows.map Row.dt) := by
  obtain ⟨a, xs, rfl, ea, rx⟩ := h.tup_inv
  cases rx with
  | cons q1 rx =>
    obtain rfl := q1.str_inv
    cases rx with
    | cons q2 rx =>
      obtain rfl := q2.int_inv
      cases rx with
      | cons q3 rx =>
        obtain rfl := q3.int_inv
        cases rx with
        | cons q4 rx =>
          cases rx
          obtain ⟨b, ys, rfl, eb, ry⟩ := q4.tup_inv
          exact ⟨a, b, ys, rfl, ea, eb, ry⟩
theorem at_map {α : Type} {f : α → Dt} {l : List α} {H : Hp} {xs : List V} {i : Nat} {x : V} (r : Rps K H xs (l.map f)) (hx : xs[i]? = some x) : ∃ a, l[i]? = some a ∧ a ∈ l ∧ Rp K H x (f a) := by
  obtain ⟨d, hd, rd⟩ := r.at_ hx
  rw [List.getElem?_map] at hd
  cases e : l[i]? with
  | none => rw [e] at hd; cases hd
  | some a =>
    rw [e] at hd
    cases hd
    exact ⟨a, rfl, List.mem_of_getElem? e, rd⟩
theorem get_map {α : Type} {f : α → Dt} {l : List α} {H : Hp} {xs : List V} {i : Nat} {a : α} (r : Rps K H xs (l.map f)) (ha : l[i]? = some a) : ∃ x, xs[i]? = some x ∧ Rp K H x (f a) :=
  r.get (by rw [List.getElem?_map, ha]; rfl)
theorem ok_is_code_function (T : Tx w K mg Z) : FnOk P w K mg base CX0 6 (Z.A 10) (Z.D 10) ["thing"] (spIsFn K) := by
  refine T.is_code_function.F.ok sc_is_code_function (fun vs H Q E h => ?_) (fun cdv A outer s H vs Q E hr h => ?_)
  · obtain ⟨v, f, rfl, hv, hg, q⟩ := h
    rfl
  have hu := hu_of hr
  have hu0 := Nat.lt_of_succ_lt hu
  obtain ⟨v, f, rfl, hv, hg, q⟩ := h
  obtain ⟨a, b, xs, rfl, ea, eb, rx⟩ := fn_rp hv
  have hle := hg.le
  have hlen : xs.length = f.rows.length := by rw [rx.len, List.length_map]
  have hl := hg.len
  refine ⟨_, (pss_cons (ps_if (PW.pt (pw_or (pt_not (pt_val (pe_call (ok_is_tuple T) (hr.mono (by decide)) rfl T.is_tuple.m T.is_tuple.F.kp T.is_tuple.b .nil pass0 (pa_cons (pv 0) (pa_cons pe_int pa_nil))))) (pw_or (pt_not (pt_val (pe_callB call_isi rfl T.isinstance_ bt_isinstance (pa_cons (pe_ix ix_tup (pv 0) pe_int (fun _ _ => rfl)) (pa_cons (pe_bltn (v := .ty "str") rfl T.str_ bt_str rfl) pa_nil))))) (pw_or1 (pt_cmpR op_notIn_seq (pe_ix ix_tup (pv 0) pe_int (fun _ _ => rfl)) (pe_glob rfl T.m_KINDS T.r_KINDS) rfl))))) (pss_one (ps_ret pe_bl)) pss_nil) (pss_cons (ps_if (PW.pt (pw_or (pt_not (pt_val (pe_call (ok_is_from T) (hr.mono (by decide)) rfl T.is_from.m T.is_from.F.kp T.is_from.b .nil pass0 (pa_cons (pe_ix ix_tup (pv 0) pe_int (fun _ _ => rfl)) (pa_cons pe_int pa_nil))))) (pw_or1 (pt_not (pt_val (pe_call (ok_is_from T) (hr.mono (by decide)) rfl T.is_from.m T.is_from.F.kp T.is_from.b .nil pass0 (pa_cons (pe_ix ix_tup (pv 0) pe_int (fun _ _ => rfl)) (pa_cons (pe_ix ix_tup (pv 0) pe_int (fun _ _ => rfl)) pa_nil)))))))) (pss_one (ps_ret pe_bl)) pss_nil) (pss_one (ps_ret (pe_and (pe_callB call_isi rfl T.isinstance_ bt_isinstance (pa_cons (pe_ix ix_tup (pv 0) pe_int (fun _ _ => rfl)) (pa_cons (pe_bltn (v := .ty "tuple") rfl T.tuple_ bt_tuple rfl) pa_nil))) (pe_one (pe_callB (cr_all rfl) rfl T.all_ bt_all (pa_cons (pe_lc (own := [("row", 1)]) (g := gName 1) (tt := tYes) rfl sc_is_code_function.nd (pi_tup (pe_ix ix_tup (pv 0) pe_int (fun _ _ => rfl))) (blkOk_by (own := [("row", 1)]) (N := N_is_code_function) (sc := defScope s_is_code_function) (by decide +kernel)) (fun _ _ _ _ _ => (pg_name (i := 1) sc_is_code_function.nd rfl (by first | exact Or.inl rfl | exact Or.inr rfl))) (fun _ _ _ _ _ => pts_nil) (fun _ _ _ _ _ => (pe_call (ok_is_row_value T) (hr.mono (by decide)) rfl T.is_row_value.m T.is_row_value.F.kp T.is_row_value.b .nil pass0 (pa_cons (pv 1) pa_nil)))) pa_nil)))))))), ?_⟩
  refine ⟨_, rfl, _, _, _, rfl, hv, _, rfl, ?_⟩
  refine iteC (b := false) (by simp) ?_
  refine ⟨_, rfl, _, _, _, _, rfl, rfl, ea, rfl, _, _, _, _, true, rfl, .ty _, tyS, kit_ty (by decide +kernel), _, rfl, ?_⟩
  refine iteC (b := false) (by simp) ?_
  refine ⟨_, rfl, _, _, _, _, rfl, rfl, ea, rfl, _, _, rfl, .inr (T.t_KINDS _), rfl, rfl, _, rfl, ?_⟩
  refine iteC (b := false) (by cases f.kind <;> decide +kernel) ?_
  refine ⟨_, rfl, _, _, _, _, rfl, rfl, ea, rfl, _, _, rfl, _, rfl, ?_⟩
  refine iteC (b := false) (by simp) ?_
  refine ⟨_, rfl, _, _, _, _, rfl, rfl, ea, rfl, _, rfl, _, _, _, _, rfl, rfl, ea, rfl, _, _, rfl, _, rfl, ?_⟩
  refine iteC (b := false) (by simp; omega) ?_
  refine ⟨_, rfl, _, _, _, _, rfl, rfl, ea, rfl, _, _, _, _, true, rfl, .ty _, tyT eb, kit_ty (by decide +kernel), _, rfl, ?_⟩
  refine iteC (b := true) (by simp) ?_
  refine ⟨_, rfl, _, _, _, _, rfl, rfl, ea, rfl, b, rfl, ⟨_, eb⟩, fun D hD => lc_pure walk_tup (fun _ y => y = .bl true) (by omega) hD (fun H1 s1 => (Same.tk s1).sq eb) ?_ ?_ gName_mono⟩
  · rintro i x H1 H2 hi hs ⟨rfl, hx⟩
    obtain ⟨r, _, hr1, rd⟩ := at_map rx hx
    refine ⟨rfl, fun Q' q' => ⟨_, rfl, _, _, rfl, rd.same hs, hg.rows r hr1, fun H3 s3 => ?_⟩⟩
    exact q' _ _ s3 rfl
  · intro H1 ys hs e hly hy
    refine ⟨_, _, rfl, upd_all e hly hy, ?_⟩
    rw [all_rep]
    exact q _ hs
theorem ok_is_code_value (T : Tx w K mg Z) : FnOk P w K mg base CX0 7 (Z.A 11) (Z.D 11) ["thing"] (spIsCode K) := by
  refine T.is_code_value.F.ok sc_is_code_value (fun vs H Q E h => ?_) (fun cdv A outer s H vs Q E hr h => ?_)
  · obtain ⟨v, c, rfl, hv, hg, hl, q⟩ := h
    rfl
  have hu := hu_of hr
  have hu0 := Nat.lt_of_succ_lt hu
  obtain ⟨v, c, rfl, hv, hg, hl, q⟩ := h
  obtain ⟨a, xs, rfl, ea, rx⟩ := hv.tup_inv
  have hlen : xs.length = c.length := by rw [rx.len, List.length_map]
  refine ⟨_, (pss_one (ps_ret (pe_and (pe_callB call_isi rfl T.isinstance_ bt_isinstance (pa_cons (pv 0) (pa_cons (pe_bltn (v := .ty "tuple") rfl T.tuple_ bt_tuple rfl) pa_nil))) (pe_one (pe_callB (cr_all rfl) rfl T.all_ bt_all (pa_cons (pe_lc (own := [("function", 1)]) (g := gName 1) (tt := tYes) rfl sc_is_code_value.nd (pi_tup (pv 0)) (blkOk_by (own := [("function", 1)]) (N := N_is_code_value) (sc := defScope s_is_code_value) (by decide +kernel)) (fun _ _ _ _ _ => (pg_name (i := 1) sc_is_code_value.nd rfl (by first | exact Or.inl rfl | exact Or.inr rfl))) (fun _ _ _ _ _ => pts_nil) (fun _ _ _ _ _ => (pe_call (ok_is_code_function T) (hr.mono (by decide)) rfl T.is_code_function.m T.is_code_function.F.kp T.is_code_function.b .nil pass0 (pa_cons (pv 1) pa_nil)))) pa_nil)))))), ?_⟩
  refine ⟨_, rfl, _, _, _, _, true, rfl, .ty _, tyT ea, kit_ty (by decide +kernel), _, rfl, ?_⟩
  refine iteC (b := true) (by simp) ?_
  refine ⟨_, rfl, a, rfl, ⟨_, ea⟩, fun D hD => lc_pure walk_tup (fun _ y => y = .bl true) (by omega) hD (fun H1 s1 => (Same.tk s1).sq ea) ?_ ?_ gName_mono⟩
  · rintro i x H1 H2 hi hs ⟨rfl, hx⟩
    obtain ⟨f, _, hf, rd⟩ := at_map rx hx
    refine ⟨rfl, fun Q' q' => ⟨_, rfl, _, _, rfl, rd.same hs, hg f hf, fun H3 s3 => ?_⟩⟩
    exact q' _ _ s3 rfl
  · intro H1 ys hs e hly hy
    refine ⟨_, _, rfl, upd_all e hly hy, ?_⟩
    rw [all_rep]
    exact q _ hs
end
end Eo
set_option linter.all false
set_option maxRecDepth 100000
set_option maxHeartbeats 4000000
/-! E7: rows judged. -/
namespace Eo
open PySem L2
def natsV (ns : List Nat) : List V := ns.map fun (n : Nat) => V.int (n : Int)
def spCellsRead (K : PySem.W.Frag) : Sp := fun vs H Q _ => ∃ (v : V) (r : Row), vs = [v] ∧ Rp K H v r.dt ∧ RowGood r ∧ ∀ p H', Same H H' → SqT K H' p (natsV r.reads) → Q (.ref p) H'
def optI : Option Nat → V
  | none => .non
  | some n => .int (n : Int)
def spCellSet (K : PySem.W.Frag) : Sp := fun vs H Q _ => ∃ (v : V) (r : Row), vs = [v] ∧ Rp K H v r.dt ∧ Q (optI r.sets) H
def spRowsAfter (K : PySem.W.Frag) : Sp := fun vs H Q _ => ∃ (v : V) (r : Row) (i : Nat), vs = [v, .int i] ∧ Rp K H v r.dt ∧ ∀ p H', Same H H' → H p = none → H' p = some (.lst (natsV (r.succs i))) → Q (.ref p) H'
def spKindSet (K : PySem.W.Frag) : Sp := fun vs H Q _ => ∃ (vc v vk : V) (c : Code) (r : Row) (l : KL), vs = [vc, v, vk] ∧ Rp K H vc (codeDt c) ∧ Rp K H v r.dt ∧ Rp K H vk (klDt l) ∧
  (∀ d s, r = .move d s → s < l.length) ∧ (∀ d f as, r = .call d f as → f < c.length) ∧ Q (kdV (kindSet (heads c) (kf l) r)) H
def spKindsAfter (K : PySem.W.Frag) : Sp := fun vs H Q _ => ∃ (vc v vk : V) (c : Code) (r : Row) (l : KL), vs = [vc, v, vk] ∧ Rp K H vc (codeDt c) ∧ Rp K H v r.dt ∧ Rp K H vk (klDt l) ∧ l.length ≤ 1000 ∧
  (∀ d, r.sets = some d → d < l.length) ∧ (∀ d s, r = .move d s → s < l.length) ∧ (∀ d f as, r = .call d f as → f < c.length) ∧ ∀ x H', Same H H' → Rp K H' x (klDt (afterL (heads c) r l)) → Q x H'
def spBadNum (K : PySem.W.Frag) : Sp := fun vs H Q _ => ∃ (vc vf v : V) (c : Code) (f : Fn) (r : Row) (i : Nat), vs = [vc, vf, v, .int i] ∧ Rp K H vc (codeDt c) ∧ Rp K H vf f.dt ∧ Rp K H v r.dt ∧ RowGood r ∧
  NumOk (heads c) f.regs f.rows.length r i ∧ ∀ H', Same H H' → Q (.bl false) H'
def spWanted (K : PySem.W.Frag) : Sp := fun vs H Q _ => ∃ (vf v : V) (f : Fn) (r : Row), vs = [vf, v] ∧ Rp K H vf f.dt ∧ Rp K H v r.dt ∧ ∀ o : Option Kd, (∀ k, o = some k → (∃ i, i ∈ r.reads) → r.want f.kind = some k) → Q (kdV o) H
section
variable {P : Program} {w : World} {K : PySem.W.Frag} {mg : Str → Option Value} {base : Heap} {Z : Wh}
theorem flat_len : ∀ (ls : List (List Nat)) (n : Nat), (∀ l ∈ ls, l.length ≤ n) → ls.flatten.length ≤ n * ls.length
  | [], _, _ => by simp
  | l :: ls, n, h => by
    have h1 := h l (by simp)
    have h2 := flat_len ls n fun x hx => h x (by simp [hx])
    simp only [List.flatten_cons, List.length_append, List.length_cons]
    rw [Nat.mul_add]
    omega
theorem POk.len {p : Str × Dt × List Nat} (h : POk p) : p.2.2.length ≤ 1000 := by
  rcases h with ⟨_, n, _, e⟩ | ⟨_, as, _, e, l⟩ | ⟨_, g, _, _, e⟩ | ⟨_, n, _, e⟩
  · rw [e]; simp
  · rw [e]; exact l
  · rw [e]; simp
  · rw [e]; simp
theorem take_flat {r : Row} {i : Nat} {p : Str × Dt × List Nat} (h : r.parts[i]? = some p) : ((r.parts.take (i + 1)).map (·.2.2)).flatten = ((r.parts.take i).map (·.2.2)).flatten ++ p.2.2 := by
  rw [List.take_succ, h]
  simp
theorem natsV_app (a b : List Nat) : natsV (a ++ b) = natsV a ++ natsV b := by simp [natsV]
theorem nats_rp {H : Hp} {v : V} {as : List Nat} (h : Rp K H v (natsDt as)) : ∃ a, v = .ref a ∧ SqT K H a (natsV as) := by
  obtain ⟨a, xs, rfl, ea, rx⟩ := h.tup_inv
  refine ⟨a, rfl, ?_⟩
  have : xs = natsV as := by
    clear ea h
    induction as generalizing xs with
    | nil => cases rx; rfl
    | cons n as ih =>
      cases rx with
      | cons q rx =>
        obtain rfl := q.int_inv
        rw [ih _ rx]
        rfl
  rw [← this]
  exact ea
theorem ok_cells_read (T : Tx w K mg Z) : FnOk P w K mg base CX0 1 (Z.A 12) (Z.D 12) ["row"] (spCellsRead K) := by
  refine T.cells_read.F.ok sc_cells_read (fun vs H Q E h => ?_) (fun cdv A outer s H vs Q E hr h => ?_)
  · obtain ⟨v, r, rfl, hv, hg, q⟩ := h
    rfl
  have hu := hu_of hr
  have hu0 := Nat.lt_of_succ_lt hu
  obtain ⟨v, r, rfl, hv, hg, q⟩ := h
  obtain ⟨a, xs, rfl, ea, rx⟩ := row_rp hv
  obtain ⟨sa, hns, hsq⟩ := shp_at T r
  have hl1 : xs.length = r.parts.length := by rw [rx.len]; exact List.length_map _
  have hpl := parts_len r
  refine ⟨_, (pss_cons (ps_set (i := 1) sc_cells_read.nd rfl (by first | exact Or.inl rfl | exact Or.inr rfl) (pe_lst pa_nil)) (pss_cons (ps_for PassesOwn.never rfl (RZ.pi_zipA rfl T.zip_ (pa_cons (pe_ix (ix_kd T.SHAPES_kd) (pe_glob rfl T.m_SHAPES T.r_SHAPES) (pe_ix ix_tup (pv 0) pe_int (fun _ _ => rfl)) (fun _ _ => rfl)) (pa_cons (pe_slice sl_tupS (pv 0) (po_some pe_int) po_none) pa_nil))) (pg_tup rfl (pgs_cons (pg_name (i := 2) sc_cells_read.nd rfl (by first | exact Or.inl rfl | exact Or.inr rfl)) (pgs_cons (pg_name (i := 3) sc_cells_read.nd rfl (by first | exact Or.inl rfl | exact Or.inr rfl)) pgs_nil))) (pss_one (ps_if (pt_cmpR op_eq (pv 2) pe_str (nomark _)) (pss_one (ps_expr (pe_bm PySem.F.plainAttrs_list PySem.F.slot_list_append PySem.F.type_list_append mt_append (pv 1) (pa_cons (pv 3) pa_nil)))) (pss_one (ps_if (pt_cmpR op_eq (pv 2) pe_str (nomark _)) (pss_one (ps_expr (pe_bm PySem.F.plainAttrs_list PySem.F.slot_list_extend PySem.F.type_list_extend mt_extendT (pv 1) (pa_cons (pv 3) pa_nil)))) pss_nil))))) (pss_one (ps_ret (pe_callTy call_tuple_of rfl T.tuple_ bt_tuple (pa_cons (pv 1) pa_nil)))))), ?_⟩
  refine ⟨(by show 0 ≤ sizeLine; decide), fun d hd => ?_⟩
  have ea1 := (Same.tk (same_new (o := .lst []) hd)).sq ea
  refine ⟨_, rfl, _, _, _, _, rfl, rfl, ea1, at0, _, _, .ref sa, rfl, rfl, hns, rfl, ?_⟩
  refine ⟨_, rfl, _, rfl, _, _, rfl, ea1, fun p2 H2 s2 e2 => ?_⟩
  have ec : cutV (V.str r.word :: xs) (some 1) none = xs := cut_from _ 1
  rw [ec] at e2
  have hmin : r.parts.length = min (r.shapes.map V.str).length xs.length := by simp [Row.shapes, hl1]
  have hd2 : H2 d = some (.lst []) := s2 _ _ upd_same
  have s02 : Same H H2 := (same_new hd).trans s2
  refine ⟨_, _, _, _, rfl, .inr ⟨hsq _, e2, for_it (walk_zipT hmin) (fun i σ H' => ∃ o1 o2, σ = [some (.ref a), some (.ref d), o1, o2] ∧ Same H H' ∧ Tk H2 H' ∧ H' d = some (.lst (natsV ((r.parts.take i).map (·.2.2)).flatten))) ⟨none, none, rfl, s02, Tk.refl _, hd2⟩ (fun i σ H' _ ⟨_, _, _, _, tk, _⟩ => ⟨hsq _, tk.sq e2⟩) ?_ ?_⟩⟩
  · rintro i x σ H3 H4 hi ⟨o1, o2, rfl, hs, tk, hd3⟩ ⟨t3, y1, y2, rfl, ht3, rfl, hy1, hy2⟩
    refine pair_go ?_
    obtain ⟨p, hpi, hp, rfl, rd⟩ := part_at rx hy1 hy2
    have pok := parts_ok hg p hp
    have hdt : d ≠ t3 := ne_of_none hd3 ht3
    have hd4 : (upd H3 t3 (.tup [.str p.1, y2])) d = some (.lst (natsV ((r.parts.take i).map (·.2.2)).flatten)) := by rw [upd_ne hdt]; exact hd3
    have s4 : Same H (upd H3 t3 (.tup [.str p.1, y2])) := hs.trans (same_tup ht3)
    have tk4 : Tk H2 (upd H3 t3 (.tup [.str p.1, y2])) := tk.trans (Same.tk (same_tup ht3))
    have hfl := flat_len ((r.parts.take i).map (·.2.2)) 1000 (fun l hl => by
      obtain ⟨p', hp', rfl⟩ := List.mem_map.mp hl
      exact (parts_ok hg p' (List.mem_of_mem_take hp')).len)
    have hfl2 : (natsV ((r.parts.take i).map (·.2.2)).flatten).length ≤ 3000 := by
      simp only [natsV, List.length_map, List.length_take] at hfl ⊢
      have : min i r.parts.length ≤ 3 := by omega
      omega
    have etk := take_flat hpi
    refine ⟨_, rfl, rfl, _, rfl, ?_⟩
    rcases pok with ⟨e, n, e1, e2'⟩ | ⟨e, as, e1, e2', hal⟩ | ⟨e, g, e1, _, e2'⟩ | ⟨e, n, e1, e2'⟩
    · refine iteC (b := true) (by rw [e]; decide +kernel) ?_
      rw [e1] at rd
      obtain rfl := rd.int_inv
      refine ⟨_, rfl, .inl ⟨rfl, _, SqL.of hd4⟩, _, rfl, _, _, _, rfl, rfl, hd4, Nat.lt_of_le_of_lt hfl2 (by decide), ?_⟩
      refine ⟨_, _, rfl, same_at s4 hd, tk4.trans (tk_lst hd4), ?_⟩
      rw [upd_same, etk, e2', natsV_app]
      rfl
    · refine iteC (b := false) (by rw [e]; decide +kernel) ?_
      refine ⟨_, rfl, rfl, _, rfl, ?_⟩
      refine iteC (b := true) (by rw [e]; decide +kernel) ?_
      rw [e1] at rd
      obtain ⟨aa, rfl, eaa⟩ := nats_rp (rd.same hs)
      refine ⟨_, rfl, .inl ⟨rfl, _, SqL.of hd4⟩, _, rfl, _, _, _, _, rfl, rfl, hd4, (Same.tk (same_tup ht3)).sq eaa, ?_, ?_⟩
      · refine Nat.le_trans (Nat.add_le_add hfl2 (by simp only [natsV, List.length_map]; exact hal)) (by decide)
      · refine ⟨_, _, rfl, same_at s4 hd, tk4.trans (tk_lst hd4), ?_⟩
        rw [upd_same, etk, e2', natsV_app]
    · refine iteC (b := false) (by rw [e]; decide +kernel) ?_
      refine ⟨_, rfl, rfl, _, rfl, ?_⟩
      refine iteC (b := false) (by rw [e]; decide +kernel) ?_
      refine ⟨_, _, rfl, s4, tk4, ?_⟩
      rw [hd4, etk, e2', List.append_nil]
    · refine iteC (b := false) (by rcases e with e | e | e <;> rw [e] <;> decide +kernel) ?_
      refine ⟨_, rfl, rfl, _, rfl, ?_⟩
      refine iteC (b := false) (by rcases e with e | e | e <;> rw [e] <;> decide +kernel) ?_
      refine ⟨_, _, rfl, s4, tk4, ?_⟩
      rw [hd4, etk, e2', List.append_nil]
  · rintro σ H3 ⟨o1, o2, rfl, hs, tk, hd3⟩
    rw [List.take_length, reads_parts] at hd3
    refine ⟨_, rfl, _, _, rfl, .inl ⟨SqL.of hd3, fun l hl => ?_⟩⟩
    exact q _ _ (hs.trans (same_tup hl)) sqT_new
theorem parts_head (r : Row) : ∃ sh d ns rest, r.parts = (sh, d, ns) :: rest ∧ ((sh = "set" ∧ ∃ n, d = iD n ∧ r.sets = some n) ∨ (sh ≠ "set" ∧ r.sets = none)) := by
  cases r <;> first
    | exact ⟨_, _, _, _, rfl, .inl ⟨rfl, _, rfl, rfl⟩⟩
    | exact ⟨_, _, _, _, rfl, .inr ⟨by decide +kernel, rfl⟩⟩
theorem ok_cell_set (T : Tx w K mg Z) : FnOk P w K mg base CX0 1 (Z.A 13) (Z.D 13) ["row"] (spCellSet K) := by
  refine T.cell_set.F.ok sc_cell_set (fun vs H Q E h => ?_) (fun cdv A outer s H vs Q E hr h => ?_)
  · obtain ⟨v, r, rfl, hv, q⟩ := h
    rfl
  have hu := hu_of hr
  have hu0 := Nat.lt_of_succ_lt hu
  obtain ⟨v, r, rfl, hv, q⟩ := h
  obtain ⟨a, xs, rfl, ea, rx⟩ := row_rp hv
  obtain ⟨sa, hns, hsq⟩ := shp_at T r
  obtain ⟨sh, d, ns, rest, hp, hset⟩ := parts_head r
  have e1 : r.shapes.map V.str = .str sh :: (rest.map (·.1)).map V.str := by unfold Row.shapes; rw [hp]; rfl
  have e2 : r.items = d :: rest.map (·.2.1) := by unfold Row.items; rw [hp]; rfl
  rw [e2] at rx
  cases rx with
  | cons q1 rx =>
    refine ⟨_, (pss_one (ps_ret (pe_ifExp (pt_cmpR op_eq (pe_ix ix_tup (pe_ix (ix_kd T.SHAPES_kd) (pe_glob rfl T.m_SHAPES T.r_SHAPES) (pe_ix ix_tup (pv 0) pe_int (fun _ _ => rfl)) (fun _ _ => rfl)) pe_int (fun _ _ => rfl)) pe_str (nomark _)) (pe_ix ix_tup (pv 0) pe_int (fun _ _ => rfl)) pe_non))), ?_⟩
    have hsq' := hsq H
    rw [e1] at hsq'
    refine ⟨_, rfl, _, _, _, _, rfl, rfl, ea, at0, _, _, .ref sa, rfl, rfl, hns, rfl, ?_⟩
    refine ⟨_, _, _, _, rfl, rfl, hsq', at0, rfl, _, rfl, ?_⟩
    rcases hset with ⟨rfl, n, rfl, hs⟩ | ⟨hne, hs⟩
    · refine iteC (b := true) (by simp) ?_
      obtain rfl := q1.int_inv
      rw [hs] at q
      exact ⟨_, rfl, _, _, _, _, rfl, rfl, ea, atI_nat (j := 1) rfl, q⟩
    · refine iteC (b := false) (by simpa using hne) ?_
      rw [hs] at q
      exact q
end
end Eo
set_option linter.all false
set_option maxRecDepth 100000
set_option maxHeartbeats 4000000
/-! E8: faults of rows. -/
namespace Eo
open PySem L2
section
variable {P : Program} {w : World} {K : PySem.W.Frag} {mg : Str → Option Value} {base : Heap} {Z : Wh}
theorem ok_rows_after (T : Tx w K mg Z) : FnOk P w K mg base CX0 1 (Z.A 14) (Z.D 14) ["row", "at"] (spRowsAfter K) := by
  refine T.rows_after.F.ok sc_rows_after (fun vs H Q E h => ?_) (fun cdv A outer s H vs Q E hr h => ?_)
  · obtain ⟨v, r, i, rfl, hv, q⟩ := h
    rfl
  have hu := hu_of hr
  have hu0 := Nat.lt_of_succ_lt hu
  obtain ⟨v, r, i, rfl, hv, q⟩ := h
  obtain ⟨a, xs, rfl, ea, rx⟩ := row_rp hv
  refine ⟨_, (pss_cons (ps_if (pt_cmpR op_eq (pe_ix ix_tup (pv 0) pe_int (fun _ _ => rfl)) pe_str (nomark _)) (pss_one (ps_ret (pe_lst pa_nil))) pss_nil) (pss_cons (ps_if (pt_cmpR op_eq (pe_ix ix_tup (pv 0) pe_int (fun _ _ => rfl)) pe_str (nomark _)) (pss_one (ps_ret (pe_lst (pa_cons (pe_ix ix_tup (pv 0) pe_int (fun _ _ => rfl)) pa_nil)))) pss_nil) (pss_one (ps_ret (pe_ifExp (pt_cmpR op_eq (pe_ix ix_tup (pv 0) pe_int (fun _ _ => rfl)) pe_str (nomark _)) (pe_lst (pa_cons (pe_op op_add (pv 1) pe_int) (pa_cons (pe_ix ix_tup (pv 0) pe_int (fun _ _ => rfl)) pa_nil))) (pe_lst (pa_cons (pe_op op_add (pv 1) pe_int) pa_nil))))))), ?_⟩
  cases r with
  | give s =>
    dsimp only [Row.word] at ea
    refine ⟨_, rfl, _, _, _, _, rfl, rfl, ea, at0, rfl, _, rfl, ?_⟩
    refine iteC (b := true) (by decide +kernel) ?_
    exact ⟨(by show 0 ≤ sizeLine; decide), fun p hp => q _ _ (same_new hp) hp upd_same⟩
  | skip k =>
    dsimp only [Row.word] at ea
    cases rx with
    | cons q1 rx =>
      obtain rfl := q1.int_inv
      refine ⟨_, rfl, _, _, _, _, rfl, rfl, ea, at0, rfl, _, rfl, ?_⟩
      refine iteC (b := false) (by decide +kernel) ?_
      refine ⟨_, rfl, _, _, _, _, rfl, rfl, ea, at0, rfl, _, rfl, ?_⟩
      refine iteC (b := true) (by decide +kernel) ?_
      refine ⟨_, rfl, _, _, _, _, rfl, rfl, ea, atI_nat (j := 1) rfl, ?_⟩
      exact ⟨(by show 1 ≤ sizeLine; decide), fun p hp => q _ _ (same_new hp) hp upd_same⟩
  | unl s k =>
    dsimp only [Row.word] at ea
    cases rx with
    | cons q1 rx =>
      cases rx with
      | cons q2 rx =>
        obtain rfl := q2.int_inv
        refine ⟨_, rfl, _, _, _, _, rfl, rfl, ea, at0, rfl, _, rfl, ?_⟩
        refine iteC (b := false) (by decide +kernel) ?_
        refine ⟨_, rfl, _, _, _, _, rfl, rfl, ea, at0, rfl, _, rfl, ?_⟩
        refine iteC (b := false) (by decide +kernel) ?_
        refine ⟨_, rfl, _, _, _, _, rfl, rfl, ea, at0, rfl, _, rfl, ?_⟩
        refine iteC (b := true) (by decide +kernel) ?_
        refine ⟨_, rfl, _, _, rfl, rfl, _, rfl, _, _, _, _, rfl, rfl, ea, atI_nat (j := 2) rfl, ?_⟩
        exact ⟨(by show 2 ≤ sizeLine; decide), fun p hp => q _ _ (same_new hp) hp upd_same⟩
  | _ =>
    dsimp only [Row.word] at ea
    refine ⟨_, rfl, _, _, _, _, rfl, rfl, ea, at0, rfl, _, rfl, ?_⟩
    refine iteC (b := false) (by decide +kernel) ?_
    refine ⟨_, rfl, _, _, _, _, rfl, rfl, ea, at0, rfl, _, rfl, ?_⟩
    refine iteC (b := false) (by decide +kernel) ?_
    refine ⟨_, rfl, _, _, _, _, rfl, rfl, ea, at0, rfl, _, rfl, ?_⟩
    refine iteC (b := false) (by decide +kernel) ?_
    refine ⟨_, rfl, _, _, rfl, rfl, ?_⟩
    exact ⟨(by show 1 ≤ sizeLine; decide), fun p hp => q _ _ (same_new hp) hp upd_same⟩
theorem kl_at {H : Hp} {v : V} {l : KL} {i : Nat} (h : Rp K H v (klDt l)) (hi : i < l.length) : ∃ a xs, v = .ref a ∧ SqT K H a xs ∧ xs[i]? = some (kdV (kf l i)) := by
  obtain ⟨a, xs, rfl, ea, rx⟩ := h.tup_inv
  obtain ⟨x, hx, rd⟩ := get_map rx (List.getElem?_eq_getElem hi)
  refine ⟨a, xs, rfl, ea, ?_⟩
  rw [hx, kf_of (List.getElem?_eq_getElem hi)]
  cases e : l[i] with
  | none => rw [e] at rd; cases rd; rfl
  | some k => rw [e] at rd; cases rd; rfl
theorem kl_len {H : Hp} {a : Addr} {l : KL} (h : Rp K H (.ref a) (klDt l)) : ∃ xs, SqT K H a xs ∧ xs = l.map kdV := by
  obtain ⟨a, xs, e, ea, rx⟩ := h.tup_inv
  cases e
  refine ⟨xs, ea, ?_⟩
  clear ea h
  induction l generalizing xs with
  | nil => cases rx; rfl
  | cons o l ih =>
    cases rx with
    | cons q rx =>
      rw [ih _ rx]
      cases o with
      | none => cases q; rfl
      | some k => cases q; rfl
theorem kl_rp {H : Hp} {a : Addr} {l : KL} (h : SqT K H a (l.map kdV)) : Rp K H (.ref a) (klDt l) := .tup h (rps_map kdV kdDt (fun o => by cases o with
  | none => exact .non
  | some k => exact .str _) l)
theorem code_rp {H : Hp} {v : V} {c : Code} (h : Rp K H v (codeDt c)) : ∃ a xs, v = .ref a ∧ SqT K H a xs ∧ Rps K H xs (c.map Fn.dt) := by
  obtain ⟨a, xs, rfl, ea, rx⟩ := h.tup_inv
  exact ⟨a, xs, rfl, ea, rx⟩
theorem ok_kind_set (T : Tx w K mg Z) : FnOk P w K mg base CX0 1 (Z.A 15) (Z.D 15) ["code", "row", "kinds"] (spKindSet K) := by
  refine T.kind_set.F.ok sc_kind_set (fun vs H Q E h => ?_) (fun cdv A outer s H vs Q E hr h => ?_)
  · obtain ⟨vc, v, vk, c, r, l, rfl, hc, hv, hk, hmv, hcl, q⟩ := h
    rfl
  have hu := hu_of hr
  have hu0 := Nat.lt_of_succ_lt hu
  obtain ⟨vc, v, vk, c, r, l, rfl, hc, hv, hk, hmv, hcl, q⟩ := h
  obtain ⟨a, xs, rfl, ea, rx⟩ := row_rp hv
  refine ⟨_, (pss_cons (ps_if (pt_cmpR op_eq (pe_ix ix_tup (pv 1) pe_int (fun _ _ => rfl)) pe_str (nomark _)) (pss_one (ps_ret (pe_ix ix_tup (pv 2) (pe_ix ix_tup (pv 1) pe_int (fun _ _ => rfl)) (fun _ _ => rfl)))) pss_nil) (pss_cons (ps_if (pt_cmpR op_eq (pe_ix ix_tup (pv 1) pe_int (fun _ _ => rfl)) pe_str (nomark _)) (pss_one (ps_ret (pe_ix ix_tup (pe_ix ix_tup (pv 0) (pe_ix ix_tup (pv 1) pe_int (fun _ _ => rfl)) (fun _ _ => rfl)) pe_int (fun _ _ => rfl)))) pss_nil) (pss_one (ps_ret (pe_ifExp (pt_cmpR op_in_seq (pe_ix ix_tup (pv 1) pe_int (fun _ _ => rfl)) (pe_glob rfl T.m_TO_PLACE T.r_TO_PLACE) rfl) pe_str pe_str))))), ?_⟩
  cases r with
  | move d s =>
    dsimp only [Row.word] at ea
    obtain ⟨ka, kx, rfl, eka, hkx⟩ := kl_at hk (hmv d s rfl)
    cases rx with
    | cons q1 rx =>
      cases rx with
      | cons q2 rx =>
        obtain rfl := q2.int_inv
        refine ⟨_, rfl, _, _, _, _, rfl, rfl, ea, at0, rfl, _, rfl, ?_⟩
        refine iteC (b := true) (by decide +kernel) ?_
        refine ⟨_, rfl, _, rfl, _, _, _, _, rfl, rfl, ea, atI_nat (j := 2) rfl, ?_⟩
        exact ⟨_, _, _, _, rfl, rfl, eka, atI_nat hkx, q⟩
  | call d f as =>
    dsimp only [Row.word] at ea
    obtain ⟨ca, cx, rfl, eca, rcx⟩ := code_rp hc
    have hf := hcl d f as rfl
    obtain ⟨fv, hfv, rfv⟩ := get_map rcx (List.getElem?_eq_getElem hf)
    obtain ⟨fa, fb, fx, rfl, efa, efb, _⟩ := fn_rp rfv
    cases rx with
    | cons q1 rx =>
      cases rx with
      | cons q2 rx =>
        obtain rfl := q2.int_inv
        refine ⟨_, rfl, _, _, _, _, rfl, rfl, ea, at0, rfl, _, rfl, ?_⟩
        refine iteC (b := false) (by decide +kernel) ?_
        refine ⟨_, rfl, _, _, _, _, rfl, rfl, ea, at0, rfl, _, rfl, ?_⟩
        refine iteC (b := true) (by decide +kernel) ?_
        refine ⟨_, rfl, _, rfl, _, _, _, _, rfl, rfl, ea, atI_nat (j := 2) rfl, ?_⟩
        refine ⟨_, _, _, _, rfl, rfl, eca, atI_nat hfv, _, _, _, _, rfl, rfl, efa, at0, ?_⟩
        have e : kindSet (heads c) (kf l) (.call d f as) = some c[f].kind := by
          show ((heads c)[f]?).map _ = _
          rw [get_heads (List.getElem?_eq_getElem hf)]
          rfl
        rw [e] at q
        exact q
  | _ =>
    dsimp only [Row.word] at ea
    refine ⟨_, rfl, _, _, _, _, rfl, rfl, ea, at0, rfl, _, rfl, ?_⟩
    refine iteC (b := false) (by decide +kernel) ?_
    refine ⟨_, rfl, _, _, _, _, rfl, rfl, ea, at0, rfl, _, rfl, ?_⟩
    refine iteC (b := false) (by decide +kernel) ?_
    refine ⟨_, rfl, _, _, _, _, rfl, rfl, ea, at0, _, _, rfl, .inr (T.t_TO_PLACE _), rfl, rfl, _, rfl, ?_⟩
    first
      | exact iteC (b := true) (by decide +kernel) q
      | exact iteC (b := false) (by decide +kernel) q
theorem map_set (l : KL) (d : Nat) (o : Option Kd) : (l.set d o).map kdV = (l.map kdV).set d (kdV o) := List.map_set
theorem set_split {α : Type} (xs : List α) (d : Nat) (x : α) (h : d < xs.length) : xs.take d ++ [x] ++ xs.drop (d + 1) = xs.set d x := by
  rw [List.set_eq_take_append_cons_drop, if_pos h, List.append_assoc]
  rfl
theorem ok_kinds_after (T : Tx w K mg Z) : FnOk P w K mg base CX0 2 (Z.A 16) (Z.D 16) ["code", "row", "kinds"] (spKindsAfter K) := by
  refine T.kinds_after.F.ok sc_kinds_after (fun vs H Q E h => ?_) (fun cdv A outer s H vs Q E hr h => ?_)
  · obtain ⟨vc, v, vk, c, r, l, rfl, hc, hv, hk, hl, hd, hmv, hcl, q⟩ := h
    rfl
  have hu := hu_of hr
  have hu0 := Nat.lt_of_succ_lt hu
  obtain ⟨vc, v, vk, c, r, l, rfl, hc, hv, hk, hl, hd, hmv, hcl, q⟩ := h
  obtain ⟨ka, _, rfl, _⟩ := hk.tup_inv
  obtain ⟨kx, eka, rfl⟩ := kl_len hk
  refine ⟨_, (pss_cons (ps_set (i := 3) sc_kinds_after.nd rfl (by first | exact Or.inl rfl | exact Or.inr rfl) (pe_call (ok_cell_set T) (hr.mono (by decide)) rfl T.cell_set.m T.cell_set.F.kp T.cell_set.b .nil pass0 (pa_cons (pv 1) pa_nil))) (pss_cons (ps_if (pt_cmpR op_isN (pv 3) pe_non (nomark _)) (pss_one (ps_ret (pv 2))) pss_nil) (pss_one (ps_ret (pe_op op_catS (pe_op op_catS (pe_slice sl_tupS (pv 2) po_none (po_some (pv 3))) (pe_tup (pa_cons (pe_call (ok_kind_set T) (hr.mono (by decide)) rfl T.kind_set.m T.kind_set.F.kp T.kind_set.b .nil pass0 (pa_cons (pv 0) (pa_cons (pv 1) (pa_cons (pv 2) pa_nil)))) pa_nil))) (pe_slice sl_tupS (pv 2) (po_some (pe_op op_add (pv 3) pe_int)) po_none)))))), ?_⟩
  refine ⟨_, rfl, _, _, rfl, hv, ?_⟩
  cases hs : r.sets with
  | none =>
    refine ⟨_, rfl, rfl, _, rfl, ?_⟩
    refine iteC (b := true) (by simp [optI]) ?_
    refine ⟨_, rfl, q _ _ (Same.refl _) ?_⟩
    unfold afterL
    rw [hs]
    exact hk
  | some d =>
    have hdl := hd d hs
    refine ⟨_, rfl, rfl, _, rfl, ?_⟩
    refine iteC (b := false) (by simp [optI]) ?_
    refine ⟨_, rfl, _, rfl, _, rfl, _, _, rfl, eka, fun p1 H1 s1 e1 => ?_⟩
    refine ⟨_, rfl, _, rfl, _, rfl, _, _, _, c, r, l, rfl, hc.same s1, hv.same s1, hk.same s1, hmv, hcl, ?_⟩
    refine ⟨(by show 1 ≤ sizeLine; decide), fun t1 ht1 => ?_⟩
    have s2 : Same H (upd H1 t1 (.tup [kdV (kindSet (heads c) (kf l) r)])) := s1.trans (same_tup ht1)
    rw [cut_to] at e1
    refine ⟨_, _, _, _, rfl, rfl, (Same.tk (same_tup ht1)).sq e1, sqT_new, ?_, fun p3 H3 s3 e3 => ?_⟩
    · simp only [List.length_take, List.length_map, List.length_cons, List.length_nil]
      exact Nat.le_trans (by omega : _ ≤ 2000) (by decide)
    refine ⟨_, rfl, _, rfl, _, _, rfl, rfl, _, rfl, _, _, rfl, (Same.tk (s2.trans s3)).sq eka, fun p4 H4 s4 e4 => ?_⟩
    have e5 : ((d : Int) + 1) = ((d + 1 : Nat) : Int) := by omega
    rw [e5, cut_from] at e4
    refine ⟨_, _, _, _, rfl, rfl, (Same.tk s4).sq e3, e4, ?_, fun p6 H6 s6 e6 => ?_⟩
    · simp only [List.length_take, List.length_drop, List.length_append, List.length_map, List.length_cons, List.length_nil]
      exact Nat.le_trans (by omega : _ ≤ 4000) (by decide)
    rw [set_split _ _ _ (by rw [List.length_map]; exact hdl), ← map_set] at e6
    refine q _ _ (((s2.trans s3).trans s4).trans s6) ?_
    unfold afterL
    rw [hs]
    exact kl_rp e6
theorem ok_wanted_kind (T : Tx w K mg Z) : FnOk P w K mg base CX0 1 (Z.A 18) (Z.D 18) ["function", "row"] (spWanted K) := by
  refine T.wanted_kind.F.ok sc_wanted_kind (fun vs H Q E h => ?_) (fun cdv A outer s H vs Q E hr h => ?_)
  · obtain ⟨vf, v, f, r, rfl, hf, hv, q⟩ := h
    rfl
  have hu := hu_of hr
  have hu0 := Nat.lt_of_succ_lt hu
  obtain ⟨vf, v, f, r, rfl, hf, hv, q⟩ := h
  obtain ⟨a, xs, rfl, ea, rx⟩ := row_rp hv
  obtain ⟨fa, fb, fx, rfl, efa, efb, _⟩ := fn_rp hf
  refine ⟨_, (pss_cons (ps_if (pt_cmpR op_eq (pe_ix ix_tup (pv 1) pe_int (fun _ _ => rfl)) pe_str (nomark _)) (pss_one (ps_ret pe_non)) pss_nil) (pss_cons (ps_if (pt_cmpR op_eq (pe_ix ix_tup (pv 1) pe_int (fun _ _ => rfl)) pe_str (nomark _)) (pss_one (ps_ret (pe_ix ix_tup (pv 0) pe_int (fun _ _ => rfl)))) pss_nil) (pss_one (ps_ret (pe_ifExp (pt_cmpR op_in_seq (pe_ix ix_tup (pv 1) pe_int (fun _ _ => rfl)) (pe_glob rfl T.m_FROM_TRUTH T.r_FROM_TRUTH) rfl) pe_str pe_str))))), ?_⟩
  cases r with
  | move d s =>
    dsimp only [Row.word] at ea
    refine ⟨_, rfl, _, _, _, _, rfl, rfl, ea, at0, rfl, _, rfl, ?_⟩
    refine iteC (b := true) (by decide +kernel) ?_
    exact q none (fun k e => by cases e)
  | give s =>
    dsimp only [Row.word] at ea
    refine ⟨_, rfl, _, _, _, _, rfl, rfl, ea, at0, rfl, _, rfl, ?_⟩
    refine iteC (b := false) (by decide +kernel) ?_
    refine ⟨_, rfl, _, _, _, _, rfl, rfl, ea, at0, rfl, _, rfl, ?_⟩
    refine iteC (b := true) (by decide +kernel) ?_
    refine ⟨_, rfl, _, _, _, _, rfl, rfl, efa, at0, ?_⟩
    exact q (some f.kind) (fun k e _ => e)
  | _ =>
    dsimp only [Row.word] at ea
    refine ⟨_, rfl, _, _, _, _, rfl, rfl, ea, at0, rfl, _, rfl, ?_⟩
    refine iteC (b := false) (by decide +kernel) ?_
    refine ⟨_, rfl, _, _, _, _, rfl, rfl, ea, at0, rfl, _, rfl, ?_⟩
    refine iteC (b := false) (by decide +kernel) ?_
    refine ⟨_, rfl, _, _, _, _, rfl, rfl, ea, at0, _, _, rfl, .inr (T.t_FROM_TRUTH _), rfl, rfl, _, rfl, ?_⟩
    first
      | exact iteC (b := true) (by decide +kernel) (q (some .truth) (fun k e _ => e))
      | exact iteC (b := false) (by decide +kernel) (q (some .place) (fun k e _ => e))
end
end Eo
set_option linter.all false
set_option maxRecDepth 100000
set_option maxHeartbeats 4000000
/-! E9: faults, kinds where ways meet. -/
namespace Eo
open PySem L2
def spFault (K : PySem.W.Frag) : Sp := fun vs H Q _ => ∃ (vc vf v vk : V) (c : Code) (f : Fn) (r : Row) (i : Nat) (l : KL), vs = [vc, vf, v, .int i, vk] ∧ Rp K H vc (codeDt c) ∧ Rp K H vf f.dt ∧ Rp K H v r.dt ∧ Rp K H vk (klDt l) ∧ RowGood r ∧
  NumOk (heads c) f.regs f.rows.length r i ∧ l.length = f.regs ∧ RowOk (heads c) f.kind f.rows.length r i (kf l) ∧ ∀ H', Same H H' → Q .non H'
def spJoin (K : PySem.W.Frag) : Sp := fun vs H Q _ => ∃ (v1 v2 : V) (o : Option KL) (x : KL), vs = [v1, v2] ∧ (∀ y, o = some y → Rp K H v1 (klDt y) ∧ y.length = x.length) ∧ (o = none → v1 = .non) ∧ Rp K H v2 (klDt x) ∧ x.length ≤ 1000 ∧
  ∀ y H', Same H H' → Rp K H' y (klDt (joinO o x)) → Q y H'
section
variable {P : Program} {w : World} {K : PySem.W.Frag} {mg : Str → Option Value} {base : Heap} {Z : Wh}
theorem all_false {ys : List V} {n : Nat} (hl : ys.length = n) (h : ∀ (i : Nat) y, ys[i]? = some y → y = V.bl false) : ys = (List.replicate n false).map V.bl := by
  subst hl
  apply List.ext_getElem?
  intro i
  cases e : ys[i]? with
  | none =>
    have := List.getElem?_eq_none_iff.mp e
    rw [List.getElem?_eq_none (by simpa using this)]
  | some y =>
    have hy := h i y e
    have hi := (List.getElem?_eq_some_iff.mp e).1
    rw [List.getElem?_map, List.getElem?_replicate, if_pos hi, hy]
    rfl
theorem upd_none {H : Hp} {D : Addr} {ys : List V} {n : Nat} (e : H D = some (.lst ys)) (hl : ys.length = n) (h : ∀ (i : Nat) y, ys[i]? = some y → y = V.bl false) : SqL K H D ((List.replicate n false).map V.bl) := by
  rw [← all_false hl h]
  exact SqL.of e
theorem any_rep (n : Nat) : (List.replicate n false).any id = false := by
  rw [List.any_eq_false]
  intro x hx
  rw [List.eq_of_mem_replicate hx]
  decide
theorem natsV_at {ns : List Nat} {i : Nat} {x : V} (h : (natsV ns)[i]? = some x) : ∃ n : Nat, ns[i]? = some n ∧ n ∈ ns ∧ x = .int (n : Int) := by
  unfold natsV at h
  rw [List.getElem?_map] at h
  cases e : ns[i]? with
  | none => rw [e] at h; cases h
  | some n =>
    rw [e] at h
    exact ⟨n, rfl, List.mem_of_getElem? e, (Option.some.inj h).symm⟩
theorem heads_len (c : Code) : (heads c).length = c.length := List.length_map _
theorem ok_has_bad_number (T : Tx w K mg Z) : FnOk P w K mg base CX0 2 (Z.A 17) (Z.D 17) ["code", "function", "row", "at"] (spBadNum K) := by
  refine T.has_bad_number.F.ok sc_has_bad_number (fun vs H Q E h => ?_) (fun cdv A outer s H vs Q E hr h => ?_)
  · obtain ⟨vc, vf, v, c, f, r, i, rfl, hc, hf, hv, hg, hn, q⟩ := h
    rfl
  have hu := hu_of hr
  have hu0 := Nat.lt_of_succ_lt hu
  obtain ⟨vc, vf, v, c, f, r, i, rfl, hc, hf, hv, hg, hn, q⟩ := h
  obtain ⟨a, xs, rfl, ea, rx⟩ := row_rp hv
  obtain ⟨fa, fb, fx, rfl, efa, efb, rfx⟩ := fn_rp hf
  obtain ⟨ca, cx, rfl, eca, rcx⟩ := code_rp hc
  have hlc : cx.length = c.length := by rw [rcx.len, List.length_map]
  have hlf : fx.length = f.rows.length := by rw [rfx.len, List.length_map]
  have hrl : r.reads.length ≤ 1002 := by
    cases r <;> simp [Row.reads]
    case call d f as => exact Nat.le_trans hg (by decide)
  refine ⟨_, (pss_cons (ps_set (i := 4) sc_has_bad_number.nd rfl (by first | exact Or.inl rfl | exact Or.inr rfl) (pe_callTy call_list_of rfl T.list_ bt_list (pa_cons (pe_call (ok_cells_read T) (hr.mono (by decide)) rfl T.cells_read.m T.cells_read.F.kp T.cells_read.b .nil pass0 (pa_cons (pv 2) pa_nil)) pa_nil))) (pss_cons (ps_if (pt_cmpR op_notN (pe_call (ok_cell_set T) (hr.mono (by decide)) rfl T.cell_set.m T.cell_set.F.kp T.cell_set.b .nil pass0 (pa_cons (pv 2) pa_nil)) pe_non (nomark _)) (pss_one (ps_expr (pe_bm PySem.F.plainAttrs_list PySem.F.slot_list_append PySem.F.type_list_append mt_append (pv 4) (pa_cons (pe_call (ok_cell_set T) (hr.mono (by decide)) rfl T.cell_set.m T.cell_set.F.kp T.cell_set.b .nil pass0 (pa_cons (pv 2) pa_nil)) pa_nil)))) pss_nil) (pss_cons (ps_if (pt_val (pe_callB (cr_any rfl) rfl T.any_ bt_any (pa_cons (pe_lc (own := [("cell", 5)]) (g := gName 5) (tt := tYes) rfl sc_has_bad_number.nd (pi_list (pv 4)) (blkOk_by (own := [("cell", 5)]) (N := N_has_bad_number) (sc := defScope s_has_bad_number) (by decide +kernel)) (fun _ _ _ _ _ => (pg_name (i := 5) sc_has_bad_number.nd rfl (by first | exact Or.inl rfl | exact Or.inr rfl))) (fun _ _ _ _ _ => pts_nil) (fun _ _ _ _ _ => (pe_cmpR op_ge (pv 5) (pe_ix (r := rIxT K) ix_tup (pv 1) pe_int (fun _ _ => rfl)) (nomark _)))) pa_nil))) (pss_one (ps_ret pe_bl)) pss_nil) (pss_cons (ps_if (pt_cmpR op_eq (pe_ix ix_tup (pv 2) pe_int (fun _ _ => rfl)) pe_str (nomark _)) (pss_one (ps_ret (pe_cmpR op_ge (pe_ix ix_tup (pv 2) pe_int (fun _ _ => rfl)) (pe_callB call_len rfl T.len_ bt_len (pa_cons (pv 0) pa_nil)) (nomark _)))) pss_nil) (pss_cons (ps_if (pt_cmpR op_in_seq (pe_ix ix_tup (pv 2) pe_int (fun _ _ => rfl)) (pe_tup (pa_cons pe_str (pa_cons pe_str pa_nil))) rfl) (pss_one (ps_ret (pe_not (pe_chain op_lt op_lt (pv 3) (pe_ix ix_tup (pv 2) (pe_un un_neg pe_int) (fun _ _ => rfl)) (pe_callB call_len rfl T.len_ bt_len (pa_cons (pe_ix ix_tup (pv 1) pe_int (fun _ _ => rfl)) pa_nil)))))) pss_nil) (pss_one (ps_ret pe_bl))))))), ?_⟩
  refine ⟨_, rfl, _, r, rfl, hv, hg, fun p1 H1 s1 e1 => ⟨_, _, rfl, .inr e1, fun l hl => ?_⟩⟩
  have s2 : Same H (upd H1 l (.lst (natsV r.reads))) := s1.trans (same_new hl)
  refine ⟨_, rfl, _, r, rfl, hv.same s2, rfl, _, rfl, ?_⟩
  have hl1 : (upd H1 l (.lst (natsV r.reads))) l = some (.lst (natsV r.reads)) := upd_same
  have rest : ∀ (Hx : Hp) (cs : List Nat), Same H Hx → Hx l = some (.lst (natsV cs)) → (∀ j ∈ cs, j < f.regs) → cs.length ≤ 2000 → Same H Hx ∧ Hx l = some (.lst (natsV cs)) ∧ (∀ j ∈ cs, j < f.regs) ∧ cs.length ≤ 2000 := fun _ _ a b c d => ⟨a, b, c, d⟩
  cases hs : r.sets with
  | none =>
    refine iteC (b := false) (by simp [optI]) ?_
    obtain ⟨sx, hx, hcs, hcl⟩ := rest _ r.reads s2 hl1 hn.rd (by omega)
    refine ⟨_, rfl, l, rfl, ⟨_, SqL.of hx⟩, fun D hD => lc_pure walk_list (fun _ y => y = .bl false) (by simp only [natsV, List.length_map]; omega) hD (fun H3 s3 => SqL.of (s3 _ _ hx)) ?_ ?_ gName_mono⟩
    · rintro j x H3 H4 hi s3 ⟨rfl, hxj⟩
      obtain ⟨n, _, hm, rfl⟩ := natsV_at hxj
      have hlt := hcs n hm
      refine ⟨rfl, fun Q' q' => ⟨_, rfl, _, rfl, _, _, _, _, rfl, rfl, (Same.tk (sx.trans s3)).sq efa, rfl, _, _, rfl, rfl, q' _ _ (Same.refl _) ?_⟩⟩
      show V.bl (decide ((f.regs : Int) ≤ (n : Int))) = V.bl false
      rw [decide_eq_false (by omega)]
    · intro H3 ys s3 e hly hy
      refine ⟨_, _, rfl, upd_none e hly hy, _, rfl, ?_⟩
      rw [any_rep]
      refine iteC (b := false) rfl ?_
      have s4 := sx.trans s3
      have ea4 := (Same.tk s4).sq ea
      cases r with
      | skip k =>
        dsimp only [Row.word] at ea4
        cases rx with
        | cons q1 rx =>
          obtain rfl := q1.int_inv
          cases rx
          refine ⟨_, rfl, _, _, _, _, rfl, rfl, ea4, at0, rfl, _, rfl, ?_⟩
          refine iteC (b := false) (by decide +kernel) ?_
          refine ⟨_, rfl, _, _, _, _, rfl, rfl, ea4, at0, (by show 2 ≤ sizeLine; decide), fun t5 ht5 => ⟨_, _, rfl, .inr sqT_new, rfl, rfl, _, rfl, ?_⟩⟩
          refine iteC (b := true) (by decide +kernel) ?_
          have ea5 := (Same.tk (same_tup (xs := [V.str "skip", V.str "unless"]) ht5)).sq ea4
          have hk := hn.ex
          refine ⟨_, rfl, _, rfl, _, rfl, _, _, _, _, rfl, rfl, ea5, atI_last [V.str "skip"] _, _, _, rfl, rfl, _, rfl, ?_⟩
          refine iteC (b := true) (decide_eq_true (by have := hk.1; omega)) ?_
          refine ⟨_, rfl, _, _, _, _, rfl, rfl, (Same.tk (s4.trans (same_tup ht5))).sq efa, rfl, _, _, rfl, .inr ⟨_, (Same.tk (s4.trans (same_tup ht5))).sq efb, rfl⟩, _, _, rfl, rfl, _, rfl, ?_⟩
          rw [decide_eq_true (show ((k : Nat) : Int) < ((fx.length : Nat) : Int) by have := hk.2; omega)]
          exact q _ (s4.trans (same_tup ht5))
      | unl s k =>
        dsimp only [Row.word] at ea4
        cases rx with
        | cons q1 rx =>
          obtain rfl := q1.int_inv
          cases rx with
          | cons q2 rx =>
            obtain rfl := q2.int_inv
            cases rx
            refine ⟨_, rfl, _, _, _, _, rfl, rfl, ea4, at0, rfl, _, rfl, ?_⟩
            refine iteC (b := false) (by decide +kernel) ?_
            refine ⟨_, rfl, _, _, _, _, rfl, rfl, ea4, at0, (by show 2 ≤ sizeLine; decide), fun t5 ht5 => ⟨_, _, rfl, .inr sqT_new, rfl, rfl, _, rfl, ?_⟩⟩
            refine iteC (b := true) (by decide +kernel) ?_
            have ea5 := (Same.tk (same_tup (xs := [V.str "skip", V.str "unless"]) ht5)).sq ea4
            have hk := hn.ex
            refine ⟨_, rfl, _, rfl, _, rfl, _, _, _, _, rfl, rfl, ea5, atI_last [V.str "unless", V.int s] _, _, _, rfl, rfl, _, rfl, ?_⟩
            refine iteC (b := true) (decide_eq_true (by have := hk.1; omega)) ?_
            refine ⟨_, rfl, _, _, _, _, rfl, rfl, (Same.tk (s4.trans (same_tup ht5))).sq efa, rfl, _, _, rfl, .inr ⟨_, (Same.tk (s4.trans (same_tup ht5))).sq efb, rfl⟩, _, _, rfl, rfl, _, rfl, ?_⟩
            rw [decide_eq_true (show ((k : Nat) : Int) < ((fx.length : Nat) : Int) by have := hk.2; omega)]
            exact q _ (s4.trans (same_tup ht5))
      | give s =>
        dsimp only [Row.word] at ea4
        refine ⟨_, rfl, _, _, _, _, rfl, rfl, ea4, at0, rfl, _, rfl, ?_⟩
        refine iteC (b := false) (by decide +kernel) ?_
        refine ⟨_, rfl, _, _, _, _, rfl, rfl, ea4, at0, (by show 2 ≤ sizeLine; decide), fun t5 ht5 => ⟨_, _, rfl, .inr sqT_new, rfl, rfl, _, rfl, ?_⟩⟩
        refine iteC (b := false) (by decide +kernel) ?_
        exact q _ (s4.trans (same_tup ht5))
      | _ => cases hs
  | some d =>
    refine iteC (b := true) (by simp [optI]) ?_
    have hll : (natsV r.reads).length < sizeLine := Nat.lt_of_le_of_lt (by simp only [natsV, List.length_map]; exact hrl) (by decide)
    refine ⟨_, rfl, .inl ⟨rfl, _, SqL.of hl1⟩, _, rfl, _, r, rfl, hv.same s2, _, _, _, rfl, rfl, hl1, hll, ?_⟩
    rw [hs]
    have hln : H l = none := s1.free hl
    have e9 : natsV r.reads ++ [optI (some d)] = natsV (r.reads ++ [d]) := by rw [natsV_app]; rfl
    rw [e9]
    obtain ⟨sx, hx, hcs, hcl⟩ := rest (upd (upd H1 l (.lst (natsV r.reads))) l (.lst (natsV (r.reads ++ [d])))) (r.reads ++ [d]) (same_at s2 hln) upd_same (fun j hj => by
      rcases List.mem_append.mp hj with hj | hj
      · exact hn.rd j hj
      · rw [List.mem_singleton.mp hj]; exact hn.st d hs) (by simp; omega)
    refine ⟨_, rfl, l, rfl, ⟨_, SqL.of hx⟩, fun D hD => lc_pure walk_list (fun _ y => y = .bl false) (by simp only [natsV, List.length_map]; omega) hD (fun H3 s3 => SqL.of (s3 _ _ hx)) ?_ ?_ gName_mono⟩
    · rintro j x H3 H4 hi s3 ⟨rfl, hxj⟩
      obtain ⟨n, _, hm, rfl⟩ := natsV_at hxj
      have hlt := hcs n hm
      refine ⟨rfl, fun Q' q' => ⟨_, rfl, _, rfl, _, _, _, _, rfl, rfl, (Same.tk (sx.trans s3)).sq efa, rfl, _, _, rfl, rfl, q' _ _ (Same.refl _) ?_⟩⟩
      show V.bl (decide ((f.regs : Int) ≤ (n : Int))) = V.bl false
      rw [decide_eq_false (by omega)]
    · intro H3 ys s3 e hly hy
      refine ⟨_, _, rfl, upd_none e hly hy, _, rfl, ?_⟩
      rw [any_rep]
      refine iteC (b := false) rfl ?_
      have s4 := sx.trans s3
      have ea4 := (Same.tk s4).sq ea
      cases r with
      | call d' f' as =>
        dsimp only [Row.word] at ea4
        have hk := hn.ex.1
        rw [heads_len] at hk
        cases rx with
        | cons q1 rx =>
          cases rx with
          | cons q2 rx =>
            obtain rfl := q2.int_inv
            refine ⟨_, rfl, _, _, _, _, rfl, rfl, ea4, at0, rfl, _, rfl, ?_⟩
            refine iteC (b := true) (by decide +kernel) ?_
            refine ⟨_, rfl, _, _, _, _, rfl, rfl, ea4, atI_nat (j := 2) rfl, _, rfl, _, _, rfl, .inr ⟨_, (Same.tk s4).sq eca, rfl⟩, _, _, rfl, rfl, ?_⟩
            show Q (V.bl (decide (((cx.length : Nat) : Int) ≤ ((f' : Nat) : Int)))) _
            rw [decide_eq_false (by omega)]
            exact q _ s4
      | skip k => cases hs
      | unl s k => cases hs
      | give s => cases hs
      | _ =>
        dsimp only [Row.word] at ea4
        refine ⟨_, rfl, _, _, _, _, rfl, rfl, ea4, at0, rfl, _, rfl, ?_⟩
        refine iteC (b := false) (by decide +kernel) ?_
        refine ⟨_, rfl, _, _, _, _, rfl, rfl, ea4, at0, (by show 2 ≤ sizeLine; decide), fun t5 ht5 => ⟨_, _, rfl, .inr sqT_new, rfl, rfl, _, rfl, ?_⟩⟩
        refine iteC (b := false) (by decide +kernel) ?_
        exact q _ (s4.trans (same_tup ht5))
theorem falls_in (r : Row) : (!inV (.str r.word) [.str "give", .str "skip"]) = r.falls := by
  cases r <;> dsimp only [Row.word, Row.falls] <;> decide +kernel
theorem kdV_inj {a b : Option Kd} : kdV a = kdV b ↔ a = b := by
  constructor
  · intro h
    cases a with
    | none => cases b with
      | none => rfl
      | some k => cases h
    | some j => cases b with
      | none => cases h
      | some k =>
        have e := V.str.inj h
        cases j <;> cases k <;> first | rfl | exact absurd e (by decide +kernel)
  · intro h; rw [h]
theorem scal_kd (a b : Option Kd) : scal (kdV a) (kdV b) = true := by cases a <;> cases b <;> rfl
theorem ok_joined_kinds (T : Tx w K mg Z) : FnOk P w K mg base CX0 1 (Z.A 20) (Z.D 20) ["one", "other"] (spJoin K) := by
  refine T.joined_kinds.F.ok sc_joined_kinds (fun vs H Q E h => ?_) (fun cdv A outer s H vs Q E hr h => ?_)
  · obtain ⟨v1, v2, o, x, rfl, h1, h2, hx, hl, q⟩ := h
    rfl
  have hu := hu_of hr
  have hu0 := Nat.lt_of_succ_lt hu
  obtain ⟨v1, v2, o, x, rfl, h1, h2, hx, hl, q⟩ := h
  obtain ⟨xa, _, rfl, _⟩ := hx.tup_inv
  obtain ⟨xx, exa, rfl⟩ := kl_len hx
  refine ⟨_, (pss_cons (ps_if (pt_cmpR op_isN (pv 0) pe_non (nomark _)) (pss_one (ps_ret (pv 1))) pss_nil) (pss_one (ps_ret (pe_callTy call_tuple_of rfl T.tuple_ bt_tuple (pa_cons (pe_lc (own := [("kind", 2), ("unlike", 3)]) (g := gTup K 2 (gCons (gName 2) (gCons (gName 3) gNil))) (tt := tYes) rfl sc_joined_kinds.nd (RZ.pi_zipA rfl T.zip_ (pa_cons (pv 0) (pa_cons (pv 1) pa_nil))) (blkOk_by (own := [("kind", 2), ("unlike", 3)]) (N := N_joined_kinds) (sc := defScope s_joined_kinds) (by decide +kernel)) (fun _ _ _ _ _ => (pg_tup rfl (pgs_cons (pg_name (i := 2) sc_joined_kinds.nd rfl (by first | exact Or.inl rfl | exact Or.inr rfl)) (pgs_cons (pg_name (i := 3) sc_joined_kinds.nd rfl (by first | exact Or.inl rfl | exact Or.inr rfl)) pgs_nil)))) (fun _ _ _ _ _ => pts_nil) (fun _ _ _ _ _ => (pe_ifExp (pt_cmpR op_eq (pv 2) (pv 3) (nomark _)) (pv 2) pe_non))) pa_nil))))), ?_⟩
  cases o with
  | none =>
    obtain rfl := h2 rfl
    refine ⟨_, rfl, rfl, _, rfl, ?_⟩
    refine iteC (b := true) (by simp) ?_
    exact ⟨_, rfl, q _ _ (Same.refl _) hx⟩
  | some y =>
    obtain ⟨hy, hly⟩ := h1 y rfl
    obtain ⟨ya, _, rfl, _⟩ := hy.tup_inv
    obtain ⟨yy, eya, rfl⟩ := kl_len hy
    refine ⟨_, rfl, rfl, _, rfl, ?_⟩
    refine iteC (b := false) (by simp) ?_
    have hmin : x.length = min (y.map kdV).length (x.map kdV).length := by simp [hly]
    refine ⟨_, rfl, _, rfl, _, _, _, _, rfl, .inr ⟨eya, exa, fun D hD => lc_pure (walk_zipT hmin) (fun i z => ∃ a b, y[i]? = some a ∧ x[i]? = some b ∧ z = kdV (if a = b then a else none)) (by omega) hD (fun H1 s1 => ⟨(Same.tk s1).sq eya, (Same.tk s1).sq exa⟩) ?_ ?_ gPair_mono⟩⟩
    · rintro i z H3 H4 hi hs ⟨t3, z1, z2, rfl, ht3, rfl, hz1, hz2⟩
      dsimp only at hz1 hz2
      rw [List.getElem?_map] at hz1 hz2
      cases ey : y[i]? with
      | none => rw [ey] at hz1; cases hz1
      | some a =>
        cases ex : x[i]? with
        | none => rw [ex] at hz2; cases hz2
        | some b =>
          rw [ey] at hz1
          rw [ex] at hz2
          cases hz1
          cases hz2
          refine pair_go ⟨rfl, fun Q' q' => ?_⟩
          refine ⟨_, rfl, _, rfl, scal_kd a b, _, rfl, ?_⟩
          by_cases hab : a = b
          · refine iteC (b := true) (by rw [hab]; simp) ?_
            exact ⟨_, rfl, q' _ _ (same_tup ht3) ⟨a, b, rfl, rfl, by rw [if_pos hab]⟩⟩
          · refine iteC (b := false) (decide_eq_false fun e => hab (kdV_inj.mp e)) ?_
            exact q' _ _ (same_tup ht3) ⟨a, b, rfl, rfl, by rw [if_neg hab]; rfl⟩
    · intro H1 ys s1 e hly2 hPe
      have e2 : ys = (joinL y x).map kdV := by
        apply List.ext_getElem?
        intro i
        rw [List.getElem?_map]
        unfold joinL
        rw [List.getElem?_zipWith]
        cases ez : ys[i]? with
        | none =>
          have hi := List.getElem?_eq_none_iff.mp ez
          rw [List.getElem?_eq_none (by omega : y.length ≤ i)]
          rfl
        | some z =>
          obtain ⟨a, b, ea, eb, rfl⟩ := hPe i z ez
          rw [ea, eb]
          rfl
      refine ⟨_, _, rfl, .inl ⟨SqL.of e, fun p hp => ?_⟩⟩
      refine q _ _ (s1.trans (same_tup hp)) (kl_rp (l := joinL y x) ?_)
      rw [← e2]
      exact sqT_new
end
end Eo
set_option linter.all false
set_option maxRecDepth 100000
set_option maxHeartbeats 4000000
/-! E10: functions judged. -/
namespace Eo
open PySem L2
theorem ixN_nat {n j : Nat} (h : j < n) : ixN n (j : Int) = some j := by
  unfold ixN
  rw [if_pos (by omega), if_pos (by omega), Int.toNat_natCast]
/-- what stands in the judge's list for the kinds ahead of a row -/
def KR (K : PySem.W.Frag) (H : Hp) : V → Option KL → Prop
  | x, none => x = .non
  | x, some l => Rp K H x (klDt l)
structure KRs (K : PySem.W.Frag) (H : Hp) (xs : List V) (B : List (Option KL)) : Prop where
  len : xs.length = B.length
  at_ : ∀ (i : Nat) x o, xs[i]? = some x → B[i]? = some o → KR K H x o
theorem KR.tk {K : PySem.W.Frag} {H H' : Hp} (h : Tk H H') {x : V} {o : Option KL} (r : KR K H x o) : KR K H' x o := by
  cases o with
  | none => exact r
  | some l => exact Rp.tk h r
theorem KRs.tk {K : PySem.W.Frag} {H H' : Hp} (h : Tk H H') {xs : List V} {B : List (Option KL)} (r : KRs K H xs B) : KRs K H' xs B := ⟨r.len, fun i x o hx ho => (r.at_ i x o hx ho).tk h⟩
theorem KRs.get {K : PySem.W.Frag} {H : Hp} {xs : List V} {B : List (Option KL)} (r : KRs K H xs B) {i : Nat} {o : Option KL} (h : B[i]? = some o) : ∃ x, xs[i]? = some x ∧ KR K H x o := by
  have hi : i < xs.length := by rw [r.len]; exact (List.getElem?_eq_some_iff.mp h).1
  exact ⟨xs[i], List.getElem?_eq_getElem hi, r.at_ i _ o (List.getElem?_eq_getElem hi) h⟩
theorem KRs.set {K : PySem.W.Frag} {H : Hp} {xs : List V} {B : List (Option KL)} (r : KRs K H xs B) {t : Nat} {x : V} {l : KL} (hx : Rp K H x (klDt l)) : KRs K H (xs.set t x) (B.set t (some l)) := by
  refine ⟨by rw [List.length_set, List.length_set]; exact r.len, fun i y o hy ho => ?_⟩
  by_cases e : i = t
  · subst e
    have h1 : i < xs.length := by
      have := (List.getElem?_eq_some_iff.mp hy).1
      rwa [List.length_set] at this
    rw [List.getElem?_set_self h1] at hy
    rw [List.getElem?_set_self (by rw [← r.len]; exact h1)] at ho
    cases hy
    cases ho
    exact hx
  · rw [List.getElem?_set_ne (fun q => e q.symm)] at hy ho
    exact r.at_ i y o hy ho
/-- all that stands here of a code -/
structure CodeOk (c : Code) (AA : Nat → Nat → Option Ks) : Prop where
  ty : ∀ f fn, c[f]? = some fn → TypedBy (heads c) fn (AA f)
  len : c.length ≤ 1000
  regs : ∀ fn ∈ c, fn.regs ≤ 1000
  rows : ∀ fn ∈ c, fn.rows.length ≤ 1000
theorem NumOk.good {hs : Heads} {regs len : Nat} {r : Row} {i : Nat} (h : NumOk hs regs len r i) : RowGood r := by
  cases r <;> first | exact trivial | exact h.ex | exact h.ex.2
theorem CodeOk.fn {c : Code} {AA : Nat → Nat → Option Ks} (h : CodeOk c AA) : ∀ fn ∈ c, FnGood fn := by
  intro fn hm
  obtain ⟨f, hf⟩ := List.mem_iff_getElem?.mp hm
  refine ⟨(h.ty f fn hf).le, h.regs fn hm, h.rows fn hm, fun r hr => ?_⟩
  obtain ⟨j, hj⟩ := List.mem_iff_getElem?.mp hr
  exact ((h.ty f fn hf).num j r hj).good
def spTold (K : PySem.W.Frag) : Sp := fun vs H Q _ => ∃ (vc : V) (c : Code) (AA : Nat → Nat → Option Ks) (f : Nat) (fn : Fn), vs = [vc, .int f] ∧ Rp K H vc (codeDt c) ∧ CodeOk c AA ∧ c[f]? = some fn ∧
  ∀ t b xs H', Same H H' → SqT K H' t [.ref b, .non] → H' b = some (.lst xs) → Q (.ref t) H'
def spJudged (K : PySem.W.Frag) : Sp := fun vs H Q _ => ∃ (vc : V) (c : Code) (AA : Nat → Nat → Option Ks), vs = [vc] ∧ Rp K H vc (codeDt c) ∧ CodeOk c AA ∧
  ∀ t b H', Same H H' → SqT K H' t [.str "accepted", .ref b] → Q (.ref t) H'
def spAccepted (K : PySem.W.Frag) : Sp := fun vs H Q _ => ∃ (vc : V) (c : Code) (AA : Nat → Nat → Option Ks), vs = [vc] ∧ Rp K H vc (codeDt c) ∧ CodeOk c AA ∧ ∀ H', Same H H' → Q (.bl true) H'
def spNeedCode (K : PySem.W.Frag) : Sp := fun vs H Q _ => ∃ (vc : V) (c : Code) (AA : Nat → Nat → Option Ks), vs = [vc] ∧ Rp K H vc (codeDt c) ∧ CodeOk c AA ∧ ∀ H', Same H H' → Q .non H'
theorem ite_both {c : Bool} {A B : Prop} (hb : B) (ha : c = true → B → A) : if c = true then A else B := by
  cases c with
  | true => exact ha rfl hb
  | false => exact hb
section
variable {P : Program} {w : World} {K : PySem.W.Frag} {mg : Str → Option Value} {base : Heap} {Z : Wh}
theorem ok_fault_of (T : Tx w K mg Z) : FnOk P w K mg base CX0 2 (Z.A 19) (Z.D 19) ["code", "function", "row", "at", "kinds"] (spFault K) := by
  refine T.fault_of.F.ok sc_fault_of (fun vs H Q E h => ?_) (fun cdv A outer s H vs Q E hr h => ?_)
  · obtain ⟨vc, vf, v, vk, c, f, r, i, l, rfl, hc, hf, hv, hk, hg, hn, hll, ho, q⟩ := h
    rfl
  have hu := hu_of hr
  have hu0 := Nat.lt_of_succ_lt hu
  obtain ⟨vc, vf, v, vk, c, f, r, i, l, rfl, hc, hf, hv, hk, hg, hn, hll, ho, q⟩ := h
  obtain ⟨a, xs, rfl, ea, rx⟩ := row_rp hv
  obtain ⟨fa, fb, fx, rfl, efa, efb, rfx⟩ := fn_rp hf
  obtain ⟨ca, cx, rfl, eca, rcx⟩ := code_rp hc
  obtain ⟨ka, _, rfl, _⟩ := hk.tup_inv
  obtain ⟨kx, eka, rfl⟩ := kl_len hk
  have hlf : fx.length = f.rows.length := by rw [rfx.len, List.length_map]
  have hrl : r.reads.length ≤ 1002 := by
    cases r <;> simp [Row.reads]
    case call d f as => exact Nat.le_trans hg (by decide)
  refine ⟨_, (pss_cons (ps_if (PW.pt (pw_and (pt_cmpR op_notIn_seq (pe_ix ix_tup (pv 2) pe_int (fun _ _ => rfl)) (pe_tup (pa_cons pe_str (pa_cons pe_str pa_nil))) rfl) (pw_and1 (pt_cmpR op_eq (pe_op op_add (pv 3) pe_int) (pe_callB call_len rfl T.len_ bt_len (pa_cons (pe_ix ix_tup (pv 1) pe_int (fun _ _ => rfl)) pa_nil)) (nomark _))))) (pss_one (ps_ret pe_str)) pss_nil) (pss_cons (ps_setLc (i := 5) (own := [("cell", 6)]) (g := gName 6) (tt := tYes) rfl sc_fault_of.nd rfl rfl (sw_true rfl rfl rfl (by decide +kernel)) (pi_tup (pe_call (ok_cells_read T) (hr.mono (by decide)) rfl T.cells_read.m T.cells_read.F.kp T.cells_read.b .nil pass0 (pa_cons (pv 2) pa_nil))) (blkOk_by (own := [("cell", 6)]) (N := N_fault_of) (sc := defScope s_fault_of) (by decide +kernel)) (fun _ _ _ _ _ => (pg_name (i := 6) sc_fault_of.nd rfl (by first | exact Or.inl rfl | exact Or.inr rfl))) (fun _ _ _ _ _ => pts_nil) (fun _ _ _ _ _ => (pe_ix (r := rIxT K) ix_tup (pv 4) (pv 6) (fun _ _ => rfl)))) (pss_cons (ps_if (pt_cmpR op_in_seq pe_non (pv 5) rfl) (pss_one (ps_ret pe_str)) pss_nil) (pss_cons (ps_set (i := 7) sc_fault_of.nd rfl (by first | exact Or.inl rfl | exact Or.inr rfl) (pe_call (ok_wanted_kind T) (hr.mono (by decide)) rfl T.wanted_kind.m T.wanted_kind.F.kp T.wanted_kind.b .nil pass0 (pa_cons (pv 1) (pa_cons (pv 2) pa_nil)))) (pss_cons (ps_if (PW.pt (pw_and (pt_cmpR op_notN (pv 7) pe_non (nomark _)) (pw_and1 (pt_val (pe_callB (cr_any rfl) rfl T.any_ bt_any (pa_cons (pe_lc (own := [("kind", 8)]) (g := gName 8) (tt := tYes) rfl sc_fault_of.nd (pi_list (pv 5)) (blkOk_by (own := [("kind", 8)]) (N := N_fault_of) (sc := defScope s_fault_of) (by decide +kernel)) (fun _ _ _ _ _ => (pg_name (i := 8) sc_fault_of.nd rfl (by first | exact Or.inl rfl | exact Or.inr rfl))) (fun _ _ _ _ _ => pts_nil) (fun _ _ _ _ _ => (pe_cmpR op_ne (pv 8) (pv 7) (nomark _)))) pa_nil)))))) (pss_one (ps_ret pe_str)) pss_nil) (pss_one (ps_ret (pe_ifExp (PW.pt (pw_and (pt_cmpR op_eq (pe_ix ix_tup (pv 2) pe_int (fun _ _ => rfl)) pe_str (nomark _)) (pw_and1 (pt_cmpR op_ne (pe_callB call_len rfl T.len_ bt_len (pa_cons (pe_ix ix_tup (pv 2) pe_int (fun _ _ => rfl)) pa_nil)) (pe_ix ix_tup (pe_ix ix_tup (pv 0) (pe_ix ix_tup (pv 2) pe_int (fun _ _ => rfl)) (fun _ _ => rfl)) pe_int (fun _ _ => rfl)) (nomark _))))) pe_str pe_non)))))))), ?_⟩
  refine ⟨_, rfl, _, _, _, _, rfl, rfl, ea, at0, (by show 2 ≤ sizeLine; decide), fun t1 ht1 => ⟨_, _, rfl, .inr sqT_new, rfl, rfl, _, rfl, ?_⟩⟩
  have s1 : Same H (upd H t1 (.tup [.str "give", .str "skip"])) := same_tup ht1
  rw [falls_in]
  refine ite_both ?_ (fun hfl hB => ?_)
  case refine_2 =>
    have hlt := ho.fall hfl
    refine ⟨_, rfl, _, _, rfl, rfl, _, rfl, _, _, _, _, rfl, rfl, (Same.tk s1).sq efa, rfl, _, _, rfl, .inr ⟨_, (Same.tk s1).sq efb, rfl⟩, rfl, _, rfl, ?_⟩
    exact iteC (b := false) (decide_eq_false (fun e => by have := V.int.inj e; omega)) hB
  refine ⟨_, rfl, _, r, rfl, hv.same s1, hg, fun p1 H2 s2 e2 => ⟨p1, rfl, ⟨_, e2⟩, fun D hD => lc_pure walk_tup (fun i y => ∃ n k, r.reads[i]? = some n ∧ kf l n = some k ∧ y = .str k.str) (by simp only [natsV, List.length_map]; omega) hD (fun H3 s3 => (Same.tk s3).sq e2) ?_ ?_ gName_mono⟩⟩
  · rintro j x H3 H4 hi s3 ⟨rfl, hxj⟩
    obtain ⟨n, hn1, hm, rfl⟩ := natsV_at hxj
    obtain ⟨k, hk1, _⟩ := ho.rd n hm
    refine ⟨rfl, fun Q' q' => ⟨_, rfl, _, rfl, _, _, _, _, rfl, rfl, (Same.tk ((s1.trans s2).trans s3)).sq eka, atI_nat (v := .str k.str) ?_, q' _ _ (Same.refl _) ⟨n, k, hn1, hk1, rfl⟩⟩⟩
    rw [List.getElem?_map, kf_get hk1]
    rfl
  intro H3 ys s3 e3 hly hPe
  have s4 := (s1.trans s2).trans s3
  have hall : ys.all flatV = true := by
    rw [List.all_eq_true]
    intro y hy
    obtain ⟨j, hj⟩ := List.mem_iff_getElem?.mp hy
    obtain ⟨_, k, _, _, rfl⟩ := hPe j y hj
    rfl
  have hin : inV .non ys = false := by
    unfold inV
    rw [List.any_eq_false]
    intro y hy
    obtain ⟨j, hj⟩ := List.mem_iff_getElem?.mp hy
    obtain ⟨_, k, _, _, rfl⟩ := hPe j y hj
    simp [eqV]
  refine ⟨_, rfl, _, _, rfl, .inl (SqL.of e3), rfl, hall, _, rfl, ?_⟩
  refine iteC (b := false) hin ?_
  refine ⟨_, rfl, _, rfl, _, _, f, r, rfl, hf.same s4, hv.same s4, fun o hw => ?_⟩
  refine ⟨_, rfl, rfl, _, rfl, ?_⟩
  cases o with
  | none =>
      refine iteC (b := false) (by simp [kdV]) ?_
      have s5 := s4
      have ea5 := (Same.tk s5).sq ea
      cases r with
      | call d f' as =>
        dsimp only [Row.word] at ea5
        obtain ⟨hh, eh, hm⟩ := ho.many d f' as rfl
        obtain ⟨gn, eg, rfl⟩ := heads_get eh
        obtain ⟨fv, hfv, rfv⟩ := get_map rcx eg
        obtain ⟨ga, gb, gx, rfl, ega, egb, _⟩ := fn_rp rfv
        cases rx with
        | cons q1 rx =>
          cases rx with
          | cons q2 rx =>
            obtain rfl := q2.int_inv
            cases rx with
            | cons q3 rx =>
              obtain ⟨aa, rfl, eaa⟩ := nats_rp q3
              refine ⟨_, rfl, _, _, _, _, rfl, rfl, ea5, at0, rfl, _, rfl, ?_⟩
              refine iteC (b := true) (by decide +kernel) ?_
              refine ⟨_, rfl, _, _, _, _, rfl, rfl, ea5, atI_nat (j := 3) rfl, _, _, rfl, .inr ⟨_, (Same.tk s5).sq eaa, rfl⟩, _, rfl, _, rfl, _, _, _, _, rfl, rfl, ea5, atI_nat (j := 2) rfl, _, _, _, _, rfl, rfl, (Same.tk s5).sq eca, atI_nat hfv, _, _, _, _, rfl, rfl, (Same.tk s5).sq ega, rfl, rfl, _, rfl, ?_⟩
              refine iteC (b := false) (by simp only [natsV, List.length_map, hm]; simp [Fn.head]) ?_
              exact q _ s5
      | _ =>
        dsimp only [Row.word] at ea5
        refine ⟨_, rfl, _, _, _, _, rfl, rfl, ea5, at0, rfl, _, rfl, ?_⟩
        refine iteC (b := false) (by decide +kernel) ?_
        exact q _ s5
  | some k =>
      refine iteC (b := true) (by simp [kdV]) ?_
      refine ⟨_, rfl, _, rfl, ⟨_, SqL.of e3⟩, fun D2 hD2 => lc_pure walk_list (fun _ y => y = .bl false) (by rw [hly]; simp only [natsV, List.length_map]; omega) hD2 (fun H5 s5 => SqL.of (s5 _ _ e3)) ?_ ?_ gName_mono⟩
      · rintro j x H4 H5 hi s5 ⟨rfl, hxj⟩
        obtain ⟨n, k', hn1, hk1, rfl⟩ := hPe j x hxj
        have hm := List.mem_of_getElem? hn1
        obtain ⟨k2, hk2, hk3⟩ := ho.rd n hm
        have ek : k' = k := by
          have := hk3 k (hw k rfl ⟨n, hm⟩)
          rw [hk1] at hk2
          rw [Option.some.inj hk2, this]
        refine ⟨rfl, fun Q' q' => ⟨_, rfl, _, rfl, rfl, q' _ _ (Same.refl _) ?_⟩⟩
        rw [ek]
        simp [kdV]
      intro H4 zs s5' e5 hlz hz
      have s5 := s4.trans s5'
      refine ⟨_, _, rfl, upd_none e5 hlz hz, _, rfl, ?_⟩
      rw [any_rep]
      refine iteC (b := false) rfl ?_
      have ea5 := (Same.tk s5).sq ea
      cases r with
      | call d f' as =>
        dsimp only [Row.word] at ea5
        obtain ⟨hh, eh, hm⟩ := ho.many d f' as rfl
        obtain ⟨gn, eg, rfl⟩ := heads_get eh
        obtain ⟨fv, hfv, rfv⟩ := get_map rcx eg
        obtain ⟨ga, gb, gx, rfl, ega, egb, _⟩ := fn_rp rfv
        cases rx with
        | cons q1 rx =>
          cases rx with
          | cons q2 rx =>
            obtain rfl := q2.int_inv
            cases rx with
            | cons q3 rx =>
              obtain ⟨aa, rfl, eaa⟩ := nats_rp q3
              refine ⟨_, rfl, _, _, _, _, rfl, rfl, ea5, at0, rfl, _, rfl, ?_⟩
              refine iteC (b := true) (by decide +kernel) ?_
              refine ⟨_, rfl, _, _, _, _, rfl, rfl, ea5, atI_nat (j := 3) rfl, _, _, rfl, .inr ⟨_, (Same.tk s5).sq eaa, rfl⟩, _, rfl, _, rfl, _, _, _, _, rfl, rfl, ea5, atI_nat (j := 2) rfl, _, _, _, _, rfl, rfl, (Same.tk s5).sq eca, atI_nat hfv, _, _, _, _, rfl, rfl, (Same.tk s5).sq ega, rfl, rfl, _, rfl, ?_⟩
              refine iteC (b := false) (by simp only [natsV, List.length_map, hm]; simp [Fn.head]) ?_
              exact q _ s5
      | _ =>
        dsimp only [Row.word] at ea5
        refine ⟨_, rfl, _, _, _, _, rfl, rfl, ea5, at0, rfl, _, rfl, ?_⟩
        refine iteC (b := false) (by decide +kernel) ?_
        exact q _ s5
end
end Eo
set_option linter.all false
set_option maxRecDepth 100000
set_option maxHeartbeats 4000000
/-! E11: code judged. -/
namespace Eo
open PySem L2
theorem succs_lt {hs : Heads} {fk : Kd} {regs len : Nat} {r : Row} {i t : Nat} {ks : Ks} (hn : NumOk hs regs len r i) (ho : RowOk hs fk len r i ks) (ht : t ∈ r.succs i) : i + 1 ≤ t ∧ t < len := by
  have fall := ho.fall
  have hx := hn.ex
  cases r <;> simp only [Row.succs, List.mem_cons, List.not_mem_nil, or_false] at ht <;> first
    | (subst ht; exact ⟨Nat.le_refl _, fall rfl⟩)
    | (subst ht; exact ⟨hx.1, hx.2⟩)
    | (rcases ht with rfl | rfl
       · exact ⟨Nat.le_refl _, fall rfl⟩
       · exact ⟨hx.1, hx.2⟩)
theorem rep_flat (n : Nat) (v : V) : (List.replicate n [v]).flatten = List.replicate n v := by
  induction n with
  | zero => rfl
  | succ n ih => rw [List.replicate_succ, List.flatten_cons, ih, List.replicate_succ]; rfl
theorem start_map (m n : Nat) : List.replicate m (V.str "place") ++ List.replicate n V.non = (List.replicate m (some Kd.place) ++ List.replicate n (none : Option Kd)).map kdV := by
  simp [kdV, Kd.str]
theorem KRs.start {K : PySem.W.Frag} {H : Hp} {n : Nat} {p : V} {l : KL} (h : Rp K H p (klDt l)) : KRs K H ((List.replicate n V.non).set 0 p) ((List.replicate n (none : Option KL)).set 0 (some l)) := by
  refine KRs.set ⟨by simp, fun i x o hx ho => ?_⟩ h
  rw [List.getElem?_replicate] at hx ho
  by_cases hi : i < n
  · rw [if_pos hi] at hx ho
    cases hx
    cases ho
    rfl
  · rw [if_neg hi] at hx
    cases hx
section
variable {P : Program} {w : World} {K : PySem.W.Frag} {mg : Str → Option Value} {base : Heap} {Z : Wh}
theorem ok_function_told (T : Tx w K mg Z) : FnOk P w K mg base CX0 3 (Z.A 21) (Z.D 21) ["code", "f"] (spTold K) := by
  refine T.function_told.F.ok sc_function_told (fun vs H Q E h => ?_) (fun cdv A outer s H vs Q E hr h => ?_)
  · obtain ⟨vc, c, AA, f, fn, rfl, hc, hok, hf, q⟩ := h
    rfl
  have hu := hu_of hr
  have hu0 := Nat.lt_of_succ_lt hu
  obtain ⟨vc, c, AA, f, fn, rfl, hc, hok, hf, q⟩ := h
  obtain ⟨ca, cx, rfl, eca, rcx⟩ := code_rp hc
  obtain ⟨fv, hfv, rfv⟩ := get_map rcx hf
  have rfv' := rfv
  obtain ⟨fa, fb, fx, rfl, efa, efb, rfx⟩ := fn_rp rfv
  have hm := List.mem_of_getElem? hf
  have hT := hok.ty f fn hf
  have hlf : fx.length = fn.rows.length := by rw [rfx.len, List.length_map]
  have hne := hT.ne
  have hle := hT.le
  have hreg := hok.regs fn hm
  have hrow := hok.rows fn hm
  refine ⟨_, (pss_cons (ps_set (i := 2) sc_function_told.nd rfl (by first | exact Or.inl rfl | exact Or.inr rfl) (pe_ix ix_tup (pv 0) (pv 1) (fun _ _ => rfl))) (pss_cons (ps_set (i := 3) sc_function_told.nd rfl (by first | exact Or.inl rfl | exact Or.inr rfl) (pe_ix ix_tup (pv 2) pe_int (fun _ _ => rfl))) (pss_cons (ps_if (pt_cmpR (op_eqNilT hu0) (pv 3) (pe_tup pa_nil) (nomark _)) (pss_one (ps_ret (pe_tup (pa_cons pe_non (pa_cons (pe_tup (pa_cons pe_int (pa_cons pe_str pa_nil))) pa_nil))))) pss_nil) (pss_cons (ps_set (i := 4) sc_function_told.nd rfl (by first | exact Or.inl rfl | exact Or.inr rfl) (pe_op op_rep (pe_lst (pa_cons pe_non pa_nil)) (pe_callB call_len rfl T.len_ bt_len (pa_cons (pv 3) pa_nil)))) (pss_cons (ps_asg (pe_op op_catS (pe_op op_rep1 (pe_tup (pa_cons pe_str pa_nil)) (pe_ix ix_tup (pv 2) pe_int (fun _ _ => rfl))) (pe_op op_rep1 (pe_tup (pa_cons pe_non pa_nil)) (pe_op op_sub (pe_ix ix_tup (pv 2) pe_int (fun _ _ => rfl)) (pe_ix ix_tup (pv 2) pe_int (fun _ _ => rfl))))) (pg_sub (pv 4) pe_int set_list)) (pss_cons (ps_for PassesOwn.never rfl (pi_enumT rfl T.enumerate_ (pa_cons (pv 3) pa_nil)) (pg_tup rfl (pgs_cons (pg_name (i := 5) sc_function_told.nd rfl (by first | exact Or.inl rfl | exact Or.inr rfl)) (pgs_cons (pg_name (i := 6) sc_function_told.nd rfl (by first | exact Or.inl rfl | exact Or.inr rfl)) pgs_nil))) (pss_cons (ps_if (pt_val (pe_call (ok_has_bad_number T) (hr.mono (by decide)) rfl T.has_bad_number.m T.has_bad_number.F.kp T.has_bad_number.b .nil pass0 (pa_cons (pv 0) (pa_cons (pv 2) (pa_cons (pv 6) (pa_cons (pv 5) pa_nil)))))) (pss_one (ps_ret (pe_tup (pa_cons pe_non (pa_cons (pe_tup (pa_cons (pv 5) (pa_cons pe_str pa_nil))) pa_nil))))) pss_nil) (pss_one (ps_if (pt_cmpR op_notN (pe_ix ix_list (pv 4) (pv 5) (fun _ _ => rfl)) pe_non (nomark _)) (pss_cons (ps_set (i := 7) sc_function_told.nd rfl (by first | exact Or.inl rfl | exact Or.inr rfl) (pe_call (ok_fault_of T) (hr.mono (by decide)) rfl T.fault_of.m T.fault_of.F.kp T.fault_of.b .nil pass0 (pa_cons (pv 0) (pa_cons (pv 2) (pa_cons (pv 6) (pa_cons (pv 5) (pa_cons (pe_ix ix_list (pv 4) (pv 5) (fun _ _ => rfl)) pa_nil))))))) (pss_cons (ps_if (pt_cmpR op_notN (pv 7) pe_non (nomark _)) (pss_one (ps_ret (pe_tup (pa_cons pe_non (pa_cons (pe_tup (pa_cons (pv 5) (pa_cons (pv 7) pa_nil))) pa_nil))))) pss_nil) (pss_cons (ps_set (i := 8) sc_function_told.nd rfl (by first | exact Or.inl rfl | exact Or.inr rfl) (pe_call (ok_kinds_after T) (hr.mono (by decide)) rfl T.kinds_after.m T.kinds_after.F.kp T.kinds_after.b .nil pass0 (pa_cons (pv 0) (pa_cons (pv 6) (pa_cons (pe_ix ix_list (pv 4) (pv 5) (fun _ _ => rfl)) pa_nil))))) (pss_one (ps_for PassesOwn.never rfl (pi_list (pe_call (ok_rows_after T) (hr.mono (by decide)) rfl T.rows_after.m T.rows_after.F.kp T.rows_after.b .nil pass0 (pa_cons (pv 6) (pa_cons (pv 5) pa_nil)))) (pg_name (i := 9) sc_function_told.nd rfl (by first | exact Or.inl rfl | exact Or.inr rfl)) (pss_one (ps_asg (pe_call (ok_joined_kinds T) (hr.mono (by decide)) rfl T.joined_kinds.m T.joined_kinds.F.kp T.joined_kinds.b .nil pass0 (pa_cons (pe_ix ix_list (pv 4) (pv 9) (fun _ _ => rfl)) (pa_cons (pv 8) pa_nil))) (pg_sub (pv 4) (pv 9) set_list)))))))) pss_nil)))) (pss_one (ps_ret (pe_tup (pa_cons (pv 4) (pa_cons pe_non pa_nil))))))))))), ?_⟩
  refine ⟨_, rfl, _, rfl, _, _, _, _, rfl, rfl, eca, atI_nat hfv, ?_⟩
  refine ⟨_, rfl, _, _, _, _, rfl, rfl, efa, rfl, ?_⟩
  refine ⟨_, rfl, (by show 0 ≤ sizeLine; decide), fun t0 ht0 => ⟨_, _, _, rfl, rfl, (Same.tk (same_tup ht0)).sq efb, sqT_new, _, rfl, ?_⟩⟩
  have hfx : fx.isEmpty = false := by
    cases fx with
    | nil => simp at hlf; omega
    | cons a b => rfl
  refine iteC (b := false) hfx ?_
  have s0 : Same H (upd H t0 (.tup [])) := same_tup ht0
  refine ⟨(by show 1 ≤ sizeLine; decide), fun l0 hl0 => ⟨_, rfl, _, _, rfl, .inr ⟨_, (Same.tk (s0.trans (same_new hl0))).sq efb, rfl⟩, _, _, _, rfl, rfl, upd_same, by omega, by omega, ?_, fun l1 hl1 => ?_⟩⟩
  · simp only [List.length_cons, List.length_nil, hlf]
    exact Nat.le_trans (by omega : _ ≤ 1000) (by decide)
  have s1 := (s0.trans (same_new (o := .lst [V.non]) hl0)).trans (same_new (o := .lst (List.replicate ((fx.length : Int)).toNat [V.non]).flatten) hl1)
  have hHl1 : H l1 = none := (s0.trans (same_new (o := .lst [V.non]) hl0)).free hl1
  have hx1 : (upd (upd (upd H t0 (.tup [])) l0 (.lst [V.non])) l1 (.lst (List.replicate ((fx.length : Int)).toNat [V.non]).flatten)) l1 = some (.lst (List.replicate fn.rows.length V.non)) := by
    rw [upd_same, rep_flat, Int.toNat_natCast, hlf]
  refine ⟨(by show 1 ≤ sizeLine; decide), fun t1 ht1 => ⟨_, rfl, _, _, _, _, rfl, rfl, (Same.tk (s1.trans (same_tup ht1))).sq efa, rfl, _, _, _, rfl, rfl, sqT_new, by omega, by omega, fun p2 H2 s2 e2 => ?_⟩⟩
  have s3 := (s1.trans (same_tup (xs := [V.str "place"]) ht1)).trans s2
  refine ⟨(by show 1 ≤ sizeLine; decide), fun t3 ht3 => ⟨_, rfl, _, _, _, _, rfl, rfl, (Same.tk (s3.trans (same_tup ht3))).sq efa, rfl, _, rfl, _, _, _, _, rfl, rfl, (Same.tk (s3.trans (same_tup ht3))).sq efa, rfl, _, _, rfl, rfl, _, _, _, rfl, rfl, sqT_new, by omega, by omega, fun p4 H4 s4 e4 => ?_⟩⟩
  have e2' := (Same.tk ((same_tup (xs := [V.non]) ht3).trans s4)).sq e2
  refine ⟨_, _, _, _, rfl, rfl, e2', e4, ?_, fun p5 H5 s5 e5 => ?_⟩
  · simp only [List.length_replicate]
    exact Nat.le_trans (by omega : _ ≤ 3000) (by decide)
  have s6 := ((s3.trans (same_tup (xs := [V.non]) ht3)).trans s4).trans s5
  have hx5 : H5 l1 = some (.lst (List.replicate fn.rows.length V.non)) := s5 _ _ (s4 _ _ (same_tup ht3 _ _ (s2 _ _ (same_tup ht1 _ _ hx1))))
  have hreg2 : ((fn.regs : Int) - (fn.many : Int)).toNat = fn.regs - fn.many := by omega
  have e5' : Rp K H5 (.ref p5) (klDt (start0 fn.many fn.regs)) := by
    refine kl_rp ?_
    unfold start0
    rw [← start_map, ← hreg2]
    exact e5
  refine ⟨_, rfl, _, _, _, _, rfl, rfl, hx5, ixN_nat (j := 0) (by simpa using hne), ?_⟩
  have hx6 : (upd H5 l1 (.lst ((List.replicate fn.rows.length V.non).set 0 (.ref p5)))) l1 = some (.lst ((List.replicate fn.rows.length V.non).set 0 (.ref p5))) := upd_same
  have s7 : Same H (upd H5 l1 (.lst ((List.replicate fn.rows.length V.non).set 0 (.ref p5)))) := same_at s6 hHl1
  have tk6 := tk_lst (ys := (List.replicate fn.rows.length V.non).set 0 (.ref p5)) hx5
  refine ⟨_, rfl, _, _, rfl, (Same.tk s7).sq efb, for_it walk_enumT (fun i σ H' => ∃ o5 o6 o7 o8 o9 B xs, σ = [some (.ref ca), some (.int f), some (.ref fa), some (.ref fb), some (.ref l1), o5, o6, o7, o8, o9] ∧ Same H H' ∧ H' l1 = some (.lst xs) ∧ KRs K H' xs B ∧ Told fn (AA f) i B)
    ⟨none, none, none, none, none, _, _, rfl, s7, hx6, KRs.start (e5'.tk tk6), Told.start hT⟩ (fun i σ H' _ ⟨_, _, _, _, _, _, _, _, s, _⟩ => (Same.tk s).sq efb) ?_ ?_⟩
  · rintro i x σ H7 H8 hi ⟨o5, o6, o7, o8, o9, B, xs, rfl, s8, hx8, hK, hB⟩ ⟨t9, y1, y2, rfl, ht9, rfl, hy1, hy2⟩
    cases hy1
    obtain ⟨r, hr1, hrm, rdr⟩ := at_map rfx hy2
    have hnum := hT.num i r hr1
    refine pair_go ?_
    have s9 := s8.trans (same_tup (xs := [V.int (i : Nat), y2]) ht9)
    have hlt9 : l1 ≠ t9 := ne_of_none hx8 ht9
    have hx9 : (upd H7 t9 (.tup [V.int (i : Nat), y2])) l1 = some (.lst xs) := by rw [upd_ne hlt9]; exact hx8
    have tk9 := Same.tk (same_tup (xs := [V.int (i : Nat), y2]) ht9)
    have hK9 := hK.tk tk9
    refine ⟨_, rfl, _, rfl, _, rfl, _, rfl, _, _, _, c, fn, r, i, rfl, hc.same s9, rfv'.same s9, rdr.same s9, hnum.good, hnum, fun H10 s10 => ⟨_, rfl, ?_⟩⟩
    refine iteC (b := false) rfl ?_
    have s11 := s9.trans s10
    have hx11 := s10 _ _ hx9
    have hK11 := hK9.tk (Same.tk s10)
    have hiB : i < B.length := by rw [hB.len, ← hlf]; exact hi
    obtain ⟨z, hz, hKz⟩ := hK11.get (List.getElem?_eq_getElem hiB)
    refine ⟨_, rfl, _, rfl, _, _, _, _, rfl, rfl, SqL.of hx11, atI_nat hz, rfl, _, rfl, ?_⟩
    cases hBi : B[i] with
    | none =>
      rw [hBi] at hKz
      cases hKz
      refine iteC (b := false) (by simp) ?_
      exact ⟨_, _, _, _, _, B, xs, rfl, s11, hx11, hK11, hB.next⟩
    | some bs =>
      rw [hBi] at hKz
      have hBi' : B[i]? = some (some bs) := by rw [List.getElem?_eq_getElem hiB, hBi]
      have hbl := hB.reg i bs hBi'
      obtain ⟨ka, hka, hle2⟩ := hB.le i bs (Nat.le_refl _) hBi'
      have hrok := hT.ok i r ka hr1 hka
      have hrok2 := hrok.mono hle2
      obtain ⟨za, _, rfl, _⟩ := Rp.tup_inv hKz
      refine iteC (b := true) (by simp) ?_
      refine ⟨_, rfl, _, rfl, _, rfl, _, rfl, _, rfl, _, rfl, _, _, _, _, rfl, rfl, SqL.of hx11, atI_nat hz, _, _, _, _, c, fn, r, i, bs, rfl, hc.same s11, rfv'.same s11, rdr.same s11, hKz, hnum.good, hnum, hbl, hrok2, fun H12 s12 => ?_⟩
      refine ⟨_, rfl, rfl, _, rfl, ?_⟩
      refine iteC (b := false) (by simp) ?_
      have s13 := s11.trans s12
      have hx13 := s12 _ _ hx11
      have hcl : ∀ d f' as, r = .call d f' as → f' < c.length := fun d f' as e => by
        subst e
        have := hnum.ex.1
        rwa [heads_len] at this
      have hmv : ∀ d s, r = .move d s → s < bs.length := fun d s e => by
        subst e
        rw [hbl]
        exact hnum.rd s (by simp [Row.reads])
      have hst : ∀ d, r.sets = some d → d < bs.length := fun d e => by rw [hbl]; exact hnum.st d e
      refine ⟨_, rfl, _, rfl, _, rfl, _, rfl, _, _, _, _, rfl, rfl, SqL.of hx13, atI_nat hz, _, _, _, c, r, bs, rfl, hc.same s13, rdr.same s13, Rp.same s12 hKz, by omega, hst, hmv, hcl, fun y H14 s14 hy => ?_⟩
      have s15 := s13.trans s14
      refine ⟨_, rfl, _, rfl, _, r, i, rfl, rdr.same s15, fun p H16 s16 hp e16 => ⟨p, rfl, ⟨_, SqL.of e16⟩, ?_⟩⟩
      have hx16 := s16 _ _ (s14 _ _ hx13)
      have hyl : (afterL (heads c) r bs).length = fn.regs := by rw [afterL_len, hbl]
      have hpl : p ≠ l1 := fun e => by subst e; rw [s14 _ _ hx13] at hp; cases hp
      refine for_it walk_list (fun j σ H' => ∃ o9 B xs, σ = [some (.ref ca), some (.int f), some (.ref fa), some (.ref fb), some (.ref l1), some (.int (i : Nat)), some y2, some .non, some y, o9] ∧ Same H H' ∧ H' p = some (.lst (natsV (r.succs i))) ∧ H' l1 = some (.lst xs) ∧ KRs K H' xs B ∧ Told fn (AA f) (i + 1) B ∧ Rp K H' y (klDt (afterL (heads c) r bs)))
        ⟨_, B, xs, rfl, s15.trans s16, e16, hx16, (hK11.tk (Same.tk s12)).tk (Same.tk (Same.trans s14 s16)), hB.next, hy.same s16⟩ (fun j σ H' _ ⟨_, _, _, _, _, e, _⟩ => SqL.of e) ?_ ?_
      · rintro j x σ H17 H18 hj ⟨o9', B', xs', rfl, s17, hp17, hx17, hK17, hB17, hy17⟩ ⟨rfl, hxj⟩
        obtain ⟨t, _, ht, rfl⟩ := natsV_at hxj
        obtain ⟨hit, htl⟩ := succs_lt hnum hrok ht
        obtain ⟨ks', hks', hle3⟩ := hT.to i r ka hr1 hka t ht
        have htB : t < B'.length := by rw [hB17.len]; exact htl
        obtain ⟨z2, hz2, hKz2⟩ := hK17.get (List.getElem?_eq_getElem htB)
        have htx : t < xs'.length := by rw [hK17.len]; exact htB
        refine ⟨_, rfl, _, rfl, _, _, _, _, rfl, rfl, SqL.of hx17, atI_nat hz2, _, rfl, _, _, B'[t], afterL (heads c) r bs, rfl, ?_, ?_, hy17, by omega, fun y3 H19 s19 hy3 => ?_⟩
        · intro l hl
          rw [hl] at hKz2
          exact ⟨hKz2, by rw [hyl]; exact hB17.reg t l (by rw [List.getElem?_eq_getElem htB, hl])⟩
        · intro hl
          rw [hl] at hKz2
          exact hKz2
        · have hx19 := s19 _ _ hx17
          refine ⟨_, rfl, _, rfl, _, _, _, _, rfl, rfl, hx19, ixN_nat htx, ?_⟩
          have tk20 := (Same.tk s19).trans (tk_lst (ys := xs'.set t y3) hx19)
          refine ⟨_, B'.set t (some (joinO B'[t] (afterL (heads c) r bs))), _, rfl, same_at (s17.trans s19) hHl1, by rw [upd_ne hpl]; exact s19 _ _ hp17, upd_same, ?_, ?_, hy17.tk tk20⟩
          · exact (hK17.tk tk20).set (hy3.tk (tk_lst hx19))
          · refine hB17.join hit (List.getElem?_eq_getElem htB) hyl hks' ?_
            rw [kf_afterL hst]
            exact hle3.trans (after_mono hle2)
      · rintro σ H17 ⟨o9', B', xs', rfl, s17, hp17, hx17, hK17, hB17, hy17⟩
        exact ⟨_, _, _, _, _, B', xs', rfl, s17, hx17, hK17, hB17⟩
  · rintro σ H7 ⟨o5, o6, o7, o8, o9, B, xs, rfl, s8, hx8, hK, hB⟩
    refine ⟨_, rfl, (by show 2 ≤ sizeLine; decide), fun t ht => ?_⟩
    have hlt : l1 ≠ t := ne_of_none hx8 ht
    exact q t l1 xs _ (s8.trans (same_tup ht)) sqT_new (by rw [upd_ne hlt]; exact hx8)
theorem ok_judged (T : Tx w K mg Z) : FnOk P w K mg base CX0 4 (Z.A 22) (Z.D 22) ["code"] (spJudged K) := by
  refine T.judged.F.ok sc_judged (fun vs H Q E h => ?_) (fun cdv A outer s H vs Q E hr h => ?_)
  · obtain ⟨vc, c, AA, rfl, hc, hok, q⟩ := h
    rfl
  have hu := hu_of hr
  have hu0 := Nat.lt_of_succ_lt hu
  obtain ⟨vc, c, AA, rfl, hc, hok, q⟩ := h
  obtain ⟨ca, cx, rfl, eca, rcx⟩ := code_rp hc
  have hlc : cx.length = c.length := by rw [rcx.len, List.length_map]
  have hcl := hok.len
  refine ⟨_, (pss_cons (ps_set (i := 1) sc_judged.nd rfl (by first | exact Or.inl rfl | exact Or.inr rfl) (pe_lst pa_nil)) (pss_cons (ps_for PassesOwn.never rfl (pi_range1 rfl T.range_ (pa_cons (pe_callB call_len rfl T.len_ bt_len (pa_cons (pv 0) pa_nil)) pa_nil)) (pg_name (i := 2) sc_judged.nd rfl (by first | exact Or.inl rfl | exact Or.inr rfl)) (pss_cons (ps_asg (pe_call (ok_function_told T) (hr.mono (by decide)) rfl T.function_told.m T.function_told.F.kp T.function_told.b .nil pass0 (pa_cons (pv 0) (pa_cons (pv 2) pa_nil))) (pg_tup rfl (pgs_cons (pg_name (i := 3) sc_judged.nd rfl (by first | exact Or.inl rfl | exact Or.inr rfl)) (pgs_cons (pg_name (i := 4) sc_judged.nd rfl (by first | exact Or.inl rfl | exact Or.inr rfl)) pgs_nil)))) (pss_cons (ps_if (pt_cmpR op_notN (pv 4) pe_non (nomark _)) (pss_one (ps_ret (pe_op op_catS (pe_tup (pa_cons pe_str (pa_cons (pv 2) pa_nil))) (pv 4)))) pss_nil) (pss_one (ps_expr (pe_bm PySem.F.plainAttrs_list PySem.F.slot_list_append PySem.F.type_list_append mt_append (pv 1) (pa_cons (pe_callTy call_tuple_of rfl T.tuple_ bt_tuple (pa_cons (pv 3) pa_nil)) pa_nil))))))) (pss_one (ps_ret (pe_tup (pa_cons pe_str (pa_cons (pe_callTy call_tuple_of rfl T.tuple_ bt_tuple (pa_cons (pv 1) pa_nil)) pa_nil))))))), ?_⟩
  refine ⟨(by show 0 ≤ sizeLine; decide), fun d hd => ?_⟩
  refine ⟨_, rfl, _, _, rfl, .inr ⟨_, (Same.tk (same_new hd)).sq eca, rfl⟩, _, rfl, by omega, by omega, ?_⟩
  rw [Int.toNat_natCast]
  refine for_range (fun i σ H' => ∃ o2 o3 o4 xs, σ = [some (.ref ca), some (.ref d), o2, o3, o4] ∧ Same H H' ∧ H' d = some (.lst xs) ∧ xs.length = i) ⟨none, none, none, [], rfl, same_new hd, upd_same, rfl⟩ ?_ ?_
  · rintro i σ H1 hi ⟨o2, o3, o4, xs, rfl, s1, hx, hl⟩
    have hic : i < c.length := by omega
    have e0 : (0 : Int) + (i : Int) = ((i : Nat) : Int) := by omega
    rw [e0]
    refine ⟨_, rfl, _, rfl, _, c, AA, i, c[i], rfl, hc.same s1, hok, List.getElem?_eq_getElem hic, fun t b ys H2 s2 e2 hb => ⟨t, _, rfl, e2, rfl, _, _, rfl, _, _, rfl, rfl, ?_⟩⟩
    refine ⟨_, rfl, rfl, _, rfl, ?_⟩
    refine iteC (b := false) (by simp) ?_
    have hx2 := s2 _ _ hx
    refine ⟨_, rfl, .inl ⟨rfl, _, SqL.of hx2⟩, _, rfl, _, _, rfl, .inl ⟨SqL.of hb, fun p hp => ?_⟩⟩
    have hdp : d ≠ p := ne_of_none hx2 hp
    have hx3 : (upd H2 p (.tup ys)) d = some (.lst xs) := by rw [upd_ne hdp]; exact hx2
    refine ⟨_, _, _, rfl, rfl, hx3, Nat.lt_of_le_of_lt (by omega : xs.length ≤ 1000) (by decide), ?_⟩
    exact ⟨_, _, _, _, rfl, same_at ((s1.trans s2).trans (same_tup hp)) hd, upd_same, by simp [hl]⟩
  · rintro σ H1 ⟨o2, o3, o4, xs, rfl, s1, hx, hl⟩
    refine ⟨_, rfl, _, _, rfl, .inl ⟨SqL.of hx, fun p hp => ⟨(by show 2 ≤ sizeLine; decide), fun t ht => ?_⟩⟩⟩
    exact q t p _ ((s1.trans (same_tup hp)).trans (same_tup ht)) sqT_new
theorem ok_is_accepted_value (T : Tx w K mg Z) : FnOk P w K mg base CX0 8 (Z.A 23) (Z.D 23) ["thing"] (spAccepted K) := by
  refine T.is_accepted_value.F.ok sc_is_accepted_value (fun vs H Q E h => ?_) (fun cdv A outer s H vs Q E hr h => ?_)
  · obtain ⟨vc, c, AA, rfl, hc, hok, q⟩ := h
    rfl
  have hu := hu_of hr
  have hu0 := Nat.lt_of_succ_lt hu
  obtain ⟨vc, c, AA, rfl, hc, hok, q⟩ := h
  refine ⟨_, (pss_one (ps_ret (pe_and (pe_call (ok_is_code_value T) (hr.mono (by decide)) rfl T.is_code_value.m T.is_code_value.F.kp T.is_code_value.b .nil pass0 (pa_cons (pv 0) pa_nil)) (pe_one (pe_cmpR op_eq (pe_ix ix_tup (pe_call (ok_judged T) (hr.mono (by decide)) rfl T.judged.m T.judged.F.kp T.judged.b .nil pass0 (pa_cons (pv 0) pa_nil)) pe_int (fun _ _ => rfl)) pe_str (nomark _)))))), ?_⟩
  refine ⟨_, rfl, _, c, rfl, hc, hok.fn, hok.len, fun H1 s1 => ⟨_, rfl, ?_⟩⟩
  refine iteC (b := true) rfl ?_
  refine ⟨_, rfl, _, c, AA, rfl, hc.same s1, hok, fun t b H2 s2 e2 => ?_⟩
  refine ⟨_, _, _, _, rfl, rfl, e2, rfl, rfl, ?_⟩
  have e : decide (V.str "accepted" = V.str "accepted") = true := decide_eq_true rfl
  rw [e]
  exact q _ (s1.trans s2)
theorem ok_need_code (T : Tx w K mg Z) : FnOk P w K mg base CX0 9 (Z.A 24) (Z.D 24) ["code"] (spNeedCode K) := by
  refine T.need_code.F.ok sc_need_code (fun vs H Q E h => ?_) (fun cdv A outer s H vs Q E hr h => ?_)
  · obtain ⟨vc, c, AA, rfl, hc, hok, q⟩ := h
    rfl
  have hu := hu_of hr
  have hu0 := Nat.lt_of_succ_lt hu
  obtain ⟨vc, c, AA, rfl, hc, hok, q⟩ := h
  refine ⟨_, (pss_one (ps_if (pt_not (pt_val (pe_call (ok_is_accepted_value T) (hr.mono (by decide)) rfl T.is_accepted_value.m T.is_accepted_value.F.kp T.is_accepted_value.b .nil pass0 (pa_cons (pv 0) pa_nil)))) (pss_one ps_never) pss_nil)), ?_⟩
  refine ⟨_, rfl, _, c, AA, rfl, hc, hok, fun H1 s1 => ⟨_, rfl, ?_⟩⟩
  refine iteC (b := false) rfl ?_
  exact q _ s1
end
end Eo
set_option linter.all false
set_option maxRecDepth 100000
set_option maxHeartbeats 4000000
/-! E12: rows done, one by one. -/
namespace Eo
open PySem L2
def Val.v : Val → V
  | .pl p => .str (plStr p)
  | .bl b => .bl b
def optV : Option Val → V
  | none => .non
  | some v => v.v
def regsV (rs : Regs) : List V := rs.map optV
theorem regsV_at {rs : Regs} {i : Nat} {v : Val} (h : rs[i]? = some (some v)) : (regsV rs)[i]? = some v.v := by
  unfold regsV
  rw [List.getElem?_map, h]
  rfl
theorem plStr_snoc (p : List Bool) (b : Bool) : plStr (p ++ [b]) = plStr p ++ ⟨#[if b then 114 else 108]⟩ := by
  unfold plStr
  show _ = Str.append _ _
  unfold Str.append
  simp
theorem plStr_len (p : List Bool) : (plStr p).length = p.length := plStr_size p
theorem plStr_drop (p : List Bool) : cutS (plStr p) none (some (-1)) = plStr p.dropLast := by
  unfold cutS
  rw [plStr_len]
  have e : HT.sIx p.length p.length (some (-1)) = p.length - 1 := by
    show (if (-1 : Int) < 0 then ((-1 : Int) + (p.length : Int)).toNat else min (-1 : Int).toNat p.length) = p.length - 1
    rw [if_pos (by decide)]
    omega
  rw [e]
  show (⟨(List.take (p.length - 1 - 0) (List.drop 0 (plStr p).cps.toList)).toArray⟩ : Str) = _
  unfold plStr
  congr 2
  simp [List.dropLast_eq_take, List.map_take]
theorem plStr_inj {p q : List Bool} : plStr p = plStr q ↔ p = q := by
  constructor
  · intro h
    have h1 : (p.map fun b => if b then 114 else 108) = q.map fun b => if b then 114 else 108 := by
      have := congrArg (fun s : Str => s.cps.toList) h
      simpa [plStr] using this
    induction p generalizing q with
    | nil => cases q with
      | nil => rfl
      | cons b q => cases h1
    | cons a p ih => cases q with
      | nil => cases h1
      | cons b q =>
        simp only [List.map_cons, List.cons.injEq] at h1
        obtain ⟨e1, e2⟩ := h1
        have e3 : a = b := by cases a <;> cases b <;> first | rfl | exact absurd e1 (by decide)
        rw [e3, ih (by unfold plStr; rw [e2]) e2]
  · intro h; rw [h]
theorem decV (p q : List Bool) : decide (V.str (plStr p) = V.str (plStr q)) = decide (p = q) := by
  by_cases h : p = q
  · subst h; simp
  · rw [decide_eq_false h, decide_eq_false (fun e => h (plStr_inj.mp (V.str.inj e)))]
/-- where a way leads -/
def wayOf (t : Tr) (wd : Str) (p : List Bool) : List Bool := if wd = "up" then p.dropLast else if wd = "left" then led t false p else led t true p
def spWayLed (K : PySem.W.Frag) : Sp := fun vs H Q _ => ∃ (vt : V) (t : Tr) (p : List Bool) (wd : Str), vs = [vt, .str (plStr p), .str wd] ∧ Rp K H vt t.dt ∧ isPl p t ∧ t.size ≤ 1000 ∧ (wd = "up" ∨ wd = "left" ∨ wd = "right") ∧ Q (.str (plStr (wayOf t wd p))) H
/-- what a row reads is there, of its kind -/
def Rd (t : Tr) (rs : Regs) (r : Row) : Prop := ∀ i ∈ r.reads, ∃ v, rs[i]? = some (some v) ∧ ∀ k, r.want .place = some k → v.has t k
def Plain (r : Row) : Prop := (∃ d, r.sets = some d) ∧ ∀ d f as, r ≠ .call d f as
def spRowValue (K : PySem.W.Frag) : Sp := fun vs H Q _ => ∃ (vt vr : V) (ca : Addr) (t : Tr) (r : Row) (rs : Regs), vs = [vt, vr, .ref ca] ∧ Rp K H vt t.dt ∧ t.size ≤ 1000 ∧ Rp K H vr r.dt ∧ H ca = some (.lst (regsV rs)) ∧ Rd t rs r ∧ Plain r ∧
  ∀ H', Same H H' → Q (rowVal t rs r).v H'
def nextAt (i : Nat) (rs : Regs) : Row → Nat
  | .skip k => k
  | .unl s k => if (getR rs s).truth = true then i + 1 else k
  | _ => i + 1
def spNextRow (K : PySem.W.Frag) : Sp := fun vs H Q _ => ∃ (vr : V) (ca : Addr) (r : Row) (i : Nat) (rs : Regs) (t : Tr), vs = [vr, .int i, .ref ca] ∧ Rp K H vr r.dt ∧ H ca = some (.lst (regsV rs)) ∧ (Rd t rs r ∨ nextAt i rs r = i + 1 ∧ ∀ s k, r ≠ .unl s k) ∧ Q (.int (nextAt i rs r : Nat)) H
section
variable {P : Program} {w : World} {K : PySem.W.Frag} {mg : Str → Option Value} {base : Heap} {Z : Wh}
theorem ok_way_led (T : Tx w K mg Z) : FnOk P w K mg base CX0 2 (Z.A 26) (Z.D 26) ["tree", "place", "way"] (spWayLed K) := by
  refine T.way_led.F.ok sc_way_led (fun vs H Q E h => ?_) (fun cdv A outer s H vs Q E hr h => ?_)
  · obtain ⟨vt, t, p, wd, rfl, hv, hp, hs, hw, q⟩ := h
    rfl
  have hu := hu_of hr
  have hu0 := Nat.lt_of_succ_lt hu
  obtain ⟨vt, t, p, wd, rfl, hv, hp, hs, hw, q⟩ := h
  have hpl := Nat.le_trans (isPl_len p t hp) (Nat.le_trans t.hgt_le hs)
  refine ⟨_, (pss_cons (ps_if (pt_cmpR op_eq (pv 2) pe_str (nomark _)) (pss_one (ps_ret pe_str)) pss_nil) (pss_cons (ps_if (pt_cmpR op_eq (pv 2) pe_str (nomark _)) (pss_one (ps_ret (pe_slice sl_str (pv 1) po_none (po_some (pe_un un_neg pe_int))))) pss_nil) (pss_cons (ps_if (pt_cmpR op_isN (pe_call (ok_subtree T) (hr.mono (by decide)) rfl T.subtree.m T.subtree.F.kp T.subtree.b .nil pass0 (pa_cons (pv 0) (pa_cons (pv 1) pa_nil))) pe_non (nomark _)) (pss_one (ps_ret (pv 1))) pss_nil) (pss_one (ps_ret (pe_op op_add_str (pv 1) (pe_ix ix_str (pv 2) pe_int (fun _ _ => rfl)))))))), ?_⟩
  refine ⟨_, rfl, rfl, _, rfl, ?_⟩
  refine iteC (b := false) (by rcases hw with rfl | rfl | rfl <;> decide +kernel) ?_
  refine ⟨_, rfl, rfl, _, rfl, ?_⟩
  have hsz : (plStr p).length ≤ sizeLine := by rw [plStr_len]; exact Nat.le_trans hpl (by decide)
  by_cases hup : wd = "up"
  · subst hup
    refine iteC (b := true) (by decide +kernel) ?_
    refine ⟨_, rfl, _, rfl, _, rfl, _, rfl, hsz, ?_⟩
    rw [plStr_drop]
    exact q
  · refine iteC (b := false) (by simpa using hup) ?_
    have eway : wayOf t wd p = if wd = "left" then led t false p else led t true p := by unfold wayOf; rw [if_neg hup]
    refine ⟨_, rfl, _, rfl, _, t, p, rfl, hv, hp, fun v' hv' => ⟨rfl, _, rfl, ?_⟩⟩
    cases hn : (sub p t).isNil with
    | true =>
      have : sub p t = .nil := by
        cases e : sub p t with
        | nil => rfl
        | node g l r => rw [e] at hn; cases hn
      rw [this] at hv'
      obtain rfl := hv'.non_inv
      refine iteC (b := true) (by simp) ?_
      have e1 : wayOf t wd p = p := by
        rw [eway]
        unfold led
        rw [hn]
        simp
      rw [e1] at q
      exact ⟨_, rfl, q⟩
    | false =>
      obtain ⟨a, g, vl, vr, l, r, et, rfl, ea, _, _⟩ := node_rp hv' hn
      refine iteC (b := false) (by simp) ?_
      rcases hw with rfl | rfl | rfl
      · exact absurd rfl hup
      · refine ⟨_, rfl, _, rfl, _, _, 108, rfl, rfl, by decide, rfl, _, _, rfl, rfl, ?_, ?_⟩
        · refine Nat.le_trans (Nat.add_le_add (Nat.le_trans (Nat.le_of_eq (plStr_len p)) hpl) (Nat.le_refl 1)) (by decide)
        · have e1 : wayOf t "left" p = p ++ [false] := by
            rw [eway, if_pos rfl]
            unfold led
            rw [hn]
            rfl
          rw [e1, plStr_snoc] at q
          exact q
      · refine ⟨_, rfl, _, rfl, _, _, 114, rfl, rfl, by decide, rfl, _, _, rfl, rfl, ?_, ?_⟩
        · refine Nat.le_trans (Nat.add_le_add (Nat.le_trans (Nat.le_of_eq (plStr_len p)) hpl) (Nat.le_refl 1)) (by decide)
        · have e1 : wayOf t "right" p = p ++ [true] := by
            rw [eway, if_neg (by decide +kernel)]
            unfold led
            rw [hn]
            rfl
          rw [e1, plStr_snoc] at q
          exact q
theorem Rd.pl {t : Tr} {rs : Regs} {r : Row} (h : Rd t rs r) {i : Nat} (hi : i ∈ r.reads) (hw : r.want .place = some .place) : ∃ p, rs[i]? = some (some (.pl p)) ∧ isPl p t := by
  obtain ⟨v, e, hv⟩ := h i hi
  obtain ⟨p, rfl, hp⟩ := Val.has_place (hv _ hw)
  exact ⟨p, e, hp⟩
theorem Rd.tr {t : Tr} {rs : Regs} {r : Row} (h : Rd t rs r) {i : Nat} (hi : i ∈ r.reads) (hw : r.want .place = some .truth) : ∃ b, rs[i]? = some (some (.bl b)) := by
  obtain ⟨v, e, hv⟩ := h i hi
  obtain ⟨b, rfl⟩ := Val.has_truth (hv _ hw)
  exact ⟨b, e⟩
theorem sub_non {H : Hp} {v : V} {t : Tr} (h : Rp K H v t.dt) : decide (v = V.non) = t.isNil := by
  cases t with
  | nil => rw [h.non_inv]; simp [Tr.isNil]
  | node g l r =>
    obtain ⟨a, _, rfl, _⟩ := Rp.tup_inv h
    simp [Tr.isNil]
theorem ok_row_value (T : Tx w K mg Z) : FnOk P w K mg base CX0 3 (Z.A 27) (Z.D 27) ["tree", "row", "cells"] (spRowValue K) := by
  refine T.row_value.F.ok sc_row_value (fun vs H Q E h => ?_) (fun cdv A outer s H vs Q E hr h => ?_)
  · obtain ⟨vt, vr, ca, t, r, rs, rfl, ht, hs, hr', hca, hrd, ⟨⟨d0, hd0⟩, hnc⟩, q⟩ := h
    rfl
  have hu := hu_of hr
  have hu0 := Nat.lt_of_succ_lt hu
  obtain ⟨vt, vr, ca, t, r, rs, rfl, ht, hs, hr', hca, hrd, ⟨⟨d0, hd0⟩, hnc⟩, q⟩ := h
  obtain ⟨a, xs, rfl, ea, rx⟩ := row_rp hr'
  refine ⟨_, (pss_cons (ps_set (i := 3) sc_row_value.nd rfl (by first | exact Or.inl rfl | exact Or.inr rfl) (pe_ix ix_tup (pv 1) pe_int (fun _ _ => rfl))) (pss_cons (ps_if (pt_cmpR op_in_seq (pv 3) (pe_glob rfl T.m_WAYS T.r_WAYS) rfl) (pss_one (ps_ret (pe_call (ok_way_led T) (hr.mono (by decide)) rfl T.way_led.m T.way_led.F.kp T.way_led.b .nil pass0 (pa_cons (pv 0) (pa_cons (pe_ix ix_list (pv 2) (pe_ix ix_tup (pv 1) pe_int (fun _ _ => rfl)) (fun _ _ => rfl)) (pa_cons (pv 3) pa_nil)))))) pss_nil) (pss_cons (ps_if (pt_cmpR op_eq (pv 3) pe_str (nomark _)) (pss_one (ps_ret pe_str)) pss_nil) (pss_cons (ps_if (pt_cmpR op_in_seq (pv 3) (pe_tup (pa_cons pe_str (pa_cons pe_str pa_nil))) rfl) (pss_one (ps_ret (pe_cmpR op_eq (pv 3) pe_str (nomark _)))) pss_nil) (pss_cons (ps_if (pt_cmpR op_eq (pv 3) pe_str (nomark _)) (pss_one (ps_ret (pe_ix ix_list (pv 2) (pe_ix ix_tup (pv 1) pe_int (fun _ _ => rfl)) (fun _ _ => rfl)))) pss_nil) (pss_cons (ps_if (pt_cmpR op_eq (pv 3) pe_str (nomark _)) (pss_one (ps_ret (pe_not (pe_ix ix_list (pv 2) (pe_ix ix_tup (pv 1) pe_int (fun _ _ => rfl)) (fun _ _ => rfl))))) pss_nil) (pss_cons (ps_if (pt_cmpR op_eq (pv 3) pe_str (nomark _)) (pss_one (ps_ret (pe_cmpR op_eq (pe_ix ix_list (pv 2) (pe_ix ix_tup (pv 1) pe_int (fun _ _ => rfl)) (fun _ _ => rfl)) (pe_ix ix_list (pv 2) (pe_ix ix_tup (pv 1) pe_int (fun _ _ => rfl)) (fun _ _ => rfl)) (nomark _)))) pss_nil) (pss_cons (ps_set (i := 4) sc_row_value.nd rfl (by first | exact Or.inl rfl | exact Or.inr rfl) (pe_call (ok_subtree T) (hr.mono (by decide)) rfl T.subtree.m T.subtree.F.kp T.subtree.b .nil pass0 (pa_cons (pv 0) (pa_cons (pe_ix ix_list (pv 2) (pe_ix ix_tup (pv 1) pe_int (fun _ _ => rfl)) (fun _ _ => rfl)) pa_nil)))) (pss_cons (ps_if (pt_cmpR op_eq (pv 3) pe_str (nomark _)) (pss_one (ps_ret (pe_cmpR op_isN (pv 4) pe_non (nomark _)))) pss_nil) (pss_one (ps_ret (pe_and (pe_cmpR op_notN (pv 4) pe_non (nomark _)) (pe_one (pe_cmpR op_eq (pe_ix ix_tup (pv 4) pe_int (fun _ _ => rfl)) (pe_ix ix_tup (pv 1) pe_int (fun _ _ => rfl)) (nomark _))))))))))))))), ?_⟩
  refine ⟨_, rfl, _, _, _, _, rfl, rfl, ea, at0, ?_⟩
  refine ⟨_, rfl, _, _, rfl, .inr (T.t_WAYS _), rfl, rfl, _, rfl, ?_⟩
  cases r with
  | call d f as => exact absurd rfl (hnc d f as)
  | skip k => cases hd0
  | unl s k => cases hd0
  | give s => cases hd0
  | left d s =>
    dsimp only [Row.word] at ea ⊢
    obtain ⟨p, hp1, hp2⟩ := hrd.pl (i := s) (by simp [Row.reads]) rfl
    cases rx with
    | cons q1 rx => cases rx with
      | cons q2 rx =>
        obtain rfl := q2.int_inv
        refine iteC (b := true) (by decide +kernel) ?_
        refine ⟨_, rfl, _, rfl, _, rfl, _, _, _, _, rfl, rfl, ea, atI_nat (j := 2) rfl, _, _, _, _, rfl, rfl, SqL.of hca, atI_nat (regsV_at hp1), _, rfl, _, t, p, _, rfl, ht, hp2, hs, .inr (.inl rfl), ?_⟩
        have e : (rowVal t rs (.left d s)).v = .str (plStr (wayOf t "left" p)) := by
          show V.str (plStr (led t false (getR rs s).path)) = _
          rw [getR_of hp1]
          unfold wayOf
          rw [if_neg (by decide +kernel), if_pos rfl]
          rfl
        rw [e] at q
        exact q _ (Same.refl _)
  | right d s =>
    dsimp only [Row.word] at ea ⊢
    obtain ⟨p, hp1, hp2⟩ := hrd.pl (i := s) (by simp [Row.reads]) rfl
    cases rx with
    | cons q1 rx => cases rx with
      | cons q2 rx =>
        obtain rfl := q2.int_inv
        refine iteC (b := true) (by decide +kernel) ?_
        refine ⟨_, rfl, _, rfl, _, rfl, _, _, _, _, rfl, rfl, ea, atI_nat (j := 2) rfl, _, _, _, _, rfl, rfl, SqL.of hca, atI_nat (regsV_at hp1), _, rfl, _, t, p, _, rfl, ht, hp2, hs, .inr (.inr rfl), ?_⟩
        have e : (rowVal t rs (.right d s)).v = .str (plStr (wayOf t "right" p)) := by
          show V.str (plStr (led t true (getR rs s).path)) = _
          rw [getR_of hp1]
          unfold wayOf
          rw [if_neg (by decide +kernel), if_neg (by decide +kernel)]
          rfl
        rw [e] at q
        exact q _ (Same.refl _)
  | up d s =>
    dsimp only [Row.word] at ea ⊢
    obtain ⟨p, hp1, hp2⟩ := hrd.pl (i := s) (by simp [Row.reads]) rfl
    cases rx with
    | cons q1 rx => cases rx with
      | cons q2 rx =>
        obtain rfl := q2.int_inv
        refine iteC (b := true) (by decide +kernel) ?_
        refine ⟨_, rfl, _, rfl, _, rfl, _, _, _, _, rfl, rfl, ea, atI_nat (j := 2) rfl, _, _, _, _, rfl, rfl, SqL.of hca, atI_nat (regsV_at hp1), _, rfl, _, t, p, _, rfl, ht, hp2, hs, .inl rfl, ?_⟩
        have e : (rowVal t rs (.up d s)).v = .str (plStr (wayOf t "up" p)) := by
          show V.str (plStr (getR rs s).path.dropLast) = _
          rw [getR_of hp1]
          unfold wayOf
          rw [if_pos rfl]
          rfl
        rw [e] at q
        exact q _ (Same.refl _)
  | top d =>
    dsimp only [Row.word] at ea ⊢
    refine iteC (b := false) (by decide +kernel) ?_
    refine ⟨_, rfl, rfl, _, rfl, ?_⟩
    refine iteC (b := true) (by decide +kernel) ?_
    exact q _ (Same.refl _)
  | yes d =>
    dsimp only [Row.word] at ea ⊢
    refine iteC (b := false) (by decide +kernel) ?_
    refine ⟨_, rfl, rfl, _, rfl, ?_⟩
    refine iteC (b := false) (by decide +kernel) ?_
    refine ⟨_, rfl, (by show 2 ≤ sizeLine; decide), fun t1 ht1 => ⟨_, _, rfl, .inr sqT_new, rfl, rfl, _, rfl, ?_⟩⟩
    refine iteC (b := true) (by decide +kernel) ?_
    refine ⟨_, rfl, rfl, ?_⟩
    have e : decide (V.str "yes" = V.str "yes") = true := by decide +kernel
    rw [e]
    exact q _ (same_tup ht1)
  | no d =>
    dsimp only [Row.word] at ea ⊢
    refine iteC (b := false) (by decide +kernel) ?_
    refine ⟨_, rfl, rfl, _, rfl, ?_⟩
    refine iteC (b := false) (by decide +kernel) ?_
    refine ⟨_, rfl, (by show 2 ≤ sizeLine; decide), fun t1 ht1 => ⟨_, _, rfl, .inr sqT_new, rfl, rfl, _, rfl, ?_⟩⟩
    refine iteC (b := true) (by decide +kernel) ?_
    refine ⟨_, rfl, rfl, ?_⟩
    have e : decide (V.str "no" = V.str "yes") = false := by decide +kernel
    rw [e]
    exact q _ (same_tup ht1)
  | move d s =>
    dsimp only [Row.word] at ea ⊢
    obtain ⟨v, hp1, _⟩ := hrd s (by simp [Row.reads])
    cases rx with
    | cons q1 rx => cases rx with
      | cons q2 rx =>
        obtain rfl := q2.int_inv
        refine iteC (b := false) (by decide +kernel) ?_
        refine ⟨_, rfl, rfl, _, rfl, ?_⟩
        refine iteC (b := false) (by decide +kernel) ?_
        refine ⟨_, rfl, (by show 2 ≤ sizeLine; decide), fun t1 ht1 => ⟨_, _, rfl, .inr sqT_new, rfl, rfl, _, rfl, ?_⟩⟩
        refine iteC (b := false) (by decide +kernel) ?_
        refine ⟨_, rfl, rfl, _, rfl, ?_⟩
        refine iteC (b := true) (by decide +kernel) ?_
        have s1 := same_tup (xs := [V.str "yes", V.str "no"]) ht1
        refine ⟨_, rfl, _, rfl, _, _, _, _, rfl, rfl, (Same.tk s1).sq ea, atI_nat (j := 2) rfl, _, _, _, _, rfl, rfl, SqL.of (s1 _ _ hca), atI_nat (regsV_at hp1), ?_⟩
        have e : rowVal t rs (.move d s) = v := getR_of hp1
        rw [e] at q
        exact q _ s1
  | not d s =>
    dsimp only [Row.word] at ea ⊢
    obtain ⟨b, hp1⟩ := hrd.tr (i := s) (by simp [Row.reads]) rfl
    cases rx with
    | cons q1 rx => cases rx with
      | cons q2 rx =>
        obtain rfl := q2.int_inv
        refine iteC (b := false) (by decide +kernel) ?_
        refine ⟨_, rfl, rfl, _, rfl, ?_⟩
        refine iteC (b := false) (by decide +kernel) ?_
        refine ⟨_, rfl, (by show 2 ≤ sizeLine; decide), fun t1 ht1 => ⟨_, _, rfl, .inr sqT_new, rfl, rfl, _, rfl, ?_⟩⟩
        refine iteC (b := false) (by decide +kernel) ?_
        refine ⟨_, rfl, rfl, _, rfl, ?_⟩
        refine iteC (b := false) (by decide +kernel) ?_
        refine ⟨_, rfl, rfl, _, rfl, ?_⟩
        refine iteC (b := true) (by decide +kernel) ?_
        have s1 := same_tup (xs := [V.str "yes", V.str "no"]) ht1
        refine ⟨_, rfl, _, rfl, _, _, _, _, rfl, rfl, (Same.tk s1).sq ea, atI_nat (j := 2) rfl, _, _, _, _, rfl, rfl, SqL.of (s1 _ _ hca), atI_nat (regsV_at hp1), b, rfl, ?_⟩
        have e : rowVal t rs (.not d s) = .bl (!b) := by
          show Val.bl (!(getR rs s).truth) = _
          rw [getR_of hp1]
          rfl
        rw [e] at q
        exact q _ s1
  | same d s u =>
    dsimp only [Row.word] at ea ⊢
    obtain ⟨p, hp1, hp2⟩ := hrd.pl (i := s) (by simp [Row.reads]) rfl
    obtain ⟨p', hp3, hp4⟩ := hrd.pl (i := u) (by simp [Row.reads]) rfl
    cases rx with
    | cons q1 rx => cases rx with
      | cons q2 rx =>
        obtain rfl := q2.int_inv
        cases rx with
        | cons q3 rx =>
          obtain rfl := q3.int_inv
          refine iteC (b := false) (by decide +kernel) ?_
          refine ⟨_, rfl, rfl, _, rfl, ?_⟩
          refine iteC (b := false) (by decide +kernel) ?_
          refine ⟨_, rfl, (by show 2 ≤ sizeLine; decide), fun t1 ht1 => ⟨_, _, rfl, .inr sqT_new, rfl, rfl, _, rfl, ?_⟩⟩
          refine iteC (b := false) (by decide +kernel) ?_
          refine ⟨_, rfl, rfl, _, rfl, ?_⟩
          refine iteC (b := false) (by decide +kernel) ?_
          refine ⟨_, rfl, rfl, _, rfl, ?_⟩
          refine iteC (b := false) (by decide +kernel) ?_
          refine ⟨_, rfl, rfl, _, rfl, ?_⟩
          refine iteC (b := true) (by decide +kernel) ?_
          have s1 := same_tup (xs := [V.str "yes", V.str "no"]) ht1
          refine ⟨_, rfl, _, rfl, _, _, _, _, rfl, rfl, (Same.tk s1).sq ea, atI_nat (j := 2) rfl, _, _, _, _, rfl, rfl, SqL.of (s1 _ _ hca), atI_nat (regsV_at hp1), ?_⟩
          refine ⟨_, rfl, _, rfl, _, _, _, _, rfl, rfl, (Same.tk s1).sq ea, atI_nat (j := 3) rfl, _, _, _, _, rfl, rfl, SqL.of (s1 _ _ hca), atI_nat (regsV_at hp3), rfl, ?_⟩
          have e : rowVal t rs (.same d s u) = .bl (decide (p = p')) := by
            show Val.bl (decide ((getR rs s).path = (getR rs u).path)) = _
            rw [getR_of hp1, getR_of hp3]
            rfl
          rw [e] at q
          show Q (V.bl (decide (V.str (plStr p) = V.str (plStr p')))) _
          rw [decV]
          exact q _ s1
  | empty d s =>
    dsimp only [Row.word] at ea ⊢
    obtain ⟨p, hp1, hp2⟩ := hrd.pl (i := s) (by simp [Row.reads]) rfl
    cases rx with
    | cons q1 rx => cases rx with
      | cons q2 rx =>
        obtain rfl := q2.int_inv
        refine iteC (b := false) (by decide +kernel) ?_
        refine ⟨_, rfl, rfl, _, rfl, ?_⟩
        refine iteC (b := false) (by decide +kernel) ?_
        refine ⟨_, rfl, (by show 2 ≤ sizeLine; decide), fun t1 ht1 => ⟨_, _, rfl, .inr sqT_new, rfl, rfl, _, rfl, ?_⟩⟩
        refine iteC (b := false) (by decide +kernel) ?_
        refine ⟨_, rfl, rfl, _, rfl, ?_⟩
        refine iteC (b := false) (by decide +kernel) ?_
        refine ⟨_, rfl, rfl, _, rfl, ?_⟩
        refine iteC (b := false) (by decide +kernel) ?_
        refine ⟨_, rfl, rfl, _, rfl, ?_⟩
        refine iteC (b := false) (by decide +kernel) ?_
        have s1 := same_tup (xs := [V.str "yes", V.str "no"]) ht1
        refine ⟨_, rfl, _, rfl, _, rfl, _, _, _, _, rfl, rfl, (Same.tk s1).sq ea, atI_nat (j := 2) rfl, _, _, _, _, rfl, rfl, SqL.of (s1 _ _ hca), atI_nat (regsV_at hp1), _, t, p, rfl, ht.same s1, hp2, fun v' hv' => ?_⟩
        refine ⟨_, rfl, rfl, _, rfl, ?_⟩
        refine iteC (b := true) (by decide +kernel) ?_
        refine ⟨_, rfl, rfl, ?_⟩
        have e : rowVal t rs (.empty d s) = .bl (sub p t).isNil := by
          show Val.bl (sub (getR rs s).path t).isNil = _
          rw [getR_of hp1]
          rfl
        rw [e] at q
        rw [sub_non hv']
        exact q _ s1
  | has d s g =>
    dsimp only [Row.word] at ea ⊢
    obtain ⟨p, hp1, hp2⟩ := hrd.pl (i := s) (by simp [Row.reads]) rfl
    cases rx with
    | cons q1 rx => cases rx with
      | cons q2 rx =>
        obtain rfl := q2.int_inv
        cases rx with
        | cons q3 rx =>
          obtain rfl := q3.str_inv
          refine iteC (b := false) (by decide +kernel) ?_
          refine ⟨_, rfl, rfl, _, rfl, ?_⟩
          refine iteC (b := false) (by decide +kernel) ?_
          refine ⟨_, rfl, (by show 2 ≤ sizeLine; decide), fun t1 ht1 => ⟨_, _, rfl, .inr sqT_new, rfl, rfl, _, rfl, ?_⟩⟩
          refine iteC (b := false) (by decide +kernel) ?_
          refine ⟨_, rfl, rfl, _, rfl, ?_⟩
          refine iteC (b := false) (by decide +kernel) ?_
          refine ⟨_, rfl, rfl, _, rfl, ?_⟩
          refine iteC (b := false) (by decide +kernel) ?_
          refine ⟨_, rfl, rfl, _, rfl, ?_⟩
          refine iteC (b := false) (by decide +kernel) ?_
          have s1 := same_tup (xs := [V.str "yes", V.str "no"]) ht1
          refine ⟨_, rfl, _, rfl, _, rfl, _, _, _, _, rfl, rfl, (Same.tk s1).sq ea, atI_nat (j := 2) rfl, _, _, _, _, rfl, rfl, SqL.of (s1 _ _ hca), atI_nat (regsV_at hp1), _, t, p, rfl, ht.same s1, hp2, fun v' hv' => ?_⟩
          refine ⟨_, rfl, rfl, _, rfl, ?_⟩
          refine iteC (b := false) (by decide +kernel) ?_
          have e : rowVal t rs (.has d s g) = .bl (decide ((sub p t).tag = some g)) := by
            show Val.bl (decide ((sub (getR rs s).path t).tag = some g)) = _
            rw [getR_of hp1]
            rfl
          rw [e] at q
          refine ⟨_, rfl, rfl, _, rfl, ?_⟩
          cases hn : (sub p t).isNil with
          | true =>
            have e2 : sub p t = .nil := by
              cases e : sub p t with
              | nil => rfl
              | node g l r => rw [e] at hn; cases hn
            rw [e2] at hv' q
            obtain rfl := hv'.non_inv
            refine iteC (b := false) (by simp) ?_
            exact q _ s1
          | false =>
            obtain ⟨a', g', vl, vr, l, r, et, rfl, ea', _, _⟩ := node_rp hv' hn
            refine iteC (b := true) (by simp) ?_
            refine ⟨_, rfl, _, _, _, _, rfl, rfl, ea', rfl, _, rfl, _, _, _, _, rfl, rfl, (Same.tk s1).sq ea, atI_nat (j := 3) rfl, rfl, ?_⟩
            rw [et] at q
            have e3 : decide (V.str g' = V.str g) = decide ((Tr.node g' l r).tag = some g) := by simp [Tr.tag]
            show Q (V.bl (decide (V.str g' = V.str g))) _
            rw [e3]
            exact q _ s1
theorem ok_next_row (T : Tx w K mg Z) : FnOk P w K mg base CX0 1 (Z.A 28) (Z.D 28) ["row", "at", "cells"] (spNextRow K) := by
  refine T.next_row.F.ok sc_next_row (fun vs H Q E h => ?_) (fun cdv A outer s H vs Q E hr h => ?_)
  · obtain ⟨vr, ca, r, i, rs, t, rfl, hr', hca, hrd, q⟩ := h
    rfl
  have hu := hu_of hr
  have hu0 := Nat.lt_of_succ_lt hu
  obtain ⟨vr, ca, r, i, rs, t, rfl, hr', hca, hrd, q⟩ := h
  obtain ⟨a, xs, rfl, ea, rx⟩ := row_rp hr'
  refine ⟨_, (pss_cons (ps_if (pt_cmpR op_eq (pe_ix ix_tup (pv 0) pe_int (fun _ _ => rfl)) pe_str (nomark _)) (pss_one (ps_ret (pe_ix ix_tup (pv 0) pe_int (fun _ _ => rfl)))) pss_nil) (pss_one (ps_ret (pe_ifExp (PW.pt (pw_and (pt_cmpR op_eq (pe_ix ix_tup (pv 0) pe_int (fun _ _ => rfl)) pe_str (nomark _)) (pw_and1 (pt_not (pt_truth (pe_ix ix_list (pv 2) (pe_ix ix_tup (pv 0) pe_int (fun _ _ => rfl)) (fun _ _ => rfl)) (by intro _; rfl)))))) (pe_ix ix_tup (pv 0) pe_int (fun _ _ => rfl)) (pe_op op_add (pv 1) pe_int))))), ?_⟩
  cases r with
  | skip k =>
    dsimp only [Row.word] at ea
    cases rx with
    | cons q1 rx =>
      obtain rfl := q1.int_inv
      refine ⟨_, rfl, _, _, _, _, rfl, rfl, ea, at0, rfl, _, rfl, ?_⟩
      refine iteC (b := true) (by decide +kernel) ?_
      exact ⟨_, rfl, _, _, _, _, rfl, rfl, ea, atI_nat (j := 1) rfl, q⟩
  | unl s k =>
    dsimp only [Row.word] at ea
    have hrd' : Rd t rs (.unl s k) := by
      rcases hrd with h | ⟨_, h⟩
      · exact h
      · exact absurd rfl (h s k)
    obtain ⟨b, hp1⟩ := hrd'.tr (i := s) (by simp [Row.reads]) rfl
    cases rx with
    | cons q1 rx =>
      obtain rfl := q1.int_inv
      cases rx with
      | cons q2 rx =>
        obtain rfl := q2.int_inv
        refine ⟨_, rfl, _, _, _, _, rfl, rfl, ea, at0, rfl, _, rfl, ?_⟩
        refine iteC (b := false) (by decide +kernel) ?_
        refine ⟨_, rfl, _, _, _, _, rfl, rfl, ea, at0, rfl, _, rfl, ?_⟩
        refine iteC (b := true) (by decide +kernel) ?_
        refine ⟨_, rfl, _, rfl, _, _, _, _, rfl, rfl, ea, atI_nat (j := 1) rfl, _, _, _, _, rfl, rfl, SqL.of hca, atI_nat (regsV_at hp1), b, rfl, ?_⟩
        have en : nextAt i rs (.unl s k) = if b = true then i + 1 else k := by
          show (if (getR rs s).truth = true then i + 1 else k) = _
          rw [getR_of hp1]
          rfl
        rw [en] at q
        cases b with
        | true =>
          refine iteC (b := false) rfl ?_
          exact ⟨_, rfl, _, _, rfl, rfl, q⟩
        | false =>
          refine iteC (b := true) rfl ?_
          exact ⟨_, rfl, _, _, _, _, rfl, rfl, ea, atI_nat (j := 2) rfl, q⟩
  | _ =>
    dsimp only [Row.word] at ea
    refine ⟨_, rfl, _, _, _, _, rfl, rfl, ea, at0, rfl, _, rfl, ?_⟩
    refine iteC (b := false) (by decide +kernel) ?_
    refine ⟨_, rfl, _, _, _, _, rfl, rfl, ea, at0, rfl, _, rfl, ?_⟩
    refine iteC (b := false) (by decide +kernel) ?_
    exact ⟨_, rfl, _, _, rfl, rfl, q⟩
end
end Eo
set_option linter.all false
set_option maxRecDepth 100000
set_option maxHeartbeats 4000000
/-! E13: calls of code begun. -/
namespace Eo
open PySem L2
def plsDt (ps : List (List Bool)) : Dt := .tup (ps.map fun p => .str (plStr p))
def plsV (ps : List (List Bool)) : List V := ps.map fun p => .str (plStr p)
def spCalled (K : PySem.W.Frag) : Sp := fun vs H Q _ => ∃ (vr : V) (ca : Addr) (d f : Nat) (as : List Nat) (rs : Regs) (ps : List (List Bool)), vs = [vr, .ref ca] ∧ Rp K H vr (Row.call d f as).dt ∧ as.length ≤ 1000 ∧ H ca = some (.lst (regsV rs)) ∧
  as.length = ps.length ∧ (∀ (i : Nat) a p, as[i]? = some a → ps[i]? = some p → rs[a]? = some (some (.pl p))) ∧ ∀ t H', Same H H' → Rp K H' (.ref t) (.tup [iD f, plsDt ps]) → Q (.ref t) H'
def spCellsFor (K : PySem.W.Frag) : Sp := fun vs H Q _ => ∃ (vc v : V) (c : Code) (f : Nat) (fn : Fn) (ps : List (List Bool)), vs = [vc, v] ∧ Rp K H vc (codeDt c) ∧ Rp K H v (.tup [iD f, plsDt ps]) ∧ c[f]? = some fn ∧ fn.many ≤ fn.regs ∧ fn.regs ≤ 1000 ∧ ps.length = fn.many ∧
  ∀ l H', Same H H' → H l = none → H' l = some (.lst (regsV (begin c f (ps.map .pl)).regs)) → Q (.ref l) H'
def spArePlaces (K : PySem.W.Frag) : Sp := fun vs H Q _ => ∃ (vc vt v : V) (c : Code) (t : Tr) (f : Nat) (fn : Fn) (ps : List (List Bool)), vs = [vc, vt, .int f, v] ∧ Rp K H vc (codeDt c) ∧ Rp K H vt t.dt ∧ Rp K H v (plsDt ps) ∧ c[f]? = some fn ∧ ps.length = fn.many ∧ fn.many ≤ 1000 ∧ (∀ p ∈ ps, isPl p t) ∧
  ∀ H', Same H H' → Q (.bl true) H'
def spNeedCall (K : PySem.W.Frag) : Sp := fun vs H Q _ => ∃ (vc vt v : V) (c : Code) (AA : Nat → Nat → Option Ks) (t : Tr) (f : Nat) (fn : Fn) (ps : List (List Bool)), vs = [vc, vt, .int f, v] ∧ Rp K H vc (codeDt c) ∧ CodeOk c AA ∧ Rp K H vt t.dt ∧ t.good ∧ t.size ≤ 1000 ∧ Rp K H v (plsDt ps) ∧ c[f]? = some fn ∧ ps.length = fn.many ∧
  (∀ p ∈ ps, isPl p t) ∧ ∀ H', Same H H' → Q .non H'
/-! ### a frame's fields -/
def frF (r c : Addr) (a : Int) (t : V) : List (Str × V) := [("rows", .ref r), ("cells", .ref c), ("at", .int a), ("target", t)]
section
variable {r c : Addr} {a b : Int} {t : V}
theorem frF_mk : putF "target" t (putF "at" (.int a) (putF "cells" (.ref c) (putF "rows" (.ref r) []))) = frF r c a t := by
  have h1 : ¬ ("rows" : Str) = "cells" := by decide +kernel
  have h2 : ¬ ("rows" : Str) = "at" := by decide +kernel
  have h3 : ¬ ("rows" : Str) = "target" := by decide +kernel
  have h4 : ¬ ("cells" : Str) = "at" := by decide +kernel
  have h5 : ¬ ("cells" : Str) = "target" := by decide +kernel
  have h6 : ¬ ("at" : Str) = "target" := by decide +kernel
  simp only [putF, h1, h2, h3, h4, h5, h6, if_false]
  rfl
theorem frF_at : putF "at" (.int b) (frF r c a t) = frF r c b t := by
  have h2 : ¬ ("rows" : Str) = "at" := by decide +kernel
  have h4 : ¬ ("cells" : Str) = "at" := by decide +kernel
  unfold frF
  simp only [putF, h2, h4, if_false, if_true]
theorem lk_rows : (frF r c a t).lookup ("rows" : Str) = some (.ref r) := by
  rw [← frF_mk, lookup_putF, if_neg (by decide +kernel), lookup_putF, if_neg (by decide +kernel), lookup_putF, if_neg (by decide +kernel), lookup_putF, if_pos rfl]
theorem lk_cells : (frF r c a t).lookup ("cells" : Str) = some (.ref c) := by
  rw [← frF_mk, lookup_putF, if_neg (by decide +kernel), lookup_putF, if_neg (by decide +kernel), lookup_putF, if_pos rfl]
theorem lk_at : (frF r c a t).lookup ("at" : Str) = some (.int a) := by
  rw [← frF_mk, lookup_putF, if_neg (by decide +kernel), lookup_putF, if_pos rfl]
theorem lk_target : (frF r c a t).lookup ("target" : Str) = some t := by
  rw [← frF_mk, lookup_putF, if_pos rfl]
theorem frF_len : (frF r c a t).length < 1000 := by show 4 < 1000; decide
end
def spFrame (K : PySem.W.Frag) (C : Addr) : Sp := fun vs H Q _ => ∃ (p dx : Addr) (vc v tg : V) (c : Code) (f : Nat) (fn : Fn) (ps : List (List Bool)), vs = [.ref p, vc, v, tg] ∧ H p = some (.ins C dx []) ∧ Rp K H vc (codeDt c) ∧ Rp K H v (.tup [iD f, plsDt ps]) ∧ c[f]? = some fn ∧ fn.many ≤ fn.regs ∧ fn.regs ≤ 1000 ∧ ps.length = fn.many ∧
  ∀ la fb xs H', (∀ b o, H b = some o → b ≠ p → H' b = some o) → H' p = some (.ins C dx (frF fb la 0 tg)) → H la = none → la ≠ p → H' la = some (.lst (regsV (begin c f (ps.map .pl)).regs)) → SqT K H' fb xs → Rps K H' xs (fn.rows.map Row.dt) → Q .non H'
section
variable {P : Program} {w : World} {K : PySem.W.Frag} {mg : Str → Option Value} {base : Heap} {Z : Wh}
theorem pls_rp {H : Hp} {v : V} {ps : List (List Bool)} (h : Rp K H v (plsDt ps)) : ∃ a, v = .ref a ∧ SqT K H a (plsV ps) := by
  obtain ⟨a, xs, rfl, ea, rx⟩ := h.tup_inv
  refine ⟨a, rfl, ?_⟩
  have : xs = plsV ps := by
    clear ea h
    induction ps generalizing xs with
    | nil => cases rx; rfl
    | cons n as ih =>
      cases rx with
      | cons q rx =>
        obtain rfl := q.str_inv
        rw [ih _ rx]
        rfl
  rw [← this]
  exact ea
theorem pls_mk {H : Hp} {a : Addr} {ps : List (List Bool)} (h : SqT K H a (plsV ps)) : Rp K H (.ref a) (plsDt ps) := .tup h (rps_map (fun p => V.str (plStr p)) (fun p => Dt.str (plStr p)) (fun _ => .str _) ps)
theorem ok_called (T : Tx w K mg Z) : FnOk P w K mg base CX0 1 (Z.A 29) (Z.D 29) ["row", "cells"] (spCalled K) := by
  refine T.called.F.ok sc_called (fun vs H Q E h => ?_) (fun cdv A outer s H vs Q E hr h => ?_)
  · obtain ⟨vr, ca, d, f, as, rs, ps, rfl, hv, hal, hca, hlen, hps, q⟩ := h
    rfl
  have hu := hu_of hr
  have hu0 := Nat.lt_of_succ_lt hu
  obtain ⟨vr, ca, d, f, as, rs, ps, rfl, hv, hal, hca, hlen, hps, q⟩ := h
  obtain ⟨a, xs, rfl, ea, rx⟩ := row_rp hv
  dsimp only [Row.word] at ea
  cases rx with
  | cons q1 rx => cases rx with
    | cons q2 rx =>
      obtain rfl := q2.int_inv
      cases rx with
      | cons q3 rx =>
        obtain ⟨aa, rfl, eaa⟩ := nats_rp q3
        refine ⟨_, (pss_one (ps_ret (pe_tup (pa_cons (pe_ix ix_tup (pv 0) pe_int (fun _ _ => rfl)) (pa_cons (pe_callTy call_tuple_of rfl T.tuple_ bt_tuple (pa_cons (pe_lc (own := [("cell", 2)]) (g := gName 2) (tt := tYes) rfl sc_called.nd (pi_tup (pe_ix ix_tup (pv 0) pe_int (fun _ _ => rfl))) (blkOk_by (own := [("cell", 2)]) (N := N_called) (sc := defScope s_called) (by decide +kernel)) (fun _ _ _ _ _ => (pg_name (i := 2) sc_called.nd rfl (by first | exact Or.inl rfl | exact Or.inr rfl))) (fun _ _ _ _ _ => pts_nil) (fun _ _ _ _ _ => (pe_ix (r := rIxL K) ix_list (pv 1) (pv 2) (fun _ _ => rfl)))) pa_nil)) pa_nil))))), ?_⟩
        refine ⟨_, rfl, _, _, _, _, rfl, rfl, ea, atI_nat (j := 2) rfl, ?_⟩
        refine ⟨_, rfl, _, _, _, _, rfl, rfl, ea, atI_nat (j := 3) rfl, aa, rfl, ⟨_, eaa⟩, fun D hD => lc_pure walk_tup (fun i y => ∃ p, ps[i]? = some p ∧ y = .str (plStr p)) (by simp only [natsV, List.length_map]; omega) hD (fun H1 s1 => (Same.tk s1).sq eaa) ?_ ?_ gName_mono⟩
        · rintro i x H1 H2 hi hs ⟨rfl, hx⟩
          obtain ⟨n, hn1, _, rfl⟩ := natsV_at hx
          have hip : i < ps.length := by rw [← hlen]; exact (List.getElem?_eq_some_iff.mp hn1).1
          have hp := List.getElem?_eq_getElem hip
          refine ⟨rfl, fun Q' q' => ⟨_, rfl, _, rfl, _, _, _, _, rfl, rfl, SqL.of (hs _ _ hca), atI_nat (regsV_at (hps i n _ hn1 hp)), q' _ _ (Same.refl _) ⟨_, hp, rfl⟩⟩⟩
        · intro H1 ys s1 e hly hy
          have e2 : ys = plsV ps := by
            apply List.ext_getElem?
            intro i
            unfold plsV
            rw [List.getElem?_map]
            cases ez : ys[i]? with
            | none =>
              have hi := List.getElem?_eq_none_iff.mp ez
              rw [List.getElem?_eq_none (by simp only [natsV, List.length_map] at hly; omega)]
              rfl
            | some z =>
              obtain ⟨p, hp, rfl⟩ := hy i z ez
              rw [hp]
              rfl
          subst e2
          refine ⟨_, _, rfl, .inl ⟨SqL.of e, fun l hl => ⟨(by show 2 ≤ sizeLine; decide), fun t ht => ?_⟩⟩⟩
          refine q t _ ((s1.trans (same_tup hl)).trans (same_tup ht)) (.tup sqT_new (.cons (.int _) (.cons ?_ .nil)))
          exact (pls_mk sqT_new).same (same_tup ht)
theorem call_rp {H : Hp} {v : V} {f : Nat} {ps : List (List Bool)} (h : Rp K H v (.tup [iD f, plsDt ps])) : ∃ a b, v = .ref a ∧ SqT K H a [.int f, .ref b] ∧ SqT K H b (plsV ps) := by
  obtain ⟨a, xs, rfl, ea, rx⟩ := h.tup_inv
  cases rx with
  | cons q1 rx =>
    obtain rfl := q1.int_inv
    cases rx with
    | cons q2 rx =>
      cases rx
      obtain ⟨b, rfl, eb⟩ := pls_rp q2
      exact ⟨a, b, rfl, ea, eb⟩
theorem begin_regs {c : Code} {f : Nat} {fn : Fn} (hf : c[f]? = some fn) (ps : List (List Bool)) : regsV (begin c f (ps.map .pl)).regs = plsV ps ++ List.replicate (fn.regs - fn.many) V.non := by
  unfold begin regsV plsV
  rw [hf]
  simp only [Option.map_some, Option.getD_some, List.map_append, List.map_map, List.map_replicate]
  rfl
theorem ok_cells_for (T : Tx w K mg Z) : FnOk P w K mg base CX0 1 (Z.A 30) (Z.D 30) ["code", "call"] (spCellsFor K) := by
  refine T.cells_for.F.ok sc_cells_for (fun vs H Q E h => ?_) (fun cdv A outer s H vs Q E hr h => ?_)
  · obtain ⟨vc, v, c, f, fn, ps, rfl, hc, hv, hf, hle, hreg, hlen, q⟩ := h
    rfl
  have hu := hu_of hr
  have hu0 := Nat.lt_of_succ_lt hu
  obtain ⟨vc, v, c, f, fn, ps, rfl, hc, hv, hf, hle, hreg, hlen, q⟩ := h
  obtain ⟨ca, cx, rfl, eca, rcx⟩ := code_rp hc
  obtain ⟨fv, hfv, rfv⟩ := get_map rcx hf
  obtain ⟨fa, fb, fx, rfl, efa, efb, rfx⟩ := fn_rp rfv
  obtain ⟨a, b, rfl, ea, eb⟩ := call_rp hv
  refine ⟨_, (pss_cons (ps_set (i := 2) sc_cells_for.nd rfl (by first | exact Or.inl rfl | exact Or.inr rfl) (pe_ix ix_tup (pv 0) (pe_ix ix_tup (pv 1) pe_int (fun _ _ => rfl)) (fun _ _ => rfl))) (pss_one (ps_ret (pe_op op_cat (pe_callTy call_list_of rfl T.list_ bt_list (pa_cons (pe_ix ix_tup (pv 1) pe_int (fun _ _ => rfl)) pa_nil)) (pe_op op_rep (pe_lst (pa_cons pe_non pa_nil)) (pe_op op_sub (pe_ix ix_tup (pv 2) pe_int (fun _ _ => rfl)) (pe_ix ix_tup (pv 2) pe_int (fun _ _ => rfl)))))))), ?_⟩
  refine ⟨_, rfl, _, rfl, _, _, _, _, rfl, rfl, ea, at0, _, _, _, _, rfl, rfl, eca, atI_nat hfv, ?_⟩
  refine ⟨_, rfl, _, _, _, _, rfl, rfl, ea, atI_nat (j := 1) rfl, _, _, rfl, .inr eb, fun l1 hl1 => ?_⟩
  refine ⟨(by show 1 ≤ sizeLine; decide), fun l2 hl2 => ⟨_, rfl, _, _, _, _, rfl, rfl, (Same.tk ((same_new hl1).trans (same_new hl2))).sq efa, rfl, _, rfl, _, _, _, _, rfl, rfl, (Same.tk ((same_new hl1).trans (same_new hl2))).sq efa, rfl, _, _, rfl, rfl, _, _, _, rfl, rfl, upd_same, by omega, by omega, ?_, fun l3 hl3 => ?_⟩⟩
  · simp only [List.length_cons, List.length_nil]
    exact Nat.le_trans (by omega : _ ≤ 1000) (by decide)
  have h12 : l1 ≠ l2 := ne_of_none upd_same hl2
  have hx2 : (upd (upd H l1 (.lst (plsV ps))) l2 (.lst [V.non])) l1 = some (.lst (plsV ps)) := by rw [upd_ne h12, upd_same]
  have h13 : l1 ≠ l3 := ne_of_none hx2 hl3
  have e3 : ((fn.regs : Int) - (fn.many : Int)).toNat = fn.regs - fn.many := by omega
  refine ⟨_, _, _, _, rfl, rfl, by rw [upd_ne h13]; exact hx2, upd_same, ?_, fun l4 hl4 => ?_⟩
  · rw [rep_flat]
    simp only [plsV, List.length_map, List.length_replicate]
    exact Nat.le_trans (by omega : _ ≤ 3000) (by decide)
  have s3 := ((same_new (o := .lst (plsV ps)) hl1).trans (same_new (o := .lst [V.non]) hl2)).trans (same_new (o := .lst (List.replicate ((fn.regs : Int) - (fn.many : Int)).toNat [V.non]).flatten) hl3)
  refine q l4 _ (s3.trans (same_new hl4)) (s3.free hl4) ?_
  rw [upd_same, begin_regs hf, rep_flat, e3]
theorem ok_are_places (T : Tx w K mg Z) : FnOk P w K mg base CX0 2 (Z.A 31) (Z.D 31) ["code", "tree", "f", "thing"] (spArePlaces K) := by
  refine T.are_places.F.ok sc_are_places (fun vs H Q E h => ?_) (fun cdv A outer s H vs Q E hr h => ?_)
  · obtain ⟨vc, vt, v, c, t, f, fn, ps, rfl, hc, ht, hv, hf, hlen, hm, hps, q⟩ := h
    rfl
  have hu := hu_of hr
  have hu0 := Nat.lt_of_succ_lt hu
  obtain ⟨vc, vt, v, c, t, f, fn, ps, rfl, hc, ht, hv, hf, hlen, hm, hps, q⟩ := h
  obtain ⟨ca, cx, rfl, eca, rcx⟩ := code_rp hc
  obtain ⟨fv, hfv, rfv⟩ := get_map rcx hf
  obtain ⟨fa, fb, fx, rfl, efa, efb, rfx⟩ := fn_rp rfv
  obtain ⟨b, rfl, eb⟩ := pls_rp hv
  have hlb : (plsV ps).length = fn.many := by simp only [plsV, List.length_map]; exact hlen
  refine ⟨_, (pss_cons (ps_if (PW.pt (pw_or (pt_not (pt_val (pe_callB call_isi rfl T.isinstance_ bt_isinstance (pa_cons (pv 3) (pa_cons (pe_bltn (v := .ty "tuple") rfl T.tuple_ bt_tuple rfl) pa_nil))))) (pw_or1 (pt_cmpR op_ne (pe_callB call_len rfl T.len_ bt_len (pa_cons (pv 3) pa_nil)) (pe_ix ix_tup (pe_ix ix_tup (pv 0) (pv 2) (fun _ _ => rfl)) pe_int (fun _ _ => rfl)) (nomark _))))) (pss_one (ps_ret pe_bl)) pss_nil) (pss_one (ps_ret (pe_callB (cr_all rfl) rfl T.all_ bt_all (pa_cons (pe_lc (own := [("place", 4)]) (g := gName 4) (tt := tYes) rfl sc_are_places.nd (pi_tup (pv 3)) (blkOk_by (own := [("place", 4)]) (N := N_are_places) (sc := defScope s_are_places) (by decide +kernel)) (fun _ _ _ _ _ => (pg_name (i := 4) sc_are_places.nd rfl (by first | exact Or.inl rfl | exact Or.inr rfl))) (fun _ _ _ _ _ => pts_nil) (fun _ _ _ _ _ => (pe_call (ok_is_place_of T) (hr.mono (by decide)) rfl T.is_place_of.m T.is_place_of.F.kp T.is_place_of.b .nil pass0 (pa_cons (pv 1) (pa_cons (pv 4) pa_nil))))) pa_nil))))), ?_⟩
  refine ⟨_, rfl, _, _, _, _, true, rfl, .ty _, tyT eb, kit_ty (by decide +kernel), _, rfl, ?_⟩
  refine iteC (b := false) rfl ?_
  refine ⟨_, rfl, _, _, rfl, .inr ⟨_, eb, rfl⟩, _, rfl, _, rfl, _, _, _, _, rfl, rfl, eca, atI_nat hfv, _, _, _, _, rfl, rfl, efa, rfl, rfl, _, rfl, ?_⟩
  refine iteC (b := false) (by rw [hlb]; simp) ?_
  refine ⟨_, rfl, b, rfl, ⟨_, eb⟩, fun D hD => lc_pure walk_tup (fun _ y => y = .bl true) (by omega) hD (fun H1 s1 => (Same.tk s1).sq eb) ?_ ?_ gName_mono⟩
  · rintro i x H1 H2 hi hs ⟨rfl, hx⟩
    unfold plsV at hx
    rw [List.getElem?_map] at hx
    cases e : ps[i]? with
    | none => rw [e] at hx; cases hx
    | some p =>
      rw [e] at hx
      cases hx
      refine ⟨rfl, fun Q' q' => ⟨_, rfl, _, rfl, _, t, p, rfl, ht.same hs, hps p (List.mem_of_getElem? e), fun H3 s3 => q' _ _ s3 rfl⟩⟩
  · intro H1 ys s1 e hly hy
    refine ⟨_, _, rfl, upd_all e hly hy, ?_⟩
    rw [all_rep]
    exact q _ s1
theorem ok_need_code_call (T : Tx w K mg Z) : FnOk P w K mg base CX0 10 (Z.A 32) (Z.D 32) ["code", "tree", "f", "places"] (spNeedCall K) := by
  refine T.need_code_call.F.ok sc_need_code_call (fun vs H Q E h => ?_) (fun cdv A outer s H vs Q E hr h => ?_)
  · obtain ⟨vc, vt, v, c, AA, t, f, fn, ps, rfl, hc, hok, ht, htg, hts, hv, hf, hlen, hps, q⟩ := h
    rfl
  have hu := hu_of hr
  have hu0 := Nat.lt_of_succ_lt hu
  obtain ⟨vc, vt, v, c, AA, t, f, fn, ps, rfl, hc, hok, ht, htg, hts, hv, hf, hlen, hps, q⟩ := h
  have hm := List.mem_of_getElem? hf
  have hflt := (List.getElem?_eq_some_iff.mp hf).1
  have hle := (hok.ty f fn hf).le
  have hreg := hok.regs fn hm
  obtain ⟨ca, cx, rfl, eca, rcx⟩ := code_rp hc
  have hlc : cx.length = c.length := by rw [rcx.len, List.length_map]
  refine ⟨_, (pss_cons (ps_expr (pe_call (ok_need_code T) (hr.mono (by decide)) rfl T.need_code.m T.need_code.F.kp T.need_code.b .nil pass0 (pa_cons (pv 0) pa_nil))) (pss_cons (ps_expr (pe_call (ok_need_tree T) (hr.mono (by decide)) rfl T.need_tree.m T.need_tree.F.kp T.need_tree.b .nil pass0 (pa_cons (pv 1) pa_nil))) (pss_cons (ps_if (PW.pt (pw_or (pt_not (pt_val (pe_call (ok_is_integer T) (hr.mono (by decide)) rfl T.is_integer.m T.is_integer.F.kp T.is_integer.b .nil pass0 (pa_cons (pv 2) pa_nil)))) (pw_or1 (pt_not (pt_chain op_le op_lt pe_int (pv 2) (pe_callB call_len rfl T.len_ bt_len (pa_cons (pv 0) pa_nil))))))) (pss_one ps_never) pss_nil) (pss_one (ps_if (pt_not (pt_val (pe_call (ok_are_places T) (hr.mono (by decide)) rfl T.are_places.m T.are_places.F.kp T.are_places.b .nil pass0 (pa_cons (pv 0) (pa_cons (pv 1) (pa_cons (pv 2) (pa_cons (pv 3) pa_nil))))))) (pss_one ps_never) pss_nil))))), ?_⟩
  refine ⟨_, rfl, _, c, AA, rfl, hc, hok, fun H1 s1 => ?_⟩
  refine ⟨_, rfl, _, t, rfl, ht.same s1, htg, hts, fun H2 s2 => ?_⟩
  have s3 := s1.trans s2
  refine ⟨_, rfl, _, rfl, _, rfl, ?_⟩
  refine iteC (b := false) rfl ?_
  refine ⟨_, rfl, _, _, rfl, rfl, _, rfl, ?_⟩
  refine iteC (b := true) (decide_eq_true (by omega)) ?_
  refine ⟨_, rfl, _, _, rfl, .inr ⟨_, (Same.tk s3).sq eca, rfl⟩, _, _, rfl, rfl, _, rfl, ?_⟩
  refine iteC (b := false) (by rw [decide_eq_true (by omega)]; rfl) ?_
  refine ⟨_, rfl, _, rfl, _, rfl, _, rfl, _, _, _, c, t, f, fn, ps, rfl, hc.same s3, ht.same s3, hv.same s3, hf, hlen, by omega, hps, fun H4 s4 => ⟨_, rfl, ?_⟩⟩
  refine iteC (b := false) rfl ?_
  exact q _ (s3.trans s4)
theorem ok_Frame_init (T : Tx w K mg Z) : FnOk P w K mg base CX0 2 (Z.A 33) (Z.D 33) ["self", "code", "call", "target"] (spFrame K (Z.A 90)) := by
  refine T.Frame_init_F.ok sc_Frame_init (fun vs H Q E h => ?_) (fun cdv A outer s H vs Q E hr h => ?_)
  · obtain ⟨p, dx, vc, v, tg, c, f, fn, ps, rfl, hp, hc, hv, hf, hle, hreg, hlen, q⟩ := h
    rfl
  have hu := hu_of hr
  have hu0 := Nat.lt_of_succ_lt hu
  obtain ⟨p, dx, vc, v, tg, c, f, fn, ps, rfl, hp, hc, hv, hf, hle, hreg, hlen, q⟩ := h
  obtain ⟨ca, cx, rfl, eca, rcx⟩ := code_rp hc
  obtain ⟨fv, hfv, rfv⟩ := get_map rcx hf
  obtain ⟨fa, fb, fx, rfl, efa, efb, rfx⟩ := fn_rp rfv
  have hv' := hv
  obtain ⟨a, b, rfl, ea, eb⟩ := call_rp hv
  have tkp : ∀ {Hx : Hp} {C dx : Addr} {fs gs : List (Str × V)}, Hx p = some (.ins C dx fs) → Tk Hx (upd Hx p (.ins C dx gs)) := fun {Hx C dx fs gs} hx a zs r => by
    have hne : a ≠ p := by
      rintro rfl
      rcases r with r | ⟨o, r⟩
      · rw [hx] at r; cases r
      · rw [hx] at r; cases r
    rcases r with r | ⟨o, r⟩
    · exact .inl (by rw [upd_ne hne]; exact r)
    · exact .inr ⟨o, by rw [upd_ne hne]; exact r⟩
  refine ⟨_, (pss_cons (ps_fld (pv 0) (pe_ix ix_tup (pe_ix ix_tup (pv 1) (pe_ix ix_tup (pv 2) pe_int (fun _ _ => rfl)) (fun _ _ => rfl)) pe_int (fun _ _ => rfl)) rfl) (pss_cons (ps_fld (pv 0) (pe_call (ok_cells_for T) (hr.mono (by decide)) rfl T.cells_for.m T.cells_for.F.kp T.cells_for.b .nil pass0 (pa_cons (pv 1) (pa_cons (pv 2) pa_nil))) rfl) (pss_cons (ps_fld (pv 0) pe_int rfl) (pss_one (ps_fld (pv 0) (pv 3) rfl))))), ?_⟩
  refine ⟨_, rfl, _, rfl, _, _, _, _, rfl, rfl, ea, at0, _, _, _, _, rfl, rfl, eca, atI_nat hfv, _, _, _, _, rfl, rfl, efa, rfl, _, rfl, p, Z.A 90, dx, _, rfl, hp, T.Frame_cl, T.n_rows, (by show 0 < 1000; decide), ?_⟩
  have tk1 := tkp (gs := putF "rows" (.ref fb) []) hp
  refine ⟨_, rfl, _, rfl, _, _, c, f, fn, ps, rfl, hc.tk tk1, hv'.tk tk1, hf, hle, hreg, hlen, fun la H2 s2 hla hx2 => ?_⟩
  have hp2 := s2 p _ upd_same
  have hlap : la ≠ p := fun e => by rw [e, upd_same] at hla; cases hla
  have hla0 : H la = none := by rw [upd_ne hlap] at hla; exact hla
  refine ⟨_, rfl, p, Z.A 90, dx, _, rfl, hp2, T.Frame_cl, T.n_cells, (by show 1 < 1000; decide), ?_⟩
  refine ⟨_, rfl, p, Z.A 90, dx, _, rfl, upd_same, T.Frame_cl, T.n_at, (by show 2 < 1000; decide), ?_⟩
  refine ⟨_, rfl, _, rfl, p, Z.A 90, dx, _, rfl, upd_same, T.Frame_cl, T.n_target, (by show 3 < 1000; decide), ?_⟩
  have tk2 := tkp (gs := putF "cells" (.ref la) (putF "rows" (.ref fb) [])) hp2
  have eup : ∀ (o1 o2 o3 : HO), upd (upd (upd H2 p o1) p o2) p o3 = upd H2 p o3 := fun o1 o2 o3 => by rw [upd_upd, upd_upd]
  rw [eup]
  have tk3 : Tk H (upd H2 p (.ins (Z.A 90) dx (frF fb la 0 tg))) := (tk1.trans (Same.tk s2)).trans (tkp hp2)
  rw [show putF "target" tg (putF "at" (V.int 0) (putF "cells" (.ref la) (putF "rows" (.ref fb) []))) = frF fb la 0 tg from frF_mk]
  refine q la fb fx _ (fun b o hb hne => ?_) upd_same hla0 hlap (by rw [upd_ne hlap]; exact hx2) (tk3.sq efb) (rfx.tk tk3)
  rw [upd_ne hne]
  exact s2 b o (by rw [upd_ne hne]; exact hb)
end
end Eo
set_option linter.all false
set_option maxRecDepth 100000
set_option maxHeartbeats 8000000
/-! E14: the program's plain machine. -/
namespace Eo
open PySem L2
structure FrAt (K : PySem.W.Frag) (C : Addr) (c : Code) (H : Hp) (a ca : Addr) (fr : Fr) (tg : V) : Prop where
  ex : ∃ dx fb xs fn, H a = some (.ins C dx (frF fb ca fr.at_ tg)) ∧ H ca = some (.lst (regsV fr.regs)) ∧ SqT K H fb xs ∧ Rps K H xs (fn.rows.map Row.dt) ∧ c[fr.f]? = some fn
def tgV (c : Code) : List Fr → V
  | [] => .non
  | fr :: _ => .int (target c fr : Nat)
def FrsAt (K : PySem.W.Frag) (C : Addr) (c : Code) (H : Hp) : List (Addr × Addr) → List Fr → Prop
  | [], [] => True
  | p :: L, fr :: st => FrAt K C c H p.1 p.2 fr (tgV c st) ∧ FrsAt K C c H L st
  | _, _ => False
def adrs : List (Addr × Addr) → List Addr
  | [] => []
  | p :: L => p.1 :: p.2 :: adrs L
theorem FrAt.keep {K : PySem.W.Frag} {C : Addr} {c : Code} {H H' : Hp} {a ca : Addr} {fr : Fr} {tg : V} (h : FrAt K C c H a ca fr tg) (h1 : ∀ o, H a = some o → H' a = some o) (h2 : ∀ o, H ca = some o → H' ca = some o) (tk : Tk H H') : FrAt K C c H' a ca fr tg := by
  obtain ⟨dx, fb, xs, fn, e1, e2, e3, e4, e5⟩ := h.ex
  exact ⟨dx, fb, xs, fn, h1 _ e1, h2 _ e2, tk.sq e3, e4.tk tk, e5⟩
theorem FrsAt.keep {K : PySem.W.Frag} {C : Addr} {c : Code} {H H' : Hp} (tk : Tk H H') : ∀ {L : List (Addr × Addr)} {st : List Fr}, FrsAt K C c H L st → (∀ x ∈ adrs L, ∀ o, H x = some o → H' x = some o) → FrsAt K C c H' L st
  | [], [], _, _ => trivial
  | p :: L, fr :: st, h, k => ⟨h.1.keep (k _ (by simp [adrs])) (k _ (by simp [adrs])) tk, FrsAt.keep tk h.2 fun x hx => k x (by simp [adrs, hx])⟩
  | [], _ :: _, h, _ => h.elim
  | _ :: _, [], h, _ => h.elim
theorem FrsAt.len {K : PySem.W.Frag} {C : Addr} {c : Code} {H : Hp} : ∀ {L : List (Addr × Addr)} {st : List Fr}, FrsAt K C c H L st → L.length = st.length
  | [], [], _ => rfl
  | _ :: L, _ :: st, h => congrArg (· + 1) (FrsAt.len h.2)
  | [], _ :: _, h => h.elim
  | _ :: _, [], h => h.elim
theorem FrsAt.some {K : PySem.W.Frag} {C : Addr} {c : Code} {H : Hp} : ∀ {L : List (Addr × Addr)} {st : List Fr}, FrsAt K C c H L st → ∀ x ∈ adrs L, ∃ o, H x = some o ∧ ∀ ys, o ≠ .tup ys
  | [], [], _, x, hx => by cases hx
  | p :: L, fr :: st, h, x, hx => by
    obtain ⟨dx, fb, xs, fn, e1, e2, _⟩ := h.1.ex
    simp only [adrs, List.mem_cons] at hx
    rcases hx with rfl | rfl | hx
    · exact ⟨_, e1, fun ys e => by cases e⟩
    · exact ⟨_, e2, fun ys e => by cases e⟩
    · exact FrsAt.some h.2 x hx
  | [], _ :: _, h, _, _ => h.elim
  | _ :: _, [], h, _, _ => h.elim
def lsV (L : List (Addr × Addr)) : List V := (L.map fun p => V.ref p.1).reverse
theorem lsV_cons (p : Addr × Addr) (L : List (Addr × Addr)) : lsV (p :: L) = lsV L ++ [.ref p.1] := by simp [lsV]
theorem lsV_len (L : List (Addr × Addr)) : (lsV L).length = L.length := by simp [lsV]
theorem lsV_empty (L : List (Addr × Addr)) : (lsV L).isEmpty = L.isEmpty := by cases L <;> simp [lsV]
def resDt : Res → Dt
  | .out => .tup [.str "out"]
  | .given (.pl p) n => .tup [.str "given", .str (plStr p), .int (n : Int)]
  | .given (.bl b) n => .tup [.str "given", .bl b, .int (n : Int)]
theorem given_rp {K : PySem.W.Frag} {H : Hp} {t : Addr} {v : Val} {n : Nat} (h : SqT K H t [.str "given", v.v, .int (n : Int)]) : Rp K H (.ref t) (resDt (.given v n)) := by
  cases v with
  | pl p => exact .tup h (.cons (.str _) (.cons (.str _) (.cons (.int _) .nil)))
  | bl b => exact .tup h (.cons (.str _) (.cons (.bl _) (.cons (.int _) .nil)))
theorem tk_ins {H : Hp} {p C dx : Addr} {fs gs : List (Str × V)} (h : H p = some (.ins C dx fs)) : Tk H (upd H p (.ins C dx gs)) := fun a zs r => by
  have hne : a ≠ p := by
    rintro rfl
    rcases r with r | ⟨o, r⟩
    · rw [h] at r; cases r
    · rw [h] at r; cases r
  rcases r with r | ⟨o, r⟩
  · exact .inl (by rw [upd_ne hne]; exact r)
  · exact .inr ⟨o, by rw [upd_ne hne]; exact r⟩
theorem regsV_set (rs : Regs) (d : Nat) (v : Val) : regsV (rs.set d (some v)) = (regsV rs).set d v.v := by
  unfold regsV
  rw [List.map_set]
  rfl
def spRun (K : PySem.W.Frag) : Sp := fun vs H Q _ => ∃ (vc vt vp : V) (c : Code) (AA : Nat → Nat → Option Ks) (t : Tr) (f : Nat) (fn : Fn) (ps : List (List Bool)) (fuel : Nat), vs = [vc, vt, .int f, vp, .int fuel] ∧ Rp K H vc (codeDt c) ∧ CodeOk c AA ∧ Rp K H vt t.dt ∧ t.good ∧ t.size ≤ 1000 ∧ Rp K H vp (plsDt ps) ∧ c[f]? = some fn ∧ ps.length = fn.many ∧
  (∀ p ∈ ps, isPl p t) ∧ fuel ≤ 20000 ∧ ∀ r H', Same H H' → Rp K H' r (resDt (run c t fuel 0 [begin c f (ps.map .pl)])) → Q r H'
/-- what a turn of the loop leaves -/
structure RunInv (K : PySem.W.Frag) (C : Addr) (c : Code) (AA : Nat → Nat → Option Ks) (t : Tr) (H : Hp) (fl : Addr) (fuel : Nat) (R : Res) (i : Nat) (H' : Hp) : Prop where
  ex : ∃ L st, Same H H' ∧ H' fl = some (.lst (lsV L)) ∧ FrsAt K C c H' L st ∧ WfL c AA t st ∧ (adrs L).Nodup ∧ fl ∉ adrs L ∧ (∀ x ∈ adrs L, H x = none) ∧ L.length ≤ i + 1 ∧ run c t (fuel - i) i st = R
section
variable {P : Program} {w : World} {K : PySem.W.Frag} {mg : Str → Option Value} {base : Heap} {Z : Wh}
theorem rd_of {c : Code} {AA : Nat → Nat → Option Ks} {t : Tr} {fr : Fr} {fn : Fn} {r : Row} {ks : Ks} (G : Good c AA) (T : TopOk c AA t fr fn r ks) (hg : ∀ s, r ≠ .give s) : Rd t fr.regs r := by
  intro i hi
  obtain ⟨v, k, _, ev, hv, w⟩ := T.read G hi
  refine ⟨v, ev, fun k' hk' => ?_⟩
  have : r.want fn.kind = some k' := by
    cases r <;> first | exact hk' | exact absurd rfl (hg _)
  rw [← w k' this]
  exact hv
theorem ok_run_plain (T : Tx w K mg Z) : FnOk P w K mg base CX0 11 (Z.A 34) (Z.D 34) ["code", "tree", "f", "places", "fuel"] (spRun K) := by
  refine T.run_plain.F.ok sc_run_plain (fun vs H Q E h => ?_) (fun cdv A outer s H vs Q E hr h => ?_)
  · obtain ⟨vc, vt, vp, c, AA, t, f, fn, ps, fuel, rfl, hc, hok, ht, htg, hts, hp, hf, hlen, hps, hfu, q⟩ := h
    rfl
  have hu := hu_of hr
  have hu0 := Nat.lt_of_succ_lt hu
  obtain ⟨vc, vt, vp, c, AA, t, f, fn, ps, fuel, rfl, hc, hok, ht, htg, hts, hp, hf, hlen, hps, hfu, q⟩ := h
  have G : Good c AA := ⟨hok.ty⟩
  have hm := List.mem_of_getElem? hf
  have hle := (hok.ty f fn hf).le
  have hreg := hok.regs fn hm
  obtain ⟨ca, cx, rfl, eca, rcx⟩ := code_rp hc
  refine ⟨_, (pss_cons (ps_expr (pe_call (ok_need_code_call T) (hr.mono (by decide)) rfl T.need_code_call.m T.need_code_call.F.kp T.need_code_call.b .nil pass0 (pa_cons (pv 0) (pa_cons (pv 1) (pa_cons (pv 2) (pa_cons (pv 3) pa_nil)))))) (pss_cons (ps_if (pt_not (pt_val (pe_call (ok_is_from T) (hr.mono (by decide)) rfl T.is_from.m T.is_from.F.kp T.is_from.b .nil pass0 (pa_cons (pv 4) (pa_cons pe_int pa_nil))))) (pss_one ps_never) pss_nil) (pss_cons (ps_set (i := 5) sc_run_plain.nd rfl (by first | exact Or.inl rfl | exact Or.inr rfl) (pe_lst (pa_cons (pe_make T.Frame_mk (ok_Frame_init T) (hr.mono (by decide)) rfl T.Frame_m T.Frame_init_b .nil pass0 (pa_cons (pv 0) (pa_cons (pe_tup (pa_cons (pv 2) (pa_cons (pv 3) pa_nil))) (pa_cons pe_non pa_nil)))) pa_nil))) (pss_cons (ps_for PassesOwn.never rfl (pi_range2 rfl T.range_ (pa_cons pe_int (pa_cons (pe_op op_add (pv 4) pe_int) pa_nil))) (pg_name (i := 6) sc_run_plain.nd rfl (by first | exact Or.inl rfl | exact Or.inr rfl)) (pss_cons (ps_set (i := 7) sc_run_plain.nd rfl (by first | exact Or.inl rfl | exact Or.inr rfl) (pe_ix ix_list (pv 5) (pe_un un_neg pe_int) (fun _ _ => rfl))) (pss_cons (ps_set (i := 8) sc_run_plain.nd rfl (by first | exact Or.inl rfl | exact Or.inr rfl) (pe_ix ix_tup (pe_fld (pv 7) rfl) (pe_fld (pv 7) rfl) (fun _ _ => rfl))) (pss_one (ps_if (pt_cmpR op_eq (pe_ix ix_tup (pv 8) pe_int (fun _ _ => rfl)) pe_str (nomark _)) (pss_cons (ps_set (i := 9) sc_run_plain.nd rfl (by first | exact Or.inl rfl | exact Or.inr rfl) (pe_ix ix_list (pe_fld (pv 7) rfl) (pe_ix ix_tup (pv 8) pe_int (fun _ _ => rfl)) (fun _ _ => rfl))) (pss_cons (ps_expr (pe_bm0 PySem.F.plainAttrs_list PySem.F.slot_list_pop PySem.F.type_list_pop mt_pop (pv 5))) (pss_cons (ps_if (pt_cmpR (op_eqNil hu0) (pv 5) (pe_lst pa_nil) (nomark _)) (pss_one (ps_ret (pe_tup (pa_cons pe_str (pa_cons (pv 9) (pa_cons (pv 6) pa_nil)))))) pss_nil) (pss_one (ps_asg (pv 9) (pg_sub (pe_fld (pe_ix ix_list (pv 5) (pe_un un_neg pe_int) (fun _ _ => rfl)) rfl) (pe_fld (pv 7) rfl) set_list)))))) (pss_one (ps_if (pt_cmpR op_eq (pe_ix ix_tup (pv 8) pe_int (fun _ _ => rfl)) pe_str (nomark _)) (pss_cons (ps_fldaug (pv 7) pe_int in_add) (pss_one (ps_expr (pe_bm PySem.F.plainAttrs_list PySem.F.slot_list_append PySem.F.type_list_append mt_append (pv 5) (pa_cons (pe_make T.Frame_mk (ok_Frame_init T) (hr.mono (by decide)) rfl T.Frame_m T.Frame_init_b .nil pass0 (pa_cons (pv 0) (pa_cons (pe_call (ok_called T) (hr.mono (by decide)) rfl T.called.m T.called.F.kp T.called.b .nil pass0 (pa_cons (pv 8) (pa_cons (pe_fld (pv 7) rfl) pa_nil))) (pa_cons (pe_ix ix_tup (pv 8) pe_int (fun _ _ => rfl)) pa_nil)))) pa_nil))))) (pss_cons (ps_if (pt_cmpR op_notIn_seq (pe_ix ix_tup (pv 8) pe_int (fun _ _ => rfl)) (pe_tup (pa_cons pe_str (pa_cons pe_str pa_nil))) rfl) (pss_one (ps_asg (pe_call (ok_row_value T) (hr.mono (by decide)) rfl T.row_value.m T.row_value.F.kp T.row_value.b .nil pass0 (pa_cons (pv 1) (pa_cons (pv 8) (pa_cons (pe_fld (pv 7) rfl) pa_nil)))) (pg_sub (pe_fld (pv 7) rfl) (pe_ix ix_tup (pv 8) pe_int (fun _ _ => rfl)) set_list))) pss_nil) (pss_one (ps_fld (pv 7) (pe_call (ok_next_row T) (hr.mono (by decide)) rfl T.next_row.m T.next_row.F.kp T.next_row.b .nil pass0 (pa_cons (pv 8) (pa_cons (pe_fld (pv 7) rfl) (pa_cons (pe_fld (pv 7) rfl) pa_nil)))) rfl)))))))))) (pss_one (ps_ret (pe_tup (pa_cons pe_str pa_nil)))))))), ?_⟩
  refine ⟨_, rfl, _, rfl, _, rfl, _, rfl, _, _, _, c, AA, t, f, fn, ps, rfl, hc, hok, ht, htg, hts, hp, hf, hlen, hps, fun H1 s1 => ?_⟩
  refine ⟨_, rfl, _, _, rfl, _, rfl, ?_⟩
  refine iteC (b := false) (by rw [decide_eq_true (by omega)]; rfl) ?_
  -- frames = [Frame(code, (f, places), None)]
  refine ⟨_, rfl, _, rfl, _, rfl, (by show 2 ≤ sizeLine; decide), fun t1 ht1 => ?_⟩
  have s2 := s1.trans (same_tup (xs := [V.int f, vp]) ht1)
  intro x dx hx hdx hne
  have sx : Same (upd H1 t1 (.tup [V.int f, vp])) (upd (upd (upd H1 t1 (.tup [V.int f, vp])) dx (.own x)) x (.ins (Z.A 90) dx [])) := fun b o e => by
    rw [upd_ne (ne_of_none e hx), upd_ne (ne_of_none e hdx)]
    exact e
  have hcall : Rp K (upd H1 t1 (.tup [V.int f, vp])) (.ref t1) (.tup [iD f, plsDt ps]) := .tup sqT_new (.cons (.int _) (.cons ((hp.same s1).same (same_tup ht1)) .nil))
  refine ⟨x, dx, _, _, _, c, f, fn, ps, rfl, upd_same, hc.same (s2.trans sx), hcall.same sx, hf, hle, hreg, hlen, fun la fb xs H2 k2 hx2 hla hlax hla2 hfb hxs => ⟨rfl, (by show 1 ≤ sizeLine; decide), fun fl hfl => ?_⟩⟩
  have s3 : Same (upd H1 t1 (.tup [V.int f, vp])) H2 := fun b o e => k2 b o (sx b o e) (ne_of_none e hx)
  have s4 := s2.trans s3
  have s5 := s4.trans (same_new (o := .lst [V.ref x]) hfl)
  have hHx : H x = none := s2.free hx
  have hHla : H la = none := (s2.trans sx).free hla
  have hHfl : H fl = none := s4.free hfl
  have hflx : fl ≠ x := fun e => by rw [e, hx2] at hfl; cases hfl
  have hfla : fl ≠ la := fun e => by rw [e, hla2] at hfl; cases hfl
  have hwf : WfL c AA t [begin c f (ps.map .pl)] := ⟨begin_ok G hf (by simpa using hlen) (fun v hv => by
    obtain ⟨p, hp1, rfl⟩ := List.mem_map.mp hv
    exact hps p hp1), trivial⟩
  have hinit : RunInv K (Z.A 90) c AA t H fl fuel (run c t fuel 0 [begin c f (ps.map .pl)]) 0 (upd H2 fl (.lst [V.ref x])) := by
    refine ⟨[(x, la)], [begin c f (ps.map .pl)], s5, upd_same, ⟨⟨dx, fb, xs, fn, ?_, ?_, (Same.tk (same_new hfl)).sq hfb, hxs.same (same_new hfl), hf⟩, trivial⟩, hwf, ?_, ?_, ?_, Nat.le_refl _, rfl⟩
    · rw [upd_ne hflx.symm]
      exact hx2
    · rw [upd_ne hfla.symm]
      exact hla2
    · simp [adrs, hlax.symm]
    · simp [adrs, hflx, hfla]
    · intro y hy
      simp only [adrs, List.mem_cons, List.not_mem_nil, or_false] at hy
      rcases hy with rfl | rfl
      · exact hHx
      · exact hHla
  generalize hR : run c t fuel 0 [begin c f (ps.map .pl)] = R at hinit q
  refine ⟨_, rfl, _, _, rfl, rfl, _, _, rfl, ⟨by omega, by omega, by omega, by omega⟩, ?_⟩
  have hn : ((fuel : Int) + 1 - 1).toNat = fuel := by omega
  rw [hn]
  refine for_range (fun i σ H' => ∃ o6 o7 o8 o9, σ = [some (.ref ca), some vt, some (.int f), some vp, some (.int fuel), some (.ref fl), o6, o7, o8, o9] ∧ RunInv K (Z.A 90) c AA t H fl fuel R i H') ⟨none, none, none, none, rfl, hinit⟩ ?_ ?_
  · rintro i σ H3 hi ⟨o6, o7, o8, o9, rfl, ⟨L, st, s6, hfl3, hfr, hwl, hnd, hfln, hnone, hLl, hrun⟩⟩
    cases st with
    | nil => exact hwl.elim
    | cons fr rest =>
      cases L with
      | nil => exact hfr.elim
      | cons pa L' =>
        obtain ⟨a, la⟩ := pa
        obtain ⟨hfa, hfrs⟩ := hfr
        obtain ⟨dx3, fb3, xs3, fn3, ha3, hla3, hfb3, hxs3, hf3⟩ := hfa.ex
        dsimp only at ha3 hla3
        obtain ⟨fn4, r, ks, TT⟩ := hwl.top
        have efn : fn4 = fn3 := by
          have := TT.hfn
          rw [hf3] at this
          exact (Option.some.inj this).symm
        subst efn
        obtain ⟨vr, hvr, rvr⟩ := get_map hxs3 TT.hrow
        have hnum := TT.num G
        have hrok := TT.ok G
        have hrow := TT.rowAt
        have hstep := wf_step G hwl
        rw [lsV_cons] at hfl3
        dsimp only at hfl3
        have hsz : (lsV L').length + 1 ≤ 20001 := by
          rw [lsV_len]
          have : L'.length + 1 ≤ i + 1 := hLl
          omega
        have eI : (1 : Int) + (i : Int) = ((i + 1 : Nat) : Int) := by omega
        rw [eI]
        have hfi : fuel - i = (fuel - (i + 1)) + 1 := by omega
        have hrun' : (match stepIn c t fr rest with
          | .inr v => Res.given v (i + 1)
          | .inl st => run c t (fuel - (i + 1)) (i + 1) st) = R := by
          rw [← hrun, hfi]
          rfl
        have hnd1 : a ≠ la := by
          intro e
          simp [adrs, e] at hnd
        have hnd2 : ∀ y ∈ adrs L', y ≠ a ∧ y ≠ la := by
          intro y hy
          simp only [adrs, List.nodup_cons, List.mem_cons, not_or] at hnd
          exact ⟨fun e => hnd.1.2 (e ▸ hy), fun e => hnd.2.1 (e ▸ hy)⟩
        have hnd3 : (adrs L').Nodup := by
          simp only [adrs, List.nodup_cons] at hnd
          exact hnd.2.2
        have hfln1 : fl ≠ a ∧ fl ≠ la ∧ fl ∉ adrs L' := by
          simp only [adrs, List.mem_cons, not_or] at hfln
          exact hfln
        have hna : H a = none := hnone a (by simp [adrs])
        have hnla : H la = none := hnone la (by simp [adrs])
        -- frame = frames[-1]; row = frame.rows[frame.at]
        refine ⟨_, rfl, _, rfl, _, _, _, _, rfl, rfl, SqL.of hfl3, atI_last _ _, ?_⟩
        refine ⟨_, rfl, a, Z.A 90, dx3, _, _, rfl, ha3, T.Frame_cl, T.n_rows, lk_rows, _, rfl, a, Z.A 90, dx3, _, _, rfl, ha3, T.Frame_cl, T.n_at, lk_at, _, _, _, _, rfl, rfl, hfb3, atI_nat hvr, ?_⟩
        have rvr' := rvr
        obtain ⟨ra, rxs, rfl, era, rrx⟩ := row_rp rvr
        refine ⟨_, rfl, _, _, _, _, rfl, rfl, era, at0, rfl, _, rfl, ?_⟩
        -- what a plain row, a skip, an unless does: cells set (or not), then at
        have fin : ∀ (H9 : Hp) (at9 : Nat) (rs9 : Regs), Same H3 H9 ∨ (∃ H8, Same H3 H8 ∧ H9 = upd H8 la (.lst (regsV rs9))) → H9 la = some (.lst (regsV rs9)) → stepIn c t fr rest = .inl ({ fr with at_ := at9, regs := rs9 } :: rest) →
            RunInv K (Z.A 90) c AA t H fl fuel R (i + 1) (upd H9 a (.ins (Z.A 90) dx3 (frF fb3 la (at9 : Int) (tgV c rest)))) := by
          intro H9 at9 rs9 h9 hla9 est
          have k9 : ∀ y o, y ≠ la → H3 y = some o → H9 y = some o := by
            intro y o hy e
            rcases h9 with h9 | ⟨H8, h8, rfl⟩
            · exact h9 y o e
            · rw [upd_ne hy]; exact h8 y o e
          have tk9 : Tk H3 H9 := by
            rcases h9 with h9 | ⟨H8, h8, rfl⟩
            · exact Same.tk h9
            · exact (Same.tk h8).trans (tk_lst (h8 _ _ hla3))
          have sH9 : Same H H9 := fun b o e => k9 b o (ne_of_none e hnla) (s6 b o e)
          have ha9 := k9 a _ hnd1 ha3
          have tk10 := tk9.trans (tk_ins (gs := frF fb3 la (at9 : Int) (tgV c rest)) ha9)
          have hwl9 : WfL c AA t ({ fr with at_ := at9, regs := rs9 } :: rest) := by
            rcases hstep with ⟨st', e1, e2⟩ | ⟨v, _, e1, _⟩
            · rw [est] at e1
              cases e1
              exact e2
            · rw [est] at e1
              cases e1
          refine ⟨(a, la) :: L', { fr with at_ := at9, regs := rs9 } :: rest, same_at sH9 hna, ?_, ⟨⟨dx3, fb3, xs3, fn4, upd_same, ?_, tk10.sq hfb3, hxs3.tk tk10, hf3⟩, hfrs.keep tk10 fun y hy o e => ?_⟩, hwl9, hnd, hfln, hnone, Nat.le_trans hLl (Nat.le_succ _), ?_⟩
          · rw [upd_ne hfln1.1, lsV_cons]
            exact k9 fl _ hfln1.2.1 hfl3
          · rw [upd_ne hnd1.symm]
            exact hla9
          · rw [upd_ne (hnd2 y hy).1]
            exact k9 y o (hnd2 y hy).2 e
          · rw [est] at hrun'
            exact hrun'
        by_cases hg : ∃ s, r = .give s
        · obtain ⟨s, rfl⟩ := hg
          dsimp only [Row.word] at era ⊢
          refine iteC (b := true) (decide_eq_true rfl) ?_
          obtain ⟨v, k, _, ev, hv, _⟩ := TT.read G (i := s) (by simp [Row.reads])
          cases rrx with
          | cons q1 rrx =>
            obtain rfl := q1.int_inv
            -- outcome = frame.cells[row[1]]; frames.pop(); if frames == []
            refine ⟨_, rfl, a, Z.A 90, dx3, _, _, rfl, ha3, T.Frame_cl, T.n_cells, lk_cells, _, rfl, _, _, _, _, rfl, rfl, era, atI_nat (j := 1) rfl, _, _, _, _, rfl, rfl, SqL.of hla3, atI_nat (regsV_at ev), ?_⟩
            refine ⟨_, rfl, .inl ⟨rfl, _, SqL.of hfl3⟩, _, _, _, rfl, rfl, hfl3, last_of _ _, ?_⟩
            have hdl : (lsV L' ++ [V.ref a]).dropLast = lsV L' := by simp
            rw [hdl]
            refine ⟨_, rfl, (by show 0 ≤ sizeLine; decide), fun e0 he0 => ?_⟩
            have hfle : fl ≠ e0 := ne_of_none upd_same he0
            have hfl4 : (upd (upd H3 fl (.lst (lsV L'))) e0 (.lst [])) fl = some (.lst (lsV L')) := by rw [upd_ne hfle, upd_same]
            refine ⟨_, _, _, rfl, rfl, SqL.of hfl4, SqL.of upd_same, _, rfl, ?_⟩
            have he03 : H3 e0 = none := by rw [upd_ne hfle.symm] at he0; exact he0
            have s7 : Same H (upd (upd H3 fl (.lst (lsV L'))) e0 (.lst [])) := (same_at s6 hHfl).trans (same_new he0)
            have tk7 : Tk H3 (upd (upd H3 fl (.lst (lsV L'))) e0 (.lst [])) := (tk_lst hfl3).trans (Same.tk (same_new he0))
            have k7 : ∀ y o, y ≠ fl → H3 y = some o → (upd (upd H3 fl (.lst (lsV L'))) e0 (.lst [])) y = some o := fun y o hy e => by
              rw [upd_ne (ne_of_none e he03), upd_ne hy]
              exact e
            show (if (if false = true then !(lsV L').isEmpty else (lsV L').isEmpty) = true then _ else _)
            rw [if_neg Bool.false_ne_true, lsV_empty]
            cases rest with
            | nil =>
              cases L' with
              | cons p2 L2 => exact hfrs.elim
              | nil =>
                refine iteC (b := true) rfl ?_
                refine ⟨_, rfl, _, rfl, (by show 3 ≤ sizeLine; decide), fun t9 ht9 => ?_⟩
                have est : stepIn c t fr [] = .inr v := by
                  unfold stepIn
                  rw [hrow]
                  simp only
                  rw [getR_of ev]
                rw [est] at hrun'
                simp only at hrun'
                refine q _ _ (s7.trans (same_tup ht9)) ?_
                rw [← hrun']
                exact given_rp sqT_new
            | cons fr2 rest2 =>
              cases L' with
              | nil => exact hfrs.elim
              | cons p2 L2 =>
                obtain ⟨a2, la2⟩ := p2
                obtain ⟨hfa2, hfrs2⟩ := hfrs
                obtain ⟨dx2, fb2, xs2, fn2, ha2, hla2', hfb2, hxs2, hf2⟩ := hfa2.ex
                dsimp only at ha2 hla2'
                refine iteC (b := false) rfl ?_
                have hy2 := hnd2 a2 (by simp [adrs])
                have hyl2 := hnd2 la2 (by simp [adrs])
                simp only [adrs, List.mem_cons, not_or] at hfln1
                have ha2' := k7 a2 _ (fun e => hfln1.2.2.1 e.symm) ha2
                have hla2'' := k7 la2 _ (fun e => hfln1.2.2.2.1 e.symm) hla2'
                have ha3' := k7 a _ hfln1.1.symm ha3
                have hfl4' : (upd (upd H3 fl (.lst (lsV ((a2, la2) :: L2)))) e0 (.lst [])) fl = some (.lst (lsV L2 ++ [V.ref a2])) := by
                  rw [hfl4]
                  exact congrArg (fun l => some (HO.lst l)) (lsV_cons (a2, la2) L2)
                obtain ⟨fnb, gn, d, as, ksb, rowb, eb1, eb2, hb1, eb3, eb4, hbl, hbd, eb5, _⟩ := hwl.below.1.ex
                have etg : target c fr2 = d := WaitOk.target eb1 eb3
                have etv : tgV c (fr2 :: rest2) = .int (d : Nat) := congrArg (fun n : Nat => V.int n) etg
                rw [etv] at ha3'
                refine ⟨_, rfl, _, rfl, _, rfl, _, _, _, _, rfl, rfl, SqL.of hfl4', atI_last _ _, a2, Z.A 90, dx2, _, _, rfl, ha2', T.Frame_cl, T.n_cells, lk_cells, _, rfl, a, Z.A 90, dx3, _, _, rfl, ha3', T.Frame_cl, T.n_target, lk_target, _, _, _, _, rfl, rfl, hla2'', ixN_nat (by rw [regsV, List.length_map, hbl]; exact hbd), ?_⟩
                have est : stepIn c t fr (fr2 :: rest2) = .inl ({ fr2 with regs := fr2.regs.set d (some v) } :: rest2) := by
                  unfold stepIn
                  rw [hrow]
                  simp only
                  rw [getR_of ev, etg]
                have hwl9 : WfL c AA t ({ fr2 with regs := fr2.regs.set d (some v) } :: rest2) := by
                  rcases hstep with ⟨st', e1, e2⟩ | ⟨v', _, e1, _⟩
                  · rw [est] at e1
                    cases e1
                    exact e2
                  · rw [est] at e1
                    cases e1
                have tk8 := tk7.trans (tk_lst (ys := (regsV fr2.regs).set d v.v) hla2'')
                simp only [adrs, List.nodup_cons, List.mem_cons, not_or] at hnd3
                have hF : FrsAt K (Z.A 90) c (upd (upd (upd H3 fl (.lst (lsV ((a2, la2) :: L2)))) e0 (.lst [])) la2 (.lst ((regsV fr2.regs).set d v.v))) ((a2, la2) :: L2) ({ fr2 with regs := fr2.regs.set d (some v) } :: rest2) := by
                  refine ⟨⟨dx2, fb2, xs2, fn2, ?_, ?_, tk8.sq hfb2, hxs2.tk tk8, hf2⟩, hfrs2.keep tk8 fun y hy o e => ?_⟩
                  · dsimp only
                    rw [upd_ne hnd3.1.1]
                    exact ha2'
                  · rw [upd_same, regsV_set]
                  · have hy1 : y ≠ la2 := fun e => hnd3.2.1 (by rw [← e]; exact hy)
                    have hy3 : y ≠ fl := fun e => hfln1.2.2.2.2 (by rw [← e]; exact hy)
                    rw [upd_ne hy1]
                    exact k7 y o hy3 e
                refine ⟨_, _, _, _, rfl, (a2, la2) :: L2, { fr2 with regs := fr2.regs.set d (some v) } :: rest2, same_at s7 (hnone la2 (by simp [adrs])), ?_, hF, hwl9, ?_, ?_, ?_, ?_, ?_⟩
                · rw [upd_ne hfln1.2.2.2.1]
                  exact hfl4
                · simp only [adrs, List.nodup_cons, List.mem_cons, not_or]
                  exact hnd3
                · simp only [adrs, List.mem_cons, not_or]
                  exact hfln1.2.2
                · intro y hy
                  exact hnone y (by simp only [adrs, List.mem_cons] at hy ⊢; exact .inr (.inr hy))
                · simp only [List.length_cons] at hLl ⊢
                  omega
                · rw [est] at hrun'
                  exact hrun'
        · have hng : ∀ s, r ≠ .give s := fun s e => hg ⟨s, e⟩
          have hrd := rd_of G TT hng
          by_cases hcl : ∃ d f2 as, r = .call d f2 as
          · obtain ⟨d, f2, as, rfl⟩ := hcl
            dsimp only [Row.word] at era ⊢
            refine iteC (b := false) (decide_eq_false (by decide +kernel)) ?_
            refine ⟨_, rfl, _, _, _, _, rfl, rfl, era, at0, rfl, _, rfl, ?_⟩
            refine iteC (b := true) (decide_eq_true rfl) ?_
            obtain ⟨hh, eh, hmy⟩ := hrok.many d f2 as rfl
            obtain ⟨gn, eg, rfl⟩ := heads_get eh
            have hgm := List.mem_of_getElem? eg
            have hgle := (hok.ty f2 gn eg).le
            have hgreg := hok.regs gn hgm
            -- the places in the registers
            have hpls : ∃ qs : List (List Bool), as.length = qs.length ∧ (∀ (j : Nat) b p, as[j]? = some b → qs[j]? = some p → fr.regs[b]? = some (some (.pl p))) ∧ as.map (getR fr.regs) = qs.map Val.pl := by
              refine ⟨as.map fun b => (getR fr.regs b).path, by simp, fun j b p hb hp' => ?_, ?_⟩
              · rw [List.getElem?_map, hb] at hp'
                obtain ⟨p2, hp2, _⟩ := hrd.pl (i := b) (List.mem_of_getElem? hb) rfl
                cases hp'
                show fr.regs[b]? = some (some (.pl (getR fr.regs b).path))
                rw [getR_of hp2]
                exact hp2
              · rw [List.map_map]
                refine List.map_congr_left fun b hb => ?_
                obtain ⟨p2, hp2, _⟩ := hrd.pl (i := b) hb rfl
                show getR fr.regs b = Val.pl (getR fr.regs b).path
                rw [getR_of hp2]
                rfl
            obtain ⟨qs, hql, hqs, hqm⟩ := hpls
            -- frame.at += 1
            refine ⟨_, rfl, a, Z.A 90, dx3, _, _, rfl, ha3, T.Frame_cl, T.n_at, lk_at, _, _, rfl, rfl, dx3, _, ha3, frF_len, ?_⟩
            rw [frF_at]
            have e1 : ((fr.at_ : Int) + 1) = ((fr.at_ + 1 : Nat) : Int) := by omega
            rw [e1]
            have tk4 := tk_ins (gs := frF fb3 la ((fr.at_ + 1 : Nat) : Int) (tgV c rest)) ha3
            have hfl4 : (upd H3 a (.ins (Z.A 90) dx3 (frF fb3 la ((fr.at_ + 1 : Nat) : Int) (tgV c rest)))) fl = some (.lst (lsV L' ++ [V.ref a])) := by
              rw [upd_ne hfln1.1]
              exact hfl3
            have hla4 : (upd H3 a (.ins (Z.A 90) dx3 (frF fb3 la ((fr.at_ + 1 : Nat) : Int) (tgV c rest)))) la = some (.lst (regsV fr.regs)) := by
              rw [upd_ne hnd1.symm]
              exact hla3
            have s7 : Same H (upd H3 a (.ins (Z.A 90) dx3 (frF fb3 la ((fr.at_ + 1 : Nat) : Int) (tgV c rest)))) := same_at s6 hna
            have k4 : ∀ y o, y ≠ a → H3 y = some o → (upd H3 a (.ins (Z.A 90) dx3 (frF fb3 la ((fr.at_ + 1 : Nat) : Int) (tgV c rest)))) y = some o := fun y o hy e => by
              rw [upd_ne hy]
              exact e
            -- frames.append(Frame(code, called(row, frame.cells), row[1]))
            refine ⟨_, rfl, .inl ⟨rfl, _, SqL.of hfl4⟩, ?_⟩
            refine ⟨_, rfl, _, rfl, _, rfl, a, Z.A 90, dx3, _, _, rfl, upd_same, T.Frame_cl, T.n_cells, lk_cells, _, la, d, f2, as, fr.regs, qs, rfl, rvr'.tk tk4, hnum.ex.2, hla4, hql, hqs, fun tc H5 s8 hcall5 => ?_⟩
            have era5 := (tk4.trans (Same.tk s8)).sq era
            cases rrx with
            | cons q1 rrx =>
              obtain rfl := q1.int_inv
              refine ⟨_, rfl, _, _, _, _, rfl, rfl, era5, atI_nat (j := 1) rfl, ?_⟩
              intro x2 dx4 hx4 hdx4 hne4
              have sx4 : Same H5 (upd (upd H5 dx4 (.own x2)) x2 (.ins (Z.A 90) dx4 [])) := fun b o e => by
                rw [upd_ne (ne_of_none e hx4), upd_ne (ne_of_none e hdx4)]
                exact e
              have s9 := s7.trans s8
              refine ⟨x2, dx4, _, _, _, c, f2, gn, qs, rfl, upd_same, hc.same (s9.trans sx4), hcall5.same sx4, eg, hgle, hgreg, by rw [← hql]; exact hmy, fun la2 fb2 xs2 H6 k6 hx6 hla6 hlax6 hla6' hfb6 hxs6 => ⟨rfl, ?_⟩⟩
              have s10 : Same H5 H6 := fun b o e => k6 b o (sx4 b o e) (ne_of_none e hx4)
              have s11 : Same (upd H3 a (.ins (Z.A 90) dx3 (frF fb3 la ((fr.at_ + 1 : Nat) : Int) (tgV c rest)))) H6 := Same.trans s8 s10
              have hfl6 := s11 _ _ hfl4
              refine ⟨_, _, _, rfl, rfl, hfl6, ?_, ?_⟩
              · rw [List.length_append, List.length_singleton]
                exact Nat.lt_of_le_of_lt hsz (by decide)
              have s12 := s7.trans s11
              have hHx2 : H x2 = none := s9.free hx4
              have hHla2 : H la2 = none := (s9.trans sx4).free hla6
              have hfx2 : fl ≠ x2 := by rintro rfl; rw [s8 _ _ hfl4] at hx4; cases hx4
              have hfla2 : fl ≠ la2 := by rintro rfl; rw [(Same.trans s8 sx4) _ _ hfl4] at hla6; cases hla6
              have hall : ∀ y ∈ adrs ((a, la) :: L'), y ≠ x2 ∧ y ≠ la2 := by
                intro y hy
                obtain ⟨o, ho, _⟩ := FrsAt.some (show FrsAt K (Z.A 90) c H3 ((a, la) :: L') (fr :: rest) from ⟨hfa, hfrs⟩) y hy
                have ho4 : ∃ o', (upd H3 a (.ins (Z.A 90) dx3 (frF fb3 la ((fr.at_ + 1 : Nat) : Int) (tgV c rest)))) y = some o' := by
                  by_cases e : y = a
                  · exact ⟨_, by rw [e]; exact upd_same⟩
                  · exact ⟨o, k4 y o e ho⟩
                obtain ⟨o', ho'⟩ := ho4
                refine ⟨?_, ?_⟩
                · rintro rfl
                  rw [s8 _ _ ho'] at hx4
                  cases hx4
                · rintro rfl
                  rw [(Same.trans s8 sx4) _ _ ho'] at hla6
                  cases hla6
              have est : stepIn c t fr rest = .inl (begin c f2 (qs.map Val.pl) :: { fr with at_ := fr.at_ + 1 } :: rest) := by
                unfold stepIn
                rw [hrow]
                simp only
                rw [hqm]
              have hwl9 : WfL c AA t (begin c f2 (qs.map Val.pl) :: { fr with at_ := fr.at_ + 1 } :: rest) := by
                rcases hstep with ⟨st', e1, e2⟩ | ⟨v', _, e1, _⟩
                · rw [est] at e1
                  cases e1
                  exact e2
                · rw [est] at e1
                  cases e1
              have etg : tgV c ({ fr with at_ := fr.at_ + 1 } :: rest) = .int (d : Nat) := congrArg (fun n : Nat => V.int n) (WaitOk.target (fr := { fr with at_ := fr.at_ + 1 }) (g := f2) (d := d) (as := as) hf3 (by simpa using TT.hrow))
              have hnew : (upd H6 fl (.lst (lsV L' ++ [V.ref a] ++ [V.ref x2]))) fl = some (.lst (lsV ((x2, la2) :: (a, la) :: L'))) := by
                rw [upd_same, lsV_cons, lsV_cons]
              have tk13 : Tk H3 (upd H6 fl (.lst (lsV L' ++ [V.ref a] ++ [V.ref x2]))) := (tk4.trans (Same.tk s11)).trans (tk_lst hfl6)
              have hF : FrsAt K (Z.A 90) c (upd H6 fl (.lst (lsV L' ++ [V.ref a] ++ [V.ref x2]))) ((x2, la2) :: (a, la) :: L') (begin c f2 (qs.map .pl) :: { fr with at_ := fr.at_ + 1 } :: rest) := by
                refine ⟨⟨dx4, fb2, xs2, gn, ?_, ?_, (tk_lst hfl6).sq hfb6, hxs6.tk (tk_lst hfl6), eg⟩, ?_⟩
                · rw [upd_ne hfx2.symm, etg]
                  exact hx6
                · rw [upd_ne hfla2.symm]
                  exact hla6'
                · refine ⟨⟨dx3, fb3, xs3, fn4, ?_, ?_, tk13.sq hfb3, hxs3.tk tk13, hf3⟩, hfrs.keep tk13 fun y hy o e => ?_⟩
                  · rw [upd_ne hfln1.1.symm]
                    exact s11 _ _ upd_same
                  · rw [upd_ne hfln1.2.1.symm]
                    exact s11 _ _ hla4
                  · have hyf : y ≠ fl := fun e => hfln1.2.2 (by rw [← e]; exact hy)
                    rw [upd_ne hyf]
                    exact s11 _ _ (k4 y o (hnd2 y hy).1 e)
              refine ⟨_, _, _, _, rfl, (x2, la2) :: (a, la) :: L', _, same_at s12 hHfl, hnew, hF, hwl9, ?_, ?_, ?_, ?_, ?_⟩
              · show (x2 :: la2 :: adrs ((a, la) :: L')).Nodup
                refine List.nodup_cons.mpr ⟨?_, List.nodup_cons.mpr ⟨fun h => (hall la2 h).2 rfl, hnd⟩⟩
                intro h
                rcases List.mem_cons.mp h with h | h
                · exact hlax6 h.symm
                · exact (hall x2 h).1 rfl
              · show fl ∉ x2 :: la2 :: adrs ((a, la) :: L')
                intro h
                rcases List.mem_cons.mp h with h | h
                · exact hfx2 h
                · rcases List.mem_cons.mp h with h | h
                  · exact hfla2 h
                  · exact hfln h
              · intro y hy
                have hy' : y ∈ x2 :: la2 :: adrs ((a, la) :: L') := hy
                rcases List.mem_cons.mp hy' with rfl | h
                · exact hHx2
                · rcases List.mem_cons.mp h with rfl | h
                  · exact hHla2
                  · exact hnone y h
              · simp only [List.length_cons] at hLl ⊢
                omega
              · rw [est] at hrun'
                exact hrun'
          · have hnc : ∀ d f2 as, r ≠ .call d f2 as := fun d f2 as e => hcl ⟨d, f2, as, e⟩
            have hw1 : decide (V.str r.word = V.str "give") = false := by
              refine decide_eq_false ?_
              cases r <;> first | exact absurd rfl (hng _) | (dsimp only [Row.word]; decide +kernel)
            have hw2 : decide (V.str r.word = V.str "call") = false := by
              refine decide_eq_false ?_
              cases r <;> first | exact absurd rfl (hnc _ _ _) | (dsimp only [Row.word]; decide +kernel)
            refine iteC (b := false) hw1 ?_
            refine ⟨_, rfl, _, _, _, _, rfl, rfl, era, at0, rfl, _, rfl, ?_⟩
            refine iteC (b := false) hw2 ?_
            refine ⟨_, rfl, _, _, _, _, rfl, rfl, era, at0, (by show 2 ≤ sizeLine; decide), fun t5 ht5 => ⟨_, _, rfl, .inr sqT_new, rfl, rfl, _, rfl, ?_⟩⟩
            have s7 : Same H3 (upd H3 t5 (.tup [.str "skip", .str "unless"])) := same_tup ht5
            by_cases hpl : ∃ d, r.sets = some d
            · obtain ⟨d, hd⟩ := hpl
              have hin : (!inV (.str r.word) [.str "skip", .str "unless"]) = true := by
                cases r <;> first | (dsimp only [Row.word]; decide +kernel) | cases hd
              refine iteC (b := true) hin ?_
              have hdl := hnum.st d hd
              have hpart : ∃ rest', r.items = iD d :: rest' := by
                cases r <;> first | (cases hd; exact ⟨_, rfl⟩) | cases hd
              obtain ⟨rest', hit⟩ := hpart
              rw [hit] at rrx
              cases rrx with
              | cons q1 rrx =>
                obtain rfl := q1.int_inv
                refine ⟨_, rfl, _, rfl, _, rfl, a, Z.A 90, dx3, _, _, rfl, s7 _ _ ha3, T.Frame_cl, T.n_cells, lk_cells, _, _, la, t, r, fr.regs, rfl, (ht.same s6).same s7, hts, rvr'.same s7, s7 _ _ hla3, hrd, ⟨⟨d, hd⟩, hnc⟩, fun H8 s8 => ?_⟩
                have s9 := s7.trans s8
                refine ⟨_, rfl, a, Z.A 90, dx3, _, _, rfl, s9 _ _ ha3, T.Frame_cl, T.n_cells, lk_cells, _, rfl, _, _, _, _, rfl, rfl, (Same.tk s9).sq era, atI_nat (j := 1) rfl, _, _, _, _, rfl, rfl, s9 _ _ hla3, ixN_nat (by rw [regsV, List.length_map, TT.hlen]; exact hdl), ?_⟩
                have hla9 : (upd H8 la (.lst ((regsV fr.regs).set d (rowVal t fr.regs r).v))) la = some (.lst (regsV (fr.regs.set d (some (rowVal t fr.regs r))))) := by
                  rw [upd_same, regsV_set]
                have ha9 : (upd H8 la (.lst ((regsV fr.regs).set d (rowVal t fr.regs r).v))) a = some (.ins (Z.A 90) dx3 (frF fb3 la fr.at_ (tgV c rest))) := by
                  rw [upd_ne hnd1]
                  exact s9 _ _ ha3
                have tk9 := (Same.tk s9).trans (tk_lst (ys := (regsV fr.regs).set d (rowVal t fr.regs r).v) (s9 _ _ hla3))
                have hrd9 : Rd t (fr.regs.set d (some (rowVal t fr.regs r))) (.skip 0) := fun _ h => by cases h
                have hnx : ∀ rs, nextAt fr.at_ rs r = fr.at_ + 1 := fun rs => by cases r <;> first | rfl | cases hd
                -- frame.at = next_row(row, frame.at, frame.cells)
                have hnr : ∀ (Q' : VK), Q' (.int ((fr.at_ + 1 : Nat) : Int)) (upd H8 la (.lst ((regsV fr.regs).set d (rowVal t fr.regs r).v))) → True := fun _ _ => trivial
                refine ⟨_, rfl, _, rfl, a, Z.A 90, dx3, _, _, rfl, ha9, T.Frame_cl, T.n_at, lk_at, _, rfl, a, Z.A 90, dx3, _, _, rfl, ha9, T.Frame_cl, T.n_cells, lk_cells, ?_⟩
                refine ⟨_, la, r, fr.at_, fr.regs.set d (some (rowVal t fr.regs r)), t, rfl, rvr'.tk tk9, hla9, .inr ⟨hnx _, fun s k e => (by rw [e] at hd; cases hd)⟩, ?_⟩
                rw [hnx]
                refine ⟨_, rfl, a, Z.A 90, dx3, _, rfl, ha9, T.Frame_cl, T.n_at, frF_len, ?_⟩
                rw [frF_at]
                have est : stepIn c t fr rest = .inl ({ fr with at_ := fr.at_ + 1, regs := fr.regs.set d (some (rowVal t fr.regs r)) } :: rest) := by
                  unfold stepIn
                  rw [hrow]
                  cases r <;> first | exact absurd rfl (hnc _ _ _) | (cases hd; rfl) | cases hd
                exact ⟨_, _, _, _, rfl, fin _ (fr.at_ + 1) _ (.inr ⟨H8, s9, by rw [regsV_set]⟩) hla9 est⟩
            · have hno : r.sets = none := by
                cases e : r.sets with
                | none => rfl
                | some d => exact absurd ⟨d, e⟩ hpl
              have hin : (!inV (.str r.word) [.str "skip", .str "unless"]) = false := by
                cases r <;> first | (dsimp only [Row.word]; decide +kernel) | exact absurd rfl (hng _) | cases hno
              refine iteC (b := false) hin ?_
              refine ⟨_, rfl, _, rfl, a, Z.A 90, dx3, _, _, rfl, s7 _ _ ha3, T.Frame_cl, T.n_at, lk_at, _, rfl, a, Z.A 90, dx3, _, _, rfl, s7 _ _ ha3, T.Frame_cl, T.n_cells, lk_cells, ?_⟩
              refine ⟨_, la, r, fr.at_, fr.regs, t, rfl, rvr'.same s7, s7 _ _ hla3, .inl hrd, ?_⟩
              refine ⟨_, rfl, a, Z.A 90, dx3, _, rfl, s7 _ _ ha3, T.Frame_cl, T.n_at, frF_len, ?_⟩
              rw [frF_at]
              have est : stepIn c t fr rest = .inl ({ fr with at_ := nextAt fr.at_ fr.regs r, regs := fr.regs } :: rest) := by
                unfold stepIn
                rw [hrow]
                cases r <;> first | rfl | exact absurd rfl (hng _) | cases hno
              exact ⟨_, _, _, _, rfl, fin _ _ _ (.inl s7) (s7 _ _ hla3) est⟩
  · rintro σ H3 ⟨o6, o7, o8, o9, rfl, ⟨L, st, s6, hfl3, hfr, hwl, hnd, hfln, hnone, hLl, hrun⟩⟩
    refine ⟨(by show 1 ≤ sizeLine; decide), fun t9 ht9 => ?_⟩
    refine q _ _ (s6.trans (same_tup ht9)) ?_
    have e : run c t (fuel - fuel) fuel st = .out := by rw [Nat.sub_self]; rfl
    rw [← hrun, e]
    exact .tup sqT_new (.cons (.str _) .nil)
end
end Eo
set_option linter.all false
set_option maxRecDepth 100000
set_option maxHeartbeats 4000000
/-! E15: the deck and its draws. -/
namespace Eo
open PySem L2
def dkL (lc : Addr) (m n : Int) : List (Key × V) := [(.inr "cells", .ref lc), (.inr "mixed", .int m), (.inr "draws", .int n)]
theorem dk_cells {lc : Addr} {m n : Int} : valV (dkL lc m n) (.inr "cells") = some (.ref lc) := valV_pos rfl
theorem dk_mixed {lc : Addr} {m n : Int} : valV (dkL lc m n) (.inr "mixed") = some (.int m) := (valV_neg (show ¬ (Sum.inr "cells" : Key) = (Sum.inr "mixed" : Key) from by decide +kernel)).trans (valV_pos rfl)
theorem dk_draws {lc : Addr} {m n : Int} : valV (dkL lc m n) (.inr "draws") = some (.int n) := (valV_neg (show ¬ (Sum.inr "cells" : Key) = (Sum.inr "draws" : Key) from by decide +kernel)).trans ((valV_neg (show ¬ (Sum.inr "mixed" : Key) = (Sum.inr "draws" : Key) from by decide +kernel)).trans (valV_pos rfl))
theorem dk_put {lc : Addr} {m n k : Int} : putK (dkL lc m n) (.inr "draws") (.int k) = dkL lc m k := by
  unfold putK
  have e1 : ((Sum.inr "cells" : Key) = .inr "draws") = False := eq_false (by decide +kernel)
  have e2 : ((Sum.inr "mixed" : Key) = .inr "draws") = False := eq_false (by decide +kernel)
  simp [dkL, e1, e2]
structure DeckN (H : Hp) (dk lc : Addr) (cs : List Int) (m n : Int) : Prop where
  d : H dk = some (.dK (dkL lc m n))
  l : H lc = some (.lst (cs.map V.int))
  len : cs.length ≤ 63
def Deck (H : Hp) (dk lc : Addr) : Prop := ∃ cs m n, DeckN H dk lc cs m n
theorem DeckN.ne {H : Hp} {dk lc : Addr} {cs : List Int} {m n : Int} (h : DeckN H dk lc cs m n) : dk ≠ lc := fun e => by
  have a := h.d
  rw [e, h.l] at a
  cases a
def DM (dk lc : Addr) : Addr → Prop := fun a => a = dk ∨ a = lc
/-- what draws leave -/
structure Dr (dk lc : Addr) (H H' : Hp) : Prop where
  kp : Kp (DM dk lc) H H'
  tk : Tk H H'
  d0 : Deck H dk lc
  d : Deck H' dk lc
theorem Deck.same {H H' : Hp} {dk lc : Addr} (h : Deck H dk lc) (s : Same H H') : Deck H' dk lc := by
  obtain ⟨cs, m, n, h1, h2, h3⟩ := h
  exact ⟨cs, m, n, s _ _ h1, s _ _ h2, h3⟩
theorem Deck.dr {H H' : Hp} {dk lc : Addr} (h : Deck H dk lc) (s : Same H H') : Dr dk lc H H' := ⟨Same.kp s, Same.tk s, h, h.same s⟩
theorem Dr.trans {dk lc : Addr} {H H1 H2 : Hp} (a : Dr dk lc H H1) (b : Dr dk lc H1 H2) : Dr dk lc H H2 := ⟨a.kp.trans b.kp, a.tk.trans b.tk, a.d0, b.d⟩
theorem Dr.same {dk lc : Addr} {H H1 H2 : Hp} (a : Dr dk lc H H1) (s : Same H1 H2) : Dr dk lc H H2 := a.trans (a.d.dr s)
theorem Dr.get {dk lc : Addr} {H H' : Hp} (h : Dr dk lc H H') {a : Addr} {o : HO} (e : H a = some o) (h1 : a ≠ dk) (h2 : a ≠ lc) : H' a = some o := h.kp a o e fun z => z.elim h1 h2
theorem Deck.ne {H : Hp} {dk lc a : Addr} (h : Deck H dk lc) (ha : H a = none) : a ≠ dk ∧ a ≠ lc := by
  obtain ⟨cs, m, n, h1, h2, _⟩ := h
  exact ⟨fun e => (by rw [e, h1] at ha; cases ha), fun e => (by rw [e, h2] at ha; cases ha)⟩
/-- a list that was not there before may change -/
theorem Dr.upd {dk lc : Addr} {H H' : Hp} {l : Addr} {xs ys : List V} (h : Dr dk lc H H') (hl : H l = none) (hl' : H' l = some (.lst xs)) : Dr dk lc H (L2.upd H' l (.lst ys)) := by
  obtain ⟨n1, n2⟩ := h.d0.ne hl
  refine ⟨h.kp.upd (.inr hl), h.tk.trans (tk_lst hl'), h.d0, ?_⟩
  obtain ⟨cs, m, n, h1, h2, h3⟩ := h.d
  exact ⟨cs, m, n, by rw [upd_ne n1.symm]; exact h1, by rw [upd_ne n2.symm]; exact h2, h3⟩
theorem tk_dK {H : Hp} {p : Addr} {xs ys : List (Key × V)} (h : H p = some (.dK xs)) : Tk H (upd H p (.dK ys)) := fun a zs r => by
  have hne : a ≠ p := by
    rintro rfl
    rcases r with r | ⟨o, r⟩
    · rw [h] at r; cases r
    · rw [h] at r; cases r
  rcases r with r | ⟨o, r⟩
  · exact .inl (by rw [upd_ne hne]; exact r)
  · exact .inr ⟨o, by rw [upd_ne hne]; exact r⟩
theorem DeckN.dr {H : Hp} {dk lc : Addr} {cs : List Int} {m n : Int} (h : DeckN H dk lc cs m n) : Dr dk lc H H := ⟨Kp.refl _ _, Tk.refl _, ⟨_, _, _, h⟩, ⟨_, _, _, h⟩⟩
theorem DeckN.put {H : Hp} {dk lc : Addr} {cs : List Int} {m n : Int} (h : DeckN H dk lc cs m n) (k : Int) : DeckN (upd H dk (.dK (dkL lc m k))) dk lc cs m k ∧ Dr dk lc H (upd H dk (.dK (dkL lc m k))) := by
  have h2 : DeckN (upd H dk (.dK (dkL lc m k))) dk lc cs m k := ⟨upd_same, by rw [upd_ne h.ne.symm]; exact h.l, h.len⟩
  exact ⟨h2, (Kp.refl _ _).upd (.inl (.inl rfl)), tk_dK h.d, ⟨_, _, _, h⟩, ⟨_, _, _, h2⟩⟩
theorem DeckN.set {H : Hp} {dk lc : Addr} {cs : List Int} {m n : Int} (h : DeckN H dk lc cs m n) (es : List Int) (he : es.length ≤ 63) : DeckN (upd H lc (.lst (es.map V.int))) dk lc es m n ∧ Dr dk lc H (upd H lc (.lst (es.map V.int))) := by
  have h2 : DeckN (upd H lc (.lst (es.map V.int))) dk lc es m n := ⟨by rw [upd_ne h.ne]; exact h.d, upd_same, he⟩
  exact ⟨h2, (Kp.refl _ _).upd (.inl (.inr rfl)), tk_lst h.l, ⟨_, _, _, h⟩, ⟨_, _, _, h2⟩⟩
theorem DeckN.same {H H' : Hp} {dk lc : Addr} {cs : List Int} {m n : Int} (h : DeckN H dk lc cs m n) (s : Same H H') : DeckN H' dk lc cs m n := ⟨s _ _ h.d, s _ _ h.l, h.len⟩
section
variable {H : Hp} {dk lc : Addr} {cs : List Int} {m n : Int}
theorem DeckN.gc (h : DeckN H dk lc cs m n) : DGet H dk (.str "cells") (some (.ref lc)) := .inl ⟨_, .inr "cells", .inl h.d, rfl, dk_cells.symm⟩
theorem DeckN.gm (h : DeckN H dk lc cs m n) : DGet H dk (.str "mixed") (some (.int m)) := .inl ⟨_, .inr "mixed", .inl h.d, rfl, dk_mixed.symm⟩
theorem DeckN.gd (h : DeckN H dk lc cs m n) : DGet H dk (.str "draws") (some (.int n)) := .inl ⟨_, .inr "draws", .inl h.d, rfl, dk_draws.symm⟩
theorem DeckN.pd (h : DeckN H dk lc cs m n) (k : Int) : DPut H dk (.str "draws") (.int k) (upd H dk (.dK (dkL lc m k))) := .inl ⟨_, .inr "draws", h.d, rfl, by show 3 < sizeLine; decide, by rw [dk_put]⟩
end
def rIxA (K : PySem.W.Frag) : R2 := fun x y H Q => rIxL K x y H Q ∨ rIxT K x y H Q
theorem ix_any {X : Cx} : IxR X (rIxA X.K) := by
  intro value slice pins s σ H x y v u Q I rx ry h hs
  rcases h with h | h
  · exact ix_list value slice pins s σ H x y v u Q I rx ry h hs
  · exact ix_tup value slice pins s σ H x y v u Q I rx ry h hs
def spDraw : Sp := fun vs H Q _ => ∃ (dk lc : Addr) (many : Nat), vs = [.ref dk, .int many] ∧ Deck H dk lc ∧ 0 < many ∧ many < 1000000 ∧ ∀ (r : Nat) H', r < many → Dr dk lc H H' → Q (.int (r : Nat)) H'
def spPick (K : PySem.W.Frag) : Sp := fun vs H Q _ => ∃ (dk lc s : Addr) (xs : List V), vs = [.ref dk, .ref s] ∧ Deck H dk lc ∧ ((H s = some (.lst xs) ∧ s ≠ lc) ∨ SqT K H s xs) ∧ 0 < xs.length ∧ xs.length < 1000000 ∧
  ∀ (i : Nat) v H', xs[i]? = some v → Dr dk lc H H' → Q v H'
def spDeck (K : PySem.W.Frag) : Sp := fun vs H Q _ => ∃ (a : Addr) (ns : List Int), vs = [.ref a] ∧ SqL K H a (ns.map V.int) ∧ ns.length ≤ 63 ∧ ∀ dk lc H', Same H H' → Deck H' dk lc → H dk = none → H lc = none → Q (.ref dk) H'
theorem fmod_nat (x : Int) {many : Nat} (h : 0 < many) : ∃ r : Nat, r < many ∧ x.fmod (many : Int) = (r : Int) := by
  have e : x.fmod (many : Int) = x % (many : Int) := Int.fmod_eq_emod_of_nonneg x (by omega)
  have h1 := Int.emod_nonneg x (show (many : Int) ≠ 0 by omega)
  have h2 := Int.emod_lt_of_pos x (show (0 : Int) < many by omega)
  refine ⟨(x % (many : Int)).toNat, by omega, by rw [e]; omega⟩
section
variable {P : Program} {w : World} {K : PySem.W.Frag} {mg : Str → Option Value} {base : Heap} {Z : Wh}
theorem ok_law_draw (T : Tx w K mg Z) : FnOk P w K mg base CX0 1 (Z.A 36) (Z.D 36) ["_law_deck_here", "_law_many"] spDraw := by
  refine T.law_draw.F.ok sc_law_draw (fun vs H Q E h => ?_) (fun cdv A outer s H vs Q E hr h => ?_)
  · obtain ⟨dk, lc, many, rfl, hd, hm0, hm1, q⟩ := h
    rfl
  have hu := hu_of hr
  have hu0 := Nat.lt_of_succ_lt hu
  obtain ⟨dk, lc, many, rfl, hd, hm0, hm1, q⟩ := h
  obtain ⟨cs, m, n, hN⟩ := hd
  refine ⟨_, (pss_cons (ps_dput hu (pv 0) pe_str (pe_op op_add (pe_dget hu (pv 0) pe_str (fun _ _ => rfl)) pe_int) rfl) (pss_cons (ps_set (i := 2) sc_law_draw.nd rfl (by first | exact Or.inl rfl | exact Or.inr rfl) (pe_op op_add (pe_dget hu (pv 0) pe_str (fun _ _ => rfl)) (pe_op op_mul pe_int (pe_dget hu (pv 0) pe_str (fun _ _ => rfl))))) (pss_cons (ps_if (pt_cmpR (op_neNil hu0) (pe_dget hu (pv 0) pe_str (fun _ _ => rfl)) (pe_lst pa_nil) (nomark _)) (pss_cons (ps_set (i := 3) sc_law_draw.nd rfl (by first | exact Or.inl rfl | exact Or.inr rfl) (pe_bm0 PySem.F.plainAttrs_list PySem.F.slot_list_pop PySem.F.type_list_pop mt_pop (pe_dget hu (pv 0) pe_str (fun _ _ => rfl)))) (pss_cons (ps_if (pt_cmpR op_ge (pv 3) (pe_op op_pow pe_int pe_int) (nomark _)) (pss_cons (ps_expr (pe_bm PySem.F.plainAttrs_list PySem.F.slot_list_append PySem.F.type_list_append mt_append (pe_dget hu (pv 0) pe_str (fun _ _ => rfl)) (pa_cons (pe_op op_fdivN (pv 3) (pe_callB (call_max2 rfl) rfl T.max_ bt_max (pa_cons pe_int (pa_cons (pv 1) pa_nil)))) pa_nil))) (pss_one (ps_ret (pe_op op_modN (pe_callTy call_int1 rfl T.int_ bt_int (pa_cons (pv 3) pa_nil)) (pv 1))))) pss_nil) (pss_one (ps_set (i := 2) sc_law_draw.nd rfl (by first | exact Or.inl rfl | exact Or.inr rfl) (pe_op op_add (pv 2) (pe_op op_mod (pe_callTy call_int1 rfl T.int_ bt_int (pa_cons (pv 3) pa_nil)) pe_int)))))) pss_nil) (pss_cons (ps_set (i := 2) sc_law_draw.nd rfl (by first | exact Or.inl rfl | exact Or.inr rfl) (pe_op op_mod (pe_callTy call_int1 rfl T.int_ bt_int (pa_cons (pe_op op_add (pe_op op_mul (pv 2) pe_int) pe_int) pa_nil)) pe_int)) (pss_cons (ps_set (i := 2) sc_law_draw.nd rfl (by first | exact Or.inl rfl | exact Or.inr rfl) (pe_op op_mod (pe_callTy call_int1 rfl T.int_ bt_int (pa_cons (pe_op op_add (pe_op op_add (pe_op op_mul (pv 2) (pv 2)) (pe_op op_mul pe_int (pe_dget hu (pv 0) pe_str (fun _ _ => rfl)))) pe_int) pa_nil)) pe_int)) (pss_cons (ps_set (i := 2) sc_law_draw.nd rfl (by first | exact Or.inl rfl | exact Or.inr rfl) (pe_op op_mod (pe_callTy call_int1 rfl T.int_ bt_int (pa_cons (pe_op op_mul (pv 2) pe_int) pa_nil)) pe_int)) (pss_one (ps_ret (pe_op op_modN (pe_callTy call_int1 rfl T.int_ bt_int (pa_cons (pe_op op_fdiv (pv 2) pe_int) pa_nil)) (pv 1)))))))))), ?_⟩
  refine ⟨_, rfl, _, _, rfl, hN.gd, _, _, rfl, rfl, _, rfl, _, _, rfl, hN.pd _, ?_⟩
  obtain ⟨h1, d1⟩ := hN.put (n + 1)
  generalize hH1 : upd H dk (.dK (dkL lc m (n + 1))) = H1 at h1 d1
  refine ⟨_, rfl, _, _, rfl, h1.gm, _, rfl, _, _, rfl, h1.gd, _, _, rfl, rfl, .inl ⟨by omega, by omega⟩, _, _, rfl, rfl, ?_⟩
  refine ⟨_, rfl, _, _, rfl, h1.gc, (by show 0 ≤ sizeLine; decide), fun e0 he0 => ?_⟩
  have s1 : Same H1 (upd H1 e0 (.lst [])) := same_new he0
  have h2 := h1.same s1
  have d2 := d1.d.dr s1
  refine ⟨_, _, _, rfl, rfl, SqL.of h2.l, SqL.of upd_same, _, rfl, ?_⟩
  replace d2 := d1.trans d2
  generalize hH2 : upd H1 e0 (.lst []) = H2 at h2 d2
  have fin : ∀ (k : Int), ∃ r : Nat, r < many ∧ (k.fmod (many : Int)) = (r : Int) := fun k => fmod_nat k hm0
  have mb : ∀ x : Int, -(2 ^ 64) < x % 2147483579 ∧ x % 2147483579 < 2 ^ 64 := fun x => ⟨by omega, by omega⟩
  have p1 : (0 : Int) < 2147483579 := by decide
  have p2 : (0 : Int) < 2147483647 := by decide
  have p3 : (0 : Int) < 2147483563 := by decide
  have p4 : (0 : Int) < 2147483629 := by decide
  rcases List.eq_nil_or_concat cs with rfl | ⟨cs', c, rfl⟩
  · refine iteC (b := false) rfl ?_
    refine ⟨_, rfl, _, _, rfl, rfl, .inr ⟨by decide, by decide⟩, _, _, rfl, rfl, .inl ⟨_, rfl, _, _, rfl, rfl, p1, ?_⟩⟩
    refine ⟨_, rfl, _, rfl, _, _, rfl, rfl, .inl (mb _), _, rfl, _, _, rfl, h2.gd, _, _, rfl, rfl, .inl ⟨by decide, by decide⟩, _, _, rfl, rfl, _, _, rfl, rfl, .inl ⟨_, rfl, _, _, rfl, rfl, p2, ?_⟩⟩
    refine ⟨_, rfl, _, _, rfl, rfl, .inr ⟨by decide, by decide⟩, .inl ⟨_, rfl, _, _, rfl, rfl, p3, ?_⟩⟩
    refine ⟨_, rfl, _, _, rfl, rfl, ⟨by decide, by decide⟩, .inl ⟨_, rfl, _, rfl, _, _, rfl, rfl, by omega, ?_⟩⟩
    obtain ⟨r, hr1, e⟩ := fin _
    show Q (.int (Int.fmod _ _)) _
    rw [e]
    exact q _ _ hr1 d2
  · refine iteC (b := true) (by simp) ?_
    rw [List.concat_eq_append] at h2
    have hl2 := h2.l
    have hl63 := h2.len
    rw [List.map_append] at hl2
    have hdl : ((cs' ++ [c]).map V.int).dropLast = cs'.map V.int := by simp
    refine ⟨_, rfl, _, _, rfl, h2.gc, .inl ⟨rfl, _, SqL.of h2.l⟩, _, _, _, rfl, rfl, hl2, last_of _ _, ?_⟩
    rw [show (cs'.map V.int ++ [c].map V.int).dropLast = cs'.map V.int by simp]
    obtain ⟨h3, d3⟩ := h2.set cs' (by simp at hl63; omega)
    generalize hH3 : upd H2 lc (.lst (cs'.map V.int)) = H3 at h3 d3
    refine ⟨_, rfl, _, _, rfl, rfl, ⟨by decide, by decide, by decide⟩, _, _, rfl, rfl, _, rfl, ?_⟩
    by_cases hc : (10 : Int) ^ (18 : Int).toNat ≤ c
    · refine iteC (b := true) (decide_eq_true hc) ?_
      have hmx : (if ((many : Nat) : Int) > 2 then ((many : Nat) : Int) else 2) ≠ 0 ∧ (if ((many : Nat) : Int) > 2 then ((many : Nat) : Int) else 2).natAbs < 1073741824 := by
        split <;> exact ⟨by omega, by omega⟩
      refine ⟨_, rfl, _, _, rfl, h3.gc, .inl ⟨rfl, _, SqL.of h3.l⟩, _, rfl, _, rfl, _, _, rfl, _, _, rfl, rfl, hmx, _, _, _, rfl, rfl, h3.l, ?_, ?_⟩
      · have := h3.len
        rw [List.length_map]
        exact Nat.lt_of_le_of_lt this (by decide)
      · have hes : cs'.map V.int ++ [V.int (c.fdiv (if ((many : Nat) : Int) > 2 then ((many : Nat) : Int) else 2))] = (cs' ++ [c.fdiv (if ((many : Nat) : Int) > 2 then ((many : Nat) : Int) else 2)]).map V.int := by simp
        obtain ⟨h4, d4⟩ := h3.set (cs' ++ [c.fdiv (if ((many : Nat) : Int) > 2 then ((many : Nat) : Int) else 2)]) (by simpa using hl63)
        rw [← hes] at h4 d4
        refine ⟨_, rfl, .inl ⟨_, rfl, _, rfl, _, _, rfl, rfl, by omega, ?_⟩⟩
        obtain ⟨r, hr1, e⟩ := fin c
        show Q (.int (Int.fmod _ _)) _
        rw [e]
        exact q _ _ hr1 ((d2.trans d3).trans d4)
    · refine iteC (b := false) (decide_eq_false hc) ?_
      refine ⟨_, rfl, _, rfl, .inl ⟨_, rfl, _, _, rfl, rfl, p4, _, _, rfl, rfl, ?_⟩⟩
      refine ⟨_, rfl, _, _, rfl, rfl, .inr ⟨by decide, by decide⟩, _, _, rfl, rfl, .inl ⟨_, rfl, _, _, rfl, rfl, p1, ?_⟩⟩
      refine ⟨_, rfl, _, rfl, _, _, rfl, rfl, .inl (mb _), _, rfl, _, _, rfl, h3.gd, _, _, rfl, rfl, .inl ⟨by decide, by decide⟩, _, _, rfl, rfl, _, _, rfl, rfl, .inl ⟨_, rfl, _, _, rfl, rfl, p2, ?_⟩⟩
      refine ⟨_, rfl, _, _, rfl, rfl, .inr ⟨by decide, by decide⟩, .inl ⟨_, rfl, _, _, rfl, rfl, p3, ?_⟩⟩
      refine ⟨_, rfl, _, _, rfl, rfl, ⟨by decide, by decide⟩, .inl ⟨_, rfl, _, rfl, _, _, rfl, rfl, by omega, ?_⟩⟩
      obtain ⟨r, hr1, e⟩ := fin _
      show Q (.int (Int.fmod _ _)) _
      rw [e]
      exact q _ _ hr1 (d2.trans d3)
theorem ok_law_pick (T : Tx w K mg Z) : FnOk P w K mg base CX0 2 (Z.A 37) (Z.D 37) ["_law_deck_here", "_law_some"] (spPick K) := by
  refine T.law_pick.F.ok sc_law_pick (fun vs H Q E h => ?_) (fun cdv A outer s H vs Q E hr h => ?_)
  · obtain ⟨dk, lc, s', xs, rfl, hd, hs, h0, h1, q⟩ := h
    rfl
  have hu := hu_of hr
  have hu0 := Nat.lt_of_succ_lt hu
  obtain ⟨dk, lc, s', xs, rfl, hd, hs, h0, h1, q⟩ := h
  refine ⟨_, (pss_one (ps_ret (pe_ix ix_any (pv 1) (pe_call (ok_law_draw T) (hr.mono (by decide)) rfl T.law_draw.m T.law_draw.F.kp T.law_draw.b .nil pass0 (pa_cons (pv 0) (pa_cons (pe_callB call_len rfl T.len_ bt_len (pa_cons (pv 1) pa_nil)) pa_nil))) (fun _ _ => rfl)))), ?_⟩
  refine ⟨_, rfl, _, rfl, _, rfl, _, xs.length, rfl, ?_, ?_⟩
  · rcases hs with ⟨hs, _⟩ | hs
    · exact .inl ⟨_, SqL.of hs, rfl⟩
    · exact .inr ⟨_, hs, rfl⟩
  · refine ⟨dk, lc, xs.length, rfl, hd, h0, h1, fun r H' hr' d => ?_⟩
    have hx : xs[r]? = some xs[r] := List.getElem?_eq_getElem hr'
    rcases hs with ⟨hs, hsl⟩ | hs
    · have hne : s' ≠ dk := by
        obtain ⟨cs, m, n, h2, _⟩ := hd
        intro e
        rw [e, h2] at hs
        cases hs
      exact .inl ⟨_, _, _, _, rfl, rfl, SqL.of (d.get hs hne hsl), atI_nat hx, q _ _ _ hx d⟩
    · exact .inr ⟨_, _, _, _, rfl, rfl, d.tk.sq hs, atI_nat hx, q _ _ _ hx d⟩
theorem sqL_same {K : PySem.W.Frag} {H H' : Hp} {a : Addr} {xs : List V} (s : Same H H') (h : SqL K H a xs) : SqL K H' a xs := by
  rcases h with (h | ⟨o, h⟩) | h
  · exact .inl (.inl (s _ _ h))
  · exact .inl (.inr ⟨o, s _ _ h⟩)
  · exact .inr h
theorem mergeK_new : ∀ (more kvs : List (Key × V)), (more.map (·.1)).Nodup → (∀ k ∈ more.map (·.1), valV kvs k = none) → mergeK kvs more = kvs ++ more
  | [], kvs, _, _ => by simp [mergeK]
  | p :: r, kvs, hn, hk => by
    have hn' := List.nodup_cons.mp hn
    have e : putK kvs p.1 p.2 = kvs ++ [p] := putK_new p.2 (hk p.1 (by simp))
    show mergeK (putK kvs p.1 p.2) r = _
    rw [e, mergeK_new r (kvs ++ [p]) hn'.2 fun k hk' => ?_, List.append_assoc]
    · rfl
    · have h1 : valV (kvs ++ [p]) k = if k = p.1 then some p.2 else valV kvs k := valV_snoc p.1 k p.2 kvs (hk p.1 (by simp))
      have h2 : k ≠ p.1 := by
        rintro rfl
        exact hn'.1 hk'
      rw [h1, if_neg h2]
      exact hk k (List.mem_cons_of_mem _ hk')
theorem dk_merge (lc : Addr) (m n : Int) : mergeK [] (dkL lc m n) = dkL lc m n := mergeK_new _ [] (by show ([.inr "cells", .inr "mixed", .inr "draws"] : List Key).Nodup; decide +kernel) fun _ _ => rfl
theorem cut63 {ns : List Int} (h : ns.length ≤ 63) : cutV (ns.map V.int) none (some 63) = ns.map V.int := by
  rw [show (some (63 : Int)) = some ((63 : Nat) : Int) from rfl, cut_to, List.take_of_length_le (by rw [List.length_map]; exact h)]
theorem ok_law_deck (T : Tx w K mg Z) : FnOk P w K mg base CX0 1 (Z.A 35) (Z.D 35) ["_law_script"] (spDeck K) := by
  refine T.law_deck.F.ok sc_law_deck (fun vs H Q E h => ?_) (fun cdv A outer s H vs Q E hr h => ?_)
  · obtain ⟨a, ns, rfl, hs, hl, q⟩ := h
    rfl
  have hu := hu_of hr
  have hu0 := Nat.lt_of_succ_lt hu
  obtain ⟨a, ns, rfl, hs, hl, q⟩ := h
  refine ⟨_, (pss_cons (ps_set (i := 1) sc_law_deck.nd rfl (by first | exact Or.inl rfl | exact Or.inr rfl) pe_int) (pss_cons (ps_for PassesOwn.never rfl (pi_list (pe_slice sl_list (pv 0) po_none (po_some pe_int))) (pg_name (i := 2) sc_law_deck.nd rfl (by first | exact Or.inl rfl | exact Or.inr rfl)) (pss_one (ps_set (i := 1) sc_law_deck.nd rfl (by first | exact Or.inl rfl | exact Or.inr rfl) (pe_op op_mod (pe_callTy call_int1 rfl T.int_ bt_int (pa_cons (pe_op op_add (pe_op op_add (pe_op op_mul (pv 1) pe_int) (pe_op op_mod (pe_callTy call_int1 rfl T.int_ bt_int (pa_cons (pv 2) pa_nil)) pe_int)) pe_int) pa_nil)) pe_int)))) (pss_one (ps_ret (pe_disp (pps_cons pe_str (pe_revL (pe_callTy call_list_of rfl T.list_ bt_list (pa_cons (pe_slice sl_list (pv 0) po_none (po_some pe_int)) pa_nil))) (pps_cons pe_str (pv 1) (pps_cons pe_str pe_int pps_nil))) (by rfl) (by rfl) (fun z => by cases z) (by decide)))))), ?_⟩
  refine ⟨_, rfl, _, rfl, a, _, rfl, hs, fun p hp => ?_⟩
  rw [cut63 hl]
  have s1 : Same H (upd H p (.lst (ns.map V.int))) := same_new hp
  have e1 : (upd H p (.lst (ns.map V.int))) p = some (.lst (ns.map V.int)) := upd_same
  generalize hH1 : upd H p (.lst (ns.map V.int)) = H1 at s1 e1
  refine ⟨p, rfl, ⟨_, SqL.of e1⟩, ?_⟩
  refine for_it walk_list (fun i σ H' => H' = H1 ∧ ∃ (o : Option V) (k : Int), σ = [some (.ref a), some (.int k), o]) ⟨rfl, none, _, rfl⟩ (fun i σ H' _ h => by rw [h.1]; exact SqL.of e1) ?_ ?_
  · rintro i x σ H' H'' hi ⟨rfl, o, k, rfl⟩ ⟨rfl, hx⟩
    rw [List.getElem?_map] at hx
    cases ec : ns[i]? with
    | none => rw [ec] at hx; cases hx
    | some c =>
      rw [ec] at hx
      cases hx
      refine ⟨_, rfl, _, _, rfl, rfl, .inr ⟨by decide, by decide⟩, _, rfl, .inl ⟨_, rfl, _, _, rfl, rfl, (by show (0 : Int) < 2147483629; decide), _, _, rfl, rfl, _, _, rfl, rfl, .inl ⟨_, rfl, _, _, rfl, rfl, (by show (0 : Int) < 2147483549; decide), ?_⟩⟩⟩
      exact ⟨rfl, _, _, rfl⟩
  · rintro σ H' ⟨rfl, o, k, rfl⟩
    intro d hdn
    have s2 : Same H' (upd H' d (.dK [])) := same_new hdn
    refine ⟨_, rfl, _, rfl, a, _, rfl, sqL_same (s1.trans s2) hs, fun p2 hp2 => ?_⟩
    rw [cut63 hl]
    have s3 := same_new (o := .lst (ns.map V.int)) hp2
    refine ⟨_, _, rfl, .inl (SqL.of upd_same), fun p3 hp3 => ?_⟩
    have s4 := same_new (o := .lst (ns.map V.int)) hp3
    refine ⟨_, _, rfl, SqL.of upd_same, fun p4 hp4 => ?_⟩
    have s5 := same_new (o := .lst (ns.map V.int).reverse) hp4
    have s25 := (s3.trans s4).trans s5
    refine ⟨_, rfl, s25 _ _ upd_same, dkL p4 k 0, rfl, (by show 3 ≤ 15; decide), ?_⟩
    show Q (.ref d) (upd _ d (.dK (mergeK [] (dkL p4 k 0))))
    rw [dk_merge]
    have s15 := ((s1.trans s2).trans s25)
    have hd1 : d ≠ p4 := ne_of_none ((s3.trans s4) _ _ upd_same) hp4
    have hHd : H d = none := s1.free hdn
    refine q d p4 _ (same_at s15 hHd) ⟨ns.reverse, k, 0, upd_same, ?_, by simpa using hl⟩ hHd ?_
    · rw [upd_ne hd1.symm, upd_same, List.map_reverse]
    · exact ((s1.trans s2).trans (s3.trans s4)).free hp4
end
end Eo
set_option linter.all false
set_option maxRecDepth 100000
set_option maxHeartbeats 4000000
/-! E16: drawn trees and heads. -/
namespace Eo
open PySem L2
def spTree (K : PySem.W.Frag) (n : Nat) : Sp := fun vs H Q _ => ∃ (dk lc : Addr) (many : Nat), vs = [.ref dk, .int many] ∧ many < n ∧ many < 1000 ∧ Deck H dk lc ∧ ∀ (v : V) (t : Tr) (H' : Hp), Dr dk lc H H' → Rp K H' v t.dt → t.good → t.size ≤ many → Q v H'
def spSomeTree (K : PySem.W.Frag) : Sp := fun vs H Q _ => ∃ (dk lc : Addr) (many : Nat), vs = [.ref dk, .int many] ∧ 1 ≤ many ∧ many < 20 ∧ Deck H dk lc ∧ ∀ (v : V) (t : Tr) (H' : Hp), Dr dk lc H H' → Rp K H' v t.dt → t.good → t.size ≤ many → Q v H'
def spTreeFor (K : PySem.W.Frag) : Sp := fun vs H Q _ => ∃ (dk lc : Addr) (vc : V) (c : Code) (many : Nat), vs = [.ref dk, vc, .int many] ∧ 1 ≤ many ∧ many < 20 ∧ Deck H dk lc ∧ Rp K H vc (codeDt c) ∧ c.length ≤ 1000 ∧
  ∀ (v : V) (t : Tr) (H' : Hp), Dr dk lc H H' → Rp K H' v t.dt → t.good → t.size ≤ many → Q v H'
theorem ints_of : ∀ {ys : List V}, (∀ (i : Nat) y, ys[i]? = some y → ∃ n : Int, y = .int n) → ∃ ns : List Int, ys = ns.map V.int
  | [], _ => ⟨[], rfl⟩
  | y :: ys, h => by
    obtain ⟨n, rfl⟩ := h 0 y rfl
    obtain ⟨ns, rfl⟩ := ints_of fun i z hz => h (i + 1) z hz
    exact ⟨n :: ns, rfl⟩
def headDt (h : Kd × Nat) : Dt := .tup [.str h.1.str, iD h.2]
/-- a list of heads at l -/
structure HdAt (K : PySem.W.Frag) (H : Hp) (l : Addr) (hs : Heads) : Prop where
  ex : ∃ vs, H l = some (.lst vs) ∧ Rps K H vs (hs.map headDt)
def spHeads (K : PySem.W.Frag) : Sp := fun vs H Q _ => ∃ (dk lc : Addr), vs = [.ref dk, .int 3] ∧ Deck H dk lc ∧ ∀ (l : Addr) (hs : Heads) (H' : Hp), Dr dk lc H H' → H l = none → HdAt K H' l hs → 1 ≤ hs.length → hs.length ≤ 3 → (∀ h ∈ hs, h.2 ≤ 5) → Q (.ref l) H'
theorem kd2 {i : Nat} {v : V} (h : ([V.str "truth", V.str "place"])[i]? = some v) : ∃ k : Kd, v = .str k.str := by
  match i, h with
  | 0, h => cases h; exact ⟨.truth, rfl⟩
  | 1, h => cases h; exact ⟨.place, rfl⟩
  | n + 2, h => cases h
theorem num5 {i : Nat} {v : V} (h : ([V.int 1, V.int 1, V.int 2, V.int 0, V.int 1])[i]? = some v) : ∃ n : Nat, n ≤ 2 ∧ v = .int n := by
  match i, h with
  | 0, h => cases h; exact ⟨1, by decide, rfl⟩
  | 1, h => cases h; exact ⟨1, by decide, rfl⟩
  | 2, h => cases h; exact ⟨2, by decide, rfl⟩
  | 3, h => cases h; exact ⟨0, by decide, rfl⟩
  | 4, h => cases h; exact ⟨1, by decide, rfl⟩
  | n + 5, h => cases h
theorem rps_set {K : PySem.W.Frag} {H : Hp} : ∀ {vs : List V} {ds : List Dt} {v : V} {d : Dt}, Rps K H vs ds → Rp K H v d → ∀ i : Nat, Rps K H (vs.set i v) (ds.set i d)
  | _, _, _, _, .nil, _, _ => .nil
  | _, _, _, _, .cons _ rs, r, 0 => .cons r rs
  | _, _, _, _, .cons a rs, r, i + 1 => .cons a (rps_set rs r i)
theorem dz0 : decide (V.int ((0 : Nat) : Int) = V.int 0) = true := decide_eq_true rfl
theorem dzS (r : Nat) : decide (V.int ((r + 1 : Nat) : Int) = V.int 0) = false := decide_eq_false fun e => by
  have := V.int.inj e
  omega
theorem tag3 {i : Nat} {v : V} (h : ([V.str "a", V.str "b", V.str "ab"])[i]? = some v) : ∃ g : Str, v = .str g ∧ GoodTag g := by
  match i, h with
  | 0, h => cases h; exact ⟨"a", rfl, by unfold GoodTag; decide +kernel⟩
  | 1, h => cases h; exact ⟨"b", rfl, by unfold GoodTag; decide +kernel⟩
  | 2, h => cases h; exact ⟨"ab", rfl, by unfold GoodTag; decide +kernel⟩
  | n + 3, h => cases h
section
variable {P : Program} {w : World} {K : PySem.W.Frag} {mg : Str → Option Value} {base : Heap} {Z : Wh}
theorem tree_at (T : Tx w K mg Z) : ∀ n, FnOk P w K mg base CX0 (n + 3) (Z.A 47) (Z.D 47) ["_law_deck_here", "_law_many"] (spTree K n)
  | 0 => by
    refine T.law_tree.F.ok sc_law_tree (fun vs H Q E h => ?_) (fun cdv A outer s H vs Q E hr h => ?_)
    · obtain ⟨dk, lc, many, rfl, h0, _⟩ := h
      exact absurd h0 (Nat.not_lt_zero _)
    · obtain ⟨dk, lc, many, rfl, h0, _⟩ := h
      exact absurd h0 (Nat.not_lt_zero _)
  | n + 1 => by
    have ih := tree_at T n
    refine T.law_tree.F.ok sc_law_tree (fun vs H Q E h => ?_) (fun cdv A outer s H vs Q E hr h => ?_)
    · obtain ⟨dk, lc, many, rfl, h0, h1, hd, q⟩ := h
      rfl
    have hu := hu_of hr
    have hu0 := Nat.lt_of_succ_lt hu
    obtain ⟨dk, lc, many, rfl, h0, h1, hd, q⟩ := h
    refine ⟨_, (pss_cons (ps_if (PW.pt (pw_or (pt_cmpR op_lt (pv 1) pe_int (nomark _)) (pw_or1 (pt_cmpR op_eq (pe_call (ok_law_draw T) (hr.mono (by omega)) rfl T.law_draw.m T.law_draw.F.kp T.law_draw.b .nil pass0 (pa_cons (pv 0) (pa_cons pe_int pa_nil))) pe_int (nomark _))))) (pss_one (ps_ret pe_non)) pss_nil) (pss_cons (ps_set (i := 2) sc_law_tree.nd rfl (by first | exact Or.inl rfl | exact Or.inr rfl) (pe_call (ok_law_draw T) (hr.mono (by omega)) rfl T.law_draw.m T.law_draw.F.kp T.law_draw.b .nil pass0 (pa_cons (pv 0) (pa_cons (pv 1) pa_nil)))) (pss_one (ps_ret (pe_tup (pa_cons (pe_call (ok_law_pick T) (hr.mono (by omega)) rfl T.law_pick.m T.law_pick.F.kp T.law_pick.b .nil pass0 (pa_cons (pv 0) (pa_cons (pe_tup (pa_cons pe_str (pa_cons pe_str (pa_cons pe_str pa_nil)))) pa_nil))) (pa_cons (pe_call ih (hr.mono (by omega)) rfl T.law_tree.m T.law_tree.F.kp T.law_tree.b .nil pass0 (pa_cons (pv 0) (pa_cons (pv 2) pa_nil))) (pa_cons (pe_call ih (hr.mono (by omega)) rfl T.law_tree.m T.law_tree.F.kp T.law_tree.b .nil pass0 (pa_cons (pv 0) (pa_cons (pe_op op_sub (pe_op op_sub (pv 1) pe_int) (pv 2)) pa_nil))) pa_nil)))))))), ?_⟩
    refine ⟨_, rfl, _, _, rfl, rfl, _, rfl, ?_⟩
    cases many with
    | zero =>
      refine iteC (b := true) rfl ?_
      exact q .non .nil H (hd.dr (Same.refl _)) .non trivial (Nat.le_refl _)
    | succ m =>
      refine iteC (b := false) (decide_eq_false (by omega)) ?_
      refine ⟨_, rfl, dk, lc, 6, rfl, hd, by omega, by omega, fun r1 H1 hr1 d1 => ⟨rfl, _, rfl, ?_⟩⟩
      cases r1 with
      | zero =>
        refine iteC (b := true) dz0 ?_
        exact q .non .nil H1 d1 .non trivial (Nat.zero_le _)
      | succ r1 =>
        refine iteC (b := false) (dzS r1) ?_
        refine ⟨_, rfl, _, rfl, dk, lc, m + 1, rfl, d1.d, by omega, by omega, fun l H2 hl d2 => ?_⟩
        refine ⟨_, rfl, (by show 3 ≤ sizeLine; decide), fun t ht => ?_⟩
        have d3 := d2.same (same_new (o := .tup [V.str "a", V.str "b", V.str "ab"]) ht)
        refine ⟨dk, lc, t, _, rfl, d3.d, .inr sqT_new, by decide, by decide, fun i g H4 hi d4 => ?_⟩
        obtain ⟨gg, rfl, hg⟩ := tag3 hi
        refine ⟨_, rfl, _, rfl, dk, lc, l, rfl, by omega, by omega, d4.d, fun v1 t1 H5 d5 r1' g1 z1 => ?_⟩
        refine ⟨_, rfl, _, rfl, _, _, rfl, rfl, _, rfl, _, _, rfl, rfl, dk, lc, m - l, ?_, by omega, by omega, d5.d, fun v2 t2 H6 d6 r2' g2 z2 => ?_⟩
        · show [V.ref dk, V.int (((m + 1 : Nat) : Int) - 1 - (l : Int))] = _
          rw [show ((m + 1 : Nat) : Int) - 1 - (l : Int) = ((m - l : Nat) : Int) by omega]
        refine ⟨(by show 3 ≤ sizeLine; decide), fun p hp => ?_⟩
        have d7 := d6.same (same_new (o := .tup [V.str gg, v1, v2]) hp)
        have hq : Rp K (upd H6 p (.tup [V.str gg, v1, v2])) (.ref p) (Tr.node gg t1 t2).dt := Rp.new hp (.cons (.str gg) (.cons (r1'.tk d6.tk) (.cons r2' .nil)))
        refine q _ (.node gg t1 t2) _ ((((d1.trans d3).trans d4).trans d5).trans d7) hq ⟨hg, g1, g2⟩ ?_
        show 1 + t1.size + t2.size ≤ m + 1
        omega
theorem ok_law_some_tree (T : Tx w K mg Z) : FnOk P w K mg base CX0 30 (Z.A 48) (Z.D 48) ["_law_deck_here", "_law_many"] (spSomeTree K) := by
  refine T.law_some_tree.F.ok sc_law_some_tree (fun vs H Q E h => ?_) (fun cdv A outer s H vs Q E hr h => ?_)
  · obtain ⟨dk, lc, many, rfl, h0, h1, hd, q⟩ := h
    rfl
  have hu := hu_of hr
  have hu0 := Nat.lt_of_succ_lt hu
  obtain ⟨dk, lc, many, rfl, h0, h1, hd, q⟩ := h
  have ih := tree_at (P := P) (base := base) T 26
  refine ⟨_, (pss_cons (ps_if (pt_cmpR op_eq (pe_call (ok_law_draw T) (hr.mono (by decide)) rfl T.law_draw.m T.law_draw.F.kp T.law_draw.b .nil pass0 (pa_cons (pv 0) (pa_cons pe_int pa_nil))) pe_int (nomark _)) (pss_one (ps_ret (pe_call ih (hr.mono (by decide)) rfl T.law_tree.m T.law_tree.F.kp T.law_tree.b .nil pass0 (pa_cons (pv 0) (pa_cons (pv 1) pa_nil))))) pss_nil) (pss_cons (ps_set (i := 2) sc_law_some_tree.nd rfl (by first | exact Or.inl rfl | exact Or.inr rfl) (pe_call (ok_law_draw T) (hr.mono (by decide)) rfl T.law_draw.m T.law_draw.F.kp T.law_draw.b .nil pass0 (pa_cons (pv 0) (pa_cons (pv 1) pa_nil)))) (pss_one (ps_ret (pe_tup (pa_cons (pe_call (ok_law_pick T) (hr.mono (by decide)) rfl T.law_pick.m T.law_pick.F.kp T.law_pick.b .nil pass0 (pa_cons (pv 0) (pa_cons (pe_tup (pa_cons pe_str (pa_cons pe_str (pa_cons pe_str pa_nil)))) pa_nil))) (pa_cons (pe_call ih (hr.mono (by decide)) rfl T.law_tree.m T.law_tree.F.kp T.law_tree.b .nil pass0 (pa_cons (pv 0) (pa_cons (pv 2) pa_nil))) (pa_cons (pe_call ih (hr.mono (by decide)) rfl T.law_tree.m T.law_tree.F.kp T.law_tree.b .nil pass0 (pa_cons (pv 0) (pa_cons (pe_op op_sub (pe_op op_sub (pv 1) pe_int) (pv 2)) pa_nil))) pa_nil)))))))), ?_⟩
  refine ⟨_, rfl, dk, lc, 9, rfl, hd, by omega, by omega, fun r1 H1 hr1 d1 => ⟨rfl, _, rfl, ?_⟩⟩
  obtain ⟨m, rfl⟩ : ∃ m, many = m + 1 := ⟨many - 1, by omega⟩
  cases r1 with
  | zero =>
    refine iteC (b := true) dz0 ?_
    refine ⟨_, rfl, _, rfl, dk, lc, m + 1, rfl, by omega, by omega, d1.d, fun v t H2 d2 r2 g2 z2 => ?_⟩
    exact q v t H2 (d1.trans d2) r2 g2 z2
  | succ r1 =>
    refine iteC (b := false) (dzS r1) ?_
    refine ⟨_, rfl, _, rfl, dk, lc, m + 1, rfl, d1.d, by omega, by omega, fun l H2 hl d2 => ?_⟩
    refine ⟨_, rfl, (by show 3 ≤ sizeLine; decide), fun t ht => ?_⟩
    have d3 := d2.same (same_new (o := .tup [V.str "a", V.str "b", V.str "ab"]) ht)
    refine ⟨dk, lc, t, _, rfl, d3.d, .inr sqT_new, by decide, by decide, fun i g H4 hi d4 => ?_⟩
    obtain ⟨gg, rfl, hg⟩ := tag3 hi
    refine ⟨_, rfl, _, rfl, dk, lc, l, rfl, by omega, by omega, d4.d, fun v1 t1 H5 d5 r1' g1 z1 => ?_⟩
    refine ⟨_, rfl, _, rfl, _, _, rfl, rfl, _, rfl, _, _, rfl, rfl, dk, lc, m - l, ?_, by omega, by omega, d5.d, fun v2 t2 H6 d6 r2' g2 z2 => ?_⟩
    · show [V.ref dk, V.int (((m + 1 : Nat) : Int) - 1 - (l : Int))] = _
      rw [show ((m + 1 : Nat) : Int) - 1 - (l : Int) = ((m - l : Nat) : Int) by omega]
    refine ⟨(by show 3 ≤ sizeLine; decide), fun p hp => ?_⟩
    have d7 := d6.same (same_new (o := .tup [V.str gg, v1, v2]) hp)
    have hq : Rp K (upd H6 p (.tup [V.str gg, v1, v2])) (.ref p) (Tr.node gg t1 t2).dt := Rp.new hp (.cons (.str gg) (.cons (r1'.tk d6.tk) (.cons r2' .nil)))
    refine q _ (.node gg t1 t2) _ ((((d1.trans d3).trans d4).trans d5).trans d7) hq ⟨hg, g1, g2⟩ ?_
    show 1 + t1.size + t2.size ≤ m + 1
    omega
theorem ok_law_tree_for (T : Tx w K mg Z) : FnOk P w K mg base CX0 31 (Z.A 49) (Z.D 49) ["_law_deck_here", "_law_code_here", "_law_many"] (spTreeFor K) := by
  refine T.law_tree_for.F.ok sc_law_tree_for (fun vs H Q E h => ?_) (fun cdv A outer s H vs Q E hr h => ?_)
  · obtain ⟨dk, lc, vc, c, many, rfl, h0, h1, hd, hc, hcl, q⟩ := h
    rfl
  have hu := hu_of hr
  have hu0 := Nat.lt_of_succ_lt hu
  obtain ⟨dk, lc, vc, c, many, rfl, h0, h1, hd, hc, hcl, q⟩ := h
  obtain ⟨ca, cx, rfl, eca, rcx⟩ := code_rp hc
  refine ⟨_, (pss_one (ps_ret (pe_call (ok_law_some_tree T) (hr.mono (by decide)) rfl T.law_some_tree.m T.law_some_tree.F.kp T.law_some_tree.b .nil pass0 (pa_cons (pv 0) (pa_cons (pe_ifExp (pt_cmpR op_lt (pe_callB (cr_max rfl) rfl T.max_ bt_max (pa_cons (pe_op op_cat (pe_lst (pa_cons pe_int pa_nil)) (pe_lc (own := [("_law_it", 3)]) (g := gName 3) (tt := tYes) rfl sc_law_tree_for.nd (pi_tup (pv 1)) (blkOk_by (own := [("_law_it", 3)]) (N := N_law_tree_for) (sc := defScope s_law_tree_for) (by decide +kernel)) (fun _ _ _ _ _ => (pg_name (i := 3) sc_law_tree_for.nd rfl (by first | exact Or.inl rfl | exact Or.inr rfl))) (fun _ _ _ _ _ => pts_nil) (fun _ _ _ _ _ => (pe_ix (r := rIxT K) ix_tup (pv 3) pe_int (fun _ _ => rfl))))) pa_nil)) pe_int (nomark _)) (pv 2) pe_int) pa_nil))))), ?_⟩
  refine ⟨_, rfl, (by show 1 ≤ sizeLine; decide), fun l1 hl1 => ?_⟩
  have s1 := same_new (o := .lst [V.int 0]) hl1
  have e1 : (upd H l1 (.lst [V.int 0])) l1 = some (.lst [V.int 0]) := upd_same
  generalize hH1 : upd H l1 (.lst [V.int 0]) = H1 at s1 e1
  refine ⟨_, rfl, ca, rfl, ⟨_, (Same.tk s1).sq eca⟩, fun D hD => lc_pure walk_tup (fun _ y => ∃ n : Int, y = .int n) (by rw [rcx.len, List.length_map]; omega) hD (fun H3 s3 => (Same.tk (s1.trans s3)).sq eca) ?_ ?_ gName_mono⟩
  · rintro j x H3 H4 hi s3 ⟨rfl, hxj⟩
    obtain ⟨d, hd', rd⟩ := rcx.at_ hxj
    rw [List.getElem?_map] at hd'
    cases ef : c[j]? with
    | none => rw [ef] at hd'; cases hd'
    | some f =>
      rw [ef] at hd'
      cases hd'
      obtain ⟨fa, fb, fx, rfl, efa, efb, rfx⟩ := fn_rp rd
      exact ⟨rfl, fun Q' q' => ⟨_, rfl, _, _, _, _, rfl, rfl, (Same.tk (s1.trans s3)).sq efa, atI_nat (j := 1) rfl, q' _ _ (Same.refl _) ⟨_, rfl⟩⟩⟩
  · intro H3 ys s3 e hly hy
    obtain ⟨ns, rfl⟩ : ∃ ns : List Int, ys = ns.map V.int := ints_of hy
    have s13 := s1.trans s3
    refine ⟨_, _, _, _, rfl, rfl, s3 _ _ e1, e, ?_, fun p hp => ?_⟩
    · rw [hly, rcx.len, List.length_map]
      exact Nat.le_trans (by show 1 + c.length ≤ 2000; omega) (by decide)
    have s4 := s13.trans (same_new (o := .lst ([V.int 0] ++ ns.map V.int)) hp)
    refine ⟨_, 0 :: ns, rfl, SqL.of upd_same, by simp, fun m _ _ => ⟨_, _, rfl, rfl, _, rfl, ?_⟩⟩
    have hd4 := hd.dr s4
    by_cases hm : m < 3
    · refine iteC (b := true) (decide_eq_true hm) ?_
      exact ⟨_, rfl, dk, lc, many, rfl, h0, h1, hd4.d, fun v t H' d r g z => q v t H' (hd4.trans d) r g z⟩
    · refine iteC (b := false) (decide_eq_false hm) ?_
      exact ⟨dk, lc, 1, rfl, by omega, by omega, hd4.d, fun v t H' d r g z => q v t H' (hd4.trans d) r g (by omega)⟩
theorem ok_law_heads (T : Tx w K mg Z) : FnOk P w K mg base CX0 3 (Z.A 50) (Z.D 50) ["_law_deck_here", "_law_most"] (spHeads K) := by
  refine T.law_heads.F.ok sc_law_heads (fun vs H Q E h => ?_) (fun cdv A outer s H vs Q E hr h => ?_)
  · obtain ⟨dk, lc, rfl, hd, q⟩ := h
    rfl
  have hu := hu_of hr
  have hu0 := Nat.lt_of_succ_lt hu
  obtain ⟨dk, lc, rfl, hd, q⟩ := h
  refine ⟨_, (pss_cons (ps_set (i := 2) sc_law_heads.nd rfl (by first | exact Or.inl rfl | exact Or.inr rfl) (pe_lst pa_nil)) (pss_cons (ps_for PassesOwn.never rfl (pi_range1 rfl T.range_ (pa_cons (pe_op op_add pe_int (pe_call (ok_law_draw T) (hr.mono (by decide)) rfl T.law_draw.m T.law_draw.F.kp T.law_draw.b .nil pass0 (pa_cons (pv 0) (pa_cons (pv 1) pa_nil)))) pa_nil)) (pg_name (i := 3) sc_law_heads.nd rfl (by first | exact Or.inl rfl | exact Or.inr rfl)) (pss_one (ps_expr (pe_bm PySem.F.plainAttrs_list PySem.F.slot_list_append PySem.F.type_list_append mt_append (pv 2) (pa_cons (pe_tup (pa_cons (pe_call (ok_law_pick T) (hr.mono (by decide)) rfl T.law_pick.m T.law_pick.F.kp T.law_pick.b .nil pass0 (pa_cons (pv 0) (pa_cons (pe_tup (pa_cons pe_str (pa_cons pe_str pa_nil))) pa_nil))) (pa_cons (pe_call (ok_law_pick T) (hr.mono (by decide)) rfl T.law_pick.m T.law_pick.F.kp T.law_pick.b .nil pass0 (pa_cons (pv 0) (pa_cons (pe_tup (pa_cons pe_int (pa_cons pe_int (pa_cons pe_int (pa_cons pe_int (pa_cons pe_int pa_nil)))))) pa_nil))) pa_nil))) pa_nil))))) (pss_cons (ps_if (pt_cmpR op_eq (pe_call (ok_law_draw T) (hr.mono (by decide)) rfl T.law_draw.m T.law_draw.F.kp T.law_draw.b .nil pass0 (pa_cons (pv 0) (pa_cons pe_int pa_nil))) pe_int (nomark _)) (pss_cons (ps_set (i := 3) sc_law_heads.nd rfl (by first | exact Or.inl rfl | exact Or.inr rfl) (pe_call (ok_law_draw T) (hr.mono (by decide)) rfl T.law_draw.m T.law_draw.F.kp T.law_draw.b .nil pass0 (pa_cons (pv 0) (pa_cons (pe_callB call_len rfl T.len_ bt_len (pa_cons (pv 2) pa_nil)) pa_nil)))) (pss_one (ps_asg (pe_tup (pa_cons (pe_ix ix_tup (pe_ix ix_list (pv 2) (pv 3) (fun _ _ => rfl)) pe_int (fun _ _ => rfl)) (pa_cons (pe_op op_add pe_int (pe_call (ok_law_draw T) (hr.mono (by decide)) rfl T.law_draw.m T.law_draw.F.kp T.law_draw.b .nil pass0 (pa_cons (pv 0) (pa_cons pe_int pa_nil)))) pa_nil))) (pg_sub (pv 2) (pv 3) set_list)))) pss_nil) (pss_one (ps_ret (pv 2)))))), ?_⟩
  refine ⟨(by show 0 ≤ sizeLine; decide), fun l hl => ?_⟩
  have d0 := hd.dr (same_new (o := .lst []) hl)
  refine ⟨_, rfl, _, rfl, dk, lc, 3, rfl, d0.d, by omega, by omega, fun r H1 hr1 d1 => ?_⟩
  have hne := hd.ne hl
  refine ⟨_, _, rfl, rfl, _, rfl, by omega, by omega, ?_⟩
  have hn : ((1 : Int) + (r : Int)).toNat = r + 1 := by omega
  rw [hn]
  refine for_range (fun i σ H' => ∃ (o : Option V) (hs : Heads), σ = [some (.ref dk), some (.int 3), some (.ref l), o] ∧ Dr dk lc H H' ∧ HdAt K H' l hs ∧ hs.length = i ∧ ∀ h ∈ hs, h.2 ≤ 5) ⟨none, [], rfl, d0.trans d1, ⟨[], d1.get upd_same hne.1 hne.2, .nil⟩, rfl, by simp⟩ ?_ ?_
  · rintro i σ H2 hi ⟨o, hs, rfl, d2, ⟨vs, hv, rv⟩, hlen, hb⟩
    refine ⟨_, rfl, .inl ⟨rfl, _, SqL.of hv⟩, _, rfl, (by show 2 ≤ sizeLine; decide), fun t1 ht1 => ?_⟩
    have d3 := d2.same (same_new (o := .tup [V.str "truth", V.str "place"]) ht1)
    refine ⟨dk, lc, t1, _, rfl, d3.d, .inr sqT_new, by decide, by decide, fun i1 k1 H4 hi1 d4 => ?_⟩
    obtain ⟨kd, rfl⟩ := kd2 hi1
    refine ⟨_, rfl, (by show 5 ≤ sizeLine; decide), fun t2 ht2 => ?_⟩
    have d5 := d4.same (same_new (o := .tup [V.int 1, V.int 1, V.int 2, V.int 0, V.int 1]) ht2)
    refine ⟨dk, lc, t2, _, rfl, d5.d, .inr sqT_new, by decide, by decide, fun i2 k2 H6 hi2 d6 => ?_⟩
    obtain ⟨n, hn2, rfl⟩ := num5 hi2
    refine ⟨(by show 2 ≤ sizeLine; decide), fun t3 ht3 => ?_⟩
    have d7 := d6.same (same_new (o := .tup [V.str kd.str, V.int (n : Int)]) ht3)
    have e7 : (upd H6 t3 (.tup [V.str kd.str, V.int (n : Int)])) t3 = some (.tup [V.str kd.str, V.int (n : Int)]) := upd_same
    generalize hH7 : upd H6 t3 (.tup [V.str kd.str, V.int (n : Int)]) = H7 at d7 e7
    have d07 := ((d3.trans d5).trans d7)
    have dd : Dr dk lc H2 H7 := ((d2.d.dr (same_new ht1)).trans d5).trans d7
    have hv7 := dd.get hv hne.1 hne.2
    refine ⟨l, _, _, rfl, rfl, hv7, ?_, ?_⟩
    · rw [rv.len, List.length_map, hlen]
      exact Nat.lt_of_lt_of_le (by omega : i < 5) (by decide)
    · refine ⟨_, hs ++ [(kd, n)], rfl, d07.upd hl hv7, ⟨_, upd_same, ?_⟩, by simp [hlen], ?_⟩
      · rw [List.map_append]
        exact ((rv.tk dd.tk).append (.cons (.tup (SqT.of e7) (.cons (.str _) (.cons (.int _) .nil))) .nil)).tk (tk_lst hv7)
      · intro h hm
        rcases List.mem_append.mp hm with hm | hm
        · exact hb h hm
        · simp at hm
          subst hm
          exact Nat.le_trans hn2 (by decide)
  · rintro σ H2 ⟨o, hs, rfl, d2, ⟨vs, hv, rv⟩, hlen, hb⟩
    have hvl : vs.length = r + 1 := by rw [rv.len, List.length_map, hlen]
    refine ⟨_, rfl, dk, lc, 8, rfl, d2.d, by omega, by omega, fun r2 H3 hr2 d3 => ⟨rfl, _, rfl, ?_⟩⟩
    have hv3 := d3.get hv hne.1 hne.2
    cases r2 with
    | succ r2 =>
      refine iteC (b := false) (dzS r2) ?_
      exact ⟨_, rfl, q l hs H3 (d2.trans d3) hl ⟨vs, hv3, rv.tk d3.tk⟩ (by omega) (by omega) hb⟩
    | zero =>
      refine iteC (b := true) dz0 ?_
      refine ⟨_, rfl, _, rfl, _, _, rfl, .inl ⟨_, SqL.of hv3, rfl⟩, dk, lc, vs.length, rfl, d3.d, by omega, by omega, fun f H4 hf d4 => ?_⟩
      have hv4 := d4.get hv3 hne.1 hne.2
      have rv4 := (rv.tk d3.tk).tk d4.tk
      obtain ⟨hd0, hf0⟩ : ∃ h, hs[f]? = some h := ⟨hs[f]'(by omega), List.getElem?_eq_getElem _⟩
      obtain ⟨hv', hvg, rhv⟩ := rv4.get (show (hs.map headDt)[f]? = some (headDt hd0) by rw [List.getElem?_map, hf0]; rfl)
      obtain ⟨ha, hx, rfl, eha, rhx⟩ := rhv.tup_inv
      cases rhx with
      | cons q1 rhx => cases rhx with
        | cons q2 rhx =>
          obtain rfl := q1.str_inv
          obtain rfl := q2.int_inv
          cases rhx
          refine ⟨_, rfl, _, rfl, _, _, _, _, rfl, rfl, SqL.of hv4, atI_nat hvg, _, _, _, _, rfl, rfl, eha, at0, _, rfl, dk, lc, 3, rfl, d4.d, by omega, by omega, fun x H5 hx5 d5 => ⟨_, _, rfl, rfl, (by show 2 ≤ sizeLine; decide), fun t4 ht4 => ?_⟩⟩
          have d6 := d5.same (same_new (o := .tup [V.str hd0.1.str, V.int (3 + (x : Int))]) ht4)
          have e6 : (upd H5 t4 (.tup [V.str hd0.1.str, V.int (3 + (x : Int))])) t4 = some (.tup [V.str hd0.1.str, V.int (3 + (x : Int))]) := upd_same
          generalize hH6 : upd H5 t4 (.tup [V.str hd0.1.str, V.int (3 + (x : Int))]) = H6 at d6 e6
          have hv6 := d6.get hv4 hne.1 hne.2
          refine ⟨_, rfl, _, rfl, l, _, _, _, rfl, rfl, hv6, ixN_nat hf, ?_⟩
          have d26 := ((d2.trans d3).trans d4).trans d6
          refine ⟨_, rfl, q l (hs.set f (hd0.1, 3 + x)) _ (d26.upd hl hv6) hl ⟨_, upd_same, ?_⟩ (by rw [List.length_set]; omega) (by rw [List.length_set]; omega) ?_⟩
          · rw [List.map_set]
            have rt : Rp K H6 (.ref t4) (headDt (hd0.1, 3 + x)) := by
              have : Rp K H6 (.ref t4) (.tup [.str hd0.1.str, .int (3 + (x : Int))]) := .tup (SqT.of e6) (.cons (.str _) (.cons (.int _) .nil))
              have e : iD (3 + x) = Dt.int (3 + (x : Int)) := by unfold iD; congr 1
              unfold headDt
              rw [e]
              exact this
            exact (rps_set (rv4.tk d6.tk) rt f).tk (tk_lst hv6)
          · intro h hm
            rcases List.mem_or_eq_of_mem_set hm with hm | rfl
            · exact hb h hm
            · show 3 + x ≤ 5
              omega
end
end Eo
set_option linter.all false
set_option maxRecDepth 100000
set_option maxHeartbeats 4000000
/-! E17: the law's own looks at rows. -/
namespace Eo
open PySem L2
def SHW : List (Str × Str) := [("top", "d"), ("move", "ds"), ("left", "ds"), ("right", "ds"), ("up", "ds"), ("yes", "d"), ("no", "d"), ("has", "dst"), ("empty", "ds"), ("same", "dss"), ("not", "ds"), ("skip", "k"), ("unless", "sk"), ("call", "dfa"), ("give", "s")]
def SHL : List (Key × V) := SHW.map fun p => (.inr p.1, .str p.2)
def Row.lets : Row → Str
  | .top _ => "d" | .move _ _ => "ds" | .left _ _ => "ds" | .right _ _ => "ds" | .up _ _ => "ds" | .yes _ => "d" | .no _ => "d" | .has _ _ _ => "dst" | .empty _ _ => "ds" | .same _ _ _ => "dss" | .not _ _ => "ds"
  | .skip _ => "k" | .unl _ _ => "sk" | .call _ _ _ => "dfa" | .give _ => "s"
theorem valV_words (l : List (Str × Str)) (k : Str) : valV (l.map fun p => ((.inr p.1 : Key), V.str p.2)) (.inr k) = (l.find? fun p => decide (p.1 = k)).map fun p => .str p.2 := by
  induction l with
  | nil => rfl
  | cons p l ih =>
    by_cases h : p.1 = k
    · rw [List.map_cons, valV_pos (by rw [h]), List.find?_cons_of_pos (by simpa using h)]
      rfl
    · rw [List.map_cons, valV_neg (fun e => h (Sum.inr.inj e)), ih, List.find?_cons_of_neg (by simpa using h)]
theorem shw_all : ∀ q ∈ SHW, (SHW.find? fun p => decide (p.1 = q.1)).map (·.2) = some q.2 := by decide +kernel
theorem shl_at (r : Row) : valV SHL (.inr r.word) = some (.str r.lets) := by
  unfold SHL
  rw [valV_words]
  have hm : (r.word, r.lets) ∈ SHW := by
    cases r <;> simp [Row.word, Row.lets, SHW]
  have e : (SHW.find? fun p => decide (p.1 = r.word)).map (·.2) = some r.lets := shw_all _ hm
  cases q : SHW.find? fun p => decide (p.1 = r.word) with
  | none => rw [q] at e; cases e
  | some p =>
    rw [q] at e
    have e2 : p.2 = r.lets := Option.some.inj e
    show some (V.str p.2) = _
    rw [e2]
def spShapes : Sp := fun vs H Q _ => vs = [] ∧ ∀ p H', Same H H' → H' p = some (.dK SHL) → Q (.ref p) H'
def spSetL (K : PySem.W.Frag) : Sp := fun vs H Q _ => ∃ (v : V) (r : Row), vs = [v] ∧ Rp K H v r.dt ∧ ∀ H', Same H H' → Q (optI r.sets) H'
def spKindSetL (K : PySem.W.Frag) : Sp := fun vs H Q _ => ∃ (ch ks : Addr) (v : V) (hs : Heads) (r : Row) (l : KL), vs = [.ref ch, v, .ref ks] ∧ HdAt K H ch hs ∧ Rp K H v r.dt ∧ H ks = some (.lst (l.map kdV)) ∧
  (∀ d s, r = .move d s → s < l.length) ∧ (∀ d f as, r = .call d f as → f < hs.length) ∧ ∀ H', Same H H' → Q (kdV (kindSet hs (kf l) r)) H'
def spJoinL : Sp := fun vs H Q _ => ∃ (a b : Addr) (y x : KL), vs = [.ref a, .ref b] ∧ H a = some (.lst (y.map kdV)) ∧ H b = some (.lst (x.map kdV)) ∧ y.length = x.length ∧ y.length ≤ 1000 ∧
  ∀ p H', Same H H' → H p = none → H' p = some (.lst ((joinL y x).map kdV)) → Q (.ref p) H'
section
variable {P : Program} {w : World} {K : PySem.W.Frag} {mg : Str → Option Value} {base : Heap} {Z : Wh}
theorem ok_law_shapes (T : Tx w K mg Z) : FnOk P w K mg base CX0 1 (Z.A 38) (Z.D 38) [] spShapes := by
  refine T.law_shapes.F.ok sc_law_shapes (fun vs H Q E h => ?_) (fun cdv A outer s H vs Q E hr h => ?_)
  · obtain ⟨rfl, q⟩ := h
    rfl
  have hu := hu_of hr
  have hu0 := Nat.lt_of_succ_lt hu
  obtain ⟨rfl, q⟩ := h
  refine ⟨_, (pss_one (ps_ret (pe_disp (pps_cons pe_str pe_str (pps_cons pe_str pe_str (pps_cons pe_str pe_str (pps_cons pe_str pe_str (pps_cons pe_str pe_str (pps_cons pe_str pe_str (pps_cons pe_str pe_str (pps_cons pe_str pe_str (pps_cons pe_str pe_str (pps_cons pe_str pe_str (pps_cons pe_str pe_str (pps_cons pe_str pe_str (pps_cons pe_str pe_str (pps_cons pe_str pe_str (pps_cons pe_str pe_str pps_nil))))))))))))))) (by rfl) (by rfl) (fun z => by cases z) (by decide)))), ?_⟩
  intro p hp
  refine ⟨upd_same, SHL, rfl, by decide, ?_⟩
  rw [mergeK_new SHL [] (by decide +kernel) fun _ _ => rfl]
  exact q p _ (same_at (same_new hp) hp) upd_same
theorem lets0 (r : Row) : ∃ c, atI r.lets.cps.toList 0 = some c ∧ decide (V.str ⟨#[c]⟩ = V.str "d") = r.sets.isSome := by
  cases r <;> first
    | exact ⟨100, rfl, show decide (V.str ⟨#[100]⟩ = V.str "d") = true by decide +kernel⟩
    | exact ⟨107, rfl, show decide (V.str ⟨#[107]⟩ = V.str "d") = false by decide +kernel⟩
    | exact ⟨115, rfl, show decide (V.str ⟨#[115]⟩ = V.str "d") = false by decide +kernel⟩
theorem ok_law_set (T : Tx w K mg Z) : FnOk P w K mg base CX0 2 (Z.A 39) (Z.D 39) ["_law_row"] (spSetL K) := by
  refine T.law_set.F.ok sc_law_set (fun vs H Q E h => ?_) (fun cdv A outer s H vs Q E hr h => ?_)
  · obtain ⟨v, r, rfl, hv, q⟩ := h
    rfl
  have hu := hu_of hr
  have hu0 := Nat.lt_of_succ_lt hu
  obtain ⟨v, r, rfl, hv, q⟩ := h
  obtain ⟨a, xs, rfl, ea, rx⟩ := row_rp hv
  refine ⟨_, (pss_one (ps_ret (pe_ifExp (pt_cmpR op_eq (pe_ix ix_str (pe_dget hu (pe_call0 (ok_law_shapes T) (hr.mono (by decide)) rfl T.law_shapes.m T.law_shapes.F.kp T.law_shapes.b .nil pass0) (pe_ix ix_tup (pv 0) pe_int (fun _ _ => rfl)) (fun _ _ => rfl)) pe_int (fun _ _ => rfl)) pe_str (nomark _)) (pe_ix ix_tup (pv 0) pe_int (fun _ _ => rfl)) pe_non))), ?_⟩
  refine ⟨rfl, fun p H1 s1 h1 => ?_⟩
  obtain ⟨c, hc, he⟩ := lets0 r
  have ea1 := (Same.tk s1).sq ea
  refine ⟨_, rfl, _, _, _, _, rfl, rfl, ea1, at0, _, _, rfl, .inl ⟨_, .inr r.word, .inl h1, rfl, (shl_at r).symm⟩, _, _, _, rfl, rfl, ?_, hc, rfl, _, rfl, ?_⟩
  · cases r <;> (dsimp only [Row.lets]; decide +kernel)
  refine iteC he ?_
  cases r with
  | skip k => exact q _ s1
  | unl s k => exact q _ s1
  | give s => exact q _ s1
  | _ =>
    cases rx with
    | cons q1 rx =>
      obtain rfl := q1.int_inv
      exact ⟨_, rfl, _, _, _, _, rfl, rfl, ea1, atI_nat (j := 1) rfl, q _ s1⟩
theorem ok_law_ways (T : Tx w K mg Z) : FnOk P w K mg base CX0 1 (Z.A 40) (Z.D 40) ["_law_row", "_law_at"] (spRowsAfter K) := by
  refine T.law_ways.F.ok sc_law_ways (fun vs H Q E h => ?_) (fun cdv A outer s H vs Q E hr h => ?_)
  · obtain ⟨v, r, i, rfl, hv, q⟩ := h
    rfl
  have hu := hu_of hr
  have hu0 := Nat.lt_of_succ_lt hu
  obtain ⟨v, r, i, rfl, hv, q⟩ := h
  obtain ⟨a, xs, rfl, ea, rx⟩ := row_rp hv
  refine ⟨_, (pss_cons (ps_if (pt_cmpR op_eq (pe_ix ix_tup (pv 0) pe_int (fun _ _ => rfl)) pe_str (nomark _)) (pss_one (ps_ret (pe_lst (pa_cons (pe_ix ix_tup (pv 0) pe_int (fun _ _ => rfl)) pa_nil)))) pss_nil) (pss_one (ps_ret (pe_ifExp (pt_cmpR op_eq (pe_ix ix_tup (pv 0) pe_int (fun _ _ => rfl)) pe_str (nomark _)) (pe_lst (pa_cons (pe_op op_add (pv 1) pe_int) (pa_cons (pe_ix ix_tup (pv 0) pe_int (fun _ _ => rfl)) pa_nil))) (pe_ifExp (pt_cmpR op_eq (pe_ix ix_tup (pv 0) pe_int (fun _ _ => rfl)) pe_str (nomark _)) (pe_lst pa_nil) (pe_lst (pa_cons (pe_op op_add (pv 1) pe_int) pa_nil))))))), ?_⟩
  cases r with
  | skip k =>
    dsimp only [Row.word] at ea
    cases rx with
    | cons q1 rx =>
      obtain rfl := q1.int_inv
      refine ⟨_, rfl, _, _, _, _, rfl, rfl, ea, at0, rfl, _, rfl, ?_⟩
      refine iteC (b := true) (by decide +kernel) ?_
      refine ⟨_, rfl, _, _, _, _, rfl, rfl, ea, atI_nat (j := 1) rfl, ?_⟩
      exact ⟨(by show 1 ≤ sizeLine; decide), fun p hp => q _ _ (same_new hp) hp upd_same⟩
  | unl s k =>
    dsimp only [Row.word] at ea
    cases rx with
    | cons q1 rx =>
      cases rx with
      | cons q2 rx =>
        obtain rfl := q2.int_inv
        refine ⟨_, rfl, _, _, _, _, rfl, rfl, ea, at0, rfl, _, rfl, ?_⟩
        refine iteC (b := false) (by decide +kernel) ?_
        refine ⟨_, rfl, _, _, _, _, rfl, rfl, ea, at0, rfl, _, rfl, ?_⟩
        refine iteC (b := true) (by decide +kernel) ?_
        refine ⟨_, rfl, _, _, rfl, rfl, _, rfl, _, _, _, _, rfl, rfl, ea, atI_nat (j := 2) rfl, ?_⟩
        exact ⟨(by show 2 ≤ sizeLine; decide), fun p hp => q _ _ (same_new hp) hp upd_same⟩
  | give s =>
    dsimp only [Row.word] at ea
    refine ⟨_, rfl, _, _, _, _, rfl, rfl, ea, at0, rfl, _, rfl, ?_⟩
    refine iteC (b := false) (by decide +kernel) ?_
    refine ⟨_, rfl, _, _, _, _, rfl, rfl, ea, at0, rfl, _, rfl, ?_⟩
    refine iteC (b := false) (by decide +kernel) ?_
    refine ⟨_, rfl, _, _, _, _, rfl, rfl, ea, at0, rfl, _, rfl, ?_⟩
    refine iteC (b := true) (by decide +kernel) ?_
    exact ⟨(by show 0 ≤ sizeLine; decide), fun p hp => q _ _ (same_new hp) hp upd_same⟩
  | _ =>
    dsimp only [Row.word] at ea
    refine ⟨_, rfl, _, _, _, _, rfl, rfl, ea, at0, rfl, _, rfl, ?_⟩
    refine iteC (b := false) (by decide +kernel) ?_
    refine ⟨_, rfl, _, _, _, _, rfl, rfl, ea, at0, rfl, _, rfl, ?_⟩
    refine iteC (b := false) (by decide +kernel) ?_
    refine ⟨_, rfl, _, _, _, _, rfl, rfl, ea, at0, rfl, _, rfl, ?_⟩
    refine iteC (b := false) (by decide +kernel) ?_
    refine ⟨_, rfl, _, _, rfl, rfl, ?_⟩
    exact ⟨(by show 1 ≤ sizeLine; decide), fun p hp => q _ _ (same_new hp) hp upd_same⟩
theorem kdL_at {l : KL} {i : Nat} (hi : i < l.length) : (l.map kdV)[i]? = some (kdV (kf l i)) := by
  rw [List.getElem?_map, List.getElem?_eq_getElem hi, kf_of (List.getElem?_eq_getElem hi)]
  rfl
theorem hd_at {H : Hp} {ch : Addr} {hs : Heads} {f : Nat} {h : Kd × Nat} (e : HdAt K H ch hs) (hf : hs[f]? = some h) : ∃ vs a, H ch = some (.lst vs) ∧ vs[f]? = some (.ref a) ∧ SqT K H a [.str h.1.str, .int h.2] ∧ vs.length = hs.length := by
  obtain ⟨vs, e1, e2⟩ := e.ex
  obtain ⟨v, hv, rv⟩ := e2.get (show (hs.map headDt)[f]? = some (headDt h) by rw [List.getElem?_map, hf]; rfl)
  obtain ⟨a, xs, rfl, ea, rx⟩ := rv.tup_inv
  cases rx with
  | cons q1 rx => cases rx with
    | cons q2 rx =>
      obtain rfl := q1.str_inv
      obtain rfl := q2.int_inv
      cases rx
      exact ⟨vs, a, e1, hv, ea, by rw [e2.len, List.length_map]⟩
theorem ok_law_kind_set (T : Tx w K mg Z) : FnOk P w K mg base CX0 1 (Z.A 41) (Z.D 41) ["_law_code_here", "_law_row", "_law_kinds"] (spKindSetL K) := by
  refine T.law_kind_set.F.ok sc_law_kind_set (fun vs H Q E h => ?_) (fun cdv A outer s H vs Q E hr h => ?_)
  · obtain ⟨ch, ks, v, hs, r, l, rfl, hch, hv, hks, hmv, hcl, q⟩ := h
    rfl
  have hu := hu_of hr
  have hu0 := Nat.lt_of_succ_lt hu
  obtain ⟨ch, ks, v, hs, r, l, rfl, hch, hv, hks, hmv, hcl, q⟩ := h
  obtain ⟨a, xs, rfl, ea, rx⟩ := row_rp hv
  refine ⟨_, (pss_cons (ps_if (pt_cmpR op_in_seq (pe_ix ix_tup (pv 1) pe_int (fun _ _ => rfl)) (pe_tup (pa_cons pe_str (pa_cons pe_str (pa_cons pe_str (pa_cons pe_str pa_nil))))) rfl) (pss_one (ps_ret pe_str)) pss_nil) (pss_cons (ps_if (pt_cmpR op_eq (pe_ix ix_tup (pv 1) pe_int (fun _ _ => rfl)) pe_str (nomark _)) (pss_one (ps_ret (pe_ix ix_list (pv 2) (pe_ix ix_tup (pv 1) pe_int (fun _ _ => rfl)) (fun _ _ => rfl)))) pss_nil) (pss_one (ps_ret (pe_ifExp (pt_cmpR op_eq (pe_ix ix_tup (pv 1) pe_int (fun _ _ => rfl)) pe_str (nomark _)) (pe_ix ix_tup (pe_ix ix_list (pv 0) (pe_ix ix_tup (pv 1) pe_int (fun _ _ => rfl)) (fun _ _ => rfl)) pe_int (fun _ _ => rfl)) pe_str))))), ?_⟩
  refine ⟨_, rfl, _, _, _, _, rfl, rfl, ea, at0, (by show 4 ≤ sizeLine; decide), fun t5 ht5 => ⟨_, _, rfl, .inr sqT_new, rfl, rfl, _, rfl, ?_⟩⟩
  have s5 : Same H (upd H t5 (.tup [.str "top", .str "left", .str "right", .str "up"])) := same_tup ht5
  have ea5 := (Same.tk s5).sq ea
  by_cases h4 : inV (.str r.word) [.str "top", .str "left", .str "right", .str "up"] = true
  · refine iteC (b := true) h4 ?_
    have e : kindSet hs (kf l) r = some .place := by
      cases r <;> first | rfl | exact absurd h4 (by dsimp only [Row.word]; decide +kernel)
    rw [e] at q
    exact q _ s5
  · refine iteC (b := false) (by simpa using h4) ?_
    refine ⟨_, rfl, _, _, _, _, rfl, rfl, ea5, at0, rfl, _, rfl, ?_⟩
    cases r with
    | move d s =>
      dsimp only [Row.word]
      refine iteC (b := true) (decide_eq_true rfl) ?_
      cases rx with
      | cons q1 rx => cases rx with
        | cons q2 rx =>
          obtain rfl := q2.int_inv
          exact ⟨_, rfl, _, rfl, _, _, _, _, rfl, rfl, ea5, atI_nat (j := 2) rfl, _, _, _, _, rfl, rfl, SqL.of (s5 _ _ hks), atI_nat (kdL_at (hmv d s rfl)), q _ s5⟩
    | call d f as =>
      dsimp only [Row.word]
      refine iteC (b := false) (decide_eq_false (by decide +kernel)) ?_
      refine ⟨_, rfl, _, _, _, _, rfl, rfl, ea5, at0, rfl, _, rfl, ?_⟩
      refine iteC (b := true) (decide_eq_true rfl) ?_
      cases rx with
      | cons q1 rx => cases rx with
        | cons q2 rx =>
          obtain rfl := q2.int_inv
          have hf := hcl d f as rfl
          obtain ⟨vs, fa, e1, e2, e3, _⟩ := hd_at hch (List.getElem?_eq_getElem hf)
          have e : kindSet hs (kf l) (.call d f as) = some hs[f].1 := by
            show (hs[f]?).map (·.1) = _
            rw [List.getElem?_eq_getElem hf]
            rfl
          rw [e] at q
          exact ⟨_, rfl, _, rfl, _, _, _, _, rfl, rfl, ea5, atI_nat (j := 2) rfl, _, _, _, _, rfl, rfl, SqL.of (s5 _ _ e1), atI_nat e2, _, _, _, _, rfl, rfl, (Same.tk s5).sq e3, at0, q _ s5⟩
    | top d => exact absurd (by dsimp only [Row.word]; decide +kernel) h4
    | left d s => exact absurd (by dsimp only [Row.word]; decide +kernel) h4
    | right d s => exact absurd (by dsimp only [Row.word]; decide +kernel) h4
    | up d s => exact absurd (by dsimp only [Row.word]; decide +kernel) h4
    | _ =>
      dsimp only [Row.word]
      refine iteC (b := false) (decide_eq_false (by decide +kernel)) ?_
      refine ⟨_, rfl, _, _, _, _, rfl, rfl, ea5, at0, rfl, _, rfl, ?_⟩
      refine iteC (b := false) (decide_eq_false (by dsimp only [Row.word]; decide +kernel)) ?_
      exact q _ s5
theorem ok_law_joined (T : Tx w K mg Z) : FnOk P w K mg base CX0 1 (Z.A 42) (Z.D 42) ["_law_one", "_law_other"] spJoinL := by
  refine T.law_joined.F.ok sc_law_joined (fun vs H Q E h => ?_) (fun cdv A outer s H vs Q E hr h => ?_)
  · obtain ⟨a, b, y, x, rfl, ha, hb, hly, hl, q⟩ := h
    rfl
  have hu := hu_of hr
  have hu0 := Nat.lt_of_succ_lt hu
  obtain ⟨a, b, y, x, rfl, ha, hb, hly, hl, q⟩ := h
  refine ⟨_, (pss_one (ps_ret (pe_lc (own := [("_law_x", 2), ("_law_y", 3)]) (g := gTup K 2 (gCons (gName 2) (gCons (gName 3) gNil))) (tt := tYes) rfl sc_law_joined.nd (RZ.pi_zipA rfl T.zip_ (pa_cons (pv 0) (pa_cons (pv 1) pa_nil))) (blkOk_by (own := [("_law_x", 2), ("_law_y", 3)]) (N := N_law_joined) (sc := defScope s_law_joined) (by decide +kernel)) (fun _ _ _ _ _ => (pg_tup rfl (pgs_cons (pg_name (i := 2) sc_law_joined.nd rfl (by first | exact Or.inl rfl | exact Or.inr rfl)) (pgs_cons (pg_name (i := 3) sc_law_joined.nd rfl (by first | exact Or.inl rfl | exact Or.inr rfl)) pgs_nil)))) (fun _ _ _ _ _ => pts_nil) (fun _ _ _ _ _ => (pe_ifExp (pt_cmpR op_eq (pv 2) (pv 3) (nomark _)) (pv 2) pe_non))))), ?_⟩
  have hmin : x.length = min (y.map kdV).length (x.map kdV).length := by simp [hly]
  refine ⟨_, rfl, _, rfl, _, _, _, _, rfl, .inl ⟨SqL.of ha, SqL.of hb, fun D hD => lc_pure (walk_zip hmin) (fun i z => ∃ a b, y[i]? = some a ∧ x[i]? = some b ∧ z = kdV (if a = b then a else none)) (by omega) hD (fun H1 s1 => ⟨SqL.of (s1 _ _ ha), SqL.of (s1 _ _ hb)⟩) ?_ ?_ gPair_mono⟩⟩
  · rintro i z H3 H4 hi hs ⟨t3, z1, z2, rfl, ht3, rfl, hz1, hz2⟩
    dsimp only at hz1 hz2
    rw [List.getElem?_map] at hz1 hz2
    cases ey : y[i]? with
    | none => rw [ey] at hz1; cases hz1
    | some a =>
      cases ex : x[i]? with
      | none => rw [ex] at hz2; cases hz2
      | some b =>
        rw [ey] at hz1
        rw [ex] at hz2
        cases hz1
        cases hz2
        refine pair_go ⟨rfl, fun Q' q' => ?_⟩
        refine ⟨_, rfl, _, rfl, scal_kd a b, _, rfl, ?_⟩
        by_cases hab : a = b
        · refine iteC (b := true) (by rw [hab]; simp) ?_
          exact ⟨_, rfl, q' _ _ (same_tup ht3) ⟨a, b, rfl, rfl, by rw [if_pos hab]⟩⟩
        · refine iteC (b := false) (decide_eq_false fun e => hab (kdV_inj.mp e)) ?_
          exact q' _ _ (same_tup ht3) ⟨a, b, rfl, rfl, by rw [if_neg hab]; rfl⟩
  · intro H1 ys s1 e hly2 hPe
    have e2 : ys = (joinL y x).map kdV := by
      apply List.ext_getElem?
      intro i
      rw [List.getElem?_map]
      unfold joinL
      rw [List.getElem?_zipWith]
      cases ez : ys[i]? with
      | none =>
        have hi := List.getElem?_eq_none_iff.mp ez
        rw [List.getElem?_eq_none (by omega : y.length ≤ i)]
        rfl
      | some z =>
        obtain ⟨a, b, ea, eb, rfl⟩ := hPe i z ez
        rw [ea, eb]
        rfl
    rw [e2] at e
    exact q D _ s1 hD e
end
end Eo
set_option linter.all false
set_option maxRecDepth 100000
set_option maxHeartbeats 4000000
/-! E18: the law's map of a tree, what a row does. -/
namespace Eo
open PySem L2
def tagV : Option Str → V
  | none => .non
  | some g => .str g
def putAll (kvs : List (Key × V)) (l : List (List Bool × Option Str)) : List (Key × V) := l.foldl (fun acc e => putK acc (.inr (plStr e.1)) (tagV e.2)) kvs
theorem putAll_app (kvs : List (Key × V)) (a b : List (List Bool × Option Str)) : putAll kvs (a ++ b) = putAll (putAll kvs a) b := List.foldl_append
theorem putK_le (c : List (Key × V)) (k : Key) (x : V) : (putK c k x).length ≤ c.length + 1 := by
  unfold putK
  split <;> simp
theorem putAll_len : ∀ (l : List (List Bool × Option Str)) (kvs : List (Key × V)), (putAll kvs l).length ≤ kvs.length + l.length
  | [], kvs => Nat.le_refl _
  | e :: l, kvs => by
    have h1 := putAll_len l (putK kvs (.inr (plStr e.1)) (tagV e.2))
    have h2 := putK_le kvs (.inr (plStr e.1)) (tagV e.2)
    show (putAll (putK kvs _ _) l).length ≤ _
    rw [List.length_cons]
    omega
theorem putAll_val : ∀ (l : List (List Bool × Option Str)) (kvs : List (Key × V)) (p : List Bool) (o : Option Str), (∀ o', (p, o') ∈ l → o' = o) → ((p, o) ∈ l ∨ valV kvs (.inr (plStr p)) = some (tagV o)) → valV (putAll kvs l) (.inr (plStr p)) = some (tagV o)
  | [], kvs, p, o, _, h => by
    rcases h with h | h
    · cases h
    · exact h
  | e :: l, kvs, p, o, hf, h => by
    refine putAll_val l (putK kvs (.inr (plStr e.1)) (tagV e.2)) p o (fun o' ho => hf o' (List.mem_cons_of_mem _ ho)) ?_
    rw [valV_put]
    by_cases he : p = e.1
    · subst he
      right
      rw [if_pos rfl, hf e.2 (by simp)]
    · rw [if_neg (fun q => he (plStr_inj.mp (Sum.inr.inj q)))]
      rcases h with h | h
      · rcases List.mem_cons.mp h with h | h
        · rw [← h] at he
          exact absurd rfl he
        · exact .inl h
      · exact .inr h
theorem putK_keys {c : List (Key × V)} {k : Key} {x : V} {kv : Key × V} (h : kv ∈ putK c k x) : kv.1 = k ∨ ∃ kv' ∈ c, kv'.1 = kv.1 := by
  unfold putK at h
  split at h
  · obtain ⟨e, he, rfl⟩ := List.mem_map.mp h
    by_cases hk : e.1 = k
    · rw [if_pos hk]; exact .inl hk
    · rw [if_neg hk]; exact .inr ⟨e, he, rfl⟩
  · rcases List.mem_append.mp h with h | h
    · exact .inr ⟨_, h, rfl⟩
    · simp at h
      rw [h]
      exact .inl rfl
theorem putAll_keys : ∀ (l : List (List Bool × Option Str)) (kvs : List (Key × V)) (kv : Key × V), kv ∈ putAll kvs l → (∃ e ∈ l, kv.1 = .inr (plStr e.1)) ∨ ∃ kv' ∈ kvs, kv'.1 = kv.1
  | [], kvs, kv, h => .inr ⟨kv, h, rfl⟩
  | e :: l, kvs, kv, h => by
    rcases putAll_keys l (putK kvs (.inr (plStr e.1)) (tagV e.2)) kv h with ⟨e', he, hk⟩ | ⟨kv', hk, e'⟩
    · exact .inl ⟨e', List.mem_cons_of_mem _ he, hk⟩
    · rcases putK_keys hk with h1 | ⟨kv2, h1, h2⟩
      · exact .inl ⟨e, by simp, by rw [← e', h1]⟩
      · exact .inr ⟨kv2, h1, by rw [h2, e']⟩
def MapAt (H : Hp) (a : Addr) (t : Tr) : Prop := H a = some (.dK (putAll [] (spots t [])))
theorem map_val {t : Tr} {p : List Bool} (h : isPl p t) : valV (putAll [] (spots t [])) (.inr (plStr p)) = some (tagV (sub p t).tag) := by
  refine putAll_val _ _ _ _ (fun o' ho => ?_) (.inl ((spots_mem t [] p _).mpr ⟨p, rfl, h, rfl⟩))
  obtain ⟨s, hs, _, ho⟩ := (spots_mem t [] p o').mp ho
  rw [List.nil_append] at hs
  rw [ho, hs]
theorem map_get {H : Hp} {a : Addr} {t : Tr} {p : List Bool} (m : MapAt H a t) (h : isPl p t) : DGet H a (.str (plStr p)) (some (tagV (sub p t).tag)) := .inl ⟨_, .inr (plStr p), .inl m, rfl, (map_val h).symm⟩
theorem map_keys {t : Tr} {kv : Key × V} (h : kv ∈ putAll [] (spots t [])) : ∃ p, isPl p t ∧ kv.1 = .inr (plStr p) := by
  rcases putAll_keys _ _ _ h with ⟨e, he, hk⟩ | ⟨_, h, _⟩
  · obtain ⟨s, hs, hp, _⟩ := (spots_mem t [] e.1 e.2).mp he
    rw [List.nil_append] at hs
    exact ⟨e.1, by rw [hs]; exact hp, hk⟩
  · cases h
def spSpots (K : PySem.W.Frag) (n : Nat) : Sp := fun vs H Q _ => ∃ (vt : V) (t : Tr) (p : List Bool) (fp : Addr) (kvs : List (Key × V)), vs = [vt, .str (plStr p), .ref fp] ∧ t.size < n ∧ Rp K H vt t.dt ∧ H fp = some (.dK kvs) ∧ kvs.length + (2 * t.size + 1) ≤ 1000 ∧ p.length + t.size ≤ 1000 ∧
  ∀ H', Kp (fun a => a = fp) H H' → Tk H H' → H' fp = some (.dK (putAll kvs (spots t p))) → Q .non H'
def spMap (K : PySem.W.Frag) : Sp := fun vs H Q _ => ∃ (vt : V) (t : Tr), vs = [vt] ∧ t.size < 20 ∧ Rp K H vt t.dt ∧ ∀ p H', Same H H' → H p = none → MapAt H' p t → Q (.ref p) H'
section
variable {P : Program} {w : World} {K : PySem.W.Frag} {mg : Str → Option Value} {base : Heap} {Z : Wh}
theorem spots_at (T : Tx w K mg Z) : ∀ n, FnOk P w K mg base CX0 (n + 1) (Z.A 43) (Z.D 43) ["_law_tree_here", "_law_place", "_law_found"] (spSpots K n)
  | 0 => by
    refine T.law_spots.F.ok sc_law_spots (fun vs H Q E h => ?_) (fun cdv A outer s H vs Q E hr h => ?_)
    · obtain ⟨vt, t, p, fp, kvs, rfl, h0, _⟩ := h
      exact absurd h0 (Nat.not_lt_zero _)
    · obtain ⟨vt, t, p, fp, kvs, rfl, h0, _⟩ := h
      exact absurd h0 (Nat.not_lt_zero _)
  | n + 1 => by
    have ih := spots_at T n
    refine T.law_spots.F.ok sc_law_spots (fun vs H Q E h => ?_) (fun cdv A outer s H vs Q E hr h => ?_)
    · obtain ⟨vt, t, p, fp, kvs, rfl, h0, ht, hk, hl, hp, q⟩ := h
      rfl
    have hu := hu_of hr
    have hu0 := Nat.lt_of_succ_lt hu
    obtain ⟨vt, t, p, fp, kvs, rfl, h0, ht, hk, hl, hp, q⟩ := h
    refine ⟨_, (pss_cons (ps_if (pt_cmpR op_isN (pv 0) pe_non (nomark _)) (pss_cons (ps_dput hu (pv 2) (pv 1) pe_non rfl) (pss_one ps_retN)) pss_nil) (pss_cons (ps_dput hu (pv 2) (pv 1) (pe_ix ix_tup (pv 0) pe_int (fun _ _ => rfl)) rfl) (pss_cons (ps_expr (pe_call ih (hr.mono (by omega)) rfl T.law_spots.m T.law_spots.F.kp T.law_spots.b .nil pass0 (pa_cons (pe_ix ix_tup (pv 0) pe_int (fun _ _ => rfl)) (pa_cons (pe_op op_add_str (pv 1) pe_str) (pa_cons (pv 2) pa_nil))))) (pss_one (ps_expr (pe_call ih (hr.mono (by omega)) rfl T.law_spots.m T.law_spots.F.kp T.law_spots.b .nil pass0 (pa_cons (pe_ix ix_tup (pv 0) pe_int (fun _ _ => rfl)) (pa_cons (pe_op op_add_str (pv 1) pe_str) (pa_cons (pv 2) pa_nil))))))))), ?_⟩
    have kz : kvs.length < sizeLine := Nat.lt_of_le_of_lt (by omega : kvs.length ≤ 1000) (by decide)
    cases t with
    | nil =>
      obtain rfl := ht.non_inv
      refine ⟨_, rfl, rfl, _, rfl, ?_⟩
      refine iteC (b := true) (by simp) ?_
      refine ⟨_, rfl, _, rfl, _, _, rfl, .inl ⟨kvs, .inr (plStr p), hk, rfl, kz, rfl⟩, ?_⟩
      exact q _ ((Kp.refl _ _).upd (.inl rfl)) (tk_dK hk) upd_same
    | node g l r =>
      obtain ⟨a, xs, rfl, ea, rx⟩ := ht.tup_inv
      cases rx with
      | cons q1 rx => cases rx with
        | cons q2 rx => cases rx with
          | cons q3 rx =>
            cases rx
            obtain rfl := q1.str_inv
            have hz : l.size < n ∧ r.size < n ∧ 2 * l.size + 1 + (2 * r.size + 1) + 1 = 2 * (Tr.node g l r).size + 1 ∧ l.size + 1 ≤ (Tr.node g l r).size ∧ r.size + 1 ≤ (Tr.node g l r).size := by
              simp only [Tr.size] at h0 ⊢
              omega
            refine ⟨_, rfl, rfl, _, rfl, ?_⟩
            refine iteC (b := false) (by simp) ?_
            refine ⟨_, rfl, _, _, _, _, rfl, rfl, ea, at0, _, rfl, _, rfl, _, _, rfl, .inl ⟨kvs, .inr (plStr p), hk, rfl, kz, rfl⟩, ?_⟩
            have k1 : Kp (fun a => a = fp) H (upd H fp (.dK (putK kvs (.inr (plStr p)) (.str g)))) := (Kp.refl _ _).upd (.inl rfl)
            have tk1 : Tk H (upd H fp (.dK (putK kvs (.inr (plStr p)) (.str g)))) := tk_dK hk
            have e1 : (upd H fp (.dK (putK kvs (.inr (plStr p)) (.str g)))) fp = some (.dK (putK kvs (.inr (plStr p)) (.str g))) := upd_same
            have z1 := putK_le kvs (.inr (plStr p)) (.str g)
            generalize hH1 : upd H fp (.dK (putK kvs (.inr (plStr p)) (.str g))) = H1 at k1 tk1 e1
            have pz : ∀ b : Bool, (plStr p).length + 1 ≤ sizeLine := fun _ => by
              rw [plStr_len]
              exact Nat.le_trans (by omega : p.length + 1 ≤ 1001) (by decide)
            refine ⟨_, rfl, _, _, _, _, rfl, rfl, tk1.sq ea, atI_nat (j := 1) rfl, _, rfl, _, _, rfl, rfl, pz false, _, rfl, ?_⟩
            refine ⟨_, l, p ++ [false], fp, _, by rw [plStr_snoc]; rfl, hz.1, q2.tk tk1, e1, by omega, by simp; omega, fun H2 k2 tk2 e2 => ?_⟩
            refine ⟨_, rfl, _, _, _, _, rfl, rfl, (tk1.trans tk2).sq ea, atI_nat (j := 2) rfl, _, rfl, _, _, rfl, rfl, pz false, _, rfl, ?_⟩
            have z2 := putAll_len (spots l (p ++ [false])) (putK kvs (.inr (plStr p)) (.str g))
            rw [spots_len] at z2
            refine ⟨_, r, p ++ [true], fp, _, by rw [plStr_snoc]; rfl, hz.2.1, (q3.tk tk1).tk tk2, e2, by omega, by simp; omega, fun H3 k3 tk3 e3 => ?_⟩
            refine q _ ((k1.trans k2).trans k3) ((tk1.trans tk2).trans tk3) ?_
            rw [e3, ← putAll_app]
            rfl
theorem ok_law_map (T : Tx w K mg Z) : FnOk P w K mg base CX0 40 (Z.A 44) (Z.D 44) ["_law_tree_here"] (spMap K) := by
  refine T.law_map.F.ok sc_law_map (fun vs H Q E h => ?_) (fun cdv A outer s H vs Q E hr h => ?_)
  · obtain ⟨vt, t, rfl, h0, ht, q⟩ := h
    rfl
  have hu := hu_of hr
  have hu0 := Nat.lt_of_succ_lt hu
  obtain ⟨vt, t, rfl, h0, ht, q⟩ := h
  have ih := spots_at (P := P) (base := base) T 38
  refine ⟨_, (pss_cons (ps_set (i := 1) sc_law_map.nd rfl (by first | exact Or.inl rfl | exact Or.inr rfl) pe_dnewK) (pss_cons (ps_expr (pe_call ih (hr.mono (by decide)) rfl T.law_spots.m T.law_spots.F.kp T.law_spots.b .nil pass0 (pa_cons (pv 0) (pa_cons pe_str (pa_cons (pv 1) pa_nil))))) (pss_one (ps_ret (pv 1))))), ?_⟩
  refine ?_
  intro p hp
  have s1 := same_new (o := .dK []) hp
  refine ⟨_, rfl, _, rfl, vt, t, [], p, [], rfl, by omega, ht.same s1, upd_same, by simp; omega, by simp; omega, fun H' k tk e => ?_⟩
  refine ⟨_, rfl, q p H' (fun b o h => k b o (s1 _ _ h) (ne_of_none h hp)) hp e⟩
end
end Eo
set_option linter.all false
set_option maxRecDepth 100000
set_option maxHeartbeats 4000000
/-! E19: what a row does, by the law. -/
namespace Eo
open PySem L2
def spDone (K : PySem.W.Frag) : Sp := fun vs H Q _ => ∃ (mp pa : Addr) (v : V) (t : Tr) (r : Row) (rs : Regs), vs = [.ref mp, v, .ref pa] ∧ MapAt H mp t ∧ t.size ≤ 1000 ∧ Rp K H v r.dt ∧ H pa = some (.lst (r.reads.map fun i => (getR rs i).v)) ∧ Rd t rs r ∧ Plain r ∧
  ∀ H', Same H H' → Q (rowVal t rs r).v H'
def three : List (Key × V) := [(.inr "top", .str ""), (.inr "yes", .bl true), (.inr "no", .bl false)]
theorem three_m : mergeK [] three = three := mergeK_new three [] (by show ([.inr "top", .inr "yes", .inr "no"] : List Key).Nodup; decide +kernel) fun _ _ => rfl
theorem three_top : valV three (.inr "top") = some (.str "") := valV_pos rfl
theorem three_yes : valV three (.inr "yes") = some (.bl true) := (valV_neg (show ¬ (Sum.inr "top" : Key) = (Sum.inr "yes" : Key) from by decide +kernel)).trans (valV_pos rfl)
theorem three_no : valV three (.inr "no") = some (.bl false) := (valV_neg (show ¬ (Sum.inr "top" : Key) = (Sum.inr "no" : Key) from by decide +kernel)).trans ((valV_neg (show ¬ (Sum.inr "yes" : Key) = (Sum.inr "no" : Key) from by decide +kernel)).trans (valV_pos rfl))
theorem tag_non (t : Tr) : decide (tagV t.tag = V.non) = t.isNil := by cases t <;> simp [Tr.tag, tagV, Tr.isNil]
section
variable {P : Program} {w : World} {K : PySem.W.Frag} {mg : Str → Option Value} {base : Heap} {Z : Wh}
theorem ok_law_done (T : Tx w K mg Z) : FnOk P w K mg base CX0 1 (Z.A 45) (Z.D 45) ["_law_spots_here", "_law_row", "_law_parts"] (spDone K) := by
  refine T.law_done.F.ok sc_law_done (fun vs H Q E h => ?_) (fun cdv A outer s H vs Q E hr h => ?_)
  · obtain ⟨mp, pa, v, t, r, rs, rfl, hm, hts, hv, hpa, hrd, ⟨⟨d0, hd0⟩, hnc⟩, q⟩ := h
    rfl
  have hu := hu_of hr
  have hu0 := Nat.lt_of_succ_lt hu
  obtain ⟨mp, pa, v, t, r, rs, rfl, hm, hts, hv, hpa, hrd, ⟨⟨d0, hd0⟩, hnc⟩, q⟩ := h
  obtain ⟨a, xs, rfl, ea, rx⟩ := row_rp hv
  refine ⟨_, (pss_cons (ps_set (i := 3) sc_law_done.nd rfl (by first | exact Or.inl rfl | exact Or.inr rfl) (pe_ix ix_tup (pv 1) pe_int (fun _ _ => rfl))) (pss_cons (ps_if (pt_cmpR op_in_seq (pv 3) (pe_tup (pa_cons pe_str (pa_cons pe_str (pa_cons pe_str pa_nil)))) rfl) (pss_one (ps_ret (pe_dget hu (pe_disp (pps_cons pe_str pe_str (pps_cons pe_str pe_bl (pps_cons pe_str pe_bl pps_nil))) (by rfl) (by rfl) (fun z => by cases z) (by decide)) (pv 3) (fun _ _ => rfl)))) pss_nil) (pss_cons (ps_if (pt_cmpR op_eq (pv 3) pe_str (nomark _)) (pss_one (ps_ret (pe_ix ix_list (pv 2) pe_int (fun _ _ => rfl)))) pss_nil) (pss_cons (ps_if (pt_cmpR op_in_seq (pv 3) (pe_tup (pa_cons pe_str (pa_cons pe_str pa_nil))) rfl) (pss_one (ps_ret (pe_ifExp (pt_cmpR op_isN (pe_dget hu (pv 0) (pe_ix ix_list (pv 2) pe_int (fun _ _ => rfl)) (fun _ _ => rfl)) pe_non (nomark _)) (pe_ix ix_list (pv 2) pe_int (fun _ _ => rfl)) (pe_op op_add_str (pe_ix ix_list (pv 2) pe_int (fun _ _ => rfl)) (pe_ix ix_str (pv 3) pe_int (fun _ _ => rfl)))))) pss_nil) (pss_cons (ps_if (pt_cmpR op_eq (pv 3) pe_str (nomark _)) (pss_one (ps_ret (pe_slice sl_str (pe_ix ix_list (pv 2) pe_int (fun _ _ => rfl)) po_none (po_some (pe_un un_neg pe_int))))) pss_nil) (pss_cons (ps_if (pt_cmpR op_eq (pv 3) pe_str (nomark _)) (pss_one (ps_ret (pe_cmpR op_eq (pe_dget hu (pv 0) (pe_ix ix_list (pv 2) pe_int (fun _ _ => rfl)) (fun _ _ => rfl)) (pe_ix ix_tup (pv 1) pe_int (fun _ _ => rfl)) (nomark _)))) pss_nil) (pss_cons (ps_if (pt_cmpR op_eq (pv 3) pe_str (nomark _)) (pss_one (ps_ret (pe_cmpR op_isN (pe_dget hu (pv 0) (pe_ix ix_list (pv 2) pe_int (fun _ _ => rfl)) (fun _ _ => rfl)) pe_non (nomark _)))) pss_nil) (pss_one (ps_ret (pe_ifExp (pt_cmpR op_eq (pv 3) pe_str (nomark _)) (pe_cmpR op_eq (pe_ix ix_list (pv 2) pe_int (fun _ _ => rfl)) (pe_ix ix_list (pv 2) pe_int (fun _ _ => rfl)) (nomark _)) (pe_not (pe_ix ix_list (pv 2) pe_int (fun _ _ => rfl))))))))))))), ?_⟩
  refine ⟨_, rfl, _, _, _, _, rfl, rfl, ea, at0, ?_⟩
  refine ⟨_, rfl, (by show 3 ≤ sizeLine; decide), fun t1 ht1 => ⟨_, _, rfl, .inr sqT_new, rfl, rfl, _, rfl, ?_⟩⟩
  have s1 : Same H (upd H t1 (.tup [.str "top", .str "yes", .str "no"])) := same_tup ht1
  have ea1 := (Same.tk s1).sq ea
  cases r with
  | call d f as => exact absurd rfl (hnc d f as)
  | skip k => cases hd0
  | unl s k => cases hd0
  | give s => cases hd0
  | top d =>
    dsimp only [Row.word]
    refine iteC (b := true) (by decide +kernel) ?_
    intro p hp
    refine ⟨upd_same, three, rfl, by decide, ?_⟩
    rw [three_m]
    exact ⟨_, rfl, _, _, rfl, .inl ⟨_, .inr "top", .inl upd_same, rfl, three_top.symm⟩, q _ (same_at (same_at s1 (s1.free hp)) (s1.free hp))⟩
  | yes d =>
    dsimp only [Row.word]
    refine iteC (b := true) (by decide +kernel) ?_
    intro p hp
    refine ⟨upd_same, three, rfl, by decide, ?_⟩
    rw [three_m]
    exact ⟨_, rfl, _, _, rfl, .inl ⟨_, .inr "yes", .inl upd_same, rfl, three_yes.symm⟩, q _ (same_at (same_at s1 (s1.free hp)) (s1.free hp))⟩
  | no d =>
    dsimp only [Row.word]
    refine iteC (b := true) (by decide +kernel) ?_
    intro p hp
    refine ⟨upd_same, three, rfl, by decide, ?_⟩
    rw [three_m]
    exact ⟨_, rfl, _, _, rfl, .inl ⟨_, .inr "no", .inl upd_same, rfl, three_no.symm⟩, q _ (same_at (same_at s1 (s1.free hp)) (s1.free hp))⟩
  | move d s =>
    dsimp only [Row.word]
    refine iteC (b := false) (by decide +kernel) ?_
    refine ⟨_, rfl, rfl, _, rfl, ?_⟩
    refine iteC (b := true) (by decide +kernel) ?_
    exact ⟨_, rfl, _, _, _, _, rfl, rfl, SqL.of (s1 _ _ hpa), at0, q _ s1⟩
  | left d s =>
    dsimp only [Row.word]
    refine iteC (b := false) (by decide +kernel) ?_
    refine ⟨_, rfl, rfl, _, rfl, ?_⟩
    refine iteC (b := false) (by decide +kernel) ?_
    refine ⟨_, rfl, (by show 2 ≤ sizeLine; decide), fun t2 ht2 => ⟨_, _, rfl, .inr sqT_new, rfl, rfl, _, rfl, ?_⟩⟩
    have s2 := s1.trans (same_tup (xs := [V.str "left", V.str "right"]) ht2)
    refine iteC (b := true) (by decide +kernel) ?_
    obtain ⟨p, hp1, hp2⟩ := hrd.pl (i := s) (by simp [Row.reads]) rfl
    have hpa2 : (upd (upd H t1 (.tup [.str "top", .str "yes", .str "no"])) t2 (.tup [V.str "left", V.str "right"])) pa = some (.lst [.str (plStr p)]) := by
      have := s2 _ _ hpa
      rw [this]
      show some (HO.lst [(getR rs s).v]) = _
      rw [getR_of hp1]
      rfl
    have hm2 : MapAt (upd (upd H t1 (.tup [.str "top", .str "yes", .str "no"])) t2 (.tup [V.str "left", V.str "right"])) mp t := s2 _ _ hm
    have ev : (rowVal t rs (.left d s)).v = .str (plStr (led t false p)) := by
      show V.str (plStr (led t false (getR rs s).path)) = _
      rw [getR_of hp1]
      rfl
    rw [ev] at q
    refine ⟨_, rfl, _, rfl, _, _, _, _, rfl, rfl, SqL.of hpa2, at0, _, _, rfl, map_get hm2 hp2, rfl, _, rfl, ?_⟩
    refine iteC (tag_non _) ?_
    unfold led at q
    cases hn : (sub p t).isNil with
    | true =>
      rw [hn] at q
      exact ⟨_, rfl, _, _, _, _, rfl, rfl, SqL.of hpa2, at0, q _ s2⟩
    | false =>
      rw [hn] at q
      refine ⟨_, rfl, _, _, _, _, rfl, rfl, SqL.of hpa2, at0, _, rfl, _, _, 108, rfl, rfl, by decide, rfl, _, _, rfl, rfl, ?_, ?_⟩
      · rw [plStr_len]
        exact Nat.le_trans (Nat.add_le_add (Nat.le_trans (isPl_len p t hp2) (Nat.le_trans t.hgt_le hts)) (Nat.le_refl 1)) (by decide)
      · have := q _ s2
        rw [if_neg (by simp), plStr_snoc] at this
        exact this
  | right d s =>
    dsimp only [Row.word]
    refine iteC (b := false) (by decide +kernel) ?_
    refine ⟨_, rfl, rfl, _, rfl, ?_⟩
    refine iteC (b := false) (by decide +kernel) ?_
    refine ⟨_, rfl, (by show 2 ≤ sizeLine; decide), fun t2 ht2 => ⟨_, _, rfl, .inr sqT_new, rfl, rfl, _, rfl, ?_⟩⟩
    have s2 := s1.trans (same_tup (xs := [V.str "left", V.str "right"]) ht2)
    refine iteC (b := true) (by decide +kernel) ?_
    obtain ⟨p, hp1, hp2⟩ := hrd.pl (i := s) (by simp [Row.reads]) rfl
    have hpa2 : (upd (upd H t1 (.tup [.str "top", .str "yes", .str "no"])) t2 (.tup [V.str "left", V.str "right"])) pa = some (.lst [.str (plStr p)]) := by
      have := s2 _ _ hpa
      rw [this]
      show some (HO.lst [(getR rs s).v]) = _
      rw [getR_of hp1]
      rfl
    have hm2 : MapAt (upd (upd H t1 (.tup [.str "top", .str "yes", .str "no"])) t2 (.tup [V.str "left", V.str "right"])) mp t := s2 _ _ hm
    have ev : (rowVal t rs (.right d s)).v = .str (plStr (led t true p)) := by
      show V.str (plStr (led t true (getR rs s).path)) = _
      rw [getR_of hp1]
      rfl
    rw [ev] at q
    refine ⟨_, rfl, _, rfl, _, _, _, _, rfl, rfl, SqL.of hpa2, at0, _, _, rfl, map_get hm2 hp2, rfl, _, rfl, ?_⟩
    refine iteC (tag_non _) ?_
    unfold led at q
    cases hn : (sub p t).isNil with
    | true =>
      rw [hn] at q
      exact ⟨_, rfl, _, _, _, _, rfl, rfl, SqL.of hpa2, at0, q _ s2⟩
    | false =>
      rw [hn] at q
      refine ⟨_, rfl, _, _, _, _, rfl, rfl, SqL.of hpa2, at0, _, rfl, _, _, 114, rfl, rfl, by decide, rfl, _, _, rfl, rfl, ?_, ?_⟩
      · rw [plStr_len]
        exact Nat.le_trans (Nat.add_le_add (Nat.le_trans (isPl_len p t hp2) (Nat.le_trans t.hgt_le hts)) (Nat.le_refl 1)) (by decide)
      · have := q _ s2
        rw [if_neg (by simp), plStr_snoc] at this
        exact this
  | up d s =>
    dsimp only [Row.word]
    refine iteC (b := false) (by decide +kernel) ?_
    refine ⟨_, rfl, rfl, _, rfl, ?_⟩
    refine iteC (b := false) (by decide +kernel) ?_
    refine ⟨_, rfl, (by show 2 ≤ sizeLine; decide), fun t2 ht2 => ⟨_, _, rfl, .inr sqT_new, rfl, rfl, _, rfl, ?_⟩⟩
    have s2 := s1.trans (same_tup (xs := [V.str "left", V.str "right"]) ht2)
    refine iteC (b := false) (by decide +kernel) ?_
    refine ⟨_, rfl, rfl, _, rfl, ?_⟩
    refine iteC (b := true) (by decide +kernel) ?_
    obtain ⟨p, hp1, hp2⟩ := hrd.pl (i := s) (by simp [Row.reads]) rfl
    have ev : (rowVal t rs (.up d s)).v = .str (plStr p.dropLast) := by
      show V.str (plStr (getR rs s).path.dropLast) = _
      rw [getR_of hp1]
      rfl
    rw [ev, ← plStr_drop] at q
    have eg : (getR rs s).v = .str (plStr p) := by rw [getR_of hp1]; rfl
    refine ⟨_, rfl, _, _, _, _, rfl, rfl, SqL.of (s2 _ _ hpa), at0, _, rfl, _, rfl, _, eg, ?_, q _ s2⟩
    rw [plStr_len]
    exact Nat.le_trans (Nat.le_trans (isPl_len p t hp2) (Nat.le_trans t.hgt_le hts)) (by decide)
  | has d s g =>
    dsimp only [Row.word]
    refine iteC (b := false) (by decide +kernel) ?_
    refine ⟨_, rfl, rfl, _, rfl, ?_⟩
    refine iteC (b := false) (by decide +kernel) ?_
    refine ⟨_, rfl, (by show 2 ≤ sizeLine; decide), fun t2 ht2 => ⟨_, _, rfl, .inr sqT_new, rfl, rfl, _, rfl, ?_⟩⟩
    have s2 := s1.trans (same_tup (xs := [V.str "left", V.str "right"]) ht2)
    refine iteC (b := false) (by decide +kernel) ?_
    refine ⟨_, rfl, rfl, _, rfl, ?_⟩
    refine iteC (b := false) (by decide +kernel) ?_
    refine ⟨_, rfl, rfl, _, rfl, ?_⟩
    refine iteC (b := true) (by decide +kernel) ?_
    obtain ⟨p, hp1, hp2⟩ := hrd.pl (i := s) (by simp [Row.reads]) rfl
    have eg : (getR rs s).v = .str (plStr p) := by rw [getR_of hp1]; rfl
    have hm2 : MapAt (upd (upd H t1 (.tup [.str "top", .str "yes", .str "no"])) t2 (.tup [V.str "left", V.str "right"])) mp t := s2 _ _ hm
    have mg : DGet (upd (upd H t1 (.tup [.str "top", .str "yes", .str "no"])) t2 (.tup [V.str "left", V.str "right"])) mp (getR rs s).v (some (tagV (sub p t).tag)) := by
      rw [eg]
      exact map_get hm2 hp2
    cases rx with
    | cons q1 rx => cases rx with
      | cons q2 rx => cases rx with
        | cons q3 rx =>
          obtain rfl := q3.str_inv
          have ev : (rowVal t rs (.has d s g)).v = .bl (decide (tagV (sub p t).tag = .str g)) := by
            show V.bl (decide ((sub (getR rs s).path t).tag = some g)) = _
            rw [getR_of hp1]
            show V.bl (decide ((sub p t).tag = some g)) = _
            congr 1
            cases (sub p t).tag <;> simp [tagV]
          rw [ev] at q
          exact ⟨_, rfl, _, rfl, _, _, _, _, rfl, rfl, SqL.of (s2 _ _ hpa), at0, _, _, rfl, mg, _, rfl, _, _, _, _, rfl, rfl, (Same.tk s2).sq ea, atI_nat (j := 3) rfl, by cases (sub p t).tag <;> rfl, q _ s2⟩
  | empty d s =>
    dsimp only [Row.word]
    refine iteC (b := false) (by decide +kernel) ?_
    refine ⟨_, rfl, rfl, _, rfl, ?_⟩
    refine iteC (b := false) (by decide +kernel) ?_
    refine ⟨_, rfl, (by show 2 ≤ sizeLine; decide), fun t2 ht2 => ⟨_, _, rfl, .inr sqT_new, rfl, rfl, _, rfl, ?_⟩⟩
    have s2 := s1.trans (same_tup (xs := [V.str "left", V.str "right"]) ht2)
    refine iteC (b := false) (by decide +kernel) ?_
    refine ⟨_, rfl, rfl, _, rfl, ?_⟩
    refine iteC (b := false) (by decide +kernel) ?_
    refine ⟨_, rfl, rfl, _, rfl, ?_⟩
    refine iteC (b := false) (by decide +kernel) ?_
    refine ⟨_, rfl, rfl, _, rfl, ?_⟩
    refine iteC (b := true) (by decide +kernel) ?_
    obtain ⟨p, hp1, hp2⟩ := hrd.pl (i := s) (by simp [Row.reads]) rfl
    have eg : (getR rs s).v = .str (plStr p) := by rw [getR_of hp1]; rfl
    have hm2 : MapAt (upd (upd H t1 (.tup [.str "top", .str "yes", .str "no"])) t2 (.tup [V.str "left", V.str "right"])) mp t := s2 _ _ hm
    have mg : DGet (upd (upd H t1 (.tup [.str "top", .str "yes", .str "no"])) t2 (.tup [V.str "left", V.str "right"])) mp (getR rs s).v (some (tagV (sub p t).tag)) := by
      rw [eg]
      exact map_get hm2 hp2
    have ev : (rowVal t rs (.empty d s)).v = .bl (sub p t).isNil := by
      show V.bl (sub (getR rs s).path t).isNil = _
      rw [getR_of hp1]
      rfl
    rw [ev, ← tag_non] at q
    exact ⟨_, rfl, _, rfl, _, _, _, _, rfl, rfl, SqL.of (s2 _ _ hpa), at0, _, _, rfl, mg, rfl, q _ s2⟩
  | same d s u =>
    dsimp only [Row.word]
    refine iteC (b := false) (by decide +kernel) ?_
    refine ⟨_, rfl, rfl, _, rfl, ?_⟩
    refine iteC (b := false) (by decide +kernel) ?_
    refine ⟨_, rfl, (by show 2 ≤ sizeLine; decide), fun t2 ht2 => ⟨_, _, rfl, .inr sqT_new, rfl, rfl, _, rfl, ?_⟩⟩
    have s2 := s1.trans (same_tup (xs := [V.str "left", V.str "right"]) ht2)
    refine iteC (b := false) (by decide +kernel) ?_
    refine ⟨_, rfl, rfl, _, rfl, ?_⟩
    refine iteC (b := false) (by decide +kernel) ?_
    refine ⟨_, rfl, rfl, _, rfl, ?_⟩
    refine iteC (b := false) (by decide +kernel) ?_
    refine ⟨_, rfl, rfl, _, rfl, ?_⟩
    refine iteC (b := false) (by decide +kernel) ?_
    refine ⟨_, rfl, rfl, _, rfl, ?_⟩
    refine iteC (b := true) (by decide +kernel) ?_
    obtain ⟨p, hp1, hp2⟩ := hrd.pl (i := s) (by simp [Row.reads]) rfl
    obtain ⟨p', hp3, hp4⟩ := hrd.pl (i := u) (by simp [Row.reads]) rfl
    have e1 : (getR rs s).v = .str (plStr p) := by rw [getR_of hp1]; rfl
    have e2 : (getR rs u).v = .str (plStr p') := by rw [getR_of hp3]; rfl
    have hpa2 : H pa = some (.lst [.str (plStr p), .str (plStr p')]) := by
      rw [hpa]
      show some (HO.lst [(getR rs s).v, (getR rs u).v]) = _
      rw [e1, e2]
    have ev : (rowVal t rs (.same d s u)).v = .bl (decide (V.str (plStr p) = V.str (plStr p'))) := by
      show V.bl (decide ((getR rs s).path = (getR rs u).path)) = _
      rw [getR_of hp1, getR_of hp3, decV]
      rfl
    rw [ev] at q
    exact ⟨_, rfl, _, _, _, _, rfl, rfl, SqL.of (s2 _ _ hpa2), at0, _, rfl, _, _, _, _, rfl, rfl, SqL.of (s2 _ _ hpa2), atI_nat (j := 1) rfl, rfl, q _ s2⟩
  | not d s =>
    dsimp only [Row.word]
    refine iteC (b := false) (by decide +kernel) ?_
    refine ⟨_, rfl, rfl, _, rfl, ?_⟩
    refine iteC (b := false) (by decide +kernel) ?_
    refine ⟨_, rfl, (by show 2 ≤ sizeLine; decide), fun t2 ht2 => ⟨_, _, rfl, .inr sqT_new, rfl, rfl, _, rfl, ?_⟩⟩
    have s2 := s1.trans (same_tup (xs := [V.str "left", V.str "right"]) ht2)
    refine iteC (b := false) (by decide +kernel) ?_
    refine ⟨_, rfl, rfl, _, rfl, ?_⟩
    refine iteC (b := false) (by decide +kernel) ?_
    refine ⟨_, rfl, rfl, _, rfl, ?_⟩
    refine iteC (b := false) (by decide +kernel) ?_
    refine ⟨_, rfl, rfl, _, rfl, ?_⟩
    refine iteC (b := false) (by decide +kernel) ?_
    refine ⟨_, rfl, rfl, _, rfl, ?_⟩
    refine iteC (b := false) (by decide +kernel) ?_
    obtain ⟨b, hp1⟩ := hrd.tr (i := s) (by simp [Row.reads]) rfl
    have eg : (getR rs s).v = .bl b := by rw [getR_of hp1]; rfl
    have ev : (rowVal t rs (.not d s)).v = .bl (!b) := by
      show V.bl (!(getR rs s).truth) = _
      rw [getR_of hp1]
      rfl
    rw [ev] at q
    exact ⟨_, rfl, _, _, _, _, rfl, rfl, SqL.of (s2 _ _ hpa), at0, b, eg, q _ s2⟩
end
end Eo
set_option linter.all false
set_option maxRecDepth 100000
set_option maxHeartbeats 4000000
/-! R4: list(enumerate(x)) -/
namespace Eo
open PySem PySem.Spec PyProof.Rows L2 PySem.W PySem.Calls
section
variable {prog : Program} {w : World} {A : Around} {E : Value → Shared → Prop} {s : Shared}
theorem enumNext_held {e it T : Addr} {fp : List Addr} {n i : Nat} {P : Nat → Value → Prop} {St : Nat → Heap → Prop} {old : Value} {f : Bool} {oT : Obj} {Q : Value → Shared → Prop}
    (D : Draws prog w A it fp n P St) (he : IsEnumHeld s.heap e it i old T f) (hT : s.heap.get? T = some oT) (hTe : T ≠ e) (hTi : T ≠ it) (hst : St i s.heap) (hlt : i < n) (hne : e ≠ it) (hef : e ∉ fp)
    (hQ : ∀ x h' tk, P i x → IsEnumHeld h' e it ((i : Int) + 1) old T true → St (i + 1) h' → h'.get? s.heap.objs.size = some { cls := .type "tuple", data := .seq #[.int i tk, x] } →
      (∀ b o, b ≠ e → b ≠ it → s.heap.get? b = some o → h'.get? b = some o) → Q (.ref s.heap.objs.size) { s with heap := h', toks := tk + 1 }) :
    wpAny (model prog w) A (Builtin.«enumerate.__next__» ⟨[.ref e], []⟩) (fun fin s' => ∃ v, fin = .done (.ret v) ∧ Q v s') E s := by
  obtain ⟨hp, g, d, tk₀, os⟩ := s
  have hel : e < hp.objs.size := Heap.lt_size he
  show wpAny _ _ (field (.ref e) 2 >>= _) _ _ _
  refine wpAny_bind (wpAny_field he rfl (x := .ref it) rfl (wpAny_bind (D.item i _ _ _ hlt hst fun x ha tk hPx hita hsa => ?_)))
  replace hsa : Heap.SameBut it hp ha := hsa
  have hea : IsEnumHeld ha e it i old T f := (hsa.2 e hne).trans he
  show wpAny _ _ (field (.ref e) 3 >>= _) _ _ ⟨ha, g, d, tk, os⟩
  refine wpAny_bind (wpAny_field hea rfl (x := rawInt i) rfl ?_)
  show wpAny _ _ (field (.ref e) 4 >>= _) _ _ ⟨ha, g, d, tk, os⟩
  refine wpAny_bind (wpAny_field hea rfl (x := .none) rfl ?_)
  show wpAny _ _ (mkInt i >>= _) _ _ ⟨ha, g, d, tk, os⟩
  refine wpAny_bind (wpAny_mkInt ?_)
  show wpAny _ _ (setField (.ref e) 3 (rawInt ((i : Int) + 1)) >>= _) _ _ ⟨ha, g, d, tk + 1, os⟩
  refine wpAny_bind (wpAny_setField_rec hea (by simp) fun hb heb hsb => ?_)
  replace hsb : Heap.SameBut e ha hb := hsb
  replace heb : IsEnumHeld hb e it ((i : Int) + 1) old T f := heb
  show wpAny _ _ (setField (.ref e) 4 .none >>= _) _ _ ⟨hb, g, d, tk + 1, os⟩
  refine wpAny_bind (wpAny_setField_rec heb (by simp) fun hc hec hsc => ?_)
  replace hsc : Heap.SameBut e hb hc := hsc
  replace hec : IsEnumHeld hc e it ((i : Int) + 1) old T f := hec
  show wpAny _ _ (newTuple [.int i tk, x] >>= _) _ _ ⟨hc, g, d, tk + 1, os⟩
  refine wpAny_bind (wpAny_newTuple ?_)
  have hsz : hc.objs.size = hp.objs.size := by rw [hsc.1, hsb.1, hsa.1]
  have hed : IsEnumHeld (hc.push { cls := .type "tuple", data := .seq #[.int i tk, x] }) e it ((i : Int) + 1) old T f := Heap.get?_push_of_some _ hec
  have keep : ∀ b o, b ≠ e → b ≠ it → hp.get? b = some o → (hc.push { cls := .type "tuple", data := .seq #[.int i tk, x] }).get? b = some o := fun b o h1 h2 q =>
    Heap.get?_push_of_some _ (hsc.extBut b o h1 (hsb.extBut b o h1 (hsa.extBut b o h2 q)))
  have htd : (hc.push { cls := .type "tuple", data := .seq #[.int i tk, x] }).get? hp.objs.size = some { cls := .type "tuple", data := .seq #[.int i tk, x] } := by rw [← hsz]; exact Heap.get?_push_size _ rfl
  have std : St (i + 1) (hc.push { cls := .type "tuple", data := .seq #[.int i tk, x] }) := D.frame _ _ _ hita fun b hb' o y => by
    have hbe : b ≠ e := fun q => hef (q ▸ hb')
    exact Heap.get?_push_of_some _ (hsc.extBut b o hbe (hsb.extBut b o hbe y))
  show wpAny _ _ (Builtin.SmallTypes.ownedTupleIsFree (.ref e) >>= _) _ _ ⟨hc.push { cls := .type "tuple", data := .seq #[.int i tk, x] }, g, d, tk + 1, os⟩
  rw [hsz]
  refine wpAny_bind (wpAny_tupleHeld_enum (s := ⟨hc.push { cls := .type "tuple", data := .seq #[.int i tk, x] }, g, d, tk + 1, os⟩) hed (keep T oT hTe hTi hT) fun hf hef' hsf => ?_)
  replace hsf : Heap.SameBut e (hc.push { cls := .type "tuple", data := .seq #[.int i tk, x] }) hf := hsf
  simp only [Bool.false_eq_true, if_false]
  refine wpAny_pure ⟨_, rfl, hQ x hf tk hPx hef' (D.frame _ _ _ std fun b hb' o y => hsf.extBut b o (fun q => hef (q ▸ hb')) y) (hsf.extBut _ _ (Nat.ne_of_gt hel) htd) fun b o h1 h2 q => hsf.extBut b o h1 (keep b o h1 h2 q)⟩
theorem pyNext_held {e it T : Addr} {fp : List Addr} {n i : Nat} {P : Nat → Value → Prop} {St : Nat → Heap → Prop} {old : Value} {f : Bool} {oT : Obj} {Q : Option Value → Shared → Prop}
    (D : Draws prog w A.in1 it fp n P St) (he : IsEnumHeld s.heap e it i old T f) (hT : s.heap.get? T = some oT) (hTe : T ≠ e) (hTi : T ≠ it) (hst : St i s.heap) (hlt : i < n) (hne : e ≠ it) (hef : e ∉ fp)
    (hQ : ∀ x h' tk, P i x → IsEnumHeld h' e it ((i : Int) + 1) old T true → St (i + 1) h' → h'.get? s.heap.objs.size = some { cls := .type "tuple", data := .seq #[.int i tk, x] } →
      (∀ b o, b ≠ e → b ≠ it → s.heap.get? b = some o → h'.get? b = some o) → Q (some (.ref s.heap.objs.size)) { s with heap := h', toks := tk + 1 }) :
    wpAny (model prog w) A (pyNext (.ref e)) Q E s := by
  unfold pyNext
  exact wpAny_bind (wpAny_attempt (wpAny_callSpecial?_slot (name := Str.ofString "__next__") ⟨_, he, rfl⟩ F.slot_enumerate_next
    (wpAny_call_entry F.slot_enumerate_next ⟨_, he, rfl⟩ F.entry_enumerate_next (enumNext_held D he hT hTe hTi hst hlt hne hef fun x h' tk a b c d k => wpAny_pure (hQ x h' tk a b c d k)) (F.args_enumerate_next_1 _))))
theorem pyNext_heldEnd {e it T : Addr} {fp : List Addr} {n : Nat} {P : Nat → Value → Prop} {St : Nat → Heap → Prop} {i : Int} {old : Value} {f : Bool} {Q : Option Value → Shared → Prop}
    (D : Draws prog w A.in1 it fp n P St) (he : IsEnumHeld s.heap e it i old T f) (hst : St n s.heap) (hQ : ∀ h', Heap.ExtBut it s.heap h' → Q none { s with heap := h' }) : wpAny (model prog w) A (pyNext (.ref e)) Q E s := by
  unfold pyNext
  refine wpAny_bind (wpAny_attempt (wpAny_callSpecial?_slot (name := Str.ofString "__next__") ⟨_, he, rfl⟩ F.slot_enumerate_next (wpAny_call_entry F.slot_enumerate_next ⟨_, he, rfl⟩ F.entry_enumerate_next ?_ (F.args_enumerate_next_1 _))))
  show wpAny _ _ (field (.ref e) 2 >>= _) _ _ _
  refine wpAny_bind (wpAny_field he rfl (x := .ref it) rfl (wpAny_bind (D.done _ _ _ hst fun h' x he' hx' => ?_)))
  obtain ⟨o, ho, hc⟩ := hx'
  exact wpAny_bind (wpAny_isInstance (T := "StopIteration") (b := true) ⟨o, ho, hc⟩ isSubtype_stop (wpAny_pure (hQ _ he')))
end
/-- the enumerate object between two turns -/
def EnSt (h : Heap) (e it S : Addr) (i : Nat) : Prop := (∃ old, IsEnum h e it (i : Int) old) ∨ ∃ old T f oT, IsEnumHeld h e it (i : Int) old T f ∧ h.get? T = some oT ∧ T ≠ e ∧ T ≠ it ∧ T ≠ S
structure EnG (P : Nat → Value → Prop) (lo : Addr) (h : Heap) (as : List Addr) : Prop where
  rise : as.Pairwise (· < ·)
  above : ∀ a ∈ as, lo < a
  pairs : ∀ (j : Nat) (a : Addr), as[j]? = some a → ∃ t x, P j x ∧ h.get? a = some { cls := .type "tuple", data := .seq #[.int (j : Int) t, x] }
theorem EnG.there {P : Nat → Value → Prop} {lo : Addr} {h : Heap} {as : List Addr} (g : EnG P lo h as) {a : Addr} (ha : a ∈ as) : a < h.objs.size := by
  obtain ⟨j, hj⟩ := List.mem_iff_getElem?.mp ha
  obtain ⟨_, _, _, e⟩ := g.pairs j a hj
  exact Heap.lt_size e
section
variable {prog : Program} {w : World} {A : Around} {s : Shared} {R : Result → Shared → Prop}
theorem en_loop {S e it : Addr} {fp : List Addr} {n : Nat} {P : Nat → Value → Prop} {St : Nat → Heap → Prop} (D : Draws prog w A.in1.in1 it fp n P St) (heS : e < S) (hiS : it < S) (hne : e ≠ it) (hef : e ∉ fp) (hSf : S ∉ fp) (hn : n ≤ sizeLine) (res : Value) {hz : Heap}
    (hR : ∀ h' tk acc c as, (∀ b o, b ≠ S → b ≠ e → b ≠ it → hz.get? b = some o → h'.get? b = some o) → h'.get? S = some { cls := .type "list", dict := none, data := .seq acc c, slots := #[] } → as.length = n → EnG P S h' as →
      acc.toList = as.map Value.ref → R (.ok (.ret res)) { s with heap := h', toks := tk }) :
    ∀ (k i : Nat) (h : Heap) (tk c : Nat) (acc : Array Value) (as : List Addr), n - i = k → i ≤ n → EnSt h e it S i → St i h → (∀ b o, b ≠ S → b ≠ e → b ≠ it → hz.get? b = some o → h.get? b = some o) →
      h.get? S = some { cls := .type "list", dict := none, data := .seq acc c, slots := #[] } → acc.toList = as.map Value.ref → as.length = i → EnG P S h as →
      codeAny (model prog w) A (.builtin "list.extend.loop" ⟨[.ref S, .ref e, res], []⟩) R { s with heap := h, toks := tk } := by
  have hSe : S ≠ e := Nat.ne_of_gt heS
  have hSi : S ≠ it := Nat.ne_of_gt hiS
  intro k
  induction k with
  | zero =>
    intro i h tk c acc as hk hi hst hD hkeep hS hacc hal hG
    obtain rfl : i = n := by omega
    refine codeAny_builtin PySem.F.entry_extend_loop ?_
    rw [Around.under_plainId PySem.F.plain_extend_loop _]
    show wpAny _ A.in1 (pyNext (.ref e) >>= _) _ _ _
    have fin : ∀ h', Heap.ExtBut it h h' → R (.ok (.ret res)) { s with heap := h', toks := tk } := fun h' he => by
      refine hR h' tk acc c as (fun b o h1 h2 h3 q => he b o h3 (hkeep b o h1 h2 h3 q)) (he S _ hSi hS) hal ⟨hG.rise, hG.above, fun j a hj => ?_⟩ hacc
      obtain ⟨t, x, hp, e3⟩ := hG.pairs j a hj
      exact ⟨t, x, hp, he a _ (Nat.ne_of_gt (Nat.lt_trans hiS (hG.above a (List.mem_of_getElem? hj)))) e3⟩
    rcases hst with ⟨old, he⟩ | ⟨old, T, f, oT, he, hT, _⟩
    · exact wpAny_bind (wpAny_pyNext_enum_endD (s := { s with heap := h, toks := tk }) D he hD fun h' x => wpAny_pure (fin h' x))
    · exact wpAny_bind (pyNext_heldEnd (s := { s with heap := h, toks := tk }) D he hD fun h' x => wpAny_pure (fin h' x))
  | succ k ih =>
    intro i h tk c acc as hk hi hst hD hkeep hS hacc hal hG
    have hlt : i < n := by omega
    have hsz : acc.size = i := by rw [← Array.length_toList, hacc, List.length_map, hal]
    have hSl : S < h.objs.size := Heap.lt_size hS
    refine codeAny_builtin PySem.F.entry_extend_loop ?_
    rw [Around.under_plainId PySem.F.plain_extend_loop _]
    show wpAny _ A.in1 (pyNext (.ref e) >>= _) _ _ _
    have fin : ∀ (x : Value) (h' : Heap) (tk2 : Nat), P i x → (∃ old T f oT, IsEnumHeld h' e it ((i : Int) + 1) old T f ∧ h'.get? T = some oT ∧ T ≠ e ∧ T ≠ it ∧ T ≠ S) → St (i + 1) h' → h'.get? h.objs.size = some { cls := .type "tuple", data := .seq #[.int i tk2, x] } →
        (∀ b o, b ≠ e → b ≠ it → h.get? b = some o → h'.get? b = some o) →
        wpAny (model prog w) A.in1 (updateSeq S (·.push (Value.ref h.objs.size)) >>= fun _ => again (.builtin "list.extend.loop" ⟨[.ref S, .ref e, res], []⟩))
          (fun fin s' => match fin with | .done f => R (.ok f) s' | .again c' => c'.quiet = true ∧ codeAny (model prog w) A c' R s') (fun e s' => R (.error e) s') { s with heap := h', toks := tk2 + 1 } := by
      rintro x h' tk2 hp ⟨old, T, f, oT, he', hT', t1, t2, t3⟩ st' ht hkp
      have hS' := hkp S _ hSe hSi hS
      have up : ∀ b o, b ≠ S → h'.get? b = some o → (h'.update S (Obj.mapSeq (·.push (Value.ref h.objs.size)))).get? b = some o := fun b o hb q => (Heap.get?_update_other _ _ (Ne.symm hb)).trans q
      refine wpAny_bind (wpAny_updateSeq (s := { s with heap := h', toks := tk2 + 1 }) hS' rfl (wpAny_pure ⟨plainId_quiet PySem.F.plain_extend_loop _, ih (i + 1) _ (tk2 + 1) _ (acc.push (Value.ref h.objs.size)) (as ++ [h.objs.size]) (by omega) hlt ?_ ?_ ?_
        (Heap.get?_update_self _ hS' rfl) (by rw [Array.toList_push, hacc, List.map_append]; rfl) (by rw [List.length_append, hal]; rfl) ⟨?_, ?_, ?_⟩⟩) (by rw [hsz]; omega) (by show (acc.push (Value.ref h.objs.size)).size ≤ sizeLine + 1; rw [Array.size_push, hsz]; omega))
      · exact .inr ⟨old, T, f, oT, up e _ (Ne.symm hSe) he', up T _ t3 hT', t1, t2, t3⟩
      · exact D.frame _ _ _ st' fun b hb o q => up b o (fun z => hSf (z ▸ hb)) q
      · exact fun b o h1 h2 h3 q => up b o h1 (hkp b o h2 h3 (hkeep b o h1 h2 h3 q))
      · refine List.pairwise_append.mpr ⟨hG.rise, List.pairwise_singleton _ _, fun a ha b hb => ?_⟩
        rw [List.mem_singleton.mp hb]
        exact hG.there ha
      · intro a ha
        rcases List.mem_append.mp ha with ha | ha
        · exact hG.above a ha
        · rw [List.mem_singleton.mp ha]; exact hSl
      · intro j b hj
        rcases Nat.lt_trichotomy j as.length with h1 | h1 | h1
        · rw [List.getElem?_append_left h1] at hj
          obtain ⟨t, y, hy, e3⟩ := hG.pairs j b hj
          have hb := hG.above b (List.mem_of_getElem? hj)
          exact ⟨t, y, hy, up b _ (Nat.ne_of_gt hb) (hkp b _ (Nat.ne_of_gt (Nat.lt_trans heS hb)) (Nat.ne_of_gt (Nat.lt_trans hiS hb)) e3)⟩
        · subst h1
          obtain rfl : h.objs.size = b := by simpa using hj
          refine ⟨tk2, x, by rw [hal]; exact hp, ?_⟩
          rw [hal]
          exact up _ _ (Nat.ne_of_gt hSl) ht
        · rw [List.getElem?_eq_none (by rw [List.length_append, List.length_singleton]; omega)] at hj
          cases hj
    rcases hst with ⟨old, he⟩ | ⟨old, T, f, oT, he, hT, t1, t2, t3⟩
    · refine wpAny_bind (wpAny_pyNext_enum_itemD (s := { s with heap := h, toks := tk }) D he hD hlt hne hef fun x h' tk2 hp ho st' ht _ hkp => ?_)
      exact fin x h' tk2 hp ⟨_, _, false, _, ho, ht, Nat.ne_of_gt (Heap.lt_size he), Nat.ne_of_gt (Nat.lt_trans hiS hSl), Nat.ne_of_gt hSl⟩ st' ht hkp
    · refine wpAny_bind (pyNext_held (s := { s with heap := h, toks := tk }) D he hT t1 t2 hD hlt hne hef fun x h' tk2 hp ho st' ht hkp => ?_)
      exact fin x h' tk2 hp ⟨_, T, true, oT, ho, hkp T oT t1 t2 hT, t1, t2, t3⟩ st' ht hkp
end
theorem en_no_len : typeLookup (.type "enumerate") "__len__" = pure none := by rw [typeLookup_type, builtinLookup_eq_fast]; kernel_rfl
theorem en_no_hint : typeLookup (.type "enumerate") "__length_hint__" = pure none := by rw [typeLookup_type, builtinLookup_eq_fast]; kernel_rfl
section
variable {prog : Program} {w : World} {A : Around} {E : Value → Shared → Prop} {s : Shared}
theorem en_extend {S e it : Addr} {fp : List Addr} {n : Nat} {P : Nat → Value → Prop} {St : Nat → Heap → Prop} {R : Result → Shared → Prop} {old : Value} {c₀ : Nat} (D : Draws prog w A.in1.in1 it fp n P St) (heS : e < S) (hiS : it < S) (hne : e ≠ it) (hef : e ∉ fp) (hSf : S ∉ fp) (hn : n ≤ sizeLine) (res : Value)
    (he : IsEnum s.heap e it 0 old) (hst : St 0 s.heap) (hS : s.heap.get? S = some { cls := .type "list", data := .seq #[] c₀ })
    (hR : ∀ h' tk acc c as, (∀ b o, b ≠ S → b ≠ e → b ≠ it → s.heap.get? b = some o → h'.get? b = some o) → h'.get? S = some { cls := .type "list", dict := none, data := .seq acc c, slots := #[] } → as.length = n → EnG P S h' as →
      acc.toList = as.map Value.ref → R (.ok (.ret res)) { s with heap := h', toks := tk }) :
    wpAny (model prog w) A.in1 (Builtin.List.listExtendWith (.ref S) (.ref e) res)
      (fun fin s' => match fin with | .done f => R (.ok f) s' | .again c' => c'.quiet = true ∧ codeAny (model prog w) A c' R s') (fun e s' => R (.error e) s') s := by
  have hSe : S ≠ e := Nat.ne_of_gt heS
  have hSi : S ≠ it := Nat.ne_of_gt hiS
  have hTy : s.TypeIs (.ref e) "enumerate" := ⟨_, he, rfl⟩
  unfold Builtin.List.listExtendWith
  refine wpAny_bind (wpAny_typeOf (T := "enumerate") hTy ?_)
  have h1 : Builtin.List.listSameRef (.ref S) (.ref e) = false := by simp [Builtin.List.listSameRef, hSe]
  have h2 : (Value.type "enumerate" == Value.type "list") = false := by decide
  have h3 : (Value.type "enumerate" == Value.type "tuple") = false := by decide
  simp only [h1, h2, h3, Bool.or_false, Bool.false_eq_true, if_false]
  refine wpAny_bind (wpAny_pyIter_enum he (wpAny_bind (wpAny_holding ?_)))
  unfold Builtin.List.listLengthHint
  refine wpAny_bind (wpAny_specialOf hTy en_no_len ?_)
  show wpAny _ A.in1 (specialOf (Value.ref e) (Str.ofString "__length_hint__") >>= _) _ _ _
  refine wpAny_bind (wpAny_specialOf hTy en_no_hint (wpAny_pure ?_))
  show wpAny _ A.in1 (rule "list.extend.makes-room" >>= fun _ => Builtin.List.listTouch (.ref S) >>= fun _ => again (.builtin "list.extend.loop" ⟨[.ref S, .ref e, res], []⟩)) _ _ _
  refine wpAny_bind (wpAny_rule (wpAny_bind ?_))
  show wpAny _ A.in1 (updateSeq S (·.push .none) >>= fun _ => updateSeq S (·.pop)) _ _ _
  refine wpAny_bind (wpAny_updateSeq hS rfl ?_)
  have hS₂ := Heap.get?_update_self (Obj.mapSeq (·.push Value.none)) hS rfl
  refine wpAny_updateSeq (hz := by seq_fits) hS₂ rfl ?_
  have hS₃ := Heap.get?_update_self (Obj.mapSeq (·.pop)) hS₂ rfl
  have oth : ∀ b o, b ≠ S → s.heap.get? b = some o → ((s.heap.update S (Obj.mapSeq (·.push Value.none))).update S (Obj.mapSeq (·.pop))).get? b = some o :=
    fun b o hb q => (Heap.get?_update_other _ _ (Ne.symm hb)).trans ((Heap.get?_update_other _ _ (Ne.symm hb)).trans q)
  refine wpAny_pure ⟨plainId_quiet PySem.F.plain_extend_loop _, en_loop (s := s) (hz := s.heap) D heS hiS hne hef hSf hn res hR n 0 _ s.toks _ #[] [] (Nat.sub_zero _) (Nat.zero_le _) (.inl ⟨old, oth e _ (Ne.symm hSe) he⟩)
    (D.frame _ _ _ hst fun b hb o q => oth b o (fun z => hSf (z ▸ hb)) q) (fun b o hb _ _ q => oth b o hb q) hS₃ rfl rfl ⟨List.Pairwise.nil, (fun _ ha => nomatch ha), (fun j a hj => by simp at hj)⟩⟩
theorem en_call {e it : Addr} {fp : List Addr} {n : Nat} {P : Nat → Value → Prop} {St : Nat → Heap → Prop} {old : Value} {Q : Value → Shared → Prop} (D : Draws prog w A.in1.in1.in1 it fp n P St) (hfp : ∀ b ∈ fp, b < s.heap.objs.size) (hif : it ∈ fp) (hne : e ≠ it) (hef : e ∉ fp) (hn : n ≤ sizeLine)
    (he : IsEnum s.heap e it 0 old) (hst : St 0 s.heap)
    (hQ : ∀ h' tk acc c as, (∀ b o, b ≠ e → b ≠ it → s.heap.get? b = some o → h'.get? b = some o) → h'.get? s.heap.objs.size = some { cls := .type "list", dict := none, data := .seq acc c, slots := #[] } → as.length = n → EnG P s.heap.objs.size h' as →
      acc.toList = as.map Value.ref → Q (.ref s.heap.objs.size) { s with heap := h', toks := tk }) :
    wpAny (model prog w) A (call (.type "list") [.ref e]) Q E s := by
  have hel : e < s.heap.objs.size := Heap.lt_size he
  have hil : it < s.heap.objs.size := hfp _ hif
  have hSf : s.heap.objs.size ∉ fp := fun hm => Nat.lt_irrefl _ (hfp _ hm)
  refine callType_codes (Q₁ := fun obj s₁ => obj = .ref s.heap.objs.size ∧ s₁ = { s with heap := s.heap.push { cls := .type "list", data := .seq #[] } }) PySem.F.called_list (PySem.F.typeCall_list_1 _) PySem.F.entry_list_init
    (code_list_new _ ⟨rfl, rfl⟩) fun obj s₁ h₁ => ?_
  obtain ⟨rfl, rfl⟩ := h₁
  have hS : (s.heap.push { cls := .type "list", data := .seq #[] }).get? s.heap.objs.size = some { cls := .type "list", data := .seq #[] } := Heap.get?_push_size _ rfl
  refine ⟨⟨_, hS, rfl⟩, PySem.F.args_list_init_2 _ _, ?_⟩
  show wpAny _ _ (do let old ← Builtin.List.listItems (.ref s.heap.objs.size); Builtin.List.listUpdate (.ref s.heap.objs.size) (fun _ => #[]); letGo old.toList.reverse; Builtin.List.listExtendWith (.ref s.heap.objs.size) (.ref e) .none) _ _ _
  refine wpAny_bind ?_
  unfold Builtin.List.listItems
  refine wpAny_bind (wpAny_seqItems hS rfl (wpAny_pure ?_))
  show wpAny _ _ (updateSeq s.heap.objs.size (fun _ => #[]) >>= fun _ => letGo (#[] : Array Value).toList.reverse >>= fun _ => Builtin.List.listExtendWith (.ref s.heap.objs.size) (.ref e) .none) _ _ _
  refine wpAny_bind (wpAny_updateSeq hS rfl ?_)
  have hS₂ := Heap.get?_update_self (Obj.mapSeq (fun _ => (#[] : Array Value))) hS rfl
  have oth : ∀ b o, s.heap.get? b = some o → ((s.heap.push { cls := .type "list", data := .seq #[] }).update s.heap.objs.size (Obj.mapSeq (fun _ => (#[] : Array Value)))).get? b = some o :=
    fun b o q => (Heap.get?_update_other _ _ (Nat.ne_of_gt (Heap.lt_size q))).trans (Heap.get?_push_of_some _ q)
  refine wpAny_bind (wpAny_letGo ?_)
  refine en_extend (A := A.in1) (old := old) D hel hil hne hef hSf hn .none (oth _ _ he) (D.frame _ _ _ hst fun b _ o q => oth b o q) hS₂ fun h' tk acc c as hk hS' hl hG hacc => ?_
  exact ⟨rfl, hQ h' tk acc c as (fun b o h1 h2 q => hk b o (Nat.ne_of_lt (Heap.lt_size q)) h1 h2 (oth b o q)) hS' hl hG hacc⟩
end
def enumKs (xs : List V) : List (Key × V) := xs.zipIdx.map fun p => (.inl (p.2 : Int), p.1)
theorem enumKs_get {xs : List V} {j : Nat} {p : Key × V} (h : (enumKs xs)[j]? = some p) : ∃ x, xs[j]? = some x ∧ p = (.inl (j : Int), x) := by
  unfold enumKs at h
  rw [List.getElem?_map, List.getElem?_zipIdx] at h
  cases e : xs[j]? with
  | none => rw [e] at h; cases h
  | some x =>
    rw [e] at h
    refine ⟨x, rfl, ?_⟩
    have := Option.some.inj h
    rw [← this]
    simp
theorem enumKs_len (xs : List V) : (enumKs xs).length = xs.length := by simp [enumKs]
theorem laid_pairs {X : Cx} {pins : List (Addr × Obj)} {σ : L2.St} {H : Hp} {s : Shared} {h' : Heap} {tk : Nat} {xs : List V} {us : List Value} {acc : Array Value} {c S : Nat} {as : List Addr} (I : Inv X pins σ H s) (hz : xs.length ≤ sizeLine) (rv : Vals xs us)
    (hk : ∀ b o, s.heap.get? b = some o → h'.get? b = some o) (hSz : s.heap.objs.size ≤ S) (hS : h'.get? S = some { cls := .type "list", dict := none, data := .seq acc c, slots := #[] }) (hl : as.length = xs.length) (hG : EnG (fun i v => us[i]? = some v) S h' as) (hacc : acc.toList = as.map Value.ref) :
    ∃ H' : Hp, Same H H' ∧ H S = none ∧ H' S = some (.lst (as.map V.ref)) ∧ Paired (fun (t : Addr) (q : Key × V) => H' t = some (.tup [kV q.1, q.2])) as (enumKs xs) ∧ Inv X pins σ H' { s with heap := h', toks := tk } := by
  have hSn : S ∉ as := fun z => Nat.lt_irrefl _ (hG.above _ z)
  have nd : as.Nodup := List.Pairwise.imp (fun {a b} (h : a < b) => Nat.ne_of_lt h) hG.rise
  have new : ∀ t ∈ as, H t = none := fun t ht => I.hok.fresh (Nat.le_trans hSz (Nat.le_of_lt (hG.above t ht)))
  have newS : H S = none := I.hok.fresh hSz
  have atP := LiI.putT_at as (enumKs xs) (upd H S (.lst (as.map V.ref))) (by rw [enumKs_len, hl]) nd
  have off : ∀ b, b ∉ as → b ≠ S → LiI.putT (upd H S (.lst (as.map V.ref))) as (enumKs xs) b = H b := fun b h1 h2 => by rw [LiI.putT_off as _ _ h1, upd_ne h2]
  have low : ∀ b o, s.heap.get? b = some o → b ∉ as ∧ b ≠ S := fun b o q =>
    have hb : b < S := Nat.lt_of_lt_of_le (Heap.lt_size q) hSz
    ⟨fun z => Nat.lt_irrefl _ (Nat.lt_trans hb (hG.above b z)), Nat.ne_of_lt hb⟩
  have kp : Same H (LiI.putT (upd H S (.lst (as.map V.ref))) as (enumKs xs)) := fun b u q => by
    rw [off b (fun z => by rw [new b z] at q; cases q) (fun z => by rw [z, newS] at q; cases q)]
    exact q
  have eS : LiI.putT (upd H S (.lst (as.map V.ref))) as (enumKs xs) S = some (.lst (as.map V.ref)) := by rw [LiI.putT_off as _ _ hSn, upd_same]
  refine ⟨_, kp, newS, eS, atP, ?_⟩
  refine I.call' (ch := []) rfl ⟨fun b o q _ _ _ => hk b o q, fun b o q _ _ _ => ⟨o.slots, hk b o q⟩, fun b o q n _ => ?_, fun b o q _ => ⟨o, hk b o q⟩, fun b xs q => kp b _ q, fun b o u q => kp b _ q, fun b ps q => ⟨#[], by rw [kp b _ q]; simp⟩⟩ (fun b u q => ?_) I.bare fun b z => by simp at z
  · obtain ⟨z1, z2⟩ := low b o q
    rw [off b z1 z2]
    exact n
  · by_cases hb : b ∈ as
    · obtain ⟨j, pk, e1, e2, e3⟩ := LiI.paired_ix atP hb
      rw [e3] at q
      cases q
      obtain ⟨t, v, f1, f2⟩ := hG.pairs j b e1
      obtain ⟨x, hx, rfl⟩ := enumKs_get e2
      obtain ⟨u, hu, ru⟩ := rv.get hx
      rw [hu] at f1
      cases f1
      exact ⟨by show 2 ≤ sizeLine; decide, [.int j t, v], .cons ⟨_, rfl⟩ (.cons ru .nil), ⟨_, f2, rfl, _, rfl⟩⟩
    · by_cases hb2 : b = S
      · rw [hb2] at q ⊢
        rw [eS] at q
        cases q
        refine ⟨by rw [List.length_map]; omega, acc.toList, c, by rw [hacc]; exact LiI.vals_refs as, ?_⟩
        rw [Array.toArray_toList]
        exact hS
      · rw [off b hb hb2] at q
        exact (I.hok b u q).stay (fun d v _ y => hk d v y) (fun d y => kp d _ y) fun d xs y => kp d _ y
/-- list(enumerate(x)): a list of pairs, new all -/
def rEnumL (K : PySem.W.Frag) : List V → Hp → VK → Prop := fun vs H Q => ∃ (a : Addr) (xs : List V), vs = [.ref a] ∧ (SqL K H a xs ∨ SqT K H a xs) ∧ xs.length ≤ sizeLine ∧
  ∀ (H' : Hp) (p : Addr) (ts : List Addr), Same H H' → H p = none → H' p = some (.lst (ts.map V.ref)) → Paired (fun (t : Addr) (q : Key × V) => H' t = some (.tup [kV q.1, q.2])) ts (enumKs xs) → Q (.ref p) H'
def tListEnum (K : PySem.W.Frag) (ta : TA) : TE := fun σ H Q => ta σ H fun vs H1 => rEnumL K vs H1 Q
theorem pe_listEnum {X : Cx} {e : Expr} {ta : TA} {p p2 pos pos2 : Pos} (hc : X.calm = true) (hg : Gl X "list") (hm : X.mg "list" = none) (hv : bootBuiltins "list" = some (.type "list")) (hg2 : Gl X "enumerate") (hm2 : X.mg "enumerate" = none) (ha : PA X [e] ta)
    (hs : starEach [.Call (.Name "enumerate" p2) [e] [] pos2] X.env = (false, eval (.Call (.Name "enumerate" p2) [e] [] pos2) X.env) :: starEach [] X.env := by rfl) (hs2 : starEach [e] X.env = [(false, eval e X.env)] := by rfl) :
    PE X (.Call (.Name "list" p) [.Call (.Name "enumerate" p2) [e] [] pos2] [] pos) (tListEnum X.K ta) := by
  refine ⟨fun pins s σ H Q I h => ?_⟩
  refine Call_ (ld_blt I hg hm hv ?_)
  refine PyProof.Rows.callWith_type1 ?_ hs rfl
  rw [hs]
  show wpAny _ _ (spliced ((false, eval (.Call (.Name "enumerate" p2) [e] [] pos2) X.env) :: backTo pos (starEach [] X.env))) _ _ s
  refine Calls.spliced_cons ?_
  refine Call_ (ld_blt I hg2 hm2 boot_enumerate (PyProof.Rows.callWith_type1 (thn (ha.run pos2 pins s σ H _ I h) fun us s1 ⟨vs, H1, I1, r1, q1⟩ => ?_) hs2 rfl))
  obtain ⟨a, xs, ex, hq, hz, q⟩ := q1
  subst ex
  cases r1 with
  | cons r rr =>
    cases rr
    cases r
    rcases hq with hq | hq
    · obtain ⟨its, rv, p', _⟩ := I1.list hq
      have hal : a < s1.heap.objs.size := by
        obtain ⟨o, ho, _⟩ := p'.isList
        exact Heap.lt_size ho
      refine call_enumerate_list p'.isList fun h' he hit hsz hk => ?_
      refine Calls.spliced_nil ?_
      have rl := rv.length
      refine en_call (s := { s1 with heap := h' }) (e := s1.heap.objs.size + 1) (it := s1.heap.objs.size) (n := its.toArray.size) (St := fun i h => h.IsListIter s1.heap.objs.size a i ∧ h.IsList a its.toArray) (Draws.list (A := X.A.in1.in1.in1) (I1.ok.hd hc) s1.heap.objs.size a (Nat.ne_of_lt hal) its.toArray)
        (fun b hb => ?_) (by simp) (Nat.succ_ne_self _) ?_ ?_ he ⟨hit, p'.isList.at fun o e => hk a o e⟩ fun h2 tk acc c as hk2 hS hl hG hacc => ?_
      · have hb' : b = s1.heap.objs.size ∨ b = a := by simpa using hb
        show b < h'.objs.size
        rw [hsz]
        rcases hb' with z | z
        · rw [z]
          exact Nat.lt_add_of_pos_right (by decide)
        · rw [z]
          exact Nat.lt_of_lt_of_le hal (Nat.le_add_right _ _)
      · intro z
        have z' : s1.heap.objs.size + 1 = s1.heap.objs.size ∨ s1.heap.objs.size + 1 = a := by simpa using z
        rcases z' with z | z
        · exact Nat.succ_ne_self _ z
        · rw [← z] at hal
          exact Nat.not_succ_lt_self hal
      · simp; omega
      · obtain ⟨H2, g1, g2, g3, g4, J⟩ := laid_pairs (S := h'.objs.size) (tk := tk) I1 hz rv (fun b o e => hk2 b o (Nat.ne_of_lt (Nat.lt_succ_of_lt (Heap.lt_size e))) (Nat.ne_of_lt (Heap.lt_size e)) (hk b o e)) (by rw [hsz]; omega) hS (by rw [hl]; simp; omega) ⟨hG.rise, hG.above, fun j b e => by
          obtain ⟨t, x, y, z⟩ := hG.pairs j b e
          exact ⟨t, x, by simpa using y, z⟩⟩ hacc
        exact ⟨.ref _, H2, J, rfl, q H2 _ as g1 g2 g3 g4⟩
    · obtain ⟨its, rv, p', _⟩ := I1.tuple hq
      have hal : a < s1.heap.objs.size := by
        obtain ⟨o, ho, _⟩ := p'
        exact Heap.lt_size ho
      refine call_enumerate_tuple p' fun h' he hit hsz hk => ?_
      refine Calls.spliced_nil ?_
      have rl := rv.length
      refine en_call (s := { s1 with heap := h' }) (e := s1.heap.objs.size + 1) (it := s1.heap.objs.size) (n := its.toArray.size) (Draws.tuple (A := X.A.in1.in1.in1) (I1.ok.hd hc) s1.heap.objs.size a (Nat.ne_of_lt hal) its.toArray)
        (fun b hb => ?_) (by simp) (Nat.succ_ne_self _) ?_ ?_ he ⟨hit, (let ⟨o, ho, r⟩ := p'; ⟨o, hk a o ho, r⟩)⟩ fun h2 tk acc c as hk2 hS hl hG hacc => ?_
      · have hb' : b = s1.heap.objs.size ∨ b = a := by simpa using hb
        show b < h'.objs.size
        rw [hsz]
        rcases hb' with z | z
        · rw [z]
          exact Nat.lt_add_of_pos_right (by decide)
        · rw [z]
          exact Nat.lt_of_lt_of_le hal (Nat.le_add_right _ _)
      · intro z
        have z' : s1.heap.objs.size + 1 = s1.heap.objs.size ∨ s1.heap.objs.size + 1 = a := by simpa using z
        rcases z' with z | z
        · exact Nat.succ_ne_self _ z
        · rw [← z] at hal
          exact Nat.not_succ_lt_self hal
      · simp; omega
      · obtain ⟨H2, g1, g2, g3, g4, J⟩ := laid_pairs (S := h'.objs.size) (tk := tk) I1 hz rv (fun b o e => hk2 b o (Nat.ne_of_lt (Nat.lt_succ_of_lt (Heap.lt_size e))) (Nat.ne_of_lt (Heap.lt_size e)) (hk b o e)) (by rw [hsz]; omega) hS (by rw [hl]; simp; omega) ⟨hG.rise, hG.above, fun j b e => by
          obtain ⟨t, x, y, z⟩ := hG.pairs j b e
          exact ⟨t, x, by simpa using y, z⟩⟩ hacc
        exact ⟨.ref _, H2, J, rfl, q H2 _ as g1 g2 g3 g4⟩
end Eo
set_option linter.all false
set_option maxRecDepth 100000
set_option maxHeartbeats 8000000
/-! E20: the law's own machine. -/
namespace Eo
open PySem L2
def Hold (kvs : List (Key × V)) (rs : Regs) : Prop := ∀ (j : Nat) (v : Val), rs[j]? = some (some v) → valV kvs (.inl (j : Int)) = some v.v
theorem Hold.set {kvs : List (Key × V)} {rs : Regs} (h : Hold kvs rs) (d : Nat) (v : Val) : Hold (putK kvs (.inl (d : Int)) v.v) (rs.set d (some v)) := by
  intro j w e
  rw [valV_put]
  by_cases hj : j = d
  · subst hj
    rw [if_pos rfl]
    have hl : j < rs.length := by
      have := (List.getElem?_eq_some_iff.mp e).1
      simpa using this
    rw [List.getElem?_set_self hl] at e
    rw [Option.some.inj (Option.some.inj e)]
  · rw [if_neg (fun q => hj (by have := Sum.inl.inj q; omega))]
    rw [List.getElem?_set_ne (fun q => hj q.symm)] at e
    exact h j w e
def enumF (p : V × Nat) : Key × V := (.inl (p.2 : Int), p.1)
theorem enum_val : ∀ (xs : List V) (k j : Nat), valV ((xs.zipIdx k).map enumF) (.inl ((k + j : Nat) : Int)) = xs[j]?
  | [], k, j => rfl
  | x :: xs, k, j => by
    rw [List.zipIdx_cons, List.map_cons]
    cases j with
    | zero => exact valV_pos rfl
    | succ j =>
      rw [valV_neg (show ¬ (Sum.inl (k : Int) : Key) = .inl ((k + (j + 1) : Nat) : Int) from fun q => by have := Sum.inl.inj q; omega)]
      have := enum_val xs (k + 1) j
      rw [show k + 1 + j = k + (j + 1) by omega] at this
      rw [this]
      rfl
theorem enum_ge : ∀ (xs : List V) (k : Nat) (q : Key), q ∈ ((xs.zipIdx k).map enumF).map (·.1) → ∃ m : Nat, k ≤ m ∧ q = .inl (m : Int)
  | [], _, _, h => by cases h
  | x :: xs, k, q, h => by
    rw [List.zipIdx_cons, List.map_cons, List.map_cons] at h
    rcases List.mem_cons.mp h with h | h
    · exact ⟨k, Nat.le_refl _, h⟩
    · obtain ⟨m, h1, h2⟩ := enum_ge xs (k + 1) q h
      exact ⟨m, by omega, h2⟩
theorem enum_nodup : ∀ (xs : List V) (k : Nat), (((xs.zipIdx k).map enumF).map (·.1)).Nodup
  | [], _ => by simp
  | x :: xs, k => by
    rw [List.zipIdx_cons, List.map_cons, List.map_cons]
    refine List.nodup_cons.mpr ⟨fun h => ?_, enum_nodup xs (k + 1)⟩
    obtain ⟨m, h1, h2⟩ := enum_ge xs (k + 1) _ h
    have : (k : Int) = (m : Int) := Sum.inl.inj h2
    omega
theorem enumKs_eq (xs : List V) : enumKs xs = (xs.zipIdx 0).map enumF := rfl
theorem enum_merge (xs : List V) : mergeK [] (enumKs xs) = enumKs xs := mergeK_new _ [] (by rw [enumKs_eq]; exact enum_nodup xs 0) fun _ _ => rfl
theorem enum_at (xs : List V) (j : Nat) : valV (enumKs xs) (.inl (j : Int)) = xs[j]? := by
  have := enum_val xs 0 j
  rw [Nat.zero_add] at this
  exact this
theorem hold_begin {c : Code} {f : Nat} {args : List Val} : Hold (enumKs (args.map Val.v)) (begin c f args).regs := by
  intro j v e
  rw [enum_at, List.getElem?_map]
  unfold begin at e
  simp only at e
  by_cases hj : j < args.length
  · rw [List.getElem?_append_left (by simpa using hj), List.getElem?_map] at e
    cases q : args[j]? with
    | none => rw [q] at e; cases e
    | some w =>
      rw [q] at e
      have := Option.some.inj (Option.some.inj e)
      rw [← this]
      rfl
  · rw [List.getElem?_append_right (by simpa using hj), List.getElem?_replicate] at e
    split at e <;> cases e
structure PlAt (H : Hp) (B : Nat) (fa da : Addr) (fr : Fr) : Prop where
  ex : ∃ kvs, H fa = some (.lst [.int (fr.f : Nat), .int (fr.at_ : Nat), .ref da]) ∧ H da = some (.dK kvs) ∧ Hold kvs fr.regs ∧ kvs.length ≤ B
def PlsAt (H : Hp) (B : Nat) : List (Addr × Addr) → List Fr → Prop
  | [], [] => True
  | p :: L, fr :: st => PlAt H B p.1 p.2 fr ∧ PlsAt H B L st
  | _, _ => False
theorem PlAt.keep {H H' : Hp} {B B' : Nat} {fa da : Addr} {fr : Fr} (h : PlAt H B fa da fr) (hB : B ≤ B') (h1 : ∀ o, H fa = some o → H' fa = some o) (h2 : ∀ o, H da = some o → H' da = some o) : PlAt H' B' fa da fr := by
  obtain ⟨kvs, e1, e2, e3, e4⟩ := h.ex
  exact ⟨kvs, h1 _ e1, h2 _ e2, e3, Nat.le_trans e4 hB⟩
theorem PlsAt.keep {H H' : Hp} {B B' : Nat} (hB : B ≤ B') : ∀ {L : List (Addr × Addr)} {st : List Fr}, PlsAt H B L st → (∀ x ∈ adrs L, ∀ o, H x = some o → H' x = some o) → PlsAt H' B' L st
  | [], [], _, _ => trivial
  | p :: L, fr :: st, h, k => ⟨h.1.keep hB (k _ (by simp [adrs])) (k _ (by simp [adrs])), PlsAt.keep hB h.2 fun x hx => k x (by simp [adrs, hx])⟩
  | [], _ :: _, h, _ => h.elim
  | _ :: _, [], h, _ => h.elim
structure PlI (c : Code) (AA : Nat → Nat → Option Ks) (t : Tr) (H : Hp) (pl : Addr) (fuel : Nat) (R : Res) (i : Nat) (L : List (Addr × Addr)) (st : List Fr) (H' : Hp) : Prop where
  same : Same H H'
  hpl : H' pl = some (.lst (lsV L))
  fr : PlsAt H' (1010 + i) L st
  wf : WfL c AA t st
  nd : (adrs L).Nodup
  npl : pl ∉ adrs L
  new : ∀ x ∈ adrs L, H x = none
  len : L.length ≤ i + 1
  le : i ≤ fuel
  run : run c t (fuel - i) i st = R
theorem PlI.fin {c : Code} {AA : Nat → Nat → Option Ks} {t : Tr} {H H' H9 : Hp} {pl fa da : Addr} {fuel i at9 : Nat} {R : Res} {L : List (Addr × Addr)} {fr : Fr} {rest : List Fr} {rs9 : Regs} {kvs9 : List (Key × V)} (G : Good c AA) (P : PlI c AA t H pl fuel R i ((fa, da) :: L) (fr :: rest) H') (hi : i < fuel)
    (h1 : ∀ y o, y ≠ fa → y ≠ da → H' y = some o → H9 y = some o) (h2 : H9 fa = some (.lst [.int (fr.f : Nat), .int (at9 : Nat), .ref da])) (h3 : H9 da = some (.dK kvs9)) (h4 : Hold kvs9 rs9) (h5 : kvs9.length ≤ 1011 + i) (est : stepIn c t fr rest = .inl ({ fr with at_ := at9, regs := rs9 } :: rest)) :
    PlI c AA t H pl fuel R (i + 1) ((fa, da) :: L) ({ fr with at_ := at9, regs := rs9 } :: rest) H9 := by
  have nfa := P.new fa (by simp [adrs])
  have nda := P.new da (by simp [adrs])
  have npl := P.npl
  simp only [adrs, List.mem_cons, not_or] at npl
  have nd := P.nd
  simp only [adrs, List.nodup_cons, List.mem_cons, not_or] at nd
  refine ⟨fun b o e => h1 b o (ne_of_none e nfa) (ne_of_none e nda) (P.same b o e), h1 pl _ npl.1 npl.2.1 P.hpl, ⟨⟨kvs9, h2, h3, h4, by omega⟩, P.fr.2.keep (by omega) fun x hx o e => ?_⟩, ?_, P.nd, P.npl, P.new, by have := P.len; omega, hi, ?_⟩
  · exact h1 x o (fun q => nd.1.2 (by rw [← q]; exact hx)) (fun q => nd.2.1 (by rw [← q]; exact hx)) e
  · rcases wf_step G P.wf with ⟨st', e1, e2⟩ | ⟨v, _, e1, _⟩
    · rw [est] at e1
      cases e1
      exact e2
    · rw [est] at e1
      cases e1
  · have hr := P.run
    rw [show fuel - i = (fuel - (i + 1)) + 1 by omega] at hr
    unfold Eo.run at hr
    rw [est] at hr
    exact hr
def spPlain (K : PySem.W.Frag) : Sp := fun vs H Q _ => ∃ (vc vp : V) (mp cl : Addr) (c : Code) (AA : Nat → Nat → Option Ks) (t : Tr) (f : Nat) (fn : Fn) (ps : List (List Bool)) (fuel : Nat), vs = [vc, .ref mp, .ref cl, .int fuel] ∧ Rp K H vc (codeDt c) ∧ CodeOk c AA ∧ MapAt H mp t ∧ t.size ≤ 1000 ∧
  SqT K H cl [.int (f : Nat), vp] ∧ Rp K H vp (plsDt ps) ∧ c[f]? = some fn ∧ ps.length = fn.many ∧ (∀ p ∈ ps, isPl p t) ∧ fuel ≤ 20000 ∧ ∀ r H', Same H H' → Rp K H' r (resDt (run c t fuel 0 [begin c f (ps.map .pl)])) → Q r H'
theorem pls_v {K : PySem.W.Frag} {H : Hp} : ∀ {xs : List V} {ps : List (List Bool)}, Rps K H xs (ps.map fun p => Dt.str (plStr p)) → xs = (ps.map Val.pl).map Val.v
  | [], [], _ => rfl
  | _ :: _, [], h => by cases h
  | [], _ :: _, h => by cases h
  | x :: xs, p :: ps, h => by
    cases h with
    | cons q r =>
      obtain rfl := q.str_inv
      rw [pls_v r]
      rfl
theorem plain_parts {K : PySem.W.Frag} {H : Hp} {r : Row} {rxs : List V} (hp : Plain r) (rx : Rps K H rxs r.items) :
    (r.word = "has" → cutV (.str r.word :: rxs) (some 2) (some 3) = natsV r.reads) ∧ (¬ r.word = "has" → cutV (.str r.word :: rxs) (some 2) none = natsV r.reads) := by
  obtain ⟨⟨d, hd⟩, hc⟩ := hp
  have w : ∀ {a : Str} {C : Prop}, ¬ a = "has" → a = "has" → C := fun h e => absurd e h
  cases r with
  | call d f as => exact absurd rfl (hc _ _ _)
  | skip k => cases hd
  | unl s k => cases hd
  | give s => cases hd
  | has d s g =>
    cases rx with
    | cons q1 rx => cases rx with
      | cons q2 rx => cases rx with
        | cons q3 rx =>
          cases rx
          obtain rfl := q2.int_inv
          exact ⟨fun _ => rfl, fun h => absurd rfl h⟩
  | same d s u =>
    cases rx with
    | cons q1 rx => cases rx with
      | cons q2 rx => cases rx with
        | cons q3 rx =>
          cases rx
          obtain rfl := q2.int_inv
          obtain rfl := q3.int_inv
          exact ⟨w (by dsimp only [Row.word]; decide +kernel), fun _ => rfl⟩
  | top d =>
    cases rx with
    | cons q1 rx =>
      cases rx
      exact ⟨w (by dsimp only [Row.word]; decide +kernel), fun _ => rfl⟩
  | yes d =>
    cases rx with
    | cons q1 rx =>
      cases rx
      exact ⟨w (by dsimp only [Row.word]; decide +kernel), fun _ => rfl⟩
  | no d =>
    cases rx with
    | cons q1 rx =>
      cases rx
      exact ⟨w (by dsimp only [Row.word]; decide +kernel), fun _ => rfl⟩
  | _ =>
    cases rx with
    | cons q1 rx => cases rx with
      | cons q2 rx =>
        cases rx
        obtain rfl := q2.int_inv
        exact ⟨w (by dsimp only [Row.word]; decide +kernel), fun _ => rfl⟩
theorem pls_some {H : Hp} {B : Nat} : ∀ {L : List (Addr × Addr)} {st : List Fr}, PlsAt H B L st → ∀ x ∈ adrs L, ∃ o, H x = some o
  | [], [], _, x, hx => by cases hx
  | p :: L, fr :: st, h, x, hx => by
    obtain ⟨kvs, e1, e2, _⟩ := h.1.ex
    simp only [adrs, List.mem_cons] at hx
    rcases hx with rfl | rfl | hx
    · exact ⟨_, e1⟩
    · exact ⟨_, e2⟩
    · exact pls_some h.2 x hx
  | [], _ :: _, h, _, _ => h.elim
  | _ :: _, [], h, _, _ => h.elim
theorem nats_v {K : PySem.W.Frag} {H : Hp} : ∀ {xs : List V} {as : List Nat}, Rps K H xs (as.map fun (n : Nat) => Dt.int (n : Int)) → xs = natsV as
  | [], [], _ => rfl
  | _ :: _, [], h => by cases h
  | [], _ :: _, h => by cases h
  | x :: xs, p :: ps, h => by
    cases h with
    | cons q r =>
      obtain rfl := q.int_inv
      rw [nats_v r]
      rfl
theorem paired_imp {α β : Type} {F F' : α → β → Prop} (k : ∀ x y, F x y → F' x y) : ∀ {xs : List α} {ys : List β}, Paired F xs ys → Paired F' xs ys
  | _, _, .nil => .nil
  | _, _, .cons h t => .cons (k _ _ h) (paired_imp k t)
section
variable {P : Program} {w : World} {K : PySem.W.Frag} {mg : Str → Option Value} {base : Heap} {Z : Wh}
theorem ok_law_plain (T : Tx w K mg Z) : FnOk P w K mg base CX0 2 (Z.A 46) (Z.D 46) ["_law_code_here", "_law_spots_here", "_law_call", "_law_fuel"] (spPlain K) := by
  refine T.law_plain.F.ok sc_law_plain (fun vs H Q E h => ?_) (fun cdv A outer s H vs Q E hr h => ?_)
  · obtain ⟨vc, vp, mp, cl, c, AA, t, f, fn, ps, fuel, rfl, hc, hok, hm, hts, hcl, hp, hf, hlen, hps, hfu, q⟩ := h
    rfl
  have hu := hu_of hr
  have hu0 := Nat.lt_of_succ_lt hu
  obtain ⟨vc, vp, mp, cl, c, AA, t, f, fn, ps, fuel, rfl, hc, hok, hm, hts, hcl, hp, hf, hlen, hps, hfu, q⟩ := h
  have G : Good c AA := ⟨hok.ty⟩
  have hle := (hok.ty f fn hf).le
  have hreg := hok.regs fn (List.mem_of_getElem? hf)
  obtain ⟨ca, cx, rfl, eca, rcx⟩ := code_rp hc
  obtain ⟨va, px, rfl, evp, rpx⟩ := hp.tup_inv
  obtain rfl := pls_v rpx
  refine ⟨_, (pss_cons (ps_par (i := 4) (j := 5) (by rfl) sc_law_plain.nd rfl rfl (by decide) rfl rfl (pa_cons (pe_lst (pa_cons (pe_lst (pa_cons (pe_ix ix_tup (pv 2) pe_int (fun _ _ => rfl)) (pa_cons pe_int (pa_cons (pe_callTy (call_dictP rfl) rfl T.dict_ bt_dict (pa_cons (pe_listEnum rfl rfl T.list_ bt_list rfl T.enumerate_ (pa_cons (pe_ix ix_tup (pv 2) pe_int (fun _ _ => rfl)) pa_nil)) pa_nil)) pa_nil)))) pa_nil)) (pa_cons pe_int pa_nil)) (by rfl)) (pss_cons (ps_while PassesOwn.never (pt_cmpR op_lt (pv 5) (pv 3) (nomark _)) (pss_cons (ps_asg (pe_ix ix_list (pv 4) (pe_un un_neg pe_int) (fun _ _ => rfl)) (pg_unl rfl (pgs_cons (pg_name (i := 6) sc_law_plain.nd rfl (by first | exact Or.inl rfl | exact Or.inr rfl)) (pgs_cons (pg_name (i := 7) sc_law_plain.nd rfl (by first | exact Or.inl rfl | exact Or.inr rfl)) (pgs_cons (pg_name (i := 8) sc_law_plain.nd rfl (by first | exact Or.inl rfl | exact Or.inr rfl)) pgs_nil))))) (pss_cons (ps_set (i := 9) sc_law_plain.nd rfl (by first | exact Or.inl rfl | exact Or.inr rfl) (pe_ix ix_tup (pe_ix ix_tup (pe_ix ix_tup (pv 0) (pv 6) (fun _ _ => rfl)) pe_int (fun _ _ => rfl)) (pv 7) (fun _ _ => rfl))) (pss_cons (ps_asg (pe_tup (pa_cons (pe_op op_add (pv 5) pe_int) (pa_cons (pe_op op_add (pv 7) pe_int) (pa_cons (pe_ix ix_tup (pv 9) pe_int (fun _ _ => rfl)) pa_nil)))) (pg_tup rfl (pgs_cons (pg_name (i := 5) sc_law_plain.nd rfl (by first | exact Or.inl rfl | exact Or.inr rfl)) (pgs_cons (pg_sub (pe_ix ix_list (pv 4) (pe_un un_neg pe_int) (fun _ _ => rfl)) pe_int set_list) (pgs_cons (pg_name (i := 10) sc_law_plain.nd rfl (by first | exact Or.inl rfl | exact Or.inr rfl)) pgs_nil))))) (pss_one (ps_if (pt_cmpR op_eq (pv 10) pe_str (nomark _)) (pss_cons (ps_expr (pe_bm0 PySem.F.plainAttrs_list PySem.F.slot_list_pop PySem.F.type_list_pop mt_pop (pv 4))) (pss_cons (ps_if (pt_cmpR (op_eqNil hu0) (pv 4) (pe_lst pa_nil) (nomark _)) (pss_one (ps_ret (pe_tup (pa_cons pe_str (pa_cons (pe_dget hu (pv 8) (pe_ix ix_tup (pv 9) pe_int (fun _ _ => rfl)) (fun _ _ => rfl)) (pa_cons (pv 5) pa_nil)))))) pss_nil) (pss_cons (ps_set (i := 11) sc_law_plain.nd rfl (by first | exact Or.inl rfl | exact Or.inr rfl) (pe_ix ix_list (pv 4) (pe_un un_neg pe_int) (fun _ _ => rfl))) (pss_one (ps_dput hu (pe_ix ix_list (pv 11) pe_int (fun _ _ => rfl)) (pe_ix ix_tup (pe_ix ix_tup (pe_ix ix_tup (pe_ix ix_tup (pv 0) (pe_ix ix_list (pv 11) pe_int (fun _ _ => rfl)) (fun _ _ => rfl)) pe_int (fun _ _ => rfl)) (pe_op op_sub (pe_ix ix_list (pv 11) pe_int (fun _ _ => rfl)) pe_int) (fun _ _ => rfl)) pe_int (fun _ _ => rfl)) (pe_dget hu (pv 8) (pe_ix ix_tup (pv 9) pe_int (fun _ _ => rfl)) (fun _ _ => rfl)) rfl))))) (pss_one (ps_if (pt_cmpR op_eq (pv 10) pe_str (nomark _)) (pss_one (ps_asg (pe_ix ix_tup (pv 9) pe_int (fun _ _ => rfl)) (pg_sub (pe_ix ix_list (pv 4) (pe_un un_neg pe_int) (fun _ _ => rfl)) pe_int set_list))) (pss_one (ps_if (pt_cmpR op_eq (pv 10) pe_str (nomark _)) (pss_one (ps_asg (pe_ifExp (pt_truth (pe_dget hu (pv 8) (pe_ix ix_tup (pv 9) pe_int (fun _ _ => rfl)) (fun _ _ => rfl)) (by intro _; rfl)) (pe_op op_add (pv 7) pe_int) (pe_ix ix_tup (pv 9) pe_int (fun _ _ => rfl))) (pg_sub (pe_ix ix_list (pv 4) (pe_un un_neg pe_int) (fun _ _ => rfl)) pe_int set_list))) (pss_one (ps_if (pt_cmpR op_eq (pv 10) pe_str (nomark _)) (pss_one (ps_expr (pe_bm PySem.F.plainAttrs_list PySem.F.slot_list_append PySem.F.type_list_append mt_append (pv 4) (pa_cons (pe_lst (pa_cons (pe_ix ix_tup (pv 9) pe_int (fun _ _ => rfl)) (pa_cons pe_int (pa_cons (pe_callTy (call_dictP rfl) rfl T.dict_ bt_dict (pa_cons (pe_listEnum rfl rfl T.list_ bt_list rfl T.enumerate_ (pa_cons (pe_lc (own := [("_law_x", 12)]) (g := gName 12) (tt := tYes) rfl sc_law_plain.nd (pi_tup (pe_ix ix_tup (pv 9) pe_int (fun _ _ => rfl))) (blkOk_by (own := [("_law_x", 12)]) (N := N_law_plain) (sc := defScope s_law_plain) (by decide +kernel)) (fun _ _ _ _ _ => (pg_name (i := 12) sc_law_plain.nd rfl (by first | exact Or.inl rfl | exact Or.inr rfl))) (fun _ _ _ _ _ => pts_nil) (fun _ _ _ _ _ => (pe_dget hu (pv 8) (pv 12) (fun _ _ => rfl)))) pa_nil)) pa_nil)) pa_nil)))) pa_nil)))) (pss_one (ps_dput hu (pv 8) (pe_ix ix_tup (pv 9) pe_int (fun _ _ => rfl)) (pe_call (ok_law_done T) (hr.mono (by decide)) rfl T.law_done.m T.law_done.F.kp T.law_done.b .nil pass0 (pa_cons (pv 1) (pa_cons (pv 9) (pa_cons (pe_lc (own := [("_law_x", 12)]) (g := gName 12) (tt := tYes) rfl sc_law_plain.nd (pi_tup (pe_ifExp (pt_cmpR op_eq (pv 10) pe_str (nomark _)) (pe_slice sl_tupS (pv 9) (po_some pe_int) (po_some pe_int)) (pe_slice sl_tupS (pv 9) (po_some pe_int) po_none))) (blkOk_by (own := [("_law_x", 12)]) (N := N_law_plain) (sc := defScope s_law_plain) (by decide +kernel)) (fun _ _ _ _ _ => (pg_name (i := 12) sc_law_plain.nd rfl (by first | exact Or.inl rfl | exact Or.inr rfl))) (fun _ _ _ _ _ => pts_nil) (fun _ _ _ _ _ => (pe_dget hu (pv 8) (pv 12) (fun _ _ => rfl)))) pa_nil)))) rfl)))))))))))))) (pss_one (ps_ret (pe_tup (pa_cons pe_str pa_nil)))))), ?_⟩
  refine ⟨_, rfl, _, _, _, _, rfl, rfl, hcl, at0, _, rfl, _, _, _, _, rfl, rfl, hcl, atI_nat (j := 1) rfl, va, _, rfl, .inr evp, ?_, fun H1 l1 ts s1 hl1 hl1' hts1 => ?_⟩
  · simp only [List.length_map]
    exact Nat.le_trans (by omega : ps.length ≤ 1000) (by decide)
  refine ⟨l1, ts, enumKs _, rfl, SqL.of hl1', paired_imp (fun _ _ e => SqT.of e) hts1, fun da hda => ?_⟩
  rw [enum_merge]
  refine ⟨(by show 3 ≤ sizeLine; decide), fun fa hfa => ⟨(by show 1 ≤ sizeLine; decide), fun pl hpl => ?_⟩⟩
  have s2 := s1.trans (same_new (o := .dK (enumKs ((ps.map Val.pl).map Val.v))) hda)
  have s3 := s2.trans (same_new (o := .lst [.int (f : Nat), .int 0, .ref da]) hfa)
  have s4 := s3.trans (same_new (o := .lst [.ref fa]) hpl)
  have hda0 : H da = none := s1.free hda
  have hfa0 : H fa = none := s2.free hfa
  have hpl0 : H pl = none := s3.free hpl
  have nda : da ≠ fa := ne_of_none upd_same hfa
  have npl1 : fa ≠ pl := ne_of_none upd_same hpl
  have npl2 : da ≠ pl := ne_of_none (show (upd (upd H1 da (.dK (enumKs ((ps.map Val.pl).map Val.v)))) fa (.lst [.int (f : Nat), .int 0, .ref da])) da = some (.dK (enumKs ((ps.map Val.pl).map Val.v))) by rw [upd_ne nda, upd_same]) hpl
  have hwf : WfL c AA t [begin c f (ps.map .pl)] := ⟨begin_ok G hf (by simpa using hlen) (fun v hv => by
    obtain ⟨p, hp1, rfl⟩ := List.mem_map.mp hv
    exact hps p hp1), trivial⟩
  generalize hR : run c t fuel 0 [begin c f (ps.map .pl)] = R at q
  have hinit : PlI c AA t H pl fuel R 0 [(fa, da)] [begin c f (ps.map .pl)] (upd (upd (upd H1 da (.dK (enumKs ((ps.map Val.pl).map Val.v)))) fa (.lst [.int (f : Nat), .int 0, .ref da])) pl (.lst [.ref fa])) := by
    refine ⟨s4, upd_same, ⟨⟨enumKs ((ps.map Val.pl).map Val.v), ?_, ?_, hold_begin, ?_⟩, trivial⟩, hwf, by simp [adrs, nda.symm], by simp [adrs, npl1.symm, npl2.symm], ?_, Nat.le_refl _, Nat.zero_le _, hR⟩
    · rw [upd_ne npl1, upd_same]
      rfl
    · rw [upd_ne npl2, upd_ne nda, upd_same]
    · rw [enumKs_len]
      simp only [List.length_map]
      omega
    · intro y hy
      simp only [adrs, List.mem_cons, List.not_mem_nil, or_false] at hy
      rcases hy with rfl | rfl
      · exact hfa0
      · exact hda0
  refine ⟨_, _, rfl, ?_⟩
  refine ⟨fun m σ H' => ∃ (i : Nat) (L : List (Addr × Addr)) (st : List Fr) (o6 o7 o8 o9 o10 o11 o12 : Option V), m = fuel - i ∧ σ = [some (.ref ca), some (.ref mp), some (.ref cl), some (.int fuel), some (.ref pl), some (.int i), o6, o7, o8, o9, o10, o11, o12] ∧ PlI c AA t H pl fuel R i L st H',
    ⟨_, 0, _, _, none, none, none, none, none, none, none, rfl, rfl, hinit⟩, ?_⟩
  rintro m σ H3 ⟨i, L, st, o6, o7, o8, o9, o10, o11, o12, rfl, rfl, PI⟩
  refine ⟨_, rfl, _, rfl, _, _, rfl, rfl, _, rfl, ?_⟩
  by_cases hlt : i < fuel
  · refine iteC (b := true) (decide_eq_true (by omega)) ?_
    refine ⟨fun σ' H' => ∃ m', m' < fuel - i ∧ ∃ (i : Nat) (L : List (Addr × Addr)) (st : List Fr) (o6 o7 o8 o9 o10 o11 o12 : Option V), m' = fuel - i ∧ σ' = [some (.ref ca), some (.ref mp), some (.ref cl), some (.int fuel), some (.ref pl), some (.int i), o6, o7, o8, o9, o10, o11, o12] ∧ PlI c AA t H pl fuel R i L st H', fun _ _ h => h, ?_⟩
    cases st with
    | nil => exact PI.wf.elim
    | cons fr rest =>
      cases L with
      | nil => exact PI.fr.elim
      | cons pa L' =>
        obtain ⟨fa, da⟩ := pa
        obtain ⟨⟨kvs, hfa3, hda3, hhold, hkl⟩, hrest⟩ := PI.fr
        dsimp only at hfa3 hda3
        obtain ⟨fn4, r, ks, TT⟩ := PI.wf.top
        have hpl3 := PI.hpl
        rw [lsV_cons] at hpl3
        dsimp only at hpl3
        have s6 := PI.same
        have nfa := PI.new fa (by simp [adrs])
        have nda := PI.new da (by simp [adrs])
        have hnd := PI.nd
        simp only [adrs, List.nodup_cons, List.mem_cons, not_or] at hnd
        have hnp := PI.npl
        simp only [adrs, List.mem_cons, not_or] at hnp
        obtain ⟨vfn, hvfn, rfn⟩ := get_map rcx TT.hfn
        obtain ⟨fna, fnb, fnx, rfl, efa, efb, rfx⟩ := fn_rp rfn
        obtain ⟨vr, hvr, rvr⟩ := get_map rfx TT.hrow
        have hnum := TT.num G
        have hrok := TT.ok G
        have hrow := TT.rowAt
        have rvr' := rvr
        obtain ⟨ra, rxs, rfl, era, rrx⟩ := row_rp rvr
        refine ⟨_, rfl, _, rfl, _, _, _, _, rfl, rfl, SqL.of hpl3, atI_last _ _, _, _, rfl, SqL.of hfa3, rfl, _, _, rfl, _, _, rfl, _, _, rfl, rfl, ?_⟩
        -- row = code[f][3][at]
        refine ⟨_, rfl, _, rfl, _, _, _, _, rfl, rfl, (Same.tk s6).sq eca, atI_nat hvfn, _, _, _, _, rfl, rfl, (Same.tk s6).sq efa, atI_nat (j := 3) rfl, _, rfl, _, _, _, _, rfl, rfl, (Same.tk s6).sq efb, atI_nat hvr, ?_⟩
        -- steps, pile[-1][1], word
        have era6 := (Same.tk s6).sq era
        refine ⟨_, rfl, _, _, rfl, rfl, _, rfl, _, _, rfl, rfl, _, rfl, _, _, _, _, rfl, rfl, era6, at0, (by show 3 ≤ sizeLine; decide), fun t1 ht1 => ?_⟩
        have nt1 : ∀ {y o}, H3 y = some o → y ≠ t1 := fun e => ne_of_none e ht1
        have hpl4 : (upd H3 t1 (.tup [.int ((i : Int) + 1), .int ((fr.at_ : Int) + 1), .str r.word])) pl = some (.lst (lsV L' ++ [V.ref fa])) := by rw [upd_ne (nt1 hpl3)]; exact hpl3
        have hfa4 : (upd H3 t1 (.tup [.int ((i : Int) + 1), .int ((fr.at_ : Int) + 1), .str r.word])) fa = some (.lst [.int (fr.f : Nat), .int (fr.at_ : Nat), .ref da]) := by rw [upd_ne (nt1 hfa3)]; exact hfa3
        refine ⟨_, _, rfl, SqT.of upd_same, rfl, _, _, rfl, _, _, rfl, _, rfl, _, rfl, _, _, _, _, rfl, rfl, SqL.of hpl4, atI_last _ _, _, _, _, _, rfl, rfl, hfa4, ixN_nat (j := 1) (by show 1 < 3; decide), _, _, rfl, rfl, ?_⟩
        have k5 : ∀ y o, y ≠ fa → H3 y = some o → (upd (upd H3 t1 (.tup [.int ((i : Int) + 1), .int ((fr.at_ : Int) + 1), .str r.word])) fa (.lst ([V.int (fr.f : Nat), V.int (fr.at_ : Nat), V.ref da].set 1 (V.int ((fr.at_ : Int) + 1))))) y = some o := fun y o hy e => by
          rw [upd_ne hy, upd_ne (nt1 e)]
          exact e
        have hfa5 : (upd (upd H3 t1 (.tup [.int ((i : Int) + 1), .int ((fr.at_ : Int) + 1), .str r.word])) fa (.lst ([V.int (fr.f : Nat), V.int (fr.at_ : Nat), V.ref da].set 1 (V.int ((fr.at_ : Int) + 1))))) fa = some (.lst [.int (fr.f : Nat), .int ((fr.at_ + 1 : Nat) : Int), .ref da]) := upd_same
        generalize hH5 : (upd (upd H3 t1 (.tup [.int ((i : Int) + 1), .int ((fr.at_ : Int) + 1), .str r.word])) fa (.lst ([V.int (fr.f : Nat), V.int (fr.at_ : Nat), V.ref da].set 1 (V.int ((fr.at_ : Int) + 1))))) = H5 at k5 hfa5
        have hda5 := k5 da _ (fun e => hnd.1.1 e.symm) hda3
        have hpl5 := k5 pl _ hnp.1 hpl3
        have s5 : Same H H5 := fun b o e => k5 b o (ne_of_none e nfa) (s6 b o e)
        have era5 := (Same.tk s5).sq era
        have rdv : ∀ (H' : Hp) (j : Nat) (v : Val), H' da = some (.dK kvs) → fr.regs[j]? = some (some v) → DGet H' da (.int (j : Nat)) (some v.v) := fun H' j v h e => .inl ⟨kvs, .inl (j : Int), .inl h, rfl, (hhold j v e).symm⟩
        have wrap : ∀ (L : List (Addr × Addr)) (st : List Fr) (H9 : Hp) (x6 x7 x8 x9 x10 x11 x12 : Option V), PlI c AA t H pl fuel R (i + 1) L st H9 → ∃ m', m' < fuel - i ∧ ∃ (i' : Nat) (L : List (Addr × Addr)) (st : List Fr) (o6 o7 o8 o9 o10 o11 o12 : Option V), m' = fuel - i' ∧ [some (V.ref ca), some (.ref mp), some (.ref cl), some (.int fuel), some (.ref pl), some (.int ((i : Int) + 1)), x6, x7, x8, x9, x10, x11, x12] = [some (.ref ca), some (.ref mp), some (.ref cl), some (.int fuel), some (.ref pl), some (.int i'), o6, o7, o8, o9, o10, o11, o12] ∧ PlI c AA t H pl fuel R i' L st H9 :=
          fun L st H9 x6 x7 x8 x9 x10 x11 x12 h => ⟨fuel - (i + 1), by omega, i + 1, L, st, x6, x7, x8, x9, x10, x11, x12, rfl, rfl, h⟩
        refine ⟨_, rfl, rfl, _, rfl, ?_⟩
        by_cases hg : ∃ s, r = .give s
        · obtain ⟨s, rfl⟩ := hg
          refine iteC (b := true) (decide_eq_true rfl) ?_
          obtain ⟨v, k, _, ev, hv, _⟩ := TT.read G (i := s) (by simp [Row.reads])
          cases rrx with
          | cons q1 rrx =>
            obtain rfl := q1.int_inv
            refine ⟨_, rfl, .inl ⟨rfl, _, SqL.of hpl5⟩, _, _, _, rfl, rfl, hpl5, last_of _ _, ?_⟩
            rw [show (lsV L' ++ [V.ref fa]).dropLast = lsV L' by simp]
            refine ⟨_, rfl, (by show 0 ≤ sizeLine; decide), fun e0 he0 => ?_⟩
            have hple : pl ≠ e0 := ne_of_none upd_same he0
            have k7 : ∀ y o, y ≠ pl → y ≠ fa → H3 y = some o → (upd (upd H5 pl (.lst (lsV L'))) e0 (.lst [])) y = some o := fun y o h1 h2 e => by
              have e5 := k5 y o h2 e
              have e6 : (upd H5 pl (.lst (lsV L'))) y = some o := by rw [upd_ne h1]; exact e5
              rw [upd_ne (ne_of_none e6 he0)]
              exact e6
            have hpl7 : (upd (upd H5 pl (.lst (lsV L'))) e0 (.lst [])) pl = some (.lst (lsV L')) := by rw [upd_ne hple, upd_same]
            have he7 : (upd (upd H5 pl (.lst (lsV L'))) e0 (.lst [])) e0 = some (.lst []) := upd_same
            generalize hH7 : (upd (upd H5 pl (.lst (lsV L'))) e0 (.lst [])) = H7 at k7 hpl7 he7
            have s7 : Same H H7 := fun b o e => k7 b o (ne_of_none e hpl0) (ne_of_none e nfa) (s6 b o e)
            have hda7 := k7 da _ (fun e => hnp.2.1 e.symm) (fun e => hnd.1.1 e.symm) hda3
            refine ⟨_, _, _, rfl, rfl, SqL.of hpl7, SqL.of he7, _, rfl, ?_⟩
            show (if (if false = true then !(lsV L').isEmpty else (lsV L').isEmpty) = true then _ else _)
            rw [if_neg Bool.false_ne_true, lsV_empty]
            have hrun' : (match stepIn c t fr rest with
              | .inr v => Res.given v (i + 1)
              | .inl st => run c t (fuel - (i + 1)) (i + 1) st) = R := by
              rw [← PI.run, show fuel - i = (fuel - (i + 1)) + 1 by omega]
              rfl
            cases rest with
            | nil =>
              cases L' with
              | cons p2 L2 => exact hrest.elim
              | nil =>
                refine iteC (b := true) rfl ?_
                refine ⟨_, rfl, _, rfl, _, _, _, _, rfl, rfl, (Same.tk s7).sq era, atI_nat (j := 1) rfl, _, _, rfl, rdv H7 s v hda7 ev, _, rfl, (by show 3 ≤ sizeLine; decide), fun t9 ht9 => ?_⟩
                have est : stepIn c t fr [] = .inr v := by
                  unfold stepIn
                  rw [hrow]
                  simp only
                  rw [getR_of ev]
                rw [est] at hrun'
                simp only at hrun'
                refine q _ _ (s7.trans (same_tup ht9)) ?_
                rw [← hrun']
                exact given_rp sqT_new
            | cons fr2 rest2 =>
              cases L' with
              | nil => exact hrest.elim
              | cons p2 L2 =>
                obtain ⟨fa2, da2⟩ := p2
                obtain ⟨⟨kvs2, hfa2, hda2, hhold2, hkl2⟩, hrest2⟩ := hrest
                dsimp only at hfa2 hda2
                refine iteC (b := false) rfl ?_
                simp only [adrs, List.nodup_cons, List.mem_cons, not_or] at hnd
                simp only [adrs, List.mem_cons, not_or] at hnp
                have hfa27 := k7 fa2 _ (fun e => hnp.2.2.1 e.symm) (fun e => hnd.1.2.1 e.symm) hfa2
                have hda27 := k7 da2 _ (fun e => hnp.2.2.2.1 e.symm) (fun e => hnd.1.2.2.1 e.symm) hda2
                have hpl7' : H7 pl = some (.lst (lsV L2 ++ [V.ref fa2])) := by
                  rw [hpl7]
                  exact congrArg (fun l => some (HO.lst l)) (lsV_cons (fa2, da2) L2)
                obtain ⟨fnb', gn, d, as, ksb, rowb, eb1, eb2, hb1, eb3, eb4, hbl, hbd, eb5, _⟩ := PI.wf.below.1.ex
                have etg : target c fr2 = d := WaitOk.target eb1 eb3
                obtain ⟨vfn2, hvfn2, rfn2⟩ := get_map rcx eb1
                obtain ⟨fn2a, fn2b, fn2x, rfl, ef2a, ef2b, rf2x⟩ := fn_rp rfn2
                obtain ⟨vr2, hvr2, rvr2⟩ := get_map rf2x eb3
                obtain ⟨ra2, rxs2, rfl, era2, rrx2⟩ := row_rp rvr2
                cases rrx2 with
                | cons q2 rrx2 =>
                  obtain rfl := q2.int_inv
                  have eat : ((fr2.at_ : Nat) : Int) - 1 = ((fr2.at_ - 1 : Nat) : Int) := by omega
                  have hat : atI fn2x (((fr2.at_ : Nat) : Int) - 1) = some (V.ref ra2) := by rw [eat]; exact atI_nat hvr2
                  have tk7 := Same.tk s7
                  refine ⟨_, rfl, _, rfl, _, _, _, _, rfl, rfl, SqL.of hpl7', atI_last _ _, ?_⟩
                  refine ⟨_, rfl, _, rfl, _, _, _, _, rfl, rfl, tk7.sq era, atI_nat (j := 1) rfl, _, _, rfl, rdv H7 s v hda7 ev, ?_⟩
                  refine ⟨_, rfl, _, _, _, _, rfl, rfl, SqL.of hfa27, atI_nat (j := 2) rfl, ?_⟩
                  refine ⟨_, rfl, _, rfl, _, _, _, _, rfl, rfl, SqL.of hfa27, at0, _, _, _, _, rfl, rfl, tk7.sq eca, atI_nat hvfn2, _, _, _, _, rfl, rfl, tk7.sq ef2a, atI_nat (j := 3) rfl, ?_⟩
                  refine ⟨_, rfl, _, _, _, _, rfl, rfl, SqL.of hfa27, atI_nat (j := 1) rfl, _, _, rfl, rfl, _, _, _, _, rfl, rfl, tk7.sq ef2b, hat, _, _, _, _, rfl, rfl, tk7.sq era2, atI_nat (j := 1) rfl, ?_⟩
                  refine ⟨_, _, rfl, .inl ⟨kvs2, .inl (d : Int), hda27, rfl, Nat.lt_of_le_of_lt hkl2 (Nat.lt_of_le_of_lt (by omega : 1010 + i ≤ 30000) (by decide)), rfl⟩, ?_⟩
                  have est : stepIn c t fr (fr2 :: rest2) = .inl ({ fr2 with regs := fr2.regs.set d (some v) } :: rest2) := by
                    unfold stepIn
                    rw [hrow]
                    simp only
                    rw [getR_of ev, etg]
                  have hwl9 : WfL c AA t ({ fr2 with regs := fr2.regs.set d (some v) } :: rest2) := by
                    rcases wf_step G PI.wf with ⟨st', e1, e2⟩ | ⟨v', _, e1, _⟩
                    · rw [est] at e1
                      cases e1
                      exact e2
                    · rw [est] at e1
                      cases e1
                  have nda2 := PI.new da2 (by simp [adrs])
                  have hP : PlI c AA t H pl fuel R (i + 1) ((fa2, da2) :: L2) ({ fr2 with regs := fr2.regs.set d (some v) } :: rest2) (upd H7 da2 (.dK (putK kvs2 (.inl (d : Int)) v.v))) := by
                    refine ⟨same_at s7 nda2, ?_, ⟨⟨putK kvs2 (.inl (d : Int)) v.v, ?_, upd_same, hhold2.set d v, ?_⟩, hrest2.keep (by omega) fun y hy o e => ?_⟩, hwl9, ?_, ?_, fun y hy => PI.new y (by simp only [adrs, List.mem_cons] at hy ⊢; exact .inr (.inr hy)), ?_, by omega, ?_⟩
                    · rw [upd_ne hnp.2.2.2.1]
                      exact hpl7
                    · dsimp only
                      rw [upd_ne (fun e => hnd.2.2.1.1 e)]
                      exact hfa27
                    · have := putK_le kvs2 (.inl (d : Int)) v.v
                      omega
                    · have h1 : y ≠ da2 := fun e => hnd.2.2.2.1 (by rw [← e]; exact hy)
                      have h2 : y ≠ pl := fun e => hnp.2.2.2.2 (by rw [← e]; exact hy)
                      have h3 : y ≠ fa := fun e => hnd.1.2.2.2 (by rw [← e]; exact hy)
                      rw [upd_ne h1]
                      exact k7 y o h2 h3 e
                    · simp only [adrs, List.nodup_cons, List.mem_cons, not_or]
                      exact hnd.2.2
                    · simp only [adrs, List.mem_cons, not_or]
                      exact hnp.2.2
                    · have := PI.len
                      simp only [List.length_cons] at this ⊢
                      omega
                    · rw [est] at hrun'
                      exact hrun'
                  exact wrap _ _ _ _ _ _ _ _ _ _ hP
        · have hng : ∀ s, r ≠ .give s := fun s e => hg ⟨s, e⟩
          have hw1 : decide (V.str r.word = V.str "give") = false := by
            refine decide_eq_false ?_
            cases r <;> first | exact absurd rfl (hng _) | (dsimp only [Row.word]; decide +kernel)
          refine iteC (b := false) hw1 ?_
          refine ⟨_, rfl, rfl, _, rfl, ?_⟩
          have hrd := rd_of G TT hng
          by_cases h1 : ∃ k2, r = .skip k2
          · obtain ⟨k2, rfl⟩ := h1
            refine iteC (b := true) (decide_eq_true rfl) ?_
            cases rrx with
            | cons q1 rrx =>
              obtain rfl := q1.int_inv
              refine ⟨_, rfl, _, _, _, _, rfl, rfl, era5, atI_nat (j := 1) rfl, _, rfl, _, rfl, _, _, _, _, rfl, rfl, SqL.of hpl5, atI_last _ _, _, _, _, _, rfl, rfl, hfa5, ixN_nat (j := 1) (by show 1 < 3; decide), ?_⟩
              refine wrap _ _ _ _ _ _ _ _ _ _ (PI.fin (at9 := k2) (rs9 := fr.regs) (kvs9 := kvs) G hlt (fun y o h1 h2 e => ?_) upd_same ?_ hhold (by omega) ?_)
              · rw [upd_ne h1]
                exact k5 y o h1 e
              · rw [upd_ne (fun e => hnd.1.1 e.symm)]
                exact hda5
              · unfold stepIn
                rw [hrow]
          have hns : ∀ k, r ≠ .skip k := fun k e => h1 ⟨k, e⟩
          have hw2 : decide (V.str r.word = V.str "skip") = false := by
            refine decide_eq_false ?_
            cases r <;> first | exact absurd rfl (hns _) | (dsimp only [Row.word]; decide +kernel)
          refine iteC (b := false) hw2 ?_
          refine ⟨_, rfl, rfl, _, rfl, ?_⟩
          by_cases h2 : ∃ s2 k2, r = .unl s2 k2
          · obtain ⟨s2, k2, rfl⟩ := h2
            refine iteC (b := true) (decide_eq_true rfl) ?_
            obtain ⟨b, hp1⟩ := hrd.tr (i := s2) (by simp [Row.reads]) rfl
            cases rrx with
            | cons q1 rrx => cases rrx with
              | cons q2 rrx =>
                obtain rfl := q1.int_inv
                obtain rfl := q2.int_inv
                refine ⟨_, rfl, _, rfl, _, _, _, _, rfl, rfl, era5, atI_nat (j := 1) rfl, _, _, rfl, rdv H5 s2 (.bl b) hda5 hp1, b, rfl, ?_⟩
                cases b with
                | true =>
                  refine iteC (b := true) rfl ?_
                  refine ⟨_, rfl, _, _, rfl, rfl, _, rfl, _, rfl, _, _, _, _, rfl, rfl, SqL.of hpl5, atI_last _ _, _, _, _, _, rfl, rfl, hfa5, ixN_nat (j := 1) (by show 1 < 3; decide), ?_⟩
                  refine wrap _ _ _ _ _ _ _ _ _ _ (PI.fin (at9 := fr.at_ + 1) (rs9 := fr.regs) (kvs9 := kvs) G hlt (fun y o h1 h2 e => ?_) upd_same ?_ hhold (by omega) ?_)
                  · rw [upd_ne h1]
                    exact k5 y o h1 e
                  · rw [upd_ne (fun e => hnd.1.1 e.symm)]
                    exact hda5
                  · unfold stepIn
                    rw [hrow]
                    show Sum.inl ({ fr with at_ := if (getR fr.regs s2).truth = true then fr.at_ + 1 else k2 } :: rest) = _
                    rw [getR_of hp1]
                    rfl
                | false =>
                  refine iteC (b := false) rfl ?_
                  refine ⟨_, rfl, _, _, _, _, rfl, rfl, era5, atI_nat (j := 2) rfl, _, rfl, _, rfl, _, _, _, _, rfl, rfl, SqL.of hpl5, atI_last _ _, _, _, _, _, rfl, rfl, hfa5, ixN_nat (j := 1) (by show 1 < 3; decide), ?_⟩
                  refine wrap _ _ _ _ _ _ _ _ _ _ (PI.fin (at9 := k2) (rs9 := fr.regs) (kvs9 := kvs) G hlt (fun y o h1 h2 e => ?_) upd_same ?_ hhold (by omega) ?_)
                  · rw [upd_ne h1]
                    exact k5 y o h1 e
                  · rw [upd_ne (fun e => hnd.1.1 e.symm)]
                    exact hda5
                  · unfold stepIn
                    rw [hrow]
                    show Sum.inl ({ fr with at_ := if (getR fr.regs s2).truth = true then fr.at_ + 1 else k2 } :: rest) = _
                    rw [getR_of hp1]
                    rfl
          have hnu : ∀ s k, r ≠ .unl s k := fun s k e => h2 ⟨s, k, e⟩
          have hw3 : decide (V.str r.word = V.str "unless") = false := by
            refine decide_eq_false ?_
            cases r <;> first | exact absurd rfl (hnu _ _) | (dsimp only [Row.word]; decide +kernel)
          refine iteC (b := false) hw3 ?_
          refine ⟨_, rfl, rfl, _, rfl, ?_⟩
          by_cases h3 : ∃ d f2 as, r = .call d f2 as
          · obtain ⟨d, f2, as, rfl⟩ := h3
            refine iteC (b := true) (decide_eq_true rfl) ?_
            obtain ⟨hh, eh, hmy⟩ := hrok.many d f2 as rfl
            obtain ⟨gn, eg, rfl⟩ := heads_get eh
            have hasl : as.length ≤ 1000 := hnum.ex.2
            have hrun' : run c t (fuel - (i + 1)) (i + 1) (begin c f2 (as.map (getR fr.regs)) :: { fr with at_ := fr.at_ + 1 } :: rest) = R := by
              have hr := PI.run
              rw [show fuel - i = (fuel - (i + 1)) + 1 by omega] at hr
              unfold Eo.run stepIn at hr
              rw [hrow] at hr
              exact hr
            have hwl9 : WfL c AA t (begin c f2 (as.map (getR fr.regs)) :: { fr with at_ := fr.at_ + 1 } :: rest) := by
              rcases wf_step G PI.wf with ⟨st', e1, e2⟩ | ⟨v', _, e1, _⟩
              · unfold stepIn at e1
                rw [hrow] at e1
                cases e1
                exact e2
              · unfold stepIn at e1
                rw [hrow] at e1
                cases e1
            cases rrx with
            | cons q1 rrx => cases rrx with
              | cons q2 rrx => cases rrx with
                | cons q3 rrx =>
                  obtain rfl := q1.int_inv
                  obtain rfl := q2.int_inv
                  obtain ⟨p6, nx, rfl, ep6, rnx⟩ := q3.tup_inv
                  obtain rfl : nx = natsV as := nats_v rnx
                  have hp6 := (Same.tk s5).sq ep6
                  refine ⟨_, rfl, .inl ⟨rfl, _, SqL.of hpl5⟩, _, rfl, _, _, _, _, rfl, rfl, era5, atI_nat (j := 2) rfl, _, rfl, _, _, _, _, rfl, rfl, era5, atI_nat (j := 3) rfl, p6, rfl, ⟨_, hp6⟩, fun D hD => lc_pure walk_tup (fun j y => ∃ b, as[j]? = some b ∧ y = (getR fr.regs b).v) (by unfold natsV; rw [List.length_map]; omega) hD (fun H7 s7 => (Same.tk s7).sq hp6) ?_ ?_ gName_mono⟩
                  · rintro j x Ha Hb hj sx ⟨rfl, hxj⟩
                    obtain ⟨n, hn, hm', rfl⟩ := natsV_at hxj
                    obtain ⟨v, hv, _⟩ := hrd n (by simpa [Row.reads] using hm')
                    exact ⟨rfl, fun Q' q' => ⟨_, rfl, _, rfl, _, _, rfl, rdv _ n v (sx _ _ hda5) hv, q' _ _ (Same.refl _) ⟨n, hn, by rw [getR_of hv]⟩⟩⟩
                  · intro H7 ys s57 e hly hPe
                    have eys : ys = (as.map (getR fr.regs)).map Val.v := by
                      apply List.ext_getElem?
                      intro j
                      rw [List.map_map, List.getElem?_map]
                      cases ej : ys[j]? with
                      | none =>
                        have hj := List.getElem?_eq_none_iff.mp ej
                        have hl2 : (natsV as).length = as.length := by unfold natsV; rw [List.length_map]
                        rw [List.getElem?_eq_none (by omega : as.length ≤ j)]
                        rfl
                      | some y =>
                        obtain ⟨b, hb, rfl⟩ := hPe j y ej
                        rw [hb]
                        rfl
                    rw [eys] at e
                    refine ⟨D, _, rfl, .inl (SqL.of e), ?_, fun H8 l1 ts s8 hl1 hl1' hts1 => ?_⟩
                    · simp only [List.length_map]
                      exact Nat.le_trans hasl (by decide)
                    refine ⟨l1, ts, enumKs _, rfl, SqL.of hl1', paired_imp (fun _ _ e => SqT.of e) hts1, fun da2 hda2 => ?_⟩
                    rw [enum_merge]
                    have s58 := s57.trans s8
                    generalize hKV : enumKs ((as.map (getR fr.regs)).map Val.v) = KV
                    have hKl : KV.length = as.length := by rw [← hKV, enumKs_len]; simp
                    have hKh : Hold KV (begin c f2 (as.map (getR fr.regs))).regs := by rw [← hKV]; exact hold_begin
                    refine ⟨(by show 3 ≤ sizeLine; decide), fun fa2 hfa2 => ?_⟩
                    have s59 := s58.trans (same_new (o := .dK KV) hda2)
                    have s510 := s59.trans (same_new (o := .lst [.int (f2 : Nat), .int 0, .ref da2]) hfa2)
                    have hda20 := s58.free hda2
                    have hfa20 := s59.free hfa2
                    have n2 : da2 ≠ fa2 := ne_of_none upd_same hfa2
                    have hpl10 := s510 _ _ hpl5
                    have hlsz : (lsV L').length + 1 ≤ 20001 := by
                      rw [lsV_len]
                      have := PI.len
                      simp only [List.length_cons] at this
                      omega
                    refine ⟨pl, _, _, rfl, rfl, hpl10, ?_, ?_⟩
                    · rw [List.length_append, List.length_singleton]
                      exact Nat.lt_of_le_of_lt hlsz (by decide)
                    have old : ∀ y, (∃ o, H5 y = some o) → y ≠ fa2 ∧ y ≠ da2 := fun y ⟨o, e⟩ => ⟨ne_of_none e hfa20, ne_of_none e hda20⟩
                    have allo : ∀ y ∈ adrs L', ∃ o, H3 y = some o := fun y hy => pls_some hrest y hy
                    have hall : ∀ y ∈ adrs ((fa, da) :: L'), y ≠ fa2 ∧ y ≠ da2 := by
                      intro y hy
                      simp only [adrs, List.mem_cons] at hy
                      rcases hy with rfl | rfl | hy
                      · exact old _ ⟨_, hfa5⟩
                      · exact old _ ⟨_, hda5⟩
                      · obtain ⟨o, e⟩ := allo y hy
                        exact old _ ⟨o, k5 y o (fun q => hnd.1.2 (by rw [← q]; exact hy)) e⟩
                    have npf := old pl ⟨_, hpl5⟩
                    have upl : ∀ y o, y ≠ pl → H5 y = some o → (upd (upd (upd H8 da2 (.dK KV)) fa2 (.lst [.int (f2 : Nat), .int 0, .ref da2])) pl (.lst (lsV L' ++ [V.ref fa] ++ [V.ref fa2]))) y = some o := fun y o h1 e => by
                      rw [upd_ne h1]
                      exact s510 _ _ e
                    have hP : PlI c AA t H pl fuel R (i + 1) ((fa2, da2) :: (fa, da) :: L') (begin c f2 (as.map (getR fr.regs)) :: { fr with at_ := fr.at_ + 1 } :: rest) (upd (upd (upd H8 da2 (.dK KV)) fa2 (.lst [.int (f2 : Nat), .int 0, .ref da2])) pl (.lst (lsV L' ++ [V.ref fa] ++ [V.ref fa2]))) := by
                      refine ⟨same_at (s5.trans s510) hpl0, ?_, ⟨⟨KV, ?_, ?_, hKh, by omega⟩, ⟨⟨kvs, ?_, ?_, hhold, by omega⟩, hrest.keep (by omega) fun y hy o e => ?_⟩⟩, hwl9, ?_, ?_, ?_, ?_, by omega, hrun'⟩
                      · rw [upd_same, lsV_cons, lsV_cons]
                      · dsimp only
                        rw [upd_ne npf.1.symm, upd_same]
                        rfl
                      · dsimp only
                        rw [upd_ne npf.2.symm, upd_ne n2, upd_same]
                      · exact upl _ _ (fun e => hnp.1 e.symm) hfa5
                      · exact upl _ _ (fun e => hnp.2.1 e.symm) hda5
                      · exact upl _ _ (fun q => hnp.2.2 (by rw [← q]; exact hy)) (k5 y o (fun q => hnd.1.2 (by rw [← q]; exact hy)) e)
                      · show (fa2 :: da2 :: adrs ((fa, da) :: L')).Nodup
                        refine List.nodup_cons.mpr ⟨?_, List.nodup_cons.mpr ⟨fun h => (hall da2 h).2 rfl, PI.nd⟩⟩
                        intro h
                        rcases List.mem_cons.mp h with h | h
                        · exact n2 h.symm
                        · exact (hall fa2 h).1 rfl
                      · show pl ∉ fa2 :: da2 :: adrs ((fa, da) :: L')
                        intro h
                        rcases List.mem_cons.mp h with h | h
                        · exact npf.1 h
                        · rcases List.mem_cons.mp h with h | h
                          · exact npf.2 h
                          · exact PI.npl h
                      · intro y hy
                        have hy' : y ∈ fa2 :: da2 :: adrs ((fa, da) :: L') := hy
                        rcases List.mem_cons.mp hy' with rfl | h
                        · exact s5.free hfa20
                        · rcases List.mem_cons.mp h with rfl | h
                          · exact s5.free hda20
                          · exact PI.new y h
                      · have := PI.len
                        simp only [List.length_cons] at this ⊢
                        omega
                    exact wrap _ _ _ _ _ _ _ _ _ _ hP
          have hnc : ∀ d f2 as, r ≠ .call d f2 as := fun d f2 as e => h3 ⟨d, f2, as, e⟩
          have hw4 : decide (V.str r.word = V.str "call") = false := by
            refine decide_eq_false ?_
            cases r <;> first | exact absurd rfl (hnc _ _ _) | (dsimp only [Row.word]; decide +kernel)
          refine iteC (b := false) hw4 ?_
          obtain ⟨d, hd⟩ : ∃ d, r.sets = some d := by
            cases r <;> first | exact ⟨_, rfl⟩ | exact absurd rfl (hns _) | exact absurd rfl (hnu _ _) | exact absurd rfl (hng _)
          obtain ⟨rest', hit⟩ : ∃ rest', r.items = iD d :: rest' := by
            cases r <;> first | (cases hd; exact ⟨_, rfl⟩) | cases hd
          obtain ⟨hp1, hp2⟩ := plain_parts (r := r) ⟨⟨d, hd⟩, hnc⟩ rrx
          have hrl : r.reads.length ≤ 2 := by
            cases r <;> first | exact absurd rfl (hnc _ _ _) | (simp [Row.reads])
          have hxs : ∃ xs', rxs = .int (d : Nat) :: xs' := by
            rw [hit] at rrx
            cases rrx with
            | cons q1 rrx =>
              obtain rfl := q1.int_inv
              exact ⟨_, rfl⟩
          obtain ⟨rxs', rfl⟩ := hxs
          refine ⟨_, rfl, _, rfl, _, rfl, rfl, _, rfl, ?_⟩
          by_cases hh : r.word = "has"
          · refine iteC (b := true) (decide_eq_true (by rw [hh])) ?_
            refine ⟨_, rfl, _, rfl, _, rfl, ra, _, rfl, era5, fun p6 H6 s56 hp6 => ?_⟩
            rw [hp1 hh] at hp6
            refine ⟨p6, rfl, ⟨_, hp6⟩, fun D hD => lc_pure walk_tup (fun j y => ∃ b, r.reads[j]? = some b ∧ y = (getR fr.regs b).v) (by unfold natsV; rw [List.length_map]; omega) hD (fun H7 s7 => (Same.tk s7).sq hp6) ?_ ?_ gName_mono⟩
            · rintro j x Ha Hb hj sx ⟨rfl, hxj⟩
              obtain ⟨n, hn, hm', rfl⟩ := natsV_at hxj
              obtain ⟨v, hv, _⟩ := hrd n (by simpa [Row.reads] using hm')
              exact ⟨rfl, fun Q' q' => ⟨_, rfl, _, rfl, _, _, rfl, rdv _ n v ((s56.trans sx) _ _ hda5) hv, q' _ _ (Same.refl _) ⟨n, hn, by rw [getR_of hv]⟩⟩⟩
            · intro H7 ys s7 e hly hPe
              have eys : ys = r.reads.map fun b => (getR fr.regs b).v := by
                apply List.ext_getElem?
                intro j
                rw [List.getElem?_map]
                cases ej : ys[j]? with
                | none =>
                  have hj := List.getElem?_eq_none_iff.mp ej
                  have hl2 : (natsV r.reads).length = r.reads.length := by unfold natsV; rw [List.length_map]
                  rw [List.getElem?_eq_none (by omega : r.reads.length ≤ j)]
                  rfl
                | some y =>
                  obtain ⟨b, hb, rfl⟩ := hPe j y ej
                  rw [hb]
                  rfl
              have s57 := s56.trans s7
              rw [eys] at e
              refine ⟨mp, D, .ref ra, t, r, fr.regs, rfl, (s5.trans s57) _ _ hm, hts, rvr'.same (s5.trans s57), e, hrd, ⟨⟨d, hd⟩, hnc⟩, fun H8 s8 => ?_⟩
              have s58 := s57.trans s8
              refine ⟨_, rfl, _, rfl, _, _, _, _, rfl, rfl, (Same.tk s58).sq era5, atI_nat (j := 1) rfl, _, _, rfl, .inl ⟨kvs, .inl (d : Int), s58 _ _ hda5, rfl, Nat.lt_of_le_of_lt hkl (Nat.lt_of_le_of_lt (by omega : 1010 + i ≤ 30000) (by decide)), rfl⟩, ?_⟩
              refine wrap _ _ _ _ _ _ _ _ _ _ (PI.fin (at9 := fr.at_ + 1) (rs9 := fr.regs.set d (some (rowVal t fr.regs r))) (kvs9 := putK kvs (.inl (d : Int)) (rowVal t fr.regs r).v) G hlt (fun y o h1 h2 e => ?_) ?_ upd_same (hhold.set d _) ?_ ?_)
              · rw [upd_ne h2]
                exact s58 _ _ (k5 y o h1 e)
              · rw [upd_ne hnd.1.1]
                exact s58 _ _ hfa5
              · have := putK_le kvs (.inl (d : Int)) (rowVal t fr.regs r).v
                omega
              · unfold stepIn
                rw [hrow]
                cases r <;> first | exact absurd rfl (hnc _ _ _) | (cases hd; rfl) | cases hd
          · refine iteC (b := false) (decide_eq_false fun e => hh (V.str.inj e)) ?_
            refine ⟨_, rfl, _, rfl, ra, _, rfl, era5, fun p6 H6 s56 hp6 => ?_⟩
            rw [hp2 hh] at hp6
            refine ⟨p6, rfl, ⟨_, hp6⟩, fun D hD => lc_pure walk_tup (fun j y => ∃ b, r.reads[j]? = some b ∧ y = (getR fr.regs b).v) (by unfold natsV; rw [List.length_map]; omega) hD (fun H7 s7 => (Same.tk s7).sq hp6) ?_ ?_ gName_mono⟩
            · rintro j x Ha Hb hj sx ⟨rfl, hxj⟩
              obtain ⟨n, hn, hm', rfl⟩ := natsV_at hxj
              obtain ⟨v, hv, _⟩ := hrd n (by simpa [Row.reads] using hm')
              exact ⟨rfl, fun Q' q' => ⟨_, rfl, _, rfl, _, _, rfl, rdv _ n v ((s56.trans sx) _ _ hda5) hv, q' _ _ (Same.refl _) ⟨n, hn, by rw [getR_of hv]⟩⟩⟩
            · intro H7 ys s7 e hly hPe
              have eys : ys = r.reads.map fun b => (getR fr.regs b).v := by
                apply List.ext_getElem?
                intro j
                rw [List.getElem?_map]
                cases ej : ys[j]? with
                | none =>
                  have hj := List.getElem?_eq_none_iff.mp ej
                  have hl2 : (natsV r.reads).length = r.reads.length := by unfold natsV; rw [List.length_map]
                  rw [List.getElem?_eq_none (by omega : r.reads.length ≤ j)]
                  rfl
                | some y =>
                  obtain ⟨b, hb, rfl⟩ := hPe j y ej
                  rw [hb]
                  rfl
              have s57 := s56.trans s7
              rw [eys] at e
              refine ⟨mp, D, .ref ra, t, r, fr.regs, rfl, (s5.trans s57) _ _ hm, hts, rvr'.same (s5.trans s57), e, hrd, ⟨⟨d, hd⟩, hnc⟩, fun H8 s8 => ?_⟩
              have s58 := s57.trans s8
              refine ⟨_, rfl, _, rfl, _, _, _, _, rfl, rfl, (Same.tk s58).sq era5, atI_nat (j := 1) rfl, _, _, rfl, .inl ⟨kvs, .inl (d : Int), s58 _ _ hda5, rfl, Nat.lt_of_le_of_lt hkl (Nat.lt_of_le_of_lt (by omega : 1010 + i ≤ 30000) (by decide)), rfl⟩, ?_⟩
              refine wrap _ _ _ _ _ _ _ _ _ _ (PI.fin (at9 := fr.at_ + 1) (rs9 := fr.regs.set d (some (rowVal t fr.regs r))) (kvs9 := putK kvs (.inl (d : Int)) (rowVal t fr.regs r).v) G hlt (fun y o h1 h2 e => ?_) ?_ upd_same (hhold.set d _) ?_ ?_)
              · rw [upd_ne h2]
                exact s58 _ _ (k5 y o h1 e)
              · rw [upd_ne hnd.1.1]
                exact s58 _ _ hfa5
              · have := putK_le kvs (.inl (d : Int)) (rowVal t fr.regs r).v
                omega
              · unfold stepIn
                rw [hrow]
                cases r <;> first | exact absurd rfl (hnc _ _ _) | (cases hd; rfl) | cases hd
  · refine iteC (b := false) (decide_eq_false (by omega)) ?_
    refine ⟨(by show 1 ≤ sizeLine; decide), fun t9 ht9 => ?_⟩
    refine q _ _ (PI.same.trans (same_tup ht9)) ?_
    have hi : i = fuel := by have := PI.le; omega
    subst hi
    rw [← PI.run, Nat.sub_self]
    exact .tup sqT_new (.cons (.str _) .nil)
end
end Eo
set_option linter.all false
set_option maxRecDepth 100000
set_option maxHeartbeats 4000000
/-! E21: a drawn row. -/
namespace Eo
open PySem L2
theorem if_seq2 {c : TT} {x b : TS} {D : Ends} {σ : L2.St} {H : Hp} (C C' : Hp → Prop) (h : ∀ nx' x' : Hp → Prop, (∀ H', C H' → nx' H') → (∀ H', C' H' → x' H') → c σ H fun v H1 => if v = true then x' H1 else nx' H1)
    (hx : ∀ H', C' H' → x { D with nx := b D } σ H') (hb : ∀ H', C H' → b D σ H') : tSeq (tIfS c x tNext) b D σ H := h (fun H' => b D σ H') (fun H' => x { D with nx := b D } σ H') hb hx
/-- a comprehension that lets some through -/
theorem lc_sel {J : It} {n : Nat} {G : Hp → Prop} {Y : Nat → Hp → V → Hp → Prop} (W : Walk J n G Y) {g : TG} {tt : TT} {te : TE} {vs : List Nat} {σ : L2.St} {H1 : Hp} {D : Addr} {Qd : Hp → Prop}
    (Pe : V → Prop) (hn : n ≤ 100000) (hD : H1 D = none) (hG : ∀ H, Same H1 H → G H)
    (hs : ∀ i x H H', i < n → Same H1 H → Y i H x H' → g x (wipe σ vs) H' fun σ2 H2 => wipe σ2 vs = wipe σ vs ∧
      ∀ (A : V → Hp → Prop) (B : Hp → Prop), (∀ y H4, Same H H4 → Pe y → A y H4) → (∀ H4, Same H H4 → B H4) → tt σ2 H2 fun b H3 => if b = true then te σ2 H3 A else B H3)
    (hd : ∀ H ys, Same H1 H → H D = some (.lst ys) → ys.length ≤ n → (∀ y ∈ ys, Pe y) → Qd H)
    (gm : ∀ x σ H Q Q', (∀ σ H, Q σ H → Q' σ H) → g x σ H Q → g x σ H Q') :
    ∃ W : Nat → Nat → Hp → Prop, (∃ m, W 0 m (upd H1 D (.lst []))) ∧ ∀ i m H, W i m H →
      (J.stop i H ∧ Qd H) ∨ (J.go i H ∧ ∃ Nx : Hp → Prop, (∀ H', Nx H' → ∃ m', m' < m ∧ W (i + 1) m' H') ∧ ∀ x H', J.yld i H x H' → g x (wipe σ vs) H' fun σ2 H2 => wipe σ2 vs = wipe σ vs ∧ tt σ2 H2 fun b H3 =>
        if b = true then te σ2 H3 fun y H4 => ∃ acc, H4 D = some (.lst acc) ∧ acc.length < sizeLine ∧ Nx (upd H4 D (.lst (acc ++ [y]))) else Nx H3) := by
  refine lc_it W (fun i H => Same H1 H ∧ ∃ acc, H D = some (.lst acc) ∧ acc.length ≤ i ∧ ∀ y ∈ acc, Pe y) ⟨same_new hD, [], upd_same, Nat.le_refl _, fun y e => (by cases e)⟩ (fun i H _ p => hG H p.1) ?_ ?_
  · rintro i x H H' hi ⟨k, acc, hacc, hlen, hPe⟩ y
    refine gm _ _ _ _ _ (fun σ2 H2 ⟨e, q⟩ => ⟨e, ?_⟩) (hs i x H H' hi k y)
    refine q _ _ (fun z H4 k4 pz => ?_) fun H4 k4 => ⟨k.trans k4, acc, k4 _ _ hacc, by omega, hPe⟩
    refine ⟨acc, k4 _ _ hacc, Nat.lt_of_lt_of_le (by omega : acc.length < 100000) (by decide), same_at (k.trans k4) hD, acc ++ [z], upd_same, by simp; omega, fun w e => ?_⟩
    rcases List.mem_append.mp e with e | e
    · exact hPe w e
    · simp at e
      subst e
      exact pz
  · rintro H ⟨k, acc, hacc, hlen, hPe⟩
    exact hd H acc k hacc hlen hPe
/-- a comprehension whose elements draw -/
theorem lc_draw {J : It} {n : Nat} {G : Hp → Prop} {Y : Nat → Hp → V → Hp → Prop} (W : Walk J n G Y) {g : TG} {te : TE} {vs : List Nat} {σ : L2.St} {H1 : Hp} {D : Addr} {Qd : Hp → Prop} (dk lc : Addr)
    (Pe : Nat → V → Prop) (hd0 : Deck H1 dk lc) (hn : n ≤ 100000) (hD : H1 D = none) (hG : ∀ H, Dr dk lc H1 H → G H)
    (hs : ∀ i x H H', i < n → Dr dk lc H1 H → Y i H x H' → g x (wipe σ vs) H' fun σ2 H2 => wipe σ2 vs = wipe σ vs ∧
      ∀ Q : VK, (∀ y H4, Dr dk lc H H4 → Pe i y → Q y H4) → te σ2 H2 Q)
    (hd : ∀ H ys, Dr dk lc H1 H → H D = some (.lst ys) → ys.length = n → (∀ (i : Nat) y, ys[i]? = some y → Pe i y) → Qd H)
    (gm : ∀ x σ H Q Q', (∀ σ H, Q σ H → Q' σ H) → g x σ H Q → g x σ H Q') :
    ∃ W : Nat → Nat → Hp → Prop, (∃ m, W 0 m (upd H1 D (.lst []))) ∧ ∀ i m H, W i m H →
      (J.stop i H ∧ Qd H) ∨ (J.go i H ∧ ∃ Nx : Hp → Prop, (∀ H', Nx H' → ∃ m', m' < m ∧ W (i + 1) m' H') ∧ ∀ x H', J.yld i H x H' → g x (wipe σ vs) H' fun σ2 H2 => wipe σ2 vs = wipe σ vs ∧ tYes σ2 H2 fun b H3 =>
        if b = true then te σ2 H3 fun y H4 => ∃ acc, H4 D = some (.lst acc) ∧ acc.length < sizeLine ∧ Nx (upd H4 D (.lst (acc ++ [y]))) else Nx H3) := by
  obtain ⟨n1, n2⟩ := hd0.ne hD
  refine lc_it W (fun i H => Dr dk lc H1 H ∧ ∃ acc, H D = some (.lst acc) ∧ acc.length = i ∧ ∀ (j : Nat) y, acc[j]? = some y → Pe j y)
    ⟨hd0.dr (same_new hD), [], upd_same, rfl, fun j y e => by simp at e⟩ (fun i H _ p => hG H p.1) ?_ ?_
  · rintro i x H H' hi ⟨k, acc, hacc, hlen, hPe⟩ y
    refine gm _ _ _ _ _ (fun σ2 H2 ⟨e, q⟩ => ⟨e, ?_⟩) (hs i x H H' hi k y)
    dsimp only [tYes]
    first | rw [if_pos rfl] | skip
    refine q _ fun z H4 k4 pz => ?_
    have hD4 : H4 D = some (.lst acc) := k4.get hacc n1 n2
    refine ⟨acc, hD4, Nat.lt_of_lt_of_le (by omega : acc.length < 100000) (by decide), (k.trans k4).upd hD hD4, acc ++ [z], upd_same, by simp [hlen], fun j w e => ?_⟩
    by_cases hj : j < acc.length
    · rw [List.getElem?_append_left hj] at e
      exact hPe j w e
    · have hj2 : j = acc.length := by
        have := (List.getElem?_eq_some_iff.mp e).1
        simp at this
        omega
      subst hj2
      simp at e
      subst e
      rw [hlen]
      exact pz
  · rintro H ⟨k, acc, hacc, hlen, hPe⟩
    exact hd H acc k hacc hlen hPe
theorem nats_of {ns : List Nat} : ∀ {ys : List V}, (∀ y ∈ ys, ∃ n : Nat, y = .int (n : Int) ∧ n ∈ ns) → ∃ as : List Nat, ys = natsV as ∧ ∀ n ∈ as, n ∈ ns
  | [], _ => ⟨[], rfl, fun n h => by cases h⟩
  | y :: ys, h => by
    obtain ⟨n, rfl, hn⟩ := h y (by simp)
    obtain ⟨as, rfl, has⟩ := nats_of fun z hz => h z (List.mem_cons_of_mem _ hz)
    refine ⟨n :: as, rfl, fun m hm => ?_⟩
    rcases List.mem_cons.mp hm with rfl | hm
    · exact hn
    · exact has m hm
theorem nats_rps {K : PySem.W.Frag} {H : Hp} (as : List Nat) : Rps K H (natsV as) (as.map fun (n : Nat) => Dt.int (n : Int)) := rps_map (fun (n : Nat) => V.int (n : Int)) (fun (n : Nat) => Dt.int (n : Int)) (fun _ => .int _) as
structure RowDr (hs : Heads) (l : KL) (at_ last : Nat) (r : Row) : Prop where
  kd : ∀ i ∈ r.reads, ∃ k, l[i]? = some (some k) ∧ ∀ fk w, r.want fk = some w → k = w
  st : ∀ d, r.sets = some d → d < l.length
  sk : ∀ k, r = .skip k → at_ < k ∧ k ≤ last
  un : ∀ s k, r = .unl s k → at_ < k ∧ k ≤ last
  ca : ∀ d f as, r = .call d f as → ∃ h, hs[f]? = some h ∧ as.length = h.2
  tg : ∀ d s g, r = .has d s g → GoodTag g
  ng : ∀ s, r ≠ .give s
def spDrawn (K : PySem.W.Frag) : Sp := fun vs H Q _ => ∃ (dk lc hl ka : Addr) (hs : Heads) (l : KL) (at_ last : Nat), vs = [.ref dk, .ref hl, .ref ka, .int at_, .int last] ∧ Deck H dk lc ∧ HdAt K H hl hs ∧ 1 ≤ hs.length ∧ hs.length ≤ 1000 ∧ (∀ h ∈ hs, h.2 ≤ 5) ∧
  H ka = some (.lst (l.map kdV)) ∧ 1 ≤ l.length ∧ l.length ≤ 1000 ∧ hl ≠ lc ∧ ka ≠ lc ∧ at_ < last ∧ last ≤ 1000 ∧ ∀ (v : V) (r : Row) (H' : Hp), Dr dk lc H H' → Rp K H' v r.dt → RowDr hs l at_ last r → Q v H'
theorem Deck.neD {H : Hp} {dk lc a : Addr} {xs : List V} (h : Deck H dk lc) (ha : H a = some (.lst xs)) : a ≠ dk := by
  obtain ⟨cs, m, n, h1, _⟩ := h
  intro e
  rw [e, h1] at ha
  cases ha
theorem HdAt.dr {K : PySem.W.Frag} {H H' : Hp} {dk lc hl : Addr} {hs : Heads} (h : HdAt K H hl hs) (d : Dr dk lc H H') (hne : hl ≠ lc) : HdAt K H' hl hs := by
  obtain ⟨vs, e1, e2⟩ := h.ex
  exact ⟨vs, d.get e1 (d.d0.neD e1) hne, e2.tk d.tk⟩
/-- registers of a kind, in a list -/
structure SpAt (l : KL) (k : Kd) (a : Addr) (ns : List Nat) (H : Hp) : Prop where
  e : H a = some (.lst (natsV ns))
  k : ∀ n ∈ ns, l[n]? = some (some k)
  len : ns.length ≤ l.length
theorem sp_of {l : KL} {k : Kd} : ∀ {ys : List V}, (∀ y ∈ ys, ∃ n : Nat, y = .int (n : Int) ∧ l[n]? = some (some k)) → ∃ ns : List Nat, ys = natsV ns ∧ ∀ n ∈ ns, l[n]? = some (some k)
  | [], _ => ⟨[], rfl, fun n h => by cases h⟩
  | y :: ys, h => by
    obtain ⟨n, rfl, hn⟩ := h y (by simp)
    obtain ⟨ns, rfl, hns⟩ := sp_of fun z hz => h z (List.mem_cons_of_mem _ hz)
    refine ⟨n :: ns, rfl, fun m hm => ?_⟩
    rcases List.mem_cons.mp hm with rfl | hm
    · exact hn
    · exact hns m hm
structure DS (K : PySem.W.Frag) (dk lc hl sp tr : Addr) (hs : Heads) (l : KL) (ns ms : List Nat) (H Hx : Hp) : Prop where
  d : Dr dk lc H Hx
  h : HdAt K Hx hl hs
  eS : SpAt l .place sp ns Hx
  eT : SpAt l .truth tr ms Hx
  n1 : hl ≠ lc
  n2 : sp ≠ lc
  n3 : tr ≠ lc
section
variable {K : PySem.W.Frag} {dk lc hl sp tr : Addr} {hs : Heads} {l : KL} {ns ms : List Nat} {H Hx Hy : Hp}
theorem DS.dr (a : DS K dk lc hl sp tr hs l ns ms H Hx) (d : Dr dk lc Hx Hy) : DS K dk lc hl sp tr hs l ns ms H Hy :=
  ⟨a.d.trans d, a.h.dr d a.n1, ⟨d.get a.eS.e (d.d0.neD a.eS.e) a.n2, a.eS.k, a.eS.len⟩, ⟨d.get a.eT.e (d.d0.neD a.eT.e) a.n3, a.eT.k, a.eT.len⟩, a.n1, a.n2, a.n3⟩
theorem DS.same (a : DS K dk lc hl sp tr hs l ns ms H Hx) (s : Same Hx Hy) : DS K dk lc hl sp tr hs l ns ms H Hy := a.dr (a.d.d.dr s)
theorem natsV_len (ns : List Nat) : (natsV ns).length = ns.length := by unfold natsV; rw [List.length_map]
theorem natsV_emp (ns : List Nat) : (natsV ns).isEmpty = ns.isEmpty := by cases ns <;> rfl
end
theorem words4 {i : Nat} {v : V} (h : ([V.str "top", V.str "yes", V.str "no", V.str "top"])[i]? = some v) (d : Nat) : ∃ r : Row, v = .str r.word ∧ r.items = [iD d] ∧ r.reads = [] ∧ r.sets = some d ∧ (∀ k, r ≠ .skip k) ∧ (∀ s k, r ≠ .unl s k) ∧ (∀ d f as, r ≠ .call d f as) ∧ (∀ d s g, r ≠ .has d s g) ∧ ∀ s, r ≠ .give s := by
  match i, h with
  | 0, h => cases h; exact ⟨.top d, rfl, rfl, rfl, rfl, by simp, by simp, by simp, by simp, by simp⟩
  | 1, h => cases h; exact ⟨.yes d, rfl, rfl, rfl, rfl, by simp, by simp, by simp, by simp, by simp⟩
  | 2, h => cases h; exact ⟨.no d, rfl, rfl, rfl, rfl, by simp, by simp, by simp, by simp, by simp⟩
  | 3, h => cases h; exact ⟨.top d, rfl, rfl, rfl, rfl, by simp, by simp, by simp, by simp, by simp⟩
  | n + 4, h => cases h
theorem words5 {i : Nat} {v : V} (h : ([V.str "left", V.str "right", V.str "up", V.str "empty", V.str "empty"])[i]? = some v) (d s : Nat) : ∃ r : Row, v = .str r.word ∧ r.items = [iD d, iD s] ∧ r.reads = [s] ∧ r.sets = some d ∧ (∀ fk, r.want fk = some .place) ∧ (∀ k, r ≠ .skip k) ∧ (∀ s k, r ≠ .unl s k) ∧ (∀ d f as, r ≠ .call d f as) ∧ (∀ d s g, r ≠ .has d s g) ∧ ∀ s, r ≠ .give s := by
  match i, h with
  | 0, h => cases h; exact ⟨.left d s, rfl, rfl, rfl, rfl, fun _ => rfl, by simp, by simp, by simp, by simp, by simp⟩
  | 1, h => cases h; exact ⟨.right d s, rfl, rfl, rfl, rfl, fun _ => rfl, by simp, by simp, by simp, by simp, by simp⟩
  | 2, h => cases h; exact ⟨.up d s, rfl, rfl, rfl, rfl, fun _ => rfl, by simp, by simp, by simp, by simp, by simp⟩
  | 3, h => cases h; exact ⟨.empty d s, rfl, rfl, rfl, rfl, fun _ => rfl, by simp, by simp, by simp, by simp, by simp⟩
  | 4, h => cases h; exact ⟨.empty d s, rfl, rfl, rfl, rfl, fun _ => rfl, by simp, by simp, by simp, by simp, by simp⟩
  | n + 5, h => cases h
theorem tag6 {i : Nat} {v : V} (h : ([V.str "a", V.str "b", V.str "ab", V.str "call", V.str "give", V.str "abcdefgh"])[i]? = some v) : ∃ g : Str, v = .str g ∧ GoodTag g := by
  match i, h with
  | 0, h => cases h; exact ⟨"a", rfl, by unfold GoodTag; decide +kernel⟩
  | 1, h => cases h; exact ⟨"b", rfl, by unfold GoodTag; decide +kernel⟩
  | 2, h => cases h; exact ⟨"ab", rfl, by unfold GoodTag; decide +kernel⟩
  | 3, h => cases h; exact ⟨"call", rfl, by unfold GoodTag; decide +kernel⟩
  | 4, h => cases h; exact ⟨"give", rfl, by unfold GoodTag; decide +kernel⟩
  | 5, h => cases h; exact ⟨"abcdefgh", rfl, by unfold GoodTag; decide +kernel⟩
  | n + 6, h => cases h
section
variable {P : Program} {w : World} {K : PySem.W.Frag} {mg : Str → Option Value} {base : Heap} {Z : Wh}
theorem ok_law_drawn_row (T : Tx w K mg Z) : FnOk P w K mg base CX0 3 (Z.A 51) (Z.D 51) ["_law_deck_here", "_law_heads_here", "_law_kinds", "_law_at", "_law_last"] (spDrawn K) := by
  refine T.law_drawn_row.F.ok sc_law_drawn_row (fun vs H Q E h => ?_) (fun cdv A outer s H vs Q E hr h => ?_)
  · obtain ⟨dk, lc, hl, ka, hs, l, at_, last, rfl, hd, hh, hh1, hh2, hh5, hka, hl1, hl2, hne1, hne2, hat, hla, q⟩ := h
    rfl
  have hu := hu_of hr
  have hu0 := Nat.lt_of_succ_lt hu
  obtain ⟨dk, lc, hl, ka, hs, l, at_, last, rfl, hd, hh, hh1, hh2, hh5, hka, hl1, hl2, hne1, hne2, hat, hla, q⟩ := h
  refine ⟨_, (pss_cons (ps_asg (pe_tup (pa_cons (pe_lc (own := [("_law_x", 7), ("_law_kind", 8)]) (g := gTup K 2 (gCons (gName 7) (gCons (gName 8) gNil))) rfl sc_law_drawn_row.nd (pi_enum rfl T.enumerate_ (pa_cons (pv 2) pa_nil)) (blkOk_by (own := [("_law_x", 7), ("_law_kind", 8)]) (N := N_law_drawn_row) (sc := defScope s_law_drawn_row) (by decide +kernel)) (fun _ _ _ _ _ => (pg_tup rfl (pgs_cons (pg_name (i := 7) sc_law_drawn_row.nd rfl (by first | exact Or.inl rfl | exact Or.inr rfl)) (pgs_cons (pg_name (i := 8) sc_law_drawn_row.nd rfl (by first | exact Or.inl rfl | exact Or.inr rfl)) pgs_nil)))) (fun _ _ _ _ _ => pts_one (pt_cmpR op_eq (pv 8) pe_str (nomark _))) (fun _ _ _ _ _ => (pv 7))) (pa_cons (pe_lc (own := [("_law_x", 7), ("_law_kind", 8)]) (g := gTup K 2 (gCons (gName 7) (gCons (gName 8) gNil))) rfl sc_law_drawn_row.nd (pi_enum rfl T.enumerate_ (pa_cons (pv 2) pa_nil)) (blkOk_by (own := [("_law_x", 7), ("_law_kind", 8)]) (N := N_law_drawn_row) (sc := defScope s_law_drawn_row) (by decide +kernel)) (fun _ _ _ _ _ => (pg_tup rfl (pgs_cons (pg_name (i := 7) sc_law_drawn_row.nd rfl (by first | exact Or.inl rfl | exact Or.inr rfl)) (pgs_cons (pg_name (i := 8) sc_law_drawn_row.nd rfl (by first | exact Or.inl rfl | exact Or.inr rfl)) pgs_nil)))) (fun _ _ _ _ _ => pts_one (pt_cmpR op_eq (pv 8) pe_str (nomark _))) (fun _ _ _ _ _ => (pv 7))) pa_nil))) (pg_tup rfl (pgs_cons (pg_name (i := 5) sc_law_drawn_row.nd rfl (by first | exact Or.inl rfl | exact Or.inr rfl)) (pgs_cons (pg_name (i := 6) sc_law_drawn_row.nd rfl (by first | exact Or.inl rfl | exact Or.inr rfl)) pgs_nil)))) (pss_cons (ps_par (i := 9) (j := 10) (by rfl) sc_law_drawn_row.nd rfl rfl (by decide) rfl rfl (pa_cons (pe_call (ok_law_draw T) (hr.mono (by decide)) rfl T.law_draw.m T.law_draw.F.kp T.law_draw.b .nil pass0 (pa_cons (pv 0) (pa_cons (pe_callB call_len rfl T.len_ bt_len (pa_cons (pv 2) pa_nil)) pa_nil))) (pa_cons (pe_call (ok_law_draw T) (hr.mono (by decide)) rfl T.law_draw.m T.law_draw.F.kp T.law_draw.b .nil pass0 (pa_cons (pv 0) (pa_cons pe_int pa_nil))) pa_nil)) (by rfl)) (pss_cons (ps_set (i := 11) sc_law_drawn_row.nd rfl (by first | exact Or.inl rfl | exact Or.inr rfl) (pe_call (ok_law_draw T) (hr.mono (by decide)) rfl T.law_draw.m T.law_draw.F.kp T.law_draw.b .nil pass0 (pa_cons (pv 0) (pa_cons (pe_callB call_len rfl T.len_ bt_len (pa_cons (pv 1) pa_nil)) pa_nil)))) (pss_cons (ps_if (PW.pt (pw_and (pt_cmpR op_lt (pv 10) pe_int (nomark _)) (pw_and1 (PW.pt (pw_or (pt_cmpR op_eq (pe_ix ix_tup (pe_ix ix_list (pv 1) (pv 11) (fun _ _ => rfl)) pe_int (fun _ _ => rfl)) pe_int (nomark _)) (pw_or1 (pt_cmpR (op_neNil hu0) (pv 5) (pe_lst pa_nil) (nomark _)))))))) (pss_one (ps_ret (pe_tup (pa_cons pe_str (pa_cons (pv 9) (pa_cons (pv 11) (pa_cons (pe_callTy call_tuple_of rfl T.tuple_ bt_tuple (pa_cons (pe_lc (own := [("_law_turn", 12)]) (g := gName 12) (tt := tYes) rfl sc_law_drawn_row.nd (pi_range1 rfl T.range_ (pa_cons (pe_ix ix_tup (pe_ix ix_list (pv 1) (pv 11) (fun _ _ => rfl)) pe_int (fun _ _ => rfl)) pa_nil)) (blkOk_by (own := [("_law_turn", 12)]) (N := N_law_drawn_row) (sc := defScope s_law_drawn_row) (by decide +kernel)) (fun _ _ _ _ _ => (pg_name (i := 12) sc_law_drawn_row.nd rfl (by first | exact Or.inl rfl | exact Or.inr rfl))) (fun _ _ _ _ _ => pts_nil) (fun _ _ _ _ _ => (pe_call (ok_law_pick T) (hr.mono (by decide)) rfl T.law_pick.m T.law_pick.F.kp T.law_pick.b .nil pass0 (pa_cons (pv 0) (pa_cons (pv 5) pa_nil))))) pa_nil)) pa_nil))))))) pss_nil) (pss_cons (ps_if (PW.pt (pw_and (pt_cmpR op_lt (pv 10) pe_int (nomark _)) (pw_and1 (pt_cmpR (op_neNil hu0) (pv 6) (pe_lst pa_nil) (nomark _))))) (pss_one (ps_ret (pe_tup (pa_cons pe_str (pa_cons (pe_call (ok_law_pick T) (hr.mono (by decide)) rfl T.law_pick.m T.law_pick.F.kp T.law_pick.b .nil pass0 (pa_cons (pv 0) (pa_cons (pv 6) pa_nil))) (pa_cons (pe_op op_add (pe_op op_add (pv 3) pe_int) (pe_call (ok_law_draw T) (hr.mono (by decide)) rfl T.law_draw.m T.law_draw.F.kp T.law_draw.b .nil pass0 (pa_cons (pv 0) (pa_cons (pe_op op_sub (pv 4) (pv 3)) pa_nil)))) pa_nil)))))) pss_nil) (pss_cons (ps_if (PW.pt (pw_and (pt_cmpR op_eq (pv 10) pe_int (nomark _)) (pw_and1 (pt_cmpR (op_neNil hu0) (pv 6) (pe_lst pa_nil) (nomark _))))) (pss_one (ps_ret (pe_tup (pa_cons pe_str (pa_cons (pv 9) (pa_cons (pe_call (ok_law_pick T) (hr.mono (by decide)) rfl T.law_pick.m T.law_pick.F.kp T.law_pick.b .nil pass0 (pa_cons (pv 0) (pa_cons (pv 6) pa_nil))) pa_nil)))))) pss_nil) (pss_cons (ps_if (PW.pt (pw_and (pt_cmpR op_eq (pv 10) pe_int (nomark _)) (pw_and1 (pt_cmpR (op_neNil hu0) (pe_op op_cat (pv 5) (pv 6)) (pe_lst pa_nil) (nomark _))))) (pss_one (ps_ret (pe_tup (pa_cons pe_str (pa_cons (pv 9) (pa_cons (pe_call (ok_law_pick T) (hr.mono (by decide)) rfl T.law_pick.m T.law_pick.F.kp T.law_pick.b .nil pass0 (pa_cons (pv 0) (pa_cons (pe_op op_cat (pv 5) (pv 6)) pa_nil))) pa_nil)))))) pss_nil) (pss_cons (ps_if (PW.pt (pw_or (pt_cmpR (op_eqNil hu0) (pv 5) (pe_lst pa_nil) (nomark _)) (pw_or1 (pt_cmpR op_eq (pv 10) pe_int (nomark _))))) (pss_one (ps_ret (pe_tup (pa_cons (pe_call (ok_law_pick T) (hr.mono (by decide)) rfl T.law_pick.m T.law_pick.F.kp T.law_pick.b .nil pass0 (pa_cons (pv 0) (pa_cons (pe_tup (pa_cons pe_str (pa_cons pe_str (pa_cons pe_str (pa_cons pe_str pa_nil))))) pa_nil))) (pa_cons (pv 9) pa_nil))))) pss_nil) (pss_cons (ps_set (i := 13) sc_law_drawn_row.nd rfl (by first | exact Or.inl rfl | exact Or.inr rfl) (pe_call (ok_law_pick T) (hr.mono (by decide)) rfl T.law_pick.m T.law_pick.F.kp T.law_pick.b .nil pass0 (pa_cons (pv 0) (pa_cons (pv 5) pa_nil)))) (pss_cons (ps_if (pt_cmpR op_eq (pv 10) pe_int (nomark _)) (pss_one (ps_ret (pe_tup (pa_cons pe_str (pa_cons (pe_op op_add (pe_op op_add (pv 3) pe_int) (pe_call (ok_law_draw T) (hr.mono (by decide)) rfl T.law_draw.m T.law_draw.F.kp T.law_draw.b .nil pass0 (pa_cons (pv 0) (pa_cons (pe_op op_sub (pv 4) (pv 3)) pa_nil)))) pa_nil))))) pss_nil) (pss_cons (ps_if (pt_cmpR op_eq (pv 10) pe_int (nomark _)) (pss_one (ps_ret (pe_tup (pa_cons pe_str (pa_cons (pv 9) (pa_cons (pv 13) (pa_cons (pe_call (ok_law_pick T) (hr.mono (by decide)) rfl T.law_pick.m T.law_pick.F.kp T.law_pick.b .nil pass0 (pa_cons (pv 0) (pa_cons (pv 5) pa_nil))) pa_nil))))))) pss_nil) (pss_cons (ps_if (pt_cmpR op_eq (pv 10) pe_int (nomark _)) (pss_one (ps_ret (pe_tup (pa_cons pe_str (pa_cons (pv 9) (pa_cons (pv 13) (pa_cons (pe_call (ok_law_pick T) (hr.mono (by decide)) rfl T.law_pick.m T.law_pick.F.kp T.law_pick.b .nil pass0 (pa_cons (pv 0) (pa_cons (pe_tup (pa_cons pe_str (pa_cons pe_str (pa_cons pe_str (pa_cons pe_str (pa_cons pe_str (pa_cons pe_str pa_nil))))))) pa_nil))) pa_nil))))))) pss_nil) (pss_one (ps_ret (pe_tup (pa_cons (pe_call (ok_law_pick T) (hr.mono (by decide)) rfl T.law_pick.m T.law_pick.F.kp T.law_pick.b .nil pass0 (pa_cons (pv 0) (pa_cons (pe_tup (pa_cons pe_str (pa_cons pe_str (pa_cons pe_str (pa_cons pe_str (pa_cons pe_str pa_nil)))))) pa_nil))) (pa_cons (pv 9) (pa_cons (pv 13) pa_nil)))))))))))))))))), ?_⟩
  refine ⟨_, rfl, ka, _, rfl, SqL.of hka, fun Dsp hDsp => lc_sel walk_enum (fun y => ∃ n : Nat, y = .int (n : Int) ∧ l[n]? = some (some Kd.place)) (by rw [List.length_map]; omega) hDsp (fun Hy sy => SqL.of (sy _ _ hka)) ?_ ?_ gPair_mono⟩
  · rintro i z H3 H4 hi hs ⟨t3, z1, z2, rfl, ht3, rfl, hz1, hz2⟩
    dsimp only at hz1 hz2
    rw [List.getElem?_map] at hz2
    cases ey : l[i]? with
    | none => rw [ey] at hz2; cases hz2
    | some a =>
      rw [ey] at hz2
      cases hz1
      cases hz2
      refine pair_go ⟨rfl, fun A B hA hB => ?_⟩
      refine ⟨_, rfl, scal_kd a (some Kd.place), _, rfl, ?_⟩
      by_cases hk : a = some Kd.place
      · refine iteC (b := true) (decide_eq_true (by rw [hk]; rfl)) ?_
        exact ⟨_, rfl, hA _ _ (same_tup ht3) ⟨i, rfl, by rw [ey, hk]⟩⟩
      · refine iteC (b := false) (decide_eq_false fun e => hk (kdV_inj.mp (show kdV a = kdV (some Kd.place) from e))) ?_
        exact hB _ (same_tup ht3)
  intro H1 ys s1 e1 hy1 hp1
  obtain ⟨ns, rfl, hns⟩ := sp_of hp1
  refine ⟨_, rfl, ka, _, rfl, SqL.of (s1 _ _ hka), fun Dtr hDtr => lc_sel walk_enum (fun y => ∃ n : Nat, y = .int (n : Int) ∧ l[n]? = some (some Kd.truth)) (by rw [List.length_map]; omega) hDtr (fun Hy sy => SqL.of (sy _ _ (s1 _ _ hka))) ?_ ?_ gPair_mono⟩
  · rintro i z H3 H4 hi hs ⟨t3, z1, z2, rfl, ht3, rfl, hz1, hz2⟩
    dsimp only at hz1 hz2
    rw [List.getElem?_map] at hz2
    cases ey : l[i]? with
    | none => rw [ey] at hz2; cases hz2
    | some a =>
      rw [ey] at hz2
      cases hz1
      cases hz2
      refine pair_go ⟨rfl, fun A B hA hB => ?_⟩
      refine ⟨_, rfl, scal_kd a (some Kd.truth), _, rfl, ?_⟩
      by_cases hk : a = some Kd.truth
      · refine iteC (b := true) (decide_eq_true (by rw [hk]; rfl)) ?_
        exact ⟨_, rfl, hA _ _ (same_tup ht3) ⟨i, rfl, by rw [ey, hk]⟩⟩
      · refine iteC (b := false) (decide_eq_false fun e => hk (kdV_inj.mp (show kdV a = kdV (some Kd.truth) from e))) ?_
        exact hB _ (same_tup ht3)
  intro H2 ys s2 e2 hy2 hp2
  obtain ⟨ms, rfl, hms⟩ := sp_of hp2
  rw [natsV_len, List.length_map] at hy1 hy2
  refine ⟨(by show 2 ≤ sizeLine; decide), fun tp htp => ⟨_, _, rfl, SqT.of upd_same, rfl, _, _, rfl, _, _, rfl, rfl, ?_⟩⟩
  replace s2 := s2.trans (same_new (o := .tup [V.ref Dsp, V.ref Dtr]) htp)
  replace e2 := (same_new (o := .tup [V.ref Dsp, V.ref Dtr]) htp) _ _ e2
  generalize hH2' : upd H2 tp (.tup [V.ref Dsp, V.ref Dtr]) = H2' at s2 e2
  have s12 := s1.trans s2
  have n2 := (hd.ne hDsp).2
  have n3 := ((hd.same s1).ne hDtr).2
  have B0 : DS K dk lc hl Dsp Dtr hs l ns ms H H2' := ⟨hd.dr s12, hh.dr (hd.dr s12) hne1, ⟨s2 _ _ e1, hns, hy1⟩, ⟨e2, hms, hy2⟩, hne1, n2, n3⟩
  have hka2 := s12 _ _ hka
  refine ⟨_, rfl, _, rfl, _, _, rfl, .inl ⟨_, SqL.of hka2, rfl⟩, dk, lc, (l.map kdV).length, rfl, B0.d.d, by rw [List.length_map]; omega, by rw [List.length_map]; omega, fun d H3 hd3 d3 => ?_⟩
  rw [List.length_map] at hd3
  have B3 := B0.dr d3
  refine ⟨_, rfl, dk, lc, 16, rfl, B3.d.d, by omega, by omega, fun way H4 hway d4 => ?_⟩
  have B4 := B3.dr d4
  refine ⟨_, _, rfl, ?_⟩
  obtain ⟨hv, ehv, rhv⟩ := B4.h.ex
  have hvl : hv.length = hs.length := by rw [rhv.len, List.length_map]
  refine ⟨_, rfl, _, rfl, _, _, rfl, .inl ⟨_, SqL.of ehv, rfl⟩, dk, lc, hv.length, rfl, B4.d.d, by omega, by omega, fun f H5 hf5 d5 => ?_⟩
  have B5 := B4.dr d5
  have hf5' : f < hs.length := by omega
  -- call
  dsimp only [gName]
  refine if_seq2 (fun Hx => DS K dk lc hl Dsp Dtr hs l ns ms H Hx) (fun Hx => DS K dk lc hl Dsp Dtr hs l ns ms H Hx ∧ ∃ h, hs[f]? = some h ∧ (h.2 = 0 ∨ ns ≠ [])) (fun nx x hn hx => ?_) (fun Hx B => ?_) (fun Hx B => ?_)
  · obtain ⟨hv5, ha5, ehv5, hvf, hat5, _⟩ := hd_at B5.h (List.getElem?_eq_getElem hf5')
    refine ⟨_, rfl, _, _, rfl, rfl, _, rfl, ?_⟩
    by_cases hw : (way : Int) < 4
    · refine iteC (b := true) (decide_eq_true hw) ?_
      refine ⟨_, rfl, _, rfl, _, _, _, _, rfl, rfl, SqL.of ehv5, atI_nat hvf, _, _, _, _, rfl, rfl, hat5, atI_nat (j := 1) rfl, rfl, _, rfl, ?_⟩
      by_cases h0 : (hs[f]).2 = 0
      · refine iteC (b := true) (decide_eq_true (by rw [h0]; rfl)) ?_
        exact hx _ ⟨B5, _, List.getElem?_eq_getElem hf5', .inl h0⟩
      · refine iteC (b := false) (decide_eq_false fun e => h0 (by have := V.int.inj e; omega)) ?_
        refine ⟨_, rfl, (by show 0 ≤ sizeLine; decide), fun e0 he0 => ⟨_, _, _, rfl, rfl, SqL.of (same_new he0 _ _ B5.eS.e), SqL.of upd_same, _, rfl, ?_⟩⟩
        by_cases hz : ns = []
        · refine iteC (b := false) (by rw [hz]; rfl) ?_
          exact hn _ (B5.same (same_new he0))
        · refine iteC (b := true) (by cases hq : ns with | nil => exact absurd hq hz | cons a b => rfl) ?_
          exact hx _ ⟨B5.same (same_new he0), _, List.getElem?_eq_getElem hf5', .inr hz⟩
    · refine iteC (b := false) (decide_eq_false hw) ?_
      exact hn _ B5
  · obtain ⟨B, h, hf, hz⟩ := B
    obtain ⟨hv6, ha6, ehv6, hvf6, hat6, _⟩ := hd_at B.h hf
    have h5 : h.2 ≤ 5 := hh5 h (List.mem_of_getElem? hf)
    have hnn : ((h.2 : Nat) : Int).toNat = h.2 := by omega
    refine ⟨_, rfl, _, rfl, _, rfl, _, rfl, _, _, _, _, rfl, rfl, SqL.of ehv6, atI_nat hvf6, _, _, _, _, rfl, rfl, hat6, atI_nat (j := 1) rfl, _, rfl, by omega, by omega, fun D hD => lc_draw (walk_range (lo := 0)) dk lc (fun _ y => ∃ n : Nat, y = .int (n : Int) ∧ n ∈ ns) B.d.d (by omega) hD (fun _ _ => trivial) ?_ ?_ gName_mono⟩
    · rintro i x H6 H7 hi d6 ⟨rfl, rfl⟩
      have hz' : ns ≠ [] := by
        rcases hz with hz | hz
        · omega
        · exact hz
      have B6 := B.dr d6
      refine ⟨rfl, fun Q' q' => ⟨_, rfl, _, rfl, dk, lc, Dsp, natsV ns, rfl, B6.d.d, .inl ⟨B6.eS.e, B6.n2⟩, by rw [natsV_len]; exact List.length_pos_iff.mpr hz', by rw [natsV_len]; have := B6.eS.len; omega, fun i1 v1 H8 hi1 d8 => ?_⟩⟩
      obtain ⟨n, _, hm, rfl⟩ := natsV_at hi1
      exact q' _ _ d8 ⟨n, rfl, hm⟩
    · intro H6 ys d6 e6 hly hPe
      obtain ⟨as, rfl, has⟩ : ∃ as : List Nat, ys = natsV as ∧ ∀ n ∈ as, n ∈ ns := nats_of fun y hy => by
        obtain ⟨j, hj⟩ := List.mem_iff_getElem?.mp hy
        exact hPe j y hj
      rw [natsV_len] at hly
      have B6 := B.dr d6
      refine ⟨D, _, rfl, .inl ⟨SqL.of e6, fun tA htA => ⟨(by show 4 ≤ sizeLine; decide), fun p hp => ?_⟩⟩⟩
      have B7 := B6.same (same_new (o := .tup (natsV as)) htA)
      have B8 := B7.same (same_new (o := .tup [V.str "call", V.int (d : Int), V.int (f : Int), V.ref tA]) hp)
      refine q _ (.call d f as) _ B8.d (Rp.new hp (.cons (.str _) (.cons (.int _) (.cons (.int _) (.cons (.tup sqT_new (nats_rps as)) .nil))))) ⟨fun i hi => ⟨.place, B.eS.k i (has i hi), fun fk w hw => by cases hw; rfl⟩, fun d' e => (by cases e; exact hd3), fun _ e => (by cases e), fun _ _ e => (by cases e), fun d' f' as' e => (by cases e; exact ⟨h, hf, by omega⟩), fun _ _ _ e => (by cases e), fun _ e => (by cases e)⟩
  -- unless
  dsimp only [tSeq]
  refine if_seq2 (fun Hx => DS K dk lc hl Dsp Dtr hs l ns ms H Hx) (fun Hx => DS K dk lc hl Dsp Dtr hs l ns ms H Hx ∧ ms ≠ []) (fun nx x hn hx => ?_) (fun Hx B => ?_) (fun Hx B => ?_)
  · refine ⟨_, rfl, _, _, rfl, rfl, _, rfl, ?_⟩
    by_cases hw : (way : Int) < 7
    · refine iteC (b := true) (decide_eq_true hw) ?_
      refine ⟨_, rfl, (by show 0 ≤ sizeLine; decide), fun e0 he0 => ⟨_, _, _, rfl, rfl, SqL.of (same_new he0 _ _ B.eT.e), SqL.of upd_same, _, rfl, ?_⟩⟩
      by_cases hz : ms = []
      · refine iteC (b := false) (by rw [hz]; rfl) ?_
        exact hn _ (B.same (same_new he0))
      · refine iteC (b := true) (by cases hq : ms with | nil => exact absurd hq hz | cons a b => rfl) ?_
        exact hx _ ⟨B.same (same_new he0), hz⟩
    · refine iteC (b := false) (decide_eq_false hw) ?_
      exact hn _ B
  · obtain ⟨B, hz⟩ := B
    refine ⟨_, rfl, _, rfl, dk, lc, Dtr, natsV ms, rfl, B.d.d, .inl ⟨B.eT.e, B.n3⟩, by rw [natsV_len]; exact List.length_pos_iff.mpr hz, by rw [natsV_len]; have := B.eT.len; omega, fun i1 v1 H6 hi1 d6 => ?_⟩
    obtain ⟨n, _, hm, rfl⟩ := natsV_at hi1
    have B6 := B.dr d6
    refine ⟨_, rfl, _, _, rfl, rfl, _, rfl, _, rfl, _, rfl, _, _, rfl, rfl, dk, lc, last - at_, ?_, B6.d.d, by omega, by omega, fun r H7 hr7 d7 => ⟨_, _, rfl, rfl, (by show 3 ≤ sizeLine; decide), fun p hp => ?_⟩⟩
    · show [V.ref dk, V.int ((last : Int) - (at_ : Int))] = _
      rw [show (last : Int) - (at_ : Int) = ((last - at_ : Nat) : Int) by omega]
    have B8 := (B6.dr d7).same (same_new (o := .tup [V.str "unless", V.int (n : Int), V.int ((at_ : Int) + 1 + (r : Int))]) hp)
    have er : ((at_ : Int) + 1 + (r : Int)) = ((at_ + 1 + r : Nat) : Int) := by omega
    refine q _ (.unl n (at_ + 1 + r)) _ B8.d (Rp.new hp (.cons (.str _) (.cons (.int _) (.cons ?_ .nil)))) ⟨fun i hi => ⟨.truth, B.eT.k i (by simp [Row.reads] at hi; subst hi; exact hm), fun fk w hw => by cases hw; rfl⟩, fun d' e => by (cases e), fun _ e => (by cases e), fun _ _ e => (by cases e; omega), fun _ _ _ e => (by cases e), fun _ _ _ e => (by cases e), fun _ e => (by cases e)⟩
    show Rp K H7 (V.int ((at_ : Int) + 1 + (r : Int))) (iD (at_ + 1 + r))
    rw [er]
    exact .int _
  -- not
  dsimp only [tSeq]
  refine if_seq2 (fun Hx => DS K dk lc hl Dsp Dtr hs l ns ms H Hx) (fun Hx => DS K dk lc hl Dsp Dtr hs l ns ms H Hx ∧ ms ≠ []) (fun nx x hn hx => ?_) (fun Hx B => ?_) (fun Hx B => ?_)
  · refine ⟨_, rfl, rfl, _, rfl, ?_⟩
    by_cases hw : V.int (way : Int) = V.int 7
    · refine iteC (b := true) (decide_eq_true hw) ?_
      refine ⟨_, rfl, (by show 0 ≤ sizeLine; decide), fun e0 he0 => ⟨_, _, _, rfl, rfl, SqL.of (same_new he0 _ _ B.eT.e), SqL.of upd_same, _, rfl, ?_⟩⟩
      by_cases hz : ms = []
      · refine iteC (b := false) (by rw [hz]; rfl) ?_
        exact hn _ (B.same (same_new he0))
      · refine iteC (b := true) (by cases hq : ms with | nil => exact absurd hq hz | cons a b => rfl) ?_
        exact hx _ ⟨B.same (same_new he0), hz⟩
    · refine iteC (b := false) (decide_eq_false hw) ?_
      exact hn _ B
  · obtain ⟨B, hz⟩ := B
    refine ⟨_, rfl, _, rfl, _, rfl, dk, lc, Dtr, natsV ms, rfl, B.d.d, .inl ⟨B.eT.e, B.n3⟩, by rw [natsV_len]; exact List.length_pos_iff.mpr hz, by rw [natsV_len]; have := B.eT.len; omega, fun i1 v1 H6 hi1 d6 => ?_⟩
    obtain ⟨n, _, hm, rfl⟩ := natsV_at hi1
    refine ⟨(by show 3 ≤ sizeLine; decide), fun p hp => ?_⟩
    have B8 := (B.dr d6).same (same_new (o := .tup [V.str "not", V.int (d : Int), V.int (n : Int)]) hp)
    exact q _ (.not d n) _ B8.d (Rp.new hp (.cons (.str _) (.cons (.int _) (.cons (.int _) .nil)))) ⟨fun i hi => ⟨.truth, B.eT.k i (by simp [Row.reads] at hi; subst hi; exact hm), fun fk w hw => by cases hw; rfl⟩, fun d' e => (by cases e; exact hd3), fun _ e => (by cases e), fun _ _ e => (by cases e), fun _ _ _ e => (by cases e), fun _ _ _ e => (by cases e), fun _ e => (by cases e)⟩
  -- move
  dsimp only [tSeq]
  refine if_seq2 (fun Hx => DS K dk lc hl Dsp Dtr hs l ns ms H Hx) (fun Hx => DS K dk lc hl Dsp Dtr hs l ns ms H Hx ∧ ns ++ ms ≠ []) (fun nx x hn hx => ?_) (fun Hx B => ?_) (fun Hx B => ?_)
  · refine ⟨_, rfl, rfl, _, rfl, ?_⟩
    by_cases hw : V.int (way : Int) = V.int 8
    · refine iteC (b := true) (decide_eq_true hw) ?_
      refine ⟨_, rfl, _, rfl, _, _, _, _, rfl, rfl, B.eS.e, B.eT.e, ?_, fun p hp => ⟨(by show 0 ≤ sizeLine; decide), fun e0 he0 => ⟨_, _, _, rfl, rfl, SqL.of (same_new he0 _ _ upd_same), SqL.of upd_same, _, rfl, ?_⟩⟩⟩
      · rw [natsV_len, natsV_len]
        exact Nat.le_trans (by have := B.eS.len; have := B.eT.len; omega : ns.length + ms.length ≤ 2000) (by decide)
      have Bq := (B.same (same_new (o := .lst (natsV ns ++ natsV ms)) hp)).same (same_new (o := .lst []) he0)
      by_cases hz : ns ++ ms = []
      · refine iteC (b := false) (by rw [← natsV_app, hz]; rfl) ?_
        exact hn _ Bq
      · refine iteC (b := true) (by rw [← natsV_app]; cases hq : ns ++ ms with | nil => exact absurd hq hz | cons a b => rfl) ?_
        exact hx _ ⟨Bq, hz⟩
    · refine iteC (b := false) (decide_eq_false hw) ?_
      exact hn _ B
  · obtain ⟨B, hz⟩ := B
    have hz2 : (natsV ns ++ natsV ms).length = (ns ++ ms).length := by rw [← natsV_app, natsV_len]
    have hz3 : ns.length + ms.length ≤ 2000 := by have := B.eS.len; have := B.eT.len; omega
    refine ⟨_, rfl, _, rfl, _, rfl, _, rfl, _, _, _, _, rfl, rfl, B.eS.e, B.eT.e, ?_, fun p hp => ?_⟩
    · rw [natsV_len, natsV_len]
      exact Nat.le_trans hz3 (by decide)
    have Bq := B.same (same_new (o := .lst (natsV ns ++ natsV ms)) hp)
    refine ⟨dk, lc, p, _, rfl, Bq.d.d, .inl ⟨upd_same, (B.d.d.ne hp).2⟩, by rw [hz2]; exact List.length_pos_iff.mpr hz, by rw [hz2, List.length_append]; omega, fun i1 v1 H6 hi1 d6 => ?_⟩
    rw [← natsV_app] at hi1
    obtain ⟨n, _, hm, rfl⟩ := natsV_at hi1
    refine ⟨(by show 3 ≤ sizeLine; decide), fun p2 hp2 => ?_⟩
    have B8 := (Bq.dr d6).same (same_new (o := .tup [V.str "move", V.int (d : Int), V.int (n : Int)]) hp2)
    have hk : ∃ k, l[n]? = some (some k) := by
      rcases List.mem_append.mp hm with hm | hm
      · exact ⟨_, B.eS.k n hm⟩
      · exact ⟨_, B.eT.k n hm⟩
    obtain ⟨k, hk⟩ := hk
    exact q _ (.move d n) _ B8.d (Rp.new hp2 (.cons (.str _) (.cons (.int _) (.cons (.int _) .nil)))) ⟨fun i hi => ⟨k, (by simp [Row.reads] at hi; subst hi; exact hk), fun fk w hw => by cases hw⟩, fun d' e => (by cases e; exact hd3), fun _ e => (by cases e), fun _ _ e => (by cases e), fun _ _ _ e => (by cases e), fun _ _ _ e => (by cases e), fun _ e => (by cases e)⟩
  -- set
  dsimp only [tSeq]
  refine if_seq2 (fun Hx => DS K dk lc hl Dsp Dtr hs l ns ms H Hx ∧ ns ≠ []) (fun Hx => DS K dk lc hl Dsp Dtr hs l ns ms H Hx) (fun nx x hn hx => ?_) (fun Hx B => ?_) (fun Hx B => ?_)
  · refine ⟨_, rfl, (by show 0 ≤ sizeLine; decide), fun e0 he0 => ⟨_, _, _, rfl, rfl, SqL.of (same_new he0 _ _ B.eS.e), SqL.of upd_same, _, rfl, ?_⟩⟩
    have Bq := B.same (same_new (o := .lst []) he0)
    by_cases hz : ns = []
    · refine iteC (b := true) (by rw [hz]; rfl) ?_
      exact hx _ Bq
    · refine iteC (b := false) (by cases hq : ns with | nil => exact absurd hq hz | cons a b => rfl) ?_
      refine ⟨_, rfl, rfl, _, rfl, ?_⟩
      by_cases hw : V.int (way : Int) = V.int 9
      · refine iteC (b := true) (decide_eq_true hw) ?_
        exact hx _ Bq
      · refine iteC (b := false) (decide_eq_false hw) ?_
        exact hn _ ⟨Bq, hz⟩
  · refine ⟨_, rfl, (by show 4 ≤ sizeLine; decide), fun t1 ht1 => ?_⟩
    have Bq := B.same (same_new (o := .tup [V.str "top", V.str "yes", V.str "no", V.str "top"]) ht1)
    refine ⟨dk, lc, t1, _, rfl, Bq.d.d, .inr sqT_new, by decide, by decide, fun i1 v1 H6 hi1 d6 => ?_⟩
    obtain ⟨r, rfl, hit, hrd, hst, w1, w2, w3, w4, w5⟩ := words4 hi1 d
    refine ⟨_, rfl, (by show 2 ≤ sizeLine; decide), fun p hp => ?_⟩
    have B8 := (Bq.dr d6).same (same_new (o := .tup [V.str r.word, V.int (d : Int)]) hp)
    refine q _ r _ B8.d (Rp.new hp (.cons (.str _) ?_)) ⟨fun i hi => by (rw [hrd] at hi; cases hi), fun d' e => by (rw [hst] at e; cases e; exact hd3), fun k e => absurd e (w1 k), fun s k e => absurd e (w2 s k), fun d f as e => absurd e (w3 d f as), fun d s g e => absurd e (w4 d s g), w5⟩
    rw [hit]
    exact .cons (.int _) .nil
  obtain ⟨B, hz⟩ := B
  dsimp only [tSeq]
  refine ⟨_, rfl, _, rfl, dk, lc, Dsp, natsV ns, rfl, B.d.d, .inl ⟨B.eS.e, B.n2⟩, by rw [natsV_len]; exact List.length_pos_iff.mpr hz, by rw [natsV_len]; have := B.eS.len; omega, fun i1 v1 H6 hi1 d6 => ?_⟩
  obtain ⟨sr, _, hm, rfl⟩ := natsV_at hi1
  have hsk := B.eS.k sr hm
  have B6 := B.dr d6
  dsimp only [gName]
  refine if_seq2 (fun Hx => DS K dk lc hl Dsp Dtr hs l ns ms H Hx) (fun Hx => DS K dk lc hl Dsp Dtr hs l ns ms H Hx) (fun nx x hn hx => ?_) (fun Hx B => ?_) (fun Hx B => ?_)
  · refine ⟨_, rfl, rfl, _, rfl, ?_⟩
    by_cases hw : V.int (way : Int) = V.int 10
    · exact iteC (b := true) (decide_eq_true hw) (hx _ B6)
    · exact iteC (b := false) (decide_eq_false hw) (hn _ B6)
  · refine ⟨_, rfl, _, _, rfl, rfl, _, rfl, _, rfl, _, rfl, _, _, rfl, rfl, dk, lc, last - at_, ?_, B.d.d, by omega, by omega, fun r H7 hr7 d7 => ⟨_, _, rfl, rfl, (by show 2 ≤ sizeLine; decide), fun p hp => ?_⟩⟩
    · show [V.ref dk, V.int ((last : Int) - (at_ : Int))] = _
      rw [show (last : Int) - (at_ : Int) = ((last - at_ : Nat) : Int) by omega]
    have B8 := (B.dr d7).same (same_new (o := .tup [V.str "skip", V.int ((at_ : Int) + 1 + (r : Int))]) hp)
    have er : ((at_ : Int) + 1 + (r : Int)) = ((at_ + 1 + r : Nat) : Int) := by omega
    refine q _ (.skip (at_ + 1 + r)) _ B8.d (Rp.new hp (.cons (.str _) (.cons ?_ .nil))) ⟨fun i hi => (by cases hi), fun d' e => by (cases e), fun _ e => (by cases e; omega), fun _ _ e => (by cases e), fun _ _ _ e => (by cases e), fun _ _ _ e => (by cases e), fun _ e => (by cases e)⟩
    show Rp K H7 (V.int ((at_ : Int) + 1 + (r : Int))) (iD (at_ + 1 + r))
    rw [er]
    exact .int _
  dsimp only [tSeq]
  refine if_seq2 (fun Hx => DS K dk lc hl Dsp Dtr hs l ns ms H Hx) (fun Hx => DS K dk lc hl Dsp Dtr hs l ns ms H Hx) (fun nx x hn hx => ?_) (fun Hx B => ?_) (fun Hx B => ?_)
  · refine ⟨_, rfl, rfl, _, rfl, ?_⟩
    by_cases hw : V.int (way : Int) = V.int 11
    · exact iteC (b := true) (decide_eq_true hw) (hx _ B)
    · exact iteC (b := false) (decide_eq_false hw) (hn _ B)
  · refine ⟨_, rfl, _, rfl, _, rfl, _, rfl, dk, lc, Dsp, natsV ns, rfl, B.d.d, .inl ⟨B.eS.e, B.n2⟩, by rw [natsV_len]; exact List.length_pos_iff.mpr hz, by rw [natsV_len]; have := B.eS.len; omega, fun i1 v1 H7 hi1 d7 => ?_⟩
    obtain ⟨n, _, hm2, rfl⟩ := natsV_at hi1
    refine ⟨(by show 4 ≤ sizeLine; decide), fun p hp => ?_⟩
    have B8 := (B.dr d7).same (same_new (o := .tup [V.str "same", V.int (d : Int), V.int (sr : Int), V.int (n : Int)]) hp)
    exact q _ (.same d sr n) _ B8.d (Rp.new hp (.cons (.str _) (.cons (.int _) (.cons (.int _) (.cons (.int _) .nil))))) ⟨fun i hi => ⟨.place, (by
      simp [Row.reads] at hi
      rcases hi with rfl | rfl
      · exact hsk
      · exact B.eS.k _ hm2), fun fk w hw => by cases hw; rfl⟩, fun d' e => (by cases e; exact hd3), fun _ e => (by cases e), fun _ _ e => (by cases e), fun _ _ _ e => (by cases e), fun _ _ _ e => (by cases e), fun _ e => (by cases e)⟩
  dsimp only [tSeq]
  refine if_seq2 (fun Hx => DS K dk lc hl Dsp Dtr hs l ns ms H Hx) (fun Hx => DS K dk lc hl Dsp Dtr hs l ns ms H Hx) (fun nx x hn hx => ?_) (fun Hx B => ?_) (fun Hx B => ?_)
  · refine ⟨_, rfl, rfl, _, rfl, ?_⟩
    by_cases hw : V.int (way : Int) = V.int 12
    · exact iteC (b := true) (decide_eq_true hw) (hx _ B)
    · exact iteC (b := false) (decide_eq_false hw) (hn _ B)
  · refine ⟨_, rfl, _, rfl, _, rfl, (by show 6 ≤ sizeLine; decide), fun t1 ht1 => ?_⟩
    have Bq := B.same (same_new (o := .tup [V.str "a", V.str "b", V.str "ab", V.str "call", V.str "give", V.str "abcdefgh"]) ht1)
    refine ⟨dk, lc, t1, _, rfl, Bq.d.d, .inr sqT_new, by decide, by decide, fun i1 v1 H7 hi1 d7 => ?_⟩
    obtain ⟨g, rfl, hg⟩ := tag6 hi1
    refine ⟨(by show 4 ≤ sizeLine; decide), fun p hp => ?_⟩
    have B8 := (Bq.dr d7).same (same_new (o := .tup [V.str "has", V.int (d : Int), V.int (sr : Int), V.str g]) hp)
    exact q _ (.has d sr g) _ B8.d (Rp.new hp (.cons (.str _) (.cons (.int _) (.cons (.int _) (.cons (.str _) .nil))))) ⟨fun i hi => ⟨.place, (by simp [Row.reads] at hi; subst hi; exact hsk), fun fk w hw => by cases hw; rfl⟩, fun d' e => (by cases e; exact hd3), fun _ e => (by cases e), fun _ _ e => (by cases e), fun _ _ _ e => (by cases e), fun _ _ _ e => (by cases e; exact hg), fun _ e => (by cases e)⟩
  refine ⟨_, rfl, (by show 5 ≤ sizeLine; decide), fun t1 ht1 => ?_⟩
  have Bq := B.same (same_new (o := .tup [V.str "left", V.str "right", V.str "up", V.str "empty", V.str "empty"]) ht1)
  refine ⟨dk, lc, t1, _, rfl, Bq.d.d, .inr sqT_new, by decide, by decide, fun i1 v1 H7 hi1 d7 => ?_⟩
  obtain ⟨r, rfl, hit, hrd, hst, hwt, w1, w2, w3, w4, w5⟩ := words5 hi1 d sr
  refine ⟨_, rfl, _, rfl, (by show 3 ≤ sizeLine; decide), fun p hp => ?_⟩
  have B8 := (Bq.dr d7).same (same_new (o := .tup [V.str r.word, V.int (d : Int), V.int (sr : Int)]) hp)
  refine q _ r _ B8.d (Rp.new hp (.cons (.str _) ?_)) ⟨fun i hi => ⟨.place, (by rw [hrd] at hi; simp at hi; subst hi; exact hsk), fun fk w hw => by rw [hwt] at hw; cases hw; rfl⟩, fun d' e => by (rw [hst] at e; cases e; exact hd3), fun k e => absurd e (w1 k), fun s k e => absurd e (w2 s k), fun d f as e => absurd e (w3 d f as), fun d s g e => absurd e (w4 d s g), w5⟩
  rw [hit]
  exact .cons (.int _) (.cons (.int _) .nil)
end
end Eo
set_option linter.all false
set_option maxRecDepth 100000
set_option maxHeartbeats 4000000
/-! E22: drawn functions are typed (plain). -/
namespace Eo
open PySem
structure RowIn (hs : Heads) (fk : Kd) (l : KL) (at_ last : Nat) (r : Row) : Prop where
  rd : ∀ i ∈ r.reads, ∃ k, l[i]? = some (some k) ∧ ∀ w, r.want fk = some w → k = w
  st : ∀ d, r.sets = some d → d < l.length
  sk : ∀ k, r = .skip k → at_ < k ∧ k ≤ last
  un : ∀ s k, r = .unl s k → at_ < k ∧ k ≤ last
  ca : ∀ d f as, r = .call d f as → ∃ h, hs[f]? = some h ∧ as.length = h.2
  tg : ∀ d s g, r = .has d s g → GoodTag g
theorem RowDr.inn {hs : Heads} {l : KL} {at_ last : Nat} {r : Row} (h : RowDr hs l at_ last r) (fk : Kd) : RowIn hs fk l at_ last r :=
  ⟨fun i hi => let ⟨k, e, w⟩ := h.kd i hi; ⟨k, e, w fk⟩, h.st, h.sk, h.un, h.ca, h.tg⟩
theorem RowIn.give {hs : Heads} {fk : Kd} {l : KL} {at_ last s : Nat} (h : l[s]? = some (some fk)) : RowIn hs fk l at_ last (.give s) :=
  ⟨fun i hi => ⟨fk, (by simp [Row.reads] at hi; subst hi; exact h), fun w hw => by cases hw; rfl⟩, fun d e => (by cases e), fun k e => (by cases e), fun s k e => (by cases e), fun d f as e => (by cases e), fun d s g e => (by cases e)⟩
theorem RowIn.num {hs : Heads} {fk : Kd} {l : KL} {at_ size : Nat} {r : Row} (h : RowIn hs fk l at_ (size - 2) r) (hsz : 2 ≤ size) (h5 : ∀ x ∈ hs, x.2 ≤ 5) : NumOk hs l.length size r at_ := by
  refine ⟨fun i hi => ?_, h.st, ?_⟩
  · obtain ⟨k, e, _⟩ := h.rd i hi
    exact (List.getElem?_eq_some_iff.mp e).1
  · cases r with
    | call d f as =>
      obtain ⟨x, e, hl⟩ := h.ca d f as rfl
      have := h5 x (List.mem_of_getElem? e)
      exact ⟨(List.getElem?_eq_some_iff.mp e).1, by omega⟩
    | skip k =>
      have := h.sk k rfl
      exact ⟨this.1, by omega⟩
    | unl s k =>
      have := h.un s k rfl
      exact ⟨this.1, by omega⟩
    | has d s g => exact h.tg d s g rfl
    | _ => exact trivial
structure Bs (B B' : List (Option KL)) (ts : List Nat) (k : Ks) (regs : Nat) : Prop where
  len : B'.length = B.length
  off : ∀ (t : Nat), t ∉ ts → B'[t]? = B[t]?
  dn : ∀ (t : Nat) (l0 : KL), B[t]? = some (some l0) → ∃ l1, B'[t]? = some (some l1) ∧ Le (kf l1) (kf l0)
  on : ∀ t ∈ ts, ∃ l1, B'[t]? = some (some l1) ∧ Le (kf l1) k
  ln : ∀ (t : Nat) (l : KL), B'[t]? = some (some l) → l.length = regs
theorem Bs.nil {B : List (Option KL)} {k : Ks} {regs : Nat} (h : ∀ (t : Nat) (l : KL), B[t]? = some (some l) → l.length = regs) : Bs B B [] k regs :=
  ⟨rfl, fun _ _ => rfl, fun t l0 e => ⟨l0, e, Le.refl _⟩, fun t ht => (by cases ht), h⟩
/-- one more target -/
theorem Bs.snoc {B B' : List (Option KL)} {ts : List Nat} {l : KL} {regs t : Nat} {o : Option KL} (h : Bs B B' ts (kf l) regs) (hl : l.length = regs) (ho : B'[t]? = some o) : Bs B (B'.set t (some (joinO o l))) (ts ++ [t]) (kf l) regs := by
  have htl : t < B'.length := (List.getElem?_eq_some_iff.mp ho).1
  have self : (B'.set t (some (joinO o l)))[t]? = some (some (joinO o l)) := List.getElem?_set_self htl
  have oth : ∀ (u : Nat), u ≠ t → (B'.set t (some (joinO o l)))[u]? = B'[u]? := fun u hu => List.getElem?_set_ne (fun e => hu e.symm)
  have jl : (joinO o l).length = regs := by
    cases o with
    | none => exact hl
    | some b =>
      have hb := h.ln t b ho
      exact (joinL_len (by rw [hb, hl])).trans hb
  have jr : Le (kf (joinO o l)) (kf l) := by
    cases o with
    | none => exact Le.refl _
    | some b => exact joinL_le.2
  refine ⟨by rw [List.length_set]; exact h.len, fun u hu => ?_, fun u l0 e => ?_, fun u hu => ?_, fun u l1 e => ?_⟩
  · rw [oth u (fun e => hu (by simp [e]))]
    exact h.off u (fun e => hu (by simp [e]))
  · obtain ⟨l1, e1, le1⟩ := h.dn u l0 e
    by_cases hu : u = t
    · subst hu
      rw [e1] at ho
      cases ho
      exact ⟨_, self, Le.trans joinL_le.1 le1⟩
    · exact ⟨l1, by rw [oth u hu]; exact e1, le1⟩
  · by_cases hut : u = t
    · subst hut
      exact ⟨_, self, jr⟩
    · have hu' : u ∈ ts := by
        rcases List.mem_append.mp hu with hu | hu
        · exact hu
        · simp at hu
          exact absurd hu hut
      obtain ⟨l1, e1, le1⟩ := h.on u hu'
      exact ⟨l1, by rw [oth u hut]; exact e1, le1⟩
  · by_cases hut : u = t
    · subst hut
      rw [self] at e
      cases e
      exact jl
    · rw [oth u hut] at e
      exact h.ln u l1 e
structure OI (hs : Heads) (fk : Kd) (many regs size at_ : Nat) (B : List (Option KL)) (rows : List Row) : Prop where
  bl : B.length = size
  rl : rows.length = at_
  ln : ∀ (t : Nat) (l : KL), B[t]? = some (some l) → l.length = regs
  st : ∃ l0, B[0]? = some (some l0) ∧ ∀ i k, kf l0 i = some k → i < many ∧ k = .place
  num : ∀ (j : Nat) (r : Row), rows[j]? = some r → NumOk hs regs size r j
  ok : ∀ (j : Nat) (r : Row) (l : KL), rows[j]? = some r → B[j]? = some (some l) → (∀ i ∈ r.reads, ∃ k, kf l i = some k ∧ ∀ w, r.want fk = some w → k = w) ∧ ∀ d f as, r = .call d f as → ∃ h, hs[f]? = some h ∧ as.length = h.2
  to : ∀ (j : Nat) (r : Row) (l : KL), rows[j]? = some r → B[j]? = some (some l) → ∀ t ∈ r.succs j, t ≤ size - 2 ∧ ∃ l', B[t]? = some (some l') ∧ Le (kf l') (after hs r (kf l))
section
variable {hs : Heads} {fk : Kd} {many regs size at_ : Nat} {B B' : List (Option KL)} {rows : List Row} {r : Row}
theorem OI.start (hsz : 2 ≤ size) (hm : many ≤ regs) : OI hs fk many regs size 0 (some (start0 many regs) :: List.replicate (size - 1) none) [] := by
  have key : ∀ (t : Nat) (l : KL), (some (start0 many regs) :: List.replicate (size - 1) (none : Option KL))[t]? = some (some l) → l = start0 many regs := by
    intro t l e
    cases t with
    | zero => cases e; rfl
    | succ t =>
      rw [List.getElem?_cons_succ, List.getElem?_replicate] at e
      split at e <;> cases e
  refine ⟨by rw [List.length_cons, List.length_replicate]; omega, rfl, fun t l e => ?_, ⟨_, rfl, fun i k e => ?_⟩, fun j r e => by (simp at e), fun j r l e => by (simp at e), fun j r l e => by (simp at e)⟩
  · rw [key t l e]
    exact start0_len hm
  · have e := kf_get e
    unfold start0 at e
    by_cases hi : i < many
    · rw [List.getElem?_append_left (by simpa using hi), List.getElem?_replicate, if_pos hi] at e
      cases e
      exact ⟨hi, rfl⟩
    · rw [List.getElem?_append_right (by simpa using hi), List.getElem?_replicate] at e
      split at e <;> cases e
theorem succs_gt {at_ last : Nat} {l : KL} (h : RowIn hs fk l at_ last r) (hat : at_ < last) : ∀ t ∈ r.succs at_, at_ < t ∧ t ≤ last := by
  intro t ht
  cases r with
  | skip k =>
    simp [Row.succs] at ht
    subst ht
    exact h.sk _ rfl
  | unl s k =>
    simp [Row.succs] at ht
    rcases ht with rfl | rfl
    · omega
    · exact h.un _ _ rfl
  | give s => cases ht
  | _ =>
    simp [Row.succs] at ht
    omega
theorem OI.next {l0 : KL} (h : OI hs fk many regs size at_ B rows) (hsz : 2 ≤ size) (hat : at_ < size - 2) (h5 : ∀ x ∈ hs, x.2 ≤ 5) (hr : RowIn hs fk l0 at_ (size - 2) r) (hl0 : l0.length = regs) (hl : ∀ (l : KL), B[at_]? = some (some l) → l = l0)
    (hB : B[at_]? = some none → B' = B) (hB2 : ∀ (l : KL), B[at_]? = some (some l) → Bs B B' (r.succs at_) (after hs r (kf l)) regs) : OI hs fk many regs size (at_ + 1) B' (rows ++ [r]) := by
  have hgt := succs_gt hr hat
  have hal : at_ < B.length := by rw [h.bl]; omega
  have facts : B'.length = B.length ∧ (∀ (t : Nat), t ≤ at_ → B'[t]? = B[t]?) ∧ (∀ (t : Nat) (l0 : KL), B[t]? = some (some l0) → ∃ l1, B'[t]? = some (some l1) ∧ Le (kf l1) (kf l0)) ∧ ∀ (t : Nat) (l : KL), B'[t]? = some (some l) → l.length = regs := by
    cases e : B[at_]? with
    | none => rw [List.getElem?_eq_none_iff] at e; omega
    | some o =>
      cases o with
      | none =>
        rw [hB e]
        exact ⟨rfl, fun _ _ => rfl, fun t l0 e => ⟨l0, e, Le.refl _⟩, h.ln⟩
      | some l =>
        have b := hB2 l e
        exact ⟨b.len, fun t ht => b.off t fun hm => by have := (hgt t hm).1; omega, b.dn, b.ln⟩
  obtain ⟨f1, f2, f3, f4⟩ := facts
  have rget : ∀ (j : Nat) (x : Row), (rows ++ [r])[j]? = some x → (j < at_ ∧ rows[j]? = some x) ∨ (j = at_ ∧ x = r) := by
    intro j x e
    by_cases hj : j < rows.length
    · rw [List.getElem?_append_left hj] at e
      exact .inl ⟨by rw [← h.rl]; exact hj, e⟩
    · have hj2 : j = rows.length := by
        have := (List.getElem?_eq_some_iff.mp e).1
        simp at this
        omega
      subst hj2
      simp at e
      exact .inr ⟨h.rl, e.symm⟩
  refine ⟨by rw [f1]; exact h.bl, by simp [h.rl], f4, ?_, fun j x e => ?_, fun j x l e el => ?_, fun j x l e el => ?_⟩
  · obtain ⟨l1, e1, k1⟩ := h.st
    exact ⟨l1, by rw [f2 0 (Nat.zero_le _)]; exact e1, k1⟩
  · rcases rget j x e with ⟨hj, e⟩ | ⟨rfl, rfl⟩
    · exact h.num j x e
    · rw [← hl0]
      exact hr.num hsz h5
  · rcases rget j x e with ⟨hj, e⟩ | ⟨rfl, rfl⟩
    · rw [f2 j (by omega)] at el
      exact h.ok j x l e el
    · rw [f2 j (Nat.le_refl _)] at el
      obtain rfl := hl l el
      exact ⟨fun i hi => let ⟨k, ek, w⟩ := hr.rd i hi; ⟨k, kf_of ek, w⟩, hr.ca⟩
  · rcases rget j x e with ⟨hj, e⟩ | ⟨rfl, rfl⟩
    · rw [f2 j (by omega)] at el
      intro t ht
      obtain ⟨h1, l', e', le'⟩ := h.to j x l e el t ht
      obtain ⟨l1, e1, le1⟩ := f3 t l' e'
      exact ⟨h1, l1, e1, Le.trans le1 le'⟩
    · rw [f2 j (Nat.le_refl _)] at el
      intro t ht
      obtain ⟨l1, e1, le1⟩ := (hB2 l el).on t ht
      exact ⟨(hgt t ht).2, l1, e1, le1⟩
/-- the row before the last -/
structure LastRow (hs : Heads) (fk : Kd) (d : Nat) (r : Row) : Prop where
  rd : r.reads = []
  st : r.sets = some d
  ks : ∀ ks, kindSet hs ks r = some fk
  su : ∀ j, r.succs j = [j + 1]
  nx : ∀ len at_, NumX hs len r at_
  nc : ∀ d f as, r ≠ .call d f as
theorem OI.typed {d : Nat} (h : OI hs fk many regs size (size - 2) B rows) (hsz : 2 ≤ size) (hd : d < regs) (hm : many ≤ regs) (hr : LastRow hs fk d r) : Typed hs ⟨fk, many, regs, rows ++ [r, .give d]⟩ := by
  have hlen : (rows ++ [r, Row.give d]).length = size := by
    rw [List.length_append, h.rl]
    show size - 2 + 2 = size
    omega
  have rget : ∀ (j : Nat) (x : Row), (rows ++ [r, Row.give d])[j]? = some x → (j < size - 2 ∧ rows[j]? = some x) ∨ (j = size - 2 ∧ x = r) ∨ (j = size - 1 ∧ x = .give d) := by
    intro j x e
    have hj3 : j < size := by
      have := (List.getElem?_eq_some_iff.mp e).1
      omega
    by_cases hj : j < rows.length
    · rw [List.getElem?_append_left hj] at e
      exact .inl ⟨by rw [← h.rl]; exact hj, e⟩
    · rw [List.getElem?_append_right (by omega), h.rl] at e
      rw [h.rl] at hj
      by_cases h2 : j = size - 2
      · subst h2
        rw [Nat.sub_self] at e
        cases e
        exact .inr (.inl ⟨rfl, rfl⟩)
      · have h3 : j - (size - 2) = 1 := by omega
        rw [h3] at e
        cases e
        exact .inr (.inr ⟨by omega, rfl⟩)
  let A : Nat → Option Ks := fun i => if i = size - 1 then some (fun j => if j = d then some fk else none) else (B[i]?).join.map kf
  have A1 : A (size - 1) = some (fun j => if j = d then some fk else none) := if_pos rfl
  have A2 : ∀ i, i ≠ size - 1 → A i = (B[i]?).join.map kf := fun i hi => if_neg hi
  have A3 : ∀ i ks, i ≠ size - 1 → A i = some ks → ∃ l, B[i]? = some (some l) ∧ ks = kf l := by
    intro i ks hi e
    rw [A2 i hi] at e
    cases q : B[i]? with
    | none => rw [q] at e; cases e
    | some o =>
      cases o with
      | none => rw [q] at e; cases e
      | some l =>
        rw [q] at e
        cases e
        exact ⟨l, rfl, rfl⟩
  refine ⟨A, ?_, ?_, hm, fun j x e => ?_, fun j x ks e ea => ?_, fun j x ks e ea => ?_⟩
  · obtain ⟨l0, e0, k0⟩ := h.st
    refine ⟨kf l0, ?_, k0⟩
    rw [A2 0 (by omega), e0]
    rfl
  · show 0 < (rows ++ [r, Row.give d]).length
    rw [hlen]
    omega
  · show NumOk hs regs (rows ++ [r, Row.give d]).length x j
    rw [hlen]
    rcases rget j x e with ⟨_, e⟩ | ⟨rfl, rfl⟩ | ⟨rfl, rfl⟩
    · exact h.num j x e
    · exact ⟨fun i hi => by (rw [hr.rd] at hi; cases hi), fun d' e => by (rw [hr.st] at e; cases e; exact hd), hr.nx _ _⟩
    · exact ⟨fun i hi => by (simp [Row.reads] at hi; subst hi; exact hd), fun d' e => by (cases e), trivial⟩
  · show RowOk hs fk (rows ++ [r, Row.give d]).length x j ks
    rw [hlen]
    rcases rget j x e with ⟨hj, e⟩ | ⟨rfl, rfl⟩ | ⟨rfl, rfl⟩
    · obtain ⟨l, el, rfl⟩ := A3 j ks (by omega) ea
      exact ⟨fun _ => by omega, (h.ok j x l e el).1, (h.ok j x l e el).2⟩
    · exact ⟨fun _ => by omega, fun i hi => by (rw [hr.rd] at hi; cases hi), fun d f as e => absurd e (hr.nc d f as)⟩
    · refine ⟨fun e => by (cases e), fun i hi => ?_, fun d f as e => by (cases e)⟩
      rw [A1] at ea
      cases ea
      simp [Row.reads] at hi
      subst hi
      exact ⟨fk, if_pos rfl, fun w hw => by cases hw; rfl⟩
  · rcases rget j x e with ⟨hj, e⟩ | ⟨rfl, rfl⟩ | ⟨rfl, rfl⟩
    · obtain ⟨l, el, rfl⟩ := A3 j ks (by omega) ea
      intro t ht
      obtain ⟨h1, l', e', le'⟩ := h.to j x l e el t ht
      refine ⟨kf l', ?_, le'⟩
      rw [A2 t (by omega), e']
      rfl
    · intro t ht
      rw [hr.su] at ht
      simp at ht
      subst ht
      have h1 : size - 2 + 1 = size - 1 := by omega
      rw [h1]
      refine ⟨_, A1, fun i k e => ?_⟩
      have hi : i = d := by
        by_cases hi : i = d
        · exact hi
        · rw [if_neg hi] at e
          cases e
      subst hi
      rw [if_pos rfl] at e
      unfold after
      rw [hr.st]
      show (if i = i then kindSet hs ks x else ks i) = some k
      rw [if_pos rfl, hr.ks]
      exact e
    · intro t ht
      cases ht
end
end Eo
set_option linter.all false
set_option maxRecDepth 100000
set_option maxHeartbeats 8000000
/-! E23: a drawn function. -/
namespace Eo
open PySem L2
theorem set_cont {te : TE} {i : Nat} {b : TS} {D : Ends} {σ : L2.St} {H : Hp} (C : V → Hp → Prop) (h : ∀ Q' : VK, (∀ v H', C v H' → Q' v H') → te σ H Q') (hb : ∀ v H', C v H' → b D (σ.set i (some v)) H') : tSeq (tAsg te (gName i)) b D σ H :=
  h (fun v H' => b D (σ.set i (some v)) H') hb
theorem if_seq3 {c : TT} {x b : TS} {D : Ends} {σ : L2.St} {H : Hp} (C : Hp → Prop) (h : ∀ N : L2.St → Hp → Prop, (∀ H', C H' → N σ H') → c σ H fun v H1 => if v = true then x { D with nx := N } σ H1 else N σ H1) (hb : ∀ H', C H' → b D σ H') : tSeq (tIfS c x tNext) b D σ H :=
  h (b D) hb
def AhE (H : Hp) (al rl lc : Addr) : Option KL → V → Prop
  | none, v => v = .non
  | some l, v => ∃ a, v = .ref a ∧ H a = some (.lst (l.map kdV)) ∧ a ≠ al ∧ a ≠ rl ∧ a ≠ lc
structure AhAt (H : Hp) (al rl lc : Addr) (B : List (Option KL)) (av : List V) : Prop where
  e : H al = some (.lst av)
  len : av.length = B.length
  at_ : ∀ (i : Nat) (o : Option KL) (v : V), B[i]? = some o → av[i]? = some v → AhE H al rl lc o v
structure FS (K : PySem.W.Frag) (dk lc hl al rl : Addr) (hs : Heads) (B : List (Option KL)) (rows : List Row) (H Hx : Hp) : Prop where
  d : Dr dk lc H Hx
  h : HdAt K Hx hl hs
  ah : ∃ av, AhAt Hx al rl lc B av
  rw_ : ∃ rv, Hx rl = some (.lst rv) ∧ Rps K Hx rv (rows.map Row.dt)
  n1 : hl ≠ lc
  n2 : al ≠ lc
  n3 : rl ≠ lc
  n4 : al ≠ rl
  n5 : hl ≠ al
  n6 : hl ≠ rl
  nal : H al = none
  nrl : H rl = none
section
variable {K : PySem.W.Frag} {dk lc hl al rl : Addr} {hs : Heads} {B : List (Option KL)} {rows : List Row} {H Hx Hy : Hp}
theorem AhE.to {o : Option KL} {v : V} (h : AhE Hx al rl lc o v) (k : ∀ a xs, Hx a = some (.lst xs) → a ≠ al → a ≠ rl → a ≠ lc → Hy a = some (.lst xs)) : AhE Hy al rl lc o v := by
  cases o with
  | none => exact h
  | some l =>
    obtain ⟨a, e1, e2, e3, e4, e5⟩ := h
    exact ⟨a, e1, k a _ e2 e3 e4 e5, e3, e4, e5⟩
theorem FS.dr (a : FS K dk lc hl al rl hs B rows H Hx) (d : Dr dk lc Hx Hy) : FS K dk lc hl al rl hs B rows H Hy := by
  obtain ⟨av, ha⟩ := a.ah
  obtain ⟨rv, hr1, hr2⟩ := a.rw_
  have k : ∀ b xs, Hx b = some (.lst xs) → b ≠ lc → Hy b = some (.lst xs) := fun b xs e n => d.get e (d.d0.neD e) n
  exact ⟨a.d.trans d, a.h.dr d a.n1, ⟨av, k _ _ ha.e a.n2, ha.len, fun i o v h1 h2 => (ha.at_ i o v h1 h2).to fun b xs e _ _ n => k b xs e n⟩, ⟨rv, k _ _ hr1 a.n3, hr2.tk d.tk⟩, a.n1, a.n2, a.n3, a.n4, a.n5, a.n6, a.nal, a.nrl⟩
theorem FS.same (a : FS K dk lc hl al rl hs B rows H Hx) (s : Same Hx Hy) : FS K dk lc hl al rl hs B rows H Hy := a.dr (a.d.d.dr s)
theorem FS.put (a : FS K dk lc hl al rl hs B rows H Hx) {av : List V} (ha : AhAt Hx al rl lc B av) {t : Nat} {o : Option KL} {v : V} (hv : AhE Hx al rl lc o v) : FS K dk lc hl al rl hs (B.set t o) rows H (upd Hx al (.lst (av.set t v))) := by
  obtain ⟨rv, hr1, hr2⟩ := a.rw_
  obtain ⟨hv', h1, h2⟩ := a.h.ex
  have k : ∀ b xs, Hx b = some (.lst xs) → b ≠ al → (upd Hx al (.lst (av.set t v))) b = some (.lst xs) := fun b xs e n => by rw [upd_ne n]; exact e
  have kE : ∀ {o v'}, AhE Hx al rl lc o v' → AhE (upd Hx al (.lst (av.set t v))) al rl lc o v' := fun h => h.to fun b xs e n _ _ => k b xs e n
  refine ⟨a.d.upd a.nal ha.e, ⟨hv', k _ _ h1 a.n5, h2.tk (tk_lst ha.e)⟩, ⟨av.set t v, upd_same, by rw [List.length_set, List.length_set]; exact ha.len, fun i o' v' e1 e2 => ?_⟩, ⟨rv, k _ _ hr1 a.n4.symm, hr2.tk (tk_lst ha.e)⟩, a.n1, a.n2, a.n3, a.n4, a.n5, a.n6, a.nal, a.nrl⟩
  by_cases hi : i = t
  · subst hi
    have hb : i < B.length := by
      have := (List.getElem?_eq_some_iff.mp e1).1
      simpa using this
    rw [List.getElem?_set_self hb] at e1
    rw [List.getElem?_set_self (by rw [ha.len]; exact hb)] at e2
    cases e1
    cases e2
    exact kE hv
  · rw [List.getElem?_set_ne (fun q => hi q.symm)] at e1 e2
    exact kE (ha.at_ i o' v' e1 e2)
theorem FS.push (a : FS K dk lc hl al rl hs B rows H Hx) {rv : List V} {r : Row} {v : V} (h1 : Hx rl = some (.lst rv)) (h2 : Rps K Hx rv (rows.map Row.dt)) (hv : Rp K Hx v r.dt) : FS K dk lc hl al rl hs B (rows ++ [r]) H (upd Hx rl (.lst (rv ++ [v]))) := by
  obtain ⟨av, ha⟩ := a.ah
  obtain ⟨hv', g1, g2⟩ := a.h.ex
  have k : ∀ b xs, Hx b = some (.lst xs) → b ≠ rl → (upd Hx rl (.lst (rv ++ [v]))) b = some (.lst xs) := fun b xs e n => by rw [upd_ne n]; exact e
  refine ⟨a.d.upd a.nrl h1, ⟨hv', k _ _ g1 a.n6, g2.tk (tk_lst h1)⟩, ⟨av, k _ _ ha.e a.n4, ha.len, fun i o v' e1 e2 => (ha.at_ i o v' e1 e2).to fun b xs e _ n _ => k b xs e n⟩, ⟨rv ++ [v], upd_same, ?_⟩, a.n1, a.n2, a.n3, a.n4, a.n5, a.n6, a.nal, a.nrl⟩
  rw [List.map_append]
  exact (h2.append (.cons hv .nil)).tk (tk_lst h1)
end
theorem Dr.free {dk lc a : Addr} {H H' : Hp} (d : Dr dk lc H H') (h : H' a = none) : H a = none := by
  obtain ⟨n1, n2⟩ := d.d.ne h
  cases e : H a with
  | none => rfl
  | some o =>
    rw [d.get e n1 n2] at h
    cases h
/-- a comprehension that makes data -/
theorem lc_pureH {J : It} {n : Nat} {G : Hp → Prop} {Y : Nat → Hp → V → Hp → Prop} (W : Walk J n G Y) {g : TG} {te : TE} {vs : List Nat} {σ : L2.St} {H1 : Hp} {D : Addr} {Qd : Hp → Prop}
    (Pe : Hp → Nat → V → Prop) (hst : ∀ H H' i y, Tk H H' → Pe H i y → Pe H' i y) (hn : n ≤ 100000) (hD : H1 D = none) (hG : ∀ H, Same H1 H → G H)
    (hs : ∀ i x H H', i < n → Same H1 H → Y i H x H' → g x (wipe σ vs) H' fun σ2 H2 => wipe σ2 vs = wipe σ vs ∧
      ∀ Q : VK, (∀ y H4, Same H H4 → Pe H4 i y → Q y H4) → te σ2 H2 Q)
    (hd : ∀ H ys, Same H1 H → H D = some (.lst ys) → ys.length = n → (∀ (i : Nat) y, ys[i]? = some y → Pe H i y) → Qd H)
    (gm : ∀ x σ H Q Q', (∀ σ H, Q σ H → Q' σ H) → g x σ H Q → g x σ H Q') :
    ∃ W : Nat → Nat → Hp → Prop, (∃ m, W 0 m (upd H1 D (.lst []))) ∧ ∀ i m H, W i m H →
      (J.stop i H ∧ Qd H) ∨ (J.go i H ∧ ∃ Nx : Hp → Prop, (∀ H', Nx H' → ∃ m', m' < m ∧ W (i + 1) m' H') ∧ ∀ x H', J.yld i H x H' → g x (wipe σ vs) H' fun σ2 H2 => wipe σ2 vs = wipe σ vs ∧ tYes σ2 H2 fun b H3 =>
        if b = true then te σ2 H3 fun y H4 => ∃ acc, H4 D = some (.lst acc) ∧ acc.length < sizeLine ∧ Nx (upd H4 D (.lst (acc ++ [y]))) else Nx H3) := by
  refine lc_it W (fun i H => Same H1 H ∧ ∃ acc, H D = some (.lst acc) ∧ acc.length = i ∧ ∀ (j : Nat) y, acc[j]? = some y → Pe H j y)
    ⟨same_new hD, [], upd_same, rfl, fun j y e => by simp at e⟩ (fun i H _ p => hG H p.1) ?_ ?_
  · rintro i x H H' hi ⟨k, acc, hacc, hlen, hPe⟩ y
    refine gm _ _ _ _ _ (fun σ2 H2 ⟨e, q⟩ => ⟨e, ?_⟩) (hs i x H H' hi k y)
    dsimp only [tYes]
    first | rw [if_pos rfl] | skip
    refine q _ fun z H4 k4 pz => ?_
    have hD4 : H4 D = some (.lst acc) := k4 _ _ hacc
    have tk := (Same.tk k4).trans (tk_lst (ys := acc ++ [z]) hD4)
    refine ⟨acc, hD4, Nat.lt_of_lt_of_le (by omega : acc.length < 100000) (by decide), same_at (k.trans k4) hD, acc ++ [z], upd_same, by simp [hlen], fun j w e => ?_⟩
    by_cases hj : j < acc.length
    · rw [List.getElem?_append_left hj] at e
      exact hst _ _ _ _ tk (hPe j w e)
    · have hj2 : j = acc.length := by
        have := (List.getElem?_eq_some_iff.mp e).1
        simp at this
        omega
      subst hj2
      simp at e
      subst e
      rw [hlen]
      exact hst _ _ _ _ (tk_lst hD4) pz
  · rintro H ⟨k, acc, hacc, hlen, hPe⟩
    exact hd H acc k hacc hlen hPe
theorem rep1 (n : Nat) (v : V) : (List.replicate n [v]).flatten = List.replicate n v := by
  induction n with
  | zero => rfl
  | succ n ih => rw [List.replicate_succ, List.flatten_cons, ih, List.replicate_succ]; rfl
def spFunction (K : PySem.W.Frag) : Sp := fun vs H Q _ => ∃ (dk lc hl : Addr) (hs : Heads) (f : Nat) (kd : Kd) (many : Nat), vs = [.ref dk, .ref hl, .int f, .int 9] ∧ Deck H dk lc ∧ HdAt K H hl hs ∧ hl ≠ lc ∧ hs[f]? = some (kd, many) ∧ 1 ≤ hs.length ∧ hs.length ≤ 1000 ∧ (∀ h ∈ hs, h.2 ≤ 5) ∧
  ∀ (v : V) (fn : Fn) (H' : Hp), Dr dk lc H H' → Rp K H' v fn.dt → fn.head = (kd, many) → Typed hs fn → fn.regs ≤ 1000 → fn.rows.length ≤ 1000 → Q v H'
section
variable {P : Program} {w : World} {K : PySem.W.Frag} {mg : Str → Option Value} {base : Heap} {Z : Wh}
theorem ok_law_function (T : Tx w K mg Z) : FnOk P w K mg base CX0 4 (Z.A 52) (Z.D 52) ["_law_deck_here", "_law_heads_here", "_law_f", "_law_most"] (spFunction K) := by
  refine T.law_function.F.ok sc_law_function (fun vs H Q E h => ?_) (fun cdv A outer s H vs Q E hr h => ?_)
  · obtain ⟨dk, lc, hl, hs, f, kd, many, rfl, hd, hh, hne, hf, hh1, hh2, hh5, q⟩ := h
    rfl
  have hu := hu_of hr
  have hu0 := Nat.lt_of_succ_lt hu
  obtain ⟨dk, lc, hl, hs, f, kd, many, rfl, hd, hh, hne, hf, hh1, hh2, hh5, q⟩ := h
  have hm5 : many ≤ 5 := hh5 _ (List.mem_of_getElem? hf)
  obtain ⟨hv, ha, ehv, hvf, hat, hvl⟩ := hd_at hh hf
  refine ⟨_, (pss_cons (ps_asg (pe_ix ix_list (pv 1) (pv 2) (fun _ _ => rfl)) (pg_tup rfl (pgs_cons (pg_name (i := 4) sc_law_function.nd rfl (by first | exact Or.inl rfl | exact Or.inr rfl)) (pgs_cons (pg_name (i := 5) sc_law_function.nd rfl (by first | exact Or.inl rfl | exact Or.inr rfl)) pgs_nil)))) (pss_cons (ps_par (i := 6) (j := 7) (by rfl) sc_law_function.nd rfl rfl (by decide) rfl rfl (pa_cons (pe_op op_add (pe_op op_add (pv 5) pe_int) (pe_call (ok_law_draw T) (hr.mono (by decide)) rfl T.law_draw.m T.law_draw.F.kp T.law_draw.b .nil pass0 (pa_cons (pv 0) (pa_cons pe_int pa_nil)))) (pa_cons (pe_op op_add pe_int (pe_call (ok_law_draw T) (hr.mono (by decide)) rfl T.law_draw.m T.law_draw.F.kp T.law_draw.b .nil pass0 (pa_cons (pv 0) (pa_cons (pv 3) pa_nil)))) pa_nil)) (by rfl)) (pss_cons (ps_par (i := 8) (j := 9) (by rfl) sc_law_function.nd rfl rfl (by decide) rfl rfl (pa_cons (pe_op op_cat (pe_lst (pa_cons (pe_op op_cat (pe_op op_rep (pe_lst (pa_cons pe_str pa_nil)) (pv 5)) (pe_op op_rep (pe_lst (pa_cons pe_non pa_nil)) (pe_op op_sub (pv 6) (pv 5)))) pa_nil)) (pe_op op_rep (pe_lst (pa_cons pe_non pa_nil)) (pe_op op_sub (pv 7) pe_int))) (pa_cons (pe_lst pa_nil) pa_nil)) (by rfl)) (pss_cons (ps_for PassesOwn.never rfl (pi_range1 rfl T.range_ (pa_cons (pe_op op_sub (pv 7) pe_int) pa_nil)) (pg_name (i := 10) sc_law_function.nd rfl (by first | exact Or.inl rfl | exact Or.inr rfl)) (pss_cons (ps_set (i := 11) sc_law_function.nd rfl (by first | exact Or.inl rfl | exact Or.inr rfl) (pe_ifExp (pt_cmpR op_notN (pe_ix ix_list (pv 8) (pv 10) (fun _ _ => rfl)) pe_non (nomark _)) (pe_ix ix_list (pv 8) (pv 10) (fun _ _ => rfl)) (pe_op op_rep (pe_lst (pa_cons pe_str pa_nil)) (pv 6)))) (pss_cons (ps_set (i := 12) sc_law_function.nd rfl (by first | exact Or.inl rfl | exact Or.inr rfl) (pe_call (ok_law_drawn_row T) (hr.mono (by decide)) rfl T.law_drawn_row.m T.law_drawn_row.F.kp T.law_drawn_row.b .nil pass0 (pa_cons (pv 0) (pa_cons (pv 1) (pa_cons (pv 11) (pa_cons (pv 10) (pa_cons (pe_op op_sub (pv 7) pe_int) pa_nil))))))) (pss_cons (ps_setLc (i := 13) (own := [("_law_x", 14), ("_law_it", 15)]) (g := gTup K 2 (gCons (gName 14) (gCons (gName 15) gNil))) rfl sc_law_function.nd rfl rfl (sw_true rfl rfl rfl (by decide +kernel)) (pi_enum rfl T.enumerate_ (pa_cons (pv 11) pa_nil)) (blkOk_by (own := [("_law_x", 14), ("_law_it", 15)]) (N := N_law_function) (sc := defScope s_law_function) (by decide +kernel)) (fun _ _ _ _ _ => (pg_tup rfl (pgs_cons (pg_name (i := 14) sc_law_function.nd rfl (by first | exact Or.inl rfl | exact Or.inr rfl)) (pgs_cons (pg_name (i := 15) sc_law_function.nd rfl (by first | exact Or.inl rfl | exact Or.inr rfl)) pgs_nil)))) (fun _ _ _ _ _ => pts_one (pt_cmpR op_eq (pv 15) (pv 4) (nomark _))) (fun _ _ _ _ _ => (pv 14))) (pss_cons (ps_set (i := 12) sc_law_function.nd rfl (by first | exact Or.inl rfl | exact Or.inr rfl) (pe_ifExp (PW.pt (pw_and (pt_cmpR (op_neNil hu0) (pv 13) (pe_lst pa_nil) (nomark _)) (pw_and1 (pt_cmpR op_eq (pe_call (ok_law_draw T) (hr.mono (by decide)) rfl T.law_draw.m T.law_draw.F.kp T.law_draw.b .nil pass0 (pa_cons (pv 0) (pa_cons pe_int pa_nil))) pe_int (nomark _))))) (pe_tup (pa_cons pe_str (pa_cons (pe_call (ok_law_pick T) (hr.mono (by decide)) rfl T.law_pick.m T.law_pick.F.kp T.law_pick.b .nil pass0 (pa_cons (pv 0) (pa_cons (pv 13) pa_nil))) pa_nil))) (pv 12))) (pss_cons (ps_expr (pe_bm PySem.F.plainAttrs_list PySem.F.slot_list_append PySem.F.type_list_append mt_append (pv 9) (pa_cons (pv 12) pa_nil))) (pss_one (ps_if (pt_cmpR op_notN (pe_ix ix_list (pv 8) (pv 10) (fun _ _ => rfl)) pe_non (nomark _)) (pss_cons (ps_par (i := 16) (j := 17) (by rfl) sc_law_function.nd rfl rfl (by decide) rfl rfl (pa_cons (pe_callTy call_list_of rfl T.list_ bt_list (pa_cons (pv 11) pa_nil)) (pa_cons (pe_call (ok_law_set T) (hr.mono (by decide)) rfl T.law_set.m T.law_set.F.kp T.law_set.b .nil pass0 (pa_cons (pv 12) pa_nil)) pa_nil)) (by rfl)) (pss_cons (ps_if (pt_cmpR op_notN (pv 17) pe_non (nomark _)) (pss_one (ps_asg (pe_call (ok_law_kind_set T) (hr.mono (by decide)) rfl T.law_kind_set.m T.law_kind_set.F.kp T.law_kind_set.b .nil pass0 (pa_cons (pe_lc (own := [("_law_one", 18), ("_law_other", 19)]) (g := gTup K 2 (gCons (gName 18) (gCons (gName 19) gNil))) (tt := tYes) rfl sc_law_function.nd (pi_list (pv 1)) (blkOk_by (own := [("_law_one", 18), ("_law_other", 19)]) (N := N_law_function) (sc := defScope s_law_function) (by decide +kernel)) (fun _ _ _ _ _ => (pg_tup rfl (pgs_cons (pg_name (i := 18) sc_law_function.nd rfl (by first | exact Or.inl rfl | exact Or.inr rfl)) (pgs_cons (pg_name (i := 19) sc_law_function.nd rfl (by first | exact Or.inl rfl | exact Or.inr rfl)) pgs_nil)))) (fun _ _ _ _ _ => pts_nil) (fun _ _ _ _ _ => (pe_tup (pa_cons (pv 18) (pa_cons (pv 19) pa_nil))))) (pa_cons (pv 12) (pa_cons (pv 11) pa_nil)))) (pg_sub (pv 16) (pv 17) set_list))) pss_nil) (pss_one (ps_for PassesOwn.never rfl (pi_list (pe_call (ok_law_ways T) (hr.mono (by decide)) rfl T.law_ways.m T.law_ways.F.kp T.law_ways.b .nil pass0 (pa_cons (pv 12) (pa_cons (pv 10) pa_nil)))) (pg_name (i := 20) sc_law_function.nd rfl (by first | exact Or.inl rfl | exact Or.inr rfl)) (pss_one (ps_asg (pe_ifExp (pt_cmpR op_isN (pe_ix ix_list (pv 8) (pv 20) (fun _ _ => rfl)) pe_non (nomark _)) (pv 16) (pe_call (ok_law_joined T) (hr.mono (by decide)) rfl T.law_joined.m T.law_joined.F.kp T.law_joined.b .nil pass0 (pa_cons (pe_ix ix_list (pv 8) (pv 20) (fun _ _ => rfl)) (pa_cons (pv 16) pa_nil)))) (pg_sub (pv 8) (pv 20) set_list))))))) pss_nil)))))))) (pss_cons (ps_set (i := 17) sc_law_function.nd rfl (by first | exact Or.inl rfl | exact Or.inr rfl) (pe_call (ok_law_draw T) (hr.mono (by decide)) rfl T.law_draw.m T.law_draw.F.kp T.law_draw.b .nil pass0 (pa_cons (pv 0) (pa_cons (pv 6) pa_nil)))) (pss_cons (ps_set (i := 9) sc_law_function.nd rfl (by first | exact Or.inl rfl | exact Or.inr rfl) (pe_op op_cat (pv 9) (pe_lst (pa_cons (pe_tup (pa_cons (pe_ifExp (pt_cmpR op_eq (pv 4) pe_str (nomark _)) (pe_call (ok_law_pick T) (hr.mono (by decide)) rfl T.law_pick.m T.law_pick.F.kp T.law_pick.b .nil pass0 (pa_cons (pv 0) (pa_cons (pe_tup (pa_cons pe_str (pa_cons pe_str pa_nil))) pa_nil))) pe_str) (pa_cons (pv 17) pa_nil))) (pa_cons (pe_tup (pa_cons pe_str (pa_cons (pv 17) pa_nil))) pa_nil))))) (pss_one (ps_ret (pe_tup (pa_cons (pv 4) (pa_cons (pv 5) (pa_cons (pv 6) (pa_cons (pe_callTy call_tuple_of rfl T.tuple_ bt_tuple (pa_cons (pv 9) pa_nil)) pa_nil))))))))))))), ?_⟩
  refine ⟨_, rfl, _, rfl, _, _, _, _, rfl, rfl, SqL.of ehv, atI_nat hvf, _, _, rfl, hat, rfl, _, _, rfl, _, _, rfl, rfl, ?_⟩
  refine ⟨_, rfl, _, _, rfl, rfl, _, rfl, dk, lc, 3, rfl, hd, by omega, by omega, fun r1 H1 hr1 d1 => ⟨_, _, rfl, rfl, _, rfl, _, rfl, dk, lc, 9, rfl, d1.d, by omega, by omega, fun r2 H2 hr2 d2 => ⟨_, _, rfl, rfl, _, _, rfl, ?_⟩⟩⟩
  have d02 := d1.trans d2
  obtain ⟨regs, hregs⟩ : ∃ regs, regs = many + 1 + r1 := ⟨_, rfl⟩
  obtain ⟨size, hsize⟩ : ∃ size, size = 2 + r2 := ⟨_, rfl⟩
  have er : ((many : Int) + 1 + (r1 : Int)) = ((regs : Nat) : Int) := by omega
  have es : ((2 : Int) + (r2 : Int)) = ((size : Nat) : Int) := by omega
  dsimp only [L2.start]
  rw [er, es]
  have small : ∀ n : Nat, n ≤ 1000 → n ≤ sizeLine := fun n h => Nat.le_trans h (by decide)
  refine ⟨(by show 1 ≤ sizeLine; decide), fun p1 hp1 => ⟨_, rfl, _, _, _, rfl, rfl, upd_same, by omega, by omega, small _ (by show 1 * ((many : Nat) : Int).toNat ≤ 1000; omega), fun p2 hp2 => ?_⟩⟩
  rw [rep1, Int.toNat_natCast]
  have s3 := (same_new (o := .lst [V.str "place"]) hp1).trans (same_new (o := .lst (List.replicate many (V.str "place"))) hp2)
  have e3 : (upd (upd H2 p1 (.lst [V.str "place"])) p2 (.lst (List.replicate many (V.str "place")))) p2 = some (.lst (List.replicate many (V.str "place"))) := upd_same
  generalize (upd (upd H2 p1 (.lst [V.str "place"])) p2 (.lst (List.replicate many (V.str "place")))) = H3 at s3 e3
  have esub : ((regs : Int) - (many : Int)).toNat = regs - many := by omega
  refine ⟨(by show 1 ≤ sizeLine; decide), fun p3 hp3 => ⟨_, rfl, _, rfl, _, _, rfl, rfl, _, _, _, rfl, rfl, upd_same, by omega, by omega, small _ (by show 1 * ((regs : Int) - (many : Int)).toNat ≤ 1000; omega), fun p4 hp4 => ?_⟩⟩
  rw [rep1, esub]
  have s4 := (same_new (o := .lst [V.non]) hp3).trans (same_new (o := .lst (List.replicate (regs - many) V.non)) hp4)
  have e4 : (upd (upd H3 p3 (.lst [V.non])) p4 (.lst (List.replicate (regs - many) V.non))) p4 = some (.lst (List.replicate (regs - many) V.non)) := upd_same
  have e34 := s4 _ _ e3
  generalize (upd (upd H3 p3 (.lst [V.non])) p4 (.lst (List.replicate (regs - many) V.non))) = H4 at s4 e4 e34
  refine ⟨_, _, _, _, rfl, rfl, e34, e4, small _ (by simp; omega), fun p5 hp5 => ?_⟩
  have ekl : List.replicate many (V.str "place") ++ List.replicate (regs - many) V.non = (start0 many regs).map kdV := by
    unfold start0
    rw [List.map_append, List.map_replicate, List.map_replicate]
    rfl
  rw [ekl]
  have s5 := (s3.trans s4).trans (same_new (o := .lst ((start0 many regs).map kdV)) hp5)
  have e5 : (upd H4 p5 (.lst ((start0 many regs).map kdV))) p5 = some (.lst ((start0 many regs).map kdV)) := upd_same
  generalize (upd H4 p5 (.lst ((start0 many regs).map kdV))) = H5 at s5 e5
  refine ⟨(by show 1 ≤ sizeLine; decide), fun p6 hp6 => ⟨(by show 1 ≤ sizeLine; decide), fun p7 hp7 => ⟨_, rfl, _, _, rfl, rfl, _, _, _, rfl, rfl, upd_same, by omega, by omega, small _ (by show 1 * ((size : Int) - 1).toNat ≤ 1000; omega), fun p8 hp8 => ?_⟩⟩⟩
  have esz : ((size : Int) - 1).toNat = size - 1 := by omega
  rw [rep1, esz]
  have e6 : (upd H5 p6 (.lst [V.ref p5])) p6 = some (.lst [V.ref p5]) := upd_same
  have s7 := (same_new (o := .lst [V.non]) hp7).trans (same_new (o := .lst (List.replicate (size - 1) V.non)) hp8)
  have e7 := s7 _ _ e6
  have e8 : (upd (upd (upd H5 p6 (.lst [V.ref p5])) p7 (.lst [V.non])) p8 (.lst (List.replicate (size - 1) V.non))) p8 = some (.lst (List.replicate (size - 1) V.non)) := upd_same
  have s8 := (same_new (o := .lst [V.ref p5]) hp6).trans s7
  generalize (upd (upd (upd H5 p6 (.lst [V.ref p5])) p7 (.lst [V.non])) p8 (.lst (List.replicate (size - 1) V.non))) = H8 at s8 e7 e8
  refine ⟨_, _, _, _, rfl, rfl, e7, e8, small _ (by simp; omega), fun al hal => ⟨(by show 0 ≤ sizeLine; decide), fun rl hrl => ⟨_, _, rfl, ?_⟩⟩⟩
  have s9 := (s5.trans s8).trans (same_new (o := .lst ([V.ref p5] ++ List.replicate (size - 1) V.non)) hal)
  have s10 := s9.trans (same_new (o := .lst []) hrl)
  have d10 := d02.same s10
  have n2 := ((d02.same (s5.trans s8)).d.ne hal).2
  have n3 := ((d02.same s9).d.ne hrl).2
  have n4 : al ≠ rl := ne_of_none upd_same hrl
  have nal : H al = none := (d02.same (s5.trans s8)).free hal
  have nrl : H rl = none := (d02.same s9).free hrl
  have F0 : FS K dk lc hl al rl hs (some (start0 many regs) :: List.replicate (size - 1) none) [] H (upd (upd H8 al (.lst ([V.ref p5] ++ List.replicate (size - 1) V.non))) rl (.lst [])) := by
    have g5 := s8 _ _ e5
    have g9 := (same_new (o := .lst ([V.ref p5] ++ List.replicate (size - 1) V.non)) hal) _ _ g5
    have m5 := ((d02.same (s3.trans s4)).d.ne hp5).2
    refine ⟨d10, hh.dr d10 hne, ⟨_, ⟨by rw [upd_ne n4, upd_same], by simp, fun i o v e1 e2 => ?_⟩⟩, ⟨[], upd_same, .nil⟩, hne, n2, n3, n4, ne_of_none ehv nal, ne_of_none ehv nrl, nal, nrl⟩
    cases i with
    | zero =>
      cases e1
      cases e2
      exact ⟨p5, rfl, (same_new (o := .lst []) hrl) _ _ g9, ne_of_none g5 hal, ne_of_none g9 hrl, m5⟩
    | succ i =>
      rw [List.getElem?_cons_succ, List.getElem?_replicate] at e1
      rw [List.singleton_append, List.getElem?_cons_succ, List.getElem?_replicate] at e2
      split at e1
      · rename_i hlt
        rw [if_pos hlt] at e2
        cases e1
        cases e2
        rfl
      · cases e1
  have O0 : OI hs kd many regs size 0 (some (start0 many regs) :: List.replicate (size - 1) none) [] := OI.start (by omega) (by omega)
  generalize (upd (upd H8 al (.lst ([V.ref p5] ++ List.replicate (size - 1) V.non))) rl (.lst [])) = H10 at F0
  refine ⟨_, rfl, _, _, rfl, rfl, _, rfl, by omega, by omega, ?_⟩
  have ern : ((size : Int) - 2).toNat = size - 2 := by omega
  rw [ern]
  refine for_range (fun i σ Hx => ∃ (B : List (Option KL)) (rows : List Row) (o10 o11 o12 o13 o14 o15 o16 o17 o18 o19 o20 : Option V), σ = [some (.ref dk), some (.ref hl), some (.int f), some (.int 9), some (.str kd.str), some (.int many), some (.int regs), some (.int size), some (.ref al), some (.ref rl), o10, o11, o12, o13, o14, o15, o16, o17, o18, o19, o20] ∧ FS K dk lc hl al rl hs B rows H Hx ∧ OI hs kd many regs size i B rows)
    ⟨_, _, none, none, none, none, none, none, none, none, none, none, none, rfl, F0, O0⟩ ?_ ?_
  · rintro i σ Hx hi ⟨B, rows, o10, o11, o12, o13, o14, o15, o16, o17, o18, o19, o20, rfl, F, O⟩
    have hiB : i < B.length := by rw [O.bl]; omega
    rw [show (0 : Int) + (i : Int) = (i : Int) from Int.zero_add _]
    -- kinds
    refine set_cont (fun v Hy => ∃ ka l0, v = .ref ka ∧ FS K dk lc hl al rl hs B rows H Hy ∧ Hy ka = some (.lst (l0.map kdV)) ∧ ka ≠ lc ∧ ka ≠ al ∧ ka ≠ rl ∧ l0.length = regs ∧ ∀ l, B[i]? = some (some l) → l = l0) (fun Q' hQ => ?_) ?_
    · obtain ⟨av, A⟩ := F.ah
      obtain ⟨va, hav⟩ : ∃ va, av[i]? = some va := ⟨av[i]'(by rw [A.len]; exact hiB), List.getElem?_eq_getElem _⟩
      refine ⟨_, rfl, _, rfl, _, _, _, _, rfl, rfl, SqL.of A.e, atI_nat hav, rfl, _, rfl, ?_⟩
      cases eB : B[i]? with
      | none =>
        rw [List.getElem?_eq_none_iff] at eB
        omega
      | some o =>
        have hE := A.at_ i o va eB hav
        cases o with
        | some l =>
          obtain ⟨a, rfl, g2, g3, g4, g5⟩ := hE
          refine iteC (b := true) (by simp) ?_
          exact ⟨_, rfl, _, rfl, _, _, _, _, rfl, rfl, SqL.of A.e, atI_nat hav, hQ _ _ ⟨a, l, rfl, F, g2, g5, g3, g4, O.ln i l eB, fun l' e => by rw [eB] at e; cases e; rfl⟩⟩
        | none =>
          obtain rfl : va = .non := hE
          refine iteC (b := false) (by simp) ?_
          refine ⟨(by show 1 ≤ sizeLine; decide), fun p1 hp1 => ⟨_, rfl, _, _, _, rfl, rfl, upd_same, by omega, by omega, small _ (by show 1 * ((regs : Nat) : Int).toNat ≤ 1000; omega), fun p2 hp2 => ?_⟩⟩
          rw [rep1, Int.toNat_natCast]
          have s3 := (same_new (o := .lst [V.str "place"]) hp1).trans (same_new (o := .lst (List.replicate regs (V.str "place"))) hp2)
          have F3 := F.same (same_new (o := .lst [V.str "place"]) hp1)
          have F4 := F.same s3
          obtain ⟨av3, A3⟩ := F3.ah
          obtain ⟨rv3, r31, _⟩ := F3.rw_
          refine hQ _ _ ⟨p2, List.replicate regs (some .place), rfl, F4, ?_, (F3.d.d.ne hp2).2, (ne_of_none A3.e hp2).symm, (ne_of_none r31 hp2).symm, by simp, fun l' e => by rw [eB] at e; cases e⟩
          rw [upd_same, List.map_replicate]
          rfl
    · rintro v Hy ⟨ka, l0, rfl, F1, hka, nk1, nk2, nk3, hl0, hll⟩
      -- a drawn row
      refine ⟨_, rfl, _, rfl, _, rfl, _, rfl, _, rfl, _, _, rfl, rfl, dk, lc, hl, ka, hs, l0, i, size - 2, ?_, F1.d.d, F1.h, hh1, hh2, hh5, hka, by omega, by omega, F1.n1, nk1, hi, by omega, fun v r Hz dz rz hrz => ?_⟩
      · show [V.ref dk, V.ref hl, V.ref ka, V.int (i : Int), V.int ((size : Int) - 2)] = _
        rw [show (size : Int) - 2 = ((size - 2 : Nat) : Int) by omega]
      have F2 := F1.dr dz
      have hka2 := dz.get hka (dz.d0.neD hka) nk1
      have hav2 : ∃ rv, Hz rl = some (.lst rv) ∧ Rps K Hz rv (rows.map Row.dt) := F2.rw_
      refine ⟨_, rfl, ka, _, rfl, SqL.of hka2, fun D hD => lc_sel walk_enum (fun y => ∃ n : Nat, y = .int (n : Int) ∧ l0[n]? = some (some kd)) (by rw [List.length_map]; omega) hD (fun Hy sy => SqL.of (sy _ _ hka2)) ?_ ?_ gPair_mono⟩
      · rintro j z H3 H4 hj hs3 ⟨t3, z1, z2, rfl, ht3, rfl, hz1, hz2⟩
        dsimp only at hz1 hz2
        rw [List.getElem?_map] at hz2
        cases ey : l0[j]? with
        | none => rw [ey] at hz2; cases hz2
        | some a =>
          rw [ey] at hz2
          cases hz1
          cases hz2
          refine pair_go ⟨rfl, fun A B hA hB => ?_⟩
          refine ⟨_, rfl, _, rfl, scal_kd a (some kd), _, rfl, ?_⟩
          by_cases hk : a = some kd
          · refine iteC (b := true) (decide_eq_true (by rw [hk]; rfl)) ?_
            exact ⟨_, rfl, hA _ _ (same_tup ht3) ⟨j, rfl, by rw [ey, hk]⟩⟩
          · refine iteC (b := false) (decide_eq_false fun e => hk (kdV_inj.mp (show kdV a = kdV (some kd) from e))) ?_
            exact hB _ (same_tup ht3)
      intro H3 ys s3 e3 hy3 hp3
      obtain ⟨ns, rfl, hns⟩ := sp_of hp3
      rw [natsV_len, List.length_map] at hy3
      have F3 := F2.same s3
      have hka3 := s3 _ _ hka2
      have rz3 := rz.same s3
      have nD := (F2.d.d.ne hD).2
      -- give, perhaps
      dsimp only [gName]
      refine set_cont (fun v Hy => ∃ r, FS K dk lc hl al rl hs B rows H Hy ∧ Hy ka = some (.lst (l0.map kdV)) ∧ Rp K Hy v r.dt ∧ RowIn hs kd l0 i (size - 2) r) (fun Q' hQ => ?_) ?_
      · refine ⟨_, rfl, (by show 0 ≤ sizeLine; decide), fun e0 he0 => ⟨_, _, _, rfl, rfl, SqL.of (same_new he0 _ _ e3), SqL.of upd_same, _, rfl, ?_⟩⟩
        have s4 := same_new (o := .lst []) he0
        have F4 := F3.same s4
        by_cases hz : ns = []
        · refine iteC (b := false) (by rw [hz]; rfl) ?_
          exact ⟨_, rfl, hQ _ _ ⟨r, F4, s4 _ _ hka3, rz3.same s4, hrz.inn kd⟩⟩
        · refine iteC (b := true) (by cases hq : ns with | nil => exact absurd hq hz | cons a b => rfl) ?_
          refine ⟨_, rfl, dk, lc, 9, rfl, F4.d.d, by omega, by omega, fun x H5 hx d5 => ⟨rfl, _, rfl, ?_⟩⟩
          have F5 := F4.dr d5
          have hka5 := d5.get (s4 _ _ hka3) (d5.d0.neD (s4 _ _ hka3)) nk1
          have e5 := d5.get (s4 _ _ e3) (d5.d0.neD (s4 _ _ e3)) nD
          cases x with
          | succ x =>
            refine iteC (b := false) (dzS x) ?_
            exact ⟨_, rfl, hQ _ _ ⟨r, F5, hka5, (rz3.same s4).tk d5.tk, hrz.inn kd⟩⟩
          | zero =>
            refine iteC (b := true) dz0 ?_
            refine ⟨_, rfl, _, rfl, dk, lc, D, natsV ns, rfl, F5.d.d, .inl ⟨e5, nD⟩, by rw [natsV_len]; exact List.length_pos_iff.mpr hz, by rw [natsV_len]; omega, fun i1 v1 H6 hi1 d6 => ?_⟩
            obtain ⟨n, _, hm, rfl⟩ := natsV_at hi1
            refine ⟨(by show 2 ≤ sizeLine; decide), fun p hp => ?_⟩
            have d7 := d6.same (same_new (o := .tup [V.str "give", V.int (n : Int)]) hp)
            exact hQ _ _ ⟨.give n, F5.dr d7, d7.get hka5 (d7.d0.neD hka5) nk1, Rp.new hp (.cons (.str _) (.cons (.int _) .nil)), RowIn.give (hns n hm)⟩
      rintro v Hy ⟨r, F4, hka4, rv4, hr⟩
      clear rz hrz rz3
      -- rows.append
      obtain ⟨rv, g1, g2⟩ := F4.rw_
      refine ⟨_, rfl, .inl ⟨rfl, _, SqL.of g1⟩, _, rfl, rl, _, _, rfl, rfl, g1, ?_, ?_⟩
      · rw [g2.len, List.length_map, O.rl]
        exact Nat.lt_of_le_of_lt (by omega : i ≤ 1000) (by decide)
      have F5 := F4.push g1 g2 rv4
      have hka5 : (upd Hy rl (.lst (rv ++ [v]))) ka = some (.lst (l0.map kdV)) := by rw [upd_ne nk3]; exact hka4
      have rv5 := rv4.tk (tk_lst (ys := rv ++ [v]) g1)
      generalize (upd Hy rl (.lst (rv ++ [v]))) = H5 at F5 hka5 rv5
      obtain ⟨av, A⟩ := F5.ah
      obtain ⟨va, hav⟩ : ∃ va, av[i]? = some va := ⟨av[i]'(by rw [A.len]; exact hiB), List.getElem?_eq_getElem _⟩
      refine ⟨_, rfl, _, rfl, _, _, _, _, rfl, rfl, SqL.of A.e, atI_nat hav, rfl, _, rfl, ?_⟩
      cases eB : B[i]? with
      | none =>
        rw [List.getElem?_eq_none_iff] at eB
        omega
      | some o =>
        have hE := A.at_ i o va eB hav
        cases o with
        | none =>
          obtain rfl : va = .non := hE
          refine iteC (b := false) (by simp) ?_
          exact ⟨B, rows ++ [r], _, _, _, _, _, _, _, _, _, _, _, rfl, F5, O.next (by omega) hi hh5 hr hl0 hll (fun _ => rfl) fun l e => by rw [eB] at e; cases e⟩
        | some l =>
          obtain ⟨a, rfl, _⟩ := hE
          obtain rfl := hll l eB
          refine iteC (b := true) (by simp) ?_
          -- after, d
          refine ⟨_, rfl, ka, _, rfl, .inl (SqL.of hka5), fun la hla => ⟨_, rfl, v, r, rfl, rv5.same (same_new hla), fun H6 s6 => ⟨_, _, rfl, ?_⟩⟩⟩
          have s56 := (same_new (o := .lst (l.map kdV)) hla).trans s6
          have e6 := s6 _ _ (upd_same (H := H5) (a := la) (o := .lst (l.map kdV)))
          have nla : la ≠ al ∧ la ≠ rl ∧ la ≠ lc := by
            obtain ⟨rv', gg, _⟩ := F5.rw_
            exact ⟨(ne_of_none A.e hla).symm, (ne_of_none gg hla).symm, (F5.d.d.ne hla).2⟩
          dsimp only [tSeq]
          refine if_seq3 (fun Hz => Same H5 Hz ∧ Hz la = some (.lst ((afterL hs r l).map kdV))) (fun N hN => ?_) ?_
          · refine ⟨_, rfl, rfl, _, rfl, ?_⟩
            cases hst : r.sets with
            | none =>
              refine iteC (b := false) (by simp [optI]) ?_
              rw [hst] at hN
              refine hN _ ⟨s56, ?_⟩
              rw [e6]
              unfold afterL
              rw [hst]
            | some d =>
              have hdl := hr.st d hst
              rw [hst] at hN
              refine iteC (b := true) (by simp [optI]) ?_
              obtain ⟨hv6, ehv6, rhv6⟩ := (F5.same s56).h.ex
              refine ⟨_, rfl, hl, rfl, ⟨_, SqL.of ehv6⟩, fun D2 hD2 => lc_pureH walk_list (fun Hq j y => ∃ h, hs[j]? = some h ∧ Rp K Hq y (headDt h)) (fun _ _ _ _ tk ⟨h, e, rp⟩ => ⟨h, e, rp.tk tk⟩) (by rw [rhv6.len, List.length_map]; omega) hD2 (fun Hq sq => SqL.of (sq _ _ ehv6)) ?_ ?_ gPair_mono⟩
              · rintro j z H7 H8 hj s7 ⟨rfl, hz⟩
                obtain ⟨dd, hdd, rdd⟩ := rhv6.at_ hz
                rw [List.getElem?_map] at hdd
                cases eh : hs[j]? with
                | none => rw [eh] at hdd; cases hdd
                | some h =>
                  rw [eh] at hdd
                  cases hdd
                  obtain ⟨ha7, hx7, rfl, eha7, rhx7⟩ := rdd.tup_inv
                  cases rhx7 with
                  | cons q1 rhx7 => cases rhx7 with
                    | cons q2 rhx7 =>
                      obtain rfl := q1.str_inv
                      obtain rfl := q2.int_inv
                      cases rhx7
                      refine ⟨ha7, _, rfl, (Same.tk s7).sq eha7, rfl, _, _, rfl, _, _, rfl, rfl, rfl, fun Q' q' => ⟨_, rfl, _, rfl, (by show 2 ≤ sizeLine; decide), fun p hp => ?_⟩⟩
                      exact q' _ _ (same_new hp) ⟨h, rfl, Rp.new hp (.cons (.str _) (.cons (.int _) .nil))⟩
              · intro H7 ys s7 e7 hly hPe
                have hH7 : HdAt K H7 D2 hs := by
                  refine ⟨ys, e7, Rps.of_get (by rw [hly, rhv6.len]) fun j y dd hy hdd => ?_⟩
                  obtain ⟨h, eh, rp⟩ := hPe j y hy
                  rw [List.getElem?_map, eh] at hdd
                  cases hdd
                  exact rp
                have s57 := s56.trans s7
                refine ⟨_, rfl, _, rfl, D2, ka, v, hs, r, l, rfl, hH7, rv5.same s57, s57 _ _ hka5, fun d' s' e => ?_, fun d' f' as' e => ?_, fun H8 s8 => ?_⟩
                · subst e
                  obtain ⟨k, ek, _⟩ := hr.rd s' (by simp [Row.reads])
                  exact (List.getElem?_eq_some_iff.mp ek).1
                · obtain ⟨h, eh, _⟩ := hr.ca d' f' as' e
                  exact (List.getElem?_eq_some_iff.mp eh).1
                have s58 := s57.trans s8
                have ela := (s7.trans s8) _ _ e6
                refine ⟨_, rfl, _, rfl, la, _, _, d, rfl, rfl, ela, ixN_nat (by rw [List.length_map]; exact hdl), ?_⟩
                refine hN _ ⟨same_at s58 hla, ?_⟩
                rw [upd_same, ← List.map_set]
                unfold afterL
                rw [hst]
          · rintro Hz ⟨sz, ela⟩
            have F6 := F5.same sz
            have hal' : (afterL hs r l).length = regs := by rw [afterL_len]; exact hl0
            -- for to in ways
            refine ⟨_, rfl, _, rfl, v, r, i, rfl, rv5.same sz, fun wl H7 s7 hwn hw => ⟨wl, rfl, ⟨_, SqL.of hw⟩, ?_⟩⟩
            have F7 := F6.same s7
            obtain ⟨av7, A7⟩ := F6.ah
            have nwl : wl ≠ al ∧ wl ≠ lc := ⟨(ne_of_none A7.e hwn).symm, (F6.d.d.ne hwn).2⟩
            have hgt := succs_gt hr hi
            refine for_it walk_list (fun j σ' Hj => ∃ (o20 : Option V) (B' : List (Option KL)), σ' = [some (.ref dk), some (.ref hl), some (.int f), some (.int 9), some (.str kd.str), some (.int many), some (.int regs), some (.int size), some (.ref al), some (.ref rl), some (.int i), some (.ref ka), some v, some (.ref D), o14, o15, some (.ref la), some (optI r.sets), o18, o19, o20] ∧
              FS K dk lc hl al rl hs B' (rows ++ [r]) H Hj ∧ Bs B B' ((r.succs i).take j) (kf (afterL hs r l)) regs ∧ Hj la = some (.lst ((afterL hs r l).map kdV)) ∧ Hj wl = some (.lst (natsV (r.succs i))))
              ⟨_, B, rfl, F7, Bs.nil O.ln, s7 _ _ ela, hw⟩ (fun j σ' Hj _ ⟨_, _, _, _, _, _, h⟩ => SqL.of h) ?_ ?_
            · rintro j x σ' Hj Hj' hj ⟨o20, B', rfl, Fj, Bj, ej, wj⟩ ⟨rfl, hx⟩
              obtain ⟨t, ht, htm, rfl⟩ := natsV_at hx
              have htg := hgt t htm
              obtain ⟨avj, Aj⟩ := Fj.ah
              have htB : t < B'.length := by rw [Bj.len, O.bl]; omega
              obtain ⟨o, eo⟩ : ∃ o, B'[t]? = some o := ⟨B'[t], List.getElem?_eq_getElem htB⟩
              obtain ⟨vt, evt⟩ : ∃ vt, avj[t]? = some vt := ⟨avj[t]'(by rw [Aj.len]; exact htB), List.getElem?_eq_getElem _⟩
              have hEt := Aj.at_ t o vt eo evt
              have etk : (r.succs i).take (j + 1) = (r.succs i).take j ++ [t] := by
                rw [List.take_add_one, ht]
                rfl
              refine ⟨_, rfl, _, rfl, _, _, _, _, rfl, rfl, SqL.of Aj.e, atI_nat evt, rfl, _, rfl, ?_⟩
              cases o with
              | none =>
                obtain rfl : vt = .non := hEt
                refine iteC (b := true) (by simp) ?_
                refine ⟨_, rfl, _, rfl, _, rfl, al, _, _, t, rfl, rfl, Aj.e, ixN_nat (by rw [Aj.len]; exact htB), ?_⟩
                refine ⟨_, B'.set t (some (afterL hs r l)), rfl, Fj.put Aj (o := some (afterL hs r l)) ⟨la, rfl, ej, nla⟩, ?_, ?_, ?_⟩
                · rw [etk]
                  exact Bj.snoc (o := none) hal' eo
                · rw [upd_ne nla.1]; exact ej
                · rw [upd_ne nwl.1]; exact wj
              | some b =>
                obtain ⟨ab, rfl, g2, g3, g4, g5⟩ := hEt
                refine iteC (b := false) (by simp) ?_
                have hbl := Bj.ln t b eo
                refine ⟨_, rfl, _, rfl, _, _, _, _, rfl, rfl, SqL.of Aj.e, atI_nat evt, _, rfl, ab, la, b, afterL hs r l, rfl, g2, ej, by rw [hbl, hal'], by omega, fun p Hp sp hpn hp => ?_⟩
                have Fp := Fj.same sp
                have Ap : AhAt Hp al rl lc B' avj := ⟨sp _ _ Aj.e, Aj.len, fun i' o' v' h1 h2 => (Aj.at_ i' o' v' h1 h2).to fun b' xs e _ _ _ => sp _ _ e⟩
                obtain ⟨rvj, gg, _⟩ := Fj.rw_
                refine ⟨_, rfl, _, rfl, al, _, _, t, rfl, rfl, Ap.e, ixN_nat (by rw [Aj.len]; exact htB), ?_⟩
                refine ⟨_, B'.set t (some (joinL b (afterL hs r l))), rfl, Fp.put Ap (o := some (joinL b (afterL hs r l))) ⟨p, rfl, hp, (ne_of_none Aj.e hpn).symm, (ne_of_none gg hpn).symm, (Fj.d.d.ne hpn).2⟩, ?_, ?_, ?_⟩
                · rw [etk]
                  exact Bj.snoc (o := some b) hal' eo
                · rw [upd_ne nla.1]; exact sp _ _ ej
                · rw [upd_ne nwl.1]; exact sp _ _ wj
            · rintro σ' Hj ⟨o20, B', rfl, Fj, Bj, ej, wj⟩
              refine ⟨B', rows ++ [r], _, _, _, _, _, _, _, _, _, _, _, rfl, Fj, O.next (by omega) hi hh5 hr hl0 hll (fun e => by rw [eB] at e; cases e) fun l' e => ?_⟩
              obtain rfl := hll l' e
              rw [natsV_len, List.take_length] at Bj
              rw [← kf_afterL hr.st]
              exact Bj
  · rintro σ Hx ⟨B, rows, o10, o11, o12, o13, o14, o15, o16, o17, o18, o19, o20, rfl, F, O⟩
    refine ⟨_, rfl, _, rfl, dk, lc, regs, rfl, F.d.d, by omega, by omega, fun d H1 hdr d1 => ?_⟩
    have F1 := F.dr d1
    dsimp only [gName]
    refine set_cont (fun v Hy => ∃ rl2 xs r, v = .ref rl2 ∧ FS K dk lc hl al rl hs B rows H Hy ∧ Hy rl2 = some (.lst xs) ∧ Rps K Hy xs ((rows ++ [r, Row.give d]).map Row.dt) ∧ LastRow hs kd d r) (fun Q' hQ => ?_) ?_
    · have fin : ∀ (r : Row) (H2 : Hp), FS K dk lc hl al rl hs B rows H H2 → LastRow hs kd d r → r.items = [iD d] → ∀ (p1 p2 l1 : Addr), H2 p1 = none → (upd H2 p1 (.tup [V.str r.word, V.int (d : Int)])) p2 = none → (upd (upd H2 p1 (.tup [V.str r.word, V.int (d : Int)])) p2 (.tup [V.str "give", V.int (d : Int)])) l1 = none →
          rCat (.ref rl) (.ref l1) (upd (upd (upd H2 p1 (.tup [V.str r.word, V.int (d : Int)])) p2 (.tup [V.str "give", V.int (d : Int)])) l1 (.lst [V.ref p1, V.ref p2])) Q' := by
        intro r H2 F2 hL hit p1 p2 l1 h1 h2 h3
        have s2 := ((same_new (o := .tup [V.str r.word, V.int (d : Int)]) h1).trans (same_new (o := .tup [V.str "give", V.int (d : Int)]) h2)).trans (same_new (o := .lst [V.ref p1, V.ref p2]) h3)
        have F3 := F2.same s2
        obtain ⟨rv, g1, g2⟩ := F3.rw_
        have t1 := ((same_new (o := .tup [V.str "give", V.int (d : Int)]) h2).trans (same_new (o := .lst [V.ref p1, V.ref p2]) h3)) _ _ (upd_same (H := H2) (a := p1) (o := .tup [V.str r.word, V.int (d : Int)]))
        have t2 := (same_new (o := .lst [V.ref p1, V.ref p2]) h3) _ _ (upd_same (H := upd H2 p1 (.tup [V.str r.word, V.int (d : Int)])) (a := p2) (o := .tup [V.str "give", V.int (d : Int)]))
        have rl' : Rps K _ [V.ref p1, V.ref p2] [r.dt, (Row.give d).dt] := .cons (.tup (SqT.of t1) (.cons (.str _) (by rw [hit]; exact .cons (.int _) .nil))) (.cons (.tup (SqT.of t2) (.cons (.str _) (.cons (.int _) .nil))) .nil)
        refine ⟨rl, l1, rv, [V.ref p1, V.ref p2], rfl, rfl, g1, upd_same, ?_, fun rl2 hrl2 => ?_⟩
        · rw [g2.len, List.length_map, O.rl]
          exact small _ (by simp; omega)
        have s4 := same_new (o := .lst (rv ++ [V.ref p1, V.ref p2])) hrl2
        refine hQ _ _ ⟨rl2, _, r, rfl, F3.same s4, upd_same, ?_, hL⟩
        rw [List.map_append]
        exact (g2.append rl').same s4
      refine ⟨_, rfl, _, rfl, rfl, _, rfl, ?_⟩
      cases kd with
      | truth =>
        refine iteC (b := true) (by decide +kernel) ?_
        refine ⟨_, rfl, (by show 2 ≤ sizeLine; decide), fun t1 ht1 => ?_⟩
        have F2 := F1.same (same_new (o := .tup [V.str "yes", V.str "no"]) ht1)
        refine ⟨dk, lc, t1, _, rfl, F2.d.d, .inr sqT_new, by decide, by decide, fun i1 v1 H3 hi1 d3 => ?_⟩
        have F3 := F2.dr d3
        match i1, hi1 with
        | 0, hi1 =>
          cases hi1
          refine ⟨_, rfl, (by show 2 ≤ sizeLine; decide), fun p1 hp1 => ⟨_, rfl, (by show 2 ≤ sizeLine; decide), fun p2 hp2 => ⟨(by show 2 ≤ sizeLine; decide), fun l1 hl1 => ?_⟩⟩⟩
          exact fin (.yes d) H3 F3 ⟨rfl, rfl, fun _ => rfl, fun _ => rfl, fun _ _ => trivial, by simp⟩ rfl p1 p2 l1 hp1 hp2 hl1
        | 1, hi1 =>
          cases hi1
          refine ⟨_, rfl, (by show 2 ≤ sizeLine; decide), fun p1 hp1 => ⟨_, rfl, (by show 2 ≤ sizeLine; decide), fun p2 hp2 => ⟨(by show 2 ≤ sizeLine; decide), fun l1 hl1 => ?_⟩⟩⟩
          exact fin (.no d) H3 F3 ⟨rfl, rfl, fun _ => rfl, fun _ => rfl, fun _ _ => trivial, by simp⟩ rfl p1 p2 l1 hp1 hp2 hl1
        | n + 2, hi1 => cases hi1
      | place =>
        refine iteC (b := false) (by decide +kernel) ?_
        refine ⟨_, rfl, (by show 2 ≤ sizeLine; decide), fun p1 hp1 => ⟨_, rfl, (by show 2 ≤ sizeLine; decide), fun p2 hp2 => ⟨(by show 2 ≤ sizeLine; decide), fun l1 hl1 => ?_⟩⟩⟩
        exact fin (.top d) H1 F1 ⟨rfl, rfl, fun _ => rfl, fun _ => rfl, fun _ _ => trivial, by simp⟩ rfl p1 p2 l1 hp1 hp2 hl1
    · rintro v Hy ⟨rl2, xs, r, rfl, F2, e2, rx2, hL⟩
      refine ⟨_, rfl, _, rfl, _, rfl, _, rfl, rl2, _, rfl, .inl ⟨SqL.of e2, fun tA htA => ⟨(by show 4 ≤ sizeLine; decide), fun p hp => ?_⟩⟩⟩
      have s1 := same_new (o := .tup xs) htA
      have s2 := s1.trans (same_new (o := .tup [V.str kd.str, V.int (many : Int), V.int (regs : Int), V.ref tA]) hp)
      have hT : Typed hs ⟨kd, many, regs, rows ++ [r, .give d]⟩ := O.typed (by omega) hdr (by omega) hL
      refine q _ ⟨kd, many, regs, rows ++ [r, .give d]⟩ _ (F2.same s2).d (Rp.new hp (.cons (.str _) (.cons (.int _) (.cons (.int _) (.cons (.tup sqT_new (rx2.same s1)) .nil))))) rfl hT (by show regs ≤ 1000; omega) ?_
      show (rows ++ [r, Row.give d]).length ≤ 1000
      rw [List.length_append, O.rl]
      simp
      omega
end
end Eo
set_option linter.all false
set_option maxRecDepth 100000
set_option maxHeartbeats 4000000
/-! E24: walkers are typed (plain). -/
namespace Eo
open PySem
abbrev Pre := Option (Nat × Kd)
inductive It2 where
  | fix (r : Row) (p : Pre)
  | hole
def It2.row (b t : Nat) : It2 → Row
  | .fix r _ => r
  | .hole => .unl b t
def It2.pre (b : Nat) : It2 → Pre
  | .fix _ p => p
  | .hole => some (b, .truth)
def preK (many : Nat) (p : Pre) : Ks := fun i => if i < many then some .place else match p with
  | some (r, k) => if i = r then some k else none
  | none => none
theorem preK_lt {many i : Nat} {p : Pre} (h : i < many) : preK many p i = some .place := if_pos h
theorem preK_at {many r : Nat} {k : Kd} (h : many ≤ r) : preK many (some (r, k)) r = some k := by
  unfold preK
  rw [if_neg (by omega)]
  exact if_pos rfl
theorem preK_none {many : Nat} {p : Pre} : Le (preK many none) (preK many p) := by
  intro i k e
  unfold preK at e ⊢
  by_cases h : i < many
  · rw [if_pos h] at e ⊢; exact e
  · rw [if_neg h] at e; cases e
/-- what one row asks, standing at j -/
structure ItOk (hs : Heads) (kd : Kd) (many j : Nat) (r : Row) (p : Pre) : Prop where
  rd : ∀ i ∈ r.reads, i < many + 2 ∧ ∃ k, preK many p i = some k ∧ ∀ w, r.want kd = some w → k = w
  st : ∀ d, r.sets = some d → many ≤ d ∧ d < many + 2
  sk : ∀ k, r ≠ .skip k
  un : ∀ s k, r = .unl s k → j = 1 ∧ k = 4
  ca : ∀ d f as, r = .call d f as → ∃ h, hs[f]? = some h ∧ as.length = h.2
  tg : ∀ d s g, r = .has d s g → GoodTag g
structure WI (hs : Heads) (kd : Kd) (many : Nat) (W : List It2) (p : Pre) : Prop where
  ok : ∀ (j : Nat) (r : Row) (q : Pre), W[j]? = some (.fix r q) → ItOk hs kd many j r q
  nx : ∀ (j : Nat) (x y : It2), W[j]? = some x → W[j + 1]? = some y → (x.row (many + 1) 0).falls = true → Le (preK many (y.pre (many + 1))) (after hs (x.row (many + 1) 0) (preK many (x.pre (many + 1))))
  la : ∀ (x : It2), W[W.length - 1]? = some x → (x.row (many + 1) 0).falls = true → Le (preK many p) (after hs (x.row (many + 1) 0) (preK many (x.pre (many + 1))))
  p0 : W = [] → p = none
  w0 : ∀ (x : It2), W[0]? = some x → x.pre (many + 1) = none
  w4 : ∀ (x : It2), W[4]? = some x → x.pre (many + 1) = none
section
variable {hs : Heads} {kd : Kd} {many : Nat} {W : List It2} {p p' : Pre} {r : Row}
theorem WI.nil : WI hs kd many [] none := ⟨fun j r q e => by simp at e, fun j x y e => by simp at e, fun x e => by simp at e, fun _ => rfl, fun x e => by simp at e, fun x e => by simp at e⟩
theorem WI.weaken (h : WI hs kd many W p) : WI hs kd many W none := ⟨h.ok, h.nx, fun x e f => Le.trans preK_none (h.la x e f), fun _ => rfl, h.w0, h.w4⟩
theorem snoc_get {α : Type} {W : List α} {x y : α} {j : Nat} (e : (W ++ [x])[j]? = some y) : (j < W.length ∧ W[j]? = some y) ∨ (j = W.length ∧ y = x) := by
  by_cases hj : j < W.length
  · rw [List.getElem?_append_left hj] at e
    exact .inl ⟨hj, e⟩
  · have hj2 : j = W.length := by
      have := (List.getElem?_eq_some_iff.mp e).1
      simp at this
      omega
    subst hj2
    simp at e
    exact .inr ⟨rfl, e.symm⟩
theorem WI.app (h : WI hs kd many W p) (x : It2) (hx : x.pre (many + 1) = p) (hok : ∀ r q, x = .fix r q → ItOk hs kd many W.length r q) (h4 : W.length = 4 → p = none)
    (hp : (x.row (many + 1) 0).falls = true → Le (preK many p') (after hs (x.row (many + 1) 0) (preK many p))) : WI hs kd many (W ++ [x]) p' := by
  refine ⟨fun j r q e => ?_, fun j y z e1 e2 f => ?_, fun y e f => ?_, fun e => by simp at e, fun y e => ?_, fun y e => ?_⟩
  · rcases snoc_get e with ⟨_, e⟩ | ⟨rfl, e2⟩
    · exact h.ok j r q e
    · exact hok r q e2.symm
  · rcases snoc_get e2 with ⟨hj, e2⟩ | ⟨hj, rfl⟩
    · rcases snoc_get e1 with ⟨_, e1⟩ | ⟨hj', _⟩
      · exact h.nx j y z e1 e2 f
      · omega
    · rcases snoc_get e1 with ⟨hj2, e1⟩ | ⟨hj', _⟩
      · rw [hx]
        refine h.la y ?_ f
        rw [show W.length - 1 = j by omega]
        exact e1
      · omega
  · rw [List.length_append, List.length_singleton, Nat.add_sub_cancel] at e
    rcases snoc_get e with ⟨hj, _⟩ | ⟨_, rfl⟩
    · omega
    · rw [hx]
      exact hp f
  · rcases snoc_get e with ⟨_, e⟩ | ⟨hj, rfl⟩
    · exact h.w0 y e
    · rw [hx]
      exact h.p0 (List.eq_nil_of_length_eq_zero hj.symm)
  · rcases snoc_get e with ⟨_, e⟩ | ⟨hj, rfl⟩
    · exact h.w4 y e
    · rw [hx]
      exact h4 hj.symm
theorem WI.fix (h : WI hs kd many W p) (hok : ItOk hs kd many W.length r p) (h4 : W.length = 4 → p = none) (hp : r.falls = true → Le (preK many p') (after hs r (preK many p))) : WI hs kd many (W ++ [.fix r p]) p' :=
  h.app (.fix r p) rfl (fun r' q e => by cases e; exact hok) h4 hp
theorem WI.hole (h : WI hs kd many W (some (many + 1, .truth))) (h4 : W.length ≠ 4) : WI hs kd many (W ++ [.hole]) none :=
  h.app .hole rfl (fun r' q e => by cases e) (fun e => absurd e h4) fun _ => (preK_none : Le (preK many none) (preK many (some (many + 1, .truth))))
/-- a row that sets d ≥ many -/
theorem after_le {d : Nat} {k : Kd} (hd : r.sets = some d) (hm : many ≤ d) (hk : kindSet hs (preK many p) r = some k) : Le (preK many (some (d, k))) (after hs r (preK many p)) := by
  intro i k' e
  unfold after
  rw [hd]
  show (if i = d then kindSet hs (preK many p) r else preK many p i) = some k'
  by_cases hi : i = d
  · subst hi
    rw [preK_at hm] at e
    rw [if_pos rfl, hk]
    exact e
  · rw [if_neg hi]
    unfold preK at e ⊢
    by_cases h : i < many
    · rw [if_pos h] at e ⊢; exact e
    · rw [if_neg h] at e
      simp only at e
      rw [if_neg hi] at e
      cases e
/-- all rows of a done walker -/
theorem WI.typed {len : Nat} (h : WI hs kd many W p) (hl : W.length = len) (h6 : 6 ≤ len) (h5 : ∀ x ∈ hs, x.2 ≤ 5) (hT : ∀ x, W[len - 2]? = some x → x.pre (many + 1) = none)
    (hend : ∀ x, W[len - 1]? = some x → (x.row (many + 1) (len - 2)).falls = false) (hho : ∀ j, W[j]? = some .hole → j < len - 2) : Typed hs ⟨kd, many, many + 2, W.map (It2.row (many + 1) (len - 2))⟩ := by
  have hlen : (W.map (It2.row (many + 1) (len - 2))).length = len := by rw [List.length_map, hl]
  have rget : ∀ (j : Nat) (r : Row), (W.map (It2.row (many + 1) (len - 2)))[j]? = some r → ∃ x, W[j]? = some x ∧ r = x.row (many + 1) (len - 2) := by
    intro j r e
    rw [List.getElem?_map] at e
    cases q : W[j]? with
    | none => rw [q] at e; cases e
    | some x => rw [q] at e; exact ⟨x, rfl, (Option.some.inj e).symm⟩
  have fl : ∀ x : It2, (x.row (many + 1) (len - 2)).falls = (x.row (many + 1) 0).falls := fun x => by cases x <;> rfl
  have af : ∀ (x : It2) ks, after hs (x.row (many + 1) (len - 2)) ks = after hs (x.row (many + 1) 0) ks := fun x ks => by cases x <;> rfl
  have wex : ∀ j, j < len → ∃ x, W[j]? = some x := fun j hj => ⟨W[j]'(by omega), List.getElem?_eq_getElem _⟩
  refine ⟨fun i => (W[i]?).map fun x => preK many (x.pre (many + 1)), ?_, ?_, by show many ≤ many + 2; omega, fun j r e => ?_, fun j r ks e ea => ?_, fun j r ks e ea => ?_⟩
  · obtain ⟨x, hx⟩ := wex 0 (by omega)
    refine ⟨preK many none, by rw [hx]; show some (preK many (x.pre (many + 1))) = _; rw [h.w0 x hx], fun i k e => ?_⟩
    unfold preK at e
    by_cases hi : i < many
    · rw [if_pos hi] at e; cases e; exact ⟨hi, rfl⟩
    · rw [if_neg hi] at e; cases e
  · show 0 < (W.map (It2.row (many + 1) (len - 2))).length
    rw [hlen]
    omega
  · show NumOk hs (many + 2) (W.map (It2.row (many + 1) (len - 2))).length r j
    rw [hlen]
    obtain ⟨x, hx, rfl⟩ := rget j r e
    have hjl : j < len := by
      have := (List.getElem?_eq_some_iff.mp hx).1
      omega
    cases x with
    | hole =>
      have := hho j hx
      exact ⟨fun i hi => by (simp [It2.row, Row.reads] at hi; subst hi; show many + 1 < many + 2; omega), fun d e => by (cases e), ⟨this, by omega⟩⟩
    | fix r q =>
      have o := h.ok j r q hx
      refine ⟨fun i hi => (o.rd i hi).1, fun d e => (o.st d e).2, ?_⟩
      show NumX hs len r j
      cases r with
      | call d f as =>
        obtain ⟨y, ey, hy⟩ := o.ca d f as rfl
        have := h5 y (List.mem_of_getElem? ey)
        exact ⟨(List.getElem?_eq_some_iff.mp ey).1, by omega⟩
      | skip k => exact absurd rfl (o.sk k)
      | unl s k =>
        obtain ⟨rfl, rfl⟩ := o.un s k rfl
        exact ⟨by omega, by omega⟩
      | has d s g => exact o.tg d s g rfl
      | _ => exact trivial
  · show RowOk hs kd (W.map (It2.row (many + 1) (len - 2))).length r j ks
    rw [hlen]
    obtain ⟨x, hx, rfl⟩ := rget j r e
    rw [hx] at ea
    cases ea
    have hjl : j < len := by
      have := (List.getElem?_eq_some_iff.mp hx).1
      omega
    refine ⟨fun f => ?_, ?_, ?_⟩
    · by_cases hj : j = len - 1
      · subst hj
        rw [hend x hx] at f
        cases f
      · omega
    · cases x with
      | hole =>
        intro i hi
        simp [It2.row, Row.reads] at hi
        subst hi
        exact ⟨.truth, preK_at (by omega), fun w hw => by cases hw; rfl⟩
      | fix r q => exact fun i hi => ((h.ok j r q hx).rd i hi).2
    · cases x with
      | hole => exact fun d f as e => by cases e
      | fix r q => exact (h.ok j r q hx).ca
  · obtain ⟨x, hx, rfl⟩ := rget j r e
    have ea' : some (preK many (x.pre (many + 1))) = some ks := by
      have e2 := ea
      simp only [hx] at e2
      exact e2
    cases ea'
    have hjl : j < len := by
      have := (List.getElem?_eq_some_iff.mp hx).1
      omega
    intro t ht
    rw [af]
    have next : ∀ y, W[j + 1]? = some y → (x.row (many + 1) 0).falls = true → Le (preK many (y.pre (many + 1))) (after hs (x.row (many + 1) 0) (preK many (x.pre (many + 1)))) := fun y hy f => h.nx j x y hx hy f
    have nxt : (x.row (many + 1) 0).falls = true → t = j + 1 → ∃ ks', (W[t]?).map (fun x => preK many (x.pre (many + 1))) = some ks' ∧ Le ks' (after hs (x.row (many + 1) 0) (preK many (x.pre (many + 1)))) := by
      rintro f rfl
      have hj : j ≠ len - 1 := by
        rintro rfl
        have := hend x hx
        rw [fl, f] at this
        cases this
      obtain ⟨y, hy⟩ := wex (j + 1) (by omega)
      exact ⟨_, by rw [hy]; rfl, next y hy f⟩
    have jump : ∀ y, W[t]? = some y → y.pre (many + 1) = none → after hs (x.row (many + 1) 0) (preK many (x.pre (many + 1))) = preK many (x.pre (many + 1)) → ∃ ks', (W[t]?).map (fun x => preK many (x.pre (many + 1))) = some ks' ∧ Le ks' (after hs (x.row (many + 1) 0) (preK many (x.pre (many + 1)))) := by
      intro y hy hp ha
      refine ⟨_, by rw [hy]; rfl, ?_⟩
      show Le (preK many (y.pre (many + 1))) _
      rw [hp, ha]
      exact preK_none
    cases x with
    | hole =>
      simp [It2.row, Row.succs] at ht
      rcases ht with rfl | rfl
      · exact nxt rfl rfl
      · obtain ⟨y, hy⟩ := wex (len - 2) (by omega)
        exact jump y hy (hT y hy) rfl
    | fix r q =>
      have o := h.ok j r q hx
      cases r with
      | skip k => exact absurd rfl (o.sk k)
      | unl s k =>
        obtain ⟨rfl, rfl⟩ := o.un s k rfl
        simp [It2.row, Row.succs] at ht
        rcases ht with rfl | rfl
        · exact nxt rfl rfl
        · obtain ⟨y, hy⟩ := wex 4 (by omega)
          exact jump y hy (h.w4 y hy) rfl
      | give s => cases ht
      | _ =>
        simp [It2.row, Row.succs] at ht
        exact nxt rfl ht
end
end Eo
set_option linter.all false
set_option maxRecDepth 100000
set_option maxHeartbeats 8000000
/-! E25: a walker. -/
namespace Eo
open PySem L2
theorem if_seq4 {c : TT} {x y b : TS} {D : Ends} {σ : L2.St} {H : Hp} (C : Hp → Prop) (h : ∀ N : L2.St → Hp → Prop, (∀ H', C H' → N σ H') → c σ H fun v H1 => if v = true then x { D with nx := N } σ H1 else y { D with nx := N } σ H1) (hb : ∀ H', C H' → b D σ H') : tSeq (tIfS c x y) b D σ H :=
  h (b D) hb
theorem if_seq5 {i : Nat} {c : TT} {x y b : TS} {D : Ends} {σ : L2.St} {H : Hp} (C : V → Hp → Prop) (h : ∀ N : L2.St → Hp → Prop, (∀ v H', C v H' → N (σ.set i (some v)) H') → c σ H fun v H1 => if v = true then x { D with nx := N } σ H1 else y { D with nx := N } σ H1) (hb : ∀ v H', C v H' → b D (σ.set i (some v)) H') : tSeq (tIfS c x y) b D σ H :=
  h (b D) hb
def rows0 (many : Nat) (W : List It2) : List Dt := (W.map (It2.row (many + 1) 0)).map Row.dt
theorem rows0_len (many : Nat) (W : List It2) : (rows0 many W).length = W.length := by unfold rows0; simp
theorem rows0_app (many : Nat) (W U : List It2) : rows0 many (W ++ U) = rows0 many W ++ rows0 many U := by unfold rows0; simp
structure WS (K : PySem.W.Frag) (dk lc hl rl tl : Addr) (hs : Heads) (many : Nat) (W : List It2) (ts : List Nat) (H Hx : Hp) : Prop where
  d : Dr dk lc H Hx
  h : HdAt K Hx hl hs
  rw_ : ∃ rv, Hx rl = some (.lst rv) ∧ Rps K Hx rv (rows0 many W)
  tt : Hx tl = some (.lst (natsV ts))
  n1 : hl ≠ lc
  n2 : rl ≠ lc
  n3 : tl ≠ lc
  n4 : rl ≠ tl
  n5 : hl ≠ rl
  n6 : hl ≠ tl
  nrl : H rl = none
  ntl : H tl = none
section
variable {K : PySem.W.Frag} {dk lc hl rl tl : Addr} {hs : Heads} {many : Nat} {W : List It2} {ts : List Nat} {H Hx Hy : Hp}
theorem WS.dr (a : WS K dk lc hl rl tl hs many W ts H Hx) (d : Dr dk lc Hx Hy) : WS K dk lc hl rl tl hs many W ts H Hy := by
  obtain ⟨rv, h1, h2⟩ := a.rw_
  exact ⟨a.d.trans d, a.h.dr d a.n1, ⟨rv, d.get h1 (d.d0.neD h1) a.n2, h2.tk d.tk⟩, d.get a.tt (d.d0.neD a.tt) a.n3, a.n1, a.n2, a.n3, a.n4, a.n5, a.n6, a.nrl, a.ntl⟩
theorem WS.same (a : WS K dk lc hl rl tl hs many W ts H Hx) (s : Same Hx Hy) : WS K dk lc hl rl tl hs many W ts H Hy := a.dr (a.d.d.dr s)
theorem WS.push (a : WS K dk lc hl rl tl hs many W ts H Hx) {rv : List V} {x : It2} {v : V} (h1 : Hx rl = some (.lst rv)) (h2 : Rps K Hx rv (rows0 many W)) (hv : Rp K Hx v (x.row (many + 1) 0).dt) : WS K dk lc hl rl tl hs many (W ++ [x]) ts H (upd Hx rl (.lst (rv ++ [v]))) := by
  obtain ⟨hv', g1, g2⟩ := a.h.ex
  refine ⟨a.d.upd a.nrl h1, ⟨hv', by rw [upd_ne a.n5]; exact g1, g2.tk (tk_lst h1)⟩, ⟨rv ++ [v], upd_same, ?_⟩, by rw [upd_ne a.n4.symm]; exact a.tt, a.n1, a.n2, a.n3, a.n4, a.n5, a.n6, a.nrl, a.ntl⟩
  rw [rows0_app]
  exact (h2.append (.cons hv .nil)).tk (tk_lst h1)
theorem WS.tpush (a : WS K dk lc hl rl tl hs many W ts H Hx) (t : Nat) : WS K dk lc hl rl tl hs many W (ts ++ [t]) H (upd Hx tl (.lst (natsV ts ++ [.int (t : Int)]))) := by
  obtain ⟨hv', g1, g2⟩ := a.h.ex
  obtain ⟨rv, h1, h2⟩ := a.rw_
  refine ⟨a.d.upd a.ntl a.tt, ⟨hv', by rw [upd_ne a.n6]; exact g1, g2.tk (tk_lst a.tt)⟩, ⟨rv, by rw [upd_ne a.n4]; exact h1, h2.tk (tk_lst a.tt)⟩, ?_, a.n1, a.n2, a.n3, a.n4, a.n5, a.n6, a.nrl, a.ntl⟩
  rw [upd_same, natsV_app]
  rfl
end
def Holes (W : List It2) (ts : List Nat) : Prop := ∀ j, W[j]? = some .hole ↔ j ∈ ts
theorem Holes.fix {W : List It2} {ts : List Nat} {r : Row} {p : Pre} (h : Holes W ts) : Holes (W ++ [.fix r p]) ts := by
  intro j
  constructor
  · intro e
    rcases snoc_get e with ⟨_, e⟩ | ⟨_, e⟩
    · exact (h j).mp e
    · cases e
  · intro e
    have := (h j).mpr e
    rw [List.getElem?_append_left (List.getElem?_eq_some_iff.mp this).1]
    exact this
theorem Holes.hole {W : List It2} {ts : List Nat} (h : Holes W ts) : Holes (W ++ [.hole]) (ts ++ [W.length]) := by
  intro j
  constructor
  · intro e
    rcases snoc_get e with ⟨_, e⟩ | ⟨rfl, _⟩
    · exact List.mem_append_left _ ((h j).mp e)
    · simp
  · intro e
    rcases List.mem_append.mp e with e | e
    · have := (h j).mpr e
      rw [List.getElem?_append_left (List.getElem?_eq_some_iff.mp this).1]
      exact this
    · simp at e
      subst e
      simp
/-- a row that reads places below many (or what p holds) -/
theorem itok {hs : Heads} {kd : Kd} {many j : Nat} {r : Row} {p : Pre} (rd : ∀ i ∈ r.reads, i < many + 2 ∧ ∃ k, preK many p i = some k ∧ ∀ w, r.want kd = some w → k = w) (st : ∀ d, r.sets = some d → many ≤ d ∧ d < many + 2) (h : (∀ k, r ≠ .skip k) ∧ (∀ s k, r ≠ .unl s k) ∧ (∀ d f as, r ≠ .call d f as) ∧ ∀ d s g, r = .has d s g → GoodTag g) : ItOk hs kd many j r p :=
  ⟨rd, st, h.1, fun s k e => absurd e (h.2.1 s k), fun d f as e => absurd e (h.2.2.1 d f as), h.2.2.2⟩
theorem words6 {i : Nat} {v : V} (h : ([V.str "left", V.str "right", V.str "left", V.str "right", V.str "right", V.str "up"])[i]? = some v) (d s : Nat) : ∃ r : Row, v = .str r.word ∧ r.items = [iD d, iD s] ∧ r.reads = [s] ∧ r.sets = some d ∧ (∀ fk, r.want fk = some .place) ∧ (∀ hs ks, kindSet hs ks r = some .place) ∧ (∀ k, r ≠ .skip k) ∧ (∀ s k, r ≠ .unl s k) ∧ (∀ d f as, r ≠ .call d f as) ∧ ∀ d s g, r = .has d s g → GoodTag g := by
  match i, h with
  | 0, h => cases h; exact ⟨.left d s, rfl, rfl, rfl, rfl, fun _ => rfl, fun _ _ => rfl, by simp, by simp, by simp, by simp⟩
  | 1, h => cases h; exact ⟨.right d s, rfl, rfl, rfl, rfl, fun _ => rfl, fun _ _ => rfl, by simp, by simp, by simp, by simp⟩
  | 2, h => cases h; exact ⟨.left d s, rfl, rfl, rfl, rfl, fun _ => rfl, fun _ _ => rfl, by simp, by simp, by simp, by simp⟩
  | 3, h => cases h; exact ⟨.right d s, rfl, rfl, rfl, rfl, fun _ => rfl, fun _ _ => rfl, by simp, by simp, by simp, by simp⟩
  | 4, h => cases h; exact ⟨.right d s, rfl, rfl, rfl, rfl, fun _ => rfl, fun _ _ => rfl, by simp, by simp, by simp, by simp⟩
  | 5, h => cases h; exact ⟨.up d s, rfl, rfl, rfl, rfl, fun _ => rfl, fun _ _ => rfl, by simp, by simp, by simp, by simp⟩
  | n + 6, h => cases h
theorem nats_le {m : Nat} : ∀ {ys : List V}, (∀ y ∈ ys, ∃ n : Nat, y = .int (n : Int) ∧ n ≤ m) → ∃ as : List Nat, ys = natsV as ∧ ∀ n ∈ as, n ≤ m
  | [], _ => ⟨[], rfl, fun n h => by cases h⟩
  | y :: ys, h => by
    obtain ⟨n, rfl, hn⟩ := h y (by simp)
    obtain ⟨as, rfl, has⟩ := nats_le fun z hz => h z (List.mem_cons_of_mem _ hz)
    refine ⟨n :: as, rfl, fun m hm => ?_⟩
    rcases List.mem_cons.mp hm with rfl | hm
    · exact hn
    · exact has m hm
theorem words3 {hs : Heads} {many i : Nat} {v : V} (h : ([V.str "left", V.str "up", V.str "move"])[i]? = some v) (hm : 1 ≤ many) : ∃ r : Row, v = .str r.word ∧ r.items = [iD many, iD 0] ∧ r.sets = some many ∧ kindSet hs (preK many none) r = some .place ∧ ∀ j, ItOk hs .place many j r none := by
  have bst : ∀ d : Nat, (some many : Option Nat) = some d → many ≤ d ∧ d < many + 2 := fun d e => by cases e; omega
  match i, h with
  | 0, h => cases h; exact ⟨.left many 0, rfl, rfl, rfl, rfl, fun j => itok (fun i hi => by simp [Row.reads] at hi; subst hi; exact ⟨by omega, .place, preK_lt hm, fun w hw => by cases hw; rfl⟩) bst ⟨by simp, by simp, by simp, by simp⟩⟩
  | 1, h => cases h; exact ⟨.up many 0, rfl, rfl, rfl, rfl, fun j => itok (fun i hi => by simp [Row.reads] at hi; subst hi; exact ⟨by omega, .place, preK_lt hm, fun w hw => by cases hw; rfl⟩) bst ⟨by simp, by simp, by simp, by simp⟩⟩
  | 2, h => cases h; exact ⟨.move many 0, rfl, rfl, rfl, (show preK many none 0 = some Kd.place from preK_lt hm), fun j => itok (fun i hi => by simp [Row.reads] at hi; subst hi; exact ⟨by omega, .place, preK_lt hm, fun w hw => by cases hw⟩) bst ⟨by simp, by simp, by simp, by simp⟩⟩
  | n + 3, h => cases h
def spWalker (K : PySem.W.Frag) : Sp := fun vs H Q _ => ∃ (dk lc hl : Addr) (hs : Heads) (f : Nat) (kd : Kd) (many : Nat), vs = [.ref dk, .ref hl, .int f] ∧ Deck H dk lc ∧ HdAt K H hl hs ∧ hl ≠ lc ∧ hs[f]? = some (kd, many) ∧ 1 ≤ many ∧ hs.length ≤ 1000 ∧ (∀ h ∈ hs, h.2 ≤ 5) ∧
  ∀ (v : V) (fn : Fn) (H' : Hp), Dr dk lc H H' → Rp K H' v fn.dt → fn.head = (kd, many) → Typed hs fn → fn.regs ≤ 1000 → fn.rows.length ≤ 1000 → Q v H'
section
variable {P : Program} {w : World} {K : PySem.W.Frag} {mg : Str → Option Value} {base : Heap} {Z : Wh}
theorem ok_law_walker (T : Tx w K mg Z) : FnOk P w K mg base CX0 4 (Z.A 53) (Z.D 53) ["_law_deck_here", "_law_heads_here", "_law_f"] (spWalker K) := by
  refine T.law_walker.F.ok sc_law_walker (fun vs H Q E h => ?_) (fun cdv A outer s H vs Q E hr h => ?_)
  · obtain ⟨dk, lc, hl, hs, f, kd, many, rfl, hd, hh, hne, hf, hm1, hh2, hh5, q⟩ := h
    rfl
  have hu := hu_of hr
  have hu0 := Nat.lt_of_succ_lt hu
  obtain ⟨dk, lc, hl, hs, f, kd, many, rfl, hd, hh, hne, hf, hm1, hh2, hh5, q⟩ := h
  have hm5 : many ≤ 5 := hh5 _ (List.mem_of_getElem? hf)
  have hfl : f < hs.length := (List.getElem?_eq_some_iff.mp hf).1
  obtain ⟨hv, ha, ehv, hvf, hat, hvl⟩ := hd_at hh hf
  have small : ∀ n : Nat, n ≤ 1000 → n ≤ sizeLine := fun n h => Nat.le_trans h (by decide)
  have eb : ((many : Int) + 1) = ((many + 1 : Nat) : Int) := by omega
  refine ⟨_, (pss_cons (ps_asg (pe_ix ix_list (pv 1) (pv 2) (fun _ _ => rfl)) (pg_tup rfl (pgs_cons (pg_name (i := 3) sc_law_walker.nd rfl (by first | exact Or.inl rfl | exact Or.inr rfl)) (pgs_cons (pg_name (i := 4) sc_law_walker.nd rfl (by first | exact Or.inl rfl | exact Or.inr rfl)) pgs_nil)))) (pss_cons (ps_asg (pe_tup (pa_cons (pv 4) (pa_cons (pe_op op_add (pv 4) pe_int) (pa_cons (pe_lst (pa_cons (pe_tup (pa_cons pe_str (pa_cons (pv 4) (pa_cons pe_int pa_nil)))) (pa_cons (pe_tup (pa_cons pe_str (pa_cons (pv 4) (pa_cons pe_int pa_nil)))) pa_nil))) pa_nil)))) (pg_tup rfl (pgs_cons (pg_name (i := 5) sc_law_walker.nd rfl (by first | exact Or.inl rfl | exact Or.inr rfl)) (pgs_cons (pg_name (i := 6) sc_law_walker.nd rfl (by first | exact Or.inl rfl | exact Or.inr rfl)) (pgs_cons (pg_name (i := 7) sc_law_walker.nd rfl (by first | exact Or.inl rfl | exact Or.inr rfl)) pgs_nil))))) (pss_cons (ps_set (i := 7) sc_law_walker.nd rfl (by first | exact Or.inl rfl | exact Or.inr rfl) (pe_op op_cat (pv 7) (pe_lst (pa_cons (pe_ifExp (pt_cmpR op_eq (pv 3) pe_str (nomark _)) (pe_tup (pa_cons (pe_call (ok_law_pick T) (hr.mono (by decide)) rfl T.law_pick.m T.law_pick.F.kp T.law_pick.b .nil pass0 (pa_cons (pv 0) (pa_cons (pe_tup (pa_cons pe_str (pa_cons pe_str pa_nil))) pa_nil))) (pa_cons (pv 5) pa_nil))) (pe_tup (pa_cons pe_str (pa_cons (pv 5) (pa_cons (pe_call (ok_law_draw T) (hr.mono (by decide)) rfl T.law_draw.m T.law_draw.F.kp T.law_draw.b .nil pass0 (pa_cons (pv 0) (pa_cons (pv 4) pa_nil))) pa_nil))))) (pa_cons (pe_tup (pa_cons pe_str (pa_cons (pv 5) pa_nil))) pa_nil))))) (pss_cons (ps_par (i := 8) (j := 9) (by rfl) sc_law_walker.nd rfl rfl (by decide) rfl rfl (pa_cons (pe_op op_add pe_int (pe_call (ok_law_draw T) (hr.mono (by decide)) rfl T.law_draw.m T.law_draw.F.kp T.law_draw.b .nil pass0 (pa_cons (pv 0) (pa_cons pe_int pa_nil)))) (pa_cons (pe_lst pa_nil) pa_nil)) (by rfl)) (pss_cons (ps_for PassesOwn.never rfl (pi_range1 rfl T.range_ (pa_cons (pv 8) pa_nil)) (pg_name (i := 10) sc_law_walker.nd rfl (by first | exact Or.inl rfl | exact Or.inr rfl)) (pss_cons (ps_expr (pe_bm PySem.F.plainAttrs_list PySem.F.slot_list_append PySem.F.type_list_append mt_append (pv 7) (pa_cons (pe_tup (pa_cons (pe_call (ok_law_pick T) (hr.mono (by decide)) rfl T.law_pick.m T.law_pick.F.kp T.law_pick.b .nil pass0 (pa_cons (pv 0) (pa_cons (pe_tup (pa_cons pe_str (pa_cons pe_str (pa_cons pe_str (pa_cons pe_str (pa_cons pe_str (pa_cons pe_str pa_nil))))))) pa_nil))) (pa_cons (pv 5) (pa_cons (pe_call (ok_law_draw T) (hr.mono (by decide)) rfl T.law_draw.m T.law_draw.F.kp T.law_draw.b .nil pass0 (pa_cons (pv 0) (pa_cons (pv 4) pa_nil))) pa_nil)))) pa_nil))) (pss_cons (ps_set (i := 11) sc_law_walker.nd rfl (by first | exact Or.inl rfl | exact Or.inr rfl) (pe_ifExp (pt_cmpR op_eq (pe_call (ok_law_draw T) (hr.mono (by decide)) rfl T.law_draw.m T.law_draw.F.kp T.law_draw.b .nil pass0 (pa_cons (pv 0) (pa_cons pe_int pa_nil))) pe_int (nomark _)) (pv 2) (pe_call (ok_law_draw T) (hr.mono (by decide)) rfl T.law_draw.m T.law_draw.F.kp T.law_draw.b .nil pass0 (pa_cons (pv 0) (pa_cons (pe_callB call_len rfl T.len_ bt_len (pa_cons (pv 1) pa_nil)) pa_nil))))) (pss_cons (ps_set (i := 12) sc_law_walker.nd rfl (by first | exact Or.inl rfl | exact Or.inr rfl) (pe_op op_cat (pe_lst (pa_cons (pv 5) pa_nil)) (pe_lc (own := [("_law_go", 13)]) (g := gName 13) (tt := tYes) rfl sc_law_walker.nd (pi_range1 rfl T.range_ (pa_cons (pe_ix ix_tup (pe_ix ix_list (pv 1) (pv 11) (fun _ _ => rfl)) pe_int (fun _ _ => rfl)) pa_nil)) (blkOk_by (own := [("_law_go", 13)]) (N := N_law_walker) (sc := defScope s_law_walker) (by decide +kernel)) (fun _ _ _ _ _ => (pg_name (i := 13) sc_law_walker.nd rfl (by first | exact Or.inl rfl | exact Or.inr rfl))) (fun _ _ _ _ _ => pts_nil) (fun _ _ _ _ _ => (pe_call (ok_law_pick T) (hr.mono (by decide)) rfl T.law_pick.m T.law_pick.F.kp T.law_pick.b .nil pass0 (pa_cons (pv 0) (pa_cons (pe_op op_cat (pe_lst (pa_cons (pv 5) pa_nil)) (pe_listRg rfl rfl T.list_ (prg_1 rfl T.range_ (pv 4)))) pa_nil))))))) (pss_cons (ps_expr (pe_bm PySem.F.plainAttrs_list PySem.F.slot_list_append PySem.F.type_list_append mt_append (pv 7) (pa_cons (pe_tup (pa_cons pe_str (pa_cons (pv 6) (pa_cons (pv 11) (pa_cons (pe_callTy call_tuple_of rfl T.tuple_ bt_tuple (pa_cons (pe_slice sl_list (pv 12) po_none (po_some (pe_ix ix_tup (pe_ix ix_list (pv 1) (pv 11) (fun _ _ => rfl)) pe_int (fun _ _ => rfl)))) pa_nil)) pa_nil))))) pa_nil))) (pss_cons (ps_if (pt_cmpR op_eq (pe_ix ix_tup (pe_ix ix_list (pv 1) (pv 11) (fun _ _ => rfl)) pe_int (fun _ _ => rfl)) pe_str (nomark _)) (pss_one (ps_expr (pe_bm PySem.F.plainAttrs_list PySem.F.slot_list_append PySem.F.type_list_append mt_append (pv 7) (pa_cons (pe_call (ok_law_pick T) (hr.mono (by decide)) rfl T.law_pick.m T.law_pick.F.kp T.law_pick.b .nil pass0 (pa_cons (pv 0) (pa_cons (pe_tup (pa_cons (pe_tup (pa_cons pe_str (pa_cons (pv 6) (pa_cons (pv 6) pa_nil)))) (pa_cons (pe_tup (pa_cons pe_str (pa_cons (pv 6) (pa_cons (pv 6) (pa_cons pe_int pa_nil))))) (pa_cons (pe_tup (pa_cons pe_str (pa_cons (pv 6) (pa_cons (pv 6) (pa_cons pe_str pa_nil))))) pa_nil)))) pa_nil))) pa_nil)))) (pss_one (ps_if (pt_cmpR op_eq (pe_call (ok_law_draw T) (hr.mono (by decide)) rfl T.law_draw.m T.law_draw.F.kp T.law_draw.b .nil pass0 (pa_cons (pv 0) (pa_cons pe_int pa_nil))) pe_int (nomark _)) (pss_one (ps_expr (pe_bm PySem.F.plainAttrs_list PySem.F.slot_list_append PySem.F.type_list_append mt_append (pv 7) (pa_cons (pe_tup (pa_cons pe_str (pa_cons (pv 6) (pa_cons (pv 6) pa_nil)))) pa_nil)))) pss_nil))) (pss_cons (ps_expr (pe_bm PySem.F.plainAttrs_list PySem.F.slot_list_append PySem.F.type_list_append mt_append (pv 9) (pa_cons (pe_callB call_len rfl T.len_ bt_len (pa_cons (pv 7) pa_nil)) pa_nil))) (pss_one (ps_expr (pe_bm PySem.F.plainAttrs_list PySem.F.slot_list_append PySem.F.type_list_append mt_append (pv 7) (pa_cons (pe_tup (pa_cons pe_str (pa_cons (pv 6) (pa_cons pe_int pa_nil)))) pa_nil))))))))))) (pss_cons (ps_if (pt_cmpR op_eq (pv 3) pe_str (nomark _)) (pss_one (ps_set (i := 7) sc_law_walker.nd rfl (by first | exact Or.inl rfl | exact Or.inr rfl) (pe_op op_cat (pv 7) (pe_lst (pa_cons (pe_tup (pa_cons pe_str (pa_cons (pv 5) pa_nil))) (pa_cons (pe_tup (pa_cons pe_str (pa_cons (pv 5) pa_nil))) (pa_cons (pe_tup (pa_cons pe_str (pa_cons (pv 5) pa_nil))) (pa_cons (pe_tup (pa_cons pe_str (pa_cons (pv 5) pa_nil))) pa_nil)))))))) (pss_one (ps_set (i := 7) sc_law_walker.nd rfl (by first | exact Or.inl rfl | exact Or.inr rfl) (pe_op op_cat (pv 7) (pe_lst (pa_cons (pe_tup (pa_cons (pe_call (ok_law_pick T) (hr.mono (by decide)) rfl T.law_pick.m T.law_pick.F.kp T.law_pick.b .nil pass0 (pa_cons (pv 0) (pa_cons (pe_tup (pa_cons pe_str (pa_cons pe_str (pa_cons pe_str pa_nil)))) pa_nil))) (pa_cons (pv 5) (pa_cons pe_int pa_nil)))) (pa_cons (pe_tup (pa_cons pe_str (pa_cons (pv 5) pa_nil))) (pa_cons (pe_tup (pa_cons pe_str (pa_cons (pv 5) (pa_cons (pe_call (ok_law_draw T) (hr.mono (by decide)) rfl T.law_draw.m T.law_draw.F.kp T.law_draw.b .nil pass0 (pa_cons (pv 0) (pa_cons (pv 4) pa_nil))) pa_nil)))) (pa_cons (pe_tup (pa_cons pe_str (pa_cons (pv 5) pa_nil))) pa_nil))))))))) (pss_cons (ps_for PassesOwn.never rfl (pi_list (pv 9)) (pg_name (i := 14) sc_law_walker.nd rfl (by first | exact Or.inl rfl | exact Or.inr rfl)) (pss_one (ps_asg (pe_tup (pa_cons pe_str (pa_cons (pv 6) (pa_cons (pe_op op_sub (pe_callB call_len rfl T.len_ bt_len (pa_cons (pv 7) pa_nil)) pe_int) pa_nil)))) (pg_sub (pv 7) (pv 14) set_list)))) (pss_one (ps_ret (pe_tup (pa_cons (pv 3) (pa_cons (pv 4) (pa_cons (pe_op op_add (pv 4) pe_int) (pa_cons (pe_callTy call_tuple_of rfl T.tuple_ bt_tuple (pa_cons (pv 7) pa_nil)) pa_nil)))))))))))))), ?_⟩
  refine ⟨_, rfl, _, rfl, _, _, _, _, rfl, rfl, SqL.of ehv, atI_nat hvf, _, _, rfl, hat, rfl, _, _, rfl, _, _, rfl, rfl, ?_⟩
  refine ⟨_, rfl, _, rfl, _, _, rfl, rfl, _, rfl, (by show 3 ≤ sizeLine; decide), fun t1 ht1 => ⟨_, rfl, (by show 3 ≤ sizeLine; decide), fun t2 ht2 => ⟨(by show 2 ≤ sizeLine; decide), fun l1 hl1 => ⟨(by show 3 ≤ sizeLine; decide), fun t3 ht3 => ⟨_, _, rfl, SqT.of upd_same, rfl, _, _, rfl, _, _, rfl, _, _, rfl, rfl, ?_⟩⟩⟩⟩⟩
  have s1 := same_new (o := .tup [V.str "empty", V.int (many : Int), V.int 0]) ht1
  have s2 := s1.trans (same_new (o := .tup [V.str "unless", V.int (many : Int), V.int 4]) ht2)
  have s3 := s2.trans (same_new (o := .lst [V.ref t1, V.ref t2]) hl1)
  have s4 := s3.trans (same_new (o := .tup [V.int (many : Int), V.int ((many : Int) + 1), V.ref l1]) ht3)
  have W2 : WI hs kd many ([.fix (.empty many 0) none] ++ [.fix (.unl many 4) (some (many, .truth))]) none := by
    refine WI.weaken (p := some (many, .truth)) (WI.fix (p := some (many, .truth)) (WI.fix (W := []) (p := none) WI.nil ?_ (fun _ => rfl) fun _ => after_le rfl (Nat.le_refl _) rfl) ?_ (fun e => by simp at e) fun _ => Le.refl _)
    · exact itok (fun i hi => by simp [Row.reads] at hi; subst hi; exact ⟨by omega, .place, preK_lt hm1, fun w hw => by cases hw; rfl⟩) (fun d e => (by cases e; omega)) ⟨by simp, by simp, by simp, by simp⟩
    · exact ⟨fun i hi => by simp [Row.reads] at hi; subst hi; exact ⟨by omega, .truth, preK_at (Nat.le_refl _), fun w hw => by cases hw; rfl⟩, fun d e => (by cases e), by simp, fun s k e => (by cases e; exact ⟨rfl, rfl⟩), fun _ _ _ e => (by cases e), fun _ _ _ e => (by cases e)⟩
  have e1 : ∀ y o, (upd H t1 (.tup [V.str "empty", V.int (many : Int), V.int 0])) y = some o → (upd (upd (upd (upd H t1 (.tup [V.str "empty", V.int (many : Int), V.int 0])) t2 (.tup [V.str "unless", V.int (many : Int), V.int 4])) l1 (.lst [V.ref t1, V.ref t2])) t3 (.tup [V.int (many : Int), V.int ((many : Int) + 1), V.ref l1])) y = some o := fun y o e => ((((same_new (o := .tup [V.str "unless", V.int (many : Int), V.int 4]) ht2).trans (same_new (o := .lst [V.ref t1, V.ref t2]) hl1)).trans (same_new (o := .tup [V.int (many : Int), V.int ((many : Int) + 1), V.ref l1]) ht3))) y o e
  have g1 := e1 t1 _ upd_same
  have g2 := (((same_new (o := .lst [V.ref t1, V.ref t2]) hl1).trans (same_new (o := .tup [V.int (many : Int), V.int ((many : Int) + 1), V.ref l1]) ht3))) t2 _ (upd_same (H := upd H t1 (.tup [V.str "empty", V.int (many : Int), V.int 0])) (o := .tup [V.str "unless", V.int (many : Int), V.int 4]))
  have g3 := (same_new (o := .tup [V.int (many : Int), V.int ((many : Int) + 1), V.ref l1]) ht3) l1 _ (upd_same (H := upd (upd H t1 (.tup [V.str "empty", V.int (many : Int), V.int 0])) t2 (.tup [V.str "unless", V.int (many : Int), V.int 4])) (o := .lst [V.ref t1, V.ref t2]))
  have d4 := hd.dr s4
  have nl1 : l1 ≠ lc := ((hd.same s2).ne hl1).2
  have rp2 : Rps K (upd (upd (upd (upd H t1 (.tup [V.str "empty", V.int (many : Int), V.int 0])) t2 (.tup [V.str "unless", V.int (many : Int), V.int 4])) l1 (.lst [V.ref t1, V.ref t2])) t3 (.tup [V.int (many : Int), V.int ((many : Int) + 1), V.ref l1])) [V.ref t1, V.ref t2] (rows0 many ([.fix (.empty many 0) none] ++ [.fix (.unl many 4) (some (many, .truth))])) :=
    .cons (.tup (SqT.of g1) (.cons (.str _) (.cons (.int _) (.cons (.int _) .nil)))) (.cons (.tup (SqT.of g2) (.cons (.str _) (.cons (.int _) (.cons (.int _) .nil)))) .nil)
  generalize (upd (upd (upd (upd H t1 (.tup [V.str "empty", V.int (many : Int), V.int 0])) t2 (.tup [V.str "unless", V.int (many : Int), V.int 4])) l1 (.lst [V.ref t1, V.ref t2])) t3 (.tup [V.int (many : Int), V.int ((many : Int) + 1), V.ref l1])) = H1 at d4 g3 rp2
  dsimp only [tSeq]
  refine set_cont (fun v Hy => ∃ rl rv r, v = .ref rl ∧ Dr dk lc H Hy ∧ H rl = none ∧ rl ≠ lc ∧ Hy rl = some (.lst rv) ∧ Rps K Hy rv (rows0 many ([.fix (.empty many 0) none] ++ [.fix (.unl many 4) (some (many, .truth))] ++ [.fix r none] ++ [.fix (.give many) (some (many, kd))])) ∧
    ItOk hs kd many 2 r none ∧ r.sets = some many ∧ kindSet hs (preK many none) r = some kd) (fun Q' hQ => ?_) ?_
  · have fin : ∀ (r : Row) (ds : List Dt) (xs : List V) (H2 : Hp), Dr dk lc H1 H2 → r.items = ds → Rps K H2 xs ds → ItOk hs kd many 2 r none → r.sets = some many → kindSet hs (preK many none) r = some kd → ∀ (p1 p2 l2 : Addr), H2 p1 = none → (upd H2 p1 (.tup (V.str r.word :: xs))) p2 = none → (upd (upd H2 p1 (.tup (V.str r.word :: xs))) p2 (.tup [V.str "give", V.int (many : Int)])) l2 = none →
        rCat (.ref l1) (.ref l2) (upd (upd (upd H2 p1 (.tup (V.str r.word :: xs))) p2 (.tup [V.str "give", V.int (many : Int)])) l2 (.lst [V.ref p1, V.ref p2])) Q' := by
      intro r ds xs H2 d2 hit hxs o1 o2 o3 p1 p2 l2 h1 h2 h3
      subst hit
      have z1 := same_new (o := .tup (V.str r.word :: xs)) h1
      have z2 := z1.trans (same_new (o := .tup [V.str "give", V.int (many : Int)]) h2)
      have z3 := z2.trans (same_new (o := .lst [V.ref p1, V.ref p2]) h3)
      have u1 := ((same_new (o := .tup [V.str "give", V.int (many : Int)]) h2).trans (same_new (o := .lst [V.ref p1, V.ref p2]) h3)) _ _ (upd_same (H := H2) (a := p1) (o := .tup (V.str r.word :: xs)))
      have u2 := (same_new (o := .lst [V.ref p1, V.ref p2]) h3) _ _ (upd_same (H := upd H2 p1 (.tup (V.str r.word :: xs))) (a := p2) (o := .tup [V.str "give", V.int (many : Int)]))
      have dd := d2.same z3
      have rl' : Rps K _ [V.ref p1, V.ref p2] (rows0 many ([.fix r none] ++ [.fix (.give many) (some (many, kd))])) := .cons (.tup (SqT.of u1) (.cons (.str _) (hxs.same z3))) (.cons (.tup (SqT.of u2) (.cons (.str _) (.cons (.int _) .nil))) .nil)
      refine ⟨l1, l2, _, _, rfl, rfl, dd.get g3 (d2.d0.neD g3) nl1, upd_same, small _ (by simp), fun l3 hl3 => ?_⟩
      have z4 := same_new (o := .lst ([V.ref t1, V.ref t2] ++ [V.ref p1, V.ref p2])) hl3
      have d5 := d4.trans (dd.same z4)
      refine hQ _ _ ⟨l3, _, r, rfl, d5, (d4.trans dd).free hl3, ((d4.trans dd).d.ne hl3).2, upd_same, ?_, o1, o2, o3⟩
      rw [show [It2.fix (.empty many 0) none] ++ [It2.fix (.unl many 4) (some (many, .truth))] ++ [It2.fix r none] ++ [It2.fix (.give many) (some (many, kd))] = ([It2.fix (.empty many 0) none] ++ [It2.fix (.unl many 4) (some (many, .truth))]) ++ ([It2.fix r none] ++ [It2.fix (.give many) (some (many, kd))]) from rfl, rows0_app]
      exact ((rp2.tk dd.tk).append rl').same z4
    refine ⟨_, rfl, _, rfl, rfl, _, rfl, ?_⟩
    cases kd with
    | truth =>
      refine iteC (b := true) (by decide +kernel) ?_
      refine ⟨_, rfl, (by show 2 ≤ sizeLine; decide), fun u1 hu1 => ?_⟩
      have d5 := d4.d.dr (same_new (o := .tup [V.str "yes", V.str "no"]) hu1)
      refine ⟨dk, lc, u1, _, rfl, d5.d, .inr sqT_new, by decide, by decide, fun i1 v1 H3 hi1 d6 => ?_⟩
      match i1, hi1 with
      | 0, hi1 =>
        cases hi1
        refine ⟨_, rfl, (by show 2 ≤ sizeLine; decide), fun p1 hp1 => ⟨_, rfl, (by show 2 ≤ sizeLine; decide), fun p2 hp2 => ⟨(by show 2 ≤ sizeLine; decide), fun l2 hl2 => ?_⟩⟩⟩
        exact fin (.yes many) [iD many] [V.int (many : Int)] H3 (d5.trans d6) rfl (.cons (.int _) .nil) (itok (fun i hi => by cases hi) (fun d e => (by cases e; omega)) ⟨by simp, by simp, by simp, by simp⟩) rfl rfl p1 p2 l2 hp1 hp2 hl2
      | 1, hi1 =>
        cases hi1
        refine ⟨_, rfl, (by show 2 ≤ sizeLine; decide), fun p1 hp1 => ⟨_, rfl, (by show 2 ≤ sizeLine; decide), fun p2 hp2 => ⟨(by show 2 ≤ sizeLine; decide), fun l2 hl2 => ?_⟩⟩⟩
        exact fin (.no many) [iD many] [V.int (many : Int)] H3 (d5.trans d6) rfl (.cons (.int _) .nil) (itok (fun i hi => by cases hi) (fun d e => (by cases e; omega)) ⟨by simp, by simp, by simp, by simp⟩) rfl rfl p1 p2 l2 hp1 hp2 hl2
      | n + 2, hi1 => cases hi1
    | place =>
      refine iteC (b := false) (by decide +kernel) ?_
      refine ⟨_, rfl, _, rfl, _, rfl, dk, lc, many, rfl, d4.d, by omega, by omega, fun x H3 hx d5 => ⟨(by show 3 ≤ sizeLine; decide), fun p1 hp1 => ⟨_, rfl, (by show 2 ≤ sizeLine; decide), fun p2 hp2 => ⟨(by show 2 ≤ sizeLine; decide), fun l2 hl2 => ?_⟩⟩⟩⟩
      exact fin (.move many x) [iD many, iD x] [V.int (many : Int), V.int (x : Int)] H3 d5 rfl (.cons (.int _) (.cons (.int _) .nil)) (itok (fun i hi => by simp [Row.reads] at hi; subst hi; exact ⟨by omega, .place, preK_lt hx, fun w hw => by cases hw⟩) (fun d e => (by cases e; omega)) ⟨by simp, by simp, by simp, by simp⟩) rfl (show preK many none x = some Kd.place from preK_lt hx) p1 p2 l2 hp1 hp2 hl2
  rintro v H2 ⟨rl, rv0, r0, rfl, d2, nrl, n2, erl, rp4, o1, o2, o3⟩
  have W4 : WI hs kd many ([.fix (.empty many 0) none] ++ [.fix (.unl many 4) (some (many, .truth))] ++ [.fix r0 none] ++ [.fix (.give many) (some (many, kd))]) none := by
    refine WI.fix (p := some (many, kd)) (WI.fix (p := none) W2 o1 (fun _ => rfl) fun _ => after_le o2 (Nat.le_refl _) o3) ?_ (fun e => by simp at e) fun e => by cases e
    exact itok (fun i hi => by simp [Row.reads] at hi; subst hi; exact ⟨by omega, kd, preK_at (Nat.le_refl _), fun w hw => by cases hw; rfl⟩) (fun d e => by cases e) ⟨by simp, by simp, by simp, by simp⟩
  have Ho4 : Holes ([.fix (.empty many 0) none] ++ [.fix (.unl many 4) (some (many, .truth))] ++ [.fix r0 none] ++ [.fix (.give many) (some (many, kd))]) [] := by
    refine Holes.fix (Holes.fix (Holes.fix (Holes.fix (W := []) (ts := []) fun j => by simp)))
  have Wl4 : ([It2.fix (.empty many 0) none] ++ [It2.fix (.unl many 4) (some (many, .truth))] ++ [It2.fix r0 none] ++ [It2.fix (.give many) (some (many, kd))]).length = 4 := rfl
  generalize ([It2.fix (.empty many 0) none] ++ [It2.fix (.unl many 4) (some (many, .truth))] ++ [It2.fix r0 none] ++ [It2.fix (.give many) (some (many, kd))]) = W at rp4 W4 Ho4 Wl4
  -- calls, tests
  refine ⟨_, rfl, dk, lc, 3, rfl, d2.d, by omega, by omega, fun c1 H3 hc1 d3 => ⟨_, _, rfl, rfl, (by show 0 ≤ sizeLine; decide), fun tl htl => ⟨_, _, rfl, ?_⟩⟩⟩
  have ec : ((1 : Int) + (c1 : Int)) = ((1 + c1 : Nat) : Int) := by omega
  have d23 := d2.trans d3
  have erl3 := d3.get erl (d3.d0.neD erl) n2
  have F0 : WS K dk lc hl rl tl hs many W [] H (upd H3 tl (.lst [])) := by
    have z := same_new (o := .lst []) htl
    exact ⟨d23.same z, hh.dr (d23.same z) hne, ⟨rv0, z _ _ erl3, (rp4.tk d3.tk).same z⟩, upd_same, hne, n2, (d23.d.ne htl).2, ne_of_none erl3 htl, ne_of_none ehv nrl, ne_of_none ehv (d23.free htl), nrl, d23.free htl⟩
  generalize (upd H3 tl (.lst [])) = H4 at F0
  refine ⟨_, rfl, _, rfl, by omega, by omega, ?_⟩
  have ern : ((1 : Int) + (c1 : Int)).toNat = 1 + c1 := by omega
  rw [ern]
  refine for_range (fun i σ Hx => ∃ (W : List It2) (ts : List Nat) (o10 o11 o12 o13 o14 : Option V), σ = [some (.ref dk), some (.ref hl), some (.int f), some (.str kd.str), some (.int many), some (.int many), some (.int ((many + 1 : Nat) : Int)), some (.ref rl), some (.int ((1 : Int) + (c1 : Int))), some (.ref tl), o10, o11, o12, o13, o14] ∧ WS K dk lc hl rl tl hs many W ts H Hx ∧ WI hs kd many W none ∧ Holes W ts ∧ 4 ≤ W.length ∧ W.length ≤ 4 + 4 * i ∧ ts.length = i)
    ⟨W, [], none, none, none, none, none, rfl, F0, W4, Ho4, by omega, by omega, rfl⟩ ?_ ?_
  · rintro i σ Hx hi ⟨W, ts, o10, o11, o12, o13, o14, rfl, F, B, Ho, hw4, hwi, htl'⟩
    -- a way
    obtain ⟨rv, g1, g2⟩ := F.rw_
    refine ⟨_, rfl, .inl ⟨rfl, _, SqL.of g1⟩, _, rfl, (by show 6 ≤ sizeLine; decide), fun u1 hu1 => ?_⟩
    have F1 := F.same (same_new (o := .tup [V.str "left", V.str "right", V.str "left", V.str "right", V.str "right", V.str "up"]) hu1)
    refine ⟨dk, lc, u1, _, rfl, F1.d.d, .inr sqT_new, by decide, by decide, fun i1 v1 H5 hi1 d5 => ?_⟩
    refine ⟨_, rfl, _, rfl, _, rfl, dk, lc, many, rfl, d5.d, by omega, by omega, fun x H6 hx d6 => ⟨(by show 3 ≤ sizeLine; decide), fun p hp => ?_⟩⟩
    obtain ⟨r1, rfl, hit, hrd, hst, hwt, hks, w1, w2, w3, w5⟩ := words6 hi1 many x
    have F2 := ((F1.dr d5).dr d6).same (same_new (o := .tup [V.str r1.word, V.int (many : Int), V.int (x : Int)]) hp)
    obtain ⟨rv1, g3, g4⟩ := F2.rw_
    have hlen1 : rv1.length ≤ 900 := by rw [g4.len, rows0_len]; omega
    refine ⟨rl, _, _, rfl, rfl, g3, Nat.lt_of_le_of_lt hlen1 (by decide), ?_⟩
    have F3 := F2.push (x := .fix r1 none) g3 g4 (.tup sqT_new (.cons (.str _) (by show Rps K _ _ r1.items; rw [hit]; exact .cons (.int _) (.cons (.int _) .nil))))
    have B1 : WI hs kd many (W ++ [.fix r1 none]) (some (many, .place)) := B.fix (itok (fun i hi => by rw [hrd] at hi; simp at hi; subst hi; exact ⟨by omega, .place, preK_lt hx, fun w hw => by rw [hwt] at hw; cases hw; rfl⟩) (fun d e => by rw [hst] at e; cases e; omega) ⟨w1, w2, w3, w5⟩) (fun _ => rfl) fun _ => after_le hst (Nat.le_refl _) (hks _ _)
    have Ho1 : Holes (W ++ [.fix r1 none]) ts := Ho.fix
    generalize (upd (upd H6 p (.tup [V.str r1.word, V.int (many : Int), V.int (x : Int)])) rl (.lst (rv1 ++ [V.ref p]))) = H7 at F3
    -- g
    dsimp only [tSeq]
    refine set_cont (fun v Hy => ∃ g : Nat, v = .int (g : Int) ∧ g < hs.length ∧ WS K dk lc hl rl tl hs many (W ++ [.fix r1 none]) ts H Hy) (fun Q' hQ => ?_) ?_
    · refine ⟨_, rfl, dk, lc, 2, rfl, F3.d.d, by omega, by omega, fun x2 H8 hx2 d8 => ⟨rfl, _, rfl, ?_⟩⟩
      have F4 := F3.dr d8
      cases x2 with
      | zero =>
        refine iteC (b := true) dz0 ?_
        exact ⟨_, rfl, hQ _ _ ⟨f, rfl, hfl, F4⟩⟩
      | succ x2 =>
        refine iteC (b := false) (dzS x2) ?_
        obtain ⟨hv8, ehv8, rhv8⟩ := F4.h.ex
        have hl8 : hv8.length = hs.length := by rw [rhv8.len, List.length_map]
        exact ⟨_, rfl, _, rfl, _, _, rfl, .inl ⟨_, SqL.of ehv8, rfl⟩, dk, lc, hv8.length, rfl, F4.d.d, by omega, by omega, fun g H9 hg d9 => hQ _ _ ⟨g, rfl, by omega, F4.dr d9⟩⟩
    rintro v H8 ⟨g, rfl, hg, F4⟩
    obtain ⟨h, hgh⟩ : ∃ h, hs[g]? = some h := ⟨hs[g], List.getElem?_eq_getElem hg⟩
    have h5 : h.2 ≤ 5 := hh5 h (List.mem_of_getElem? hgh)
    obtain ⟨hv8, ha8, ehv8, hvg8, hat8, _⟩ := hd_at F4.h hgh
    -- args
    have eh0 : ((h.2 : Nat) : Int).toNat = h.2 := by omega
    dsimp only [tSeq]
    refine set_cont (fun v Hy => ∃ (la : Addr) (as : List Nat), v = .ref la ∧ Hy la = some (.lst (natsV as)) ∧ as.length = h.2 + 1 ∧ (∀ n ∈ as, n ≤ many) ∧ WS K dk lc hl rl tl hs many (W ++ [.fix r1 none]) ts H Hy) (fun Q' hQ => ?_) ?_
    · refine ⟨_, rfl, (by show 1 ≤ sizeLine; decide), fun q0 hq0 => ?_⟩
      have F5 := F4.same (same_new (o := .lst [V.int (many : Int)]) hq0)
      have eq0 := upd_same (H := H8) (a := q0) (o := .lst [V.int (many : Int)])
      have nq0 := (F4.d.d.ne hq0).2
      have ehv9 := (same_new (o := .lst [V.int (many : Int)]) hq0) _ _ ehv8
      refine ⟨_, rfl, _, rfl, _, _, _, _, rfl, rfl, SqL.of ehv9, atI_nat hvg8, _, _, _, _, rfl, rfl, (Same.tk (same_new (o := .lst [V.int (many : Int)]) hq0)).sq hat8, atI_nat (j := 1) rfl, _, rfl, by omega, by omega, fun D hD => lc_draw (walk_range (lo := 0)) dk lc (fun _ y => ∃ n : Nat, y = .int (n : Int) ∧ n ≤ many) F5.d.d (by omega) hD (fun _ _ => trivial) ?_ ?_ gName_mono⟩
      · rintro j x' H9 H10 hj d9 ⟨rfl, rfl⟩
        refine ⟨rfl, fun Q2 q2 => ⟨_, rfl, _, rfl, (by show 1 ≤ sizeLine; decide), fun q1 hq1 => ⟨_, rfl, _, rfl, ⟨by omega, by omega, by omega, by omega, by omega⟩, fun q3 hq3 => ?_⟩⟩⟩
        have eq1 := (same_new (o := .lst (rgV 0 (many : Int))) hq3) _ _ (upd_same (a := q1) (o := .lst [V.int (many : Int)]))
        have erg : (rgV 0 (many : Int)).length = many := by rw [rgV_length]; omega
        refine ⟨_, _, _, _, rfl, rfl, eq1, upd_same, small _ (by rw [erg]; show 1 + many ≤ 1000; omega), fun q4 hq4 => ?_⟩
        have z := ((same_new (o := .lst [V.int (many : Int)]) hq1).trans (same_new (o := .lst (rgV 0 (many : Int))) hq3)).trans (same_new (o := .lst ([V.int (many : Int)] ++ rgV 0 (many : Int))) hq4)
        have dz := d9.d.dr z
        have dz0 := d9.d.dr ((same_new (o := .lst [V.int (many : Int)]) hq1).trans (same_new (o := .lst (rgV 0 (many : Int))) hq3))
        refine ⟨dk, lc, q4, _, rfl, dz.d, .inl ⟨upd_same, (dz0.d.ne hq4).2⟩, by simp, by rw [List.length_append, erg]; show 1 + many < 1000000; omega, fun i2 v2 H11 hi2 d11 => q2 _ _ (dz.trans d11) ?_⟩
        cases i2 with
        | zero => cases hi2; exact ⟨many, rfl, Nat.le_refl _⟩
        | succ i2 =>
          rw [List.singleton_append, List.getElem?_cons_succ] at hi2
          unfold rgV at hi2
          rw [List.getElem?_map] at hi2
          cases er : (List.range ((many : Int) - 0).toNat)[i2]? with
          | none => rw [er] at hi2; cases hi2
          | some k =>
            rw [er] at hi2
            cases hi2
            have hk := List.mem_range.mp (List.mem_of_getElem? er)
            exact ⟨k, by simp, by omega⟩
      · intro H9 ys d9 e9 hly hPe
        obtain ⟨as, rfl, has⟩ : ∃ as : List Nat, ys = natsV as ∧ ∀ n ∈ as, n ≤ many := nats_le fun y hy => by
          obtain ⟨j, hj⟩ := List.mem_iff_getElem?.mp hy
          exact hPe j y hj
        rw [natsV_len, eh0] at hly
        have eq9 := d9.get eq0 (d9.d0.neD eq0) nq0
        refine ⟨_, _, _, _, rfl, rfl, eq9, e9, small _ (by rw [natsV_len]; show 1 + as.length ≤ 1000; omega), fun la hla => ?_⟩
        exact hQ _ _ ⟨la, many :: as, rfl, upd_same, by simp [hly], fun n hn => by
          rcases List.mem_cons.mp hn with rfl | hn
          · exact Nat.le_refl _
          · exact has n hn, (F5.dr d9).same (same_new hla)⟩
    rintro v H9 ⟨la, as, rfl, ela, hasl, hasm, F5⟩
    -- the call
    obtain ⟨hv9, ha9, ehv9, hvg9, hat9, _⟩ := hd_at F5.h hgh
    obtain ⟨rv2, g5, g6⟩ := F5.rw_
    refine ⟨_, rfl, .inl ⟨rfl, _, SqL.of g5⟩, _, rfl, _, rfl, _, rfl, _, rfl, _, rfl, _, _, _, _, rfl, rfl, SqL.of ehv9, atI_nat hvg9, _, _, _, _, rfl, rfl, hat9, atI_nat (j := 1) rfl, _, rfl, la, _, rfl, SqL.of ela, fun q5 hq5 => ⟨q5, _, rfl, .inl ⟨SqL.of upd_same, fun tA htA => ⟨(by show 4 ≤ sizeLine; decide), fun p2 hp2 => ?_⟩⟩⟩⟩
    have ecut : cutV (natsV as) none (some ((h.2 : Nat) : Int)) = natsV (as.take h.2) := by rw [cut_to]; unfold natsV; rw [List.map_take]
    rw [ecut] at htA hp2 ⊢
    have z2 := ((same_new (o := .lst (natsV (as.take h.2))) hq5).trans (same_new (o := .tup (natsV (as.take h.2))) htA)).trans (same_new (o := .tup [V.str "call", V.int ((many + 1 : Nat) : Int), V.int (g : Int), V.ref tA]) hp2)
    have F6 := F5.same z2
    obtain ⟨rv3, g7, g8⟩ := F6.rw_
    have hlen3 : rv3.length ≤ 900 := by rw [g8.len, rows0_len, List.length_append]; simp; omega
    refine ⟨rl, _, _, rfl, rfl, g7, Nat.lt_of_le_of_lt hlen3 (by decide), ?_⟩
    have htl : (as.take h.2).length = h.2 := by rw [List.length_take]; omega
    have F7 := F6.push (x := .fix (.call (many + 1) g (as.take h.2)) (some (many, .place))) g7 g8 (.tup sqT_new (.cons (.str _) (.cons (.int _) (.cons (.int _) (.cons (.tup ((Same.tk (same_new hp2)).sq sqT_new) (nats_rps _)) .nil)))))
    have B2 : WI hs kd many (W ++ [.fix r1 none] ++ [.fix (.call (many + 1) g (as.take h.2)) (some (many, .place))]) (some (many + 1, h.1)) := by
      refine B1.fix ⟨fun i hi => ?_, fun d e => (by cases e; omega), by simp, by simp, fun d' f' as' e => (by cases e; exact ⟨h, hgh, htl⟩), by simp⟩ (fun e => by rw [List.length_append] at e; simp at e; omega) fun _ => after_le rfl (by omega) (by show (hs[g]?).map (·.1) = _; rw [hgh]; rfl)
      have him := hasm i (List.mem_of_mem_take hi)
      refine ⟨by omega, .place, ?_, fun w hw => by cases hw; rfl⟩
      by_cases hm : i < many
      · exact preK_lt hm
      · obtain rfl : i = many := by omega
        exact preK_at (Nat.le_refl _)
    have Ho2 := Ho1.fix (r := .call (many + 1) g (as.take h.2)) (p := some (many, .place))
    have hl2 : (W ++ [It2.fix r1 none] ++ [It2.fix (.call (many + 1) g (as.take h.2)) (some (many, .place))]).length = W.length + 2 := by simp
    generalize hW2 : (W ++ [It2.fix r1 none] ++ [It2.fix (.call (many + 1) g (as.take h.2)) (some (many, .place))]) = W2 at F7 B2 Ho2 hl2
    generalize (upd (upd (upd (upd H9 q5 (.lst (natsV (as.take h.2)))) tA (.tup (natsV (as.take h.2)))) p2 (.tup [V.str "call", V.int ((many + 1 : Nat) : Int), V.int (g : Int), V.ref tA])) rl (.lst (rv3 ++ [V.ref p2]))) = H10 at F7
    -- the test between
    dsimp only [tSeq]
    refine if_seq4 (fun Hz => ∃ W3, WS K dk lc hl rl tl hs many W3 ts H Hz ∧ WI hs kd many W3 (some (many + 1, .truth)) ∧ Holes W3 ts ∧ W2.length ≤ W3.length ∧ W3.length ≤ W2.length + 1) (fun N hN => ?_) ?_
    · obtain ⟨hv10, ha10, ehv10, hvg10, hat10, _⟩ := hd_at F7.h hgh
      have F8l : ∀ {Wx : List It2} {Hx' : Hp}, WS K dk lc hl rl tl hs many Wx ts H Hx' → Wx.length ≤ 800 → ∃ rv, Hx' rl = some (.lst rv) ∧ Rps K Hx' rv (rows0 many Wx) ∧ rv.length < sizeLine := fun Fx hx => by
        obtain ⟨rv, a, b⟩ := Fx.rw_
        exact ⟨rv, a, b, Nat.lt_of_le_of_lt (by rw [b.len, rows0_len]; exact hx : rv.length ≤ 800) (by decide)⟩
      refine ⟨_, rfl, _, rfl, _, _, _, _, rfl, rfl, SqL.of ehv10, atI_nat hvg10, _, _, _, _, rfl, rfl, hat10, at0, rfl, _, rfl, ?_⟩
      have hk0 : h.1 = .place ∨ h.1 = .truth := by cases h.1; exact .inl rfl; exact .inr rfl
      have bst : ∀ d : Nat, (some (many + 1) : Option Nat) = some d → many ≤ d ∧ d < many + 2 := fun d e => by cases e; omega
      rcases hk0 with hk | hk
      · rw [hk] at B2
        refine iteC (b := true) (by rw [hk]; decide +kernel) ?_
        obtain ⟨rv4, g9, g10, _⟩ := F8l F7 (by omega)
        refine ⟨_, rfl, .inl ⟨rfl, _, SqL.of g9⟩, _, rfl, _, rfl, _, rfl, (by show 3 ≤ sizeLine; decide), fun m1 hm1' => ⟨_, rfl, _, rfl, (by show 4 ≤ sizeLine; decide), fun m2 hm2' => ⟨_, rfl, _, rfl, (by show 4 ≤ sizeLine; decide), fun m3 hm3' => ⟨(by show 3 ≤ sizeLine; decide), fun m4 hm4' => ?_⟩⟩⟩⟩
        have y1 := same_new (o := .tup [V.str "empty", V.int ((many + 1 : Nat) : Int), V.int ((many + 1 : Nat) : Int)]) hm1'
        have y2 := same_new (o := .tup [V.str "same", V.int ((many + 1 : Nat) : Int), V.int ((many + 1 : Nat) : Int), V.int 0]) hm2'
        have y3 := same_new (o := .tup [V.str "has", V.int ((many + 1 : Nat) : Int), V.int ((many + 1 : Nat) : Int), V.str "a"]) hm3'
        have y4 := same_new (o := .tup [V.ref m1, V.ref m2, V.ref m3]) hm4'
        have k1 := ((y2.trans y3).trans y4) _ _ (upd_same (H := H10) (a := m1) (o := .tup [V.str "empty", V.int ((many + 1 : Nat) : Int), V.int ((many + 1 : Nat) : Int)]))
        have k2 := (y3.trans y4) _ _ (upd_same (H := upd H10 m1 (.tup [V.str "empty", V.int ((many + 1 : Nat) : Int), V.int ((many + 1 : Nat) : Int)])) (a := m2) (o := .tup [V.str "same", V.int ((many + 1 : Nat) : Int), V.int ((many + 1 : Nat) : Int), V.int 0]))
        have k3 := y4 _ _ (upd_same (H := upd (upd H10 m1 (.tup [V.str "empty", V.int ((many + 1 : Nat) : Int), V.int ((many + 1 : Nat) : Int)])) m2 (.tup [V.str "same", V.int ((many + 1 : Nat) : Int), V.int ((many + 1 : Nat) : Int), V.int 0])) (a := m3) (o := .tup [V.str "has", V.int ((many + 1 : Nat) : Int), V.int ((many + 1 : Nat) : Int), V.str "a"]))
        have F8 := F7.same (((y1.trans y2).trans y3).trans y4)
        refine ⟨dk, lc, m4, _, rfl, F8.d.d, .inr sqT_new, (by show 0 < 3; decide), (by show 3 < 1000000; decide), fun i2 v2 H11 hi2 d11 => ?_⟩
        have F9 := F8.dr d11
        obtain ⟨rv5, g11, g12, hl5⟩ := F8l F9 (by omega)
        have one : ∀ (r : Row) (v : V), Rp K H11 v r.dt → ItOk hs kd many W2.length r (some (many + 1, .place)) → r.sets = some (many + 1) → kindSet hs (preK many (some (many + 1, .place))) r = some .truth → r.falls = true → rAppend (.ref rl) [v] H11 fun _ Hz => N _ Hz := fun r v hv ho hst hks _ =>
          ⟨rl, _, _, rfl, rfl, g11, hl5, hN _ ⟨W2 ++ [.fix r (some (many + 1, .place))], F9.push (x := .fix r (some (many + 1, .place))) g11 g12 hv, B2.fix ho (fun e => by omega) (fun _ => after_le hst (by omega) hks), Ho2.fix, by simp, by simp⟩⟩
        have bP : preK many (some (many + 1, Kd.place)) (many + 1) = some .place := preK_at (by omega)
        match i2, hi2 with
        | 0, hi2 =>
          cases hi2
          exact one (.empty (many + 1) (many + 1)) _ (.tup (d11.tk.sq (SqT.of k1)) (.cons (.str _) (.cons (.int _) (.cons (.int _) .nil)))) (itok (fun i hi => by simp [Row.reads] at hi; subst hi; exact ⟨by omega, .place, bP, fun w hw => by cases hw; rfl⟩) bst ⟨by simp, by simp, by simp, by simp⟩) rfl rfl rfl
        | 1, hi2 =>
          cases hi2
          exact one (.same (many + 1) (many + 1) 0) _ (.tup (d11.tk.sq (SqT.of k2)) (.cons (.str _) (.cons (.int _) (.cons (.int _) (.cons (.int _) .nil))))) (itok (fun i hi => by
            simp [Row.reads] at hi
            rcases hi with rfl | rfl
            · exact ⟨by omega, .place, bP, fun w hw => by cases hw; rfl⟩
            · exact ⟨by omega, .place, preK_lt hm1, fun w hw => by cases hw; rfl⟩) bst ⟨by simp, by simp, by simp, by simp⟩) rfl rfl rfl
        | 2, hi2 =>
          cases hi2
          exact one (.has (many + 1) (many + 1) "a") _ (.tup (d11.tk.sq (SqT.of k3)) (.cons (.str _) (.cons (.int _) (.cons (.int _) (.cons (.str _) .nil))))) (itok (fun i hi => by simp [Row.reads] at hi; subst hi; exact ⟨by omega, .place, bP, fun w hw => by cases hw; rfl⟩) bst ⟨by simp, by simp, by simp, fun d' s' g' e => by cases e; unfold GoodTag; decide +kernel⟩) rfl rfl rfl
        | n + 3, hi2 => cases hi2
      · rw [hk] at B2
        refine iteC (b := false) (by rw [hk]; decide +kernel) ?_
        refine ⟨_, rfl, dk, lc, 3, rfl, F7.d.d, by omega, by omega, fun x3 H11 hx3 d11 => ⟨rfl, _, rfl, ?_⟩⟩
        have F9 := F7.dr d11
        cases x3 with
        | succ x3 =>
          refine iteC (b := false) (dzS x3) ?_
          exact hN _ ⟨W2, F9, B2, Ho2, Nat.le_refl _, by omega⟩
        | zero =>
          refine iteC (b := true) dz0 ?_
          obtain ⟨rv4, g9, g10, _⟩ := F8l F9 (by omega)
          refine ⟨_, rfl, .inl ⟨rfl, _, SqL.of g9⟩, _, rfl, _, rfl, (by show 3 ≤ sizeLine; decide), fun m1 hm1' => ?_⟩
          have F10 := F9.same (same_new (o := .tup [V.str "not", V.int ((many + 1 : Nat) : Int), V.int ((many + 1 : Nat) : Int)]) hm1')
          obtain ⟨rv5, g11, g12, hl5⟩ := F8l F10 (by omega)
          refine ⟨rl, _, _, rfl, rfl, g11, hl5, hN _ ⟨W2 ++ [.fix (.not (many + 1) (many + 1)) (some (many + 1, .truth))], F10.push (x := .fix (.not (many + 1) (many + 1)) (some (many + 1, .truth))) g11 g12 (.tup sqT_new (.cons (.str _) (.cons (.int _) (.cons (.int _) .nil)))), B2.fix (itok (r := .not (many + 1) (many + 1)) (fun i hi => by simp [Row.reads] at hi; subst hi; exact ⟨by omega, .truth, preK_at (by omega), fun w hw => by cases hw; rfl⟩) bst ⟨by simp, by simp, by simp, by simp⟩) (fun e => by omega) (fun _ => after_le rfl (by omega) rfl), Ho2.fix, by simp, by simp⟩⟩
    rintro H11 ⟨W3, F8, B3, Ho3, hw3, hw3'⟩
    -- tests, unless
    obtain ⟨rv4, g9, g10⟩ := F8.rw_
    have hl4 : rv4.length = W3.length := by rw [g10.len, rows0_len]
    refine ⟨_, rfl, .inl ⟨rfl, _, SqL.of F8.tt⟩, _, rfl, _, _, rfl, .inl ⟨_, SqL.of g9, rfl⟩, tl, _, _, rfl, rfl, F8.tt, Nat.lt_of_le_of_lt (by rw [natsV_len]; omega : (natsV ts).length ≤ 1000) (by decide), ?_⟩
    rw [hl4]
    have F9 := F8.tpush W3.length
    generalize (upd H11 tl (.lst (natsV ts ++ [V.int (W3.length : Int)]))) = H12 at F9
    obtain ⟨rv5, g11, g12⟩ := F9.rw_
    refine ⟨_, rfl, .inl ⟨rfl, _, SqL.of g11⟩, _, rfl, (by show 3 ≤ sizeLine; decide), fun m1 hm1' => ?_⟩
    have F10 := F9.same (same_new (o := .tup [V.str "unless", V.int ((many + 1 : Nat) : Int), V.int 0]) hm1')
    obtain ⟨rv6, g13, g14⟩ := F10.rw_
    have hl6 : rv6.length ≤ 900 := by rw [g14.len, rows0_len]; omega
    refine ⟨rl, _, _, rfl, rfl, g13, Nat.lt_of_le_of_lt hl6 (by decide), ?_⟩
    have F11 := F10.push (x := .hole) g13 g14 (.tup sqT_new (.cons (.str _) (.cons (.int _) (.cons (.int _) .nil))))
    exact ⟨W3 ++ [.hole], ts ++ [W3.length], _, _, _, _, _, rfl, F11, B3.hole (by omega), Ho3.hole, by simp; omega, by simp; omega, by simp [htl']⟩
  · rintro σ Hx ⟨W, ts, o10, o11, o12, o13, o14, rfl, F, B, Ho, hw4, hwl, htl'⟩
    have hts : ∀ j ∈ ts, j < W.length := fun j hj => (List.getElem?_eq_some_iff.mp ((Ho j).mpr hj)).1
    dsimp only [tSeq]
    refine if_seq5 (i := 7) (fun v Hy => ∃ rl2 Wf rv, v = .ref rl2 ∧ Dr dk lc H Hy ∧ H rl2 = none ∧ rl2 ≠ lc ∧ rl2 ≠ tl ∧ Hy rl2 = some (.lst rv) ∧ Rps K Hy rv (rows0 many Wf) ∧ WI hs kd many Wf none ∧ Holes Wf ts ∧ Wf.length = W.length + 4 ∧
      (∀ x, Wf[W.length + 2]? = some x → x.pre (many + 1) = none) ∧ (∀ x, Wf[W.length + 3]? = some x → ∀ t, (x.row (many + 1) t).falls = false) ∧ Hy tl = some (.lst (natsV ts))) (fun N hN => ?_) ?_
    · have fin : ∀ (r1 r2 : Row) (p1 p2 p3 p4 l2 : Addr) (H2 : Hp), WS K dk lc hl rl tl hs many W ts H H2 → H2 l2 = some (.lst [V.ref p1, V.ref p2, V.ref p3, V.ref p4]) → Rps K H2 [V.ref p1, V.ref p2, V.ref p3, V.ref p4] [r1.dt, (Row.give many).dt, r2.dt, (Row.give many).dt] →
          (∀ j, ItOk hs kd many j r1 none) → r1.sets = some many → kindSet hs (preK many none) r1 = some kd → (∀ j, ItOk hs kd many j r2 none) → r2.sets = some many → kindSet hs (preK many none) r2 = some kd →
          ∀ Q' : VK, (∀ v H', (∃ rl2 Wf rv, v = .ref rl2 ∧ Dr dk lc H H' ∧ H rl2 = none ∧ rl2 ≠ lc ∧ rl2 ≠ tl ∧ H' rl2 = some (.lst rv) ∧ Rps K H' rv (rows0 many Wf) ∧ WI hs kd many Wf none ∧ Holes Wf ts ∧ Wf.length = W.length + 4 ∧
            (∀ x, Wf[W.length + 2]? = some x → x.pre (many + 1) = none) ∧ (∀ x, Wf[W.length + 3]? = some x → ∀ t, (x.row (many + 1) t).falls = false) ∧ H' tl = some (.lst (natsV ts))) → Q' v H') → rCat (.ref rl) (.ref l2) H2 Q' := by
        intro r1 r2 p1 p2 p3 p4 l2 H2 F2 e2 rp a1 a2 a3 b1 b2 b3 Q' hQ
        obtain ⟨rv, g1, g2⟩ := F2.rw_
        have hl : rv.length ≤ 900 := by rw [g2.len, rows0_len]; omega
        have ig : ∀ j, ItOk hs kd many j (.give many) (some (many, kd)) := fun j => itok (fun i hi => by simp [Row.reads] at hi; subst hi; exact ⟨by omega, kd, preK_at (Nat.le_refl _), fun w hw => by cases hw; rfl⟩) (fun d e => by cases e) ⟨by simp, by simp, by simp, by simp⟩
        have W1 := B.fix (a1 _) (fun _ => rfl) (p' := some (many, kd)) fun _ => after_le a2 (Nat.le_refl _) a3
        have W2 := W1.fix (ig _) (fun e => by rw [List.length_append] at e; simp at e; omega) (p' := none) fun e => by cases e
        have W3 := W2.fix (b1 _) (fun _ => rfl) (p' := some (many, kd)) fun _ => after_le b2 (Nat.le_refl _) b3
        have W4 := W3.fix (ig _) (fun e => by simp at e; omega) (p' := none) fun e => by cases e
        refine ⟨rl, l2, _, _, rfl, rfl, g1, e2, small _ (by simp; omega), fun rl2 hrl2 => ?_⟩
        have z := same_new (o := .lst (rv ++ [V.ref p1, V.ref p2, V.ref p3, V.ref p4])) hrl2
        have F3 := F2.same z
        refine hQ _ _ ⟨rl2, _, _, rfl, F3.d, F2.d.free hrl2, (F2.d.d.ne hrl2).2, (ne_of_none F2.tt hrl2).symm, upd_same, ?_, W4, Ho.fix.fix.fix.fix, by simp, fun x e => ?_, fun x e t => ?_, F3.tt⟩
        · rw [List.append_assoc, List.append_assoc, List.append_assoc, rows0_app]
          exact (g2.append rp).same z
        · rw [List.getElem?_append_left (by simp), List.getElem?_append_right (by simp)] at e
          simp at e
          subst e
          rfl
        · rw [List.getElem?_append_right (by simp)] at e
          simp at e
          subst e
          rfl
      refine ⟨_, rfl, rfl, _, rfl, ?_⟩
      have bst : ∀ d : Nat, (some many : Option Nat) = some d → many ≤ d ∧ d < many + 2 := fun d e => by cases e; omega
      cases kd with
      | truth =>
        refine iteC (b := true) (by decide +kernel) ?_
        refine ⟨_, rfl, _, rfl, (by show 2 ≤ sizeLine; decide), fun p1 h1 => ⟨_, rfl, (by show 2 ≤ sizeLine; decide), fun p2 h2 => ⟨_, rfl, (by show 2 ≤ sizeLine; decide), fun p3 h3 => ⟨_, rfl, (by show 2 ≤ sizeLine; decide), fun p4 h4 => ⟨(by show 4 ≤ sizeLine; decide), fun l2 hl2 => ?_⟩⟩⟩⟩⟩
        have z1 := same_new (o := .tup [V.str "yes", V.int (many : Int)]) h1
        have z2 := same_new (o := .tup [V.str "give", V.int (many : Int)]) h2
        have z3 := same_new (o := .tup [V.str "no", V.int (many : Int)]) h3
        have z4 := same_new (o := .tup [V.str "give", V.int (many : Int)]) h4
        have z5 := same_new (o := .lst [V.ref p1, V.ref p2, V.ref p3, V.ref p4]) hl2
        have k1 := (((z2.trans z3).trans z4).trans z5) _ _ upd_same
        have k2 := ((z3.trans z4).trans z5) _ _ upd_same
        have k3 := (z4.trans z5) _ _ upd_same
        have k4 := z5 _ _ upd_same
        exact fin (.yes many) (.no many) p1 p2 p3 p4 l2 _ (F.same ((((z1.trans z2).trans z3).trans z4).trans z5)) upd_same
          (.cons (.tup (SqT.of k1) (.cons (.str _) (.cons (.int _) .nil))) (.cons (.tup (SqT.of k2) (.cons (.str _) (.cons (.int _) .nil))) (.cons (.tup (SqT.of k3) (.cons (.str _) (.cons (.int _) .nil))) (.cons (.tup (SqT.of k4) (.cons (.str _) (.cons (.int _) .nil))) .nil))))
          (fun j => itok (fun i hi => by cases hi) bst ⟨by simp, by simp, by simp, by simp⟩) rfl rfl (fun j => itok (fun i hi => by cases hi) bst ⟨by simp, by simp, by simp, by simp⟩) rfl rfl _ (fun v H' c => hN v H' c)
      | place =>
        refine iteC (b := false) (by decide +kernel) ?_
        refine ⟨_, rfl, _, rfl, (by show 3 ≤ sizeLine; decide), fun u1 hu1 => ?_⟩
        have F1 := F.same (same_new (o := .tup [V.str "left", V.str "up", V.str "move"]) hu1)
        refine ⟨dk, lc, u1, _, rfl, F1.d.d, .inr sqT_new, by decide, by decide, fun i1 v1 H5 hi1 d5 => ?_⟩
        obtain ⟨r1, rfl, hit, hst, hks, hok⟩ := words3 (hs := hs) hi1 hm1
        have F2 := F1.dr d5
        refine ⟨_, rfl, (by show 3 ≤ sizeLine; decide), fun p1 h1 => ⟨_, rfl, (by show 2 ≤ sizeLine; decide), fun p2 h2 => ?_⟩⟩
        have z1 := same_new (o := .tup [V.str r1.word, V.int (many : Int), V.int 0]) h1
        have z2 := same_new (o := .tup [V.str "give", V.int (many : Int)]) h2
        have F3 := F2.same (z1.trans z2)
        refine ⟨_, rfl, _, rfl, _, rfl, dk, lc, many, rfl, F3.d.d, by omega, by omega, fun x H6 hx d6 => ⟨(by show 3 ≤ sizeLine; decide), fun p3 h3 => ⟨_, rfl, (by show 2 ≤ sizeLine; decide), fun p4 h4 => ⟨(by show 4 ≤ sizeLine; decide), fun l2 hl2 => ?_⟩⟩⟩⟩
        have z3 := same_new (o := .tup [V.str "move", V.int (many : Int), V.int (x : Int)]) h3
        have z4 := same_new (o := .tup [V.str "give", V.int (many : Int)]) h4
        have z5 := same_new (o := .lst [V.ref p1, V.ref p2, V.ref p3, V.ref p4]) hl2
        have tk := (d6.tk.trans (Same.tk ((z3.trans z4).trans z5)))
        have k1 := tk.sq ((Same.tk z2).sq (sqT_new (K := K) (H := H5) (p := p1) (xs := [V.str r1.word, V.int (many : Int), V.int 0])))
        have k2 := tk.sq (sqT_new (K := K) (H := upd H5 p1 (.tup [V.str r1.word, V.int (many : Int), V.int 0])) (p := p2) (xs := [V.str "give", V.int (many : Int)]))
        have k3 := (z4.trans z5) _ _ upd_same
        have k4 := z5 _ _ upd_same
        exact fin r1 (.move many x) p1 p2 p3 p4 l2 _ ((F3.dr d6).same ((z3.trans z4).trans z5)) upd_same
          (.cons (.tup k1 (.cons (.str _) (by rw [hit]; exact .cons (.int _) (.cons (.int _) .nil)))) (.cons (.tup k2 (.cons (.str _) (.cons (.int _) .nil))) (.cons (.tup (SqT.of k3) (.cons (.str _) (.cons (.int _) (.cons (.int _) .nil)))) (.cons (.tup (SqT.of k4) (.cons (.str _) (.cons (.int _) .nil))) .nil))))
          hok hst hks (fun j => itok (fun i hi => by simp [Row.reads] at hi; subst hi; exact ⟨by omega, .place, preK_lt hx, fun w hw => by cases hw⟩) bst ⟨by simp, by simp, by simp, by simp⟩) rfl (show preK many none x = some Kd.place from preK_lt hx) _ (fun v H' c => hN v H' c)
    rintro v Hy ⟨rl2, Wf, rv, rfl, d9, nrl2, nlc2, ntl2, e9, rp9, B9, Ho9, hl9, hT9, hE9, tt9⟩
    have hrvl : rv.length = Wf.length := by rw [rp9.len, rows0_len]
    have rget : ∀ (j : Nat) (x : It2), Wf[j]? = some x → ∃ v, rv[j]? = some v ∧ Rp K Hy v (x.row (many + 1) 0).dt := fun j x e => rp9.get (by unfold rows0; rw [List.map_map, List.getElem?_map, e]; rfl)
    refine ⟨_, rfl, tl, rfl, ⟨_, SqL.of tt9⟩, ?_⟩
    refine for_it walk_list (fun i σ' Hj => ∃ (o14 : Option V) (rv : List V), σ' = [some (.ref dk), some (.ref hl), some (.int f), some (.str kd.str), some (.int many), some (.int many), some (.int ((many + 1 : Nat) : Int)), some (.ref rl2), some (.int ((1 : Int) + (c1 : Int))), some (.ref tl), o10, o11, o12, o13, o14] ∧
      Dr dk lc H Hj ∧ Hj rl2 = some (.lst rv) ∧ rv.length = Wf.length ∧ (∀ (j : Nat) (x : It2), Wf[j]? = some x → ∃ v, rv[j]? = some v ∧ Rp K Hj v (x.row (many + 1) (if j ∈ ts.take i then Wf.length - 2 else 0)).dt) ∧ Hj tl = some (.lst (natsV ts)))
      ⟨_, rv, rfl, d9, e9, hrvl, fun j x e => by simpa using rget j x e, tt9⟩ (fun i σ' Hj _ ⟨_, _, _, _, _, _, _, h⟩ => SqL.of h) ?_ ?_
    · rintro i x σ' Hj Hj' hj ⟨o14, rv, rfl, dj, ej, lj, pj, tj⟩ ⟨rfl, hx⟩
      obtain ⟨t, ht, htm, rfl⟩ := natsV_at hx
      have htW : t < W.length := hts t htm
      refine ⟨_, rfl, _, rfl, _, _, rfl, .inl ⟨_, SqL.of ej, rfl⟩, _, _, rfl, rfl, (by show 3 ≤ sizeLine; decide), fun p hp => ?_⟩
      have z := same_new (o := .tup [V.str "unless", V.int ((many + 1 : Nat) : Int), V.int ((rv.length : Int) - 2)]) hp
      have ej2 := z _ _ ej
      refine ⟨_, rfl, _, rfl, rl2, _, _, t, rfl, rfl, ej2, ixN_nat (by omega), ?_⟩
      have etk : ts.take (i + 1) = ts.take i ++ [t] := by
        rw [List.take_add_one, ht]
        rfl
      refine ⟨_, _, rfl, (dj.same z).upd nrl2 ej2, upd_same, by rw [List.length_set]; exact lj, fun j y ey => ?_, by rw [upd_ne ntl2.symm]; exact z _ _ tj⟩
      by_cases hjt : j = t
      · subst hjt
        have hy : y = .hole := by
          have := (Ho9 j).mpr htm
          rw [ey] at this
          exact Option.some.inj this
        subst hy
        refine ⟨_, List.getElem?_set_self (by omega), ?_⟩
        rw [if_pos (by rw [etk]; simp)]
        have e2 : ((rv.length : Int) - 2) = ((Wf.length - 2 : Nat) : Int) := by omega
        refine Rp.tk (tk_lst ej2) (.tup sqT_new (.cons (.str _) (.cons (.int _) (.cons ?_ .nil))))
        rw [e2]
        exact .int _
      · obtain ⟨v, hv, rv'⟩ := pj j y ey
        refine ⟨v, by rw [List.getElem?_set_ne (fun q => hjt q.symm)]; exact hv, ?_⟩
        have em : (j ∈ ts.take (i + 1)) = (j ∈ ts.take i) := by rw [etk]; simp [hjt]
        simp only [em]
        exact (rv'.same z).tk (tk_lst ej2)
    · rintro σ' Hj ⟨o14, rv, rfl, dj, ej, lj, pj, tj⟩
      rw [natsV_len, List.take_length] at pj
      have rpf : Rps K Hj rv ((Wf.map (It2.row (many + 1) (Wf.length - 2))).map Row.dt) := by
        refine Rps.of_get (by simp [lj]) fun j v d hv hdv => ?_
        rw [List.map_map, List.getElem?_map] at hdv
        cases ey : Wf[j]? with
        | none => rw [ey] at hdv; cases hdv
        | some y =>
          rw [ey] at hdv
          cases hdv
          obtain ⟨v', hv', rp'⟩ := pj j y ey
          rw [hv] at hv'
          cases hv'
          cases y with
          | fix r p => exact rp'
          | hole =>
            rw [if_pos ((Ho9 j).mp ey)] at rp'
            exact rp'
      have hT : Typed hs ⟨kd, many, many + 2, Wf.map (It2.row (many + 1) (Wf.length - 2))⟩ := by
        refine B9.typed rfl (by omega) hh5 (fun x e => hT9 x (by rw [show W.length + 2 = Wf.length - 2 by omega]; exact e)) (fun x e => hE9 x (by rw [show W.length + 3 = Wf.length - 1 by omega]; exact e) _) fun j e => ?_
        have := hts j ((Ho9 j).mp e)
        omega
      refine ⟨_, rfl, _, rfl, _, rfl, _, _, rfl, rfl, _, rfl, rl2, _, rfl, .inl ⟨SqL.of ej, fun tA htA => ⟨(by show 4 ≤ sizeLine; decide), fun p hp => ?_⟩⟩⟩
      have z1 := same_new (o := .tup rv) htA
      have z2 := z1.trans (same_new (o := .tup [V.str kd.str, V.int (many : Int), V.int ((many : Int) + 2), V.ref tA]) hp)
      refine q _ ⟨kd, many, many + 2, Wf.map (It2.row (many + 1) (Wf.length - 2))⟩ _ (dj.same z2) (Rp.new hp (.cons (.str _) (.cons (.int _) (.cons (.int _) (.cons (.tup sqT_new (rpf.same z1)) .nil))))) rfl hT (by show many + 2 ≤ 1000; omega) (by show (Wf.map _).length ≤ 1000; rw [List.length_map]; omega)
end
end Eo
set_option linter.all false
set_option maxRecDepth 100000
set_option maxHeartbeats 8000000
/-! E26: the code, what is asked. -/
namespace Eo
open PySem L2
def spCode (K : PySem.W.Frag) : Sp := fun vs H Q _ => ∃ (dk lc : Addr), vs = [.ref dk, .int 3, .int 9] ∧ Deck H dk lc ∧ ∀ (v : V) (c : Code) (AA : Nat → Nat → Option Ks) (H' : Hp), Dr dk lc H H' → Rp K H' v (codeDt c) → CodeOk c AA → 1 ≤ c.length → (∀ fn ∈ c, fn.many ≤ 5) → Q v H'
structure CI (K : PySem.W.Frag) (dk lc hl fl : Addr) (hs : Heads) (c : List Fn) (H Hx : Hp) : Prop where
  d : Dr dk lc H Hx
  h : HdAt K Hx hl hs
  e : ∃ vs, Hx fl = some (.lst vs) ∧ Rps K Hx vs (c.map Fn.dt)
  n1 : hl ≠ lc
  n2 : fl ≠ lc
  n3 : hl ≠ fl
  nf : H fl = none
theorem CI.dr {K : PySem.W.Frag} {dk lc hl fl : Addr} {hs : Heads} {c : List Fn} {H Hx Hy : Hp} (a : CI K dk lc hl fl hs c H Hx) (d : Dr dk lc Hx Hy) : CI K dk lc hl fl hs c H Hy := by
  obtain ⟨vs, e1, e2⟩ := a.e
  exact ⟨a.d.trans d, a.h.dr d a.n1, ⟨vs, d.get e1 (d.d0.neD e1) a.n2, e2.tk d.tk⟩, a.n1, a.n2, a.n3, a.nf⟩
structure CF (hs : Heads) (c : List Fn) (i : Nat) : Prop where
  len : c.length = i
  hd : c.map Fn.head = hs.take i
  ok : ∀ fn ∈ c, Typed hs fn ∧ fn.regs ≤ 1000 ∧ fn.rows.length ≤ 1000
def spAsked (K : PySem.W.Frag) : Sp := fun vs H Q _ => ∃ (dk lc mp : Addr) (vc : V) (c : Code) (t : Tr), vs = [.ref dk, vc, .ref mp] ∧ Deck H dk lc ∧ Rp K H vc (codeDt c) ∧ 1 ≤ c.length ∧ c.length ≤ 1000 ∧ (∀ fn ∈ c, fn.many ≤ 5) ∧ MapAt H mp t ∧ t.size ≤ 6 ∧ mp ≠ dk ∧
  ∀ (p : Addr) (f : Nat) (vp : V) (fn : Fn) (ps : List (List Bool)) (H' : Hp), Dr dk lc H H' → SqT K H' p [.int (f : Nat), vp] → Rp K H' vp (plsDt ps) → c[f]? = some fn → ps.length = fn.many → (∀ q ∈ ps, isPl q t) → Q (.ref p) H'
theorem keys_of {t : Tr} : ∀ {kvs : List (Key × V)}, (∀ kv ∈ kvs, ∃ p, isPl p t ∧ kv.1 = .inr (plStr p)) → ∃ ps : List (List Bool), (kvs.map fun kv => kV kv.1) = (ps.map plStr).map V.str ∧ ∀ p ∈ ps, isPl p t
  | [], _ => ⟨[], rfl, fun p h => by cases h⟩
  | kv :: kvs, h => by
    obtain ⟨p, hp, e⟩ := h kv (by simp)
    obtain ⟨ps, e2, hps⟩ := keys_of fun kv' h' => h kv' (List.mem_cons_of_mem _ h')
    refine ⟨p :: ps, ?_, fun q hq => ?_⟩
    · rw [List.map_cons, e2, e]
      rfl
    · rcases List.mem_cons.mp hq with rfl | hq
      · exact hp
      · exact hps q hq
theorem pls_of {t : Tr} : ∀ {ys : List V}, (∀ y ∈ ys, ∃ p, y = .str (plStr p) ∧ isPl p t) → ∃ ps : List (List Bool), ys = plsV ps ∧ ∀ p ∈ ps, isPl p t
  | [], _ => ⟨[], rfl, fun p h => by cases h⟩
  | y :: ys, h => by
    obtain ⟨p, rfl, hp⟩ := h y (by simp)
    obtain ⟨ps, rfl, hps⟩ := pls_of fun z hz => h z (List.mem_cons_of_mem _ hz)
    refine ⟨p :: ps, rfl, fun q hq => ?_⟩
    rcases List.mem_cons.mp hq with rfl | hq
    · exact hp
    · exact hps q hq
section
variable {P : Program} {w : World} {K : PySem.W.Frag} {mg : Str → Option Value} {base : Heap} {Z : Wh}
theorem ok_law_code (T : Tx w K mg Z) : FnOk P w K mg base CX0 5 (Z.A 54) (Z.D 54) ["_law_deck_here", "_law_functions", "_law_most"] (spCode K) := by
  refine T.law_code.F.ok sc_law_code (fun vs H Q E h => ?_) (fun cdv A outer s H vs Q E hr h => ?_)
  · obtain ⟨dk, lc, rfl, hd, q⟩ := h
    rfl
  have hu := hu_of hr
  have hu0 := Nat.lt_of_succ_lt hu
  obtain ⟨dk, lc, rfl, hd, q⟩ := h
  refine ⟨_, (pss_cons (ps_set (i := 3) sc_law_code.nd rfl (by first | exact Or.inl rfl | exact Or.inr rfl) (pe_call (ok_law_heads T) (hr.mono (by decide)) rfl T.law_heads.m T.law_heads.F.kp T.law_heads.b .nil pass0 (pa_cons (pv 0) (pa_cons (pv 1) pa_nil)))) (pss_cons (ps_set (i := 4) sc_law_code.nd rfl (by first | exact Or.inl rfl | exact Or.inr rfl) (pe_lst pa_nil)) (pss_cons (ps_for PassesOwn.never rfl (pi_range1 rfl T.range_ (pa_cons (pe_callB call_len rfl T.len_ bt_len (pa_cons (pv 3) pa_nil)) pa_nil)) (pg_name (i := 5) sc_law_code.nd rfl (by first | exact Or.inl rfl | exact Or.inr rfl)) (pss_cons (ps_set (i := 6) sc_law_code.nd rfl (by first | exact Or.inl rfl | exact Or.inr rfl) (pe_and (pe_cmpR op_gt (pe_ix ix_tup (pe_ix ix_list (pv 3) (pv 5) (fun _ _ => rfl)) pe_int (fun _ _ => rfl)) pe_int (nomark _)) (pe_one (pe_cmpR op_gt (pe_call (ok_law_draw T) (hr.mono (by decide)) rfl T.law_draw.m T.law_draw.F.kp T.law_draw.b .nil pass0 (pa_cons (pv 0) (pa_cons pe_int pa_nil))) pe_int (nomark _))))) (pss_one (ps_expr (pe_bm PySem.F.plainAttrs_list PySem.F.slot_list_append PySem.F.type_list_append mt_append (pv 4) (pa_cons (pe_ifExp (pt_truth (pv 6) (by intro _; rfl)) (pe_call (ok_law_walker T) (hr.mono (by decide)) rfl T.law_walker.m T.law_walker.F.kp T.law_walker.b .nil pass0 (pa_cons (pv 0) (pa_cons (pv 3) (pa_cons (pv 5) pa_nil)))) (pe_call (ok_law_function T) (hr.mono (by decide)) rfl T.law_function.m T.law_function.F.kp T.law_function.b .nil pass0 (pa_cons (pv 0) (pa_cons (pv 3) (pa_cons (pv 5) (pa_cons (pv 2) pa_nil)))))) pa_nil)))))) (pss_one (ps_ret (pe_callTy call_tuple_of rfl T.tuple_ bt_tuple (pa_cons (pv 4) pa_nil))))))), ?_⟩
  refine ⟨_, rfl, _, rfl, dk, lc, rfl, hd, fun hl hs H1 d1 hln hh hh1 hh3 hh5 => ?_⟩
  have nhl := (hd.ne hln).2
  refine ⟨(by show 0 ≤ sizeLine; decide), fun fl hfl => ?_⟩
  obtain ⟨hv0, ehv0, rhv0⟩ := hh.ex
  have z := same_new (o := .lst []) hfl
  have F0 : CI K dk lc hl fl hs [] H (upd H1 fl (.lst [])) := ⟨d1.same z, hh.dr (d1.d.dr z) nhl, ⟨[], upd_same, .nil⟩, nhl, (d1.d.ne hfl).2, ne_of_none ehv0 hfl, d1.free hfl⟩
  have ehv1 := z _ _ ehv0
  generalize (upd H1 fl (.lst [])) = H2 at F0 ehv1
  have hl0 : hv0.length = hs.length := by rw [rhv0.len, List.length_map]
  refine ⟨_, rfl, _, _, rfl, .inl ⟨_, SqL.of ehv1, rfl⟩, _, rfl, by omega, by omega, ?_⟩
  rw [hl0, Int.toNat_natCast]
  refine for_range (fun i σ Hx => ∃ (c : List Fn) (o5 o6 : Option V), σ = [some (.ref dk), some (.int 3), some (.int 9), some (.ref hl), some (.ref fl), o5, o6] ∧ CI K dk lc hl fl hs c H Hx ∧ CF hs c i) ⟨[], none, none, rfl, F0, ⟨rfl, rfl, fun _ h => by cases h⟩⟩ ?_ ?_
  · rintro i σ Hx hi ⟨c, o5, o6, rfl, F, C⟩
    obtain ⟨h, hgh⟩ : ∃ h, hs[i]? = some h := ⟨hs[i], List.getElem?_eq_getElem hi⟩
    rw [show (0 : Int) + (i : Int) = (i : Int) from Int.zero_add _]
    refine set_cont (fun v Hy => ∃ b : Bool, v = .bl b ∧ (b = true → 1 ≤ h.2) ∧ CI K dk lc hl fl hs c H Hy) (fun Q' hQ => ?_) ?_
    · obtain ⟨hv, ha, ehv, hvi, hat, _⟩ := hd_at F.h hgh
      refine ⟨_, rfl, _, rfl, _, _, _, _, rfl, rfl, SqL.of ehv, atI_nat hvi, _, _, _, _, rfl, rfl, hat, atI_nat (j := 1) rfl, _, _, rfl, rfl, _, rfl, ?_⟩
      by_cases hm : (0 : Int) < (h.2 : Int)
      · refine iteC (b := true) (decide_eq_true hm) ?_
        exact ⟨_, rfl, dk, lc, 3, rfl, F.d.d, by omega, by omega, fun r H3 hr3 d3 => ⟨_, _, rfl, rfl, hQ _ _ ⟨_, rfl, fun _ => by omega, F.dr d3⟩⟩⟩
      · refine iteC (b := false) (decide_eq_false hm) ?_
        exact hQ _ _ ⟨false, rfl, fun e => (by cases e), F⟩
    rintro v Hy ⟨b, rfl, hb, F2⟩
    obtain ⟨vs, g1, g2⟩ := F2.e
    have done : ∀ (v : V) (fn : Fn) (H' : Hp), Dr dk lc Hy H' → Rp K H' v fn.dt → fn.head = h → Typed hs fn → fn.regs ≤ 1000 → fn.rows.length ≤ 1000 → ∃ vs', H' fl = some (.lst vs') ∧ vs'.length < sizeLine ∧ CI K dk lc hl fl hs (c ++ [fn]) H (upd H' fl (.lst (vs' ++ [v]))) ∧ CF hs (c ++ [fn]) (i + 1) := by
      intro v fn H' d' rv hh' ht hr' hro
      have F3 := F2.dr d'
      obtain ⟨vs', k1, k2⟩ := F3.e
      obtain ⟨hv', m1, m2⟩ := F3.h.ex
      refine ⟨vs', k1, ?_, ⟨F3.d.upd F3.nf k1, ⟨hv', by rw [upd_ne F3.n3]; exact m1, m2.tk (tk_lst k1)⟩, ⟨_, upd_same, ?_⟩, F3.n1, F3.n2, F3.n3, F3.nf⟩, ⟨by simp [C.len], ?_, fun x hx => ?_⟩⟩
      · rw [k2.len, List.length_map, C.len]
        exact Nat.lt_of_le_of_lt (by omega : i ≤ 1000) (by decide)
      · rw [List.map_append]
        exact (k2.append (.cons rv .nil)).tk (tk_lst k1)
      · rw [List.map_append, C.hd, List.take_add_one, hgh, ← hh']
        rfl
      · rcases List.mem_append.mp hx with hx | hx
        · exact C.ok x hx
        · simp at hx
          subst hx
          exact ⟨ht, hr', hro⟩
    refine ⟨_, rfl, .inl ⟨rfl, _, SqL.of g1⟩, _, rfl, b, rfl, ?_⟩
    cases b with
    | true =>
      refine iteC (b := true) rfl ?_
      refine ⟨_, rfl, _, rfl, _, rfl, dk, lc, hl, hs, i, h.1, h.2, rfl, F2.d.d, F2.h, F2.n1, hgh, hb rfl, by omega, hh5, fun v fn H' d' rv hh' ht hr' hro => ?_⟩
      obtain ⟨vs', k1, k2, k3, k4⟩ := done v fn H' d' rv hh' ht hr' hro
      exact ⟨fl, vs', _, rfl, rfl, k1, k2, _, _, _, rfl, k3, k4⟩
    | false =>
      refine iteC (b := false) rfl ?_
      refine ⟨_, rfl, _, rfl, _, rfl, _, rfl, dk, lc, hl, hs, i, h.1, h.2, rfl, F2.d.d, F2.h, F2.n1, hgh, hh1, by omega, hh5, fun v fn H' d' rv hh' ht hr' hro => ?_⟩
      obtain ⟨vs', k1, k2, k3, k4⟩ := done v fn H' d' rv hh' ht hr' hro
      exact ⟨fl, vs', _, rfl, rfl, k1, k2, _, _, _, rfl, k3, k4⟩
  · rintro σ Hx ⟨c, o5, o6, rfl, F, C⟩
    obtain ⟨vs, g1, g2⟩ := F.e
    have hhs : heads c = hs := by
      show c.map Fn.head = hs
      rw [C.hd, List.take_length]
    have hG : GoodCode c := fun fn hf => by
      rw [hhs]
      exact (C.ok fn hf).1
    obtain ⟨AA, hAA⟩ := hG.good
    refine ⟨_, rfl, fl, _, rfl, .inl ⟨SqL.of g1, fun p hp => ?_⟩⟩
    refine q _ c AA _ (F.d.same (same_new hp)) (Rp.new hp g2) ⟨hAA.ty, by rw [C.len]; omega, fun fn hf => (C.ok fn hf).2.1, fun fn hf => (C.ok fn hf).2.2⟩ (by rw [C.len]; exact hh1) fun fn hf => ?_
    have hm : fn.head ∈ heads c := List.mem_map_of_mem hf
    rw [hhs] at hm
    exact hh5 _ hm
theorem ok_law_asked (T : Tx w K mg Z) : FnOk P w K mg base CX0 3 (Z.A 55) (Z.D 55) ["_law_deck_here", "_law_code_here", "_law_spots_here"] (spAsked K) := by
  refine T.law_asked.F.ok sc_law_asked (fun vs H Q E h => ?_) (fun cdv A outer s H vs Q E hr h => ?_)
  · obtain ⟨dk, lc, mp, vc, c, t, rfl, hd, hc, hc1, hc2, hc5, hm, hts, hne, q⟩ := h
    rfl
  have hu := hu_of hr
  have hu0 := Nat.lt_of_succ_lt hu
  obtain ⟨dk, lc, mp, vc, c, t, rfl, hd, hc, hc1, hc2, hc5, hm, hts, hne, q⟩ := h
  obtain ⟨ca, cx, rfl, eca, rcx⟩ := code_rp hc
  have hcl : cx.length = c.length := by rw [rcx.len, List.length_map]
  refine ⟨_, (pss_cons (ps_set (i := 3) sc_law_asked.nd rfl (by first | exact Or.inl rfl | exact Or.inr rfl) (pe_ifExp (pt_cmpR op_eq (pe_call (ok_law_draw T) (hr.mono (by decide)) rfl T.law_draw.m T.law_draw.F.kp T.law_draw.b .nil pass0 (pa_cons (pv 0) (pa_cons pe_int pa_nil))) pe_int (nomark _)) (pe_call (ok_law_draw T) (hr.mono (by decide)) rfl T.law_draw.m T.law_draw.F.kp T.law_draw.b .nil pass0 (pa_cons (pv 0) (pa_cons (pe_callB call_len rfl T.len_ bt_len (pa_cons (pv 1) pa_nil)) pa_nil))) pe_int)) (pss_cons (ps_set (i := 4) sc_law_asked.nd rfl (by first | exact Or.inl rfl | exact Or.inr rfl) (pe_callB cr_sortedS rfl T.sorted_ bt_sorted (pa_cons (pe_callTy (call_list_dK rfl) rfl T.list_ bt_list (pa_cons (pv 2) pa_nil)) pa_nil))) (pss_one (ps_ret (pe_tup (pa_cons (pv 3) (pa_cons (pe_callTy call_tuple_of rfl T.tuple_ bt_tuple (pa_cons (pe_lc (own := [("_law_turn", 5)]) (g := gName 5) (tt := tYes) rfl sc_law_asked.nd (pi_range1 rfl T.range_ (pa_cons (pe_ix ix_tup (pe_ix ix_tup (pv 1) (pv 3) (fun _ _ => rfl)) pe_int (fun _ _ => rfl)) pa_nil)) (blkOk_by (own := [("_law_turn", 5)]) (N := N_law_asked) (sc := defScope s_law_asked) (by decide +kernel)) (fun _ _ _ _ _ => (pg_name (i := 5) sc_law_asked.nd rfl (by first | exact Or.inl rfl | exact Or.inr rfl))) (fun _ _ _ _ _ => pts_nil) (fun _ _ _ _ _ => (pe_call (ok_law_pick T) (hr.mono (by decide)) rfl T.law_pick.m T.law_pick.F.kp T.law_pick.b .nil pass0 (pa_cons (pv 0) (pa_cons (pe_ifExp (pt_cmpR op_gt (pe_call (ok_law_draw T) (hr.mono (by decide)) rfl T.law_draw.m T.law_draw.F.kp T.law_draw.b .nil pass0 (pa_cons (pv 0) (pa_cons pe_int pa_nil))) pe_int (nomark _)) (pe_slice (r := rSlL K) sl_list (pv 4) po_none (po_some pe_int)) (pv 4)) pa_nil))))) pa_nil)) pa_nil))))))), ?_⟩
  have nlc : mp ≠ lc := by
    obtain ⟨cs, m, n, _, h2, _⟩ := hd
    intro e
    unfold MapAt at hm
    rw [e, h2] at hm
    cases hm
  refine set_cont (fun v Hy => ∃ f : Nat, v = .int (f : Int) ∧ f < c.length ∧ Dr dk lc H Hy) (fun Q' hQ => ?_) ?_
  · refine ⟨_, rfl, dk, lc, 3, rfl, hd, by omega, by omega, fun r H1 hr1 d1 => ⟨rfl, _, rfl, ?_⟩⟩
    cases r with
    | zero =>
      refine iteC (b := true) dz0 ?_
      exact ⟨_, rfl, _, rfl, _, _, rfl, .inr ⟨_, d1.tk.sq eca, rfl⟩, dk, lc, cx.length, rfl, d1.d, by omega, by omega, fun f H2 hf d2 => hQ _ _ ⟨f, rfl, by omega, d1.trans d2⟩⟩
    | succ r =>
      refine iteC (b := false) (dzS r) ?_
      exact hQ _ _ ⟨0, rfl, by omega, d1⟩
  rintro v H1 ⟨f, rfl, hf, d1⟩
  obtain ⟨fn, hfn⟩ : ∃ fn, c[f]? = some fn := ⟨c[f], List.getElem?_eq_getElem hf⟩
  have hm5 := hc5 fn (List.mem_of_getElem? hfn)
  have hm1 : MapAt H1 mp t := d1.get hm hne nlc
  obtain ⟨ps0, ek, hps0⟩ := keys_of (t := t) (kvs := putAll [] (spots t [])) fun kv h => map_keys h
  have hkl : (putAll [] (spots t [])).length ≤ 13 := by
    have := putAll_len (spots t []) []
    rw [spots_len] at this
    simp at this
    omega
  have hpl : ps0.length = (putAll [] (spots t [])).length := by
    have := congrArg List.length ek
    simp at this
    exact this.symm
  have hne0 : 0 < ps0.length := by
    have h0 : valV (putAll [] (spots t [])) (.inr (plStr [])) = some (tagV (sub [] t).tag) := map_val (t := t) (p := []) trivial
    cases e : putAll [] (spots t []) with
    | nil => rw [e] at h0; cases h0
    | cons a b => rw [hpl, e]; simp
  refine ⟨_, rfl, mp, _, rfl, hm1, fun l1 hl1 => ?_⟩
  rw [ek]
  refine ⟨l1, ps0.map plStr, rfl, SqL.of upd_same, by rw [List.length_map]; omega, fun ys l2 hperm _ hl2 => ?_⟩
  have hyl : ys.length = ps0.length := by rw [hperm.length_eq, List.length_map]
  have hys : ∀ y ∈ ys, ∃ p, y = plStr p ∧ isPl p t := fun y hy => by
    obtain ⟨p, hp, rfl⟩ := List.mem_map.mp (hperm.mem_iff.mp hy)
    exact ⟨p, rfl, hps0 p hp⟩
  have z := (same_new (o := .lst ((ps0.map plStr).map V.str)) hl1).trans (same_new (o := .lst (ys.map V.str)) hl2)
  have d2 := d1.same z
  have nl2 := ((d1.same (same_new (o := .lst ((ps0.map plStr).map V.str)) hl1)).d.ne hl2).2
  have e2 : (upd (upd H1 l1 (.lst ((ps0.map plStr).map V.str))) l2 (.lst (ys.map V.str))) l2 = some (.lst (ys.map V.str)) := upd_same
  generalize (upd (upd H1 l1 (.lst ((ps0.map plStr).map V.str))) l2 (.lst (ys.map V.str))) = H2 at d2 e2
  obtain ⟨vfn, hvfn, rfn⟩ := get_map rcx hfn
  obtain ⟨fna, fnb, fnx, rfl, efa, efb, rfx⟩ := fn_rp rfn
  have hn : ((fn.many : Nat) : Int).toNat = fn.many := by omega
  refine ⟨_, rfl, _, rfl, _, rfl, _, _, _, _, rfl, rfl, d2.tk.sq eca, atI_nat hvfn, _, _, _, _, rfl, rfl, d2.tk.sq efa, atI_nat (j := 1) rfl, _, rfl, by omega, by omega, fun D hD => lc_draw (walk_range (lo := 0)) dk lc (fun _ y => ∃ p, y = .str (plStr p) ∧ isPl p t) d2.d (by omega) hD (fun _ _ => trivial) ?_ ?_ gName_mono⟩
  · rintro j x H3 H4 hj d3 ⟨rfl, rfl⟩
    have e3 := d3.get e2 (d3.d0.neD e2) nl2
    have fin : ∀ (s : Addr) (xs : List V) (H5 : Hp) (Q2 : VK), Dr dk lc H4 H5 → H5 s = some (.lst xs) → s ≠ lc → 0 < xs.length → xs.length ≤ 100 → (∀ v ∈ xs, ∃ p, v = .str (plStr p) ∧ isPl p t) → (∀ y H6, Dr dk lc H4 H6 → (∃ p, y = .str (plStr p) ∧ isPl p t) → Q2 y H6) → spPick K [.ref dk, .ref s] H5 Q2 (fun _ _ _ => False) := fun s xs H5 Q2 d5 es hns h0 h1 hx q2 =>
      ⟨dk, lc, s, xs, rfl, d5.d, .inl ⟨es, hns⟩, h0, by omega, fun i v H6 hi d6 => q2 v H6 (d5.trans d6) (hx v (List.mem_of_getElem? hi))⟩
    have hx0 : ∀ v ∈ ys.map V.str, ∃ p, v = .str (plStr p) ∧ isPl p t := fun v hv => by
      obtain ⟨y, hy, rfl⟩ := List.mem_map.mp hv
      obtain ⟨p, rfl, hp⟩ := hys y hy
      exact ⟨p, rfl, hp⟩
    refine ⟨rfl, fun Q2 q2 => ⟨_, rfl, _, rfl, dk, lc, 3, rfl, d3.d, by omega, by omega, fun r H5 hr5 d5 => ⟨_, _, rfl, rfl, _, rfl, ?_⟩⟩⟩
    have e5 := d5.get e3 (d5.d0.neD e3) nl2
    by_cases hr0 : (0 : Int) < (r : Int)
    · refine iteC (b := true) (decide_eq_true hr0) ?_
      refine ⟨_, rfl, _, rfl, l2, _, rfl, SqL.of e5, fun p hp => ?_⟩
      have ec : cutV (ys.map V.str) none (some 1) = (ys.map V.str).take 1 := cut_to _ 1
      rw [ec]
      have z5 := same_new (o := .lst ((ys.map V.str).take 1)) hp
      exact fin p _ _ Q2 (d5.same z5) upd_same (d5.d.ne hp).2 (by simp; omega) (by simp; omega) (fun v hv => hx0 v (List.mem_of_mem_take hv)) q2
    · refine iteC (b := false) (decide_eq_false hr0) ?_
      exact ⟨_, rfl, fin l2 _ _ Q2 d5 e5 nl2 (by simp; omega) (by simp; omega) hx0 q2⟩
  · intro H3 zs d3 e3 hly hPe
    obtain ⟨ps, rfl, hps⟩ := pls_of (t := t) (ys := zs) fun y hy => by
      obtain ⟨j, hj⟩ := List.mem_iff_getElem?.mp hy
      exact hPe j y hj
    have hpsl : ps.length = fn.many := by
      unfold plsV at hly
      rw [List.length_map] at hly
      omega
    refine ⟨D, _, rfl, .inl ⟨SqL.of e3, fun tA htA => ⟨(by show 2 ≤ sizeLine; decide), fun p hp => ?_⟩⟩⟩
    have z1 := same_new (o := .tup (plsV ps)) htA
    have z2 := same_new (o := .tup [V.int (f : Int), V.ref tA]) hp
    exact q p f (.ref tA) fn ps _ ((d2.trans d3).same (z1.trans z2)) sqT_new (pls_mk ((Same.tk z2).sq sqT_new)) hfn hpsl hps
end
end Eo
set_option linter.all false
set_option maxRecDepth 100000
set_option maxHeartbeats 4000000
/-! R5: repr of a flat tuple where nothing is being shown; the law's call where it is made. -/
namespace Eo
open PySem PySem.Spec PyProof.Rows L2
/-! ### repr -/
def shV : V → Str
  | .str x => reprText x
  | .int i => toString i
  | .bl b => if b then "True" else "False"
  | _ => ""
def FlatV : V → Prop
  | .str x => (reprText x).length ≤ 1000
  | .int i => i.natAbs.log2 < 64
  | .bl _ => True
  | _ => False
theorem shV_len {v : V} (h : FlatV v) : (shV v).length ≤ 1000 := by
  cases v with
  | str x => exact h
  | int i =>
    have e := int_text_length_le (k := 64) (by decide) h
    show (Str.ofString (toString i)).length ≤ 1000
    rw [PySem.ofString_length]
    omega
  | bl b => cases b <;> decide +kernel
  | _ => exact h.elim
theorem sh_all {prog : Program} {w : World} : ∀ {xs : List V} {its : List Value}, Vals xs its → (∀ v ∈ xs, FlatV v) → ReprAll prog w its (xs.map shV)
  | [], _, r, _ => by
    cases r
    exact .nil
  | v :: xs, _, r, h => by
    cases r with
    | cons r1 r2 =>
      have hv := h v (by simp)
      refine .cons ?_ (sh_all r2 fun z hz => h z (List.mem_cons_of_mem _ hz))
      cases v with
      | str x =>
        obtain ⟨t, rfl⟩ := r1
        exact ReprIs.str x t (Nat.le_trans hv (by decide))
      | int i =>
        obtain ⟨t, rfl⟩ := r1
        exact ReprIs.int t (Nat.lt_of_lt_of_le hv (by decide))
      | bl b =>
        cases r1
        exact ReprIs.bool b
      | _ => exact hv.elim
theorem sh_piled : ∀ xs : List V, (∀ v ∈ xs, FlatV v) → piled (xs.map shV) ≤ 1002 * xs.length
  | [], _ => Nat.zero_le _
  | v :: xs, h => by
    have h1 := sh_piled xs fun z hz => h z (List.mem_cons_of_mem _ hz)
    have h2 := shV_len (h v (by simp))
    rw [List.map_cons, piled_cons, List.length_cons]
    omega
def rReprT (K : PySem.W.Frag) : List V → Hp → VK → Prop := fun vs H Q => ∃ (a : Addr) (xs : List V), vs = [.ref a] ∧ SqT K H a xs ∧ (∀ v ∈ xs, FlatV v) ∧ xs.length ≤ 10 ∧ Q (.str (tupleText (xs.map shV))) H
theorem call_reprT {X : Cx} (hg : X.A.guards = some []) (hu : X.A.units + 1 < cLine) : CallR X (.builtin "repr") (rReprT X.K) := by
  intro pins s σ H vs us Q I r h
  obtain ⟨a, xs, rfl, ht, hf, hl, q⟩ := h
  obtain ⟨u, rfl, rx⟩ := vals1 r
  cases rx
  obtain ⟨its, rv, ⟨o, ho, hcl, n, hd⟩, _⟩ := I.tuple ht
  have hp := sh_piled xs hf
  have htx := fmt_text (xs.map shV)
  have hsz : (tupleText (xs.map shV)).length ≤ sizeLine := Nat.le_trans (by omega : _ ≤ 20000) (by decide)
  refine call_repr_slot hu ⟨o, ho, hcl⟩ F.slot_tuple_repr (call_tuple_repr (s := s) ⟨o, ho, hcl⟩ (show X.A.in1.guards = some [] from hg) (fun c hc => by cases hc) ho hd (sh_all rv hf) (fun t tk => ?_) hsz)
  exact ⟨_, t, rfl, .str _, H, I.tok _, ⟨t, rfl⟩, q⟩
/-! ### a def called at one place -/
theorem fn_at {P : Program} {w : World} {K : PySem.W.Frag} {mg : Str → Option Value} {base : Heap} {nm qual : Str} {st : Stmt} {f : Addr} {fd : FuncData} {N ps : List Str} {k : Nat} (F : Fun K nm qual st f fd) (S : FnScope N ps (defScope st))
    {A : Around} {outer : List Env} {s : Shared} {H : Hp} {args : Args} {us : List Value} {vs : List V} {Q : VK} {E : XK} (hroom : Room (k + 1) A) (env0 : Env0 P w K mg base A outer s H) (hbind : BindsTo s fd args (ps.zip us)) (rel : Vals vs us) (hlen : vs.length = ps.length)
    (body : ∀ cdv : Value, ∃ t, PSs (cxOf CX0 P w K mg base N qual (defScope st) f cdv A outer s H E).nox (defBody st) t ∧ t { nx := fun _ G => Q .non G, rt := Q } (start N vs) H) :
    codeAny (model P w) A (.call (.ref f) args) (CR CX0 outer P w H s Q E) s := by
  obtain ⟨_, _, _, _, _, _, cdv, _, _, rfl, look, rec_⟩ := F.ex
  obtain ⟨t, walk, read⟩ := body cdv
  have inS : K.In s.heap := env0.mod.kin.keeps fun b o e => (env0.bs b o e).1
  refine codeAny_call_function hroom.depth (inS _ _ look) rfl S.co S.gen rfl (PySem.W.codeRec_of inS rec_) (hbind _ _ _ _ (wpAny_newFunctionEnv_cells S.kind (fun y hy => ?_) fun env eqv s1 grown => ?_))
  · rcases S.par y.1 (List.of_mem_zip (show (y.1, y.2) ∈ _ from hy)).1 with z | z
    · exact .inl z
    · exact .inr ⟨z, PySem.W.cellsFrom_some _ _ _ (.inl z)⟩
  subst eqv
  refine ⟨(env0.mod.nolimit.keeps fun b o e => (env0.bs b o e).1).keeps grown.toInCall.keep, codeAny_func (wpAny_mono (walk.nox.run [] s1 (start N vs) H _ (inv_start S hroom.hd env0 hlen rel grown) read) (fun fl s2 out => ?_) fun _ _ out => out)⟩
  cases fl with
  | ret u =>
    obtain ⟨v, _, G, J, rv, hq⟩ := out
    exact ⟨v, G, J.os, J.bare, J.base, J.hok, rv, hq⟩
  | next =>
    obtain ⟨_, G, J, hq⟩ := out
    exact ⟨.non, G, J.os, J.bare, J.base, J.hok, rfl, hq⟩
  | brk =>
    obtain ⟨_, _, _, hq⟩ := out
    exact hq.elim
  | cont =>
    obtain ⟨_, _, _, hq⟩ := out
    exact hq.elim
/-- the law's own def, called by the claim: what its body must read, at the caller's place -/
theorem law_at {P : Program} {w : World} {K : PySem.W.Frag} {mg mb : Str → Option Value} {nm qual : Str} {st : Stmt} {fa a : Addr} {fd : FuncData} {N : List Str} {k : Nat} {x : Str} {s₁ : Shared} {vs : List Value} {ns : List Int} (F : Fun K nm qual st fa fd) (S : FnScope N [x] (defScope st))
    (KX : K.In s₁.heap) (hns : s₁.heap.Ns mainGlobals mg) (hb : s₁.heap.Ns builtinsNs mb) (hbb : ∀ x : Str, x ≠ "__name__" → mb x = bootBuiltins x) (hlim : s₁.heap.NoLimit) (hg : s₁.gens = #[])
    (ha : s₁.heap.get? a = some { cls := .type "list", data := .seq vs.toArray }) (hi : IntsAre vs ns) (hl : ns.length ≤ sizeLine) (hr : Room (k + 1) callerA) (hbind : BindsTo s₁ fd ⟨[.ref a], []⟩ [(x, .ref a)])
    (body : ∀ (base : Heap) (H : Hp) (cdv : Value), K.In base → base.Ns mainGlobals mg → SqL K H a (ns.map V.int) →
      ∃ t, PSs (cxOf CX0 P w K mg base N qual (defScope st) fa cdv callerA [] s₁ H (fun _ _ _ => False)).nox (defBody st) t ∧ t { nx := fun _ G => V.non = .bl true, rt := fun v _ => v = .bl true } (start N [.ref a]) H) :
    codeAny (model P w) callerA (.call (.ref fa) ⟨[.ref a], []⟩) (fun r s' => r = .ok (.ret (.bool true)) ∧ OldK s₁.heap s'.heap ∧ s'.os = s₁.os ∧ AllBare s'.gens) s₁ := by
  have rel := vals_ints hi
  have go : ∀ G : Hp, (∀ b, G b = none ∨ (b = a ∧ ∃ o xs, G b = some (.frz o (.lst xs)))) → SqL K G a (ns.map V.int) → HOk P w G s₁.heap → (G a ≠ none → K.lookup a = none) →
      codeAny (model P w) callerA (.call (.ref fa) ⟨[.ref a], []⟩) (fun r s' => r = .ok (.ret (.bool true)) ∧ OldK s₁.heap s'.heap ∧ s'.os = s₁.os ∧ AllBare s'.gens) s₁ := by
    intro G only seq ok own
    have off : ∀ {b : Addr}, b ≠ a → G b = none := fun {b} n => (only b).elim id fun z => absurd z.1 n
    have hid : ∀ {b : Addr} {o : Obj}, s₁.heap.get? b = some o → G b = none → (hidT s₁.heap G).get? b = some o := fun e n => hidT_get e n
    have names : ∀ {b : Addr} {m : Str → Option Value}, s₁.heap.Ns b m → (hidT s₁.heap G).Ns b m := by
      rintro b m ⟨o, es, ep, e, d, z⟩
      refine ⟨o, es, ep, hid e (off ?_), d, z⟩
      rintro rfl
      rw [ha] at e
      cases e
      cases d
    have kin : K.In (hidT s₁.heap G) := fun b o e => hid (KX b o e) (by
      by_cases hba : b = a
      · subst hba
        cases q : G b with
        | none => rfl
        | some u =>
          have := own (by rw [q]; simp)
          rw [e] at this
          cases this
      · exact off hba)
    have env0 : Env0 P w K mg (hidT s₁.heap G) callerA [] s₁ G := by
      obtain ⟨mc, z1, z2⟩ := hlim
      exact ⟨rfl, ⟨kin, names hns, ⟨mb, names hb, hbb⟩, ⟨mc, names z1, z2⟩⟩, fun b o e => of_hidT e, Nat.le_of_eq (hidT_size _ _), trivial, (fun b z => absurd (show b ∈ ([] : List Addr) from z) (by simp)), ok, .of_eq hg⟩
    refine codeAny_mono (fn_at (us := [.ref a]) (vs := [.ref a]) (Q := fun v _ => v = .bl true) (E := fun _ _ _ => False) F S hr env0 hbind (.cons rfl .nil) rfl fun cdv => body (hidT s₁.heap G) G cdv kin (names hns) seq) fun r s' out => ?_
    cases r with
    | error e => exact out.elim
    | ok fl =>
      cases fl with
      | ret u =>
        obtain ⟨v, G', os, bare, un, ok', rv, rfl⟩ := out
        cases rv
        refine ⟨rfl, OldK.of_keep fun b o e => ?_, os, bare⟩
        rcases only b with n | ⟨rfl, ob, xs, z⟩
        · exact un.keep b o e n (fun z => absurd (show b ∈ ([] : List Addr) from z) (by simp)) (by simp)
        · have e1 := (ok b _ z).1
          have e2 := (ok' b _ (un.frzs b ob _ z)).1
          rw [e1] at e
          cases e
          exact e2
      | next => exact out.elim
      | brk => exact out.elim
      | cont => exact out.elim
  by_cases hk : K.lookup a = none
  · refine go (fun b => if b = a then some (.frz { cls := .type "list", data := .seq vs.toArray } (.lst (ns.map V.int))) else none) (fun b => ?_) (.inl (.inr ⟨_, if_pos rfl⟩)) (fun b u z => ?_) fun _ => hk
    · by_cases hba : b = a
      · exact .inr ⟨hba, _, _, if_pos hba⟩
      · exact .inl (if_neg hba)
    · by_cases hba : b = a
      · subst hba
        have z1 := (if_pos rfl).symm.trans z
        cases z1
        exact ⟨ha, by rw [List.length_map]; exact hl, vs, _, rel, ha⟩
      · have z1 := (if_neg hba).symm.trans z
        cases z1
  · obtain ⟨o, ho⟩ := Option.ne_none_iff_exists'.mp hk
    have e := KX a o ho
    rw [ha] at e
    cases e
    refine go (fun _ => none) (fun _ => .inl rfl) (.inr ⟨_, vs.toArray, _, ho, rfl, rfl, rfl, by rw [List.size_toArray, hi.length]; exact hl, by simpa using rel⟩) (fun b u z => by cases z) fun z => absurd rfl z
/-- the goal behind the head, for a law whose own def shows data -/
theorem walk_at {l : PySem.W.OpenLaw} {n k : Nat} {q : Program} {loose : List Str} {XP : (Str → Option Value) → Heap → Prop} {YP : World → Heap → Prop} {d : DefRec} {K : Params → PySem.W.Frag} {x nm qual : Str} {st : Stmt} {N : List Str}
    (hn : l.most = some n) (hn2 : n ≤ sizeLine) (hdf : d.params.defaults = []) (hr : Room (k + 1) callerA) (hY : ∀ (w : World) (h : Heap), YP w h → (K w.params).In h) (S : FnScope N [x] (defScope st))
    (F : ∀ (w : World) (mg : Str → Option Value) (fa : Addr) (h : Heap), (K w.params).In h → h.Ns mainGlobals mg → mg d.name = some (.ref fa) →
      ∃ fd : FuncData, (∀ (s : Shared) (u : Value), BindsTo s fd ⟨[u], []⟩ [(x, u)]) ∧ Fun (K w.params) nm qual st fa fd ∧
        ∀ (base : Heap) (H : Hp) (cdv : Value) (s : Shared) (a : Addr) (ns : List Int), (K w.params).In base → base.Ns mainGlobals mg → ns.length ≤ n → SqL (K w.params) H a (ns.map V.int) →
          ∃ t, PSs (cxOf CX0 l.prog w (K w.params) mg base N qual (defScope st) fa cdv callerA [] s H (fun _ _ _ => False)).nox (defBody st) t ∧ t { nx := fun _ G => V.non = .bl true, rt := fun v _ => v = .bl true } (start N [.ref a]) H) :
    PySem.W.WalkO q loose XP YP l.row.toRowW d [] (fun f vs => PySem.call f vs) := by
  refine Att.attach_call hn hdf fun w s₀ s₁ mg mb fa o pm cd doc a vs ns G Y ho hd hcd hmg hobj hints hlen hg => ?_
  obtain ⟨fd, hb, hF, body⟩ := F w mg fa _ (hY w _ Y) G.T.g hmg
  exact law_at hF S (hY w _ Y) G.T.g G.T.b G.T.builtins G.T.nolimit hg hobj hints (Nat.le_trans hlen hn2) hr (hb _ _) fun base H cdv h1 h2 h3 => body base H cdv s₁ a ns h1 h2 hlen h3
end Eo
set_option linter.all false
set_option maxRecDepth 100000
set_option maxHeartbeats 4000000
/-! R6: a def called by keywords alone. -/
namespace Eo
open PySem PySem.Spec PyProof.Rows L2
section
variable {X : Cx} {CX : CXT} {k : Nat} {f : Addr} {fd : FuncData} {ps ks : List Str} {sp : Sp} {E : XK} {x : Str} {p pos : Pos} {kws : List Keyword} {tk : TA} {g : List Value → List Value → List Value} {gV : List V → List V → List V}
theorem pe_callK0 (F : FnOk X.prog X.w X.K X.mg X.base CX k f fd ps sp) (hr : Room k X.A) (hg : Gl X x) (hm : X.mg x = some (.ref f)) (hk : PySem.W.keepIn X.K (.ref f) = true) (hb : KBinds X.K fd ps ks g gV) (hx : Passes CX X E)
    (hkw : PK X kws tk) (hall : (backToKw pos (keywordEach kws X.env)).all (·.1.isSome) = true := by rfl) (hks : (backToKw pos (keywordEach kws X.env)).filterMap (·.1) = ks := by rfl) (hdb : (x == ("__debug__" : Str)) = false := by decide)
    (hpl : ((backTo pos (starEach [] X.env)).any (·.1) || (backToKw pos (keywordEach kws X.env)).any (·.1.isNone)) = false := by rfl) :
    PE X (.Call (.Name x p) [] kws pos) (tCallK sp gV E tNil tk) := by
  refine ⟨fun pins s σ H Q I h => wpAny_Call_Name_kw (ld_glob I hg hm (PySem.W.callWith_KW0 (h₀ := X.base) I.ok.mod.kin hk hall (thn (hkw.run pos pins s σ H _ I h) fun ws s2 ⟨zs, G, J, rz, q⟩ => ⟨J.kIn, ?_⟩) hpl) hdb)⟩
  rw [hks]
  exact run_fnk (us := []) (vs := []) F hr hb hx J .nil rz q
end
def g5 : List Value → List Value → List Value
  | [], [a, b, c, d, e] => [e, d, c, b, a]
  | _, _ => []
def g5V : List V → List V → List V
  | [], [a, b, c, d, e] => [e, d, c, b, a]
  | _, _ => []
theorem kb_run {K : PySem.W.Frag} {f : Addr} {fd : FuncData} (F : Fun K "run_plain" "run_plain" s_run_plain f fd) : KBinds K fd ["code", "tree", "f", "places", "fuel"] ["fuel", "places", "f", "tree", "code"] g5 g5V := by
  obtain ⟨oc, od, kV, doc, pm, an, cdv, ct, osl, rfl, lk, hcd⟩ := F.ex
  refine ⟨fun s us ws hK hl => ?_, fun r1 r2 => ?_⟩
  · match us, ws, hl with
    | [], [a, b, c, d, e], _ => exact BindsTo.of_eq rfl
  · cases r1 with
    | cons _ _ => exact .nil
    | nil => cases r2 with
      | nil => exact .nil
      | cons a1 r2 => cases r2 with
        | nil => exact .nil
        | cons a2 r2 => cases r2 with
          | nil => exact .nil
          | cons a3 r2 => cases r2 with
            | nil => exact .nil
            | cons a4 r2 => cases r2 with
              | nil => exact .nil
              | cons a5 r2 => cases r2 with
                | nil => exact .cons a5 (.cons a4 (.cons a3 (.cons a2 (.cons a1 .nil))))
                | cons _ _ => exact .nil
end Eo
set_option linter.all false
set_option maxRecDepth 100000
set_option maxHeartbeats 8000000
/-! E27: the law. -/
namespace Eo
open PySem L2
theorem run_has {c : Code} {AA : Nat → Nat → Option Ks} {t : Tr} (G : Good c AA) : ∀ (n s : Nat) (st : List Fr) (v : Val) (k : Nat), WfL c AA t st → run c t n s st = .given v k → ∃ kd, v.has t kd
  | 0, _, _, _, _, _, h => by cases h
  | n + 1, s, [], _, _, hw, _ => hw.elim
  | n + 1, s, fr :: rest, v, k, hw, h => by
    unfold run at h
    rcases wf_step G hw with ⟨st', e1, e2⟩ | ⟨w, fn, e1, _, _, e2⟩
    · rw [e1] at h
      exact run_has G n (s + 1) st' v k e2 h
    · rw [e1] at h
      cases h
      exact ⟨_, e2⟩
def resV : Res → List V
  | .out => [.str "out"]
  | .given v n => [.str "given", v.v, .int (n : Int)]
theorem res_rp {K : PySem.W.Frag} {H : Hp} {x : V} {R : Res} (h : Rp K H x (resDt R)) : ∃ a, x = .ref a ∧ SqT K H a (resV R) := by
  cases R with
  | out =>
    obtain ⟨a, xs, rfl, e, r⟩ := h.tup_inv
    cases r with
    | cons q r =>
      cases r
      obtain rfl := q.str_inv
      exact ⟨a, rfl, e⟩
  | given v n =>
    cases v with
    | pl p =>
      obtain ⟨a, xs, rfl, e, r⟩ := h.tup_inv
      cases r with
      | cons q1 r => cases r with
        | cons q2 r => cases r with
          | cons q3 r =>
            cases r
            obtain rfl := q1.str_inv
            obtain rfl := q2.str_inv
            obtain rfl := q3.int_inv
            exact ⟨a, rfl, e⟩
    | bl b =>
      obtain ⟨a, xs, rfl, e, r⟩ := h.tup_inv
      cases r with
      | cons q1 r => cases r with
        | cons q2 r => cases r with
          | cons q3 r =>
            cases r
            obtain rfl := q1.str_inv
            obtain rfl := q2.bl_inv
            obtain rfl := q3.int_inv
            exact ⟨a, rfl, e⟩
theorem pl_repr (p : List Bool) (h : p.length ≤ 20) : (reprText (plStr p)).length ≤ 1000 := by
  have h1 := StrLaws.reprText_len (plStr p) (fun c hc => by
    have hc2 : c ∈ (p.map fun b => if b then 114 else 108) := by
      unfold plStr at hc
      rw [List.toList_toArray] at hc
      exact hc
    obtain ⟨b, _, rfl⟩ := List.mem_map.mp hc2
    cases b <;> decide)
  rw [plStr_len] at h1
  omega
theorem res_flat {t : Tr} {R : Res} (hs : t.size ≤ 20) (h : ∀ v n, R = .given v n → (∃ kd, v.has t kd) ∧ n ≤ 100000) : ∀ v ∈ resV R, FlatV v := by
  intro v hv
  cases R with
  | out =>
    simp [resV] at hv
    subst hv
    show (reprText "out").length ≤ 1000
    decide +kernel
  | given w n =>
    obtain ⟨⟨kd, hk⟩, hn⟩ := h w n rfl
    simp [resV] at hv
    rcases hv with rfl | rfl | rfl
    · show (reprText "given").length ≤ 1000
      decide +kernel
    · cases w with
      | pl p =>
        refine pl_repr p ?_
        cases kd with
        | place => exact Nat.le_trans (isPl_len p t hk) (Nat.le_trans t.hgt_le hs)
        | truth => exact hk.elim
      | bl b => trivial
    · show ((n : Int)).natAbs.log2 < 64
      rw [Int.natAbs_natCast]
      by_cases h0 : n = 0
      · subst h0; decide
      · exact (Nat.log2_lt h0).mpr (Nat.lt_of_le_of_lt hn (by decide))
theorem ite_any {c : Bool} {A B : Prop} (ha : A) (hb : B) : if c = true then A else B := by
  cases c with
  | true => exact ha
  | false => exact hb
section
variable {P : Program} {w : World} {K : PySem.W.Frag} {mg : Str → Option Value} {base : Heap} {Z : Wh}
theorem law_body (T : Tx w K mg Z) (a : Addr) (ns : List Int) (H : Hp) (s : Shared) (cdv : Value) (hl : ns.length ≤ 63) (hs : SqL K H a (ns.map V.int)) (hr : Room 41 (callerA.deeper (PyProof.Rows.envOfC "law" (defScope s_law) s.heap.objs.size (Z.A 56) cdv))) :
    ∃ t, PSs (cxOf CX0 P w K mg base N_law "law" (defScope s_law) (Z.A 56) cdv callerA [] s H (fun _ _ _ => False)).nox (defBody s_law) t ∧ t { nx := fun _ G => V.non = .bl true, rt := fun v _ => v = .bl true } (L2.start N_law [.ref a]) H := by
  have hu := hu_of hr
  have hu0 := Nat.lt_of_succ_lt hu
  have hgd : (callerA.deeper (PyProof.Rows.envOfC "law" (defScope s_law) s.heap.objs.size (Z.A 56) cdv)).guards = some [] := rfl
  refine ⟨_, (pss_cons (ps_set (i := 1) sc_law.nd rfl (by first | exact Or.inl rfl | exact Or.inr rfl) (pe_call (ok_law_deck T) (hr.mono (by decide)) rfl T.law_deck.m T.law_deck.F.kp T.law_deck.b .nil pass0 (pa_cons (pv 0) pa_nil))) (pss_cons (ps_for PassesOwn.never rfl (pi_range1 rfl T.range_ (pa_cons pe_int pa_nil)) (pg_name (i := 2) sc_law.nd rfl (by first | exact Or.inl rfl | exact Or.inr rfl)) (pss_cons (ps_set (i := 3) sc_law.nd rfl (by first | exact Or.inl rfl | exact Or.inr rfl) (pe_call (ok_law_code T) (hr.mono (by decide)) rfl T.law_code.m T.law_code.F.kp T.law_code.b .nil pass0 (pa_cons (pv 1) (pa_cons pe_int (pa_cons pe_int pa_nil))))) (pss_cons (ps_set (i := 4) sc_law.nd rfl (by first | exact Or.inl rfl | exact Or.inr rfl) (pe_call (ok_law_tree_for T) (hr.mono (by decide)) rfl T.law_tree_for.m T.law_tree_for.F.kp T.law_tree_for.b .nil pass0 (pa_cons (pv 1) (pa_cons (pv 3) (pa_cons pe_int pa_nil))))) (pss_cons (ps_set (i := 5) sc_law.nd rfl (by first | exact Or.inl rfl | exact Or.inr rfl) (pe_call (ok_law_map T) (hr.mono (by decide)) rfl T.law_map.m T.law_map.F.kp T.law_map.b .nil pass0 (pa_cons (pv 4) pa_nil))) (pss_one (ps_for PassesOwn.never rfl (pi_range1 rfl T.range_ (pa_cons pe_int pa_nil)) (pg_name (i := 6) sc_law.nd rfl (by first | exact Or.inl rfl | exact Or.inr rfl)) (pss_cons (ps_asg (pe_call (ok_law_asked T) (hr.mono (by decide)) rfl T.law_asked.m T.law_asked.F.kp T.law_asked.b .nil pass0 (pa_cons (pv 1) (pa_cons (pv 3) (pa_cons (pv 5) pa_nil)))) (pg_tup rfl (pgs_cons (pg_name (i := 7) sc_law.nd rfl (by first | exact Or.inl rfl | exact Or.inr rfl)) (pgs_cons (pg_name (i := 8) sc_law.nd rfl (by first | exact Or.inl rfl | exact Or.inr rfl)) pgs_nil)))) (pss_cons (ps_set (i := 9) sc_law.nd rfl (by first | exact Or.inl rfl | exact Or.inr rfl) (pe_ifExp (pt_cmpR op_eq (pe_op op_add (pv 2) (pv 6)) pe_int (nomark _)) pe_int pe_int)) (pss_cons (ps_set (i := 10) sc_law.nd rfl (by first | exact Or.inl rfl | exact Or.inr rfl) (pe_call (ok_law_plain T) (hr.mono (by decide)) rfl T.law_plain.m T.law_plain.F.kp T.law_plain.b .nil pass0 (pa_cons (pv 3) (pa_cons (pv 5) (pa_cons (pe_tup (pa_cons (pv 7) (pa_cons (pv 8) pa_nil))) (pa_cons (pv 9) pa_nil)))))) (pss_cons (ps_set (i := 11) sc_law.nd rfl (by first | exact Or.inl rfl | exact Or.inr rfl) (pe_lst (pa_cons (pv 9) (pa_cons pe_int (pa_cons (pe_op op_add pe_int (pe_call (ok_law_draw T) (hr.mono (by decide)) rfl T.law_draw.m T.law_draw.F.kp T.law_draw.b .nil pass0 (pa_cons (pv 1) (pa_cons pe_int pa_nil)))) pa_nil))))) (pss_cons (ps_if (pt_cmpR op_eq (pe_ix ix_tup (pv 10) pe_int (fun _ _ => rfl)) pe_str (nomark _)) (pss_one (ps_set (i := 11) sc_law.nd rfl (by first | exact Or.inl rfl | exact Or.inr rfl) (pe_op op_cat (pv 11) (pe_lst (pa_cons (pe_ix ix_tup (pv 10) pe_int (fun _ _ => rfl)) (pa_cons (pe_op op_sub (pe_ix ix_tup (pv 10) pe_int (fun _ _ => rfl)) pe_int) (pa_cons (pe_op op_add (pe_ix ix_tup (pv 10) pe_int (fun _ _ => rfl)) pe_int) pa_nil))))))) pss_nil) (pss_one (ps_for PassesOwn.never rfl (pi_enum rfl T.enumerate_ (pa_cons (pv 11) pa_nil)) (pg_tup rfl (pgs_cons (pg_name (i := 12) sc_law.nd rfl (by first | exact Or.inl rfl | exact Or.inr rfl)) (pgs_cons (pg_name (i := 13) sc_law.nd rfl (by first | exact Or.inl rfl | exact Or.inr rfl)) pgs_nil))) (pss_cons (ps_set (i := 14) sc_law.nd rfl (by first | exact Or.inl rfl | exact Or.inr rfl) (pe_ifExp (PW.pt (pw_and (pt_cmpR op_eq (pe_ix ix_tup (pv 10) pe_int (fun _ _ => rfl)) pe_str (nomark _)) (pw_and1 (pt_cmpR op_le (pe_ix ix_tup (pv 10) pe_int (fun _ _ => rfl)) (pv 13) (nomark _))))) (pv 10) (pe_tup (pa_cons pe_str pa_nil)))) (pss_cons (ps_if (pt_cmpR op_eq (pe_op op_and (pv 12) pe_int) pe_int (nomark _)) (pss_one (ps_set (i := 15) sc_law.nd rfl (by first | exact Or.inl rfl | exact Or.inr rfl) (pe_call (ok_run_plain T) (hr.mono (by decide)) rfl T.run_plain.m T.run_plain.F.kp T.run_plain.b .nil pass0 (pa_cons (pv 3) (pa_cons (pv 4) (pa_cons (pv 7) (pa_cons (pv 8) (pa_cons (pv 13) pa_nil)))))))) (pss_one (ps_set (i := 15) sc_law.nd rfl (by first | exact Or.inl rfl | exact Or.inr rfl) (pe_callK0 (ok_run_plain T) (hr.mono (by decide)) rfl T.run_plain.m T.run_plain.F.kp (kb_run T.run_plain.F) pass0 (pk_cons (pv 13) (pk_cons (pv 8) (pk_cons (pv 7) (pk_cons (pv 4) (pk_cons (pv 3) pk_nil))))))))) (pss_one (ps_if (pt_cmpR op_ne (pe_callB (call_reprT hgd hu) rfl T.repr_ bt_repr (pa_cons (pv 15) pa_nil)) (pe_callB (call_reprT hgd hu) rfl T.repr_ bt_repr (pa_cons (pv 14) pa_nil)) (nomark _)) (pss_one (ps_ret pe_bl)) pss_nil))))))))))))))))) (pss_one (ps_ret pe_bl)))), ?_⟩
  refine ⟨_, rfl, a, ns, rfl, hs, hl, fun dk lc H1 s1 hd _ _ => ?_⟩
  refine ⟨_, rfl, by decide, by decide, ?_⟩
  refine for_range (fun i σ Hx => ∃ (o2 o3 o4 o5 o6 o7 o8 o9 o10 o11 o12 o13 o14 o15 : Option V), σ = [some (.ref a), some (.ref dk), o2, o3, o4, o5, o6, o7, o8, o9, o10, o11, o12, o13, o14, o15] ∧ Deck Hx dk lc) ⟨_, _, _, _, _, _, _, _, _, _, _, _, _, _, rfl, hd⟩ ?_ ?_
  · rintro i σ Hx hi ⟨o2, o3, o4, o5, o6, o7, o8, o9, o10, o11, o12, o13, o14, o15, rfl, hdx⟩
    -- code, tree, map
    refine ⟨_, rfl, dk, lc, rfl, hdx, fun vc c AA H2 d2 hc hok hc1 hc5 => ?_⟩
    refine ⟨_, rfl, _, rfl, dk, lc, vc, c, 6, rfl, by decide, by decide, d2.d, hc, hok.len, fun vt t H3 d3 ht htg hts => ?_⟩
    refine ⟨_, rfl, vt, t, rfl, by omega, ht, fun mp H4 s4 hmpn hmp => ?_⟩
    have hc3 := hc.tk d3.tk
    have hne := d3.d.ne hmpn
    refine ⟨_, rfl, by decide, by decide, ?_⟩
    refine for_range (fun j σ Hx => ∃ (o6 o7 o8 o9 o10 o11 o12 o13 o14 o15 : Option V), σ = [some (.ref a), some (.ref dk), some (.int ((0 : Int) + (i : Int))), some vc, some vt, some (.ref mp), o6, o7, o8, o9, o10, o11, o12, o13, o14, o15] ∧ Deck Hx dk lc ∧ Rp K Hx vc (codeDt c) ∧ Rp K Hx vt t.dt ∧ MapAt Hx mp t)
      ⟨_, _, _, _, _, _, _, _, _, _, rfl, d3.d.same s4, hc3.same s4, ht.same s4, hmp⟩ ?_ ?_
    · rintro j σ Hy hj ⟨o6, o7, o8, o9, o10, o11, o12, o13, o14, o15, rfl, hdy, hcy, hty, hmy⟩
      have G : Good c AA := ⟨hok.ty⟩
      -- f, where
      refine ⟨_, rfl, _, rfl, _, rfl, dk, lc, mp, vc, c, t, rfl, hdy, hcy, hc1, hok.len, hc5, hmy, hts, hne.1, fun p f vp fn ps H5 d5 hp hvp hfn hpl hps => ?_⟩
      refine ⟨_, _, rfl, hp, rfl, _, _, rfl, _, _, rfl, rfl, ?_⟩
      have hc5' := hcy.tk d5.tk
      have ht5 := hty.tk d5.tk
      have hm5 : MapAt H5 mp t := d5.get hmy hne.1 hne.2
      -- most
      dsimp only [tSeq]
      refine set_cont (fun v Hz => ∃ most : Nat, v = .int (most : Int) ∧ 400 ≤ most ∧ most ≤ 2000 ∧ Hz = H5) (fun Q' hQ => ?_) ?_
      · refine ⟨_, rfl, _, rfl, _, _, rfl, rfl, rfl, _, rfl, ?_⟩
        exact ite_any (hQ _ _ ⟨2000, rfl, by decide, by decide, rfl⟩) (hQ _ _ ⟨400, rfl, by decide, by decide, rfl⟩)
      rintro v Hz ⟨most, rfl, hm1, hm2, rfl⟩
      have hwf : WfL c AA t [begin c f (ps.map .pl)] := ⟨begin_ok G hfn (by simpa using hpl) (fun v hv => by
        obtain ⟨p, hp1, rfl⟩ := List.mem_map.mp hv
        exact hps p hp1), trivial⟩
      -- due
      refine ⟨_, rfl, _, rfl, _, rfl, _, rfl, (by show 2 ≤ sizeLine; decide), fun cl hcl => ?_⟩
      have z5 := same_new (o := .tup [V.int (f : Int), vp]) hcl
      refine ⟨_, rfl, vc, vp, mp, cl, c, AA, t, f, fn, ps, most, rfl, hc5'.same z5, hok, z5 _ _ hm5, by omega, sqT_new, hvp.same z5, hfn, hpl, hps, by omega, fun due H6 s6 hdue => ?_⟩
      have s56 := z5.trans s6
      generalize hst : [begin c f (ps.map .pl)] = st0 at hdue hwf
      generalize hR : run c t most 0 st0 = R at hdue
      obtain ⟨da, rfl, hda⟩ := res_rp hdue
      have d6 := d5.same s56
      -- the fuels
      refine ⟨_, rfl, _, rfl, dk, lc, 40, rfl, d6.d, by decide, by decide, fun x H7 hx d7 => ⟨_, _, rfl, rfl, (by show 3 ≤ sizeLine; decide), fun l1 hl1 => ?_⟩⟩
      have d57 := (hdy.dr (Same.refl _)).trans (d6.trans (d7.same (same_new (o := .lst [V.int (most : Int), V.int 0, V.int ((1 : Int) + (x : Int))]) hl1)))
      have hda7 : SqT K (upd H7 l1 (.lst [V.int (most : Int), V.int 0, V.int ((1 : Int) + (x : Int))])) da (resV R) := (Same.tk (same_new hl1)).sq (d7.tk.sq hda)
      have e1 : (upd H7 l1 (.lst [V.int (most : Int), V.int 0, V.int ((1 : Int) + (x : Int))])) l1 = some (.lst (natsV [most, 0, 1 + x])) := by
        rw [upd_same]
        rfl
      have nl1 := (d7.d.ne hl1).2
      have hvp8 : Rp K (upd H7 l1 (.lst [V.int (most : Int), V.int 0, V.int ((1 : Int) + (x : Int))])) vp (plsDt ps) := ((hvp.same s56).tk d7.tk).same (same_new hl1)
      have hdue8 : Rp K (upd H7 l1 (.lst [V.int (most : Int), V.int 0, V.int ((1 : Int) + (x : Int))])) (.ref da) (resDt R) := (hdue.tk d7.tk).same (same_new hl1)
      generalize (upd H7 l1 (.lst [V.int (most : Int), V.int 0, V.int ((1 : Int) + (x : Int))])) = H8 at d57 hda7 e1 hvp8 hdue8
      dsimp only [gName, tSeq]
      refine if_seq5 (i := 11) (fun v Hz => ∃ l2 fs, v = .ref l2 ∧ Same H8 Hz ∧ Hz l2 = some (.lst (natsV fs)) ∧ fs.length ≤ 10 ∧ (∀ m ∈ fs, m ≤ 3000) ∧ (R = .out → ∀ m ∈ fs, m ≤ most)) (fun N hN => ?_) ?_
      · cases R with
        | out =>
          refine ⟨_, rfl, _, _, _, _, rfl, rfl, hda7, at0, rfl, _, rfl, ?_⟩
          refine iteC (b := false) (by decide +kernel) ?_
          refine hN (.ref l1) H8 ⟨l1, [most, 0, 1 + x], rfl, Same.refl _, e1, by simp, fun m hm => ?_, fun _ m hm => ?_⟩
          · simp at hm
            omega
          · simp at hm
            omega
        | given v n =>
          have hn := run_given hR
          have sub1 : ((n : Int) - 1) = ((n - 1 : Nat) : Int) := by omega
          refine ⟨_, rfl, _, _, _, _, rfl, rfl, hda7, at0, rfl, _, rfl, ?_⟩
          refine iteC (b := true) (by decide +kernel) ?_
          refine ⟨_, rfl, _, rfl, _, _, _, _, rfl, rfl, hda7, atI_nat (j := 2) rfl, _, rfl, _, _, _, _, rfl, rfl, hda7, atI_nat (j := 2) rfl, _, _, rfl, rfl, _, rfl, _, _, _, _, rfl, rfl, hda7, atI_nat (j := 2) rfl, _, _, rfl, rfl, (by show 3 ≤ sizeLine; decide), fun l2 hl2 => ?_⟩
          have z8 := same_new (o := .lst [V.int (n : Int), V.int ((n : Int) - 1), V.int ((n : Int) + 1)]) hl2
          refine ⟨_, _, _, _, rfl, rfl, z8 _ _ e1, upd_same, (by show 6 ≤ sizeLine; decide), fun l3 hl3 => ?_⟩
          refine hN _ _ ⟨l3, [most, 0, 1 + x, n, n - 1, n + 1], rfl, z8.trans (same_new hl3), ?_, by simp, fun m hm => ?_, fun e => by cases e⟩
          · rw [upd_same]
            show some (HO.lst [V.int (most : Int), V.int ((0 : Nat) : Int), V.int ((1 + x : Nat) : Int), V.int (n : Int), V.int ((n : Int) - 1), V.int ((n : Int) + 1)]) = _
            rw [sub1]
            rfl
          · simp at hm
            omega
      rintro v Hz ⟨l2, fs, rfl, s8, e2, hfl, hf3, hfo⟩
      have dz := d57.same s8
      have hdaz := (Same.tk s8).sq hda7
      have hcz := hcy.tk dz.tk
      have htz := hty.tk dz.tk
      have hmz : MapAt Hz mp t := dz.get hmy hne.1 hne.2
      have hvpz := hvp8.same s8
      have hduez := hdue8.same s8
      have hflat : ∀ m, m ≤ 3000 → ∀ v ∈ resV (run c t m 0 st0), FlatV v := fun m hm => res_flat (by omega) fun v n e => ⟨run_has G m 0 st0 v n hwf e, by have := run_given e; omega⟩
      have hlen10 : ∀ R : Res, (resV R).length ≤ 10 := fun R => by cases R <;> simp [resV]
      refine ⟨_, rfl, l2, _, rfl, SqL.of e2, ?_⟩
      refine for_it walk_enum (fun k σ' Hk => ∃ (o12 o13 o14 o15 : Option V), σ' = [some (.ref a), some (.ref dk), some (.int ((0 : Int) + (i : Int))), some vc, some vt, some (.ref mp), some (.int ((0 : Int) + (j : Int))), some (.int (f : Int)), some vp, some (.int (most : Int)), some (.ref da), some (.ref l2), o12, o13, o14, o15] ∧ Same Hz Hk)
        ⟨_, _, _, _, rfl, Same.refl _⟩ (fun k σ' Hk _ ⟨_, _, _, _, _, sk⟩ => SqL.of (sk _ _ e2)) ?_ ?_
      · rintro k z σ' Hk Hk' hk ⟨o12, o13, o14, o15, rfl, sk⟩ ⟨T3, z1, z2, rfl, hT3, rfl, hz1, hz2⟩
        dsimp only at hz1 hz2
        cases hz1
        obtain ⟨m, hm, hmem, rfl⟩ := natsV_at hz2
        have hm3 := hf3 m hmem
        refine pair_go ?_
        have sk' := sk.trans (same_tup (xs := [V.int (k : Int), V.int (m : Int)]) hT3)
        have hdak := (Same.tk sk').sq hdaz
        have hduek := hduez.same sk'
        generalize (upd Hk T3 (.tup [V.int (k : Int), V.int (m : Int)])) = Hp at sk' hdak hduek
        dsimp only [tSeq]
        -- far
        refine set_cont (fun v Hq => Same Hz Hq ∧ Rp K Hq v (resDt (run c t m 0 st0))) (fun Q' hQ => ?_) ?_
        · have outs : run c t m 0 st0 = .out → ((1 : Nat) ≤ sizeLine ∧ ∀ p, Hp p = none → Q' (.ref p) (upd Hp p (.tup [V.str "out"]))) := fun e => by
            refine ⟨by decide, fun p hp => hQ _ _ ⟨sk'.trans (same_tup hp), ?_⟩⟩
            rw [e]
            exact .tup sqT_new (.cons (.str _) .nil)
          cases R with
          | out =>
            refine ⟨_, rfl, _, _, _, _, rfl, rfl, hdak, at0, rfl, _, rfl, ?_⟩
            refine iteC (b := false) (by decide +kernel) ?_
            exact outs (run_out m (hfo rfl m hmem) hR)
          | given v n =>
            have hrm := run_more m hR
            refine ⟨_, rfl, _, _, _, _, rfl, rfl, hdak, at0, rfl, _, rfl, ?_⟩
            refine iteC (b := true) (by decide +kernel) ?_
            refine ⟨_, rfl, _, _, _, _, rfl, rfl, hdak, atI_nat (j := 2) rfl, _, rfl, _, _, rfl, rfl, _, rfl, ?_⟩
            by_cases hnm : n ≤ m
            · refine iteC (b := true) (decide_eq_true (by omega)) ?_
              rw [if_pos (by omega)] at hrm
              exact ⟨_, rfl, hQ _ _ ⟨sk', by rw [hrm]; exact hduek⟩⟩
            · refine iteC (b := false) (decide_eq_false (by omega)) ?_
              rw [if_neg (by omega)] at hrm
              exact outs hrm
        rintro far Hq ⟨sq, hfar⟩
        -- told
        dsimp only [tSeq]
        refine if_seq5 (i := 15) (fun v Hr => Same Hz Hr ∧ Rp K Hr v (resDt (run c t m 0 st0)) ∧ Rp K Hr far (resDt (run c t m 0 st0))) (fun N hN => ?_) ?_
        · have call : ∀ Q' : VK, (∀ v Hr, (Same Hz Hr ∧ Rp K Hr v (resDt (run c t m 0 st0)) ∧ Rp K Hr far (resDt (run c t m 0 st0))) → Q' v Hr) → ∀ E, spRun K [vc, vt, .int (f : Int), vp, .int (m : Int)] Hq Q' E := fun Q' hQ E =>
            ⟨vc, vt, vp, c, AA, t, f, fn, ps, m, rfl, hcz.same sq, hok, htz.same sq, htg, by omega, hvpz.same sq, hfn, hpl, hps, by omega, fun r Hr sr hr' => hQ r Hr ⟨sq.trans sr, by rw [hst] at hr'; exact hr', hfar.same sr⟩⟩
          refine ⟨_, rfl, _, _, rfl, rfl, rfl, _, rfl, ?_⟩
          refine ite_any ?_ ?_
          · exact ⟨_, rfl, _, rfl, _, rfl, _, rfl, _, rfl, call _ (fun v Hr c => hN v Hr c) (fun _ _ _ => False)⟩
          · exact ⟨_, rfl, _, rfl, _, rfl, _, rfl, _, rfl, call _ (fun v Hr c => hN v Hr c) (fun _ _ _ => False)⟩
        rintro told Hr ⟨sr, htold, hfar2⟩
        obtain ⟨ta, rfl, hta⟩ := res_rp htold
        obtain ⟨fa, rfl, hfa⟩ := res_rp hfar2
        refine ⟨_, rfl, ta, _, rfl, hta, hflat m hm3, hlen10 _, _, rfl, fa, _, rfl, hfa, hflat m hm3, hlen10 _, rfl, _, rfl, ?_⟩
        refine iteC (b := false) (by simp) ?_
        exact ⟨_, _, _, _, rfl, sr⟩
      · rintro σ' Hk ⟨o12, o13, o14, o15, rfl, sk⟩
        exact ⟨_, _, _, _, _, _, _, _, _, _, rfl, (dz.same sk).d, hcz.same sk, htz.same sk, sk _ _ hmz⟩
    · rintro σ Hy ⟨o6, o7, o8, o9, o10, o11, o12, o13, o14, o15, rfl, hdy, _⟩
      exact ⟨_, _, _, _, _, _, _, _, _, _, _, _, _, _, rfl, hdy⟩
  · rintro σ Hx ⟨o2, o3, o4, o5, o6, o7, o8, o9, o10, o11, o12, o13, o14, o15, rfl, hdx⟩
    exact rfl
end
end Eo
set_option linter.all false
set_option maxRecDepth 100000
set_option maxHeartbeats 8000000
/-! E28: what the top leaves. -/
namespace Eo
open PySem L2
theorem tupK {K : PySem.W.Frag} {a : Addr} {dd : Option Addr} {its : Array Value} {n : Nat} {sl : Array (Option Value)} {xs : List V} (l : K.lookup a = some ⟨.type "tuple", dd, .seq its n, sl⟩) (hz : its.size ≤ sizeLine) (r : Vals xs its.toList) : ∀ H, SqT K H a xs :=
  fun H => .inr ⟨_, its, n, l, rfl, rfl, hz, r⟩
theorem fin_mk {P : Program} {w : World} {K : PySem.W.Frag} {mg : Str → Option Value} {Z : Wh} {kV doc pm cdv ct : Value} {an : Option Addr} (T : Tx w K mg Z) (F : Fun K "law" "law" s_law (Z.A 56) (PySem.W.fnOf "law" "law" (defArgs s_law) (defBody s_law) (defScope s_law) .none kV doc pm an cdv ct)) :
    ∃ fd : FuncData, (∀ (s : Shared) (v : Value), BindsTo s fd ⟨[v], []⟩ [("_law_script", v)]) ∧ Fun K "law" "law" s_law (Z.A 56) fd ∧
      ∀ (base : Heap) (H : Hp) (cdv : Value) (s : Shared) (a : Addr) (ns : List Int), K.In base → base.Ns mainGlobals mg → ns.length ≤ 63 → SqL K H a (ns.map V.int) →
        ∃ t, PSs (cxOf CX0 P w K mg base N_law "law" (defScope s_law) (Z.A 56) cdv callerA [] s H (fun _ _ _ => False)).nox (defBody s_law) t ∧ t { nx := fun _ G => V.non = .bl true, rt := fun v _ => v = .bl true } (L2.start N_law [.ref a]) H := by
  have hr : Room 42 callerA := ⟨rfl, by decide, by decide⟩
  exact ⟨_, fun s v => .of_eq rfl, F, fun base H cdv s a ns _ _ hl hs => law_body T a ns H s cdv hl hs (hr.deeper _)⟩
def zA (f0 f1 f2 f3 f4 f5 f6 f7 f8 f9 f10 f11 f12 f13 f14 f15 f16 f17 f18 f19 f20 f21 f22 f23 f24 f25 f26 f27 f28 f29 f30 f31 f32 f33 f34 f35 f36 f37 f38 f39 f40 f41 f42 f43 f44 f45 f46 f47 f48 f49 f50 f51 f52 f53 f54 f55 f56 C q91 q92 q93 q94 q95 : Addr) : Nat → Addr
  | 0 => f0
  | 1 => f1
  | 2 => f2
  | 3 => f3
  | 4 => f4
  | 5 => f5
  | 6 => f6
  | 7 => f7
  | 8 => f8
  | 9 => f9
  | 10 => f10
  | 11 => f11
  | 12 => f12
  | 13 => f13
  | 14 => f14
  | 15 => f15
  | 16 => f16
  | 17 => f17
  | 18 => f18
  | 19 => f19
  | 20 => f20
  | 21 => f21
  | 22 => f22
  | 23 => f23
  | 24 => f24
  | 25 => f25
  | 26 => f26
  | 27 => f27
  | 28 => f28
  | 29 => f29
  | 30 => f30
  | 31 => f31
  | 32 => f32
  | 33 => f33
  | 34 => f34
  | 35 => f35
  | 36 => f36
  | 37 => f37
  | 38 => f38
  | 39 => f39
  | 40 => f40
  | 41 => f41
  | 42 => f42
  | 43 => f43
  | 44 => f44
  | 45 => f45
  | 46 => f46
  | 47 => f47
  | 48 => f48
  | 49 => f49
  | 50 => f50
  | 51 => f51
  | 52 => f52
  | 53 => f53
  | 54 => f54
  | 55 => f55
  | 56 => f56
  | 90 => C | 91 => q91 | 92 => q92 | 93 => q93 | 94 => q94 | 95 => q95 | _ => 0
def zD (d0 d1 d2 d3 d4 d5 d6 d7 d8 d9 d10 d11 d12 d13 d14 d15 d16 d17 d18 d19 d20 d21 d22 d23 d24 d25 d26 d27 d28 d29 d30 d31 d32 d33 d34 d35 d36 d37 d38 d39 d40 d41 d42 d43 d44 d45 d46 d47 d48 d49 d50 d51 d52 d53 d54 d55 d56 : FuncData) : Nat → FuncData
  | 0 => d0
  | 1 => d1
  | 2 => d2
  | 3 => d3
  | 4 => d4
  | 5 => d5
  | 6 => d6
  | 7 => d7
  | 8 => d8
  | 9 => d9
  | 10 => d10
  | 11 => d11
  | 12 => d12
  | 13 => d13
  | 14 => d14
  | 15 => d15
  | 16 => d16
  | 17 => d17
  | 18 => d18
  | 19 => d19
  | 20 => d20
  | 21 => d21
  | 22 => d22
  | 23 => d23
  | 24 => d24
  | 25 => d25
  | 26 => d26
  | 27 => d27
  | 28 => d28
  | 29 => d29
  | 30 => d30
  | 31 => d31
  | 32 => d32
  | 33 => d33
  | 34 => d34
  | 35 => d35
  | 36 => d36
  | 37 => d37
  | 38 => d38
  | 39 => d39
  | 40 => d40
  | 41 => d41
  | 42 => d42
  | 43 => d43
  | 44 => d44
  | 45 => d45
  | 46 => d46
  | 47 => d47
  | 48 => d48
  | 49 => d49
  | 50 => d50
  | 51 => d51
  | 52 => d52
  | 53 => d53
  | 54 => d54
  | 55 => d55
  | 56 => d56
  | _ => d0
def zU (a b c d e f g : Value) : Nat → Value
  | 0 => a | 1 => b | 2 => c | 3 => d | 4 => e | 5 => f | _ => g
theorem all_mk {P : Program} {w : World} {K : PySem.W.Frag} {h : Heap} {mg : Str → Option Value} {fa C f0 f1 f2 f3 f4 f5 f6 f7 f8 f9 f10 f11 f12 f13 f14 f15 f16 f17 f18 f19 f20 f21 f22 f23 f24 f25 f26 f27 f28 f29 f30 f31 f32 f33 f34 f35 f36 f37 f38 f39 f40 f41 f42 f43 f44 f45 f46 f47 f48 f49 f50 f51 f52 f53 f54 f55 f56 q91 q92 q93 q94 q95 w0 w1 w2 w3 w4 w5 w6 w7 w8 w9 w10 w11 w12 w13 w14 : Addr} {od0 an0 od1 an1 od2 an2 od3 an3 od4 an4 od5 an5 od6 an6 od7 an7 od8 an8 od9 an9 od10 an10 od11 an11 od12 an12 od13 an13 od14 an14 od15 an15 od16 an16 od17 an17 od18 an18 od19 an19 od20 an20 od21 an21 od22 an22 od23 an23 od24 an24 od25 an25 od26 an26 od27 an27 od28 an28 od29 an29 od30 an30 od31 an31 od32 an32 od33 an33 od34 an34 od35 an35 od36 an36 od37 an37 od38 an38 od39 an39 od40 an40 od41 an41 od42 an42 od43 an43 od44 an44 od45 an45 od46 an46 od47 an47 od48 an48 od49 an49 od50 an50 od51 an51 od52 an52 od53 an53 od54 an54 od55 an55 od56 an56 dd91 dd92 dd93 dd94 dw0 dw1 dw2 dw3 dw4 dw5 dw6 dw7 dw8 dw9 dw10 dw11 dw12 dw13 dw14 : Option Addr} {sl0 sl1 sl2 sl3 sl4 sl5 sl6 sl7 sl8 sl9 sl10 sl11 sl12 sl13 sl14 sl15 sl16 sl17 sl18 sl19 sl20 sl21 sl22 sl23 sl24 sl25 sl26 sl27 sl28 sl29 sl30 sl31 sl32 sl33 sl34 sl35 sl36 sl37 sl38 sl39 sl40 sl41 sl42 sl43 sl44 sl45 sl46 sl47 sl48 sl49 sl50 sl51 sl52 sl53 sl54 sl55 sl56 sq91 sq92 sq93 sq94 sw0 sw1 sw2 sw3 sw4 sw5 sw6 sw7 sw8 sw9 sw10 sw11 sw12 sw13 sw14 : Array (Option Value)} {oc0 kV0 dc0 pm0 cd0 ct0 oc1 kV1 dc1 pm1 cd1 ct1 oc2 kV2 dc2 pm2 cd2 ct2 oc3 kV3 dc3 pm3 cd3 ct3 oc4 kV4 dc4 pm4 cd4 ct4 oc5 kV5 dc5 pm5 cd5 ct5 oc6 kV6 dc6 pm6 cd6 ct6 oc7 kV7 dc7 pm7 cd7 ct7 oc8 kV8 dc8 pm8 cd8 ct8 oc9 kV9 dc9 pm9 cd9 ct9 oc10 kV10 dc10 pm10 cd10 ct10 oc11 kV11 dc11 pm11 cd11 ct11 oc12 kV12 dc12 pm12 cd12 ct12 oc13 kV13 dc13 pm13 cd13 ct13 oc14 kV14 dc14 pm14 cd14 ct14 oc15 kV15 dc15 pm15 cd15 ct15 oc16 kV16 dc16 pm16 cd16 ct16 oc17 kV17 dc17 pm17 cd17 ct17 oc18 kV18 dc18 pm18 cd18 ct18 oc19 kV19 dc19 pm19 cd19 ct19 oc20 kV20 dc20 pm20 cd20 ct20 oc21 kV21 dc21 pm21 cd21 ct21 oc22 kV22 dc22 pm22 cd22 ct22 oc23 kV23 dc23 pm23 cd23 ct23 oc24 kV24 dc24 pm24 cd24 ct24 oc25 kV25 dc25 pm25 cd25 ct25 oc26 kV26 dc26 pm26 cd26 ct26 oc27 kV27 dc27 pm27 cd27 ct27 oc28 kV28 dc28 pm28 cd28 ct28 oc29 kV29 dc29 pm29 cd29 ct29 oc30 kV30 dc30 pm30 cd30 ct30 oc31 kV31 dc31 pm31 cd31 ct31 oc32 kV32 dc32 pm32 cd32 ct32 oc33 kV33 dc33 pm33 cd33 ct33 oc34 kV34 dc34 pm34 cd34 ct34 oc35 kV35 dc35 pm35 cd35 ct35 oc36 kV36 dc36 pm36 cd36 ct36 oc37 kV37 dc37 pm37 cd37 ct37 oc38 kV38 dc38 pm38 cd38 ct38 oc39 kV39 dc39 pm39 cd39 ct39 oc40 kV40 dc40 pm40 cd40 ct40 oc41 kV41 dc41 pm41 cd41 ct41 oc42 kV42 dc42 pm42 cd42 ct42 oc43 kV43 dc43 pm43 cd43 ct43 oc44 kV44 dc44 pm44 cd44 ct44 oc45 kV45 dc45 pm45 cd45 ct45 oc46 kV46 dc46 pm46 cd46 ct46 oc47 kV47 dc47 pm47 cd47 ct47 oc48 kV48 dc48 pm48 cd48 ct48 oc49 kV49 dc49 pm49 cd49 ct49 oc50 kV50 dc50 pm50 cd50 ct50 oc51 kV51 dc51 pm51 cd51 ct51 oc52 kV52 dc52 pm52 cd52 ct52 oc53 kV53 dc53 pm53 cd53 ct53 oc54 kV54 dc54 pm54 cd54 ct54 oc55 kV55 dc55 pm55 cd55 ct55 oc56 kV56 dc56 pm56 cd56 ct56 : Value} {tk0 tk1 t91_0 t91_1 t92_0 t92_1 t92_2 t92_3 t93_0 t93_1 t94_0 t94_1 t94_2 tw0_0 tw1_0 tw1_1 tw2_0 tw2_1 tw3_0 tw3_1 tw4_0 tw4_1 tw5_0 tw6_0 tw7_0 tw7_1 tw7_2 tw8_0 tw8_1 tw9_0 tw9_1 tw9_2 tw10_0 tw10_1 tw11_0 tw12_0 tw12_1 tw13_0 tw13_1 tw13_2 tw14_0 : Tok} {nn91 nn92 nn93 nn94 nw0 nw1 nw2 nw3 nw4 nw5 nw6 nw7 nw8 nw9 nw10 nw11 nw12 nw13 nw14 nn : Nat} {es : Array DictEntry} (X : K.In h) (G : h.Ns mainGlobals mg) (hfa : mg "law" = some (.ref fa))
    (aC : PySem.W.nsIn K mainGlobals "Frame" = some (some (.ref C)))
    (a0 : PySem.W.nsIn K mainGlobals "is_integer" = some (some (.ref f0)))
    (l0 : K.lookup f0 = some ⟨oc0, od0, .func (PySem.W.fnOf "is_integer" "is_integer" (defArgs s_is_integer) (defBody s_is_integer) (defScope s_is_integer) .none kV0 dc0 pm0 an0 cd0 ct0), sl0⟩)
    (c0 : PySem.W.codeIn K cd0 "is_integer" = true)
    (k0 : PySem.W.keepIn K (.ref f0) = true)
    (a1 : PySem.W.nsIn K mainGlobals "is_from" = some (some (.ref f1)))
    (l1 : K.lookup f1 = some ⟨oc1, od1, .func (PySem.W.fnOf "is_from" "is_from" (defArgs s_is_from) (defBody s_is_from) (defScope s_is_from) .none kV1 dc1 pm1 an1 cd1 ct1), sl1⟩)
    (c1 : PySem.W.codeIn K cd1 "is_from" = true)
    (k1 : PySem.W.keepIn K (.ref f1) = true)
    (a2 : PySem.W.nsIn K mainGlobals "is_tuple" = some (some (.ref f2)))
    (l2 : K.lookup f2 = some ⟨oc2, od2, .func (PySem.W.fnOf "is_tuple" "is_tuple" (defArgs s_is_tuple) (defBody s_is_tuple) (defScope s_is_tuple) .none kV2 dc2 pm2 an2 cd2 ct2), sl2⟩)
    (c2 : PySem.W.codeIn K cd2 "is_tuple" = true)
    (k2 : PySem.W.keepIn K (.ref f2) = true)
    (a3 : PySem.W.nsIn K mainGlobals "is_tag_value" = some (some (.ref f3)))
    (l3 : K.lookup f3 = some ⟨oc3, od3, .func (PySem.W.fnOf "is_tag_value" "is_tag_value" (defArgs s_is_tag_value) (defBody s_is_tag_value) (defScope s_is_tag_value) .none kV3 dc3 pm3 an3 cd3 ct3), sl3⟩)
    (c3 : PySem.W.codeIn K cd3 "is_tag_value" = true)
    (k3 : PySem.W.keepIn K (.ref f3) = true)
    (a4 : PySem.W.nsIn K mainGlobals "is_tree_value" = some (some (.ref f4)))
    (l4 : K.lookup f4 = some ⟨oc4, od4, .func (PySem.W.fnOf "is_tree_value" "is_tree_value" (defArgs s_is_tree_value) (defBody s_is_tree_value) (defScope s_is_tree_value) .none kV4 dc4 pm4 an4 cd4 ct4), sl4⟩)
    (c4 : PySem.W.codeIn K cd4 "is_tree_value" = true)
    (k4 : PySem.W.keepIn K (.ref f4) = true)
    (a5 : PySem.W.nsIn K mainGlobals "need_tree" = some (some (.ref f5)))
    (l5 : K.lookup f5 = some ⟨oc5, od5, .func (PySem.W.fnOf "need_tree" "need_tree" (defArgs s_need_tree) (defBody s_need_tree) (defScope s_need_tree) .none kV5 dc5 pm5 an5 cd5 ct5), sl5⟩)
    (c5 : PySem.W.codeIn K cd5 "need_tree" = true)
    (k5 : PySem.W.keepIn K (.ref f5) = true)
    (a6 : PySem.W.nsIn K mainGlobals "is_place_of" = some (some (.ref f6)))
    (l6 : K.lookup f6 = some ⟨oc6, od6, .func (PySem.W.fnOf "is_place_of" "is_place_of" (defArgs s_is_place_of) (defBody s_is_place_of) (defScope s_is_place_of) .none kV6 dc6 pm6 an6 cd6 ct6), sl6⟩)
    (c6 : PySem.W.codeIn K cd6 "is_place_of" = true)
    (k6 : PySem.W.keepIn K (.ref f6) = true)
    (a7 : PySem.W.nsIn K mainGlobals "are_cells" = some (some (.ref f7)))
    (l7 : K.lookup f7 = some ⟨oc7, od7, .func (PySem.W.fnOf "are_cells" "are_cells" (defArgs s_are_cells) (defBody s_are_cells) (defScope s_are_cells) .none kV7 dc7 pm7 an7 cd7 ct7), sl7⟩)
    (c7 : PySem.W.codeIn K cd7 "are_cells" = true)
    (k7 : PySem.W.keepIn K (.ref f7) = true)
    (a8 : PySem.W.nsIn K mainGlobals "is_part_of" = some (some (.ref f8)))
    (l8 : K.lookup f8 = some ⟨oc8, od8, .func (PySem.W.fnOf "is_part_of" "is_part_of" (defArgs s_is_part_of) (defBody s_is_part_of) (defScope s_is_part_of) .none kV8 dc8 pm8 an8 cd8 ct8), sl8⟩)
    (c8 : PySem.W.codeIn K cd8 "is_part_of" = true)
    (k8 : PySem.W.keepIn K (.ref f8) = true)
    (a9 : PySem.W.nsIn K mainGlobals "is_row_value" = some (some (.ref f9)))
    (l9 : K.lookup f9 = some ⟨oc9, od9, .func (PySem.W.fnOf "is_row_value" "is_row_value" (defArgs s_is_row_value) (defBody s_is_row_value) (defScope s_is_row_value) .none kV9 dc9 pm9 an9 cd9 ct9), sl9⟩)
    (c9 : PySem.W.codeIn K cd9 "is_row_value" = true)
    (k9 : PySem.W.keepIn K (.ref f9) = true)
    (a10 : PySem.W.nsIn K mainGlobals "is_code_function" = some (some (.ref f10)))
    (l10 : K.lookup f10 = some ⟨oc10, od10, .func (PySem.W.fnOf "is_code_function" "is_code_function" (defArgs s_is_code_function) (defBody s_is_code_function) (defScope s_is_code_function) .none kV10 dc10 pm10 an10 cd10 ct10), sl10⟩)
    (c10 : PySem.W.codeIn K cd10 "is_code_function" = true)
    (k10 : PySem.W.keepIn K (.ref f10) = true)
    (a11 : PySem.W.nsIn K mainGlobals "is_code_value" = some (some (.ref f11)))
    (l11 : K.lookup f11 = some ⟨oc11, od11, .func (PySem.W.fnOf "is_code_value" "is_code_value" (defArgs s_is_code_value) (defBody s_is_code_value) (defScope s_is_code_value) .none kV11 dc11 pm11 an11 cd11 ct11), sl11⟩)
    (c11 : PySem.W.codeIn K cd11 "is_code_value" = true)
    (k11 : PySem.W.keepIn K (.ref f11) = true)
    (a12 : PySem.W.nsIn K mainGlobals "cells_read" = some (some (.ref f12)))
    (l12 : K.lookup f12 = some ⟨oc12, od12, .func (PySem.W.fnOf "cells_read" "cells_read" (defArgs s_cells_read) (defBody s_cells_read) (defScope s_cells_read) .none kV12 dc12 pm12 an12 cd12 ct12), sl12⟩)
    (c12 : PySem.W.codeIn K cd12 "cells_read" = true)
    (k12 : PySem.W.keepIn K (.ref f12) = true)
    (a13 : PySem.W.nsIn K mainGlobals "cell_set" = some (some (.ref f13)))
    (l13 : K.lookup f13 = some ⟨oc13, od13, .func (PySem.W.fnOf "cell_set" "cell_set" (defArgs s_cell_set) (defBody s_cell_set) (defScope s_cell_set) .none kV13 dc13 pm13 an13 cd13 ct13), sl13⟩)
    (c13 : PySem.W.codeIn K cd13 "cell_set" = true)
    (k13 : PySem.W.keepIn K (.ref f13) = true)
    (a14 : PySem.W.nsIn K mainGlobals "rows_after" = some (some (.ref f14)))
    (l14 : K.lookup f14 = some ⟨oc14, od14, .func (PySem.W.fnOf "rows_after" "rows_after" (defArgs s_rows_after) (defBody s_rows_after) (defScope s_rows_after) .none kV14 dc14 pm14 an14 cd14 ct14), sl14⟩)
    (c14 : PySem.W.codeIn K cd14 "rows_after" = true)
    (k14 : PySem.W.keepIn K (.ref f14) = true)
    (a15 : PySem.W.nsIn K mainGlobals "kind_set" = some (some (.ref f15)))
    (l15 : K.lookup f15 = some ⟨oc15, od15, .func (PySem.W.fnOf "kind_set" "kind_set" (defArgs s_kind_set) (defBody s_kind_set) (defScope s_kind_set) .none kV15 dc15 pm15 an15 cd15 ct15), sl15⟩)
    (c15 : PySem.W.codeIn K cd15 "kind_set" = true)
    (k15 : PySem.W.keepIn K (.ref f15) = true)
    (a16 : PySem.W.nsIn K mainGlobals "kinds_after" = some (some (.ref f16)))
    (l16 : K.lookup f16 = some ⟨oc16, od16, .func (PySem.W.fnOf "kinds_after" "kinds_after" (defArgs s_kinds_after) (defBody s_kinds_after) (defScope s_kinds_after) .none kV16 dc16 pm16 an16 cd16 ct16), sl16⟩)
    (c16 : PySem.W.codeIn K cd16 "kinds_after" = true)
    (k16 : PySem.W.keepIn K (.ref f16) = true)
    (a17 : PySem.W.nsIn K mainGlobals "has_bad_number" = some (some (.ref f17)))
    (l17 : K.lookup f17 = some ⟨oc17, od17, .func (PySem.W.fnOf "has_bad_number" "has_bad_number" (defArgs s_has_bad_number) (defBody s_has_bad_number) (defScope s_has_bad_number) .none kV17 dc17 pm17 an17 cd17 ct17), sl17⟩)
    (c17 : PySem.W.codeIn K cd17 "has_bad_number" = true)
    (k17 : PySem.W.keepIn K (.ref f17) = true)
    (a18 : PySem.W.nsIn K mainGlobals "wanted_kind" = some (some (.ref f18)))
    (l18 : K.lookup f18 = some ⟨oc18, od18, .func (PySem.W.fnOf "wanted_kind" "wanted_kind" (defArgs s_wanted_kind) (defBody s_wanted_kind) (defScope s_wanted_kind) .none kV18 dc18 pm18 an18 cd18 ct18), sl18⟩)
    (c18 : PySem.W.codeIn K cd18 "wanted_kind" = true)
    (k18 : PySem.W.keepIn K (.ref f18) = true)
    (a19 : PySem.W.nsIn K mainGlobals "fault_of" = some (some (.ref f19)))
    (l19 : K.lookup f19 = some ⟨oc19, od19, .func (PySem.W.fnOf "fault_of" "fault_of" (defArgs s_fault_of) (defBody s_fault_of) (defScope s_fault_of) .none kV19 dc19 pm19 an19 cd19 ct19), sl19⟩)
    (c19 : PySem.W.codeIn K cd19 "fault_of" = true)
    (k19 : PySem.W.keepIn K (.ref f19) = true)
    (a20 : PySem.W.nsIn K mainGlobals "joined_kinds" = some (some (.ref f20)))
    (l20 : K.lookup f20 = some ⟨oc20, od20, .func (PySem.W.fnOf "joined_kinds" "joined_kinds" (defArgs s_joined_kinds) (defBody s_joined_kinds) (defScope s_joined_kinds) .none kV20 dc20 pm20 an20 cd20 ct20), sl20⟩)
    (c20 : PySem.W.codeIn K cd20 "joined_kinds" = true)
    (k20 : PySem.W.keepIn K (.ref f20) = true)
    (a21 : PySem.W.nsIn K mainGlobals "function_told" = some (some (.ref f21)))
    (l21 : K.lookup f21 = some ⟨oc21, od21, .func (PySem.W.fnOf "function_told" "function_told" (defArgs s_function_told) (defBody s_function_told) (defScope s_function_told) .none kV21 dc21 pm21 an21 cd21 ct21), sl21⟩)
    (c21 : PySem.W.codeIn K cd21 "function_told" = true)
    (k21 : PySem.W.keepIn K (.ref f21) = true)
    (a22 : PySem.W.nsIn K mainGlobals "judged" = some (some (.ref f22)))
    (l22 : K.lookup f22 = some ⟨oc22, od22, .func (PySem.W.fnOf "judged" "judged" (defArgs s_judged) (defBody s_judged) (defScope s_judged) .none kV22 dc22 pm22 an22 cd22 ct22), sl22⟩)
    (c22 : PySem.W.codeIn K cd22 "judged" = true)
    (k22 : PySem.W.keepIn K (.ref f22) = true)
    (a23 : PySem.W.nsIn K mainGlobals "is_accepted_value" = some (some (.ref f23)))
    (l23 : K.lookup f23 = some ⟨oc23, od23, .func (PySem.W.fnOf "is_accepted_value" "is_accepted_value" (defArgs s_is_accepted_value) (defBody s_is_accepted_value) (defScope s_is_accepted_value) .none kV23 dc23 pm23 an23 cd23 ct23), sl23⟩)
    (c23 : PySem.W.codeIn K cd23 "is_accepted_value" = true)
    (k23 : PySem.W.keepIn K (.ref f23) = true)
    (a24 : PySem.W.nsIn K mainGlobals "need_code" = some (some (.ref f24)))
    (l24 : K.lookup f24 = some ⟨oc24, od24, .func (PySem.W.fnOf "need_code" "need_code" (defArgs s_need_code) (defBody s_need_code) (defScope s_need_code) .none kV24 dc24 pm24 an24 cd24 ct24), sl24⟩)
    (c24 : PySem.W.codeIn K cd24 "need_code" = true)
    (k24 : PySem.W.keepIn K (.ref f24) = true)
    (a25 : PySem.W.nsIn K mainGlobals "subtree" = some (some (.ref f25)))
    (l25 : K.lookup f25 = some ⟨oc25, od25, .func (PySem.W.fnOf "subtree" "subtree" (defArgs s_subtree) (defBody s_subtree) (defScope s_subtree) .none kV25 dc25 pm25 an25 cd25 ct25), sl25⟩)
    (c25 : PySem.W.codeIn K cd25 "subtree" = true)
    (k25 : PySem.W.keepIn K (.ref f25) = true)
    (a26 : PySem.W.nsIn K mainGlobals "way_led" = some (some (.ref f26)))
    (l26 : K.lookup f26 = some ⟨oc26, od26, .func (PySem.W.fnOf "way_led" "way_led" (defArgs s_way_led) (defBody s_way_led) (defScope s_way_led) .none kV26 dc26 pm26 an26 cd26 ct26), sl26⟩)
    (c26 : PySem.W.codeIn K cd26 "way_led" = true)
    (k26 : PySem.W.keepIn K (.ref f26) = true)
    (a27 : PySem.W.nsIn K mainGlobals "row_value" = some (some (.ref f27)))
    (l27 : K.lookup f27 = some ⟨oc27, od27, .func (PySem.W.fnOf "row_value" "row_value" (defArgs s_row_value) (defBody s_row_value) (defScope s_row_value) .none kV27 dc27 pm27 an27 cd27 ct27), sl27⟩)
    (c27 : PySem.W.codeIn K cd27 "row_value" = true)
    (k27 : PySem.W.keepIn K (.ref f27) = true)
    (a28 : PySem.W.nsIn K mainGlobals "next_row" = some (some (.ref f28)))
    (l28 : K.lookup f28 = some ⟨oc28, od28, .func (PySem.W.fnOf "next_row" "next_row" (defArgs s_next_row) (defBody s_next_row) (defScope s_next_row) .none kV28 dc28 pm28 an28 cd28 ct28), sl28⟩)
    (c28 : PySem.W.codeIn K cd28 "next_row" = true)
    (k28 : PySem.W.keepIn K (.ref f28) = true)
    (a29 : PySem.W.nsIn K mainGlobals "called" = some (some (.ref f29)))
    (l29 : K.lookup f29 = some ⟨oc29, od29, .func (PySem.W.fnOf "called" "called" (defArgs s_called) (defBody s_called) (defScope s_called) .none kV29 dc29 pm29 an29 cd29 ct29), sl29⟩)
    (c29 : PySem.W.codeIn K cd29 "called" = true)
    (k29 : PySem.W.keepIn K (.ref f29) = true)
    (a30 : PySem.W.nsIn K mainGlobals "cells_for" = some (some (.ref f30)))
    (l30 : K.lookup f30 = some ⟨oc30, od30, .func (PySem.W.fnOf "cells_for" "cells_for" (defArgs s_cells_for) (defBody s_cells_for) (defScope s_cells_for) .none kV30 dc30 pm30 an30 cd30 ct30), sl30⟩)
    (c30 : PySem.W.codeIn K cd30 "cells_for" = true)
    (k30 : PySem.W.keepIn K (.ref f30) = true)
    (a31 : PySem.W.nsIn K mainGlobals "are_places" = some (some (.ref f31)))
    (l31 : K.lookup f31 = some ⟨oc31, od31, .func (PySem.W.fnOf "are_places" "are_places" (defArgs s_are_places) (defBody s_are_places) (defScope s_are_places) .none kV31 dc31 pm31 an31 cd31 ct31), sl31⟩)
    (c31 : PySem.W.codeIn K cd31 "are_places" = true)
    (k31 : PySem.W.keepIn K (.ref f31) = true)
    (a32 : PySem.W.nsIn K mainGlobals "need_code_call" = some (some (.ref f32)))
    (l32 : K.lookup f32 = some ⟨oc32, od32, .func (PySem.W.fnOf "need_code_call" "need_code_call" (defArgs s_need_code_call) (defBody s_need_code_call) (defScope s_need_code_call) .none kV32 dc32 pm32 an32 cd32 ct32), sl32⟩)
    (c32 : PySem.W.codeIn K cd32 "need_code_call" = true)
    (k32 : PySem.W.keepIn K (.ref f32) = true)
    (a33 : PySem.W.findIn K (.ref C) "__init__" = some (some (.ref f33)))
    (l33 : K.lookup f33 = some ⟨oc33, od33, .func (PySem.W.fnOf "__init__" "Frame.__init__" (defArgs s_Frame_init) (defBody s_Frame_init) (defScope s_Frame_init) .none kV33 dc33 pm33 an33 cd33 ct33), sl33⟩)
    (c33 : PySem.W.codeIn K cd33 "Frame.__init__" = true)
    (k33 : PySem.W.keepIn K (.ref f33) = true)
    (a34 : PySem.W.nsIn K mainGlobals "run_plain" = some (some (.ref f34)))
    (l34 : K.lookup f34 = some ⟨oc34, od34, .func (PySem.W.fnOf "run_plain" "run_plain" (defArgs s_run_plain) (defBody s_run_plain) (defScope s_run_plain) .none kV34 dc34 pm34 an34 cd34 ct34), sl34⟩)
    (c34 : PySem.W.codeIn K cd34 "run_plain" = true)
    (k34 : PySem.W.keepIn K (.ref f34) = true)
    (a35 : PySem.W.nsIn K mainGlobals "_law_deck" = some (some (.ref f35)))
    (l35 : K.lookup f35 = some ⟨oc35, od35, .func (PySem.W.fnOf "_law_deck" "_law_deck" (defArgs s_law_deck) (defBody s_law_deck) (defScope s_law_deck) .none kV35 dc35 pm35 an35 cd35 ct35), sl35⟩)
    (c35 : PySem.W.codeIn K cd35 "_law_deck" = true)
    (k35 : PySem.W.keepIn K (.ref f35) = true)
    (a36 : PySem.W.nsIn K mainGlobals "_law_draw" = some (some (.ref f36)))
    (l36 : K.lookup f36 = some ⟨oc36, od36, .func (PySem.W.fnOf "_law_draw" "_law_draw" (defArgs s_law_draw) (defBody s_law_draw) (defScope s_law_draw) .none kV36 dc36 pm36 an36 cd36 ct36), sl36⟩)
    (c36 : PySem.W.codeIn K cd36 "_law_draw" = true)
    (k36 : PySem.W.keepIn K (.ref f36) = true)
    (a37 : PySem.W.nsIn K mainGlobals "_law_pick" = some (some (.ref f37)))
    (l37 : K.lookup f37 = some ⟨oc37, od37, .func (PySem.W.fnOf "_law_pick" "_law_pick" (defArgs s_law_pick) (defBody s_law_pick) (defScope s_law_pick) .none kV37 dc37 pm37 an37 cd37 ct37), sl37⟩)
    (c37 : PySem.W.codeIn K cd37 "_law_pick" = true)
    (k37 : PySem.W.keepIn K (.ref f37) = true)
    (a38 : PySem.W.nsIn K mainGlobals "_law_shapes" = some (some (.ref f38)))
    (l38 : K.lookup f38 = some ⟨oc38, od38, .func (PySem.W.fnOf "_law_shapes" "_law_shapes" (defArgs s_law_shapes) (defBody s_law_shapes) (defScope s_law_shapes) .none kV38 dc38 pm38 an38 cd38 ct38), sl38⟩)
    (c38 : PySem.W.codeIn K cd38 "_law_shapes" = true)
    (k38 : PySem.W.keepIn K (.ref f38) = true)
    (a39 : PySem.W.nsIn K mainGlobals "_law_set" = some (some (.ref f39)))
    (l39 : K.lookup f39 = some ⟨oc39, od39, .func (PySem.W.fnOf "_law_set" "_law_set" (defArgs s_law_set) (defBody s_law_set) (defScope s_law_set) .none kV39 dc39 pm39 an39 cd39 ct39), sl39⟩)
    (c39 : PySem.W.codeIn K cd39 "_law_set" = true)
    (k39 : PySem.W.keepIn K (.ref f39) = true)
    (a40 : PySem.W.nsIn K mainGlobals "_law_ways" = some (some (.ref f40)))
    (l40 : K.lookup f40 = some ⟨oc40, od40, .func (PySem.W.fnOf "_law_ways" "_law_ways" (defArgs s_law_ways) (defBody s_law_ways) (defScope s_law_ways) .none kV40 dc40 pm40 an40 cd40 ct40), sl40⟩)
    (c40 : PySem.W.codeIn K cd40 "_law_ways" = true)
    (k40 : PySem.W.keepIn K (.ref f40) = true)
    (a41 : PySem.W.nsIn K mainGlobals "_law_kind_set" = some (some (.ref f41)))
    (l41 : K.lookup f41 = some ⟨oc41, od41, .func (PySem.W.fnOf "_law_kind_set" "_law_kind_set" (defArgs s_law_kind_set) (defBody s_law_kind_set) (defScope s_law_kind_set) .none kV41 dc41 pm41 an41 cd41 ct41), sl41⟩)
    (c41 : PySem.W.codeIn K cd41 "_law_kind_set" = true)
    (k41 : PySem.W.keepIn K (.ref f41) = true)
    (a42 : PySem.W.nsIn K mainGlobals "_law_joined" = some (some (.ref f42)))
    (l42 : K.lookup f42 = some ⟨oc42, od42, .func (PySem.W.fnOf "_law_joined" "_law_joined" (defArgs s_law_joined) (defBody s_law_joined) (defScope s_law_joined) .none kV42 dc42 pm42 an42 cd42 ct42), sl42⟩)
    (c42 : PySem.W.codeIn K cd42 "_law_joined" = true)
    (k42 : PySem.W.keepIn K (.ref f42) = true)
    (a43 : PySem.W.nsIn K mainGlobals "_law_spots" = some (some (.ref f43)))
    (l43 : K.lookup f43 = some ⟨oc43, od43, .func (PySem.W.fnOf "_law_spots" "_law_spots" (defArgs s_law_spots) (defBody s_law_spots) (defScope s_law_spots) .none kV43 dc43 pm43 an43 cd43 ct43), sl43⟩)
    (c43 : PySem.W.codeIn K cd43 "_law_spots" = true)
    (k43 : PySem.W.keepIn K (.ref f43) = true)
    (a44 : PySem.W.nsIn K mainGlobals "_law_map" = some (some (.ref f44)))
    (l44 : K.lookup f44 = some ⟨oc44, od44, .func (PySem.W.fnOf "_law_map" "_law_map" (defArgs s_law_map) (defBody s_law_map) (defScope s_law_map) .none kV44 dc44 pm44 an44 cd44 ct44), sl44⟩)
    (c44 : PySem.W.codeIn K cd44 "_law_map" = true)
    (k44 : PySem.W.keepIn K (.ref f44) = true)
    (a45 : PySem.W.nsIn K mainGlobals "_law_done" = some (some (.ref f45)))
    (l45 : K.lookup f45 = some ⟨oc45, od45, .func (PySem.W.fnOf "_law_done" "_law_done" (defArgs s_law_done) (defBody s_law_done) (defScope s_law_done) .none kV45 dc45 pm45 an45 cd45 ct45), sl45⟩)
    (c45 : PySem.W.codeIn K cd45 "_law_done" = true)
    (k45 : PySem.W.keepIn K (.ref f45) = true)
    (a46 : PySem.W.nsIn K mainGlobals "_law_plain" = some (some (.ref f46)))
    (l46 : K.lookup f46 = some ⟨oc46, od46, .func (PySem.W.fnOf "_law_plain" "_law_plain" (defArgs s_law_plain) (defBody s_law_plain) (defScope s_law_plain) .none kV46 dc46 pm46 an46 cd46 ct46), sl46⟩)
    (c46 : PySem.W.codeIn K cd46 "_law_plain" = true)
    (k46 : PySem.W.keepIn K (.ref f46) = true)
    (a47 : PySem.W.nsIn K mainGlobals "_law_tree" = some (some (.ref f47)))
    (l47 : K.lookup f47 = some ⟨oc47, od47, .func (PySem.W.fnOf "_law_tree" "_law_tree" (defArgs s_law_tree) (defBody s_law_tree) (defScope s_law_tree) .none kV47 dc47 pm47 an47 cd47 ct47), sl47⟩)
    (c47 : PySem.W.codeIn K cd47 "_law_tree" = true)
    (k47 : PySem.W.keepIn K (.ref f47) = true)
    (a48 : PySem.W.nsIn K mainGlobals "_law_some_tree" = some (some (.ref f48)))
    (l48 : K.lookup f48 = some ⟨oc48, od48, .func (PySem.W.fnOf "_law_some_tree" "_law_some_tree" (defArgs s_law_some_tree) (defBody s_law_some_tree) (defScope s_law_some_tree) .none kV48 dc48 pm48 an48 cd48 ct48), sl48⟩)
    (c48 : PySem.W.codeIn K cd48 "_law_some_tree" = true)
    (k48 : PySem.W.keepIn K (.ref f48) = true)
    (a49 : PySem.W.nsIn K mainGlobals "_law_tree_for" = some (some (.ref f49)))
    (l49 : K.lookup f49 = some ⟨oc49, od49, .func (PySem.W.fnOf "_law_tree_for" "_law_tree_for" (defArgs s_law_tree_for) (defBody s_law_tree_for) (defScope s_law_tree_for) .none kV49 dc49 pm49 an49 cd49 ct49), sl49⟩)
    (c49 : PySem.W.codeIn K cd49 "_law_tree_for" = true)
    (k49 : PySem.W.keepIn K (.ref f49) = true)
    (a50 : PySem.W.nsIn K mainGlobals "_law_heads" = some (some (.ref f50)))
    (l50 : K.lookup f50 = some ⟨oc50, od50, .func (PySem.W.fnOf "_law_heads" "_law_heads" (defArgs s_law_heads) (defBody s_law_heads) (defScope s_law_heads) .none kV50 dc50 pm50 an50 cd50 ct50), sl50⟩)
    (c50 : PySem.W.codeIn K cd50 "_law_heads" = true)
    (k50 : PySem.W.keepIn K (.ref f50) = true)
    (a51 : PySem.W.nsIn K mainGlobals "_law_drawn_row" = some (some (.ref f51)))
    (l51 : K.lookup f51 = some ⟨oc51, od51, .func (PySem.W.fnOf "_law_drawn_row" "_law_drawn_row" (defArgs s_law_drawn_row) (defBody s_law_drawn_row) (defScope s_law_drawn_row) .none kV51 dc51 pm51 an51 cd51 ct51), sl51⟩)
    (c51 : PySem.W.codeIn K cd51 "_law_drawn_row" = true)
    (k51 : PySem.W.keepIn K (.ref f51) = true)
    (a52 : PySem.W.nsIn K mainGlobals "_law_function" = some (some (.ref f52)))
    (l52 : K.lookup f52 = some ⟨oc52, od52, .func (PySem.W.fnOf "_law_function" "_law_function" (defArgs s_law_function) (defBody s_law_function) (defScope s_law_function) .none kV52 dc52 pm52 an52 cd52 ct52), sl52⟩)
    (c52 : PySem.W.codeIn K cd52 "_law_function" = true)
    (k52 : PySem.W.keepIn K (.ref f52) = true)
    (a53 : PySem.W.nsIn K mainGlobals "_law_walker" = some (some (.ref f53)))
    (l53 : K.lookup f53 = some ⟨oc53, od53, .func (PySem.W.fnOf "_law_walker" "_law_walker" (defArgs s_law_walker) (defBody s_law_walker) (defScope s_law_walker) .none kV53 dc53 pm53 an53 cd53 ct53), sl53⟩)
    (c53 : PySem.W.codeIn K cd53 "_law_walker" = true)
    (k53 : PySem.W.keepIn K (.ref f53) = true)
    (a54 : PySem.W.nsIn K mainGlobals "_law_code" = some (some (.ref f54)))
    (l54 : K.lookup f54 = some ⟨oc54, od54, .func (PySem.W.fnOf "_law_code" "_law_code" (defArgs s_law_code) (defBody s_law_code) (defScope s_law_code) .none kV54 dc54 pm54 an54 cd54 ct54), sl54⟩)
    (c54 : PySem.W.codeIn K cd54 "_law_code" = true)
    (k54 : PySem.W.keepIn K (.ref f54) = true)
    (a55 : PySem.W.nsIn K mainGlobals "_law_asked" = some (some (.ref f55)))
    (l55 : K.lookup f55 = some ⟨oc55, od55, .func (PySem.W.fnOf "_law_asked" "_law_asked" (defArgs s_law_asked) (defBody s_law_asked) (defScope s_law_asked) .none kV55 dc55 pm55 an55 cd55 ct55), sl55⟩)
    (c55 : PySem.W.codeIn K cd55 "_law_asked" = true)
    (k55 : PySem.W.keepIn K (.ref f55) = true)
    (a56 : PySem.W.nsIn K mainGlobals "law" = some (some (.ref f56)))
    (l56 : K.lookup f56 = some ⟨oc56, od56, .func (PySem.W.fnOf "law" "law" (defArgs s_law) (defBody s_law) (defScope s_law) .none kV56 dc56 pm56 an56 cd56 ct56), sl56⟩)
    (c56 : PySem.W.codeIn K cd56 "law" = true)
    (k56 : PySem.W.keepIn K (.ref f56) = true)
    (iF : PySem.W.isFn K (.ref f33) = true)
    (pg : PySem.W.plainGet K C Str.empty = true)
    (hdI : PySem.W.hasDictIn K C = true)
    (po : PySem.W.plainOver K C = true)
    (sa : PySem.W.findIn K (.ref C) "__setattr__" = some (some (.builtin "object.__setattr__")))
    (mk : PySem.W.makesIn K C = true)
    (kc : PySem.W.keepIn K (.ref C) = true)
    (n_rows : PySem.W.findIn K (.ref C) "rows" = some none)
    (n_cells : PySem.W.findIn K (.ref C) "cells" = some none)
    (n_at : PySem.W.findIn K (.ref C) "at" = some none)
    (n_target : PySem.W.findIn K (.ref C) "target" = some none)
    (z_isinstance : PySem.W.nsIn K mainGlobals "isinstance" = some none)
    (z_len : PySem.W.nsIn K mainGlobals "len" = some none)
    (z_all : PySem.W.nsIn K mainGlobals "all" = some none)
    (z_any : PySem.W.nsIn K mainGlobals "any" = some none)
    (z_zip : PySem.W.nsIn K mainGlobals "zip" = some none)
    (z_enumerate : PySem.W.nsIn K mainGlobals "enumerate" = some none)
    (z_range : PySem.W.nsIn K mainGlobals "range" = some none)
    (z_max : PySem.W.nsIn K mainGlobals "max" = some none)
    (z_sorted : PySem.W.nsIn K mainGlobals "sorted" = some none)
    (z_repr : PySem.W.nsIn K mainGlobals "repr" = some none)
    (z_int : PySem.W.nsIn K mainGlobals "int" = some none)
    (z_list : PySem.W.nsIn K mainGlobals "list" = some none)
    (z_tuple : PySem.W.nsIn K mainGlobals "tuple" = some none)
    (z_dict : PySem.W.nsIn K mainGlobals "dict" = some none)
    (z_str : PySem.W.nsIn K mainGlobals "str" = some none)
    (z_bool : PySem.W.nsIn K mainGlobals "bool" = some none)
    (u0 : PySem.W.nsIn K mainGlobals "SMALL" = some (some (.str "abcdefghijklmnopqrstuvwxyz" tk0)))
    (u1 : PySem.W.nsIn K mainGlobals "LONGEST_TAG" = some (some (.int 8 tk1)))
    (g_KINDS : PySem.W.nsIn K mainGlobals "KINDS" = some (some (.ref q91)))
    (h_KINDS : K.lookup q91 = some ⟨.type "tuple", dd91, .seq #[.str "place" t91_0, .str "truth" t91_1] nn91, sq91⟩)
    (g_TO_PLACE : PySem.W.nsIn K mainGlobals "TO_PLACE" = some (some (.ref q92)))
    (h_TO_PLACE : K.lookup q92 = some ⟨.type "tuple", dd92, .seq #[.str "top" t92_0, .str "left" t92_1, .str "right" t92_2, .str "up" t92_3] nn92, sq92⟩)
    (g_FROM_TRUTH : PySem.W.nsIn K mainGlobals "FROM_TRUTH" = some (some (.ref q93)))
    (h_FROM_TRUTH : K.lookup q93 = some ⟨.type "tuple", dd93, .seq #[.str "not" t93_0, .str "unless" t93_1] nn93, sq93⟩)
    (g_WAYS : PySem.W.nsIn K mainGlobals "WAYS" = some (some (.ref q94)))
    (h_WAYS : K.lookup q94 = some ⟨.type "tuple", dd94, .seq #[.str "left" t94_0, .str "right" t94_1, .str "up" t94_2] nn94, sq94⟩)
    (g_SHAPES : PySem.W.nsIn K mainGlobals "SHAPES" = some (some (.ref q95)))
    (h_SHAPES : K.lookup q95 = some ⟨.type "dict", none, .dict es nn, #[]⟩)
    (p0 : PySem.W.nsIn K q95 "top" = some (some (.ref w0)))
    (r0 : K.lookup w0 = some ⟨.type "tuple", dw0, .seq #[.str "set" tw0_0] nw0, sw0⟩)
    (p1 : PySem.W.nsIn K q95 "move" = some (some (.ref w1)))
    (r1 : K.lookup w1 = some ⟨.type "tuple", dw1, .seq #[.str "set" tw1_0, .str "read" tw1_1] nw1, sw1⟩)
    (p2 : PySem.W.nsIn K q95 "left" = some (some (.ref w2)))
    (r2 : K.lookup w2 = some ⟨.type "tuple", dw2, .seq #[.str "set" tw2_0, .str "read" tw2_1] nw2, sw2⟩)
    (p3 : PySem.W.nsIn K q95 "right" = some (some (.ref w3)))
    (r3 : K.lookup w3 = some ⟨.type "tuple", dw3, .seq #[.str "set" tw3_0, .str "read" tw3_1] nw3, sw3⟩)
    (p4 : PySem.W.nsIn K q95 "up" = some (some (.ref w4)))
    (r4 : K.lookup w4 = some ⟨.type "tuple", dw4, .seq #[.str "set" tw4_0, .str "read" tw4_1] nw4, sw4⟩)
    (p5 : PySem.W.nsIn K q95 "yes" = some (some (.ref w5)))
    (r5 : K.lookup w5 = some ⟨.type "tuple", dw5, .seq #[.str "set" tw5_0] nw5, sw5⟩)
    (p6 : PySem.W.nsIn K q95 "no" = some (some (.ref w6)))
    (r6 : K.lookup w6 = some ⟨.type "tuple", dw6, .seq #[.str "set" tw6_0] nw6, sw6⟩)
    (p7 : PySem.W.nsIn K q95 "has" = some (some (.ref w7)))
    (r7 : K.lookup w7 = some ⟨.type "tuple", dw7, .seq #[.str "set" tw7_0, .str "read" tw7_1, .str "tag" tw7_2] nw7, sw7⟩)
    (p8 : PySem.W.nsIn K q95 "empty" = some (some (.ref w8)))
    (r8 : K.lookup w8 = some ⟨.type "tuple", dw8, .seq #[.str "set" tw8_0, .str "read" tw8_1] nw8, sw8⟩)
    (p9 : PySem.W.nsIn K q95 "same" = some (some (.ref w9)))
    (r9 : K.lookup w9 = some ⟨.type "tuple", dw9, .seq #[.str "set" tw9_0, .str "read" tw9_1, .str "read" tw9_2] nw9, sw9⟩)
    (p10 : PySem.W.nsIn K q95 "not" = some (some (.ref w10)))
    (r10 : K.lookup w10 = some ⟨.type "tuple", dw10, .seq #[.str "set" tw10_0, .str "read" tw10_1] nw10, sw10⟩)
    (p11 : PySem.W.nsIn K q95 "skip" = some (some (.ref w11)))
    (r11 : K.lookup w11 = some ⟨.type "tuple", dw11, .seq #[.str "row" tw11_0] nw11, sw11⟩)
    (p12 : PySem.W.nsIn K q95 "unless" = some (some (.ref w12)))
    (r12 : K.lookup w12 = some ⟨.type "tuple", dw12, .seq #[.str "read" tw12_0, .str "row" tw12_1] nw12, sw12⟩)
    (p13 : PySem.W.nsIn K q95 "call" = some (some (.ref w13)))
    (r13 : K.lookup w13 = some ⟨.type "tuple", dw13, .seq #[.str "set" tw13_0, .str "function" tw13_1, .str "args" tw13_2] nw13, sw13⟩)
    (p14 : PySem.W.nsIn K q95 "give" = some (some (.ref w14)))
    (r14 : K.lookup w14 = some ⟨.type "tuple", dw14, .seq #[.str "read" tw14_0] nw14, sw14⟩)
    (kl : PySem.W.KeysLit w.params es.toList)
    (lo : (q95 == sysModules) = false) :
    ∃ fd : FuncData, (∀ (s : Shared) (v : Value), BindsTo s fd ⟨[v], []⟩ [("_law_script", v)]) ∧ Fun K "law" "law" s_law fa fd ∧
      ∀ (base : Heap) (H : Hp) (cdv : Value) (s : Shared) (a : Addr) (ns : List Int), K.In base → base.Ns mainGlobals mg → ns.length ≤ 63 → SqL K H a (ns.map V.int) →
        ∃ t, PSs (cxOf CX0 P w K mg base N_law "law" (defScope s_law) fa cdv callerA [] s H (fun _ _ _ => False)).nox (defBody s_law) t ∧ t { nx := fun _ G => V.non = .bl true, rt := fun v _ => v = .bl true } (L2.start N_law [.ref a]) H := by
  have hfe : fa = f56 := by
    have e := hfa.symm.trans (PySem.W.mg_of X G a56)
    cases e
    rfl
  rw [hfe]
  have F0 := fun_mk (st := s_is_integer) l0 c0 k0
  have b0 := F0.binds (ps := ["thing"]) fun _ _ _ _ _ _ us hl => match us, hl with | [_], _ => rfl
  have F1 := fun_mk (st := s_is_from) l1 c1 k1
  have b1 := F1.binds (ps := ["thing", "least"]) fun _ _ _ _ _ _ us hl => match us, hl with | [_, _], _ => rfl
  have F2 := fun_mk (st := s_is_tuple) l2 c2 k2
  have b2 := F2.binds (ps := ["thing", "many"]) fun _ _ _ _ _ _ us hl => match us, hl with | [_, _], _ => rfl
  have F3 := fun_mk (st := s_is_tag_value) l3 c3 k3
  have b3 := F3.binds (ps := ["thing"]) fun _ _ _ _ _ _ us hl => match us, hl with | [_], _ => rfl
  have F4 := fun_mk (st := s_is_tree_value) l4 c4 k4
  have b4 := F4.binds (ps := ["thing"]) fun _ _ _ _ _ _ us hl => match us, hl with | [_], _ => rfl
  have F5 := fun_mk (st := s_need_tree) l5 c5 k5
  have b5 := F5.binds (ps := ["tree"]) fun _ _ _ _ _ _ us hl => match us, hl with | [_], _ => rfl
  have F6 := fun_mk (st := s_is_place_of) l6 c6 k6
  have b6 := F6.binds (ps := ["tree", "thing"]) fun _ _ _ _ _ _ us hl => match us, hl with | [_, _], _ => rfl
  have F7 := fun_mk (st := s_are_cells) l7 c7 k7
  have b7 := F7.binds (ps := ["thing"]) fun _ _ _ _ _ _ us hl => match us, hl with | [_], _ => rfl
  have F8 := fun_mk (st := s_is_part_of) l8 c8 k8
  have b8 := F8.binds (ps := ["shape", "thing"]) fun _ _ _ _ _ _ us hl => match us, hl with | [_, _], _ => rfl
  have F9 := fun_mk (st := s_is_row_value) l9 c9 k9
  have b9 := F9.binds (ps := ["thing"]) fun _ _ _ _ _ _ us hl => match us, hl with | [_], _ => rfl
  have F10 := fun_mk (st := s_is_code_function) l10 c10 k10
  have b10 := F10.binds (ps := ["thing"]) fun _ _ _ _ _ _ us hl => match us, hl with | [_], _ => rfl
  have F11 := fun_mk (st := s_is_code_value) l11 c11 k11
  have b11 := F11.binds (ps := ["thing"]) fun _ _ _ _ _ _ us hl => match us, hl with | [_], _ => rfl
  have F12 := fun_mk (st := s_cells_read) l12 c12 k12
  have b12 := F12.binds (ps := ["row"]) fun _ _ _ _ _ _ us hl => match us, hl with | [_], _ => rfl
  have F13 := fun_mk (st := s_cell_set) l13 c13 k13
  have b13 := F13.binds (ps := ["row"]) fun _ _ _ _ _ _ us hl => match us, hl with | [_], _ => rfl
  have F14 := fun_mk (st := s_rows_after) l14 c14 k14
  have b14 := F14.binds (ps := ["row", "at"]) fun _ _ _ _ _ _ us hl => match us, hl with | [_, _], _ => rfl
  have F15 := fun_mk (st := s_kind_set) l15 c15 k15
  have b15 := F15.binds (ps := ["code", "row", "kinds"]) fun _ _ _ _ _ _ us hl => match us, hl with | [_, _, _], _ => rfl
  have F16 := fun_mk (st := s_kinds_after) l16 c16 k16
  have b16 := F16.binds (ps := ["code", "row", "kinds"]) fun _ _ _ _ _ _ us hl => match us, hl with | [_, _, _], _ => rfl
  have F17 := fun_mk (st := s_has_bad_number) l17 c17 k17
  have b17 := F17.binds (ps := ["code", "function", "row", "at"]) fun _ _ _ _ _ _ us hl => match us, hl with | [_, _, _, _], _ => rfl
  have F18 := fun_mk (st := s_wanted_kind) l18 c18 k18
  have b18 := F18.binds (ps := ["function", "row"]) fun _ _ _ _ _ _ us hl => match us, hl with | [_, _], _ => rfl
  have F19 := fun_mk (st := s_fault_of) l19 c19 k19
  have b19 := F19.binds (ps := ["code", "function", "row", "at", "kinds"]) fun _ _ _ _ _ _ us hl => match us, hl with | [_, _, _, _, _], _ => rfl
  have F20 := fun_mk (st := s_joined_kinds) l20 c20 k20
  have b20 := F20.binds (ps := ["one", "other"]) fun _ _ _ _ _ _ us hl => match us, hl with | [_, _], _ => rfl
  have F21 := fun_mk (st := s_function_told) l21 c21 k21
  have b21 := F21.binds (ps := ["code", "f"]) fun _ _ _ _ _ _ us hl => match us, hl with | [_, _], _ => rfl
  have F22 := fun_mk (st := s_judged) l22 c22 k22
  have b22 := F22.binds (ps := ["code"]) fun _ _ _ _ _ _ us hl => match us, hl with | [_], _ => rfl
  have F23 := fun_mk (st := s_is_accepted_value) l23 c23 k23
  have b23 := F23.binds (ps := ["thing"]) fun _ _ _ _ _ _ us hl => match us, hl with | [_], _ => rfl
  have F24 := fun_mk (st := s_need_code) l24 c24 k24
  have b24 := F24.binds (ps := ["code"]) fun _ _ _ _ _ _ us hl => match us, hl with | [_], _ => rfl
  have F25 := fun_mk (st := s_subtree) l25 c25 k25
  have b25 := F25.binds (ps := ["tree", "place"]) fun _ _ _ _ _ _ us hl => match us, hl with | [_, _], _ => rfl
  have F26 := fun_mk (st := s_way_led) l26 c26 k26
  have b26 := F26.binds (ps := ["tree", "place", "way"]) fun _ _ _ _ _ _ us hl => match us, hl with | [_, _, _], _ => rfl
  have F27 := fun_mk (st := s_row_value) l27 c27 k27
  have b27 := F27.binds (ps := ["tree", "row", "cells"]) fun _ _ _ _ _ _ us hl => match us, hl with | [_, _, _], _ => rfl
  have F28 := fun_mk (st := s_next_row) l28 c28 k28
  have b28 := F28.binds (ps := ["row", "at", "cells"]) fun _ _ _ _ _ _ us hl => match us, hl with | [_, _, _], _ => rfl
  have F29 := fun_mk (st := s_called) l29 c29 k29
  have b29 := F29.binds (ps := ["row", "cells"]) fun _ _ _ _ _ _ us hl => match us, hl with | [_, _], _ => rfl
  have F30 := fun_mk (st := s_cells_for) l30 c30 k30
  have b30 := F30.binds (ps := ["code", "call"]) fun _ _ _ _ _ _ us hl => match us, hl with | [_, _], _ => rfl
  have F31 := fun_mk (st := s_are_places) l31 c31 k31
  have b31 := F31.binds (ps := ["code", "tree", "f", "thing"]) fun _ _ _ _ _ _ us hl => match us, hl with | [_, _, _, _], _ => rfl
  have F32 := fun_mk (st := s_need_code_call) l32 c32 k32
  have b32 := F32.binds (ps := ["code", "tree", "f", "places"]) fun _ _ _ _ _ _ us hl => match us, hl with | [_, _, _, _], _ => rfl
  have F33 := fun_mk (st := s_Frame_init) l33 c33 k33
  have b33 := F33.binds (ps := ["self", "code", "call", "target"]) fun _ _ _ _ _ _ us hl => match us, hl with | [_, _, _, _], _ => rfl
  have F34 := fun_mk (st := s_run_plain) l34 c34 k34
  have b34 := F34.binds (ps := ["code", "tree", "f", "places", "fuel"]) fun _ _ _ _ _ _ us hl => match us, hl with | [_, _, _, _, _], _ => rfl
  have F35 := fun_mk (st := s_law_deck) l35 c35 k35
  have b35 := F35.binds (ps := ["_law_script"]) fun _ _ _ _ _ _ us hl => match us, hl with | [_], _ => rfl
  have F36 := fun_mk (st := s_law_draw) l36 c36 k36
  have b36 := F36.binds (ps := ["_law_deck_here", "_law_many"]) fun _ _ _ _ _ _ us hl => match us, hl with | [_, _], _ => rfl
  have F37 := fun_mk (st := s_law_pick) l37 c37 k37
  have b37 := F37.binds (ps := ["_law_deck_here", "_law_some"]) fun _ _ _ _ _ _ us hl => match us, hl with | [_, _], _ => rfl
  have F38 := fun_mk (st := s_law_shapes) l38 c38 k38
  have b38 := F38.binds (ps := []) fun _ _ _ _ _ _ us hl => match us, hl with | [], _ => rfl
  have F39 := fun_mk (st := s_law_set) l39 c39 k39
  have b39 := F39.binds (ps := ["_law_row"]) fun _ _ _ _ _ _ us hl => match us, hl with | [_], _ => rfl
  have F40 := fun_mk (st := s_law_ways) l40 c40 k40
  have b40 := F40.binds (ps := ["_law_row", "_law_at"]) fun _ _ _ _ _ _ us hl => match us, hl with | [_, _], _ => rfl
  have F41 := fun_mk (st := s_law_kind_set) l41 c41 k41
  have b41 := F41.binds (ps := ["_law_code_here", "_law_row", "_law_kinds"]) fun _ _ _ _ _ _ us hl => match us, hl with | [_, _, _], _ => rfl
  have F42 := fun_mk (st := s_law_joined) l42 c42 k42
  have b42 := F42.binds (ps := ["_law_one", "_law_other"]) fun _ _ _ _ _ _ us hl => match us, hl with | [_, _], _ => rfl
  have F43 := fun_mk (st := s_law_spots) l43 c43 k43
  have b43 := F43.binds (ps := ["_law_tree_here", "_law_place", "_law_found"]) fun _ _ _ _ _ _ us hl => match us, hl with | [_, _, _], _ => rfl
  have F44 := fun_mk (st := s_law_map) l44 c44 k44
  have b44 := F44.binds (ps := ["_law_tree_here"]) fun _ _ _ _ _ _ us hl => match us, hl with | [_], _ => rfl
  have F45 := fun_mk (st := s_law_done) l45 c45 k45
  have b45 := F45.binds (ps := ["_law_spots_here", "_law_row", "_law_parts"]) fun _ _ _ _ _ _ us hl => match us, hl with | [_, _, _], _ => rfl
  have F46 := fun_mk (st := s_law_plain) l46 c46 k46
  have b46 := F46.binds (ps := ["_law_code_here", "_law_spots_here", "_law_call", "_law_fuel"]) fun _ _ _ _ _ _ us hl => match us, hl with | [_, _, _, _], _ => rfl
  have F47 := fun_mk (st := s_law_tree) l47 c47 k47
  have b47 := F47.binds (ps := ["_law_deck_here", "_law_many"]) fun _ _ _ _ _ _ us hl => match us, hl with | [_, _], _ => rfl
  have F48 := fun_mk (st := s_law_some_tree) l48 c48 k48
  have b48 := F48.binds (ps := ["_law_deck_here", "_law_many"]) fun _ _ _ _ _ _ us hl => match us, hl with | [_, _], _ => rfl
  have F49 := fun_mk (st := s_law_tree_for) l49 c49 k49
  have b49 := F49.binds (ps := ["_law_deck_here", "_law_code_here", "_law_many"]) fun _ _ _ _ _ _ us hl => match us, hl with | [_, _, _], _ => rfl
  have F50 := fun_mk (st := s_law_heads) l50 c50 k50
  have b50 := F50.binds (ps := ["_law_deck_here", "_law_most"]) fun _ _ _ _ _ _ us hl => match us, hl with | [_, _], _ => rfl
  have F51 := fun_mk (st := s_law_drawn_row) l51 c51 k51
  have b51 := F51.binds (ps := ["_law_deck_here", "_law_heads_here", "_law_kinds", "_law_at", "_law_last"]) fun _ _ _ _ _ _ us hl => match us, hl with | [_, _, _, _, _], _ => rfl
  have F52 := fun_mk (st := s_law_function) l52 c52 k52
  have b52 := F52.binds (ps := ["_law_deck_here", "_law_heads_here", "_law_f", "_law_most"]) fun _ _ _ _ _ _ us hl => match us, hl with | [_, _, _, _], _ => rfl
  have F53 := fun_mk (st := s_law_walker) l53 c53 k53
  have b53 := F53.binds (ps := ["_law_deck_here", "_law_heads_here", "_law_f"]) fun _ _ _ _ _ _ us hl => match us, hl with | [_, _, _], _ => rfl
  have F54 := fun_mk (st := s_law_code) l54 c54 k54
  have b54 := F54.binds (ps := ["_law_deck_here", "_law_functions", "_law_most"]) fun _ _ _ _ _ _ us hl => match us, hl with | [_, _, _], _ => rfl
  have F55 := fun_mk (st := s_law_asked) l55 c55 k55
  have b55 := F55.binds (ps := ["_law_deck_here", "_law_code_here", "_law_spots_here"]) fun _ _ _ _ _ _ us hl => match us, hl with | [_, _, _], _ => rfl
  have F56 := fun_mk (st := s_law) l56 c56 k56
  have b56 := F56.binds (ps := ["_law_script"]) fun _ _ _ _ _ _ us hl => match us, hl with | [_], _ => rfl
  let Z : Wh := ⟨zA f0 f1 f2 f3 f4 f5 f6 f7 f8 f9 f10 f11 f12 f13 f14 f15 f16 f17 f18 f19 f20 f21 f22 f23 f24 f25 f26 f27 f28 f29 f30 f31 f32 f33 f34 f35 f36 f37 f38 f39 f40 f41 f42 f43 f44 f45 f46 f47 f48 f49 f50 f51 f52 f53 f54 f55 f56 C q91 q92 q93 q94 q95, zD (PySem.W.fnOf "is_integer" "is_integer" (defArgs s_is_integer) (defBody s_is_integer) (defScope s_is_integer) .none kV0 dc0 pm0 an0 cd0 ct0) (PySem.W.fnOf "is_from" "is_from" (defArgs s_is_from) (defBody s_is_from) (defScope s_is_from) .none kV1 dc1 pm1 an1 cd1 ct1) (PySem.W.fnOf "is_tuple" "is_tuple" (defArgs s_is_tuple) (defBody s_is_tuple) (defScope s_is_tuple) .none kV2 dc2 pm2 an2 cd2 ct2) (PySem.W.fnOf "is_tag_value" "is_tag_value" (defArgs s_is_tag_value) (defBody s_is_tag_value) (defScope s_is_tag_value) .none kV3 dc3 pm3 an3 cd3 ct3) (PySem.W.fnOf "is_tree_value" "is_tree_value" (defArgs s_is_tree_value) (defBody s_is_tree_value) (defScope s_is_tree_value) .none kV4 dc4 pm4 an4 cd4 ct4) (PySem.W.fnOf "need_tree" "need_tree" (defArgs s_need_tree) (defBody s_need_tree) (defScope s_need_tree) .none kV5 dc5 pm5 an5 cd5 ct5) (PySem.W.fnOf "is_place_of" "is_place_of" (defArgs s_is_place_of) (defBody s_is_place_of) (defScope s_is_place_of) .none kV6 dc6 pm6 an6 cd6 ct6) (PySem.W.fnOf "are_cells" "are_cells" (defArgs s_are_cells) (defBody s_are_cells) (defScope s_are_cells) .none kV7 dc7 pm7 an7 cd7 ct7) (PySem.W.fnOf "is_part_of" "is_part_of" (defArgs s_is_part_of) (defBody s_is_part_of) (defScope s_is_part_of) .none kV8 dc8 pm8 an8 cd8 ct8) (PySem.W.fnOf "is_row_value" "is_row_value" (defArgs s_is_row_value) (defBody s_is_row_value) (defScope s_is_row_value) .none kV9 dc9 pm9 an9 cd9 ct9) (PySem.W.fnOf "is_code_function" "is_code_function" (defArgs s_is_code_function) (defBody s_is_code_function) (defScope s_is_code_function) .none kV10 dc10 pm10 an10 cd10 ct10) (PySem.W.fnOf "is_code_value" "is_code_value" (defArgs s_is_code_value) (defBody s_is_code_value) (defScope s_is_code_value) .none kV11 dc11 pm11 an11 cd11 ct11) (PySem.W.fnOf "cells_read" "cells_read" (defArgs s_cells_read) (defBody s_cells_read) (defScope s_cells_read) .none kV12 dc12 pm12 an12 cd12 ct12) (PySem.W.fnOf "cell_set" "cell_set" (defArgs s_cell_set) (defBody s_cell_set) (defScope s_cell_set) .none kV13 dc13 pm13 an13 cd13 ct13) (PySem.W.fnOf "rows_after" "rows_after" (defArgs s_rows_after) (defBody s_rows_after) (defScope s_rows_after) .none kV14 dc14 pm14 an14 cd14 ct14) (PySem.W.fnOf "kind_set" "kind_set" (defArgs s_kind_set) (defBody s_kind_set) (defScope s_kind_set) .none kV15 dc15 pm15 an15 cd15 ct15) (PySem.W.fnOf "kinds_after" "kinds_after" (defArgs s_kinds_after) (defBody s_kinds_after) (defScope s_kinds_after) .none kV16 dc16 pm16 an16 cd16 ct16) (PySem.W.fnOf "has_bad_number" "has_bad_number" (defArgs s_has_bad_number) (defBody s_has_bad_number) (defScope s_has_bad_number) .none kV17 dc17 pm17 an17 cd17 ct17) (PySem.W.fnOf "wanted_kind" "wanted_kind" (defArgs s_wanted_kind) (defBody s_wanted_kind) (defScope s_wanted_kind) .none kV18 dc18 pm18 an18 cd18 ct18) (PySem.W.fnOf "fault_of" "fault_of" (defArgs s_fault_of) (defBody s_fault_of) (defScope s_fault_of) .none kV19 dc19 pm19 an19 cd19 ct19) (PySem.W.fnOf "joined_kinds" "joined_kinds" (defArgs s_joined_kinds) (defBody s_joined_kinds) (defScope s_joined_kinds) .none kV20 dc20 pm20 an20 cd20 ct20) (PySem.W.fnOf "function_told" "function_told" (defArgs s_function_told) (defBody s_function_told) (defScope s_function_told) .none kV21 dc21 pm21 an21 cd21 ct21) (PySem.W.fnOf "judged" "judged" (defArgs s_judged) (defBody s_judged) (defScope s_judged) .none kV22 dc22 pm22 an22 cd22 ct22) (PySem.W.fnOf "is_accepted_value" "is_accepted_value" (defArgs s_is_accepted_value) (defBody s_is_accepted_value) (defScope s_is_accepted_value) .none kV23 dc23 pm23 an23 cd23 ct23) (PySem.W.fnOf "need_code" "need_code" (defArgs s_need_code) (defBody s_need_code) (defScope s_need_code) .none kV24 dc24 pm24 an24 cd24 ct24) (PySem.W.fnOf "subtree" "subtree" (defArgs s_subtree) (defBody s_subtree) (defScope s_subtree) .none kV25 dc25 pm25 an25 cd25 ct25) (PySem.W.fnOf "way_led" "way_led" (defArgs s_way_led) (defBody s_way_led) (defScope s_way_led) .none kV26 dc26 pm26 an26 cd26 ct26) (PySem.W.fnOf "row_value" "row_value" (defArgs s_row_value) (defBody s_row_value) (defScope s_row_value) .none kV27 dc27 pm27 an27 cd27 ct27) (PySem.W.fnOf "next_row" "next_row" (defArgs s_next_row) (defBody s_next_row) (defScope s_next_row) .none kV28 dc28 pm28 an28 cd28 ct28) (PySem.W.fnOf "called" "called" (defArgs s_called) (defBody s_called) (defScope s_called) .none kV29 dc29 pm29 an29 cd29 ct29) (PySem.W.fnOf "cells_for" "cells_for" (defArgs s_cells_for) (defBody s_cells_for) (defScope s_cells_for) .none kV30 dc30 pm30 an30 cd30 ct30) (PySem.W.fnOf "are_places" "are_places" (defArgs s_are_places) (defBody s_are_places) (defScope s_are_places) .none kV31 dc31 pm31 an31 cd31 ct31) (PySem.W.fnOf "need_code_call" "need_code_call" (defArgs s_need_code_call) (defBody s_need_code_call) (defScope s_need_code_call) .none kV32 dc32 pm32 an32 cd32 ct32) (PySem.W.fnOf "__init__" "Frame.__init__" (defArgs s_Frame_init) (defBody s_Frame_init) (defScope s_Frame_init) .none kV33 dc33 pm33 an33 cd33 ct33) (PySem.W.fnOf "run_plain" "run_plain" (defArgs s_run_plain) (defBody s_run_plain) (defScope s_run_plain) .none kV34 dc34 pm34 an34 cd34 ct34) (PySem.W.fnOf "_law_deck" "_law_deck" (defArgs s_law_deck) (defBody s_law_deck) (defScope s_law_deck) .none kV35 dc35 pm35 an35 cd35 ct35) (PySem.W.fnOf "_law_draw" "_law_draw" (defArgs s_law_draw) (defBody s_law_draw) (defScope s_law_draw) .none kV36 dc36 pm36 an36 cd36 ct36) (PySem.W.fnOf "_law_pick" "_law_pick" (defArgs s_law_pick) (defBody s_law_pick) (defScope s_law_pick) .none kV37 dc37 pm37 an37 cd37 ct37) (PySem.W.fnOf "_law_shapes" "_law_shapes" (defArgs s_law_shapes) (defBody s_law_shapes) (defScope s_law_shapes) .none kV38 dc38 pm38 an38 cd38 ct38) (PySem.W.fnOf "_law_set" "_law_set" (defArgs s_law_set) (defBody s_law_set) (defScope s_law_set) .none kV39 dc39 pm39 an39 cd39 ct39) (PySem.W.fnOf "_law_ways" "_law_ways" (defArgs s_law_ways) (defBody s_law_ways) (defScope s_law_ways) .none kV40 dc40 pm40 an40 cd40 ct40) (PySem.W.fnOf "_law_kind_set" "_law_kind_set" (defArgs s_law_kind_set) (defBody s_law_kind_set) (defScope s_law_kind_set) .none kV41 dc41 pm41 an41 cd41 ct41) (PySem.W.fnOf "_law_joined" "_law_joined" (defArgs s_law_joined) (defBody s_law_joined) (defScope s_law_joined) .none kV42 dc42 pm42 an42 cd42 ct42) (PySem.W.fnOf "_law_spots" "_law_spots" (defArgs s_law_spots) (defBody s_law_spots) (defScope s_law_spots) .none kV43 dc43 pm43 an43 cd43 ct43) (PySem.W.fnOf "_law_map" "_law_map" (defArgs s_law_map) (defBody s_law_map) (defScope s_law_map) .none kV44 dc44 pm44 an44 cd44 ct44) (PySem.W.fnOf "_law_done" "_law_done" (defArgs s_law_done) (defBody s_law_done) (defScope s_law_done) .none kV45 dc45 pm45 an45 cd45 ct45) (PySem.W.fnOf "_law_plain" "_law_plain" (defArgs s_law_plain) (defBody s_law_plain) (defScope s_law_plain) .none kV46 dc46 pm46 an46 cd46 ct46) (PySem.W.fnOf "_law_tree" "_law_tree" (defArgs s_law_tree) (defBody s_law_tree) (defScope s_law_tree) .none kV47 dc47 pm47 an47 cd47 ct47) (PySem.W.fnOf "_law_some_tree" "_law_some_tree" (defArgs s_law_some_tree) (defBody s_law_some_tree) (defScope s_law_some_tree) .none kV48 dc48 pm48 an48 cd48 ct48) (PySem.W.fnOf "_law_tree_for" "_law_tree_for" (defArgs s_law_tree_for) (defBody s_law_tree_for) (defScope s_law_tree_for) .none kV49 dc49 pm49 an49 cd49 ct49) (PySem.W.fnOf "_law_heads" "_law_heads" (defArgs s_law_heads) (defBody s_law_heads) (defScope s_law_heads) .none kV50 dc50 pm50 an50 cd50 ct50) (PySem.W.fnOf "_law_drawn_row" "_law_drawn_row" (defArgs s_law_drawn_row) (defBody s_law_drawn_row) (defScope s_law_drawn_row) .none kV51 dc51 pm51 an51 cd51 ct51) (PySem.W.fnOf "_law_function" "_law_function" (defArgs s_law_function) (defBody s_law_function) (defScope s_law_function) .none kV52 dc52 pm52 an52 cd52 ct52) (PySem.W.fnOf "_law_walker" "_law_walker" (defArgs s_law_walker) (defBody s_law_walker) (defScope s_law_walker) .none kV53 dc53 pm53 an53 cd53 ct53) (PySem.W.fnOf "_law_code" "_law_code" (defArgs s_law_code) (defBody s_law_code) (defScope s_law_code) .none kV54 dc54 pm54 an54 cd54 ct54) (PySem.W.fnOf "_law_asked" "_law_asked" (defArgs s_law_asked) (defBody s_law_asked) (defScope s_law_asked) .none kV55 dc55 pm55 an55 cd55 ct55) (PySem.W.fnOf "law" "law" (defArgs s_law) (defBody s_law) (defScope s_law) .none kV56 dc56 pm56 an56 cd56 ct56), zU (.str "abcdefghijklmnopqrstuvwxyz" tk0) (.int 8 tk1) (.ref q91) (.ref q92) (.ref q93) (.ref q94) (.ref q95), es, nn⟩
  have shpP : ∀ p ∈ SH, ∃ a, PySem.W.nsIn K (Z.A 95) p.1 = some (some (.ref a)) ∧ ∀ H, SqT K H a (p.2.map V.str) := by
    intro p hp
    simp only [SH, List.mem_cons, List.not_mem_nil, or_false] at hp
    rcases hp with rfl | rfl | rfl | rfl | rfl | rfl | rfl | rfl | rfl | rfl | rfl | rfl | rfl | rfl | rfl
    · exact ⟨w0, p0, tupK r0 (by show 1 ≤ sizeLine; decide) (.cons ⟨tw0_0, rfl⟩ .nil)⟩
    · exact ⟨w1, p1, tupK r1 (by show 2 ≤ sizeLine; decide) (.cons ⟨tw1_0, rfl⟩ (.cons ⟨tw1_1, rfl⟩ .nil))⟩
    · exact ⟨w2, p2, tupK r2 (by show 2 ≤ sizeLine; decide) (.cons ⟨tw2_0, rfl⟩ (.cons ⟨tw2_1, rfl⟩ .nil))⟩
    · exact ⟨w3, p3, tupK r3 (by show 2 ≤ sizeLine; decide) (.cons ⟨tw3_0, rfl⟩ (.cons ⟨tw3_1, rfl⟩ .nil))⟩
    · exact ⟨w4, p4, tupK r4 (by show 2 ≤ sizeLine; decide) (.cons ⟨tw4_0, rfl⟩ (.cons ⟨tw4_1, rfl⟩ .nil))⟩
    · exact ⟨w5, p5, tupK r5 (by show 1 ≤ sizeLine; decide) (.cons ⟨tw5_0, rfl⟩ .nil)⟩
    · exact ⟨w6, p6, tupK r6 (by show 1 ≤ sizeLine; decide) (.cons ⟨tw6_0, rfl⟩ .nil)⟩
    · exact ⟨w7, p7, tupK r7 (by show 3 ≤ sizeLine; decide) (.cons ⟨tw7_0, rfl⟩ (.cons ⟨tw7_1, rfl⟩ (.cons ⟨tw7_2, rfl⟩ .nil)))⟩
    · exact ⟨w8, p8, tupK r8 (by show 2 ≤ sizeLine; decide) (.cons ⟨tw8_0, rfl⟩ (.cons ⟨tw8_1, rfl⟩ .nil))⟩
    · exact ⟨w9, p9, tupK r9 (by show 3 ≤ sizeLine; decide) (.cons ⟨tw9_0, rfl⟩ (.cons ⟨tw9_1, rfl⟩ (.cons ⟨tw9_2, rfl⟩ .nil)))⟩
    · exact ⟨w10, p10, tupK r10 (by show 2 ≤ sizeLine; decide) (.cons ⟨tw10_0, rfl⟩ (.cons ⟨tw10_1, rfl⟩ .nil))⟩
    · exact ⟨w11, p11, tupK r11 (by show 1 ≤ sizeLine; decide) (.cons ⟨tw11_0, rfl⟩ .nil)⟩
    · exact ⟨w12, p12, tupK r12 (by show 2 ≤ sizeLine; decide) (.cons ⟨tw12_0, rfl⟩ (.cons ⟨tw12_1, rfl⟩ .nil))⟩
    · exact ⟨w13, p13, tupK r13 (by show 3 ≤ sizeLine; decide) (.cons ⟨tw13_0, rfl⟩ (.cons ⟨tw13_1, rfl⟩ (.cons ⟨tw13_2, rfl⟩ .nil)))⟩
    · exact ⟨w14, p14, tupK r14 (by show 1 ≤ sizeLine; decide) (.cons ⟨tw14_0, rfl⟩ .nil)⟩
  have T : Tx w K mg Z := {
    is_integer := ⟨F0, PySem.W.mg_of X G a0, b0⟩
    is_from := ⟨F1, PySem.W.mg_of X G a1, b1⟩
    is_tuple := ⟨F2, PySem.W.mg_of X G a2, b2⟩
    is_tag_value := ⟨F3, PySem.W.mg_of X G a3, b3⟩
    is_tree_value := ⟨F4, PySem.W.mg_of X G a4, b4⟩
    need_tree := ⟨F5, PySem.W.mg_of X G a5, b5⟩
    is_place_of := ⟨F6, PySem.W.mg_of X G a6, b6⟩
    are_cells := ⟨F7, PySem.W.mg_of X G a7, b7⟩
    is_part_of := ⟨F8, PySem.W.mg_of X G a8, b8⟩
    is_row_value := ⟨F9, PySem.W.mg_of X G a9, b9⟩
    is_code_function := ⟨F10, PySem.W.mg_of X G a10, b10⟩
    is_code_value := ⟨F11, PySem.W.mg_of X G a11, b11⟩
    cells_read := ⟨F12, PySem.W.mg_of X G a12, b12⟩
    cell_set := ⟨F13, PySem.W.mg_of X G a13, b13⟩
    rows_after := ⟨F14, PySem.W.mg_of X G a14, b14⟩
    kind_set := ⟨F15, PySem.W.mg_of X G a15, b15⟩
    kinds_after := ⟨F16, PySem.W.mg_of X G a16, b16⟩
    has_bad_number := ⟨F17, PySem.W.mg_of X G a17, b17⟩
    wanted_kind := ⟨F18, PySem.W.mg_of X G a18, b18⟩
    fault_of := ⟨F19, PySem.W.mg_of X G a19, b19⟩
    joined_kinds := ⟨F20, PySem.W.mg_of X G a20, b20⟩
    function_told := ⟨F21, PySem.W.mg_of X G a21, b21⟩
    judged := ⟨F22, PySem.W.mg_of X G a22, b22⟩
    is_accepted_value := ⟨F23, PySem.W.mg_of X G a23, b23⟩
    need_code := ⟨F24, PySem.W.mg_of X G a24, b24⟩
    subtree := ⟨F25, PySem.W.mg_of X G a25, b25⟩
    way_led := ⟨F26, PySem.W.mg_of X G a26, b26⟩
    row_value := ⟨F27, PySem.W.mg_of X G a27, b27⟩
    next_row := ⟨F28, PySem.W.mg_of X G a28, b28⟩
    called := ⟨F29, PySem.W.mg_of X G a29, b29⟩
    cells_for := ⟨F30, PySem.W.mg_of X G a30, b30⟩
    are_places := ⟨F31, PySem.W.mg_of X G a31, b31⟩
    need_code_call := ⟨F32, PySem.W.mg_of X G a32, b32⟩
    Frame_init_F := F33
    Frame_init_b := b33
    run_plain := ⟨F34, PySem.W.mg_of X G a34, b34⟩
    law_deck := ⟨F35, PySem.W.mg_of X G a35, b35⟩
    law_draw := ⟨F36, PySem.W.mg_of X G a36, b36⟩
    law_pick := ⟨F37, PySem.W.mg_of X G a37, b37⟩
    law_shapes := ⟨F38, PySem.W.mg_of X G a38, b38⟩
    law_set := ⟨F39, PySem.W.mg_of X G a39, b39⟩
    law_ways := ⟨F40, PySem.W.mg_of X G a40, b40⟩
    law_kind_set := ⟨F41, PySem.W.mg_of X G a41, b41⟩
    law_joined := ⟨F42, PySem.W.mg_of X G a42, b42⟩
    law_spots := ⟨F43, PySem.W.mg_of X G a43, b43⟩
    law_map := ⟨F44, PySem.W.mg_of X G a44, b44⟩
    law_done := ⟨F45, PySem.W.mg_of X G a45, b45⟩
    law_plain := ⟨F46, PySem.W.mg_of X G a46, b46⟩
    law_tree := ⟨F47, PySem.W.mg_of X G a47, b47⟩
    law_some_tree := ⟨F48, PySem.W.mg_of X G a48, b48⟩
    law_tree_for := ⟨F49, PySem.W.mg_of X G a49, b49⟩
    law_heads := ⟨F50, PySem.W.mg_of X G a50, b50⟩
    law_drawn_row := ⟨F51, PySem.W.mg_of X G a51, b51⟩
    law_function := ⟨F52, PySem.W.mg_of X G a52, b52⟩
    law_walker := ⟨F53, PySem.W.mg_of X G a53, b53⟩
    law_code := ⟨F54, PySem.W.mg_of X G a54, b54⟩
    law_asked := ⟨F55, PySem.W.mg_of X G a55, b55⟩
    law := ⟨F56, PySem.W.mg_of X G a56, b56⟩
    Frame_mk := ⟨mk, a33, iF, kc⟩
    Frame_m := PySem.W.mg_of X G aC
    Frame_cl := ⟨pg, hdI, po, sa⟩
    n_rows := n_rows
    n_cells := n_cells
    n_at := n_at
    n_target := n_target
    isinstance_ := PySem.W.mg_none_of X G z_isinstance
    len_ := PySem.W.mg_none_of X G z_len
    all_ := PySem.W.mg_none_of X G z_all
    any_ := PySem.W.mg_none_of X G z_any
    zip_ := PySem.W.mg_none_of X G z_zip
    enumerate_ := PySem.W.mg_none_of X G z_enumerate
    range_ := PySem.W.mg_none_of X G z_range
    max_ := PySem.W.mg_none_of X G z_max
    sorted_ := PySem.W.mg_none_of X G z_sorted
    repr_ := PySem.W.mg_none_of X G z_repr
    int_ := PySem.W.mg_none_of X G z_int
    list_ := PySem.W.mg_none_of X G z_list
    tuple_ := PySem.W.mg_none_of X G z_tuple
    dict_ := PySem.W.mg_none_of X G z_dict
    str_ := PySem.W.mg_none_of X G z_str
    bool_ := PySem.W.mg_none_of X G z_bool
    m_SMALL := PySem.W.mg_of X G u0
    r_SMALL := ⟨tk0, rfl⟩
    m_LONGEST_TAG := PySem.W.mg_of X G u1
    r_LONGEST_TAG := ⟨tk1, rfl⟩
    m_KINDS := PySem.W.mg_of X G g_KINDS
    r_KINDS := rfl
    t_KINDS := tupK h_KINDS (by show 2 ≤ sizeLine; decide) (.cons ⟨t91_0, rfl⟩ (.cons ⟨t91_1, rfl⟩ .nil))
    m_TO_PLACE := PySem.W.mg_of X G g_TO_PLACE
    r_TO_PLACE := rfl
    t_TO_PLACE := tupK h_TO_PLACE (by show 4 ≤ sizeLine; decide) (.cons ⟨t92_0, rfl⟩ (.cons ⟨t92_1, rfl⟩ (.cons ⟨t92_2, rfl⟩ (.cons ⟨t92_3, rfl⟩ .nil))))
    m_FROM_TRUTH := PySem.W.mg_of X G g_FROM_TRUTH
    r_FROM_TRUTH := rfl
    t_FROM_TRUTH := tupK h_FROM_TRUTH (by show 2 ≤ sizeLine; decide) (.cons ⟨t93_0, rfl⟩ (.cons ⟨t93_1, rfl⟩ .nil))
    m_WAYS := PySem.W.mg_of X G g_WAYS
    r_WAYS := rfl
    t_WAYS := tupK h_WAYS (by show 3 ≤ sizeLine; decide) (.cons ⟨t94_0, rfl⟩ (.cons ⟨t94_1, rfl⟩ (.cons ⟨t94_2, rfl⟩ .nil)))
    m_SHAPES := PySem.W.mg_of X G g_SHAPES
    r_SHAPES := rfl
    SHAPES_kd := ⟨h_SHAPES, kl, lo⟩
    shp := shpP }
  exact fin_mk (Z := Z) T F56
end Eo
set_option linter.all false
set_option maxRecDepth 100000
open PySem PySem.W PyProof.Rows
set_option maxHeartbeats 0 in
theorem PySem.Challenge.cw_eyesonly_k35_whole_plain_runs_of_rows_holds : PySem.Challenge.rw_eyesonly_k35_whole_plain_runs_of_rows.Holds :=
 headL (by
  k_fill
  refine Eo.walk_at (l := PySem.Challenge.rw_eyesonly_k35_whole_plain_runs_of_rows) (n := 63) (k := 41) (x := "_law_script") (nm := "law") (qual := "law") (st := Eo.s_law) (N := Eo.N_law) rfl (by decide) rfl ⟨rfl, by decide, by decide⟩ (fun w h Y => PySem.W.kIn_of Y) Eo.sc_law ?F
  case F =>
    intro w mg fa h KX G hmg
    refine' Eo.all_mk KX G hmg ?aC ?a0 ?l0 ?c0 ?k0 ?a1 ?l1 ?c1 ?k1 ?a2 ?l2 ?c2 ?k2 ?a3 ?l3 ?c3 ?k3 ?a4 ?l4 ?c4 ?k4 ?a5 ?l5 ?c5 ?k5 ?a6 ?l6 ?c6 ?k6 ?a7 ?l7 ?c7 ?k7 ?a8 ?l8 ?c8 ?k8 ?a9 ?l9 ?c9 ?k9 ?a10 ?l10 ?c10 ?k10 ?a11 ?l11 ?c11 ?k11 ?a12 ?l12 ?c12 ?k12 ?a13 ?l13 ?c13 ?k13 ?a14 ?l14 ?c14 ?k14 ?a15 ?l15 ?c15 ?k15 ?a16 ?l16 ?c16 ?k16 ?a17 ?l17 ?c17 ?k17 ?a18 ?l18 ?c18 ?k18 ?a19 ?l19 ?c19 ?k19 ?a20 ?l20 ?c20 ?k20 ?a21 ?l21 ?c21 ?k21 ?a22 ?l22 ?c22 ?k22 ?a23 ?l23 ?c23 ?k23 ?a24 ?l24 ?c24 ?k24 ?a25 ?l25 ?c25 ?k25 ?a26 ?l26 ?c26 ?k26 ?a27 ?l27 ?c27 ?k27 ?a28 ?l28 ?c28 ?k28 ?a29 ?l29 ?c29 ?k29 ?a30 ?l30 ?c30 ?k30 ?a31 ?l31 ?c31 ?k31 ?a32 ?l32 ?c32 ?k32 ?a33 ?l33 ?c33 ?k33 ?a34 ?l34 ?c34 ?k34 ?a35 ?l35 ?c35 ?k35 ?a36 ?l36 ?c36 ?k36 ?a37 ?l37 ?c37 ?k37 ?a38 ?l38 ?c38 ?k38 ?a39 ?l39 ?c39 ?k39 ?a40 ?l40 ?c40 ?k40 ?a41 ?l41 ?c41 ?k41 ?a42 ?l42 ?c42 ?k42 ?a43 ?l43 ?c43 ?k43 ?a44 ?l44 ?c44 ?k44 ?a45 ?l45 ?c45 ?k45 ?a46 ?l46 ?c46 ?k46 ?a47 ?l47 ?c47 ?k47 ?a48 ?l48 ?c48 ?k48 ?a49 ?l49 ?c49 ?k49 ?a50 ?l50 ?c50 ?k50 ?a51 ?l51 ?c51 ?k51 ?a52 ?l52 ?c52 ?k52 ?a53 ?l53 ?c53 ?k53 ?a54 ?l54 ?c54 ?k54 ?a55 ?l55 ?c55 ?k55 ?a56 ?l56 ?c56 ?k56 ?iF ?pg ?hdI ?po ?sa ?mk ?kc ?n_rows ?n_cells ?n_at ?n_target ?z_isinstance ?z_len ?z_all ?z_any ?z_zip ?z_enumerate ?z_range ?z_max ?z_sorted ?z_repr ?z_int ?z_list ?z_tuple ?z_dict ?z_str ?z_bool ?u0 ?u1 ?g_KINDS ?h_KINDS ?g_TO_PLACE ?h_TO_PLACE ?g_FROM_TRUTH ?h_FROM_TRUTH ?g_WAYS ?h_WAYS ?g_SHAPES ?h_SHAPES ?p0 ?r0 ?p1 ?r1 ?p2 ?r2 ?p3 ?r3 ?p4 ?r4 ?p5 ?r5 ?p6 ?r6 ?p7 ?r7 ?p8 ?r8 ?p9 ?r9 ?p10 ?r10 ?p11 ?r11 ?p12 ?r12 ?p13 ?r13 ?p14 ?r14 ?kl ?lo
    (case aC => k_is)
    (case a0 => k_is)
    (case l0 => k_is)
    (case c0 => k_is)
    (case k0 => k_is)
    (case a1 => k_is)
    (case l1 => k_is)
    (case c1 => k_is)
    (case k1 => k_is)
    (case a2 => k_is)
    (case l2 => k_is)
    (case c2 => k_is)
    (case k2 => k_is)
    (case a3 => k_is)
    (case l3 => k_is)
    (case c3 => k_is)
    (case k3 => k_is)
    (case a4 => k_is)
    (case l4 => k_is)
    (case c4 => k_is)
    (case k4 => k_is)
    (case a5 => k_is)
    (case l5 => k_is)
    (case c5 => k_is)
    (case k5 => k_is)
    (case a6 => k_is)
    (case l6 => k_is)
    (case c6 => k_is)
    (case k6 => k_is)
    (case a7 => k_is)
    (case l7 => k_is)
    (case c7 => k_is)
    (case k7 => k_is)
    (case a8 => k_is)
    (case l8 => k_is)
    (case c8 => k_is)
    (case k8 => k_is)
    (case a9 => k_is)
    (case l9 => k_is)
    (case c9 => k_is)
    (case k9 => k_is)
    (case a10 => k_is)
    (case l10 => k_is)
    (case c10 => k_is)
    (case k10 => k_is)
    (case a11 => k_is)
    (case l11 => k_is)
    (case c11 => k_is)
    (case k11 => k_is)
    (case a12 => k_is)
    (case l12 => k_is)
    (case c12 => k_is)
    (case k12 => k_is)
    (case a13 => k_is)
    (case l13 => k_is)
    (case c13 => k_is)
    (case k13 => k_is)
    (case a14 => k_is)
    (case l14 => k_is)
    (case c14 => k_is)
    (case k14 => k_is)
    (case a15 => k_is)
    (case l15 => k_is)
    (case c15 => k_is)
    (case k15 => k_is)
    (case a16 => k_is)
    (case l16 => k_is)
    (case c16 => k_is)
    (case k16 => k_is)
    (case a17 => k_is)
    (case l17 => k_is)
    (case c17 => k_is)
    (case k17 => k_is)
    (case a18 => k_is)
    (case l18 => k_is)
    (case c18 => k_is)
    (case k18 => k_is)
    (case a19 => k_is)
    (case l19 => k_is)
    (case c19 => k_is)
    (case k19 => k_is)
    (case a20 => k_is)
    (case l20 => k_is)
    (case c20 => k_is)
    (case k20 => k_is)
    (case a21 => k_is)
    (case l21 => k_is)
    (case c21 => k_is)
    (case k21 => k_is)
    (case a22 => k_is)
    (case l22 => k_is)
    (case c22 => k_is)
    (case k22 => k_is)
    (case a23 => k_is)
    (case l23 => k_is)
    (case c23 => k_is)
    (case k23 => k_is)
    (case a24 => k_is)
    (case l24 => k_is)
    (case c24 => k_is)
    (case k24 => k_is)
    (case a25 => k_is)
    (case l25 => k_is)
    (case c25 => k_is)
    (case k25 => k_is)
    (case a26 => k_is)
    (case l26 => k_is)
    (case c26 => k_is)
    (case k26 => k_is)
    (case a27 => k_is)
    (case l27 => k_is)
    (case c27 => k_is)
    (case k27 => k_is)
    (case a28 => k_is)
    (case l28 => k_is)
    (case c28 => k_is)
    (case k28 => k_is)
    (case a29 => k_is)
    (case l29 => k_is)
    (case c29 => k_is)
    (case k29 => k_is)
    (case a30 => k_is)
    (case l30 => k_is)
    (case c30 => k_is)
    (case k30 => k_is)
    (case a31 => k_is)
    (case l31 => k_is)
    (case c31 => k_is)
    (case k31 => k_is)
    (case a32 => k_is)
    (case l32 => k_is)
    (case c32 => k_is)
    (case k32 => k_is)
    (case a33 => k_is)
    (case l33 => k_is)
    (case c33 => k_is)
    (case k33 => k_is)
    (case a34 => k_is)
    (case l34 => k_is)
    (case c34 => k_is)
    (case k34 => k_is)
    (case a35 => k_is)
    (case l35 => k_is)
    (case c35 => k_is)
    (case k35 => k_is)
    (case a36 => k_is)
    (case l36 => k_is)
    (case c36 => k_is)
    (case k36 => k_is)
    (case a37 => k_is)
    (case l37 => k_is)
    (case c37 => k_is)
    (case k37 => k_is)
    (case a38 => k_is)
    (case l38 => k_is)
    (case c38 => k_is)
    (case k38 => k_is)
    (case a39 => k_is)
    (case l39 => k_is)
    (case c39 => k_is)
    (case k39 => k_is)
    (case a40 => k_is)
    (case l40 => k_is)
    (case c40 => k_is)
    (case k40 => k_is)
    (case a41 => k_is)
    (case l41 => k_is)
    (case c41 => k_is)
    (case k41 => k_is)
    (case a42 => k_is)
    (case l42 => k_is)
    (case c42 => k_is)
    (case k42 => k_is)
    (case a43 => k_is)
    (case l43 => k_is)
    (case c43 => k_is)
    (case k43 => k_is)
    (case a44 => k_is)
    (case l44 => k_is)
    (case c44 => k_is)
    (case k44 => k_is)
    (case a45 => k_is)
    (case l45 => k_is)
    (case c45 => k_is)
    (case k45 => k_is)
    (case a46 => k_is)
    (case l46 => k_is)
    (case c46 => k_is)
    (case k46 => k_is)
    (case a47 => k_is)
    (case l47 => k_is)
    (case c47 => k_is)
    (case k47 => k_is)
    (case a48 => k_is)
    (case l48 => k_is)
    (case c48 => k_is)
    (case k48 => k_is)
    (case a49 => k_is)
    (case l49 => k_is)
    (case c49 => k_is)
    (case k49 => k_is)
    (case a50 => k_is)
    (case l50 => k_is)
    (case c50 => k_is)
    (case k50 => k_is)
    (case a51 => k_is)
    (case l51 => k_is)
    (case c51 => k_is)
    (case k51 => k_is)
    (case a52 => k_is)
    (case l52 => k_is)
    (case c52 => k_is)
    (case k52 => k_is)
    (case a53 => k_is)
    (case l53 => k_is)
    (case c53 => k_is)
    (case k53 => k_is)
    (case a54 => k_is)
    (case l54 => k_is)
    (case c54 => k_is)
    (case k54 => k_is)
    (case a55 => k_is)
    (case l55 => k_is)
    (case c55 => k_is)
    (case k55 => k_is)
    (case a56 => k_is)
    (case l56 => k_is)
    (case c56 => k_is)
    (case k56 => k_is)
    (case iF => k_is)
    (case pg => k_is)
    (case hdI => k_is)
    (case po => k_is)
    (case sa => k_is)
    (case mk => k_is)
    (case kc => k_is)
    (case n_rows => k_is)
    (case n_cells => k_is)
    (case n_at => k_is)
    (case n_target => k_is)
    (case z_isinstance => k_is)
    (case z_len => k_is)
    (case z_all => k_is)
    (case z_any => k_is)
    (case z_zip => k_is)
    (case z_enumerate => k_is)
    (case z_range => k_is)
    (case z_max => k_is)
    (case z_sorted => k_is)
    (case z_repr => k_is)
    (case z_int => k_is)
    (case z_list => k_is)
    (case z_tuple => k_is)
    (case z_dict => k_is)
    (case z_str => k_is)
    (case z_bool => k_is)
    (case u0 => k_is)
    (case u1 => k_is)
    (case g_KINDS => k_is)
    (case h_KINDS => k_is)
    (case g_TO_PLACE => k_is)
    (case h_TO_PLACE => k_is)
    (case g_FROM_TRUTH => k_is)
    (case h_FROM_TRUTH => k_is)
    (case g_WAYS => k_is)
    (case h_WAYS => k_is)
    (case g_SHAPES => k_is)
    (case h_SHAPES => k_is)
    (case p0 => k_is)
    (case r0 => k_is)
    (case p1 => k_is)
    (case r1 => k_is)
    (case p2 => k_is)
    (case r2 => k_is)
    (case p3 => k_is)
    (case r3 => k_is)
    (case p4 => k_is)
    (case r4 => k_is)
    (case p5 => k_is)
    (case r5 => k_is)
    (case p6 => k_is)
    (case r6 => k_is)
    (case p7 => k_is)
    (case r7 => k_is)
    (case p8 => k_is)
    (case r8 => k_is)
    (case p9 => k_is)
    (case r9 => k_is)
    (case p10 => k_is)
    (case r10 => k_is)
    (case p11 => k_is)
    (case r11 => k_is)
    (case p12 => k_is)
    (case r12 => k_is)
    (case p13 => k_is)
    (case r13 => k_is)
    (case p14 => k_is)
    (case r14 => k_is)
    (case kl => exact ⟨⟨_, _, rfl, rfl⟩, ⟨_, _, rfl, rfl⟩, ⟨_, _, rfl, rfl⟩, ⟨_, _, rfl, rfl⟩, ⟨_, _, rfl, rfl⟩, ⟨_, _, rfl, rfl⟩, ⟨_, _, rfl, rfl⟩, ⟨_, _, rfl, rfl⟩, ⟨_, _, rfl, rfl⟩, ⟨_, _, rfl, rfl⟩, ⟨_, _, rfl, rfl⟩, ⟨_, _, rfl, rfl⟩, ⟨_, _, rfl, rfl⟩, ⟨_, _, rfl, rfl⟩, ⟨_, _, rfl, rfl⟩, trivial⟩)
    (case lo => first | rfl | decide +kernel | k_is))
