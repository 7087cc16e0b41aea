import PyProof.Rows.All
import Wide.All
import OpenK.AllK
import Wide.FinOn
import HandS.ForMost
import HandS.Evl
import HandS.Walk
import HandS.Wide
import HandS.WideBits
import HandS.ForExc
import HandS.RevRange
import HandS.Conv
import HandS.IsInst
import KE.DataEq
import PyProof.StrOps2
import HandS.Iter
import HandS.ExcInit
import HandS.ExcIs
import HandS.ExcField
import KE.GoesEnum
import KE.GoesMore
import PyProof.Draws
import PyProof.ListRange
import PyProof.CollectIter
import PyProof.FactsAll.range_iterator_1
import PyProof.StrLaws
import PyProof.Rows.StrPadFill
import PyProof.Rows.StrPadWhole
import PySem.Challenge.RW_packetpicture_k25_sample_over_all_bits
set_option Elab.async false
set_option linter.all false
set_option maxRecDepth 100000
set_option maxHeartbeats 4000000
/-! Res: the mirror's own words (plain Lean). -/
namespace R

abbrev Tx := List Nat
def tx (s : String) : Tx := s.toList.map Char.toNat

/-- what is raised: OutOfRange(name), TextFault(line, column, words), any other own class, by its number -/
inductive Exn where
  | oor (name : Tx)
  | txt (line column : Int) (words : Tx)
  | cls (k : Nat)
  deriving DecidableEq

/-- an answer, an exception, or a place that the walk does not pass -/
inductive Res (α : Type) where
  | ok (a : α)
  | exn (e : Exn)
  | stuck

def Res.bind {α β : Type} (m : Res α) (f : α → Res β) : Res β :=
  match m with
  | .ok a => f a
  | .exn e => .exn e
  | .stuck => .stuck
@[simp] theorem Res.ok_bind {α β : Type} (a : α) (f : α → Res β) : (Res.ok a).bind f = f a := by
  have h : ∀ m : Res α, m = .ok a → m.bind f = f a := fun m h => by subst h; rfl
  exact h _ rfl
@[simp] theorem Res.exn_bind {α β : Type} (e : Exn) (f : α → Res β) : (Res.exn e : Res α).bind f = .exn e := rfl
@[simp] theorem Res.stuck_bind {α β : Type} (f : α → Res β) : (Res.stuck : Res α).bind f = .stuck := rfl
@[simp] theorem Res.bind_ok {α : Type} (m : Res α) : m.bind .ok = m := by cases m <;> rfl
theorem Res.bind_assoc {α β γ : Type} (m : Res α) (f : α → Res β) (g : β → Res γ) : (m.bind f).bind g = m.bind fun a => (f a).bind g := by cases m <;> rfl

/-- where nothing may be raised -/
def Res.calm {α : Type} (m : Res α) : Res α :=
  match m with
  | .ok a => .ok a
  | _ => .stuck
@[simp] theorem Res.ok_calm {α : Type} (a : α) : (Res.ok a).calm = .ok a := rfl
/-- try: what is raised, by its clauses -/
def tryR {α : Type} (m : Res α) (h : Exn → Option (Res α)) : Res α :=
  match m with
  | .ok a => .ok a
  | .exn e => match h e with
    | some r => r.calm
    | none => .exn e
  | .stuck => .stuck
def Exn.isO : Exn → Bool
  | .oor _ => true
  | _ => false
def Exn.isT : Exn → Bool
  | .txt _ _ _ => true
  | _ => false
def Exn.isC (k : Nat) : Exn → Bool
  | .cls j => j == k
  | _ => false
def Exn.isA : Exn → Bool := fun _ => true
def exName : Exn → Res Tx
  | .oor n => .ok n
  | _ => .stuck
def exLine : Exn → Res Int
  | .txt l _ _ => .ok l
  | _ => .stuck
def exColumn : Exn → Res Int
  | .txt _ c _ => .ok c
  | _ => .stuck
def exWords : Exn → Res Tx
  | .txt _ _ w => .ok w
  | _ => .stuck
@[simp] theorem tryR_ok {α : Type} (a : α) (h : Exn → Option (Res α)) : tryR (.ok a) h = .ok a := rfl
/-- what must hold of an answer, of an exception -/
def Res.wp {α : Type} (m : Res α) (Q : α → Prop) (E : Exn → Prop) : Prop :=
  match m with
  | .ok a => Q a
  | .exn e => E e
  | .stuck => False
theorem Res.wp_bind {α β : Type} {m : Res α} {f : α → Res β} {Q : β → Prop} {E : Exn → Prop} (h : (m.bind f).wp Q E) : m.wp (fun a => (f a).wp Q E) E := by cases m <;> exact h
theorem Res.wp_mono {α : Type} {m : Res α} {Q Q' : α → Prop} {E E' : Exn → Prop} (h : m.wp Q E) (hq : ∀ a, Q a → Q' a) (he : ∀ e, E e → E' e) : m.wp Q' E' := by
  cases m with
  | ok a => exact hq a h
  | exn e => exact he e h
  | stuck => exact h
theorem Res.wp_calm {α : Type} {m : Res α} {Q : α → Prop} {E : Exn → Prop} (h : m.calm.wp Q E) : m.wp Q fun _ => False := by
  cases m with
  | ok a => exact h
  | exn e => exact h
  | stuck => exact h

/-- how a statement ends -/
inductive Ctl (S B : Type) where
  | nx (s : S)
  | ret (b : B)
  | brk (s : S)
  | cnt (s : S)

/-- a check -/
def chk {α : Type} (c : Bool) (m : Res α) : Res α := if c then m else .stuck
@[simp] theorem chk_true {α : Type} (m : Res α) : chk true m = m := rfl
theorem chk_of {α : Type} {c : Bool} {m : Res α} (h : c = true) : chk c m = m := by rw [h]; rfl

/-! ### whole numbers -/
def line : Nat := 16777216
def nbits (i : Int) : Nat := if i = 0 then 0 else i.natAbs.log2 + 1
def mul (i j : Int) : Res Int := chk (decide (nbits i + nbits j ≤ 134217728)) (.ok (i * j))
/-- a product by a small number -/
def mulc (i j : Int) : Int := i * j
def fdiv (i j : Int) : Res Int := chk (decide (0 < j) && decide (j.natAbs.log2 < 9000)) (.ok (i / j))
def fmod (i j : Int) : Res Int := chk (decide (0 < j)) (.ok (i % j))
def shl (i j : Int) : Res Int := chk (decide (0 ≤ j) && decide ((nbits i : Int) + j ≤ 134217728)) (.ok (i * 2 ^ j.toNat))
def shr (i j : Int) : Res Int := chk (decide (0 ≤ j)) (.ok (i / 2 ^ j.toNat))
def xor (i j : Int) : Res Int := chk (decide (0 ≤ i) && decide (0 ≤ j)) (.ok ((i.toNat ^^^ j.toNat : Nat) : Int))
def band (i j : Int) : Res Int := chk (decide (0 ≤ i) && decide (0 ≤ j)) (.ok ((i.toNat &&& j.toNat : Nat) : Int))
def bor (i j : Int) : Res Int := chk (decide (0 ≤ i) && decide (0 ≤ j)) (.ok ((i.toNat ||| j.toNat : Nat) : Int))
def abs (i : Int) : Int := if i < 0 then -i else i
def max2 (i j : Int) : Int := if j > i then j else i
def min2 (i j : Int) : Int := if j < i then j else i
def b2i (b : Bool) : Int := if b then 1 else 0

/-! ### rows by place -/
def ixN (n : Nat) (i : Int) : Option Nat := if 0 ≤ i then (if i < n then some i.toNat else none) else if -(n : Int) ≤ i then some (i + n).toNat else none
def atI {α : Type} (xs : List α) (i : Int) : Option α := (ixN xs.length i).bind fun j => xs[j]?
def idx {α : Type} (xs : List α) (i : Int) : Res α :=
  match atI xs i with
  | some v => .ok v
  | none => .stuck
def setI {α : Type} (xs : List α) (i : Int) (v : α) : Res (List α) :=
  match ixN xs.length i with
  | some j => .ok (xs.set j v)
  | none => .stuck
def push {α : Type} (xs : List α) (v : α) : Res (List α) := chk (decide (xs.length < line)) (.ok (xs ++ [v]))
def cat {α : Type} (xs ys : List α) : Res (List α) := chk (decide (xs.length + ys.length ≤ line)) (.ok (xs ++ ys))
def rep {α : Type} (xs : List α) (k : Int) : Res (List α) := chk (decide (-(2 ^ 63) ≤ k) && (decide (k < 2 ^ 63) && decide (xs.length * k.toNat ≤ line))) (.ok (List.replicate k.toNat xs).flatten)
/-- a slice's bound within 0 .. n -/
def sIx (n d : Nat) : Option Int → Nat
  | none => d
  | some v => if v < 0 then (v + (n : Int)).toNat else min v.toNat n
def cut {α : Type} (xs : List α) (lo hi : Option Int) : List α := (xs.drop (sIx xs.length 0 lo)).take (sIx xs.length xs.length hi - sIx xs.length 0 lo)

def unopt {α : Type} : Option α → Res α
  | some a => .ok a
  | none => .stuck
def dvm (i j : Int) : Res (Int × Int) := chk (decide (0 < j) && decide (j < 1073741824)) (.ok (i / j, i % j))
def strI (i : Int) : Res Tx := chk (decide (i.natAbs.log2 < 1920) && decide ((tx (toString i)).length ≤ line)) (.ok (tx (toString i)))
def joinT (sep : Tx) : List Tx → Tx
  | [] => []
  | [p] => p
  | p :: q :: r => p ++ (sep ++ joinT sep (q :: r))
def joinS (sep : Tx) (ps : List Tx) : Res Tx := chk (decide ((ps.map List.length).sum + ps.length * sep.length ≤ line)) (.ok (joinT sep ps))
/-! ### walks -/
/-- a loop that carries s and never leaves -/
def fold {α S : Type} (f : α → S → Res S) : List α → S → Res S
  | [], s => .ok s
  | x :: r, s => (f x s).bind fun s' => fold f r s'
/-- a loop that may leave: nx, cnt go on, brk ends it, ret leaves -/
def loop {α S B : Type} (f : α → S → Res (Ctl S B)) : List α → S → Res (Ctl S B)
  | [], s => .ok (.nx s)
  | x :: r, s => (f x s).bind fun c =>
    match c with
    | .nx s' => loop f r s'
    | .cnt s' => loop f r s'
    | .brk s' => .ok (.nx s')
    | .ret b => .ok (.ret b)
/-- a while with so many turns at most -/
def whil {S B : Type} (t : S → Res Bool) (f : S → Res (Ctl S B)) : Nat → S → Res (Ctl S B)
  | 0, _ => .stuck
  | n + 1, s => (t s).bind fun b => if b then (f s).bind fun c =>
      match c with
      | .nx s' => whil t f n s'
      | .cnt s' => whil t f n s'
      | .brk s' => .ok (.nx s')
      | .ret r => .ok (.ret r)
    else .ok (.nx s)
/-- .. that only goes on -/
def whilN {S : Type} (t : S → Res Bool) (f : S → Res S) : Nat → S → Res S
  | 0, _ => .stuck
  | n + 1, s => (t s).bind fun b => if b then (f s).bind fun s' => whilN t f n s' else .ok s
def mapK {α β : Type} (f : α → Res β) : List α → Res (List β)
  | [] => .ok []
  | x :: r => (f x).calm.bind fun y => (mapK f r).bind fun ys => .ok (y :: ys)
/-- [e for x in xs] -/
def mapC {α β : Type} (f : α → Res β) (xs : List α) : Res (List β) := chk (decide (xs.length ≤ line)) (mapK f xs)
def filK {α β : Type} (t : α → Res Bool) (f : α → Res β) : List α → Res (List β)
  | [] => .ok []
  | x :: r => (t x).calm.bind fun b => if b then (f x).calm.bind fun y => (filK t f r).bind fun ys => .ok (y :: ys) else filK t f r
/-- [e for x in xs if t] -/
def filC {α β : Type} (t : α → Res Bool) (f : α → Res β) (xs : List α) : Res (List β) := chk (decide (xs.length ≤ line)) (filK t f xs)
/-- the lists that a walk gives, one behind the other -/
def catK {α β : Type} (f : α → Res (List β)) : List α → Res (List β)
  | [] => .ok []
  | x :: r => (f x).calm.bind fun ys => (catK f r).bind fun zs => .ok (ys ++ zs)
/-- [e for x in xs for y in ..] -/
def catC {α β : Type} (f : α → Res (List β)) (xs : List α) : Res (List β) := (catK f xs).bind fun ys => chk (decide (ys.length ≤ line)) (.ok ys)
def range (a b : Int) : List Int := (List.range (b - a).toNat).map fun (i : Nat) => a + (i : Int)

def rng (a b : Int) : Res (List Int) := chk (decide (-(2 ^ 62) ≤ a) && (decide (a < 2 ^ 62) && (decide (-(2 ^ 62) ≤ b) && decide (b < 2 ^ 62)))) (.ok (range a b))

def revL (n : Int) : Res (List Int) := chk (decide (-(2 ^ 62) ≤ n) && decide (n ≤ 16777216)) (.ok (range 0 n).reverse)
def enumL {α : Type} (xs : List α) : List (Int × α) := (List.range xs.length).zipWith (fun (i : Nat) x => ((i : Int), x)) xs
def rangeN (a b c : Int) : Nat := if a < b then ((b - a - 1) / c + 1).toNat else 0
def rangeC (a b c : Int) : List Int := (List.range (rangeN a b c)).map fun (i : Nat) => a + (i : Int) * c
def rngC (a b c : Int) : Res (List Int) := chk (decide (-(2 ^ 62) ≤ a) && (decide (a < 2 ^ 62) && (decide (-(2 ^ 62) ≤ b) && (decide (b < 2 ^ 62) && (decide (0 < c) && decide (c < 1073741824)))))) (.ok (rangeC a b c))

def withCtl {S B : Type} (m : Res (Ctl S B)) (f : S → Res B) : Res B := m.bind fun c =>
  match c with
  | .nx s => f s
  | .ret b => .ok b
  | .brk _ => .stuck
  | .cnt _ => .stuck
def thenCtl {S T B : Type} (m : Res (Ctl S B)) (f : S → Res (Ctl T B)) : Res (Ctl T B) := m.bind fun c =>
  match c with
  | .nx s => f s
  | .ret b => .ok (.ret b)
  | .brk _ => .stuck
  | .cnt _ => .stuck
/-- whether a text starts so -/
def starts (s p : Tx) : Bool := p.isPrefixOf s
/-- int of a digit's text -/
def intT (t : Tx) : Res Int :=
  match t with
  | [c] => chk (decide (48 ≤ c) && decide (c ≤ 57)) (.ok ((c : Int) - 48))
  | _ => .stuck
/-- how often it stands in a list -/
def cnt {α : Type} [DecidableEq α] (xs : List α) (k : α) : Int := (xs.countP fun x => decide (x = k) : Nat)
/-- a text made so long with a sign behind it -/
def ljust (s : Tx) (n : Int) (c : Nat) : Res Tx := chk (decide (0 ≤ n) && (decide (n ≤ 16777216) && decide (s.length ≤ line))) (.ok (s ++ List.replicate (n.toNat - s.length) c))
end R
/-! Rt1: places (Sl) with what they own; what holds of them over a frozen part G of the heap H. -/
namespace Rt
open PySem L2 R
abbrev Ex := Evl.Ex

/-- what a value at hand is, over the frozen part G and the heap H; ps: the addresses that it owns -/
structure Sl where
  rel : Hp → Hp → V → List Addr → Prop
  mono : ∀ {G H G' H' : Hp} {v : V} {ps : List Addr}, rel G H v ps → Ex G G' → (∀ p ∈ ps, H' p = H p) → rel G' H' v ps
/-- what a value is over the frozen part alone -/
structure Cod (α : Type) where
  rel : Hp → V → α → Prop
  mono : ∀ {G G' : Hp} {v : V} {a : α}, rel G v a → Ex G G' → rel G' v a
def fz {α : Type} (c : Cod α) (a : α) : Sl := ⟨fun G _ v ps => c.rel G v a ∧ ps = [], fun h e _ => ⟨c.mono h.1 e, h.2⟩⟩
/-- an owned list whose items are frozen -/
def ol {α : Type} (c : Cod α) (xs : List α) : Sl :=
  ⟨fun G H v ps => ∃ p vs, v = .ref p ∧ ps = [p] ∧ H p = some (.lst vs) ∧ Paired (c.rel G) vs xs, fun h e k => by
    obtain ⟨p, vs, h1, h2, h3, h4⟩ := h
    refine ⟨p, vs, h1, h2, ?_, Paired.mono (fun _ _ q => c.mono q e) h4⟩
    rw [k p (by rw [h2]; exact List.mem_cons_self)]
    exact h3⟩

abbrev Pl := Option Sl × Option V
def plOk (G H : Hp) (o : Option Sl) (w : Option V) (ps : List Addr) : Prop :=
  match o with
  | none => ps = []
  | some s => ∃ v, w = some v ∧ s.rel G H v ps
def All (G H : Hp) : List Pl → List Addr → Prop
  | [], ps => ps = []
  | p :: l, ps => ∃ p1 p2, ps = p1 ++ p2 ∧ plOk G H p.1 p.2 p1 ∧ All G H l p2
theorem plOk.mono {G H G' H' : Hp} {o : Option Sl} {w : Option V} {ps : List Addr} (h : plOk G H o w ps) (e : Ex G G') (k : ∀ p ∈ ps, H' p = H p) : plOk G' H' o w ps := by
  cases o with
  | none => exact h
  | some s =>
    obtain ⟨v, h1, h2⟩ := h
    exact ⟨v, h1, s.mono h2 e k⟩
theorem All.mono {G H G' H' : Hp} : ∀ {l : List Pl} {ps : List Addr}, All G H l ps → Ex G G' → (∀ p ∈ ps, H' p = H p) → All G' H' l ps
  | [], _, h, _, _ => h
  | _ :: _, _, ⟨p1, p2, h1, h2, h3⟩, e, k => ⟨p1, p2, h1, h2.mono e (fun p hp => k p (by rw [h1]; exact List.mem_append_left _ hp)), h3.mono e fun p hp => k p (by rw [h1]; exact List.mem_append_right _ hp)⟩
theorem All.perm {G H : Hp} {l l' : List Pl} (hp : l.Perm l') : ∀ {ps : List Addr}, All G H l ps → ∃ ps', ps.Perm ps' ∧ All G H l' ps' := by
  induction hp with
  | nil => intro ps h; exact ⟨ps, .refl _, h⟩
  | cons x _ ih =>
    rintro ps ⟨p1, p2, rfl, h2, h3⟩
    obtain ⟨q, k1, k2⟩ := ih h3
    exact ⟨p1 ++ q, List.Perm.append_left _ k1, p1, q, rfl, h2, k2⟩
  | swap x y l =>
    rintro ps ⟨p1, p2, rfl, h2, p3, p4, rfl, h3, h4⟩
    refine ⟨p3 ++ (p1 ++ p4), ?_, p3, p1 ++ p4, rfl, h3, p1, p4, rfl, h2, h4⟩
    rw [← List.append_assoc, ← List.append_assoc]
    exact List.Perm.append_right _ List.perm_append_comm
  | trans _ _ ih1 ih2 =>
    intro ps h
    obtain ⟨q, k1, k2⟩ := ih1 h
    obtain ⟨r, k3, k4⟩ := ih2 k2
    exact ⟨r, k1.trans k3, k4⟩
theorem All.append {G H : Hp} : ∀ {l m : List Pl} {ps : List Addr}, All G H (l ++ m) ps ↔ ∃ p1 p2, ps = p1 ++ p2 ∧ All G H l p1 ∧ All G H m p2
  | [], m, ps => ⟨fun h => ⟨[], ps, rfl, rfl, h⟩, fun ⟨p1, p2, h1, h2, h3⟩ => by
      have e : p1 = [] := h2
      rw [h1, e]
      exact h3⟩
  | x :: l, m, ps => ⟨fun ⟨p1, p2, h1, h2, h3⟩ => by
      obtain ⟨q1, q2, k1, k2, k3⟩ := All.append.mp h3
      exact ⟨p1 ++ q1, q2, by rw [h1, k1, List.append_assoc], ⟨p1, q1, rfl, h2, k2⟩, k3⟩, fun ⟨p1, p2, h1, ⟨q1, q2, k1, k2, k3⟩, h3⟩ => by
      exact ⟨q1, q2 ++ p2, by rw [h1, k1, List.append_assoc], k2, All.append.mpr ⟨q2, p2, rfl, k3, h3⟩⟩⟩

/-- Z: what must stand to the end; G0: what was frozen at the entry; G, H: the frozen part and the heap now; l: what is at hand -/
structure Okl (Z G0 : Hp) (l : List Pl) (G H : Hp) : Prop where
  zh : Ex Z H
  gg : Ex G0 G
  gh : Ex G H
  fr : ∀ q o u, Z q = some o → G q = some u → G0 q = some u
  own : ∃ ps, All G H l ps ∧ ps.Nodup ∧ ∀ p ∈ ps, Z p = none ∧ G p = none ∧ ∃ o, H p = some o
section
variable {Z G0 G H : Hp} {l m : List Pl}
theorem Okl.perm (k : Okl Z G0 l G H) (p : l.Perm m) : Okl Z G0 m G H := by
  obtain ⟨ps, h1, h2, h3⟩ := k.own
  obtain ⟨qs, k1, k2⟩ := h1.perm p
  exact ⟨k.zh, k.gg, k.gh, k.fr, qs, k2, k1.nodup_iff.mp h2, fun q hq => h3 q (k1.mem_iff.mpr hq)⟩
theorem Okl.drop {x : Pl} (k : Okl Z G0 (x :: l) G H) : Okl Z G0 l G H := by
  obtain ⟨ps, ⟨p1, p2, rfl, _, h4⟩, h2, h3⟩ := k.own
  exact ⟨k.zh, k.gg, k.gh, k.fr, p2, h4, (List.nodup_append.mp h2).2.1, fun q hq => h3 q (List.mem_append_right _ hq)⟩
theorem Okl.forget {o : Option Sl} {w w' : Option V} (k : Okl Z G0 ((o, w) :: l) G H) : Okl Z G0 ((none, w') :: l) G H := by
  obtain ⟨ps, h1, h2, h3⟩ := k.drop.own
  exact ⟨k.zh, k.gg, k.gh, k.fr, ps, ⟨[], ps, rfl, rfl, h1⟩, h2, h3⟩
theorem Okl.sub {S : List Pl} (k : Okl Z G0 (S ++ l) G H) : Okl Z G0 l G H := by
  induction S with
  | nil => exact k
  | cons x r ih => exact ih k.drop
/-- something frozen comes on top -/
theorem Okl.push {α : Type} {c : Cod α} {a : α} {v : V} (k : Okl Z G0 l G H) (h : c.rel G v a) : Okl Z G0 ((some (fz c a), some v) :: l) G H := by
  obtain ⟨ps, h1, h2, h3⟩ := k.own
  exact ⟨k.zh, k.gg, k.gh, k.fr, ps, ⟨[], ps, rfl, ⟨v, rfl, h, rfl⟩, h1⟩, h2, h3⟩
theorem Okl.top {α : Type} {c : Cod α} {a : α} {w : Option V} (k : Okl Z G0 ((some (fz c a), w) :: l) G H) : ∃ v, w = some v ∧ c.rel G v a := by
  obtain ⟨ps, ⟨p1, p2, rfl, ⟨v, h1, h2⟩, _⟩, _, _⟩ := k.own
  exact ⟨v, h1, h2.1⟩
/-- a new object is laid, and frozen -/
theorem Okl.lay {q : Addr} {o : HO} (k : Okl Z G0 l G H) (hq : H q = none) : Okl Z G0 l (upd G q o) (upd H q o) := by
  have gq : G q = none := Evl.fresh_back k.gh hq
  have zq : Z q = none := Evl.fresh_back k.zh hq
  obtain ⟨ps, h1, h2, h3⟩ := k.own
  have np : ∀ p ∈ ps, p ≠ q := fun p hp => by
    obtain ⟨_, _, u, hu⟩ := h3 p hp
    exact ne_of_none hu hq
  refine ⟨k.zh.trans (Evl.Ex.new hq), k.gg.trans (Evl.Ex.new gq), fun a u e => ?_, fun a u w hz hg => ?_, ps, h1.mono (Evl.Ex.new gq) fun p hp => upd_ne (np p hp), h2, fun p hp => ?_⟩
  · by_cases ha : a = q
    · subst ha
      rw [upd_same] at e ⊢
      exact e
    · rw [upd_ne ha] at e ⊢
      exact k.gh a u e
  · rw [upd_ne (ne_of_none hz zq)] at hg
    exact k.fr a u w hz hg
  · rw [upd_ne (np p hp), upd_ne (np p hp)]
    exact h3 p hp
/-- a new object is laid, and owned -/
theorem Okl.layOwn {q : Addr} {o : HO} {s : Sl} {v : V} (k : Okl Z G0 l G H) (hq : H q = none) (hs : s.rel G (upd H q o) v [q]) : Okl Z G0 ((some s, some v) :: l) G (upd H q o) := by
  have gq : G q = none := Evl.fresh_back k.gh hq
  have zq : Z q = none := Evl.fresh_back k.zh hq
  obtain ⟨ps, h1, h2, h3⟩ := k.own
  have np : ∀ p ∈ ps, p ≠ q := fun p hp => by
    obtain ⟨_, _, u, hu⟩ := h3 p hp
    exact ne_of_none hu hq
  refine ⟨k.zh.trans (Evl.Ex.new hq), k.gg, k.gh.trans (Evl.Ex.new hq), k.fr, [q] ++ ps, ⟨[q], ps, rfl, ⟨v, rfl, hs⟩, h1.mono (Evl.Ex.refl G) fun p hp => upd_ne (np p hp)⟩, ?_, fun p hp => ?_⟩
  · exact List.nodup_cons.mpr ⟨fun hm => np q hm rfl, h2⟩
  · rcases List.mem_cons.mp hp with rfl | hp
    · exact ⟨zq, gq, o, upd_same⟩
    · rw [upd_ne (np p hp)]
      exact h3 p hp
/-- the owned object on top is changed -/
theorem Okl.write {p : Addr} {o : HO} {s s' : Sl} {w : Option V} {v' : V} (k : Okl Z G0 ((some s, w) :: l) G H) (h1 : ∀ v ps, w = some v → s.rel G H v ps → ps = [p]) (hs : s'.rel G (upd H p o) v' [p]) : Okl Z G0 ((some s', some v') :: l) G (upd H p o) := by
  obtain ⟨ps, ⟨p1, p2, rfl, ⟨v, e, h4⟩, h5⟩, h2, h3⟩ := k.own
  obtain rfl := h1 v p1 e h4
  obtain ⟨zp, gp, u, hu⟩ := h3 p (List.mem_append_left _ List.mem_cons_self)
  have nd := List.nodup_cons.mp h2
  have np : ∀ q ∈ p2, q ≠ p := fun q hq z => nd.1 (z ▸ hq)
  refine ⟨fun a x e => ?_, k.gg, fun a x e => ?_, k.fr, [p] ++ p2, ⟨[p], p2, rfl, ⟨v', rfl, hs⟩, h5.mono (Evl.Ex.refl G) fun q hq => upd_ne (np q hq)⟩, h2, fun q hq => ?_⟩
  · rw [upd_ne (ne_of_none e zp)]
    exact k.zh a x e
  · rw [upd_ne (ne_of_none e gp)]
    exact k.gh a x e
  · obtain ⟨a, b, x, hx⟩ := h3 q hq
    refine ⟨a, b, ?_⟩
    by_cases e : q = p
    · subst e
      exact ⟨o, upd_same⟩
    · exact ⟨x, by rw [upd_ne e]; exact hx⟩
/-- the owned object on top is frozen -/
theorem Okl.freeze {p : Addr} {o : HO} {s : Sl} {w : Option V} {α : Type} {c : Cod α} {a : α} {v' : V} (k : Okl Z G0 ((some s, w) :: l) G H) (h1 : ∀ v ps, w = some v → s.rel G H v ps → ps = [p]) (hp : H p = some o) (hs : c.rel (upd G p o) v' a) :
    Okl Z G0 ((some (fz c a), some v') :: l) (upd G p o) H := by
  obtain ⟨ps, ⟨p1, p2, rfl, ⟨v, e, h4⟩, h5⟩, h2, h3⟩ := k.own
  obtain rfl := h1 v p1 e h4
  obtain ⟨zp, gp, u, hu⟩ := h3 p (List.mem_append_left _ List.mem_cons_self)
  have nd := List.nodup_cons.mp h2
  have np : ∀ q ∈ p2, q ≠ p := fun q hq z => nd.1 (z ▸ hq)
  refine ⟨k.zh, k.gg.trans (Evl.Ex.new gp), fun a x e => ?_, fun a x y hz hg => ?_, p2, ⟨[], p2, rfl, ⟨v', rfl, hs, rfl⟩, h5.mono (Evl.Ex.new gp) fun _ _ => rfl⟩, nd.2, fun q hq => ?_⟩
  · by_cases ha : a = p
    · subst ha
      rw [upd_same] at e
      rw [hp]
      exact e
    · rw [upd_ne ha] at e
      exact k.gh a x e
  · rw [upd_ne (ne_of_none hz zp)] at hg
    exact k.fr a x y hz hg
  · obtain ⟨a, b, x⟩ := h3 q (List.mem_append_right _ hq)
    exact ⟨a, by rw [upd_ne (np q hq)]; exact b, x⟩

/-! ### a call: its arguments, what the caller has beside them -/
/-- the heap without the addresses ps -/
def wo (H : Hp) (ps : List Addr) : Hp := fun b => if b ∈ ps then none else H b
theorem wo_ex {ps : List Addr} : Ex (wo H ps) H := fun a o e => by
  unfold wo at e
  split at e
  · cases e
  · exact e
theorem wo_in {ps : List Addr} {p : Addr} (h : p ∈ ps) : wo H ps p = none := if_pos h
theorem wo_out {ps : List Addr} {p : Addr} (h : p ∉ ps) : wo H ps p = H p := if_neg h
/-- what a callee gets of l ++ m when l is handed in; what it gives back brings all of m -/
theorem Okl.lend (k : Okl Z G0 (l ++ m) G H) : ∃ Zc : Hp, Okl Zc G l G H ∧ ∀ (r : List Pl) (G' H' : Hp), Okl Zc G r G' H' → Okl Z G0 (r ++ m) G' H' := by
  obtain ⟨ps, ha, nd, h3⟩ := k.own
  obtain ⟨p1, p2, rfl, a1, a2⟩ := All.append.mp ha
  have dj := (List.nodup_append.mp nd).2.2
  have n12 : ∀ q ∈ p2, q ∉ p1 := fun q hq hm => dj q hm q hq rfl
  refine ⟨wo H p1, ⟨wo_ex, Evl.Ex.refl G, k.gh, fun _ _ _ _ e => e, p1, a1, (List.nodup_append.mp nd).1, fun p hp => ⟨wo_in hp, (h3 p (List.mem_append_left _ hp)).2⟩⟩, fun r G' H' j => ?_⟩
  obtain ⟨rs, b1, b2, b3⟩ := j.own
  have keep : ∀ q ∈ p2, H' q = H q := fun q hq => by
    obtain ⟨_, _, o, ho⟩ := h3 q (List.mem_append_right _ hq)
    rw [ho]
    exact j.zh q o (by rw [wo_out (n12 q hq)]; exact ho)
  refine ⟨fun a o e => j.zh a o ?_, k.gg.trans j.gg, j.gh, fun q o u hz hg => ?_, rs ++ p2, All.append.mpr ⟨rs, p2, rfl, b1, a2.mono j.gg keep⟩, ?_, fun p hp => ?_⟩
  · have n : a ∉ p1 := fun hm => by
      have z := (h3 a (List.mem_append_left _ hm)).1
      rw [e] at z
      cases z
    rw [wo_out n]
    exact k.zh a o e
  · have n : q ∉ p1 := fun hm => by
      have z := (h3 q (List.mem_append_left _ hm)).1
      rw [hz] at z
      cases z
    exact k.fr q o u hz (j.fr q o u (by rw [wo_out n]; exact k.zh q o hz) hg)
  · refine List.nodup_append.mpr ⟨b2, (List.nodup_append.mp nd).2.1, fun x hx y hy e => ?_⟩
    subst e
    obtain ⟨_, _, o, ho⟩ := h3 x (List.mem_append_right _ hy)
    have z := (b3 x hx).1
    rw [wo_out (n12 x hy), ho] at z
    cases z
  · rcases List.mem_append.mp hp with hp | hp
    · obtain ⟨z1, z2, z3⟩ := b3 p hp
      refine ⟨?_, z2, z3⟩
      cases e : Z p with
      | none => rfl
      | some o =>
        have n : p ∉ p1 := fun hm => by
          have z := (h3 p (List.mem_append_left _ hm)).1
          rw [e] at z
          cases z
        rw [wo_out n, k.zh p o e] at z1
        cases z1
    · obtain ⟨z1, z2, o, ho⟩ := h3 p (List.mem_append_right _ hp)
      refine ⟨z1, ?_, o, by rw [keep p hp]; exact ho⟩
      cases e : G' p with
      | none => rfl
      | some u =>
        have z := j.fr p o u (by rw [wo_out (n12 p hp)]; exact ho) e
        rw [z2] at z
        cases z
end
end Rt
/-! Rt2: an expression's mirror (EX), a test's (ET), arguments' (AX). -/
namespace Rt
open PySem L2 R

/-- where the classes of the errors stand -/
structure XT where
  oor : Addr
  txt : Addr
  cl : Nat → Addr
  ks : List Nat
  ht : Bool
def sv (t : Tx) : V := .str ⟨t.toArray⟩
def XT.rel (T : XT) (e : Exn) (cls : Value) (d : Option Addr) (G : Hp) : Prop :=
  match e with
  | .oor n => cls = .ref T.oor ∧ n.length ≤ R.line ∧ ∃ dd, d = some dd ∧ G dd = some (.xd [("name", sv n)])
  | .txt l c w => cls = .ref T.txt ∧ T.ht = true ∧ w.length ≤ R.line ∧ ∃ dd, d = some dd ∧ G dd = some (.xd [("words", sv w), ("column", .int c), ("line", .int l)])
  | .cls k => cls = .ref (T.cl k) ∧ d = none ∧ k ∈ T.ks

theorem XT.rel_mono {T : XT} {e : Exn} {cls : Value} {d : Option Addr} {G G' : Hp} (h : T.rel e cls d G) (x : Ex G G') : T.rel e cls d G' := by
  cases e with
  | oor n => obtain ⟨h1, h2, dd, h3, h4⟩ := h; exact ⟨h1, h2, dd, h3, x dd _ h4⟩
  | txt l c w => obtain ⟨h1, h0, h2, dd, h3, h4⟩ := h; exact ⟨h1, h0, h2, dd, h3, x dd _ h4⟩
  | cls k => exact h

abbrev Ctx := List (Option Sl)
structure Okc (Z G0 : Hp) (S : List Pl) (Γ : Ctx) (σ : St) (G H : Hp) : Prop where
  len : Γ.length = σ.length
  ok : Okl Z G0 (S ++ Γ.zip σ) G H
theorem Okc.of {Z G0 : Hp} {S : List Pl} {x : Pl} {Γ : Ctx} {σ : St} {G H : Hp} (k : Okc Z G0 (x :: S) Γ σ G H) : Okl Z G0 (x :: (S ++ Γ.zip σ)) G H := k.ok
theorem Okc.drop {Z G0 : Hp} {S : List Pl} {x : Pl} {Γ : Ctx} {σ : St} {G H : Hp} (k : Okc Z G0 (x :: S) Γ σ G H) : Okc Z G0 S Γ σ G H := ⟨k.len, k.of.drop⟩
theorem Okc.pushf {Z G0 : Hp} {S : List Pl} {Γ : Ctx} {σ : St} {G H : Hp} {α : Type} {c : Cod α} {a : α} {v : V} (k : Okc Z G0 S Γ σ G H) (h : c.rel G v a) : Okc Z G0 ((some (fz c a), some v) :: S) Γ σ G H := ⟨k.len, k.ok.push h⟩
/-- Γ says at least what Δ says -/
def Wk (Γ Δ : Ctx) : Prop := ∀ Z G0 S σ G H, Okc Z G0 S Γ σ G H → Okc Z G0 S Δ σ G H
theorem Wk.refl (Γ : Ctx) : Wk Γ Γ := fun _ _ _ _ _ _ k => k
theorem Wk.trans {Γ Δ E : Ctx} (a : Wk Γ Δ) (b : Wk Δ E) : Wk Γ E := fun _ _ _ _ _ _ k => b _ _ _ _ _ _ (a _ _ _ _ _ _ k)
theorem mid {l m : List Pl} {x : Pl} : (l ++ x :: m).Perm (x :: (l ++ m)) := List.perm_middle
theorem Wk.cons {o : Option Sl} {Γ Δ : Ctx} (w : Wk Γ Δ) : Wk (o :: Γ) (o :: Δ) := fun Z G0 S σ G H k => by
  cases σ with
  | nil => exact absurd k.len (by simp)
  | cons x σ =>
    have e : Okc Z G0 ((o, x) :: S) Γ σ G H := ⟨Nat.succ.inj k.len, k.ok.perm mid⟩
    have f := w _ _ _ _ _ _ e
    exact ⟨congrArg Nat.succ f.len, f.ok.perm mid.symm⟩
theorem Wk.none1 {o : Option Sl} {Γ Δ : Ctx} (w : Wk Γ Δ) : Wk (o :: Γ) (none :: Δ) := fun Z G0 S σ G H k => by
  cases σ with
  | nil => exact absurd k.len (by simp)
  | cons x σ =>
    have e : Okc Z G0 ((none, x) :: S) Γ σ G H := ⟨Nat.succ.inj k.len, (k.ok.perm mid).forget⟩
    have f := w _ _ _ _ _ _ e
    exact ⟨congrArg Nat.succ f.len, f.ok.perm mid.symm⟩
theorem Wk.none : ∀ {Γ : Ctx}, Wk Γ (List.replicate Γ.length none)
  | [] => Wk.refl []
  | _ :: _ => Wk.none1 Wk.none
theorem Wk.nones {Γ : Ctx} {n : Nat} (h : Γ.length = n) : Wk Γ (List.replicate n Option.none) := h ▸ Wk.none

/-- an expression: its derivation, and what it gives -/
structure EX (X : Cx) (T : XT) (W : WX) (Γx Γ : Ctx) (e : Expr) (te : TE) {α : Type} (m : Res α) (R : α → Sl) (Γo : α → Ctx) : Prop where
  pe : PE X e te
  ev : ∀ (Z G0 : Hp) (S : List Pl) (σ : St) (G H : Hp) (Q : VK), Okc Z G0 S Γ σ G H →
    m.wp (fun a => ∀ v G' H', Okc Z G0 ((some (R a), some v) :: S) (Γo a) σ G' H' → Q v H') (fun ex => ∀ cls d G' H', Okc Z G0 S Γx σ G' H' → T.rel ex cls d G' → W cls d σ H') → te σ H Q
structure ET (X : Cx) (T : XT) (W : WX) (Γx Γ : Ctx) (e : Expr) (tt : TT) {α : Type} (m : Res α) (b : α → Bool) (Γo : α → Ctx) : Prop where
  pt : PT X e tt
  ev : ∀ (Z G0 : Hp) (S : List Pl) (σ : St) (G H : Hp) (Q : Bool → Hp → Prop), Okc Z G0 S Γ σ G H →
    m.wp (fun a => ∀ G' H', Okc Z G0 S (Γo a) σ G' H' → Q (b a) H') (fun ex => ∀ cls d G' H', Okc Z G0 S Γx σ G' H' → T.rel ex cls d G' → W cls d σ H') → tt σ H Q
def plz (Rs : List Sl) (vs : List V) : List Pl := (Rs.map some).zip (vs.map some)
structure AX (X : Cx) (T : XT) (W : WX) (Γx Γ : Ctx) (es : List Expr) (ta : TA) {α : Type} (m : Res α) (Rs : α → List Sl) (Γo : α → Ctx) : Prop where
  pa : PA X es ta
  ev : ∀ (Z G0 : Hp) (S : List Pl) (σ : St) (G H : Hp) (Q : List V → Hp → Prop), Okc Z G0 S Γ σ G H →
    m.wp (fun a => ∀ vs G' H', (Rs a).length = vs.length → Okc Z G0 (plz (Rs a) vs ++ S) (Γo a) σ G' H' → Q vs H') (fun ex => ∀ cls d G' H', Okc Z G0 S Γx σ G' H' → T.rel ex cls d G' → W cls d σ H') → ta σ H Q
/-- m goes on from me by k -/
def Bd {α β : Type} (m : Res β) (me : Res α) (k : α → Res β) : Prop := ∀ Q E, m.wp Q E → me.wp (fun a => (k a).wp Q E) E
theorem Bd.ok {α β : Type} {a : α} {k : α → Res β} : Bd (k a) (.ok a) k := fun _ _ h => h
theorem Bd.bind {α β γ : Type} {m : Res γ} {f : γ → Res β} {g : γ → Res α} {k : α → Res β} (h : ∀ x, Bd (f x) (g x) k) : Bd (m.bind f) (m.bind g) k := fun Q E w => by
  cases m with
  | ok a => exact h a Q E w
  | exn e => exact w
  | stuck => exact w
theorem Bd.done {α β : Type} {m : Res β} {a : α} {k : α → Res β} (h : m = k a) : Bd m (.ok a) k := fun _ _ w => by
  rw [h] at w
  exact w
theorem Bd.don' {α β : Type} {m : Res β} {a : α} {k : α → Res β} (h : m = k a) : Bd m (.ok a) k := Bd.done h
theorem Bd.okl {α β γ : Type} {m : Res β} {a : γ} {f : γ → Res α} {k : α → Res β} (h : Bd m (f a) k) : Bd m ((Res.ok a).bind f) k := h
theorem Bd.assoc {α β γ δ : Type} {m : Res β} {a : Res γ} {f : γ → Res δ} {g : δ → Res α} {k : α → Res β} (h : Bd m (a.bind fun x => (f x).bind g) k) : Bd m ((a.bind f).bind g) k := by
  rw [Res.bind_assoc]
  exact h
theorem Bd.eta {α β : Type} {m : Res β} {g : β → Res α} {k : α → Res β} (h : ∀ x, Bd (.ok x) (g x) k) : Bd m (m.bind g) k := fun Q E w => by
  cases m with
  | ok a => exact h a Q E w
  | exn e => exact w
  | stuck => exact w
theorem Bd.ite {α β : Type} {c : Bool} {A' B' : Res β} {A B : Res α} {k : α → Res β} (h1 : Bd A' A k) (h2 : Bd B' B k) : Bd (if c then A' else B') (if c then A else B) k := by
  cases c
  · exact h2
  · exact h1
theorem Bd.iteB {α β γ : Type} {c : Bool} {A' B' A B : Res γ} {f : γ → Res β} {g : γ → Res α} {k : α → Res β} (h1 : Bd A' A .ok) (h2 : Bd B' B .ok) (h3 : ∀ x, Bd (f x) (g x) k) : Bd ((if c then A' else B').bind f) ((if c then A else B).bind g) k := fun Q E w => by
  have go : ∀ {M' M : Res γ}, Bd M' M .ok → (M'.bind f).wp Q E → (M.bind g).wp (fun a => (k a).wp Q E) E := fun {M' M} h w => by
    have z := h (fun x => (f x).wp Q E) E (Res.wp_bind w)
    cases M with
    | ok a => exact h3 a Q E z
    | exn e => exact z
    | stuck => exact z
  cases c
  · exact go h2 w
  · exact go h1 w
theorem Bd.iteE {α β : Type} {c : Bool} {A' B' A B : Res β} {g : β → Res α} {k : α → Res β} (h1 : Bd A' A .ok) (h2 : Bd B' B .ok) (h3 : ∀ x, Bd (.ok x) (g x) k) : Bd (if c then A' else B') ((if c then A else B).bind g) k := fun Q E w => by
  have w' : ((if c then A' else B').bind .ok).wp Q E := by rw [Res.bind_ok]; exact w
  exact Bd.iteB h1 h2 h3 Q E w'
theorem Bd.iteL {α β γ : Type} {c : Bool} {A' B' : Res γ} {f : γ → Res β} {A B : Res α} {k : α → Res β} (h1 : Bd (A'.bind f) A k) (h2 : Bd (B'.bind f) B k) : Bd ((if c then A' else B').bind f) (if c then A else B) k := by
  cases c
  · exact h2
  · exact h1
theorem Bd.assocL {α β γ δ : Type} {a : Res γ} {f : γ → Res δ} {g : δ → Res β} {me : Res α} {k : α → Res β} (h : Bd (a.bind fun x => (f x).bind g) me k) : Bd ((a.bind f).bind g) me k := by
  rw [Res.bind_assoc]
  exact h
theorem Bd.oklL {α β γ : Type} {a : γ} {f : γ → Res β} {me : Res α} {k : α → Res β} (h : Bd (f a) me k) : Bd ((Res.ok a).bind f) me k := h
theorem Bd.same {α : Type} {m : Res α} : Bd m m (fun a => .ok a) := fun Q E w => by
  cases m with
  | ok a => exact w
  | exn e => exact w
  | stuck => exact w
theorem Bd.at {α β : Type} {m : Res α} {k : α → Res β} : Bd (m.bind k) m k := fun _ _ h => Res.wp_bind h

/-! ### what a place is -/
def cInt : Cod Int := ⟨fun _ v i => v = .int i, fun h _ => h⟩
def cBool : Cod Bool := ⟨fun _ v b => v = .bl b, fun h _ => h⟩
def cTx : Cod Tx := ⟨fun _ v t => v = sv t ∧ t.length ≤ R.line, fun h _ => h⟩
def cNon : Cod Unit := ⟨fun _ v _ => v = .non, fun h _ => h⟩
def cOpt {α : Type} (c : Cod α) : Cod (Option α) := ⟨fun G v o => match o with | none => v = .non | some a => c.rel G v a ∧ v ≠ .non, fun {G G' v o} h e => by
  cases o with
  | none => exact h
  | some a => exact ⟨c.mono h.1 e, h.2⟩⟩
/-- a list of the program's own -/
def cList {α : Type} (c : Cod α) : Cod (List α) := ⟨fun G v xs => ∃ p vs, v = .ref p ∧ G p = some (.lst vs) ∧ Paired (c.rel G) vs xs, fun h e => by
  obtain ⟨p, vs, h1, h2, h3⟩ := h
  exact ⟨p, vs, h1, e p _ h2, Paired.mono (fun _ _ q => c.mono q e) h3⟩⟩
/-- any list that may be read (the script) -/
def cSq (K : PySem.W.Frag) {α : Type} (c : Cod α) : Cod (List α) := ⟨fun G v xs => ∃ p vs, v = .ref p ∧ SqL K G p vs ∧ Paired (c.rel G) vs xs, fun h e => by
  obtain ⟨p, vs, h1, h2, h3⟩ := h
  exact ⟨p, vs, h1, Evl.ex_l e h2, Paired.mono (fun _ _ q => c.mono q e) h3⟩⟩
theorem cl_sq {K : PySem.W.Frag} {G H : Hp} {p : Addr} {vs : List V} (e : Ex G H) (h : G p = some (.lst vs)) : SqL K H p vs := SqL.of (e p _ h)
/-- the items of a tuple -/
structure Cods (α : Type) where
  rel : Hp → List V → α → Prop
  mono : ∀ {G G' : Hp} {vs : List V} {a : α}, rel G vs a → Ex G G' → rel G' vs a
def dNil : Cods Unit := ⟨fun _ vs _ => vs = [], fun h _ => h⟩
def dCons {α β : Type} (c : Cod α) (d : Cods β) : Cods (α × β) := ⟨fun G vs a => ∃ v r, vs = v :: r ∧ c.rel G v a.1 ∧ d.rel G r a.2, fun ⟨v, r, h1, h2, h3⟩ e => ⟨v, r, h1, c.mono h2 e, d.mono h3 e⟩⟩
def dOne {α : Type} (c : Cod α) : Cods α := ⟨fun G vs a => ∃ v, vs = [v] ∧ c.rel G v a, fun ⟨v, h1, h2⟩ e => ⟨v, h1, c.mono h2 e⟩⟩
def cTup (K : PySem.W.Frag) {α : Type} (d : Cods α) : Cod α := ⟨fun G v a => ∃ p vs, v = .ref p ∧ SqT K G p vs ∧ d.rel G vs a, fun h e => by
  obtain ⟨p, vs, h1, h2, h3⟩ := h
  exact ⟨p, vs, h1, Evl.ex_t e h2, d.mono h3 e⟩⟩
abbrev sI (i : Int) : Sl := fz cInt i
abbrev sB (b : Bool) : Sl := fz cBool b
abbrev sT (t : Tx) : Sl := fz cTx t
abbrev sN : Sl := fz cNon ()

section
variable {X : Cx} {T : XT} {W : WX} {Γx Γ : Ctx}
/-- what stands on top, frozen -/
theorem Okc.tp {Z G0 : Hp} {S : List Pl} {σ : St} {G H : Hp} {α : Type} {c : Cod α} {a : α} {v : V} (k : Okc Z G0 ((some (fz c a), some v) :: S) Γ σ G H) : c.rel G v a := by
  obtain ⟨w, e, h⟩ := k.of.top
  cases e
  exact h
theorem Okc.tp2 {Z G0 : Hp} {S : List Pl} {σ : St} {G H : Hp} {α : Type} {c : Cod α} {a : α} {v : V} {x : Pl} (k : Okc Z G0 (x :: (some (fz c a), some v) :: S) Γ σ G H) : c.rel G v a := k.drop.tp
theorem zip_get {Γ : Ctx} {σ : St} {i : Nat} {o : Option Sl} (hl : Γ.length = σ.length) (h : Γ[i]? = some o) : ∃ w, σ[i]? = some w ∧ (Γ.zip σ)[i]? = some (o, w) := by
  have hi := (List.getElem?_eq_some_iff.mp h).1
  have hs : i < σ.length := by omega
  refine ⟨σ[i], by simp [hs], ?_⟩
  rw [List.getElem?_zip_eq_some]
  exact ⟨h, by simp [hs]⟩
theorem perm_at : ∀ {l : List Pl} {i : Nat} {x : Pl}, l[i]? = some x → l.Perm (x :: l.eraseIdx i)
  | [], _, _, h => by simp at h
  | y :: l, 0, x, h => by
    have e : y = x := by simpa using h
    subst e
    exact .refl _
  | y :: l, i + 1, x, h => by
    have ih := perm_at (l := l) (i := i) (x := x) (by simpa using h)
    exact (ih.cons y).trans (.swap x y _)
/-- what the slot i holds, frozen -/
theorem Okc.slot {Z G0 : Hp} {S : List Pl} {σ : St} {G H : Hp} {α : Type} {c : Cod α} {a : α} {i : Nat} (k : Okc Z G0 S Γ σ G H) (h : Γ[i]? = some (some (fz c a))) : ∃ v, σ[i]? = some (some v) ∧ c.rel G v a := by
  obtain ⟨w, hw, hz⟩ := zip_get k.len h
  have q := (k.ok.perm (List.perm_append_comm.trans ((perm_at hz).append_right S)))
  obtain ⟨v, e, hr⟩ := q.top
  subst e
  exact ⟨v, hw, hr⟩

/-! ### names, constants -/
theorem ex_var {α : Type} {c : Cod α} {a : α} (i : Nat) {x : Str} {pos : Pos} (h : Γ[i]? = some (some (fz c a)) := by rfl) (hN : X.N[i]? = some x := by rfl) (hv : Vis X.env.scope x := by first | exact Or.inl rfl | exact Or.inr (Or.inl rfl) | exact Or.inr (Or.inr rfl)) (hd : (x == ("__debug__" : Str)) = false := by decide)
    (hcd : (x == ("__classdict__" : Str)) = false := by decide) : EX X T W Γx Γ (.Name x pos) (tVar i) (.ok ()) (fun _ => fz c a) (fun _ => Γ) := by
  refine ⟨pv i hN hv hd hcd, fun Z G0 S σ G H Q k q => ?_⟩
  obtain ⟨v, hs, hr⟩ := k.slot h
  exact ⟨v, hs, q v G H (k.pushf hr)⟩
theorem ex_c {α : Type} {c : Cod α} {a : α} {v : V} {e : Expr} (hp : PE X e (tC v)) (h : ∀ G, c.rel G v a) : EX X T W Γx Γ e (tC v) (.ok ()) (fun _ => fz c a) (fun _ => Γ) :=
  ⟨hp, fun _ _ _ _ G H _ k q => q v G H (k.pushf (h G))⟩
theorem ex_int {i : Int} {j : Nat} {pos : Pos} : EX X T W Γx Γ (.Constant (.int i) j pos) (tC (.int i)) (.ok ()) (fun _ => sI i) (fun _ => Γ) := ex_c pe_int fun _ => rfl
theorem ex_bl {b : Bool} {j : Nat} {pos : Pos} : EX X T W Γx Γ (.Constant (.bool b) j pos) (tC (.bl b)) (.ok ()) (fun _ => sB b) (fun _ => Γ) := ex_c pe_bl fun _ => rfl
theorem ex_non {j : Nat} {pos : Pos} : EX X T W Γx Γ (.Constant .none j pos) (tC .non) (.ok ()) (fun _ => sN) (fun _ => Γ) := ex_c pe_non fun _ => rfl
theorem of_tx (s : String) : Str.ofString s = (⟨(tx s).toArray⟩ : Str) := Str.ofString_eq_toList s
theorem ex_str {s : String} {j : Nat} {pos : Pos} (hl : (tx s).length ≤ R.line := by decide +kernel) : EX X T W Γx Γ (.Constant (.str (Str.ofString s)) j pos) (tC (.str (Str.ofString s))) (.ok ()) (fun _ => sT (tx s)) (fun _ => Γ) :=
  ex_c pe_str fun _ => ⟨congrArg V.str (of_tx s), hl⟩
/-- a name of the module that holds an int, a text, a tuple -/
theorem ex_glob {α : Type} {c : Cod α} {a : α} {x : Str} {v : V} {u : Value} {pos : Pos} (hm : X.mg x = some u) (r : RelV v u) (h : ∀ G, c.rel G v a) (hg : Gl X x := by rfl) (hd : (x == ("__debug__" : Str)) = false := by decide) : EX X T W Γx Γ (.Name x pos) (tC v) (.ok ()) (fun _ => fz c a) (fun _ => Γ) :=
  ex_c (pe_glob hg hm r hd) h
/-- an answer seen otherwise -/
theorem EX.conv {e : Expr} {te : TE} {α : Type} {m : Res α} {R R' : α → Sl} {Γo : α → Ctx} (h : EX X T W Γx Γ e te m R Γo) (hc : ∀ a G H v ps, (R a).rel G H v ps → (R' a).rel G H v ps) : EX X T W Γx Γ e te m R' Γo := by
  refine ⟨h.pe, fun Z G0 S σ G H Q k q => h.ev Z G0 S σ G H Q k (Res.wp_mono q (fun a f v G' H' k' => f v G' H' ⟨k'.len, ?_⟩) fun _ z => z)⟩
  obtain ⟨ps, ⟨p1, p2, e1, ⟨w, e2, r⟩, e3⟩, h2, h3⟩ := k'.of.own
  exact ⟨k'.of.zh, k'.of.gg, k'.of.gh, k'.of.fr, ps, ⟨p1, p2, e1, ⟨w, e2, hc a _ _ _ _ r⟩, e3⟩, h2, h3⟩
theorem EX.as {e : Expr} {te : TE} {α : Type} {m : Res α} {R R' : α → Sl} {Γo : α → Ctx} (h : EX X T W Γx Γ e te m R Γo) (hR : ∀ a, R a = R' a := by exact fun _ => rfl) : EX X T W Γx Γ e te m R' Γo := by
  obtain rfl : R = R' := funext hR
  exact h
theorem AX.as {es : List Expr} {ta : TA} {α : Type} {m : Res α} {Rs Rs' : α → List Sl} {Γo : α → Ctx} (h : AX X T W Γx Γ es ta m Rs Γo) (hR : ∀ a, Rs a = Rs' a := by exact fun _ => rfl) : AX X T W Γx Γ es ta m Rs' Γo := by
  obtain rfl : Rs = Rs' := funext hR
  exact h
/-- as a value that may be None -/
theorem EX.some {e : Expr} {te : TE} {α β : Type} {m : Res α} {c : Cod β} {f : α → β} {Γo : α → Ctx} (h : EX X T W Γx Γ e te m (fun a => fz c (f a)) Γo) (hn : ∀ G v b, c.rel G v b → v ≠ .non) : EX X T W Γx Γ e te m (fun a => fz (cOpt c) (some (f a))) Γo :=
  h.conv fun a G H v ps r => ⟨⟨r.1, hn _ _ _ r.1⟩, r.2⟩
theorem EX.none {e : Expr} {te : TE} {α β : Type} {m : Res α} {c : Cod β} {Γo : α → Ctx} (h : EX X T W Γx Γ e te m (fun _ => sN) Γo) : EX X T W Γx Γ e te m (fun _ => fz (cOpt c) none) Γo := h.conv fun _ _ _ _ _ r => r


/-! ### operators by values -/
/-- no exception -/
def Res.ne {γ : Type} (m : Res γ) : Prop := ∀ e, m ≠ .exn e
/-- a two-place operation: what stands on top is its second operand -/
structure OpOk (r : R2) (s1 s2 : Sl) {γ : Type} (m : Res γ) (R : γ → Sl) : Prop where
  run : ∀ (Z G0 : Hp) (l : List Pl) (G H : Hp) (v1 v2 : V) (Q : VK), Okl Z G0 ((Option.some s2, Option.some v2) :: (Option.some s1, Option.some v1) :: l) G H →
    ∀ c, m = .ok c → (∀ v G' H', Okl Z G0 ((Option.some (R c), Option.some v) :: l) G' H' → Q v H') → r v1 v2 H Q
  ne : ∀ e, m ≠ .exn e
structure UnOk (r : V → Hp → VK → Prop) (s1 : Sl) {γ : Type} (m : Res γ) (R : γ → Sl) : Prop where
  run : ∀ (Z G0 : Hp) (l : List Pl) (G H : Hp) (v1 : V) (Q : VK), Okl Z G0 ((Option.some s1, Option.some v1) :: l) G H →
    ∀ c, m = .ok c → (∀ v G' H', Okl Z G0 ((Option.some (R c), Option.some v) :: l) G' H' → Q v H') → r v1 H Q
  ne : ∀ e, m ≠ .exn e
theorem wp_cases {γ : Type} {m : Res γ} {Q : γ → Prop} {E : Exn → Prop} (w : m.wp Q E) (ne : ∀ e, m ≠ .exn e) : ∃ c, m = .ok c ∧ Q c := by
  cases m with
  | ok c => exact ⟨c, rfl, w⟩
  | exn e => exact absurd rfl (ne e)
  | stuck => exact w.elim
theorem op_ev {r : R2} {e1 e2 : Expr} {ta tb : TE} {α β γ : Type} {m1 : Res α} {R1 : α → Sl} {Γ1 : α → Ctx} {m2 : α → Res β} {R2 : α → β → Sl} {Γ2 : α → β → Ctx} {m3 : α → β → Res γ} {R3 : α → β → γ → Sl}
    (ha : EX X T W Γx Γ e1 ta m1 R1 Γ1) (hb : ∀ x, EX X T W Γx (Γ1 x) e2 tb (m2 x) (R2 x) (Γ2 x)) (h3 : ∀ x y, OpOk r (R1 x) (R2 x y) (m3 x y) (R3 x y))
    (Z G0 : Hp) (S : List Pl) (σ : St) (G H : Hp) (Q : VK) (k : Okc Z G0 S Γ σ G H)
    (q : (m1.bind fun x => (m2 x).bind fun y => (m3 x y).bind fun c => .ok (x, y, c)).wp (fun t => ∀ v G' H', Okc Z G0 ((Option.some (R3 t.1 t.2.1 t.2.2), Option.some v) :: S) (Γ2 t.1 t.2.1) σ G' H' → Q v H') (fun ex => ∀ cls d G' H', Okc Z G0 S Γx σ G' H' → T.rel ex cls d G' → W cls d σ H')) : tOp r ta tb σ H Q := by
  refine ha.ev Z G0 S σ G H _ k (Res.wp_mono (Res.wp_bind q) (fun x q v1 G1 H1 k1 => ?_) fun ex q => q)
  refine (hb x).ev Z G0 _ σ G1 H1 _ k1 (Res.wp_mono (Res.wp_bind q) (fun y q v2 G2 H2 k2 => ?_) fun ex q cls d G' H' k' => q cls d G' H' k'.drop)
  obtain ⟨c, e, q3⟩ := wp_cases (Res.wp_bind q) (h3 x y).ne
  exact (h3 x y).run Z G0 _ G2 H2 v1 v2 Q k2.ok c e fun v G' H' k' => q3 v G' H' ⟨k2.len, k'⟩
theorem ex_op {op : Operator} {r : R2} {e1 e2 : Expr} {pos : Pos} {ta tb : TE} {α β γ : Type} [Nonempty α] {m1 : Res α} {R1 : α → Sl} {Γ1 : α → Ctx} {m2 : α → Res β} {R2 : α → β → Sl} {Γ2 : α → β → Ctx} {m3 : α → β → Res γ} {R3 : α → β → γ → Sl}
    (ho : OpR X (binaryOp op) r) (ha : EX X T W Γx Γ e1 ta m1 R1 Γ1) (hb : ∀ x, EX X T W Γx (Γ1 x) e2 tb (m2 x) (R2 x) (Γ2 x)) (h3 : ∀ x y, OpOk r (R1 x) (R2 x y) (m3 x y) (R3 x y)) :
    EX X T W Γx Γ (.BinOp e1 op e2 pos) (tOp r ta tb) (m1.bind fun x => (m2 x).bind fun y => (m3 x y).bind fun c => .ok (x, y, c)) (fun t => R3 t.1 t.2.1 t.2.2) (fun t => Γ2 t.1 t.2.1) := by
  obtain ⟨x⟩ := ‹Nonempty α›
  exact ⟨pe_op ho ha.pe (hb x).pe, op_ev ha hb h3⟩
theorem ex_cmp {op : CmpOp} {r : R2} {e1 e2 : Expr} {pos : Pos} {ta tb : TE} {α β γ : Type} [Nonempty α] {m1 : Res α} {R1 : α → Sl} {Γ1 : α → Ctx} {m2 : α → Res β} {R2 : α → β → Sl} {Γ2 : α → β → Ctx} {m3 : α → β → Res γ} {R3 : α → β → γ → Sl}
    (ho : OpR X (compareOp op) r) (ha : EX X T W Γx Γ e1 ta m1 R1 Γ1) (hb : ∀ x, EX X T W Γx (Γ1 x) e2 tb (m2 x) (R2 x) (Γ2 x)) (h3 : ∀ x y, OpOk r (R1 x) (R2 x y) (m3 x y) (R3 x y)) (hm : behindInMarks op e2 = false) :
    EX X T W Γx Γ (.Compare e1 [op] [e2] pos) (tOp r ta tb) (m1.bind fun x => (m2 x).bind fun y => (m3 x y).bind fun c => .ok (x, y, c)) (fun t => R3 t.1 t.2.1 t.2.2) (fun t => Γ2 t.1 t.2.1) := by
  obtain ⟨x⟩ := ‹Nonempty α›
  exact ⟨pe_cmpR ho ha.pe (hb x).pe hm, op_ev ha hb h3⟩
theorem et_cmp {op : CmpOp} {r : R2} {e1 e2 : Expr} {pos : Pos} {ta tb : TE} {α β γ : Type} [Nonempty α] {m1 : Res α} {R1 : α → Sl} {Γ1 : α → Ctx} {m2 : α → Res β} {R2 : α → β → Sl} {Γ2 : α → β → Ctx} {m3 : α → β → Res γ} {b : α → β → γ → Bool}
    (ho : OpR X (compareOp op) r) (ha : EX X T W Γx Γ e1 ta m1 R1 Γ1) (hb : ∀ x, EX X T W Γx (Γ1 x) e2 tb (m2 x) (R2 x) (Γ2 x)) (h3 : ∀ x y, OpOk r (R1 x) (R2 x y) (m3 x y) (fun c => sB (b x y c))) (hm : behindInMarks op e2 = false) :
    ET X T W Γx Γ (.Compare e1 [op] [e2] pos) (tTest (tOp r ta tb)) (m1.bind fun x => (m2 x).bind fun y => (m3 x y).bind fun c => .ok (x, y, c)) (fun t => b t.1 t.2.1 t.2.2) (fun t => Γ2 t.1 t.2.1) := by
  obtain ⟨x⟩ := ‹Nonempty α›
  refine ⟨pt_cmpR ho ha.pe (hb x).pe hm, fun Z G0 S σ G H Q k q => ?_⟩
  refine op_ev ha hb h3 Z G0 S σ G H _ k (Res.wp_mono q (fun t q v G' H' k' => ?_) fun _ z => z)
  exact ⟨_, k'.tp, q G' H' k'.drop⟩
theorem ex_un {op : UnaryOp} {r : V → Hp → VK → Prop} {e1 : Expr} {pos : Pos} {ta : TE} {α γ : Type} {m1 : Res α} {R1 : α → Sl} {Γ1 : α → Ctx} {m3 : α → Res γ} {R3 : α → γ → Sl}
    (ho : UnR X (unaryOp op) r) (ha : EX X T W Γx Γ e1 ta m1 R1 Γ1) (h3 : ∀ x, UnOk r (R1 x) (m3 x) (R3 x)) :
    EX X T W Γx Γ (.UnaryOp op e1 pos) (tUn r ta) (m1.bind fun x => (m3 x).bind fun c => .ok (x, c)) (fun t => R3 t.1 t.2) (fun t => Γ1 t.1) := by
  refine ⟨pe_un ho ha.pe, fun Z G0 S σ G H Q k q => ?_⟩
  refine ha.ev Z G0 S σ G H _ k (Res.wp_mono (Res.wp_bind q) (fun x q v1 G1 H1 k1 => ?_) fun ex q => q)
  obtain ⟨c, e, q3⟩ := wp_cases (Res.wp_bind q) (h3 x).ne
  exact (h3 x).run Z G0 _ G1 H1 v1 Q k1.ok c e fun v G' H' k' => q3 v G' H' ⟨k1.len, k'⟩
/-- a test by its value -/
theorem et_val {e : Expr} {te : TE} {α : Type} {m : Res α} {b : α → Bool} {Γo : α → Ctx} (h : EX X T W Γx Γ e te m (fun a => sB (b a)) Γo) (he : ∀ whole, isTrue e X.env whole = (do let v ← whole; standAt e.pos; holding [v] (truthy v)) := by intro _; rfl) :
    ET X T W Γx Γ e (tB te) m b Γo := by
  refine ⟨pt_val h.pe he, fun Z G0 S σ G H Q k q => h.ev Z G0 S σ G H _ k (Res.wp_mono q (fun t q v G' H' k' => ?_) fun _ z => z)⟩
  exact ⟨_, k'.tp, q G' H' k'.drop⟩
theorem et_not {e : Expr} {te : TT} {α : Type} {m : Res α} {b : α → Bool} {Γo : α → Ctx} {pos : Pos} (h : ET X T W Γx Γ e te m b Γo) : ET X T W Γx Γ (.UnaryOp .Not e pos) (tNot te) m (fun a => !b a) Γo :=
  ⟨pt_not h.pt, fun Z G0 S σ G H Q k q => h.ev Z G0 S σ G H _ k q⟩
end
end Rt
/-! Rt3: operators, comparisons, built-ins by what stands at hand. -/
namespace Rt
open PySem L2 R
theorem line_eq : R.line = sizeLine := by rw [sizeLine_eq]; rfl
theorem chk_ok {α : Type} {b : Bool} {m : Res α} {c : α} (h : chk b m = .ok c) : b = true ∧ m = .ok c := by
  cases b with
  | true => exact ⟨rfl, h⟩
  | false => cases h
theorem chk_ne {α : Type} {b : Bool} {m : Res α} (h : ∀ e, m ≠ .exn e) : ∀ e, chk b m ≠ .exn e := fun e z => by
  cases b with
  | true => exact h e z
  | false => cases z
theorem ok_ne {α : Type} {a : α} : ∀ e, (Res.ok a : Res α) ≠ .exn e := fun _ z => by cases z
section
variable {Z G0 G H : Hp} {l : List Pl}
/-- two operands off, the answer on -/
theorem Okl.op2 {α β γ : Type} {c1 : Cod α} {c2 : Cod β} {c3 : Cod γ} {a : α} {b : β} {z : γ} {v1 v2 v3 : V} (k : Okl Z G0 ((Option.some (fz c2 b), Option.some v2) :: (Option.some (fz c1 a), Option.some v1) :: l) G H) (h : c1.rel G v1 a → c2.rel G v2 b → c3.rel G v3 z) :
    Okl Z G0 ((Option.some (fz c3 z), Option.some v3) :: l) G H := by
  obtain ⟨w2, e2, h2⟩ := k.top
  obtain ⟨w1, e1, h1⟩ := k.drop.top
  cases e1; cases e2
  exact k.drop.drop.push (h h1 h2)
theorem Okl.rels {α β : Type} {c1 : Cod α} {c2 : Cod β} {a : α} {b : β} {v1 v2 : V} (k : Okl Z G0 ((Option.some (fz c2 b), Option.some v2) :: (Option.some (fz c1 a), Option.some v1) :: l) G H) : c1.rel G v1 a ∧ c2.rel G v2 b := by
  obtain ⟨w2, e2, h2⟩ := k.top
  obtain ⟨w1, e1, h1⟩ := k.drop.top
  cases e1; cases e2
  exact ⟨h1, h2⟩
theorem Okl.rel1 {α : Type} {c1 : Cod α} {a : α} {v1 : V} (k : Okl Z G0 ((Option.some (fz c1 a), Option.some v1) :: l) G H) : c1.rel G v1 a := by
  obtain ⟨w1, e1, h1⟩ := k.top
  cases e1
  exact h1
end
/-! ### two whole numbers -/
theorem ok_i0 {g : Int → Int → V} {i j : Int} {γ : Type} {c : Cod γ} {z : γ} (h : ∀ G, c.rel G (g i j) z) : OpOk (rI0 g) (sI i) (sI j) (.ok ()) (fun _ => fz c z) :=
  ⟨fun Z G0 l G H v1 v2 Q k _ _ q => by
    obtain ⟨h1, h2⟩ := k.rels
    exact ⟨i, j, h1, h2, q _ _ _ (k.drop.drop.push (h G))⟩, ok_ne⟩
theorem ok_iC {C : Int → Int → Prop} {g : Int → Int → V} {i j : Int} {γ : Type} {c : Cod γ} {z : γ} (hC : C i j) (h : ∀ G, c.rel G (g i j) z) : OpOk (rI C g) (sI i) (sI j) (.ok ()) (fun _ => fz c z) :=
  ⟨fun Z G0 l G H v1 v2 Q k _ _ q => by
    obtain ⟨h1, h2⟩ := k.rels
    exact ⟨i, j, h1, h2, hC, q _ _ _ (k.drop.drop.push (h G))⟩, ok_ne⟩
theorem ok_iM {C : Int → Int → Prop} {g : Int → Int → V} {i j : Int} {γ : Type} {c : Cod γ} {m : Res γ} (hm : ∀ z, m = .ok z → C i j ∧ ∀ G, c.rel G (g i j) z) (hn : ∀ e, m ≠ .exn e) : OpOk (rI C g) (sI i) (sI j) m (fun z => fz c z) :=
  ⟨fun Z G0 l G H v1 v2 Q k z e q => by
    obtain ⟨h1, h2⟩ := k.rels
    obtain ⟨hC, h⟩ := hm z e
    exact ⟨i, j, h1, h2, hC, q _ _ _ (k.drop.drop.push (h G))⟩, hn⟩
theorem o_add {i j : Int} : OpOk (rI0 fun i j => .int (i + j)) (sI i) (sI j) (.ok ()) (fun _ => sI (i + j)) := ok_i0 fun _ => rfl
theorem o_sub {i j : Int} : OpOk (rI0 fun i j => .int (i - j)) (sI i) (sI j) (.ok ()) (fun _ => sI (i - j)) := ok_i0 fun _ => rfl
theorem o_lt {i j : Int} : OpOk (rI0 fun i j => .bl (decide (i < j))) (sI i) (sI j) (.ok ()) (fun _ => sB (decide (i < j))) := ok_i0 fun _ => rfl
theorem o_le {i j : Int} : OpOk (rI0 fun i j => .bl (decide (i ≤ j))) (sI i) (sI j) (.ok ()) (fun _ => sB (decide (i ≤ j))) := ok_i0 fun _ => rfl
theorem o_gt {i j : Int} : OpOk (rI0 fun i j => .bl (decide (j < i))) (sI i) (sI j) (.ok ()) (fun _ => sB (decide (j < i))) := ok_i0 fun _ => rfl
theorem o_ge {i j : Int} : OpOk (rI0 fun i j => .bl (decide (j ≤ i))) (sI i) (sI j) (.ok ()) (fun _ => sB (decide (j ≤ i))) := ok_i0 fun _ => rfl
/-- a factor that is written -/
theorem o_mulL {i j : Int} (h : -(2 ^ 64) < i ∧ i < 2 ^ 64 := by decide) : OpOk (rI CMul fun i j => .int (i * j)) (sI i) (sI j) (.ok ()) (fun _ => sI (i * j)) := ok_iC (.inl h) fun _ => rfl
theorem o_mulR {i j : Int} (h : -(2 ^ 64) < j ∧ j < 2 ^ 64 := by decide) : OpOk (rI CMul fun i j => .int (i * j)) (sI i) (sI j) (.ok ()) (fun _ => sI (i * j)) := ok_iC (.inr h) fun _ => rfl
theorem nbits_le (i : Int) : Builtin.Int.intBits i = R.nbits i := by
  unfold Builtin.Int.intBits R.nbits
  by_cases h : i = 0
  · simp [h]
  · simp [h]
theorem o_mul {i j : Int} : OpOk (rI CMulX fun i j => .int (i * j)) (sI i) (sI j) (R.mul i j) (fun z => sI z) := ok_iM (fun z e => by
    obtain ⟨h1, h2⟩ := chk_ok e
    cases h2
    refine ⟨?_, fun _ => rfl⟩
    show (Builtin.Int.intBits i : Int) + (Builtin.Int.intBits j : Int) ≤ 134217728
    have := of_decide_eq_true h1
    rw [nbits_le, nbits_le]
    omega) (chk_ne ok_ne)
/-- a divisor that is written -/
theorem o_fdivR {i j : Int} (h : CDiv i j := by exact ⟨by decide, by decide⟩) : OpOk (rI CDiv fun i j => .int (i / j)) (sI i) (sI j) (.ok ()) (fun _ => sI (i / j)) := ok_iC h fun _ => rfl
theorem o_modR {i j : Int} (h : 0 < j := by decide) : OpOk (rI (fun _ j => 0 < j) fun i j => .int (i % j)) (sI i) (sI j) (.ok ()) (fun _ => sI (i % j)) := ok_iC h fun _ => rfl
theorem o_fdiv {i j : Int} : OpOk (rI CDivW fun i j => .int (i / j)) (sI i) (sI j) (R.fdiv i j) (fun z => sI z) := ok_iM (fun z e => by
    obtain ⟨h1, h2⟩ := chk_ok e
    cases h2
    rw [Bool.and_eq_true] at h1
    exact ⟨⟨of_decide_eq_true h1.1, of_decide_eq_true h1.2⟩, fun _ => rfl⟩) (chk_ne ok_ne)
theorem o_mod {i j : Int} : OpOk (rI (fun _ j => 0 < j) fun i j => .int (i % j)) (sI i) (sI j) (R.fmod i j) (fun z => sI z) := ok_iM (fun z e => by
    obtain ⟨h1, h2⟩ := chk_ok e
    cases h2
    exact ⟨of_decide_eq_true h1, fun _ => rfl⟩) (chk_ne ok_ne)
theorem o_shl {i j : Int} : OpOk (rI CShl fun i j => .int (i * 2 ^ j.toNat)) (sI i) (sI j) (R.shl i j) (fun z => sI z) := ok_iM (fun z e => by
    obtain ⟨h1, h2⟩ := chk_ok e
    cases h2
    rw [Bool.and_eq_true] at h1
    refine ⟨⟨of_decide_eq_true h1.1, ?_⟩, fun _ => rfl⟩
    have := of_decide_eq_true h1.2
    rw [nbits_le]
    have z : (2 : Int) ^ 27 = 134217728 := by decide
    omega) (chk_ne ok_ne)
theorem o_shr {i j : Int} : OpOk (rI (fun _ j => 0 ≤ j) fun i j => .int (i / 2 ^ j.toNat)) (sI i) (sI j) (R.shr i j) (fun z => sI z) := ok_iM (fun z e => by
    obtain ⟨h1, h2⟩ := chk_ok e
    cases h2
    exact ⟨of_decide_eq_true h1, fun _ => rfl⟩) (chk_ne ok_ne)
theorem o_pow {i j : Int} (h : CPow i j := by exact ⟨by decide, by decide, by decide⟩) : OpOk (rI CPow fun i j => .int (i ^ j.toNat)) (sI i) (sI j) (.ok ()) (fun _ => sI (i ^ j.toNat)) := ok_iC h fun _ => rfl
theorem o_xor {i j : Int} : OpOk (rI0 fun i j => .int (Builtin.bitXor i j)) (sI i) (sI j) (R.xor i j) (fun z => sI z) :=
  ⟨fun Z G0 l G H v1 v2 Q k z e q => by
    obtain ⟨h1, h2⟩ := k.rels
    obtain ⟨h3, h4⟩ := chk_ok e
    cases h4
    rw [Bool.and_eq_true] at h3
    refine ⟨i, j, h1, h2, q _ _ _ (k.drop.drop.push ?_)⟩
    show V.int _ = V.int _
    rw [Bits.bitXor_pp (of_decide_eq_true h3.1) (of_decide_eq_true h3.2)], chk_ne ok_ne⟩
theorem o_band {i j : Int} : OpOk (rI0 fun i j => .int (Builtin.bitAnd i j)) (sI i) (sI j) (R.band i j) (fun z => sI z) :=
  ⟨fun Z G0 l G H v1 v2 Q k z e q => by
    obtain ⟨h1, h2⟩ := k.rels
    obtain ⟨h3, h4⟩ := chk_ok e
    cases h4
    rw [Bool.and_eq_true] at h3
    refine ⟨i, j, h1, h2, q _ _ _ (k.drop.drop.push ?_)⟩
    show V.int _ = V.int _
    rw [PyProof.Rows.bitAnd_pp (of_decide_eq_true h3.1) (of_decide_eq_true h3.2)], chk_ne ok_ne⟩
/-- & by a written 2 ^ k - 1 -/
theorem o_mask {i j : Int} (k : Nat) (hj : j = 2 ^ k - 1 := by decide) : OpOk (fun x y H Q => ∃ (i : Int) (k : Nat), x = .int i ∧ y = .int (2 ^ k - 1) ∧ Q (.int (i % 2 ^ k)) H) (sI i) (sI j) (.ok ()) (fun _ => sI (i % 2 ^ k)) :=
  ⟨fun Z G0 l G H v1 v2 Q kk _ _ q => by
    obtain ⟨h1, h2⟩ := kk.rels
    subst hj
    exact ⟨i, k, h1, h2, q _ _ _ (kk.drop.drop.push rfl)⟩, ok_ne⟩
theorem o_neg {i : Int} : UnOk (rU fun i => .int (-i)) (sI i) (.ok ()) (fun _ => sI (-i)) :=
  ⟨fun Z G0 l G H v1 Q k _ _ q => ⟨i, k.rel1, q _ _ _ (k.drop.push rfl)⟩, ok_ne⟩

/-! ### == and != of scalars -/
/-- what == tells apart by the values alone -/
structure EqS {α : Type} (c : Cod α) (d : DecidableEq α) : Prop where
  eq : ∀ G v w a b, c.rel G v a → c.rel G w b → scal v w = true ∧ decide (v = w) = decide (a = b)
theorem eqs_int : EqS cInt inferInstance := ⟨fun G v w a b h1 h2 => by
  have e1 : v = .int a := h1
  have e2 : w = .int b := h2
  subst e1; subst e2
  exact ⟨rfl, by rw [Bool.eq_iff_iff]; simp⟩⟩
theorem eqs_bool : EqS cBool inferInstance := ⟨fun G v w a b h1 h2 => by
  have e1 : v = .bl a := h1
  have e2 : w = .bl b := h2
  subst e1; subst e2
  exact ⟨rfl, by rw [Bool.eq_iff_iff]; simp⟩⟩
theorem sv_inj {a b : Tx} : sv a = sv b ↔ a = b := ⟨fun h => by
  injection h with h
  injection h with h
  simpa using h, fun h => by rw [h]⟩
theorem eqs_tx : EqS cTx inferInstance := ⟨fun G v w a b h1 h2 => by
  have e1 : v = sv a := h1.1
  have e2 : w = sv b := h2.1
  subst e1; subst e2
  exact ⟨rfl, by rw [Bool.eq_iff_iff]; simp only [decide_eq_true_eq]; exact sv_inj⟩⟩
theorem o_eq {α : Type} [d : DecidableEq α] {c : Cod α} {a b : α} (e : EqS c d) : OpOk rEq (fz c a) (fz c b) (.ok ()) (fun _ => sB (decide (a = b))) :=
  ⟨fun Z G0 l G H v1 v2 Q k _ _ q => by
    obtain ⟨h1, h2⟩ := k.rels
    obtain ⟨s, t⟩ := e.eq G v1 v2 a b h1 h2
    exact ⟨s, q _ _ _ (k.drop.drop.push (congrArg V.bl t))⟩, ok_ne⟩
theorem o_ne {α : Type} [d : DecidableEq α] {c : Cod α} {a b : α} (e : EqS c d) : OpOk rNe (fz c a) (fz c b) (.ok ()) (fun _ => sB (!decide (a = b))) :=
  ⟨fun Z G0 l G H v1 v2 Q k _ _ q => by
    obtain ⟨h1, h2⟩ := k.rels
    obtain ⟨s, t⟩ := e.eq G v1 v2 a b h1 h2
    exact ⟨s, q _ _ _ (k.drop.drop.push (congrArg (fun b => V.bl (!b)) t))⟩, ok_ne⟩
end Rt
/-! Rt4: arguments, calls, displays, items. -/
namespace Rt
open PySem L2 R
section
variable {X : Cx} {T : XT} {W : WX} {Γx Γ : Ctx} {K : PySem.W.Frag}
theorem ax_nil : AX X T W Γx Γ [] tNil (.ok ()) (fun _ => []) (fun _ => Γ) := ⟨pa_nil, fun _ _ _ _ G H _ k q => q [] G H rfl k⟩
theorem ax_cons {e : Expr} {es : List Expr} {te : TE} {ta : TA} {α β : Type} [Nonempty α] {m1 : Res α} {R1 : α → Sl} {Γ1 : α → Ctx} {m2 : α → Res β} {Rs : α → β → List Sl} {Γ2 : α → β → Ctx}
    (he : EX X T W Γx Γ e te m1 R1 Γ1) (hr : ∀ x, AX X T W Γx (Γ1 x) es ta (m2 x) (Rs x) (Γ2 x)) (hs : starEach (e :: es) X.env = (false, eval e X.env) :: starEach es X.env := by rfl) :
    AX X T W Γx Γ (e :: es) (tCons te ta) (m1.bind fun x => (m2 x).bind fun y => .ok (x, y)) (fun t => R1 t.1 :: Rs t.1 t.2) (fun t => Γ2 t.1 t.2) := by
  obtain ⟨x⟩ := ‹Nonempty α›
  refine ⟨pa_cons he.pe (hr x).pa hs, fun Z G0 S σ G H Q k q => ?_⟩
  refine he.ev Z G0 S σ G H _ k (Res.wp_mono (Res.wp_bind q) (fun x q v1 G1 H1 k1 => ?_) fun ex q => q)
  refine (hr x).ev Z G0 _ σ G1 H1 _ k1 (Res.wp_mono (Res.wp_bind q) (fun y q vs G2 H2 hl k2 => ?_) fun ex q cls d G' H' k' => q cls d G' H' k'.drop)
  refine q (v1 :: vs) G2 H2 (congrArg Nat.succ hl) ⟨k2.len, ?_⟩
  refine k2.ok.perm ?_
  show (plz (Rs x y) vs ++ (some (R1 x), some v1) :: S ++ _).Perm ((some (R1 x), some v1) :: (plz (Rs x y) vs ++ S) ++ _)
  exact mid.append_right _
/-- items of one kind -/
theorem lx_nil {β : Type} {c : Cod β} : AX X T W Γx Γ [] tNil (.ok ()) (fun _ => ([] : List β).map (fz c)) (fun _ => Γ) := ax_nil
theorem lx_cons {e : Expr} {es : List Expr} {te : TE} {ta : TA} {α β γ : Type} [Nonempty α] {c : Cod γ} {m1 : Res α} {a : α → γ} {Γ1 : α → Ctx} {m2 : α → Res β} {xs : α → β → List γ} {Γ2 : α → β → Ctx}
    (he : EX X T W Γx Γ e te m1 (fun x => fz c (a x)) Γ1) (hr : ∀ x, AX X T W Γx (Γ1 x) es ta (m2 x) (fun y => (xs x y).map (fz c)) (Γ2 x)) (hs : starEach (e :: es) X.env = (false, eval e X.env) :: starEach es X.env := by rfl) :
    AX X T W Γx Γ (e :: es) (tCons te ta) (m1.bind fun x => (m2 x).bind fun y => .ok (x, y)) (fun t => (a t.1 :: xs t.1 t.2).map (fz c)) (fun t => Γ2 t.1 t.2) := ax_cons he hr hs
theorem plz_pop {Z G0 G H : Hp} {l : List Pl} : ∀ {Rs : List Sl} {vs : List V}, Okl Z G0 (plz Rs vs ++ l) G H → Okl Z G0 l G H := fun k => k.sub
/-- what frozen items are -/
theorem plz_fz {Z G0 G H : Hp} {l : List Pl} {γ : Type} {c : Cod γ} : ∀ {xs : List γ} {vs : List V}, (xs.map (fz c)).length = vs.length → Okl Z G0 (plz (xs.map (fz c)) vs ++ l) G H → Paired (c.rel G) vs xs
  | [], [], _, _ => .nil
  | [], v :: vs, h, _ => by simp at h
  | x :: xs, [], h, _ => by simp at h
  | x :: xs, v :: vs, h, k => .cons (Okl.rel1 (show Okl Z G0 ((some (fz c x), some v) :: (plz (xs.map (fz c)) vs ++ l)) G H from k)) (plz_fz (Nat.succ.inj h) (Okl.drop (show Okl Z G0 ((some (fz c x), some v) :: (plz (xs.map (fz c)) vs ++ l)) G H from k)))
theorem ex_lst {es : List Expr} {pos : Pos} {ta : TA} {α γ : Type} {c : Cod γ} {m : Res α} {xs : α → List γ} {Γo : α → Ctx} (h : AX X T W Γx Γ es ta m (fun t => (xs t).map (fz c)) Γo) (hz : ∀ t, Nat.ble (xs t).length R.line = true := by intro _; rfl) :
    EX X T W Γx Γ (.List es pos) (tLst ta) m (fun t => ol c (xs t)) Γo := by
  refine ⟨pe_lst h.pa, fun Z G0 S σ G H Q k q => h.ev Z G0 S σ G H _ k (Res.wp_mono q (fun t q vs G' H' hl k' => ?_) fun _ z => z)⟩
  have p := plz_fz hl (show Okl Z G0 (plz ((xs t).map (fz c)) vs ++ (S ++ (Γo t).zip σ)) G' H' by rw [← List.append_assoc]; exact k'.ok)
  have k2 : Okl Z G0 (S ++ (Γo t).zip σ) G' H' := (show Okl Z G0 (plz ((xs t).map (fz c)) vs ++ (S ++ (Γo t).zip σ)) G' H' by rw [← List.append_assoc]; exact k'.ok).sub
  refine ⟨?_, fun pa hp => q _ _ _ ⟨k'.len, k2.layOwn (s := ol c (xs t)) hp ⟨pa, vs, rfl, rfl, upd_same, p⟩⟩⟩
  rw [p.length, ← line_eq]
  exact Nat.le_of_ble_eq_true (hz t)
/-- the items of a tuple from what stands at hand -/
def TupOf {α : Type} (d : Cods α) (Rs : List Sl) (a : α) : Prop := ∀ Z G0 l G H vs, Rs.length = vs.length → Okl Z G0 (plz Rs vs ++ l) G H → d.rel G vs a
theorem tup_one {α : Type} {c : Cod α} {a : α} : TupOf (dOne c) [fz c a] a := fun Z G0 l G H vs hl k => by
  match vs, hl with
  | [v], _ => exact ⟨v, rfl, Okl.rel1 (show Okl Z G0 ((some (fz c a), some v) :: l) G H from k)⟩
theorem tup_cons {α β : Type} {c : Cod α} {d : Cods β} {a : α} {b : β} {Rs : List Sl} (h : TupOf d Rs b) : TupOf (dCons c d) (fz c a :: Rs) (a, b) := fun Z G0 l G H vs hl k => by
  match vs, hl with
  | v :: vs, hl =>
    have k' : Okl Z G0 ((some (fz c a), some v) :: (plz Rs vs ++ l)) G H := k
    exact ⟨v, vs, rfl, k'.rel1, h Z G0 l G H vs (Nat.succ.inj hl) k'.drop⟩
theorem ex_tup {es : List Expr} {x1 : _} {pos : Pos} {ta : TA} {α γ : Type} {d : Cods γ} {m : Res α} {Rs : α → List Sl} {a : α → γ} {Γo : α → Ctx} (h : AX X T W Γx Γ es ta m Rs Γo) (ht : ∀ t, TupOf d (Rs t) (a t)) (hz : ∀ t, Nat.ble (Rs t).length R.line = true := by intro _; rfl) :
    EX X T W Γx Γ (.Tuple es x1 pos) (tTup ta) m (fun t => fz (cTup K d) (a t)) Γo := by
  refine ⟨pe_tup h.pa, fun Z G0 S σ G H Q k q => h.ev Z G0 S σ G H _ k (Res.wp_mono q (fun t q vs G' H' hl k' => ?_) fun _ z => z)⟩
  have k1 : Okl Z G0 (plz (Rs t) vs ++ (S ++ (Γo t).zip σ)) G' H' := by rw [← List.append_assoc]; exact k'.ok
  have p := ht t Z G0 _ G' H' vs hl k1
  refine ⟨?_, fun pa hp => q _ _ _ ⟨k'.len, (k1.sub.lay (o := .tup vs) hp).push ⟨pa, vs, rfl, SqT.of upd_same, d.mono p (Evl.Ex.new (Evl.fresh_back k1.gh hp))⟩⟩⟩
  rw [← hl, ← line_eq]
  exact Nat.le_of_ble_eq_true (hz t)

/-! ### built-ins -/
structure CallOk (r : List V → Hp → VK → Prop) (Rs : List Sl) {γ : Type} (m : Res γ) (R : γ → Sl) : Prop where
  run : ∀ (Z G0 : Hp) (l : List Pl) (G H : Hp) (vs : List V) (Q : VK), Rs.length = vs.length → Okl Z G0 (plz Rs vs ++ l) G H →
    ∀ c, m = .ok c → (∀ v G' H', Okl Z G0 ((some (R c), some v) :: l) G' H' → Q v H') → r vs H Q
  ne : ∀ e, m ≠ .exn e
theorem cb_ev {r : List V → Hp → VK → Prop} {es : List Expr} {ta : TA} {α γ : Type} {m1 : Res α} {Rs : α → List Sl} {Γ1 : α → Ctx} {m3 : α → Res γ} {R3 : α → γ → Sl} (ha : AX X T W Γx Γ es ta m1 Rs Γ1) (h3 : ∀ x, CallOk r (Rs x) (m3 x) (R3 x))
    (Z G0 : Hp) (S : List Pl) (σ : St) (G H : Hp) (Q : VK) (k : Okc Z G0 S Γ σ G H)
    (q : (m1.bind fun x => (m3 x).bind fun c => .ok (x, c)).wp (fun t => ∀ v G' H', Okc Z G0 ((some (R3 t.1 t.2), some v) :: S) (Γ1 t.1) σ G' H' → Q v H') (fun ex => ∀ cls d G' H', Okc Z G0 S Γx σ G' H' → T.rel ex cls d G' → W cls d σ H')) : tCB r ta σ H Q := by
  refine ha.ev Z G0 S σ G H _ k (Res.wp_mono (Res.wp_bind q) (fun x q vs G1 H1 hl k1 => ?_) fun ex q => q)
  obtain ⟨c, e, q3⟩ := wp_cases (Res.wp_bind q) (h3 x).ne
  exact (h3 x).run Z G0 (S ++ (Γ1 x).zip σ) G1 H1 vs Q hl (by rw [← List.append_assoc]; exact k1.ok) c e fun v G' H' k' => q3 v G' H' ⟨k1.len, k'⟩
theorem ex_callB {r : List V → Hp → VK → Prop} {id : String} {x : Str} {e : Expr} {es : List Expr} {p pos : Pos} {ta : TA} {α γ : Type} {m1 : Res α} {Rs : α → List Sl} {Γ1 : α → Ctx} {m3 : α → Res γ} {R3 : α → γ → Sl}
    (hc : CallR X (.builtin id) r) (hm : X.mg x = none) (hv : bootBuiltins x = some (.builtin id)) (ha : AX X T W Γx Γ (e :: es) ta m1 Rs Γ1) (h3 : ∀ x, CallOk r (Rs x) (m3 x) (R3 x)) (hg : Gl X x := by rfl)
    (hn : x ≠ "__name__" := by decide) (hdb : (x == ("__debug__" : Str)) = false := by decide) (he : starEach (e :: es) X.env = (false, eval e X.env) :: starEach es X.env := by rfl) (hpl : (backTo pos (starEach es X.env)).any (·.1) = false := by rfl) :
    EX X T W Γx Γ (.Call (.Name x p) (e :: es) [] pos) (tCB r ta) (m1.bind fun x => (m3 x).bind fun c => .ok (x, c)) (fun t => R3 t.1 t.2) (fun t => Γ1 t.1) := ⟨pe_callB hc hg hm hv ha.pa hn hdb he hpl, cb_ev ha h3⟩
theorem ex_callTy {r : List V → Hp → VK → Prop} {id : String} {x : Str} {e : Expr} {es : List Expr} {p pos : Pos} {ta : TA} {α γ : Type} {m1 : Res α} {Rs : α → List Sl} {Γ1 : α → Ctx} {m3 : α → Res γ} {R3 : α → γ → Sl}
    (hc : CallR X (.type id) r) (hm : X.mg x = none) (hv : bootBuiltins x = some (.type id)) (ha : AX X T W Γx Γ (e :: es) ta m1 Rs Γ1) (h3 : ∀ x, CallOk r (Rs x) (m3 x) (R3 x)) (hg : Gl X x := by rfl)
    (hn : x ≠ "__name__" := by decide) (hdb : (x == ("__debug__" : Str)) = false := by decide) (he : starEach (e :: es) X.env = (false, eval e X.env) :: starEach es X.env := by rfl) (hpl : (backTo pos (starEach es X.env)).any (·.1) = false := by rfl) :
    EX X T W Γx Γ (.Call (.Name x p) (e :: es) [] pos) (tCB r ta) (m1.bind fun x => (m3 x).bind fun c => .ok (x, c)) (fun t => R3 t.1 t.2) (fun t => Γ1 t.1) := ⟨pe_callTy hc hg hm hv ha.pa hn hdb he hpl, cb_ev ha h3⟩
/-- one argument, frozen -/
theorem co1 {r : List V → Hp → VK → Prop} {α γ δ : Type} {c : Cod α} {d : Cod δ} {a : α} {m : Res γ} {f : γ → δ} (hn : ∀ e, m ≠ .exn e) (h : ∀ G H v (Q : VK), Ex G H → c.rel G v a → ∀ z, m = .ok z → (∀ v', d.rel G v' (f z) → Q v' H) → r [v] H Q) : CallOk r [fz c a] m (fun z => fz d (f z)) :=
  ⟨fun Z G0 l G H vs Q hl k z e q => by
    match vs, hl with
    | [v], _ =>
      have k' : Okl Z G0 ((some (fz c a), some v) :: l) G H := k
      exact h G H v Q k'.gh k'.rel1 z e fun v' hv => q v' G H (k'.drop.push hv), hn⟩
theorem co2 {r : List V → Hp → VK → Prop} {α β γ δ : Type} {c : Cod α} {c' : Cod β} {d : Cod δ} {a : α} {b : β} {m : Res γ} {f : γ → δ} (hn : ∀ e, m ≠ .exn e) (h : ∀ G H v w (Q : VK), Ex G H → c.rel G v a → c'.rel G w b → ∀ z, m = .ok z → (∀ v', d.rel G v' (f z) → Q v' H) → r [v, w] H Q) : CallOk r [fz c a, fz c' b] m (fun z => fz d (f z)) :=
  ⟨fun Z G0 l G H vs Q hl k z e q => by
    match vs, hl with
    | [v, w], _ =>
      have k' : Okl Z G0 ((some (fz c a), some v) :: (some (fz c' b), some w) :: l) G H := k
      exact h G H v w Q k'.gh k'.rel1 k'.drop.rel1 z e fun v' hv => q v' G H (k'.drop.drop.push hv), hn⟩
abbrev rLen (K : PySem.W.Frag) : List V → Hp → VK → Prop := fun xs H Q => ∃ p ys, xs = [.ref p] ∧ (SqL K H p ys ∨ SqT K H p ys) ∧ Q (.int ys.length) H
theorem b_len {α : Type} {c : Cod α} {xs : List α} : CallOk (rLen K) [fz (cList c) xs] (.ok ()) (fun _ => sI (xs.length : Int)) := co1 (f := fun _ => (xs.length : Int)) ok_ne fun G H v Q e h z _ q => by
  obtain ⟨p, vs, rfl, hs, hp⟩ := h
  exact ⟨p, vs, rfl, .inl (cl_sq e hs), q _ (by show V.int _ = V.int _; rw [hp.length])⟩
theorem b_lenQ {α : Type} {c : Cod α} {xs : List α} : CallOk (rLen K) [fz (cSq K c) xs] (.ok ()) (fun _ => sI (xs.length : Int)) := co1 (f := fun _ => (xs.length : Int)) ok_ne fun G H v Q e h z _ q => by
  obtain ⟨p, vs, rfl, hs, hp⟩ := h
  exact ⟨p, vs, rfl, .inl (Evl.ex_l e hs), q _ (by show V.int _ = V.int _; rw [hp.length])⟩
abbrev rLenStr : List V → Hp → VK → Prop := fun xs H Q => ∃ z, xs = [.str z] ∧ z.length ≤ sizeLine ∧ Q (.int z.length) H
theorem sv_len (t : Tx) : (⟨t.toArray⟩ : Str).length = t.length := by simp [Str.length]
theorem b_lenS {t : Tx} : CallOk rLenStr [sT t] (.ok ()) (fun _ => sI (t.length : Int)) := co1 (f := fun _ => (t.length : Int)) ok_ne fun G H v Q e h z _ q => by
  obtain ⟨rfl, hl⟩ := h
  refine ⟨_, rfl, ?_, q _ ?_⟩
  · rw [sv_len, ← line_eq]
    exact hl
  · show V.int _ = V.int _
    rw [sv_len]
theorem b_abs {i : Int} : CallOk (fun xs H Q => ∃ i, xs = [.int i] ∧ Q (.int (if i < 0 then -i else i)) H) [sI i] (.ok ()) (fun _ => sI (R.abs i)) := co1 (f := fun _ => R.abs i) ok_ne fun G H v Q e h z _ q => ⟨i, congrArg (fun v => [v]) h, q _ rfl⟩
theorem b_int {i : Int} : CallOk (fun xs H Q => (∃ i, xs = [.int i] ∧ Q (.int i) H) ∨ ∃ k, xs = [.bl k] ∧ Q (.int (if k then 1 else 0)) H) [sI i] (.ok ()) (fun _ => sI i) := co1 (f := fun _ => i) ok_ne fun G H v Q e h z _ q => .inl ⟨i, congrArg (fun v => [v]) h, q _ rfl⟩
theorem b_intB {b : Bool} : CallOk (fun xs H Q => (∃ i, xs = [.int i] ∧ Q (.int i) H) ∨ ∃ k, xs = [.bl k] ∧ Q (.int (if k then 1 else 0)) H) [sB b] (.ok ()) (fun _ => sI (R.b2i b)) := co1 (f := fun _ => R.b2i b) ok_ne fun G H v Q e h z _ q => .inr ⟨b, congrArg (fun v => [v]) h, q _ rfl⟩
theorem b_max {i j : Int} : CallOk (fun xs H Q => ∃ i j, xs = [.int i, .int j] ∧ Q (.int (if j > i then j else i)) H) [sI i, sI j] (.ok ()) (fun _ => sI (R.max2 i j)) := co2 (f := fun _ => R.max2 i j) ok_ne fun G H v w Q e h h' z _ q => ⟨i, j, by rw [show v = .int i from h, show w = .int j from h'], q _ rfl⟩
theorem b_min {i j : Int} : CallOk (fun xs H Q => ∃ i j, xs = [.int i, .int j] ∧ Q (.int (if j < i then j else i)) H) [sI i, sI j] (.ok ()) (fun _ => sI (R.min2 i j)) := co2 (f := fun _ => R.min2 i j) ok_ne fun G H v w Q e h h' z _ q => ⟨i, j, by rw [show v = .int i from h, show w = .int j from h'], q _ rfl⟩
/-- list(xs): a new one -/
theorem b_list {α : Type} {c : Cod α} {xs : List α} : CallOk (fun vs H Q => ∃ p ys, vs = [.ref p] ∧ (SqL K H p ys ∨ SqT K H p ys) ∧ ∀ l, H l = none → Q (.ref l) (upd H l (.lst ys))) [fz (cList c) xs] (.ok ()) (fun _ => ol c xs) :=
  ⟨fun Z G0 l G H vs Q hl k z e q => by
    match vs, hl with
    | [v], _ =>
      have k' : Okl Z G0 ((some (fz (cList c) xs), some v) :: l) G H := k
      obtain ⟨p, ws, rfl, hs, hp⟩ := k'.rel1
      exact ⟨p, ws, rfl, .inl (cl_sq k'.gh hs), fun a ha => q _ _ _ (k'.drop.layOwn (s := ol c xs) ha ⟨a, ws, rfl, rfl, upd_same, hp⟩)⟩, ok_ne⟩
theorem bools_of {G : Hp} : ∀ {vs : List V} {bs : List Bool}, Paired (cBool.rel G) vs bs → vs = bs.map V.bl
  | _, _, .nil => rfl
  | _, _, .cons (a := v) (b := b) h r => by rw [show v = V.bl b from h, bools_of r]; rfl
theorem ints_of {G : Hp} : ∀ {vs : List V} {ns : List Int}, Paired (cInt.rel G) vs ns → vs = ns.map V.int
  | _, _, .nil => rfl
  | _, _, .cons (a := v) (b := b) h r => by rw [show v = V.int b from h, ints_of r]; rfl
theorem b_all {bs : List Bool} : CallOk (rAll K) [fz (cList cBool) bs] (.ok ()) (fun _ => sB (bs.all id)) := co1 (f := fun _ => bs.all id) ok_ne fun G H v Q e h z _ q => by
  obtain ⟨p, vs, rfl, hs, hp⟩ := h
  rw [bools_of hp] at hs
  exact ⟨p, bs, rfl, cl_sq e hs, q _ rfl⟩
theorem b_sum {ns : List Int} : CallOk (rSum K) [fz (cList cInt) ns] (.ok ()) (fun _ => sI ns.sum) := co1 (f := fun _ => ns.sum) ok_ne fun G H v Q e h z _ q => by
  obtain ⟨p, vs, rfl, hs, hp⟩ := h
  rw [ints_of hp] at hs
  exact ⟨p, ns, rfl, cl_sq e hs, q _ rfl⟩

/-! ### items -/
theorem atI_rel {α : Type} {c : Cod α} {G : Hp} {vs : List V} {xs : List α} (h : Paired (c.rel G) vs xs) {i : Int} {x : α} (e : R.atI xs i = some x) : ∃ v, L2.atI vs i = some v ∧ c.rel G v x := by
  have hl := h.length
  unfold R.atI at e
  cases q : R.ixN xs.length i with
  | none => rw [q] at e; cases e
  | some j =>
    rw [q] at e
    have e' : xs[j]? = some x := e
    have hg : ∀ {vs : List V} {xs : List α} {j : Nat}, Paired (c.rel G) vs xs → xs[j]? = some x → ∃ v, vs[j]? = some v ∧ c.rel G v x := by
      intro vs xs j h
      induction h generalizing j with
      | nil => intro z; simp at z
      | cons r _ ih =>
        intro z
        cases j with
        | zero =>
          have z' := Option.some.inj z
          subst z'
          exact ⟨_, rfl, r⟩
        | succ j => exact ih (by simpa using z)
    obtain ⟨v, hv, hr⟩ := hg h e'
    refine ⟨v, ?_, hr⟩
    unfold L2.atI
    rw [hl]
    have q' : L2.ixN xs.length i = some j := q
    rw [q']
    exact hv
theorem idx_ok {α : Type} {xs : List α} {i : Int} {x : α} (e : R.idx xs i = .ok x) : R.atI xs i = some x := by
  unfold R.idx at e
  cases q : R.atI xs i with
  | none => rw [q] at e; cases e
  | some v => rw [q] at e; cases e; rfl
theorem idx_ne {α : Type} {xs : List α} {i : Int} : ∀ e, R.idx xs i ≠ .exn e := fun e z => by
  unfold R.idx at z
  cases q : R.atI xs i with
  | none => rw [q] at z; cases z
  | some v => rw [q] at z; cases z
theorem o_ixL {α : Type} {c : Cod α} {xs : List α} {i : Int} : OpOk (rIxL K) (fz (cList c) xs) (sI i) (R.idx xs i) (fun x => fz c x) :=
  ⟨fun Z G0 l G H v1 v2 Q k x e q => by
    obtain ⟨⟨p, vs, e1, hs, hp⟩, h2⟩ := k.rels
    obtain ⟨v, hv, hr⟩ := atI_rel hp (idx_ok e)
    exact ⟨p, vs, i, v, e1, h2, cl_sq k.gh hs, hv, q v G H (k.drop.drop.push hr)⟩, idx_ne⟩
theorem o_ixQ {α : Type} {c : Cod α} {xs : List α} {i : Int} : OpOk (rIxL K) (fz (cSq K c) xs) (sI i) (R.idx xs i) (fun x => fz c x) :=
  ⟨fun Z G0 l G H v1 v2 Q k x e q => by
    obtain ⟨⟨p, vs, e1, hs, hp⟩, h2⟩ := k.rels
    obtain ⟨v, hv, hr⟩ := atI_rel hp (idx_ok e)
    exact ⟨p, vs, i, v, e1, h2, Evl.ex_l k.gh hs, hv, q v G H (k.drop.drop.push hr)⟩, idx_ne⟩
theorem ex_ix {r : R2} {e1 e2 : Expr} {pos : Pos} {ta tb : TE} {α β γ : Type} [Nonempty α] {m1 : Res α} {R1 : α → Sl} {Γ1 : α → Ctx} {m2 : α → Res β} {R2 : α → β → Sl} {Γ2 : α → β → Ctx} {m3 : α → β → Res γ} {R3 : α → β → γ → Sl}
    (ho : IxR X r) (ha : EX X T W Γx Γ e1 ta m1 R1 Γ1) (hb : ∀ x, EX X T W Γx (Γ1 x) e2 tb (m2 x) (R2 x) (Γ2 x)) (h3 : ∀ x y, OpOk r (R1 x) (R2 x y) (m3 x y) (R3 x y)) (hs : PlainIx e2 := by exact fun _ _ => rfl) :
    EX X T W Γx Γ (.Subscript e1 e2 pos) (tOp r ta tb) (m1.bind fun x => (m2 x).bind fun y => (m3 x y).bind fun c => .ok (x, y, c)) (fun t => R3 t.1 t.2.1 t.2.2) (fun t => Γ2 t.1 t.2.1) := by
  obtain ⟨x⟩ := ‹Nonempty α›
  exact ⟨pe_ix ho ha.pe (hb x).pe hs, op_ev ha hb h3⟩
theorem o_ixS {t : Tx} {i : Int} : OpOk rIxS (sT t) (sI i) (R.idx t i) (fun x => sT [x]) :=
  ⟨fun Z G0 l G H v1 v2 Q k x e q => by
    obtain ⟨⟨e1, hl⟩, h2⟩ := k.rels
    refine ⟨⟨t.toArray⟩, i, x, e1, h2, ?_, idx_ok e, q _ G H (k.drop.drop.push ⟨rfl, by show 1 ≤ R.line; decide⟩)⟩
    rw [sv_len, ← line_eq]
    exact hl, idx_ne⟩
/-- a written place of a tuple -/
def Prj {α β : Type} (d : Cods α) (k : Nat) (c : Cod β) (f : α → β) : Prop := ∀ G vs a, d.rel G vs a → ∃ v, vs[k]? = some v ∧ c.rel G v (f a)
theorem prj_one {α : Type} {c : Cod α} : Prj (dOne c) 0 c (fun a => a) := fun G vs a ⟨v, h1, h2⟩ => ⟨v, by rw [h1]; rfl, h2⟩
theorem prj_0 {α β : Type} {c : Cod α} {d : Cods β} : Prj (dCons c d) 0 c Prod.fst := fun G vs a ⟨v, r, h1, h2, _⟩ => ⟨v, by rw [h1]; rfl, h2⟩
theorem prj_s {α β γ : Type} {c : Cod α} {d : Cods β} {c' : Cod γ} {k : Nat} {f : β → γ} (h : Prj d k c' f) : Prj (dCons c d) (k + 1) c' (fun a => f a.2) := fun G vs a ⟨v, r, h1, _, h3⟩ => by
  obtain ⟨w, e, q⟩ := h G r a.2 h3
  exact ⟨w, by rw [h1]; exact e, q⟩
theorem o_ixT {α β : Type} {d : Cods α} {c : Cod β} {a : α} {i : Int} {k : Nat} {f : α → β} (h : Prj d k c f) (hi : i = (k : Int) := by rfl) : OpOk (rIxT K) (fz (cTup K d) a) (sI i) (.ok ()) (fun _ => fz c (f a)) :=
  ⟨fun Z G0 l G H v1 v2 Q kk x e q => by
    obtain ⟨⟨p, vs, e1, hs, hp⟩, h2⟩ := kk.rels
    obtain ⟨v, hv, hr⟩ := h G vs a hp
    subst hi
    exact ⟨p, vs, k, v, e1, h2, Evl.ex_t kk.gh hs, atI_nat hv, q v G H (kk.drop.drop.push hr)⟩, ok_ne⟩
end
end Rt
/-! Rt5: statements, defs, calls, loops. -/
namespace Rt
open PySem L2 R
/-! ### what a def promises -/
def aNil : Unit → List (Option Sl) := fun _ => []
def aCons {α β : Type} (s : α → Sl) (r : β → List (Option Sl)) : α × β → List (Option Sl) := fun x => some (s x.1) :: r x.2
def ArgOf {ξ : Type} (A : ξ → List (Option Sl)) (Rs : List Sl) (x : ξ) : Prop := A x = Rs.map some
theorem arg_nil : ArgOf aNil [] () := rfl
theorem arg_cons {α β : Type} {s : α → Sl} {r : β → List (Option Sl)} {a : α} {b : β} {Rs : List Sl} (h : ArgOf r Rs b) : ArgOf (aCons s r) (s a :: Rs) (a, b) := congrArg (some (s a) :: ·) h
def spM {ξ β : Type} (n : Nat) (T : XT) (A : ξ → List (Option Sl)) (f : ξ → Res β) (R : β → Sl) : Sp := fun vs H Q E => ∃ (x : ξ) (Z G0 G : Hp), vs.length = n ∧ (A x).length = n ∧ Okl Z G0 ((A x).zip (vs.map some)) G H ∧
  (f x).wp (fun b => ∀ v G' H', Okl Z G0 [(some (R b), some v)] G' H' → Q v H') (fun ex => ∀ cls d G' H', Okl Z G0 [] G' H' → T.rel ex cls d G' → E cls d H')
section
variable {X : Cx} {T : XT} {W : WX} {Γx Γ : Ctx} {K : PySem.W.Frag}
theorem okc_app {Z G0 : Hp} {S L : List Pl} {σ : St} {G H : Hp} (k : Okc Z G0 (L ++ S) Γ σ G H) : Okl Z G0 (L ++ (S ++ Γ.zip σ)) G H := by
  rw [← List.append_assoc]
  exact k.ok
theorem call_ev {ξ β α : Type} {n : Nat} {A : ξ → List (Option Sl)} {f : ξ → Res β} {R : β → Sl} {es : List Expr} {ta : TA} {m1 : Res α} {Rs : α → List Sl} {Γ1 : α → Ctx} {x : α → ξ} (hn : ∀ x, (A x).length = n) (ha : AX X T W Γx Γ es ta m1 Rs Γ1) (hx : ∀ t, ArgOf A (Rs t) (x t)) (hw : ∀ t, Wk (Γ1 t) Γx)
    (Z G0 : Hp) (S : List Pl) (σ : St) (G H : Hp) (Q : VK) (k : Okc Z G0 S Γ σ G H)
    (q : (m1.bind fun t => (f (x t)).bind fun r => .ok (t, r)).wp (fun t => ∀ v G' H', Okc Z G0 ((some (R t.2), some v) :: S) (Γ1 t.1) σ G' H' → Q v H') (fun ex => ∀ cls d G' H', Okc Z G0 S Γx σ G' H' → T.rel ex cls d G' → W cls d σ H')) : ta σ H fun vs H1 => spM n T A f R vs H1 Q (WE W σ) := by
  refine ha.ev Z G0 S σ G H _ k (Res.wp_mono (Res.wp_bind q) (fun t q vs G1 H1 hl k1 => ?_) fun ex q => q)
  obtain ⟨Zc, l1, l2⟩ := (okc_app k1).lend
  have e : A (x t) = (Rs t).map some := hx t
  refine ⟨x t, Zc, G1, G1, ?_, hn _, ?_, Res.wp_mono (Res.wp_bind q) (fun r q v G' H' k' => ?_) fun ex q cls d G' H' k' => q cls d G' H' (hw t _ _ _ _ _ _ ⟨k1.len, l2 [] G' H' k'⟩)⟩
  · rw [← hl, ← hn (x t), e, List.length_map]
  · rw [e]
    exact l1
  · exact q v G' H' ⟨k1.len, l2 _ G' H' k'⟩
theorem ex_call {ξ β α : Type} {n : Nat} {A : ξ → List (Option Sl)} {f : ξ → Res β} {R : β → Sl} {k : Nat} {fa : Addr} {fd : FuncData} {ps : List Str} {x : Str} {p pos : Pos} {e : Expr} {es : List Expr} {ta : TA} {m1 : Res α} {Rs : α → List Sl} {Γ1 : α → Ctx} {a : α → ξ}
    (F : FnOk X.prog X.w X.K X.mg X.base (L2.CX X.prog X.w) k fa fd ps (spM n T A f R)) (hr : Room k X.A) (hm : X.mg x = some (.ref fa)) (hk : PySem.W.keepIn X.K (.ref fa) = true) (hb : Binds X.K fd ps []) (tk : Takes X W) (hn : ∀ x, (A x).length = n)
    (ha : AX X T W Γx Γ (e :: es) ta m1 Rs Γ1) (hx : ∀ t, ArgOf A (Rs t) (a t)) (hw : ∀ t, Wk (Γ1 t) Γx) (hg : Gl X x := by rfl) (hdb : (x == ("__debug__" : Str)) = false := by decide) (he : starEach (e :: es) X.env = (false, eval e X.env) :: starEach es X.env := by rfl) (hpl : (backTo pos (starEach es X.env)).any (·.1) = false := by rfl) :
    EX X T W Γx Γ (.Call (.Name x p) (e :: es) [] pos) (tCallS (spM n T A f R) (WE W) ta) (m1.bind fun t => (f (a t)).bind fun r => .ok (t, r)) (fun t => R t.2) (fun t => Γ1 t.1) :=
  ⟨pe_callS F hr hg hm hk hb (fun σ => passAt tk σ) ha.pa hdb he hpl, call_ev hn ha hx hw⟩

/-! ### statements -/
inductive Out where
  | nx (Γ : Ctx)
  | ret (s : Sl) (l : List Pl)
  | brk (Γ : Ctx)
  | cnt (Γ : Ctx)
def Out.go (o : Out) (D : Ends) (Z G0 : Hp) (S : List Pl) : Prop :=
  match o with
  | .nx Γ => ∀ σ' G' H', Okc Z G0 S Γ σ' G' H' → D.nx σ' H'
  | .ret s l => ∀ v G' H', Okl Z G0 ((some s, some v) :: (l ++ S)) G' H' → D.rt v H'
  | .brk Γ => ∀ σ' G' H', Okc Z G0 S Γ σ' G' H' → D.bk σ' H'
  | .cnt Γ => ∀ σ' G' H', Okc Z G0 S Γ σ' G' H' → D.ct σ' H'
/-- statements -/
structure SX (X : Cx) (T : XT) (W : WX) (Γx Γ : Ctx) (sts : List Stmt) (ts : TS) {α : Type} (m : Res α) (I : α → Out) : Prop where
  ps : PSs X sts ts
  ev : ∀ (Z G0 : Hp) (S : List Pl) (σ : St) (G H : Hp) (D : Ends), Okc Z G0 S Γ σ G H → m.wp (fun a => (I a).go D Z G0 S) (fun ex => ∀ cls d σ' G' H', Okc Z G0 S Γx σ' G' H' → T.rel ex cls d G' → W cls d σ' H') → ts D σ H
/-- one statement that goes on -/
structure S1 (X : Cx) (T : XT) (W : WX) (Γx Γ : Ctx) (st : Stmt) (ts : TS) {α : Type} (m : Res α) (I : α → Out) : Prop where
  ps : PS X st ts
  ev : ∀ (Z G0 : Hp) (S : List Pl) (σ : St) (G H : Hp) (D : Ends), Okc Z G0 S Γ σ G H → m.wp (fun a => (I a).go D Z G0 S) (fun ex => ∀ cls d σ' G' H', Okc Z G0 S Γx σ' G' H' → T.rel ex cls d G' → W cls d σ' H') → ts D σ H
theorem sx_nil {α : Type} {s : α} {Γn : α → Ctx} (w : Wk Γ (Γn s)) : SX X T W Γx Γ [] tNext (.ok s) (fun s => .nx (Γn s)) := ⟨pss_nil, fun Z G0 S σ G H D k q => q σ G H (w _ _ _ _ _ _ k)⟩
theorem sx_cons {st : Stmt} {rest : List Stmt} {t u : TS} {α β : Type} [Nonempty α] {m1 : Res α} {Γ1 : α → Ctx} {m2 : α → Res β} {I : β → Out} (h1 : S1 X T W Γx Γ st t m1 (fun a => .nx (Γ1 a))) (h2 : ∀ a, SX X T W Γx (Γ1 a) rest u (m2 a) I) :
    SX X T W Γx Γ (st :: rest) (tSeq t u) (m1.bind m2) I := by
  obtain ⟨x⟩ := ‹Nonempty α›
  refine ⟨pss_cons h1.ps (h2 x).ps, fun Z G0 S σ G H D k q => ?_⟩
  exact h1.ev Z G0 S σ G H { D with nx := u D } k (Res.wp_mono (Res.wp_bind q) (fun a q σ' G' H' k' => (h2 a).ev Z G0 S σ' G' H' D k' q) fun _ z => z)
theorem SX.wk {Δ : Ctx} {sts : List Stmt} {ts : TS} {α : Type} {m : Res α} {I : α → Out} (h : SX X T W Γx Δ sts ts m I) (w : Wk Γ Δ) : SX X T W Γx Γ sts ts m I := ⟨h.ps, fun Z G0 S σ G H D k q => h.ev Z G0 S σ G H D (w _ _ _ _ _ _ k) q⟩
/-- a slot is stored -/
theorem zip_set : ∀ {Γ : Ctx} {σ : St} {i : Nat} {o : Option Sl} {w : Option V}, (Γ.set i o).zip (σ.set i w) = (Γ.zip σ).set i (o, w)
  | [], _, _, _, _ => rfl
  | _ :: _, [], 0, _, _ => rfl
  | _ :: _, [], _ + 1, _, _ => rfl
  | _ :: _, _ :: _, 0, _, _ => rfl
  | x :: Γ, y :: σ, i + 1, o, w => congrArg ((x, y) :: ·) (zip_set (Γ := Γ) (σ := σ) (i := i) (o := o) (w := w))
theorem perm_set : ∀ {l : List Pl} {i : Nat} {x y : Pl}, l[i]? = some x → (l.set i y).Perm (y :: l.eraseIdx i)
  | [], _, _, _, h => by simp at h
  | _ :: l, 0, _, _, _ => .refl _
  | z :: l, i + 1, x, y, h => ((perm_set (l := l) (i := i) (x := x) (y := y) (by simpa using h)).cons z).trans (.swap y z _)
theorem Okc.store {Z G0 : Hp} {S : List Pl} {σ : St} {G H : Hp} {o : Option Sl} {w : Option V} {i : Nat} (k : Okc Z G0 ((o, w) :: S) Γ σ G H) (hi : i < Γ.length) : Okc Z G0 S (Γ.set i o) (σ.set i w) G H := by
  refine ⟨by rw [List.length_set, List.length_set]; exact k.len, ?_⟩
  rw [zip_set]
  obtain ⟨w0, _, hz⟩ := zip_get (o := Γ[i]) k.len (List.getElem?_eq_getElem hi)
  have p1 := perm_at hz
  have p2 := perm_set (y := (o, w)) hz
  have k1 : Okl Z G0 ((Γ[i], w0) :: ((o, w) :: (S ++ (Γ.zip σ).eraseIdx i))) G H := by
    refine k.of.perm ?_
    refine (List.Perm.cons _ (p1.append_left S)).trans ?_
    exact (List.Perm.cons _ mid).trans (.swap _ _ _)
  refine k1.drop.perm ?_
  exact (mid.symm.trans (p2.symm.append_left S))
theorem s1_asg {i : Nat} {x : Str} {e : Expr} {te : TE} {pos pos' : Pos} {α ν : Type} {me : Res α} {mn : Res ν} {R : α → Sl} {Γo : α → Ctx} {R' : ν → Sl} {Γ' : ν → Ctx} {f : α → ν} (he : EX X T W Γx Γ e te me R Γo) (hR : ∀ t, R t = R' (f t)) (hΓ : ∀ t, Γo t = Γ' (f t)) (hl : ∀ v, Nat.ble (i + 1) (Γ' v).length = true)
    (hN : X.N.Nodup) (hi : X.N[i]? = some x) (hx : Loc X.env.scope x) (hb : Bd mn me (fun t => .ok (f t)) := by intros; repeat (first | ((with_reducible refine Bd.done ?_); exact rfl) | with_reducible refine Bd.okl ?_ | with_reducible refine Bd.assoc ?_ | with_reducible refine Bd.bind fun _ => ?_ | with_reducible refine Bd.eta fun _ => ?_ | with_reducible refine Bd.iteB ?_ ?_ fun _ => ?_ | with_reducible refine Bd.iteE ?_ ?_ fun _ => ?_ | with_reducible refine Bd.ite ?_ ?_ | with_reducible refine Bd.iteL ?_ ?_ | with_reducible refine Bd.assocL ?_ | with_reducible refine Bd.oklL ?_ | with_reducible exact Bd.same | with_reducible exact Bd.at | dsimp only))
    (hs : swapsWith e (some (.Name x pos')) pos.line X.env = pure false := by rfl) (hf : X.fn x = true ∨ X.env.scope.names.lookup x = some .local := by first | exact .inl rfl | exact .inr rfl | assumption) :
    S1 X T W Γx Γ (.Assign [.Name x pos'] e pos) (tAsg te (gName i)) mn (fun v => .nx ((Γ' v).set i (some (R' v)))) :=
  ⟨ps_set hN hi hx he.pe hs hf, fun Z G0 S σ G H D k q => he.ev Z G0 S σ G H _ k (Res.wp_mono (hb _ _ q) (fun a q v G' H' k' => q _ G' H' (by
    have z : i < (Γ' (f a)).length := Nat.le_of_ble_eq_true (hl (f a))
    rw [← hΓ] at z
    rw [← hΓ, ← hR]
    exact k'.store z)) fun ex q cls d G' H' k' => q cls d σ G' H' k')⟩
/-- nothing else changes -/
theorem s1_set {i : Nat} {x : Str} {e : Expr} {te : TE} {pos pos' : Pos} {α ν : Type} {me : Res α} {mn : Res ν} {R : α → Sl} {Γo : α → Ctx} {R' : ν → Sl} {f : α → ν} (he : EX X T W Γx Γ e te me R Γo) (hR : ∀ t, R t = R' (f t) := by exact fun _ => rfl) (hΓ : ∀ t, Γo t = Γ := by exact fun _ => rfl) (hl : Nat.ble (i + 1) Γ.length = true := by rfl)
    (hN : X.N.Nodup) (hi : X.N[i]? = some x := by rfl) (hx : Loc X.env.scope x := by first | exact Or.inl rfl | exact Or.inr rfl) (hb : Bd mn me (fun t => .ok (f t)) := by intros; repeat (first | ((with_reducible refine Bd.done ?_); exact rfl) | with_reducible refine Bd.okl ?_ | with_reducible refine Bd.assoc ?_ | with_reducible refine Bd.bind fun _ => ?_ | with_reducible refine Bd.eta fun _ => ?_ | with_reducible refine Bd.iteB ?_ ?_ fun _ => ?_ | with_reducible refine Bd.iteE ?_ ?_ fun _ => ?_ | with_reducible refine Bd.ite ?_ ?_ | with_reducible refine Bd.iteL ?_ ?_ | with_reducible refine Bd.assocL ?_ | with_reducible refine Bd.oklL ?_ | with_reducible exact Bd.same | with_reducible exact Bd.at | dsimp only))
    (hs : swapsWith e (some (.Name x pos')) pos.line X.env = pure false := by rfl) (hf : X.fn x = true ∨ X.env.scope.names.lookup x = some .local := by first | exact .inl rfl | exact .inr rfl | assumption) :
    S1 X T W Γx Γ (.Assign [.Name x pos'] e pos) (tAsg te (gName i)) mn (fun v => .nx (Γ.set i (some (R' v)))) := s1_asg (Γ' := fun _ => Γ) he hR hΓ (fun _ => hl) hN hi hx hb hs hf
theorem s1_expr {e : Expr} {te : TE} {pos : Pos} {α ν : Type} {me : Res α} {mn : Res ν} {R : α → Sl} {Γo : α → Ctx} {Γ' : ν → Ctx} {f : α → ν} (he : EX X T W Γx Γ e te me R Γo) (hΓ : ∀ t, Γo t = Γ' (f t)) (hb : Bd mn me (fun t => .ok (f t)) := by intros; repeat (first | ((with_reducible refine Bd.done ?_); exact rfl) | with_reducible refine Bd.okl ?_ | with_reducible refine Bd.assoc ?_ | with_reducible refine Bd.bind fun _ => ?_ | with_reducible refine Bd.eta fun _ => ?_ | with_reducible refine Bd.iteB ?_ ?_ fun _ => ?_ | with_reducible refine Bd.iteE ?_ ?_ fun _ => ?_ | with_reducible refine Bd.ite ?_ ?_ | with_reducible refine Bd.iteL ?_ ?_ | with_reducible refine Bd.assocL ?_ | with_reducible refine Bd.oklL ?_ | with_reducible exact Bd.same | with_reducible exact Bd.at | dsimp only))
    (hs : swapsWith e none pos.line X.env = pure false := by rfl) : S1 X T W Γx Γ (.Expr e pos) (tDrop te) mn (fun v => .nx (Γ' v)) :=
  ⟨ps_expr he.pe hs, fun Z G0 S σ G H D k q => he.ev Z G0 S σ G H _ k (Res.wp_mono (hb _ _ q) (fun a q v G' H' k' => q σ G' H' (by
    rw [← hΓ]
    exact k'.drop)) fun ex q cls d G' H' k' => q cls d σ G' H' k')⟩
/-- all but what stands on the stack is dropped -/
theorem Okc.bare {Z G0 : Hp} {S : List Pl} {σ : St} {G H : Hp} (k : Okc Z G0 S Γ σ G H) : Okl Z G0 S G H := (k.ok.perm List.perm_append_comm).sub
theorem sx_ret {e : Expr} {te : TE} {pos : Pos} {rest : List Stmt} {α β : Type} {mn : Res β} {me : Res α} {R : α → Sl} {Γo : α → Ctx} {f : α → β} {R' : β → Sl} (he : EX X T W Γx Γ e te me R Γo) (hR : ∀ a, R a = R' (f a)) (hb : Bd mn me (fun a => .ok (f a)) := by intros; repeat (first | ((with_reducible refine Bd.done ?_); exact rfl) | with_reducible refine Bd.okl ?_ | with_reducible refine Bd.assoc ?_ | with_reducible refine Bd.bind fun _ => ?_ | with_reducible refine Bd.eta fun _ => ?_ | with_reducible refine Bd.iteB ?_ ?_ fun _ => ?_ | with_reducible refine Bd.iteE ?_ ?_ fun _ => ?_ | with_reducible refine Bd.ite ?_ ?_ | with_reducible refine Bd.iteL ?_ ?_ | with_reducible refine Bd.assocL ?_ | with_reducible refine Bd.oklL ?_ | with_reducible exact Bd.same | with_reducible exact Bd.at | dsimp only)) :
    SX X T W Γx Γ (.Return (some e) pos :: rest) (tSeq (tRet te) tNever) mn (fun b => .ret (R' b) []) :=
  ⟨pss_cons (ps_ret he.pe) pss_never, fun Z G0 S σ G H D k q => he.ev Z G0 S σ G H _ k (Res.wp_mono (hb _ _ q) (fun a q v G' H' k' => by
    have z := q v G' H'
    rw [← hR] at z
    exact z k'.bare) fun ex q cls d G' H' k' => q cls d σ G' H' k')⟩
/-- a test, by its nice form -/
theorem if_ev {c : Expr} {tc : TT} {tA tB : TS} {α ν β : Type} {me : Res α} {mn : Res ν} {b : α → Bool} {Γt : α → Ctx} {f : α → ν} {b' : ν → Bool} {Γ' : ν → Ctx} {mA mB : ν → Res β} {I : β → Out} {DA : Ends → Ends} (hc : ET X T W Γx Γ c tc me b Γt) (hB' : ∀ t, b t = b' (f t)) (hΓ : ∀ t, Γt t = Γ' (f t))
    (hA : ∀ v Z G0 S σ G H (D : Ends), Okc Z G0 S (Γ' v) σ G H → (mA v).wp (fun a => (I a).go D Z G0 S) (fun ex => ∀ cls d σ' G' H', Okc Z G0 S Γx σ' G' H' → T.rel ex cls d G' → W cls d σ' H') → tA (DA D) σ H)
    (hB : ∀ v Z G0 S σ G H (D : Ends), Okc Z G0 S (Γ' v) σ G H → (mB v).wp (fun a => (I a).go D Z G0 S) (fun ex => ∀ cls d σ' G' H', Okc Z G0 S Γx σ' G' H' → T.rel ex cls d G' → W cls d σ' H') → tB (DA D) σ H)
    (hb : Bd mn me (fun t => .ok (f t))) (Z G0 : Hp) (S : List Pl) (σ : St) (G H : Hp) (D : Ends) (k : Okc Z G0 S Γ σ G H)
    (q : (mn.bind fun v => if b' v then mA v else mB v).wp (fun a => (I a).go D Z G0 S) (fun ex => ∀ cls d σ' G' H', Okc Z G0 S Γx σ' G' H' → T.rel ex cls d G' → W cls d σ' H')) : tIfS tc tA tB (DA D) σ H := by
  refine hc.ev Z G0 S σ G H _ k (Res.wp_mono (hb _ _ (Res.wp_bind q)) (fun a q G' H' k' => ?_) fun ex q cls d G' H' k' => q cls d σ G' H' k')
  have q' : (if b' (f a) then mA (f a) else mB (f a)).wp (fun a => (I a).go D Z G0 S) (fun ex => ∀ cls d σ' G' H', Okc Z G0 S Γx σ' G' H' → T.rel ex cls d G' → W cls d σ' H') := q
  rw [hΓ] at k'
  rw [hB']
  cases e : b' (f a) with
  | true =>
    simp only [e, if_true] at q'
    rw [if_pos rfl]
    exact hA _ Z G0 S σ G' H' D k' q'
  | false =>
    simp only [e, Bool.false_eq_true, if_false] at q'
    rw [if_neg Bool.false_ne_true]
    exact hB _ Z G0 S σ G' H' D k' q'
/-- if c: A (never ends at its foot); the rest. The test is pure | may stop | changes what is owned -/
theorem sx_ifretE {c : Expr} {tc : TT} {A rest : List Stmt} {pos : Pos} {tA tr : TS} {α ν β : Type} [Nonempty ν] {me : Res α} {mn : Res ν} {b : α → Bool} {Γt : α → Ctx} {f : α → ν} {b' : ν → Bool} {Γ' : ν → Ctx} {mA mr : ν → Res β} {I : β → Out} (hc : ET X T W Γx Γ c tc me b Γt) (hB : ∀ t, b t = b' (f t)) (hΓ : ∀ t, Γt t = Γ' (f t))
    (hA : ∀ v, SX X T W Γx (Γ' v) A tA (mA v) I) (hr : ∀ v, SX X T W Γx (Γ' v) rest tr (mr v) I) (hI : ∀ a D N Z G0 S, (I a).go D Z G0 S → (I a).go { D with nx := N } Z G0 S := by exact fun _ _ _ _ _ _ z => z) (hb : Bd mn me (fun t => .ok (f t)) := by intros; repeat (first | ((with_reducible refine Bd.done ?_); exact rfl) | with_reducible refine Bd.okl ?_ | with_reducible refine Bd.assoc ?_ | with_reducible refine Bd.bind fun _ => ?_ | with_reducible refine Bd.eta fun _ => ?_ | with_reducible refine Bd.iteB ?_ ?_ fun _ => ?_ | with_reducible refine Bd.iteE ?_ ?_ fun _ => ?_ | with_reducible refine Bd.ite ?_ ?_ | with_reducible refine Bd.iteL ?_ ?_ | with_reducible refine Bd.assocL ?_ | with_reducible refine Bd.oklL ?_ | with_reducible exact Bd.same | with_reducible exact Bd.at | dsimp only)) :
    SX X T W Γx Γ (.If c A [] pos :: rest) (tSeq (tIfS tc tA tNext) tr) (mn.bind fun v => if b' v then mA v else mr v) I := by
  obtain ⟨x⟩ := ‹Nonempty ν›
  refine ⟨pss_cons (ps_if hc.pt (hA x).ps pss_nil) (hr x).ps, fun Z G0 S σ G H D k q => ?_⟩
  exact if_ev (DA := fun D => { D with nx := tr D }) hc hB hΓ (fun v Z G0 S σ G H D k q => (hA v).ev Z G0 S σ G H _ k (Res.wp_mono q (fun c z => hI c _ _ _ _ _ z) fun _ z => z)) (fun v Z G0 S σ G H D k q => (hr v).ev Z G0 S σ G H D k q) hb Z G0 S σ G H D k q
theorem sx_ifretM {c : Expr} {tc : TT} {A rest : List Stmt} {pos : Pos} {tA tr : TS} {α β : Type} {me : Res α} {mn : Res Bool} {b : α → Bool} {Γt : α → Ctx} {mA mr : Res β} {I : β → Out} (hc : ET X T W Γx Γ c tc me b Γt)
    (hA : SX X T W Γx Γ A tA mA I) (hr : SX X T W Γx Γ rest tr mr I) (hΓ : ∀ t, Γt t = Γ := by exact fun _ => rfl) (hI : ∀ a D N Z G0 S, (I a).go D Z G0 S → (I a).go { D with nx := N } Z G0 S := by exact fun _ _ _ _ _ _ z => z) (hb : Bd mn me (fun t => .ok (b t)) := by intros; repeat (first | ((with_reducible refine Bd.done ?_); exact rfl) | with_reducible refine Bd.okl ?_ | with_reducible refine Bd.assoc ?_ | with_reducible refine Bd.bind fun _ => ?_ | with_reducible refine Bd.eta fun _ => ?_ | with_reducible refine Bd.iteB ?_ ?_ fun _ => ?_ | with_reducible refine Bd.iteE ?_ ?_ fun _ => ?_ | with_reducible refine Bd.ite ?_ ?_ | with_reducible refine Bd.iteL ?_ ?_ | with_reducible refine Bd.assocL ?_ | with_reducible refine Bd.oklL ?_ | with_reducible exact Bd.same | with_reducible exact Bd.at | dsimp only)) :
    SX X T W Γx Γ (.If c A [] pos :: rest) (tSeq (tIfS tc tA tNext) tr) (mn.bind fun v => if v then mA else mr) I := sx_ifretE (b' := id) hc (fun _ => rfl) hΓ (fun _ => hA) (fun _ => hr) hI hb
theorem sx_ifret {c : Expr} {tc : TT} {A rest : List Stmt} {pos : Pos} {tA tr : TS} {α β : Type} {me : Res α} {bn : Bool} {b : α → Bool} {Γt : α → Ctx} {mA mr : Res β} {I : β → Out} (hc : ET X T W Γx Γ c tc me b Γt)
    (hA : SX X T W Γx Γ A tA mA I) (hr : SX X T W Γx Γ rest tr mr I) (hΓ : ∀ t, Γt t = Γ := by exact fun _ => rfl) (hI : ∀ a D N Z G0 S, (I a).go D Z G0 S → (I a).go { D with nx := N } Z G0 S := by exact fun _ _ _ _ _ _ z => z) (hb : Bd (.ok bn) me (fun t => .ok (b t)) := by intros; repeat (first | ((with_reducible refine Bd.done ?_); exact rfl) | with_reducible refine Bd.okl ?_ | with_reducible refine Bd.assoc ?_ | with_reducible refine Bd.bind fun _ => ?_ | with_reducible refine Bd.eta fun _ => ?_ | with_reducible refine Bd.iteB ?_ ?_ fun _ => ?_ | with_reducible refine Bd.iteE ?_ ?_ fun _ => ?_ | with_reducible refine Bd.ite ?_ ?_ | with_reducible refine Bd.iteL ?_ ?_ | with_reducible refine Bd.assocL ?_ | with_reducible refine Bd.oklL ?_ | with_reducible exact Bd.same | with_reducible exact Bd.at | dsimp only)) :
    SX X T W Γx Γ (.If c A [] pos :: rest) (tSeq (tIfS tc tA tNext) tr) (if bn then mA else mr) I := sx_ifretM (mn := .ok bn) hc hA hr hΓ hI hb
/-- if c: A else: B, both with the same outcomes -/
theorem s1_ifE {c : Expr} {tc : TT} {A B : List Stmt} {pos : Pos} {tA tB : TS} {α ν β : Type} [Nonempty ν] {me : Res α} {mn : Res ν} {b : α → Bool} {Γt : α → Ctx} {f : α → ν} {b' : ν → Bool} {Γ' : ν → Ctx} {mA mB : ν → Res β} {I : β → Out} (hc : ET X T W Γx Γ c tc me b Γt) (hB' : ∀ t, b t = b' (f t)) (hΓ : ∀ t, Γt t = Γ' (f t))
    (hA : ∀ v, SX X T W Γx (Γ' v) A tA (mA v) I) (hB : ∀ v, SX X T W Γx (Γ' v) B tB (mB v) I) (hb : Bd mn me (fun t => .ok (f t)) := by intros; repeat (first | ((with_reducible refine Bd.done ?_); exact rfl) | with_reducible refine Bd.okl ?_ | with_reducible refine Bd.assoc ?_ | with_reducible refine Bd.bind fun _ => ?_ | with_reducible refine Bd.eta fun _ => ?_ | with_reducible refine Bd.iteB ?_ ?_ fun _ => ?_ | with_reducible refine Bd.iteE ?_ ?_ fun _ => ?_ | with_reducible refine Bd.ite ?_ ?_ | with_reducible refine Bd.iteL ?_ ?_ | with_reducible refine Bd.assocL ?_ | with_reducible refine Bd.oklL ?_ | with_reducible exact Bd.same | with_reducible exact Bd.at | dsimp only)) : S1 X T W Γx Γ (.If c A B pos) (tIfS tc tA tB) (mn.bind fun v => if b' v then mA v else mB v) I := by
  obtain ⟨x⟩ := ‹Nonempty ν›
  exact ⟨ps_if hc.pt (hA x).ps (hB x).ps, fun Z G0 S σ G H D k q => if_ev (DA := id) hc hB' hΓ (fun v => (hA v).ev) (fun v => (hB v).ev) hb Z G0 S σ G H D k q⟩
theorem s1_ifM {c : Expr} {tc : TT} {A B : List Stmt} {pos : Pos} {tA tB : TS} {α β : Type} {me : Res α} {mn : Res Bool} {b : α → Bool} {Γt : α → Ctx} {mA mB : Res β} {I : β → Out} (hc : ET X T W Γx Γ c tc me b Γt)
    (hA : SX X T W Γx Γ A tA mA I) (hB : SX X T W Γx Γ B tB mB I) (hΓ : ∀ t, Γt t = Γ := by exact fun _ => rfl) (hb : Bd mn me (fun t => .ok (b t)) := by intros; repeat (first | ((with_reducible refine Bd.done ?_); exact rfl) | with_reducible refine Bd.okl ?_ | with_reducible refine Bd.assoc ?_ | with_reducible refine Bd.bind fun _ => ?_ | with_reducible refine Bd.eta fun _ => ?_ | with_reducible refine Bd.iteB ?_ ?_ fun _ => ?_ | with_reducible refine Bd.iteE ?_ ?_ fun _ => ?_ | with_reducible refine Bd.ite ?_ ?_ | with_reducible refine Bd.iteL ?_ ?_ | with_reducible refine Bd.assocL ?_ | with_reducible refine Bd.oklL ?_ | with_reducible exact Bd.same | with_reducible exact Bd.at | dsimp only)) : S1 X T W Γx Γ (.If c A B pos) (tIfS tc tA tB) (mn.bind fun v => if v then mA else mB) I := s1_ifE (b' := id) hc (fun _ => rfl) hΓ (fun _ => hA) (fun _ => hB) hb
theorem s1_if {c : Expr} {tc : TT} {A B : List Stmt} {pos : Pos} {tA tB : TS} {α β : Type} {me : Res α} {bn : Bool} {b : α → Bool} {Γt : α → Ctx} {mA mB : Res β} {I : β → Out} (hc : ET X T W Γx Γ c tc me b Γt)
    (hA : SX X T W Γx Γ A tA mA I) (hB : SX X T W Γx Γ B tB mB I) (hΓ : ∀ t, Γt t = Γ := by exact fun _ => rfl) (hb : Bd (.ok bn) me (fun t => .ok (b t)) := by intros; repeat (first | ((with_reducible refine Bd.done ?_); exact rfl) | with_reducible refine Bd.okl ?_ | with_reducible refine Bd.assoc ?_ | with_reducible refine Bd.bind fun _ => ?_ | with_reducible refine Bd.eta fun _ => ?_ | with_reducible refine Bd.iteB ?_ ?_ fun _ => ?_ | with_reducible refine Bd.iteE ?_ ?_ fun _ => ?_ | with_reducible refine Bd.ite ?_ ?_ | with_reducible refine Bd.iteL ?_ ?_ | with_reducible refine Bd.assocL ?_ | with_reducible refine Bd.oklL ?_ | with_reducible exact Bd.same | with_reducible exact Bd.at | dsimp only)) : S1 X T W Γx Γ (.If c A B pos) (tIfS tc tA tB) (if bn then mA else mB) I := s1_ifM (mn := .ok bn) hc hA hB hΓ hb
/-- a last statement that ends the block as the block ends -/
theorem sx_one {st : Stmt} {t : TS} {α : Type} {m : Res α} {I : α → Out} (h : S1 X T W Γx Γ st t m I) : SX X T W Γx Γ [st] t m I := ⟨pss_one h.ps, h.ev⟩
/-- the outcomes of a block that may go on or leave -/
def outC {S B : Type} (Γn : S → Ctx) (R : B → Sl) (L : B → List Pl) : Ctl S B → Out
  | .nx s => .nx (Γn s)
  | .ret b => .ret (R b) (L b)
  | .brk s => .brk (Γn s)
  | .cnt s => .cnt (Γn s)
theorem sx_with {st : Stmt} {rest : List Stmt} {t u : TS} {S' β : Type} [Nonempty S'] {m1 : Res (Ctl S' β)} {Γn : S' → Ctx} {R : β → Sl} {L : β → List Pl} {m2 : S' → Res β} (h1 : S1 X T W Γx Γ st t m1 (outC Γn R L)) (h2 : ∀ s, SX X T W Γx (Γn s) rest u (m2 s) (fun b => .ret (R b) (L b))) :
    SX X T W Γx Γ (st :: rest) (tSeq t u) (withCtl m1 m2) (fun b => .ret (R b) (L b)) := by
  obtain ⟨x⟩ := ‹Nonempty S'›
  refine ⟨pss_cons h1.ps (h2 x).ps, fun Z G0 S σ G H D k q => ?_⟩
  refine h1.ev Z G0 S σ G H { D with nx := u D } k (Res.wp_mono (Res.wp_bind q) (fun a q => ?_) fun _ z => z)
  cases a with
  | nx s => exact fun σ' G' H' k' => (h2 s).ev Z G0 S σ' G' H' D k' q
  | ret b => exact q
  | brk s => exact q.elim
  | cnt s => exact q.elim
theorem sx_then {st : Stmt} {rest : List Stmt} {t u : TS} {S' S2 β : Type} [Nonempty S'] {m1 : Res (Ctl S' β)} {Γn : S' → Ctx} {Γ2 : S2 → Ctx} {R : β → Sl} {L : β → List Pl} {m2 : S' → Res (Ctl S2 β)} (h1 : S1 X T W Γx Γ st t m1 (outC Γn R L)) (h2 : ∀ s, SX X T W Γx (Γn s) rest u (m2 s) (outC Γ2 R L)) :
    SX X T W Γx Γ (st :: rest) (tSeq t u) (thenCtl m1 m2) (outC Γ2 R L) := by
  obtain ⟨x⟩ := ‹Nonempty S'›
  refine ⟨pss_cons h1.ps (h2 x).ps, fun Z G0 S σ G H D k q => ?_⟩
  refine h1.ev Z G0 S σ G H { D with nx := u D } k (Res.wp_mono (Res.wp_bind q) (fun a q => ?_) fun _ z => z)
  cases a with
  | nx s => exact fun σ' G' H' k' => (h2 s).ev Z G0 S σ' G' H' D k' q
  | ret b => exact q
  | brk s => exact q.elim
  | cnt s => exact q.elim
/-- an outcome of a block that goes on, or leaves, as one that may do both -/
theorem SX.toN {sts : List Stmt} {ts : TS} {S' β : Type} {m : Res S'} {Γn : S' → Ctx} {R : β → Sl} {L : β → List Pl} (h : SX X T W Γx Γ sts ts m (fun s => .nx (Γn s))) : SX X T W Γx Γ sts ts (m.bind fun s => .ok (.nx s)) (outC Γn R L) :=
  ⟨h.ps, fun Z G0 S σ G H D k q => h.ev Z G0 S σ G H D k (Res.wp_bind q)⟩
theorem SX.toR {sts : List Stmt} {ts : TS} {S' β : Type} {m : Res β} {Γn : S' → Ctx} {R : β → Sl} {L : β → List Pl} (h : SX X T W Γx Γ sts ts m (fun b => .ret (R b) (L b))) : SX X T W Γx Γ sts ts (m.bind fun b => .ok (.ret b)) (outC Γn R L) :=
  ⟨h.ps, fun Z G0 S σ G H D k q => h.ev Z G0 S σ G H D k (Res.wp_bind q)⟩
theorem sx_brk {pos : Pos} {S' : Type} {s : S'} {Γn : S' → Ctx} (w : Wk Γ (Γn s)) : SX X T W Γx Γ [.Break pos] tBreak (.ok s) (fun s => .brk (Γn s)) := ⟨pss_one ps_break, fun Z G0 S σ G H D k q => q σ G H (w _ _ _ _ _ _ k)⟩
theorem sx_nilC {S' β : Type} {s : S'} {Γn : S' → Ctx} {R : β → Sl} {L : β → List Pl} (w : Wk Γ (Γn s)) : SX X T W Γx Γ [] tNext (.ok (.nx s)) (outC Γn R L) := ⟨pss_nil, fun Z G0 S σ G H D k q => q σ G H (w _ _ _ _ _ _ k)⟩
theorem sx_break {pos : Pos} {S' β : Type} {s : S'} {Γn : S' → Ctx} {R : β → Sl} {L : β → List Pl} (w : Wk Γ (Γn s)) : SX X T W Γx Γ [.Break pos] tBreak (.ok (.brk s)) (outC Γn R L) := ⟨pss_one ps_break, fun Z G0 S σ G H D k q => q σ G H (w _ _ _ _ _ _ k)⟩

/-! ### a def -/
section
variable {P : Program} {w : World} {mg : Str → Option Value} {base : Heap}
theorem fn_mk {x qual : Str} {st : Stmt} {f : Addr} {fd : FuncData} {N ps : List Str} {k n : Nat} {ξ β : Type} {A : ξ → List (Option Sl)} {g : ξ → Res β} {R : β → Sl} (F : Fun K x qual st f fd) (Sc : FnScope N ps (defScope st)) (hn : ps.length = n)
    (hbody : ∀ (cdv : Value) (Ar : Around) (outer : List Env) (s : Shared) (H : Hp) (E : XK), Room k (Ar.deeper (PyProof.Rows.envOfC qual (defScope st) s.heap.objs.size f cdv)) → Takes (cxOf (L2.CX P w) P w K mg base N qual (defScope st) f cdv Ar outer s H E) (fun cls d _ H => E cls d H) →
      PassesOwn (model P w) (Ar.deeper (PyProof.Rows.envOfC qual (defScope st) s.heap.objs.size f cdv)) (PyProof.Rows.envOfC qual (defScope st) s.heap.objs.size f cdv) (cxOf (L2.CX P w) P w K mg base N qual (defScope st) f cdv Ar outer s H E).xe → ∀ a : ξ, (A a).length = n →
      ∃ ts, SX (cxOf (L2.CX P w) P w K mg base N qual (defScope st) f cdv Ar outer s H E) T (fun cls d _ H => E cls d H) (List.replicate N.length none) (A a ++ List.replicate (N.length - n) none) (defBody st) ts (g a) (fun b => .ret (R b) [])) :
    FnOk P w K mg base (L2.CX P w) (k + 1) f fd ps (spM n T A g R) := by
  refine F.okX Sc (fun vs H Q E h => ?_) (fun cdv Ar outer s H vs Q E hr h => ?_)
  · obtain ⟨_, _, _, _, h1, _⟩ := h
    rw [h1, hn]
  · obtain ⟨a, Z, G0, G, h1, h2, h3, h4⟩ := h
    obtain ⟨ts, hs⟩ := hbody cdv Ar outer s H E hr (takes_of rfl rfl rfl rfl) (passes_of rfl) a h2
    refine ⟨ts, hs.ps, hs.ev Z G0 [] _ G H _ ⟨?_, ?_⟩ (Res.wp_mono h4 (fun b q v G' H' k' => q v G' H' k') fun ex q cls d σ' G' H' k' => q cls d G' H' k'.bare)⟩
    · unfold L2.start
      rw [List.length_append, List.length_append, List.length_map, List.length_replicate, List.length_replicate, h1, h2]
    · unfold L2.start
      show Okl Z G0 ((A a ++ List.replicate (N.length - n) none).zip (vs.map some ++ List.replicate (N.length - vs.length) none)) G H
      rw [List.zip_append (by rw [h2, List.length_map, h1]), h1]
      have go : ∀ j, Okl Z G0 ((A a).zip (vs.map some) ++ (List.replicate j none).zip (List.replicate j none)) G H := by
        intro j
        induction j with
        | zero => simpa using h3
        | succ j ih =>
          refine Okl.perm ?_ mid.symm
          obtain ⟨ps, z1, z2, z3⟩ := ih.own
          exact ⟨ih.zh, ih.gg, ih.gh, ih.fr, ps, ⟨[], ps, rfl, rfl, z1⟩, z2, z3⟩
      exact go _
end
end
end Rt
/-! Rt6: walks, loops, comprehensions. -/
namespace Rt
open PySem L2 R
section
variable {Z G0 G H G' H' : Hp} {l m : List Pl} {Γ : Ctx} {S : List Pl} {σ σ' : St}
theorem Okl.base (k : Okl Z G0 l G H) : Okl Z G l G H := ⟨k.zh, Evl.Ex.refl G, k.gh, fun _ _ _ _ e => e, k.own⟩
theorem Okl.back (k : Okl Z G0 l G H) (j : Okl Z G m G' H') : Okl Z G0 m G' H' := ⟨j.zh, k.gg.trans j.gg, j.gh, fun q o u hz hg => k.fr q o u hz (j.fr q o u hz hg), j.own⟩
theorem Okc.base (k : Okc Z G0 S Γ σ G H) : Okc Z G S Γ σ G H := ⟨k.len, k.ok.base⟩
theorem Okc.back {Δ : Ctx} {S' : List Pl} (k : Okc Z G0 S Γ σ G H) (j : Okc Z G S' Δ σ' G' H') : Okc Z G0 S' Δ σ' G' H' := ⟨j.len, k.ok.back j.ok⟩
theorem Okc.gex (k : Okc Z G S Γ σ G' H') : Ex G G' := k.ok.gg
theorem Okc.hex (k : Okc Z G S Γ σ G' H') : Ex G H' := k.ok.gg.trans k.ok.gh
end
/-- what a walk J gives: the items xs, each as R says -/
def Src (J : It) {β : Type} (xs : List β) (R : β → Sl) (G1 : Hp) : Prop :=
  ∃ (Gd : Hp → Prop) (Y : Nat → Hp → V → Hp → Prop), Walk J xs.length Gd Y ∧ (∀ H, Ex G1 H → Gd H) ∧
    ∀ i x, xs[i]? = some x → ∀ H v H', Y i H v H' → ∀ Z G0 l G, Ex G1 G → Okl Z G0 l G H → ∃ G', Okl Z G0 ((some (R x), some v) :: l) G' H'
structure IX (X : Cx) (T : XT) (W : WX) (Γx Γ : Ctx) (tg iter : Expr) (wi : TI) {α β : Type} (m : Res α) (xs : α → List β) (R : β → Sl) (Γo : α → Ctx) : Prop where
  pi : PI X tg iter wi
  ev : ∀ (Z G0 : Hp) (S : List Pl) (σ : St) (G H : Hp) (Rk : It → Hp → Prop), Okc Z G0 S Γ σ G H →
    m.wp (fun a => ∀ J G1 H1, Okc Z G0 S (Γo a) σ G1 H1 → Src J (xs a) R G1 → Rk J H1) (fun ex => ∀ cls d G' H', Okc Z G0 S Γx σ G' H' → T.rel ex cls d G' → W cls d σ H') → wi σ H Rk
/-- a target -/
structure GX (X : Cx) (tg : Expr) (g : TG) (js : List Nat) (s : Sl) (Γ Γ' : Ctx) : Prop where
  pg : PG X tg g
  ev : ∀ (Z G0 : Hp) (S : List Pl) (σ : St) (G H : Hp) (v : V) (Q : St → Hp → Prop), Okc Z G0 ((some s, some v) :: S) Γ σ G H → (∀ σ' G' H', Okc Z G0 S Γ' σ' G' H' → (∀ vs, (∀ j ∈ js, j ∈ vs) → wipe σ' vs = wipe σ vs) → Q σ' H') → g v σ H Q
theorem wipe_get {σ : St} : ∀ {vs : List Nat} {i : Nat}, (wipe σ vs)[i]? = if i ∈ vs ∧ i < σ.length then some none else σ[i]?
  | [], i => by simp [wipe]
  | v :: vs, i => by
    show ((wipe σ vs).set v none)[i]? = _
    rw [List.getElem?_set, wipe_length, wipe_get (vs := vs) (i := i)]
    by_cases h : v = i
    · subst h
      by_cases hl : v < σ.length
      · simp [hl]
      · simp [hl]
    · have h' : ¬ i = v := fun e => h e.symm
      simp [h, h']
theorem wipe_set {σ : St} {vs : List Nat} {j : Nat} {w : Option V} (h : j ∈ vs) : wipe (σ.set j w) vs = wipe σ vs := by
  refine List.ext_getElem? fun i => ?_
  rw [wipe_get, wipe_get, List.length_set, List.getElem?_set]
  by_cases hi : i ∈ vs ∧ i < σ.length
  · rw [if_pos hi, if_pos hi]
  · rw [if_neg hi, if_neg hi]
    by_cases e : j = i
    · subst e
      have hl : ¬ j < σ.length := fun z => hi ⟨h, z⟩
      rw [if_pos rfl, if_neg hl, List.getElem?_eq_none (by omega)]
    · rw [if_neg e]
theorem wipe_wipe {σ : St} {vs : List Nat} : wipe (wipe σ vs) vs = wipe σ vs := by
  refine List.ext_getElem? fun i => ?_
  rw [wipe_get, wipe_length, wipe_get]
  by_cases hi : i ∈ vs ∧ i < σ.length
  · rw [if_pos hi, if_pos hi]
  · rw [if_neg hi]
section
variable {X : Cx} {T : XT} {W : WX} {Γx Γ : Ctx} {K : PySem.W.Frag}
theorem gx_name {i : Nat} {x : Str} {pos : Pos} {s : Sl} (hN : X.N.Nodup) (hi : X.N[i]? = some x := by rfl) (hx : Loc X.env.scope x := by first | exact Or.inl rfl | exact Or.inr rfl) (hl : Nat.ble (i + 1) Γ.length = true := by rfl) (hf : X.fn x = true ∨ X.env.scope.names.lookup x = some .local := by first | exact .inl rfl | exact .inr rfl | assumption) :
    GX X (.Name x pos) (gName i) [i] s Γ (Γ.set i (some s)) := ⟨pg_name hN hi hx hf, fun Z G0 S σ G H v Q k q => q _ G H (k.store (Nat.le_of_ble_eq_true hl)) fun vs h => wipe_set (h i List.mem_cons_self)⟩
/-- several targets, the items of a tuple -/
structure GXs (X : Cx) (tgs : List Expr) (g : TGs) (js : List Nat) {α : Type} (d : Cods α) (a : α) (n : Nat) (Γ Γ' : Ctx) : Prop where
  pg : PGs X tgs g
  n : ∀ G vs, d.rel G vs a → vs.length = n
  ev : ∀ (Z G0 : Hp) (S : List Pl) (σ : St) (G H : Hp) (vs : List V) (Q : St → Hp → Prop), Okc Z G0 S Γ σ G H → d.rel G vs a → (∀ σ' G' H', Okc Z G0 S Γ' σ' G' H' → (∀ vs, (∀ j ∈ js, j ∈ vs) → wipe σ' vs = wipe σ vs) → Q σ' H') → g vs σ H Q
theorem gxs_one {α : Type} {c : Cod α} {a : α} {i : Nat} {x : Str} {pos : Pos} (hN : X.N.Nodup) (hi : X.N[i]? = some x := by rfl) (hx : Loc X.env.scope x := by first | exact Or.inl rfl | exact Or.inr rfl) (hl : Nat.ble (i + 1) Γ.length = true := by rfl) (hf : X.fn x = true ∨ X.env.scope.names.lookup x = some .local := by first | exact .inl rfl | exact .inr rfl | assumption)
    (hs : (assignEach [.Name x pos] X.env).map (·.2) = assign (.Name x pos) X.env :: (assignEach [] X.env).map (·.2) := by rfl) : GXs X [.Name x pos] (gCons (gName i) gNil) [i] (dOne c) a 1 Γ (Γ.set i (some (fz c a))) :=
  ⟨pgs_cons (pg_name hN hi hx hf) pgs_nil hs, fun G vs ⟨v, h, _⟩ => by rw [h]; rfl, fun Z G0 S σ G H vs Q k ⟨v, h1, h2⟩ q => ⟨v, [], h1, rfl, q _ G H ((k.pushf h2).store (Nat.le_of_ble_eq_true hl)) fun vs h => wipe_set (h i List.mem_cons_self)⟩⟩
theorem gxs_cons {α β : Type} {c : Cod α} {d : Cods β} {a : α} {b : β} {i n : Nat} {x : Str} {pos : Pos} {es : List Expr} {u : TGs} {js : List Nat} {Γ' : Ctx} (h : GXs X es u js d b n (Γ.set i (some (fz c a))) Γ') (hN : X.N.Nodup) (hi : X.N[i]? = some x := by rfl) (hx : Loc X.env.scope x := by first | exact Or.inl rfl | exact Or.inr rfl) (hl : Nat.ble (i + 1) Γ.length = true := by rfl) (hf : X.fn x = true ∨ X.env.scope.names.lookup x = some .local := by first | exact .inl rfl | exact .inr rfl | assumption)
    (hs : (assignEach (.Name x pos :: es) X.env).map (·.2) = assign (.Name x pos) X.env :: (assignEach es X.env).map (·.2) := by rfl) : GXs X (.Name x pos :: es) (gCons (gName i) u) (i :: js) (dCons c d) (a, b) (n + 1) Γ Γ' :=
  ⟨pgs_cons (pg_name hN hi hx hf) h.pg hs, fun G vs ⟨v, r, h1, _, h3⟩ => by rw [h1, List.length_cons, h.n G r h3], fun Z G0 S σ G H vs Q k ⟨v, r, h1, h2, h3⟩ q => ⟨v, r, h1, h.ev Z G0 S _ G H r Q ((k.pushf h2).store (Nat.le_of_ble_eq_true hl)) h3 fun σ' G' H' k' w => q σ' G' H' k' fun vs hv => (w vs fun j hj => hv j (List.mem_cons_of_mem _ hj)).trans (wipe_set (hv i List.mem_cons_self))⟩⟩
theorem gx_tup {es : List Expr} {k : Nat} {u : TGs} {js : List Nat} {n : Nat} {pos : Pos} {α : Type} {d : Cods α} {a : α} {Γ' : Ctx} (h : GXs X es u js d a n Γ Γ') (hK : X.K = K := by rfl) (hc : X.calm = true := by rfl) (hn : (assignEach es X.env).length = n := by rfl) (hst : (assignEach es X.env).findIdx? (·.1) = none := by rfl) :
    GX X (.Tuple es k pos) (gTup K n u) js (fz (cTup K d) a) Γ Γ' := by
  subst hK
  refine ⟨pg_tup hc h.pg hn hst, fun Z G0 S σ G H v Q kk q => ?_⟩
  obtain ⟨p, vs, rfl, hs, hp⟩ := kk.tp
  exact ⟨p, vs, rfl, Evl.ex_t kk.ok.gh hs, h.n G vs hp, h.ev Z G0 S σ G H vs Q kk.drop hp q⟩
theorem paired_get {α : Type} {c : Cod α} {G : Hp} : ∀ {vs : List V} {xs : List α} {i : Nat} {v : V} {x : α}, Paired (c.rel G) vs xs → vs[i]? = some v → xs[i]? = some x → c.rel G v x
  | _, _, _, _, _, .nil, h, _ => by simp at h
  | _, _, 0, _, _, .cons r _, h1, h2 => by
    have e1 := Option.some.inj h1
    have e2 := Option.some.inj h2
    subst e1; subst e2
    exact r
  | _, _, i + 1, _, _, .cons _ t, h1, h2 => paired_get (i := i) t (by simpa using h1) (by simpa using h2)
theorem src_list {α : Type} {c : Cod α} {a : Addr} {vs : List V} {xs : List α} {G1 : Hp} (hs : SqL K G1 a vs) (hp : Paired (c.rel G1) vs xs) : Src (Itl K a) xs (fz c) G1 :=
  ⟨fun H => SqL K H a vs, YAt vs, by rw [← hp.length]; exact walk_list, fun H e => Evl.ex_l e hs, fun i x hx H v H' y Z G0 l G e k => by
    obtain ⟨rfl, hv⟩ := y
    exact ⟨G, k.push (c.mono (paired_get hp hv hx) e)⟩⟩
theorem ix_list {e tg : Expr} {te : TE} {α β : Type} {c : Cod β} {m : Res α} {xs : α → List β} {Γo : α → Ctx} (he : EX X T W Γx Γ e te m (fun a => fz (cList c) (xs a)) Γo) (hK : X.K = K := by rfl) : IX X T W Γx Γ tg e (iList K te) m xs (fz c) Γo := by
  subst hK
  refine ⟨pi_list he.pe, fun Z G0 S σ G H Rk k q => he.ev Z G0 S σ G H _ k (Res.wp_mono q (fun a q v G' H' k' => ?_) fun _ z => z)⟩
  obtain ⟨p, vs, rfl, hs, hp⟩ := k'.tp
  exact ⟨p, rfl, ⟨vs, cl_sq k'.ok.gh hs⟩, q _ G' H' k'.drop (src_list (SqL.of hs) hp)⟩
theorem ix_listQ {e tg : Expr} {te : TE} {α β : Type} {c : Cod β} {m : Res α} {xs : α → List β} {Γo : α → Ctx} (he : EX X T W Γx Γ e te m (fun a => fz (cSq K c) (xs a)) Γo) (hK : X.K = K := by rfl) : IX X T W Γx Γ tg e (iList K te) m xs (fz c) Γo := by
  subst hK
  refine ⟨pi_list he.pe, fun Z G0 S σ G H Rk k q => he.ev Z G0 S σ G H _ k (Res.wp_mono q (fun a q v G' H' k' => ?_) fun _ z => z)⟩
  obtain ⟨p, vs, rfl, hs, hp⟩ := k'.tp
  exact ⟨p, rfl, ⟨vs, Evl.ex_l k'.ok.gh hs⟩, q _ G' H' k'.drop (src_list hs hp)⟩
theorem range_len (a b : Int) : (R.range a b).length = (b - a).toNat := by
  unfold R.range
  rw [List.length_map, List.length_range]
theorem range_get {a b : Int} {i : Nat} {x : Int} (h : (R.range a b)[i]? = some x) : x = a + (i : Int) := by
  unfold R.range at h
  rw [List.getElem?_map] at h
  cases e : (List.range (b - a).toNat)[i]? with
  | none => rw [e] at h; cases h
  | some j =>
    rw [e] at h
    obtain ⟨hj, ej⟩ := List.getElem?_eq_some_iff.mp e
    rw [List.getElem_range] at ej
    subst ej
    exact (Option.some.inj h).symm
theorem src_range {a b : Int} {G1 : Hp} : Src (Itr a (b - a).toNat) (R.range a b) sI G1 :=
  ⟨fun _ => True, YFn fun i => .int (a + i), by rw [range_len]; exact walk_range, fun _ _ => trivial, fun i x hx H v H' y Z G0 l G e k => by
    obtain ⟨rfl, rfl⟩ := y
    exact ⟨G, k.push (c := cInt) (by rw [range_get hx]; rfl)⟩⟩
theorem rng_ok {a b : Int} {xs : List Int} (h : R.rng a b = .ok xs) : xs = R.range a b ∧ (-(2 ^ 62) ≤ a ∧ a < 2 ^ 62 ∧ -(2 ^ 62) ≤ b ∧ b < 2 ^ 62) := by
  obtain ⟨h1, h2⟩ := chk_ok h
  cases h2
  simp only [Bool.and_eq_true, decide_eq_true_eq] at h1
  exact ⟨rfl, h1⟩
theorem rng_ne {a b : Int} : ∀ e, R.rng a b ≠ .exn e := chk_ne ok_ne
theorem ax1 {Z G0 G H : Hp} {S : List Pl} {σ : St} {α : Type} {c : Cod α} {a : α} {vs : List V} (hl : [fz c a].length = vs.length) (k : Okc Z G0 (plz [fz c a] vs ++ S) Γ σ G H) : ∃ v, vs = [v] ∧ c.rel G v a ∧ Okc Z G0 S Γ σ G H := by
  match vs, hl with
  | [v], _ => exact ⟨v, rfl, Okc.tp (show Okc Z G0 ((some (fz c a), some v) :: S) Γ σ G H from k), Okc.drop (show Okc Z G0 ((some (fz c a), some v) :: S) Γ σ G H from k)⟩
theorem ax2 {Z G0 G H : Hp} {S : List Pl} {σ : St} {α β : Type} {c : Cod α} {d : Cod β} {a : α} {b : β} {vs : List V} (hl : [fz c a, fz d b].length = vs.length) (k : Okc Z G0 (plz [fz c a, fz d b] vs ++ S) Γ σ G H) : ∃ v w, vs = [v, w] ∧ c.rel G v a ∧ d.rel G w b ∧ Okc Z G0 S Γ σ G H := by
  match vs, hl with
  | [v, w], _ =>
    have k' : Okc Z G0 ((some (fz c a), some v) :: (some (fz d b), some w) :: S) Γ σ G H := k
    exact ⟨v, w, rfl, k'.tp, k'.drop.tp, k'.drop.drop⟩
theorem ix_range1 {e tg : Expr} {p pos : Pos} {ta : TA} {α : Type} {m : Res α} {n : α → Int} {Γo : α → Ctx} (ha : AX X T W Γx Γ [e] ta m (fun a => [sI (n a)]) Γo) (hm : X.mg "range" = none) (hg : Gl X "range" := by rfl) (hs : starEach [e] X.env = [(false, eval e X.env)] := by rfl) :
    IX X T W Γx Γ tg (.Call (.Name "range" p) [e] [] pos) (iRng1 ta) (m.bind fun a => (R.rng 0 (n a)).bind fun xs => .ok (a, xs)) (fun t => t.2) sI (fun t => Γo t.1) := by
  refine ⟨pi_range1 hg hm ha.pa hs, fun Z G0 S σ G H Rk k q => ha.ev Z G0 S σ G H _ k (Res.wp_mono (Res.wp_bind q) (fun a q vs G' H' hl k' => ?_) fun _ z => z)⟩
  obtain ⟨v, rfl, hv, k2⟩ := ax1 hl k'
  obtain ⟨xs, e, q3⟩ := wp_cases (Res.wp_bind q) rng_ne
  obtain ⟨rfl, b1, b2, b3, b4⟩ := rng_ok e
  refine ⟨n a, by rw [show v = .int (n a) from hv], b3, b4, q3 _ G' H' k2 ?_⟩
  have z := src_range (a := 0) (b := n a) (G1 := G')
  rw [Int.sub_zero] at z
  exact z
theorem ix_range2 {e e2 tg : Expr} {p pos : Pos} {ta : TA} {α : Type} {m : Res α} {lo n : α → Int} {Γo : α → Ctx} (ha : AX X T W Γx Γ [e, e2] ta m (fun a => [sI (lo a), sI (n a)]) Γo) (hm : X.mg "range" = none) (hg : Gl X "range" := by rfl)
    (hs : starEach [e, e2] X.env = [(false, eval e X.env), (false, eval e2 X.env)] := by rfl) (hs2 : starEach [e2] X.env = [(false, eval e2 X.env)] := by rfl) :
    IX X T W Γx Γ tg (.Call (.Name "range" p) [e, e2] [] pos) (iRng2 ta) (m.bind fun a => (R.rng (lo a) (n a)).bind fun xs => .ok (a, xs)) (fun t => t.2) sI (fun t => Γo t.1) := by
  refine ⟨pi_range2 hg hm ha.pa hs hs2, fun Z G0 S σ G H Rk k q => ha.ev Z G0 S σ G H _ k (Res.wp_mono (Res.wp_bind q) (fun a q vs G' H' hl k' => ?_) fun _ z => z)⟩
  obtain ⟨v, w, rfl, hv, hw, k2⟩ := ax2 hl k'
  obtain ⟨xs, e, q3⟩ := wp_cases (Res.wp_bind q) rng_ne
  obtain ⟨rfl, b⟩ := rng_ok e
  exact ⟨lo a, n a, by rw [show v = .int (lo a) from hv, show w = .int (n a) from hw], b, q3 _ G' H' k2 src_range⟩
/-- reversed(range(n)) -/
theorem src_revr {a b : Int} {G1 : Hp} : Src (Itc (a + (((b - a).toNat : Nat) : Int) - 1) (-1) (b - a).toNat) (R.range a b).reverse sI G1 :=
  ⟨fun _ => True, YFn fun i => .int (a + (((b - a).toNat : Nat) : Int) - 1 + (i : Nat) * (-1)), by rw [List.length_reverse, range_len]; exact walk_rangeC, fun _ _ => trivial, fun i x hx H v H' y Z G0 l G e k => by
    obtain ⟨rfl, rfl⟩ := y
    refine ⟨G, k.push (c := cInt) ?_⟩
    have hi : i < (R.range a b).length := by
      have := (List.getElem?_eq_some_iff.mp hx).1
      rwa [List.length_reverse] at this
    rw [List.getElem?_reverse hi] at hx
    have z := range_get hx
    rw [range_len] at z hi
    show V.int _ = V.int _
    rw [z]
    congr 1
    omega⟩
theorem ix_rev1 {e tg : Expr} {p p2 pos pos2 : Pos} {te : TE} {α : Type} {m : Res α} {n : α → Int} {Γo : α → Ctx} (he : EX X T W Γx Γ e te m (fun a => sI (n a)) Γo) (hm : X.mg "range" = none) (hm2 : X.mg "reversed" = none) (hg : Gl X "range" := by rfl) (hg2 : Gl X "reversed" := by rfl)
    (na : starEach [e] X.env = (false, eval e X.env) :: starEach [] X.env := by rfl) (hs : starEach [.Call (.Name "range" p) [e] [] pos] X.env = (false, eval (.Call (.Name "range" p) [e] [] pos) X.env) :: starEach [] X.env := by rfl) :
    IX X T W Γx Γ tg (.Call (.Name "reversed" p2) [.Call (.Name "range" p) [e] [] pos] [] pos2) (iRevR (tRg1 te)) (m.bind fun a => (R.rng 0 (n a)).bind fun xs => .ok (a, xs)) (fun t => t.2.reverse) sI (fun t => Γo t.1) := by
  refine ⟨pi_revR hg2 hm2 (prg_1 hg hm he.pe na) hs, fun Z G0 S σ G H Rk k q => he.ev Z G0 S σ G H _ k (Res.wp_mono (Res.wp_bind q) (fun a q v G' H' k' => ?_) fun _ z => z)⟩
  obtain ⟨xs, e, q3⟩ := wp_cases (Res.wp_bind q) rng_ne
  obtain ⟨rfl, b1, b2, b3, b4⟩ := rng_ok e
  refine ⟨n a, k'.tp, b1, b2, b3, b4, q3 _ G' H' k'.drop src_revr⟩

/-! ### for -/
theorem s1_for {tg iter : Expr} {body : List Stmt} {pos : Pos} {wi : TI} {g : TG} {tb : TS} {α β S' : Type} [Nonempty α] [Nonempty β] [Nonempty S'] {mi : Res α} {xs : α → List β} {Rb : β → Sl} {Γ0 : α → Ctx} {Γn : S' → Ctx} {s0 : α → S'} {f : β → S' → Res S'} {Γg : S' → β → Ctx} {m : Res S'}
    (hi : IX X T W Γx Γ tg iter wi mi xs Rb Γ0) {js : List Nat} (hg : ∀ s x, GX X tg g js (Rb x) (Γn s) (Γg s x)) (hb : ∀ x s, SX X T W Γx (Γg s x) body tb (f x s) (fun s' => .nx (Γn s'))) (h0 : ∀ a, Wk (Γ0 a) (Γn (s0 a)))
    (hp : PassesOwn (model X.prog X.w) X.A X.env X.xe) (hm : Bd m mi (fun a => R.fold f (xs a) (s0 a)) := by intros; repeat (first | ((with_reducible refine Bd.done ?_); exact rfl) | with_reducible refine Bd.okl ?_ | with_reducible refine Bd.assoc ?_ | with_reducible refine Bd.bind fun _ => ?_ | with_reducible refine Bd.eta fun _ => ?_ | with_reducible refine Bd.iteB ?_ ?_ fun _ => ?_ | with_reducible refine Bd.iteE ?_ ?_ fun _ => ?_ | with_reducible refine Bd.ite ?_ ?_ | with_reducible refine Bd.iteL ?_ ?_ | with_reducible refine Bd.assocL ?_ | with_reducible refine Bd.oklL ?_ | with_reducible exact Bd.same | with_reducible exact Bd.at | dsimp only)) (hc : X.calm = true := by rfl) (hs : ∀ x, foldedSetIterable iter X.env x = pure x := by intro _; rfl) :
    S1 X T W Γx Γ (.For tg iter body [] pos) (tFor wi g tb) m (fun s => .nx (Γn s)) := by
  obtain ⟨a0⟩ := ‹Nonempty α›
  obtain ⟨b0⟩ := ‹Nonempty β›
  obtain ⟨c0⟩ := ‹Nonempty S'›
  refine ⟨ps_for hp hc hi.pi (hg c0 b0).pg (hb b0 c0).ps hs, fun Z G0 S σ G H D k q => ?_⟩
  refine hi.ev Z G0 S σ G H _ k (Res.wp_mono (hm _ _ q) (fun a q J G1 H1 k1 src => ?_) fun ex q cls d G' H' k' => q cls d σ G' H' k')
  obtain ⟨Gd, Y, wk, gd, hy⟩ := src
  refine for_it wk (fun i σ H => ∃ s G, Okc Z G1 S (Γn s) σ G H ∧ (R.fold f ((xs a).drop i) s).wp (fun s => ∀ σ' G' H', Okc Z G0 S (Γn s) σ' G' H' → D.nx σ' H') (fun ex => ∀ cls d σ' G' H', Okc Z G0 S Γx σ' G' H' → T.rel ex cls d G' → W cls d σ' H'))
    ⟨s0 a, G1, (h0 a _ _ _ _ _ _ k1).base, q⟩ (fun i σ H _ ⟨s, G, k2, _⟩ => gd H k2.hex) ?_ ?_
  · rintro i v σ H H' hi' ⟨s, G, k2, w⟩ y
    have hx : (xs a)[i]? = some (xs a)[i] := List.getElem?_eq_getElem hi'
    rw [List.drop_eq_getElem_cons hi'] at w
    obtain ⟨G2, k3⟩ := hy i _ hx H v H' y Z G1 _ G k2.gex k2.ok
    refine (hg s (xs a)[i]).ev Z G1 S σ G2 H' v _ ⟨k2.len, k3⟩ fun σ3 G3 H3 k4 _ => ?_
    refine (hb _ s).ev Z G1 S σ3 G3 H3 _ k4 (Res.wp_mono (Res.wp_bind w) (fun s' w' σ4 G4 H4 k5 => ⟨s', G4, k5, w'⟩) fun ex q cls d σ' G' H' k' => q cls d σ' G' H' (k1.back k'))
  · rintro σ H ⟨s, G, k2, w⟩
    rw [List.drop_length] at w
    exact w σ G H (k1.back k2)
theorem s1_forC {tg iter : Expr} {body : List Stmt} {pos : Pos} {wi : TI} {g : TG} {tb : TS} {α β S' B : Type} [Nonempty α] [Nonempty β] [Nonempty S'] {mi : Res α} {xs : α → List β} {Rb : β → Sl} {Γ0 : α → Ctx} {Γn : S' → Ctx} {s0 : α → S'} {f : β → S' → Res (Ctl S' B)} {Γg : S' → β → Ctx} {RB : B → Sl} {LB : B → List Pl} {m : Res (Ctl S' B)}
    (hi : IX X T W Γx Γ tg iter wi mi xs Rb Γ0) {js : List Nat} (hg : ∀ s x, GX X tg g js (Rb x) (Γn s) (Γg s x)) (hb : ∀ x s, SX X T W Γx (Γg s x) body tb (f x s) (outC Γn RB LB)) (h0 : ∀ a, Wk (Γ0 a) (Γn (s0 a)))
    (hp : PassesOwn (model X.prog X.w) X.A X.env X.xe) (hm : Bd m mi (fun a => R.loop f (xs a) (s0 a)) := by intros; repeat (first | ((with_reducible refine Bd.done ?_); exact rfl) | with_reducible refine Bd.okl ?_ | with_reducible refine Bd.assoc ?_ | with_reducible refine Bd.bind fun _ => ?_ | with_reducible refine Bd.eta fun _ => ?_ | with_reducible refine Bd.iteB ?_ ?_ fun _ => ?_ | with_reducible refine Bd.iteE ?_ ?_ fun _ => ?_ | with_reducible refine Bd.ite ?_ ?_ | with_reducible refine Bd.iteL ?_ ?_ | with_reducible refine Bd.assocL ?_ | with_reducible refine Bd.oklL ?_ | with_reducible exact Bd.same | with_reducible exact Bd.at | dsimp only)) (hc : X.calm = true := by rfl) (hs : ∀ x, foldedSetIterable iter X.env x = pure x := by intro _; rfl) :
    S1 X T W Γx Γ (.For tg iter body [] pos) (tFor wi g tb) m (outC Γn RB LB) := by
  obtain ⟨a0⟩ := ‹Nonempty α›
  obtain ⟨b0⟩ := ‹Nonempty β›
  obtain ⟨c0⟩ := ‹Nonempty S'›
  refine ⟨ps_for hp hc hi.pi (hg c0 b0).pg (hb b0 c0).ps hs, fun Z G0 S σ G H D k q => ?_⟩
  refine hi.ev Z G0 S σ G H _ k (Res.wp_mono (hm _ _ q) (fun a q J G1 H1 k1 src => ?_) fun ex q cls d G' H' k' => q cls d σ G' H' k')
  obtain ⟨Gd, Y, wk, gd, hy⟩ := src
  refine for_it wk (fun i σ H => ∃ s G, Okc Z G1 S (Γn s) σ G H ∧ (R.loop f ((xs a).drop i) s).wp (fun o => (outC Γn RB LB o).go D Z G0 S) (fun ex => ∀ cls d σ' G' H', Okc Z G0 S Γx σ' G' H' → T.rel ex cls d G' → W cls d σ' H'))
    ⟨s0 a, G1, (h0 a _ _ _ _ _ _ k1).base, q⟩ (fun i σ H _ ⟨s, G, k2, _⟩ => gd H k2.hex) ?_ ?_
  · rintro i v σ H H' hi' ⟨s, G, k2, w⟩ y
    have hx : (xs a)[i]? = some (xs a)[i] := List.getElem?_eq_getElem hi'
    rw [List.drop_eq_getElem_cons hi'] at w
    obtain ⟨G2, k3⟩ := hy i _ hx H v H' y Z G1 _ G k2.gex k2.ok
    refine (hg s (xs a)[i]).ev Z G1 S σ G2 H' v _ ⟨k2.len, k3⟩ fun σ3 G3 H3 k4 _ => ?_
    refine (hb _ s).ev Z G1 S σ3 G3 H3 _ k4 (Res.wp_mono (Res.wp_bind w) (fun o w' => ?_) fun ex q cls d σ' G' H' k' => q cls d σ' G' H' (k1.back k'))
    cases o with
    | nx s' => exact fun σ4 G4 H4 k5 => ⟨s', G4, k5, w'⟩
    | cnt s' => exact fun σ4 G4 H4 k5 => ⟨s', G4, k5, w'⟩
    | brk s' => exact fun σ4 G4 H4 k5 => w' σ4 G4 H4 (k1.back k5)
    | ret b => exact fun v G' H' k5 => w' v G' H' ((k1.bare).back k5)
  · rintro σ H ⟨s, G, k2, w⟩
    rw [List.drop_length] at w
    exact w σ G H (k1.back k2)

/-! ### while -/
theorem s1_whileN {c : Expr} {body : List Stmt} {pos : Pos} {tc : TT} {tb : TS} {α S' : Type} [Nonempty α] [Nonempty S'] {Γn : S' → Ctx} {mt : S' → Res α} {b : S' → α → Bool} {t : S' → Res Bool} {f : S' → Res S'} {n : Nat} {s0 : S'}
    {Γt : S' → α → Ctx} (ht : ∀ s, ET X T W Γx (Γn s) c tc (mt s) (b s) (Γt s)) (hΓt : ∀ s t, Γt s t = Γn s := by exact fun _ _ => rfl) (htb : ∀ s, Bd (t s) (mt s) (fun a => .ok (b s a)) := by intros; repeat (first | ((with_reducible refine Bd.done ?_); exact rfl) | with_reducible refine Bd.okl ?_ | with_reducible refine Bd.assoc ?_ | with_reducible refine Bd.bind fun _ => ?_ | with_reducible refine Bd.eta fun _ => ?_ | with_reducible refine Bd.iteB ?_ ?_ fun _ => ?_ | with_reducible refine Bd.iteE ?_ ?_ fun _ => ?_ | with_reducible refine Bd.ite ?_ ?_ | with_reducible refine Bd.iteL ?_ ?_ | with_reducible refine Bd.assocL ?_ | with_reducible refine Bd.oklL ?_ | with_reducible exact Bd.same | with_reducible exact Bd.at | dsimp only)) (hb : ∀ s, SX X T W Γx (Γn s) body tb (f s) (fun s' => .nx (Γn s'))) (h0 : Wk Γ (Γn s0))
    (hp : PassesOwn (model X.prog X.w) X.A X.env X.xe) : S1 X T W Γx Γ (.While c body [] pos) (tWhile tc tb) (R.whilN t f n s0) (fun s => .nx (Γn s)) := by
  obtain rfl : Γt = fun s _ => Γn s := funext fun s => funext (hΓt s)
  obtain ⟨c0⟩ := ‹Nonempty S'›
  refine ⟨ps_while hp (ht c0).pt (hb c0).ps, fun Z G0 S σ G H D k q => ?_⟩
  refine ⟨fun j σ H => ∃ s G, Okc Z G0 S (Γn s) σ G H ∧ (R.whilN t f j s).wp (fun s => ∀ σ' G' H', Okc Z G0 S (Γn s) σ' G' H' → D.nx σ' H') (fun ex => ∀ cls d σ' G' H', Okc Z G0 S Γx σ' G' H' → T.rel ex cls d G' → W cls d σ' H'), ⟨n, s0, G, h0 _ _ _ _ _ _ k, q⟩, ?_⟩
  rintro j σ H ⟨s, G, k2, w⟩
  cases j with
  | zero => exact w.elim
  | succ j =>
    refine (ht s).ev Z G0 S σ G H _ k2 (Res.wp_mono (htb s _ _ (Res.wp_bind w)) (fun a w' G' H' k3 => ?_) fun ex q cls d G' H' k' => q cls d σ G' H' k')
    have w2 : (if b s a = true then (f s).bind fun s' => R.whilN t f j s' else Res.ok s).wp (fun s => ∀ σ' G' H', Okc Z G0 S (Γn s) σ' G' H' → D.nx σ' H') (fun ex => ∀ cls d σ' G' H', Okc Z G0 S Γx σ' G' H' → T.rel ex cls d G' → W cls d σ' H') := w'
    cases e : b s a with
    | true =>
      simp only [e, if_true] at w2
      rw [if_pos rfl]
      exact ⟨_, fun σ' H' z => ⟨j, Nat.lt_succ_self j, z⟩, (hb s).ev Z G0 S σ G' H' _ k3 (Res.wp_mono (Res.wp_bind w2) (fun s' w3 σ4 G4 H4 k5 => ⟨s', G4, k5, w3⟩) fun _ z => z)⟩
    | false =>
      simp only [e, Bool.false_eq_true, if_false] at w2
      rw [if_neg Bool.false_ne_true]
      exact w2 σ G' H' k3
theorem s1_whileC {c : Expr} {body : List Stmt} {pos : Pos} {tc : TT} {tb : TS} {α S' B : Type} [Nonempty α] [Nonempty S'] {Γn : S' → Ctx} {mt : S' → Res α} {b : S' → α → Bool} {t : S' → Res Bool} {f : S' → Res (Ctl S' B)} {RB : B → Sl} {LB : B → List Pl} {n : Nat} {s0 : S'}
    {Γt : S' → α → Ctx} (ht : ∀ s, ET X T W Γx (Γn s) c tc (mt s) (b s) (Γt s)) (hΓt : ∀ s t, Γt s t = Γn s := by exact fun _ _ => rfl) (htb : ∀ s, Bd (t s) (mt s) (fun a => .ok (b s a)) := by intros; repeat (first | ((with_reducible refine Bd.done ?_); exact rfl) | with_reducible refine Bd.okl ?_ | with_reducible refine Bd.assoc ?_ | with_reducible refine Bd.bind fun _ => ?_ | with_reducible refine Bd.eta fun _ => ?_ | with_reducible refine Bd.iteB ?_ ?_ fun _ => ?_ | with_reducible refine Bd.iteE ?_ ?_ fun _ => ?_ | with_reducible refine Bd.ite ?_ ?_ | with_reducible refine Bd.iteL ?_ ?_ | with_reducible refine Bd.assocL ?_ | with_reducible refine Bd.oklL ?_ | with_reducible exact Bd.same | with_reducible exact Bd.at | dsimp only)) (hb : ∀ s, SX X T W Γx (Γn s) body tb (f s) (outC Γn RB LB)) (h0 : Wk Γ (Γn s0))
    (hp : PassesOwn (model X.prog X.w) X.A X.env X.xe) : S1 X T W Γx Γ (.While c body [] pos) (tWhile tc tb) (R.whil t f n s0) (outC Γn RB LB) := by
  obtain rfl : Γt = fun s _ => Γn s := funext fun s => funext (hΓt s)
  obtain ⟨c0⟩ := ‹Nonempty S'›
  refine ⟨ps_while hp (ht c0).pt (hb c0).ps, fun Z G0 S σ G H D k q => ?_⟩
  refine ⟨fun j σ H => ∃ s G, Okc Z G0 S (Γn s) σ G H ∧ (R.whil t f j s).wp (fun o => (outC Γn RB LB o).go D Z G0 S) (fun ex => ∀ cls d σ' G' H', Okc Z G0 S Γx σ' G' H' → T.rel ex cls d G' → W cls d σ' H'), ⟨n, s0, G, h0 _ _ _ _ _ _ k, q⟩, ?_⟩
  rintro j σ H ⟨s, G, k2, w⟩
  cases j with
  | zero => exact w.elim
  | succ j =>
    refine (ht s).ev Z G0 S σ G H _ k2 (Res.wp_mono (htb s _ _ (Res.wp_bind w)) (fun a w' G' H' k3 => ?_) fun ex q cls d G' H' k' => q cls d σ G' H' k')
    have w2 : (if b s a = true then (f s).bind fun c => (match c with
      | .nx s' => R.whil t f j s'
      | .cnt s' => R.whil t f j s'
      | .brk s' => .ok (.nx s')
      | .ret r => .ok (.ret r)) else Res.ok (.nx s)).wp (fun o => (outC Γn RB LB o).go D Z G0 S) (fun ex => ∀ cls d σ' G' H', Okc Z G0 S Γx σ' G' H' → T.rel ex cls d G' → W cls d σ' H') := w'
    cases e : b s a with
    | true =>
      simp only [e, if_true] at w2
      rw [if_pos rfl]
      refine ⟨_, fun σ' H' z => ⟨j, Nat.lt_succ_self j, z⟩, (hb s).ev Z G0 S σ G' H' _ k3 (Res.wp_mono (Res.wp_bind w2) (fun o w3 => ?_) fun _ z => z)⟩
      cases o with
      | nx s' => exact fun σ4 G4 H4 k5 => ⟨s', G4, k5, w3⟩
      | cnt s' => exact fun σ4 G4 H4 k5 => ⟨s', G4, k5, w3⟩
      | brk s' => exact fun σ4 G4 H4 k5 => w3 σ4 G4 H4 k5
      | ret r => exact fun v G' H' k5 => w3 v G' H' k5
    | false =>
      simp only [e, Bool.false_eq_true, if_false] at w2
      rw [if_neg Bool.false_ne_true]
      exact w2 σ G' H' k3
end
end Rt
/-! Rt7: comprehensions, and | or, slices, lists that grow. -/
namespace Rt
open PySem L2 R
def wipeC (Γ : Ctx) : List Nat → Ctx
  | [] => Γ
  | v :: vs => (wipeC Γ vs).set v none
theorem wipeC_length (Γ : Ctx) : ∀ vs, (wipeC Γ vs).length = Γ.length
  | [] => rfl
  | v :: vs => by unfold wipeC; rw [List.length_set, wipeC_length Γ vs]
section
variable {Z G0 G H G' H' : Hp} {l m : List Pl} {Γ : Ctx} {S : List Pl} {σ σ' : St}
theorem Okl.noneOn {w : Option V} (k : Okl Z G0 l G H) : Okl Z G0 ((none, w) :: l) G H := by
  obtain ⟨ps, h1, h2, h3⟩ := k.own
  exact ⟨k.zh, k.gg, k.gh, k.fr, ps, ⟨[], ps, rfl, rfl, h1⟩, h2, h3⟩
theorem lift1 {i : Nat} (hl : Γ.length = σ.length) (hi : i < Γ.length) : ∃ x : Pl, (∀ Z G0 S G H, Okc Z G0 S Γ σ G H → Okc Z G0 (x :: S) (Γ.set i none) (σ.set i none) G H) ∧ ∀ Z G0 S G H, Okc Z G0 (x :: S) (Γ.set i none) (σ.set i none) G H → Okc Z G0 S Γ σ G H := by
  obtain ⟨w, _, hz⟩ := zip_get (o := Γ[i]) hl (List.getElem?_eq_getElem hi)
  have p1 := perm_at hz
  have p2 := perm_set (y := (none, none)) hz
  refine ⟨(Γ[i], w), fun Z G0 S G H k => ⟨by rw [List.length_set, List.length_set]; exact hl, ?_⟩, fun Z G0 S G H k => ⟨hl, ?_⟩⟩
  · rw [zip_set]
    have k1 : Okl Z G0 ((Γ[i], w) :: (S ++ (Γ.zip σ).eraseIdx i)) G H := k.ok.perm ((p1.append_left S).trans mid)
    refine (k1.noneOn (w := none)).perm ?_
    exact (List.Perm.swap _ _ _).trans (List.Perm.cons _ (mid.symm.trans (p2.symm.append_left S)))
  · have k0 := k.ok
    rw [zip_set] at k0
    have k1 : Okl Z G0 ((none, none) :: (Γ[i], w) :: (S ++ (Γ.zip σ).eraseIdx i)) G H := k0.perm ((List.Perm.cons _ ((p2.append_left S).trans mid)).trans (List.Perm.swap _ _ _))
    exact k1.drop.perm (mid.symm.trans (p1.symm.append_left S))
theorem lifts (hl : Γ.length = σ.length) : ∀ vs : List Nat, (∀ v ∈ vs, v < Γ.length) → ∃ L : List Pl, (∀ Z G0 S G H, Okc Z G0 S Γ σ G H → Okc Z G0 (L ++ S) (wipeC Γ vs) (wipe σ vs) G H) ∧ ∀ Z G0 S G H, Okc Z G0 (L ++ S) (wipeC Γ vs) (wipe σ vs) G H → Okc Z G0 S Γ σ G H
  | [], _ => ⟨[], fun _ _ _ _ _ k => k, fun _ _ _ _ _ k => k⟩
  | v :: vs, h => by
    obtain ⟨L, h1, h2⟩ := lifts hl vs fun u hu => h u (List.mem_cons_of_mem _ hu)
    have hl' : (wipeC Γ vs).length = (wipe σ vs).length := by rw [wipeC_length, wipe_length, hl]
    obtain ⟨x, k1, k2⟩ := lift1 (i := v) hl' (by rw [wipeC_length]; exact h v List.mem_cons_self)
    exact ⟨x :: L, fun Z G0 S G H k => k1 Z G0 _ G H (h1 Z G0 S G H k), fun Z G0 S G H k => h2 Z G0 S G H (k2 Z G0 _ G H k)⟩
end
theorem forget1 {Z G0 G H : Hp} {Γ : Ctx} {S : List Pl} {σ : St} {i : Nat} (k : Okc Z G0 S Γ σ G H) (hi : Γ[i]? = some none) : Okc Z G0 S Γ (σ.set i none) G H := by
  obtain ⟨w, _, hz⟩ := zip_get k.len hi
  have p1 := perm_at hz
  have p2 := perm_set (y := (none, none)) hz
  have e : Γ = Γ.set i none := by
    refine List.ext_getElem? fun j => ?_
    rw [List.getElem?_set]
    by_cases h : i = j
    · subst h
      rw [if_pos rfl, if_pos (List.getElem?_eq_some_iff.mp hi).1, hi]
    · rw [if_neg h]
  refine ⟨by rw [List.length_set]; exact k.len, ?_⟩
  have z : Γ.zip (σ.set i none) = (Γ.zip σ).set i (none, none) := by
    have y := zip_set (Γ := Γ) (σ := σ) (i := i) (o := none) (w := none)
    rw [← e] at y
    exact y
  rw [z]
  have k1 : Okl Z G0 ((none, w) :: (S ++ (Γ.zip σ).eraseIdx i)) G H := k.ok.perm ((p1.append_left S).trans mid)
  exact (k1.forget (w' := none)).perm (mid.symm.trans (p2.symm.append_left S))
theorem forgets {Z G0 G H : Hp} {Γ : Ctx} {S : List Pl} {σ : St} (k : Okc Z G0 S Γ σ G H) : ∀ vs : List Nat, (∀ v ∈ vs, Γ[v]? = some none) → Okc Z G0 S Γ (wipe σ vs) G H
  | [], _ => k
  | v :: vs, h => forget1 (forgets k vs fun u hu => h u (List.mem_cons_of_mem _ hu)) (h v List.mem_cons_self)
theorem wipeC_at {Γ : Ctx} : ∀ {vs : List Nat} {v : Nat}, v ∈ vs → v < Γ.length → (wipeC Γ vs)[v]? = some none
  | [], _, h, _ => by cases h
  | u :: vs, v, h, hl => by
    unfold wipeC
    rw [List.getElem?_set]
    by_cases e : u = v
    · subst e
      rw [if_pos rfl, wipeC_length, if_pos hl]
    · rw [if_neg e]
      rcases List.mem_cons.mp h with z | z
      · exact absurd z.symm e
      · exact wipeC_at z hl
section
variable {X : Cx} {T : XT} {W : WX} {Γx Γ : Ctx} {K : PySem.W.Frag}
/-- the new list on the stack, one more item -/
theorem Okl.grow {Z G0 G H : Hp} {l : List Pl} {γ : Type} {c : Cod γ} {acc : List γ} {D : Addr} {y : V} {a : γ} (k : Okl Z G0 ((some (fz c a), some y) :: (some (ol c acc), some (.ref D)) :: l) G H) :
    ∃ ws, H D = some (.lst ws) ∧ ws.length = acc.length ∧ Okl Z G0 ((some (ol c (acc ++ [a])), some (.ref D)) :: l) G (upd H D (.lst (ws ++ [y]))) := by
  have hr := k.rel1
  have k1 := k.drop
  obtain ⟨ps, ⟨p1, p2, _, ⟨v, e1, p, vs, e2, e3, h3, hp⟩, _⟩, _, _⟩ := k1.own
  cases e1
  cases e2
  refine ⟨vs, h3, hp.length, k1.write (p := D) (fun v ps e r => ?_) ⟨D, _, rfl, rfl, upd_same, Paired.snoc hp hr⟩⟩
  obtain ⟨p', _, e2, e4, _⟩ := r
  cases e
  cases e2
  exact e4
theorem lc_ev {tg iter : Expr} {wi : TI} {g : TG} {te : TE} {vs js : List Nat} {elt : Expr} {α β γ δ : Type} {mi : Res α} {xs : α → List β} {Rb : β → Sl} {Γ0 : α → Ctx} {c : Cod γ} {f : α → β → Res γ} {me : α → β → Res δ} {yv : α → β → δ → γ} {Γg : α → β → Ctx} {Γe : Ctx} {X' : Cx}
    (hi : IX X T W Γx Γ tg iter wi mi xs Rb Γ0) (hg : ∀ a x, GX X' tg g js (Rb x) (wipeC (Γ0 a) vs) (Γg a x)) (hj : ∀ j ∈ js, j ∈ vs) (hv : ∀ a, ∀ v ∈ vs, v < (Γ0 a).length)
    (he : ∀ a x, EX X' T (fun _ _ _ _ => False) Γe (Γg a x) elt te (me a x) (fun b => fz c (yv a x b)) (fun _ => Γg a x)) (hd : ∀ a x, Wk (Γg a x) (wipeC (Γ0 a) vs)) (hb : ∀ a x, Bd (f a x) (me a x) (fun b => .ok (yv a x b)))
    (Z G0 : Hp) (S : List Pl) (σ : St) (G H : Hp) (Q : VK) (k : Okc Z G0 S Γ σ G H)
    (q : (mi.bind fun a => (R.mapC (f a) (xs a)).bind fun ys => .ok (a, ys)).wp (fun t => ∀ v G' H', Okc Z G0 ((some (ol c t.2), some v) :: S) (Γ0 t.1) σ G' H' → Q v H') (fun ex => ∀ cls d G' H', Okc Z G0 S Γx σ G' H' → T.rel ex cls d G' → W cls d σ H')) :
    tLc wi g tYes te vs σ H Q := by
  refine hi.ev Z G0 S σ G H _ k (Res.wp_mono (Res.wp_bind q) (fun a q J G1 H1 k1 src => ?_) fun ex q => q)
  intro D hD
  have q := Res.wp_bind q
  obtain ⟨Gd, Y, wk, gd, hy⟩ := src
  obtain ⟨L, up, down⟩ := lifts k1.len vs (hv a)
  have q' : (R.mapK (f a) (xs a)).wp (fun ys => ∀ v G' H', Okc Z G0 ((some (ol c ys), some v) :: S) (Γ0 a) σ G' H' → Q v H') (fun _ => True) ∧ (xs a).length ≤ R.line := by
    unfold R.mapC at q
    cases e : decide ((xs a).length ≤ R.line) with
    | true =>
      rw [e] at q
      exact ⟨Res.wp_mono q (fun ys z => z) fun _ _ => trivial, of_decide_eq_true e⟩
    | false =>
      rw [e] at q
      exact q.elim
  obtain ⟨q, hz⟩ := q'
  have kD : Okc Z G1 ((some (ol c []), some (.ref D)) :: S) (Γ0 a) σ G1 (upd H1 D (.lst [])) := ⟨k1.len, k1.base.ok.layOwn (s := ol c []) hD ⟨D, [], rfl, rfl, upd_same, .nil⟩⟩
  refine lc_it wk (fun i H => ∃ acc G, Okc Z G1 (L ++ ((some (ol c acc), some (.ref D)) :: S)) (wipeC (Γ0 a) vs) (wipe σ vs) G H ∧ acc.length ≤ i ∧
      (R.mapK (f a) ((xs a).drop i)).wp (fun ys => ∀ v G' H', Okc Z G0 ((some (ol c (acc ++ ys)), some v) :: S) (Γ0 a) σ G' H' → Q v H') (fun _ => True))
    ⟨[], G1, up _ _ _ _ _ kD, Nat.zero_le _, q⟩ (fun i H _ ⟨acc, G, k2, _⟩ => gd H k2.hex) ?_ ?_
  · rintro i v H H' hi' ⟨acc, G, k2, hl, w⟩ y
    have hx : (xs a)[i]? = some (xs a)[i] := List.getElem?_eq_getElem hi'
    rw [List.drop_eq_getElem_cons hi'] at w
    have w2 : (f a (xs a)[i]).wp (fun y => ((R.mapK (f a) ((xs a).drop (i + 1))).bind fun ys => .ok (y :: ys)).wp (fun ys => ∀ v G' H', Okc Z G0 ((some (ol c (acc ++ ys)), some v) :: S) (Γ0 a) σ G' H' → Q v H') (fun _ => True)) (fun _ => False) := Res.wp_calm (Res.wp_bind w)
    obtain ⟨G2, k3⟩ := hy i _ hx H v H' y Z G1 _ G k2.gex k2.ok
    refine (hg a (xs a)[i]).ev Z G1 _ _ G2 H' v _ ⟨k2.len, k3⟩ fun σ3 G3 H3 k4 hw => ⟨(hw vs hj).trans wipe_wipe, ?_⟩
    unfold tYes
    dsimp only
    rw [if_pos rfl]
    refine (he a (xs a)[i]).ev Z G1 _ σ3 G3 H3 _ k4 (Res.wp_mono (hb a (xs a)[i] _ _ w2) (fun b w3 y G4 H4 k5 => ?_) fun ex z => z.elim)
    have w4 := Res.wp_bind (show ((R.mapK (f a) ((xs a).drop (i + 1))).bind fun ys => .ok (yv a (xs a)[i] b :: ys)).wp (fun ys => ∀ v G' H', Okc Z G0 ((some (ol c (acc ++ ys)), some v) :: S) (Γ0 a) σ G' H' → Q v H') (fun _ => True) from w3)
    -- the new item ahead of the list
    have k6 : Okc Z G1 (L ++ ((some (fz c (yv a (xs a)[i] b)), some y) :: (some (ol c acc), some (.ref D)) :: S)) (wipeC (Γ0 a) vs) (wipe σ vs) G4 H4 := by
      have e1 := forgets (hd a (xs a)[i] _ _ _ _ _ _ k5) vs fun v h => wipeC_at h (hv a v h)
      rw [(hw vs hj).trans wipe_wipe] at e1
      refine ⟨e1.len, e1.ok.perm ?_⟩
      show (((some (fz c (yv a (xs a)[i] b)), some y) :: (L ++ (some (ol c acc), some (.ref D)) :: S)) ++ _).Perm _
      exact (mid (l := L) (m := (some (ol c acc), some (.ref D)) :: S)).symm.append_right _
    have k7 := down _ _ _ _ _ k6
    obtain ⟨ws, hD', hlen, k8⟩ := Okl.grow k7.ok
    refine ⟨ws, hD', ?_, acc ++ [yv a (xs a)[i] b], G4, up _ _ _ _ _ ⟨k7.len, k8⟩, ?_, Res.wp_mono w4 (fun ys z => ?_) fun _ _ => trivial⟩
    · rw [← line_eq, hlen]
      omega
    · rw [List.length_append]
      show acc.length + 1 ≤ i + 1
      omega
    · rw [List.append_assoc]
      exact z
  · rintro H ⟨acc, G, k2, _, w⟩
    rw [List.drop_length] at w
    have k3 := k1.back (down _ _ _ _ _ k2)
    exact w (.ref D) G H (by rw [List.append_nil]; exact k3)
/-- [elt for tg in iter] -/
theorem ex_lc {tg iter elt : Expr} {scope : Scope} {own : List (Str × Nat)} {pos : Pos} {wi : TI} {g : TG} {te : TE} {js : List Nat} {α β γ δ : Type} [Nonempty α] [Nonempty β] {mi : Res α} {xs : α → List β} {Rb : β → Sl} {Γ0 : α → Ctx} {c : Cod γ} {f : α → β → Res γ} {me : α → β → Res δ} {yv : α → β → δ → γ} {Γg : α → β → Ctx} {Γe : Ctx} {Re : α → β → δ → Sl} {Γo : α → β → δ → Ctx}
    (hN : X.N.Nodup) (hi : IX X T W Γx Γ tg iter wi mi xs Rb Γ0) (ok : BlkOk X.N X.env.scope scope own)
    (hg : ∀ (s : Shared) (H : Hp) (C : Addr) (cl : List (Str × Addr)) (fp : List Addr) a x, GX (X.blk s H scope (compEnvC scope cl C X.env) fp) tg g js (Rb x) (wipeC (Γ0 a) (own.map (·.2))) (Γg a x))
    (he : ∀ (s : Shared) (H : Hp) (C : Addr) (cl : List (Str × Addr)) (fp : List Addr) a x, EX (X.blk s H scope (compEnvC scope cl C X.env) fp) T (fun _ _ _ _ => False) Γe (Γg a x) elt te (me a x) (Re a x) (Γo a x))
    (hRe : ∀ a x b, Re a x b = fz c (yv a x b) := by exact fun _ _ _ => rfl) (hΓo : ∀ a x b, Γo a x b = Γg a x := by exact fun _ _ _ => rfl) (hb : ∀ a x, Bd (f a x) (me a x) (fun b => .ok (yv a x b)) := by intros; repeat (first | ((with_reducible refine Bd.done ?_); exact rfl) | with_reducible refine Bd.okl ?_ | with_reducible refine Bd.assoc ?_ | with_reducible refine Bd.bind fun _ => ?_ | with_reducible refine Bd.eta fun _ => ?_ | with_reducible refine Bd.iteB ?_ ?_ fun _ => ?_ | with_reducible refine Bd.iteE ?_ ?_ fun _ => ?_ | with_reducible refine Bd.ite ?_ ?_ | with_reducible refine Bd.iteL ?_ ?_ | with_reducible refine Bd.assocL ?_ | with_reducible refine Bd.oklL ?_ | with_reducible exact Bd.same | with_reducible exact Bd.at | dsimp only)) (hj : ∀ j ∈ js, j ∈ own.map (·.2) := by decide) (hv : ∀ a, ((own.map (·.2)).all fun v => Nat.ble (v + 1) (Γ0 a).length) = true := by exact fun _ => rfl) (hd : ∀ a x, Wk (Γg a x) (wipeC (Γ0 a) (own.map (·.2))))
    (hc : X.calm = true := by rfl) (hs : ∀ x, foldedSetIterable iter X.env x = pure x := by intro _; rfl) :
    EX X T W Γx Γ (.ListComp elt [⟨tg, iter, [], 0⟩] scope pos) (tLc wi g tYes te (own.map (·.2))) (mi.bind fun a => (R.mapC (f a) (xs a)).bind fun ys => .ok (a, ys)) (fun t => ol c t.2) (fun t => Γ0 t.1) := by
  obtain rfl : Re = fun a x b => fz c (yv a x b) := funext fun a => funext fun x => funext (hRe a x)
  obtain rfl : Γo = fun a x _ => Γg a x := funext fun a => funext fun x => funext (hΓo a x)
  obtain ⟨a0⟩ := ‹Nonempty α›
  obtain ⟨b0⟩ := ‹Nonempty β›
  refine ⟨pe_lc hc hN hi.pi ok (fun s H C cl fp => (hg s H C cl fp a0 b0).pg) (fun _ _ _ _ _ => pts_nil) (fun s H C cl fp => (he s H C cl fp a0 b0).pe) hs, ?_⟩
  exact lc_ev hi (hg X.s_0 (fun _ => none) 0 [] []) hj (fun a v hm => Nat.le_of_ble_eq_true (List.all_eq_true.mp (hv a) v hm)) (he X.s_0 (fun _ => none) 0 [] []) hd hb
theorem s1_asgLc {i : Nat} {y : Str} {py spos : Pos} {tg iter elt : Expr} {scope : Scope} {own : List (Str × Nat)} {pos : Pos} {wi : TI} {g : TG} {te : TE} {js : List Nat} {α β γ δ : Type} [Nonempty α] [Nonempty β] {mi : Res α} {xs : α → List β} {Rb : β → Sl} {Γ0 : α → Ctx} {c : Cod γ} {f : α → β → Res γ} {me : α → β → Res δ} {yv : α → β → δ → γ} {Γg : α → β → Ctx} {Γe : Ctx} {Re : α → β → δ → Sl} {Γo : α → β → δ → Ctx} {mn : Res (List γ)}
    (hN : X.N.Nodup) (hy : X.N[i]? = some y) (hyl : X.env.scope.names.lookup y = some .local) (hsw : swapsWith (.ListComp elt [⟨tg, iter, [], 0⟩] scope pos) (some (.Name y py)) spos.line X.env = pure true) (hi : IX X T W Γx Γ tg iter wi mi xs Rb Γ0) (ok : BlkOk X.N X.env.scope scope own)
    (hg : ∀ (s : Shared) (H : Hp) (C : Addr) (cl : List (Str × Addr)) (fp : List Addr) a x, GX (X.blk s H scope (compEnvC scope cl C X.env) fp) tg g js (Rb x) (wipeC (Γ0 a) (own.map (·.2))) (Γg a x))
    (he : ∀ (s : Shared) (H : Hp) (C : Addr) (cl : List (Str × Addr)) (fp : List Addr) a x, EX (X.blk s H scope (compEnvC scope cl C X.env) fp) T (fun _ _ _ _ => False) Γe (Γg a x) elt te (me a x) (Re a x) (Γo a x))
    (hRe : ∀ a x b, Re a x b = fz c (yv a x b) := by exact fun _ _ _ => rfl) (hΓo : ∀ a x b, Γo a x b = Γg a x := by exact fun _ _ _ => rfl) (hb : ∀ a x, Bd (f a x) (me a x) (fun b => .ok (yv a x b)) := by intros; repeat (first | ((with_reducible refine Bd.done ?_); exact rfl) | with_reducible refine Bd.okl ?_ | with_reducible refine Bd.assoc ?_ | with_reducible refine Bd.bind fun _ => ?_ | with_reducible refine Bd.eta fun _ => ?_ | with_reducible refine Bd.iteB ?_ ?_ fun _ => ?_ | with_reducible refine Bd.iteE ?_ ?_ fun _ => ?_ | with_reducible refine Bd.ite ?_ ?_ | with_reducible refine Bd.iteL ?_ ?_ | with_reducible refine Bd.assocL ?_ | with_reducible refine Bd.oklL ?_ | with_reducible exact Bd.same | with_reducible exact Bd.at | dsimp only)) (hj : ∀ j ∈ js, j ∈ own.map (·.2) := by decide) (hv : ∀ a, ((own.map (·.2)).all fun v => Nat.ble (v + 1) (Γ0 a).length) = true := by exact fun _ => rfl) (hd : ∀ a x, Wk (Γg a x) (wipeC (Γ0 a) (own.map (·.2)))) (hΓ : ∀ t, Γ0 t = Γ := by exact fun _ => rfl) (hl : Nat.ble (i + 1) Γ.length = true := by rfl) (hm : Bd mn (mi.bind fun a => (R.mapC (f a) (xs a)).bind fun ys => .ok (a, ys)) (fun t => .ok t.2) := by intros; repeat (first | ((with_reducible refine Bd.done ?_); exact rfl) | with_reducible refine Bd.okl ?_ | with_reducible refine Bd.assoc ?_ | with_reducible refine Bd.bind fun _ => ?_ | with_reducible refine Bd.eta fun _ => ?_ | with_reducible refine Bd.iteB ?_ ?_ fun _ => ?_ | with_reducible refine Bd.iteE ?_ ?_ fun _ => ?_ | with_reducible refine Bd.ite ?_ ?_ | with_reducible refine Bd.iteL ?_ ?_ | with_reducible refine Bd.assocL ?_ | with_reducible refine Bd.oklL ?_ | with_reducible exact Bd.same | with_reducible exact Bd.at | dsimp only))
    (hc : X.calm = true := by rfl) (hs : ∀ x, foldedSetIterable iter X.env x = pure x := by intro _; rfl) :
    S1 X T W Γx Γ (.Assign [.Name y py] (.ListComp elt [⟨tg, iter, [], 0⟩] scope pos) spos) (tAsg (tLc wi g tYes te (own.map (·.2))) (gName i)) mn (fun v => .nx (Γ.set i (some (ol c v)))) := by
  obtain rfl : Re = fun a x b => fz c (yv a x b) := funext fun a => funext fun x => funext (hRe a x)
  obtain rfl : Γo = fun a x _ => Γg a x := funext fun a => funext fun x => funext (hΓo a x)
  obtain ⟨a0⟩ := ‹Nonempty α›
  obtain ⟨b0⟩ := ‹Nonempty β›
  refine ⟨ps_setLc hc hN hy hyl hsw hi.pi ok (fun s H C cl fp => (hg s H C cl fp a0 b0).pg) (fun _ _ _ _ _ => pts_nil) (fun s H C cl fp => (he s H C cl fp a0 b0).pe) hs, fun Z G0 S σ G H D k q => ?_⟩
  exact lc_ev hi (hg X.s_0 (fun _ => none) 0 [] []) hj (fun a v hm => Nat.le_of_ble_eq_true (List.all_eq_true.mp (hv a) v hm)) (he X.s_0 (fun _ => none) 0 [] []) hd hb Z G0 S σ G H _ k (Res.wp_mono (hm _ _ q) (fun t q v G' H' k' => by
    rw [hΓ] at k'
    exact q _ G' H' (k'.store (Nat.le_of_ble_eq_true hl))) fun ex q cls d G' H' k' => q cls d σ G' H' k')
/-- an owned list, frozen -/
theorem Okl.icy {Z G0 G H : Hp} {l : List Pl} {γ : Type} {c : Cod γ} {xs : List γ} {w : Option V} (k : Okl Z G0 ((some (ol c xs), w) :: l) G H) : ∃ G', Okl Z G0 ((some (fz (cList c) xs), w) :: l) G' H := by
  obtain ⟨ps, ⟨p1, p2, _, ⟨v, e1, p, vs, e2, e3, h3, hp⟩, _⟩, _, h4⟩ := k.own
  subst e1; subst e2
  refine ⟨upd G p (.lst vs), k.freeze (p := p) (fun v ps e r => ?_) h3 ⟨p, vs, rfl, upd_same, Paired.mono (fun _ _ q => c.mono q (Evl.Ex.new ?_)) hp⟩⟩
  · obtain ⟨p', _, e2, e4, _⟩ := r
    cases e
    cases e2
    exact e4
  · exact (h4 p (by simp_all)).2.1
theorem EX.icy {e : Expr} {te : TE} {α γ : Type} {m : Res α} {c : Cod γ} {xs : α → List γ} {Γo : α → Ctx} (h : EX X T W Γx Γ e te m (fun a => ol c (xs a)) Γo) : EX X T W Γx Γ e te m (fun a => fz (cList c) (xs a)) Γo :=
  ⟨h.pe, fun Z G0 S σ G H Q k q => h.ev Z G0 S σ G H Q k (Res.wp_mono q (fun a q v G' H' k' => by
    obtain ⟨G2, k2⟩ := k'.of.icy 
    exact q v G2 H' ⟨k'.len, k2⟩) fun _ z => z)⟩
/-- an owned list at a slot, frozen for good -/
theorem Okc.icySlot {Z G0 G H : Hp} {S : List Pl} {σ : St} {γ : Type} {c : Cod γ} {xs : List γ} {i : Nat} (k : Okc Z G0 S Γ σ G H) (h : Γ[i]? = some (some (ol c xs))) : ∃ G', Okc Z G0 S (Γ.set i (some (fz (cList c) xs))) σ G' H := by
  obtain ⟨w, hw, hz⟩ := zip_get k.len h
  have p1 := perm_at hz
  have p2 := perm_set (y := (some (fz (cList c) xs), w)) hz
  have k1 : Okl Z G0 ((some (ol c xs), w) :: (S ++ (Γ.zip σ).eraseIdx i)) G H := k.ok.perm ((p1.append_left S).trans mid)
  obtain ⟨G', k2⟩ := k1.icy 
  refine ⟨G', by rw [List.length_set]; exact k.len, ?_⟩
  have e : σ = σ.set i w := by
    refine List.ext_getElem? fun j => ?_
    rw [List.getElem?_set]
    by_cases q : i = j
    · subst q
      rw [if_pos rfl, if_pos (List.getElem?_eq_some_iff.mp hw).1, hw]
    · rw [if_neg q]
  have z := zip_set (Γ := Γ) (σ := σ) (i := i) (o := some (fz (cList c) xs)) (w := w)
  rw [← e] at z
  rw [z]
  exact k2.perm (mid.symm.trans (p2.symm.append_left S))
theorem SX.icy {sts : List Stmt} {ts : TS} {α γ : Type} {m : Res α} {I : α → Out} {c : Cod γ} {xs : List γ} (i : Nat) (h : Γ[i]? = some (some (ol c xs))) (r : SX X T W Γx (Γ.set i (some (fz (cList c) xs))) sts ts m I) : SX X T W Γx Γ sts ts m I :=
  ⟨r.ps, fun Z G0 S σ G H D k q => by
    obtain ⟨G', k'⟩ := k.icySlot  h
    exact r.ev Z G0 S σ G' H D k' q⟩
/-- what a slot owns, on top; the slot again behind -/
theorem Okc.take {Z G0 G H : Hp} {S : List Pl} {σ : St} {s : Sl} {i : Nat} (k : Okc Z G0 S Γ σ G H) (h : Γ[i]? = some (some s)) : ∃ v l, σ[i]? = some (some v) ∧ Okl Z G0 ((some s, some v) :: l) G H ∧
    ∀ s' G' H', Okl Z G0 ((some s', some v) :: l) G' H' → Okc Z G0 S (Γ.set i (some s')) σ G' H' := by
  obtain ⟨w, hw, hz⟩ := zip_get k.len h
  have p1 := perm_at hz
  have k1 : Okl Z G0 ((some s, w) :: (S ++ (Γ.zip σ).eraseIdx i)) G H := k.ok.perm ((p1.append_left S).trans mid)
  obtain ⟨ps, ⟨_, _, _, ⟨v, e1, _⟩, _⟩, _, _⟩ := k1.own
  subst e1
  refine ⟨v, _, hw, k1, fun s' G' H' k2 => ⟨by rw [List.length_set]; exact k.len, ?_⟩⟩
  have p2 := perm_set (y := (some s', some v)) hz
  have e : σ = σ.set i (some v) := by
    refine List.ext_getElem? fun j => ?_
    rw [List.getElem?_set]
    by_cases q : i = j
    · subst q
      rw [if_pos rfl, if_pos (List.getElem?_eq_some_iff.mp hw).1, hw]
    · rw [if_neg q]
  have z := zip_set (Γ := Γ) (σ := σ) (i := i) (o := some s') (w := some v)
  rw [← e] at z
  rw [z]
  exact k2.perm (mid.symm.trans (p2.symm.append_left S))
theorem ol_own {Z G0 G H : Hp} {l : List Pl} {γ : Type} {c : Cod γ} {xs : List γ} {v : V} (k : Okl Z G0 ((some (ol c xs), some v) :: l) G H) : ∃ p vs, v = .ref p ∧ H p = some (.lst vs) ∧ Paired (c.rel G) vs xs ∧
    ∀ vs' xs', Paired (c.rel G) vs' xs' → Okl Z G0 ((some (ol c xs'), some v) :: l) G (upd H p (.lst vs')) := by
  obtain ⟨ps, ⟨p1, p2, _, ⟨v', e1, p, vs, e2, e3, h3, hp⟩, _⟩, _, _⟩ := k.own
  cases e1
  subst e2
  refine ⟨p, vs, rfl, h3, hp, fun vs' xs' h => k.write (p := p) (fun v ps e r => ?_) ⟨p, vs', rfl, rfl, upd_same, h⟩⟩
  obtain ⟨p', _, e2, e4, _⟩ := r
  cases e
  cases e2
  exact e4
/-- xs.append(e), xs at the slot i -/
theorem s1_append {i : Nat} {x : Str} {e : Expr} {te : TE} {p1 p2 p3 pos : Pos} {α γ : Type} {m : Res α} {c : Cod γ} {a : α → γ} {xs : α → List γ} {Γo : α → Ctx} {ν : Type} {mn : Res ν} {Γ' : ν → Ctx} {ys : ν → List γ} {f : α → List γ → ν} (he : EX X T W Γx Γ e te m (fun t => fz c (a t)) Γo) (h : ∀ t, (Γo t)[i]? = some (some (ol c (xs t)))) (hΓ : ∀ t u, Γo t = Γ' (f t u)) (hy : ∀ t u, u = ys (f t u)) (h0 : ∃ xs0, Γ[i]? = some (some (ol c xs0)))
    (hN : X.N[i]? = some x) (hv : Vis X.env.scope x) (hK : X.K = K := by rfl) (hd : (x == ("__debug__" : Str)) = false := by decide) (hcd : (x == ("__classdict__" : Str)) = false := by decide)
    (hbm : PE X (.Call (.Attribute (.Name x p1) "append" p2) [e] [] p3) (tBM K "list" rAppend (tVar i) (tCons te tNil))) (hb : Bd mn (m.bind fun t => (R.push (xs t) (a t)).bind fun u => .ok (t, u)) (fun t => .ok (f t.1 t.2)) := by intros; repeat (first | ((with_reducible refine Bd.done ?_); exact rfl) | with_reducible refine Bd.okl ?_ | with_reducible refine Bd.assoc ?_ | with_reducible refine Bd.bind fun _ => ?_ | with_reducible refine Bd.eta fun _ => ?_ | with_reducible refine Bd.iteB ?_ ?_ fun _ => ?_ | with_reducible refine Bd.iteE ?_ ?_ fun _ => ?_ | with_reducible refine Bd.ite ?_ ?_ | with_reducible refine Bd.iteL ?_ ?_ | with_reducible refine Bd.assocL ?_ | with_reducible refine Bd.oklL ?_ | with_reducible exact Bd.same | with_reducible exact Bd.at | dsimp only)) (hs : swapsWith (.Call (.Attribute (.Name x p1) "append" p2) [e] [] p3) none pos.line X.env = pure false := by rfl) :
    S1 X T W Γx Γ (.Expr (.Call (.Attribute (.Name x p1) "append" p2) [e] [] p3) pos) (tDrop (tBM K "list" rAppend (tVar i) (tCons te tNil))) mn (fun v => .nx ((Γ' v).set i (some (ol c (ys v))))) := by
  subst hK
  obtain ⟨xs0, h0⟩ := h0
  refine ⟨ps_expr hbm hs, fun Z G0 S σ G H D k q => ?_⟩
  obtain ⟨v, l, hw, k1, _⟩ := k.take h0
  obtain ⟨p, vs, rfl, h3, _, _⟩ := ol_own k1
  refine ⟨.ref p, hw, .inl ⟨rfl, _, SqL.of h3⟩, ?_⟩
  refine he.ev Z G0 S σ G H _ k (Res.wp_mono (Res.wp_bind (hb _ _ q)) (fun t q y G' H' k' => ?_) fun ex q cls d G' H' k' => q cls d σ G' H' k')
  obtain ⟨us, e2, q3⟩ := wp_cases (Res.wp_bind q) (chk_ne ok_ne)
  obtain ⟨e3, e4⟩ := chk_ok e2
  cases e4
  have hr := k'.tp
  obtain ⟨v', l', hw', k2, back⟩ := k'.drop.take (h t)
  rw [hw] at hw'
  cases hw'
  obtain ⟨p', vs', e5, h6, h7, h8⟩ := ol_own k2
  cases e5
  refine ⟨p, vs', y, rfl, rfl, h6, ?_, q3 σ _ _ (by
    dsimp only
    rw [← hΓ, ← hy]
    exact back _ _ _ (h8 _ _ (Paired.snoc h7 hr)))⟩
  rw [h7.length, ← line_eq]
  exact of_decide_eq_true e3
end
end Rt
/-! Rt8: and | or, conditional values, chains, None, isinstance, slices, texts. -/
namespace Rt
open PySem L2 R
/-- and | or of tests -/
structure EW (X : Cx) (T : XT) (W : WX) (Γx Γ : Ctx) (e : Expr) (tt : TT) {α : Type} (m : Res α) (b : α → Bool) (Γo : α → Ctx) : Prop where
  pw : PW X e tt
  ev : ∀ (Z G0 : Hp) (S : List Pl) (σ : St) (G H : Hp) (Q : Bool → Hp → Prop), Okc Z G0 S Γ σ G H →
    m.wp (fun a => ∀ G' H', Okc Z G0 S (Γo a) σ G' H' → Q (b a) H') (fun ex => ∀ cls d G' H', Okc Z G0 S Γx σ G' H' → T.rel ex cls d G' → W cls d σ H') → tt σ H Q
section
variable {X : Cx} {T : XT} {W : WX} {Γx Γ : Ctx} {K : PySem.W.Frag}
theorem ew_and1 {a : Expr} {pos : Pos} {tt : TT} {α : Type} {m : Res α} {b : α → Bool} {Γo : α → Ctx} (h : ET X T W Γx Γ a tt m b Γo) : EW X T W Γx Γ (.BoolOp .And [a] pos) tt m b Γo := ⟨pw_and1 h.pt, h.ev⟩
theorem ew_or1 {a : Expr} {pos : Pos} {tt : TT} {α : Type} {m : Res α} {b : α → Bool} {Γo : α → Ctx} (h : ET X T W Γx Γ a tt m b Γo) : EW X T W Γx Γ (.BoolOp .Or [a] pos) tt m b Γo := ⟨pw_or1 h.pt, h.ev⟩
theorem et_ew {e : Expr} {tt : TT} {α : Type} {m : Res α} {b : α → Bool} {Γo : α → Ctx} (h : EW X T W Γx Γ e tt m b Γo) : ET X T W Γx Γ e tt m b Γo := ⟨PW.pt h.pw, h.ev⟩
/-- the second one stops nowhere and changes nothing -/
theorem ew_and {a c : Expr} {rest : List Expr} {pos : Pos} {t u : TT} {α β : Type} [Nonempty α] {m1 : Res α} {b1 : α → Bool} {Γ1 : α → Ctx} {m2 : α → Res β} {y : α → β} {b2 : α → β → Bool} {Γ2 : α → β → Ctx} (h1 : ET X T W Γx Γ a t m1 b1 Γ1) (h2 : ∀ x, EW X T W Γx (Γ1 x) (.BoolOp .And (c :: rest) pos) u (m2 x) (b2 x) (Γ2 x))
    (hy : ∀ x, m2 x = .ok (y x) := by exact fun _ => rfl) (hΓ : ∀ x y, Γ2 x y = Γ1 x := by exact fun _ _ => rfl) : EW X T W Γx Γ (.BoolOp .And (a :: c :: rest) pos) (tAnd t u) m1 (fun x => b1 x && b2 x (y x)) Γ1 := by
  obtain ⟨x⟩ := ‹Nonempty α›
  refine ⟨pw_and h1.pt (h2 x).pw, fun Z G0 S σ G H Q k q => h1.ev Z G0 S σ G H _ k (Res.wp_mono q (fun x q G' H' k' => ?_) fun _ z => z)⟩
  cases e : b1 x with
  | true =>
    rw [if_pos rfl]
    refine (h2 x).ev Z G0 S σ G' H' Q k' ?_
    rw [hy]
    intro G2 H2 k2
    rw [hΓ] at k2
    have z := q G2 H2 k2
    rw [e, Bool.true_and] at z
    exact z
  | false =>
    rw [if_neg Bool.false_ne_true]
    have z := q G' H' k'
    rw [e, Bool.false_and] at z
    exact z
theorem ew_or {a c : Expr} {rest : List Expr} {pos : Pos} {t u : TT} {α β : Type} [Nonempty α] {m1 : Res α} {b1 : α → Bool} {Γ1 : α → Ctx} {m2 : α → Res β} {y : α → β} {b2 : α → β → Bool} {Γ2 : α → β → Ctx} (h1 : ET X T W Γx Γ a t m1 b1 Γ1) (h2 : ∀ x, EW X T W Γx (Γ1 x) (.BoolOp .Or (c :: rest) pos) u (m2 x) (b2 x) (Γ2 x))
    (hy : ∀ x, m2 x = .ok (y x) := by exact fun _ => rfl) (hΓ : ∀ x y, Γ2 x y = Γ1 x := by exact fun _ _ => rfl) : EW X T W Γx Γ (.BoolOp .Or (a :: c :: rest) pos) (tOr t u) m1 (fun x => b1 x || b2 x (y x)) Γ1 := by
  obtain ⟨x⟩ := ‹Nonempty α›
  refine ⟨pw_or h1.pt (h2 x).pw, fun Z G0 S σ G H Q k q => h1.ev Z G0 S σ G H _ k (Res.wp_mono q (fun x q G' H' k' => ?_) fun _ z => z)⟩
  cases e : b1 x with
  | true =>
    rw [if_pos rfl]
    have z := q G' H' k'
    rw [e, Bool.true_or] at z
    exact z
  | false =>
    rw [if_neg Bool.false_ne_true]
    refine (h2 x).ev Z G0 S σ G' H' Q k' ?_
    rw [hy]
    intro G2 H2 k2
    rw [hΓ] at k2
    have z := q G2 H2 k2
    rw [e, Bool.false_or] at z
    exact z
/-- the second one may stop, or raise -/
theorem ew_andM {a c : Expr} {rest : List Expr} {pos : Pos} {t u : TT} {α β : Type} [Nonempty α] {m1 : Res α} {b1 : α → Bool} {Γ1 : α → Ctx} {m2 : α → Res β} {b2 : α → β → Bool} {Γ2 : α → β → Ctx} (h1 : ET X T W Γx Γ a t m1 b1 Γ1) (h2 : ∀ x, EW X T W Γx (Γ1 x) (.BoolOp .And (c :: rest) pos) u (m2 x) (b2 x) (Γ2 x))
    (hΓ1 : ∀ x, Γ1 x = Γ := by exact fun _ => rfl) (hΓ : ∀ x y, Γ2 x y = Γ := by exact fun _ _ => rfl) : EW X T W Γx Γ (.BoolOp .And (a :: c :: rest) pos) (tAnd t u) (m1.bind fun x => if b1 x then (m2 x).bind fun y => .ok (b2 x y) else .ok false) id (fun _ => Γ) := by
  obtain ⟨x⟩ := ‹Nonempty α›
  refine ⟨pw_and h1.pt (h2 x).pw, fun Z G0 S σ G H Q k q => h1.ev Z G0 S σ G H _ k (Res.wp_mono (Res.wp_bind q) (fun x q G' H' k' => ?_) fun _ z => z)⟩
  cases e : b1 x with
  | true =>
    rw [if_pos rfl]
    simp only [e, if_true] at q
    refine (h2 x).ev Z G0 S σ G' H' Q k' (Res.wp_mono (Res.wp_bind q) (fun y q G2 H2 k2 => ?_) fun _ z => z)
    rw [hΓ] at k2
    exact q G2 H2 k2
  | false =>
    rw [if_neg Bool.false_ne_true]
    simp only [e, Bool.false_eq_true, if_false] at q
    rw [hΓ1] at k'
    exact q G' H' k'
theorem ew_orM {a c : Expr} {rest : List Expr} {pos : Pos} {t u : TT} {α β : Type} [Nonempty α] {m1 : Res α} {b1 : α → Bool} {Γ1 : α → Ctx} {m2 : α → Res β} {b2 : α → β → Bool} {Γ2 : α → β → Ctx} (h1 : ET X T W Γx Γ a t m1 b1 Γ1) (h2 : ∀ x, EW X T W Γx (Γ1 x) (.BoolOp .Or (c :: rest) pos) u (m2 x) (b2 x) (Γ2 x))
    (hΓ1 : ∀ x, Γ1 x = Γ := by exact fun _ => rfl) (hΓ : ∀ x y, Γ2 x y = Γ := by exact fun _ _ => rfl) : EW X T W Γx Γ (.BoolOp .Or (a :: c :: rest) pos) (tOr t u) (m1.bind fun x => if b1 x then .ok true else (m2 x).bind fun y => .ok (b2 x y)) id (fun _ => Γ) := by
  obtain ⟨x⟩ := ‹Nonempty α›
  refine ⟨pw_or h1.pt (h2 x).pw, fun Z G0 S σ G H Q k q => h1.ev Z G0 S σ G H _ k (Res.wp_mono (Res.wp_bind q) (fun x q G' H' k' => ?_) fun _ z => z)⟩
  cases e : b1 x with
  | true =>
    rw [if_pos rfl]
    simp only [e, if_true] at q
    rw [hΓ1] at k'
    exact q G' H' k'
  | false =>
    rw [if_neg Bool.false_ne_true]
    simp only [e, Bool.false_eq_true, if_false] at q
    refine (h2 x).ev Z G0 S σ G' H' Q k' (Res.wp_mono (Res.wp_bind q) (fun y q G2 H2 k2 => ?_) fun _ z => z)
    rw [hΓ] at k2
    exact q G2 H2 k2
/-! as values -/
theorem ex_one {op : BoolOp} {a : Expr} {pos : Pos} {te : TE} {α : Type} {m : Res α} {R : α → Sl} {Γo : α → Ctx} (h : EX X T W Γx Γ a te m R Γo) : EX X T W Γx Γ (.BoolOp op [a] pos) te m R Γo := ⟨pe_one h.pe, h.ev⟩
theorem ex_not {e : Expr} {te : TE} {α : Type} {m : Res α} {b : α → Bool} {Γo : α → Ctx} {pos : Pos} (h : EX X T W Γx Γ e te m (fun a => sB (b a)) Γo) : EX X T W Γx Γ (.UnaryOp .Not e pos) (tNotV te) m (fun a => sB (!b a)) Γo :=
  ⟨pe_not h.pe, fun Z G0 S σ G H Q k q => h.ev Z G0 S σ G H _ k (Res.wp_mono q (fun a q v G' H' k' => ⟨b a, k'.tp, q _ G' H' (k'.drop.pushf (c := cBool) rfl)⟩) fun _ z => z)⟩
theorem ex_and {a c : Expr} {rest : List Expr} {pos : Pos} {t u : TE} {α β : Type} [Nonempty α] {m1 : Res α} {b1 : α → Bool} {Γ1 : α → Ctx} {m2 : α → Res β} {y : α → β} {b2 : α → β → Bool} {Γ2 : α → β → Ctx} (h1 : EX X T W Γx Γ a t m1 (fun x => sB (b1 x)) Γ1) (h2 : ∀ x, EX X T W Γx (Γ1 x) (.BoolOp .And (c :: rest) pos) u (m2 x) (fun y => sB (b2 x y)) (Γ2 x))
    (hy : ∀ x, m2 x = .ok (y x) := by exact fun _ => rfl) (hΓ : ∀ x y, Γ2 x y = Γ1 x := by exact fun _ _ => rfl) : EX X T W Γx Γ (.BoolOp .And (a :: c :: rest) pos) (tAndV t u) m1 (fun x => sB (b1 x && b2 x (y x))) Γ1 := by
  obtain ⟨x⟩ := ‹Nonempty α›
  refine ⟨pe_and h1.pe (h2 x).pe, fun Z G0 S σ G H Q k q => h1.ev Z G0 S σ G H _ k (Res.wp_mono q (fun x q v G' H' k' => ⟨b1 x, k'.tp, ?_⟩) fun _ z => z)⟩
  have k' := k'.drop
  cases e : b1 x with
  | true =>
    rw [if_pos rfl]
    refine (h2 x).ev Z G0 S σ G' H' Q k' ?_
    rw [hy]
    intro w G2 H2 k2
    rw [hΓ] at k2
    refine q w G2 H2 ?_
    rw [e, Bool.true_and]
    exact k2
  | false =>
    rw [if_neg Bool.false_ne_true]
    refine q _ G' H' (k'.pushf ?_)
    rw [e, Bool.false_and]
    rfl
theorem ex_or {a c : Expr} {rest : List Expr} {pos : Pos} {t u : TE} {α β : Type} [Nonempty α] {m1 : Res α} {b1 : α → Bool} {Γ1 : α → Ctx} {m2 : α → Res β} {y : α → β} {b2 : α → β → Bool} {Γ2 : α → β → Ctx} (h1 : EX X T W Γx Γ a t m1 (fun x => sB (b1 x)) Γ1) (h2 : ∀ x, EX X T W Γx (Γ1 x) (.BoolOp .Or (c :: rest) pos) u (m2 x) (fun y => sB (b2 x y)) (Γ2 x))
    (hy : ∀ x, m2 x = .ok (y x) := by exact fun _ => rfl) (hΓ : ∀ x y, Γ2 x y = Γ1 x := by exact fun _ _ => rfl) : EX X T W Γx Γ (.BoolOp .Or (a :: c :: rest) pos) (tOrV t u) m1 (fun x => sB (b1 x || b2 x (y x))) Γ1 := by
  obtain ⟨x⟩ := ‹Nonempty α›
  refine ⟨pe_or h1.pe (h2 x).pe, fun Z G0 S σ G H Q k q => h1.ev Z G0 S σ G H _ k (Res.wp_mono q (fun x q v G' H' k' => ⟨b1 x, k'.tp, ?_⟩) fun _ z => z)⟩
  have k' := k'.drop
  cases e : b1 x with
  | true =>
    rw [if_pos rfl]
    refine q _ G' H' (k'.pushf ?_)
    rw [e, Bool.true_or]
    rfl
  | false =>
    rw [if_neg Bool.false_ne_true]
    refine (h2 x).ev Z G0 S σ G' H' Q k' ?_
    rw [hy]
    intro w G2 H2 k2
    rw [hΓ] at k2
    refine q w G2 H2 ?_
    rw [e, Bool.false_or]
    exact k2
theorem ex_andM {a c : Expr} {rest : List Expr} {pos : Pos} {t u : TE} {α β : Type} [Nonempty α] {m1 : Res α} {b1 : α → Bool} {Γ1 : α → Ctx} {m2 : α → Res β} {b2 : α → β → Bool} {Γ2 : α → β → Ctx} (h1 : EX X T W Γx Γ a t m1 (fun x => sB (b1 x)) Γ1) (h2 : ∀ x, EX X T W Γx (Γ1 x) (.BoolOp .And (c :: rest) pos) u (m2 x) (fun y => sB (b2 x y)) (Γ2 x))
    (hΓ1 : ∀ x, Γ1 x = Γ := by exact fun _ => rfl) (hΓ : ∀ x y, Γ2 x y = Γ := by exact fun _ _ => rfl) : EX X T W Γx Γ (.BoolOp .And (a :: c :: rest) pos) (tAndV t u) (m1.bind fun x => if b1 x then (m2 x).bind fun y => .ok (b2 x y) else .ok false) sB (fun _ => Γ) := by
  obtain ⟨x⟩ := ‹Nonempty α›
  refine ⟨pe_and h1.pe (h2 x).pe, fun Z G0 S σ G H Q k q => h1.ev Z G0 S σ G H _ k (Res.wp_mono (Res.wp_bind q) (fun x q v G' H' k' => ⟨b1 x, k'.tp, ?_⟩) fun _ z => z)⟩
  have k' := k'.drop
  cases e : b1 x with
  | true =>
    rw [if_pos rfl]
    simp only [e, if_true] at q
    refine (h2 x).ev Z G0 S σ G' H' Q k' (Res.wp_mono (Res.wp_bind q) (fun y q w G2 H2 k2 => ?_) fun _ z => z)
    rw [hΓ] at k2
    exact q w G2 H2 k2
  | false =>
    rw [if_neg Bool.false_ne_true]
    simp only [e, Bool.false_eq_true, if_false] at q
    rw [hΓ1] at k'
    exact q _ G' H' (k'.pushf (c := cBool) rfl)
theorem ex_orM {a c : Expr} {rest : List Expr} {pos : Pos} {t u : TE} {α β : Type} [Nonempty α] {m1 : Res α} {b1 : α → Bool} {Γ1 : α → Ctx} {m2 : α → Res β} {b2 : α → β → Bool} {Γ2 : α → β → Ctx} (h1 : EX X T W Γx Γ a t m1 (fun x => sB (b1 x)) Γ1) (h2 : ∀ x, EX X T W Γx (Γ1 x) (.BoolOp .Or (c :: rest) pos) u (m2 x) (fun y => sB (b2 x y)) (Γ2 x))
    (hΓ1 : ∀ x, Γ1 x = Γ := by exact fun _ => rfl) (hΓ : ∀ x y, Γ2 x y = Γ := by exact fun _ _ => rfl) : EX X T W Γx Γ (.BoolOp .Or (a :: c :: rest) pos) (tOrV t u) (m1.bind fun x => if b1 x then .ok true else (m2 x).bind fun y => .ok (b2 x y)) sB (fun _ => Γ) := by
  obtain ⟨x⟩ := ‹Nonempty α›
  refine ⟨pe_or h1.pe (h2 x).pe, fun Z G0 S σ G H Q k q => h1.ev Z G0 S σ G H _ k (Res.wp_mono (Res.wp_bind q) (fun x q v G' H' k' => ⟨b1 x, k'.tp, ?_⟩) fun _ z => z)⟩
  have k' := k'.drop
  cases e : b1 x with
  | true =>
    rw [if_pos rfl]
    simp only [e, if_true] at q
    rw [hΓ1] at k'
    exact q _ G' H' (k'.pushf (c := cBool) rfl)
  | false =>
    rw [if_neg Bool.false_ne_true]
    simp only [e, Bool.false_eq_true, if_false] at q
    refine (h2 x).ev Z G0 S σ G' H' Q k' (Res.wp_mono (Res.wp_bind q) (fun y q w G2 H2 k2 => ?_) fun _ z => z)
    rw [hΓ] at k2
    exact q w G2 H2 k2
/-- a if t else b: both stop nowhere and change nothing -/
theorem ex_if {c a b : Expr} {pos : Pos} {tc : TT} {ta tb : TE} {α β γ δ : Type} [Nonempty α] {mc : Res α} {bb : α → Bool} {Γ1 : α → Ctx} {m1 : α → Res β} {m2 : α → Res γ} {y1 : α → β} {y2 : α → γ} {r : δ → Sl} {v1 : α → β → δ} {v2 : α → γ → δ} {Γ2 : α → β → Ctx} {Γ3 : α → γ → Ctx}
    (hc : ET X T W Γx Γ c tc mc bb Γ1) (h1 : ∀ x, EX X T W Γx (Γ1 x) a ta (m1 x) (fun y => r (v1 x y)) (Γ2 x)) (h2 : ∀ x, EX X T W Γx (Γ1 x) b tb (m2 x) (fun y => r (v2 x y)) (Γ3 x))
    (hy1 : ∀ x, m1 x = .ok (y1 x) := by exact fun _ => rfl) (hy2 : ∀ x, m2 x = .ok (y2 x) := by exact fun _ => rfl) (hΓ2 : ∀ x y, Γ2 x y = Γ1 x := by exact fun _ _ => rfl) (hΓ3 : ∀ x y, Γ3 x y = Γ1 x := by exact fun _ _ => rfl) :
    EX X T W Γx Γ (.IfExp c a b pos) (tIf tc ta tb) mc (fun x => r (if bb x then v1 x (y1 x) else v2 x (y2 x))) Γ1 := by
  obtain ⟨x⟩ := ‹Nonempty α›
  refine ⟨pe_ifExp hc.pt (h1 x).pe (h2 x).pe, fun Z G0 S σ G H Q k q => hc.ev Z G0 S σ G H _ k (Res.wp_mono q (fun x q G' H' k' => ?_) fun _ z => z)⟩
  cases e : bb x with
  | true =>
    rw [if_pos rfl]
    refine (h1 x).ev Z G0 S σ G' H' Q k' ?_
    rw [hy1]
    intro w G2 H2 k2
    rw [hΓ2] at k2
    refine q w G2 H2 ?_
    rw [e, if_pos rfl]
    exact k2
  | false =>
    rw [if_neg Bool.false_ne_true]
    refine (h2 x).ev Z G0 S σ G' H' Q k' ?_
    rw [hy2]
    intro w G2 H2 k2
    rw [hΓ3] at k2
    refine q w G2 H2 ?_
    rw [e, if_neg Bool.false_ne_true]
    exact k2
theorem ex_ifM {c a b : Expr} {pos : Pos} {tc : TT} {ta tb : TE} {α β γ δ : Type} [Nonempty α] {mc : Res α} {bb : α → Bool} {Γ1 : α → Ctx} {m1 : α → Res β} {m2 : α → Res γ} {r : δ → Sl} {v1 : α → β → δ} {v2 : α → γ → δ} {Γ2 : α → β → Ctx} {Γ3 : α → γ → Ctx}
    (hc : ET X T W Γx Γ c tc mc bb Γ1) (h1 : ∀ x, EX X T W Γx (Γ1 x) a ta (m1 x) (fun y => r (v1 x y)) (Γ2 x)) (h2 : ∀ x, EX X T W Γx (Γ1 x) b tb (m2 x) (fun y => r (v2 x y)) (Γ3 x))
    (hΓ2 : ∀ x y, Γ2 x y = Γ := by exact fun _ _ => rfl) (hΓ3 : ∀ x y, Γ3 x y = Γ := by exact fun _ _ => rfl) :
    EX X T W Γx Γ (.IfExp c a b pos) (tIf tc ta tb) (mc.bind fun x => if bb x then (m1 x).bind fun y => .ok (v1 x y) else (m2 x).bind fun y => .ok (v2 x y)) r (fun _ => Γ) := by
  obtain ⟨x⟩ := ‹Nonempty α›
  refine ⟨pe_ifExp hc.pt (h1 x).pe (h2 x).pe, fun Z G0 S σ G H Q k q => hc.ev Z G0 S σ G H _ k (Res.wp_mono (Res.wp_bind q) (fun x q G' H' k' => ?_) fun _ z => z)⟩
  cases e : bb x with
  | true =>
    rw [if_pos rfl]
    simp only [e, if_true] at q
    refine (h1 x).ev Z G0 S σ G' H' Q k' (Res.wp_mono (Res.wp_bind q) (fun y q w G2 H2 k2 => ?_) fun _ z => z)
    rw [hΓ2] at k2
    exact q w G2 H2 k2
  | false =>
    rw [if_neg Bool.false_ne_true]
    simp only [e, Bool.false_eq_true, if_false] at q
    refine (h2 x).ev Z G0 S σ G' H' Q k' (Res.wp_mono (Res.wp_bind q) (fun y q w G2 H2 k2 => ?_) fun _ z => z)
    rw [hΓ3] at k2
    exact q w G2 H2 k2
/-- a op b op' c of whole numbers, none of which stops -/
theorem et_chain {op op' : CmpOp} {p p' : Int → Int → Bool} {a b c : Expr} {pos : Pos} {ta tb tc : TE} {α β γ : Type} [Nonempty α] [Nonempty β] {m1 : Res α} {m2 : α → Res β} {m3 : α → β → Res γ} {y : α → β → γ} {i : α → Int} {j : α → β → Int} {z : α → β → γ → Int} {Γ1 : α → Ctx} {Γ2 : α → β → Ctx} {Γ3 : α → β → γ → Ctx}
    (ho : OpR X (compareOp op) (rI0 fun i j => .bl (p i j))) (ho' : OpR X (compareOp op') (rI0 fun i j => .bl (p' i j)))
    (ha : EX X T W Γx Γ a ta m1 (fun x => sI (i x)) Γ1) (hb : ∀ x, EX X T W Γx (Γ1 x) b tb (m2 x) (fun y => sI (j x y)) (Γ2 x)) (hc : ∀ x w, EX X T W Γx (Γ2 x w) c tc (m3 x w) (fun u => sI (z x w u)) (Γ3 x w))
    (hy : ∀ x w, m3 x w = .ok (y x w) := by exact fun _ _ => rfl) (hΓ : ∀ x w u, Γ3 x w u = Γ2 x w := by exact fun _ _ _ => rfl) (hm : lastMarks [op, op'] [b, c] = false := by with_unfolding_all rfl) :
    ET X T W Γx Γ (.Compare a [op, op'] [b, c] pos) (tTest (tChain (rI0 fun i j => .bl (p i j)) (rI0 fun i j => .bl (p' i j)) ta tb tc)) (m1.bind fun x => (m2 x).bind fun w => .ok (x, w)) (fun t => p (i t.1) (j t.1 t.2) && p' (j t.1 t.2) (z t.1 t.2 (y t.1 t.2))) (fun t => Γ2 t.1 t.2) := by
  obtain ⟨x⟩ := ‹Nonempty α›
  obtain ⟨w⟩ := ‹Nonempty β›
  refine ⟨pt_chain ho ho' ha.pe (hb x).pe (hc x w).pe hm, fun Z G0 S σ G H Q k q => ha.ev Z G0 S σ G H _ k (Res.wp_mono (Res.wp_bind q) (fun x q v1 G1 H1 k1 => ?_) fun _ z => z)⟩
  refine (hb x).ev Z G0 _ σ G1 H1 _ k1 (Res.wp_mono (Res.wp_bind q) (fun w q v2 G2 H2 k2 => ?_) fun ex q cls d G' H' k' => q cls d G' H' k'.drop)
  refine ⟨_, _, k2.drop.tp, k2.tp, _, rfl, ?_⟩
  cases e : p (i x) (j x w) with
  | true =>
    rw [if_pos rfl]
    refine (hc x w).ev Z G0 _ σ G2 H2 _ k2 ?_
    rw [hy]
    intro v3 G3 H3 k3
    rw [hΓ] at k3
    refine ⟨_, _, k3.drop.tp, k3.tp, _, rfl, ?_⟩
    have q' := q G3 H3 k3.drop.drop.drop
    rw [e, Bool.true_and] at q'
    exact q'
  | false =>
    rw [if_neg Bool.false_ne_true]
    have q' := q G2 H2 k2.drop.drop
    rw [e, Bool.false_and] at q'
    exact ⟨_, rfl, q'⟩

/-! ### None -/
theorem o_isN {α : Type} {c : Cod α} {o : Option α} : OpOk (fun x y H Q => y = .non ∧ Q (.bl (decide (x = .non))) H) (fz (cOpt c) o) sN (.ok ()) (fun _ => sB o.isNone) :=
  ⟨fun Z G0 l G H v1 v2 Q k _ _ q => by
    obtain ⟨h1, h2⟩ := k.rels
    refine ⟨h2, q _ _ _ (k.drop.drop.push ?_)⟩
    cases o with
    | none => rw [show v1 = .non from h1]; rfl
    | some a => exact congrArg V.bl (decide_eq_false h1.2), ok_ne⟩
theorem o_notN {α : Type} {c : Cod α} {o : Option α} : OpOk (fun x y H Q => y = .non ∧ Q (.bl (!decide (x = .non))) H) (fz (cOpt c) o) sN (.ok ()) (fun _ => sB o.isSome) :=
  ⟨fun Z G0 l G H v1 v2 Q k _ _ q => by
    obtain ⟨h1, h2⟩ := k.rels
    refine ⟨h2, q _ _ _ (k.drop.drop.push ?_)⟩
    cases o with
    | none => rw [show v1 = .non from h1]; rfl
    | some a => exact congrArg V.bl (by rw [decide_eq_false h1.2]; rfl), ok_ne⟩

/-! ### isinstance -/
def cTy : Cod String := ⟨fun _ v n => v = .ty n, fun h _ => h⟩
theorem ex_ty {n : String} {x : Str} {pos : Pos} (hm : X.mg x = none) (hv : bootBuiltins x = some (.type n)) (hg : Gl X x := by rfl) (hn : x ≠ "__name__" := by decide) (hd : (x == ("__debug__" : Str)) = false := by decide) : EX X T W Γx Γ (.Name x pos) (tC (.ty n)) (.ok ()) (fun _ => fz cTy n) (fun _ => Γ) :=
  ex_c (pe_bltn hg hm hv rfl hn hd) fun _ => rfl
/-- the answer of isinstance(v, n) -/
def IsOf (K : PySem.W.Frag) {α : Type} (c : Cod α) (n : String) (b : α → Bool) : Prop := ∀ G H v a, Ex G H → c.rel G v a → ∃ t, TyX K H v t ∧ PySem.W.kitOne K t (.type n) = some (b a)
theorem isOf_int {n : String} {b : Bool} (h : kitB "int" n = some b) : IsOf K cInt n (fun _ => b) := fun G H v a e r => by
  cases (show v = .int a from r)
  exact ⟨_, .base (.int a), kit_ty h⟩
theorem isOf_bool {n : String} {b : Bool} (h : kitB "bool" n = some b) : IsOf K cBool n (fun _ => b) := fun G H v a e r => by
  cases (show v = .bl a from r)
  exact ⟨_, .base (.bl a), kit_ty h⟩
theorem isOf_tx {n : String} {b : Bool} (h : kitB "str" n = some b) : IsOf K cTx n (fun _ => b) := fun G H v a e r => by
  cases (show v = sv a from r.1)
  exact ⟨_, .base (.str _), kit_ty h⟩
theorem isOf_list {α : Type} {c : Cod α} {n : String} {b : Bool} (h : kitB "list" n = some b) : IsOf K (cList c) n (fun _ => b) := fun G H v a e r => by
  obtain ⟨p, vs, rfl, hs, _⟩ := r
  exact ⟨_, .base (.lst (e p _ hs)), kit_ty h⟩
theorem isOf_tup {α : Type} {d : Cods α} {n : String} {b : Bool} (h : kitB "tuple" n = some b) : IsOf K (cTup K d) n (fun _ => b) := fun G H v a e r => by
  obtain ⟨p, vs, rfl, hs, _⟩ := r
  rcases Evl.ex_t e hs with (h1 | ⟨o, h1⟩) | ⟨o, its, m, h1, h2, _⟩
  · exact ⟨_, .base (.tup h1), kit_ty h⟩
  · exact ⟨_, .fTuple h1, kit_ty h⟩
  · exact ⟨_, .kTuple h1 h2, kit_ty h⟩
theorem isOf_opt {α : Type} {c : Cod α} {n : String} {b0 : Bool} {b : α → Bool} (h0 : kitB "NoneType" n = some b0) (h : IsOf K c n b) : IsOf K (cOpt c) n (fun o => match o with | none => b0 | some a => b a) := fun G H v o e r => by
  cases o with
  | none =>
    cases (show v = .non from r)
    exact ⟨_, .base .non, kit_ty h0⟩
  | some a => exact h G H v a e r.1
theorem b_isi {α : Type} {c : Cod α} {n : String} {a : α} {b : α → Bool} (h : IsOf K c n b) : CallOk (rIsi K) [fz c a, fz cTy n] (.ok ()) (fun _ => sB (b a)) := co2 (f := fun _ => b a) ok_ne fun G H v w Q e r r' z _ q => by
  obtain ⟨t, h1, h2⟩ := h G H v a e r
  cases (show w = .ty n from r')
  exact ⟨v, .ty n, t, .type n, b a, rfl, .ty n, h1, h2, q _ rfl⟩

/-! ### slices -/
structure EO (X : Cx) (T : XT) (W : WX) (Γx Γ : Ctx) (e : Option Expr) (to : TO) {α : Type} (m : Res α) (o : α → Option Int) (Γo : α → Ctx) : Prop where
  po : PO X e to
  ev : ∀ (Z G0 : Hp) (S : List Pl) (σ : St) (G H : Hp) (Q : Option Int → Hp → Prop), Okc Z G0 S Γ σ G H →
    m.wp (fun a => ∀ G' H', Okc Z G0 S (Γo a) σ G' H' → Q (o a) H') (fun ex => ∀ cls d G' H', Okc Z G0 S Γx σ G' H' → T.rel ex cls d G' → W cls d σ H') → to σ H Q
theorem eo_none : EO X T W Γx Γ none tNoPart (.ok ()) (fun _ => none) (fun _ => Γ) := ⟨po_none, fun _ _ _ _ G H _ k q => q G H k⟩
theorem eo_some {e : Expr} {te : TE} {α : Type} {m : Res α} {i : α → Int} {Γo : α → Ctx} (h : EX X T W Γx Γ e te m (fun a => sI (i a)) Γo) : EO X T W Γx Γ (some e) (tPart te) m (fun a => some (i a)) Γo :=
  ⟨po_some h.pe, fun Z G0 S σ G H Q k q => h.ev Z G0 S σ G H _ k (Res.wp_mono q (fun a q v G' H' k' => ⟨i a, k'.tp, q G' H' k'.drop⟩) fun _ z => z)⟩
/-- what a slice of a value is -/
def SlOk (r : V → Option Int → Option Int → Hp → VK → Prop) (s : Sl) (lo hi : Option Int) (R : Sl) : Prop := ∀ (Z G0 : Hp) (l : List Pl) (G H : Hp) (v : V) (Q : VK), Okl Z G0 ((some s, some v) :: l) G H → (∀ v G' H', Okl Z G0 ((some R, some v) :: l) G' H' → Q v H') → r v lo hi H Q
theorem ex_slice {r : V → Option Int → Option Int → Hp → VK → Prop} {e : Expr} {lo hi : Option Expr} {te : TE} {tl th : TO} {pos p2 : Pos} {α β γ : Type} [Nonempty α] [Nonempty β] {m1 : Res α} {R1 : α → Sl} {Γ1 : α → Ctx} {m2 : α → Res β} {o2 : α → β → Option Int} {Γ2 : α → β → Ctx} {m3 : α → β → Res γ} {o3 : α → β → γ → Option Int} {Γ3 : α → β → γ → Ctx} {R3 : α → β → γ → Sl}
    (hr : SlR X r) (he : EX X T W Γx Γ e te m1 R1 Γ1) (hl : ∀ x, EO X T W Γx (Γ1 x) lo tl (m2 x) (o2 x) (Γ2 x)) (hh : ∀ x y, EO X T W Γx (Γ2 x y) hi th (m3 x y) (o3 x y) (Γ3 x y)) (hs : ∀ x y z, SlOk r (R1 x) (o2 x y) (o3 x y z) (R3 x y z)) :
    EX X T W Γx Γ (.Subscript e (.Slice lo hi none p2) pos) (tSl r te tl th) (m1.bind fun x => (m2 x).bind fun y => (m3 x y).bind fun z => .ok (x, y, z)) (fun t => R3 t.1 t.2.1 t.2.2) (fun t => Γ3 t.1 t.2.1 t.2.2) := by
  obtain ⟨x⟩ := ‹Nonempty α›
  obtain ⟨y⟩ := ‹Nonempty β›
  refine ⟨pe_slice hr he.pe (hl x).po (hh x y).po, fun Z G0 S σ G H Q k q => he.ev Z G0 S σ G H _ k (Res.wp_mono (Res.wp_bind q) (fun x q v1 G1 H1 k1 => ?_) fun _ z => z)⟩
  refine (hl x).ev Z G0 _ σ G1 H1 _ k1 (Res.wp_mono (Res.wp_bind q) (fun y q G2 H2 k2 => ?_) fun ex q cls d G' H' k' => q cls d G' H' k'.drop)
  refine (hh x y).ev Z G0 _ σ G2 H2 _ k2 (Res.wp_mono (Res.wp_bind q) (fun z q G3 H3 k3 => ?_) fun ex q cls d G' H' k' => q cls d G' H' k'.drop)
  exact hs x y z Z G0 _ G3 H3 v1 Q k3.ok fun v G' H' k' => q v G' H' ⟨k3.len, k'⟩
theorem paired_drop {α : Type} {F : V → α → Prop} : ∀ {vs : List V} {xs : List α} (n : Nat), Paired F vs xs → Paired F (vs.drop n) (xs.drop n)
  | _, _, 0, r => r
  | _, _, _ + 1, .nil => .nil
  | _, _, n + 1, .cons _ t => paired_drop n t
theorem paired_take {α : Type} {F : V → α → Prop} : ∀ {vs : List V} {xs : List α} (n : Nat), Paired F vs xs → Paired F (vs.take n) (xs.take n)
  | _, _, 0, _ => .nil
  | _, _, _ + 1, .nil => .nil
  | _, _, n + 1, .cons r t => .cons r (paired_take n t)
theorem sIx_eq (n d : Nat) (o : Option Int) : HT.sIx n d o = R.sIx n d o := by cases o <;> rfl
theorem cut_eq {α : Type} {F : V → α → Prop} {vs : List V} {xs : List α} (h : Paired F vs xs) (lo hi : Option Int) : Paired F (cutV vs lo hi) (R.cut xs lo hi) := by
  unfold cutV R.cut
  rw [h.length, sIx_eq, sIx_eq]
  exact paired_take _ (paired_drop _ h)
theorem sl_l {α : Type} {c : Cod α} {xs : List α} {lo hi : Option Int} : SlOk (rSlL K) (fz (cList c) xs) lo hi (ol c (R.cut xs lo hi)) := fun Z G0 l G H v Q k q => by
  obtain ⟨p, vs, rfl, hs, hp⟩ := k.rel1
  exact ⟨p, vs, rfl, cl_sq k.gh hs, fun a ha => q _ _ _ (k.drop.layOwn (s := ol c (R.cut xs lo hi)) ha ⟨a, _, rfl, rfl, upd_same, cut_eq hp lo hi⟩)⟩
theorem cut_len {α : Type} (xs : List α) (lo hi : Option Int) : (R.cut xs lo hi).length ≤ xs.length := by
  unfold R.cut
  rw [List.length_take, List.length_drop]
  omega
theorem sl_s {t : Tx} {lo hi : Option Int} : SlOk rSlS (sT t) lo hi (sT (R.cut t lo hi)) := fun Z G0 l G H v Q k q => by
  obtain ⟨rfl, hl⟩ := k.rel1
  refine ⟨_, rfl, by rw [sv_len, ← line_eq]; exact hl, q _ _ _ (k.drop.push ⟨?_, Nat.le_trans (cut_len t lo hi) hl⟩)⟩
  show V.str (cutS ⟨t.toArray⟩ lo hi) = V.str ⟨(R.cut t lo hi).toArray⟩
  unfold cutS R.cut
  rw [sv_len, sIx_eq, sIx_eq]

/-! ### texts and lists that are put together -/
theorem o_addS {a b : Tx} : OpOk (fun x y H Q => ∃ i j, x = .str i ∧ y = .str j ∧ i.length + j.length ≤ sizeLine ∧ Q (.str (i ++ j)) H) (sT a) (sT b) (R.cat a b) (fun t => sT t) :=
  ⟨fun Z G0 l G H v1 v2 Q k t e q => by
    obtain ⟨⟨rfl, h1⟩, rfl, h2⟩ := k.rels
    obtain ⟨h3, h4⟩ := chk_ok e
    cases h4
    have h3 := of_decide_eq_true h3
    refine ⟨_, _, rfl, rfl, by rw [sv_len, sv_len, ← line_eq]; exact h3, q _ _ _ (k.drop.drop.push ⟨?_, ?_⟩)⟩
    · show V.str _ = V.str _
      congr 1
      show Str.append _ _ = _
      unfold Str.append
      simp
    · rw [List.length_append]
      exact h3, chk_ne ok_ne⟩
/-- where a list stands -/
structure IsL (s : Sl) {α : Type} (c : Cod α) (xs : List α) : Prop where
  at_ : ∀ Z G0 l G H v, Okl Z G0 ((some s, some v) :: l) G H → ∃ p vs, v = .ref p ∧ H p = some (.lst vs) ∧ Paired (c.rel G) vs xs
theorem isL_o {α : Type} {c : Cod α} {xs : List α} : IsL (ol c xs) c xs := ⟨fun Z G0 l G H v k => by
  obtain ⟨p, vs, e, h1, h2, _⟩ := ol_own k
  exact ⟨p, vs, e, h1, h2⟩⟩
theorem isL_f {α : Type} {c : Cod α} {xs : List α} : IsL (fz (cList c) xs) c xs := ⟨fun Z G0 l G H v k => by
  obtain ⟨p, vs, e, h1, h2⟩ := k.rel1
  exact ⟨p, vs, e, k.gh p _ h1, h2⟩⟩
theorem paired_app {α : Type} {F : V → α → Prop} {vs vs' : List V} {xs xs' : List α} (h : Paired F vs xs) (h' : Paired F vs' xs') : Paired F (vs ++ vs') (xs ++ xs') := by
  induction h with
  | nil => exact h'
  | cons r _ ih => exact .cons r ih
/-- xs * k -/
theorem o_rep {α : Type} {c : Cod α} {xs : List α} {k : Int} {s1 : Sl} (i1 : IsL s1 c xs) : OpOk rRep s1 (sI k) (R.rep xs k) (fun zs => ol c zs) :=
  ⟨fun Z G0 l G H v1 v2 Q kk zs e q => by
    obtain ⟨h3, h4⟩ := chk_ok e
    cases h4
    simp only [Bool.and_eq_true, decide_eq_true_eq] at h3
    obtain ⟨b1, b2, b3⟩ := h3
    obtain ⟨p1, vs1, rfl, e1, hp1⟩ := i1.at_ _ _ _ _ _ _ kk.drop
    have hk : v2 = .int k := kk.rel1
    subst hk
    refine ⟨p1, k, vs1, rfl, rfl, e1, b1, b2, by rw [hp1.length, ← line_eq]; exact b3, fun p hp => q (.ref p) G _ ?_⟩
    refine kk.drop.drop.layOwn (s := ol c (List.replicate k.toNat xs).flatten) hp ⟨p, _, rfl, rfl, upd_same, ?_⟩
    generalize k.toNat = n
    induction n with
    | zero => exact .nil
    | succ n ih =>
      rw [List.replicate_succ, List.flatten_cons, List.replicate_succ, List.flatten_cons]
      exact paired_app hp1 ih, chk_ne ok_ne⟩
/-- xs + ys -/
theorem o_cat {α : Type} {c : Cod α} {xs ys : List α} {s1 s2 : Sl} (i1 : IsL s1 c xs) (i2 : IsL s2 c ys) : OpOk rCat s1 s2 (R.cat xs ys) (fun zs => ol c zs) :=
  ⟨fun Z G0 l G H v1 v2 Q k zs e q => by
    obtain ⟨h3, h4⟩ := chk_ok e
    cases h4
    have h3 := of_decide_eq_true h3
    obtain ⟨p2, vs2, rfl, e2, hp2⟩ := i2.at_ _ _ _ _ _ _ k
    obtain ⟨p1, vs1, rfl, e1, hp1⟩ := i1.at_ _ _ _ _ _ _ k.drop
    refine ⟨p1, p2, vs1, vs2, rfl, rfl, e1, e2, by rw [hp1.length, hp2.length, ← line_eq]; exact h3, fun p hp => q (.ref p) G _ ?_⟩
    exact k.drop.drop.layOwn (s := ol c (xs ++ ys)) hp ⟨p, _, rfl, rfl, upd_same, paired_app hp1 hp2⟩, chk_ne ok_ne⟩
end
end Rt
/-! Rt9: defs as they are known, what is moved, the law's end. -/
namespace Rt
open PySem L2 R
/-- a def that is known: its name, its promise -/
def Kn (P : Program) (w : World) (K : PySem.W.Frag) (mg : Str → Option Value) (base : Heap) (k : Nat) (x : Str) (ps : List Str) (sp : Sp) : Prop :=
  ∃ (f : Addr) (fd : FuncData), mg x = some (.ref f) ∧ PySem.W.keepIn K (.ref f) = true ∧ Binds K fd ps [] ∧ FnOk P w K mg base (L2.CX P w) k f fd ps sp
/-- a def as the top has left it -/
def Dn (K : PySem.W.Frag) (mg : Str → Option Value) (x qual : Str) (st : Stmt) (ps : List Str) : Prop := ∃ (f : Addr) (fd : FuncData), mg x = some (.ref f) ∧ Fun K x qual st f fd ∧ Binds K fd ps []
section
variable {P : Program} {w : World} {K : PySem.W.Frag} {mg : Str → Option Value} {base : Heap}
theorem kn_of {x qual : Str} {st : Stmt} {ps : List Str} {k : Nat} {sp : Sp} (D : Dn K mg x qual st ps) (h : ∀ f fd, Fun K x qual st f fd → FnOk P w K mg base (L2.CX P w) k f fd ps sp) : Kn P w K mg base k x ps sp := by
  obtain ⟨f, fd, h1, h2, h3⟩ := D
  exact ⟨f, fd, h1, h2.kp, h3, h f fd h2⟩
end
section
variable {X : Cx} {T : XT} {W : WX} {Γx Γ : Ctx} {K : PySem.W.Frag}
theorem ex_callK {ξ β α : Type} {n : Nat} {A : ξ → List (Option Sl)} {f : ξ → Res β} {R : β → Sl} {k j : Nat} {ps : List Str} {x : Str} {p pos : Pos} {e : Expr} {es : List Expr} {ta : TA} {m1 : Res α} {Rs : α → List Sl} {Γ1 : α → Ctx} {a : α → ξ}
    (kn : Kn X.prog X.w X.K X.mg X.base k x ps (spM n T A f R)) (hr : Room j X.A) (tk : Takes X W) (hn : ∀ x, (A x).length = n) (ha : AX X T W Γx Γ (e :: es) ta m1 Rs Γ1) (hx : ∀ t, ArgOf A (Rs t) (a t)) (hw : ∀ t, Wk (Γ1 t) Γx) (hj : k ≤ j := by decide)
    (hg : Gl X x := by rfl) (hdb : (x == ("__debug__" : Str)) = false := by decide) (he : starEach (e :: es) X.env = (false, eval e X.env) :: starEach es X.env := by rfl) (hpl : (backTo pos (starEach es X.env)).any (·.1) = false := by rfl) :
    EX X T W Γx Γ (.Call (.Name x p) (e :: es) [] pos) (tCallS (spM n T A f R) (WE W) ta) (m1.bind fun t => (f (a t)).bind fun r => .ok (t, r)) (fun t => R t.2) (fun t => Γ1 t.1) := by
  obtain ⟨fa, fd, h1, h2, h3, F⟩ := kn
  exact ex_call F (hr.mono hj) h1 h2 h3 tk hn ha hx hw hg hdb he hpl
/-- a name whose slot is moved off -/
theorem ex_mv {s : Sl} (i : Nat) {x : Str} {pos : Pos} (h : Γ[i]? = some (some s) := by rfl) (hN : X.N[i]? = some x := by rfl) (hv : Vis X.env.scope x := by first | exact Or.inl rfl | exact Or.inr (Or.inl rfl) | exact Or.inr (Or.inr rfl)) (hd : (x == ("__debug__" : Str)) = false := by decide)
    (hcd : (x == ("__classdict__" : Str)) = false := by decide) : EX X T W Γx Γ (.Name x pos) (tVar i) (.ok ()) (fun _ => s) (fun _ => Γ.set i none) := by
  refine ⟨pv i hN hv hd hcd, fun Z G0 S σ G H Q k q => ?_⟩
  obtain ⟨w, hw, hz⟩ := zip_get k.len h
  have p1 := perm_at hz
  have p2 := perm_set (y := (none, w)) hz
  have k1 : Okl Z G0 ((some s, w) :: (S ++ (Γ.zip σ).eraseIdx i)) G H := k.ok.perm ((p1.append_left S).trans mid)
  obtain ⟨ps, ⟨_, _, _, ⟨v, e1, _⟩, _⟩, _, _⟩ := k1.own
  subst e1
  refine ⟨v, hw, q v G H ⟨by rw [List.length_set]; exact k.len, ?_⟩⟩
  have e : σ = σ.set i (some v) := by
    refine List.ext_getElem? fun j => ?_
    rw [List.getElem?_set]
    by_cases q : i = j
    · subst q
      rw [if_pos rfl, if_pos (List.getElem?_eq_some_iff.mp hw).1, hw]
    · rw [if_neg q]
  have z := zip_set (Γ := Γ) (σ := σ) (i := i) (o := none) (w := some v)
  rw [← e] at z
  rw [z]
  have k2 : Okl Z G0 ((none, some v) :: (some s, some v) :: (S ++ (Γ.zip σ).eraseIdx i)) G H := k1.noneOn
  refine k2.perm ?_
  refine (List.Perm.swap _ _ _).trans (List.Perm.cons _ ?_)
  exact mid.symm.trans (p2.symm.append_left S)
/-- if c: A (leaves); the rest may go on -/
theorem sx_ifretC {c : Expr} {tc : TT} {A rest : List Stmt} {pos : Pos} {tA tr : TS} {α δ β : Type} {me : Res α} {mn : Res Bool} {b : α → Bool} {Γt : α → Ctx} {mA : Res δ} {mr : Res β} {IA : δ → Out} {I : β → Out} {j : δ → β} (hc : ET X T W Γx Γ c tc me b Γt)
    (hA : SX X T W Γx Γ A tA mA IA) (hr : SX X T W Γx Γ rest tr mr I) (hj : ∀ a, I (j a) = IA a := by exact fun _ => rfl) (hΓ : ∀ t, Γt t = Γ := by exact fun _ => rfl) (hI : ∀ a D N Z G0 S, (IA a).go D Z G0 S → (IA a).go { D with nx := N } Z G0 S := by exact fun _ _ _ _ _ _ z => z) (hb : Bd mn me (fun t => .ok (b t)) := by intros; repeat (first | ((with_reducible refine Bd.done ?_); exact rfl) | with_reducible refine Bd.okl ?_ | with_reducible refine Bd.assoc ?_ | with_reducible refine Bd.bind fun _ => ?_ | with_reducible refine Bd.eta fun _ => ?_ | with_reducible refine Bd.iteB ?_ ?_ fun _ => ?_ | with_reducible refine Bd.iteE ?_ ?_ fun _ => ?_ | with_reducible refine Bd.ite ?_ ?_ | with_reducible refine Bd.iteL ?_ ?_ | with_reducible refine Bd.assocL ?_ | with_reducible refine Bd.oklL ?_ | with_reducible exact Bd.same | with_reducible exact Bd.at | dsimp only)) :
    SX X T W Γx Γ (.If c A [] pos :: rest) (tSeq (tIfS tc tA tNext) tr) (mn.bind fun v => if v then mA.bind fun a => .ok (j a) else mr) I := by
  refine ⟨pss_cons (ps_if hc.pt hA.ps pss_nil) hr.ps, fun Z G0 S σ G H D k q => ?_⟩
  refine if_ev (DA := fun D => { D with nx := tr D }) (mn := mn) (f := b) (b' := id) (Γ' := fun _ => Γ) (mA := fun _ => mA.bind fun a => .ok (j a)) (mB := fun _ => mr) hc (fun _ => rfl) hΓ (fun v Z G0 S σ G H D k q => ?_) (fun v Z G0 S σ G H D k q => hr.ev Z G0 S σ G H D k q) hb Z G0 S σ G H D k q
  refine hA.ev Z G0 S σ G H _ k (Res.wp_mono (Res.wp_bind q) (fun a z => hI a _ _ _ _ _ ?_) fun _ z => z)
  have z' : (I (j a)).go D Z G0 S := z
  rw [hj] at z'
  exact z'
theorem sx_ifretCp {c : Expr} {tc : TT} {A rest : List Stmt} {pos : Pos} {tA tr : TS} {α δ β : Type} {me : Res α} {bn : Bool} {b : α → Bool} {Γt : α → Ctx} {mA : Res δ} {mr : Res β} {IA : δ → Out} {I : β → Out} {j : δ → β} (hc : ET X T W Γx Γ c tc me b Γt)
    (hA : SX X T W Γx Γ A tA mA IA) (hr : SX X T W Γx Γ rest tr mr I) (hj : ∀ a, I (j a) = IA a := by exact fun _ => rfl) (hΓ : ∀ t, Γt t = Γ := by exact fun _ => rfl) (hI : ∀ a D N Z G0 S, (IA a).go D Z G0 S → (IA a).go { D with nx := N } Z G0 S := by exact fun _ _ _ _ _ _ z => z) (hb : Bd (.ok bn) me (fun t => .ok (b t)) := by intros; repeat (first | ((with_reducible refine Bd.done ?_); exact rfl) | with_reducible refine Bd.okl ?_ | with_reducible refine Bd.assoc ?_ | with_reducible refine Bd.bind fun _ => ?_ | with_reducible refine Bd.eta fun _ => ?_ | with_reducible refine Bd.iteB ?_ ?_ fun _ => ?_ | with_reducible refine Bd.iteE ?_ ?_ fun _ => ?_ | with_reducible refine Bd.ite ?_ ?_ | with_reducible refine Bd.iteL ?_ ?_ | with_reducible refine Bd.assocL ?_ | with_reducible refine Bd.oklL ?_ | with_reducible exact Bd.same | with_reducible exact Bd.at | dsimp only)) :
    SX X T W Γx Γ (.If c A [] pos :: rest) (tSeq (tIfS tc tA tNext) tr) (if bn then mA.bind fun a => .ok (j a) else mr) I := sx_ifretC (mn := .ok bn) hc hA hr hj hΓ hI hb
/-- a block that leaves, as one that may go on -/
theorem SX.toC {sts : List Stmt} {ts : TS} {δ β : Type} {m : Res δ} {IA : δ → Out} {I : β → Out} {j : δ → β} (h : SX X T W Γx Γ sts ts m IA) (hj : ∀ a, I (j a) = IA a := by exact fun _ => rfl) : SX X T W Γx Γ sts ts (m.bind fun a => .ok (j a)) I :=
  ⟨h.ps, fun Z G0 S σ G H D k q => h.ev Z G0 S σ G H D k (Res.wp_mono (Res.wp_bind q) (fun a z => by
    have z' : (I (j a)).go D Z G0 S := z
    rw [hj] at z'
    exact z') fun _ z => z)⟩
/-- a for over what stops nowhere ahead of the walk -/
theorem wk_rep {n : Nat} (h : Γ.length = n) : Wk Γ (List.replicate n none) := Wk.nones h
end
/-! the law's end -/
section
variable {K : PySem.W.Frag} {T : XT}
theorem law_sp {f : List Int → Res Bool} {ns : List Int} (h : f ns = .ok true) {H : Hp} {a : Addr} (hS : SqL K H a (ns.map V.int)) : spM 1 T (aCons (fz (cSq K cInt)) aNil) (fun x => f x.1) (fz cBool) [.ref a] H (fun v _ => v = .bl true) fun _ _ _ => False := by
  refine ⟨(ns, ()), H, H, H, rfl, rfl, ⟨Evl.Ex.refl H, Evl.Ex.refl H, Evl.Ex.refl H, fun _ _ _ _ e => e, [], ⟨[], [], rfl, ⟨.ref a, rfl, ⟨a, _, rfl, hS, ?_⟩, rfl⟩, rfl⟩, List.nodup_nil, fun p hp => by cases hp⟩, ?_⟩
  · have go : ∀ l : List Int, Paired (cInt.rel H) (l.map V.int) l := fun l => by
      induction l with
      | nil => exact .nil
      | cons n r ih => exact .cons rfl ih
    exact go ns
  · show (f ns).wp _ _
    rw [h]
    intro v G' H' k
    exact k.rel1
end
end Rt
/-! Rt10: stores, == of data, texts of numbers. -/
namespace Rt
open PySem L2 R
section
variable {X : Cx} {T : XT} {W : WX} {Γx Γ : Ctx} {K : PySem.W.Frag}
/-! ### what is not None -/
theorem nn_int (G : Hp) (v : V) (b : Int) (h : cInt.rel G v b) : v ≠ .non := fun z => by
  rw [show v = .int b from h] at z
  cases z
theorem nn_bool (G : Hp) (v : V) (b : Bool) (h : cBool.rel G v b) : v ≠ .non := fun z => by
  rw [show v = .bl b from h] at z
  cases z
theorem nn_tx (G : Hp) (v : V) (b : Tx) (h : cTx.rel G v b) : v ≠ .non := fun z => by
  rw [show v = sv b from h.1] at z
  cases z
theorem nn_list {α : Type} {c : Cod α} (G : Hp) (v : V) (b : List α) (h : (cList c).rel G v b) : v ≠ .non := fun z => by
  obtain ⟨p, vs, e, _⟩ := h
  rw [e] at z
  cases z
theorem nn_tup {α : Type} {d : Cods α} (G : Hp) (v : V) (b : α) (h : (cTup K d).rel G v b) : v ≠ .non := fun z => by
  obtain ⟨p, vs, e, _⟩ := h
  rw [e] at z
  cases z
/-! ### an owned list at a slot is read -/
theorem ex_ixO (i : Nat) {β γ : Type} {c : Cod γ} {xs : List γ} {x : Str} {e2 : Expr} {p1 pos : Pos} {tb : TE} {m2 : Res β} {k : β → Int} {Rk : β → Sl} {Γo : β → Ctx} (hb : EX X T W Γx Γ e2 tb m2 Rk Γo) (hRk : ∀ t, Rk t = sI (k t) := by exact fun _ => rfl) (hΓo : ∀ t, Γo t = Γ := by exact fun _ => rfl) (h : Γ[i]? = some (some (ol c xs)) := by rfl) (hN : X.N[i]? = some x := by rfl)
    (hv : Vis X.env.scope x := by first | exact Or.inl rfl | exact Or.inr (Or.inl rfl) | exact Or.inr (Or.inr rfl)) (hs : PlainIx e2 := by exact fun _ _ => rfl) (hK : X.K = K := by rfl) (hd : (x == ("__debug__" : Str)) = false := by decide) (hcd : (x == ("__classdict__" : Str)) = false := by decide) :
    EX X T W Γx Γ (.Subscript (.Name x p1) e2 pos) (tOp (rIxL K) (tVar i) tb) (m2.bind fun y => (R.idx xs (k y)).bind fun z => .ok (y, z)) (fun t => fz c t.2) (fun _ => Γ) := by
  subst hK
  obtain rfl : Rk = fun t => sI (k t) := funext hRk
  obtain rfl : Γo = fun _ => Γ := funext hΓo
  refine ⟨pe_ix L2.ix_list (pv i hN hv hd hcd) hb.pe hs, fun Z G0 S σ G H Q kk q => ?_⟩
  obtain ⟨v, l, hw, k1, _⟩ := kk.take h
  refine ⟨v, hw, ?_⟩
  refine hb.ev Z G0 S σ G H _ kk (Res.wp_mono (Res.wp_bind q) (fun y q w G' H' k' => ?_) fun _ z => z)
  obtain ⟨z, e, q3⟩ := wp_cases (Res.wp_bind q) idx_ne
  obtain ⟨v', l', hw', k2, _⟩ := k'.drop.take h
  rw [hw] at hw'
  cases hw'
  obtain ⟨p, vs, rfl, h3, hp, _⟩ := ol_own k2
  obtain ⟨u, hu, hr⟩ := atI_rel hp (idx_ok e)
  exact ⟨p, vs, k y, u, rfl, k'.tp, SqL.of h3, hu, q3 u G' H' (k'.drop.pushf hr)⟩
theorem ex_lenO (i : Nat) {γ : Type} {c : Cod γ} {xs : List γ} {x : Str} {p p1 pos : Pos} (hm : X.mg "len" = none) (h : Γ[i]? = some (some (ol c xs)) := by rfl) (hN : X.N[i]? = some x := by rfl)
    (hv : Vis X.env.scope x := by first | exact Or.inl rfl | exact Or.inr (Or.inl rfl) | exact Or.inr (Or.inr rfl)) (hK : X.K = K := by rfl) (hg : Gl X "len" := by rfl) (hd : (x == ("__debug__" : Str)) = false := by decide) (hcd : (x == ("__classdict__" : Str)) = false := by decide)
    (hs : starEach (.Name x p1 :: []) X.env = (false, eval (.Name x p1) X.env) :: starEach [] X.env := by rfl) (hpl : (backTo pos (starEach [] X.env)).any (·.1) = false := by rfl) :
    EX X T W Γx Γ (.Call (.Name "len" p) [.Name x p1] [] pos) (tCB (rLen K) (tCons (tVar i) tNil)) (.ok ()) (fun _ => sI (xs.length : Int)) (fun _ => Γ) := by
  subst hK
  refine ⟨pe_callB call_len_seq hg hm PySem.boot_len (pa_cons (pv i hN hv hd hcd) pa_nil hs) (by decide) (by decide) hs hpl, fun Z G0 S σ G H Q k q => ?_⟩
  obtain ⟨v, l, hw, k1, _⟩ := k.take h
  obtain ⟨p, vs, rfl, h3, hp, _⟩ := ol_own k1
  exact ⟨_, hw, p, vs, rfl, .inl (SqL.of h3), q _ G H (k.pushf (c := cInt) (by show V.int _ = V.int _; rw [hp.length]))⟩
/-! ### stores -/
theorem ixN_lt {n : Nat} {i : Int} {j : Nat} (h : R.ixN n i = some j) : L2.ixN n i = some j := h
theorem paired_set {α : Type} {F : V → α → Prop} : ∀ {vs : List V} {xs : List α} {j : Nat} {v : V} {a : α}, Paired F vs xs → F v a → Paired F (vs.set j v) (xs.set j a)
  | _, _, _, _, _, .nil, _ => .nil
  | _, _, 0, _, _, .cons _ t, h => .cons h t
  | _, _, _ + 1, _, _, .cons r t, h => .cons r (paired_set t h)
theorem setI_ne {α : Type} {xs : List α} {i : Int} {a : α} : ∀ e, R.setI xs i a ≠ .exn e := fun e z => by
  unfold R.setI at z
  cases q : R.ixN xs.length i with
  | none => rw [q] at z; cases z
  | some v => rw [q] at z; cases z
theorem s1_setI {i : Nat} {x : Str} {e e2 : Expr} {te ti : TE} {p1 p2 pos : Pos} {α β γ : Type} [Nonempty α] {c : Cod γ} {m1 : Res α} {Rm : α → Sl} {a : α → γ} {m2 : α → Res β} {Rk : α → β → Sl} {Γo : α → Ctx} {Γk : α → β → Ctx} {k : α → β → Int} {xs : List γ} {mn : Res (List γ)} (he : EX X T W Γx Γ e te m1 Rm Γo) (hi : ∀ t, EX X T W Γx (Γo t) e2 ti (m2 t) (Rk t) (Γk t)) (hR : ∀ t, Rm t = fz c (a t) := by exact fun _ => rfl) (hRk : ∀ t u, Rk t u = sI (k t u) := by exact fun _ _ => rfl) (hΓo : ∀ t, Γo t = Γ := by exact fun _ => rfl) (hΓk : ∀ t u, Γk t u = Γ := by exact fun _ _ => rfl)
    (h : Γ[i]? = some (some (ol c xs)) := by rfl) (hN : X.N[i]? = some x := by rfl) (hv : Vis X.env.scope x := by first | exact Or.inl rfl | exact Or.inr (Or.inl rfl) | exact Or.inr (Or.inr rfl)) (hb : Bd mn (m1.bind fun t => (m2 t).bind fun u => (R.setI xs (k t u) (a t)).bind fun ys => .ok (t, u, ys)) (fun t => .ok t.2.2) := by intros; repeat (first | ((with_reducible refine Bd.done ?_); exact rfl) | with_reducible refine Bd.okl ?_ | with_reducible refine Bd.assoc ?_ | with_reducible refine Bd.bind fun _ => ?_ | with_reducible refine Bd.eta fun _ => ?_ | with_reducible refine Bd.iteB ?_ ?_ fun _ => ?_ | with_reducible refine Bd.iteE ?_ ?_ fun _ => ?_ | with_reducible refine Bd.ite ?_ ?_ | with_reducible refine Bd.iteL ?_ ?_ | with_reducible refine Bd.assocL ?_ | with_reducible refine Bd.oklL ?_ | with_reducible exact Bd.same | with_reducible exact Bd.at | dsimp only))
    (hd : (x == ("__debug__" : Str)) = false := by decide) (hcd : (x == ("__classdict__" : Str)) = false := by decide) (hpg : ∀ {to ti : TE}, PE X (.Name x p1) to → PE X e2 ti → PG X (.Subscript (.Name x p1) e2 p2) (gSub to ti rSetL) := by exact fun h1 h2 => pg_sub h1 h2 set_list)
    (hs : swapsWithSole [.Subscript (.Name x p1) e2 p2] e pos.line X.env = pure false := by rfl) (hw : swappedStores [.Subscript (.Name x p1) e2 p2] e X.env = pure none := by rfl) :
    S1 X T W Γx Γ (.Assign [.Subscript (.Name x p1) e2 p2] e pos) (tAsg te (gSub (tVar i) ti rSetL)) mn (fun ys => .nx (Γ.set i (some (ol c ys)))) := by
  obtain rfl : Rm = fun t => fz c (a t) := funext hR
  obtain rfl : Rk = fun t u => sI (k t u) := funext fun t => funext (hRk t)
  obtain rfl : Γo = fun _ => Γ := funext hΓo
  obtain rfl : Γk = fun _ _ => Γ := funext fun t => funext (hΓk t)
  obtain ⟨t0⟩ := ‹Nonempty α›
  refine ⟨ps_asg he.pe (hpg (pv i hN hv hd hcd) (hi t0).pe) hs hw, fun Z G0 S σ G H D kk q => ?_⟩
  refine he.ev Z G0 S σ G H _ kk (Res.wp_mono (Res.wp_bind (hb _ _ q)) (fun t q y G1 H1 k1 => ?_) fun ex q cls d G' H' k' => q cls d σ G' H' k')
  obtain ⟨v, l, hw, k2, _⟩ := k1.drop.take h
  refine ⟨v, hw, ?_⟩
  refine (hi t).ev Z G0 _ σ G1 H1 _ k1 (Res.wp_mono (Res.wp_bind q) (fun u q w G2 H2 k3 => ?_) fun ex q cls d G' H' k' => q cls d σ G' H' k'.drop)
  obtain ⟨ys, e, q3⟩ := wp_cases (Res.wp_bind q) setI_ne
  have hk := k3.tp
  have hy := k3.drop.tp
  obtain ⟨v', l', hw', k4, back⟩ := k3.drop.drop.take h
  rw [hw] at hw'
  cases hw'
  obtain ⟨p, vs, rfl, h3, hp, wr⟩ := ol_own k4
  unfold R.setI at e
  cases ej : R.ixN xs.length (k t u) with
  | none => rw [ej] at e; cases e
  | some j =>
    rw [ej] at e
    cases e
    refine ⟨p, vs, k t u, j, rfl, hk, h3, by rw [hp.length]; exact ej, q3 σ G2 _ (back _ _ _ (wr _ _ (paired_set hp hy)))⟩
theorem s1_push {i : Nat} {x : Str} {e : Expr} {te : TE} {p1 p2 p3 pos : Pos} {α γ : Type} {c : Cod γ} {m1 : Res α} {Rm : α → Sl} {Γo : α → Ctx} {a : α → γ} {xs : List γ} {mn : Res (List γ)} (he : EX X T W Γx Γ e te m1 Rm Γo) (hR : ∀ t, Rm t = fz c (a t) := by exact fun _ => rfl) (hΓo : ∀ t, Γo t = Γ := by exact fun _ => rfl)
    (h : Γ[i]? = some (some (ol c xs)) := by rfl) (hN : X.N[i]? = some x := by rfl) (hv : Vis X.env.scope x := by first | exact Or.inl rfl | exact Or.inr (Or.inl rfl) | exact Or.inr (Or.inr rfl)) (hb : Bd mn (m1.bind fun t => (R.push xs (a t)).bind fun ys => .ok (t, ys)) (fun t => .ok t.2) := by intros; repeat (first | ((with_reducible refine Bd.done ?_); exact rfl) | with_reducible refine Bd.okl ?_ | with_reducible refine Bd.assoc ?_ | with_reducible refine Bd.bind fun _ => ?_ | with_reducible refine Bd.eta fun _ => ?_ | with_reducible refine Bd.iteB ?_ ?_ fun _ => ?_ | with_reducible refine Bd.iteE ?_ ?_ fun _ => ?_ | with_reducible refine Bd.ite ?_ ?_ | with_reducible refine Bd.iteL ?_ ?_ | with_reducible refine Bd.assocL ?_ | with_reducible refine Bd.oklL ?_ | with_reducible exact Bd.same | with_reducible exact Bd.at | dsimp only))
    (hK : X.K = K := by rfl) (hd : (x == ("__debug__" : Str)) = false := by decide) (hcd : (x == ("__classdict__" : Str)) = false := by decide)
    (hpe : ∀ {to : TE} {ta : TA}, PE X (.Name x p1) to → PA X [e] ta → PE X (.Call (.Attribute (.Name x p1) "append" p2) [e] [] p3) (tBM X.K "list" rAppend to ta) := by exact fun h1 h2 => pe_bm PySem.F.plainAttrs_list PySem.F.slot_list_append PySem.F.type_list_append mt_append h1 h2)
    (hst : starEach (e :: []) X.env = (false, eval e X.env) :: starEach [] X.env := by rfl) (hs : swapsWith (.Call (.Attribute (.Name x p1) "append" p2) [e] [] p3) none pos.line X.env = pure false := by rfl) :
    S1 X T W Γx Γ (.Expr (.Call (.Attribute (.Name x p1) "append" p2) [e] [] p3) pos) (tDrop (tBM K "list" rAppend (tVar i) (tCons te tNil))) mn (fun ys => .nx (Γ.set i (some (ol c ys)))) := by
  subst hK
  obtain rfl : Rm = fun t => fz c (a t) := funext hR
  obtain rfl : Γo = fun _ => Γ := funext hΓo
  refine ⟨ps_expr (hpe (pv i hN hv hd hcd) (pa_cons he.pe pa_nil hst)) hs, fun Z G0 S σ G H D k q => ?_⟩
  obtain ⟨v, l, hw, k1, _⟩ := k.take h
  obtain ⟨p, vs, rfl, h3, _, _⟩ := ol_own k1
  refine ⟨.ref p, hw, .inl ⟨rfl, _, SqL.of h3⟩, ?_⟩
  refine he.ev Z G0 S σ G H _ k (Res.wp_mono (Res.wp_bind (hb _ _ q)) (fun t q y G' H' k' => ?_) fun ex q cls d G' H' k' => q cls d σ G' H' k')
  obtain ⟨us, e2, q3⟩ := wp_cases (Res.wp_bind q) (chk_ne ok_ne)
  obtain ⟨e3, e4⟩ := chk_ok e2
  cases e4
  have hr := k'.tp
  obtain ⟨v', l', hw', k2, back⟩ := k'.drop.take h
  rw [hw] at hw'
  cases hw'
  obtain ⟨p', vs', e5, h6, h7, h8⟩ := ol_own k2
  cases e5
  refine ⟨p, vs', y, rfl, rfl, h6, ?_, q3 σ _ _ (back _ _ _ (h8 _ _ (Paired.snoc h7 hr)))⟩
  rw [h7.length, ← line_eq]
  exact of_decide_eq_true e3
/-- several names, or any target -/
theorem s1_asgG {tg e : Expr} {te : TE} {g : TG} {js : List Nat} {pos : Pos} {α ν : Type} {me : Res α} {mn : Res ν} {R : α → Sl} {R' : ν → Sl} {f : α → ν} {Γ' : ν → Ctx} {Γo : α → Ctx} (he : EX X T W Γx Γ e te me R Γo) (hg : ∀ v, GX X tg g js (R' v) Γ (Γ' v)) [Nonempty ν] (hR : ∀ t, R t = R' (f t) := by exact fun _ => rfl) (hΓo : ∀ t, Γo t = Γ := by exact fun _ => rfl) (hb : Bd mn me (fun t => .ok (f t)) := by intros; repeat (first | ((with_reducible refine Bd.done ?_); exact rfl) | with_reducible refine Bd.okl ?_ | with_reducible refine Bd.assoc ?_ | with_reducible refine Bd.bind fun _ => ?_ | with_reducible refine Bd.eta fun _ => ?_ | with_reducible refine Bd.iteB ?_ ?_ fun _ => ?_ | with_reducible refine Bd.iteE ?_ ?_ fun _ => ?_ | with_reducible refine Bd.ite ?_ ?_ | with_reducible refine Bd.iteL ?_ ?_ | with_reducible refine Bd.assocL ?_ | with_reducible refine Bd.oklL ?_ | with_reducible exact Bd.same | with_reducible exact Bd.at | dsimp only))
    (hs : swapsWithSole [tg] e pos.line X.env = pure false := by rfl) (hw : swappedStores [tg] e X.env = pure none := by rfl) (h1 : (assignEach [tg] X.env).map (·.2) = [assign tg X.env] := by rfl) : S1 X T W Γx Γ (.Assign [tg] e pos) (tAsg te g) mn (fun v => .nx (Γ' v)) := by
  obtain rfl : Γo = fun _ => Γ := funext hΓo
  obtain ⟨v0⟩ := ‹Nonempty ν›
  refine ⟨ps_asg he.pe (hg v0).pg hs hw h1, fun Z G0 S σ G H D k q => he.ev Z G0 S σ G H _ k (Res.wp_mono (hb _ _ q) (fun t q v G' H' k' => ?_) fun ex q cls d G' H' k' => q cls d σ G' H' k')⟩
  rw [hR] at k'
  exact (hg (f t)).ev Z G0 S σ G' H' v _ k' fun σ' G'' H'' k'' _ => q σ' G'' H'' k''
/-! ### a text is walked -/
theorem src_str {t : Tx} {G1 : Hp} : Src (Its ⟨t.toArray⟩) t (fun c => sT [c]) G1 :=
  ⟨fun _ => True, fun i H v H' => H' = H ∧ ∃ c, (⟨t.toArray⟩ : Str).cps[i]? = some c ∧ v = .str ⟨#[c]⟩, by
    have z := walk_str (z := ⟨t.toArray⟩)
    have e : (⟨t.toArray⟩ : Str).cps.size = t.length := by simp
    rw [e] at z
    exact z, fun _ _ => trivial, fun i x hx H v H' y Z G0 l G e k => by
    obtain ⟨rfl, c, hc, rfl⟩ := y
    have hc' : t[i]? = some c := by simpa using hc
    rw [hx] at hc'
    cases hc'
    exact ⟨G, k.push (c := cTx) ⟨rfl, by show 1 ≤ R.line; decide⟩⟩⟩
theorem ix_str {e tg : Expr} {te : TE} {α : Type} {m : Res α} {t : α → Tx} {Γo : α → Ctx} (he : EX X T W Γx Γ e te m (fun a => sT (t a)) Γo) : IX X T W Γx Γ tg e (iStr te) m t (fun c => sT [c]) Γo :=
  ⟨pi_str he.pe, fun Z G0 S σ G H Rk k q => he.ev Z G0 S σ G H _ k (Res.wp_mono q (fun a q v G' H' k' => ⟨_, k'.tp.1, q _ G' H' k'.drop src_str⟩) fun _ z => z)⟩
end
end Rt
/-! Rt11: == of data, str of int, a text many times, comprehensions with a test, with two clauses. -/
namespace Rt
open PySem L2 R
section
variable {X : Cx} {T : XT} {W : WX} {Γx Γ : Ctx} {K : PySem.W.Frag}
/-! ### == of data -/
def rEqP (K : PySem.W.Frag) : R2 := fun x y H Q => ∃ d e, Dp K H x d ∧ Dp K H y e ∧ d.plain = true ∧ e.plain = true ∧ d.depth ≤ 64 ∧ Q (.bl (PyData.eqv d e)) H
def rNeP (K : PySem.W.Frag) : R2 := fun x y H Q => ∃ d e, Dp K H x d ∧ Dp K H y e ∧ d.plain = true ∧ e.plain = true ∧ d.depth ≤ 64 ∧ Q (.bl (!PyData.eqv d e)) H
theorem op_eqP (hu : X.A.units + 64 < cLine) : OpR X (compareOp .Eq) (rEqP X.K) := by
  intro pins s σ H x y v u Q I rx ry h
  obtain ⟨d, e, hd, he, sd, se, hz, q⟩ := h
  obtain ⟨as, r1⟩ := Dp.reads I d x v hd rx
  obtain ⟨bs, r2⟩ := Dp.reads I e y u he ry
  exact SeqAt.eq_plain r1 r2 sd se (by have : min d.depth e.depth ≤ d.depth := Nat.min_le_left _ _; omega) ⟨.bl _, H, I, rfl, q⟩
theorem op_neP (hu : X.A.units + 64 < cLine) : OpR X (compareOp .NotEq) (rNeP X.K) := by
  intro pins s σ H x y v u Q I rx ry h
  obtain ⟨d, e, hd, he, sd, se, hz, q⟩ := h
  obtain ⟨as, r1⟩ := Dp.reads I d x v hd rx
  obtain ⟨bs, r2⟩ := Dp.reads I e y u he ry
  exact SeqAt.ne_plain r1 r2 sd se (by have : min d.depth e.depth ≤ d.depth := Nat.min_le_left _ _; omega) ⟨.bl _, H, I, rfl, q⟩
/-- data that the model compares as we do -/
structure DatP {α : Type} [DecidableEq α] (d : α → PyData) (n : Nat) : Prop where
  plain : ∀ a, (d a).plain = true
  depth : ∀ a, (d a).depth ≤ n
  eqv : ∀ a b, PyData.eqv (d a) (d b) = decide (a = b)
structure EqD (K : PySem.W.Frag) {α : Type} (c : Cod α) (d : α → PyData) : Prop where
  rel : ∀ G H v a, c.rel G v a → Ex G H → Dp K H v (d a)
theorem datp_int : DatP PyData.int 0 := ⟨fun _ => rfl, fun _ => Nat.le_refl _, fun a b => by show (a == b) = _; rw [Bool.eq_iff_iff]; simp⟩
theorem datp_bool : DatP PyData.bool 0 := ⟨fun _ => rfl, fun _ => Nat.le_refl _, fun a b => by show (a == b) = _; rw [Bool.eq_iff_iff]; simp⟩
abbrev dTx (t : Tx) : PyData := .str ⟨t.toArray⟩
theorem datp_tx : DatP dTx 0 := ⟨fun _ => rfl, fun _ => Nat.le_refl _, fun a b => by
  show ((⟨a.toArray⟩ : Str) == ⟨b.toArray⟩) = _
  rw [Bool.eq_iff_iff, beq_iff_eq, decide_eq_true_eq]
  constructor
  · intro h
    have := congrArg (fun s : Str => s.cps.toList) h
    simpa using this
  · intro h
    rw [h]⟩
abbrev dLst {α : Type} (d : α → PyData) (xs : List α) : PyData := .list (xs.map d)
abbrev dOpt {α : Type} (d : α → PyData) (o : Option α) : PyData := match o with | none => .none | some a => d a
theorem datp_list {α : Type} [DecidableEq α] {d : α → PyData} {n : Nat} (h : DatP d n) : DatP (dLst d) (n + 1) := by
  refine ⟨fun xs => ?_, fun xs => ?_, fun xs ys => ?_⟩
  · show PyData.plainAll (xs.map d) = true
    induction xs with
    | nil => rfl
    | cons x r ih => show ((d x).plain && PyData.plainAll (r.map d)) = true; rw [h.plain x, ih]; rfl
  · show PyData.depthAll (xs.map d) + 1 ≤ n + 1
    refine Nat.succ_le_succ ?_
    induction xs with
    | nil => exact Nat.zero_le _
    | cons x r ih => exact Nat.max_le.mpr ⟨h.depth x, ih⟩
  · show PyData.eqvAll (xs.map d) (ys.map d) = _
    induction xs generalizing ys with
    | nil => cases ys <;> rfl
    | cons x r ih =>
      cases ys with
      | nil => rfl
      | cons y ys =>
        show (PyData.eqv (d x) (d y) && PyData.eqvAll (r.map d) (ys.map d)) = _
        rw [ih, h.eqv, Bool.eq_iff_iff]
        simp
theorem eqd_int : EqD K cInt PyData.int := ⟨fun G H v a h _ => by rw [show v = .int a from h]; exact .int a⟩
theorem eqd_bool : EqD K cBool PyData.bool := ⟨fun G H v a h _ => by rw [show v = .bl a from h]; exact .bl a⟩
theorem eqd_tx : EqD K cTx dTx := ⟨fun G H v a h _ => by rw [h.1]; exact .str _⟩
theorem dpall {α : Type} {c : Cod α} {d : α → PyData} (h : EqD K c d) {G H : Hp} (e : Ex G H) : ∀ {vs : List V} {xs : List α}, Paired (c.rel G) vs xs → DpAll K H vs (xs.map d)
  | _, _, .nil => .nil
  | _, _, .cons r t => .cons (h.rel G H _ _ r e) (dpall h e t)
theorem eqd_list {α : Type} {c : Cod α} {d : α → PyData} (h : EqD K c d) : EqD K (cList c) (dLst d) := ⟨fun G H v a ⟨p, vs, e1, h1, hp⟩ e => by
  rw [e1]
  exact .lst (cl_sq e h1) (dpall h e hp)⟩
theorem eqd_seq {α : Type} {c : Cod α} {d : α → PyData} (h : EqD K c d) : EqD K (cSq K c) (dLst d) := ⟨fun G H v a ⟨p, vs, e1, h1, hp⟩ e => by
  rw [e1]
  exact .lst (Evl.ex_l e h1) (dpall h e hp)⟩
theorem eqd_opt {α : Type} {c : Cod α} {d : α → PyData} (h : EqD K c d) : EqD K (cOpt c) (dOpt d) := ⟨fun G H v a k e => by
  cases a with
  | none => rw [show v = .non from k]; exact .non
  | some a => exact h.rel G H v a k.1 e⟩
theorem datp_opt {α : Type} [DecidableEq α] {d : α → PyData} {n : Nat} (h : DatP d n) (hn : ∀ a, PyData.eqv .none (d a) = false ∧ PyData.eqv (d a) .none = false) : DatP (dOpt d) n := by
  refine ⟨fun o => ?_, fun o => ?_, fun a b => ?_⟩
  · cases o with
    | none => rfl
    | some a => exact h.plain a
  · cases o with
    | none => exact Nat.zero_le _
    | some a => exact h.depth a
  · cases a with
    | none =>
      cases b with
      | none => rfl
      | some b => exact (hn b).1.trans (by simp)
    | some a =>
      cases b with
      | none => exact (hn a).2.trans (by simp)
      | some b => exact (h.eqv a b).trans (by rw [Bool.eq_iff_iff]; simp)
/-- the items of a tuple -/
structure DatPs {α : Type} [DecidableEq α] (d : α → List PyData) (n : Nat) : Prop where
  plain : ∀ a, PyData.plainAll (d a) = true
  depth : ∀ a, PyData.depthAll (d a) ≤ n
  eqv : ∀ a b, PyData.eqvAll (d a) (d b) = decide (a = b)
structure EqDs (K : PySem.W.Frag) {α : Type} (c : Cods α) (d : α → List PyData) : Prop where
  rel : ∀ G H vs a, c.rel G vs a → Ex G H → DpAll K H vs (d a)
abbrev tOne {α : Type} (d : α → PyData) (a : α) : List PyData := [d a]
abbrev tMore {α β : Type} (d : α → PyData) (e : β → List PyData) (a : α × β) : List PyData := d a.1 :: e a.2
abbrev dTup {α : Type} (d : α → List PyData) (a : α) : PyData := .tuple (d a)
theorem datps_one {α : Type} [DecidableEq α] {d : α → PyData} {n : Nat} (h : DatP d n) : DatPs (tOne d) n := ⟨fun a => by show ((d a).plain && true) = true; rw [h.plain]; rfl, fun a => Nat.max_le.mpr ⟨h.depth a, Nat.zero_le _⟩, fun a b => by
  show (PyData.eqv (d a) (d b) && true) = _
  rw [h.eqv, Bool.and_true]⟩
theorem datps_more {α β : Type} [DecidableEq α] [DecidableEq β] {d : α → PyData} {e : β → List PyData} {n m : Nat} (h : DatP d n) (k : DatPs e m) : DatPs (tMore d e) (max n m) := ⟨fun a => by show ((d a.1).plain && PyData.plainAll (e a.2)) = true; rw [h.plain, k.plain]; rfl, fun a => Nat.max_le.mpr ⟨Nat.le_trans (h.depth _) (Nat.le_max_left _ _), Nat.le_trans (k.depth _) (Nat.le_max_right _ _)⟩, fun a b => by
  show (PyData.eqv (d a.1) (d b.1) && PyData.eqvAll (e a.2) (e b.2)) = _
  rw [h.eqv, k.eqv, Bool.eq_iff_iff]
  simp [Prod.ext_iff]⟩
theorem datp_tup {α : Type} [DecidableEq α] {d : α → List PyData} {n : Nat} (h : DatPs d n) : DatP (dTup d) (n + 1) := ⟨h.plain, fun a => Nat.succ_le_succ (h.depth a), h.eqv⟩
theorem eqds_one {α : Type} {c : Cod α} {d : α → PyData} (h : EqD K c d) : EqDs K (dOne c) (tOne d) := ⟨fun G H vs a ⟨v, e1, k⟩ e => by rw [e1]; exact .cons (h.rel G H v a k e) .nil⟩
theorem eqds_more {α β : Type} {c : Cod α} {cs : Cods β} {d : α → PyData} {ds : β → List PyData} (h : EqD K c d) (k : EqDs K cs ds) : EqDs K (dCons c cs) (tMore d ds) := ⟨fun G H vs a ⟨v, r, e1, k1, k2⟩ e => by rw [e1]; exact .cons (h.rel G H v a.1 k1 e) (k.rel G H r a.2 k2 e)⟩
theorem eqd_tup {α : Type} {cs : Cods α} {ds : α → List PyData} (h : EqDs K cs ds) : EqD K (cTup K cs) (dTup ds) := ⟨fun G H v a ⟨p, vs, e1, h1, hp⟩ e => by
  rw [e1]
  exact .tup (Evl.ex_t e h1) (h.rel G H vs a hp e)⟩
theorem o_eqP {α : Type} [DecidableEq α] {c c' : Cod α} {d : α → PyData} {n : Nat} {a b : α} (h : EqD K c d) (h' : EqD K c' d) (p : DatP d n) (hn : Nat.ble n 64 = true := by rfl) : OpOk (rEqP K) (fz c a) (fz c' b) (.ok ()) (fun _ => sB (decide (a = b))) :=
  ⟨fun Z G0 l G H v1 v2 Q k _ _ q => by
    obtain ⟨r1, r2⟩ := k.rels
    refine ⟨d a, d b, h.rel _ _ _ _ r1 k.gh, h'.rel _ _ _ _ r2 k.gh, p.plain a, p.plain b, Nat.le_trans (p.depth a) (Nat.le_of_ble_eq_true hn), ?_⟩
    rw [p.eqv]
    exact q _ G H (k.drop.drop.push rfl), ok_ne⟩
theorem o_neP {α : Type} [DecidableEq α] {c c' : Cod α} {d : α → PyData} {n : Nat} {a b : α} (h : EqD K c d) (h' : EqD K c' d) (p : DatP d n) (hn : Nat.ble n 64 = true := by rfl) : OpOk (rNeP K) (fz c a) (fz c' b) (.ok ()) (fun _ => sB (!decide (a = b))) :=
  ⟨fun Z G0 l G H v1 v2 Q k _ _ q => by
    obtain ⟨r1, r2⟩ := k.rels
    refine ⟨d a, d b, h.rel _ _ _ _ r1 k.gh, h'.rel _ _ _ _ r2 k.gh, p.plain a, p.plain b, Nat.le_trans (p.depth a) (Nat.le_of_ble_eq_true hn), ?_⟩
    rw [p.eqv]
    exact q _ G H (k.drop.drop.push rfl), ok_ne⟩
end
end Rt
/-! Rt12: comprehensions with a test, with two clauses. -/
namespace Rt
open PySem L2 R
section
variable {X : Cx} {T : XT} {W : WX} {Γx Γ : Ctx} {K : PySem.W.Frag}
theorem lct_ev {tg iter : Expr} {wi : TI} {g : TG} {tt : TT} {te : TE} {vs js : List Nat} {elt cnd : Expr} {α β γ δ ε : Type} {mi : Res α} {xs : α → List β} {Rb : β → Sl} {Γ0 : α → Ctx} {c : Cod γ} {f : α → β → Res γ} {tf : α → β → Res Bool} {me : α → β → Res δ} {yv : α → β → δ → γ} {mt : α → β → Res ε} {bt : α → β → ε → Bool} {Γg : α → β → Ctx} {Γe : Ctx} {X' : Cx}
    (hi : IX X T W Γx Γ tg iter wi mi xs Rb Γ0) (hg : ∀ a x, GX X' tg g js (Rb x) (wipeC (Γ0 a) vs) (Γg a x)) (hj : ∀ j ∈ js, j ∈ vs) (hv : ∀ a, ∀ v ∈ vs, v < (Γ0 a).length)
    (ht : ∀ a x, ET X' T (fun _ _ _ _ => False) Γe (Γg a x) cnd tt (mt a x) (bt a x) (fun _ => Γg a x)) (htb : ∀ a x, Bd (tf a x) (mt a x) (fun b => .ok (bt a x b)))
    (he : ∀ a x, EX X' T (fun _ _ _ _ => False) Γe (Γg a x) elt te (me a x) (fun b => fz c (yv a x b)) (fun _ => Γg a x)) (hd : ∀ a x, Wk (Γg a x) (wipeC (Γ0 a) vs)) (hb : ∀ a x, Bd (f a x) (me a x) (fun b => .ok (yv a x b)))
    (Z G0 : Hp) (S : List Pl) (σ : St) (G H : Hp) (Q : VK) (k : Okc Z G0 S Γ σ G H)
    (q : (mi.bind fun a => (R.filC (tf a) (f a) (xs a)).bind fun ys => .ok (a, ys)).wp (fun t => ∀ v G' H', Okc Z G0 ((some (ol c t.2), some v) :: S) (Γ0 t.1) σ G' H' → Q v H') (fun ex => ∀ cls d G' H', Okc Z G0 S Γx σ G' H' → T.rel ex cls d G' → W cls d σ H')) :
    tLc wi g tt te vs σ H Q := by
  refine hi.ev Z G0 S σ G H _ k (Res.wp_mono (Res.wp_bind q) (fun a q J G1 H1 k1 src => ?_) fun ex q => q)
  intro D hD
  have q := Res.wp_bind q
  obtain ⟨Gd, Y, wk, gd, hy⟩ := src
  obtain ⟨L, up, down⟩ := lifts k1.len vs (hv a)
  have q' : (R.filK (tf a) (f a) (xs a)).wp (fun ys => ∀ v G' H', Okc Z G0 ((some (ol c ys), some v) :: S) (Γ0 a) σ G' H' → Q v H') (fun _ => True) ∧ (xs a).length ≤ R.line := by
    unfold R.filC at q
    cases e : decide ((xs a).length ≤ R.line) with
    | true =>
      rw [e] at q
      exact ⟨Res.wp_mono q (fun ys z => z) fun _ _ => trivial, of_decide_eq_true e⟩
    | false =>
      rw [e] at q
      exact q.elim
  obtain ⟨q, hz⟩ := q'
  have kD : Okc Z G1 ((some (ol c []), some (.ref D)) :: S) (Γ0 a) σ G1 (upd H1 D (.lst [])) := ⟨k1.len, k1.base.ok.layOwn (s := ol c []) hD ⟨D, [], rfl, rfl, upd_same, .nil⟩⟩
  refine lc_it wk (fun i H => ∃ acc G, Okc Z G1 (L ++ ((some (ol c acc), some (.ref D)) :: S)) (wipeC (Γ0 a) vs) (wipe σ vs) G H ∧ acc.length ≤ i ∧
      (R.filK (tf a) (f a) ((xs a).drop i)).wp (fun ys => ∀ v G' H', Okc Z G0 ((some (ol c (acc ++ ys)), some v) :: S) (Γ0 a) σ G' H' → Q v H') (fun _ => True))
    ⟨[], G1, up _ _ _ _ _ kD, Nat.zero_le _, q⟩ (fun i H _ ⟨acc, G, k2, _⟩ => gd H k2.hex) ?_ ?_
  · rintro i v H H' hi' ⟨acc, G, k2, hl, w⟩ y
    have hx : (xs a)[i]? = some (xs a)[i] := List.getElem?_eq_getElem hi'
    rw [List.drop_eq_getElem_cons hi'] at w
    have w2 : (tf a (xs a)[i]).wp (fun b => (if b then (f a (xs a)[i]).calm.bind fun y => (R.filK (tf a) (f a) ((xs a).drop (i + 1))).bind fun ys => .ok (y :: ys) else R.filK (tf a) (f a) ((xs a).drop (i + 1))).wp (fun ys => ∀ v G' H', Okc Z G0 ((some (ol c (acc ++ ys)), some v) :: S) (Γ0 a) σ G' H' → Q v H') (fun _ => True)) (fun _ => False) := Res.wp_calm (Res.wp_bind w)
    obtain ⟨G2, k3⟩ := hy i _ hx H v H' y Z G1 _ G k2.gex k2.ok
    refine (hg a (xs a)[i]).ev Z G1 _ _ G2 H' v _ ⟨k2.len, k3⟩ fun σ3 G3 H3 k4 hw => ⟨(hw vs hj).trans wipe_wipe, ?_⟩
    refine (ht a (xs a)[i]).ev Z G1 _ σ3 G3 H3 _ k4 (Res.wp_mono (htb a (xs a)[i] _ _ w2) (fun b0 w5 G5 H5 k5 => ?_) fun ex z => z.elim)
    have w5' : (if bt a (xs a)[i] b0 then (f a (xs a)[i]).calm.bind fun y => (R.filK (tf a) (f a) ((xs a).drop (i + 1))).bind fun ys => .ok (y :: ys) else R.filK (tf a) (f a) ((xs a).drop (i + 1))).wp (fun ys => ∀ v G' H', Okc Z G0 ((some (ol c (acc ++ ys)), some v) :: S) (Γ0 a) σ G' H' → Q v H') (fun _ => True) := w5
    have clean : ∀ {G6 H6 Sx}, Okc Z G1 Sx (Γg a (xs a)[i]) σ3 G6 H6 → Okc Z G1 Sx (wipeC (Γ0 a) vs) (wipe σ vs) G6 H6 := fun {G6 H6 Sx} k6 => by
      have e1 := forgets (hd a (xs a)[i] _ _ _ _ _ _ k6) vs fun v h => wipeC_at h (hv a v h)
      rw [(hw vs hj).trans wipe_wipe] at e1
      exact e1
    cases eb : bt a (xs a)[i] b0 with
    | false =>
      rw [eb] at w5'
      rw [if_neg Bool.false_ne_true]
      exact ⟨acc, G5, clean k5, Nat.le_succ_of_le hl, w5'⟩
    | true =>
      rw [eb] at w5'
      rw [if_pos rfl]
      have w6 := Res.wp_calm (Res.wp_bind (show ((f a (xs a)[i]).calm.bind fun y => (R.filK (tf a) (f a) ((xs a).drop (i + 1))).bind fun ys => .ok (y :: ys)).wp (fun ys => ∀ v G' H', Okc Z G0 ((some (ol c (acc ++ ys)), some v) :: S) (Γ0 a) σ G' H' → Q v H') (fun _ => True) from w5'))
      refine (he a (xs a)[i]).ev Z G1 _ σ3 G5 H5 _ k5 (Res.wp_mono (hb a (xs a)[i] _ _ w6) (fun b w3 y G4 H4 k5 => ?_) fun ex z => z.elim)
      have w4 := Res.wp_bind (show ((R.filK (tf a) (f a) ((xs a).drop (i + 1))).bind fun ys => .ok (yv a (xs a)[i] b :: ys)).wp (fun ys => ∀ v G' H', Okc Z G0 ((some (ol c (acc ++ ys)), some v) :: S) (Γ0 a) σ G' H' → Q v H') (fun _ => True) from w3)
      have k6 : Okc Z G1 (L ++ ((some (fz c (yv a (xs a)[i] b)), some y) :: (some (ol c acc), some (.ref D)) :: S)) (wipeC (Γ0 a) vs) (wipe σ vs) G4 H4 := by
        have e1 := clean k5
        refine ⟨e1.len, e1.ok.perm ?_⟩
        show (((some (fz c (yv a (xs a)[i] b)), some y) :: (L ++ (some (ol c acc), some (.ref D)) :: S)) ++ _).Perm _
        exact (mid (l := L) (m := (some (ol c acc), some (.ref D)) :: S)).symm.append_right _
      have k7 := down _ _ _ _ _ k6
      obtain ⟨ws, hD', hlen, k8⟩ := Okl.grow k7.ok
      refine ⟨ws, hD', ?_, acc ++ [yv a (xs a)[i] b], G4, up _ _ _ _ _ ⟨k7.len, k8⟩, ?_, Res.wp_mono w4 (fun ys z => ?_) fun _ _ => trivial⟩
      · rw [← line_eq, hlen]
        omega
      · rw [List.length_append]
        show acc.length + 1 ≤ i + 1
        omega
      · rw [List.append_assoc]
        exact z
  · rintro H ⟨acc, G, k2, _, w⟩
    rw [List.drop_length] at w
    have k3 := k1.back (down _ _ _ _ _ k2)
    exact w (.ref D) G H (by rw [List.append_nil]; exact k3)
theorem ex_lcT {tg iter elt cnd : Expr} {scope : Scope} {own : List (Str × Nat)} {pos : Pos} {wi : TI} {g : TG} {tt : TT} {te : TE} {js : List Nat} {α β γ δ ε : Type} [Nonempty α] [Nonempty β] {mi : Res α} {xs : α → List β} {Rb : β → Sl} {Γ0 : α → Ctx} {c : Cod γ} {f : α → β → Res γ} {tf : α → β → Res Bool} {me : α → β → Res δ} {yv : α → β → δ → γ} {mt : α → β → Res ε} {bt : α → β → ε → Bool} {Γg : α → β → Ctx} {Γe : Ctx} {Re : α → β → δ → Sl} {Γo : α → β → δ → Ctx} {Γt : α → β → ε → Ctx}
    (hN : X.N.Nodup) (hi : IX X T W Γx Γ tg iter wi mi xs Rb Γ0) (ok : BlkOk X.N X.env.scope scope own)
    (hg : ∀ (s : Shared) (H : Hp) (C : Addr) (cl : List (Str × Addr)) (fp : List Addr) a x, GX (X.blk s H scope (compEnvC scope cl C X.env) fp) tg g js (Rb x) (wipeC (Γ0 a) (own.map (·.2))) (Γg a x))
    (ht : ∀ (s : Shared) (H : Hp) (C : Addr) (cl : List (Str × Addr)) (fp : List Addr) a x, ET (X.blk s H scope (compEnvC scope cl C X.env) fp) T (fun _ _ _ _ => False) Γe (Γg a x) cnd tt (mt a x) (bt a x) (Γt a x))
    (he : ∀ (s : Shared) (H : Hp) (C : Addr) (cl : List (Str × Addr)) (fp : List Addr) a x, EX (X.blk s H scope (compEnvC scope cl C X.env) fp) T (fun _ _ _ _ => False) Γe (Γg a x) elt te (me a x) (Re a x) (Γo a x))
    (hRe : ∀ a x b, Re a x b = fz c (yv a x b) := by exact fun _ _ _ => rfl) (hΓo : ∀ a x b, Γo a x b = Γg a x := by exact fun _ _ _ => rfl) (hΓt : ∀ a x b, Γt a x b = Γg a x := by exact fun _ _ _ => rfl) (htb : ∀ a x, Bd (tf a x) (mt a x) (fun b => .ok (bt a x b)) := by intros; repeat (first | ((with_reducible refine Bd.done ?_); exact rfl) | with_reducible refine Bd.okl ?_ | with_reducible refine Bd.assoc ?_ | with_reducible refine Bd.bind fun _ => ?_ | with_reducible refine Bd.eta fun _ => ?_ | with_reducible refine Bd.iteB ?_ ?_ fun _ => ?_ | with_reducible refine Bd.iteE ?_ ?_ fun _ => ?_ | with_reducible refine Bd.ite ?_ ?_ | with_reducible refine Bd.iteL ?_ ?_ | with_reducible refine Bd.assocL ?_ | with_reducible refine Bd.oklL ?_ | with_reducible exact Bd.same | with_reducible exact Bd.at | dsimp only))
    (hb : ∀ a x, Bd (f a x) (me a x) (fun b => .ok (yv a x b)) := by intros; repeat (first | ((with_reducible refine Bd.done ?_); exact rfl) | with_reducible refine Bd.okl ?_ | with_reducible refine Bd.assoc ?_ | with_reducible refine Bd.bind fun _ => ?_ | with_reducible refine Bd.eta fun _ => ?_ | with_reducible refine Bd.iteB ?_ ?_ fun _ => ?_ | with_reducible refine Bd.iteE ?_ ?_ fun _ => ?_ | with_reducible refine Bd.ite ?_ ?_ | with_reducible refine Bd.iteL ?_ ?_ | with_reducible refine Bd.assocL ?_ | with_reducible refine Bd.oklL ?_ | with_reducible exact Bd.same | with_reducible exact Bd.at | dsimp only)) (hj : ∀ j ∈ js, j ∈ own.map (·.2) := by decide) (hv : ∀ a, ((own.map (·.2)).all fun v => Nat.ble (v + 1) (Γ0 a).length) = true := by exact fun _ => rfl) (hd : ∀ a x, Wk (Γg a x) (wipeC (Γ0 a) (own.map (·.2))))
    (hc : X.calm = true := by rfl) (hs : ∀ x, foldedSetIterable iter X.env x = pure x := by intro _; rfl) :
    EX X T W Γx Γ (.ListComp elt [⟨tg, iter, [cnd], 0⟩] scope pos) (tLc wi g tt te (own.map (·.2))) (mi.bind fun a => (R.filC (tf a) (f a) (xs a)).bind fun ys => .ok (a, ys)) (fun t => ol c t.2) (fun t => Γ0 t.1) := by
  obtain rfl : Re = fun a x b => fz c (yv a x b) := funext fun a => funext fun x => funext (hRe a x)
  obtain rfl : Γo = fun a x _ => Γg a x := funext fun a => funext fun x => funext (hΓo a x)
  obtain rfl : Γt = fun a x _ => Γg a x := funext fun a => funext fun x => funext (hΓt a x)
  obtain ⟨a0⟩ := ‹Nonempty α›
  obtain ⟨b0⟩ := ‹Nonempty β›
  refine ⟨pe_lc hc hN hi.pi ok (fun s H C cl fp => (hg s H C cl fp a0 b0).pg) (fun s H C cl fp => pts_one (ht s H C cl fp a0 b0).pt) (fun s H C cl fp => (he s H C cl fp a0 b0).pe) hs, ?_⟩
  exact lct_ev hi (hg X.s_0 (fun _ => none) 0 [] []) hj (fun a v hm => Nat.le_of_ble_eq_true (List.all_eq_true.mp (hv a) v hm)) (ht X.s_0 (fun _ => none) 0 [] []) htb (he X.s_0 (fun _ => none) 0 [] []) hd hb
theorem s1_asgLcT {i : Nat} {y : Str} {py spos : Pos} {tg iter elt cnd : Expr} {scope : Scope} {own : List (Str × Nat)} {pos : Pos} {wi : TI} {g : TG} {tt : TT} {te : TE} {js : List Nat} {α β γ δ ε : Type} [Nonempty α] [Nonempty β] {mi : Res α} {xs : α → List β} {Rb : β → Sl} {Γ0 : α → Ctx} {c : Cod γ} {f : α → β → Res γ} {tf : α → β → Res Bool} {me : α → β → Res δ} {yv : α → β → δ → γ} {mt : α → β → Res ε} {bt : α → β → ε → Bool} {Γg : α → β → Ctx} {Γe : Ctx} {Re : α → β → δ → Sl} {Γo : α → β → δ → Ctx} {Γt : α → β → ε → Ctx} {mn : Res (List γ)}
    (hN : X.N.Nodup) (hy : X.N[i]? = some y) (hyl : X.env.scope.names.lookup y = some .local) (hsw : swapsWith (.ListComp elt [⟨tg, iter, [cnd], 0⟩] scope pos) (some (.Name y py)) spos.line X.env = pure true) (hi : IX X T W Γx Γ tg iter wi mi xs Rb Γ0) (ok : BlkOk X.N X.env.scope scope own)
    (hg : ∀ (s : Shared) (H : Hp) (C : Addr) (cl : List (Str × Addr)) (fp : List Addr) a x, GX (X.blk s H scope (compEnvC scope cl C X.env) fp) tg g js (Rb x) (wipeC (Γ0 a) (own.map (·.2))) (Γg a x))
    (ht : ∀ (s : Shared) (H : Hp) (C : Addr) (cl : List (Str × Addr)) (fp : List Addr) a x, ET (X.blk s H scope (compEnvC scope cl C X.env) fp) T (fun _ _ _ _ => False) Γe (Γg a x) cnd tt (mt a x) (bt a x) (Γt a x))
    (he : ∀ (s : Shared) (H : Hp) (C : Addr) (cl : List (Str × Addr)) (fp : List Addr) a x, EX (X.blk s H scope (compEnvC scope cl C X.env) fp) T (fun _ _ _ _ => False) Γe (Γg a x) elt te (me a x) (Re a x) (Γo a x))
    (hRe : ∀ a x b, Re a x b = fz c (yv a x b) := by exact fun _ _ _ => rfl) (hΓo : ∀ a x b, Γo a x b = Γg a x := by exact fun _ _ _ => rfl) (hΓt : ∀ a x b, Γt a x b = Γg a x := by exact fun _ _ _ => rfl) (htb : ∀ a x, Bd (tf a x) (mt a x) (fun b => .ok (bt a x b)) := by intros; repeat (first | ((with_reducible refine Bd.done ?_); exact rfl) | with_reducible refine Bd.okl ?_ | with_reducible refine Bd.assoc ?_ | with_reducible refine Bd.bind fun _ => ?_ | with_reducible refine Bd.eta fun _ => ?_ | with_reducible refine Bd.iteB ?_ ?_ fun _ => ?_ | with_reducible refine Bd.iteE ?_ ?_ fun _ => ?_ | with_reducible refine Bd.ite ?_ ?_ | with_reducible refine Bd.iteL ?_ ?_ | with_reducible refine Bd.assocL ?_ | with_reducible refine Bd.oklL ?_ | with_reducible exact Bd.same | with_reducible exact Bd.at | dsimp only))
    (hb : ∀ a x, Bd (f a x) (me a x) (fun b => .ok (yv a x b)) := by intros; repeat (first | ((with_reducible refine Bd.done ?_); exact rfl) | with_reducible refine Bd.okl ?_ | with_reducible refine Bd.assoc ?_ | with_reducible refine Bd.bind fun _ => ?_ | with_reducible refine Bd.eta fun _ => ?_ | with_reducible refine Bd.iteB ?_ ?_ fun _ => ?_ | with_reducible refine Bd.iteE ?_ ?_ fun _ => ?_ | with_reducible refine Bd.ite ?_ ?_ | with_reducible refine Bd.iteL ?_ ?_ | with_reducible refine Bd.assocL ?_ | with_reducible refine Bd.oklL ?_ | with_reducible exact Bd.same | with_reducible exact Bd.at | dsimp only)) (hj : ∀ j ∈ js, j ∈ own.map (·.2) := by decide) (hv : ∀ a, ((own.map (·.2)).all fun v => Nat.ble (v + 1) (Γ0 a).length) = true := by exact fun _ => rfl) (hd : ∀ a x, Wk (Γg a x) (wipeC (Γ0 a) (own.map (·.2)))) (hΓ : ∀ t, Γ0 t = Γ := by exact fun _ => rfl) (hl : Nat.ble (i + 1) Γ.length = true := by rfl) (hm : Bd mn (mi.bind fun a => (R.filC (tf a) (f a) (xs a)).bind fun ys => .ok (a, ys)) (fun t => .ok t.2) := by intros; repeat (first | ((with_reducible refine Bd.done ?_); exact rfl) | with_reducible refine Bd.okl ?_ | with_reducible refine Bd.assoc ?_ | with_reducible refine Bd.bind fun _ => ?_ | with_reducible refine Bd.eta fun _ => ?_ | with_reducible refine Bd.iteB ?_ ?_ fun _ => ?_ | with_reducible refine Bd.iteE ?_ ?_ fun _ => ?_ | with_reducible refine Bd.ite ?_ ?_ | with_reducible refine Bd.iteL ?_ ?_ | with_reducible refine Bd.assocL ?_ | with_reducible refine Bd.oklL ?_ | with_reducible exact Bd.same | with_reducible exact Bd.at | dsimp only))
    (hc : X.calm = true := by rfl) (hs : ∀ x, foldedSetIterable iter X.env x = pure x := by intro _; rfl) :
    S1 X T W Γx Γ (.Assign [.Name y py] (.ListComp elt [⟨tg, iter, [cnd], 0⟩] scope pos) spos) (tAsg (tLc wi g tt te (own.map (·.2))) (gName i)) mn (fun v => .nx (Γ.set i (some (ol c v)))) := by
  obtain rfl : Re = fun a x b => fz c (yv a x b) := funext fun a => funext fun x => funext (hRe a x)
  obtain rfl : Γo = fun a x _ => Γg a x := funext fun a => funext fun x => funext (hΓo a x)
  obtain rfl : Γt = fun a x _ => Γg a x := funext fun a => funext fun x => funext (hΓt a x)
  obtain ⟨a0⟩ := ‹Nonempty α›
  obtain ⟨b0⟩ := ‹Nonempty β›
  refine ⟨ps_setLc hc hN hy hyl hsw hi.pi ok (fun s H C cl fp => (hg s H C cl fp a0 b0).pg) (fun s H C cl fp => pts_one (ht s H C cl fp a0 b0).pt) (fun s H C cl fp => (he s H C cl fp a0 b0).pe) hs, fun Z G0 S σ G H D k q => ?_⟩
  exact lct_ev hi (hg X.s_0 (fun _ => none) 0 [] []) hj (fun a v hm => Nat.le_of_ble_eq_true (List.all_eq_true.mp (hv a) v hm)) (ht X.s_0 (fun _ => none) 0 [] []) htb (he X.s_0 (fun _ => none) 0 [] []) hd hb Z G0 S σ G H _ k (Res.wp_mono (hm _ _ q) (fun t q v G' H' k' => by
    rw [hΓ] at k'
    exact q _ G' H' (k'.store (Nat.le_of_ble_eq_true hl))) fun ex q cls d G' H' k' => q cls d σ G' H' k')
end
end Rt
namespace Rt
open PySem L2 R
/-- some places are forgotten -/
def maskC : List Bool → Ctx → Ctx
  | true :: m, x :: Γ => x :: maskC m Γ
  | false :: m, _ :: Γ => none :: maskC m Γ
  | _, Γ => Γ
theorem wk_mask : ∀ (m : List Bool) (Γ : Ctx), Wk Γ (maskC m Γ)
  | [], Γ => Wk.refl _
  | true :: m, [] => Wk.refl _
  | false :: m, [] => Wk.refl _
  | true :: m, _ :: Γ => Wk.cons (wk_mask m Γ)
  | false :: m, _ :: Γ => Wk.none1 (wk_mask m Γ)
theorem wkm (m : List Bool) {Γ Δ : Ctx} (h : Δ = maskC m Γ := by rfl) : Wk Γ Δ := h ▸ wk_mask m Γ
theorem relab {env : Env} : ∀ {names : List (Str × NameKind)} {x : Str} {k : NameKind}, names.lookup x = some k → (k = .cell ∨ k = .free) →
    ((names.map fun (n, k) => if (k == NameKind.free && env.scope.kind == .function && env.kindOf n == some .cell) then (n, NameKind.cell) else (n, k)).lookup x = some .cell ∨
     (names.map fun (n, k) => if (k == NameKind.free && env.scope.kind == .function && env.kindOf n == some .cell) then (n, NameKind.cell) else (n, k)).lookup x = some .free)
  | [], _, _, h, _ => by simp at h
  | (n, k') :: r, x, k, h, hk => by
    rw [List.lookup_cons] at h
    rw [List.map_cons]
    cases e : x == n with
    | true =>
      rw [e] at h
      cases h
      dsimp only
      by_cases q : (k' == NameKind.free && env.scope.kind == .function && env.kindOf n == some .cell) = true
      · rw [if_pos q, List.lookup_cons, e]
        exact .inl rfl
      · rw [if_neg q, List.lookup_cons, e]
        rcases hk with rfl | rfl
        · exact .inl rfl
        · exact .inr rfl
    | false =>
      rw [e] at h
      dsimp only
      have ih := relab (env := env) h hk
      by_cases q : (k' == NameKind.free && env.scope.kind == .function && env.kindOf n == some .cell) = true
      · rw [if_pos q, List.lookup_cons, e]
        exact ih
      · rw [if_neg q, List.lookup_cons, e]
        exact ih
theorem blkOk_in {X : Cx} {N : List Str} {s : Shared} {H : Hp} {scope1 scope : Scope} {cl : List (Str × Addr)} {C : Addr} {fp : List Addr} {own : List (Str × Nat)} (hN : X.N = N) (h : blkC N scope1 scope own = true) : BlkOk (X.blk s H scope1 (compEnvC scope1 cl C X.env) fp).N (X.blk s H scope1 (compEnvC scope1 cl C X.env) fp).env.scope scope own := by
  have e : (X.blk s H scope1 (compEnvC scope1 cl C X.env) fp).N = N := hN
  rw [e]
  refine blkOk_by ?_
  unfold blkC at h ⊢
  simp only [Bool.and_eq_true, List.all_eq_true] at h ⊢
  obtain ⟨⟨⟨h1, h2⟩, h3⟩, h4⟩ := h
  refine ⟨⟨⟨h1, h2⟩, h3⟩, fun y hy => ?_⟩
  have z := h4 y hy
  cases ey : y.2 with
  | free =>
    rw [ey] at z
    have go : ∀ k, scope1.names.lookup y.1 = some k → (k = .cell ∨ k = .free) → (match (X.blk s H scope1 (compEnvC scope1 cl C X.env) fp).env.scope.names.lookup y.1 with | some .cell => true | some .free => true | _ => false) = true := fun k hk hc => by
      rcases relab (env := X.env) hk hc with q | q
      · rw [show (X.blk s H scope1 (compEnvC scope1 cl C X.env) fp).env.scope.names.lookup y.1 = some .cell from q]
      · rw [show (X.blk s H scope1 (compEnvC scope1 cl C X.env) fp).env.scope.names.lookup y.1 = some .free from q]
    cases ek : scope1.names.lookup y.1 with
    | none => rw [ek] at z; cases z
    | some k =>
      rw [ek] at z
      cases k with
      | cell => exact go _ ek (.inl rfl)
      | free => exact go _ ek (.inr rfl)
      | _ => cases z
  | _ => first | rfl | (rw [ey] at z; exact z) | (rw [ey] at z)
end Rt
/-! Rt13: a first argument that is lent and given back changed; the box [digits, place]. -/
namespace Rt
open PySem L2 R
/-- at a place that is known -/
def atP (p : Addr) (s : Sl) : Sl := ⟨fun G H v ps => v = .ref p ∧ s.rel G H v ps, fun h e k => ⟨h.1, s.mono h.2 e k⟩⟩
/-- a list of digits and a place in it -/
def bx (b : List Int × Int) : Sl := ⟨fun G H v ps => ∃ p w, v = .ref p ∧ ps = [p] ∧ H p = some (.lst [w, .int b.2]) ∧ (cList cInt).rel G w b.1, fun h e k => by
  obtain ⟨p, w, h1, h2, h3, h4⟩ := h
  refine ⟨p, w, h1, h2, ?_, (cList cInt).mono h4 e⟩
  rw [k p (by rw [h2]; exact List.mem_cons_self)]
  exact h3⟩
/-- where such a thing may stand: by itself, or at a known place -/
structure Lt {β : Type} (F Fs : β → Sl) : Prop where
  out : ∀ G H v ps b, (Fs b).rel G H v ps → ∃ p, v = .ref p ∧ (F b).rel G H v ps ∧ ∀ G' H' ps' b', (F b').rel G' H' v ps' → (Fs b').rel G' H' v ps'
theorem lt_atP {β : Type} {F : β → Sl} {p : Addr} : Lt F (fun b => atP p (F b)) := ⟨fun G H v ps b h => ⟨p, h.1, h.2, fun _ _ _ _ k => ⟨h.1, k⟩⟩⟩
theorem lt_bx : Lt bx bx := ⟨fun G H v ps b h => by
  obtain ⟨p, w, h1, h2⟩ := h
  exact ⟨p, h1, ⟨p, w, h1, h2⟩, fun _ _ _ _ k => k⟩⟩
theorem Okl.re {Z G0 G H : Hp} {l : List Pl} {s s' : Sl} {v : V} (k : Okl Z G0 ((some s, some v) :: l) G H) (h : ∀ ps, s.rel G H v ps → s'.rel G H v ps) : Okl Z G0 ((some s', some v) :: l) G H := by
  obtain ⟨ps, ⟨p1, p2, rfl, ⟨v', e1, r⟩, h4⟩, h2, h3⟩ := k.own
  cases e1
  exact ⟨k.zh, k.gg, k.gh, k.fr, _, ⟨p1, p2, rfl, ⟨v, rfl, h _ r⟩, h4⟩, h2, h3⟩
/-- what a call of a lending def is -/
def spL {ξ ρ β : Type} (n : Nat) (T : XT) (A : ξ → List (Option Sl)) (F : β → Sl) (f : β → ξ → Res (ρ × β)) (R : ρ → Sl) : Sp := fun vs H Q E => ∃ (p : Addr) (vs' : List V) (b : β) (x : ξ) (Z G0 G : Hp), vs = .ref p :: vs' ∧ vs'.length = n ∧ (A x).length = n ∧
  Okl Z G0 ((some (atP p (F b)), some (.ref p)) :: (A x).zip (vs'.map some)) G H ∧
  (f b x).wp (fun r => ∀ v G' H', Okl Z G0 [(some (R r.1), some v), (some (atP p (F r.2)), some (.ref p))] G' H' → Q v H') (fun ex => ∀ cls d G' H', Okl Z G0 [] G' H' → T.rel ex cls d G' → E cls d H')
section
variable {X : Cx} {T : XT} {W : WX} {Γx Γ : Ctx} {K : PySem.W.Frag}
/-- what a slot owns, ahead of what stands on the stack -/
theorem Okc.takeS {Z G0 G H : Hp} {L S : List Pl} {σ : St} {s : Sl} {i : Nat} (k : Okc Z G0 (L ++ S) Γ σ G H) (h : Γ[i]? = some (some s)) : ∃ v M, σ[i]? = some (some v) ∧ Okl Z G0 ((some s, some v) :: (L ++ M)) G H ∧
    (∀ (Z G0 : Hp) s' r G' H', Okl Z G0 ((some s', some v) :: (r ++ M)) G' H' → Okc Z G0 (r ++ S) (Γ.set i (some s')) σ G' H') ∧ ∀ (Z G0 : Hp) G' H', Okl Z G0 M G' H' → Okc Z G0 S (Γ.set i none) σ G' H' := by
  obtain ⟨w, hw, hz⟩ := zip_get k.len h
  have p1 := perm_at hz
  have k1 : Okl Z G0 ((some s, w) :: ((L ++ S) ++ (Γ.zip σ).eraseIdx i)) G H := k.ok.perm ((p1.append_left (L ++ S)).trans mid)
  obtain ⟨ps, ⟨_, _, _, ⟨v, e1, _⟩, _⟩, _, _⟩ := k1.own
  subst e1
  refine ⟨v, S ++ (Γ.zip σ).eraseIdx i, hw, by rw [← List.append_assoc]; exact k1, fun Z G0 s' r G' H' k2 => ⟨by rw [List.length_set]; exact k.len, ?_⟩, fun Z G0 G' H' k2 => ⟨by rw [List.length_set]; exact k.len, ?_⟩⟩
  all_goals
    have e : σ = σ.set i (some v) := by
      refine List.ext_getElem? fun j => ?_
      rw [List.getElem?_set]
      by_cases q : i = j
      · subst q
        rw [if_pos rfl, if_pos (List.getElem?_eq_some_iff.mp hw).1, hw]
      · rw [if_neg q]
  · have p2 := perm_set (y := (some s', some v)) hz
    have z := zip_set (Γ := Γ) (σ := σ) (i := i) (o := some s') (w := some v)
    rw [← e] at z
    rw [z]
    rw [← List.append_assoc] at k2
    exact k2.perm (mid.symm.trans (p2.symm.append_left (r ++ S)))
  · have p2 := perm_set (y := (none, some v)) hz
    have z := zip_set (Γ := Γ) (σ := σ) (i := i) (o := none) (w := some v)
    rw [← e] at z
    rw [z]
    exact (Okl.noneOn (w := some v) k2).perm (mid.symm.trans (p2.symm.append_left S))
theorem callL_ev {ξ ρ β α : Type} {n i : Nat} {A : ξ → List (Option Sl)} {F Fs : β → Sl} {f : β → ξ → Res (ρ × β)} {R : ρ → Sl} {es : List Expr} {ta : TA} {m1 : Res α} {Rs : α → List Sl} {Γ1 : α → Ctx} {b : α → β} {x : α → ξ} {s0 : Sl} (lt : Lt F Fs) (hn : ∀ x, (A x).length = n) (h0 : Γ[i]? = some (some s0))
    (ha : AX X T W Γx Γ es ta m1 Rs Γ1) (hx : ∀ t, ArgOf A (Rs t) (x t)) (h1 : ∀ t, (Γ1 t)[i]? = some (some (Fs (b t)))) (hw : ∀ t, Wk ((Γ1 t).set i none) Γx)
    (Z G0 : Hp) (S : List Pl) (σ : St) (G H : Hp) (Q : VK) (k : Okc Z G0 S Γ σ G H)
    (q : (m1.bind fun t => (f (b t) (x t)).bind fun r => .ok (t, r)).wp (fun t => ∀ v G' H', Okc Z G0 ((some (R t.2.1), some v) :: S) ((Γ1 t.1).set i (some (Fs t.2.2))) σ G' H' → Q v H') (fun ex => ∀ cls d G' H', Okc Z G0 S Γx σ G' H' → T.rel ex cls d G' → W cls d σ H')) :
    tCons (tVar i) ta σ H fun vs H1 => spL n T A F f R vs H1 Q (WE W σ) := by
  obtain ⟨v, _, hv, _, _⟩ := k.take h0
  refine ⟨v, hv, ?_⟩
  refine ha.ev Z G0 S σ G H _ k (Res.wp_mono (Res.wp_bind q) (fun t q vs G1 H1 hl k1 => ?_) fun ex q => q)
  obtain ⟨v', M, hv', k2, back, bare⟩ := k1.takeS (h1 t)
  rw [hv] at hv'
  cases hv'
  obtain ⟨ps, ⟨p1, p2, _, ⟨v', e1, r⟩, _⟩, _, _⟩ := k2.own
  cases e1
  obtain ⟨p, rfl, _, _⟩ := lt.out _ _ _ _ _ r
  have k3 : Okl Z G0 ((some (atP p (F (b t))), some (.ref p)) :: (plz (Rs t) vs ++ M)) G1 H1 := k2.re fun ps r => by
    obtain ⟨_, _, r2, _⟩ := lt.out _ _ _ _ _ r
    exact ⟨rfl, r2⟩
  have bk : ∀ G' H' ps' b', (F b').rel G' H' (.ref p) ps' → (Fs b').rel G' H' (.ref p) ps' := by
    obtain ⟨_, _, _, r3⟩ := lt.out _ _ _ _ _ r
    exact r3
  obtain ⟨Zc, l1, l2⟩ := Okl.lend (l := (some (atP p (F (b t))), some (.ref p)) :: plz (Rs t) vs) (m := M) k3
  have e : A (x t) = (Rs t).map some := hx t
  refine ⟨p, vs, b t, x t, Zc, G1, G1, rfl, ?_, hn _, ?_, Res.wp_mono (Res.wp_bind q) (fun r q v G' H' k' => ?_) fun ex q cls d G' H' k' => q cls d G' H' (hw t _ _ _ _ _ _ (bare _ _ _ _ (l2 [] G' H' k')))⟩
  · rw [← hl, ← hn (x t), e, List.length_map]
  · rw [e]
    exact l1
  · have k4 : Okl Z G0 ((some (R r.1), some v) :: (some (atP p (F r.2)), some (.ref p)) :: M) G' H' := l2 _ G' H' k'
    have k5 := (k4.perm (List.Perm.swap _ _ _)).re (s' := Fs r.2) fun ps h => bk _ _ _ _ h.2
    exact q v G' H' (back _ _ (Fs r.2) [(some (R r.1), some v)] G' H' k5)
theorem ex_callL {ξ ρ β α : Type} {n k j : Nat} (i : Nat) {A : ξ → List (Option Sl)} {F Fs : β → Sl} {f : β → ξ → Res (ρ × β)} {R : ρ → Sl} {ps : List Str} {x y : Str} {p py pos : Pos} {es : List Expr} {ta : TA} {m1 : Res α} {Rs : α → List Sl} {Γ1 : α → Ctx} {b : α → β} {a : α → ξ} {s0 : Sl}
    (kn : Kn X.prog X.w X.K X.mg X.base k x ps (spL n T A F f R)) (hr : Room j X.A) (tk : Takes X W) (lt : Lt F Fs) (hn : ∀ x, (A x).length = n) (ha : AX X T W Γx Γ es ta m1 Rs Γ1) (hx : ∀ t, ArgOf A (Rs t) (a t)) (hw : ∀ t, Wk ((Γ1 t).set i none) Γx) (h0 : Γ[i]? = some (some s0) := by rfl) (h1 : ∀ t, (Γ1 t)[i]? = some (some (Fs (b t))) := by exact fun _ => rfl) (hj : k ≤ j := by decide)
    (hN : X.N[i]? = some y := by rfl) (hv : Vis X.env.scope y := by first | exact Or.inl rfl | exact Or.inr (Or.inl rfl) | exact Or.inr (Or.inr rfl)) (hd : (y == ("__debug__" : Str)) = false := by decide) (hcd : (y == ("__classdict__" : Str)) = false := by decide)
    (hg : Gl X x := by rfl) (hdb : (x == ("__debug__" : Str)) = false := by decide) (he : starEach (.Name y py :: es) X.env = (false, eval (.Name y py) X.env) :: starEach es X.env := by rfl) (hpl : (backTo pos (starEach es X.env)).any (·.1) = false := by rfl) :
    EX X T W Γx Γ (.Call (.Name x p) (.Name y py :: es) [] pos) (tCallS (spL n T A F f R) (WE W) (tCons (tVar i) ta)) (m1.bind fun t => (f (b t) (a t)).bind fun r => .ok (t, r)) (fun t => R t.2.1) (fun t => (Γ1 t.1).set i (some (Fs t.2.2))) := by
  obtain ⟨fa, fd, h1', h2, h3, FO⟩ := kn
  exact ⟨pe_callS FO (hr.mono hj) hg h1' h2 h3 (fun σ => passAt tk σ) (pa_cons (pv i hN hv hd hcd) ha.pa he) hdb he hpl, callL_ev lt hn h0 ha hx h1 hw⟩
/-- at the end: what is handed back, and the lent thing -/
theorem Okc.pick {Z G0 G H : Hp} {S : List Pl} {σ : St} {x : Pl} {s : Sl} {p : Addr} {i : Nat} (k : Okc Z G0 (x :: S) Γ σ G H) (h : Γ[i]? = some (some (atP p s))) : Okl Z G0 (x :: ([(some (atP p s), some (.ref p))] ++ S)) G H := by
  obtain ⟨w, hw, hz⟩ := zip_get k.len h
  have p1 := perm_at hz
  have k1 : Okl Z G0 ((some (atP p s), w) :: ((x :: S) ++ (Γ.zip σ).eraseIdx i)) G H := k.ok.perm ((p1.append_left (x :: S)).trans mid)
  obtain ⟨ps, ⟨_, _, _, ⟨v, e1, r⟩, _⟩, _, _⟩ := k1.own
  subst e1
  obtain ⟨rfl, _⟩ := r
  have k2 : Okl Z G0 ((Γ.zip σ).eraseIdx i ++ ((some (atP p s), some (.ref p)) :: x :: S)) G H := k1.perm ((List.perm_append_comm (l₁ := (some (atP p s), some (V.ref p)) :: x :: S)))
  exact k2.sub.perm (List.Perm.swap _ _ _)
/-- return e; the lent thing is given back -/
theorem sx_retL {e : Expr} {te : TE} {pos : Pos} {rest : List Stmt} {α ρ β : Type} {i : Nat} {mn : Res (ρ × β)} {me : Res α} {R : α → Sl} {Γo : α → Ctx} {g : α → ρ} {s : α → β} {R' : ρ → Sl} {F : β → Sl} {p : Addr} (he : EX X T W Γx Γ e te me R Γo) (hR : ∀ a, R a = R' (g a)) (hS : ∀ a, (Γo a)[i]? = some (some (atP p (F (s a)))))
    (hb : Bd mn me (fun a => .ok (g a, s a)) := by intros; repeat (first | ((with_reducible refine Bd.done ?_); exact rfl) | with_reducible refine Bd.okl ?_ | with_reducible refine Bd.assoc ?_ | with_reducible refine Bd.bind fun _ => ?_ | with_reducible refine Bd.eta fun _ => ?_ | with_reducible refine Bd.iteB ?_ ?_ fun _ => ?_ | with_reducible refine Bd.iteE ?_ ?_ fun _ => ?_ | with_reducible refine Bd.ite ?_ ?_ | with_reducible refine Bd.iteL ?_ ?_ | with_reducible refine Bd.assocL ?_ | with_reducible refine Bd.oklL ?_ | with_reducible exact Bd.same | with_reducible exact Bd.at | dsimp only)) :
    SX X T W Γx Γ (.Return (some e) pos :: rest) (tSeq (tRet te) tNever) mn (fun r => .ret (R' r.1) [(some (atP p (F r.2)), some (.ref p))]) :=
  ⟨pss_cons (ps_ret he.pe) pss_never, fun Z G0 S σ G H D k q => he.ev Z G0 S σ G H _ k (Res.wp_mono (hb _ _ q) (fun a q v G' H' k' => by
    have z := q v G' H'
    rw [← hR] at z
    refine z ?_
    exact Okc.pick k' (hS a)) fun ex q cls d G' H' k' => q cls d σ G' H' k')⟩
/-! ### what an expression gives, in a nice form -/
theorem EX.nf {e : Expr} {te : TE} {α γ ν : Type} {m : Res α} {mn : Res (γ × ν)} {R : α → Sl} {R' : γ → Sl} {Γo : α → Ctx} {Γs : ν → Ctx} {g : α → γ} {s : α → ν} (h : EX X T W Γx Γ e te m R Γo) (hR : ∀ a, R a = R' (g a) := by exact fun _ => rfl) (hΓ : ∀ a, Γo a = Γs (s a) := by exact fun _ => rfl) (hb : Bd mn m (fun a => .ok (g a, s a)) := by intros; repeat (first | ((with_reducible refine Bd.done ?_); exact rfl) | with_reducible refine Bd.okl ?_ | with_reducible refine Bd.assoc ?_ | with_reducible refine Bd.bind fun _ => ?_ | with_reducible refine Bd.eta fun _ => ?_ | with_reducible refine Bd.iteB ?_ ?_ fun _ => ?_ | with_reducible refine Bd.iteE ?_ ?_ fun _ => ?_ | with_reducible refine Bd.ite ?_ ?_ | with_reducible refine Bd.iteL ?_ ?_ | with_reducible refine Bd.assocL ?_ | with_reducible refine Bd.oklL ?_ | with_reducible exact Bd.same | with_reducible exact Bd.at | dsimp only)) :
    EX X T W Γx Γ e te mn (fun r => R' r.1) (fun r => Γs r.2) :=
  ⟨h.pe, fun Z G0 S σ G H Q k q => h.ev Z G0 S σ G H Q k (Res.wp_mono (hb _ _ q) (fun a q v G' H' k' => by
    rw [hR, hΓ] at k'
    exact q v G' H' k') fun _ z => z)⟩
theorem ET.nf {e : Expr} {te : TT} {α ν : Type} {m : Res α} {mn : Res (Bool × ν)} {b : α → Bool} {Γo : α → Ctx} {Γs : ν → Ctx} {s : α → ν} (h : ET X T W Γx Γ e te m b Γo) (hΓ : ∀ a, Γo a = Γs (s a) := by exact fun _ => rfl) (hb : Bd mn m (fun a => .ok (b a, s a)) := by intros; repeat (first | ((with_reducible refine Bd.done ?_); exact rfl) | with_reducible refine Bd.okl ?_ | with_reducible refine Bd.assoc ?_ | with_reducible refine Bd.bind fun _ => ?_ | with_reducible refine Bd.eta fun _ => ?_ | with_reducible refine Bd.iteB ?_ ?_ fun _ => ?_ | with_reducible refine Bd.iteE ?_ ?_ fun _ => ?_ | with_reducible refine Bd.ite ?_ ?_ | with_reducible refine Bd.iteL ?_ ?_ | with_reducible refine Bd.assocL ?_ | with_reducible refine Bd.oklL ?_ | with_reducible exact Bd.same | with_reducible exact Bd.at | dsimp only)) :
    ET X T W Γx Γ e te mn (fun r => r.1) (fun r => Γs r.2) :=
  ⟨h.pt, fun Z G0 S σ G H Q k q => h.ev Z G0 S σ G H Q k (Res.wp_mono (hb _ _ q) (fun a q G' H' k' => by
    rw [hΓ] at k'
    exact q G' H' k') fun _ z => z)⟩
theorem IX.nf {tg iter : Expr} {wi : TI} {α β ν : Type} {mi : Res α} {mn : Res (List β × ν)} {xs : α → List β} {Rb : β → Sl} {Γ0 : α → Ctx} {Γs : ν → Ctx} {s : α → ν} (h : IX X T W Γx Γ tg iter wi mi xs Rb Γ0) (hΓ : ∀ a, Γ0 a = Γs (s a) := by exact fun _ => rfl) (hb : Bd mn mi (fun a => .ok (xs a, s a)) := by intros; repeat (first | ((with_reducible refine Bd.done ?_); exact rfl) | with_reducible refine Bd.okl ?_ | with_reducible refine Bd.assoc ?_ | with_reducible refine Bd.bind fun _ => ?_ | with_reducible refine Bd.eta fun _ => ?_ | with_reducible refine Bd.iteB ?_ ?_ fun _ => ?_ | with_reducible refine Bd.iteE ?_ ?_ fun _ => ?_ | with_reducible refine Bd.ite ?_ ?_ | with_reducible refine Bd.iteL ?_ ?_ | with_reducible refine Bd.assocL ?_ | with_reducible refine Bd.oklL ?_ | with_reducible exact Bd.same | with_reducible exact Bd.at | dsimp only)) :
    IX X T W Γx Γ tg iter wi mn (fun r => r.1) Rb (fun r => Γs r.2) :=
  ⟨h.pi, fun Z G0 S σ G H Rk k q => h.ev Z G0 S σ G H Rk k (Res.wp_mono (hb _ _ q) (fun a q => by
    have z := hΓ a
    rw [z]
    exact q) fun _ z => z)⟩
theorem Bd.at' {α : Type} {m : Res α} : Bd m m (fun t => .ok t) := fun _ _ h => h
theorem sx_ifretCE {c : Expr} {tc : TT} {A rest : List Stmt} {pos : Pos} {tA tr : TS} {ν δ β : Type} [Nonempty ν] {mn : Res (Bool × ν)} {Γs : ν → Ctx} {mA : Bool × ν → Res δ} {mr : Bool × ν → Res β} {IA : δ → Out} {I : β → Out} {j : δ → β} (hc : ET X T W Γx Γ c tc mn (fun r => r.1) (fun r => Γs r.2))
    (hA : ∀ r : Bool × ν, SX X T W Γx (Γs r.2) A tA (mA r) IA) (hr : ∀ r : Bool × ν, SX X T W Γx (Γs r.2) rest tr (mr r) I) (hj : ∀ a, I (j a) = IA a := by exact fun _ => rfl) (hI : ∀ a D N Z G0 S, (IA a).go D Z G0 S → (IA a).go { D with nx := N } Z G0 S := by exact fun _ _ _ _ _ _ z => z) :
    SX X T W Γx Γ (.If c A [] pos :: rest) (tSeq (tIfS tc tA tNext) tr) (mn.bind fun v => if v.1 then (mA v).bind fun a => .ok (j a) else mr v) I := by
  obtain ⟨x⟩ := ‹Nonempty ν›
  refine ⟨pss_cons (ps_if hc.pt (hA (true, x)).ps pss_nil) (hr (true, x)).ps, fun Z G0 S σ G H D k q => ?_⟩
  refine if_ev (DA := fun D => { D with nx := tr D }) (mn := mn) (f := fun r => r) (b' := fun r => r.1) (Γ' := fun r => Γs r.2) (mA := fun r => (mA r).bind fun a => .ok (j a)) (mB := mr) hc (fun _ => rfl) (fun _ => rfl) (fun v Z G0 S σ G H D k q => ?_) (fun v Z G0 S σ G H D k q => (hr v).ev Z G0 S σ G H D k q) Bd.at' Z G0 S σ G H D k q
  refine (hA v).ev Z G0 S σ G H _ k (Res.wp_mono (Res.wp_bind q) (fun a z => hI a _ _ _ _ _ ?_) fun _ z => z)
  have z' : (I (j a)).go D Z G0 S := z
  rw [hj] at z'
  exact z'
theorem s1_pushE {i : Nat} {x : Str} {e : Expr} {te : TE} {p1 p2 p3 pos : Pos} {α γ ν : Type} {c : Cod γ} {m1 : Res α} {Rm : α → Sl} {Γo : α → Ctx} {a : α → γ} {s : α → ν} {xs : List γ} {mn : Res (List γ × ν)} {Γs : ν → Ctx} (he : EX X T W Γx Γ e te m1 Rm Γo) (hR : ∀ t, Rm t = fz c (a t) := by exact fun _ => rfl) (hΓo : ∀ t, Γo t = Γs (s t) := by exact fun _ => rfl)
    (h0 : Γ[i]? = some (some (ol c xs)) := by rfl) (h : ∀ s, (Γs s)[i]? = some (some (ol c xs)) := by exact fun _ => rfl) (hN : X.N[i]? = some x := by rfl) (hv : Vis X.env.scope x := by first | exact Or.inl rfl | exact Or.inr (Or.inl rfl) | exact Or.inr (Or.inr rfl)) (hb : Bd mn (m1.bind fun t => (R.push xs (a t)).bind fun ys => .ok (t, ys)) (fun t => .ok (t.2, s t.1)) := by intros; repeat (first | ((with_reducible refine Bd.done ?_); exact rfl) | with_reducible refine Bd.okl ?_ | with_reducible refine Bd.assoc ?_ | with_reducible refine Bd.bind fun _ => ?_ | with_reducible refine Bd.eta fun _ => ?_ | with_reducible refine Bd.iteB ?_ ?_ fun _ => ?_ | with_reducible refine Bd.iteE ?_ ?_ fun _ => ?_ | with_reducible refine Bd.ite ?_ ?_ | with_reducible refine Bd.iteL ?_ ?_ | with_reducible refine Bd.assocL ?_ | with_reducible refine Bd.oklL ?_ | with_reducible exact Bd.same | with_reducible exact Bd.at | dsimp only))
    (hK : X.K = K := by rfl) (hd : (x == ("__debug__" : Str)) = false := by decide) (hcd : (x == ("__classdict__" : Str)) = false := by decide)
    (hpe : ∀ {to : TE} {ta : TA}, PE X (.Name x p1) to → PA X [e] ta → PE X (.Call (.Attribute (.Name x p1) "append" p2) [e] [] p3) (tBM X.K "list" rAppend to ta) := by exact fun h1 h2 => pe_bm PySem.F.plainAttrs_list PySem.F.slot_list_append PySem.F.type_list_append mt_append h1 h2)
    (hst : starEach (e :: []) X.env = (false, eval e X.env) :: starEach [] X.env := by rfl) (hs : swapsWith (.Call (.Attribute (.Name x p1) "append" p2) [e] [] p3) none pos.line X.env = pure false := by rfl) :
    S1 X T W Γx Γ (.Expr (.Call (.Attribute (.Name x p1) "append" p2) [e] [] p3) pos) (tDrop (tBM K "list" rAppend (tVar i) (tCons te tNil))) mn (fun r => .nx ((Γs r.2).set i (some (ol c r.1)))) := by
  subst hK
  obtain rfl : Rm = fun t => fz c (a t) := funext hR
  obtain rfl : Γo = fun t => Γs (s t) := funext hΓo
  exact s1_append (Γ' := fun r => Γs r.2) (ys := fun r => r.1) (f := fun t u => (u, s t)) he (fun t => h (s t)) (fun _ _ => rfl) (fun _ _ => rfl) ⟨xs, h0⟩ hN hv rfl hd hcd (hpe (pv i hN hv hd hcd) (pa_cons he.pe pa_nil hst)) hb hs
/-! ### the box -/
theorem bx_own {Z G0 G H : Hp} {l : List Pl} {p : Addr} {b : List Int × Int} {v : V} (k : Okl Z G0 ((some (atP p (bx b)), some v) :: l) G H) : ∃ w, v = .ref p ∧ H p = some (.lst [w, .int b.2]) ∧ (cList cInt).rel G w b.1 ∧
    ∀ i : Int, Okl Z G0 ((some (atP p (bx (b.1, i))), some v) :: l) G (upd H p (.lst [w, .int i])) := by
  obtain ⟨ps, ⟨p1, p2, _, ⟨v', e1, rfl, p', w, e2, e3, h3, hr⟩, _⟩, _, _⟩ := k.own
  cases e1
  cases e2
  refine ⟨w, rfl, h3, hr, fun i => k.write (p := p) (fun v ps e r => ?_) ⟨rfl, p, w, rfl, rfl, upd_same, hr⟩⟩
  obtain ⟨rfl, p', _, e2, e4, _⟩ := r
  cases e2
  exact e4
theorem ex_box1 (i : Nat) {p : Addr} {b : List Int × Int} {x : Str} {p1 p2 pos : Pos} {j : Nat} (h : Γ[i]? = some (some (atP p (bx b))) := by rfl) (hN : X.N[i]? = some x := by rfl)
    (hv : Vis X.env.scope x := by first | exact Or.inl rfl | exact Or.inr (Or.inl rfl) | exact Or.inr (Or.inr rfl)) (hK : X.K = K := by rfl) (hd : (x == ("__debug__" : Str)) = false := by decide) (hcd : (x == ("__classdict__" : Str)) = false := by decide) :
    EX X T W Γx Γ (.Subscript (.Name x p1) (.Constant (.int 1) j p2) pos) (tOp (rIxL K) (tVar i) (tC (.int 1))) (.ok ()) (fun _ => sI b.2) (fun _ => Γ) := by
  subst hK
  refine ⟨pe_ix L2.ix_list (pv i hN hv hd hcd) pe_int (fun _ _ => rfl), fun Z G0 S σ G H Q k q => ?_⟩
  obtain ⟨v, l, hw, k1, _⟩ := k.take h
  obtain ⟨w, rfl, h3, hr, _⟩ := bx_own k1
  exact ⟨_, hw, p, [w, .int b.2], 1, .int b.2, rfl, rfl, SqL.of h3, rfl, q _ G H (k.pushf (c := cInt) rfl)⟩
theorem ex_box0 (i : Nat) {p : Addr} {b : List Int × Int} {x : Str} {p1 p2 pos : Pos} {j : Nat} (h : Γ[i]? = some (some (atP p (bx b))) := by rfl) (hN : X.N[i]? = some x := by rfl)
    (hv : Vis X.env.scope x := by first | exact Or.inl rfl | exact Or.inr (Or.inl rfl) | exact Or.inr (Or.inr rfl)) (hK : X.K = K := by rfl) (hd : (x == ("__debug__" : Str)) = false := by decide) (hcd : (x == ("__classdict__" : Str)) = false := by decide) :
    EX X T W Γx Γ (.Subscript (.Name x p1) (.Constant (.int 0) j p2) pos) (tOp (rIxL K) (tVar i) (tC (.int 0))) (.ok ()) (fun _ => fz (cList cInt) b.1) (fun _ => Γ) := by
  subst hK
  refine ⟨pe_ix L2.ix_list (pv i hN hv hd hcd) pe_int (fun _ _ => rfl), fun Z G0 S σ G H Q k q => ?_⟩
  obtain ⟨v, l, hw, k1, _⟩ := k.take h
  obtain ⟨w, rfl, h3, hr, _⟩ := bx_own k1
  exact ⟨_, hw, p, [w, .int b.2], 0, w, rfl, rfl, SqL.of h3, rfl, q _ G H (k.pushf (c := cList cInt) hr)⟩
theorem s1_box {i : Nat} {x : Str} {e : Expr} {te : TE} {p1 p2 p3 pos : Pos} {jc : Nat} {α : Type} {m1 : Res α} {p : Addr} {b : List Int × Int} {Rm : α → Sl} {Γo : α → Ctx} {a : α → Int} {mn : Res Int} (he : EX X T W Γx Γ e te m1 Rm Γo) (hR : ∀ t, Rm t = sI (a t) := by exact fun _ => rfl) (hΓo : ∀ t, Γo t = Γ := by exact fun _ => rfl)
    (h : Γ[i]? = some (some (atP p (bx b))) := by rfl) (hN : X.N[i]? = some x := by rfl) (hv : Vis X.env.scope x := by first | exact Or.inl rfl | exact Or.inr (Or.inl rfl) | exact Or.inr (Or.inr rfl)) (hb : Bd mn m1 (fun t => .ok (a t)) := by intros; repeat (first | ((with_reducible refine Bd.done ?_); exact rfl) | with_reducible refine Bd.okl ?_ | with_reducible refine Bd.assoc ?_ | with_reducible refine Bd.bind fun _ => ?_ | with_reducible refine Bd.eta fun _ => ?_ | with_reducible refine Bd.iteB ?_ ?_ fun _ => ?_ | with_reducible refine Bd.iteE ?_ ?_ fun _ => ?_ | with_reducible refine Bd.ite ?_ ?_ | with_reducible refine Bd.iteL ?_ ?_ | with_reducible refine Bd.assocL ?_ | with_reducible refine Bd.oklL ?_ | with_reducible exact Bd.same | with_reducible exact Bd.at | dsimp only))
    (hd : (x == ("__debug__" : Str)) = false := by decide) (hcd : (x == ("__classdict__" : Str)) = false := by decide) (hpg : ∀ {to ti : TE}, PE X (.Name x p1) to → PE X (.Constant (.int 1) jc p3) ti → PG X (.Subscript (.Name x p1) (.Constant (.int 1) jc p3) p2) (gSub to ti rSetL) := by exact fun h1 h2 => pg_sub h1 h2 set_list)
    (hs : swapsWithSole [.Subscript (.Name x p1) (.Constant (.int 1) jc p3) p2] e pos.line X.env = pure false := by rfl) (hw : swappedStores [.Subscript (.Name x p1) (.Constant (.int 1) jc p3) p2] e X.env = pure none := by rfl) :
    S1 X T W Γx Γ (.Assign [.Subscript (.Name x p1) (.Constant (.int 1) jc p3) p2] e pos) (tAsg te (gSub (tVar i) (tC (.int 1)) rSetL)) mn (fun y => .nx (Γ.set i (some (atP p (bx (b.1, y)))))) := by
  obtain rfl : Rm = fun t => sI (a t) := funext hR
  obtain rfl : Γo = fun _ => Γ := funext hΓo
  refine ⟨ps_asg he.pe (hpg (pv i hN hv hd hcd) pe_int) hs hw, fun Z G0 S σ G H D kk q => ?_⟩
  refine he.ev Z G0 S σ G H _ kk (Res.wp_mono (hb _ _ q) (fun t q y G1 H1 k1 => ?_) fun ex q cls d G' H' k' => q cls d σ G' H' k')
  have hy : y = .int (a t) := k1.tp
  subst hy
  obtain ⟨v, l, hw, k2, back⟩ := k1.drop.take h
  obtain ⟨w, rfl, h3, hr, up⟩ := bx_own k2
  exact ⟨.ref p, hw, p, [w, .int b.2], 1, 1, rfl, rfl, h3, rfl, q σ G1 _ (back _ _ _ (up (a t)))⟩
/-- [digits, place] -/
theorem ex_box {es : List Expr} {pos : Pos} {ta : TA} {α : Type} {m : Res α} {Rs : α → List Sl} {ds : α → List Int} {n : α → Int} {Γo : α → Ctx} (h : AX X T W Γx Γ es ta m Rs Γo) (hR : ∀ t, Rs t = [fz (cList cInt) (ds t), sI (n t)] := by exact fun _ => rfl) :
    EX X T W Γx Γ (.List es pos) (tLst ta) m (fun t => bx (ds t, n t)) Γo := by
  obtain rfl : Rs = fun t => [fz (cList cInt) (ds t), sI (n t)] := funext hR
  refine ⟨pe_lst h.pa, fun Z G0 S σ G H Q k q => h.ev Z G0 S σ G H _ k (Res.wp_mono q (fun t q vs G' H' hl k' => ?_) fun _ z => z)⟩
  obtain ⟨v, w, rfl, hv, hw, k2⟩ := ax2 hl k'
  have hw' : w = .int (n t) := hw
  subst hw'
  refine ⟨(by decide +kernel : 2 ≤ sizeLine), fun pa hp => q _ _ _ ⟨k2.len, k2.ok.layOwn (s := bx (ds t, n t)) hp ⟨pa, v, rfl, rfl, upd_same, hv⟩⟩⟩
/-! ### tests that change what is lent -/
theorem ew_andS {a c : Expr} {rest : List Expr} {pos : Pos} {t u : TT} {α β ν : Type} [Nonempty α] {m1 : Res α} {b1 : α → Bool} {Γ1 : α → Ctx} {m2 : α → Res β} {b2 : α → β → Bool} {Γ2 : α → β → Ctx} {Γs : ν → Ctx} {s1 : α → ν} {s2 : α → β → ν} (h1 : ET X T W Γx Γ a t m1 b1 Γ1) (h2 : ∀ x, EW X T W Γx (Γ1 x) (.BoolOp .And (c :: rest) pos) u (m2 x) (b2 x) (Γ2 x))
    (hΓ1 : ∀ x, Γ1 x = Γs (s1 x) := by exact fun _ => rfl) (hΓ : ∀ x y, Γ2 x y = Γs (s2 x y) := by exact fun _ _ => rfl) : EW X T W Γx Γ (.BoolOp .And (a :: c :: rest) pos) (tAnd t u) (m1.bind fun x => if b1 x then (m2 x).bind fun y => .ok (b2 x y, s2 x y) else .ok (false, s1 x)) (fun r => r.1) (fun r => Γs r.2) := by
  obtain ⟨x⟩ := ‹Nonempty α›
  refine ⟨pw_and h1.pt (h2 x).pw, fun Z G0 S σ G H Q k q => h1.ev Z G0 S σ G H _ k (Res.wp_mono (Res.wp_bind q) (fun x q G' H' k' => ?_) fun _ z => z)⟩
  cases e : b1 x with
  | true =>
    rw [e] at q
    exact (h2 x).ev Z G0 S σ G' H' _ k' (Res.wp_mono (Res.wp_bind (show ((m2 x).bind fun y => Res.ok (b2 x y, s2 x y)).wp _ _ from q)) (fun y q G' H' k' => by
      rw [hΓ] at k'
      exact q G' H' k') fun _ z => z)
  | false =>
    rw [e] at q
    rw [hΓ1] at k'
    exact q G' H' k'
theorem ew_orS {a c : Expr} {rest : List Expr} {pos : Pos} {t u : TT} {α β ν : Type} [Nonempty α] {m1 : Res α} {b1 : α → Bool} {Γ1 : α → Ctx} {m2 : α → Res β} {b2 : α → β → Bool} {Γ2 : α → β → Ctx} {Γs : ν → Ctx} {s1 : α → ν} {s2 : α → β → ν} (h1 : ET X T W Γx Γ a t m1 b1 Γ1) (h2 : ∀ x, EW X T W Γx (Γ1 x) (.BoolOp .Or (c :: rest) pos) u (m2 x) (b2 x) (Γ2 x))
    (hΓ1 : ∀ x, Γ1 x = Γs (s1 x) := by exact fun _ => rfl) (hΓ : ∀ x y, Γ2 x y = Γs (s2 x y) := by exact fun _ _ => rfl) : EW X T W Γx Γ (.BoolOp .Or (a :: c :: rest) pos) (tOr t u) (m1.bind fun x => if b1 x then .ok (true, s1 x) else (m2 x).bind fun y => .ok (b2 x y, s2 x y)) (fun r => r.1) (fun r => Γs r.2) := by
  obtain ⟨x⟩ := ‹Nonempty α›
  refine ⟨pw_or h1.pt (h2 x).pw, fun Z G0 S σ G H Q k q => h1.ev Z G0 S σ G H _ k (Res.wp_mono (Res.wp_bind q) (fun x q G' H' k' => ?_) fun _ z => z)⟩
  cases e : b1 x with
  | true =>
    rw [e] at q
    rw [hΓ1] at k'
    exact q G' H' k'
  | false =>
    rw [e] at q
    exact (h2 x).ev Z G0 S σ G' H' _ k' (Res.wp_mono (Res.wp_bind (show ((m2 x).bind fun y => Res.ok (b2 x y, s2 x y)).wp _ _ from q)) (fun y q G' H' k' => by
      rw [hΓ] at k'
      exact q G' H' k') fun _ z => z)
/-! ### a def that lends -/
section
variable {P : Program} {w : World} {mg : Str → Option Value} {base : Heap}
theorem fn_mkL {x qual : Str} {st : Stmt} {f : Addr} {fd : FuncData} {N ps : List Str} {k n : Nat} {ξ ρ β : Type} {A : ξ → List (Option Sl)} {F : β → Sl} {g : β → ξ → Res (ρ × β)} {R : ρ → Sl} (FF : Fun K x qual st f fd) (Sc : FnScope N ps (defScope st)) (hn : ps.length = n + 1)
    (hbody : ∀ (cdv : Value) (Ar : Around) (outer : List Env) (s : Shared) (H : Hp) (E : XK), Room k (Ar.deeper (PyProof.Rows.envOfC qual (defScope st) s.heap.objs.size f cdv)) → Takes (cxOf (L2.CX P w) P w K mg base N qual (defScope st) f cdv Ar outer s H E) (fun cls d _ H => E cls d H) →
      PassesOwn (model P w) (Ar.deeper (PyProof.Rows.envOfC qual (defScope st) s.heap.objs.size f cdv)) (PyProof.Rows.envOfC qual (defScope st) s.heap.objs.size f cdv) (cxOf (L2.CX P w) P w K mg base N qual (defScope st) f cdv Ar outer s H E).xe → ∀ (p : Addr) (b : β) (a : ξ), (A a).length = n →
      ∃ ts, SX (cxOf (L2.CX P w) P w K mg base N qual (defScope st) f cdv Ar outer s H E) T (fun cls d _ H => E cls d H) (List.replicate N.length none) (some (atP p (F b)) :: (A a ++ List.replicate (N.length - (n + 1)) none)) (defBody st) ts (g b a) (fun r => .ret (R r.1) [(some (atP p (F r.2)), some (.ref p))])) :
    FnOk P w K mg base (L2.CX P w) (k + 1) f fd ps (spL n T A F g R) := by
  refine FF.okX Sc (fun vs H Q E h => ?_) (fun cdv Ar outer s H vs Q E hr h => ?_)
  · obtain ⟨p, vs', _, _, _, _, _, h1, h2, _⟩ := h
    rw [h1, hn, List.length_cons, h2]
  · obtain ⟨p, vs', b, a, Z, G0, G, rfl, h1, h2, h3, h4⟩ := h
    obtain ⟨ts, hs⟩ := hbody cdv Ar outer s H E hr (takes_of rfl rfl rfl rfl) (passes_of rfl) p b a h2
    refine ⟨ts, hs.ps, hs.ev Z G0 [] _ G H _ ⟨?_, ?_⟩ (Res.wp_mono h4 (fun r q v G' H' k' => q v G' H' k') fun ex q cls d σ' G' H' k' => q cls d G' H' k'.bare)⟩
    · unfold L2.start
      rw [List.length_cons, List.length_append, List.length_append, List.length_map, List.length_replicate, List.length_replicate, List.length_cons, h1, h2]
      omega
    · unfold L2.start
      show Okl Z G0 ((some (atP p (F b)) :: (A a ++ List.replicate (N.length - (n + 1)) none)).zip (some (.ref p) :: (vs'.map some ++ List.replicate (N.length - (vs'.length + 1)) none))) G H
      rw [List.zip_cons_cons, List.zip_append (by rw [h2, List.length_map, h1]), h1]
      have go : ∀ j, Okl Z G0 ((some (atP p (F b)), some (.ref p)) :: ((A a).zip (vs'.map some) ++ (List.replicate j none).zip (List.replicate j none))) G H := by
        intro j
        induction j with
        | zero => simpa using h3
        | succ j ih =>
          refine Okl.perm ?_ (mid.symm.cons _)
          refine Okl.perm ?_ (List.Perm.swap _ _ _)
          obtain ⟨ps, z1, z2, z3⟩ := ih.own
          exact ⟨ih.zh, ih.gg, ih.gh, ih.fr, ps, ⟨[], ps, rfl, rfl, z1⟩, z2, z3⟩
      exact go _
end
end
end Rt
/-! Rt14: texts of numbers, join. -/
namespace Rt
open PySem L2 R
section
variable {X : Cx} {T : XT} {W : WX} {Γx Γ : Ctx} {K : PySem.W.Frag}
theorem b_str {i : Int} : CallOk (fun xs H Q => ∃ i, xs = [.int i] ∧ i.natAbs.log2 < 1920 ∧ Q (.str (toString i)) H) [sI i] (R.strI i) (fun t => sT t) := co1 (f := fun t => t) (chk_ne ok_ne) fun G H v Q e h z hz q => by
  obtain ⟨h1, h2⟩ := chk_ok hz
  cases h2
  simp only [Bool.and_eq_true, decide_eq_true_eq] at h1
  exact ⟨i, congrArg (fun v => [v]) h, h1.1, q _ ⟨congrArg V.str (of_tx (toString i)), h1.2⟩⟩
/-! ### join -/
theorem sv_app (a b : Tx) : (⟨a.toArray⟩ : Str) ++ ⟨b.toArray⟩ = ⟨(a ++ b).toArray⟩ := by
  show Str.append _ _ = _
  unfold Str.append
  simp
theorem join_sv (sep : Tx) : ∀ ps : List Tx, Str.join ⟨sep.toArray⟩ (ps.map fun p => (⟨p.toArray⟩ : Str)) = ⟨(R.joinT sep ps).toArray⟩
  | [] => rfl
  | [p] => rfl
  | p :: q :: r => by
    show (⟨p.toArray⟩ : Str) ++ ⟨sep.toArray⟩ ++ Str.join ⟨sep.toArray⟩ ((q :: r).map fun p => (⟨p.toArray⟩ : Str)) = _
    rw [join_sv sep (q :: r), sv_app, sv_app]
    show _ = (⟨(p ++ (sep ++ R.joinT sep (q :: r))).toArray⟩ : Str)
    rw [List.append_assoc]
theorem joinT_len (sep : Tx) : ∀ ps : List Tx, (R.joinT sep ps).length ≤ (ps.map List.length).sum + ps.length * sep.length
  | [] => Nat.zero_le _
  | [p] => by
    show p.length ≤ _
    simp only [List.map_cons, List.map_nil, List.sum_cons, List.sum_nil]
    omega
  | p :: q :: r => by
    have h := joinT_len sep (q :: r)
    show (p ++ (sep ++ R.joinT sep (q :: r))).length ≤ _
    rw [List.length_append, List.length_append, List.map_cons, List.sum_cons, List.length_cons (a := p), Nat.succ_mul]
    omega
theorem txs_of {G : Hp} : ∀ {vs : List V} {ts : List Tx}, Paired (cTx.rel G) vs ts → vs = (ts.map fun p => (⟨p.toArray⟩ : Str)).map V.str
  | _, _, .nil => rfl
  | _, _, .cons (a := v) (b := b) h r => by rw [show v = sv b from h.1, txs_of r]; rfl
theorem ex_join {o e : Expr} {to te : TE} {apos pos : Pos} {α β : Type} [Nonempty α] {m1 : Res α} {sep : α → Tx} {Γ1 : α → Ctx} {m2 : α → Res β} {ps : α → β → List Tx} {Γ2 : α → β → Ctx} (ho : EX X T W Γx Γ o to m1 (fun a => sT (sep a)) Γ1) (he : ∀ a, EX X T W Γx (Γ1 a) e te (m2 a) (fun b => fz (cList cTx) (ps a b)) (Γ2 a)) (hK : X.K = K := by rfl)
    (hs : starEach [e] X.env = [(false, eval e X.env)] := by rfl) (hbase : attributeBase o "join" X.env (eval o X.env) = eval o X.env := by rfl) (hline : (apos.endLine == pos.line) = true := by rfl) :
    EX X T W Γx Γ (.Call (.Attribute o "join" apos) [e] [] pos) (tM1 (fun x xs H Q => ∃ a p, ∃ ys : List Str, x = .str a ∧ xs = [.ref p] ∧ (SqL X.K H p (ys.map V.str) ∨ SqT X.K H p (ys.map V.str)) ∧
      (ys.map (·.length)).sum + ys.length * a.length ≤ 16777216 ∧ Q (.str (Txt.join a ys)) H) to te) (m1.bind fun a => (m2 a).bind fun b => (R.joinS (sep a) (ps a b)).bind fun t => .ok (a, b, t)) (fun t => sT t.2.2) (fun t => Γ2 t.1 t.2.1) := by
  obtain ⟨a0⟩ := ‹Nonempty α›
  refine ⟨pe_join ho.pe (he a0).pe hs hbase hline, fun Z G0 S σ G H Q k q => ?_⟩
  refine ho.ev Z G0 S σ G H _ k (Res.wp_mono (Res.wp_bind q) (fun a q v G' H' k' => ?_) fun ex q => q)
  have hv := k'.tp
  obtain ⟨rfl, hl⟩ := hv
  refine ⟨⟨_, rfl⟩, ?_⟩
  refine (he a).ev Z G0 _ σ G' H' _ k' (Res.wp_mono (Res.wp_bind q) (fun b q w G2 H2 k2 => ?_) fun ex q cls d G' H' k' => q cls d G' H' k'.drop)
  obtain ⟨t, e, q3⟩ := wp_cases (Res.wp_bind q) (chk_ne ok_ne)
  obtain ⟨e3, e4⟩ := chk_ok e
  cases e4
  have e3 := of_decide_eq_true e3
  obtain ⟨p, vs, rfl, hp, hr⟩ := k2.tp
  have hz : (((ps a b).map fun p => (⟨p.toArray⟩ : Str)).map (·.length)).sum + ((ps a b).map fun p => (⟨p.toArray⟩ : Str)).length * (⟨(sep a).toArray⟩ : Str).length ≤ 16777216 := by
    rw [List.map_map, List.length_map, sv_len]
    have : ((fun x : Str => x.length) ∘ fun p : Tx => (⟨p.toArray⟩ : Str)) = List.length := funext fun p => sv_len p
    rw [this]
    exact e3
  refine ⟨_, p, (ps a b).map fun p => ⟨p.toArray⟩, rfl, rfl, .inl ?_, hz, ?_⟩
  · rw [← txs_of hr, hK]
    exact SqL.of (k2.ok.gh p _ hp)
  · rw [TL.join_eq, join_sv]
    exact q3 _ G2 H2 (k2.drop.drop.pushf (c := cTx) ⟨rfl, Nat.le_trans (joinT_len _ _) e3⟩)
end
end Rt
/-! Rt15: truth of numbers and texts; range by steps, enumerate, zip. -/
namespace Rt
open PySem L2 R
section
variable {X : Cx} {T : XT} {W : WX} {Γx Γ : Ctx} {K : PySem.W.Frag}
theorem et_int {e : Expr} {te : TE} {α : Type} {m : Res α} {i : α → Int} {Γo : α → Ctx} (h : EX X T W Γx Γ e te m (fun a => sI (i a)) Γo) (hK : X.K = K := by rfl) (he : ∀ whole, isTrue e X.env whole = (do let v ← whole; standAt e.pos; holding [v] (truthy v)) := by intro _; rfl) :
    ET X T W Γx Γ e (fun σ H Q => te σ H fun x H' => ∃ k, TruV K x H' k ∧ Q k H') m (fun a => !decide (i a = 0)) Γo := by
  subst hK
  refine ⟨pt_truth h.pe he, fun Z G0 S σ G H Q k q => h.ev Z G0 S σ G H _ k (Res.wp_mono q (fun t q v G' H' k' => ?_) fun _ z => z)⟩
  have hv : v = .int (i t) := k'.tp
  subst hv
  refine ⟨_, rfl, ?_⟩
  have e : (i t != 0) = !decide (i t = 0) := by
    rw [Bool.eq_iff_iff]
    simp
  rw [e]
  exact q G' H' k'.drop
theorem et_tx {e : Expr} {te : TE} {α : Type} {m : Res α} {i : α → Tx} {Γo : α → Ctx} (h : EX X T W Γx Γ e te m (fun a => sT (i a)) Γo) (hK : X.K = K := by rfl) (he : ∀ whole, isTrue e X.env whole = (do let v ← whole; standAt e.pos; holding [v] (truthy v)) := by intro _; rfl) :
    ET X T W Γx Γ e (fun σ H Q => te σ H fun x H' => ∃ k, TruV K x H' k ∧ Q k H') m (fun a => !decide (i a = [])) Γo := by
  subst hK
  refine ⟨pt_truth h.pe he, fun Z G0 S σ G H Q k q => h.ev Z G0 S σ G H _ k (Res.wp_mono q (fun t q v G' H' k' => ?_) fun _ z => z)⟩
  obtain ⟨rfl, hl⟩ : v = sv (i t) ∧ (i t).length ≤ R.line := k'.tp
  refine ⟨_, ⟨by rw [sv_len, ← line_eq]; exact hl, rfl⟩, ?_⟩
  have e : (((⟨(i t).toArray⟩ : Str).length : Int) != 0) = !decide (i t = []) := by
    rw [sv_len, Bool.eq_iff_iff]
    simp
  rw [e]
  exact q G' H' k'.drop
theorem et_list {e : Expr} {te : TE} {α γ : Type} {c : Cod γ} {m : Res α} {i : α → List γ} {Γo : α → Ctx} (h : EX X T W Γx Γ e te m (fun a => fz (cList c) (i a)) Γo) (hK : X.K = K := by rfl) (he : ∀ whole, isTrue e X.env whole = (do let v ← whole; standAt e.pos; holding [v] (truthy v)) := by intro _; rfl) :
    ET X T W Γx Γ e (fun σ H Q => te σ H fun x H' => ∃ k, TruV K x H' k ∧ Q k H') m (fun a => !(i a).isEmpty) Γo := by
  subst hK
  refine ⟨pt_truth h.pe he, fun Z G0 S σ G H Q k q => h.ev Z G0 S σ G H _ k (Res.wp_mono q (fun t q v G' H' k' => ?_) fun _ z => z)⟩
  obtain ⟨p, vs, rfl, hp, hr⟩ := k'.tp
  refine ⟨_, .inl ⟨vs, SqL.of (k'.ok.gh p _ hp), rfl⟩, ?_⟩
  have e : (!vs.isEmpty) = !(i t).isEmpty := by
    have hl := hr.length
    cases vs <;> cases h : i t <;> simp_all
  rw [e]
  exact q G' H' k'.drop
/-! ### enumerate -/
theorem enumL_get {α : Type} {xs : List α} {i : Nat} {y : Int × α} (h : (R.enumL xs)[i]? = some y) : y.1 = (i : Int) ∧ xs[i]? = some y.2 := by
  unfold R.enumL at h
  rw [List.getElem?_zipWith] at h
  cases e1 : (List.range xs.length)[i]? with
  | none => rw [e1] at h; simp at h
  | some j =>
    cases e2 : xs[i]? with
    | none => rw [e1, e2] at h; simp at h
    | some x =>
      rw [e1, e2] at h
      have h' := Option.some.inj h
      subst h'
      have hi := (List.getElem?_eq_some_iff.mp e1).1
      rw [List.length_range] at hi
      rw [List.getElem?_range hi] at e1
      cases e1
      exact ⟨rfl, rfl⟩
theorem enumL_len {α : Type} (xs : List α) : (R.enumL xs).length = xs.length := by
  unfold R.enumL
  rw [List.length_zipWith, List.length_range, Nat.min_self]
theorem src_enum {α : Type} {c : Cod α} {a : Addr} {vs : List V} {xs : List α} {G1 : Hp} (hs : SqL K G1 a vs) (hp : Paired (c.rel G1) vs xs) : Src (Ite K a) (R.enumL xs) (fz (cTup K (dCons cInt (dOne c)))) G1 :=
  ⟨fun H => SqL K H a vs, YPair (fun i => some (.int (i : Nat))) (fun i => vs[i]?), by rw [enumL_len, ← hp.length]; exact walk_enum, fun H e => Evl.ex_l e hs, fun i y hy H v H' z Z G0 l G e k => by
    obtain ⟨T, x1, x2, rfl, hT, rfl, h1, h2⟩ := z
    cases h1
    obtain ⟨e1, e2⟩ := enumL_get hy
    have hr := paired_get (c := c) hp h2 e2
    refine ⟨_, (k.lay (o := .tup [.int (i : Nat), x2]) hT).push ⟨T, [.int (i : Nat), x2], rfl, SqT.of upd_same, .int (i : Nat), [x2], rfl, by show V.int _ = V.int _; rw [e1], x2, rfl, c.mono (c.mono hr e) (Evl.Ex.new (Evl.fresh_back k.gh hT))⟩⟩⟩
theorem ix_enum {e : Expr} {te : TA} {p pos tpos : Pos} {elts : List Expr} {kk : Nat} {α β : Type} {c : Cod β} {m : Res α} {xs : α → List β} {Γo : α → Ctx} (ha : AX X T W Γx Γ [e] te m (fun a => [fz (cList c) (xs a)]) Γo) (hm : X.mg "enumerate" = none) (hK : X.K = K := by rfl) (hg : Gl X "enumerate" := by rfl) (hs : starEach [e] X.env = [(false, eval e X.env)] := by rfl) :
    IX X T W Γx Γ (.Tuple elts kk tpos) (.Call (.Name "enumerate" p) [e] [] pos) (iEnum K te) m (fun a => R.enumL (xs a)) (fz (cTup K (dCons cInt (dOne c)))) Γo := by
  subst hK
  refine ⟨pi_enum hg hm ha.pa hs, fun Z G0 S σ G H Rk k q => ha.ev Z G0 S σ G H _ k (Res.wp_mono q (fun a q vs G' H' hl k' => ?_) fun _ z => z)⟩
  obtain ⟨v, rfl, ⟨p, ws, rfl, hp, hr⟩, k2⟩ := ax1 hl k'
  exact ⟨p, ws, rfl, SqL.of (k2.ok.gh p _ hp), q _ G' H' k2 (src_enum (SqL.of hp) hr)⟩
/-! ### range by steps -/
theorem small_c {a b c : Int} (ha : -(2 ^ 62) ≤ a) (ha' : a < 2 ^ 62) (hb : -(2 ^ 62) ≤ b) (hb' : b < 2 ^ 62) (hc : 0 < c) (hc' : c < 1073741824) : Builtin.Range.small a b c = true := by
  unfold Builtin.Range.small Builtin.Range.rangeSize
  have h1 : (b - a - 1) / c ≤ b - a - 1 ∨ b - a - 1 < 0 := by
    rcases Int.lt_or_le (b - a - 1) 0 with h | h
    · exact .inr h
    · exact .inl (Int.ediv_le_self _ h)
  have h0 : 0 ≤ b - a - 1 → 0 ≤ (b - a - 1) / c := fun h => Int.ediv_nonneg h (by omega)
  simp only [Builtin.Range.rangeFitsLong, Bool.and_eq_true, Bool.or_eq_true, decide_eq_true_eq, beq_iff_eq, gt_iff_lt, hc, if_true]
  split <;> omega
theorem size_c {a b c : Int} (hc : 0 < c) : Builtin.Range.rangeSize a b c = (R.rangeN a b c : Int) := by
  unfold Builtin.Range.rangeSize R.rangeN
  rw [if_pos hc]
  split
  · next h =>
    have := Int.ediv_nonneg (a := b - a - 1) (b := c) (by omega) (by omega)
    omega
  · rfl
theorem src_rangeC {a b c : Int} {G1 : Hp} : Src (Itc a c (R.rangeN a b c)) (R.rangeC a b c) sI G1 :=
  ⟨fun _ => True, YFn fun i => .int (a + (i : Nat) * c), by
    have z : (R.rangeC a b c).length = R.rangeN a b c := by unfold R.rangeC; simp
    rw [z]
    exact walk_rangeC, fun _ _ => trivial, fun i x hx H v H' y Z G0 l G e k => by
    obtain ⟨rfl, rfl⟩ := y
    refine ⟨G, k.push (c := cInt) ?_⟩
    unfold R.rangeC at hx
    rw [List.getElem?_map] at hx
    cases e1 : (List.range (R.rangeN a b c))[i]? with
    | none => rw [e1] at hx; cases hx
    | some j =>
      rw [e1] at hx
      cases hx
      have hi := (List.getElem?_eq_some_iff.mp e1).1
      rw [List.length_range] at hi
      rw [List.getElem?_range hi] at e1
      cases e1
      rfl⟩
theorem ax3 {Z G0 G H : Hp} {S : List Pl} {σ : St} {α β γ : Type} {c : Cod α} {d : Cod β} {f : Cod γ} {a : α} {b : β} {g : γ} {vs : List V} (hl : [fz c a, fz d b, fz f g].length = vs.length) (k : Okc Z G0 (plz [fz c a, fz d b, fz f g] vs ++ S) Γ σ G H) : ∃ v w u, vs = [v, w, u] ∧ c.rel G v a ∧ d.rel G w b ∧ f.rel G u g ∧ Okc Z G0 S Γ σ G H := by
  match vs, hl with
  | [v, w, u], _ =>
    have k' : Okc Z G0 ((some (fz c a), some v) :: (some (fz d b), some w) :: (some (fz f g), some u) :: S) Γ σ G H := k
    exact ⟨v, w, u, rfl, k'.tp, k'.drop.tp, k'.drop.drop.tp, k'.drop.drop.drop⟩
theorem ix_range3 {e e2 e3 tg : Expr} {p pos : Pos} {ta : TA} {α : Type} {m : Res α} {lo n st : α → Int} {Γo : α → Ctx} (ha : AX X T W Γx Γ [e, e2, e3] ta m (fun a => [sI (lo a), sI (n a), sI (st a)]) Γo) (hm : X.mg "range" = none) (hg : Gl X "range" := by rfl)
    (hs : starEach [e, e2, e3] X.env = (false, eval e X.env) :: starEach [e2, e3] X.env := by rfl) (hpl : (backTo pos (starEach [e2, e3] X.env)).any (·.1) = false := by rfl) :
    IX X T W Γx Γ tg (.Call (.Name "range" p) [e, e2, e3] [] pos) (iRng3 ta) (m.bind fun a => (R.rngC (lo a) (n a) (st a)).bind fun xs => .ok (a, xs)) (fun t => t.2) sI (fun t => Γo t.1) := by
  refine ⟨pi_range3 hg hm ha.pa hs hpl, fun Z G0 S σ G H Rk k q => ha.ev Z G0 S σ G H _ k (Res.wp_mono (Res.wp_bind q) (fun a q vs G' H' hl k' => ?_) fun _ z => z)⟩
  obtain ⟨v, w, u, rfl, hv, hw, hu, k2⟩ := ax3 hl k'
  obtain ⟨xs, e, q3⟩ := wp_cases (Res.wp_bind q) (chk_ne ok_ne)
  obtain ⟨h1, h2⟩ := chk_ok e
  cases h2
  simp only [Bool.and_eq_true, decide_eq_true_eq] at h1
  obtain ⟨b1, b2, b3, b4, b5, b6⟩ := h1
  exact ⟨lo a, n a, st a, R.rangeN (lo a) (n a) (st a), by rw [show v = .int (lo a) from hv, show w = .int (n a) from hw, show u = .int (st a) from hu], ⟨by omega, by omega, small_c b1 b2 b3 b4 b5 b6, size_c b5⟩, q3 _ G' H' k2 src_rangeC⟩
end
end Rt
/-! Rt16: objects whose fields are frozen: fields, stores while they are made, methods, constructors. -/
namespace Rt
open PySem L2 R
/-- what a field holds -/
structure Fz where
  rel : Hp → V → Prop
  mono : ∀ {G G' : Hp} {v : V}, rel G v → Ex G G' → rel G' v
def fzv {α : Type} (c : Cod α) (a : α) : Fz := ⟨fun G v => c.rel G v a, fun h e => c.mono h e⟩
abbrev Fs := List (Str × Fz)
def FsR (G : Hp) (f : Str × V) (x : Str × Fz) : Prop := f.1 = x.1 ∧ x.2.rel G f.2
theorem FsR.mono {G G' : Hp} {f : Str × V} {x : Str × Fz} (h : FsR G f x) (e : Ex G G') : FsR G' f x := ⟨h.1, x.2.mono h.2 e⟩
/-- an object that is being made, or whose fields change: owned -/
def pob (C : Addr) (l : Fs) : Sl := ⟨fun G H v ps => ∃ p dx fs, v = .ref p ∧ ps = [p] ∧ H p = some (.ins C dx fs) ∧ Paired (FsR G) fs l, fun h e k => by
  obtain ⟨p, dx, fs, h1, h2, h3, h4⟩ := h
  refine ⟨p, dx, fs, h1, h2, ?_, Paired.mono (fun _ _ q => q.mono e) h4⟩
  rw [k p (by rw [h2]; exact List.mem_cons_self)]
  exact h3⟩
/-- an object that never changes -/
def cobj {α : Type} (C : Addr) (f : α → Fs) : Cod α := ⟨fun G v a => ∃ p dx fs, v = .ref p ∧ G p = some (.ins C dx fs) ∧ Paired (FsR G) fs (f a), fun h e => by
  obtain ⟨p, dx, fs, h1, h2, h3⟩ := h
  exact ⟨p, dx, fs, h1, e p _ h2, Paired.mono (fun _ _ q => q.mono e) h3⟩⟩
theorem nn_obj {α : Type} {C : Addr} {f : α → Fs} (G : Hp) (v : V) (b : α) (h : (cobj C f).rel G v b) : v ≠ .non := fun z => by
  obtain ⟨p, _, _, e, _⟩ := h
  rw [e] at z
  cases z
theorem fs_lookup {G : Hp} {n : Str} {z : Fz} : ∀ {fs : List (Str × V)} {l : Fs}, Paired (FsR G) fs l → l.lookup n = some z → ∃ v, fs.lookup n = some v ∧ z.rel G v
  | _, _, .nil, h => by cases h
  | (g, v) :: fs, (g', x) :: l, .cons r t, h => by
    obtain ⟨rfl, r2⟩ : g = g' ∧ x.rel G v := r
    rw [List.lookup_cons] at h
    rw [List.lookup_cons]
    cases e : n == g with
    | true =>
      rw [e] at h
      cases h
      exact ⟨v, rfl, r2⟩
    | false =>
      rw [e] at h
      exact fs_lookup t h
theorem fs_none {G : Hp} {n : Str} : ∀ {fs : List (Str × V)} {l : Fs}, Paired (FsR G) fs l → l.lookup n = none → fs.lookup n = none
  | _, _, .nil, _ => rfl
  | (g, v) :: fs, (g', x) :: l, .cons r t, h => by
    obtain ⟨rfl, r2⟩ : g = g' ∧ x.rel G v := r
    rw [List.lookup_cons] at h
    rw [List.lookup_cons]
    cases e : n == g with
    | true => rw [e] at h; cases h
    | false =>
      rw [e] at h
      exact fs_none t h
/-- a field is stored -/
def putS (n : Str) (z : Fz) : Fs → Fs
  | [] => [(n, z)]
  | (g, x) :: r => if g = n then (g, z) :: r else (g, x) :: putS n z r
theorem fs_put {G : Hp} {n : Str} {z : Fz} {v : V} (hz : z.rel G v) : ∀ {fs : List (Str × V)} {l : Fs}, Paired (FsR G) fs l → Paired (FsR G) (putF n v fs) (putS n z l)
  | _, _, .nil => .cons ⟨rfl, hz⟩ .nil
  | (g, w) :: fs, (g', x) :: l, .cons r t => by
    obtain ⟨rfl, r2⟩ : g = g' ∧ x.rel G w := r
    unfold putF putS
    by_cases h : g = n
    · rw [if_pos h, if_pos h]
      exact .cons ⟨rfl, hz⟩ t
    · rw [if_neg h, if_neg h]
      exact .cons ⟨rfl, r2⟩ (fs_put hz t)
theorem paired_cat {α β : Type} {F : α → β → Prop} {vs vs' : List α} {xs xs' : List β} (h : Paired F vs xs) (h' : Paired F vs' xs') : Paired F (vs ++ vs') (xs ++ xs') := by
  induction h with
  | nil => exact h'
  | cons r _ ih => exact .cons r ih
theorem putF_new {n : Str} {v : V} : ∀ {fs : List (Str × V)}, (fs.map (·.1)).contains n = false → putF n v fs = fs ++ [(n, v)]
  | [], _ => rfl
  | (g, x) :: r, h => by
    rw [List.map_cons, List.contains_cons, Bool.or_eq_false_iff] at h
    unfold putF
    rw [if_neg (fun z : g = n => by rw [z] at h; simp at h), putF_new h.2]
    rfl
theorem fs_names {G : Hp} : ∀ {fs : List (Str × V)} {l : Fs}, Paired (FsR G) fs l → fs.map (·.1) = l.map (·.1)
  | _, _, .nil => rfl
  | (g, v) :: fs, (g', x) :: l, .cons r t => by
    have e : g = g' := r.1
    rw [List.map_cons, List.map_cons, fs_names t, e]
theorem pob_own {Z G0 G H : Hp} {l : List Pl} {p C : Addr} {fl : Fs} {v : V} (k : Okl Z G0 ((some (atP p (pob C fl)), some v) :: l) G H) : ∃ dx fs, v = .ref p ∧ H p = some (.ins C dx fs) ∧ Paired (FsR G) fs fl ∧
    ∀ fs' fl', Paired (FsR G) fs' fl' → Okl Z G0 ((some (atP p (pob C fl')), some v) :: l) G (upd H p (.ins C dx fs')) := by
  obtain ⟨ps, ⟨p1, p2, _, ⟨v', e1, rfl, p', dx, fs, e2, e3, h3, hr⟩, _⟩, _, _⟩ := k.own
  cases e1
  cases e2
  refine ⟨dx, fs, rfl, h3, hr, fun fs' fl' h' => k.write (p := p) (fun v ps e r => ?_) ⟨rfl, p, dx, fs', rfl, rfl, upd_same, h'⟩⟩
  obtain ⟨rfl, p', _, _, e2, e4, _⟩ := r
  cases e2
  exact e4
section
variable {X : Cx} {T : XT} {W : WX} {Γx Γ : Ctx} {K : PySem.W.Frag}
/-- o.n of an object that never changes -/
theorem ex_fld {o : Expr} {ta : TE} {n : Str} {pos : Pos} {C : Addr} {α β γ : Type} {m : Res α} {f : β → Fs} {b : α → β} {c : Cod γ} {g : β → γ} {Γo : α → Ctx} (he : EX X T W Γx Γ o ta m (fun t => fz (cobj C f) (b t)) Γo) (cl : Cls K C) (na : NoAttr K C n) (hf : ∀ b, (f b).lookup n = some (fzv c (g b)) := by exact fun _ => rfl) (hK : X.K = K := by rfl)
    (hb : attributeBase o n X.env (eval o X.env) = eval o X.env := by rfl) : EX X T W Γx Γ (.Attribute o n pos) (tFld K ta n) m (fun t => fz c (g (b t))) Γo := by
  subst hK
  refine ⟨pe_fld he.pe hb, fun Z G0 S σ G H Q k q => he.ev Z G0 S σ G H _ k (Res.wp_mono q (fun t q v G' H' k' => ?_) fun _ z => z)⟩
  obtain ⟨p, dx, fs, rfl, hp, hr⟩ := k'.tp
  obtain ⟨w, hw, rw_⟩ := fs_lookup hr (hf (b t))
  exact ⟨p, C, dx, fs, w, rfl, k'.ok.gh p _ hp, cl, na, hw, q w G' H' (k'.drop.pushf rw_)⟩
/-- self.n of an object at hand that is owned -/
theorem ex_fldO (i : Nat) {x n : Str} {p C : Addr} {p1 pos : Pos} {fl : Fs} {γ : Type} {c : Cod γ} {g : γ} (cl : Cls K C) (na : NoAttr K C n) (h : Γ[i]? = some (some (atP p (pob C fl))) := by rfl) (hf : fl.lookup n = some (fzv c g) := by rfl) (hN : X.N[i]? = some x := by rfl)
    (hv : Vis X.env.scope x := by first | exact Or.inl rfl | exact Or.inr (Or.inl rfl) | exact Or.inr (Or.inr rfl)) (hK : X.K = K := by rfl) (hd : (x == ("__debug__" : Str)) = false := by decide) (hcd : (x == ("__classdict__" : Str)) = false := by decide)
    (hb : attributeBase (.Name x p1) n X.env (eval (.Name x p1) X.env) = eval (.Name x p1) X.env := by rfl) : EX X T W Γx Γ (.Attribute (.Name x p1) n pos) (tFld K (tVar i) n) (.ok ()) (fun _ => fz c g) (fun _ => Γ) := by
  subst hK
  refine ⟨pe_fld (pv i hN hv hd hcd) hb, fun Z G0 S σ G H Q k q => ?_⟩
  obtain ⟨v, l, hw, k1, _⟩ := k.take h
  obtain ⟨dx, fs, rfl, h3, hr, _⟩ := pob_own k1
  obtain ⟨w, hw2, rw_⟩ := fs_lookup hr hf
  exact ⟨_, hw, p, C, dx, fs, w, rfl, h3, cl, na, hw2, q w G H (k.pushf rw_)⟩
/-- self.n = e -/
theorem s1_fld {i : Nat} {x n : Str} {e : Expr} {te : TE} {p1 p2 pos : Pos} {p C : Addr} {α γ : Type} {m1 : Res α} {fl : Fs} {c : Cod γ} {Rm : α → Sl} {Γo : α → Ctx} {a : α → γ} {mn : Res γ} {ns : List Str} (cl : Cls K C) (na : NoAttr K C n) (he : EX X T W Γx Γ e te m1 Rm Γo) (hR : ∀ t, Rm t = fz c (a t) := by exact fun _ => rfl) (hΓo : ∀ t, Γo t = Γ := by exact fun _ => rfl)
    (h : Γ[i]? = some (some (atP p (pob C fl))) := by rfl) (hl : Nat.ble (fl.length + 1) 1000 = true := by rfl) (hns : fl.map (·.1) = ns := by rfl) (hnew : ns.contains n = false := by decide +kernel) (hN : X.N[i]? = some x := by rfl) (hv : Vis X.env.scope x := by first | exact Or.inl rfl | exact Or.inr (Or.inl rfl) | exact Or.inr (Or.inr rfl)) (hb : Bd mn m1 (fun t => .ok (a t)) := by intros; repeat (first | ((with_reducible refine Bd.done ?_); exact rfl) | with_reducible refine Bd.okl ?_ | with_reducible refine Bd.assoc ?_ | with_reducible refine Bd.bind fun _ => ?_ | with_reducible refine Bd.eta fun _ => ?_ | with_reducible refine Bd.iteB ?_ ?_ fun _ => ?_ | with_reducible refine Bd.iteE ?_ ?_ fun _ => ?_ | with_reducible refine Bd.ite ?_ ?_ | with_reducible refine Bd.iteL ?_ ?_ | with_reducible refine Bd.assocL ?_ | with_reducible refine Bd.oklL ?_ | with_reducible exact Bd.same | with_reducible exact Bd.at | dsimp only))
    (hK : X.K = K := by rfl) (hd : (x == ("__debug__" : Str)) = false := by decide) (hcd : (x == ("__classdict__" : Str)) = false := by decide) (hs : swapsWith e (some (.Attribute (.Name x p1) n p2)) pos.line X.env = pure false := by rfl) :
    S1 X T W Γx Γ (.Assign [.Attribute (.Name x p1) n p2] e pos) (sFld K (tVar i) te n) mn (fun y => .nx (Γ.set i (some (atP p (pob C (fl ++ [(n, fzv c y)])))))) := by
  subst hK
  obtain rfl : Rm = fun t => fz c (a t) := funext hR
  obtain rfl : Γo = fun _ => Γ := funext hΓo
  refine ⟨ps_fld (pv i hN hv hd hcd) he.pe hs, fun Z G0 S σ G H D kk q => ?_⟩
  refine he.ev Z G0 S σ G H _ kk (Res.wp_mono (hb _ _ q) (fun t q y G1 H1 k1 => ?_) fun ex q cls d G' H' k' => q cls d σ G' H' k')
  have hy := k1.tp
  obtain ⟨v, l, hw, k2, back⟩ := k1.drop.take h
  obtain ⟨dx, fs, rfl, h3, hr, up⟩ := pob_own k2
  have hp : Paired (FsR G1) (putF n y fs) (fl ++ [(n, fzv c (a t))]) := by
    rw [putF_new (by rw [fs_names hr, hns]; exact hnew)]
    have h1 : Paired (FsR G1) [(n, y)] [(n, fzv c (a t))] := .cons ⟨rfl, hy⟩ .nil
    exact paired_cat hr h1
  refine ⟨.ref p, hw, p, C, dx, fs, rfl, h3, cl, na, ?_, q σ G1 _ (back _ _ _ (up _ _ hp))⟩
  rw [hr.length]
  exact Nat.le_of_ble_eq_true hl
/-- owned, and from now on frozen -/
theorem Okl.icyOb {Z G0 G H : Hp} {l : List Pl} {α : Type} {p C : Addr} {f : α → Fs} {a : α} {v : V} (k : Okl Z G0 ((some (atP p (pob C (f a))), some v) :: l) G H) : ∃ G', Okl Z G0 ((some (fz (cobj C f) a), some v) :: l) G' H := by
  obtain ⟨ps, ⟨p1, p2, _, ⟨v', e1, rfl, p', dx, fs, e2, e3, h3, hr⟩, _⟩, _, h4⟩ := k.own
  cases e1
  cases e2
  subst e3
  refine ⟨upd G p (.ins C dx fs), k.freeze (p := p) (fun v ps e r => ?_) h3 ⟨p, dx, fs, rfl, upd_same, Paired.mono (fun _ _ q => q.mono (Evl.Ex.new ?_)) hr⟩⟩
  · obtain ⟨rfl, p', _, _, e2, e4, _⟩ := r
    cases e2
    exact e4
  · exact (h4 p (by simp_all)).2.1
end
/-- what a call of __init__ is -/
def spI {ξ α : Type} (n : Nat) (T : XT) (A : ξ → List (Option Sl)) (C : Addr) (fl : α → Fs) (f : ξ → Res α) : Sp := fun vs H Q E => ∃ (p : Addr) (vs' : List V) (x : ξ) (Z G0 G : Hp), vs = .ref p :: vs' ∧ vs'.length = n ∧ (A x).length = n ∧
  Okl Z G0 ((some (atP p (pob C [])), some (.ref p)) :: (A x).zip (vs'.map some)) G H ∧
  (f x).wp (fun a => ∀ G' H', Okl Z G0 [(some (atP p (pob C (fl a))), some (.ref p))] G' H' → Q .non H') (fun ex => ∀ cls d G' H', Okl Z G0 [] G' H' → T.rel ex cls d G' → E cls d H')
/-- a class that is known: it is made by its __init__ -/
def KnC (P : Program) (w : World) (K : PySem.W.Frag) (mg : Str → Option Value) (base : Heap) (k : Nat) (x : Str) (C : Addr) (ps : List Str) (sp : Sp) : Prop :=
  ∃ (f : Addr) (fd : FuncData), mg x = some (.ref C) ∧ Mk K C f ∧ Binds K fd ps [] ∧ FnOk P w K mg base (L2.CX P w) k f fd ps sp
/-- a method that is known -/
def KnM (P : Program) (w : World) (K : PySem.W.Frag) (mg : Str → Option Value) (base : Heap) (k : Nat) (C : Addr) (m : Str) (ps : List Str) (sp : Sp) : Prop :=
  ∃ (f : Addr) (fd : FuncData), Meth K C m f ∧ Binds K fd ps [] ∧ FnOk P w K mg base (L2.CX P w) k f fd ps sp
def tMakeS (C : Addr) (sp : Sp) (E : St → XK) (t : TA) : TE := fun σ H Q => t σ H fun vs H1 => ∀ x dx, H1 x = none → H1 dx = none → dx ≠ x → sp (.ref x :: vs) (upd (upd H1 dx (.own x)) x (.ins C dx [])) (fun v H2 => v = .non ∧ Q (.ref x) H2) (E σ)
def tMethS (C : Addr) (m : Str) (sp : Sp) (E : St → XK) (ta : TE) (t : TA) : TE := fun σ H Q => ta σ H fun x H1 => ∃ a dx fs, x = .ref a ∧ H1 a = some (.ins C dx fs) ∧ fs.lookup m = none ∧ t σ H1 fun vs H2 => sp (x :: vs) H2 Q (E σ)
section
variable {X : Cx} {CX : CXT} {k : Nat} {f C : Addr} {fd : FuncData} {ps : List Str} {sp : Sp} {E : St → XK} {x m : Str} {p pos apos : Pos} {e o : Expr} {es : List Expr} {ta : TE} {t : TA}
/-- a new instance, told at the caller's slots -/
theorem pe_makeS (M : Mk X.K C f) (F : FnOk X.prog X.w X.K X.mg X.base CX k f fd ps sp) (room : Room (k + 1) X.A) (glob : Gl X x) (here : X.mg x = some (.ref C)) (bnd : Binds X.K fd ps []) (pass : ∀ σ, PassesAt CX X σ (E σ)) (args : PA X (e :: es) t) (hdb : (x == ("__debug__" : Str)) = false := by decide)
    (he : starEach (e :: es) X.env = (false, eval e X.env) :: starEach es X.env := by rfl) (hpl : (backTo pos (starEach es X.env)).any (·.1) = false := by rfl) : PE X (.Call (.Name x p) (e :: es) [] pos) (tMakeS C sp E t) := by
  refine ⟨fun pins s σ H Q inv want => wpAny_Call_Name_kw (ld_glob inv glob here ?_ hdb)⟩
  refine PySem.W.callWith_K (h₀ := X.base) inv.ok.mod.kin M.kp (thn (args.run pos pins s σ H _ inv want) fun us s1 ⟨vs, H1, J, rel, q⟩ => ⟨J.kIn, ?_⟩) he hpl
  have got := q (s1.heap.objs.size + 1) s1.heap.objs.size (J.hok.fresh (Nat.le_succ _)) (J.hok.fresh (Nat.le_refl _)) (Nat.ne_of_lt (Nat.lt_succ_self _))
  have J2 := Inv.made (C := C) J
  have rel2 : Vals (V.ref (s1.heap.objs.size + 1) :: vs) (Value.ref (s1.heap.objs.size + 1) :: us) := Paired.cons rfl rel
  have count : (Value.ref (s1.heap.objs.size + 1) :: us).length = ps.length := rel2.length.symm.trans (F.len _ _ _ _ got)
  have bound := bnd _ (Value.ref (s1.heap.objs.size + 1) :: us) J2.kIn (by rw [List.append_nil]; exact count)
  rw [List.append_nil] at bound
  show wpAny _ _ (call (.ref C) us) _ _ _
  refine wpAny_call (make_map (f := f) J.kIn M.makes M.init (beq_iff_eq.mp M.fn) (codeAny_mono (F.run _ X.stack _ _ ⟨_, []⟩ _ _ _ (E σ) (room.make C us []) (J2.env0.make C us []) bound rel2 got) fun r s' fin => ?_))
  rcases r with er | fl
  · exact pass σ pins _ _ er s' J2 fin
  · cases fl with
    | next => exact fin.elim
    | brk => exact fin.elim
    | cont => exact fin.elim
    | ret u =>
      obtain ⟨v, H', J3, rv, ev, q3⟩ := J2.after fin
      subst ev
      exact ⟨rv, V.ref (s1.heap.objs.size + 1), H', J3, rfl, q3⟩
/-- o.m(e, ..), told at the caller's slots -/
theorem pe_methS {pl : Sem Bool} (he : PE X o ta) (c : Cls X.K C) (hm : Meth X.K C m f) (F : FnOk X.prog X.w X.K X.mg X.base CX k f fd ps sp) (room : Room k X.A) (bnd : Binds X.K fd ps []) (pass : ∀ σ, PassesAt CX X σ (E σ)) (args : PA X (e :: es) t)
    (hst : starEach (e :: es) X.env = (false, eval e X.env) :: starEach es X.env := by rfl) (hpl : (backTo pos (starEach es X.env)).any (·.1) = false := by rfl)
    (ht : eval (.Call (.Attribute o m apos) (e :: es) [] pos) X.env = (do let ov ← eval o X.env; standAt apos.atName; let (f, first) ← holding [ov] (getMethod ov m pl); callWith pos f first (backTo pos (starEach (e :: es) X.env)) (backToKw pos (keywordEach [] X.env))) := by rfl) :
    PE X (.Call (.Attribute o m apos) (e :: es) [] pos) (tMethS C m sp E ta t) := by
  refine ⟨fun pins s σ H Q inv want => PySem.W.methodCall_KW (pl := pl) (thn (he.run pins s σ H _ inv want) fun u s1 ⟨x, H1, J1, rx, a, dx, fs, ex, ea, l, q⟩ => ?_) ht⟩
  subst ex
  obtain rfl : u = Value.ref a := rx
  refine getmeth_ok J1 ea c hm l (PySem.W.callWith_K (first := [.ref a]) (h₀ := X.base) inv.ok.mod.kin hm.kp (thn (args.run pos pins s1 σ H1 _ J1 q) fun us s2 ⟨vs, H2, J2, rel, q2⟩ => ⟨J2.kIn, ?_⟩) hst hpl)
  exact run_fnS (us := .ref a :: us) (vs := .ref a :: vs) F room bnd (pass σ) J2 (.cons rfl rel) q2
theorem pe_methS0 {pl : Sem Bool} (he : PE X o ta) (c : Cls X.K C) (hm : Meth X.K C m f) (F : FnOk X.prog X.w X.K X.mg X.base CX k f fd ps sp) (room : Room k X.A) (bnd : Binds X.K fd ps []) (pass : ∀ σ, PassesAt CX X σ (E σ))
    (ht : eval (.Call (.Attribute o m apos) [] [] pos) X.env = (do let ov ← eval o X.env; standAt apos.atName; let (f, first) ← holding [ov] (getMethod ov m pl); callWith pos f first (backTo pos (starEach [] X.env)) (backToKw pos (keywordEach [] X.env))) := by rfl) :
    PE X (.Call (.Attribute o m apos) [] [] pos) (tMethS C m sp E ta tNil) := by
  refine ⟨fun pins s σ H Q inv want => PySem.W.methodCall_KW (pl := pl) (thn (he.run pins s σ H _ inv want) fun u s1 ⟨x, H1, J1, rx, a, dx, fs, ex, ea, l, q⟩ => ?_) ht⟩
  subst ex
  obtain rfl : u = Value.ref a := rx
  exact getmeth_ok J1 ea c hm l (PySem.W.callWith_K0 (first := [.ref a]) J1.kIn hm.kp (run_fnS (us := [.ref a]) (vs := [.ref a]) F room bnd (pass σ) J1 (.cons rfl .nil) q))
end
end Rt
/-! Rt17: objects made, methods called, procedures; exceptions raised. -/
namespace Rt
open PySem L2 R
section
variable {X : Cx} {T : XT} {W : WX} {Γx Γ : Ctx} {K : PySem.W.Frag}
theorem make_ev {ξ β α : Type} {n : Nat} {A : ξ → List (Option Sl)} {C : Addr} {fl : β → Fs} {f : ξ → Res β} {es : List Expr} {ta : TA} {m1 : Res α} {Rs : α → List Sl} {Γ1 : α → Ctx} {x : α → ξ} (hn : ∀ x, (A x).length = n) (ha : AX X T W Γx Γ es ta m1 Rs Γ1) (hx : ∀ t, ArgOf A (Rs t) (x t)) (hw : ∀ t, Wk (Γ1 t) Γx)
    (Z G0 : Hp) (S : List Pl) (σ : St) (G H : Hp) (Q : VK) (k : Okc Z G0 S Γ σ G H)
    (q : (m1.bind fun t => (f (x t)).bind fun r => .ok (t, r)).wp (fun t => ∀ v G' H', Okc Z G0 ((some (fz (cobj C fl) t.2), some v) :: S) (Γ1 t.1) σ G' H' → Q v H') (fun ex => ∀ cls d G' H', Okc Z G0 S Γx σ G' H' → T.rel ex cls d G' → W cls d σ H')) : tMakeS C (spI n T A C fl f) (WE W) ta σ H Q := by
  refine ha.ev Z G0 S σ G H _ k (Res.wp_mono (Res.wp_bind q) (fun t q vs G1 H1 hl k1 => ?_) fun ex q => q)
  intro a dx h1 h2 hne
  have hxd : upd H1 dx (.own a) a = none := by rw [upd_ne (Ne.symm hne)]; exact h1
  have j1 := (okc_app k1).lay (o := .own a) h2
  have j2 := j1.layOwn (q := a) (o := .ins C dx []) (s := atP a (pob C [])) (v := .ref a) hxd ⟨rfl, a, dx, [], rfl, rfl, upd_same, .nil⟩
  obtain ⟨Zc, l1, l2⟩ := Okl.lend (l := (some (atP a (pob C [])), some (.ref a)) :: plz (Rs t) vs) (m := S ++ (Γ1 t).zip σ) j2
  have e : A (x t) = (Rs t).map some := hx t
  refine ⟨a, vs, x t, Zc, upd G1 dx (.own a), upd G1 dx (.own a), rfl, ?_, hn _, ?_, Res.wp_mono (Res.wp_bind q) (fun r q G' H' k' => ⟨rfl, ?_⟩) fun ex q cls d G' H' k' => q cls d G' H' (hw t _ _ _ _ _ _ ⟨k1.len, ?_⟩)⟩
  · rw [← hl, ← hn (x t), e, List.length_map]
  · rw [e]
    exact l1
  · have k4 : Okl Z G0 ((some (atP a (pob C (fl r))), some (.ref a)) :: (S ++ (Γ1 t).zip σ)) G' H' := l2 _ G' H' k'
    obtain ⟨G2, k5⟩ := k4.icyOb
    exact q _ G2 H' ⟨k1.len, k5⟩
  · exact l2 [] G' H' k'
theorem ex_make {ξ β α : Type} {n k j : Nat} {A : ξ → List (Option Sl)} {C : Addr} {fl : β → Fs} {f : ξ → Res β} {ps : List Str} {x : Str} {p pos : Pos} {e : Expr} {es : List Expr} {ta : TA} {m1 : Res α} {Rs : α → List Sl} {Γ1 : α → Ctx} {a : α → ξ}
    (kn : KnC X.prog X.w X.K X.mg X.base k x C ps (spI n T A C fl f)) (hr : Room j X.A) (tk : Takes X W) (hn : ∀ x, (A x).length = n) (ha : AX X T W Γx Γ (e :: es) ta m1 Rs Γ1) (hx : ∀ t, ArgOf A (Rs t) (a t)) (hw : ∀ t, Wk (Γ1 t) Γx) (hj : k + 1 ≤ j := by decide)
    (hg : Gl X x := by rfl) (hdb : (x == ("__debug__" : Str)) = false := by decide) (he : starEach (e :: es) X.env = (false, eval e X.env) :: starEach es X.env := by rfl) (hpl : (backTo pos (starEach es X.env)).any (·.1) = false := by rfl) :
    EX X T W Γx Γ (.Call (.Name x p) (e :: es) [] pos) (tMakeS C (spI n T A C fl f) (WE W) ta) (m1.bind fun t => (f (a t)).bind fun r => .ok (t, r)) (fun t => fz (cobj C fl) t.2) (fun t => Γ1 t.1) := by
  obtain ⟨fa, fd, h1, h2, h3, FO⟩ := kn
  exact ⟨pe_makeS h2 FO (hr.mono hj) hg h1 h3 (fun σ => passAt tk σ) ha.pa hdb he hpl, make_ev hn ha hx hw⟩
theorem meth_ev {ξ β α δ ρ : Type} {n : Nat} {A : ξ → List (Option Sl)} {C : Addr} {fl : β → Fs} {f : ξ → Res ρ} {R : ρ → Sl} {m : Str} {o : Expr} {es : List Expr} {to : TE} {ta : TA} {m0 : Res α} {b : α → β} {Γ0 : α → Ctx} {m1 : α → Res δ} {Rs : α → δ → List Sl} {Γ1 : α → δ → Ctx} {a : α → δ → ξ}
    (hl : ∀ b, (fl b).lookup m = none) (hn : ∀ x, (A x).length = n) (ho : EX X T W Γx Γ o to m0 (fun t => fz (cobj C fl) (b t)) Γ0) (ha : ∀ t, AX X T W Γx (Γ0 t) es ta (m1 t) (Rs t) (Γ1 t)) (hx : ∀ t u, ArgOf A (fz (cobj C fl) (b t) :: Rs t u) (a t u)) (hw : ∀ t u, Wk (Γ1 t u) Γx)
    (Z G0 : Hp) (S : List Pl) (σ : St) (G H : Hp) (Q : VK) (k : Okc Z G0 S Γ σ G H)
    (q : (m0.bind fun t => (m1 t).bind fun u => (f (a t u)).bind fun r => .ok (t, u, r)).wp (fun t => ∀ v G' H', Okc Z G0 ((some (R t.2.2), some v) :: S) (Γ1 t.1 t.2.1) σ G' H' → Q v H') (fun ex => ∀ cls d G' H', Okc Z G0 S Γx σ G' H' → T.rel ex cls d G' → W cls d σ H')) : tMethS C m (spM n T A f R) (WE W) to ta σ H Q := by
  refine ho.ev Z G0 S σ G H _ k (Res.wp_mono (Res.wp_bind q) (fun t q v G1 H1 k1 => ?_) fun ex q => q)
  obtain ⟨p, dx, fs, rfl, hp, hr⟩ := k1.tp
  refine ⟨p, dx, fs, rfl, k1.ok.gh p _ hp, fs_none hr (hl _), ?_⟩
  refine (ha t).ev Z G0 _ σ G1 H1 _ k1 (Res.wp_mono (Res.wp_bind q) (fun u q vs G2 H2 hlen k2 => ?_) fun ex q cls d G' H' k' => q cls d G' H' k'.drop)
  have k3 : Okc Z G0 (plz (fz (cobj C fl) (b t) :: Rs t u) (.ref p :: vs) ++ S) (Γ1 t u) σ G2 H2 := ⟨k2.len, k2.ok.perm (by
    show (plz (Rs t u) vs ++ ((some (fz (cobj C fl) (b t)), some (.ref p)) :: S) ++ (Γ1 t u).zip σ).Perm (((some (fz (cobj C fl) (b t)), some (.ref p)) :: (plz (Rs t u) vs ++ S)) ++ (Γ1 t u).zip σ)
    exact mid.append_right _)⟩
  obtain ⟨Zc, l1, l2⟩ := (okc_app k3).lend
  have e : A (a t u) = (fz (cobj C fl) (b t) :: Rs t u).map some := hx t u
  refine ⟨a t u, Zc, G2, G2, ?_, hn _, ?_, Res.wp_mono (Res.wp_bind q) (fun r q v G' H' k' => ?_) fun ex q cls d G' H' k' => q cls d G' H' (hw t u _ _ _ _ _ _ ⟨k2.len, l2 [] G' H' k'⟩)⟩
  · rw [List.length_cons, ← hlen, ← hn (a t u), e, List.length_map, List.length_cons]
  · rw [e]
    exact l1
  · exact q v G' H' ⟨k2.len, l2 _ G' H' k'⟩
theorem ex_meth {ξ β α δ ρ : Type} [Nonempty α] {n k j : Nat} {A : ξ → List (Option Sl)} {C : Addr} {fl : β → Fs} {f : ξ → Res ρ} {R : ρ → Sl} {m : Str} {ps : List Str} {o e : Expr} {es : List Expr} {to : TE} {ta : TA} {apos pos : Pos} {pl : Sem Bool} {m0 : Res α} {b : α → β} {Γ0 : α → Ctx} {m1 : α → Res δ} {Rs : α → δ → List Sl} {Γ1 : α → δ → Ctx} {a : α → δ → ξ}
    (kn : KnM X.prog X.w X.K X.mg X.base k C m ps (spM n T A f R)) (cl : Cls K C) (hr : Room j X.A) (tk : Takes X W) (hn : ∀ x, (A x).length = n) (ho : EX X T W Γx Γ o to m0 (fun t => fz (cobj C fl) (b t)) Γ0) (ha : ∀ t, AX X T W Γx (Γ0 t) (e :: es) ta (m1 t) (Rs t) (Γ1 t)) (hx : ∀ t u, ArgOf A (fz (cobj C fl) (b t) :: Rs t u) (a t u)) (hw : ∀ t u, Wk (Γ1 t u) Γx)
    (hl : ∀ b, (fl b).lookup m = none := by exact fun _ => rfl) (hK : X.K = K := by rfl) (hj : k ≤ j := by decide) (hst : starEach (e :: es) X.env = (false, eval e X.env) :: starEach es X.env := by rfl) (hpl : (backTo pos (starEach es X.env)).any (·.1) = false := by rfl)
    (ht : eval (.Call (.Attribute o m apos) (e :: es) [] pos) X.env = (do let ov ← eval o X.env; standAt apos.atName; let (f, first) ← holding [ov] (getMethod ov m pl); callWith pos f first (backTo pos (starEach (e :: es) X.env)) (backToKw pos (keywordEach [] X.env))) := by rfl) :
    EX X T W Γx Γ (.Call (.Attribute o m apos) (e :: es) [] pos) (tMethS C m (spM n T A f R) (WE W) to ta) (m0.bind fun t => (m1 t).bind fun u => (f (a t u)).bind fun r => .ok (t, u, r)) (fun t => R t.2.2) (fun t => Γ1 t.1 t.2.1) := by
  subst hK
  obtain ⟨t0⟩ := ‹Nonempty α›
  obtain ⟨fa, fd, h2, h3, FO⟩ := kn
  exact ⟨pe_methS (pl := pl) ho.pe cl h2 FO (hr.mono hj) h3 (fun σ => passAt tk σ) (ha t0).pa hst hpl ht, meth_ev hl hn ho ha hx hw⟩
theorem ex_meth0 {ξ β α ρ : Type} {k j : Nat} {A : ξ → List (Option Sl)} {C : Addr} {fl : β → Fs} {f : ξ → Res ρ} {R : ρ → Sl} {m : Str} {ps : List Str} {o : Expr} {to : TE} {apos pos : Pos} {pl : Sem Bool} {m0 : Res α} {b : α → β} {Γ0 : α → Ctx} {a : α → ξ}
    (kn : KnM X.prog X.w X.K X.mg X.base k C m ps (spM 1 T A f R)) (cl : Cls K C) (hr : Room j X.A) (tk : Takes X W) (hn : ∀ x, (A x).length = 1) (ho : EX X T W Γx Γ o to m0 (fun t => fz (cobj C fl) (b t)) Γ0) (hx : ∀ t, ArgOf A [fz (cobj C fl) (b t)] (a t)) (hw : ∀ t, Wk (Γ0 t) Γx)
    (hl : ∀ b, (fl b).lookup m = none := by exact fun _ => rfl) (hK : X.K = K := by rfl) (hj : k ≤ j := by decide)
    (ht : eval (.Call (.Attribute o m apos) [] [] pos) X.env = (do let ov ← eval o X.env; standAt apos.atName; let (f, first) ← holding [ov] (getMethod ov m pl); callWith pos f first (backTo pos (starEach [] X.env)) (backToKw pos (keywordEach [] X.env))) := by rfl) :
    EX X T W Γx Γ (.Call (.Attribute o m apos) [] [] pos) (tMethS C m (spM 1 T A f R) (WE W) to tNil) (m0.bind fun t => (Res.ok ()).bind fun u => (f (a t)).bind fun r => .ok (t, u, r)) (fun t => R t.2.2) (fun t => Γ0 t.1) := by
  subst hK
  obtain ⟨fa, fd, h2, h3, FO⟩ := kn
  exact ⟨pe_methS0 (pl := pl) ho.pe cl h2 FO (hr.mono hj) h3 (fun σ => passAt tk σ) ht, meth_ev (Γ1 := fun t _ => Γ0 t) (a := fun t _ => a t) hl hn ho (fun t => ax_nil) (fun t _ => hx t) (fun t _ => hw t)⟩
/-! ### what is raised -/
/-- the class OutOfRange is known -/
structure KnO (P : Program) (w : World) (K : PySem.W.Frag) (mg : Str → Option Value) (base : Heap) (x : Str) (C : Addr) (sp : Sp) : Prop where
  at_ : mg x = some (.ref C)
  ox : OexC K C
  ini : ∃ (f : Addr) (fd : FuncData), PySem.W.findIn K (.ref C) "__init__" = some (some (.ref f)) ∧ PySem.W.typeIn K (.ref f) = some (.type "function") ∧ Binds K fd ["self", "name"] [] ∧ FnOk P w K mg base (L2.CX P w) 1 f fd ["self", "name"] sp
def spOor (C : Addr) : Sp := fun vs H Q _ => ∃ a v, vs = [.ref a, v] ∧ H a = some (exo a C none) ∧ ∀ d, H d = none → d ≠ a → Q .non (upd (upd H d (exd d [("name", v)])) a (exo a C (some d)))
theorem passes_no : Passes (L2.CX X.prog X.w) X (fun _ _ _ => False) := fun _ _ _ _ _ _ _ h => by
  obtain ⟨_, _, _, _, _, _, _, _, _, _, _, _, z⟩ := h
  exact z.elim
theorem sx_oor {x : Str} {p pos pos2 : Pos} {e : Expr} {ta : TA} {α γ : Type} {m : Res α} {n : α → Tx} {Γo : α → Ctx} {rest : List Stmt} {I : γ → Out} {j : Nat} {mn : Res γ} (kn : KnO X.prog X.w X.K X.mg X.base x T.oor (spOor T.oor)) (hr : Room j X.A) (tk : Takes X W) (ha : AX X T W Γx Γ [e] ta m (fun t => [sT (n t)]) Γo) (hw : ∀ t, Wk (Γo t) Γx) (hj : 2 ≤ j := by decide)
    (hb : Bd mn m (fun t => .exn (.oor (n t))) := by intros; repeat (first | exact Bd.don' rfl | with_reducible refine Bd.okl ?_ | with_reducible refine Bd.assoc ?_ | with_reducible refine Bd.bind fun _ => ?_ | dsimp only)) (hc : X.calm = true := by rfl) (hg : Gl X x := by rfl) (hdb : (x == ("__debug__" : Str)) = false := by decide) (he : starEach [e] X.env = (false, eval e X.env) :: starEach [] X.env := by rfl) (hpl : (backTo pos (starEach [] X.env)).any (·.1) = false := by rfl) :
    SX X T W Γx Γ (.Raise (some (.Call (.Name x p) [e] [] pos)) none pos2 :: rest) (tSeq (fun _ σ H => tMkO T.oor (spOor T.oor) [] ta σ H fun cls d H' => W cls d σ H') tNever) mn I := by
  obtain ⟨h1, h2, f, fd, h3, h4, h5, FO⟩ := kn
  refine ⟨pss_cons (ps_raise hc tk (pmk_oex (ds := []) (dvs := []) h2 h3 h4 FO (hr.mono hj) h5 .nil passes_no hg h1 ha.pa hdb he hpl)) pss_never, fun Z G0 S σ G H D k q => ?_⟩
  refine ha.ev Z G0 S σ G H _ k (Res.wp_mono (hb _ _ q) (fun t q vs G1 H1 hl k1 => ?_) fun ex q cls d G' H' k' => q cls d σ G' H' k')
  obtain ⟨v, rfl, hv, k2⟩ := ax1 hl k1
  refine ⟨by show 1 ≤ 1000; decide, fun a hfa => ⟨a, v, rfl, upd_same, fun d hd hda => ⟨rfl, d, [("name", v)], upd_same, ?_, ?_, ?_⟩⟩⟩
  · rw [upd_ne hda, upd_same]
  · rw [upd_ne hda] at hd
    exact hd
  · rw [upd_ne hda] at hd
    have e : upd (del (upd (upd (upd H1 a (exo a T.oor none)) d (exd d [("name", v)])) a (exo a T.oor (some d))) a) d (.xd [("name", v)]) = upd H1 d (.xd [("name", v)]) := by
      funext b
      by_cases hbd : b = d
      · subst hbd
        rw [upd_same, upd_same]
      · rw [upd_ne hbd, upd_ne hbd]
        by_cases hba : b = a
        · subst hba
          rw [del_same, hfa]
        · rw [del_ne hba, upd_ne hba, upd_ne hbd, upd_ne hba]
    rw [e]
    have k3 := hw t _ _ _ _ _ _ k2
    exact q (.ref T.oor) (some d) σ _ _ ⟨k3.len, k3.ok.lay (o := .xd [("name", v)]) hd⟩ ⟨rfl, hv.2, d, rfl, by rw [upd_same, hv.1]⟩
end
end Rt
/-! Rt18: defs that make, defs that only do, the making of OutOfRange; a branch that raises. -/
namespace Rt
open PySem L2 R
section
variable {K : PySem.W.Frag} {T : XT} {P : Program} {w : World} {mg : Str → Option Value} {base : Heap}
theorem nones_zip {Z G0 G H : Hp} {l : List Pl} (k : Okl Z G0 l G H) : ∀ j, Okl Z G0 (l ++ (List.replicate j (none : Option Sl)).zip (List.replicate j (none : Option V))) G H
  | 0 => by simpa using k
  | j + 1 => by
    have ih := nones_zip k j
    refine Okl.perm ?_ mid.symm
    obtain ⟨ps, z1, z2, z3⟩ := ih.own
    exact ⟨ih.zh, ih.gg, ih.gh, ih.fr, ps, ⟨[], ps, rfl, rfl, z1⟩, z2, z3⟩
/-- a def that falls off its end -/
theorem fn_mkN {x qual : Str} {st : Stmt} {f : Addr} {fd : FuncData} {N ps : List Str} {k n : Nat} {ξ : Type} {A : ξ → List (Option Sl)} {g : ξ → Res Unit} (F : Fun K x qual st f fd) (Sc : FnScope N ps (defScope st)) (hn : ps.length = n)
    (hbody : ∀ (cdv : Value) (Ar : Around) (outer : List Env) (s : Shared) (H : Hp) (E : XK), Room k (Ar.deeper (PyProof.Rows.envOfC qual (defScope st) s.heap.objs.size f cdv)) → Takes (cxOf (L2.CX P w) P w K mg base N qual (defScope st) f cdv Ar outer s H E) (fun cls d _ H => E cls d H) →
      PassesOwn (model P w) (Ar.deeper (PyProof.Rows.envOfC qual (defScope st) s.heap.objs.size f cdv)) (PyProof.Rows.envOfC qual (defScope st) s.heap.objs.size f cdv) (cxOf (L2.CX P w) P w K mg base N qual (defScope st) f cdv Ar outer s H E).xe → ∀ a : ξ, (A a).length = n →
      ∃ ts, SX (cxOf (L2.CX P w) P w K mg base N qual (defScope st) f cdv Ar outer s H E) T (fun cls d _ H => E cls d H) (List.replicate N.length none) (A a ++ List.replicate (N.length - n) none) (defBody st) ts (g a) (fun _ => .nx (List.replicate N.length none))) :
    FnOk P w K mg base (L2.CX P w) (k + 1) f fd ps (spM n T A g (fun _ => sN)) := by
  refine F.okX Sc (fun vs H Q E h => ?_) (fun cdv Ar outer s H vs Q E hr h => ?_)
  · obtain ⟨_, _, _, _, h1, _⟩ := h
    rw [h1, hn]
  · obtain ⟨a, Z, G0, G, h1, h2, h3, h4⟩ := h
    obtain ⟨ts, hs⟩ := hbody cdv Ar outer s H E hr (takes_of rfl rfl rfl rfl) (passes_of rfl) a h2
    refine ⟨ts, hs.ps, hs.ev Z G0 [] _ G H _ ⟨?_, ?_⟩ (Res.wp_mono h4 (fun b q σ' G' H' k' => q .non G' H' (Okl.push (c := cNon) k'.bare rfl)) fun ex q cls d σ' G' H' k' => q cls d G' H' k'.bare)⟩
    · unfold L2.start
      rw [List.length_append, List.length_append, List.length_map, List.length_replicate, List.length_replicate, h1, h2]
    · unfold L2.start
      show Okl Z G0 ((A a ++ List.replicate (N.length - n) none).zip (vs.map some ++ List.replicate (N.length - vs.length) none)) G H
      rw [List.zip_append (by rw [h2, List.length_map, h1]), h1]
      exact nones_zip h3 _
theorem pick0 {Z G0 G H : Hp} {σ : St} {s : Sl} {p : Addr} {Γ : Ctx} (k : Okc Z G0 [] (some (atP p s) :: Γ) σ G H) : Okl Z G0 [(some (atP p s), some (.ref p))] G H := by
  have z : Okc Z G0 ((none, none) :: []) (some (atP p s) :: Γ) σ G H := ⟨k.len, Okl.noneOn k.ok⟩
  exact (Okc.pick (i := 0) z rfl).drop
/-- __init__: self's fields are stored, the end is reached -/
theorem fn_mkI {x qual : Str} {st : Stmt} {f : Addr} {fd : FuncData} {N ps : List Str} {k n : Nat} {ξ α : Type} {A : ξ → List (Option Sl)} {C : Addr} {fl : α → Fs} {g : ξ → Res α} (FF : Fun K x qual st f fd) (Sc : FnScope N ps (defScope st)) (hn : ps.length = n + 1)
    (hbody : ∀ (cdv : Value) (Ar : Around) (outer : List Env) (s : Shared) (H : Hp) (E : XK), Room k (Ar.deeper (PyProof.Rows.envOfC qual (defScope st) s.heap.objs.size f cdv)) → Takes (cxOf (L2.CX P w) P w K mg base N qual (defScope st) f cdv Ar outer s H E) (fun cls d _ H => E cls d H) →
      PassesOwn (model P w) (Ar.deeper (PyProof.Rows.envOfC qual (defScope st) s.heap.objs.size f cdv)) (PyProof.Rows.envOfC qual (defScope st) s.heap.objs.size f cdv) (cxOf (L2.CX P w) P w K mg base N qual (defScope st) f cdv Ar outer s H E).xe → ∀ (p : Addr) (a : ξ), (A a).length = n →
      ∃ ts, SX (cxOf (L2.CX P w) P w K mg base N qual (defScope st) f cdv Ar outer s H E) T (fun cls d _ H => E cls d H) (List.replicate N.length none) (some (atP p (pob C [])) :: (A a ++ List.replicate (N.length - (n + 1)) none)) (defBody st) ts (g a) (fun b => .nx (some (atP p (pob C (fl b))) :: List.replicate (N.length - 1) none))) :
    FnOk P w K mg base (L2.CX P w) (k + 1) f fd ps (spI n T A C fl g) := by
  refine FF.okX Sc (fun vs H Q E h => ?_) (fun cdv Ar outer s H vs Q E hr h => ?_)
  · obtain ⟨p, vs', _, _, _, _, h1, h2, _⟩ := h
    rw [h1, hn, List.length_cons, h2]
  · obtain ⟨p, vs', a, Z, G0, G, rfl, h1, h2, h3, h4⟩ := h
    obtain ⟨ts, hs⟩ := hbody cdv Ar outer s H E hr (takes_of rfl rfl rfl rfl) (passes_of rfl) p a h2
    refine ⟨ts, hs.ps, hs.ev Z G0 [] _ G H _ ⟨?_, ?_⟩ (Res.wp_mono h4 (fun r q σ' G' H' k' => q G' H' (pick0 k')) fun ex q cls d σ' G' H' k' => q cls d G' H' k'.bare)⟩
    · unfold L2.start
      rw [List.length_cons, List.length_append, List.length_append, List.length_map, List.length_replicate, List.length_replicate, List.length_cons, h1, h2]
      omega
    · unfold L2.start
      show Okl Z G0 ((some (atP p (pob C [])) :: (A a ++ List.replicate (N.length - (n + 1)) none)).zip (some (.ref p) :: (vs'.map some ++ List.replicate (N.length - (vs'.length + 1)) none))) G H
      rw [List.zip_cons_cons, List.zip_append (by rw [h2, List.length_map, h1]), h1]
      exact nones_zip (l := (some (atP p (pob C [])), some (.ref p)) :: (A a).zip (vs'.map some)) h3 _
/-- OutOfRange's own __init__ -/
theorem fn_oor {x qual : Str} {st : Stmt} {f C : Addr} {fd : FuncData} {p1 p2 p3 pos : Pos} (F : Fun K x qual st f fd) (Sc : FnScope ["self", "name"] ["self", "name"] (defScope st)) (hbd : defBody st = [.Assign [.Attribute (.Name "self" p1) "name" p2] (.Name "name" p3) pos]) (ox : OexC K C) (na : PySem.W.findIn K (.ref C) "name" = some none)
    (hs : ∀ (X : Cx), swapsWith (.Name "name" p3) (some (.Attribute (.Name "self" p1) "name" p2)) pos.line X.env = pure false)
    (hs1 : (defScope st).names.lookup ("self" : Str) = some .local) (hs2 : (defScope st).names.lookup ("name" : Str) = some .local) : FnOk P w K mg base (L2.CX P w) 1 f fd ["self", "name"] (spOor C) := by
  refine F.okX Sc (fun vs H Q E h => ?_) (fun cdv Ar outer s H vs Q E hr h => ?_)
  · obtain ⟨a, v, rfl, _⟩ := h
    rfl
  · obtain ⟨a, v, rfl, h1, h2⟩ := h
    rw [hbd]
    refine ⟨_, pss_one (ps_ost (pv 0 rfl (Or.inl hs1) (by decide) (by decide)) (pv 1 rfl (Or.inl hs2) (by decide) (by decide)) (hs _)), ?_⟩
    refine ⟨v, rfl, .ref a, rfl, a, C, rfl, ox, na, .inl ⟨h1, fun dx hd hne => h2 dx hd hne⟩⟩
end
section
variable {X : Cx} {T : XT} {W : WX} {Γx Γ : Ctx} {K : PySem.W.Frag}
/-- if c: raise .. -/
theorem sx_ifraiseM {c : Expr} {tc : TT} {A rest : List Stmt} {pos : Pos} {tA tr : TS} {α β : Type} {me : Res α} {mn : Res Bool} {b : α → Bool} {Γt : α → Ctx} {mA : Res Empty} {mr mx : Res β} {IA : Empty → Out} {I : β → Out} (hc : ET X T W Γx Γ c tc me b Γt)
    (hA : SX X T W Γx Γ A tA mA IA) (hr : SX X T W Γx Γ rest tr mr I) (hx : mx = mA.bind fun e => e.elim := by rfl) (hΓ : ∀ t, Γt t = Γ := by exact fun _ => rfl) (hb : Bd mn me (fun t => .ok (b t)) := by intros; repeat (first | ((with_reducible refine Bd.done ?_); exact rfl) | with_reducible refine Bd.okl ?_ | with_reducible refine Bd.assoc ?_ | with_reducible refine Bd.bind fun _ => ?_ | with_reducible refine Bd.eta fun _ => ?_ | with_reducible refine Bd.iteB ?_ ?_ fun _ => ?_ | with_reducible refine Bd.iteE ?_ ?_ fun _ => ?_ | with_reducible refine Bd.ite ?_ ?_ | with_reducible refine Bd.iteL ?_ ?_ | with_reducible refine Bd.assocL ?_ | with_reducible refine Bd.oklL ?_ | with_reducible exact Bd.same | with_reducible exact Bd.at | dsimp only)) :
    SX X T W Γx Γ (.If c A [] pos :: rest) (tSeq (tIfS tc tA tNext) tr) (mn.bind fun v => if v then mx else mr) I := by
  subst hx
  refine ⟨pss_cons (ps_if hc.pt hA.ps pss_nil) hr.ps, fun Z G0 S σ G H D k q => ?_⟩
  refine if_ev (DA := fun D => { D with nx := tr D }) (mn := mn) (f := b) (b' := id) (Γ' := fun _ => Γ) (mA := fun _ => mA.bind fun e => e.elim) (mB := fun _ => mr) hc (fun _ => rfl) hΓ (fun v Z G0 S σ G H D k q => ?_) (fun v Z G0 S σ G H D k q => hr.ev Z G0 S σ G H D k q) hb Z G0 S σ G H D k q
  exact hA.ev Z G0 S σ G H _ k (Res.wp_mono (Res.wp_bind q) (fun a z => a.elim) fun _ z => z)
theorem sx_ifraise {c : Expr} {tc : TT} {A rest : List Stmt} {pos : Pos} {tA tr : TS} {α β : Type} {me : Res α} {bn : Bool} {b : α → Bool} {Γt : α → Ctx} {mA : Res Empty} {mr mx : Res β} {IA : Empty → Out} {I : β → Out} (hc : ET X T W Γx Γ c tc me b Γt)
    (hA : SX X T W Γx Γ A tA mA IA) (hr : SX X T W Γx Γ rest tr mr I) (hx : mx = mA.bind fun e => e.elim := by rfl) (hΓ : ∀ t, Γt t = Γ := by exact fun _ => rfl) (hb : Bd (.ok bn) me (fun t => .ok (b t)) := by intros; repeat (first | ((with_reducible refine Bd.done ?_); exact rfl) | with_reducible refine Bd.okl ?_ | with_reducible refine Bd.assoc ?_ | with_reducible refine Bd.bind fun _ => ?_ | with_reducible refine Bd.eta fun _ => ?_ | with_reducible refine Bd.iteB ?_ ?_ fun _ => ?_ | with_reducible refine Bd.iteE ?_ ?_ fun _ => ?_ | with_reducible refine Bd.ite ?_ ?_ | with_reducible refine Bd.iteL ?_ ?_ | with_reducible refine Bd.assocL ?_ | with_reducible refine Bd.oklL ?_ | with_reducible exact Bd.same | with_reducible exact Bd.at | dsimp only)) :
    SX X T W Γx Γ (.If c A [] pos :: rest) (tSeq (tIfS tc tA tNext) tr) (if bn then mx else mr) I := sx_ifraiseM (mn := .ok bn) hc hA hr hx hΓ hb
/-- a constant of the module -/
theorem ex_globE {α : Type} {c : Cod α} {a : α} {x : Str} {v : V} {pos : Pos} (hm : ∃ u, X.mg x = some u ∧ RelV v u) (h : ∀ G, c.rel G v a) (hg : Gl X x := by rfl) (hd : (x == ("__debug__" : Str)) = false := by decide) : EX X T W Γx Γ (.Name x pos) (tC v) (.ok ()) (fun _ => fz c a) (fun _ => Γ) := by
  obtain ⟨u, h1, h2⟩ := hm
  exact ex_glob h1 h2 h hg hd
end
/-! ### the law's promise -/
def spTrue (K : PySem.W.Frag) : Sp := fun vs H Q _ => ∃ (a : Addr) (ns : List Int), vs = [.ref a] ∧ SqL K H a (ns.map V.int) ∧ ns.length ≤ 63 ∧ ∀ H', Q (.bl true) H'
theorem law_spQ {K : PySem.W.Frag} {T : XT} {f : List Int → Res Bool} (h : ∀ ns : List Int, ns.length ≤ 63 → f ns = .ok true) : ∀ vs H Q E, spTrue K vs H Q E → spM 1 T (aCons (fz (cSq K cInt)) aNil) (fun x => f x.1) (fz cBool) vs H Q E := by
  rintro vs H Q E ⟨a, ns, rfl, hS, hl, q⟩
  refine ⟨(ns, ()), H, H, H, rfl, rfl, ⟨Evl.Ex.refl H, Evl.Ex.refl H, Evl.Ex.refl H, fun _ _ _ _ e => e, [], ⟨[], [], rfl, ⟨.ref a, rfl, ⟨a, _, rfl, hS, ?_⟩, rfl⟩, rfl⟩, List.nodup_nil, fun p hp => by cases hp⟩, ?_⟩
  · have go : ∀ l : List Int, Paired (cInt.rel H) (l.map V.int) l := fun l => by
      induction l with
      | nil => exact .nil
      | cons n r ih => exact .cons rfl ih
    exact go ns
  · show (f ns).wp _ _
    rw [h ns hl]
    intro v G' H' k
    have e : v = .bl true := k.rel1
    rw [e]
    exact q H'
theorem sp_true {K : PySem.W.Frag} {H : Hp} {a : Addr} {ns : List Int} (hS : SqL K H a (ns.map V.int)) (hl : ns.length ≤ 63) : spTrue K [.ref a] H (fun v _ => v = .bl true) fun _ _ _ => False := ⟨a, ns, rfl, hS, hl, fun _ => rfl⟩
end Rt
/-! Rt19: divmod. -/
namespace Rt
open PySem L2 R
section
variable {X : Cx} {T : XT} {W : WX} {Γx Γ : Ctx} {K : PySem.W.Frag}
theorem b_divmod {i j : Int} : CallOk (fun xs H Q => ∃ i j, xs = [.int i, .int j] ∧ CDiv i j ∧ ∀ p, H p = none → Q (.ref p) (upd H p (.tup [.int (i / j), .int (i % j)]))) [sI i, sI j] (R.dvm i j) (fun t => fz (cTup K (dCons cInt (dOne cInt))) t) :=
  ⟨fun Z G0 l G H vs Q hl k z e q => by
    match vs, hl with
    | [v, w], _ =>
      have k' : Okl Z G0 ((some (sI i), some v) :: (some (sI j), some w) :: l) G H := k
      obtain ⟨h1, h2⟩ := chk_ok e
      cases h2
      simp only [Bool.and_eq_true, decide_eq_true_eq] at h1
      have e1 : v = .int i := k'.rel1
      have e2 : w = .int j := k'.drop.rel1
      subst e1 e2
      refine ⟨i, j, rfl, by unfold CDiv; omega, fun p hp => q _ _ _ ((k'.drop.drop.lay (o := .tup [.int (i / j), .int (i % j)]) hp).push ⟨p, [.int (i / j), .int (i % j)], rfl, SqT.of upd_same, .int (i / j), [.int (i % j)], rfl, rfl, .int (i % j), rfl, rfl⟩)⟩, chk_ne ok_ne⟩
/-- how many items a tuple has -/
structure DLen {α : Type} (d : Cods α) (n : Nat) : Prop where
  len : ∀ G vs a, d.rel G vs a → vs.length = n
theorem dlen_one {α : Type} {c : Cod α} : DLen (dOne c) 1 := ⟨fun G vs a ⟨v, h, _⟩ => by rw [h]; rfl⟩
theorem dlen_cons {α β : Type} {c : Cod α} {d : Cods β} {n : Nat} (h : DLen d n) : DLen (dCons c d) (n + 1) := ⟨fun G vs a ⟨v, r, h1, _, h3⟩ => by rw [h1, List.length_cons, h.len G r _ h3]⟩
theorem b_lenT {α : Type} {d : Cods α} {a : α} {n : Nat} (h : DLen d n) : CallOk (rLen K) [fz (cTup K d) a] (.ok ()) (fun _ => sI (n : Int)) := co1 (f := fun _ => (n : Int)) ok_ne fun G H v Q e h' z _ q => by
  obtain ⟨p, vs, rfl, hs, hp⟩ := h'
  exact ⟨p, vs, rfl, .inr (Evl.ex_t e hs), q _ (by show V.int _ = V.int _; rw [h.len G vs a hp])⟩
end
end Rt
/-! Rt20: try with any except clauses, named or not. -/
namespace Rt
open PySem L2 R PySem.Spec PyProof.Rows
abbrev Su := Addr → Value → Option Addr → TS
/-- how a clause's suite ends: its name is gone -/
def dOf (D : Ends) : Option Nat → Ends
  | none => D
  | some i => ⟨fun σ H => D.nx (σ.set i none) H, D.rt, fun σ H => D.bk (σ.set i none) H, fun σ H => D.ct (σ.set i none) H⟩
def sOf (σ : L2.St) (a : Addr) : Option Nat → L2.St
  | none => σ
  | some i => σ.set i (some (.ref a))
def gone (σ : L2.St) : Option Nat → L2.St
  | none => σ
  | some i => σ.set i none
/-- what the clauses wish, in turn -/
def wHs (K : PySem.W.Frag) (Wo : WX) (D : Ends) : List (Value × Option Nat × Su) → WX
  | [] => Wo
  | (c, oi, ts) :: r => fun cls d σ H => ∃ b, PySem.W.exmOne K cls c = some b ∧ (b = true → ∀ a, H a = none → ts a cls d (dOf D oi) (sOf σ a oi) H) ∧ (b = false → wHs K Wo D r cls d σ H)
/-- the clauses of a try -/
inductive Hs (X : Cx) : List ExceptHandler → List (Value × Option Nat × Su) → Prop
  | nil : Hs X [] []
  | one {x : Str} {c : Value} {ts : Su} {b0 : Stmt} {su : List Stmt} {p1 p2 : Pos} {hr : List ExceptHandler} {l : List (Value × Option Nat × Su)} (nm : Names X x c)
      (hs : ∀ (a : Addr) (oe : Obj) (cls : Value) (d : Option Addr) (pn : List (Addr × Obj)), Zc cls d oe → (∃ vs, oe.data = .fields vs) → PSs (X.suite a ((a, oe) :: pn)) (b0 :: su) (ts a cls d)) (r : Hs X hr l) :
      Hs X (.ExceptHandler (some (.Name x p1)) none (b0 :: su) p2 :: hr) ((c, none, ts) :: l)
  | as {x n : Str} {i : Nat} {c : Value} {ts : Su} {b0 : Stmt} {su : List Stmt} {p1 p2 : Pos} {hr : List ExceptHandler} {l : List (Value × Option Nat × Su)} (nm : Names X x c) (nd : X.N.Nodup) (hi : X.N[i]? = some n) (ln : X.env.kindOf n = some .local)
      (hs : ∀ (a : Addr) (oe : Obj) (cls : Value) (d : Option Addr) (pn : List (Addr × Obj)), Zc cls d oe → (∃ vs, oe.data = .fields vs) → PSs (X.suite a ((a, oe) :: pn)) (b0 :: su) (ts a cls d)) (r : Hs X hr l) :
      Hs X (.ExceptHandler (some (.Name x p1)) (some n) (b0 :: su) p2 :: hr) ((c, some i, ts) :: l)
/-- the reading of a try: its clauses, and a body that wishes what they wish -/
def tTry (X : Cx) (Wo : WX) (body : List Stmt) (hds : List ExceptHandler) : TS := fun D σ H => ∃ l, Hs X hds l ∧ ∀ (pn : List (Addr × Obj)) (xe : Value → Shared → Prop), Takes (X.tr pn xe) (wHs X.K Wo D l) → PassesOwn (model X.prog X.w) X.A X.env xe → ∃ ts, PSs (X.tr pn xe) body ts ∧ ts D σ H
section
variable {X : Cx} {body : List Stmt} {h0 : ExceptHandler} {hr : List ExceptHandler} {pos : Pos} {Wo : WX}
theorem ps_tryX (k1 : X.stack = X.env :: X.outer) (k2 : X.env.frame = some X.env.locals) (tk : Takes X Wo) : PS X (.Try body (h0 :: hr) [] [] pos) (tTry X Wo body (h0 :: hr)) := by
  refine ⟨fun pins s σ H D I ⟨l, hh, hb⟩ => ?_⟩
  have ok := I.ok
  have fr : X.A.frames = some (X.env :: X.outer) := by rw [ok.frames, k1]
  refine Exists.elim (hb (X.pn ++ pins) (fun e sa => wpAny (model X.prog X.w) X.A (noteFrame e X.env) (fun _ sb => wpAny (model X.prog X.w) X.A (setFlight e none) (fun _ sc =>
    wpAny (model X.prog X.w) X.A (handleBy e X.env (h0 :: hr)) (SP X pins D) X.xe sc) X.xe sb) X.xe sa) (fun u sd thrown => ?_) PassesOwn.looking) fun ts ⟨hts, hD⟩ => ?_
  · obtain ⟨a, B, sI, pins', σ', H', cls, d, rfl, Jt, nb, up, sky, na, os, ag, w⟩ := thrown
    have J : Inv X pins σ' H' sI := Jt.ofTry ok
    have sk : Sky B (X.env :: X.outer) a (Zc cls d) X.env.locals sd.heap := by rw [← k1]; exact sky
    show wpAny (model X.prog X.w) X.A (noteFrame (.ref a) X.env) _ _ _
    refine Sky.land Zc.steady fr k2 sk fun g3 fl3 up3 => ?_
    have J3 : Inv X pins σ' H' { sd with heap := g3 } := J.landed nb fl3.1 (up.trans up3) os ag
    obtain ⟨o3, v3, e3, z3, d3⟩ := fl3.there
    have out : a ∉ frs (X.env :: X.outer) := fun hm => by
      obtain ⟨_, o', e', hnf⟩ := fl3.2.2.1.mem hm
      rw [e3] at e'
      cases e'
      exact hnf _ d3
    have nL : a ≠ X.env.locals := fun z => out (List.mem_filterMap.mpr ⟨X.env, List.mem_cons_self, by rw [k2, z]⟩)
    have nF : a ∉ X.fs := fun hm => by
      obtain ⟨e, he, q⟩ := List.mem_filterMap.mp hm
      exact out (List.mem_filterMap.mpr ⟨e, List.mem_cons_of_mem _ he, q⟩)
    have S3 := J3.suite e3 d3 na nL nF
    have LT : PySem.W.Looks (model X.prog X.w) g3 (typeOf (.ref a)) cls := fun A Q E s k q => wpAny_typeOf_ref (k _ _ e3) (by rw [z3.1]; exact q)
    have name : ∀ {x : Str} {c : Value} {np : Pos} {Q E : Value → Shared → Prop}, Names X x c → Q c { sd with heap := g3 } → wpAny (model X.prog X.w) (X.A.mark (some (.ref a))) (eval (.Name x np) X.env) Q E { sd with heap := g3 } := fun {x c np Q E} nm q => by
      rcases nm with ⟨hg, db, hm | ⟨hm, hv, hnn⟩⟩
      · exact ld_glob (X := X.suite a ((a, o3) :: (X.pn ++ pins))) S3 hg hm q db
      · exact ld_blt (X := X.suite a ((a, o3) :: (X.pn ++ pins))) S3 hg hm hv q hnn db
    have go : ∀ {hs' : List ExceptHandler} {l' : List (Value × Option Nat × Su)}, Hs X hs' l' → wHs X.K Wo D l' cls d σ' H' → wpAny (model X.prog X.w) X.A (handleBy (.ref a) X.env hs') (SP X pins D) X.xe { sd with heap := g3 } := by
      intro hs' l' hk
      induction hk with
      | nil =>
        intro w
        obtain ⟨_, _, _, oe, vs, T, oT, ts', he, hz, hd, h1, _⟩ := id fl3
        refine wpAny_handleBy_nil ?_
        unfold PySem.passOn
        refine wpAny_bind (wpAny_field he hd h1 ?_)
        rw [if_neg (show ¬ ((Value.ref T == Value.none) = true) from by simp)]
        have fin : wpAny (model X.prog X.w) X.A (setFlight (.ref a) X.env.frame) (fun _ sz => wpAny (model X.prog X.w) X.A (throw (.ref a) : Sem Flow) (SP X pins D) X.xe sz) X.xe { sd with heap := g3 } := by
          rw [k2]
          exact HandSPX.setFlight_upZ fl3 fun g4 hg4 up4 => wpAny_throw (tk _ _ ⟨a, B, sI, pins, σ', H', cls, d, rfl, J, nb, (up.trans up3).trans up4, .inr (.inr (by rw [k1]; exact hg4)), na, os, ag, w⟩)
        first
          | exact wpAny_bind (wpAny_pure (wpAny_bind fin))
          | exact wpAny_bind fin
      | @one x c ts b0 su p1 p2 hr2 l2 nm hsu r ih =>
        rintro ⟨b, hb1, yes, no⟩
        refine wpAny_handleBy_cons (codeAny_handlers_test (name nm ((PySem.W.exm_one (M := model X.prog X.w) J3.kIn LT hb1).here ?_))) (by intro q; cases q)
        cases b with
        | true =>
          refine codeAny_handlers_suite (HandSPX.lands_againZ fl3 fun g4 fl4 up4 => ?_)
          have J4 : Inv X pins σ' H' { sd with heap := g4 } := J.landed nb fl4.1 ((up.trans up3).trans up4) os ag
          obtain ⟨o4, v4, e4, z4, d4⟩ := fl4.there
          refine wpAny_mono ((hsu a o4 cls d (X.pn ++ pins) z4 ⟨_, d4⟩).run [] _ _ H' _ (J4.suite e4 d4 na nL nF) (yes rfl a na)) (fun f s6 q => ?_) (fun _ _ z => False.elim z)
          cases f with
          | next => obtain ⟨σ6, H6, S6, q6⟩ := q; exact ⟨_, _, S6.unsuite ok, q6⟩
          | brk => obtain ⟨σ6, H6, S6, q6⟩ := q; exact ⟨_, _, S6.unsuite ok, q6⟩
          | cont => obtain ⟨σ6, H6, S6, q6⟩ := q; exact ⟨_, _, S6.unsuite ok, q6⟩
          | ret u => obtain ⟨v6, σ6, H6, S6, r6, q6⟩ := q; exact ⟨_, _, _, S6.unsuite ok, r6, q6⟩
        | false =>
          show wpAny _ X.A (handleBy (.ref a) X.env hr2) _ _ _
          exact ih (no rfl)
      | @as x n i c ts b0 su p1 p2 hr2 l2 nm nd hi ln hsu r ih =>
        rintro ⟨b, hb1, yes, no⟩
        refine wpAny_handleBy_cons (codeAny_handlers_test (name nm ((PySem.W.exm_one (M := model X.prog X.w) J3.kIn LT hb1).here ?_))) (by intro q; cases q)
        cases b with
        | true =>
          refine codeAny_handlers_suite_as (HandSPX.lands_againZ fl3 fun g4 fl4 up4 => ?_)
          have J4 : Inv X pins σ' H' { sd with heap := g4 } := J.landed nb fl4.1 ((up.trans up3).trans up4) os ag
          obtain ⟨o4, v4, e4, z4, d4⟩ := fl4.there
          refine store_ok (X := X.suite a ((a, o4) :: (X.pn ++ pins))) (v := .ref a) (J4.suite e4 d4 na nL nF) nd hi (.inl ln) rfl (fun s5 S5 => ?_) (.inr ln)
          refine wpAny_mono ((hsu a o4 cls d (X.pn ++ pins) z4 ⟨_, d4⟩).run [] s5 _ H' _ S5 (yes rfl a na)) (fun f s6 q => ?_) (fun _ _ z => False.elim z)
          have off : ∀ {σ6 : L2.St} {H6 : Hp} {Q : Shared → Prop}, Inv (X.suite a ((a, o4) :: (X.pn ++ pins))) [] σ6 H6 s6 → (∀ s7, Inv X pins (σ6.set i none) H6 s7 → Q s7) → wpAny (model X.prog X.w) X.A (do bindName X.env n .none; unbindBehindTheSuite X.env n p2) (fun _ s7 => Q s7) X.xe s6 := fun S6 hq => gone_ok (S6.unsuite ok) nd hi ln hq
          cases f with
          | next => obtain ⟨σ6, H6, S6, q6⟩ := q; exact off S6 fun s7 J7 => ⟨_, _, J7, q6⟩
          | brk => obtain ⟨σ6, H6, S6, q6⟩ := q; exact off S6 fun s7 J7 => ⟨_, _, J7, q6⟩
          | cont => obtain ⟨σ6, H6, S6, q6⟩ := q; exact off S6 fun s7 J7 => ⟨_, _, J7, q6⟩
          | ret u => obtain ⟨v6, σ6, H6, S6, r6, q6⟩ := q; exact off S6 fun s7 J7 => ⟨_, _, _, J7, r6, q6⟩
        | false =>
          show wpAny _ X.A (handleBy (.ref a) X.env hr2) _ _ _
          exact ih (no rfl)
    exact go hh w
  · refine wpAny_Try_except (wpAny_mono (hts.run [] s σ H D (I.toTry _) hD) (fun f s1 q => ?_) (fun e s1 z => z))
    cases f with
    | next => obtain ⟨σ', H', J', q⟩ := q; exact wpAny_execs_nil ⟨σ', H', J'.ofTry ok, q⟩
    | brk => obtain ⟨σ', H', J', q⟩ := q; exact ⟨σ', H', J'.ofTry ok, q⟩
    | cont => obtain ⟨σ', H', J', q⟩ := q; exact ⟨σ', H', J'.ofTry ok, q⟩
    | ret u => obtain ⟨v, σ', H', J', r, q⟩ := q; exact ⟨v, σ', H', J'.ofTry ok, r, q⟩
end
end Rt
/-! Rt21: the suites of a try: what is caught, its field, isinstance of it; the try as a statement. -/
namespace PySem.W
open PySem PySem.Spec PySem.Calls PyProof.Rows
section
variable {prog : Program} {w : World} {A : Around} {E : Value → Shared → Prop} {s : Shared} {K : Frag} {x D : Addr} {ox : Obj} {od : Option Obj}
theorem rt_find {C : Addr} {name : Str} {a g : Value} (h1 : (clsIn K C).isSome = true) (h2 : findIn K (.ref C) name = some (some a)) (h3 : specialIn K a "__get__" = some (some g)) (h4 : takesIn K a = some true) : findObj K C od name = some (.bind g a) := by
  obtain ⟨cd, e⟩ := Option.isSome_iff_exists.mp h1
  simp only [findObj, e, Option.bind_some, h2, h3, h4]
/-- o.__class__ of an own exception, with a dict of its own or not -/
theorem rt_class {Q : Option Value → Shared → Prop} (g1 : findIn K (.ref D) "__getattribute__" = some (some (.builtin "BaseException.__getattribute__"))) (g2 : findIn K (.ref D) "__getattr__" = some none) (g3 : subIn K (.ref D) (.type "BaseException") = some true) (g4 : hasDictIn K D = true)
    (g5 : findIn K (.ref D) "__class__" = some (some (.builtin "object.__class__"))) (g6 : specialIn K (.builtin "object.__class__") "__get__" = some (some (.builtin "getset_descriptor.__get__"))) (g7 : takesIn K (.builtin "object.__class__") = some true)
    (g8 : mroIn K D (.type "object") = some true) (X : K.In s.heap) (I : InstAt s.heap x ox D od) (q : Q (some (.ref D)) { s with toks := s.toks + 1 }) : wpAny (model prog w) A (getAttr? (.ref x) "__class__") Q E s := by
  have f0 : findObj K D od "__class__" = some (.bind (.builtin "getset_descriptor.__get__") (.builtin "object.__class__")) := rt_find (by obtain ⟨cd, e, _⟩ := any_some g4; rw [e]; rfl) g5 g6 g7
  obtain ⟨hp, g, d, t, os⟩ := s
  have l0 := I.type (M := model prog w)
  have l1 := looks_findIn (M := model prog w) X g1
  have l2 := looks_findIn (M := model prog w) X g2
  have l3 := looks_find (M := model prog w) X I f0
  have isB : Looks (model prog w) hp (isInstance (.ref x) (.type "BaseException")) true := l0.andThen (looks_subIn X g3)
  have n2 : (Value.builtin "BaseException.__getattribute__" == Value.builtin "object.__getattribute__") = false := by decide +kernel
  have n1 : (onTheHeap (Value.ref D) && Value.builtin "BaseException.__getattribute__" == Value.builtin "object.__getattribute__") = false := by rw [n2, Bool.and_false]
  have n0 : (false && onTheHeap (Value.builtin "BaseException.__getattribute__")) = false := rfl
  unfold getAttr? getAttrBy? getAttrBy
  refine wpAny_bind (wpAny_mkText (wpAny_bind (wpAny_attempt (wpAny_holding (wpAny_bind (l0.at (wpAny_bind (l1.at ?_))))))))
  show wpAny _ _ (ite ((onTheHeap (Value.ref D) && Value.builtin "BaseException.__getattribute__" == Value.builtin "object.__getattribute__") = true) _ _) _ _ _
  rw [n1, if_neg Bool.false_ne_true]
  unfold getAttrByItsOwn hookBefore
  refine wpAny_bind ?_
  rw [if_pos (show onTheHeap (Value.ref D) = true from rfl)]
  refine l2.at (wpAny_bind (wpAny_attempt (wpAny_holding ?_)))
  unfold callGetattribute
  rw [n0, if_neg Bool.false_ne_true]
  unfold boundAndCalled
  rw [PySem.F.excAttr_ValueError.ga.bind (.ref x)]
  refine wpAny_bind (wpAny_pure ?_)
  show wpAny _ _ (call (.builtin "BaseException.__getattribute__") [.ref x, .str "__class__" t]) _ _ _
  refine wpAny_call (codeAny_call_builtin PySem.F.excAttr_ValueError.ga.plain PySem.F.entry_bexc_ga (@check_slot (model prog w) _ _ ⟨hp, g, d, t + 1, os⟩ "BaseException.__getattribute__" "BaseException" "__getattribute__" (.ref x) [.str "__class__" t] [] _ (by decide +kernel) (by decide +kernel) isB (PySem.F.args_bexc_ga (.ref x) (.str "__class__" t)) ?_))
  unfold Builtin.«object.__getattribute__»
  refine wpAny_bind (wpAny_of_eq (a := ((Value.ref x : Value), [Value.str "__class__" t])) (by first | rfl | (simp only [slotArgs]; rfl)) (wpAny_bind (wpAny_pure (wpAny_bind (l0.at (wpAny_bind (l3.at ?_)))))))
  show wpAny _ _ (holding [Value.builtin "object.__class__"] (call (.builtin "getset_descriptor.__get__") [.builtin "object.__class__", .ref x, .ref D]) >>= ret) _ _ _
  refine wpAny_bind (wpAny_holding (wpAny_call (class_get (s := ⟨hp, g, d, t + 1, os⟩) (ox := ox) (od := od) X I g8 (wpAny_pure ?_))))
  show wpAny _ _ (handedOut (.ref D)) _ _ _
  rw [handedOut_of (v := .ref D) rfl]
  first
    | exact wpAny_pure (wpAny_pure q)
    | exact wpAny_pure q
    | exact wpAny_pure (wpAny_bind (wpAny_pure (wpAny_pure q)))
theorem rt_kitx (g1 : findIn K (.ref D) "__getattribute__" = some (some (.builtin "BaseException.__getattribute__"))) (g2 : findIn K (.ref D) "__getattr__" = some none) (g3 : subIn K (.ref D) (.type "BaseException") = some true) (g4 : hasDictIn K D = true)
    (g5 : findIn K (.ref D) "__class__" = some (some (.builtin "object.__class__"))) (g6 : specialIn K (.builtin "object.__class__") "__get__" = some (some (.builtin "getset_descriptor.__get__"))) (g7 : takesIn K (.builtin "object.__class__") = some true)
    (g8 : mroIn K D (.type "object") = some true) : KitX K (.ref x) (.ref D) (fun h => InstAt h x ox D od) := by
  obtain ⟨cd, hc, _⟩ := any_some g4
  unfold clsIn at hc
  split at hc
  · rename_i c' d' cd' sl' ho
    refine ⟨fun _ _ _ I => I.type, fun _ _ X _ => ?_, fun h tp dd its n sl X htp => Bool.eq_false_iff.mpr fun q => ?_, fun X I k => rt_class g1 g2 g3 g4 g5 g6 g7 g8 X I k⟩
    · intro A' Q' E' s' k q
      unfold isType loadHead
      exact wpAny_bind (wpAny_loadPart (k _ _ (X _ _ ho)) (wpAny_pure q))
    · have e : D = tp := Value.ref.inj (beq_iff_eq.mp q)
      subst e
      cases (X _ _ ho).symm.trans htp
  · cases hc
end
end PySem.W
namespace L2
open PySem PySem.Spec PyProof.Rows
/-- isinstance(e, c) of what a suite holds -/
def rIsX (K : PySem.W.Frag) (D a : Addr) : List V → Hp → VK → Prop := fun xs H Q => ∃ (c : V) (cv : Value) (b : Bool), xs = [.ref a, c] ∧ (∀ u, RelV c u → u = cv) ∧ PySem.W.kitOne K (.ref D) cv = some b ∧ Q (.bl b) H
theorem call_isX {X : Cx} {a D : Addr} {oe : Obj} {d : Option Addr} {pn : List (Addr × Obj)} {fs : List (Str × V)} (C : ExcC X.K D) (hz : Zc (.ref D) d oe) (hf : ∃ vs, oe.data = .fields vs) :
    CallR (X.suite a ((a, oe) :: pn)) (.builtin "isinstance") (fun xs H Q => (∀ dd, d = some dd → H dd = some (.xd fs)) ∧ rIsX X.K D a xs H Q) := by
  rintro pins s σ H xs us Q I r ⟨hdd, c, cv, b, rfl, hcv, e, q⟩
  cases r with
  | cons rx rr =>
    cases rr with
    | cons rt rr =>
      cases rr
      cases rx
      have ec := hcv _ rt
      subst ec
      have hget := (I.pin (a, oe) (List.mem_append.mpr (.inl List.mem_cons_self))).1
      obtain ⟨vs, hv⟩ := hf
      have J : ∃ od, PySem.W.InstAt s.heap a oe D od := by
        cases d with
        | none =>
          obtain ⟨oc, oda, odt, osl⟩ := oe
          obtain ⟨z1, z2⟩ := hz
          dsimp only at z1 z2 hv
          subst z1 z2 hv
          exact ⟨none, hget, rfl, rfl, trivial⟩
        | some dd =>
          have hx : ObjOk X.prog X.w H s.heap dd (.xd fs) := I.hok dd _ (hdd dd rfl)
          obtain ⟨mA, hns, _⟩ := hx
          obtain ⟨od, ho, _⟩ := lookIn_ns hns
          exact ⟨some od, hget, hz.1, by unfold PySem.W.notCls; rw [hv] <;> rfl, by rw [hz.2]; exact ho⟩
      obtain ⟨od, J⟩ := J
      exact PySem.W.kia_one (PySem.W.rt_kitx C.hg C.hk C.hs C.hd C.ha C.hn C.ht C.hm) I.kIn J e (fun z => nomatch z) fun tk => ⟨.bl b, H, I.kept (t' := tk) fun _ _ z => z, rfl, q⟩
end L2
/-! Rt22: try as a statement; what a suite says of what it holds. -/
namespace Rt
open PySem L2 R
def hwp {α : Type} (o : Option (Res α)) (Q : α → Prop) (w : Prop) : Prop := match o with
  | some r => r.calm.wp Q (fun _ => False)
  | none => w
theorem tryR_wp {α : Type} {m : Res α} {h : Exn → Option (Res α)} {Q : α → Prop} {E : Exn → Prop} (q : (tryR m h).wp Q E) : m.wp Q (fun e => hwp (h e) Q (E e)) := by
  cases m with
  | ok a => exact q
  | stuck => exact q
  | exn e =>
    show hwp (h e) Q (E e)
    have q' : (match h e with | some r => r.calm | none => Res.exn e).wp Q E := q
    cases he : h e with
    | some r =>
      rw [he] at q'
      show r.calm.wp Q (fun _ => False)
      have q2 : r.calm.wp Q E := q'
      cases r with
      | ok a => exact q2
      | exn e => exact q2.elim
      | stuck => exact q2.elim
    | none =>
      rw [he] at q'
      exact q'
/-- what a suite holds by its name -/
def cEx (T : XT) (a : Addr) (cls : Value) (d : Option Addr) : Cod Exn := ⟨fun G v ex => v = .ref a ∧ T.rel ex cls d G, fun h e => ⟨h.1, XT.rel_mono h.2 e⟩⟩
/-- nothing stands at the slot behind -/
def Out.free (o : Out) (i : Nat) : Prop :=
  match o with
  | .nx Γ => Γ[i]? = some none
  | .ret _ _ => True
  | .brk Γ => Γ[i]? = some none
  | .cnt Γ => Γ[i]? = some none
/-- clauses: their suites by what is raised -/
structure HX (X : Cx) (T : XT) (Γb : Ctx) (hds : List ExceptHandler) (l : List (Value × Option Nat × Su)) {α : Type} (h : Exn → Option (Res α)) (I : α → Out) : Prop where
  hs : Hs X hds l
  ev : ∀ (W : WX) (Z G0 : Hp) (S : List Pl) (σ : L2.St) (G H : Hp) (D : Ends) (ex : Exn) (cls : Value) (d : Option Addr), Okc Z G0 S Γb σ G H → T.rel ex cls d G →
    hwp (h ex) (fun a => (I a).go D Z G0 S) (W cls d σ H) → wHs X.K W D l cls d σ H
section
variable {X : Cx} {T : XT} {W : WX} {Γx Γ Γb : Ctx} {K : PySem.W.Frag}
theorem hx_nil {α : Type} {I : α → Out} : HX X T Γb [] [] (fun _ => none) I := ⟨.nil, fun _ _ _ _ _ _ _ _ _ _ _ _ _ q => q⟩
/-- what a clause tells apart -/
def Tells (K : PySem.W.Frag) (T : XT) (c : Value) (b : Exn → Bool) : Prop := ∀ ex cls d G, T.rel ex cls d G → PySem.W.exmOne K cls c = some (b ex)
theorem suite_wp {α : Type} {r : Res α} {Q : α → Prop} {b : Bool} {o : Option (Res α)} {w : Prop} (q : hwp (if b then some r else o) Q w) :
    (b = true → r.wp Q fun _ => False) ∧ (b = false → hwp o Q w) := by
  cases b with
  | true => exact ⟨fun _ => Res.wp_mono (Res.wp_calm q) (fun _ z => z) fun _ z => z, fun z => by cases z⟩
  | false => exact ⟨fun z => (by cases z), fun _ => q⟩
theorem hx_one {x : Str} {c : Value} {ts : Su} {b0 : Stmt} {su : List Stmt} {p1 p2 : Pos} {hr : List ExceptHandler} {l : List (Value × Option Nat × Su)} {α : Type} {I : α → Out} {b : Exn → Bool} {m : Exn → Res α} {h : Exn → Option (Res α)} (nm : Names X x c) (tl : Tells X.K T c b)
    (hsu : ∀ (a : Addr) (oe : Obj) (cls : Value) (d : Option Addr) (pn : List (Addr × Obj)), Zc cls d oe → (∃ vs, oe.data = .fields vs) → ∀ ex, SX (X.suite a ((a, oe) :: pn)) T (fun _ _ _ _ => False) [] Γb (b0 :: su) (ts a cls d) (m ex) I)
    (r : HX X T Γb hr l h I) : HX X T Γb (.ExceptHandler (some (.Name x p1)) none (b0 :: su) p2 :: hr) ((c, none, ts) :: l) (fun ex => if b ex then some (m ex) else h ex) I := by
  refine ⟨.one nm (fun a oe cls d pn z f => (hsu a oe cls d pn z f (.cls 0)).ps) r.hs, fun W Z G0 S σ G H D ex cls d k t q => ⟨b ex, tl ex cls d G t, fun e a ha => ?_, fun e => ?_⟩⟩
  · have q1 := (suite_wp q).1 e
    exact (hsu a ⟨cls, d, .fields #[], #[]⟩ cls d [] ⟨rfl, rfl⟩ ⟨_, rfl⟩ ex).ev Z G0 S σ G H D k (Res.wp_mono q1 (fun _ z => z) fun _ z => z.elim)
  · exact r.ev W Z G0 S σ G H D ex cls d k t ((suite_wp q).2 e)
theorem Out.go_gone {o : Out} {i : Nat} {D : Ends} {Z G0 : Hp} {S : List Pl} (f : o.free i) (h : o.go D Z G0 S) : o.go (dOf D (some i)) Z G0 S := by
  cases o with
  | nx Γ => exact fun σ G H k => h _ G H (forget1 k f)
  | ret s l => exact h
  | brk Γ => exact fun σ G H k => h _ G H (forget1 k f)
  | cnt Γ => exact fun σ G H k => h _ G H (forget1 k f)
theorem hx_as {x n : Str} {i : Nat} {c : Value} {ts : Su} {b0 : Stmt} {su : List Stmt} {p1 p2 : Pos} {hr : List ExceptHandler} {l : List (Value × Option Nat × Su)} {α : Type} {I : α → Out} {b : Exn → Bool} {m : Exn → Res α} {h : Exn → Option (Res α)} (nm : Names X x c) (tl : Tells X.K T c b) (nd : X.N.Nodup)
    (hsu : ∀ (a : Addr) (oe : Obj) (cls : Value) (d : Option Addr) (pn : List (Addr × Obj)), Zc cls d oe → (∃ vs, oe.data = .fields vs) → ∀ ex, SX (X.suite a ((a, oe) :: pn)) T (fun _ _ _ _ => False) [] (Γb.set i (some (fz (cEx T a cls d) ex))) (b0 :: su) (ts a cls d) (m ex) I)
    (r : HX X T Γb hr l h I) (hfr : ∀ a, (I a).free i := by intro a; first | exact trivial | rfl | (cases a <;> first | exact trivial | rfl)) (hi : X.N[i]? = some n := by rfl) (hl : Nat.ble (i + 1) Γb.length = true := by rfl) (ln : X.env.kindOf n = some .local := by rfl) :
    HX X T Γb (.ExceptHandler (some (.Name x p1)) (some n) (b0 :: su) p2 :: hr) ((c, some i, ts) :: l) (fun ex => if b ex then some (m ex) else h ex) I := by
  refine ⟨.as nm nd hi ln (fun a oe cls d pn z f => (hsu a oe cls d pn z f (.cls 0)).ps) r.hs, fun W Z G0 S σ G H D ex cls d k t q => ⟨b ex, tl ex cls d G t, fun e a ha => ?_, fun e => ?_⟩⟩
  · have q1 := (suite_wp q).1 e
    have k1 : Okc Z G0 S (Γb.set i (some (fz (cEx T a cls d) ex))) (σ.set i (some (.ref a))) G H := Okc.store (k.pushf (c := cEx T a cls d) (a := ex) (v := .ref a) ⟨rfl, t⟩) (Nat.le_of_ble_eq_true hl)
    exact (hsu a ⟨cls, d, .fields #[], #[]⟩ cls d [] ⟨rfl, rfl⟩ ⟨_, rfl⟩ ex).ev Z G0 S _ G H _ k1 (Res.wp_mono q1 (fun a z => Out.go_gone (hfr a) z) fun _ z => z.elim)
  · exact r.ev W Z G0 S σ G H D ex cls d k t ((suite_wp q).2 e)
theorem s1_try {body : List Stmt} {h0 : ExceptHandler} {hr : List ExceptHandler} {l : List (Value × Option Nat × Su)} {pos : Pos} {α : Type} {mB : Res α} {h : Exn → Option (Res α)} {I : α → Out} (Γb : Ctx) (tk : Takes X W)
    (hb : ∀ (W' : WX) (pn : List (Addr × Obj)) (xe : Value → Shared → Prop), Takes (X.tr pn xe) W' → PassesOwn (model X.prog X.w) X.A X.env xe → ∃ ts, SX (X.tr pn xe) T W' Γb Γ body ts mB I)
    (hh : HX X T Γb (h0 :: hr) l h I) (hw : Wk Γb Γx) (k1 : X.stack = X.env :: X.outer := by rfl) (k2 : X.env.frame = some X.env.locals := by rfl) :
    S1 X T W Γx Γ (.Try body (h0 :: hr) [] [] pos) (tTry X W body (h0 :: hr)) (tryR mB h) I := by
  refine ⟨ps_tryX k1 k2 tk, fun Z G0 S σ G H D k q => ⟨l, hh.hs, fun pn xe tk' po => ?_⟩⟩
  obtain ⟨ts, hs⟩ := hb _ pn xe tk' po
  refine ⟨ts, hs.ps, hs.ev Z G0 S σ G H D k (Res.wp_mono (tryR_wp q) (fun _ z => z) fun ex q cls d σ' G' H' k' t => ?_)⟩
  refine hh.ev W Z G0 S σ' G' H' D ex cls d k' t ?_
  cases e : h ex with
  | some r =>
    rw [e] at q
    exact q
  | none =>
    rw [e] at q
    exact (show ∀ cls d σ' G' H', _ from q) cls d σ' G' H' (hw _ _ _ _ _ _ k') t
/-- e.f of what the suite holds -/
theorem ex_exf {a : Addr} {oe : Obj} {cls : Value} {d : Option Addr} {pn : List (Addr × Obj)} {e : Expr} {te : TE} {pos : Pos} {n : Str} {C : Addr} {α γ : Type} {c : Cod γ} {m : Res α} {f : Exn → Res γ} {x : α → Exn} {Γo : α → Ctx} {W : WX} (xf : XfC K C) (na : PySem.W.findIn K (.ref C) n = some none) (hz : Zc cls d oe) (hf : ∃ vs, oe.data = .fields vs)
    (hn : ∀ ex, ∀ z, f ex ≠ .exn z) (hr : ∀ ex z G, f ex = .ok z → T.rel ex cls d G → cls = .ref C ∧ ∃ dd fs v, d = some dd ∧ G dd = some (.xd fs) ∧ fs.lookup n = some v ∧ c.rel G v z)
    (he : EX (X.suite a ((a, oe) :: pn)) T W Γx Γ e te m (fun t => fz (cEx T a cls d) (x t)) Γo) (hK : X.K = K := by rfl)
    (hb : attributeBase e n X.env (eval e X.env) = eval e X.env := by rfl) :
    EX (X.suite a ((a, oe) :: pn)) T W Γx Γ (.Attribute e n pos) (tXf a cls d C n te) (m.bind fun t => (f (x t)).bind fun z => .ok (t, z)) (fun t => fz c t.2) (fun t => Γo t.1) := by
  subst hK
  refine ⟨pe_xf xf na hz hf he.pe hb, fun Z G0 S σ G H Q k q => he.ev Z G0 S σ G H _ k (Res.wp_mono (Res.wp_bind q) (fun t q v G' H' k' => ?_) fun ex q => q)⟩
  obtain ⟨e1, t1⟩ := k'.tp
  obtain ⟨z, ez, q3⟩ := wp_cases (Res.wp_bind q) (hn (x t))
  obtain ⟨e2, dd, fs, w, e3, e4, e5, e6⟩ := hr _ z G' ez t1
  exact ⟨e1, e2, dd, fs, w, e3, k'.ok.gh dd _ e4, e5, q3 w G' H' (k'.drop.pushf e6)⟩
theorem exf_name {cls : Value} {d : Option Addr} : ∀ ex z G, exName ex = .ok z → T.rel ex cls d G → cls = .ref T.oor ∧ ∃ dd fs v, d = some dd ∧ G dd = some (.xd fs) ∧ fs.lookup ("name" : Str) = some v ∧ cTx.rel G v z := fun ex z G e t => by
  cases ex with
  | oor n =>
    obtain ⟨h1, h2, dd, h3, h4⟩ := t
    cases e
    exact ⟨h1, dd, _, _, h3, h4, rfl, rfl, h2⟩
  | txt _ _ _ => cases e
  | cls _ => cases e
theorem exn_name : ∀ ex : Exn, ∀ z, exName ex ≠ .exn z := fun ex z h => by cases ex <;> cases h
/-- the classes whose instances are caught, and what isinstance tells of them -/
def IsX (K : PySem.W.Frag) (T : XT) (cv : Value) (b : Exn → Bool) : Prop := ∀ ex cls d G, T.rel ex cls d G → ∃ D, cls = .ref D ∧ ExcC K D ∧ PySem.W.kitOne K (.ref D) cv = some (b ex)
theorem ex_isE {a : Addr} {oe : Obj} {cls : Value} {d : Option Addr} {pn : List (Addr × Obj)} {x y : Str} {p p1 pos : Pos} {ce : Expr} {cv : V} {u : Value} {ex : Exn} {b : Exn → Bool} {W : WX} (i : Nat) (ki : IsX X.K T u b) (hz : Zc cls d oe) (hf : ∃ vs, oe.data = .fields vs) (hm : X.mg x = none)
    (hc : PE (X.suite a ((a, oe) :: pn)) ce (tC cv)) (hu : ∀ w, RelV cv w → w = u) (hv : bootBuiltins x = some (.builtin "isinstance")) (h : Γ[i]? = some (some (fz (cEx T a cls d) ex)) := by rfl) (hN : X.N[i]? = some y := by rfl) (hvis : Vis X.env.scope y := by first | exact Or.inl rfl | exact Or.inr (Or.inl rfl) | exact Or.inr (Or.inr rfl))
    (hg : Gl (X.suite a ((a, oe) :: pn)) x := by rfl) (hd : (y == ("__debug__" : Str)) = false := by decide) (hcd : (y == ("__classdict__" : Str)) = false := by decide) (hn : x ≠ "__name__" := by decide) (hdb : (x == ("__debug__" : Str)) = false := by decide)
    (he : starEach [.Name y p1, ce] X.env = (false, eval (.Name y p1) X.env) :: starEach [ce] X.env := by rfl) (he2 : starEach [ce] X.env = (false, eval ce X.env) :: starEach [] X.env := by rfl) (hpl : (backTo pos (starEach [ce] X.env)).any (·.1) = false := by rfl) :
    EX (X.suite a ((a, oe) :: pn)) T W Γx Γ (.Call (.Name x p) [.Name y p1, ce] [] pos) (tCB (fun xs H Q => ∃ D fs, cls = .ref D ∧ (∀ dd, d = some dd → H dd = some (.xd fs)) ∧ ExcC X.K D ∧ rIsX X.K D a xs H Q) (tCons (tVar i) (tCons (tC cv) tNil))) (.ok ()) (fun _ => sB (b ex)) (fun _ => Γ) := by
  refine ⟨pe_callB (fun pins s σ H xs us Q I r ⟨D, fs, e1, e2, e3, q⟩ => ?_) hg hm hv (pa_cons (pv i hN hvis hd hcd) (pa_cons hc pa_nil he2) he) hn hdb he hpl, fun Z G0 S σ G H Q k q => ?_⟩
  · subst e1
    exact call_isX e3 hz hf pins s σ H xs us Q I r ⟨e2, q⟩
  · obtain ⟨v, hs, e1, t⟩ := k.slot h
    subst e1
    obtain ⟨D, h1, h2, h3⟩ := ki ex cls d G t
    have hdd : ∃ fs, ∀ dd, d = some dd → H dd = some (.xd fs) := by
      cases ex with
      | oor n =>
        obtain ⟨_, _, dd, e1, e2⟩ := t
        exact ⟨_, fun d2 e3 => by rw [e1] at e3; cases e3; exact k.ok.gh _ _ e2⟩
      | txt l c w =>
        obtain ⟨_, _, _, dd, e1, e2⟩ := t
        exact ⟨_, fun d2 e3 => by rw [e1] at e3; cases e3; exact k.ok.gh _ _ e2⟩
      | cls j => exact ⟨[], fun d2 e3 => by rw [t.2.1] at e3; cases e3⟩
    obtain ⟨fs, hdd⟩ := hdd
    exact ⟨.ref a, hs, D, fs, h1, hdd, h2, cv, u, b ex, rfl, hu, h3, q _ _ _ (k.pushf rfl)⟩
end
end Rt
namespace Rt
open PySem L2 R
/-- an own exception class that is made with a written text -/
structure ExO (K : PySem.W.Frag) (mg : Str → Option Value) (x : Str) (C : Addr) : Prop where
  at_ : mg x = some (.ref C)
  xi : PySem.W.excIn K C [.type "ValueError", .type "Exception", .type "BaseException", .type "object"] "ValueError.__new__" = true
  kp : PySem.W.keepIn K (.ref C) = true
  sb : PySem.W.subIn K (.ref C) (.type "BaseException") = some true
  ty : PySem.W.typeIn K (.ref C) = some (.type "type")
section
variable {X : Cx} {T : XT} {W : WX} {Γx Γ : Ctx}
theorem sx_cls {x m : Str} {p p2 pos pos2 : Pos} {j k : Nat} {C : Addr} {γ : Type} {rest : List Stmt} {I : γ → Out} (ex : ExO X.K X.mg x C) (ck : T.cl k = C ∧ k ∈ T.ks) (tk : Takes X W) (hw : Wk Γ Γx) (hc : X.calm = true := by rfl) (hg : Gl X x := by rfl) (hdb : (x == ("__debug__" : Str)) = false := by decide) :
    SX X T W Γx Γ (.Raise (some (.Call (.Name x p) [.Constant (.str m) j p2] [] pos)) none pos2 :: rest) (tSeq (fun _ σ H => W (.ref C) none σ H) tNever) (.exn (.cls k) : Res γ) I := by
  refine ⟨pss_cons (ps_raise hc tk (pmk_own PySem.F.excBase_ValueError ex.xi ex.at_ ex.kp (raises_own ex.sb ex.ty) hg hdb)) pss_never, fun Z G0 S σ G H D kk q => ?_⟩
  exact q (.ref C) none σ G H (hw _ _ _ _ _ _ kk) ⟨by rw [ck.1], rfl, ck.2⟩
end
theorem tells_of {K : PySem.W.Frag} {T : XT} {c : Value} {b : Exn → Bool} (bo : Bool) (hb : ∀ n, b (.oor n) = bo) (ho : PySem.W.exmOne K (.ref T.oor) c = some bo) (ht : T.ht = false) (hk : ∀ k ∈ T.ks, PySem.W.exmOne K (.ref (T.cl k)) c = some (b (.cls k))) : Tells K T c b := fun ex cls d G t => by
  cases ex with
  | oor n => rw [t.1, ho, hb]
  | txt l cl w => have z := t.2.1; rw [ht] at z; cases z
  | cls k => rw [t.1, hk k t.2.2]
theorem isx_of {K : PySem.W.Frag} {T : XT} {cv : Value} {b : Exn → Bool} (bo : Bool) (hb : ∀ n, b (.oor n) = bo) (ho : ExcC K T.oor ∧ PySem.W.kitOne K (.ref T.oor) cv = some bo) (ht : T.ht = false) (hk : ∀ k ∈ T.ks, ExcC K (T.cl k) ∧ PySem.W.kitOne K (.ref (T.cl k)) cv = some (b (.cls k))) : IsX K T cv b := fun ex cls d G t => by
  cases ex with
  | oor n => exact ⟨_, t.1, ho.1, by rw [ho.2, hb]⟩
  | txt l cl w => have z := t.2.1; rw [ht] at z; cases z
  | cls k => exact ⟨_, t.1, hk k t.2.2⟩
theorem all_nil {P : Nat → Prop} : ∀ k ∈ ([] : List Nat), P k := fun k h => by cases h
theorem all_cons {P : Nat → Prop} {a : Nat} {l : List Nat} (h : P a) (r : ∀ k ∈ l, P k) : ∀ k ∈ a :: l, P k := fun k hk => by
  rcases List.mem_cons.mp hk with rfl | z
  · exact h
  · exact r k z
end Rt
namespace PySem.W
open PySem PySem.Spec PyProof.Rows
section
variable {K : Frag} {C : Addr} {cls : Value}
theorem rt_cls {b : Bool} (h1 : hasDictIn K C = true) (h2 : typeIn K (.ref C) = some (.type "type")) (h3 : subIn K cls (.ref C) = some b) : kitCls K cls (.ref C) = some b := by
  obtain ⟨cd, hc, _⟩ := any_some h1
  have e : ((clsIn K C).isSome && typeIn K (.ref C) == some (.type "type")) = true := by rw [hc, h2] <;> rfl
  show (if _ then _ else _) = _
  rw [if_pos e, h3]
theorem rt_kit (h1 : hasDictIn K C = true) (h2 : typeIn K (.ref C) = some (.type "type")) (h3 : subIn K cls (.ref C) = some true) : kitOne K cls (.ref C) = some true := by
  unfold kitOne
  split
  · rfl
  · exact rt_cls h1 h2 h3
theorem rt_kitN (h1 : hasDictIn K C = true) (h2 : typeIn K (.ref C) = some (.type "type")) (h3 : subIn K cls (.ref C) = some false) (h4 : subIn K (.ref C) (.ref C) = some true) : kitOne K cls (.ref C) = some false := by
  unfold kitOne
  split
  · next e =>
    rw [beq_iff_eq] at e
    rw [e, h4] at h3
    cases h3
  · exact rt_cls h1 h2 h3
theorem rt_kitT {S : String} (h1 : kitMeta S = true) (h3 : subIn K cls (.type S) = some true) : kitOne K cls (.type S) = some true := by
  unfold kitOne
  split
  · rfl
  · show (if _ then _ else _) = _
    rw [if_pos h1, h3]
end
end PySem.W
/-! Rt23: a chain whose last part may stop; an option that must hold something. -/
namespace Rt
open PySem L2 R
section
variable {X : Cx} {T : XT} {W : WX} {Γx Γ : Ctx}
theorem et_chainM {op op' : CmpOp} {p p' : Int → Int → Bool} {a b c : Expr} {pos : Pos} {ta tb tc : TE} {α β γ : Type} [Nonempty α] [Nonempty β] {m1 : Res α} {m2 : α → Res β} {m3 : α → β → Res γ} {i : α → Int} {j : α → β → Int} {z : α → β → γ → Int} {Γ1 : α → Ctx} {Γ2 : α → β → Ctx} {Γ3 : α → β → γ → Ctx}
    (ho : OpR X (compareOp op) (rI0 fun i j => .bl (p i j))) (ho' : OpR X (compareOp op') (rI0 fun i j => .bl (p' i j)))
    (ha : EX X T W Γx Γ a ta m1 (fun x => sI (i x)) Γ1) (hb : ∀ x, EX X T W Γx (Γ1 x) b tb (m2 x) (fun y => sI (j x y)) (Γ2 x)) (hc : ∀ x w, EX X T W Γx (Γ2 x w) c tc (m3 x w) (fun u => sI (z x w u)) (Γ3 x w))
    (hΓ2 : ∀ x w, Γ2 x w = Γ := by exact fun _ _ => rfl) (hΓ3 : ∀ x w u, Γ3 x w u = Γ := by exact fun _ _ _ => rfl) (hm : lastMarks [op, op'] [b, c] = false := by with_unfolding_all rfl) :
    ET X T W Γx Γ (.Compare a [op, op'] [b, c] pos) (tTest (tChain (rI0 fun i j => .bl (p i j)) (rI0 fun i j => .bl (p' i j)) ta tb tc)) (m1.bind fun x => (m2 x).bind fun w => if p (i x) (j x w) then (m3 x w).bind fun u => .ok (p' (j x w) (z x w u)) else .ok false) id (fun _ => Γ) := by
  obtain ⟨x⟩ := ‹Nonempty α›
  obtain ⟨w⟩ := ‹Nonempty β›
  refine ⟨pt_chain ho ho' ha.pe (hb x).pe (hc x w).pe hm, fun Z G0 S σ G H Q k q => ha.ev Z G0 S σ G H _ k (Res.wp_mono (Res.wp_bind q) (fun x q v1 G1 H1 k1 => ?_) fun _ z => z)⟩
  refine (hb x).ev Z G0 _ σ G1 H1 _ k1 (Res.wp_mono (Res.wp_bind q) (fun w q v2 G2 H2 k2 => ?_) fun ex q cls d G' H' k' => q cls d G' H' k'.drop)
  refine ⟨_, _, k2.drop.tp, k2.tp, _, rfl, ?_⟩
  cases e : p (i x) (j x w) with
  | true =>
    rw [if_pos rfl]
    simp only [e, if_true] at q
    refine (hc x w).ev Z G0 _ σ G2 H2 _ k2 (Res.wp_mono (Res.wp_bind q) (fun u q v3 G3 H3 k3 => ?_) fun ex q cls d G' H' k' => q cls d G' H' k'.drop.drop)
    rw [hΓ3] at k3
    exact ⟨_, _, k3.drop.tp, k3.tp, _, rfl, q G3 H3 k3.drop.drop.drop⟩
  | false =>
    rw [if_neg Bool.false_ne_true]
    simp only [e, Bool.false_eq_true, if_false] at q
    have k3 := k2.drop.drop
    rw [hΓ2] at k3
    exact ⟨_, rfl, q G2 H2 k3⟩
theorem unopt_ne {α : Type} {o : Option α} : ∀ e, R.unopt o ≠ .exn e := fun e z => by cases o <;> cases z
theorem EX.unopt {e : Expr} {te : TE} {α β : Type} {m : Res α} {c : Cod β} {o : α → Option β} {Γo : α → Ctx} (h : EX X T W Γx Γ e te m (fun t => fz (cOpt c) (o t)) Γo) : EX X T W Γx Γ e te (m.bind fun t => (R.unopt (o t)).bind fun b => .ok (t, b)) (fun t => fz c t.2) (fun t => Γo t.1) := by
  refine ⟨h.pe, fun Z G0 S σ G H Q k q => h.ev Z G0 S σ G H Q k (Res.wp_mono (Res.wp_bind q) (fun t q v G' H' k' => ?_) fun _ z => z)⟩
  obtain ⟨b, e, q2⟩ := wp_cases (Res.wp_bind q) unopt_ne
  cases ho : o t with
  | none => rw [ho] at e; cases e
  | some b' =>
    rw [ho] at e
    cases e
    have r := k'.tp
    rw [ho] at r
    exact q2 v G' H' (k'.drop.pushf r.1)
end
end Rt
/-! Rt24: enumerate over a text. -/
namespace L2
open PySem PySem.Spec PyProof.Rows
/-- the signs of a text, each in a new pair behind its place -/
def Itet (x : Str) : It := ⟨fun i _ => i < x.cps.size, fun i H v H' => ∃ T c, v = .ref T ∧ H T = none ∧ H' = upd H T (.tup [.int (i : Nat), .str ⟨#[c]⟩]) ∧ x.cps[i]? = some c, fun i _ => x.cps.size ≤ i⟩
theorem turn_enumT {P : Program} {w : World} {K : PySem.W.Frag} {elts : List Expr} {kk : Nat} {tpos : Pos} (x : Str) (t : Tok) (e it : Addr) :
    Turn P w K (.Tuple elts kk tpos) (Itet x) [e, it] e (fun i h => (∃ old, IsEnum h e it ((i : Nat) : Int) old) ∧ h.IsStrIter it (strIterType x) x t i ∧ e ≠ it ∧ i ≤ x.cps.size) where
  mem := List.mem_cons_self
  obj := fun i h st b hb => by
    obtain ⟨⟨old, he⟩, ⟨o, ho, _, hd⟩, _⟩ := st
    rcases List.mem_cons.mp hb with z | z
    · subst z
      exact ⟨_, he, fun v q => nomatch q⟩
    · exact ⟨o, List.mem_singleton.mp z ▸ ho, fun v q => by rw [hd] at q; cases q⟩
  keep := fun i h h' st k => by
    obtain ⟨⟨old, he⟩, ⟨o, ho, r⟩, hne, hle⟩ := st
    exact ⟨⟨old, k e (by simp) _ he⟩, ⟨o, k it (by simp) o ho, r⟩, hne, hle⟩
  item := by
    intro X hP hw hK hc i pins s σ H E I hf st hg
    subst hP hw hK
    obtain ⟨⟨old, he⟩, hit, hne, hle⟩ := st
    have hel : e < s.heap.objs.size := Heap.lt_size he
    have hil : it < s.heap.objs.size := by obtain ⟨_, q, _⟩ := hit; exact Heap.lt_size q
    have D := Draws.text (prog := X.prog) (w := X.w) (A := X.A.in1) (I.ok.hd hc) it x t
    refine wpAny_pyNext_enum_itemC D he hit hg hne (by simpa using hne) fun u h' tk hu ho hit' hT hsz hk => ?_
    obtain ⟨c, tu, hcx, rfl⟩ := hu
    refine ⟨_, rfl, wpAny_letOwnedTupleGo_enum (s := { s with heap := h', toks := tk + 1 }) ho fun g he' sb => ?_⟩
    have hT2 : g.get? s.heap.objs.size = some { cls := .type "tuple", data := .seq #[.int i tk, .str ⟨#[c]⟩ tu] } := (sb.2 _ (Nat.ne_of_gt hel)).trans hT
    have new : ObjOk X.prog X.w (upd H s.heap.objs.size (.tup [.int (i : Nat), .str ⟨#[c]⟩])) g s.heap.objs.size (.tup [.int (i : Nat), .str ⟨#[c]⟩]) :=
      ⟨by show 2 ≤ sizeLine; decide, [.int i tk, .str ⟨#[c]⟩ tu], .cons ⟨_, rfl⟩ (.cons ⟨_, rfl⟩ .nil), ⟨_, hT2, rfl, _, rfl⟩⟩
    have I1 : Inv X pins σ (upd H s.heap.objs.size (.tup [.int (i : Nat), .str ⟨#[c]⟩])) { s with heap := g, toks := tk + 1 } :=
      I.turnedNew (ch := [e, it]) (fun b ob hb q => (sb.2 b fun z => hb (z ▸ List.mem_cons_self)).trans (hk b ob (fun z => hb (z ▸ List.mem_cons_self)) (fun z => hb (z ▸ List.mem_cons_of_mem _ List.mem_cons_self)) q)) hf (Nat.le_refl _) new
    refine ⟨.ref s.heap.objs.size, _, I1, rfl, ⟨_, c, rfl, I.hok.fresh (Nat.le_refl _), rfl, hcx⟩, ⟨⟨_, by rw [Int.natCast_add]; exact he'⟩, ?_, hne, hg⟩, fun b hb => ?_⟩
    · obtain ⟨o, q, r⟩ := hit'
      exact ⟨o, (sb.2 it (Ne.symm hne)).trans q, r⟩
    · have hb' : b < s.heap.objs.size := by
        rcases List.mem_cons.mp hb with z | z
        · exact z ▸ hel
        · exact List.mem_singleton.mp z ▸ hil
      rw [upd_ne (Nat.ne_of_lt hb')]
      exact (hf b hb).1
  done := by
    intro X hP hw hK hc i pins s σ H E I hf st hg
    subst hP hw hK
    obtain ⟨⟨old, he⟩, hit, hne, hle⟩ := st
    obtain rfl : i = x.cps.size := Nat.le_antisymm hle hg
    obtain ⟨f0, f1, f2, f3, f4, f5⟩ := hf it (by simp)
    exact wpAny_pyNext_enum_endD (Draws.text (prog := X.prog) (w := X.w) (A := X.A.in1) (I.ok.hd hc) it x t) he hit fun g eb => ⟨rfl, I.turned (t' := s.toks) (fun b o hb q => eb b o hb q) f0 f1 f3 f4 f5⟩
  self := fun A i s Q E st h => by
    obtain ⟨⟨_, he⟩, _⟩ := st
    exact wpAny_pyIter_enum he h
def iEnumT (ta : TA) : TI := fun σ H R => ta σ H fun vs H1 => ∃ x, vs = [.str x] ∧ R (Itet x) H1
theorem pi_enumT {X : Cx} {e : Expr} {ta : TA} {p pos tpos : Pos} {elts : List Expr} {kk : Nat} (hg : Gl X "enumerate") (hm : X.mg "enumerate" = none) (ha : PA X [e] ta) (hs : starEach [e] X.env = [(false, eval e X.env)] := by rfl) :
    PI X (.Tuple elts kk tpos) (.Call (.Name "enumerate" p) [e] [] pos) (iEnumT ta) := by
  refine ⟨fun pins s σ H R I h => Call_ (ld_blt I hg hm boot_enumerate (PyProof.Rows.callWith_type1 (thn (ha.run pos pins s σ H _ I h) fun us s1 ⟨vs, H1, I1, r1, x, ex, q⟩ => ?_) hs rfl))⟩
  subst ex
  cases r1 with
  | cons r rr =>
    cases rr
    obtain ⟨t, rfl⟩ := r
    refine call_enumerate_str fun g he hit hsz hk => wpAny_pyIter_enum he ?_
    refine ⟨s1.heap.objs.size + 1, [s1.heap.objs.size + 1, s1.heap.objs.size], _, _, H1, rfl, I1.kept (t' := s1.toks) hk, turn_enumT x t (s1.heap.objs.size + 1) s1.heap.objs.size, ⟨⟨.none, he⟩, hit, Nat.succ_ne_self _, Nat.zero_le _⟩, fun b hb => ?_, q⟩
    have hle : s1.heap.objs.size ≤ b := by
      rcases List.mem_cons.mp hb with z | z
      · exact z ▸ Nat.le_succ _
      · exact List.mem_singleton.mp z ▸ Nat.le_refl _
    exact I1.fpOk hle (I1.hok.fresh hle)
end L2
namespace Rt
open PySem L2 R
section
variable {X : Cx} {T : XT} {W : WX} {Γx Γ : Ctx} {K : PySem.W.Frag}
theorem src_enumT {t : Tx} {G1 : Hp} : Src (Itet ⟨t.toArray⟩) (R.enumL (t.map fun c => [c])) (fz (cTup K (dCons cInt (dOne cTx)))) G1 := by
  refine ⟨fun _ => True, YPair (fun i => some (.int (i : Nat))) (fun i => (t[i]?).map fun c => V.str ⟨#[c]⟩), ⟨fun i H hi _ => ?_, fun H _ => ?_, fun i H v H' hi _ y => ?_⟩, fun _ _ => trivial, fun i y hy H v H' z Z G0 l G e k => ?_⟩
  · rw [enumL_len, List.length_map] at hi
    show i < (⟨t.toArray⟩ : Str).cps.size
    simpa using hi
  · rw [enumL_len, List.length_map]
    show (⟨t.toArray⟩ : Str).cps.size ≤ _
    simp
  · obtain ⟨T, c, h1, h2, h3, h4⟩ := y
    have h5 : t[i]? = some c := by simpa using h4
    exact ⟨T, _, _, h1, h2, h3, rfl, by simp only [h5, Option.map_some]⟩
  · obtain ⟨T, x1, x2, rfl, hT, rfl, h1, h2⟩ := z
    cases h1
    obtain ⟨e1, e2⟩ := enumL_get hy
    rw [List.getElem?_map] at e2
    cases hc : t[i]? with
    | none => rw [hc] at e2; cases e2
    | some c =>
      have h3 : Option.map (fun c => V.str ⟨#[c]⟩) t[i]? = some x2 := h2
      rw [hc] at e2 h3
      cases h3
      refine ⟨_, (k.lay (o := .tup [.int (i : Nat), .str ⟨#[c]⟩]) hT).push ⟨T, [.int (i : Nat), .str ⟨#[c]⟩], rfl, SqT.of upd_same, .int (i : Nat), [.str ⟨#[c]⟩], rfl, by show V.int _ = V.int _; rw [e1], .str ⟨#[c]⟩, rfl, ?_⟩⟩
      have e3 : y.2 = [c] := (Option.some.inj e2).symm
      rw [e3]
      exact ⟨rfl, by show 1 ≤ R.line; decide⟩
theorem ix_enumT {e : Expr} {te : TA} {p pos tpos : Pos} {elts : List Expr} {kk : Nat} {α : Type} {m : Res α} {t : α → Tx} {Γo : α → Ctx} (ha : AX X T W Γx Γ [e] te m (fun a => [sT (t a)]) Γo) (hm : X.mg "enumerate" = none) (hK : X.K = K := by rfl) (hg : Gl X "enumerate" := by rfl) (hs : starEach [e] X.env = [(false, eval e X.env)] := by rfl) :
    IX X T W Γx Γ (.Tuple elts kk tpos) (.Call (.Name "enumerate" p) [e] [] pos) (iEnumT te) m (fun a => R.enumL ((t a).map fun c => [c])) (fz (cTup K (dCons cInt (dOne cTx)))) Γo := by
  refine ⟨pi_enumT hg hm ha.pa hs, fun Z G0 S σ G H Rk k q => ha.ev Z G0 S σ G H _ k (Res.wp_mono q (fun a q vs G' H' hl k' => ?_) fun _ z => z)⟩
  obtain ⟨v, rfl, ⟨rfl, _⟩, k2⟩ := ax1 hl k'
  exact ⟨_, rfl, q _ G' H' k2 src_enumT⟩
end
end Rt
/-! Rt25: comprehensions of any number of clauses. -/
namespace L2
open PySem PySem.Spec PyProof.Rows
section
variable {elt tg iter tg1 iter1 : Expr} {ifs ifs1 : List Expr} {gens : List Comprehension} {scope : Scope} {pos : Pos} {k : Nat} {it acc : Value} {env : Env}
theorem turnMid (h0 : gens[k]? = some ⟨tg, iter, ifs, 0⟩) (h1 : gens[k + 1]? = some ⟨tg1, iter1, ifs1, 0⟩) : compTurn (.ListComp elt gens scope pos) k it acc env = (do
      standAt iter.pos
      match ← pyNext it with
      | none => pure (.done .next)
      | some v =>
        letOwnedTupleGo tg it v
        assign tg env v
        let mut ok := true
        for cc in ifs do
          if ok then ok ← isTrue cc env (eval cc env)
        if ok then
          let x ← eval iter1 env
          standAt iter1.pos
          let x ← foldedSetIterable iter1 env x
          let _ ← runOwn (.compStart (.ListComp elt gens scope pos) (k + 1) (← holding [x] (pyIter x)) acc env) env
        again (.compLoop (.ListComp elt gens scope pos) k it acc env)) := by
  unfold compTurn
  simp only [h0, h1]
  rfl
theorem turnLast (h0 : gens[k]? = some ⟨tg, iter, ifs, 0⟩) (h1 : gens[k + 1]? = none) : compTurn (.ListComp elt gens scope pos) k it acc env = (do
      standAt iter.pos
      match ← pyNext it with
      | none => pure (.done .next)
      | some v =>
        letOwnedTupleGo tg it v
        assign tg env v
        let mut ok := true
        for cc in ifs do
          if ok then ok ← isTrue cc env (eval cc env)
        if ok then (do let _ ← call (.builtin "list.append") [acc, ← eval elt env])
        again (.compLoop (.ListComp elt gens scope pos) k it acc env)) := by
  unfold compTurn
  simp only [h0, h1]
  rfl
end
section
variable {prog : Program} {w : World} {A : Around} {R : Result → Shared → Prop} {s : Shared} {elt tg iter tg1 iter1 : Expr} {ifs ifs1 : List Expr} {gens : List Comprehension} {scope : Scope} {pos : Pos} {k : Nat} {it acc : Value} {env : Env}
abbrev noE : Value → Shared → Prop := fun _ _ => False
/-- a turn up to its tests -/
def turnUp (prog : Program) (w : World) (A : Around) (tg : Expr) (ifs : List Expr) (env : Env) (it : Value) (stop : Shared → Prop) (yes no : Shared → Prop) (s : Shared) : Prop :=
  wpAny (model prog w) A (pyNext it) (fun r sa => match r with
    | none => stop sa
    | some v => wpAny (model prog w) A (letOwnedTupleGo tg it v) (fun _ sb => wpAny (model prog w) A (assign tg env v) (fun _ sc =>
        wpAny (model prog w) A (forIn ifs true fun cc r => if r = true then do let ok ← isTrue cc env (eval cc env); pure (ForInStep.yield ok) else pure (ForInStep.yield r)) (fun ok sd => if ok = true then yes sd else no sd) noE sc) noE sb) noE sa) noE s
theorem loopMid (h0 : gens[k]? = some ⟨tg, iter, ifs, 0⟩) (h1 : gens[k + 1]? = some ⟨tg1, iter1, ifs1, 0⟩) (hs : ∀ x, foldedSetIterable iter1 env x = pure x) (I : Nat → Shared → Prop)
    (turn : ∀ n s, I n s → turnUp prog w A tg ifs env it (R (.ok .next)) (fun sd => wpAny (model prog w) A (eval iter1 env) (fun x se => wpAny (model prog w) A (pyIter x) (fun it1 sf =>
      codeAny (model prog w) A (.compStart (.ListComp elt gens scope pos) (k + 1) it1 acc env) (fun r s' => match r with | .ok _ => ∃ m, m < n ∧ I m s' | .error _ => False) sf) noE se) noE sd) (fun sd => ∃ m, m < n ∧ I m sd) s) (n : Nat) (h : I n s) :
    codeAny (model prog w) A (.compLoop (.ListComp elt gens scope pos) k it acc env) R s := by
  refine codeAny_loop rfl I (fun n s hI => ?_) n h
  show wpAny _ A ((compTurn (.ListComp elt gens scope pos) k it acc env).onRaise (fun x => do noteFrame x env; theTreesLotGoes x)) _ _ s
  refine wpAny_noted ?_
  rw [turnMid h0 h1]
  refine wpAny_bind (wpAny_standAt (wpAny_bind (wpAny_mono (show wpAny _ _ _ _ _ _ from turn n s hI) (fun r sa ha => ?_) fun _ _ z => False.elim z)))
  cases r with
  | none => exact wpAny_pure ha
  | some v =>
    refine wpAny_bind (wpAny_mono ha (fun _ sb hb => wpAny_bind (wpAny_mono hb (fun _ sc hc => wpAny_bind (wpAny_mono hc (fun ok sd hd => ?_) fun _ _ z => False.elim z)) fun _ _ z => False.elim z)) fun _ _ z => False.elim z)
    cases ok with
    | false => exact wpAny_pure ⟨rfl, hd⟩
    | true =>
      refine wpAny_bind (wpAny_mono hd (fun x se he => ?_) fun _ _ z => False.elim z)
      refine wpAny_bind (wpAny_standAt (wpAny_bind (wpAny_of_eq (hs x) (wpAny_bind (wpAny_holding (wpAny_mono he (fun it1 sf hf => ?_) fun _ _ z => False.elim z))))))
      refine wpAny_bind (wpAny_runOwn ?_)
      rw [Around.mark_none]
      refine codeAny_mono hf fun r s' hr => ?_
      cases r with
      | error e => exact hr.elim
      | ok f =>
        first
          | exact wpAny_pure ⟨rfl, hr⟩
          | exact wpAny_bind (wpAny_pure (wpAny_pure ⟨rfl, hr⟩))
theorem loopLast (h0 : gens[k]? = some ⟨tg, iter, ifs, 0⟩) (h1 : gens[k + 1]? = none) (I : Nat → Shared → Prop)
    (turn : ∀ n s, I n s → turnUp prog w A tg ifs env it (R (.ok .next)) (fun sd => wpAny (model prog w) A (eval elt env) (fun x se => wpAny (model prog w) A (call (.builtin "list.append") [acc, x]) (fun _ sf => ∃ m, m < n ∧ I m sf) noE se) noE sd) (fun sd => ∃ m, m < n ∧ I m sd) s) (n : Nat) (h : I n s) :
    codeAny (model prog w) A (.compLoop (.ListComp elt gens scope pos) k it acc env) R s := by
  refine codeAny_loop rfl I (fun n s hI => ?_) n h
  show wpAny _ A ((compTurn (.ListComp elt gens scope pos) k it acc env).onRaise (fun x => do noteFrame x env; theTreesLotGoes x)) _ _ s
  refine wpAny_noted ?_
  rw [turnLast h0 h1]
  refine wpAny_bind (wpAny_standAt (wpAny_bind (wpAny_mono (show wpAny _ _ _ _ _ _ from turn n s hI) (fun r sa ha => ?_) fun _ _ z => False.elim z)))
  cases r with
  | none => exact wpAny_pure ha
  | some v =>
    refine wpAny_bind (wpAny_mono ha (fun _ sb hb => wpAny_bind (wpAny_mono hb (fun _ sc hc => wpAny_bind (wpAny_mono hc (fun ok sd hd => ?_) fun _ _ z => False.elim z)) fun _ _ z => False.elim z)) fun _ _ z => False.elim z)
    cases ok with
    | false => exact wpAny_pure ⟨rfl, hd⟩
    | true => exact wpAny_bind (wpAny_bind (wpAny_mono hd (fun x se he => wpAny_bind (wpAny_mono he (fun _ sf hf => wpAny_pure (wpAny_pure ⟨rfl, hf⟩)) fun _ _ z => False.elim z)) fun _ _ z => False.elim z))
theorem startAt (h1 : gens[k]? = some ⟨tg1, iter1, ifs1, 0⟩) (ha : codeAny (model prog w) A (.compLoop (.ListComp elt gens scope pos) k it acc env) R s)
    (hb : wpAny (model prog w) A (pyIter it) (fun it' s' => codeAny (model prog w) A (.compLoop (.ListComp elt gens scope pos) k it' acc env) R s') noE s) :
    codeAny (model prog w) A (.compStart (.ListComp elt gens scope pos) k it acc env) R s := by
  refine codeAny_of_tree ?_
  show wpAny _ _ ((compStart (.ListComp elt gens scope pos) k it acc env).onRaise (fun x => do noteFrame x env; standAt theWindowsPlace)) _ _ s
  refine wpAny_notedAt ?_
  unfold compStart
  have hc : (clausesOf (.ListComp elt gens scope pos))[k]? = some ⟨tg1, iter1, ifs1, 0⟩ := h1
  simp only [hc]
  show wpAny _ _ (ask >>= _) _ _ s
  refine wpAny_bind (wpAny_askSetting (wpAny_ite ?_))
  split
  · first
      | exact wpAny_bind (wpAny_pure (wpAny_pure ⟨rfl, ha⟩))
      | exact wpAny_pure ⟨rfl, ha⟩
  · first
      | exact wpAny_bind (wpAny_rule (wpAny_bind (wpAny_standAt (wpAny_bind (wpAny_mono hb (fun it' s' h' => wpAny_pure ⟨rfl, h'⟩) fun _ _ z => False.elim z)))))
      | (refine wpAny_bind (wpAny_rule ?_); show wpAny _ _ (standAt iter1.pos >>= _) _ _ s; exact wpAny_bind (wpAny_standAt (wpAny_bind (wpAny_mono hb (fun it' s' h' => wpAny_pure ⟨rfl, h'⟩) fun _ _ z => False.elim z))))
end
end L2
/-! Rt26: the loops of a comprehension, one in another; the comprehension as a value. -/
namespace L2
open PySem PySem.Spec PyProof.Rows
/-- a clause, and how its parts are read; vs: the names of this clause and of those behind it -/
structure Cl where
  tg : Expr
  iter : Expr
  ifs : List Expr
  wi : TI
  g : TG
  tt : TT
  vs : List Nat
abbrev Cl.py (c : Cl) : Comprehension := ⟨c.tg, c.iter, c.ifs, 0⟩
/-- what is left of a walk: W by the turn and a measure, Q behind it -/
def tLoop (c : Cl) (σ : L2.St) (J : It) (inner : L2.St → Hp → (Hp → Prop) → Prop) (Q : Hp → Prop) (W : Nat → Nat → Hp → Prop) : Prop := ∀ i m H, W i m H →
  (J.stop i H ∧ Q H) ∨ (J.go i H ∧ ∃ Nx : Hp → Prop, (∀ H', Nx H' → ∃ m', m' < m ∧ W (i + 1) m' H') ∧ ∀ x H', J.yld i H x H' → c.g x (wipe σ c.vs) H' fun σa Ha => wipe σa c.vs = wipe σ c.vs ∧ c.tt σa Ha fun b Hb => (b = true → inner σa Hb Nx) ∧ (b = false → Nx Hb))
def tIn (te : TE) (D : Addr) : List Cl → L2.St → Hp → (Hp → Prop) → Prop
  | [], σ, H, Q => te σ H fun y Ha => ∃ acc, Ha D = some (.lst acc) ∧ acc.length < sizeLine ∧ Q (upd Ha D (.lst (acc ++ [y])))
  | c :: r, σ, H, Q => c.wi σ H fun J Ha => ∃ W : Nat → Nat → Hp → Prop, (∃ m, W 0 m Ha) ∧ tLoop c σ J (tIn te D r) Q W
structure Cl.Ok (c : Cl) (Y : Cx) : Prop where
  pg : PG Y c.tg c.g
  pt : PTs Y c.ifs c.tt
structure Cl.OkI (c : Cl) (Y : Cx) : Prop where
  pi : PI Y c.tg c.iter c.wi
  fs : ∀ x, foldedSetIterable c.iter Y.env x = pure x
def Nest : List Cl → Prop
  | [] => True
  | [_] => True
  | c :: d :: r => (∀ i ∈ d.vs, i ∈ c.vs) ∧ Nest (d :: r)
section
variable {X : Cx} {s3 : Shared} {H3 : Hp} {scope : Scope} {ce : Env} {fp : List Addr} {elt : Expr} {gens : List Comprehension} {pos : Pos} {te : TE} {D : Addr}
theorem loop_run (hc : X.calm = true) (pe : PE (X.blk s3 H3 scope ce fp) elt te) : ∀ (r : List Cl) (c : Cl) (k : Nat), gens[k]? = some c.py → (∀ i, gens[k + 1 + i]? = (r.map Cl.py)[i]?) → c.Ok (X.blk s3 H3 scope ce fp) → (∀ d ∈ r, d.Ok (X.blk s3 H3 scope ce fp) ∧ d.OkI (X.blk s3 H3 scope ce fp)) → Nest (c :: r) →
    ∀ {pins : List (Addr × Obj)} {s : Shared} {σ : L2.St} {H : Hp} {Q : Hp → Prop} {R : Result → Shared → Prop} {it : Addr} {fi : List Addr} {tn : Nat → Heap → Prop} {J : It} {W : Nat → Nat → Hp → Prop}, Turn X.prog X.w X.K c.tg J fi it tn →
    (∀ {σ' : L2.St} {H' : Hp} {s' : Shared}, Inv (X.blk s3 H3 scope ce fp) pins σ' H' s' → (∀ b ∈ fi, H' b = none) → ∀ b ∈ fi, FpOk (X.blk s3 H3 scope ce fp) pins H' b) →
    Inv (X.blk s3 H3 scope ce fp) pins (wipe σ c.vs) H s → tn 0 s.heap → (∀ b ∈ fi, H b = none) → (∃ m, W 0 m H) → tLoop c σ J (tIn te D r) Q W →
    (∀ H' s', Inv (X.blk s3 H3 scope ce fp) pins (wipe σ c.vs) H' s' → Q H' → R (.ok .next) s') →
    codeAny (model X.prog X.w) X.A (.compLoop (.ListComp elt gens scope pos) k (.ref it) (.ref D) ce) R s := by
  intro r
  induction r with
  | nil =>
    intro c k h0 h1 ok okr nest pins s σ H Q R it fi tn J W T stat I st nf ⟨m0, w0⟩ turn hR
    refine loopLast h0 (h1 0) (fun n s' => ∃ j H', Inv (X.blk s3 H3 scope ce fp) pins (wipe σ c.vs) H' s' ∧ tn j s'.heap ∧ (∀ b ∈ fi, H' b = none) ∧ W j n H') ?_ m0 ⟨0, H, I, st, nf, w0⟩
    rintro n sa ⟨j, Ha, Ia, sta, na, wa⟩
    rcases turn j n Ha wa with ⟨stop, q⟩ | ⟨go, Nx, hNx, step⟩
    · exact thnF (T.done (X.blk s3 H3 scope ce fp) rfl rfl rfl hc j _ sa _ Ha noE Ia (stat Ia na) sta stop) fun r sb ⟨hr, Ib⟩ => by
        subst hr
        exact hR _ _ Ib q
    · refine thnF (T.item (X.blk s3 H3 scope ce fp) rfl rfl rfl hc j _ sa _ Ha noE Ia (stat Ia na) sta go) fun r sb ⟨u, hr, hb⟩ => ?_
      subst hr
      refine thnF hb fun _ sc ⟨x, Hc, Ic, rc, yc, stc, nc⟩ => ?_
      refine thnF (ok.pg.run _ sc (wipe σ c.vs) Hc x u _ (Ic.pinned (stat Ic nc) (T.obj _ _ stc)) rc (step x Hc yc)) fun _ sd ⟨σd, Hd, Id, hw, qd⟩ => ?_
      refine thnF (ok.pt.run _ sd σd Hd _ Id qd) fun b se ⟨He, Ie, qe, qn⟩ => ?_
      have fin : ∀ {s' : Shared} {H' : Hp}, Inv (X.blk s3 H3 scope ce fp) (pins ++ pinsAt fi sc.heap) σd H' s' → Nx H' → ∃ m, m < n ∧ ∃ j H', Inv (X.blk s3 H3 scope ce fp) pins (wipe σ c.vs) H' s' ∧ tn j s'.heap ∧ (∀ b ∈ fi, H' b = none) ∧ W j m H' := fun {s' H'} I' nx => by
        obtain ⟨m', hm, w'⟩ := hNx H' nx
        have pin : ∀ b ∈ fi, ∀ o, sc.heap.get? b = some o → s'.heap.get? b = some o ∧ H' b = none := fun b hb o e => by
          have z := I'.pin (b, o) (List.mem_append_right _ (List.mem_append_right _ (mem_pinsAt hb e)))
          exact ⟨z.1, z.2.1⟩
        refine ⟨m', hm, j + 1, H', I'.unpinned.weak (by rw [← hw, wipe_length]) (fun i v e => by rw [← hw] at e; exact (wipe_some e).1), T.keep _ _ _ stc fun b hb o e => (pin b hb o e).1, fun b hb => ?_, w'⟩
        obtain ⟨o, e, _⟩ := T.obj _ _ stc b hb
        exact (pin b hb o e).2
      cases b with
      | false =>
        rw [if_neg Bool.false_ne_true]
        exact fin Ie (qn rfl)
      | true =>
        rw [if_pos rfl]
        exact thnF (pe.run _ se σd He _ Ie (qe rfl)) fun z sf ⟨yv, Hf, If, rf, acc, hD, hz, nx⟩ => app_ok (X := X.blk s3 H3 scope ce fp) If hD hz rf fun sg Ig => fin Ig nx
  | cons d r ih =>
    intro c k h0 h1 ok okr nest pins s σ H Q R it fi tn J W T stat I st nf ⟨m0, w0⟩ turn hR
    obtain ⟨okd, oki⟩ := okr d List.mem_cons_self
    have hd : gens[k + 1]? = some d.py := h1 0
    have sub : ∀ i ∈ d.vs, i ∈ c.vs := nest.1
    refine loopMid h0 hd oki.fs (fun n s' => ∃ j H', Inv (X.blk s3 H3 scope ce fp) pins (wipe σ c.vs) H' s' ∧ tn j s'.heap ∧ (∀ b ∈ fi, H' b = none) ∧ W j n H') ?_ m0 ⟨0, H, I, st, nf, w0⟩
    rintro n sa ⟨j, Ha, Ia, sta, na, wa⟩
    rcases turn j n Ha wa with ⟨stop, q⟩ | ⟨go, Nx, hNx, step⟩
    · exact thnF (T.done (X.blk s3 H3 scope ce fp) rfl rfl rfl hc j _ sa _ Ha noE Ia (stat Ia na) sta stop) fun r sb ⟨hr, Ib⟩ => by
        subst hr
        exact hR _ _ Ib q
    · refine thnF (T.item (X.blk s3 H3 scope ce fp) rfl rfl rfl hc j _ sa _ Ha noE Ia (stat Ia na) sta go) fun r sb ⟨u, hr, hb⟩ => ?_
      subst hr
      refine thnF hb fun _ sc ⟨x, Hc, Ic, rc, yc, stc, nc⟩ => ?_
      refine thnF (ok.pg.run _ sc (wipe σ c.vs) Hc x u _ (Ic.pinned (stat Ic nc) (T.obj _ _ stc)) rc (step x Hc yc)) fun _ sd ⟨σd, Hd, Id, hw, qd⟩ => ?_
      refine thnF (ok.pt.run _ sd σd Hd _ Id qd) fun b se ⟨He, Ie, qe, qn⟩ => ?_
      have fin : ∀ {s' : Shared} {H' : Hp} {σ' : L2.St}, Inv (X.blk s3 H3 scope ce fp) (pins ++ pinsAt fi sc.heap) σ' H' s' → (wipe σ c.vs).length = σ'.length → (∀ (i : Nat) v, (wipe σ c.vs)[i]? = some (some v) → σ'[i]? = some (some v)) → Nx H' →
          ∃ m, m < n ∧ ∃ j H', Inv (X.blk s3 H3 scope ce fp) pins (wipe σ c.vs) H' s' ∧ tn j s'.heap ∧ (∀ b ∈ fi, H' b = none) ∧ W j m H' := fun {s' H' σ'} I' hl hk nx => by
        obtain ⟨m', hm, w'⟩ := hNx H' nx
        have pin : ∀ b ∈ fi, ∀ o, sc.heap.get? b = some o → s'.heap.get? b = some o ∧ H' b = none := fun b hb o e => by
          have z := I'.pin (b, o) (List.mem_append_right _ (List.mem_append_right _ (mem_pinsAt hb e)))
          exact ⟨z.1, z.2.1⟩
        refine ⟨m', hm, j + 1, H', I'.unpinned.weak hl hk, T.keep _ _ _ stc fun b hb o e => (pin b hb o e).1, fun b hb => ?_, w'⟩
        obtain ⟨o, e, _⟩ := T.obj _ _ stc b hb
        exact (pin b hb o e).2
      have l8 : (wipe σ c.vs).length = σd.length := by rw [← hw, wipe_length]
      have k8 : ∀ (i : Nat) v, (wipe σ c.vs)[i]? = some (some v) → σd[i]? = some (some v) ∧ i ∉ c.vs := fun i v e => by
        rw [← hw] at e
        exact wipe_some e
      cases b with
      | false =>
        rw [if_neg Bool.false_ne_true]
        exact fin Ie l8 (fun i v e => (k8 i v e).1) (qn rfl)
      | true =>
        rw [if_pos rfl]
        refine thnF (oki.pi.run _ se σd He _ Ie (qe rfl)) fun xv sf hx => thnF hx fun itv sg hg => ?_
        obtain ⟨i1, f1, t1, J1, Hg, e1, Ig, T1, stg, fg, W1, w1, turn1⟩ := hg
        subst e1
        have stat1 : ∀ {σ' : L2.St} {H' : Hp} {s' : Shared}, Inv (X.blk s3 H3 scope ce fp) (pins ++ pinsAt fi sc.heap) σ' H' s' → (∀ b ∈ f1, H' b = none) → ∀ b ∈ f1, FpOk (X.blk s3 H3 scope ce fp) (pins ++ pinsAt fi sc.heap) H' b := fun _ hn b hb => ⟨hn b hb, (fg b hb).2⟩
        have lp := ih d (k + 1) hd (fun i => by
          have z := h1 (i + 1)
          rw [show k + 1 + (i + 1) = k + 1 + 1 + i by omega] at z
          rw [z]
          simp) okd (fun d' hd' => okr d' (List.mem_cons_of_mem _ hd')) nest.2 (R := fun r s' => match r with
            | .ok _ => ∃ m, m < n ∧ ∃ j H', Inv (X.blk s3 H3 scope ce fp) pins (wipe σ c.vs) H' s' ∧ tn j s'.heap ∧ (∀ b ∈ fi, H' b = none) ∧ W j m H'
            | .error _ => False) T1 stat1 (Ig.weak (wipe_length _ _) fun i v e => (wipe_some e).1) stg (fun b hb => (fg b hb).1) w1 turn1 fun H' s' I' nx => fin I' (l8.trans (wipe_length σd d.vs).symm) (fun i v e => by
              obtain ⟨z1, z2⟩ := k8 i v e
              rw [wipe_out fun z => z2 (sub i z)]
              exact z1) nx
        exact startAt hd lp (T1.self X.A 0 _ _ _ stg lp)
end
end L2
/-! Rt27: a comprehension of several clauses as a value, stored. -/
namespace L2
open PySem PySem.Spec PyProof.Rows
def tLcN (c : Cl) (r : List Cl) (te : TE) : TE := fun σ H Q => c.wi σ H fun J Ha => ∀ D, Ha D = none → ∃ W : Nat → Nat → Hp → Prop, (∃ m, W 0 m (upd Ha D (.lst []))) ∧ tLoop c σ J (tIn te D r) (fun Hb => Q (.ref D) Hb) W
section
variable {X : Cx}
theorem lcN_core {pins : List (Addr × Obj)} {s : Shared} {σ : L2.St} {H : Hp} {Q : VK} {elt : Expr} {c : Cl} {r : List Cl} {scope : Scope} {own : List (Str × Nat)} {pos pos' : Pos} {te : TE} {use : Option (Value → Sem Unit)} {Qf : Value → Shared → Prop}
    (hc : X.calm = true) (hN : X.N.Nodup) (I : Inv X pins σ H s) (hi : c.OkI X) (ok : BlkOk X.N X.env.scope scope own) (hv : c.vs = own.map (·.2)) (nest : Nest (c :: r))
    (hg : ∀ (s : Shared) (H : Hp) (C : Addr) (cl : List (Str × Addr)) (fp : List Addr), c.Ok (X.blk s H scope (compEnvC scope cl C X.env) fp) ∧ (∀ d ∈ r, d.Ok (X.blk s H scope (compEnvC scope cl C X.env) fp) ∧ d.OkI (X.blk s H scope (compEnvC scope cl C X.env) fp)) ∧ PE (X.blk s H scope (compEnvC scope cl C X.env) fp) elt te)
    (h : tLcN c r te σ H Q)
    (back : ∀ D C s' m H', Inv X pins σ H' s' → Q (.ref D) H' → s'.heap.Ns C m → FpOk X pins H' C → compPost (model X.prog X.w) X.A X.xe use Qf (.ref D) C (.ok .next) s') :
    wpAny (model X.prog X.w) X.A (comprehension (.ListComp elt (c.py :: r.map Cl.py) scope pos) scope X.env pos' (newList []) false (eval c.iter X.env) use) Qf X.xe s := by
  have has : ∀ y ∈ scope.names, y.2 = .free → ∃ a, X.env.cells.lookup y.1 = some a := fun y hy e => (ok.free y hy e).elim (fun z => I.ok.has _ (.inl z)) fun z => I.ok.has _ (.inr z)
  refine wpAny_comprehension_free (use := use) rfl hi.fs (closure_ok has) ok.kind (fun y hy e => by rw [ok.uniq y hy, e]) (thn (hi.pi.run pins s σ H _ I h) fun xv sa ha => thn ha fun itv sb hb => ?_)
  obtain ⟨it, fp, tn, J, Hb, rfl, Ib, T, stb, fb, q⟩ := hb
  refine wpAny_newObj_type (newEnv_comp ?_) (by show 0 ≤ sizeLine; decide)
  obtain ⟨D, hD⟩ : ∃ D, sb.heap.objs.size = D := ⟨_, rfl⟩
  rw [hD]
  have dn : Hb D = none := Ib.hok.fresh (Nat.le_of_eq hD)
  obtain ⟨W, w0, turn⟩ := q D dn
  obtain ⟨s3, hs3⟩ : ∃ s3 : Shared, ({ sb with heap := sb.heap.push { cls := .type "list", data := .seq ([] : List Value).toArray } } : Shared) = s3 := ⟨_, rfl⟩
  have hp3 : s3.heap = sb.heap.push { cls := .type "list", data := .seq ([] : List Value).toArray } := by rw [← hs3]
  have I3 : Inv X pins σ (upd Hb D (.lst [])) s3 := by
    rw [← hs3]
    exact Ib.laid (t' := sb.toks) (fun b o e => Heap.get?_push_of_some _ e) (Nat.le_of_eq hD) ⟨Nat.zero_le _, [], 0, .nil, by rw [← hD]; exact Heap.get?_push_size _ rfl⟩
  have small : ∀ b ∈ fp, b < sb.heap.objs.size := fun b hm => by
    obtain ⟨o, e, _⟩ := T.obj _ _ stb b hm
    exact Heap.lt_size e
  have f3 : ∀ b ∈ fp, FpOk X pins (upd Hb D (.lst [])) b ∧ b < s3.heap.objs.size := fun b hm => by
    have lt := small b hm
    exact ⟨⟨by rw [upd_ne (by rw [← hD]; exact Nat.ne_of_lt lt)]; exact (fb b hm).1, (fb b hm).2⟩, by rw [hp3, Heap.size_push]; exact Nat.lt_succ_of_lt lt⟩
  have st3 : tn 0 s3.heap := T.keep _ _ _ stb fun b _ o e => by
    rw [hp3]
    exact Heap.get?_push_of_some _ e
  have I4 := block_start I3 ok hN f3
  obtain ⟨okc, okr, pe⟩ := hg s3 (upd Hb D (.lst [])) s3.heap.objs.size (cellsFrom (s3.heap.objs.size + 1) scope.names (cloFrom X.env.cells scope.names [])) fp
  rw [hs3]
  show codeAny _ _ (.compStart (.ListComp elt (c.py :: r.map Cl.py) scope pos) 0 (.ref it) (.ref D) (compEnvC scope (cellsFrom (s3.heap.objs.size + 1) scope.names (cloFrom X.env.cells scope.names [])) s3.heap.objs.size X.env)) (compPost (model X.prog X.w) X.A X.xe use Qf (.ref D) s3.heap.objs.size) { s3 with heap := pushCells (s3.heap.push { cls := .type "dict", data := .dict #[] }) scope.names }
  obtain ⟨ce, hce⟩ : ∃ ce, compEnvC scope (cellsFrom (s3.heap.objs.size + 1) scope.names (cloFrom X.env.cells scope.names [])) s3.heap.objs.size X.env = ce := ⟨_, rfl⟩
  have loc : ce.locals = s3.heap.objs.size := by subst hce; rfl
  obtain ⟨H3, hH3⟩ : ∃ H3, upd Hb D (.lst []) = H3 := ⟨_, rfl⟩
  obtain ⟨s4, hs4⟩ : ∃ s4 : Shared, ({ s3 with heap := pushCells (s3.heap.push { cls := .type "dict", data := .dict #[] }) scope.names } : Shared) = s4 := ⟨_, rfl⟩
  have st4 : tn 0 s4.heap := T.keep _ _ _ st3 fun b _ o e => by
    rw [← hs4]
    exact pushCells_keeps _ _ _ _ (Heap.get?_push_of_some _ e)
  rw [hce] at I4 okc okr pe ⊢
  rw [hH3] at I3 I4 okc okr pe w0 f3
  rw [hs4] at I4 ⊢
  have stat : ∀ {σ' : L2.St} {H' : Hp} {s' : Shared}, Inv (X.blk s3 H3 scope ce fp) [] σ' H' s' → (∀ b ∈ fp, H' b = none) → ∀ b ∈ fp, FpOk (X.blk s3 H3 scope ce fp) [] H' b := fun I' hn b hm =>
    ⟨hn b hm, (I'.ok.exf b hm).1, I'.ok.exfs b hm, .inl hm, fun x a e => (I'.ok.exf b hm).2 x a e, fun p hp => absurd (show p ∈ ([] : List (Addr × Obj)) ++ [] from hp) (by simp)⟩
  rw [← hv] at I4
  have lp := loop_run (gens := c.py :: r.map Cl.py) (pos := pos) hc pe r c 0 rfl (fun i => by rw [show 0 + 1 + i = i + 1 by omega]; rfl) okc okr nest (R := compPost (model X.prog X.w) X.A X.xe use Qf (.ref D) s3.heap.objs.size) T stat I4 st4 (fun b hm => (f3 b hm).1.1) w0 turn fun H' s' I' qq => by
    have I7 : Inv X pins σ H' s' := I3.call' (ch := fp) I'.os I'.base I'.hok I'.bare fun b hm => ⟨(f3 b hm).1.2.2.2.1, (f3 b hm).1.2.1, (f3 b hm).1.2.2.2.2.1, (f3 b hm).1.2.2.2.2.2⟩
    have nC : H' s3.heap.objs.size = none := by
      have z : H' ce.locals = none := I'.free
      rwa [loc] at z
    obtain ⟨m, hn, _⟩ := I'.loc
    have hn' : s'.heap.Ns ce.locals m := hn
    rw [loc] at hn'
    exact back D _ s' m H' I7 qq hn' (I3.fpOk (Nat.le_refl _) nC)
  exact startAt (gens := c.py :: r.map Cl.py) (k := 0) rfl lp (T.self X.A 0 _ _ _ st4 lp)
theorem pe_lcN {elt : Expr} {c : Cl} {r : List Cl} {scope : Scope} {own : List (Str × Nat)} {pos : Pos} {te : TE} (hc : X.calm = true) (hN : X.N.Nodup) (hi : c.OkI X) (ok : BlkOk X.N X.env.scope scope own) (hv : c.vs = own.map (·.2)) (nest : Nest (c :: r))
    (hg : ∀ (s : Shared) (H : Hp) (C : Addr) (cl : List (Str × Addr)) (fp : List Addr), c.Ok (X.blk s H scope (compEnvC scope cl C X.env) fp) ∧ (∀ d ∈ r, d.Ok (X.blk s H scope (compEnvC scope cl C X.env) fp) ∧ d.OkI (X.blk s H scope (compEnvC scope cl C X.env) fp)) ∧ PE (X.blk s H scope (compEnvC scope cl C X.env) fp) elt te) :
    PE X (.ListComp elt (c.py :: r.map Cl.py) scope pos) (tLcN c r te) := by
  refine ⟨fun pins s σ H Q I h => ?_⟩
  rw [eval_ListComp]
  refine lcN_core hc hN I hi ok hv nest hg h fun D C s' m H' I' q hn f => ⟨m, hn, fun h2 sb => ⟨.ref D, H', I'.turned (t' := s'.toks) (fun b o hb e => (sb.2 b hb).trans e) f.1 f.2.1 f.2.2.2.1 f.2.2.2.2.1 f.2.2.2.2.2, rfl, q⟩⟩
theorem ps_setLcN {i : Nat} {y : Str} {py : Pos} {elt : Expr} {c : Cl} {r : List Cl} {scope : Scope} {own : List (Str × Nat)} {pos spos : Pos} {te : TE} (hc : X.calm = true) (hN : X.N.Nodup) (hy : X.N[i]? = some y) (hyl : X.env.scope.names.lookup y = some .local)
    (hsw : swapsWith (.ListComp elt (c.py :: r.map Cl.py) scope pos) (some (.Name y py)) spos.line X.env = pure true) (hi : c.OkI X) (ok : BlkOk X.N X.env.scope scope own) (hv : c.vs = own.map (·.2)) (nest : Nest (c :: r))
    (hg : ∀ (s : Shared) (H : Hp) (C : Addr) (cl : List (Str × Addr)) (fp : List Addr), c.Ok (X.blk s H scope (compEnvC scope cl C X.env) fp) ∧ (∀ d ∈ r, d.Ok (X.blk s H scope (compEnvC scope cl C X.env) fp) ∧ d.OkI (X.blk s H scope (compEnvC scope cl C X.env) fp)) ∧ PE (X.blk s H scope (compEnvC scope cl C X.env) fp) elt te) :
    PS X (.Assign [.Name y py] (.ListComp elt (c.py :: r.map Cl.py) scope pos) spos) (tAsg (tLcN c r te) (gName i)) := by
  refine ⟨fun pins s σ H E I h => ?_⟩
  rw [exec_Assign_Name_used _ _ _ _ hsw]
  refine wpAny_bind (wpAny_standAt (wpAny_bind ?_))
  show wpAny _ X.A (do let _ ← comprehension (.ListComp elt (c.py :: r.map Cl.py) scope pos) scope X.env (firstIterPos (c.py :: r.map Cl.py) pos) (newList []) false (eval c.iter X.env) (some (assign (.Name y py) X.env))) _ _ s
  have h2 : tLcN c r te σ H (fun x Ha => gName i x σ Ha E.nx) := h
  refine wpAny_bind (thn (lcN_core (Qf := fun _ s' => SP X pins E .next s') hc hN I hi ok hv nest hg h2 fun L C s' m H' I' q hn f => ?_) fun _ s' hq => wpAny_pure (wpAny_pure hq))
  show wpAny _ _ (assign (.Name y py) X.env (.ref L)) _ _ _
  refine wpAny_assign_Name (store_ok2 (v := V.ref L) I' hN hy (.inl hyl) rfl (fun s2 I2 ⟨a, sb, ha⟩ => ?_) (.inr hyl))
  have nCa : C ≠ a := by
    rcases ha with z | z
    · rw [z]; exact f.2.1
    · exact fun e => f.2.2.2.2.1 _ _ z e.symm
  obtain ⟨m2, hn2⟩ : ∃ m2, s2.heap.Ns C m2 := ⟨m, hn.extBut sb.extBut nCa⟩
  exact ⟨m2, hn2, fun g sb2 => ⟨_, H', I2.turned (t' := s2.toks) (fun b o hb e => (sb2.2 b hb).trans e) f.1 f.2.1 f.2.2.2.1 f.2.2.2.2.1 f.2.2.2.2.2, q⟩⟩
end
end L2
/-! Rt28: comprehensions of several clauses and their mirrors. -/
namespace Rt
open PySem L2 R
theorem loop_it {J : It} {n : Nat} {Gd : Hp → Prop} {Y : Nat → Hp → V → Hp → Prop} {c : Cl} {σ : L2.St} {inner : L2.St → Hp → (Hp → Prop) → Prop} {Q : Hp → Prop} {Ha : Hp} (wk : Walk J n Gd Y) (Pv : Nat → Hp → Prop) (h0 : Pv 0 Ha) (hG : ∀ i H, i ≤ n → Pv i H → Gd H)
    (turn : ∀ i v H H', i < n → Pv i H → Y i H v H' → c.g v (wipe σ c.vs) H' fun σa Hb => wipe σa c.vs = wipe σ c.vs ∧ c.tt σa Hb fun b Hc => (b = true → inner σa Hc (Pv (i + 1))) ∧ (b = false → Pv (i + 1) Hc)) (done : ∀ H, Pv n H → Q H) :
    ∃ W : Nat → Nat → Hp → Prop, (∃ m, W 0 m Ha) ∧ tLoop c σ J inner Q W := by
  refine ⟨fun i m H => i ≤ n ∧ m = n - i ∧ Pv i H, ⟨n, Nat.zero_le _, rfl, h0⟩, fun i m H ⟨h1, h2, h3⟩ => ?_⟩
  by_cases h : i < n
  · exact .inr ⟨wk.goes i H h (hG i H h1 h3), Pv (i + 1), fun H' p => ⟨n - (i + 1), by omega, h, rfl, p⟩, fun x H' y => turn i x H H' h h3 (wk.yields i H x H' h (hG i H h1 h3) y)⟩
  · obtain rfl : i = n := by omega
    exact .inl ⟨wk.stops H (hG _ H h1 h3), done H h3⟩
def nestB : List Nat → List Cl → Bool
  | _, [] => true
  | vs, d :: r => (d.vs.all fun i => vs.contains i) && nestB d.vs r
theorem nest_of : ∀ {c : Cl} {r : List Cl}, nestB c.vs r = true → Nest (c :: r)
  | _, [], _ => trivial
  | c, d :: r, h => by
    have h' : ((d.vs.all fun i => c.vs.contains i) && nestB d.vs r) = true := h
    rw [Bool.and_eq_true] at h'
    exact ⟨fun i hi => by have z := List.all_eq_true.mp h'.1 i hi; simpa using z, nest_of h'.2⟩
/-- the tests of a clause -/
structure TSX (Y : Cx) (T : XT) (Γ : Ctx) (ifs : List Expr) (tt : TT) {δ : Type} (m : Res δ) (b : δ → Bool) : Prop where
  pt : PTs Y ifs tt
  ev : ∀ (Z G0 : Hp) (S : List Pl) (σ : L2.St) (G H : Hp) (Q : Bool → Hp → Prop), Okc Z G0 S Γ σ G H → m.wp (fun a => ∀ G' H', Okc Z G0 S Γ σ G' H' → Q (b a) H') (fun _ => False) → tt σ H Q
/-- what stands behind the first clauses: it grows the list by m's -/
structure NX (Y : Cx) (T : XT) (Γ : Ctx) (elt : Expr) (r : List Cl) (te : TE) {γ : Type} (c : Cod γ) (m : Res (List γ)) : Prop where
  ok : ∀ d ∈ r, d.Ok Y ∧ d.OkI Y
  pe : PE Y elt te
  ev : ∀ (Z G0 : Hp) (S : List Pl) (σ : L2.St) (G H : Hp) (D : Addr) (acc : List γ) (Q : Hp → Prop), Okc Z G0 ((some (ol c acc), some (.ref D)) :: S) Γ σ G H →
    m.wp (fun ys => (acc ++ ys).length ≤ R.line ∧ ∀ G' H', Okc Z G0 ((some (ol c (acc ++ ys)), some (.ref D)) :: S) Γ σ G' H' → Q H') (fun _ => False) → tIn te D r σ H Q
section
variable {Y : Cx} {T : XT} {Γ Γe : Ctx} {γ : Type} {c : Cod γ}
theorem ts_nil : TSX Y T Γ [] tYes (.ok ()) (fun _ => true) := ⟨pts_nil, fun _ _ _ _ G H _ k q => q G H k⟩
theorem ts_one {e : Expr} {tt : TT} {δ : Type} {m : Res δ} {b : δ → Bool} {Γo : δ → Ctx} (h : ET Y T (fun _ _ _ _ => False) Γe Γ e tt m b Γo) (hΓ : ∀ a, Γo a = Γ := by exact fun _ => rfl) : TSX Y T Γ [e] tt m b :=
  ⟨pts_one h.pt, fun Z G0 S σ G H Q k q => h.ev Z G0 S σ G H Q k (Res.wp_mono q (fun a z G' H' k' => by
    rw [hΓ] at k'
    exact z G' H' k') fun _ z => False.elim z)⟩
theorem nx_nil {elt : Expr} {te : TE} {δ : Type} {me : Res δ} {Re : δ → Sl} {yv : δ → γ} {Γo : δ → Ctx} {m : Res (List γ)} (he : EX Y T (fun _ _ _ _ => False) Γe Γ elt te me Re Γo) (hRe : ∀ b, Re b = fz c (yv b) := by exact fun _ => rfl) (hΓ : ∀ b, Γo b = Γ := by exact fun _ => rfl)
    (hb : Bd m me (fun b => .ok [yv b]) := by intros; repeat (first | ((with_reducible refine Bd.done ?_); exact rfl) | with_reducible refine Bd.okl ?_ | with_reducible refine Bd.assoc ?_ | with_reducible refine Bd.bind fun _ => ?_ | with_reducible refine Bd.eta fun _ => ?_ | with_reducible refine Bd.iteB ?_ ?_ fun _ => ?_ | with_reducible refine Bd.iteE ?_ ?_ fun _ => ?_ | with_reducible refine Bd.ite ?_ ?_ | with_reducible refine Bd.iteL ?_ ?_ | with_reducible refine Bd.assocL ?_ | with_reducible refine Bd.oklL ?_ | with_reducible exact Bd.same | with_reducible exact Bd.at | dsimp only)) :
    NX Y T Γ elt [] te c m := by
  obtain rfl : Re = fun b => fz c (yv b) := funext hRe
  obtain rfl : Γo = fun _ => Γ := funext hΓ
  refine ⟨fun d hd => (by cases hd), he.pe, fun Z G0 S σ G H D acc Q k q => he.ev Z G0 _ σ G H _ k (Res.wp_mono (hb _ _ q) (fun b z y Ga Ha ka => ?_) fun _ z => False.elim z)⟩
  obtain ⟨ws, hD, hlen, kb⟩ := Okl.grow ka.of
  obtain ⟨z1, z2⟩ := z
  refine ⟨ws, hD, ?_, z2 Ga _ ⟨ka.len, kb⟩⟩
  rw [List.length_append] at z1
  rw [← line_eq, hlen]
  exact z1
theorem cat_wp {α : Type} {f : α → Res (List γ)} {x : α} {r : List α} {P : List γ → Prop} (h : (catK f (x :: r)).wp P fun _ => False) : (f x).wp (fun ys => (catK f r).wp (fun zs => P (ys ++ zs)) fun _ => False) fun _ => False := by
  have h1 := Res.wp_calm (Res.wp_bind (show (((f x).calm.bind fun ys => (catK f r).bind fun zs => .ok (ys ++ zs)) : Res (List γ)).wp P (fun _ => False) from h))
  exact Res.wp_mono h1 (fun ys z => Res.wp_bind z) fun _ z => z
theorem catK_calm {α : Type} {f : α → Res (List γ)} : ∀ {xs : List α} {P : List γ → Prop} {E : Exn → Prop}, (catK f xs).wp P E → (catK f xs).wp P fun _ => False
  | [], _, _, h => h
  | x :: r, P, E, h => by
    show (((f x).calm.bind fun ys => (catK f r).bind fun zs => .ok (ys ++ zs)) : Res (List γ)).wp P _
    have h1 : (((f x).calm.bind fun ys => (catK f r).bind fun zs => .ok (ys ++ zs)) : Res (List γ)).wp P E := h
    cases e : (f x).calm with
    | ok ys =>
      rw [e] at h1
      have h2 : (catK f r).wp (fun zs => P (ys ++ zs)) E := Res.wp_bind (show ((catK f r).bind fun zs => Res.ok (ys ++ zs)).wp P E from h1)
      have h3 := catK_calm h2
      show ((catK f r).bind fun zs => Res.ok (ys ++ zs)).wp P _
      cases e2 : catK f r with
      | ok zs => rw [e2] at h3; exact h3
      | exn ex => rw [e2] at h3; exact h3
      | stuck => rw [e2] at h3; exact h3
    | exn ex =>
      cases e2 : f x with
      | ok a => rw [e2] at e; cases e
      | exn a => rw [e2] at e; cases e
      | stuck => rw [e2] at e; cases e
    | stuck => rw [e] at h1; exact h1
/-- one loop of a comprehension: what a turn does is told by NX -/
theorem nx_loop {elt : Expr} {d : Cl} {r : List Cl} {te : TE} {js : List Nat} {β : Type} {xs : List β} {Rb : β → Sl} {Γg : β → Ctx} {δ : β → Type} {mt : (x : β) → Res (δ x)} {bt : (x : β) → δ x → Bool} {mi : β → Res (List γ)} {f : β → Res (List γ)}
    (hg : ∀ x, GX Y d.tg d.g js (Rb x) (wipeC Γ d.vs) (Γg x)) (hj : ∀ j ∈ js, j ∈ d.vs) (hv : ∀ v ∈ d.vs, v < Γ.length) (ht : ∀ x, TSX Y T (Γg x) d.ifs d.tt (mt x) (bt x)) (hn : ∀ x, NX Y T (Γg x) elt r te c (mi x)) (hd : ∀ x, Wk (Γg x) (wipeC Γ d.vs))
    (hf : ∀ x, Bd (f x) (((mt x).bind fun t => if bt x t then mi x else .ok [])) .ok) (Z G0 : Hp) (S : List Pl) (σ : L2.St) (G H : Hp) (D : Addr) (acc : List γ) (Q : Hp → Prop) (k : Okc Z G0 ((some (ol c acc), some (.ref D)) :: S) Γ σ G H) {J : It} (src : Src J xs Rb G)
    (q : (catK f xs).wp (fun ys => (acc ++ ys).length ≤ R.line ∧ ∀ G' H', Okc Z G0 ((some (ol c (acc ++ ys)), some (.ref D)) :: S) Γ σ G' H' → Q H') (fun _ => False)) :
    ∃ W : Nat → Nat → Hp → Prop, (∃ m, W 0 m H) ∧ tLoop d σ J (tIn te D r) Q W := by
  obtain ⟨Gd, Yl, wk, gd, hy⟩ := src
  obtain ⟨L, up, down⟩ := lifts k.len d.vs hv
  refine loop_it wk (fun i H => ∃ acc2 G', Okc Z G ((some (ol c acc2), some (.ref D)) :: (L ++ S)) (wipeC Γ d.vs) (wipe σ d.vs) G' H ∧
      (catK f (xs.drop i)).wp (fun ys => (acc2 ++ ys).length ≤ R.line ∧ ∀ G' H', Okc Z G0 ((some (ol c (acc2 ++ ys)), some (.ref D)) :: S) Γ σ G' H' → Q H') (fun _ => False)) ?_ (fun i H _ ⟨acc2, G', k2, _⟩ => gd H k2.hex) ?_ ?_
  · have k1 := up _ _ _ _ _ k.base
    exact ⟨acc, G, ⟨k1.len, k1.ok.perm (mid.append_right _)⟩, q⟩
  · rintro i v Ha Hb hi ⟨acc2, Ga, k2, w⟩ y
    have hx : xs[i]? = some xs[i] := List.getElem?_eq_getElem hi
    rw [List.drop_eq_getElem_cons hi] at w
    have w2 := cat_wp w
    obtain ⟨G2, k3⟩ := hy i _ hx Ha v Hb y Z G _ Ga k2.gex k2.ok
    refine (hg xs[i]).ev Z G _ _ G2 Hb v _ ⟨k2.len, k3⟩ fun σ3 G3 H3 k4 hw => ⟨(hw d.vs hj).trans wipe_wipe, ?_⟩
    refine (ht xs[i]).ev Z G _ σ3 G3 H3 _ k4 (Res.wp_mono (Res.wp_bind (hf xs[i] _ _ w2)) (fun t w3 G4 H4 k5 => ⟨fun hb => ?_, fun hb => ?_⟩) fun _ z => z)
    · rw [if_pos hb] at w3
      refine (hn xs[i]).ev Z G _ σ3 G4 H4 D acc2 _ k5 (Res.wp_mono w3 (fun ys w4 => ?_) fun _ z => z)
      have w5 : (catK f (xs.drop (i + 1))).wp (fun zs => (acc2 ++ (ys ++ zs)).length ≤ R.line ∧ ∀ G' H', Okc Z G0 ((some (ol c (acc2 ++ (ys ++ zs))), some (.ref D)) :: S) Γ σ G' H' → Q H') (fun _ => False) := w4
      refine ⟨?_, fun G5 H5 k6 => ⟨acc2 ++ ys, G5, ?_, Res.wp_mono w5 (fun zs z => by rw [← List.append_assoc] at z; exact z) fun _ z => z⟩⟩
      · have go : ∃ zs, (acc2 ++ (ys ++ zs)).length ≤ R.line := by
          cases e : catK f (xs.drop (i + 1)) with
          | ok zs => rw [e] at w5; exact ⟨zs, w5.1⟩
          | exn ex => rw [e] at w5; exact w5.elim
          | stuck => rw [e] at w5; exact w5.elim
        obtain ⟨zs, hz⟩ := go
        simp only [List.length_append] at hz ⊢
        omega
      · have e1 := forgets (hd xs[i] _ _ _ _ _ _ k6) d.vs fun v h => wipeC_at h (hv v h)
        rw [(hw d.vs hj).trans wipe_wipe] at e1
        exact e1
    · rw [if_neg (by rw [hb]; exact Bool.false_ne_true)] at w3
      have w5 : (catK f (xs.drop (i + 1))).wp (fun zs => (acc2 ++ ([] ++ zs)).length ≤ R.line ∧ ∀ G' H', Okc Z G0 ((some (ol c (acc2 ++ ([] ++ zs))), some (.ref D)) :: S) Γ σ G' H' → Q H') (fun _ => False) := w3
      refine ⟨acc2, G4, ?_, Res.wp_mono w5 (fun zs z => z) fun _ z => z⟩
      have e1 := forgets (hd xs[i] _ _ _ _ _ _ k5) d.vs fun v h => wipeC_at h (hv v h)
      rw [(hw d.vs hj).trans wipe_wipe] at e1
      exact e1
  · rintro Ha ⟨acc2, Ga, k2, w⟩
    rw [List.drop_length] at w
    have k4 : Okc Z G (L ++ ((some (ol c acc2), some (.ref D)) :: S)) (wipeC Γ d.vs) (wipe σ d.vs) Ga Ha := ⟨k2.len, k2.ok.perm (mid.symm.append_right _)⟩
    have k3 := k.back (down _ _ _ _ _ k4)
    have w' : (acc2 ++ []).length ≤ R.line ∧ ∀ G' H', Okc Z G0 ((some (ol c (acc2 ++ [])), some (.ref D)) :: S) Γ σ G' H' → Q H' := w
    rw [List.append_nil] at w'
    exact w'.2 Ga Ha k3
theorem catC_wp {α : Type} {f : α → Res (List γ)} {xs : List α} {P : List γ → Prop} {E : Exn → Prop} (h : (catC f xs).wp P E) : (catK f xs).wp (fun ys => ys.length ≤ R.line ∧ P ys) fun _ => False := by
  have h1 : (catK f xs).wp (fun ys => (chk (decide (ys.length ≤ R.line)) (.ok ys)).wp P E) E := Res.wp_bind h
  refine catK_calm (Res.wp_mono h1 (fun ys z => ?_) fun _ z => z)
  cases e : decide (ys.length ≤ R.line) with
  | true => rw [e] at z; exact ⟨of_decide_eq_true e, z⟩
  | false => rw [e] at z; exact False.elim z
/-- for d in .. behind other clauses -/
theorem nx_cons {elt tg iter : Expr} {wi : TI} {g : TG} {r : List Cl} {te : TE} {js vs : List Nat} {α β : Type} [Nonempty α] [Nonempty β] {mi : Res α} {xs : α → List β} {Rb : β → Sl} {Γo : α → Ctx} {Γg : α → β → Ctx} {f : α → β → Res (List γ)} {m : Res (List γ)}
    (hi : IX Y T (fun _ _ _ _ => False) Γe Γ tg iter wi mi xs Rb Γo) (hg : ∀ a x, GX Y tg g js (Rb x) (wipeC Γ vs) (Γg a x)) (hn : ∀ a x, NX Y T (Γg a x) elt r te c (f a x)) (hd : ∀ a x, Wk (Γg a x) (wipeC Γ vs)) (hΓo : ∀ a, Γo a = Γ := by exact fun _ => rfl) (hj : ∀ j ∈ js, j ∈ vs := by decide)
    (hv : (vs.all fun v => Nat.ble (v + 1) Γ.length) = true := by rfl) (hm : Bd m (mi.bind fun a => (catK (f a) (xs a)).bind fun ys => .ok ys) .ok := by intros; repeat (first | ((with_reducible refine Bd.done ?_); exact rfl) | with_reducible refine Bd.okl ?_ | with_reducible refine Bd.assoc ?_ | with_reducible refine Bd.bind fun _ => ?_ | with_reducible refine Bd.eta fun _ => ?_ | with_reducible refine Bd.iteB ?_ ?_ fun _ => ?_ | with_reducible refine Bd.iteE ?_ ?_ fun _ => ?_ | with_reducible refine Bd.ite ?_ ?_ | with_reducible refine Bd.iteL ?_ ?_ | with_reducible refine Bd.assocL ?_ | with_reducible refine Bd.oklL ?_ | with_reducible exact Bd.same | with_reducible exact Bd.at | dsimp only))
    (fs : ∀ x, foldedSetIterable iter Y.env x = pure x := by intro _; rfl) : NX Y T Γ elt (⟨tg, iter, [], wi, g, tYes, vs⟩ :: r) te c m := by
  obtain ⟨a0⟩ := ‹Nonempty α›
  obtain ⟨b0⟩ := ‹Nonempty β›
  obtain rfl : Γo = fun _ => Γ := funext hΓo
  refine ⟨fun d hd' => ?_, (hn a0 b0).pe, fun Z G0 S σ G H D acc Q k q => hi.ev Z G0 _ σ G H _ k (Res.wp_mono (Res.wp_bind (hm _ _ q)) (fun a w J G1 H1 k1 src => ?_) fun _ z => False.elim z)⟩
  · rcases List.mem_cons.mp hd' with rfl | h
    · exact ⟨⟨(hg a0 b0).pg, pts_nil⟩, ⟨hi.pi, fs⟩⟩
    · exact (hn a0 b0).ok d h
  · have w2 := Res.wp_bind w
    exact nx_loop (d := ⟨tg, iter, [], wi, g, tYes, vs⟩) (f := f a) (mt := fun _ => .ok ()) (bt := fun _ _ => true) (hg a) hj (fun v hm => Nat.le_of_ble_eq_true (List.all_eq_true.mp hv v hm)) (fun _ => ts_nil) (hn a) (hd a) (fun x => fun Q E z => by
      show ((Res.ok ()).bind fun t => if true = true then f a x else .ok []).wp _ _
      exact z) Z G0 S σ G1 H1 D acc Q k1 src w2
theorem nx_consT {elt tg iter t : Expr} {wi : TI} {g : TG} {tt : TT} {r : List Cl} {te : TE} {js vs : List Nat} {α β : Type} [Nonempty α] [Nonempty β] {δ : α → β → Type} {mi : Res α} {xs : α → List β} {Rb : β → Sl} {Γo : α → Ctx} {Γg : α → β → Ctx} {mt : (a : α) → (x : β) → Res (δ a x)} {bt : (a : α) → (x : β) → δ a x → Bool} {f f2 : α → β → Res (List γ)} {m : Res (List γ)}
    (hi : IX Y T (fun _ _ _ _ => False) Γe Γ tg iter wi mi xs Rb Γo) (hg : ∀ a x, GX Y tg g js (Rb x) (wipeC Γ vs) (Γg a x)) (ht : ∀ a x, TSX Y T (Γg a x) [t] tt (mt a x) (bt a x)) (hn : ∀ a x, NX Y T (Γg a x) elt r te c (f2 a x)) (hd : ∀ a x, Wk (Γg a x) (wipeC Γ vs)) (hΓo : ∀ a, Γo a = Γ := by exact fun _ => rfl) (hj : ∀ j ∈ js, j ∈ vs := by decide)
    (hv : (vs.all fun v => Nat.ble (v + 1) Γ.length) = true := by rfl) (hm : Bd m (mi.bind fun a => (catK (f a) (xs a)).bind fun ys => .ok ys) .ok := by intros; repeat (first | ((with_reducible refine Bd.done ?_); exact rfl) | with_reducible refine Bd.okl ?_ | with_reducible refine Bd.assoc ?_ | with_reducible refine Bd.bind fun _ => ?_ | with_reducible refine Bd.eta fun _ => ?_ | with_reducible refine Bd.iteB ?_ ?_ fun _ => ?_ | with_reducible refine Bd.iteE ?_ ?_ fun _ => ?_ | with_reducible refine Bd.ite ?_ ?_ | with_reducible refine Bd.iteL ?_ ?_ | with_reducible refine Bd.assocL ?_ | with_reducible refine Bd.oklL ?_ | with_reducible exact Bd.same | with_reducible exact Bd.at | dsimp only))
    (hf : ∀ a x, Bd (f a x) ((mt a x).bind fun d => if bt a x d then f2 a x else .ok []) .ok := by intros; repeat (first | ((with_reducible refine Bd.done ?_); exact rfl) | with_reducible refine Bd.okl ?_ | with_reducible refine Bd.assoc ?_ | with_reducible refine Bd.bind fun _ => ?_ | with_reducible refine Bd.eta fun _ => ?_ | with_reducible refine Bd.iteB ?_ ?_ fun _ => ?_ | with_reducible refine Bd.iteE ?_ ?_ fun _ => ?_ | with_reducible refine Bd.ite ?_ ?_ | with_reducible refine Bd.iteL ?_ ?_ | with_reducible refine Bd.assocL ?_ | with_reducible refine Bd.oklL ?_ | with_reducible exact Bd.same | with_reducible exact Bd.at | dsimp only))
    (fs : ∀ x, foldedSetIterable iter Y.env x = pure x := by intro _; rfl) : NX Y T Γ elt (⟨tg, iter, [t], wi, g, tt, vs⟩ :: r) te c m := by
  obtain ⟨a0⟩ := ‹Nonempty α›
  obtain ⟨b0⟩ := ‹Nonempty β›
  obtain rfl : Γo = fun _ => Γ := funext hΓo
  refine ⟨fun d hd' => ?_, (hn a0 b0).pe, fun Z G0 S σ G H D acc Q k q => hi.ev Z G0 _ σ G H _ k (Res.wp_mono (Res.wp_bind (hm _ _ q)) (fun a w J G1 H1 k1 src => ?_) fun _ z => False.elim z)⟩
  · rcases List.mem_cons.mp hd' with rfl | h
    · exact ⟨⟨(hg a0 b0).pg, (ht a0 b0).pt⟩, ⟨hi.pi, fs⟩⟩
    · exact (hn a0 b0).ok d h
  · have w2 := Res.wp_bind w
    exact nx_loop (d := ⟨tg, iter, [t], wi, g, tt, vs⟩) (f := f a) (mt := mt a) (bt := bt a) (hg a) hj (fun v hm => Nat.le_of_ble_eq_true (List.all_eq_true.mp hv v hm)) (ht a) (hn a) (hd a) (hf a) Z G0 S σ G1 H1 D acc Q k1 src w2
end
section
variable {X : Cx} {T : XT} {W : WX} {Γx Γ Γe : Ctx}
theorem lcN_ev {tg iter elt : Expr} {ifs : List Expr} {wi : TI} {g : TG} {tt : TT} {r : List Cl} {te : TE} {js vs : List Nat} {α β γ : Type} {δ : α → β → Type} {c : Cod γ} {mi : Res α} {xs : α → List β} {Rb : β → Sl} {Γ0 : α → Ctx} {Γg : α → β → Ctx} {mt : (a : α) → (x : β) → Res (δ a x)} {bt : (a : α) → (x : β) → δ a x → Bool} {f f2 : α → β → Res (List γ)} {Y : Cx}
    (hi : IX X T W Γx Γ tg iter wi mi xs Rb Γ0) (hg : ∀ a x, GX Y tg g js (Rb x) (wipeC (Γ0 a) vs) (Γg a x)) (ht : ∀ a x, TSX Y T (Γg a x) ifs tt (mt a x) (bt a x)) (hn : ∀ a x, NX Y T (Γg a x) elt r te c (f2 a x)) (hd : ∀ a x, Wk (Γg a x) (wipeC (Γ0 a) vs)) (hj : ∀ j ∈ js, j ∈ vs)
    (hv : ∀ a, ∀ v ∈ vs, v < (Γ0 a).length) (hf : ∀ a x, Bd (f a x) ((mt a x).bind fun d => if bt a x d then f2 a x else .ok []) .ok) (Z G0 : Hp) (S : List Pl) (σ : L2.St) (G H : Hp) (Q : VK) (k : Okc Z G0 S Γ σ G H)
    (q : (mi.bind fun a => (catC (f a) (xs a)).bind fun ys => .ok (a, ys)).wp (fun t => ∀ v G' H', Okc Z G0 ((some (ol c t.2), some v) :: S) (Γ0 t.1) σ G' H' → Q v H') (fun ex => ∀ cls d G' H', Okc Z G0 S Γx σ G' H' → T.rel ex cls d G' → W cls d σ H')) : tLcN ⟨tg, iter, ifs, wi, g, tt, vs⟩ r te σ H Q := by
  refine hi.ev Z G0 S σ G H _ k (Res.wp_mono (Res.wp_bind q) (fun a q J G1 H1 k1 src D hD => ?_) fun ex q => q)
  have w := catC_wp (Res.wp_bind q)
  have kD : Okc Z G0 ((some (ol c []), some (.ref D)) :: S) (Γ0 a) σ G1 (upd H1 D (.lst [])) := ⟨k1.len, k1.ok.layOwn (s := ol c []) hD ⟨D, [], rfl, rfl, upd_same, .nil⟩⟩
  have src2 : Src J (xs a) Rb G1 := src
  exact nx_loop (d := ⟨tg, iter, ifs, wi, g, tt, vs⟩) (f := f a) (mt := mt a) (bt := bt a) (hg a) hj (hv a) (ht a) (hn a) (hd a) (hf a) Z G0 S σ G1 _ D [] _ kD src2 (Res.wp_mono w (fun ys z => ⟨z.1, fun G' H' k' => z.2 (.ref D) G' H' k'⟩) fun _ z => z)
theorem ex_lcN {tg iter elt : Expr} {scope : Scope} {own : List (Str × Nat)} {pos : Pos} {wi : TI} {g : TG} {r : List Cl} {te : TE} {js : List Nat} {α β γ : Type} [Nonempty α] [Nonempty β] {c : Cod γ} {mi : Res α} {xs : α → List β} {Rb : β → Sl} {Γ0 : α → Ctx} {Γg : α → β → Ctx} {f : α → β → Res (List γ)} {rest : List Comprehension}
    (hN : X.N.Nodup) (hi : IX X T W Γx Γ tg iter wi mi xs Rb Γ0) (ok : BlkOk X.N X.env.scope scope own)
    (hg : ∀ (s : Shared) (H : Hp) (C : Addr) (cl : List (Str × Addr)) (fp : List Addr) a x, GX (X.blk s H scope (compEnvC scope cl C X.env) fp) tg g js (Rb x) (wipeC (Γ0 a) (own.map (·.2))) (Γg a x))
    (hn : ∀ (s : Shared) (H : Hp) (C : Addr) (cl : List (Str × Addr)) (fp : List Addr) a x, NX (X.blk s H scope (compEnvC scope cl C X.env) fp) T (Γg a x) elt r te c (f a x)) (hd : ∀ a x, Wk (Γg a x) (wipeC (Γ0 a) (own.map (·.2)))) (hr : r.map Cl.py = rest := by rfl) (nest : nestB (own.map (·.2)) r = true := by rfl)
    (hj : ∀ j ∈ js, j ∈ own.map (·.2) := by decide) (hv : ∀ a, ((own.map (·.2)).all fun v => Nat.ble (v + 1) (Γ0 a).length) = true := by exact fun _ => rfl) (hc : X.calm = true := by rfl) (hs : ∀ x, foldedSetIterable iter X.env x = pure x := by intro _; rfl) :
    EX X T W Γx Γ (.ListComp elt (⟨tg, iter, [], 0⟩ :: rest) scope pos) (tLcN ⟨tg, iter, [], wi, g, tYes, own.map (·.2)⟩ r te) (mi.bind fun a => (catC (f a) (xs a)).bind fun ys => .ok (a, ys)) (fun t => ol c t.2) (fun t => Γ0 t.1) := by
  obtain ⟨a0⟩ := ‹Nonempty α›
  obtain ⟨b0⟩ := ‹Nonempty β›
  subst hr
  refine ⟨pe_lcN (c := ⟨tg, iter, [], wi, g, tYes, own.map (·.2)⟩) hc hN ⟨hi.pi, hs⟩ ok rfl (nest_of (c := ⟨tg, iter, [], wi, g, tYes, own.map (·.2)⟩) nest) (fun s H C cl fp => ⟨⟨(hg s H C cl fp a0 b0).pg, pts_nil⟩, (hn s H C cl fp a0 b0).ok, (hn s H C cl fp a0 b0).pe⟩), ?_⟩
  · exact lcN_ev (f := f) (mt := fun _ _ => .ok ()) (bt := fun _ _ _ => true) hi (hg X.s_0 (fun _ => none) 0 [] []) (fun _ _ => ts_nil) (hn X.s_0 (fun _ => none) 0 [] []) hd hj (fun a v hm => Nat.le_of_ble_eq_true (List.all_eq_true.mp (hv a) v hm)) fun a x => fun Q E z => by
      show ((Res.ok ()).bind fun t => if true = true then f a x else .ok []).wp _ _
      exact z
theorem s1_asgLcN {i : Nat} {y : Str} {py spos : Pos} {tg iter elt : Expr} {scope : Scope} {own : List (Str × Nat)} {pos : Pos} {wi : TI} {g : TG} {r : List Cl} {te : TE} {js : List Nat} {α β γ : Type} [Nonempty α] [Nonempty β] {c : Cod γ} {mi : Res α} {xs : α → List β} {Rb : β → Sl} {Γ0 : α → Ctx} {Γg : α → β → Ctx} {f : α → β → Res (List γ)} {mn : Res (List γ)} {rest : List Comprehension}
    (hN : X.N.Nodup) (hy : X.N[i]? = some y) (hyl : X.env.scope.names.lookup y = some .local) (hsw : swapsWith (.ListComp elt (⟨tg, iter, [], 0⟩ :: rest) scope pos) (some (.Name y py)) spos.line X.env = pure true) (hi : IX X T W Γx Γ tg iter wi mi xs Rb Γ0) (ok : BlkOk X.N X.env.scope scope own)
    (hg : ∀ (s : Shared) (H : Hp) (C : Addr) (cl : List (Str × Addr)) (fp : List Addr) a x, GX (X.blk s H scope (compEnvC scope cl C X.env) fp) tg g js (Rb x) (wipeC (Γ0 a) (own.map (·.2))) (Γg a x))
    (hn : ∀ (s : Shared) (H : Hp) (C : Addr) (cl : List (Str × Addr)) (fp : List Addr) a x, NX (X.blk s H scope (compEnvC scope cl C X.env) fp) T (Γg a x) elt r te c (f a x)) (hd : ∀ a x, Wk (Γg a x) (wipeC (Γ0 a) (own.map (·.2)))) (hr : r.map Cl.py = rest := by rfl) (nest : nestB (own.map (·.2)) r = true := by rfl)
    (hj : ∀ j ∈ js, j ∈ own.map (·.2) := by decide) (hv : ∀ a, ((own.map (·.2)).all fun v => Nat.ble (v + 1) (Γ0 a).length) = true := by exact fun _ => rfl) (hΓ : ∀ t, Γ0 t = Γ := by exact fun _ => rfl) (hl : Nat.ble (i + 1) Γ.length = true := by rfl)
    (hm : Bd mn (mi.bind fun a => (catC (f a) (xs a)).bind fun ys => .ok (a, ys)) (fun t => .ok t.2) := by intros; repeat (first | ((with_reducible refine Bd.done ?_); exact rfl) | with_reducible refine Bd.okl ?_ | with_reducible refine Bd.assoc ?_ | with_reducible refine Bd.bind fun _ => ?_ | with_reducible refine Bd.eta fun _ => ?_ | with_reducible refine Bd.iteB ?_ ?_ fun _ => ?_ | with_reducible refine Bd.iteE ?_ ?_ fun _ => ?_ | with_reducible refine Bd.ite ?_ ?_ | with_reducible refine Bd.iteL ?_ ?_ | with_reducible refine Bd.assocL ?_ | with_reducible refine Bd.oklL ?_ | with_reducible exact Bd.same | with_reducible exact Bd.at | dsimp only))
    (hc : X.calm = true := by rfl) (hs : ∀ x, foldedSetIterable iter X.env x = pure x := by intro _; rfl) :
    S1 X T W Γx Γ (.Assign [.Name y py] (.ListComp elt (⟨tg, iter, [], 0⟩ :: rest) scope pos) spos) (tAsg (tLcN ⟨tg, iter, [], wi, g, tYes, own.map (·.2)⟩ r te) (gName i)) mn (fun v => .nx (Γ.set i (some (ol c v)))) := by
  obtain ⟨a0⟩ := ‹Nonempty α›
  obtain ⟨b0⟩ := ‹Nonempty β›
  subst hr
  refine ⟨ps_setLcN (c := ⟨tg, iter, [], wi, g, tYes, own.map (·.2)⟩) hc hN hy hyl hsw ⟨hi.pi, hs⟩ ok rfl (nest_of (c := ⟨tg, iter, [], wi, g, tYes, own.map (·.2)⟩) nest) (fun s H C cl fp => ⟨⟨(hg s H C cl fp a0 b0).pg, pts_nil⟩, (hn s H C cl fp a0 b0).ok, (hn s H C cl fp a0 b0).pe⟩), fun Z G0 S σ G H D k q => ?_⟩
  · refine lcN_ev (f := f) (mt := fun _ _ => .ok ()) (bt := fun _ _ _ => true) hi (hg X.s_0 (fun _ => none) 0 [] []) (fun _ _ => ts_nil) (hn X.s_0 (fun _ => none) 0 [] []) hd hj (fun a v hm => Nat.le_of_ble_eq_true (List.all_eq_true.mp (hv a) v hm)) (fun a x => fun Q E z => ?_) Z G0 S σ G H _ k (Res.wp_mono (hm _ _ q) (fun t q v G' H' k' => ?_) fun ex q cls d G' H' k' => q cls d σ G' H' k')
    · show ((Res.ok ()).bind fun t => if true = true then f a x else .ok []).wp _ _
      exact z
    · rw [hΓ] at k'
      exact q _ G' H' (k'.store (Nat.le_of_ble_eq_true hl))
end
end Rt
/-! Rt29: list(reversed(range(n))). -/
namespace PySem
open Sem (wp)
open AutoSeq1 (wpAny_loadPart')
section
variable {prog : Program} {w : World} {A : Around} {E : Value → Shared → Prop} {s : Shared}
/-- how many items an iterator over a range has left -/
theorem rt_left {I : Addr} {a n c : Int} {Q : Value → Shared → Prop} (h0 : IsRangeIter s.heap I a n c) (h : Q (.int n s.toks) { s with toks := s.toks + 1 }) : wpAny (model prog w) A (call (.builtin "range_iterator.__length_hint__") [.ref I]) Q E s := by
  have hT : s.TypeIs (.ref I) "range_iterator" := ⟨_, h0, rfl⟩
  refine wpAny_call_entry F.slot_range_iterator_length_hint hT F.entry_range_iterator_length_hint ?_ (F.args_range_iterator_length_hint_1 _)
  obtain ⟨hp, g, d, tk, os⟩ := s
  wp_walk using wpAny_loadPart' h0
  exact ⟨_, rfl, h⟩
/-- list(it), it an iterator over a range that has just begun -/
theorem rt_list_rangeiter {Q : Value → Shared → Prop} {I : Addr} {a c : Int} {n : Nat} (hh : A.handled = none) (hI : IsRangeIter s.heap I a n c) (hn : n ≤ 16777216)
    (hQ : ∀ h' tk acc c', (∀ b o, b ≠ I → s.heap.get? b = some o → h'.get? b = some o) → h'.get? s.heap.objs.size = some { cls := .type "list", dict := none, data := .seq acc c', slots := #[] } → ItemsOf (fun i v => ∃ t, v = .int (a + i * c) t) acc n → Q (.ref s.heap.objs.size) { s with heap := h', toks := tk }) :
    wpAny (model prog w) A (call (.type "list") [.ref I]) Q E s := by
  have lt : I < s.heap.objs.size := Heap.lt_size hI
  have hSI : s.heap.objs.size ≠ I := Nat.ne_of_gt lt
  have hSf : s.heap.objs.size ∉ [I] := fun hm => hSI (List.mem_singleton.mp hm)
  refine callType_codes (Q₁ := fun obj sa => obj = .ref s.heap.objs.size ∧ sa = { s with heap := s.heap.push { cls := .type "list", data := .seq #[] } }) F.called_list (F.typeCall_list_1 _) F.entry_list_init (code_list_new _ ⟨rfl, rfl⟩) fun obj sa ha => ?_
  obtain ⟨rfl, rfl⟩ := ha
  have hS : (s.heap.push { cls := .type "list", data := .seq #[] }).get? s.heap.objs.size = some { cls := .type "list", data := .seq #[] } := Heap.get?_push_size _ rfl
  refine ⟨⟨_, hS, rfl⟩, F.args_list_init_2 _ _, ?_⟩
  have hI1 : IsRangeIter (s.heap.push { cls := .type "list", data := .seq #[] }) I a n c := Heap.get?_push_of_some _ hI
  generalize hS0 : s.heap.objs.size = S at *
  obtain ⟨h1, eh1⟩ : ∃ h1, s.heap.push { cls := .type "list", data := .seq #[] } = h1 := ⟨_, rfl⟩
  rw [eh1] at hS hI1 ⊢
  have old : ∀ b o, s.heap.get? b = some o → h1.get? b = some o := fun b o e => by rw [← eh1]; exact Heap.get?_push_of_some _ e
  show wpAny _ _ (do let old ← Builtin.List.listItems (.ref S); Builtin.List.listUpdate (.ref S) (fun _ => #[]); letGo old.toList.reverse; Builtin.List.listExtendWith (.ref S) (.ref I) .none) _ _ _
  refine wpAny_bind ?_
  unfold Builtin.List.listItems
  refine wpAny_bind (wpAny_seqItems hS rfl (wpAny_pure (wpAny_bind (wpAny_updateSeq hS rfl (wpAny_bind (wpAny_letGo ?_))))))
  have hS2 := Heap.get?_update_self (Obj.mapSeq (fun _ => (#[] : Array Value))) hS rfl
  have hI2 : IsRangeIter (h1.update S (Obj.mapSeq (fun _ => (#[] : Array Value)))) I a n c := (Heap.get?_update_other _ _ hSI).trans hI1
  have old2 : ∀ b o, s.heap.get? b = some o → (h1.update S (Obj.mapSeq (fun _ => (#[] : Array Value)))).get? b = some o := fun b o e => (Heap.get?_update_other _ _ (fun z => by have q := Heap.lt_size e; rw [hS0, z] at q; exact Nat.lt_irrefl _ q)).trans (old b o e)
  generalize h1.update S (Obj.mapSeq (fun _ => (#[] : Array Value))) = h2 at *
  unfold Builtin.List.listExtendWith
  refine wpAny_bind (wpAny_typeOf (T := "range_iterator") ⟨_, hI2, rfl⟩ ?_)
  have hsame : Builtin.List.listSameRef (.ref S) (.ref I) = false := by simp [Builtin.List.listSameRef, hSI]
  rw [if_neg (by rw [hsame]; decide)]
  refine wpAny_bind (wpAny_pyIter_rangeiter hI2 (wpAny_bind (wpAny_holding ?_)))
  unfold Builtin.List.listLengthHint
  refine wpAny_bind (wpAny_specialOf ⟨_, hI2, rfl⟩ F.nolen_ra ?_)
  show wpAny _ _ (specialOf (Value.ref I) (Str.ofString "__length_hint__") >>= _) _ _ _
  refine wpAny_bind (wpAny_specialOf ⟨_, hI2, rfl⟩ F.hint_ra ?_)
  generalize hid : ("range_iterator.__length_hint__" : String) = id0
  wp_delta
  rw [show splitId id0 = some ("range_iterator", "__length_hint__") from by subst hid; decide +kernel]
  subst hid
  refine wpAny_bind (wpAny_isInstance (T := "range_iterator") (b := true) ⟨_, hI2, rfl⟩ (by rw [isSubtype_type]; kernel_rfl) ?_)
  show wpAny _ _ (call (.builtin "range_iterator.__length_hint__") [.ref I] >>= _) _ _ _
  refine wpAny_bind (rt_left hI2 (wpAny_bind (m := asInt? _) (wpAny_pure ?_)))
  have tl : Builtin.List.listTooLong ((n : Int).toNat) = false := by simp [Builtin.List.listTooLong, sizeLine]; omega
  dsimp only
  rw [if_neg (by rw [tl]; decide)]
  refine wpAny_pure ?_
  rw [if_neg (by decide)]
  have W := (Walks.range (prog := prog) (w := w) (A := A.in1.in1) hh I a c n).toS
  have hI3 : IsRangeIter h2 I (a + ((0 : Nat) : Int) * c) ((n : Int) - ((0 : Nat) : Int)) c := by
    have e1 : a + ((0 : Nat) : Int) * c = a := by simp
    have e2 : (n : Int) - ((0 : Nat) : Int) = n := by simp
    rw [e1, e2]
    exact hI2
  refine wpAny_pure ⟨plainId_quiet F.plain_extend_loop _, codeAny_extend_loopS W (by rw [sizeLine_eq]; exact hn) S hSf _ n 0 _ _ _ rfl (Nat.zero_le _) hI3 hS2 (ItemsOf.nil _) fun s' acc c' hm hS' hacc => ?_⟩
  rw [Moved.eq_with hm]
  refine ⟨rfl, hQ s'.heap s'.toks acc c' (fun b o hb e => hm.heap b o (fun hmem => ?_) (old2 b o e)) hS' hacc⟩
  rcases List.mem_cons.mp hmem with z | z
  · have q := Heap.lt_size e
    rw [hS0, ← z] at q
    exact Nat.lt_irrefl _ q
  · exact hb (List.mem_singleton.mp z)
end
end PySem
namespace L2
open PySem PySem.Spec PyProof.Rows
abbrev revV (a : Int) (n : Nat) : List V := (List.range n).map fun (i : Nat) => V.int (a + (n : Int) - 1 + (i : Int) * -1)
def tLstRev (tr : St → Hp → (Int → Int → Hp → Prop) → Prop) : TE := fun σ H Q => tr σ H fun a b H1 => -(2 ^ 62) ≤ a ∧ a < 2 ^ 62 ∧ -(2 ^ 62) ≤ b ∧ b < 2 ^ 62 ∧ (b - a).toNat ≤ 16777216 ∧ ∀ q, H1 q = none → Q (.ref q) (upd H1 q (.lst (revV a (b - a).toNat)))
theorem vals_rev {a : Int} {n : Nat} {acc : Array Value} (h : ItemsOf (fun (i : Nat) v => ∃ t, v = .int (a + (n : Int) - 1 + (i : Int) * -1) t) acc n) : Vals (revV a n) acc.toList := by
  have e : acc.toList.length = n := by rw [Array.length_toList]; exact h.1
  have z := vals_of_get acc.toList (fun (i : Nat) => V.int (a + (n : Int) - 1 + (i : Int) * -1)) fun j u hj => h.2 j u (by rw [← hj, Array.getElem?_toList])
  rw [e] at z
  exact z
theorem pe_listRev {X : Cx} {e : Expr} {tr : St → Hp → (Int → Int → Hp → Prop) → Prop} {p p2 pos pos2 : Pos} (hc : X.calm = true) (hg : Gl X "reversed") (hm : X.mg "reversed" = none) (hg2 : Gl X "list") (hm2 : X.mg "list" = none) (he : PRg X e tr) (hs : starEach [e] X.env = (false, eval e X.env) :: starEach [] X.env := by rfl)
    (hs2 : starEach [.Call (.Name "reversed" p2) [e] [] pos2] X.env = (false, eval (.Call (.Name "reversed" p2) [e] [] pos2) X.env) :: starEach [] X.env := by rfl) : PE X (.Call (.Name "list" p) [.Call (.Name "reversed" p2) [e] [] pos2] [] pos) (tLstRev tr) := by
  refine ⟨fun pins s σ H Q I h => Call_ (ld_blt I hg2 hm2 boot_list (PyProof.Rows.callWith_type1 (args_cons ?_ hs2) hs2))⟩
  refine Call_ (ld_blt I hg hm PyProof.Rows.boot_reversed (PyProof.Rows.callWith_type1 (args_cons (thn (he pins s σ H _ I h) fun u s1 hx => args_nil ?_) hs) hs rfl))
  obtain ⟨r, a, b, t, w1, v, H1, eu, hr, I1, b1, b2, b3, b4, b5, q⟩ := hx
  subst eu
  have hn : Builtin.Range.rangeSize a b 1 = (((b - a).toNat : Nat) : Int) := rangeSize_nat a b
  refine call_reversed_range hr (smallRev_one b1 b2 b3 b4) (args_nil ?_)
  obtain ⟨s2, es2⟩ : ∃ s2 : Shared, ({ s1 with heap := s1.heap.push (PySem.rngRevObj a b 1) } : Shared) = s2 := ⟨_, rfl⟩
  have I2 : Inv X pins σ H1 s2 := by
    rw [← es2]
    exact I1.kept (t' := s1.toks) fun c o e => Heap.get?_push_of_some _ e
  have it : IsRangeIter s2.heap s1.heap.objs.size (a + (((b - a).toNat : Nat) : Int) - 1) (((b - a).toNat : Nat) : Int) (-1) := by
    rw [← es2]
    have e1 : a + (((b - a).toNat : Nat) : Int) - 1 = a + (Builtin.Range.rangeSize a b 1 - 1) * 1 := by rw [hn]; omega
    rw [e1, ← hn]
    exact Heap.get?_push_size _ rfl
  have fp : FpOk X pins H1 s1.heap.objs.size := I1.fpOk (Nat.le_refl _) (I1.hok.fresh (Nat.le_refl _))
  rw [es2]
  refine rt_list_rangeiter (I2.ok.hd hc) it b5 fun g tk acc c' hk hl hi => ?_
  have new : ObjOk X.prog X.w (upd H1 s2.heap.objs.size (.lst (revV a (b - a).toNat))) g s2.heap.objs.size (.lst (revV a (b - a).toNat)) := by
    refine ⟨?_, acc.toList, c', vals_rev hi, by rw [Array.toArray_toList]; exact hl⟩
    rw [List.length_map, List.length_range, sizeLine_eq]
    exact b5
  have I3 := I2.turnedNew (t' := tk) (h' := g) (ch := [s1.heap.objs.size]) (fun c o hb e => hk c o (fun z => hb (z ▸ List.mem_cons_self)) e) (fun c hb => List.mem_singleton.mp hb ▸ fp) (Nat.le_refl _) new
  exact ⟨.ref s2.heap.objs.size, _, I3, rfl, q _ (I2.hok.fresh (Nat.le_refl _))⟩
end L2
namespace Rt
open PySem L2 R
theorem ints_paired {G : Hp} : ∀ l : List Int, Paired (cInt.rel G) (l.map V.int) l
  | [] => .nil
  | _ :: l => .cons rfl (ints_paired l)
section
variable {X : Cx} {T : XT} {W : WX} {Γx Γ : Ctx}
theorem ex_listRev {e : Expr} {te : TE} {p p2 p3 pos pos2 pos3 : Pos} {α : Type} {m : Res α} {n : α → Int} {Γo : α → Ctx} (he : EX X T W Γx Γ e te m (fun a => sI (n a)) Γo) (hm : X.mg "range" = none) (hm2 : X.mg "reversed" = none) (hm3 : X.mg "list" = none) (hg : Gl X "range" := by rfl) (hg2 : Gl X "reversed" := by rfl) (hg3 : Gl X "list" := by rfl)
    (na : starEach [e] X.env = (false, eval e X.env) :: starEach [] X.env := by rfl) (hs : starEach [.Call (.Name "range" p) [e] [] pos] X.env = (false, eval (.Call (.Name "range" p) [e] [] pos) X.env) :: starEach [] X.env := by rfl)
    (hs2 : starEach [.Call (.Name "reversed" p2) [.Call (.Name "range" p) [e] [] pos] [] pos2] X.env = (false, eval (.Call (.Name "reversed" p2) [.Call (.Name "range" p) [e] [] pos] [] pos2) X.env) :: starEach [] X.env := by rfl) (hc : X.calm = true := by rfl) :
    EX X T W Γx Γ (.Call (.Name "list" p3) [.Call (.Name "reversed" p2) [.Call (.Name "range" p) [e] [] pos] [] pos2] [] pos3) (tLstRev (tRg1 te)) (m.bind fun a => (R.revL (n a)).bind fun xs => .ok (a, xs)) (fun t => ol cInt t.2) (fun t => Γo t.1) := by
  refine ⟨pe_listRev hc hg2 hm2 hg3 hm3 (prg_1 hg hm he.pe na) hs hs2, fun Z G0 S σ G H Q k q => he.ev Z G0 S σ G H _ k (Res.wp_mono (Res.wp_bind q) (fun a q v G' H' k' => ?_) fun _ z => z)⟩
  obtain ⟨xs, e1, q3⟩ := wp_cases (Res.wp_bind q) (chk_ne ok_ne)
  obtain ⟨h1, h2⟩ := chk_ok e1
  cases h2
  have e0 : v = .int (n a) := k'.tp
  rw [Bool.and_eq_true] at h1
  have h2 := of_decide_eq_true h1.1
  have h3 := of_decide_eq_true h1.2
  refine ⟨n a, e0, by decide, by decide, h2, by omega, by omega, fun p hp => ?_⟩
  refine q3 _ G' _ ⟨k'.len, k'.drop.ok.layOwn (s := ol cInt (R.range 0 (n a)).reverse) hp ⟨p, _, rfl, rfl, upd_same, ?_⟩⟩
  have e4 : revV 0 (n a - 0).toNat = (R.range 0 (n a)).reverse.map V.int := by
    refine List.ext_getElem (by simp [R.range]) fun i h1 h2 => ?_
    simp only [List.getElem_map, List.getElem_range, List.getElem_reverse, R.range, List.length_map, List.length_range]
    congr 1
    simp only [List.length_map, List.length_range] at h1
    omega
  rw [e4]
  exact ints_paired _
end
end Rt
/-! Rt30: owned lists that are lent to an expression; tuples walked; in. -/
namespace Rt
open PySem L2 R
/-- what it is, is told by the heap and what it owns -/
def GFree (s : Sl) : Prop := ∀ G G' H v ps, s.rel G H v ps → s.rel G' H v ps
theorem gf_int {i : Int} : GFree (sI i) := fun _ _ _ _ _ h => h
theorem gf_bool {b : Bool} : GFree (sB b) := fun _ _ _ _ _ h => h
theorem gf_tx {t : Tx} : GFree (sT t) := fun _ _ _ _ _ h => h
theorem gf_non : GFree sN := fun _ _ _ _ _ h => h
theorem paired_imp {α : Type} {F F' : V → α → Prop} (h : ∀ v a, F v a → F' v a) : ∀ {vs : List V} {xs : List α}, Paired F vs xs → Paired F' vs xs
  | _, _, .nil => .nil
  | _, _, .cons r t => .cons (h _ _ r) (paired_imp h t)
theorem gf_olI {xs : List Int} : GFree (ol cInt xs) := fun _ _ _ _ _ ⟨p, vs, h1, h2, h3, h4⟩ => ⟨p, vs, h1, h2, h3, h4⟩
theorem gf_olT {xs : List Tx} : GFree (ol cTx xs) := fun _ _ _ _ _ ⟨p, vs, h1, h2, h3, h4⟩ => ⟨p, vs, h1, h2, h3, h4⟩
theorem gf_olB {xs : List Bool} : GFree (ol cBool xs) := fun _ _ _ _ _ ⟨p, vs, h1, h2, h3, h4⟩ => ⟨p, vs, h1, h2, h3, h4⟩
/-- a slot as it is seen while all that is owned is lent -/
inductive Lend : Option Sl → Option Sl → Prop
  | no (o : Option Sl) : Lend o none
  | fz {α : Type} (c : Cod α) (a : α) : Lend (some (fz c a)) (some (fz c a))
  | ol {α : Type} (c : Cod α) (xs : List α) : Lend (some (ol c xs)) (some (Rt.fz (cList c) xs))
theorem lend_all {G H : Hp} {qs : List Addr} {G1 : Hp} (e1 : Ex G G1) (e2 : ∀ p ∈ qs, G1 p = H p) : ∀ {Γ Δ : Ctx} (σ : L2.St) {ps : List Addr}, Paired Lend Γ Δ → All G H (Γ.zip σ) ps → (∀ p ∈ ps, p ∈ qs) → All G1 H (Δ.zip σ) []
  | _, _, σ, _, .nil, _, _ => by
    rw [List.zip_nil_left]
    rfl
  | o :: Γ, d :: Δ, [], _, .cons _ _, _, _ => rfl
  | o :: Γ, d :: Δ, w :: σ, ps, .cons r t, h, hq => by
    obtain ⟨p1, p2, rfl, h1, h2⟩ := h
    refine ⟨[], [], rfl, ?_, lend_all e1 e2 σ t h2 fun p hp => hq p (List.mem_append_right _ hp)⟩
    cases r with
    | no => rfl
    | fz c a =>
      obtain ⟨v, e, h3, h4⟩ := h1
      exact ⟨v, e, c.mono h3 e1, rfl⟩
    | ol c xs =>
      obtain ⟨v, e, p, vs, h3, h4, h5, h6⟩ := h1
      exact ⟨v, e, ⟨p, vs, h3, by rw [e2 p (hq p (List.mem_append_left _ (by rw [h4]; exact List.mem_cons_self)))]; exact h5, Paired.mono (fun _ _ q => c.mono q e1) h6⟩, rfl⟩
/-- what is owned is lent; what comes back -/
theorem Okc.lendAll {Z G0 : Hp} {S : List Pl} {Γ Δ : Ctx} {σ : L2.St} {G H : Hp} (k : Okc Z G0 S Γ σ G H) (d : Paired Lend Γ Δ) : ∃ G1, Okc Z G1 [] Δ σ G1 H ∧ ∀ {s : List Pl} {G' H' : Hp}, Okc Z G1 s Δ σ G' H' → (∀ ps, All G' H' s ps → ∀ G2, All G2 H' s ps) → Okc Z G0 (s ++ S) Γ σ G H' := by
  obtain ⟨ps, ha, nd, hp⟩ := k.ok.own
  obtain ⟨p1, p2, rfl, a1, a2⟩ := All.append.mp ha
  have off : ∀ a o, G a = some o → a ∉ p1 ++ p2 := fun a o e hm => by
    rw [(hp a hm).2.1] at e
    cases e
  let G1 : Hp := fun a => if a ∈ p1 ++ p2 then H a else G a
  have in1 : ∀ a ∈ p1 ++ p2, G1 a = H a := fun a h => if_pos h
  have out1 : ∀ a, a ∉ p1 ++ p2 → G1 a = G a := fun a h => if_neg h
  have e1 : Ex G G1 := fun a o e => by rw [out1 a (off a o e)]; exact e
  have e2 : Ex G1 H := fun a o e => by
    by_cases h : a ∈ p1 ++ p2
    · rw [in1 a h] at e; exact e
    · rw [out1 a h] at e; exact k.ok.gh a o e
  have len : Δ.length = σ.length := by rw [← d.length]; exact k.len
  have k1 : Okc Z G1 [] Δ σ G1 H := ⟨len, ⟨k.ok.zh, Evl.Ex.refl _, e2, fun _ _ _ _ e => e, [], lend_all e1 in1 σ d a2 (fun p h => List.mem_append_right _ h), List.nodup_nil, fun p h => by cases h⟩⟩
  refine ⟨G1, k1, fun {s G' H'} j hs => ?_⟩
  have e3 : Ex G1 G' := j.ok.gg
  have keep : ∀ p ∈ p1 ++ p2, H' p = H p := fun p h => by
    obtain ⟨_, _, o, ho⟩ := hp p h
    rw [ho]
    exact j.ok.gh p o (e3 p o (by rw [in1 p h]; exact ho))
  obtain ⟨qs, hq, nq, cq⟩ := j.ok.own
  obtain ⟨q1, q2, rfl, b1, b2⟩ := All.append.mp hq
  refine ⟨k.len, ⟨j.ok.zh, k.ok.gg, fun a o e => j.ok.gh a o (e3 a o (e1 a o e)), k.ok.fr, q1 ++ (p1 ++ p2), ?_, ?_, ?_⟩⟩
  · rw [List.append_assoc]
    exact All.append.mpr ⟨q1, p1 ++ p2, rfl, hs q1 b1 G, ha.mono (Evl.Ex.refl G) keep⟩
  · refine List.nodup_append.mpr ⟨(List.nodup_append.mp nq).1, nd, fun x hx y hy e => ?_⟩
    subst e
    obtain ⟨_, _, o, ho⟩ := hp x hy
    have z := (cq x (List.mem_append_left _ hx)).2.1
    rw [e3 x o (by rw [in1 x hy]; exact ho)] at z
    cases z
  · intro p h
    rcases List.mem_append.mp h with h | h
    · obtain ⟨z1, z2, z3⟩ := cq p (List.mem_append_left _ h)
      refine ⟨z1, ?_, z3⟩
      cases e : G p with
      | none => rfl
      | some o => rw [e3 p o (e1 p o e)] at z2; cases z2
    · obtain ⟨z1, z2, o, ho⟩ := hp p h
      exact ⟨z1, z2, o, by rw [keep p h]; exact ho⟩
section
variable {X : Cx} {T : XT} {W : WX} {Γx Γy Γ Δ : Ctx}
theorem EX.thaw {e : Expr} {te : TE} {α : Type} {m : Res α} {R : α → Sl} {Γo : α → Ctx} (d : Paired Lend Γ Δ) (h : EX X T W Γy Δ e te m R Γo) (hg : ∀ a, GFree (R a)) (hΓ : ∀ a, Γo a = Δ := by exact fun _ => rfl) : EX X T W Γx Γ e te m.calm R (fun _ => Γ) := by
  refine ⟨h.pe, fun Z G0 S σ G H Q k q => ?_⟩
  obtain ⟨G1, k1, back⟩ := k.lendAll d
  refine h.ev Z G1 [] σ G1 H Q k1 (Res.wp_mono (Res.wp_calm q) (fun a q v G' H' k' => ?_) fun _ z => False.elim z)
  rw [hΓ] at k'
  exact q v G H' (back k' fun ps ha G2 => by
    obtain ⟨p1, p2, e1, ⟨v2, e2, r⟩, r2⟩ := ha
    exact ⟨p1, p2, e1, ⟨v2, e2, hg a _ _ _ _ _ r⟩, r2⟩)
theorem ET.thaw {e : Expr} {tt : TT} {α : Type} {m : Res α} {b : α → Bool} {Γo : α → Ctx} (d : Paired Lend Γ Δ) (h : ET X T W Γy Δ e tt m b Γo) (hΓ : ∀ a, Γo a = Δ := by exact fun _ => rfl) : ET X T W Γx Γ e tt m.calm b (fun _ => Γ) := by
  refine ⟨h.pt, fun Z G0 S σ G H Q k q => ?_⟩
  obtain ⟨G1, k1, back⟩ := k.lendAll d
  refine h.ev Z G1 [] σ G1 H Q k1 (Res.wp_mono (Res.wp_calm q) (fun a q G' H' k' => ?_) fun _ z => False.elim z)
  rw [hΓ] at k'
  exact q G H' (back k' fun ps ha G2 => ha)
end
/-! ### tuples walked -/
def TupL {α β : Type} (d : Cods α) (c : Cod β) (f : α → List β) : Prop := ∀ G vs a, d.rel G vs a → Paired (c.rel G) vs (f a)
theorem tl_one {α : Type} {c : Cod α} : TupL (dOne c) c (fun a => [a]) := fun G vs a ⟨v, h1, h2⟩ => by
  rw [h1]
  exact .cons h2 .nil
theorem tl_cons {α β : Type} {c : Cod α} {d : Cods β} {f : β → List α} (h : TupL d c f) : TupL (dCons c d) c (fun a => a.1 :: f a.2) := fun G vs a ⟨v, r, h1, h2, h3⟩ => by
  rw [h1]
  exact .cons h2 (h G r _ h3)
section
variable {X : Cx} {T : XT} {W : WX} {Γx Γ : Ctx} {K : PySem.W.Frag}
theorem src_tup {α : Type} {c : Cod α} {a : Addr} {vs : List V} {xs : List α} {G1 : Hp} (hs : SqT K G1 a vs) (hp : Paired (c.rel G1) vs xs) : Src (Itt K a) xs (fz c) G1 :=
  ⟨fun H => SqT K H a vs, YAt vs, by rw [← hp.length]; exact walk_tup, fun H e => Evl.ex_t e hs, fun i x hx H v H' y Z G0 l G e k => by
    obtain ⟨rfl, hv⟩ := y
    exact ⟨G, k.push (c.mono (paired_get hp hv hx) e)⟩⟩
theorem ix_tup {e tg : Expr} {te : TE} {α β γ : Type} {d : Cods γ} {c : Cod β} {f : γ → List β} {m : Res α} {a : α → γ} {Γo : α → Ctx} (tl : TupL d c f) (he : EX X T W Γx Γ e te m (fun t => fz (cTup K d) (a t)) Γo) (hK : X.K = K := by rfl) : IX X T W Γx Γ tg e (iTup K te) m (fun t => f (a t)) (fz c) Γo := by
  subst hK
  refine ⟨pi_tup he.pe, fun Z G0 S σ G H Rk k q => he.ev Z G0 S σ G H _ k (Res.wp_mono q (fun t q v G' H' k' => ?_) fun _ z => z)⟩
  obtain ⟨p, vs, rfl, hs, hp⟩ := k'.tp
  exact ⟨p, rfl, ⟨vs, Evl.ex_t k'.ok.gh hs⟩, q _ G' H' k'.drop (src_tup hs (tl G' vs _ hp))⟩
/-! ### in -/
/-- flat things, told apart by their values -/
structure Flat {α : Type} (c : Cod α) (d : DecidableEq α) : Prop where
  fl : ∀ G v a, c.rel G v a → flatV v = true
  eq : ∀ G v w a b, c.rel G v a → c.rel G w b → eqV v w = decide (a = b)
theorem any_eq {α : Type} [d : DecidableEq α] {c : Cod α} (f : Flat c d) {G : Hp} {v : V} {a : α} (hv : c.rel G v a) : ∀ {vs : List V} {xs : List α}, Paired (c.rel G) vs xs → inV v vs = decide (a ∈ xs) ∧ vs.all flatV = true
  | _, _, .nil => ⟨by simp [inV], rfl⟩
  | w :: vs, b :: xs, .cons r t => by
    obtain ⟨h1, h2⟩ := any_eq f hv t
    have e := f.eq G w v b a r hv
    refine ⟨?_, by simp [f.fl G w b r, h2]⟩
    have h3 : inV v (w :: vs) = (eqV w v || inV v vs) := rfl
    rw [h3, e, h1]
    rw [Bool.eq_iff_iff]
    simp only [Bool.or_eq_true, decide_eq_true_eq, List.mem_cons]
    constructor
    · rintro (h | h)
      · exact .inl h.symm
      · exact .inr h
    · rintro (h | h)
      · exact .inl h.symm
      · exact .inr h
theorem o_in {α : Type} [d : DecidableEq α] {c : Cod α} (f : Flat c d) {a : α} {xs : List α} : OpOk (rIn K false) (fz c a) (fz (cList c) xs) (.ok ()) (fun _ => sB (decide (a ∈ xs))) :=
  ⟨fun Z G0 l G H v1 v2 Q k _ _ q => by
    obtain ⟨h1, p, vs, rfl, hs, hp⟩ := k.rels
    obtain ⟨e1, e2⟩ := any_eq f h1 hp
    exact ⟨p, vs, rfl, .inl (cl_sq k.gh hs), f.fl G v1 a h1, e2, q _ _ _ (k.drop.drop.push (congrArg V.bl e1))⟩, ok_ne⟩
theorem o_notin {α : Type} [d : DecidableEq α] {c : Cod α} (f : Flat c d) {a : α} {xs : List α} : OpOk (rIn K true) (fz c a) (fz (cList c) xs) (.ok ()) (fun _ => sB (!decide (a ∈ xs))) :=
  ⟨fun Z G0 l G H v1 v2 Q k _ _ q => by
    obtain ⟨h1, p, vs, rfl, hs, hp⟩ := k.rels
    obtain ⟨e1, e2⟩ := any_eq f h1 hp
    exact ⟨p, vs, rfl, .inl (cl_sq k.gh hs), f.fl G v1 a h1, e2, q _ _ _ (k.drop.drop.push (congrArg (fun b => V.bl (!b)) e1))⟩, ok_ne⟩
end
end Rt
namespace Rt
open PySem L2 R
theorem flat_int : Flat cInt inferInstance := ⟨fun G v a h => by rw [show v = .int a from h]; rfl, fun G v w a b h1 h2 => by
  rw [show v = .int a from h1, show w = .int b from h2]
  show (a == b) = _
  rw [Bool.eq_iff_iff]
  simp⟩
theorem flat_bool : Flat cBool inferInstance := ⟨fun G v a h => by rw [show v = .bl a from h]; rfl, fun G v w a b h1 h2 => by
  rw [show v = .bl a from h1, show w = .bl b from h2]
  show (a == b) = _
  rw [Bool.eq_iff_iff]
  simp⟩
theorem flat_tx : Flat cTx inferInstance := ⟨fun G v a h => by rw [show v = sv a from h.1]; rfl, fun G v w a b h1 h2 => by
  rw [show v = sv a from h1.1, show w = sv b from h2.1]
  show ((⟨a.toArray⟩ : Str) == ⟨b.toArray⟩) = _
  rw [Bool.eq_iff_iff]
  simp only [beq_iff_eq, decide_eq_true_eq]
  constructor
  · intro h
    injection h with h
    simpa using h
  · intro h
    rw [h]⟩
end Rt
namespace Rt
open PySem L2 R
section
variable {X : Cx} {T : XT} {W : WX} {Γx Γy Γ Δ : Ctx}
theorem EX.lent {e : Expr} {te : TE} {α ν : Type} {m : Res α} {mn : Res ν} {R : α → Sl} {Γo : α → Ctx} {f : α → ν} (R' : ν → Sl) (d : Paired Lend Γ Δ) (h : EX X T W Γy Δ e te m R Γo) (hg : ∀ a, GFree (R' a)) (hR : ∀ a, R a = R' (f a) := by exact fun _ => rfl) (hΓ : ∀ a, Γo a = Δ := by exact fun _ => rfl)
    (hb : Bd mn m (fun a => .ok (f a)) := by intros; repeat (first | ((with_reducible refine Bd.done ?_); exact rfl) | with_reducible refine Bd.okl ?_ | with_reducible refine Bd.assoc ?_ | with_reducible refine Bd.bind fun _ => ?_ | with_reducible refine Bd.eta fun _ => ?_ | with_reducible refine Bd.iteB ?_ ?_ fun _ => ?_ | with_reducible refine Bd.iteE ?_ ?_ fun _ => ?_ | with_reducible refine Bd.ite ?_ ?_ | with_reducible refine Bd.iteL ?_ ?_ | with_reducible refine Bd.assocL ?_ | with_reducible refine Bd.oklL ?_ | with_reducible exact Bd.same | with_reducible exact Bd.at | dsimp only)) : EX X T W Γx Γ e te mn.calm R' (fun _ => Γ) := by
  refine ⟨h.pe, fun Z G0 S σ G H Q k q => ?_⟩
  obtain ⟨G1, k1, back⟩ := k.lendAll d
  refine h.ev Z G1 [] σ G1 H Q k1 (Res.wp_mono (hb _ _ (Res.wp_calm q)) (fun a q v G' H' k' => ?_) fun _ z => False.elim z)
  rw [hΓ, hR] at k'
  exact q v G H' (back k' fun ps ha G2 => by
    obtain ⟨p1, p2, e1, ⟨v2, e2, r⟩, r2⟩ := ha
    exact ⟨p1, p2, e1, ⟨v2, e2, hg _ _ _ _ _ _ r⟩, r2⟩)
theorem ET.lent {e : Expr} {tt : TT} {α : Type} {m : Res α} {mn : Res Bool} {b : α → Bool} {Γo : α → Ctx} (d : Paired Lend Γ Δ) (h : ET X T W Γy Δ e tt m b Γo) (hΓ : ∀ a, Γo a = Δ := by exact fun _ => rfl)
    (hb : Bd mn m (fun a => .ok (b a)) := by intros; repeat (first | ((with_reducible refine Bd.done ?_); exact rfl) | with_reducible refine Bd.okl ?_ | with_reducible refine Bd.assoc ?_ | with_reducible refine Bd.bind fun _ => ?_ | with_reducible refine Bd.eta fun _ => ?_ | with_reducible refine Bd.iteB ?_ ?_ fun _ => ?_ | with_reducible refine Bd.iteE ?_ ?_ fun _ => ?_ | with_reducible refine Bd.ite ?_ ?_ | with_reducible refine Bd.iteL ?_ ?_ | with_reducible refine Bd.assocL ?_ | with_reducible refine Bd.oklL ?_ | with_reducible exact Bd.same | with_reducible exact Bd.at | dsimp only)) : ET X T W Γx Γ e tt mn.calm (fun b => b) (fun _ => Γ) := by
  refine ⟨h.pt, fun Z G0 S σ G H Q k q => ?_⟩
  obtain ⟨G1, k1, back⟩ := k.lendAll d
  refine h.ev Z G1 [] σ G1 H Q k1 (Res.wp_mono (hb _ _ (Res.wp_calm q)) (fun a q G' H' k' => ?_) fun _ z => False.elim z)
  rw [hΓ] at k'
  exact q G H' (back k' fun ps ha G2 => ha)
end
end Rt
/-! Rt31: the item of a tuple at a place that varies. -/
namespace Rt
open PySem L2 R
section
variable {X : Cx} {T : XT} {W : WX} {Γx Γ : Ctx} {K : PySem.W.Frag}
theorem o_ixV {α β : Type} {d : Cods α} {c : Cod β} {f : α → List β} {a : α} {i : Int} (h : TupL d c f) : OpOk (rIxT K) (fz (cTup K d) a) (sI i) (R.idx (f a) i) (fun x => fz c x) :=
  ⟨fun Z G0 l G H v1 v2 Q kk x e q => by
    obtain ⟨⟨p, vs, e1, hs, hp⟩, h2⟩ := kk.rels
    obtain ⟨v, hv, hr⟩ := atI_rel (h G vs a hp) (idx_ok e)
    exact ⟨p, vs, i, v, e1, h2, Evl.ex_t kk.gh hs, hv, q v G H (kk.drop.drop.push hr)⟩, idx_ne⟩
end
end Rt
/-! Rt32: bit_length, startswith. -/
namespace Rt
open PySem L2 R
section
variable {X : Cx} {T : XT} {W : WX} {Γx Γ : Ctx} {K : PySem.W.Frag}
theorem ex_bits {o : Expr} {to : TE} {apos pos : Pos} {α : Type} {m : Res α} {f : α → Int} {Γo : α → Ctx} (ho : EX X T W Γx Γ o to m (fun a => sI (f a)) Γo)
    (hbase : attributeBase o "bit_length" X.env (eval o X.env) = eval o X.env := by rfl) (hline : (apos.endLine == pos.line) = true := by rfl) :
    EX X T W Γx Γ (.Call (.Attribute o "bit_length" apos) [] [] pos) (tBits to) m (fun a => sI ((R.nbits (f a) : Nat) : Int)) Γo :=
  ⟨pe_bits ho.pe hbase hline, fun Z G0 S σ G H Q k q => ho.ev Z G0 S σ G H _ k (Res.wp_mono q (fun a q v G' H' k' => ⟨f a, k'.tp, by
    rw [nbits_le]
    exact q _ G' H' (k'.drop.pushf (c := cInt) rfl)⟩) fun _ z => z)⟩
theorem starts_sv (a b : Tx) : Txt.startswith ⟨a.toArray⟩ ⟨b.toArray⟩ = R.starts a b := by
  unfold Txt.startswith R.starts
  rw [PySem.StrLaws.subAt_eq]
  have e1 : (⟨b.toArray⟩ : Str).length = b.length := sv_len b
  have e2 : (⟨a.toArray⟩ : Str).length = a.length := sv_len a
  rw [e1, e2]
  show (decide (0 + b.length ≤ a.length) && ((a.drop 0).take b.length == b)) = _
  rw [List.drop_zero, Nat.zero_add, Bool.eq_iff_iff, Bool.and_eq_true, decide_eq_true_eq, beq_iff_eq, List.isPrefixOf_iff_prefix, List.prefix_iff_eq_take]
  constructor
  · rintro ⟨_, h⟩
    exact h.symm
  · intro h
    refine ⟨?_, h.symm⟩
    have := congrArg List.length h
    rw [List.length_take] at this
    omega
theorem pe_starts {o e : Expr} {to te : TE} {apos pos : Pos} (ho : PE X o to) (he : PE X e te) (hs : starEach [e] X.env = [(false, eval e X.env)] := by rfl) (hbase : attributeBase o "startswith" X.env (eval o X.env) = eval o X.env := by rfl) (hline : (apos.endLine == pos.line) = true := by rfl) :
    PE X (.Call (.Attribute o "startswith" apos) [e] [] pos) (tM1 (fun x xs H Q => ∃ a b, x = .str a ∧ xs = [.str b] ∧ Q (.bl (Txt.startswith a b)) H) to te) :=
  pe_m1 F.slot_str_startswith F.type_str_startswith mt_startswith ho he hs hbase hline
theorem ex_starts {o e : Expr} {to te : TE} {apos pos : Pos} {α β : Type} [Nonempty α] {m1 : Res α} {s : α → Tx} {Γ1 : α → Ctx} {m2 : α → Res β} {p : α → β → Tx} {Γ2 : α → β → Ctx} (ho : EX X T W Γx Γ o to m1 (fun a => sT (s a)) Γ1) (he : ∀ a, EX X T W Γx (Γ1 a) e te (m2 a) (fun b => sT (p a b)) (Γ2 a))
    (hs : starEach [e] X.env = [(false, eval e X.env)] := by rfl) (hbase : attributeBase o "startswith" X.env (eval o X.env) = eval o X.env := by rfl) (hline : (apos.endLine == pos.line) = true := by rfl) :
    EX X T W Γx Γ (.Call (.Attribute o "startswith" apos) [e] [] pos) (tM1 (fun x xs H Q => ∃ a b, x = .str a ∧ xs = [.str b] ∧ Q (.bl (Txt.startswith a b)) H) to te) (m1.bind fun a => (m2 a).bind fun b => .ok (a, b)) (fun t => sB (R.starts (s t.1) (p t.1 t.2))) (fun t => Γ2 t.1 t.2) := by
  obtain ⟨a0⟩ := ‹Nonempty α›
  refine ⟨pe_starts ho.pe (he a0).pe hs hbase hline, fun Z G0 S σ G H Q k q => ?_⟩
  refine ho.ev Z G0 S σ G H _ k (Res.wp_mono (Res.wp_bind q) (fun a q v G' H' k' => ?_) fun ex q => q)
  have hv := k'.tp
  obtain ⟨rfl, hl⟩ := hv
  refine ⟨⟨_, rfl⟩, ?_⟩
  refine (he a).ev Z G0 _ σ G' H' _ k' (Res.wp_mono (Res.wp_bind q) (fun b q w G2 H2 k2 => ?_) fun ex q cls d G' H' k' => q cls d G' H' k'.drop)
  have hw := k2.tp
  obtain ⟨rfl, hl2⟩ := hw
  refine ⟨_, _, rfl, rfl, ?_⟩
  rw [starts_sv]
  exact q _ G2 H2 (k2.drop.drop.pushf (c := cBool) rfl)
theorem fold_cps (a : Tx) : ∀ (n : Nat) (z : Tx), (List.replicate n (⟨a.toArray⟩ : Str).cps).foldl (· ++ ·) z.toArray = (z ++ (List.replicate n a).flatten).toArray
  | 0, z => by simp
  | n + 1, z => by
    rw [List.replicate_succ, List.foldl_cons, List.replicate_succ, List.flatten_cons, ← List.append_assoc, ← fold_cps a n (z ++ a)]
    congr 1
    show z.toArray ++ a.toArray = _
    simp
def rRepS : R2 := fun x y H Q => ∃ (a : Str) (n : Int), x = .str a ∧ y = .int n ∧ 2 ≤ n ∧ n < 2 ^ 31 ∧ 1 ≤ a.length ∧ a.length * n.toNat ≤ 16777216 ∧ Q (.str ⟨(List.replicate n.toNat a.cps).foldl (· ++ ·) #[]⟩) H
theorem op_repS : OpR X (binaryOp .Mult) rRepS := by
  intro pins s σ H x y v u Q I rx ry h
  obtain ⟨a, n, rfl, rfl, h1, h2, h3, h4, q⟩ := h
  obtain ⟨t, rfl⟩ := rx
  obtain ⟨t', rfl⟩ := ry
  have tl : Builtin.Str.tooLong (a.length * n.toNat) = false := by
    unfold Builtin.Str.tooLong
    exact decide_eq_false (Nat.not_lt.mpr h4)
  refine PySem.P.mul_str ?_ (fun _ _ => ?_) (fun _ _ => tl) ?_
  · rw [decide_eq_false (by omega), decide_eq_false (by omega)]
    rfl
  · have e1 : (a.length : Int) * n ≤ 16777216 := by
      have : (((a.length * n.toNat : Nat)) : Int) ≤ ((16777216 : Nat) : Int) := Int.ofNat_le.mpr h4
      rw [Int.natCast_mul, Int.toNat_of_nonneg (by omega)] at this
      exact this
    have e2 : (a.length : Int) ≤ (2 ^ 63 - 1) / n := (Int.le_ediv_iff_mul_le (by omega)).mpr (by omega)
    omega
  · have n1 : ¬ ((n == 1 || a.length == 0) = true) := by
      rw [Bool.or_eq_true, beq_iff_eq, beq_iff_eq]
      omega
    rw [if_neg (by omega), if_neg n1]
    exact ⟨by
      obtain ⟨ac⟩ := a
      have fc := fold_cps ac.toList n.toNat []
      rw [List.nil_append] at fc
      show ((List.replicate n.toNat ac).foldl (· ++ ·) #[]).size ≤ 16777216
      have z : (List.replicate n.toNat ac).foldl (· ++ ·) #[] = ((List.replicate n.toNat ac.toList).flatten).toArray := by
        rw [← fc]
      rw [z, List.size_toArray, List.length_flatten, List.map_replicate, List.sum_replicate_nat, Nat.mul_comm]
      exact h4, ⟨.str _, H, I.tok _, ⟨_, rfl⟩, q⟩⟩
theorem o_repS {t : Tx} {n : Int} : OpOk (rRepS) (sT t) (sI n) (R.chk (decide (2 ≤ n) && (decide (n < 2147483648) && decide (1 ≤ t.length))) (R.rep t n)) (fun z => sT z) :=
  ⟨fun Z G0 l G H v1 v2 Q k zs e q => by
    obtain ⟨h1, h2⟩ := chk_ok e
    obtain ⟨h3, h4⟩ := chk_ok h2
    cases h4
    simp only [Bool.and_eq_true, decide_eq_true_eq] at h1 h3
    obtain ⟨⟨e1, hl⟩, e2⟩ := k.rels
    subst e1
    have el : (⟨t.toArray⟩ : Str).length = t.length := sv_len t
    refine ⟨_, n, rfl, e2, h1.1, by omega, by rw [el]; exact h1.2.2, by rw [el]; exact h3.2.2, ?_⟩
    have fc := fold_cps t n.toNat []
    rw [List.nil_append] at fc
    rw [show (#[] : Array Nat) = ([] : Tx).toArray from rfl, fc]
    refine q _ G H (k.drop.drop.push (c := cTx) ⟨rfl, ?_⟩)
    rw [List.length_flatten, List.map_replicate, List.sum_replicate_nat, Nat.mul_comm]
    exact h3.2.2, chk_ne (chk_ne ok_ne)⟩
theorem sx_dead {α : Type} {I : α → Out} : SX X T W Γx Γ [] tNext (.stuck : Res α) I := ⟨pss_nil, fun Z G0 S σ G H D k q => q.elim⟩
end
end Rt
/-! Rt33: int of a digit's text; the order of texts. -/
namespace Rt
open PySem L2 R
section
variable {X : Cx} {T : XT} {W : WX} {Γx Γ : Ctx} {K : PySem.W.Frag}
theorem dig_text : ∀ c : Nat, 48 ≤ c → c ≤ 57 → PySem.intText? (⟨#[c]⟩ : Str) = some ((c : Int) - 48) := by
  intro c h1 h2
  have : c = 48 ∨ c = 49 ∨ c = 50 ∨ c = 51 ∨ c = 52 ∨ c = 53 ∨ c = 54 ∨ c = 55 ∨ c = 56 ∨ c = 57 := by omega
  rcases this with rfl | rfl | rfl | rfl | rfl | rfl | rfl | rfl | rfl | rfl <;> decide +kernel
theorem intT_ne {t : Tx} : ∀ e, R.intT t ≠ .exn e := by
  intro e h
  unfold R.intT at h
  split at h
  · exact chk_ne ok_ne e h
  · cases h
theorem b_intS {t : Tx} : CallOk (fun xs H Q => ∃ a n, xs = [.str a] ∧ PySem.intText? a = some n ∧ a.length ≤ 640 ∧ Q (.int n) H) [sT t] (R.intT t) (fun i => sI i) := co1 (c := cTx) (d := cInt) (f := fun i => i) intT_ne fun G H v Q e h z hz q => by
  have h1 : v = V.str ⟨t.toArray⟩ := h.1
  clear h
  subst h1
  unfold R.intT at hz
  split at hz
  · rename_i c
    obtain ⟨h1, h2⟩ := chk_ok hz
    cases h2
    simp only [Bool.and_eq_true, decide_eq_true_eq] at h1
    exact ⟨_, _, rfl, dig_text c h1.1 h1.2, by show 1 ≤ 640; decide, q _ rfl⟩
  · cases hz
theorem o_ltS {a b : Tx} : OpOk (fun x y H Q => ∃ i j, x = .str i ∧ y = .str j ∧ Q (.bl (decide (i.cps.toList < j.cps.toList))) H) (sT a) (sT b) (.ok ()) (fun _ => sB (decide (a < b))) :=
  ⟨fun Z G0 l G H v1 v2 Q k t e q => by
    obtain ⟨⟨rfl, h1⟩, rfl, h2⟩ := k.rels
    exact ⟨_, _, rfl, rfl, q _ _ _ (k.drop.drop.push (c := cBool) (by show V.bl _ = V.bl _; simp))⟩, ok_ne⟩
end
end Rt
/-! Rt34: list.count of data. -/
namespace Rt
open PySem L2 R
mutual
theorem reads_one {h : Heap} : ∀ (d : PyData) {v : Value} {d' : PyData} {as bs : List Addr}, d.plain = true → Reads h v d as → Reads h v d' bs → d = d'
  | .none, _, _, _, _, _, ra, rb => by cases ra; cases rb; rfl
  | .bool b, _, _, _, _, _, ra, rb => by cases ra; cases rb; rfl
  | .int i, _, _, _, _, _, ra, rb => by cases ra; cases rb; rfl
  | .str i, _, _, _, _, _, ra, rb => by cases ra; cases rb; rfl
  | .list xs, _, _, _, _, hp, ra, rb => by
    cases ra with
    | list h1 h2 h3 h4 =>
      cases rb with
      | list k1 k2 k3 k4 =>
        rw [h1] at k1
        cases k1
        rw [h3] at k3
        cases k3
        rw [readsAll_one xs hp h4 k4]
      | tuple k1 k2 k3 k4 =>
        rw [h1] at k1
        cases k1
        rw [h2] at k2
        exact absurd k2 (by decide)
      | dict k1 k2 k3 k4 k5 =>
        rw [h1] at k1
        cases k1
        rw [h2] at k2
        exact absurd k2 (by decide)
  | .tuple xs, _, _, _, _, hp, ra, rb => by
    cases ra with
    | tuple h1 h2 h3 h4 =>
      cases rb with
      | list k1 k2 k3 k4 =>
        rw [h1] at k1
        cases k1
        rw [h2] at k2
        exact absurd k2 (by decide)
      | tuple k1 k2 k3 k4 =>
        rw [h1] at k1
        cases k1
        rw [h3] at k3
        cases k3
        rw [readsAll_one xs hp h4 k4]
      | dict k1 k2 k3 k4 k5 =>
        rw [h1] at k1
        cases k1
        rw [h2] at k2
        exact absurd k2 (by decide)
  | .dict _, _, _, _, _, hp, _, _ => nomatch hp
theorem readsAll_one {h : Heap} : ∀ (ds : List PyData) {vs : List Value} {ds' : List PyData} {as bs : List Addr}, PyData.plainAll ds = true → ReadsAll h vs ds as → ReadsAll h vs ds' bs → ds = ds'
  | [], _, _, _, _, _, ra, rb => by cases ra; cases rb; rfl
  | d :: ds, _, _, _, _, hp, ra, rb => by
    have hp' : (d.plain && PyData.plainAll ds) = true := hp
    rw [Bool.and_eq_true] at hp'
    cases ra with
    | cons h1 h2 =>
      cases rb with
      | cons k1 k2 => rw [reads_one d hp'.1 h1 k1, readsAll_one ds hp'.2 h2 k2]
end
/-- whether a value reads as what equals it -/
noncomputable def rdEq (h : Heap) (d : PyData) (u : Value) : Bool := @decide (∃ e as, Reads h u e as ∧ e.plain = true ∧ PyData.eqv e d = true) (Classical.propDecidable _)
theorem rdEq_of {h : Heap} {d e : PyData} {u : Value} {as : List Addr} (r : Reads h u e as) (p : e.plain = true) : rdEq h d u = PyData.eqv e d := by
  unfold rdEq
  cases q : PyData.eqv e d with
  | true => exact @decide_eq_true _ (Classical.propDecidable _) ⟨e, as, r, p, q⟩
  | false =>
    refine @decide_eq_false _ (Classical.propDecidable _) fun ⟨e', bs, r', p', q'⟩ => ?_
    rw [reads_one e p r r'] at q
    rw [q] at q'
    cases q'
theorem readsAll_mem {hh : Heap} : ∀ {us : List Value} {ds : List PyData} {as : List Addr}, PyData.plainAll ds = true → ReadsAll hh us ds as → (∀ u ∈ us, ∃ e bs, Reads hh u e bs ∧ e.plain = true) ∧ ∀ d, us.countP (rdEq hh d) = ds.countP (fun e => PyData.eqv e d)
  | [], ds, _, hp, h => by
    cases h
    exact ⟨(fun u hu => absurd hu (List.not_mem_nil)), fun d => rfl⟩
  | v :: us, [], _, _, h => by cases h
  | v :: us, e :: ds, _, hp, h => by
    have hp' : (e.plain && PyData.plainAll ds) = true := hp
    rw [Bool.and_eq_true] at hp'
    obtain ⟨as, bs, r, rs⟩ : ∃ as bs, Reads hh v e as ∧ ReadsAll hh us ds bs := by
      cases h with
      | cons r rs => exact ⟨_, _, r, rs⟩
    obtain ⟨h1, h2⟩ := readsAll_mem hp'.2 rs
    refine ⟨fun u hu => ?_, fun d => ?_⟩
    · rcases List.mem_cons.mp hu with rfl | hu
      · exact ⟨_, _, r, hp'.1⟩
      · exact h1 u hu
    · rw [List.countP_cons, List.countP_cons, h2, rdEq_of r hp'.1]
def rCntP (K : PySem.W.Frag) : V → List V → Hp → VK → Prop := fun x xs H Q => ∃ (p : Addr) (vs : List V) (ds : List PyData) (k : V) (d : PyData), x = .ref p ∧ xs = [k] ∧ SqL K H p vs ∧ DpAll K H vs ds ∧ Dp K H k d ∧ PyData.plainAll ds = true ∧ d.plain = true ∧ d.depth ≤ 63 ∧ Q (.int (ds.countP fun e => PyData.eqv e d : Nat)) H
section
variable {X : Cx} {T : XT} {W : WX} {Γx Γ : Ctx} {K : PySem.W.Frag}
theorem mt_countP (hu : X.A.units + 64 < cLine) : MtR X "list.count" (rCntP X.K) := by
  intro pins s σ H x xs v us Q I rx rxs h
  obtain ⟨p, vs, ds, k, d, rfl, rfl, hs, hd, hk, pd, pk, dk, q⟩ := h
  cases rx
  obtain ⟨u, rfl, ru⟩ := rxs.one
  obtain ⟨its, rv, ⟨⟨cls, dd, data, sl⟩, n, ho, hc, hdn, hdd⟩, hlen⟩ := I.list hs
  simp only at hc hdd
  subst hc hdd
  obtain ⟨as, ra⟩ := Dp.readsAll I ds vs its hd rv
  obtain ⟨bs, rk⟩ := Dp.reads I d k u hk ru
  obtain ⟨m1, m2⟩ := readsAll_mem pd ra
  refine call_meets PySem.F.slot_list_count ⟨_, ho, rfl⟩ PySem.F.entry_list_count (PySem.F.args_list_count_2 _ _)
    (SeqAt.list_countAt p its.toArray n dd sl u (rdEq s.heap d)) ⟨ho, fun y hy => ?_, ?_⟩
  · obtain ⟨e, cs, re, pe⟩ := m1 y (by simpa using hy)
    rw [rdEq_of re pe]
    exact SeqAt.eqAt_plain e d X.A.in1 s y u cs bs re rk pe pk (by
      have : min e.depth d.depth ≤ d.depth := Nat.min_le_right _ _
      have z : X.A.in1.units = X.A.units + 1 := rfl
      omega)
  · refine ⟨.int (ds.countP fun e => PyData.eqv e d : Nat), H, I.tok _, ⟨s.toks, ?_⟩, q⟩
    show Value.int ((its.toArray.toList.countP (rdEq s.heap d) : Nat) : Int) s.toks = _
    have : its.toArray.toList = its := rfl
    rw [this, m2]
theorem dpAll_of {α : Type} {c : Cod α} {d : α → PyData} (h : EqD K c d) {G H : Hp} (e : Ex G H) : ∀ {vs : List V} {xs : List α}, Paired (c.rel G) vs xs → DpAll K H vs (xs.map d)
  | _, _, .nil => .nil
  | _, _, .cons r rs => .cons (h.rel G H _ _ r e) (dpAll_of h e rs)
theorem plainAll_of {α : Type} [DecidableEq α] {d : α → PyData} {n : Nat} (p : DatP d n) : ∀ xs : List α, PyData.plainAll (xs.map d) = true
  | [] => rfl
  | x :: xs => by
    show ((d x).plain && PyData.plainAll (xs.map d)) = true
    rw [p.plain, plainAll_of p xs]
    rfl
theorem ex_count {o e : Expr} {to te : TE} {apos pos : Pos} {α β γ : Type} [Nonempty α] [DecidableEq γ] {c c' : Cod γ} {d : γ → PyData} {n : Nat} {m1 : Res α} {xs : α → List γ} {Γ1 : α → Ctx} {m2 : α → Res β} {k : α → β → γ} {Γ2 : α → β → Ctx} (hu : X.A.units + 64 < cLine) (h : EqD K c d) (h' : EqD K c' d) (p : DatP d n)
    (ho : EX X T W Γx Γ o to m1 (fun a => fz (cList c) (xs a)) Γ1) (he : ∀ a, EX X T W Γx (Γ1 a) e te (m2 a) (fun b => fz c' (k a b)) (Γ2 a)) (hn : Nat.ble n 63 = true := by rfl) (hK : X.K = K := by rfl)
    (hpe : ∀ {to : TE} {ta : TA}, PE X o to → PA X [e] ta → PE X (.Call (.Attribute o "count" apos) [e] [] pos) (tBM X.K "list" (rCntP X.K) to ta) := by exact fun h1 h2 => pe_bm PySem.F.plainAttrs_list PySem.F.slot_list_count PySem.F.type_list_count (mt_countP hr.units) h1 h2)
    (hst : starEach (e :: []) X.env = (false, eval e X.env) :: starEach [] X.env := by rfl) :
    EX X T W Γx Γ (.Call (.Attribute o "count" apos) [e] [] pos) (tBM K "list" (rCntP K) to (tCons te tNil)) (m1.bind fun a => (m2 a).bind fun b => .ok (a, b)) (fun t => sI (R.cnt (xs t.1) (k t.1 t.2))) (fun t => Γ2 t.1 t.2) := by
  subst hK
  obtain ⟨a0⟩ := ‹Nonempty α›
  refine ⟨hpe ho.pe (pa_cons (he a0).pe pa_nil hst), fun Z G0 S σ G H Q kk q => ?_⟩
  refine ho.ev Z G0 S σ G H _ kk (Res.wp_mono (Res.wp_bind q) (fun a q v G' H' k' => ?_) fun ex q => q)
  obtain ⟨p1, vs, rfl, hs1, hp1⟩ := k'.tp
  refine ⟨.inl ⟨rfl, _, SqL.of (k'.ok.gh p1 _ hs1)⟩, ?_⟩
  refine (he a).ev Z G0 _ σ G' H' _ k' (Res.wp_mono (Res.wp_bind q) (fun b q w G2 H2 k2 => ?_) fun ex q cls d G' H' k' => q cls d G' H' k'.drop)
  have r2 := k2.tp
  obtain ⟨p2, vs2, e2, hs2, hp2⟩ := k2.drop.tp
  cases e2
  refine ⟨p1, vs2, (xs a).map d, w, d (k a b), rfl, rfl, SqL.of (k2.ok.gh p1 _ hs2), dpAll_of h k2.ok.gh hp2, h'.rel _ _ _ _ r2 k2.ok.gh, plainAll_of p _, p.plain _, Nat.le_trans (p.depth _) (Nat.le_of_ble_eq_true hn), ?_⟩
  have ec : ((xs a).map d).countP (fun e => PyData.eqv e (d (k a b))) = (xs a).countP fun x => decide (x = k a b) := by
    rw [List.countP_map]
    congr 1
    funext x
    exact p.eqv x _
  rw [ec]
  exact q _ G2 H2 (k2.drop.drop.pushf (c := cInt) rfl)
end
end Rt
/-! Rt35: ljust with a sign. -/
namespace Rt
open PySem L2 R
section
variable {X : Cx} {T : XT} {W : WX} {Γx Γ : Ctx} {K : PySem.W.Frag}
def rLjF : V → List V → Hp → VK → Prop := fun x xs H Q => ∃ (a f : Str) (i : Int), x = .str a ∧ xs = [.int i, .str f] ∧ PadOk i = true ∧ f.length = 1 ∧ Q (.str (Txt.ljustF a i (f.cps.getD 0 0))) H
theorem mt_ljustF : MtR X "str.ljust" rLjF := by
  intro pins s σ H x xs v us Q I rx rxs h
  obtain ⟨a, f, i, rfl, rfl, h1, h2, q⟩ := h
  obtain ⟨t, rfl⟩ := _root_.id rx
  cases rxs with
  | cons r1 rr =>
    cases rr with
    | cons r2 r3 =>
      cases r3
      obtain ⟨u, rfl⟩ := _root_.id r1
      obtain ⟨w, rfl⟩ := _root_.id r2
      exact PyProof.Rows.ljust_fill h1 h2 fun t' k => ⟨.str _, H, I.tok _, ⟨_, rfl⟩, q⟩
theorem ljF_sv (s : Tx) (n : Int) (c : Nat) : Txt.ljustF ⟨s.toArray⟩ n c = ⟨(s ++ List.replicate (n.toNat - s.length) c).toArray⟩ := by
  have h := PyProof.Rows.ljustF_list ⟨s.toArray⟩ n c
  have e : (⟨s.toArray⟩ : Str).length = s.length := sv_len s
  rw [e] at h
  refine PySem.Str.ext' ?_
  refine Array.ext' ?_
  rw [h]
theorem ex_ljust {o e1 e2 : Expr} {to t1 t2 : TE} {apos pos : Pos} {α β γ : Type} [Nonempty α] [Nonempty β] {m1 : Res α} {s : α → Tx} {Γ1 : α → Ctx} {m2 : α → Res β} {n : α → β → Int} {Γ2 : α → β → Ctx} {m3 : α → β → Res γ} {c : Nat} {Γ3 : α → β → γ → Ctx}
    (ho : EX X T W Γx Γ o to m1 (fun a => sT (s a)) Γ1) (h1 : ∀ a, EX X T W Γx (Γ1 a) e1 t1 (m2 a) (fun b => sI (n a b)) (Γ2 a)) (h2 : ∀ a b, EX X T W Γx (Γ2 a b) e2 t2 (m3 a b) (fun _ => sT [c]) (Γ3 a b))
    (hpe : ∀ {to : TE} {ta : TA}, PE X o to → PA X (e1 :: [e2]) ta → PE X (.Call (.Attribute o "ljust" apos) [e1, e2] [] pos) (tBM X.K "str" rLjF to ta) := by exact fun h1 h2 => pe_bm PySem.F.plainAttrs_str PySem.F.slot_str_ljust PySem.F.type_str_ljust mt_ljustF h1 h2)
    (hs1 : starEach (e1 :: [e2]) X.env = (false, eval e1 X.env) :: starEach [e2] X.env := by rfl) (hs2 : starEach (e2 :: []) X.env = (false, eval e2 X.env) :: starEach [] X.env := by rfl) :
    EX X T W Γx Γ (.Call (.Attribute o "ljust" apos) [e1, e2] [] pos) (tBM X.K "str" rLjF to (tCons t1 (tCons t2 tNil))) (m1.bind fun a => (m2 a).bind fun b => (m3 a b).bind fun d => (R.ljust (s a) (n a b) c).bind fun z => .ok (a, b, d, z)) (fun t => sT t.2.2.2) (fun t => Γ3 t.1 t.2.1 t.2.2.1) := by
  obtain ⟨a0⟩ := ‹Nonempty α›
  obtain ⟨b0⟩ := ‹Nonempty β›
  refine ⟨hpe ho.pe (pa_cons (h1 a0).pe (pa_cons (h2 a0 b0).pe pa_nil hs2) hs1), fun Z G0 S σ G H Q kk q => ?_⟩
  refine ho.ev Z G0 S σ G H _ kk (Res.wp_mono (Res.wp_bind q) (fun a q v G' H' k' => ?_) fun ex q => q)
  have hv := k'.tp
  obtain ⟨rfl, hl⟩ := hv
  refine ⟨rfl, ?_⟩
  refine (h1 a).ev Z G0 _ σ G' H' _ k' (Res.wp_mono (Res.wp_bind q) (fun b q v1 G2 H2 k2 => ?_) fun ex q cls d G' H' k' => q cls d G' H' k'.drop)
  refine (h2 a b).ev Z G0 _ σ G2 H2 _ k2 (Res.wp_mono (Res.wp_bind q) (fun d q v2 G3 H3 k3 => ?_) fun ex q cls d G' H' k' => q cls d G' H' k'.drop.drop)
  have r1 : v1 = .int (n a b) := k2.tp
  subst r1
  have r2 := k3.tp
  obtain ⟨rfl, _⟩ := r2
  obtain ⟨z, e, q3⟩ := wp_cases (Res.wp_bind q) (chk_ne ok_ne)
  obtain ⟨e3, e4⟩ := chk_ok e
  cases e4
  simp only [Bool.and_eq_true, decide_eq_true_eq] at e3
  refine ⟨_, _, n a b, rfl, rfl, PyProof.Rows.padOk_of (by omega) (by omega), rfl, ?_⟩
  rw [ljF_sv]
  refine q3 _ G3 H3 (k3.drop.drop.drop.pushf (c := cTx) ⟨rfl, ?_⟩)
  rw [List.length_append, List.length_replicate]
  have := e3.2.2
  rw [line_eq] at this ⊢
  show _ ≤ 16777216
  have z2 : (s a).length ≤ 16777216 := this
  omega
/-- list(t) of a tuple: a new one -/
theorem b_listT {α β : Type} {d : Cods α} {c : Cod β} {f : α → List β} {a : α} (tl : TupL d c f) : CallOk (fun vs H Q => ∃ p ys, vs = [.ref p] ∧ (SqL K H p ys ∨ SqT K H p ys) ∧ ∀ l, H l = none → Q (.ref l) (upd H l (.lst ys))) [fz (cTup K d) a] (.ok ()) (fun _ => ol c (f a)) :=
  ⟨fun Z G0 l G H vs Q hl k z e q => by
    match vs, hl with
    | [v], _ =>
      have k' : Okl Z G0 ((some (fz (cTup K d) a), some v) :: l) G H := k
      obtain ⟨p, ws, rfl, hs, hp⟩ := k'.rel1
      exact ⟨p, ws, rfl, .inr (Evl.ex_t k'.gh hs), fun b hb => q _ _ _ (k'.drop.layOwn (s := ol c (f a)) hb ⟨b, ws, rfl, rfl, upd_same, tl _ _ _ hp⟩)⟩, ok_ne⟩
end
end Rt
/-! Rt36: values of one of two kinds. -/
namespace Rt
open PySem L2 R
def cSum {α β : Type} (c : Cod α) (d : Cod β) : Cod (α ⊕ β) := ⟨fun G v s => match s with | .inl a => c.rel G v a | .inr b => d.rel G v b, fun {G G' v s} h e => by
  cases s with
  | inl a => exact c.mono h e
  | inr b => exact d.mono h e⟩
section
variable {X : Cx} {T : XT} {W : WX} {Γx Γ : Ctx} {K : PySem.W.Frag}
theorem EX.inl {e : Expr} {te : TE} {α β γ : Type} {m : Res α} {c : Cod β} {d : Cod γ} {f : α → β} {Γo : α → Ctx} (h : EX X T W Γx Γ e te m (fun a => fz c (f a)) Γo) : EX X T W Γx Γ e te m (fun a => fz (cSum c d) (.inl (f a))) Γo := h.conv fun _ _ _ _ _ r => r
theorem EX.inr {e : Expr} {te : TE} {α β γ : Type} {m : Res α} {c : Cod γ} {d : Cod β} {f : α → β} {Γo : α → Ctx} (h : EX X T W Γx Γ e te m (fun a => fz d (f a)) Γo) : EX X T W Γx Γ e te m (fun a => fz (cSum c d) (.inr (f a))) Γo := h.conv fun _ _ _ _ _ r => r
abbrev dSum {α β : Type} (d : α → PyData) (e : β → PyData) : α ⊕ β → PyData := fun s => match s with | .inl a => d a | .inr b => e b
theorem eqd_sum {α β : Type} {c : Cod α} {c' : Cod β} {d : α → PyData} {e : β → PyData} (h : EqD K c d) (h' : EqD K c' e) : EqD K (cSum c c') (dSum d e) := ⟨fun G H v a k x => by
  cases a with
  | inl a => exact h.rel G H v a k x
  | inr b => exact h'.rel G H v b k x⟩
theorem datp_sum {α β : Type} [DecidableEq α] [DecidableEq β] {d : α → PyData} {e : β → PyData} {n m : Nat} (h : DatP d n) (k : DatP e m) (hn : ∀ a b, PyData.eqv (d a) (e b) = false ∧ PyData.eqv (e b) (d a) = false) : DatP (dSum d e) (max n m) :=
  ⟨fun s => by cases s with | inl a => exact h.plain a | inr b => exact k.plain b,
   fun s => by cases s with | inl a => exact Nat.le_trans (h.depth a) (Nat.le_max_left _ _) | inr b => exact Nat.le_trans (k.depth b) (Nat.le_max_right _ _),
   fun s t => by
    cases s with
    | inl a =>
      cases t with
      | inl b =>
        show PyData.eqv (d a) (d b) = _
        rw [h.eqv]
        simp
      | inr b =>
        show PyData.eqv (d a) (e b) = _
        rw [(hn a b).1]
        simp
    | inr a =>
      cases t with
      | inl b =>
        show PyData.eqv (e a) (d b) = _
        rw [(hn b a).2]
        simp
      | inr b =>
        show PyData.eqv (e a) (e b) = _
        rw [k.eqv]
        simp⟩
theorem isOf_sum {α β : Type} {c : Cod α} {d : Cod β} {n : String} {b : α → Bool} {b' : β → Bool} (h : IsOf K c n b) (h' : IsOf K d n b') : IsOf K (cSum c d) n (fun s => Sum.elim b b' s) := fun G H v s e r => by
  cases s with
  | inl a => exact h G H v a e r
  | inr a => exact h' G H v a e r
end
end Rt
/-! Rt37: a text any number of times. -/
namespace Rt
open PySem L2 R
section
variable {X : Cx}
def rRepN : R2 := fun x y H Q => ∃ (a : Str) (n : Int), x = .str a ∧ y = .int n ∧ -(2 ^ 63) ≤ n ∧ n < 2 ^ 63 ∧ a.length * n.toNat ≤ 16777216 ∧ Q (.str ⟨(List.replicate n.toNat a.cps).foldl (· ++ ·) #[]⟩) H
theorem cps_foldl (ac : Array Nat) (n : Nat) : ((List.replicate n ac).foldl (· ++ ·) #[]) = ((List.replicate n ac.toList).flatten).toArray := by
  have fc := fold_cps ac.toList n []
  rw [List.nil_append] at fc
  rw [← fc]
theorem op_repN : OpR X (binaryOp .Mult) rRepN := by
  intro pins s σ H x y v u Q I rx ry h
  obtain ⟨a, n, rfl, rfl, h1, h2, h4, q⟩ := h
  obtain ⟨t, rfl⟩ := rx
  obtain ⟨t', rfl⟩ := ry
  have tl : Builtin.Str.tooLong (a.length * n.toNat) = false := by
    unfold Builtin.Str.tooLong
    exact decide_eq_false (Nat.not_lt.mpr h4)
  refine PySem.P.mul_str ?_ (fun g1 g2 => ?_) (fun _ _ => tl) ?_
  · rw [decide_eq_false (by omega), decide_eq_false (by omega)]
    rfl
  · rw [Bool.or_eq_false_iff, beq_eq_false_iff_ne, beq_eq_false_iff_ne] at g2
    have e1 : (a.length : Int) * n ≤ 16777216 := by
      have : (((a.length * n.toNat : Nat)) : Int) ≤ ((16777216 : Nat) : Int) := Int.ofNat_le.mpr h4
      rw [Int.natCast_mul, Int.toNat_of_nonneg (by omega)] at this
      exact this
    have e2 : (a.length : Int) ≤ (2 ^ 63 - 1) / n := (Int.le_ediv_iff_mul_le (by omega)).mpr (by omega)
    omega
  · by_cases n0 : n < 1
    · rw [if_pos n0]
      have z : n.toNat = 0 := by omega
      rw [z] at q
      exact ⟨by decide, ⟨.str _, H, I.tok _, ⟨_, rfl⟩, q⟩⟩
    · rw [if_neg n0]
      by_cases n1 : (n == 1 || a.length == 0) = true
      · rw [if_pos n1]
        refine ⟨.str a, H, I, ⟨t, rfl⟩, ?_⟩
        have : (⟨(List.replicate n.toNat a.cps).foldl (· ++ ·) #[]⟩ : Str) = a := by
          obtain ⟨ac⟩ := a
          rw [Bool.or_eq_true, beq_iff_eq, beq_iff_eq] at n1
          show (⟨(List.replicate n.toNat ac).foldl (· ++ ·) #[]⟩ : Str) = ⟨ac⟩
          rw [cps_foldl]
          rcases n1 with rfl | z
          · show (⟨(ac.toList ++ []).toArray⟩ : Str) = _
            rw [List.append_nil]
          · have z' : ac.size = 0 := z
            have : ac = #[] := Array.eq_empty_of_size_eq_zero z'
            subst this
            have e : ∀ m : Nat, (List.replicate m ([] : List Nat)).flatten = [] := fun m => by
              induction m with
              | zero => rfl
              | succ m ih => rw [List.replicate_succ, List.flatten_cons, ih]; rfl
            rw [show (#[] : Array Nat).toList = [] from rfl, e]
        rw [this] at q
        exact q
      · rw [if_neg n1]
        refine ⟨?_, ⟨.str _, H, I.tok _, ⟨_, rfl⟩, q⟩⟩
        obtain ⟨ac⟩ := a
        show ((List.replicate n.toNat ac).foldl (· ++ ·) #[]).size ≤ 16777216
        rw [cps_foldl, List.size_toArray, List.length_flatten, List.map_replicate, List.sum_replicate_nat, Nat.mul_comm]
        exact h4
theorem o_repN {t : Tx} {n : Int} : OpOk rRepN (sT t) (sI n) (R.rep t n) (fun z => sT z) :=
  ⟨fun Z G0 l G H v1 v2 Q k zs e q => by
    obtain ⟨h3, h4⟩ := chk_ok e
    cases h4
    simp only [Bool.and_eq_true, decide_eq_true_eq] at h3
    obtain ⟨⟨e1, hl⟩, e2⟩ := k.rels
    subst e1
    have el : (⟨t.toArray⟩ : Str).length = t.length := sv_len t
    refine ⟨_, n, rfl, e2, h3.1, h3.2.1, by rw [el]; exact h3.2.2, ?_⟩
    have fc := fold_cps t n.toNat []
    rw [List.nil_append] at fc
    rw [show (#[] : Array Nat) = ([] : Tx).toArray from rfl, fc]
    refine q _ G H (k.drop.drop.push (c := cTx) ⟨rfl, ?_⟩)
    rw [List.length_flatten, List.map_replicate, List.sum_replicate_nat, Nat.mul_comm]
    exact h3.2.2, chk_ne ok_ne⟩
theorem isOf_optE {K : PySem.W.Frag} {α : Type} {c : Cod α} {n : String} {b0 : Bool} {b : α → Bool} (h0 : kitB "NoneType" n = some b0) (h : IsOf K c n b) : IsOf K (cOpt c) n (fun o => Option.elim o b0 b) := fun G H v o e r => by
  cases o with
  | none =>
    cases (show v = .non from r)
    exact ⟨_, .base .non, kit_ty h0⟩
  | some a => exact h G H v a e r.1
end
end Rt
/-! Rt38: a chain of comparisons as a value; no None among two kinds. -/
namespace Rt
open PySem L2 R
section
variable {X : Cx} {T : XT} {W : WX} {Γx Γ : Ctx} {K : PySem.W.Frag}
theorem nn_sum {α β : Type} {c : Cod α} {d : Cod β} (h1 : ∀ G v b, c.rel G v b → v ≠ .non) (h2 : ∀ G v b, d.rel G v b → v ≠ .non) (G : Hp) (v : V) (b : α ⊕ β) (h : (cSum c d).rel G v b) : v ≠ .non := by
  cases b with
  | inl a => exact h1 G v a h
  | inr a => exact h2 G v a h
theorem ex_chain {op op' : CmpOp} {p p' : Int → Int → Bool} {a b c : Expr} {pos : Pos} {ta tb tc : TE} {α β γ : Type} [Nonempty α] [Nonempty β] {m1 : Res α} {m2 : α → Res β} {m3 : α → β → Res γ} {y : α → β → γ} {i : α → Int} {j : α → β → Int} {z : α → β → γ → Int} {Γ1 : α → Ctx} {Γ2 : α → β → Ctx} {Γ3 : α → β → γ → Ctx}
    (ho : OpR X (compareOp op) (rI0 fun i j => .bl (p i j))) (ho' : OpR X (compareOp op') (rI0 fun i j => .bl (p' i j)))
    (ha : EX X T W Γx Γ a ta m1 (fun x => sI (i x)) Γ1) (hb : ∀ x, EX X T W Γx (Γ1 x) b tb (m2 x) (fun y => sI (j x y)) (Γ2 x)) (hc : ∀ x w, EX X T W Γx (Γ2 x w) c tc (m3 x w) (fun u => sI (z x w u)) (Γ3 x w))
    (hy : ∀ x w, m3 x w = .ok (y x w) := by exact fun _ _ => rfl) (hΓ : ∀ x w u, Γ3 x w u = Γ2 x w := by exact fun _ _ _ => rfl) (hm : lastMarks [op, op'] [b, c] = false := by with_unfolding_all rfl) :
    EX X T W Γx Γ (.Compare a [op, op'] [b, c] pos) (tChain (rI0 fun i j => .bl (p i j)) (rI0 fun i j => .bl (p' i j)) ta tb tc) (m1.bind fun x => (m2 x).bind fun w => .ok (x, w)) (fun t => sB (p (i t.1) (j t.1 t.2) && p' (j t.1 t.2) (z t.1 t.2 (y t.1 t.2)))) (fun t => Γ2 t.1 t.2) := by
  obtain ⟨x⟩ := ‹Nonempty α›
  obtain ⟨w⟩ := ‹Nonempty β›
  refine ⟨pe_chain ho ho' ha.pe (hb x).pe (hc x w).pe hm, fun Z G0 S σ G H Q k q => ha.ev Z G0 S σ G H _ k (Res.wp_mono (Res.wp_bind q) (fun x q v1 G1 H1 k1 => ?_) fun _ z => z)⟩
  refine (hb x).ev Z G0 _ σ G1 H1 _ k1 (Res.wp_mono (Res.wp_bind q) (fun w q v2 G2 H2 k2 => ?_) fun ex q cls d G' H' k' => q cls d G' H' k'.drop)
  refine ⟨_, _, k2.drop.tp, k2.tp, _, rfl, ?_⟩
  cases e : p (i x) (j x w) with
  | true =>
    rw [if_pos rfl]
    refine (hc x w).ev Z G0 _ σ G2 H2 _ k2 ?_
    rw [hy]
    intro v3 G3 H3 k3
    rw [hΓ] at k3
    refine ⟨_, _, k3.drop.tp, k3.tp, ?_⟩
    have q' := q (.bl (p' (j x w) (z x w (y x w)))) G3 H3 (k3.drop.drop.drop.pushf (c := cBool) (by
      show V.bl _ = V.bl _
      rw [e, Bool.true_and]))
    exact q'
  | false =>
    rw [if_neg Bool.false_ne_true]
    exact q (.bl false) G2 H2 (k2.drop.drop.pushf (c := cBool) (by
      show V.bl _ = V.bl _
      rw [e, Bool.false_and]))

end
end Rt
/-! Rt39: a reading of a frozen value as another reading. -/
namespace Rt
open PySem L2 R
def Cv {α β : Type} (c : Cod α) (d : Cod β) (h : α → β) : Prop := ∀ G v a, c.rel G v a → d.rel G v (h a)
theorem cv_id {α : Type} {c : Cod α} : Cv c c (fun a => a) := fun _ _ _ r => r
theorem cv_inl {α β γ : Type} {c0 : Cod γ} {c : Cod α} {d : Cod β} {h : γ → α} (k : Cv c0 c h) : Cv c0 (cSum c d) (fun a => .inl (h a)) := fun G v a r => k G v a r
theorem cv_inr {α β γ : Type} {c0 : Cod γ} {c : Cod β} {d : Cod α} {h : γ → β} (k : Cv c0 c h) : Cv c0 (cSum d c) (fun a => .inr (h a)) := fun G v a r => k G v a r
theorem cv_some {α γ : Type} {c0 : Cod γ} {c : Cod α} {h : γ → α} (k : Cv c0 c h) (nn : ∀ G v b, c.rel G v b → v ≠ .non) : Cv c0 (cOpt c) (fun a => some (h a)) := fun G v a r => ⟨k G v a r, nn G v _ (k G v a r)⟩
theorem cv_none {α : Type} {c : Cod α} : Cv cNon (cOpt c) (fun _ => none) := fun _ _ _ r => r
theorem cv_opt {α γ : Type} {c0 : Cod γ} {c : Cod α} {h : γ → α} (k : Cv c0 c h) : Cv (cOpt c0) (cOpt c) (fun o => o.map h) := fun G v o r => by
  cases o with
  | none => exact r
  | some a => exact ⟨k G v a r.1, r.2⟩
theorem cv_sum {α β γ δ : Type} {c : Cod α} {d : Cod β} {c' : Cod γ} {d' : Cod δ} {f : α → γ} {g : β → δ} (k : Cv c c' f) (l : Cv d d' g) : Cv (cSum c d) (cSum c' d') (fun s => s.map f g) := fun G v s r => by
  cases s with
  | inl a => exact k G v a r
  | inr a => exact l G v a r
theorem pd_map {α β V : Type} {R : V → α → Prop} {S : V → β → Prop} {h : α → β} (k : ∀ v a, R v a → S v (h a)) {vs : List V} {xs : List α} (p : Paired R vs xs) : Paired S vs (xs.map h) := by
  induction p with
  | nil => exact .nil
  | cons a _ ih => exact .cons (k _ _ a) ih
theorem cv_list {α β : Type} {c : Cod α} {d : Cod β} {h : α → β} (k : Cv c d h) : Cv (cList c) (cList d) (fun xs => xs.map h) := fun G v xs ⟨p, vs, e1, e2, e3⟩ => ⟨p, vs, e1, e2, pd_map (k G) e3⟩
def Cvs {α β : Type} (c : Cods α) (d : Cods β) (h : α → β) : Prop := ∀ G vs a, c.rel G vs a → d.rel G vs (h a)
theorem cvs_one {α β : Type} {c : Cod α} {d : Cod β} {h : α → β} (k : Cv c d h) : Cvs (dOne c) (dOne d) h := fun G vs a ⟨v, e, r⟩ => ⟨v, e, k G v a r⟩
theorem cvs_cons {α β γ δ : Type} {c : Cod α} {d : Cod β} {c' : Cods γ} {d' : Cods δ} {h : α → β} {g : γ → δ} (k : Cv c d h) (l : Cvs c' d' g) : Cvs (dCons c c') (dCons d d') (fun a => (h a.1, g a.2)) := fun G vs a ⟨v, r, e, e1, e2⟩ => ⟨v, r, e, k G v _ e1, l G r _ e2⟩
section
variable {X : Cx} {T : XT} {W : WX} {Γx Γ : Ctx} {K : PySem.W.Frag}
theorem cv_tup {α β : Type} {d : Cods α} {e : Cods β} {h : α → β} (k : Cvs d e h) : Cv (cTup K d) (cTup K e) h := fun G v a ⟨p, vs, e1, e2, e3⟩ => ⟨p, vs, e1, e2, k G vs a e3⟩
theorem EX.cv {e : Expr} {te : TE} {α β γ : Type} {m : Res α} {c : Cod β} {d : Cod γ} {f : α → β} {h : β → γ} {Γo : α → Ctx} (k : Cv c d h) (x : EX X T W Γx Γ e te m (fun a => fz c (f a)) Γo) : EX X T W Γx Γ e te m (fun a => fz d (h (f a))) Γo := x.conv fun a G _ v _ r => ⟨k G v _ r.1, r.2⟩
end
end Rt
/-! PB: plain lemmas about the mirror's words. -/
namespace R
theorem line_val : line = 16777216 := rfl
/-! ### walks -/
theorem mapK_ok {α β : Type} {f : α → Res β} {g : α → β} : ∀ {xs : List α}, (∀ x ∈ xs, f x = .ok (g x)) → mapK f xs = .ok (xs.map g)
  | [], _ => rfl
  | x :: r, h => by
    rw [mapK, h x List.mem_cons_self, Res.ok_calm, Res.ok_bind, mapK_ok fun y hy => h y (List.mem_cons_of_mem _ hy)]
    rfl
theorem mapC_ok {α β : Type} {f : α → Res β} {g : α → β} {xs : List α} (h : ∀ x ∈ xs, f x = .ok (g x)) (hl : xs.length ≤ line) : mapC f xs = .ok (xs.map g) := by
  rw [mapC, mapK_ok h, decide_eq_true hl]
  rfl
theorem filK_ok {α β : Type} {t : α → Res Bool} {f : α → Res β} {b : α → Bool} {g : α → β} : ∀ {xs : List α}, (∀ x ∈ xs, t x = .ok (b x)) → (∀ x ∈ xs, f x = .ok (g x)) → filK t f xs = .ok ((xs.filter b).map g)
  | [], _, _ => rfl
  | x :: r, h, k => by
    rw [filK, h x List.mem_cons_self, Res.ok_calm, Res.ok_bind, filK_ok (fun y hy => h y (List.mem_cons_of_mem _ hy)) fun y hy => k y (List.mem_cons_of_mem _ hy), List.filter_cons]
    cases e : b x with
    | true =>
      rw [if_pos rfl, k x List.mem_cons_self, if_pos rfl]
      rfl
    | false =>
      rw [if_neg Bool.false_ne_true, if_neg Bool.false_ne_true]
theorem filC_ok {α β : Type} {t : α → Res Bool} {f : α → Res β} {b : α → Bool} {g : α → β} {xs : List α} (h : ∀ x ∈ xs, t x = .ok (b x)) (k : ∀ x ∈ xs, f x = .ok (g x)) (hl : xs.length ≤ line) : filC t f xs = .ok ((xs.filter b).map g) := by
  rw [filC, filK_ok h k, decide_eq_true hl]
  rfl
theorem fold_nil {α S : Type} {f : α → S → Res S} {s : S} : fold f [] s = .ok s := rfl
theorem fold_cons {α S : Type} {f : α → S → Res S} {x : α} {r : List α} {s : S} : fold f (x :: r) s = (f x s).bind fun s' => fold f r s' := rfl
theorem fold_append {α S : Type} {f : α → S → Res S} : ∀ {xs ys : List α} {s : S}, fold f (xs ++ ys) s = (fold f xs s).bind fun s' => fold f ys s'
  | [], ys, s => rfl
  | x :: r, ys, s => by
    rw [List.cons_append, fold_cons, fold_cons, Res.bind_assoc]
    congr 1
    funext s'
    exact fold_append
theorem fold_ok {α S : Type} {f : α → S → Res S} {g : α → S → S} : ∀ {xs : List α} {s : S}, (∀ x ∈ xs, ∀ s, f x s = .ok (g x s)) → fold f xs s = .ok (xs.foldl (fun s x => g x s) s)
  | [], _, _ => rfl
  | x :: r, s, h => by
    rw [fold_cons, h x List.mem_cons_self, Res.ok_bind, fold_ok fun y hy => h y (List.mem_cons_of_mem _ hy)]
    rfl
/-- an invariant over what has been walked -/
theorem fold_inv {α S : Type} {f : α → S → Res S} (I : List α → S → Prop) : ∀ (post pre : List α) (s : S), I pre s → (∀ pre x post' s, pre ++ x :: post' = pre ++ x :: post' → I pre s → x ∈ post → ∃ s', f x s = .ok s' ∧ I (pre ++ [x]) s') → ∃ s', fold f post s = .ok s' ∧ I (pre ++ post) s'
  | [], pre, s, h, _ => ⟨s, rfl, by rw [List.append_nil]; exact h⟩
  | x :: r, pre, s, h, k => by
    obtain ⟨s1, e1, h1⟩ := k pre x r s rfl h List.mem_cons_self
    obtain ⟨s2, e2, h2⟩ := fold_inv I r (pre ++ [x]) s1 h1 fun pre y post' s e i m => k pre y post' s e i (List.mem_cons_of_mem _ m)
    refine ⟨s2, by rw [fold_cons, e1, Res.ok_bind, e2], ?_⟩
    rw [List.append_assoc] at h2
    exact h2
/-- an invariant by the number of turns -/
theorem fold_n {α S : Type} {f : α → S → Res S} {xs : List α} {s0 : S} (I : Nat → S → Prop) (h0 : I 0 s0) (hs : ∀ i (hi : i < xs.length) s, I i s → ∃ s', f xs[i] s = .ok s' ∧ I (i + 1) s') : ∃ s, fold f xs s0 = .ok s ∧ I xs.length s := by
  have go : ∀ (ys : List α) (i : Nat) (s : S), xs.drop i = ys → I i s → i ≤ xs.length → ∃ s', fold f ys s = .ok s' ∧ I xs.length s' := by
    intro ys
    induction ys with
    | nil =>
      intro i s hd hi hl
      have : i = xs.length := by
        have := congrArg List.length hd
        rw [List.length_drop] at this
        simp at this
        omega
      exact ⟨s, rfl, this ▸ hi⟩
    | cons y r ih =>
      intro i s hd hi hl
      have hlt : i < xs.length := by
        have := congrArg List.length hd
        rw [List.length_drop] at this
        simp at this
        omega
      rw [List.drop_eq_getElem_cons hlt] at hd
      cases hd
      obtain ⟨s1, e1, h1⟩ := hs i hlt s hi
      obtain ⟨s2, e2, h2⟩ := ih (i + 1) s1 rfl h1 hlt
      exact ⟨s2, by rw [fold_cons, e1, Res.ok_bind, e2], h2⟩
  obtain ⟨s, e, h⟩ := go xs 0 s0 (by rw [List.drop_zero]) h0 (Nat.zero_le _)
  exact ⟨s, e, h⟩
theorem whilN_of {S : Type} {t : S → Res Bool} {f : S → Res S} (n : Nat) (s : S) (st : Nat → S) (k : Nat) (hk : k < n) (h0 : st 0 = s) (ht : ∀ i, i < k → t (st i) = .ok true) (hf : ∀ i, i < k → f (st i) = .ok (st (i + 1))) (he : t (st k) = .ok false) : whilN t f n s = .ok (st k) := by
  induction k generalizing n s st with
  | zero =>
    cases n with
    | zero => omega
    | succ n =>
      rw [h0] at he
      rw [whilN, he, Res.ok_bind, if_neg Bool.false_ne_true, h0]
  | succ k ih =>
    cases n with
    | zero => omega
    | succ n =>
      have h1 := ht 0 (Nat.succ_pos _)
      have h2 := hf 0 (Nat.succ_pos _)
      rw [h0] at h1 h2
      rw [whilN, h1, Res.ok_bind, if_pos rfl, h2, Res.ok_bind]
      exact ih n (st 1) (fun i => st (i + 1)) (by omega) rfl (fun i hi => ht (i + 1) (by omega)) (fun i hi => hf (i + 1) (by omega)) he
/-! ### ranges -/
theorem range_nat (n : Nat) : range 0 n = (List.range n).map fun i : Nat => (i : Int) := by
  unfold range
  have : ((n : Int) - 0).toNat = n := by omega
  rw [this]
  congr 1
  funext i
  omega
theorem rng_nat {n : Nat} (h : n < 2 ^ 62) : rng 0 n = .ok ((List.range n).map fun i : Nat => (i : Int)) := by
  unfold rng
  rw [range_nat, chk_of]
  have h' : (n : Int) < 2 ^ 62 := by exact_mod_cast h
  simp only [Bool.and_eq_true, decide_eq_true_eq]
  refine ⟨by decide, by decide, by omega, h'⟩
theorem rng_ok {a b : Int} (h1 : -(2 ^ 62) ≤ a) (h2 : a < 2 ^ 62) (h3 : -(2 ^ 62) ≤ b) (h4 : b < 2 ^ 62) : rng a b = .ok (range a b) := by
  unfold rng
  rw [chk_of]
  simp only [Bool.and_eq_true, decide_eq_true_eq]
  exact ⟨h1, h2, h3, h4⟩
theorem range_length (a b : Int) : (range a b).length = (b - a).toNat := by unfold range; simp
theorem mem_range {a b x : Int} : x ∈ range a b ↔ a ≤ x ∧ x < b := by
  unfold range
  simp only [List.mem_map, List.mem_range]
  constructor
  · rintro ⟨i, hi, rfl⟩
    omega
  · rintro ⟨h1, h2⟩
    exact ⟨(x - a).toNat, by omega, by omega⟩
theorem range_get {a b : Int} {i : Nat} (h : i < (range a b).length) : (range a b)[i] = a + i := by
  simp only [range, List.getElem_map, List.getElem_range]
/-! ### places -/
theorem idx_nat {α : Type} {xs : List α} {i : Nat} (h : i < xs.length) : idx xs (i : Int) = .ok xs[i] := by
  unfold idx atI ixN
  rw [if_pos (by omega), if_pos (by exact_mod_cast h)]
  simp [h]
theorem idx_int {α : Type} {xs : List α} {i : Int} (h0 : 0 ≤ i) (h : i.toNat < xs.length) : idx xs i = .ok (xs[i.toNat]) := by
  have : idx xs ((i.toNat : Nat) : Int) = .ok xs[i.toNat] := idx_nat h
  rwa [Int.toNat_of_nonneg h0] at this
theorem push_ok {α : Type} {xs : List α} {v : α} (h : xs.length < line) : push xs v = .ok (xs ++ [v]) := by
  unfold push
  rw [decide_eq_true h]
  rfl
/-! ### whole numbers -/
theorem fmod_ok {a b : Int} (h : 0 < b) : fmod a b = .ok (a % b) := by
  unfold fmod
  rw [decide_eq_true h]
  rfl
theorem fdiv_ok {a b : Int} (h : 0 < b) (h2 : b.natAbs.log2 < 9000) : fdiv a b = .ok (a / b) := by
  unfold fdiv
  rw [chk_of]
  simp only [Bool.and_eq_true, decide_eq_true_eq]
  exact ⟨h, h2⟩
theorem log2_small {b : Int} (h : 0 < b) (h2 : b < 2 ^ 64) : b.natAbs.log2 < 9000 := Nat.lt_of_lt_of_le ((Nat.log2_lt (by omega)).mpr (by omega : b.natAbs < 2 ^ 64)) (by decide)
theorem log2_pow {n : Nat} (h : n < 9000) : ((2 : Int) ^ n).natAbs.log2 < 9000 := by
  rw [Int.natAbs_pow]
  show (2 ^ n).log2 < 9000
  rw [Nat.log2_two_pow]
  exact h
theorem fdiv_pow {a : Int} {n : Nat} (h : n < 9000) : fdiv a (2 ^ n) = .ok (a / 2 ^ n) := fdiv_ok (Int.pow_pos (by decide)) (log2_pow h)
theorem nbits_le {i : Int} {n : Nat} (h : i.natAbs < 2 ^ n) : nbits i ≤ n := by
  unfold nbits
  split
  · exact Nat.zero_le _
  · next h0 => exact (Nat.log2_lt (by omega)).mpr h
theorem mul_ok {a b : Int} (n m : Nat) (ha : a.natAbs < 2 ^ n) (hb : b.natAbs < 2 ^ m) (h : n + m ≤ 134217728) : mul a b = .ok (a * b) := by
  unfold mul
  rw [decide_eq_true (Nat.le_trans (Nat.add_le_add (nbits_le ha) (nbits_le hb)) h)]
  rfl
theorem shl_one {n : Nat} (h : n < 1000000) : shl 1 (n : Int) = .ok (2 ^ n) := by
  unfold shl
  rw [chk_of]
  · rw [Int.toNat_natCast, Int.one_mul]
  · simp only [Bool.and_eq_true, decide_eq_true_eq]
    have : nbits 1 = 1 := by decide
    omega
theorem shr_nat (v p : Nat) : shr (v : Int) (p : Int) = .ok ((v / 2 ^ p : Nat) : Int) := by
  unfold shr
  rw [decide_eq_true (by omega : (0 : Int) ≤ p), chk_true, Int.toNat_natCast]
  congr 1
theorem xor_nat (a b : Nat) : R.xor (a : Int) (b : Int) = .ok ((a ^^^ b : Nat) : Int) := by
  unfold R.xor
  rw [chk_of]
  · rw [Int.toNat_natCast, Int.toNat_natCast]
  · simp only [Bool.and_eq_true, decide_eq_true_eq]
    omega
theorem abs_nat (i : Int) : R.abs i = (i.natAbs : Int) := by
  unfold R.abs
  split <;> omega
end R
/-! ### what all laws' own defs give -/
namespace C
open R
def l_cell (script : (List Int)) (k : Int) : Res Int :=
  if decide (k < (script.length : Int)) then idx script k else Res.ok (0 : Int)
def cell (script : List Int) (k : Nat) : Int := script.getD k 0
theorem l_cell_ok (script : List Int) (k : Nat) : l_cell script (k : Int) = .ok (cell script k) := by
  unfold l_cell cell
  by_cases h : k < script.length
  · rw [decide_eq_true (by exact_mod_cast h), if_pos rfl, idx_nat h]
    simp [h]
  · rw [decide_eq_false (by exact_mod_cast h), if_neg Bool.false_ne_true]
    rw [List.getD_eq_getElem?_getD, List.getElem?_eq_none (by omega)]
    rfl
def l_mixed (number : Int) (k : Int) (limit : Int) : Res Int :=
  (Res.ok ((((number + ((7 : Int) * k)) + (1 : Int)) * (48271 : Int)) % (2147483647 : Int))).bind fun one => ((mul one one).bind fun v1 => Res.ok ((v1 + ((69621 : Int) * k)) % (2147483399 : Int))).bind fun two => fmod (((two * (40692 : Int)) + one) % (1000000007 : Int)) limit
theorem l_mixed_ok (n k : Int) {limit : Int} (h : 0 < limit) : ∃ r, l_mixed n k limit = .ok r ∧ 0 ≤ r ∧ r < limit := by
  unfold l_mixed
  simp only [Res.ok_bind]
  rw [mul_ok 31 31 (by have := Int.emod_nonneg ((n + 7 * k + 1) * 48271) (by decide : (2147483647 : Int) ≠ 0); have := Int.emod_lt_of_pos ((n + 7 * k + 1) * 48271) (by decide : (0 : Int) < 2147483647); omega) (by have := Int.emod_nonneg ((n + 7 * k + 1) * 48271) (by decide : (2147483647 : Int) ≠ 0); have := Int.emod_lt_of_pos ((n + 7 * k + 1) * 48271) (by decide : (0 : Int) < 2147483647); omega) (by decide), Res.ok_bind, Res.ok_bind, fmod_ok h]
  exact ⟨_, rfl, Int.emod_nonneg _ (by omega), Int.emod_lt_of_pos _ h⟩
def l_numbers (cell_here : Int) (count : Int) (limit : Int) : Res (List Int) :=
  (Res.ok (R.abs cell_here)).bind fun rest => (Res.ok (decide (((10 : Int) ^ ((18 : Int)).toNat) ≤ rest))).bind fun large => (Res.ok ([] : List Int)).bind fun numbers_here => ((rng 0 count).bind fun xs1 => fold (fun (x2 : Int) (s3 : Int × (List Int)) => (if (large && (decide ((0 : Int) < s3.1))) then ((fmod s3.1 limit).bind fun v4 => push s3.2 v4).bind fun numbers_here => (fdiv s3.1 limit).bind fun rest => Res.ok (numbers_here, rest) else ((l_mixed (R.abs cell_here) x2 limit).bind fun v6 => push s3.2 v6).bind fun numbers_here => Res.ok (numbers_here, s3.1) : Res ((List Int) × Int)).bind fun s7 => Res.ok (s7.2, s7.1)) xs1 (rest, numbers_here) : Res (Int × (List Int))).bind fun s3 => Res.ok s3.2
/-- so many numbers from 0 to below the limit -/
theorem l_numbers_ok (c : Int) (count : Nat) {limit : Int} (h : 0 < limit) (h2 : limit < 2 ^ 64) (hc : count ≤ line) : ∃ ns, l_numbers c count limit = .ok ns ∧ ns.length = count ∧ ∀ x ∈ ns, 0 ≤ x ∧ x < limit := by
  unfold l_numbers
  simp only [Res.ok_bind]
  rw [rng_nat (by rw [line_val] at hc; omega), Res.ok_bind]
  generalize decide ((10 : Int) ^ ((18 : Int)).toNat ≤ R.abs c) = large
  obtain ⟨s, e, h1, h3⟩ := fold_n (xs := (List.range count).map fun i : Nat => (i : Int)) (s0 := (R.abs c, ([] : List Int))) (f := fun (x2 : Int) (s3 : Int × (List Int)) => (if (large && (decide ((0 : Int) < s3.1))) then ((fmod s3.1 limit).bind fun v4 => push s3.2 v4).bind fun numbers_here => (fdiv s3.1 limit).bind fun rest => Res.ok (numbers_here, rest) else ((l_mixed (R.abs c) x2 limit).bind fun v6 => push s3.2 v6).bind fun numbers_here => Res.ok (numbers_here, s3.1) : Res ((List Int) × Int)).bind fun s7 => Res.ok (s7.2, s7.1))
    (fun i s => s.2.length = i ∧ ∀ x ∈ s.2, 0 ≤ x ∧ x < limit) ⟨rfl, fun x hx => by cases hx⟩ (by
      intro i hi s ⟨h1, h3⟩
      have hi' : i < count := by simpa using hi
      have hp : s.2.length < line := by omega
      by_cases q : (large && decide ((0 : Int) < s.1)) = true
      · refine ⟨(s.1 / limit, s.2 ++ [s.1 % limit]), ?_, by simp [h1], fun x hx => ?_⟩
        · rw [if_pos q, fmod_ok h, Res.ok_bind, push_ok hp, Res.ok_bind, fdiv_ok h (log2_small h h2), Res.ok_bind, Res.ok_bind]
        · rcases List.mem_append.mp hx with hx | hx
          · exact h3 x hx
          · rw [List.mem_singleton.mp hx]
            exact ⟨Int.emod_nonneg _ (by omega), Int.emod_lt_of_pos _ h⟩
      · obtain ⟨r, er, r1, r2⟩ := l_mixed_ok (R.abs c) (((List.range count).map fun i : Nat => (i : Int))[i]) h
        refine ⟨(s.1, s.2 ++ [r]), ?_, by simp [h1], fun x hx => ?_⟩
        · rw [if_neg q, er, Res.ok_bind, push_ok hp, Res.ok_bind, Res.ok_bind]
        · rcases List.mem_append.mp hx with hx | hx
          · exact h3 x hx
          · rw [List.mem_singleton.mp hx]
            exact ⟨r1, r2⟩)
  rw [e, Res.ok_bind]
  exact ⟨_, rfl, by simpa using h1, h3⟩
end C
/-! PL: words for the mirror whose instances are told. -/
namespace C
open R
/-- whether it stands in a list -/
def inL {α : Type} [DecidableEq α] (a : α) (xs : List α) : Bool := decide (a ∈ xs)
theorem inL_iff {α : Type} [DecidableEq α] {a : α} {xs : List α} : inL a xs = true ↔ a ∈ xs := decide_eq_true_iff
theorem inL_true {α : Type} [DecidableEq α] {a : α} {xs : List α} (h : a ∈ xs) : inL a xs = true := inL_iff.mpr h
theorem inL_false {α : Type} [DecidableEq α] {a : α} {xs : List α} (h : ¬ a ∈ xs) : inL a xs = false := by
  cases e : inL a xs with
  | false => rfl
  | true => exact absurd (inL_iff.mp e) h
end C
/-! PX: what the laws' own drawing gives. -/
namespace R
theorem cat_ok {α : Type} {xs ys : List α} (h : xs.length + ys.length ≤ line) : cat xs ys = .ok (xs ++ ys) := by
  unfold cat
  rw [decide_eq_true h]
  rfl
end R
namespace C
open R
def l_digits (script : (List Int)) (first : Int) (last : Int) : Res (List Int) :=
  (Res.ok ([] : List Int)).bind fun digits_here => ((rng first last).bind fun xs1 => fold (fun (x2 : Int) (s3 : (List Int)) => (l_cell script x2).bind fun cell_here => (if decide (cell_here < (0 : Int)) then (Res.ok ((1 : Int) - ((2 : Int) * cell_here))).bind fun cell_here => Res.ok cell_here else Res.ok cell_here : Res (Int)).bind fun s5 => (if decide ((1000000000000000000 : Int) ≤ s5) then ((rng 0 (60 : Int)).bind fun xs6 => fold (fun (x7 : Int) (s8 : Int × (List Int)) => (if decide ((0 : Int) < s8.1) then (push s8.2 (s8.1 % (1000 : Int))).bind fun digits_here => (Res.ok (s8.1 / (1000 : Int))).bind fun cell_here => Res.ok (digits_here, cell_here) else Res.ok (s8.2, s8.1) : Res ((List Int) × Int)).bind fun s9 => Res.ok (s9.2, s9.1)) xs6 (s5, s3) : Res (Int × (List Int))).bind fun s8 => Res.ok (s8.1, s8.2) else (Res.ok ((((s5 * (40692 : Int)) + (x2 * (52774 : Int))) + (17 : Int)) % (2147483399 : Int))).bind fun seed => ((rng 0 (12 : Int)).bind fun xs10 => fold (fun (x11 : Int) (s12 : Int × (List Int)) => (Res.ok ((((s12.1 * (40014 : Int)) + ((5 : Int) * x11)) + (3 : Int)) % (2147483563 : Int))).bind fun seed => (push s12.2 ((seed / (1009 : Int)) % (1000 : Int))).bind fun digits_here => Res.ok (seed, digits_here)) xs10 (seed, s3) : Res (Int × (List Int))).bind fun s12 => Res.ok (s5, s12.2) : Res (Int × (List Int))).bind fun s13 => Res.ok s13.2) xs1 digits_here : Res ((List Int))).bind fun s3 => Res.ok s3
/-- one cell's digits -/
def dig1 (script : List Int) (x2 : Int) (s3 : List Int) : Res (List Int) := (l_cell script x2).bind fun cell_here => (if decide (cell_here < (0 : Int)) then (Res.ok ((1 : Int) - ((2 : Int) * cell_here))).bind fun cell_here => Res.ok cell_here else Res.ok cell_here : Res (Int)).bind fun s5 => (if decide ((1000000000000000000 : Int) ≤ s5) then ((rng 0 (60 : Int)).bind fun xs6 => fold (fun (x7 : Int) (s8 : Int × (List Int)) => (if decide ((0 : Int) < s8.1) then (push s8.2 (s8.1 % (1000 : Int))).bind fun digits_here => (Res.ok (s8.1 / (1000 : Int))).bind fun cell_here => Res.ok (digits_here, cell_here) else Res.ok (s8.2, s8.1) : Res ((List Int) × Int)).bind fun s9 => Res.ok (s9.2, s9.1)) xs6 (s5, s3) : Res (Int × (List Int))).bind fun s8 => Res.ok (s8.1, s8.2) else (Res.ok ((((s5 * (40692 : Int)) + (x2 * (52774 : Int))) + (17 : Int)) % (2147483399 : Int))).bind fun seed => ((rng 0 (12 : Int)).bind fun xs10 => fold (fun (x11 : Int) (s12 : Int × (List Int)) => (Res.ok ((((s12.1 * (40014 : Int)) + ((5 : Int) * x11)) + (3 : Int)) % (2147483563 : Int))).bind fun seed => (push s12.2 ((seed / (1009 : Int)) % (1000 : Int))).bind fun digits_here => Res.ok (seed, digits_here)) xs10 (seed, s3) : Res (Int × (List Int))).bind fun s12 => Res.ok (s5, s12.2) : Res (Int × (List Int))).bind fun s13 => Res.ok s13.2
theorem dig1_ok (script : List Int) (k : Nat) (s3 : List Int) (h : s3.length ≤ 10000) (hd : ∀ d ∈ s3, 0 ≤ d ∧ d < 1000) : ∃ s', dig1 script (k : Int) s3 = .ok s' ∧ s'.length ≤ s3.length + 60 ∧ ∀ d ∈ s', 0 ≤ d ∧ d < 1000 := by
  unfold dig1
  rw [l_cell_ok, Res.ok_bind]
  obtain ⟨c, e⟩ : ∃ c : Int, (if decide (cell script k < (0 : Int)) then (Res.ok ((1 : Int) - ((2 : Int) * cell script k))).bind fun cell_here => Res.ok cell_here else Res.ok (cell script k) : Res Int) = .ok c := by
    split
    · exact ⟨_, rfl⟩
    · exact ⟨_, rfl⟩
  rw [e, Res.ok_bind]
  have r60 : rng 0 60 = .ok ((List.range 60).map fun i : Nat => (i : Int)) := rng_nat (n := 60) (by decide)
  have r12 : rng 0 12 = .ok ((List.range 12).map fun i : Nat => (i : Int)) := rng_nat (n := 12) (by decide)
  have hm : ∀ x : Int, 0 ≤ x % 1000 ∧ x % 1000 < 1000 := fun x => ⟨Int.emod_nonneg _ (by decide), Int.emod_lt_of_pos _ (by decide)⟩
  by_cases q : decide ((1000000000000000000 : Int) ≤ c) = true
  · rw [if_pos q, r60, Res.ok_bind]
    obtain ⟨s, e1, h1, h2⟩ := fold_n (xs := (List.range 60).map fun i : Nat => (i : Int)) (s0 := (c, s3)) (f := fun (x7 : Int) (s8 : Int × (List Int)) => (if decide ((0 : Int) < s8.1) then (push s8.2 (s8.1 % (1000 : Int))).bind fun digits_here => (Res.ok (s8.1 / (1000 : Int))).bind fun cell_here => Res.ok (digits_here, cell_here) else Res.ok (s8.2, s8.1) : Res ((List Int) × Int)).bind fun s9 => Res.ok (s9.2, s9.1))
      (fun i s => s.2.length ≤ s3.length + i ∧ ∀ d ∈ s.2, 0 ≤ d ∧ d < 1000) ⟨Nat.le_refl _, hd⟩ (by
        intro i hi s ⟨h1, h2⟩
        have hi' : i < 60 := by simpa using hi
        by_cases z : decide ((0 : Int) < s.1) = true
        · refine ⟨(s.1 / 1000, s.2 ++ [s.1 % 1000]), ?_, by simp; omega, fun d hd => ?_⟩
          · rw [if_pos z, push_ok (by rw [line_val]; omega), Res.ok_bind, Res.ok_bind, Res.ok_bind]
          · rcases List.mem_append.mp hd with hd | hd
            · exact h2 d hd
            · rw [List.mem_singleton.mp hd]
              exact hm _
        · refine ⟨s, ?_, by omega, h2⟩
          rw [if_neg z, Res.ok_bind])
    rw [e1, Res.ok_bind, Res.ok_bind]
    exact ⟨_, rfl, by simpa using h1, h2⟩
  · rw [if_neg q, Res.ok_bind, r12, Res.ok_bind]
    generalize (c * 40692 + (k : Int) * 52774 + 17) % 2147483399 = sd
    obtain ⟨s, e1, h1, h2⟩ := fold_n (xs := (List.range 12).map fun i : Nat => (i : Int)) (s0 := (sd, s3)) (f := fun (x11 : Int) (s12 : Int × (List Int)) => (Res.ok ((((s12.1 * (40014 : Int)) + ((5 : Int) * x11)) + (3 : Int)) % (2147483563 : Int))).bind fun seed => (push s12.2 ((seed / (1009 : Int)) % (1000 : Int))).bind fun digits_here => Res.ok (seed, digits_here))
      (fun i s => s.2.length ≤ s3.length + i ∧ ∀ d ∈ s.2, 0 ≤ d ∧ d < 1000) ⟨Nat.le_refl _, hd⟩ (by
        intro i hi s ⟨h1, h2⟩
        have hi' : i < 12 := by simpa using hi
        refine ⟨_, by rw [Res.ok_bind, push_ok (by rw [line_val]; omega), Res.ok_bind], ?_, ?_⟩
        · simp
          omega
        · intro d hd
          rcases List.mem_append.mp hd with hd | hd
          · exact h2 d hd
          · rw [List.mem_singleton.mp hd]
            exact hm _)
    rw [e1, Res.ok_bind, Res.ok_bind]
    refine ⟨_, rfl, ?_, h2⟩
    have : s.2.length ≤ s3.length + 12 := by simpa using h1
    show s.2.length ≤ _
    omega
theorem l_digits_ok (script : List Int) (first last : Nat) (h : last ≤ first + 100) (h2 : first < 2 ^ 60) : ∃ ds, l_digits script (first : Int) (last : Int) = .ok ds ∧ ds.length ≤ 60 * (last - first) ∧ ∀ d ∈ ds, 0 ≤ d ∧ d < 1000 := by
  have e0 : l_digits script (first : Int) (last : Int) = (rng first last).bind fun xs => (fold (dig1 script) xs ([] : List Int)).bind fun s => .ok s := by
    show (Res.ok ([] : List Int)).bind _ = _
    rw [Res.ok_bind, Res.bind_assoc]
    rfl
  rw [e0, rng_ok (by omega) (by omega) (by omega) (by omega), Res.ok_bind]
  obtain ⟨s, e1, h1, h2⟩ := fold_n (xs := range first last) (s0 := ([] : List Int)) (f := dig1 script) (fun i s => s.length ≤ 60 * i ∧ ∀ d ∈ s, 0 ≤ d ∧ d < 1000) ⟨Nat.zero_le _, fun d hd => by cases hd⟩ (by
    intro i hi s ⟨h1, h2⟩
    have hi' : i < last - first := by
      rw [range_length] at hi
      omega
    rw [range_get hi]
    obtain ⟨s', e, h3, h4⟩ := dig1_ok script (first + i) s (by omega) h2
    exact ⟨s', e, by omega, h4⟩)
  rw [e1, Res.ok_bind]
  refine ⟨s, rfl, ?_, h2⟩
  rw [range_length] at h1
  have : ((last : Int) - (first : Int)).toNat = last - first := by omega
  rw [this] at h1
  exact h1
def l_draw (box : (List Int × Int)) (many : Int) : Res (Int × (List Int × Int)) :=
  (Res.ok box.2).bind fun at_ => (Res.ok (at_ + (1 : Int))).bind fun n1 => if decide (at_ < (((box.1, n1).1).length : Int)) then (idx ((box.1, n1).1) at_).bind fun v2 => (fmod v2 many).bind fun v3 => Res.ok (v3, (box.1, n1)) else (fmod ((at_ * (7 : Int)) + (3 : Int)) many).bind fun v4 => Res.ok (v4, (box.1, n1))
/-- a draw from a box -/
def BoxOk (b : List Int × Int) : Prop := 0 ≤ b.2
theorem l_draw_ok {b : List Int × Int} (hb : BoxOk b) {many : Int} (hm : 0 < many) : ∃ r b', l_draw b many = .ok (r, b') ∧ 0 ≤ r ∧ r < many ∧ BoxOk b' := by
  unfold l_draw
  rw [Res.ok_bind, Res.ok_bind]
  by_cases h : decide (b.2 < (((b.1, b.2 + 1).1).length : Int)) = true
  · rw [if_pos h]
    have h' := of_decide_eq_true h
    rw [idx_int hb (by show b.2.toNat < b.1.length; have : b.2 < (b.1.length : Int) := h'; have := hb; unfold BoxOk at this; omega), Res.ok_bind, fmod_ok hm, Res.ok_bind]
    exact ⟨_, _, rfl, Int.emod_nonneg _ (by omega), Int.emod_lt_of_pos _ hm, by show 0 ≤ b.2 + 1; have := hb; unfold BoxOk at this; omega⟩
  · rw [if_neg h, fmod_ok hm, Res.ok_bind]
    exact ⟨_, _, rfl, Int.emod_nonneg _ (by omega), Int.emod_lt_of_pos _ hm, by show 0 ≤ b.2 + 1; have := hb; unfold BoxOk at this; omega⟩
def l_bits (box : (List Int × Int)) (many : Int) : Res (Tx × (List Int × Int)) :=
  (Res.ok (tx "")).bind fun text => (l_draw box (6 : Int)).bind fun r2 => ((rng 0 many).bind fun xs3 => fold (fun (x4 : Int) (s5 : Tx × (List Int × Int)) => (if decide (r2.1 = (0 : Int)) then (cat s5.1 (tx "0")).bind fun text => Res.ok (text, s5.2) else (if decide (r2.1 = (1 : Int)) then (cat s5.1 (tx "1")).bind fun text => Res.ok (text, s5.2) else ((if decide (r2.1 = (2 : Int)) then (if decide ((0 : Int) < x4) then (l_draw s5.2 (4 : Int)).bind fun r8 => Res.ok (decide ((0 : Int) < r8.1), r8.2) else Res.ok (false, s5.2) : Res (Bool × (List Int × Int))) else Res.ok (false, s5.2) : Res (Bool × (List Int × Int))).bind fun r11 => if r11.1 then ((idx s5.1 (x4 - (1 : Int))).bind fun v12 => cat s5.1 [v12]).bind fun text => Res.ok (text, r11.2) else ((l_draw r11.2 (2 : Int)).bind fun r14 => (strI r14.1).bind fun v15 => (cat s5.1 v15).bind fun v16 => Res.ok (v16, r14.2)).bind fun r17 => Res.ok (r17.1, r17.2) : Res (Tx × (List Int × Int))).bind fun s18 => Res.ok (s18.1, s18.2) : Res (Tx × (List Int × Int))).bind fun s19 => Res.ok (s19.1, s19.2) : Res (Tx × (List Int × Int))).bind fun s20 => Res.ok (s20.1, s20.2)) xs3 (text, r2.2) : Res (Tx × (List Int × Int))).bind fun s5 => Res.ok (s5.1, s5.2)

def isBit (c : Nat) : Prop := c = 48 ∨ c = 49
theorem strI_bit {i : Int} (h0 : 0 ≤ i) (h : i < 2) : ∃ c, strI i = .ok [c] ∧ isBit c := by
  have : i = 0 ∨ i = 1 := by omega
  rcases this with rfl | rfl
  · exact ⟨48, rfl, .inl rfl⟩
  · exact ⟨49, rfl, .inr rfl⟩
def bit1 (kd : Int) (x4 : Int) (s5 : Tx × (List Int × Int)) : Res (Tx × (List Int × Int)) := (if decide (kd = (0 : Int)) then (cat s5.1 (tx "0")).bind fun text => Res.ok (text, s5.2) else (if decide (kd = (1 : Int)) then (cat s5.1 (tx "1")).bind fun text => Res.ok (text, s5.2) else ((if decide (kd = (2 : Int)) then (if decide ((0 : Int) < x4) then (l_draw s5.2 (4 : Int)).bind fun r8 => Res.ok (decide ((0 : Int) < r8.1), r8.2) else Res.ok (false, s5.2) : Res (Bool × (List Int × Int))) else Res.ok (false, s5.2) : Res (Bool × (List Int × Int))).bind fun r11 => if r11.1 then ((idx s5.1 (x4 - (1 : Int))).bind fun v12 => cat s5.1 [v12]).bind fun text => Res.ok (text, r11.2) else ((l_draw r11.2 (2 : Int)).bind fun r14 => (strI r14.1).bind fun v15 => (cat s5.1 v15).bind fun v16 => Res.ok (v16, r14.2)).bind fun r17 => Res.ok (r17.1, r17.2) : Res (Tx × (List Int × Int))).bind fun s18 => Res.ok (s18.1, s18.2) : Res (Tx × (List Int × Int))).bind fun s19 => Res.ok (s19.1, s19.2) : Res (Tx × (List Int × Int))).bind fun s20 => Res.ok (s20.1, s20.2)
theorem tx0 : tx "0" = [48] := rfl
theorem tx1 : tx "1" = [49] := rfl
theorem bit1_ok (kd : Int) (k : Nat) (t : Tx) {b : List Int × Int} (hb : BoxOk b) (hl : t.length = k) (hk : k ≤ 1000000) (ht : ∀ c ∈ t, isBit c) : ∃ c b', bit1 kd (k : Int) (t, b) = .ok (t ++ [c], b') ∧ isBit c ∧ BoxOk b' := by
  unfold bit1
  have hc : ∀ c : Nat, cat t [c] = .ok (t ++ [c]) := fun c => cat_ok (by simp [line_val]; omega)
  by_cases h0 : decide (kd = 0) = true
  · rw [if_pos h0, tx0, hc, Res.ok_bind, Res.ok_bind]
    exact ⟨48, b, rfl, .inl rfl, hb⟩
  rw [if_neg h0]
  by_cases h1 : decide (kd = 1) = true
  · rw [if_pos h1, tx1, hc, Res.ok_bind, Res.ok_bind, Res.ok_bind]
    exact ⟨49, b, rfl, .inr rfl, hb⟩
  rw [if_neg h1]
  -- the test
  obtain ⟨v, b2, e2, hb2, hv⟩ : ∃ (v : Bool) (b2 : List Int × Int), (if decide (kd = (2 : Int)) then (if decide ((0 : Int) < (k : Int)) then (l_draw b (4 : Int)).bind fun r8 => Res.ok (decide ((0 : Int) < r8.1), r8.2) else Res.ok (false, b) : Res (Bool × (List Int × Int))) else Res.ok (false, b) : Res (Bool × (List Int × Int))) = .ok (v, b2) ∧ BoxOk b2 ∧ (v = true → 0 < k) := by
    by_cases h2 : decide (kd = 2) = true
    · rw [if_pos h2]
      by_cases h3 : decide ((0 : Int) < (k : Int)) = true
      · rw [if_pos h3]
        obtain ⟨r, b', e, _, _, hb'⟩ := l_draw_ok hb (many := 4) (by decide)
        rw [e, Res.ok_bind]
        have := of_decide_eq_true h3
        exact ⟨_, _, rfl, hb', fun _ => by omega⟩
      · rw [if_neg h3]
        exact ⟨_, _, rfl, hb, fun z => by cases z⟩
    · rw [if_neg h2]
      exact ⟨_, _, rfl, hb, fun z => by cases z⟩
  rw [e2, Res.ok_bind]
  cases v with
  | true =>
    rw [if_pos rfl]
    have hk0 := hv rfl
    have e3 : ((k : Int) - 1) = ((k - 1 : Nat) : Int) := by omega
    rw [e3, idx_nat (by show k - 1 < t.length; omega), Res.ok_bind, hc, Res.ok_bind, Res.ok_bind, Res.ok_bind]
    exact ⟨_, b2, rfl, ht _ (List.getElem_mem _), hb2⟩
  | false =>
    rw [if_neg Bool.false_ne_true]
    obtain ⟨r, b', e, r0, r1, hb'⟩ := l_draw_ok hb2 (many := 2) (by decide)
    obtain ⟨c, ec, hcb⟩ := strI_bit r0 r1
    rw [e, Res.ok_bind, ec, Res.ok_bind, hc, Res.ok_bind, Res.ok_bind, Res.ok_bind, Res.ok_bind]
    exact ⟨c, b', rfl, hcb, hb'⟩
theorem l_bits_ok {b : List Int × Int} (hb : BoxOk b) {many : Nat} (hm : many ≤ 1000000) : ∃ t b', l_bits b (many : Int) = .ok (t, b') ∧ t.length = many ∧ (∀ c ∈ t, isBit c) ∧ BoxOk b' := by
  obtain ⟨kd, b1, e1, _, _, hb1⟩ := l_draw_ok hb (many := 6) (by decide)
  have e0 : l_bits b (many : Int) = (l_draw b 6).bind fun r2 => (rng 0 many).bind fun xs => (fold (bit1 r2.1) xs (([] : Tx), r2.2)).bind fun s => .ok (s.1, s.2) := by
    unfold l_bits
    rw [Res.ok_bind]
    refine congrArg ((l_draw b 6).bind) (funext fun r2 => ?_)
    rw [Res.bind_assoc]
    rfl
  rw [e0, e1, Res.ok_bind, rng_nat (by omega), Res.ok_bind]
  obtain ⟨s, e2, h1, h2, h3⟩ := fold_n (xs := (List.range many).map fun i : Nat => (i : Int)) (s0 := (([] : Tx), b1)) (f := bit1 kd) (fun i s => s.1.length = i ∧ (∀ c ∈ s.1, isBit c) ∧ BoxOk s.2) ⟨rfl, fun c hc => (by cases hc), hb1⟩ (by
    intro i hi s ⟨h1, h2, h3⟩
    have hi' : i < many := by simpa using hi
    have ei : ((List.range many).map fun i : Nat => (i : Int))[i] = (i : Int) := by simp
    rw [ei]
    obtain ⟨c, b', e, hc, hb'⟩ := bit1_ok kd i s.1 h3 h1 (by omega) h2
    refine ⟨_, e, by simp [h1], fun d hd => ?_, hb'⟩
    rcases List.mem_append.mp hd with hd | hd
    · exact h2 d hd
    · rw [List.mem_singleton.mp hd]
      exact hc)
  rw [e2, Res.ok_bind]
  exact ⟨s.1, s.2, rfl, by simpa using h1, h2, h3⟩
end C
/-! PY: texts of binary digits. -/
namespace R
theorem joinT_ones (xs : List Nat) : joinT [] (xs.map fun c => [c]) = xs := by
  induction xs with
  | nil => rfl
  | cons x r ih =>
    cases r with
    | nil => rfl
    | cons y r => 
      show [x] ++ ([] ++ joinT [] ((y :: r).map fun c => [c])) = _
      rw [ih]
      rfl
theorem joinS_ones {xs : List Nat} (h : xs.length ≤ line) : joinS [] (xs.map fun c => [c]) = .ok xs := by
  unfold joinS
  rw [joinT_ones, chk_of]
  have : ((xs.map fun c => [c]).map List.length).sum = xs.length := by
    rw [List.map_map]
    induction xs with
    | nil => rfl
    | cons x r ih =>
      rw [List.map_cons, List.sum_cons, ih (Nat.le_trans (Nat.le_succ _) h), List.length_cons]
      show 1 + r.length = _
      omega
  rw [this]
  simp
  exact h
end R
namespace C
open R
/-- a binary digit -/
def bd (n : Nat) : Nat := if n % 2 = 0 then 48 else 49
/-- the digits of v, m of them, the greatest first -/
def dg (v m : Nat) : Tx := (List.range m).reverse.map fun p => bd (v / 2 ^ p)
theorem dg_succ (v m : Nat) : dg v (m + 1) = dg (v / 2) m ++ [bd v] := by
  unfold dg
  rw [List.range_succ_eq_map, List.reverse_cons, List.map_append, ← List.map_reverse, List.map_map]
  congr 1
  · refine List.map_congr_left fun p _ => ?_
    show bd (v / 2 ^ (p + 1)) = bd (v / 2 / 2 ^ p)
    rw [Nat.div_div_eq_div_mul, Nat.pow_succ']
  · show [bd (v / 2 ^ 0)] = _
    rw [Nat.pow_zero, Nat.div_one]
theorem dg_len (v m : Nat) : (dg v m).length = m := by unfold dg; simp
theorem dg_bits (v m : Nat) : ∀ c ∈ dg v m, isBit c := by
  intro c hc
  obtain ⟨p, _, rfl⟩ := List.mem_map.mp hc
  unfold bd
  split
  · exact .inl rfl
  · exact .inr rfl
/-- what digits tell -/
def vl (t : Tx) : Nat := t.foldl (fun n c => 2 * n + if c = 49 then 1 else 0) 0
theorem vl_snoc (t : Tx) (c : Nat) : vl (t ++ [c]) = 2 * vl t + if c = 49 then 1 else 0 := by
  unfold vl
  rw [List.foldl_append]
  rfl
theorem vl_dg : ∀ (m v : Nat), vl (dg v m) = v % 2 ^ m
  | 0, v => by rw [Nat.pow_zero, Nat.mod_one]; rfl
  | m + 1, v => by
    rw [dg_succ, vl_snoc, vl_dg m (v / 2), Nat.pow_succ', Nat.mod_mul]
    unfold bd
    rcases Nat.mod_two_eq_zero_or_one v with h | h <;> rw [h] <;> simp <;> omega
theorem dg_vl : ∀ (n : Nat) (t : Tx), t.length = n → (∀ c ∈ t, isBit c) → dg (vl t) n = t
  | 0, t, h, _ => by rw [List.length_eq_zero_iff.mp h]; rfl
  | n + 1, t, h, k => by
    have hne : t ≠ [] := fun z => by rw [z] at h; cases h
    have hl := List.dropLast_concat_getLast hne
    have ih := dg_vl n t.dropLast (by rw [List.length_dropLast, h]; rfl) fun c hc => k c (List.dropLast_subset _ hc)
    have kb := k _ (List.getLast_mem hne)
    generalize t.getLast hne = c at hl kb
    generalize t.dropLast = u at hl ih
    rw [← hl, vl_snoc, dg_succ]
    have e1 : (2 * vl u + if c = 49 then 1 else 0) / 2 = vl u := by split <;> omega
    rw [e1, ih]
    congr 2
    unfold bd
    rcases kb with rfl | rfl
    · rw [if_pos (by rw [if_neg (by decide)]; omega)]
    · rw [if_neg (by rw [if_pos rfl]; omega)]
def p_digits_value (digits : Tx) : Res Int :=
  (Res.ok (0 : Int)).bind fun number => (fold (fun (x1 : Nat) (s2 : Int) => (Res.ok (((2 : Int) * s2) + (if decide ([x1] = (tx "1")) then (1 : Int) else (0 : Int)))).bind fun number => Res.ok number) digits number : Res (Int)).bind fun s2 => Res.ok s2
theorem one (v : Nat) : decide ([v] = tx "1") = decide (v = 49) := by
  rw [Bool.eq_iff_iff, decide_eq_true_eq, decide_eq_true_eq]
  show [v] = [49] ↔ _
  simp
theorem fold_vl (t : Tx) (n : Nat) : fold (fun (x1 : Nat) (s2 : Int) => (Res.ok (((2 : Int) * s2) + (if decide ([x1] = (tx "1")) then (1 : Int) else (0 : Int)))).bind fun number => Res.ok number) t (n : Int) = .ok ((t.foldl (fun n c => 2 * n + if c = 49 then 1 else 0) n : Nat) : Int) := by
  induction t generalizing n with
  | nil => rfl
  | cons c r ih =>
    rw [fold_cons, Res.ok_bind, Res.ok_bind, List.foldl_cons, one]
    have : ((2 : Int) * (n : Int) + if decide (c = 49) = true then 1 else 0) = ((2 * n + if c = 49 then 1 else 0 : Nat) : Int) := by
      by_cases h : c = 49
      · rw [if_pos h, if_pos (decide_eq_true h)]
        omega
      · rw [if_neg h, if_neg (by simpa using h)]
        omega
    rw [this]
    exact ih _
theorem digits_value_ok (t : Tx) : p_digits_value t = .ok (vl t : Int) := by
  unfold p_digits_value
  rw [Res.ok_bind]
  have := fold_vl t 0
  have z : ((0 : Nat) : Int) = 0 := rfl
  rw [z] at this
  rw [this, Res.ok_bind]
  rfl
def p_digits_text (number : Int) (many : Int) : Res Tx :=
  (rng 0 many).bind fun xs1 => (mapC (fun x2 => (shr number x2).bind fun v3 => Res.ok (if (!decide ((v3 % 2 ^ 1) = 0)) then (tx "1") else (tx "0"))) xs1.reverse).bind fun v4 => joinS (tx "") v4
theorem digits_text_ok (v m : Nat) (hm : m ≤ 1000000) : p_digits_text (v : Int) (m : Int) = .ok (dg v m) := by
  unfold p_digits_text
  rw [rng_nat (by omega), Res.ok_bind, ← List.map_reverse]
  rw [mapC_ok (g := fun p : Int => [bd (v / 2 ^ p.toNat)])]
  · rw [Res.ok_bind, List.map_map]
    have e : ((List.range m).reverse.map ((fun p : Int => [bd (v / 2 ^ p.toNat)]) ∘ fun i : Nat => (i : Int))) = (dg v m).map fun c => [c] := by
      unfold dg
      rw [List.map_map]
      rfl
    rw [e]
    exact joinS_ones (by rw [dg_len, line_val]; omega)
  · intro x hx
    obtain ⟨p, hp, rfl⟩ := List.mem_map.mp hx
    rw [shr_nat, Res.ok_bind, Int.toNat_natCast]
    congr 1
    have e : (((v / 2 ^ p : Nat) : Int) % 2 ^ 1) = ((v / 2 ^ p % 2 : Nat) : Int) := by
      rw [Int.natCast_emod]
      rfl
    rw [e]
    unfold bd
    rcases Nat.mod_two_eq_zero_or_one (v / 2 ^ p) with h | h <;> rw [h]
    · rw [if_neg (by decide), if_pos rfl]
      rfl
    · rw [if_pos (by decide), if_neg (by decide)]
      rfl
  · rw [line_val]
    simp
    omega
end C
/-! PZ: sizes and values as the laws draw them; checks of frames and pictures. -/
namespace C
open R
def l_sizes (cell_here : Int) (most : Int) : Res (List Int) :=
  (l_numbers cell_here (5 : Int) (960 : Int)).bind fun row => ((idx row (3 : Int)).bind fun v2 => Res.ok ((1 : Int) + ((2 : Int) * (v2 % (2 : Int))))).bind fun channels => ((idx row (0 : Int)).bind fun v3 => (fmod v3 most).bind fun v4 => Res.ok ((1 : Int) + v4)).bind fun width => ((idx row (1 : Int)).bind fun v5 => (fmod v5 most).bind fun v6 => (mul width channels).bind fun v7 => (fdiv (3072 : Int) v7).bind fun v8 => Res.ok (min2 ((1 : Int) + v6) v8)).bind fun height => (idx row (2 : Int)).bind fun v9 => (idx row (4 : Int)).bind fun v10 => Res.ok ([width, height, ((1 : Int) + (v9 % (8 : Int))), channels, ((1 : Int) + (v10 % (16 : Int)))] : List Int)
theorem list5 {xs : List Int} (h : xs.length = 5) : ∃ a b c d e, xs = [a, b, c, d, e] := by
  match xs, h with
  | [a, b, c, d, e], _ => exact ⟨a, b, c, d, e, rfl⟩
theorem l_sizes_ok (cell : Int) {most : Nat} (h0 : 0 < most) (h1 : most ≤ 64) : ∃ w h d ch t : Nat, l_sizes cell (most : Int) = .ok [(w : Int), (h : Int), (d : Int), (ch : Int), (t : Int)] ∧ 1 ≤ w ∧ w ≤ most ∧ 1 ≤ h ∧ h ≤ most ∧ 1 ≤ d ∧ d ≤ 8 ∧ (ch = 1 ∨ ch = 3) ∧ 1 ≤ t ∧ t ≤ 16 ∧ w * h * ch ≤ 3072 := by
  unfold l_sizes
  obtain ⟨row, er, hl, hb⟩ := l_numbers_ok cell 5 (limit := 960) (by decide) (by decide) (by decide)
  have er' : l_numbers cell 5 960 = .ok row := er
  obtain ⟨a, b, c, d, e, rfl⟩ := list5 hl
  have ha := hb a (by simp)
  have hbb := hb b (by simp)
  have hc := hb c (by simp)
  have hd := hb d (by simp)
  have he := hb e (by simp)
  have i0 : idx [a, b, c, d, e] 0 = .ok a := rfl
  have i1 : idx [a, b, c, d, e] 1 = .ok b := rfl
  have i2 : idx [a, b, c, d, e] 2 = .ok c := rfl
  have i3 : idx [a, b, c, d, e] 3 = .ok d := rfl
  have i4 : idx [a, b, c, d, e] 4 = .ok e := rfl
  have hm : (0 : Int) < (most : Int) := by omega
  have hw1 := Int.emod_nonneg a (by omega : (most : Int) ≠ 0)
  have hw2 := Int.emod_lt_of_pos a hm
  have hh1 := Int.emod_nonneg b (by omega : (most : Int) ≠ 0)
  have hh2 := Int.emod_lt_of_pos b hm
  rw [er', Res.ok_bind, i3, Res.ok_bind, Res.ok_bind, i0, Res.ok_bind, fmod_ok hm, Res.ok_bind, Res.ok_bind, i1, Res.ok_bind, fmod_ok hm, Res.ok_bind]
  generalize hw : (1 + a % (most : Int)) = w at *
  generalize hh : (1 + b % (most : Int)) = h at *
  obtain ⟨ch, hch, ech⟩ : ∃ ch : Nat, (ch = 1 ∨ ch = 3) ∧ (1 + 2 * (d % 2)) = (ch : Int) := by
    rcases Int.emod_two_eq d with z | z
    · exact ⟨1, .inl rfl, by rw [z]; rfl⟩
    · exact ⟨3, .inr rfl, by rw [z]; rfl⟩
  rw [ech]
  obtain ⟨wn, rfl⟩ : ∃ n : Nat, w = (n : Int) := ⟨w.toNat, by omega⟩
  obtain ⟨hn, rfl⟩ : ∃ n : Nat, h = (n : Int) := ⟨h.toNat, by omega⟩
  have hw3 : 1 ≤ wn ∧ wn ≤ most := by omega
  have hh3 : 1 ≤ hn ∧ hn ≤ most := by omega
  have hp : 0 < wn * ch := Nat.mul_pos (by omega) (by omega)
  have hp2 : wn * ch ≤ 192 := by
    have := Nat.mul_le_mul (show wn ≤ 64 by omega) (show ch ≤ 3 by omega)
    omega
  rw [mul_ok 7 2 (by omega) (by omega) (by decide), Res.ok_bind]
  have ec : ((wn : Int) * (ch : Int)) = ((wn * ch : Nat) : Int) := (Int.natCast_mul wn ch).symm
  rw [ec, fdiv_ok (by omega) (log2_small (by omega) (by omega)), Res.ok_bind, Res.ok_bind, i2, Res.ok_bind, i4, Res.ok_bind]
  have hq : ((3072 : Int) / ((wn * ch : Nat) : Int)) = ((3072 / (wn * ch) : Nat) : Int) := by rw [Int.natCast_ediv]; rfl
  have hge : 1 ≤ 3072 / (wn * ch) := (Nat.le_div_iff_mul_le hp).mpr (by omega)
  rw [hq]
  have em : min2 (hn : Int) ((3072 / (wn * ch) : Nat) : Int) = ((min hn (3072 / (wn * ch)) : Nat) : Int) := by
    unfold min2
    split <;> omega
  rw [em]
  refine ⟨wn, min hn (3072 / (wn * ch)), (1 + c % 8).toNat, ch, (1 + e % 16).toNat, ?_, hw3.1, hw3.2, by omega, by omega, by omega, by omega, hch, by omega, by omega, ?_⟩
  · rw [Int.toNat_of_nonneg (by omega), Int.toNat_of_nonneg (by omega)]
  · have h5 : min hn (3072 / (wn * ch)) * (wn * ch) ≤ 3072 := Nat.le_trans (Nat.mul_le_mul_right _ (Nat.min_le_right _ _)) (Nat.div_mul_le_self _ _)
    have : wn * min hn (3072 / (wn * ch)) * ch = min hn (3072 / (wn * ch)) * (wn * ch) := by
      rw [Nat.mul_comm wn, Nat.mul_assoc]
    omega
def l_values (cell_here : Int) (sizes_here : (List Int)) : Res (List (List Int)) :=
  ((idx sizes_here (0 : Int)).bind fun v1 => (idx sizes_here (1 : Int)).bind fun v2 => mul v1 v2).bind fun pixels => ((idx sizes_here (3 : Int)).bind fun v4 => (mul pixels v4).bind fun v5 => (idx sizes_here (2 : Int)).bind fun v6 => (shl (1 : Int) v6).bind fun v7 => l_numbers cell_here v5 v7).bind fun row => (idx sizes_here (3 : Int)).bind fun v9 => (rng 0 v9).bind fun xs10 => mapC (fun x11 => (mul pixels x11).bind fun v12 => (mul pixels x11).bind fun v13 => Res.ok (cut row (some v12) (some (v13 + pixels)))) xs10
theorem cut_nat {α : Type} {xs : List α} {a b : Nat} (h : a + b ≤ xs.length) : cut xs (some (a : Int)) (some ((a + b : Nat) : Int)) = (xs.drop a).take b := by
  unfold cut sIx
  dsimp only
  rw [if_neg (by omega), if_neg (by omega), Int.toNat_natCast, Int.toNat_natCast, Nat.min_eq_left h, Nat.min_eq_left (by omega : a ≤ xs.length)]
  congr 1
  omega
/-- rows of values -/
def Rows (p d ch : Nat) (rows : List (List Int)) : Prop := rows.length = ch ∧ ∀ r ∈ rows, r.length = p ∧ ∀ x ∈ r, 0 ≤ x ∧ x < 2 ^ d
theorem l_values_ok (cell : Int) {w h d ch : Nat} {t : Int} (hp : w * h * ch ≤ 3072) (hw : 0 < w) (hh : 0 < h) (hc : ch = 1 ∨ ch = 3) (hd : d ≤ 8) : ∃ rows, l_values cell [(w : Int), (h : Int), (d : Int), (ch : Int), t] = .ok rows ∧ Rows (w * h) d ch rows := by
  unfold l_values
  have i0 : idx [(w : Int), (h : Int), (d : Int), (ch : Int), t] 0 = .ok (w : Int) := rfl
  have i1 : idx [(w : Int), (h : Int), (d : Int), (ch : Int), t] 1 = .ok (h : Int) := rfl
  have i2 : idx [(w : Int), (h : Int), (d : Int), (ch : Int), t] 2 = .ok (d : Int) := rfl
  have i3 : idx [(w : Int), (h : Int), (d : Int), (ch : Int), t] 3 = .ok (ch : Int) := rfl
  have hpos : 0 < w * h := Nat.mul_pos hw hh
  have hwb : w ≤ 3072 := Nat.le_trans (Nat.le_trans (Nat.le_mul_of_pos_right w hh) (Nat.le_mul_of_pos_right _ (by omega))) hp
  have hhb : h ≤ 3072 := Nat.le_trans (Nat.le_trans (Nat.le_mul_of_pos_left h hw) (Nat.le_mul_of_pos_right _ (by omega))) hp
  have hpb : w * h ≤ 3072 := Nat.le_trans (Nat.le_mul_of_pos_right _ (by omega)) hp
  have e1 : ((w : Int) * (h : Int)) = ((w * h : Nat) : Int) := (Int.natCast_mul w h).symm
  rw [i0, Res.ok_bind, i1, Res.ok_bind, mul_ok 12 12 (by omega) (by omega) (by decide), Res.ok_bind, i3, Res.ok_bind, e1]
  generalize hpx : w * h = px at *
  have e2 : ((px : Int) * (ch : Int)) = ((px * ch : Nat) : Int) := (Int.natCast_mul px ch).symm
  rw [mul_ok 12 2 (by omega) (by omega) (by decide), Res.ok_bind, i2, Res.ok_bind, shl_one (by omega), Res.ok_bind, e2]
  have h2d : (2 : Int) ^ d < 2 ^ 64 := by
    have : (2 : Nat) ^ d ≤ 2 ^ 8 := Nat.pow_le_pow_right (by decide) hd
    have e : ((2 ^ d : Nat) : Int) = (2 : Int) ^ d := by rw [Int.natCast_pow]; rfl
    rw [← e]
    omega
  obtain ⟨ns, en, hl, hb⟩ := l_numbers_ok cell (px * ch) (limit := 2 ^ d) (Int.pow_pos (by decide)) h2d (by rw [line_val]; omega)
  rw [en, Res.ok_bind, Res.ok_bind, rng_nat (by omega), Res.ok_bind]
  rw [mapC_ok (g := fun k : Int => (ns.drop (px * k.toNat)).take px)]
  · refine ⟨_, rfl, by simp, fun r hr => ?_⟩
    obtain ⟨k', hk, rfl⟩ := List.mem_map.mp hr
    obtain ⟨k, hk2, rfl⟩ := List.mem_map.mp hk
    have hkc : k < ch := List.mem_range.mp hk2
    have h5 : px * (k + 1) ≤ px * ch := Nat.mul_le_mul_left _ hkc
    rw [Nat.mul_succ] at h5
    refine ⟨?_, fun x hx => hb x (List.mem_of_mem_drop (List.mem_of_mem_take hx))⟩
    rw [List.length_take, List.length_drop, hl, Int.toNat_natCast]
    omega
  · intro x hx
    obtain ⟨k, hk2, rfl⟩ := List.mem_map.mp hx
    have hkc : k < ch := List.mem_range.mp hk2
    have h5 : px * (k + 1) ≤ px * ch := Nat.mul_le_mul_left _ hkc
    rw [Nat.mul_succ] at h5
    have e3 : ((px : Int) * (k : Int)) = ((px * k : Nat) : Int) := (Int.natCast_mul px k).symm
    have e4 : (((px * k : Nat) : Int) + (px : Int)) = ((px * k + px : Nat) : Int) := (Int.natCast_add (px * k) px).symm
    rw [mul_ok 12 2 (by omega) (by omega) (by decide), Res.ok_bind, Res.ok_bind, e3, e4, cut_nat (by omega), Int.toNat_natCast]
  · rw [line_val]
    simp
    omega
end C
/-! PF: frames (shared mirror defs and what they give). -/
namespace C
open R
abbrev Frame := Int × Int × Int × Int × Int

def p_check_shape (width : Int) (height : Int) (depth : Int) (channels : Int) : Res Unit :=
  if (!(decide ((1 : Int) ≤ width) && decide (width ≤ (64 : Int)))) then Res.exn (.oor (tx "width")) else if (!(decide ((1 : Int) ≤ height) && decide (height ≤ (64 : Int)))) then Res.exn (.oor (tx "height")) else if (!(decide ((1 : Int) ≤ depth) && decide (depth ≤ (8 : Int)))) then Res.exn (.oor (tx "depth")) else if ((!decide (channels = (1 : Int))) && (!decide (channels = (3 : Int)))) then Res.exn (.oor (tx "channels")) else Res.ok ()

def p_check_size (width : Int) (height : Int) (channels : Int) : Res Unit :=
  ((mul width height).bind fun v1 => (mul v1 channels).bind fun v2 => Res.ok (decide ((3072 : Int) < v2))).bind fun b3 => if b3 then Res.exn (.oor (tx "size")) else Res.ok ()

def p_Frame___init__ (width : Int) (height : Int) (depth : Int) (channels : Int) (tile : Int) : Res C.Frame :=
  (p_check_shape width height depth channels).bind fun _ => if (!(decide ((1 : Int) ≤ tile) && decide (tile ≤ (16 : Int)))) then Res.exn (.oor (tx "tile")) else (p_check_size width height channels).bind fun _ => (Res.ok width).bind fun f3 => (Res.ok height).bind fun f4 => (Res.ok depth).bind fun f5 => (Res.ok channels).bind fun f6 => (Res.ok tile).bind fun f7 => Res.ok (f3, f4, f5, f6, f7)

def p_Frame_across (self : C.Frame) : Res Int :=
  fdiv ((self.1 + self.2.2.2.2) - (1 : Int)) self.2.2.2.2

def p_Frame_down (self : C.Frame) : Res Int :=
  fdiv ((self.2.1 + self.2.2.2.2) - (1 : Int)) self.2.2.2.2

def p_Frame_tiles (self : C.Frame) : Res Int :=
  (p_Frame_across self).bind fun v1 => (p_Frame_down self).bind fun v2 => mul v1 v2

def p_Frame_pixels (self : C.Frame) : Res Int :=
  mul self.1 self.2.1

def p_Frame_packets (self : C.Frame) : Res Int :=
  (mul self.2.2.1 self.2.2.2.1).bind fun v1 => (p_Frame_tiles self).bind fun v2 => mul v1 v2

def l_is_int (actual : Int) : Res Bool :=
  Res.ok (true && (!false))

def p_tile_corner (frame : C.Frame) (tile : Int) : Res (Int × Int) :=
  ((p_Frame_across frame).bind fun v1 => dvm tile v1).bind fun t3 => (mul t3.2 frame.2.2.2.2).bind fun v4 => (mul t3.1 frame.2.2.2.2).bind fun v5 => Res.ok (v4, v5)

def p_tile_size (frame : C.Frame) (tile : Int) : Res (Int × Int) :=
  (p_tile_corner frame tile).bind fun t2 => Res.ok ((min2 frame.2.2.2.2 (frame.1 - t2.1)), (min2 frame.2.2.2.2 (frame.2.1 - t2.2)))

def p_check_key (frame : C.Frame) (key : (Int × Int × Int)) : Res Unit :=
  (Res.ok key).bind fun t1 => if (!(decide ((0 : Int) ≤ t1.1) && decide (t1.1 < frame.2.2.2.1))) then Res.exn (.oor (tx "channel")) else ((if decide ((0 : Int) ≤ t1.2.1) then (p_Frame_tiles frame).bind fun v2 => Res.ok (decide (t1.2.1 < v2)) else Res.ok false).bind fun v3 => Res.ok (!v3)).bind fun b4 => if b4 then Res.exn (.oor (tx "tile")) else if (!(decide ((0 : Int) ≤ t1.2.2) && decide (t1.2.2 < frame.2.2.1))) then Res.exn (.oor (tx "plane")) else Res.ok ()

def p_check_pixel (frame : C.Frame) (channel : Int) (pixel : Int) : Res Unit :=
  if (!(decide ((0 : Int) ≤ channel) && decide (channel < frame.2.2.2.1))) then Res.exn (.oor (tx "channel")) else ((if decide ((0 : Int) ≤ pixel) then (p_Frame_pixels frame).bind fun v1 => Res.ok (decide (pixel < v1)) else Res.ok false).bind fun v2 => Res.ok (!v2)).bind fun b3 => if b3 then Res.exn (.oor (tx "pixel")) else Res.ok ()

def l_tiles (sizes_here : (List Int)) : Res Int :=
  (idx sizes_here (0 : Int)).bind fun v1 => (idx sizes_here (4 : Int)).bind fun v2 => (idx sizes_here (4 : Int)).bind fun v3 => (fdiv ((v1 + v2) - (1 : Int)) v3).bind fun v4 => (idx sizes_here (1 : Int)).bind fun v5 => (idx sizes_here (4 : Int)).bind fun v6 => (idx sizes_here (4 : Int)).bind fun v7 => (fdiv ((v5 + v6) - (1 : Int)) v7).bind fun v8 => mul v4 v8

theorem filC_nat {t : Int → Res Bool} {b : Nat → Bool} {n : Nat} (h : ∀ i, i < n → t (i : Int) = .ok (b i)) (hl : n ≤ line) : filC t (fun x => Res.ok x) ((List.range n).map fun i : Nat => (i : Int)) = .ok (((List.range n).filter b).map fun i : Nat => (i : Int)) := by
  rw [filC_ok (b := fun x : Int => b x.toNat) (g := fun x => x) (fun x hx => by
    obtain ⟨i, hi, rfl⟩ := List.mem_map.mp hx
    rw [h i (List.mem_range.mp hi), Int.toNat_natCast]) (fun x _ => rfl) (by simp; exact hl), List.map_id', List.filter_map]
  rfl
theorem shape_ok {w h d ch : Nat} (hw : 1 ≤ w) (hw2 : w ≤ 64) (hh : 1 ≤ h) (hh2 : h ≤ 64) (hd : 1 ≤ d) (hd2 : d ≤ 8) (hc : ch = 1 ∨ ch = 3) : p_check_shape (w : Int) (h : Int) (d : Int) (ch : Int) = .ok () := by
  unfold p_check_shape
  rw [if_neg (by simp; omega), if_neg (by simp; omega), if_neg (by simp; omega), if_neg (by rcases hc with rfl | rfl <;> simp)]
theorem size_ok {w h ch : Nat} (hp : w * h * ch ≤ 3072) (hw2 : w ≤ 64) (hh2 : h ≤ 64) (hc : ch = 1 ∨ ch = 3) : p_check_size (w : Int) (h : Int) (ch : Int) = .ok () := by
  unfold p_check_size
  have e1 : ((w : Int) * (h : Int)) = ((w * h : Nat) : Int) := (Int.natCast_mul w h).symm
  have e2 : (((w * h : Nat) : Int) * (ch : Int)) = ((w * h * ch : Nat) : Int) := (Int.natCast_mul (w * h) ch).symm
  have hb : w * h ≤ 64 * 64 := Nat.mul_le_mul hw2 hh2
  rw [mul_ok 7 7 (by omega) (by omega) (by decide), Res.ok_bind, e1, mul_ok 13 2 (by omega) (by omega) (by decide), Res.ok_bind, Res.ok_bind, e2, if_neg (by rw [decide_eq_true_eq]; omega)]
theorem init_ok {w h d ch t : Nat} (hw : 1 ≤ w) (hw2 : w ≤ 64) (hh : 1 ≤ h) (hh2 : h ≤ 64) (hd : 1 ≤ d) (hd2 : d ≤ 8) (hc : ch = 1 ∨ ch = 3) (ht : 1 ≤ t) (ht2 : t ≤ 16) (hp : w * h * ch ≤ 3072) :
    p_Frame___init__ (w : Int) (h : Int) (d : Int) (ch : Int) (t : Int) = .ok ((w : Int), (h : Int), (d : Int), (ch : Int), (t : Int)) := by
  unfold p_Frame___init__
  rw [shape_ok hw hw2 hh hh2 hd hd2 hc, Res.ok_bind, if_neg (by simp; omega), size_ok hp hw2 hh2 hc, Res.ok_bind]
  rfl
section
variable {w h d ch t : Nat}
theorem up_div (w t : Nat) (ht : 1 ≤ t) (hw : 1 ≤ w) : (((w : Int) + (t : Int)) - 1) / (t : Int) = (((w + t - 1) / t : Nat) : Int) := by
  have e : (((w : Int) + (t : Int)) - 1) = ((w + t - 1 : Nat) : Int) := by omega
  rw [e, Int.natCast_ediv]
theorem across_ok (ht : 1 ≤ t) (ht2 : t ≤ 16) (hw : 1 ≤ w) : p_Frame_across ((w : Int), (h : Int), (d : Int), (ch : Int), (t : Int)) = .ok (((w + t - 1) / t : Nat) : Int) := by
  unfold p_Frame_across
  dsimp only
  rw [fdiv_ok (by omega) (log2_small (by omega) (by omega)), up_div w t ht hw]
theorem down_ok (ht : 1 ≤ t) (ht2 : t ≤ 16) (hh : 1 ≤ h) : p_Frame_down ((w : Int), (h : Int), (d : Int), (ch : Int), (t : Int)) = .ok (((h + t - 1) / t : Nat) : Int) := by
  unfold p_Frame_down
  dsimp only
  rw [fdiv_ok (by omega) (log2_small (by omega) (by omega)), up_div h t ht hh]
theorem up_le {w t : Nat} (ht : 1 ≤ t) (hw : w ≤ 64) : (w + t - 1) / t ≤ 64 := by
  rw [Nat.div_le_iff_le_mul_add_pred ht]
  have : 64 ≤ t * 64 := by omega
  omega
end
theorem is_int (x : Int) : l_is_int x = .ok true := rfl
end C
namespace C
open R
theorem mul_nat {a b : Nat} (n m : Nat) (ha : a < 2 ^ n) (hb : b < 2 ^ m) (h : n + m ≤ 134217728) : mul (a : Int) (b : Int) = .ok ((a * b : Nat) : Int) := by
  rw [mul_ok n m (by omega) (by omega) h, Int.natCast_mul]
section
variable {w h d ch t : Nat}
theorem tiles_ok (ht : 1 ≤ t) (ht2 : t ≤ 16) (hw : 1 ≤ w) (hw2 : w ≤ 64) (hh : 1 ≤ h) (hh2 : h ≤ 64) : p_Frame_tiles ((w : Int), (h : Int), (d : Int), (ch : Int), (t : Int)) = .ok (((w + t - 1) / t * ((h + t - 1) / t) : Nat) : Int) := by
  unfold p_Frame_tiles
  have hA := up_le ht hw2
  have hD := up_le ht hh2
  rw [across_ok ht ht2 hw, Res.ok_bind, down_ok ht ht2 hh, Res.ok_bind, mul_nat 7 7 (by omega) (by omega) (by decide)]
theorem pixels_ok (hw2 : w ≤ 64) (hh2 : h ≤ 64) : p_Frame_pixels ((w : Int), (h : Int), (d : Int), (ch : Int), (t : Int)) = .ok ((w * h : Nat) : Int) := by
  unfold p_Frame_pixels
  exact mul_nat 7 7 (by omega) (by omega) (by decide)
theorem up_pos (ht : 1 ≤ t) (hw : 1 ≤ w) : 1 ≤ (w + t - 1) / t := (Nat.le_div_iff_mul_le (by omega)).mpr (by omega)
/-- check_key, whole -/
theorem check_key_ok (ht : 1 ≤ t) (ht2 : t ≤ 16) (hw : 1 ≤ w) (hw2 : w ≤ 64) (hh : 1 ≤ h) (hh2 : h ≤ 64) (c tl p : Int) : p_check_key ((w : Int), (h : Int), (d : Int), (ch : Int), (t : Int)) (c, tl, p) =
    if c < 0 ∨ (ch : Int) ≤ c then .exn (.oor (tx "channel")) else if tl < 0 ∨ (((w + t - 1) / t * ((h + t - 1) / t) : Nat) : Int) ≤ tl then .exn (.oor (tx "tile")) else if p < 0 ∨ (d : Int) ≤ p then .exn (.oor (tx "plane")) else .ok () := by
  unfold p_check_key
  rw [tiles_ok ht ht2 hw hw2 hh hh2]
  simp only [Res.ok_bind]
  by_cases h1 : c < 0 ∨ (ch : Int) ≤ c
  · rw [if_pos h1, if_pos (by simp <;> omega)]
  · rw [if_neg h1, if_neg (by simp <;> omega)]
    by_cases h2 : 0 ≤ tl
    · rw [if_pos (decide_eq_true h2), Res.ok_bind, Res.ok_bind]
      by_cases h3 : tl < 0 ∨ (((w + t - 1) / t * ((h + t - 1) / t) : Nat) : Int) ≤ tl
      · rw [if_pos h3, if_pos (by simp only [Bool.not_eq_true', decide_eq_false_iff_not]; omega)]
      · rw [if_neg h3, if_neg (by simp only [Bool.not_eq_true', decide_eq_false_iff_not]; omega)]
        by_cases h4 : p < 0 ∨ (d : Int) ≤ p
        · rw [if_pos h4, if_pos (by simp <;> omega)]
        · rw [if_neg h4, if_neg (by simp <;> omega)]
    · rw [if_neg (by simpa using h2), Res.ok_bind, Res.ok_bind, if_pos (by decide), if_pos (.inl (by omega))]
theorem check_pixel_ok (hw2 : w ≤ 64) (hh2 : h ≤ 64) (c p : Int) : p_check_pixel ((w : Int), (h : Int), (d : Int), (ch : Int), (t : Int)) c p =
    if c < 0 ∨ (ch : Int) ≤ c then .exn (.oor (tx "channel")) else if p < 0 ∨ ((w * h : Nat) : Int) ≤ p then .exn (.oor (tx "pixel")) else .ok () := by
  unfold p_check_pixel
  rw [pixels_ok hw2 hh2]
  by_cases h1 : c < 0 ∨ (ch : Int) ≤ c
  · rw [if_pos h1, if_pos (by simp <;> omega)]
  · rw [if_neg h1, if_neg (by simp <;> omega)]
    by_cases h2 : 0 ≤ p
    · rw [if_pos (decide_eq_true h2), Res.ok_bind, Res.ok_bind, Res.ok_bind]
      by_cases h3 : p < 0 ∨ ((w * h : Nat) : Int) ≤ p
      · rw [if_pos h3, if_pos (by simp only [Bool.not_eq_true', decide_eq_false_iff_not]; omega)]
      · rw [if_neg h3, if_neg (by simp only [Bool.not_eq_true', decide_eq_false_iff_not]; omega)]
    · rw [if_neg (by simpa using h2), Res.ok_bind, Res.ok_bind, if_pos (by decide), if_pos (.inl (by omega))]
theorem l_tiles_ok (ht : 1 ≤ t) (ht2 : t ≤ 16) (hw : 1 ≤ w) (hw2 : w ≤ 64) (hh : 1 ≤ h) (hh2 : h ≤ 64) : l_tiles [(w : Int), (h : Int), (d : Int), (ch : Int), (t : Int)] = .ok (((w + t - 1) / t * ((h + t - 1) / t) : Nat) : Int) := by
  unfold l_tiles
  have hA := up_le ht hw2
  have hD := up_le ht hh2
  have i0 : idx [(w : Int), (h : Int), (d : Int), (ch : Int), (t : Int)] 0 = .ok (w : Int) := rfl
  have i1 : idx [(w : Int), (h : Int), (d : Int), (ch : Int), (t : Int)] 1 = .ok (h : Int) := rfl
  have i4 : idx [(w : Int), (h : Int), (d : Int), (ch : Int), (t : Int)] 4 = .ok (t : Int) := rfl
  rw [i0, Res.ok_bind, i4, Res.ok_bind, Res.ok_bind, fdiv_ok (by omega) (log2_small (by omega) (by omega)), up_div w t ht hw, Res.ok_bind, i1, Res.ok_bind, Res.ok_bind, Res.ok_bind, fdiv_ok (by omega) (log2_small (by omega) (by omega)), up_div h t ht hh, Res.ok_bind, mul_nat 7 7 (by omega) (by omega) (by decide)]
end
end C
/-! PG: walks that give lists; keys. -/
namespace R
theorem loop_nx {α S B : Type} {f : α → S → Res (Ctl S B)} {s : S} : ∀ {xs : List α}, (∀ x ∈ xs, f x s = .ok (.nx s)) → loop f xs s = .ok (.nx s)
  | [], _ => rfl
  | x :: r, h => by
    rw [loop, h x List.mem_cons_self, Res.ok_bind]
    exact loop_nx fun y hy => h y (List.mem_cons_of_mem _ hy)
theorem catK_ok {α β : Type} {f : α → Res (List β)} {g : α → List β} : ∀ {xs : List α}, (∀ x ∈ xs, f x = .ok (g x)) → catK f xs = .ok (xs.flatMap g)
  | [], _ => rfl
  | x :: r, h => by
    rw [catK, h x List.mem_cons_self, Res.ok_calm, Res.ok_bind, catK_ok fun y hy => h y (List.mem_cons_of_mem _ hy), Res.ok_bind, List.flatMap_cons]
theorem catC_ok {α β : Type} {f : α → Res (List β)} {g : α → List β} {xs : List α} (h : ∀ x ∈ xs, f x = .ok (g x)) (hl : (xs.flatMap g).length ≤ line) : catC f xs = .ok (xs.flatMap g) := by
  rw [catC, catK_ok h, Res.ok_bind, chk_of (decide_eq_true hl)]
theorem catK_map {α β : Type} {f : α → Res (List β)} {g : α → β} {xs : List α} (h : ∀ x ∈ xs, f x = .ok [g x]) : catK f xs = .ok (xs.map g) := by
  rw [catK_ok (g := fun x => [g x]) h]
  congr 1
  induction xs with
  | nil => rfl
  | cons x r ih => rw [List.flatMap_cons, ih fun y hy => h y (List.mem_cons_of_mem _ hy)]; rfl
/-- a loop that pushes one item a turn -/
theorem fold_push {α β : Type} {f : α → List β → Res (List β)} {g : α → β} : ∀ {xs : List α} {s : List β}, (∀ x ∈ xs, ∀ s, s.length < line → f x s = .ok (s ++ [g x])) → s.length + xs.length ≤ line → fold f xs s = .ok (s ++ xs.map g)
  | [], s, _, _ => by simp [fold]
  | x :: r, s, h, hl => by
    rw [fold_cons, h x List.mem_cons_self s (by simp at hl; omega), Res.ok_bind, fold_push (fun y hy => h y (List.mem_cons_of_mem _ hy)) (by simp at hl ⊢; omega)]
    simp
theorem fold_cat {α β : Type} {f : α → List β → Res (List β)} {g : α → List β} {n : Nat} : ∀ {xs : List α} {s : List β}, (∀ x ∈ xs, (g x).length = n) → (∀ x ∈ xs, ∀ s, s.length + n ≤ line → f x s = .ok (s ++ g x)) → s.length + xs.length * n ≤ line → fold f xs s = .ok (s ++ xs.flatMap g)
  | [], s, _, _, _ => by simp [fold]
  | x :: r, s, hn, h, hl => by
    have e : (x :: r).length * n = r.length * n + n := by rw [List.length_cons, Nat.add_mul, Nat.one_mul]
    rw [fold_cons, h x List.mem_cons_self s (by omega), Res.ok_bind, fold_cat (fun y hy => hn y (List.mem_cons_of_mem _ hy)) (fun y hy => h y (List.mem_cons_of_mem _ hy)) (by rw [List.length_append, hn x List.mem_cons_self]; omega), List.flatMap_cons, List.append_assoc]
theorem flatMap_len {α β : Type} {g : α → List β} {n : Nat} : ∀ {xs : List α}, (∀ x ∈ xs, (g x).length = n) → (xs.flatMap g).length = xs.length * n
  | [], _ => by simp
  | x :: r, h => by
    rw [List.flatMap_cons, List.length_append, h x List.mem_cons_self, flatMap_len fun y hy => h y (List.mem_cons_of_mem _ hy), List.length_cons, Nat.add_mul, Nat.one_mul, Nat.add_comm]
/-- the place of an item of lists of one length -/
theorem flatMap_get {α β : Type} {g : α → List β} {n : Nat} : ∀ {xs : List α} {i j : Nat} (hi : i < xs.length) (hj : j < n), (∀ x ∈ xs, (g x).length = n) → (xs.flatMap g)[i * n + j]? = (g xs[i])[j]?
  | x :: r, 0, j, _, hj, h => by
    rw [List.flatMap_cons, List.getElem?_append_left (by rw [h x List.mem_cons_self]; omega)]
    simp
  | x :: r, i + 1, j, hi, hj, h => by
    have e : (i + 1) * n + j = n + (i * n + j) := by rw [Nat.add_mul, Nat.one_mul]; omega
    rw [List.flatMap_cons, List.getElem?_append_right (by rw [h x List.mem_cons_self, e]; omega), h x List.mem_cons_self, e, Nat.add_sub_cancel_left]
    exact flatMap_get (by simpa using hi) hj fun y hy => h y (List.mem_cons_of_mem _ hy)
theorem revL_ok {n : Nat} (h : n ≤ 16777216) : revL (n : Int) = .ok (((List.range n).map fun i : Nat => (i : Int)).reverse) := by
  unfold revL
  rw [range_nat, chk_of]
  simp only [Bool.and_eq_true, decide_eq_true_eq]
  omega
theorem dvm_nat {a b : Nat} (h : 0 < b) (h2 : b < 1073741824) : dvm (a : Int) (b : Int) = .ok (((a / b : Nat) : Int), ((a % b : Nat) : Int)) := by
  unfold dvm
  rw [chk_of]
  · rw [Int.natCast_ediv, Int.natCast_emod]
  · simp only [Bool.and_eq_true, decide_eq_true_eq]
    omega
end R
namespace C
open R
def p_all_keys (frame : C.Frame) : Res (List (Int × Int × Int)) :=
  (p_Frame_tiles frame).bind fun tiles => (revL frame.2.2.1).bind fun planes => catC (fun x3 => (rng 0 frame.2.2.2.1).bind fun xs4 => catK (fun x5 => (rng 0 tiles).bind fun xs6 => catK (fun x7 => Res.ok [(x5, x7, x3)]) xs6) xs4) planes

def p_key_at (frame : C.Frame) (number : Int) : Res (Int × Int × Int) :=
  ((p_Frame_tiles frame).bind fun v1 => dvm number v1).bind fun t3 => (dvm t3.1 frame.2.2.2.1).bind fun t5 => Res.ok (t5.2, t3.2, ((frame.2.2.1 - (1 : Int)) - t5.1))

def p_key_number (frame : C.Frame) (key : (Int × Int × Int)) : Res Int :=
  (Res.ok key).bind fun t1 => (mul ((frame.2.2.1 - (1 : Int)) - t1.2.2) frame.2.2.2.1).bind fun v2 => (p_Frame_tiles frame).bind fun v3 => (mul (v2 + t1.1) v3).bind fun v4 => Res.ok (v4 + t1.2.1)

/-- the keys in order: p planes below, c channels, t tiles -/
def keyOf (d c n : Nat) (i : Nat) : Int × Int × Int := (((i / n % c : Nat) : Int), ((i % n : Nat) : Int), ((d - 1 - i / n / c : Nat) : Int))
def keys (d c n : Nat) : List (Int × Int × Int) := (List.range (d * c * n)).map (keyOf d c n)
theorem keys_nest (d c n : Nat) : (((List.range d).map fun i : Nat => (i : Int)).reverse).flatMap (fun p => ((List.range c).map fun i : Nat => (i : Int)).flatMap fun ch => ((List.range n).map fun i : Nat => (i : Int)).map fun t => (ch, t, p)) = keys d c n := by
  have l1 : ∀ p : Int, (((List.range c).map fun i : Nat => (i : Int)).flatMap fun ch => ((List.range n).map fun i : Nat => (i : Int)).map fun t => (ch, t, p)).length = c * n := fun p => by
    rw [flatMap_len (n := n) (fun x _ => by simp)]
    simp
  have l2 : ((((List.range d).map fun i : Nat => (i : Int)).reverse).flatMap (fun p => ((List.range c).map fun i : Nat => (i : Int)).flatMap fun ch => ((List.range n).map fun i : Nat => (i : Int)).map fun t => (ch, t, p))).length = d * (c * n) := by
    rw [flatMap_len (n := c * n) (fun p _ => l1 p)]
    simp
  refine List.ext_getElem? fun i => ?_
  by_cases h : i < d * (c * n)
  · have hn : 0 < n := Nat.pos_of_ne_zero fun z => by simp [z] at h
    have hc : 0 < c := Nat.pos_of_ne_zero fun z => by simp [z] at h
    have hcn : 0 < c * n := Nat.mul_pos hc hn
    have hd : i / (c * n) < d := Nat.div_lt_of_lt_mul (Nat.lt_of_lt_of_eq h (Nat.mul_comm _ _))
    have e1 : i = i / (c * n) * (c * n) + i % (c * n) := (Nat.div_add_mod' _ _).symm
    have e2 : i % (c * n) = i % (c * n) / n * n + i % (c * n) % n := (Nat.div_add_mod' _ _).symm
    have h2 : i % (c * n) / n < c := Nat.div_lt_of_lt_mul (Nat.lt_of_lt_of_eq (Nat.mod_lt _ hcn) (Nat.mul_comm c n))
    have lhs : ((((List.range d).map fun i : Nat => (i : Int)).reverse).flatMap (fun p => ((List.range c).map fun i : Nat => (i : Int)).flatMap fun ch => ((List.range n).map fun i : Nat => (i : Int)).map fun t => (ch, t, p)))[i]? = some (((i % (c * n) / n : Nat) : Int), ((i % (c * n) % n : Nat) : Int), ((d - 1 - i / (c * n) : Nat) : Int)) := by
      conv => lhs; rw [e1]
      rw [flatMap_get (n := c * n) (by simpa using hd) (Nat.mod_lt _ hcn) (fun p _ => l1 p)]
      conv => lhs; rw [e2]
      rw [flatMap_get (n := n) (by simpa using h2) (Nat.mod_lt _ hn) (fun p _ => by simp)]
      rw [List.getElem?_map, List.getElem?_map, List.getElem?_range (Nat.mod_lt _ hn)]
      simp
    rw [lhs]
    unfold keys
    rw [List.getElem?_map, List.getElem?_range (by rw [Nat.mul_assoc]; exact h)]
    show _ = some (keyOf d c n i)
    unfold keyOf
    have a1 : i % (c * n) / n = i / n % c := by rw [Nat.mul_comm c n, Nat.mod_mul_right_div_self]
    have a2 : i % (c * n) % n = i % n := by rw [Nat.mod_mul_left_mod]
    have a3 : i / (c * n) = i / n / c := by rw [Nat.mul_comm, Nat.div_div_eq_div_mul]
    rw [a1, a2, a3]
  · rw [List.getElem?_eq_none (by rw [l2]; omega), List.getElem?_eq_none (by unfold keys; rw [List.length_map, List.length_range, Nat.mul_assoc]; omega)]
section
variable {w h d ch t : Nat}
theorem all_keys_ok (ht : 1 ≤ t) (ht2 : t ≤ 16) (hw : 1 ≤ w) (hw2 : w ≤ 64) (hh : 1 ≤ h) (hh2 : h ≤ 64) (hd : d ≤ 8) (hc : ch ≤ 3) : p_all_keys ((w : Int), (h : Int), (d : Int), (ch : Int), (t : Int)) = .ok (keys d ch ((w + t - 1) / t * ((h + t - 1) / t))) := by
  unfold p_all_keys
  have hN : (w + t - 1) / t * ((h + t - 1) / t) ≤ 64 * 64 := Nat.mul_le_mul (up_le ht hw2) (up_le ht hh2)
  rw [tiles_ok ht ht2 hw hw2 hh hh2, Res.ok_bind]
  dsimp only
  rw [revL_ok (by omega), Res.ok_bind, ← keys_nest]
  generalize (w + t - 1) / t * ((h + t - 1) / t) = N at *
  refine catC_ok (fun p _ => ?_) ?_
  · rw [rng_nat (by omega), Res.ok_bind]
    refine catK_ok fun c _ => ?_
    rw [rng_nat (by omega), Res.ok_bind]
    exact catK_map fun x _ => rfl
  · rw [keys_nest]
    unfold keys
    rw [List.length_map, List.length_range, line_val]
    have : d * ch ≤ 8 * 3 := Nat.mul_le_mul hd hc
    have := Nat.mul_le_mul this hN
    omega
theorem key_at_ok (ht : 1 ≤ t) (ht2 : t ≤ 16) (hw : 1 ≤ w) (hw2 : w ≤ 64) (hh : 1 ≤ h) (hh2 : h ≤ 64) (hc : 1 ≤ ch) (hc2 : ch ≤ 3) {i : Nat} (hi : i < d * ch * ((w + t - 1) / t * ((h + t - 1) / t))) : p_key_at ((w : Int), (h : Int), (d : Int), (ch : Int), (t : Int)) (i : Int) = .ok (keyOf d ch ((w + t - 1) / t * ((h + t - 1) / t)) i) := by
  unfold p_key_at
  have hN : (w + t - 1) / t * ((h + t - 1) / t) ≤ 64 * 64 := Nat.mul_le_mul (up_le ht hw2) (up_le ht hh2)
  have hP : 1 ≤ (w + t - 1) / t * ((h + t - 1) / t) := Nat.mul_le_mul (up_pos ht hw) (up_pos ht hh)
  rw [tiles_ok ht ht2 hw hw2 hh hh2, Res.ok_bind]
  generalize (w + t - 1) / t * ((h + t - 1) / t) = N at *
  rw [dvm_nat (by omega) (by omega), Res.ok_bind]
  dsimp only
  rw [dvm_nat (by omega) (by omega), Res.ok_bind]
  unfold keyOf
  have hlt : i / N / ch < d := by
    rw [Nat.div_div_eq_div_mul]
    exact Nat.div_lt_of_lt_mul (by rw [Nat.mul_assoc, Nat.mul_comm, Nat.mul_comm ch N] at hi; exact hi)
  congr 3
  dsimp only
  omega
theorem key_number_ok (ht : 1 ≤ t) (ht2 : t ≤ 16) (hw : 1 ≤ w) (hw2 : w ≤ 64) (hh : 1 ≤ h) (hh2 : h ≤ 64) (hd : d ≤ 8) (hc : 1 ≤ ch) (hc2 : ch ≤ 3) {i : Nat} (hi : i < d * ch * ((w + t - 1) / t * ((h + t - 1) / t))) : p_key_number ((w : Int), (h : Int), (d : Int), (ch : Int), (t : Int)) (keyOf d ch ((w + t - 1) / t * ((h + t - 1) / t)) i) = .ok (i : Int) := by
  unfold p_key_number keyOf
  have hN : (w + t - 1) / t * ((h + t - 1) / t) ≤ 64 * 64 := Nat.mul_le_mul (up_le ht hw2) (up_le ht hh2)
  have hP : 1 ≤ (w + t - 1) / t * ((h + t - 1) / t) := Nat.mul_le_mul (up_pos ht hw) (up_pos ht hh)
  rw [tiles_ok ht ht2 hw hw2 hh hh2, Res.ok_bind]
  generalize (w + t - 1) / t * ((h + t - 1) / t) = N at *
  have hlt : i / N / ch < d := by
    rw [Nat.div_div_eq_div_mul]
    exact Nat.div_lt_of_lt_mul (by rw [Nat.mul_assoc, Nat.mul_comm, Nat.mul_comm ch N] at hi; exact hi)
  dsimp only
  have e1 : ((d : Int) - 1 - ((d - 1 - i / N / ch : Nat) : Int)) = ((i / N / ch : Nat) : Int) := by omega
  have b1 : i / N / ch * ch ≤ 8 * 3 := Nat.mul_le_mul (by omega) hc2
  have hm := Nat.mod_lt (i / N) (show 0 < ch by omega)
  have e3 : (((i / N / ch * ch : Nat) : Int) + ((i / N % ch : Nat) : Int)) = ((i / N / ch * ch + i / N % ch : Nat) : Int) := by omega
  have e4 : i / N / ch * ch + i / N % ch = i / N := by rw [Nat.mul_comm]; exact Nat.div_add_mod _ _
  rw [e1, mul_nat 4 2 (by omega) (by omega) (by decide), Res.ok_bind, Res.ok_bind, e3, e4, mul_nat 7 13 (by omega) (by omega) (by decide), Res.ok_bind]
  have e5 : ((i / N * N : Nat) : Int) + ((i % N : Nat) : Int) = (i : Int) := by
    have : i / N * N + i % N = i := by rw [Nat.mul_comm]; exact Nat.div_add_mod _ _
    omega
  rw [e5]
end
end C
/-! PT: tiles and their pixels. -/
namespace R
/-- an invariant by the number of turns, of a loop that goes on -/
theorem loop_n {α S B : Type} {f : α → S → Res (Ctl S B)} {xs : List α} {s0 : S} (I : Nat → S → Prop) (h0 : I 0 s0) (hs : ∀ i (hi : i < xs.length) s, I i s → ∃ s', f xs[i] s = .ok (.nx s') ∧ I (i + 1) s') : ∃ s, loop f xs s0 = .ok (.nx s) ∧ I xs.length s := by
  have go : ∀ (ys : List α) (i : Nat) (s : S), xs.drop i = ys → I i s → i ≤ xs.length → ∃ s', loop f ys s = .ok (.nx s') ∧ I xs.length s' := by
    intro ys
    induction ys with
    | nil =>
      intro i s hd hi hl
      have : i = xs.length := by
        have := congrArg List.length hd
        rw [List.length_drop] at this
        simp at this
        omega
      exact ⟨s, rfl, this ▸ hi⟩
    | cons y r ih =>
      intro i s hd hi hl
      have hlt : i < xs.length := by
        have := congrArg List.length hd
        rw [List.length_drop] at this
        simp at this
        omega
      rw [List.drop_eq_getElem_cons hlt] at hd
      cases hd
      obtain ⟨s1, e1, h1⟩ := hs i hlt s hi
      obtain ⟨s2, e2, h2⟩ := ih (i + 1) s1 rfl h1 hlt
      exact ⟨s2, by rw [loop, e1, Res.ok_bind]; exact e2, h2⟩
  obtain ⟨s, e, h⟩ := go xs 0 s0 (by rw [List.drop_zero]) h0 (Nat.zero_le _)
  exact ⟨s, e, h⟩
theorem loop_st {α S B : Type} {f : α → S → Res (Ctl S B)} {xs : List α} (st : Nat → S) (hs : ∀ i (hi : i < xs.length), f xs[i] (st i) = .ok (.nx (st (i + 1)))) : loop f xs (st 0) = .ok (.nx (st xs.length)) := by
  obtain ⟨s, e, h⟩ := loop_n (f := f) (xs := xs) (s0 := st 0) (fun i s => s = st i) rfl fun i hi s h => ⟨_, by rw [h]; exact hs i hi, rfl⟩
  rw [e, h]
theorem ite_iff {α : Type} {p q : Prop} [Decidable p] [Decidable q] {a b : α} (h : p ↔ q) : (if p then a else b) = if q then a else b := by simp only [h]
theorem rep_one {α : Type} (v : α) (n : Nat) (hn : n ≤ line) : rep ([v] : List α) (n : Int) = .ok (List.replicate n v) := by
  have e : ∀ m : Nat, (List.replicate m [v]).flatten = List.replicate m v := fun m => by
    induction m with
    | zero => rfl
    | succ n ih => rw [List.replicate_succ, List.flatten_cons, ih, List.replicate_succ]; rfl
  unfold rep
  have hl := hn
  rw [line_val] at hn
  rw [chk_of]
  · rw [Int.toNat_natCast, e]
  · simp only [Bool.and_eq_true, decide_eq_true_eq]
    refine ⟨by omega, by omega, ?_⟩
    show (0 + 1) * ((n : Int)).toNat ≤ line
    rw [Int.toNat_natCast]
    omega
end R
namespace C
open R
def p_tile_pixels (frame : C.Frame) (tile : Int) : Res (List Int) :=
  (p_tile_corner frame tile).bind fun t2 => (p_tile_size frame tile).bind fun t4 => (rng 0 t4.2).bind fun xs5 => catC (fun x6 => (rng 0 t4.1).bind fun xs7 => catK (fun x8 => (mul (t2.2 + x6) frame.1).bind fun v9 => Res.ok [((v9 + t2.1) + x8)]) xs7) xs5

def l_are_ints (row : (List Int)) : Res Bool :=
  if true then (mapC (fun x1 => l_is_int x1) row).bind fun v3 => Res.ok (v3.all id) else Res.ok false

def p_locate_pixel (frame : C.Frame) (pixel : Int) : Res (Int × Int) :=
  (dvm pixel frame.1).bind fun t2 => ((fdiv t2.1 frame.2.2.2.2).bind fun v3 => (p_Frame_across frame).bind fun v4 => (mul v3 v4).bind fun v5 => (fdiv t2.2 frame.2.2.2.2).bind fun v6 => Res.ok (v5 + v6)).bind fun tile => ((p_tile_size frame tile).bind fun v7 => Res.ok v7.1).bind fun width => (fmod t2.1 frame.2.2.2.2).bind fun v8 => (mul v8 width).bind fun v9 => (fmod t2.2 frame.2.2.2.2).bind fun v10 => Res.ok (tile, (v9 + v10))

/-- tiles in a row; the corner and the extent of a tile; a pixel of a tile; the tile of a pixel, its place -/
def tA (w t : Nat) : Nat := (w + t - 1) / t
def tX (w t k : Nat) : Nat := k % tA w t * t
def tY (w t k : Nat) : Nat := k / tA w t * t
def tW (w t k : Nat) : Nat := min t (w - tX w t k)
def tH (w h t k : Nat) : Nat := min t (h - tY w t k)
def pix (w t k j : Nat) : Nat := (tY w t k + j / tW w t k) * w + tX w t k + j % tW w t k
def tileOf (w t p : Nat) : Nat := p / w / t * tA w t + p % w / t
def placeOf (w t p : Nat) : Nat := p / w % t * tW w t (tileOf w t p) + p % w % t
section
variable {w h t k : Nat}
theorem tA_pos (ht : 1 ≤ t) (hw : 1 ≤ w) : 1 ≤ tA w t := up_pos ht hw
theorem tA_lt (ht : 1 ≤ t) (hw : 1 ≤ w) : (tA w t - 1) * t < w := by
  have h1 : tA w t * t ≤ w + t - 1 := Nat.div_mul_le_self _ _
  have h2 := tA_pos ht hw
  rw [Nat.sub_mul]
  omega
theorem tA_ge (ht : 1 ≤ t) : w ≤ tA w t * t := by
  have h1 : w + t - 1 < ((w + t - 1) / t + 1) * t := by
    rw [Nat.mul_comm]
    exact Nat.lt_mul_div_succ _ (by omega)
  unfold tA
  rw [Nat.add_mul] at h1
  omega
theorem stripe_lt (ht : 1 ≤ t) (hw : 1 ≤ w) {c : Nat} (hc : c < tA w t) : c * t < w :=
  Nat.lt_of_le_of_lt (Nat.mul_le_mul_right t (by omega : c ≤ tA w t - 1)) (tA_lt ht hw)
theorem tX_lt (ht : 1 ≤ t) (hw : 1 ≤ w) : tX w t k < w := stripe_lt ht hw (Nat.mod_lt _ (tA_pos ht hw))
theorem tY_lt (ht : 1 ≤ t) (hw : 1 ≤ w) (hh : 1 ≤ h) (hk : k < tA w t * tA h t) : tY w t k < h :=
  stripe_lt ht hh (Nat.div_lt_of_lt_mul hk)
theorem tW_pos (ht : 1 ≤ t) (hw : 1 ≤ w) : 1 ≤ tW w t k := by
  have := tX_lt (k := k) ht hw
  unfold tW
  omega
theorem tW_le : tW w t k ≤ t := Nat.min_le_left _ _
theorem tH_pos (ht : 1 ≤ t) (hw : 1 ≤ w) (hh : 1 ≤ h) (hk : k < tA w t * tA h t) : 1 ≤ tH w h t k := by
  have := tY_lt ht hw hh hk
  unfold tH
  omega
variable {j : Nat}
theorem pix_div (ht : 1 ≤ t) (hw : 1 ≤ w) : pix w t k j / w = tY w t k + j / tW w t k ∧ pix w t k j % w = tX w t k + j % tW w t k := by
  have h1 := Nat.mod_lt j (tW_pos (k := k) ht hw)
  have h2 : tX w t k + j % tW w t k < w := by
    have := tX_lt (k := k) ht hw
    have : tW w t k ≤ w - tX w t k := Nat.min_le_right _ _
    omega
  unfold pix
  rw [Nat.add_assoc, Nat.mul_comm]
  exact ⟨by rw [Nat.mul_add_div (by omega), Nat.div_eq_of_lt h2, Nat.add_zero], by rw [Nat.mul_add_mod, Nat.mod_eq_of_lt h2]⟩
theorem pix_row (ht : 1 ≤ t) (hw : 1 ≤ w) (hj : j < tW w t k * tH w h t k) : pix w t k j / w / t = k / tA w t ∧ pix w t k j / w % t = j / tW w t k ∧ pix w t k j / w < h := by
  have h1 : j / tW w t k < tH w h t k := Nat.div_lt_of_lt_mul hj
  have h2 : tH w h t k ≤ t := Nat.min_le_left _ _
  have h3 : tH w h t k ≤ h - tY w t k := Nat.min_le_right _ _
  rw [(pix_div ht hw).1]
  generalize j / tW w t k = q at *
  have h4 : q < t := Nat.lt_of_lt_of_le h1 h2
  refine ⟨?_, ?_, by omega⟩
  · unfold tY
    rw [Nat.mul_comm, Nat.mul_add_div (by omega), Nat.div_eq_of_lt h4, Nat.add_zero]
  · unfold tY
    rw [Nat.mul_comm, Nat.mul_add_mod, Nat.mod_eq_of_lt h4]
theorem pix_col (ht : 1 ≤ t) (hw : 1 ≤ w) : pix w t k j % w / t = k % tA w t ∧ pix w t k j % w % t = j % tW w t k := by
  have h1 := Nat.mod_lt j (tW_pos (k := k) ht hw)
  have h2 := tW_le (w := w) (t := t) (k := k)
  rw [(pix_div ht hw).2]
  unfold tX
  exact ⟨by rw [Nat.mul_comm, Nat.mul_add_div (by omega), Nat.div_eq_of_lt (by omega), Nat.add_zero], by rw [Nat.mul_comm, Nat.mul_add_mod, Nat.mod_eq_of_lt (by omega)]⟩
theorem pix_lt (ht : 1 ≤ t) (hw : 1 ≤ w) (hj : j < tW w t k * tH w h t k) : pix w t k j < w * h := by
  have h1 := (pix_row (h := h) ht hw hj).2.2
  have h2 := Nat.div_add_mod (pix w t k j) w
  have h3 := Nat.mod_lt (pix w t k j) (show 0 < w by omega)
  have h4 : w * (pix w t k j / w) + w ≤ w * h := by
    rw [← Nat.mul_succ]
    exact Nat.mul_le_mul_left w h1
  omega
theorem tileOf_pix (ht : 1 ≤ t) (hw : 1 ≤ w) (hj : j < tW w t k * tH w h t k) : tileOf w t (pix w t k j) = k := by
  unfold tileOf
  rw [(pix_row ht hw hj).1, (pix_col ht hw).1]
  exact Nat.div_add_mod' _ _
theorem placeOf_pix (ht : 1 ≤ t) (hw : 1 ≤ w) (hj : j < tW w t k * tH w h t k) : placeOf w t (pix w t k j) = j := by
  unfold placeOf
  rw [tileOf_pix ht hw hj, (pix_row ht hw hj).2.1, (pix_col ht hw).2]
  exact Nat.div_add_mod' _ _
variable {p : Nat}
theorem tileOf_parts (ht : 1 ≤ t) (hw : 1 ≤ w) : tileOf w t p % tA w t = p % w / t ∧ tileOf w t p / tA w t = p / w / t := by
  have h1 : p % w / t < tA w t := by
    have h2 := Nat.mod_lt p (show 0 < w by omega)
    have h3 := tA_ge (w := w) ht
    exact (Nat.div_lt_iff_lt_mul (by omega)).mpr (by omega)
  unfold tileOf
  rw [Nat.mul_comm]
  exact ⟨by rw [Nat.mul_add_mod, Nat.mod_eq_of_lt h1], by rw [Nat.mul_add_div (tA_pos ht hw), Nat.div_eq_of_lt h1, Nat.add_zero]⟩
theorem tileOf_lt (ht : 1 ≤ t) (hw : 1 ≤ w) (hp : p < w * h) : tileOf w t p < tA w t * tA h t := by
  have h1 : p / w < h := Nat.div_lt_of_lt_mul hp
  have h2 : p / w / t < tA h t := by
    have h3 := tA_ge (w := h) ht
    exact (Nat.div_lt_iff_lt_mul (by omega)).mpr (by omega)
  have h4 := (tileOf_parts (p := p) ht hw).2
  have h5 := tA_pos ht hw
  exact (Nat.div_lt_iff_lt_mul h5).mp (by rw [h4]; exact h2) |> fun z => by rw [Nat.mul_comm]; exact z
theorem place_parts (ht : 1 ≤ t) (hw : 1 ≤ w) : placeOf w t p % tW w t (tileOf w t p) = p % w % t ∧ placeOf w t p / tW w t (tileOf w t p) = p / w % t := by
  have h1 : p % w % t < tW w t (tileOf w t p) := by
    unfold tW tX
    rw [(tileOf_parts ht hw).1]
    have h2 := Nat.mod_lt p (show 0 < w by omega)
    have h3 := Nat.div_add_mod' (p % w) t
    have h4 := Nat.mod_lt (p % w) (show 0 < t by omega)
    omega
  unfold placeOf
  rw [Nat.mul_comm]
  exact ⟨by rw [Nat.mul_add_mod, Nat.mod_eq_of_lt h1], by rw [Nat.mul_add_div (tW_pos ht hw), Nat.div_eq_of_lt h1, Nat.add_zero]⟩
theorem pix_of (ht : 1 ≤ t) (hw : 1 ≤ w) : pix w t (tileOf w t p) (placeOf w t p) = p := by
  unfold pix
  rw [(place_parts ht hw).1, (place_parts ht hw).2]
  unfold tX tY
  rw [(tileOf_parts ht hw).1, (tileOf_parts ht hw).2, Nat.div_add_mod', Nat.add_assoc, Nat.div_add_mod', Nat.div_add_mod']
theorem placeOf_lt (ht : 1 ≤ t) (hw : 1 ≤ w) (hp : p < w * h) : placeOf w t p < tW w t (tileOf w t p) * tH w h t (tileOf w t p) := by
  have h1 := tW_pos (k := tileOf w t p) ht hw
  have h2 : placeOf w t p / tW w t (tileOf w t p) < tH w h t (tileOf w t p) := by
    rw [(place_parts ht hw).2]
    unfold tH tY
    rw [(tileOf_parts ht hw).2]
    have h3 : p / w < h := Nat.div_lt_of_lt_mul hp
    have h4 := Nat.div_add_mod' (p / w) t
    have h5 := Nat.mod_lt (p / w) (show 0 < t by omega)
    omega
  rw [Nat.mul_comm]
  exact (Nat.div_lt_iff_lt_mul h1).mp h2
theorem pix_mono (ht : 1 ≤ t) (hw : 1 ≤ w) (j : Nat) : pix w t k j < pix w t k (j + 1) := by
  have h0 := tW_pos (k := k) ht hw
  have hx : tW w t k ≤ w := Nat.le_trans (Nat.min_le_right _ _) (Nat.sub_le _ _)
  unfold pix
  generalize tW w t k = m at *
  have h1 := Nat.div_add_mod' j m
  have h2 := Nat.div_add_mod' (j + 1) m
  have h3 := Nat.mod_lt j h0
  have h4 := Nat.mod_lt (j + 1) h0
  by_cases h : j % m + 1 < m
  · have e1 : (j + 1) / m = j / m ∧ (j + 1) % m = j % m + 1 := by
      have e2 : (j + 1) / m = j / m := by
        rw [Nat.div_eq_iff h0]
        omega
      refine ⟨e2, ?_⟩
      rw [e2] at h2
      omega
    rw [e1.1, e1.2]
    omega
  · have e2 : (j + 1) / m = j / m + 1 := by
      rw [Nat.div_eq_iff h0]
      have e3 : (j / m + 1) * m = j / m * m + m := by rw [Nat.add_mul, Nat.one_mul]
      omega
    rw [e2]
    have e4 : (tY w t k + (j / m + 1)) * w = (tY w t k + j / m) * w + w := by rw [← Nat.add_assoc, Nat.add_mul _ 1, Nat.one_mul]
    omega
/-! ### the program's -/
variable {d ch : Nat}
theorem corner_ok (ht : 1 ≤ t) (ht2 : t ≤ 16) (hw : 1 ≤ w) (hw2 : w ≤ 64) (hk : k < 1073741824) : p_tile_corner ((w : Int), (h : Int), (d : Int), (ch : Int), (t : Int)) (k : Int) = .ok ((tX w t k : Int), (tY w t k : Int)) := by
  unfold p_tile_corner tX tY
  have hA := up_le ht hw2
  have hA1 := tA_pos ht hw
  have hkA : k / tA w t ≤ k := Nat.div_le_self _ _
  have hm := Nat.mod_lt k hA1
  rw [across_ok ht ht2 hw, Res.ok_bind]
  show (dvm (k : Int) ((tA w t : Nat) : Int)).bind _ = _
  have hA' : tA w t ≤ 64 := hA
  rw [dvm_nat (by omega) (by omega), Res.ok_bind]
  dsimp only
  rw [mul_nat 7 5 (by omega) (by omega) (by decide), Res.ok_bind, mul_nat 30 5 (by omega) (by omega) (by decide), Res.ok_bind]
theorem size_ok' (ht : 1 ≤ t) (ht2 : t ≤ 16) (hw : 1 ≤ w) (hw2 : w ≤ 64) (hh : 1 ≤ h) (hk : k < tA w t * tA h t) (hk2 : k < 1073741824) : p_tile_size ((w : Int), (h : Int), (d : Int), (ch : Int), (t : Int)) (k : Int) = .ok ((tW w t k : Int), (tH w h t k : Int)) := by
  unfold p_tile_size tW tH
  rw [corner_ok ht ht2 hw hw2 hk2, Res.ok_bind]
  have h1 := tX_lt (k := k) ht hw
  have h2 := tY_lt ht hw hh hk
  dsimp only
  unfold min2
  congr 2
  · split <;> omega
  · split <;> omega
theorem tile_pixels_ok (ht : 1 ≤ t) (ht2 : t ≤ 16) (hw : 1 ≤ w) (hw2 : w ≤ 64) (hh : 1 ≤ h) (hh2 : h ≤ 64) (hk : k < tA w t * tA h t) : p_tile_pixels ((w : Int), (h : Int), (d : Int), (ch : Int), (t : Int)) (k : Int) = .ok ((List.range (tW w t k * tH w h t k)).map fun j => (pix w t k j : Int)) := by
  have hA : tA w t * tA h t ≤ 64 * 64 := Nat.mul_le_mul (up_le ht hw2) (up_le ht hh2)
  have h1 := tX_lt (k := k) ht hw
  have h2 := tY_lt ht hw hh hk
  have h3 := tW_le (w := w) (t := t) (k := k)
  have h4 : tH w h t k ≤ t := Nat.min_le_left _ _
  have h5 := tW_pos (k := k) ht hw
  have hb : tW w t k * tH w h t k ≤ 16 * 16 := Nat.mul_le_mul (by omega) (by omega)
  unfold p_tile_pixels
  rw [corner_ok ht ht2 hw hw2 (by omega), Res.ok_bind, size_ok' ht ht2 hw hw2 hh hk (by omega), Res.ok_bind]
  dsimp only
  rw [rng_nat (by omega), Res.ok_bind, rng_nat (by omega)]
  have e : ((List.range (tH w h t k)).map fun i : Nat => (i : Int)).flatMap (fun y => ((List.range (tW w t k)).map fun i : Nat => (i : Int)).map fun x => (((tY w t k : Int) + y) * (w : Int) + (tX w t k : Int)) + x) = (List.range (tW w t k * tH w h t k)).map fun j => (pix w t k j : Int) := by
    have l : ∀ y : Int, (((List.range (tW w t k)).map fun i : Nat => (i : Int)).map fun x => (((tY w t k : Int) + y) * (w : Int) + (tX w t k : Int)) + x).length = tW w t k := fun y => by simp
    refine List.ext_getElem? fun i => ?_
    by_cases hi : i < tW w t k * tH w h t k
    · have q1 : i / tW w t k < tH w h t k := Nat.div_lt_of_lt_mul hi
      have q2 := Nat.mod_lt i h5
      have e1 : i = i / tW w t k * tW w t k + i % tW w t k := (Nat.div_add_mod' _ _).symm
      have lhs : (((List.range (tH w h t k)).map fun i : Nat => (i : Int)).flatMap (fun y => ((List.range (tW w t k)).map fun i : Nat => (i : Int)).map fun x => (((tY w t k : Int) + y) * (w : Int) + (tX w t k : Int)) + x))[i]? = some (pix w t k i : Int) := by
        conv => lhs; rw [e1]
        rw [flatMap_get (n := tW w t k) (by simpa using q1) q2 (fun y _ => l y), List.getElem?_map, List.getElem?_map, List.getElem?_range q2]
        unfold pix
        simp
      rw [lhs, List.getElem?_map, List.getElem?_range hi]
      rfl
    · rw [List.getElem?_eq_none (by rw [flatMap_len (n := tW w t k) (fun y _ => l y)]; simp; rw [Nat.mul_comm]; omega), List.getElem?_eq_none (by simp; omega)]
  rw [← e]
  refine catC_ok (fun y hy => ?_) (by rw [e]; simp [line_val]; omega)
  obtain ⟨i, hi, rfl⟩ := List.mem_map.mp hy
  have hi' := List.mem_range.mp hi
  rw [Res.ok_bind]
  refine catK_map fun x _ => ?_
  have e2 : ((tY w t k : Int) + (i : Int)) = ((tY w t k + i : Nat) : Int) := by omega
  rw [e2, mul_ok 8 7 (by omega) (by omega) (by decide), Res.ok_bind]
theorem locate_ok (ht : 1 ≤ t) (ht2 : t ≤ 16) (hw : 1 ≤ w) (hw2 : w ≤ 64) (hh : 1 ≤ h) (hh2 : h ≤ 64) (hp : p < w * h) : p_locate_pixel ((w : Int), (h : Int), (d : Int), (ch : Int), (t : Int)) (p : Int) = .ok ((tileOf w t p : Int), (placeOf w t p : Int)) := by
  have hA : tA w t * tA h t ≤ 64 * 64 := Nat.mul_le_mul (up_le ht hw2) (up_le ht hh2)
  have hA' : tA w t ≤ 64 := up_le ht hw2
  have hT := tileOf_lt ht hw hp
  have hr : p / w < h := Nat.div_lt_of_lt_mul hp
  have hr2 : p / w / t ≤ p / w := Nat.div_le_self _ _
  have hc := Nat.mod_lt p (show 0 < w by omega)
  have hm := Nat.mod_lt (p / w) (show 0 < t by omega)
  have h3 := tW_le (w := w) (t := t) (k := tileOf w t p)
  unfold p_locate_pixel
  dsimp only
  rw [dvm_nat (by omega) (by omega), Res.ok_bind]
  dsimp only
  rw [fdiv_ok (by omega) (log2_small (by omega) (by omega)), Res.ok_bind, across_ok ht ht2 hw, Res.ok_bind]
  have e1 : ((p / w : Nat) : Int) / (t : Int) = ((p / w / t : Nat) : Int) := (Int.natCast_ediv _ _).symm
  have e2 : ((p % w : Nat) : Int) / (t : Int) = ((p % w / t : Nat) : Int) := (Int.natCast_ediv _ _).symm
  have e3 : ((p / w : Nat) : Int) % (t : Int) = ((p / w % t : Nat) : Int) := (Int.natCast_emod _ _).symm
  have e4 : ((p % w : Nat) : Int) % (t : Int) = ((p % w % t : Nat) : Int) := (Int.natCast_emod _ _).symm
  have e0 : (((w + t - 1) / t : Nat) : Int) = (tA w t : Int) := rfl
  rw [e0, e1, mul_nat 7 7 (by omega) (by omega) (by decide), Res.ok_bind, fdiv_ok (by omega) (log2_small (by omega) (by omega)), e2, Res.ok_bind, Res.ok_bind]
  have e5 : ((p / w / t * tA w t : Nat) : Int) + ((p % w / t : Nat) : Int) = (tileOf w t p : Int) := by unfold tileOf; omega
  rw [e5, size_ok' ht ht2 hw hw2 hh hT (by omega), Res.ok_bind, Res.ok_bind]
  dsimp only
  rw [fmod_ok (by omega), e3, Res.ok_bind, mul_nat 5 5 (by omega) (by omega) (by decide), Res.ok_bind, fmod_ok (by omega), e4, Res.ok_bind]
  congr 2
end
end C
/-! PC: contexts and intervals. -/
namespace R
theorem fold_st {α S : Type} {f : α → S → Res S} {xs : List α} (st : Nat → S) (hs : ∀ i (hi : i < xs.length), f xs[i] (st i) = .ok (st (i + 1))) : fold f xs (st 0) = .ok (st xs.length) := by
  obtain ⟨s, e, h⟩ := fold_n (f := f) (xs := xs) (s0 := st 0) (fun i s => s = st i) rfl fun i hi s h => ⟨_, by rw [h]; exact hs i hi, rfl⟩
  rw [e, h]
theorem fold_congr {α S : Type} {f f' : α → S → Res S} : ∀ {xs : List α} {s : S}, (∀ x ∈ xs, ∀ s, f x s = f' x s) → fold f xs s = fold f' xs s
  | [], _, _ => rfl
  | x :: r, s, h => by
    rw [fold_cons, fold_cons, h x List.mem_cons_self s]
    congr 1
    funext s'
    exact fold_congr fun y hy => h y (List.mem_cons_of_mem _ hy)
theorem enum_len {α : Type} (xs : List α) : (enumL xs).length = xs.length := by simp [enumL]
theorem enum_get {α : Type} (xs : List α) (i : Nat) (h : i < (enumL xs).length) : (enumL xs)[i] = ((i : Int), xs[i]'(by rw [enum_len] at h; exact h)) := by simp [enumL]
end R
namespace C
open R
def p_context (width : Int) (bits : Tx) (place : Int) : Res Int :=
  (Res.ok (0 : Int)).bind fun total => (fmod place width).bind fun column => ((if decide ((0 : Int) < column) then (idx bits (place - (1 : Int))).bind fun v2 => Res.ok (decide ([v2] = (tx "1"))) else Res.ok false).bind fun b5 => if b5 then (Res.ok (total + (1 : Int))).bind fun total => Res.ok total else Res.ok total : Res (Int)).bind fun s4 => if decide (place < width) then Res.ok s4 else ((if decide ((0 : Int) < column) then (idx bits ((place - width) - (1 : Int))).bind fun v6 => Res.ok (decide ([v6] = (tx "1"))) else Res.ok false).bind fun b9 => if b9 then (Res.ok (s4 + (2 : Int))).bind fun total => Res.ok total else Res.ok s4 : Res (Int)).bind fun s8 => (((idx bits (place - width)).bind fun v10 => Res.ok (decide ([v10] = (tx "1")))).bind fun b12 => if b12 then (Res.ok (s8 + (4 : Int))).bind fun total => Res.ok total else Res.ok s8 : Res (Int)).bind fun s11 => ((if decide ((column + (1 : Int)) < width) then (idx bits ((place - width) + (1 : Int))).bind fun v13 => Res.ok (decide ([v13] = (tx "1"))) else Res.ok false).bind fun b16 => if b16 then (Res.ok (s11 + (8 : Int))).bind fun total => Res.ok total else Res.ok s11 : Res (Int)).bind fun s15 => Res.ok s15

def l_context (width : Int) (bits_here : Tx) (place : Int) : Res Int :=
  (Res.ok (0 : Int)).bind fun total => (((fmod place width).bind fun v1 => if (!decide (v1 = (0 : Int))) then (idx bits_here (place - (1 : Int))).bind fun v2 => Res.ok (decide ([v2] = (tx "1"))) else Res.ok false).bind fun b5 => if b5 then (Res.ok (1 : Int)).bind fun total => Res.ok total else Res.ok total : Res (Int)).bind fun s4 => (if decide (width ≤ place) then (((fmod place width).bind fun v6 => if (!decide (v6 = (0 : Int))) then (idx bits_here ((place - width) - (1 : Int))).bind fun v7 => Res.ok (decide ([v7] = (tx "1"))) else Res.ok false).bind fun b10 => if b10 then (Res.ok (s4 + (2 : Int))).bind fun total => Res.ok total else Res.ok s4 : Res (Int)).bind fun s9 => (((idx bits_here (place - width)).bind fun v11 => Res.ok (decide ([v11] = (tx "1")))).bind fun b13 => if b13 then (Res.ok (s9 + (4 : Int))).bind fun total => Res.ok total else Res.ok s9 : Res (Int)).bind fun s12 => (((fmod place width).bind fun v14 => if decide (v14 < (width - (1 : Int))) then (idx bits_here ((place - width) + (1 : Int))).bind fun v15 => Res.ok (decide ([v15] = (tx "1"))) else Res.ok false).bind fun b18 => if b18 then (Res.ok (s12 + (8 : Int))).bind fun total => Res.ok total else Res.ok s12 : Res (Int)).bind fun s17 => Res.ok s17 else Res.ok s4 : Res (Int)).bind fun s19 => Res.ok s19

def p_interval (width : Int) (bits : Tx) : Res (Int × Int × Int) :=
  (Res.ok ((0 : Int), (1 : Int), (1 : Int))).bind fun t1 => (rep ([(1 : Int)] : List Int) (16 : Int)).bind fun zeros => (rep ([(1 : Int)] : List Int) (16 : Int)).bind fun ones => (fold (fun (x4 : (Int × Tx)) (s5 : Int × Int × Int × (List Int) × (List Int)) => (p_context width bits x4.1).bind fun here => ((idx s5.2.2.2.2 here).bind fun v7 => (idx s5.2.2.2.1 here).bind fun v8 => Res.ok (v7 + v8)).bind fun total => (mul s5.1 total).bind fun low => (mul s5.2.1 total).bind fun whole => (if decide (x4.2 = (tx "1")) then ((idx s5.2.2.2.2 here).bind fun v11 => (mul s5.2.2.1 v11).bind fun v12 => Res.ok (low + v12)).bind fun low => ((idx s5.2.2.2.1 here).bind fun v13 => mul s5.2.2.1 v13).bind fun size => ((idx s5.2.2.2.1 here).bind fun v15 => setI s5.2.2.2.1 here (v15 + (1 : Int))).bind fun ones => Res.ok (low, size, ones, s5.2.2.2.2) else ((idx s5.2.2.2.2 here).bind fun v16 => mul s5.2.2.1 v16).bind fun size => ((idx s5.2.2.2.2 here).bind fun v18 => setI s5.2.2.2.2 here (v18 + (1 : Int))).bind fun zeros => Res.ok (low, size, s5.2.2.2.1, zeros) : Res (Int × Int × (List Int) × (List Int))).bind fun s19 => Res.ok (s19.1, whole, s19.2.1, s19.2.2.1, s19.2.2.2)) (enumL (bits.map fun c => [c])) (t1.1, t1.2.2, t1.2.1, ones, zeros) : Res (Int × Int × Int × (List Int) × (List Int))).bind fun s5 => Res.ok (s5.1, s5.2.2.1, s5.2.1)

def l_interval (width : Int) (bits_here : Tx) : Res (List Int) :=
  (Res.ok (0 : Int)).bind fun low => (Res.ok (1 : Int)).bind fun size => (Res.ok (1 : Int)).bind fun whole => (rep ([(0 : Int)] : List Int) (16 : Int)).bind fun zeros => (rep ([(0 : Int)] : List Int) (16 : Int)).bind fun ones => ((rng 0 (bits_here.length : Int)).bind fun xs3 => fold (fun (x4 : Int) (s5 : Int × Int × Int × (List Int) × (List Int)) => (l_context width bits_here x4).bind fun here => ((idx s5.2.2.2.2 here).bind fun v7 => (idx s5.2.2.2.1 here).bind fun v8 => Res.ok ((v7 + v8) + (2 : Int))).bind fun parts => (mul s5.1 parts).bind fun low => (mul s5.2.1 parts).bind fun whole => (((idx bits_here x4).bind fun v11 => Res.ok (decide ([v11] = (tx "1")))).bind fun b21 => if b21 then ((idx s5.2.2.2.2 here).bind fun v12 => (mul s5.2.2.1 (v12 + (1 : Int))).bind fun v13 => Res.ok (low + v13)).bind fun low => ((idx s5.2.2.2.1 here).bind fun v14 => mul s5.2.2.1 (v14 + (1 : Int))).bind fun size => ((idx s5.2.2.2.1 here).bind fun v16 => setI s5.2.2.2.1 here (v16 + (1 : Int))).bind fun ones => Res.ok (low, size, ones, s5.2.2.2.2) else ((idx s5.2.2.2.2 here).bind fun v17 => mul s5.2.2.1 (v17 + (1 : Int))).bind fun size => ((idx s5.2.2.2.2 here).bind fun v19 => setI s5.2.2.2.2 here (v19 + (1 : Int))).bind fun zeros => Res.ok (low, size, s5.2.2.2.1, zeros) : Res (Int × Int × (List Int) × (List Int))).bind fun s20 => Res.ok (s20.1, whole, s20.2.1, s20.2.2.1, s20.2.2.2)) xs3 (low, whole, size, ones, zeros) : Res (Int × Int × Int × (List Int) × (List Int))).bind fun s5 => Res.ok ([s5.1, s5.2.2.1, s5.2.1] : List Int)

def rd (t : Tx) (i : Nat) : Bool := decide (t.getD i 0 = 49)
theorem one49 (v : Nat) : decide ([v] = tx "1") = decide (v = 49) := by
  rw [Bool.eq_iff_iff, decide_eq_true_eq, decide_eq_true_eq]
  show [v] = [49] ↔ _
  simp
theorem rd_at {t : Tx} {j : Nat} (h : j < t.length) : (idx t (j : Int)).bind (fun v => Res.ok (decide ([v] = tx "1"))) = .ok (rd t j) := by
  rw [idx_nat h, Res.ok_bind, one49]
  unfold rd
  simp [h]
theorem pick {t : Tx} {c : Bool} {i : Int} {j : Nat} (h : c = true → i = j ∧ j < t.length) : (if c then (idx t i).bind fun v2 => Res.ok (decide ([v2] = tx "1")) else Res.ok false) = .ok (c && rd t j) := by
  cases c with
  | false => rfl
  | true =>
    obtain ⟨rfl, h2⟩ := h rfl
    rw [if_pos rfl, rd_at h2, Bool.true_and]
theorem addif (b : Bool) (x y : Int) : (if b then (Res.ok (x + y)).bind fun total => Res.ok total else Res.ok x) = .ok (x + if b then y else 0) := by
  cases b
  · rw [if_neg Bool.false_ne_true, if_neg Bool.false_ne_true, Int.add_zero]
  · rw [if_pos rfl, if_pos rfl, Res.ok_bind]
theorem addif2 (b : Bool) (x y : Int) : (if b then Res.ok (x + y) else Res.ok x) = .ok (x + if b then y else 0) := by
  cases b
  · rw [if_neg Bool.false_ne_true, if_neg Bool.false_ne_true, Int.add_zero]
  · rw [if_pos rfl, if_pos rfl]
/-- the context of a place, by what stands ahead of it -/
def g (w p : Nat) (r : Nat → Bool) : Int :=
  let a : Int := 0 + if (decide (0 < p % w) && r (p - 1)) then 1 else 0
  if p < w then a else ((a + if (decide (0 < p % w) && r (p - w - 1)) then 2 else 0) + if r (p - w) then 4 else 0) + if (decide (p % w + 1 < w) && r (p - w + 1)) then 8 else 0
theorem g_congr {w p : Nat} {r r' : Nat → Bool} (h : ∀ i, i < p → r i = r' i) (hw : 0 < w) : g w p r = g w p r' := by
  unfold g
  have e1 : (decide (0 < p % w) && r (p - 1)) = (decide (0 < p % w) && r' (p - 1)) := by
    by_cases q : 0 < p % w
    · rw [h (p - 1) (by have := Nat.mod_le p w; omega)]
    · rw [decide_eq_false q]
      rfl
  by_cases hp : p < w
  · simp only [hp, if_true, e1]
  · have e2 : (decide (0 < p % w) && r (p - w - 1)) = (decide (0 < p % w) && r' (p - w - 1)) := by
      rw [h (p - w - 1) (by omega)]
    have e4 : (decide (p % w + 1 < w) && r (p - w + 1)) = (decide (p % w + 1 < w) && r' (p - w + 1)) := by
      by_cases q : p % w + 1 < w
      · rw [h (p - w + 1) (by omega)]
      · rw [decide_eq_false q]
        rfl
    simp only [hp, if_false, e1, e2, e4, h (p - w) (by omega)]
theorem emodc (p w : Nat) : ((p : Int) % (w : Int)) = ((p % w : Nat) : Int) := (Int.natCast_emod p w).symm
theorem p_context_ok (t : Tx) (w p : Nat) (hw : 0 < w) (hp : p ≤ t.length) : p_context (w : Int) t (p : Int) = .ok (g w p (rd t)) := by
  unfold p_context
  have hm := Nat.mod_le p w
  have hw' : (0 : Int) < (w : Int) := by omega
  have hq : 0 < p % w → ¬ p < w → 0 < p - w := fun z y => by
    rcases Nat.lt_or_ge w p with q | q
    · omega
    · have : p = w := by omega
      subst this
      simp at z
  rw [Res.ok_bind, fmod_ok hw', Res.ok_bind, emodc]
  have d1 : decide ((0 : Int) < ((p % w : Nat) : Int)) = decide (0 < p % w) := by
    rw [Bool.eq_iff_iff, decide_eq_true_eq, decide_eq_true_eq]
    omega
  rw [d1, pick (j := p - 1) (fun z => by have := of_decide_eq_true z; omega), Res.ok_bind, addif, Res.ok_bind]
  unfold g
  dsimp only
  by_cases h : p < w
  · rw [if_pos h, if_pos (decide_eq_true (by omega))]
  · rw [if_neg h, if_neg (by simp; omega)]
    rw [pick (j := p - w - 1) (fun z => by have := hq (of_decide_eq_true z) h; omega), Res.ok_bind, addif, Res.ok_bind]
    have e1 : ((p : Int) - (w : Int)) = ((p - w : Nat) : Int) := by omega
    rw [e1, rd_at (by omega), Res.ok_bind, addif, Res.ok_bind]
    have d2 : decide (((p % w : Nat) : Int) + 1 < (w : Int)) = decide (p % w + 1 < w) := by
      rw [Bool.eq_iff_iff, decide_eq_true_eq, decide_eq_true_eq]
      omega
    rw [d2, pick (j := p - w + 1) (fun z => by have := of_decide_eq_true z; omega), Res.ok_bind, addif, Res.ok_bind]
theorem l_context_ok (t : Tx) (w p : Nat) (hw : 0 < w) (hp : p ≤ t.length) : l_context (w : Int) t (p : Int) = .ok (g w p (rd t)) := by
  unfold l_context
  have hm := Nat.mod_le p w
  have hw' : (0 : Int) < (w : Int) := by omega
  have hq : 0 < p % w → ¬ p < w → 0 < p - w := fun z y => by
    rcases Nat.lt_or_ge w p with q | q
    · omega
    · have : p = w := by omega
      subst this
      simp at z
  rw [Res.ok_bind, fmod_ok hw', Res.ok_bind, emodc]
  have d1 : (!decide (((p % w : Nat) : Int) = 0)) = decide (0 < p % w) := by
    rw [Bool.eq_iff_iff, Bool.not_eq_true', decide_eq_false_iff_not, decide_eq_true_eq]
    omega
  rw [d1, pick (j := p - 1) (fun z => by have := of_decide_eq_true z; omega), Res.ok_bind]
  have e0 : ∀ b : Bool, (if b then (Res.ok (1 : Int)).bind fun total => Res.ok total else Res.ok 0) = Res.ok (0 + if b then (1 : Int) else 0) := fun b => by cases b <;> rfl
  rw [e0, Res.ok_bind]
  unfold g
  dsimp only
  by_cases h : p < w
  · rw [if_pos h, if_neg (by simp; omega), Res.ok_bind]
  · rw [if_neg h, if_pos (decide_eq_true (by omega))]
    simp only [Res.ok_bind]
    rw [d1, pick (j := p - w - 1) (fun z => by have := hq (of_decide_eq_true z) h; omega), Res.ok_bind, addif2, Res.ok_bind]
    have e1 : ((p : Int) - (w : Int)) = ((p - w : Nat) : Int) := by omega
    rw [e1, rd_at (by omega), Res.ok_bind, addif2, Res.ok_bind]
    have d2 : decide (((p % w : Nat) : Int) < (w : Int) - 1) = decide (p % w + 1 < w) := by
      rw [Bool.eq_iff_iff, decide_eq_true_eq, decide_eq_true_eq]
      omega
    rw [d2, pick (j := p - w + 1) (fun z => by have := of_decide_eq_true z; omega), Res.ok_bind, addif2, Res.ok_bind, Res.ok_bind]

theorem g_range (w p : Nat) (r : Nat → Bool) : 0 ≤ g w p r ∧ g w p r ≤ 15 := by
  unfold g
  dsimp only
  split <;> (repeat' split) <;> omega
def gN (w p : Nat) (r : Nat → Bool) : Nat := (g w p r).toNat
theorem g_nat (w p : Nat) (r : Nat → Bool) : g w p r = (gN w p r : Int) := by
  have := g_range w p r
  unfold gN
  omega
theorem gN_lt (w p : Nat) (r : Nat → Bool) : gN w p r < 16 := by
  have := g_range w p r
  unfold gN
  omega
/-- how often a bit stood in a context ahead of a place -/
def cn (w : Nat) (r : Nat → Bool) (b : Bool) (c i : Nat) : Nat := ((List.range i).filter fun j => decide (gN w j r = c) && decide (r j = b)).length
theorem cn_zero (w : Nat) (r : Nat → Bool) (b : Bool) (c : Nat) : cn w r b c 0 = 0 := rfl
theorem cn_succ (w : Nat) (r : Nat → Bool) (b : Bool) (c i : Nat) : cn w r b c (i + 1) = cn w r b c i + if gN w i r = c ∧ r i = b then 1 else 0 := by
  unfold cn
  rw [List.range_succ, List.filter_append, List.length_append]
  congr 1
  by_cases q : gN w i r = c ∧ r i = b
  · rw [if_pos q, List.filter_cons, if_pos (by simp [q.1, q.2])]
    rfl
  · rw [if_neg q, List.filter_cons, if_neg (by simpa using fun z => fun y => q ⟨z, y⟩)]
    rfl
theorem cn_le (w : Nat) (r : Nat → Bool) (c i : Nat) : cn w r false c i + cn w r true c i ≤ i := by
  induction i with
  | zero => exact Nat.le_refl _
  | succ i ih =>
    rw [cn_succ, cn_succ]
    cases r i with
    | false =>
      rw [if_neg (show ¬ (gN w i r = c ∧ false = true) from fun z => by cases z.2)]
      split <;> omega
    | true =>
      rw [if_neg (show ¬ (gN w i r = c ∧ true = false) from fun z => by cases z.2)]
      split <;> omega
/-- low, size, whole -/
def ivl (w : Nat) (r : Nat → Bool) : Nat → Nat × Nat × Nat
  | 0 => (0, 1, 1)
  | i + 1 => ((ivl w r i).1 * (cn w r false (gN w i r) i + cn w r true (gN w i r) i + 2) + (if r i then (ivl w r i).2.1 * (cn w r false (gN w i r) i + 1) else 0),
      (ivl w r i).2.1 * (if r i then cn w r true (gN w i r) i + 1 else cn w r false (gN w i r) i + 1),
      (ivl w r i).2.2 * (cn w r false (gN w i r) i + cn w r true (gN w i r) i + 2))
theorem ivl_inv (w : Nat) (r : Nat → Bool) (i : Nat) (hi : i ≤ 400) : 0 < (ivl w r i).2.1 ∧ (ivl w r i).1 + (ivl w r i).2.1 ≤ (ivl w r i).2.2 ∧ (ivl w r i).2.2 ≤ 2 ^ (9 * i) := by
  induction i with
  | zero => exact ⟨Nat.one_pos, Nat.le_refl _, Nat.le_refl _⟩
  | succ i ih =>
    obtain ⟨h1, h2, h3⟩ := ih (by omega)
    have h4 := cn_le w r (gN w i r) i
    unfold ivl
    dsimp only
    generalize cn w r false (gN w i r) i = z at *
    generalize cn w r true (gN w i r) i = o at *
    generalize ivl w r i = s at *
    have e : s.2.1 * (z + o + 2) = s.2.1 * (z + 1) + s.2.1 * (o + 1) := by rw [← Nat.mul_add]; congr 1; omega
    have m := Nat.mul_le_mul_right (z + o + 2) h2
    rw [Nat.add_mul, e] at m
    refine ⟨?_, ?_, ?_⟩
    · split <;> exact Nat.mul_pos h1 (Nat.succ_pos _)
    · split <;> omega
    · have e2 : 9 * (i + 1) = 9 * i + 9 := by omega
      rw [e2, Nat.pow_add]
      exact Nat.mul_le_mul h3 (by omega)
def cl (w : Nat) (r : Nat → Bool) (b : Bool) (d i : Nat) : List Int := (List.range 16).map fun c => ((cn w r b c i + d : Nat) : Int)
theorem cl_get (w : Nat) (r : Nat → Bool) (b : Bool) (d i c : Nat) (hc : c < 16) : idx (cl w r b d i) (c : Int) = .ok ((cn w r b c i + d : Nat) : Int) := by
  rw [idx_nat (by simp [cl]; exact hc)]
  simp [cl]
theorem cl_set {w : Nat} {r : Nat → Bool} {b : Bool} {d i : Nat} (h : r i = b) : setI (cl w r b d i) (gN w i r : Int) (((cn w r b (gN w i r) i + d : Nat) : Int) + 1) = .ok (cl w r b d (i + 1)) := by
  have hl : ∀ i, (cl w r b d i).length = 16 := fun i => by simp [cl]
  unfold setI ixN
  rw [if_pos (by omega), if_pos (by rw [hl]; exact_mod_cast gN_lt w i r)]
  show Res.ok _ = _
  rw [Int.toNat_natCast]
  congr 1
  refine List.ext_getElem (by rw [List.length_set, hl, hl]) fun k h1 h2 => ?_
  rw [List.getElem_set]
  by_cases q : gN w i r = k
  · subst q
    rw [if_pos rfl]
    simp only [cl, List.getElem_map, List.getElem_range, cn_succ, h, and_self, if_true]
    omega
  · rw [if_neg q]
    simp only [cl, List.getElem_map, List.getElem_range, cn_succ, q, false_and, if_false, Nat.add_zero]
theorem cl_same {w : Nat} {r : Nat → Bool} {b : Bool} {d i : Nat} (h : ¬ r i = b) : cl w r b d i = cl w r b d (i + 1) := by
  unfold cl
  refine List.map_congr_left fun c _ => ?_
  rw [cn_succ, if_neg fun z => h z.2]
  rfl
theorem cl_zero (w : Nat) (r : Nat → Bool) (b : Bool) (d : Nat) : rep ([(d : Int)] : List Int) 16 = .ok (cl w r b d 0) := by
  have e := rep_one (d : Int) 16 (by decide)
  refine e.trans (congrArg Res.ok ?_)
  refine (List.eq_replicate_iff.mpr ⟨by simp [cl], fun x hx => ?_⟩).symm
  obtain ⟨c, _, rfl⟩ := List.mem_map.mp hx
  rw [cn_zero, Nat.zero_add]
theorem p_interval_ok (t : Tx) (w : Nat) (hw : 0 < w) (hl : t.length ≤ 399) : p_interval (w : Int) t = .ok (((ivl w (rd t) t.length).1 : Int), ((ivl w (rd t) t.length).2.1 : Int), ((ivl w (rd t) t.length).2.2 : Int)) := by
  unfold p_interval
  have z1 : rep ([(1 : Int)] : List Int) 16 = .ok (cl w (rd t) false 1 0) := cl_zero _ _ _ 1
  have z2 : rep ([(1 : Int)] : List Int) 16 = .ok (cl w (rd t) true 1 0) := cl_zero _ _ _ 1
  rw [Res.ok_bind, z1, Res.ok_bind]
  rw [show (cl w (rd t) false 1 0) = cl w (rd t) true 1 0 from Res.ok.inj (z1.symm.trans z2)]
  rw [Res.ok_bind]
  have st := fold_st (xs := enumL (t.map fun c => [c])) (f := fun (x4 : (Int × Tx)) (s5 : Int × Int × Int × (List Int) × (List Int)) => (p_context (w : Int) t x4.1).bind fun here => ((idx s5.2.2.2.2 here).bind fun v7 => (idx s5.2.2.2.1 here).bind fun v8 => Res.ok (v7 + v8)).bind fun total => (mul s5.1 total).bind fun low => (mul s5.2.1 total).bind fun whole => (if decide (x4.2 = (tx "1")) then ((idx s5.2.2.2.2 here).bind fun v11 => (mul s5.2.2.1 v11).bind fun v12 => Res.ok (low + v12)).bind fun low => ((idx s5.2.2.2.1 here).bind fun v13 => mul s5.2.2.1 v13).bind fun size => ((idx s5.2.2.2.1 here).bind fun v15 => setI s5.2.2.2.1 here (v15 + (1 : Int))).bind fun ones => Res.ok (low, size, ones, s5.2.2.2.2) else ((idx s5.2.2.2.2 here).bind fun v16 => mul s5.2.2.1 v16).bind fun size => ((idx s5.2.2.2.2 here).bind fun v18 => setI s5.2.2.2.2 here (v18 + (1 : Int))).bind fun zeros => Res.ok (low, size, s5.2.2.2.1, zeros) : Res (Int × Int × (List Int) × (List Int))).bind fun s19 => Res.ok (s19.1, whole, s19.2.1, s19.2.2.1, s19.2.2.2))
    (fun i : Nat => (((ivl w (rd t) i).1 : Int), ((ivl w (rd t) i).2.2 : Int), ((ivl w (rd t) i).2.1 : Int), cl w (rd t) true 1 i, cl w (rd t) false 1 i)) ?_
  · rw [enum_len, List.length_map] at st
    rw [show cl w (rd t) true 1 0 = cl w (rd t) false 1 0 from Res.ok.inj (z2.symm.trans z1)] at st
    exact (congrArg (fun m => Res.bind m _) st).trans rfl
  · intro i hi
    have hi' : i < t.length := by rw [enum_len, List.length_map] at hi; exact hi
    obtain ⟨v1, v2, v3⟩ := ivl_inv w (rd t) i (by omega)
    have c1 := cn_le w (rd t) (gN w i (rd t)) i
    have glt := gN_lt w i (rd t)
    have pw : 2 ^ (9 * i) < 2 ^ (9 * i + 1) := Nat.pow_lt_pow_right (by decide) (by omega)
    have rdi : rd t i = decide (t[i] = 49) := by unfold rd; simp [hi']
    rw [enum_get]
    simp only [List.getElem_map]
    rw [p_context_ok t w i hw (by omega), Res.ok_bind, g_nat, cl_get _ _ _ _ _ _ glt, Res.ok_bind, cl_get _ _ _ _ _ _ glt, Res.ok_bind, Res.ok_bind]
    have et : (((cn w (rd t) false (gN w i (rd t)) i + 1 : Nat) : Int) + ((cn w (rd t) true (gN w i (rd t)) i + 1 : Nat) : Int)) = ((cn w (rd t) false (gN w i (rd t)) i + cn w (rd t) true (gN w i (rd t)) i + 2 : Nat) : Int) := by omega
    rw [et, mul_nat (9 * i + 1) 9 (by omega) (by omega) (by omega), Res.ok_bind, mul_nat (9 * i + 1) 9 (by omega) (by omega) (by omega), Res.ok_bind, one49, ← rdi]
    cases hb : rd t i with
    | true =>
      rw [if_pos rfl]
      simp only [Res.ok_bind]
      rw [mul_nat (9 * i + 1) 9 (by omega) (by omega) (by omega), Res.ok_bind, mul_nat (9 * i + 1) 9 (by omega) (by omega) (by omega), Res.ok_bind, cl_set hb, Res.ok_bind, Res.ok_bind, cl_same (b := false) (by rw [hb]; decide)]
      simp only [ivl, hb, if_true]
      rfl
    | false =>
      rw [if_neg (by decide)]
      simp only [Res.ok_bind]
      rw [mul_nat (9 * i + 1) 9 (by omega) (by omega) (by omega), Res.ok_bind, cl_set hb, Res.ok_bind, Res.ok_bind, cl_same (b := true) (by rw [hb]; decide)]
      simp only [ivl, hb, Bool.false_eq_true, if_false]
      rfl
theorem l_interval_ok (t : Tx) (w : Nat) (hw : 0 < w) (hl : t.length ≤ 399) : l_interval (w : Int) t = .ok [((ivl w (rd t) t.length).1 : Int), ((ivl w (rd t) t.length).2.1 : Int), ((ivl w (rd t) t.length).2.2 : Int)] := by
  unfold l_interval
  have z1 : rep ([(0 : Int)] : List Int) 16 = .ok (cl w (rd t) false 0 0) := cl_zero _ _ _ 0
  have z2 : rep ([(0 : Int)] : List Int) 16 = .ok (cl w (rd t) true 0 0) := cl_zero _ _ _ 0
  rw [Res.ok_bind, Res.ok_bind, Res.ok_bind, z1, Res.ok_bind]
  rw [show (cl w (rd t) false 0 0) = cl w (rd t) true 0 0 from Res.ok.inj (z1.symm.trans z2)]
  rw [Res.ok_bind, rng_nat (by omega), Res.ok_bind]
  have st := fold_st (xs := (List.range t.length).map fun i : Nat => (i : Int)) (f := fun (x4 : Int) (s5 : Int × Int × Int × (List Int) × (List Int)) => (l_context (w : Int) t x4).bind fun here => ((idx s5.2.2.2.2 here).bind fun v7 => (idx s5.2.2.2.1 here).bind fun v8 => Res.ok ((v7 + v8) + (2 : Int))).bind fun parts => (mul s5.1 parts).bind fun low => (mul s5.2.1 parts).bind fun whole => (((idx t x4).bind fun v11 => Res.ok (decide ([v11] = (tx "1")))).bind fun b21 => if b21 then ((idx s5.2.2.2.2 here).bind fun v12 => (mul s5.2.2.1 (v12 + (1 : Int))).bind fun v13 => Res.ok (low + v13)).bind fun low => ((idx s5.2.2.2.1 here).bind fun v14 => mul s5.2.2.1 (v14 + (1 : Int))).bind fun size => ((idx s5.2.2.2.1 here).bind fun v16 => setI s5.2.2.2.1 here (v16 + (1 : Int))).bind fun ones => Res.ok (low, size, ones, s5.2.2.2.2) else ((idx s5.2.2.2.2 here).bind fun v17 => mul s5.2.2.1 (v17 + (1 : Int))).bind fun size => ((idx s5.2.2.2.2 here).bind fun v19 => setI s5.2.2.2.2 here (v19 + (1 : Int))).bind fun zeros => Res.ok (low, size, s5.2.2.2.1, zeros) : Res (Int × Int × (List Int) × (List Int))).bind fun s20 => Res.ok (s20.1, whole, s20.2.1, s20.2.2.1, s20.2.2.2))
    (fun i : Nat => (((ivl w (rd t) i).1 : Int), ((ivl w (rd t) i).2.2 : Int), ((ivl w (rd t) i).2.1 : Int), cl w (rd t) true 0 i, cl w (rd t) false 0 i)) ?_
  · rw [List.length_map, List.length_range] at st
    rw [show cl w (rd t) true 0 0 = cl w (rd t) false 0 0 from Res.ok.inj (z2.symm.trans z1)] at st
    exact (congrArg (fun m => Res.bind m _) st).trans rfl
  · intro i hi
    have hi' : i < t.length := by simpa using hi
    obtain ⟨v1, v2, v3⟩ := ivl_inv w (rd t) i (by omega)
    have c1 := cn_le w (rd t) (gN w i (rd t)) i
    have glt := gN_lt w i (rd t)
    have pw : 2 ^ (9 * i) < 2 ^ (9 * i + 1) := Nat.pow_lt_pow_right (by decide) (by omega)
    have g : ((List.range t.length).map fun i : Nat => (i : Int))[i] = (i : Int) := by simp
    rw [g]
    rw [l_context_ok t w i hw (by omega), Res.ok_bind, g_nat]
    simp only [cl_get _ _ _ _ _ _ glt, Res.ok_bind]
    have et : (((cn w (rd t) false (gN w i (rd t)) i + 0 : Nat) : Int) + ((cn w (rd t) true (gN w i (rd t)) i + 0 : Nat) : Int) + 2) = ((cn w (rd t) false (gN w i (rd t)) i + cn w (rd t) true (gN w i (rd t)) i + 2 : Nat) : Int) := by omega
    have e0 : ((cn w (rd t) false (gN w i (rd t)) i + 0 : Nat) : Int) + 1 = ((cn w (rd t) false (gN w i (rd t)) i + 1 : Nat) : Int) := by omega
    have e1 : ((cn w (rd t) true (gN w i (rd t)) i + 0 : Nat) : Int) + 1 = ((cn w (rd t) true (gN w i (rd t)) i + 1 : Nat) : Int) := by omega
    have s0 := @cl_set w (rd t) false 0 i
    have s1 := @cl_set w (rd t) true 0 i
    rw [e0] at s0
    rw [e1] at s1
    rw [et, e0, e1, mul_nat (9 * i + 1) 9 (by omega) (by omega) (by omega), Res.ok_bind, mul_nat (9 * i + 1) 9 (by omega) (by omega) (by omega), Res.ok_bind, rd_at hi', Res.ok_bind]
    cases hb : rd t i with
    | true =>
      rw [if_pos rfl, mul_nat (9 * i + 1) 9 (by omega) (by omega) (by omega)]
      simp only [Res.ok_bind]
      rw [mul_nat (9 * i + 1) 9 (by omega) (by omega) (by omega), Res.ok_bind, s1 hb, Res.ok_bind, Res.ok_bind, cl_same (b := false) (by rw [hb]; decide)]
      simp only [ivl, hb, if_true]
      rfl
    | false =>
      rw [if_neg (by decide), mul_nat (9 * i + 1) 9 (by omega) (by omega) (by omega), Res.ok_bind, s0 hb, Res.ok_bind, Res.ok_bind, cl_same (b := true) (by rw [hb]; decide)]
      simp only [ivl, hb, Bool.false_eq_true, if_false]
      rfl
end C
/-! PD: codes. -/
namespace R
theorem loop_brk {α S B : Type} {f : α → S → Res (Ctl S B)} : ∀ {xs : List α} {s' : S} (D : Nat) (st : Nat → S), (hD : D < xs.length) → (∀ i (hi : i < xs.length), i < D → f xs[i] (st i) = .ok (.nx (st (i + 1)))) → f xs[D] (st D) = .ok (.brk s') → loop f xs (st 0) = .ok (.nx s')
  | x :: r, s', 0, st, hD, h, hb => by
    have hb' : f x (st 0) = .ok (.brk s') := hb
    rw [loop, hb', Res.ok_bind]
  | x :: r, s', D + 1, st, hD, h, hb => by
    have h0 : f x (st 0) = .ok (.nx (st 1)) := h 0 (by simp) (by omega)
    rw [loop, h0, Res.ok_bind]
    exact loop_brk (xs := r) D (fun i => st (i + 1)) (by simpa using hD) (fun i hi hd => h (i + 1) (by simpa using hi) (by omega)) hb
theorem whil_ret {S B : Type} {t : S → Res Bool} {f : S → Res (Ctl S B)} {r : B} : ∀ {n : Nat} (k : Nat) (st : Nat → S), k < n → (∀ s, t s = .ok true) → (∀ i, i < k → f (st i) = .ok (.nx (st (i + 1)))) → f (st k) = .ok (.ret r) → whil t f n (st 0) = .ok (.ret r)
  | n + 1, 0, st, _, ht, _, hr => by
    rw [whil, ht, Res.ok_bind, if_pos rfl, hr, Res.ok_bind]
  | n + 1, k + 1, st, hk, ht, h, hr => by
    rw [whil, ht, Res.ok_bind, if_pos rfl, h 0 (by omega), Res.ok_bind]
    exact whil_ret k (fun i => st (i + 1)) (by omega) ht (fun i hi => h (i + 1) (by omega)) hr
theorem least_of (P : Nat → Bool) : ∀ n, P n = true → ∃ D, D ≤ n ∧ P D = true ∧ ∀ d, d < D → P d = false
  | 0, h => ⟨0, Nat.le_refl _, h, fun d hd => absurd hd (Nat.not_lt_zero d)⟩
  | n + 1, h => by
    cases e : P 0 with
    | true => exact ⟨0, Nat.zero_le _, e, fun d hd => absurd hd (Nat.not_lt_zero d)⟩
    | false =>
      obtain ⟨D, h1, h2, h3⟩ := least_of (fun i => P (i + 1)) n h
      refine ⟨D + 1, by omega, h2, fun d hd => ?_⟩
      cases d with
      | zero => exact e
      | succ d => exact h3 d (by omega)
theorem shl_int {a : Int} {p n : Nat} (h : a.natAbs < 2 ^ n) (hn : n + p ≤ 134217728) : shl a (p : Int) = .ok (a * 2 ^ p) := by
  unfold shl
  have := nbits_le h
  rw [chk_of]
  · rw [Int.toNat_natCast]
  · simp only [Bool.and_eq_true, decide_eq_true_eq]
    omega
end R
namespace C
open R
def l_binary (value : Int) (many : Int) : Res Tx :=
  (Res.ok (tx "")).bind fun text => ((rng 0 many).bind fun xs1 => fold (fun (x2 : Int) (s3 : Tx × Int) => ((strI (s3.2 % (2 : Int))).bind fun v4 => cat v4 s3.1).bind fun text => (Res.ok (s3.2 / (2 : Int))).bind fun value => Res.ok (text, value)) xs1 (text, value) : Res (Tx × Int)).bind fun s3 => Res.ok s3.1

theorem strI_bd (n : Nat) : strI ((n : Int) % 2) = .ok [bd n] := by
  have e : ((n : Int) % 2) = ((n % 2 : Nat) : Int) := by rw [Int.natCast_emod]; rfl
  rw [e]
  unfold bd
  rcases Nat.mod_two_eq_zero_or_one n with h | h <;> rw [h]
  · rfl
  · rfl
theorem l_binary_ok (v m : Nat) (hm : m ≤ 100000) : l_binary (v : Int) (m : Int) = .ok (dg v m) := by
  unfold l_binary
  rw [Res.ok_bind, rng_nat (by omega), Res.ok_bind]
  have key : ∀ i, i ≤ m → dg v i = ((List.range i).reverse.map fun p => bd (v / 2 ^ p)) := fun i _ => rfl
  obtain ⟨s, e, h1, h2⟩ := fold_n (xs := (List.range m).map fun i : Nat => (i : Int)) (s0 := (tx "", (v : Int))) (f := fun (x2 : Int) (s3 : Tx × Int) => ((strI (s3.2 % (2 : Int))).bind fun v4 => cat v4 s3.1).bind fun text => (Res.ok (s3.2 / (2 : Int))).bind fun value => Res.ok (text, value))
    (fun i s => s.1 = dg v i ∧ s.2 = ((v / 2 ^ i : Nat) : Int)) ⟨rfl, by show (v : Int) = _; rw [Nat.pow_zero, Nat.div_one]⟩ (by
      intro i hi s ⟨h1, h2⟩
      have hi' : i < m := by simpa using hi
      refine ⟨_, by rw [h2, strI_bd, Res.ok_bind, h1, cat_ok (by rw [dg_len, line_val]; simp; omega), Res.ok_bind, Res.ok_bind], ?_, ?_⟩
      · show [bd (v / 2 ^ i)] ++ dg v i = dg v (i + 1)
        unfold dg
        rw [List.range_succ, List.reverse_append]
        rfl
      · show ((v / 2 ^ i : Nat) : Int) / 2 = _
        rw [Nat.pow_succ, ← Nat.div_div_eq_div_mul, Int.natCast_ediv]
        rfl)
  rw [e, Res.ok_bind, h1]
  congr 1
  simp
def p_check_width (width : Int) : Res Unit :=
  if (!(decide ((1 : Int) ≤ width) && decide (width ≤ (16 : Int)))) then Res.exn (.oor (tx "width")) else Res.ok ()

def p_check_bits (bits : Tx) : Res Unit :=
  if decide ((256 : Int) < (bits.length : Int)) then Res.exn (.oor (tx "bits")) else Res.ok ()

def p_code_ (width : Int) (bits : Tx) : Res Tx :=
  (p_interval width bits).bind fun t2 => ((fdiv t2.2.2 t2.2.1).bind fun v3 => Res.ok ((nbits v3 : Int) - (1 : Int))).bind fun many => withCtl (whil (B := Tx) (fun (s4 : Int) => Res.ok true) (fun (s4 : Int) => ((shl (-t2.1) s4).bind fun v5 => (fdiv v5 t2.2.2).bind fun v6 => Res.ok (-v6)).bind fun first => ((mul (first + (1 : Int)) t2.2.2).bind fun v7 => (shl (t2.1 + t2.2.1) s4).bind fun v8 => Res.ok (decide (v7 ≤ v8))).bind fun b10 => if b10 then (p_digits_text first s4).bind fun a => Res.ok (.ret a) else (Res.ok (s4 + (1 : Int))).bind fun many => Res.ok (.nx many)) 1000 many : Res (Ctl (Int) Tx)) fun s4 => .stuck

def p_encode (width : Int) (bits : Tx) : Res Tx :=
  (p_check_width width).bind fun _ => (p_check_bits bits).bind fun _ => p_code_ width bits

def l_code (width : Int) (bits_here : Tx) : Res Tx :=
  (l_interval width bits_here).bind fun made => (Res.ok (1 : Int)).bind fun power => (Res.ok (0 : Int)).bind fun first => (Res.ok (0 : Int)).bind fun digits_here => withCtl ((rng 0 (2100 : Int)).bind fun xs2 => loop (B := Tx) (fun (x3 : Int) (s4 : Int × Int × Int) => ((idx made (0 : Int)).bind fun v5 => (mul v5 s4.2.1).bind fun v6 => (idx made (2 : Int)).bind fun v7 => (idx made (2 : Int)).bind fun v8 => fdiv ((v6 + v7) - (1 : Int)) v8).bind fun first => ((idx made (2 : Int)).bind fun v10 => (mul (first + (1 : Int)) v10).bind fun v11 => (idx made (0 : Int)).bind fun v12 => (idx made (1 : Int)).bind fun v13 => (mul (v12 + v13) s4.2.1).bind fun v14 => Res.ok (decide (v11 ≤ v14))).bind fun b15 => if b15 then (Res.ok (first, s4.2.1, s4.2.2)).bind fun a => Res.ok (.brk a) else (Res.ok (s4.2.1 * (2 : Int))).bind fun power => (Res.ok (s4.2.2 + (1 : Int))).bind fun digits_here => Res.ok (.nx (first, power, digits_here))) xs2 (first, power, digits_here) : Res (Ctl (Int × Int × Int) Tx)) fun s4 => l_binary s4.1 s4.2.2


/-- the first number of so many digits; whether its cell fits -/
def cd (s : Nat × Nat × Nat) (D : Nat) : Nat := tA (s.1 * 2 ^ D) s.2.2
def ft (s : Nat × Nat × Nat) (D : Nat) : Bool := decide ((cd s D + 1) * s.2.2 ≤ (s.1 + s.2.1) * 2 ^ D)
theorem cd_ge {s : Nat × Nat × Nat} {D : Nat} (h : 1 ≤ s.2.2) : s.1 * 2 ^ D ≤ cd s D * s.2.2 := tA_ge h
theorem cd_lt {s : Nat × Nat × Nat} {D : Nat} (h : 1 ≤ s.2.2) : cd s D * s.2.2 + 1 ≤ s.1 * 2 ^ D + s.2.2 := by
  have : cd s D * s.2.2 ≤ s.1 * 2 ^ D + s.2.2 - 1 := Nat.div_mul_le_self _ _
  omega
theorem ft_of {s : Nat × Nat × Nat} {D : Nat} (h : 1 ≤ s.2.2) (h2 : 2 * s.2.2 ≤ s.2.1 * 2 ^ D) : ft s D = true := by
  have := cd_lt (D := D) h
  refine decide_eq_true ?_
  rw [Nat.add_mul, Nat.add_mul, Nat.one_mul]
  omega
theorem ft_ge {s : Nat × Nat × Nat} {D : Nat} (h : 1 ≤ s.2.2) (hf : ft s D = true) : s.2.2 ≤ s.2.1 * 2 ^ D := by
  have := cd_ge (D := D) h
  have hf := of_decide_eq_true hf
  rw [Nat.add_mul, Nat.add_mul, Nat.one_mul] at hf
  omega
theorem ceil_eq (a b : Nat) (hb : 1 ≤ b) : -((-(a : Int)) / (b : Int)) = (tA a b : Int) := by
  have h1 := tA_ge (w := a) hb
  have hb' : (0 : Int) < (b : Int) := by omega
  have l1 : -(tA a b : Int) ≤ (-(a : Int)) / (b : Int) := by
    refine (Int.le_ediv_iff_mul_le hb').mpr ?_
    rw [Int.neg_mul, ← Int.natCast_mul]
    omega
  have l2 : (-(a : Int)) / (b : Int) < -(tA a b : Int) + 1 := by
    refine (Int.ediv_lt_iff_lt_mul hb').mpr ?_
    rw [Int.add_mul, Int.neg_mul, Int.one_mul, ← Int.natCast_mul]
    have h2 : tA a b * b ≤ a + b - 1 := Nat.div_mul_le_self _ _
    omega
  omega
/-- what codes are of -/
structure Good (s : Nat × Nat × Nat) (M : Nat) : Prop where
  pos : 0 < s.2.1
  le : s.1 + s.2.1 ≤ s.2.2
  lt : s.2.2 < 2 ^ M
  small : M ≤ 3800
theorem Good.log {s : Nat × Nat × Nat} {M : Nat} (g : Good s M) : (s.2.2 / s.2.1).log2 < M := by
  have h1 := g.pos
  have h2 := g.le
  have h3 : 0 < s.2.2 / s.2.1 := Nat.div_pos (by omega) h1
  exact (Nat.log2_lt (by omega)).mpr (Nat.lt_of_le_of_lt (Nat.div_le_self _ _) g.lt)
/-- the digits: not below what whole by size asks, at most two more -/
theorem len_of {s : Nat × Nat × Nat} {M : Nat} (g : Good s M) : ∃ D, (s.2.2 / s.2.1).log2 ≤ D ∧ D ≤ (s.2.2 / s.2.1).log2 + 2 ∧ ft s D = true ∧ ∀ d, d < D → ft s d = false := by
  have h1 := g.pos
  have h2 := g.le
  have h3 : 0 < s.2.2 / s.2.1 := Nat.div_pos (by omega) h1
  have p1 : s.2.2 / s.2.1 < 2 ^ ((s.2.2 / s.2.1).log2 + 1) := Nat.lt_log2_self
  have p2 : 2 ^ (s.2.2 / s.2.1).log2 ≤ s.2.2 / s.2.1 := Nat.log2_self_le (by omega)
  generalize (s.2.2 / s.2.1).log2 = m at *
  have q1 : s.2.2 < s.2.1 * 2 ^ (m + 1) := Nat.div_lt_iff_lt_mul h1 |>.mp p1 |> fun z => by rw [Nat.mul_comm]; exact z
  obtain ⟨D, d1, d2, d3⟩ := least_of (ft s) (m + 2) (ft_of (by omega) (by
    rw [Nat.pow_succ, ← Nat.mul_assoc]
    omega))
  refine ⟨D, ?_, d1, d2, d3⟩
  have q2 := ft_ge (by omega) d2
  have q3 : s.2.2 / s.2.1 ≤ 2 ^ D := by
    refine (Nat.div_le_iff_le_mul_add_pred h1).mpr ?_
    omega
  rcases Nat.lt_or_ge D m with z | z
  · have := Nat.pow_lt_pow_right (a := 2) (by decide) z
    omega
  · exact z
theorem cd_le {s : Nat × Nat × Nat} {M : Nat} (g : Good s M) (D : Nat) : cd s D ≤ 2 ^ D := by
  have h1 := g.pos
  have h2 := g.le
  have h3 := cd_lt (s := s) (D := D) (by omega)
  have h4 : s.1 * 2 ^ D ≤ s.2.2 * 2 ^ D := Nat.mul_le_mul_right _ (by omega)
  have h5 : cd s D * s.2.2 < (2 ^ D + 1) * s.2.2 := by
    rw [Nat.add_mul, Nat.one_mul, Nat.mul_comm (2 ^ D)]
    omega
  have := Nat.lt_of_mul_lt_mul_right h5
  omega
section
variable {s : Nat × Nat × Nat} {M : Nat}
theorem p_first (g : Good s M) {D : Nat} (hD : D ≤ 100000) : ((shl (-(s.1 : Int)) (D : Int)).bind fun v5 => (fdiv v5 (s.2.2 : Int)).bind fun v6 => Res.ok (-v6)) = .ok (cd s D : Int) := by
  have h1 := g.pos
  have h2 := g.le
  have h3 := g.lt
  have h4 := g.small
  rw [shl_int (n := M) (by omega) (by omega), Res.ok_bind, fdiv_ok (by omega) (by
    rw [Int.natAbs_natCast]
    exact Nat.lt_of_lt_of_le ((Nat.log2_lt (by omega)).mpr h3) (by omega)), Res.ok_bind]
  congr 1
  have e : -(s.1 : Int) * 2 ^ D = -((s.1 * 2 ^ D : Nat) : Int) := by
    rw [Int.natCast_mul, Int.natCast_pow, Int.neg_mul]
    rfl
  rw [e]
  exact ceil_eq _ _ (by omega)
theorem ft_int (D : Nat) : decide (((cd s D : Int) + 1) * (s.2.2 : Int) ≤ ((s.1 : Int) + (s.2.1 : Int)) * 2 ^ D) = ft s D := by
  unfold ft
  rw [Bool.eq_iff_iff, decide_eq_true_eq, decide_eq_true_eq]
  have e1 : ((cd s D : Int) + 1) * (s.2.2 : Int) = (((cd s D + 1) * s.2.2 : Nat) : Int) := by rw [Int.natCast_mul]; rfl
  have e2 : ((s.1 : Int) + (s.2.1 : Int)) * 2 ^ D = (((s.1 + s.2.1) * 2 ^ D : Nat) : Int) := by rw [Int.natCast_mul, Int.natCast_pow]; rfl
  rw [e1, e2]
  exact Int.ofNat_le
theorem p_fits (g : Good s M) {D : Nat} (hD : D ≤ 100000) : ((mul ((cd s D : Int) + (1 : Int)) (s.2.2 : Int)).bind fun v7 => (shl ((s.1 : Int) + (s.2.1 : Int)) (D : Int)).bind fun v8 => Res.ok (decide (v7 ≤ v8))) = .ok (ft s D) := by
  have h1 := g.pos
  have h2 := g.le
  have h3 := g.lt
  have h4 := g.small
  have h5 := cd_le g D
  have h6 : 2 ^ D * 4 = 2 ^ (D + 2) := (Nat.pow_add 2 D 2).symm
  have h7 : 0 < 2 ^ D := Nat.pow_pos (by decide)
  rw [mul_ok (D + 2) M (by omega) (by omega) (by omega), Res.ok_bind, shl_int (n := M) (by omega) (by omega), Res.ok_bind, ft_int]
theorem p_code_of (g : Good s M) {t : Tx} {w D : Nat} (hi : p_interval (w : Int) t = .ok ((s.1 : Int), (s.2.1 : Int), (s.2.2 : Int))) (d1 : (s.2.2 / s.2.1).log2 ≤ D) (d2 : D ≤ (s.2.2 / s.2.1).log2 + 2) (d3 : ft s D = true) (d4 : ∀ d, d < D → ft s d = false) : p_code_ (w : Int) t = .ok (dg (cd s D) D) := by
  have h1 := g.pos
  have h2 := g.le
  have h3 := g.lt
  have h4 := g.small
  have h5 := g.log
  have hq : 0 < s.2.2 / s.2.1 := Nat.div_pos (by omega) h1
  unfold p_code_
  rw [hi, Res.ok_bind]
  dsimp only
  rw [fdiv_ok (by omega) (by
    rw [Int.natAbs_natCast]
    exact Nat.lt_of_lt_of_le ((Nat.log2_lt (by omega)).mpr (show s.2.1 < 2 ^ M by omega)) (by omega)), Res.ok_bind, ← Int.natCast_ediv]
  have em : ((nbits ((s.2.2 / s.2.1 : Nat) : Int) : Nat) : Int) - 1 = (((s.2.2 / s.2.1).log2 + 0 : Nat) : Int) := by
    unfold nbits
    rw [if_neg (by omega), Int.natAbs_natCast]
    omega
  rw [em, Res.ok_bind]
  generalize (s.2.2 / s.2.1).log2 = m at *
  have wr := whil_ret (B := Tx) (t := fun (s4 : Int) => Res.ok true) (n := 1000) (f := fun (s4 : Int) => ((shl (-(s.1 : Int)) s4).bind fun v5 => (fdiv v5 (s.2.2 : Int)).bind fun v6 => Res.ok (-v6)).bind fun first => ((mul (first + (1 : Int)) (s.2.2 : Int)).bind fun v7 => (shl ((s.1 : Int) + (s.2.1 : Int)) s4).bind fun v8 => Res.ok (decide (v7 ≤ v8))).bind fun b10 => if b10 then (p_digits_text first s4).bind fun a => Res.ok (.ret a) else (Res.ok (s4 + (1 : Int))).bind fun many => Res.ok (.nx many)) (r := dg (cd s D) D) (D - m) (fun i => ((m + i : Nat) : Int)) (by omega) (fun _ => rfl) ?_ ?_
  · exact (congrArg (fun z => withCtl z _) wr).trans rfl
  · intro i hi
    rw [p_first g (by omega), Res.ok_bind, p_fits g (by omega), Res.ok_bind, d4 (m + i) (by omega), if_neg (by decide), Res.ok_bind]
    rfl
  · have e : m + (D - m) = D := by omega
    rw [e, p_first g (by omega), Res.ok_bind, p_fits g (by omega), Res.ok_bind, d3, if_pos rfl, digits_text_ok _ _ (by omega), Res.ok_bind]
def st3 (s : Nat × Nat × Nat) : Nat → Int × Int × Int
  | 0 => (0, 1, 0)
  | i + 1 => ((cd s i : Int), 2 ^ (i + 1), ((i + 1 : Nat) : Int))
theorem st3_2 (i : Nat) : (st3 s i).2.1 = 2 ^ i ∧ (st3 s i).2.2 = (i : Int) := by
  cases i
  · exact ⟨rfl, rfl⟩
  · exact ⟨rfl, rfl⟩
theorem l_first (g : Good s M) {D : Nat} (hD : D ≤ 100000) : ((mul (s.1 : Int) (2 ^ D)).bind fun v6 => fdiv ((v6 + (s.2.2 : Int)) - (1 : Int)) (s.2.2 : Int)) = .ok (cd s D : Int) := by
  have h1 := g.pos
  have h2 := g.le
  have h3 := g.lt
  have h4 := g.small
  have e0 : ((2 : Int) ^ D).natAbs = 2 ^ D := by rw [Int.natAbs_pow]; rfl
  have h6 : 2 ^ D * 2 = 2 ^ (D + 1) := (Nat.pow_succ 2 D).symm
  have h7 : 0 < 2 ^ D := Nat.pow_pos (by decide)
  rw [mul_ok M (D + 1) (by omega) (by omega) (by omega), Res.ok_bind, fdiv_ok (by omega) (by
    rw [Int.natAbs_natCast]
    exact Nat.lt_of_lt_of_le ((Nat.log2_lt (by omega)).mpr h3) (by omega))]
  congr 1
  have e : (s.1 : Int) * 2 ^ D + (s.2.2 : Int) - 1 = ((s.1 * 2 ^ D + s.2.2 - 1 : Nat) : Int) := by
    have : ((s.1 * 2 ^ D : Nat) : Int) = (s.1 : Int) * 2 ^ D := by rw [Int.natCast_mul, Int.natCast_pow]; rfl
    rw [← this]
    omega
  rw [e, ← Int.natCast_ediv]
  rfl
theorem l_fits (g : Good s M) {D : Nat} (hD : D ≤ 100000) : ((mul ((cd s D : Int) + (1 : Int)) (s.2.2 : Int)).bind fun v11 => (mul ((s.1 : Int) + (s.2.1 : Int)) (2 ^ D)).bind fun v14 => Res.ok (decide (v11 ≤ v14))) = .ok (ft s D) := by
  have h1 := g.pos
  have h2 := g.le
  have h3 := g.lt
  have h4 := g.small
  have h5 := cd_le g D
  have h6 : 2 ^ D * 4 = 2 ^ (D + 2) := (Nat.pow_add 2 D 2).symm
  have h6' : 2 ^ D * 2 = 2 ^ (D + 1) := (Nat.pow_succ 2 D).symm
  have h7 : 0 < 2 ^ D := Nat.pow_pos (by decide)
  have e0 : ((2 : Int) ^ D).natAbs = 2 ^ D := by rw [Int.natAbs_pow]; rfl
  rw [mul_ok (D + 2) M (by omega) (by omega) (by omega), Res.ok_bind, mul_ok M (D + 1) (by omega) (by omega) (by omega), Res.ok_bind, ft_int]
theorem l_code_of (g : Good s M) {t : Tx} {w D : Nat} (hi : l_interval (w : Int) t = .ok [(s.1 : Int), (s.2.1 : Int), (s.2.2 : Int)]) (d2 : D < 2100) (d3 : ft s D = true) (d4 : ∀ d, d < D → ft s d = false) : l_code (w : Int) t = .ok (dg (cd s D) D) := by
  unfold l_code
  rw [hi, Res.ok_bind]
  have i0 : idx [(s.1 : Int), (s.2.1 : Int), (s.2.2 : Int)] 0 = .ok (s.1 : Int) := rfl
  have i1 : idx [(s.1 : Int), (s.2.1 : Int), (s.2.2 : Int)] 1 = .ok (s.2.1 : Int) := rfl
  have i2 : idx [(s.1 : Int), (s.2.1 : Int), (s.2.2 : Int)] 2 = .ok (s.2.2 : Int) := rfl
  have r0 : rng 0 2100 = .ok ((List.range 2100).map fun i : Nat => (i : Int)) := rng_nat (n := 2100) (by decide)
  rw [Res.ok_bind, Res.ok_bind, Res.ok_bind, r0, Res.ok_bind]
  have lb := loop_brk (B := Tx) (xs := (List.range 2100).map fun i : Nat => (i : Int)) (f := fun (x3 : Int) (s4 : Int × Int × Int) => ((idx [(s.1 : Int), (s.2.1 : Int), (s.2.2 : Int)] (0 : Int)).bind fun v5 => (mul v5 s4.2.1).bind fun v6 => (idx [(s.1 : Int), (s.2.1 : Int), (s.2.2 : Int)] (2 : Int)).bind fun v7 => (idx [(s.1 : Int), (s.2.1 : Int), (s.2.2 : Int)] (2 : Int)).bind fun v8 => fdiv ((v6 + v7) - (1 : Int)) v8).bind fun first => ((idx [(s.1 : Int), (s.2.1 : Int), (s.2.2 : Int)] (2 : Int)).bind fun v10 => (mul (first + (1 : Int)) v10).bind fun v11 => (idx [(s.1 : Int), (s.2.1 : Int), (s.2.2 : Int)] (0 : Int)).bind fun v12 => (idx [(s.1 : Int), (s.2.1 : Int), (s.2.2 : Int)] (1 : Int)).bind fun v13 => (mul (v12 + v13) s4.2.1).bind fun v14 => Res.ok (decide (v11 ≤ v14))).bind fun b15 => if b15 then (Res.ok (first, s4.2.1, s4.2.2)).bind fun a => Res.ok (.brk a) else (Res.ok (s4.2.1 * (2 : Int))).bind fun power => (Res.ok (s4.2.2 + (1 : Int))).bind fun digits_here => Res.ok (.nx (first, power, digits_here))) (s' := ((cd s D : Int), 2 ^ D, (D : Int))) D (st3 s) (by simpa using d2) ?_ ?_
  · have w0 : (((0 : Int), (1 : Int), (0 : Int))) = st3 s 0 := rfl
    rw [w0, lb]
    unfold withCtl
    rw [Res.ok_bind]
    dsimp only
    have hb : D ≤ 100000 := by omega
    exact l_binary_ok (cd s D) D hb
  · intro i hi hd
    simp only [i0, i1, i2, Res.ok_bind, (st3_2 i).1, (st3_2 i).2]
    rw [l_first g (by omega), Res.ok_bind, l_fits g (by omega), Res.ok_bind, d4 i hd, if_neg (by decide)]
    congr 2
  · simp only [i0, i1, i2, Res.ok_bind, (st3_2 D).1, (st3_2 D).2]
    rw [l_first g (by omega), Res.ok_bind, l_fits g (by omega), Res.ok_bind, d3, if_pos rfl]
end
def fct : Nat → Nat
  | 0 => 1
  | n + 1 => fct n * (n + 1)
theorem fct_pos : ∀ n, 1 ≤ fct n
  | 0 => Nat.le_refl _
  | n + 1 => Nat.mul_le_mul (fct_pos n) (Nat.succ_le_succ (Nat.zero_le n))
theorem fct_mono : ∀ {n m : Nat}, n ≤ m → fct n ≤ fct m
  | n, 0, h => by rw [Nat.le_zero.mp h]; exact Nat.le_refl _
  | n, m + 1, h => by
    rcases Nat.lt_or_ge n (m + 1) with z | z
    · refine Nat.le_trans (fct_mono (Nat.le_of_lt_succ z)) ?_
      have := Nat.mul_le_mul_left (fct m) (show 1 ≤ m + 1 by omega)
      rw [Nat.mul_one] at this
      exact this
    · rw [Nat.le_antisymm h z]
      exact Nat.le_refl _
theorem ivl_fct (w : Nat) (r : Nat → Bool) (i : Nat) : (ivl w r i).2.2 ≤ fct (i + 1) := by
  induction i with
  | zero => exact Nat.le_refl _
  | succ i ih =>
    have h4 := cn_le w r (gN w i r) i
    exact Nat.mul_le_mul ih (by omega)
theorem ivl_log (w : Nat) (r : Nat → Bool) (i : Nat) (hi : i ≤ 256) : ((ivl w r i).2.2 / (ivl w r i).2.1).log2 < 1750 := by
  obtain ⟨h1, h2, _⟩ := ivl_inv w r i (by omega)
  have h3 : 0 < (ivl w r i).2.2 / (ivl w r i).2.1 := Nat.div_pos (by omega) h1
  have h4 : fct 257 < 2 ^ 1750 := by decide +kernel
  have h5 : fct (i + 1) ≤ fct 257 := fct_mono (by omega)
  exact (Nat.log2_lt (by omega)).mpr (Nat.lt_of_le_of_lt (Nat.le_trans (Nat.div_le_self _ _) (ivl_fct w r i)) (Nat.lt_of_le_of_lt h5 h4))
theorem ivl_good (w : Nat) (r : Nat → Bool) (i : Nat) (hi : i ≤ 256) : Good (ivl w r i) (9 * i + 1) := by
  obtain ⟨h1, h2, h3⟩ := ivl_inv w r i (by omega)
  exact ⟨h1, h2, Nat.lt_of_le_of_lt h3 (Nat.pow_lt_pow_right (by decide) (by omega)), by omega⟩
/-- the code of bits -/
theorem code_ok (t : Tx) (w : Nat) (hw : 0 < w) (hl : t.length ≤ 256) : ∃ D, ((ivl w (rd t) t.length).2.2 / (ivl w (rd t) t.length).2.1).log2 ≤ D ∧ D ≤ ((ivl w (rd t) t.length).2.2 / (ivl w (rd t) t.length).2.1).log2 + 2 ∧ ft (ivl w (rd t) t.length) D = true ∧ (∀ d, d < D → ft (ivl w (rd t) t.length) d = false) ∧
    p_code_ (w : Int) t = .ok (dg (cd (ivl w (rd t) t.length) D) D) ∧ l_code (w : Int) t = .ok (dg (cd (ivl w (rd t) t.length) D) D) := by
  have g := ivl_good w (rd t) t.length hl
  obtain ⟨D, d1, d2, d3, d4⟩ := len_of g
  have lg := ivl_log w (rd t) t.length hl
  have pi := p_interval_ok t w hw (by omega)
  have li := l_interval_ok t w hw (by omega)
  exact ⟨D, d1, d2, d3, d4, p_code_of g pi d1 d2 d3 d4, l_code_of g li (by omega) d3 d4⟩
theorem encode_ok (t : Tx) {w : Nat} (hw : 0 < w) (hw2 : w ≤ 16) (hl : t.length ≤ 256) : p_encode (w : Int) t = p_code_ (w : Int) t := by
  unfold p_encode p_check_width p_check_bits
  rw [if_neg (by simp; omega), Res.ok_bind, if_neg (by simp; omega), Res.ok_bind]
end C
/-! PE: what an interval's size and whole are, by counts. -/
namespace C
open R
/-- products and sums over the first n -/
def pr (f : Nat → Nat) : Nat → Nat
  | 0 => 1
  | n + 1 => pr f n * f n
def sm (f : Nat → Nat) : Nat → Nat
  | 0 => 0
  | n + 1 => sm f n + f n
theorem pr_congr {f g : Nat → Nat} : ∀ {n : Nat}, (∀ c, c < n → f c = g c) → pr f n = pr g n
  | 0, _ => rfl
  | n + 1, h => by
    rw [pr, pr, pr_congr fun c hc => h c (by omega), h n (by omega)]
theorem sm_congr {f g : Nat → Nat} : ∀ {n : Nat}, (∀ c, c < n → f c = g c) → sm f n = sm g n
  | 0, _ => rfl
  | n + 1, h => by
    rw [sm, sm, sm_congr fun c hc => h c (by omega), h n (by omega)]
theorem pr_upd {f g : Nat → Nat} {a k : Nat} : ∀ {n : Nat}, k < n → g k = f k * a → (∀ c, c ≠ k → g c = f c) → pr g n = pr f n * a
  | n + 1, hk, h1, h2 => by
    rw [pr, pr]
    by_cases q : k = n
    · subst q
      rw [pr_congr (f := g) (g := f) fun c hc => h2 c (by omega), h1, Nat.mul_assoc]
    · rw [pr_upd (by omega) h1 h2, h2 n (Ne.symm q), Nat.mul_assoc, Nat.mul_assoc, Nat.mul_comm a]
theorem sm_upd {f g : Nat → Nat} {k : Nat} : ∀ {n : Nat}, k < n → g k = f k + 1 → (∀ c, c ≠ k → g c = f c) → sm g n = sm f n + 1
  | n + 1, hk, h1, h2 => by
    rw [sm, sm]
    by_cases q : k = n
    · subst q
      rw [sm_congr (f := g) (g := f) fun c hc => h2 c (by omega), h1]
      rfl
    · rw [sm_upd (by omega) h1 h2, h2 n (Ne.symm q)]
      omega
theorem pr_mul (f g : Nat → Nat) : ∀ n, pr (fun c => f c * g c) n = pr f n * pr g n
  | 0 => rfl
  | n + 1 => by
    rw [pr, pr, pr, pr_mul, Nat.mul_assoc, Nat.mul_assoc, Nat.mul_left_comm (pr g n)]
theorem pr_le {f g : Nat → Nat} : ∀ {n : Nat}, (∀ c, c < n → f c ≤ g c) → pr f n ≤ pr g n
  | 0, _ => Nat.le_refl _
  | n + 1, h => Nat.mul_le_mul (pr_le fun c hc => h c (by omega)) (h n (by omega))
theorem pr_pos {f : Nat → Nat} : ∀ {n : Nat}, (∀ c, c < n → 0 < f c) → 0 < pr f n
  | 0, _ => Nat.one_pos
  | n + 1, h => Nat.mul_pos (pr_pos fun c hc => h c (by omega)) (h n (by omega))
theorem pr_pow (f : Nat → Nat) (k : Nat) : ∀ n, pr (fun c => f c ^ k) n = pr f n ^ k
  | 0 => (Nat.one_pow k).symm
  | n + 1 => by rw [pr, pr, pr_pow, Nat.mul_pow]
theorem pr_two (f : Nat → Nat) : ∀ n, pr (fun c => 2 ^ f c) n = 2 ^ sm f n
  | 0 => rfl
  | n + 1 => by rw [pr, sm, pr_two, Nat.pow_add]
theorem sm_add (f : Nat → Nat) (k : Nat) : ∀ n, sm (fun c => f c + k) n = sm f n + n * k
  | 0 => by simp [sm]
  | n + 1 => by
    rw [sm, sm, sm_add, Nat.add_mul]
    omega
/-- binomials -/
theorem fct_bin : ∀ (n z o : Nat), z + o = n → fct n ≤ 2 ^ n * (fct z * fct o)
  | 0, z, o, h => by
    have : z = 0 := by omega
    have : o = 0 := by omega
    subst z o
    exact Nat.le_refl _
  | n + 1, z, o, h => by
    have hz : fct n * z ≤ 2 ^ n * (fct z * fct o) := by
      cases z with
      | zero => exact Nat.zero_le _
      | succ z =>
        have := Nat.mul_le_mul_right (z + 1) (fct_bin n z o (by omega))
        rw [fct]
        calc fct n * (z + 1) ≤ 2 ^ n * (fct z * fct o) * (z + 1) := this
          _ = _ := by rw [Nat.mul_assoc, Nat.mul_right_comm]
    have ho : fct n * o ≤ 2 ^ n * (fct z * fct o) := by
      cases o with
      | zero => exact Nat.zero_le _
      | succ o =>
        have := Nat.mul_le_mul_right (o + 1) (fct_bin n z o (by omega))
        rw [fct]
        calc fct n * (o + 1) ≤ 2 ^ n * (fct z * fct o) * (o + 1) := this
          _ = _ := by rw [Nat.mul_assoc, Nat.mul_assoc]
    have e : fct (n + 1) = fct n * z + fct n * o := by
      rw [fct, ← Nat.mul_add, ← h]
    rw [e, Nat.pow_succ, Nat.mul_right_comm]
    omega
section
variable (w : Nat) (r : Nat → Bool)
def zc (i c : Nat) : Nat := cn w r false c i
def oc (i c : Nat) : Nat := cn w r true c i
theorem ivl_id (i : Nat) : (ivl w r i).2.2 * pr (fun c => fct (zc w r i c) * fct (oc w r i c)) 16 = (ivl w r i).2.1 * pr (fun c => fct (zc w r i c + oc w r i c + 1)) 16 := by
  induction i with
  | zero => rfl
  | succ i ih =>
    have hg := gN_lt w i r
    have zs : ∀ c, zc w r (i + 1) c = zc w r i c + if gN w i r = c ∧ r i = false then 1 else 0 := fun c => cn_succ w r false c i
    have os : ∀ c, oc w r (i + 1) c = oc w r i c + if gN w i r = c ∧ r i = true then 1 else 0 := fun c => cn_succ w r true c i
    have e2 : pr (fun c => fct (zc w r (i + 1) c + oc w r (i + 1) c + 1)) 16 = pr (fun c => fct (zc w r i c + oc w r i c + 1)) 16 * (zc w r i (gN w i r) + oc w r i (gN w i r) + 2) := by
      refine pr_upd hg ?_ fun c hc => ?_
      · rw [zs, os]
        have f1 : ∀ a b : Nat, fct (a + 1 + b + 1) = fct (a + b + 1) * (a + b + 2) := fun a b => by
          have : a + 1 + b + 1 = (a + b + 1) + 1 := by omega
          rw [this]
          rfl
        have f2 : ∀ a b : Nat, fct (a + (b + 1) + 1) = fct (a + b + 1) * (a + b + 2) := fun a b => rfl
        cases r i
        · simp only [true_and, and_true, if_true, Bool.false_eq_true, and_false, if_false, Nat.add_zero]
          exact f1 _ _
        · simp only [true_and, and_true, if_true, Bool.true_eq_false, and_false, if_false, Nat.add_zero]
          exact f2 _ _
      · rw [zs, os, if_neg fun z => hc z.1.symm, if_neg fun z => hc z.1.symm]
        rfl
    have e1 : pr (fun c => fct (zc w r (i + 1) c) * fct (oc w r (i + 1) c)) 16 = pr (fun c => fct (zc w r i c) * fct (oc w r i c)) 16 * (if r i then oc w r i (gN w i r) + 1 else zc w r i (gN w i r) + 1) := by
      refine pr_upd hg ?_ fun c hc => ?_
      · rw [zs, os]
        cases r i
        · simp [fct]
          rw [Nat.mul_right_comm]
        · simp [fct]
          rw [Nat.mul_assoc]
      · rw [zs, os, if_neg fun z => hc z.1.symm, if_neg fun z => hc z.1.symm]
        rfl
    rw [e1, e2]
    show (ivl w r i).2.2 * (zc w r i (gN w i r) + oc w r i (gN w i r) + 2) * _ = (ivl w r i).2.1 * (if r i then oc w r i (gN w i r) + 1 else zc w r i (gN w i r) + 1) * _
    generalize zc w r i (gN w i r) + oc w r i (gN w i r) + 2 = x
    generalize (if r i then oc w r i (gN w i r) + 1 else zc w r i (gN w i r) + 1) = y
    rw [Nat.mul_mul_mul_comm, ih, Nat.mul_comm x y]
    exact (Nat.mul_mul_mul_comm _ _ _ _).symm
theorem cn_sum (i : Nat) : sm (fun c => zc w r i c + oc w r i c) 16 = i := by
  induction i with
  | zero => rfl
  | succ i ih =>
    have hg := gN_lt w i r
    have zs : ∀ c, zc w r (i + 1) c = zc w r i c + if gN w i r = c ∧ r i = false then 1 else 0 := fun c => cn_succ w r false c i
    have os : ∀ c, oc w r (i + 1) c = oc w r i c + if gN w i r = c ∧ r i = true then 1 else 0 := fun c => cn_succ w r true c i
    have e : sm (fun c => zc w r (i + 1) c + oc w r (i + 1) c) 16 = sm (fun c => zc w r i c + oc w r i c) 16 + 1 := by
      refine sm_upd hg ?_ fun c hc => ?_
      · rw [zs, os]
        cases r i <;> simp <;> omega
      · rw [zs, os, if_neg fun z => hc z.1.symm, if_neg fun z => hc z.1.symm]
        rfl
    rw [e, ih]
/-- whole is at most size, times 2 to the count, times the product of what stood in the contexts, each plus 1 -/
theorem ivl_bound (i : Nat) : (ivl w r i).2.2 ≤ (ivl w r i).2.1 * (2 ^ i * pr (fun c => zc w r i c + oc w r i c + 1) 16) := by
  have id := ivl_id w r i
  have hp : 0 < pr (fun c => fct (zc w r i c) * fct (oc w r i c)) 16 := pr_pos fun c _ => Nat.mul_pos (fct_pos _) (fct_pos _)
  have h1 : pr (fun c => fct (zc w r i c + oc w r i c + 1)) 16 ≤ 2 ^ i * pr (fun c => zc w r i c + oc w r i c + 1) 16 * pr (fun c => fct (zc w r i c) * fct (oc w r i c)) 16 := by
    have e : 2 ^ i = pr (fun c => 2 ^ (zc w r i c + oc w r i c)) 16 := by rw [pr_two, cn_sum]
    rw [e, ← pr_mul, ← pr_mul]
    refine pr_le fun c _ => ?_
    have := fct_bin _ (zc w r i c) (oc w r i c) rfl
    rw [fct]
    calc fct (zc w r i c + oc w r i c) * (zc w r i c + oc w r i c + 1) ≤ 2 ^ (zc w r i c + oc w r i c) * (fct (zc w r i c) * fct (oc w r i c)) * (zc w r i c + oc w r i c + 1) := Nat.mul_le_mul_right _ this
      _ = _ := by rw [Nat.mul_right_comm]
  have h2 := Nat.mul_le_mul_left (ivl w r i).2.1 h1
  rw [← id, ← Nat.mul_assoc] at h2
  exact Nat.le_of_mul_le_mul_right h2 hp
end
theorem pow16 : ∀ n, n ≤ 256 → (n + 1) ^ 16 ≤ 2 ^ (n + 51) := by
  have h : (List.range 257).all (fun n => decide ((n + 1) ^ 16 ≤ 2 ^ (n + 51))) = true := by decide +kernel
  intro n hn
  exact of_decide_eq_true (List.all_eq_true.mp h n (List.mem_range.mpr (by omega)))
/-- codes are short -/
theorem code_short (w : Nat) (r : Nat → Bool) (i D : Nat) (hi : i ≤ 256) (hs : 0 < (ivl w r i).2.1) (h : (ivl w r i).2.1 * 2 ^ D < 4 * (ivl w r i).2.2) : 16 * D < 17 * i + 848 := by
  have b := ivl_bound w r i
  have h1 : 2 ^ D < 4 * (2 ^ i * pr (fun c => zc w r i c + oc w r i c + 1) 16) := by
    refine Nat.lt_of_mul_lt_mul_left (a := (ivl w r i).2.1) (Nat.lt_of_lt_of_le h ?_)
    rw [Nat.mul_left_comm]
    exact Nat.mul_le_mul_left 4 b
  have h2 : (2 ^ D) ^ 16 < (4 * (2 ^ i * pr (fun c => zc w r i c + oc w r i c + 1) 16)) ^ 16 := Nat.pow_lt_pow_left h1 (by decide)
  have h3 : pr (fun c => zc w r i c + oc w r i c + 1) 16 ^ 16 ≤ 2 ^ (i + 816) := by
    rw [← pr_pow]
    refine Nat.le_trans (pr_le (g := fun c => 2 ^ (zc w r i c + oc w r i c + 51)) fun c hc => pow16 _ ?_) ?_
    · exact Nat.le_trans (cn_le w r c i) hi
    · rw [pr_two, sm_add, cn_sum]
      exact Nat.le_refl _
  have h4 : (4 * (2 ^ i * pr (fun c => zc w r i c + oc w r i c + 1) 16)) ^ 16 ≤ 2 ^ (17 * i + 848) := by
    rw [Nat.mul_pow, Nat.mul_pow, ← Nat.pow_mul]
    have e : 2 ^ (17 * i + 848) = 4 ^ 16 * (2 ^ (i * 16) * 2 ^ (i + 816)) := by
      rw [show (4 : Nat) = 2 ^ 2 from rfl, ← Nat.pow_mul, ← Nat.pow_add, ← Nat.pow_add]
      congr 1
      omega
    rw [e]
    exact Nat.mul_le_mul_left _ (Nat.mul_le_mul_left _ h3)
  rw [← Nat.pow_mul] at h2
  have := (Nat.pow_lt_pow_iff_right (a := 2) (by decide)).mp (Nat.lt_of_lt_of_le h2 h4)
  omega
end C
/-! PH: codes are told apart. -/
namespace R
theorem loop_ret {α S B : Type} {f : α → S → Res (Ctl S B)} {s : S} {r : B} : ∀ {xs : List α} (D : Nat), (hD : D < xs.length) → (∀ i (hi : i < xs.length), i < D → f xs[i] s = .ok (.nx s)) → f xs[D] s = .ok (.ret r) → loop f xs s = .ok (.ret r)
  | x :: xs, 0, hD, h, hb => by
    have hb' : f x s = .ok (.ret r) := hb
    rw [loop, hb', Res.ok_bind]
  | x :: xs, D + 1, hD, h, hb => by
    have h0 : f x s = .ok (.nx s) := h 0 (by simp) (by omega)
    rw [loop, h0, Res.ok_bind]
    exact loop_ret D (by simpa using hD) (fun i hi hd => h (i + 1) (by simpa using hi) (by omega)) hb
end R
namespace C
open R
theorem foldl_vl (t : Tx) (n : Nat) : t.foldl (fun n c => 2 * n + if c = 49 then 1 else 0) n = n * 2 ^ t.length + vl t := by
  induction t generalizing n with
  | nil => simp [vl]
  | cons c t ih =>
    have e : vl (c :: t) = (2 * 0 + if c = 49 then 1 else 0) * 2 ^ t.length + vl t := ih _
    rw [List.foldl_cons, ih, e, List.length_cons, Nat.pow_succ, Nat.add_mul, Nat.mul_zero, Nat.zero_add, Nat.add_assoc]
    congr 1
    rw [Nat.mul_comm 2 n, Nat.mul_assoc, Nat.mul_comm 2]
theorem vl_cons (c : Nat) (t : Tx) : vl (c :: t) = (if c = 49 then 1 else 0) * 2 ^ t.length + vl t := by
  have := foldl_vl t (2 * 0 + if c = 49 then 1 else 0)
  refine Eq.trans this ?_
  rw [Nat.mul_zero, Nat.zero_add]
theorem vl_lt (t : Tx) : vl t < 2 ^ t.length := by
  induction t with
  | nil => exact Nat.one_pos
  | cons c t ih =>
    rw [vl_cons, List.length_cons, Nat.pow_succ]
    split <;> omega
/-- where two texts of digits differ first, if the one's cell lies ahead of the other's -/
theorem cells_apart : ∀ (a b : Tx), (∀ c ∈ a, isBit c) → (∀ c ∈ b, isBit c) → (vl a + 1) * 2 ^ b.length ≤ vl b * 2 ^ a.length → ∃ p s u, a = p ++ 48 :: s ∧ b = p ++ 49 :: u
  | [], b, _, _, h => by
    have := vl_lt b
    have e : vl ([] : Tx) = 0 := rfl
    rw [e, List.length_nil] at h
    omega
  | x :: a, [], _, _, h => by
    have e : vl ([] : Tx) = 0 := rfl
    rw [e, List.length_nil] at h
    omega
  | x :: a, y :: b, ha, hb, h => by
    have la := vl_lt a
    have lb := vl_lt b
    rw [vl_cons, vl_cons, List.length_cons, List.length_cons, Nat.pow_succ, Nat.pow_succ] at h
    have ha' : ∀ c ∈ a, isBit c := fun c hc => ha c (List.mem_cons_of_mem _ hc)
    have hb' : ∀ c ∈ b, isBit c := fun c hc => hb c (List.mem_cons_of_mem _ hc)
    have pa : 0 < 2 ^ a.length := Nat.pow_pos (by decide)
    have pb : 0 < 2 ^ b.length := Nat.pow_pos (by decide)
    have ih := cells_apart a b ha' hb'
    generalize 2 ^ a.length = A at *
    generalize 2 ^ b.length = B at *
    generalize vl a = v at *
    generalize vl b = u at *
    rcases ha x List.mem_cons_self with rfl | rfl <;> rcases hb y List.mem_cons_self with rfl | rfl
    · rw [if_neg (show ¬ (48 : Nat) = 49 by decide), Nat.zero_mul, Nat.zero_mul, Nat.zero_add, Nat.zero_add, ← Nat.mul_assoc, ← Nat.mul_assoc] at h
      obtain ⟨p, s, z, e1, e2⟩ := ih (by omega)
      exact ⟨48 :: p, s, z, by rw [e1]; rfl, by rw [e2]; rfl⟩
    · exact ⟨[], a, b, rfl, rfl⟩
    · rw [if_neg (show ¬ (48 : Nat) = 49 by decide), if_pos (show (49 : Nat) = 49 from rfl), Nat.zero_mul, Nat.zero_add, Nat.one_mul, ← Nat.mul_assoc, ← Nat.mul_assoc] at h
      have h1 : A * B + B ≤ (A + v + 1) * B := by
        rw [← Nat.succ_mul]
        exact Nat.mul_le_mul_right B (by omega)
      have h2 : u * A + A ≤ B * A := by
        rw [← Nat.succ_mul]
        exact Nat.mul_le_mul_right A lb
      rw [Nat.mul_comm B A] at h2
      omega
    · rw [if_pos (show (49 : Nat) = 49 from rfl), Nat.one_mul, Nat.one_mul, ← Nat.mul_assoc, ← Nat.mul_assoc, Nat.add_assoc, Nat.add_mul, Nat.add_mul B u A, Nat.mul_comm B A] at h
      obtain ⟨p, s, z, e1, e2⟩ := ih (by omega)
      exact ⟨49 :: p, s, z, by rw [e1]; rfl, by rw [e2]; rfl⟩
theorem frac_trans {a b c d e f : Nat} (hd : 0 < d) (h1 : a * d ≤ c * b) (h2 : c * f ≤ e * d) : a * f ≤ e * b := by
  refine Nat.le_of_mul_le_mul_right ?_ hd
  calc a * f * d = a * d * f := Nat.mul_right_comm _ _ _
    _ ≤ c * b * f := Nat.mul_le_mul_right f h1
    _ = c * f * b := Nat.mul_right_comm _ _ _
    _ ≤ e * d * b := Nat.mul_le_mul_right b h2
    _ = e * b * d := Nat.mul_right_comm _ _ _
/-- intervals lie within each other -/
theorem ivl_in (w : Nat) (r : Nat → Bool) (i : Nat) : ∀ k, (ivl w r i).1 * (ivl w r (i + k)).2.2 ≤ (ivl w r (i + k)).1 * (ivl w r i).2.2 ∧ ((ivl w r (i + k)).1 + (ivl w r (i + k)).2.1) * (ivl w r i).2.2 ≤ ((ivl w r i).1 + (ivl w r i).2.1) * (ivl w r (i + k)).2.2
  | 0 => ⟨Nat.le_refl _, Nat.le_refl _⟩
  | k + 1 => by
    obtain ⟨h1, h2⟩ := ivl_in w r i k
    show (ivl w r i).1 * (ivl w r (i + k + 1)).2.2 ≤ (ivl w r (i + k + 1)).1 * (ivl w r i).2.2 ∧ ((ivl w r (i + k + 1)).1 + (ivl w r (i + k + 1)).2.1) * (ivl w r i).2.2 ≤ ((ivl w r i).1 + (ivl w r i).2.1) * (ivl w r (i + k + 1)).2.2
    generalize i + k = j at *
    have e1 : (ivl w r (j + 1)).2.2 = (ivl w r j).2.2 * (cn w r false (gN w j r) j + cn w r true (gN w j r) j + 2) := rfl
    have e2 : (ivl w r j).1 * (cn w r false (gN w j r) j + cn w r true (gN w j r) j + 2) ≤ (ivl w r (j + 1)).1 := Nat.le_add_right _ _
    have e3 : (ivl w r (j + 1)).1 + (ivl w r (j + 1)).2.1 ≤ ((ivl w r j).1 + (ivl w r j).2.1) * (cn w r false (gN w j r) j + cn w r true (gN w j r) j + 2) := by
      show (ivl w r j).1 * _ + (if r j then (ivl w r j).2.1 * (cn w r false (gN w j r) j + 1) else 0) + (ivl w r j).2.1 * (if r j then cn w r true (gN w j r) j + 1 else cn w r false (gN w j r) j + 1) ≤ _
      have : (ivl w r j).2.1 * (cn w r false (gN w j r) j + cn w r true (gN w j r) j + 2) = (ivl w r j).2.1 * (cn w r false (gN w j r) j + 1) + (ivl w r j).2.1 * (cn w r true (gN w j r) j + 1) := by
        rw [← Nat.mul_add]
        congr 1
        omega
      rw [Nat.add_mul, this]
      split <;> omega
    generalize cn w r false (gN w j r) j + cn w r true (gN w j r) j + 2 = x at *
    rw [e1]
    constructor
    · calc (ivl w r i).1 * ((ivl w r j).2.2 * x) = (ivl w r i).1 * (ivl w r j).2.2 * x := (Nat.mul_assoc _ _ _).symm
        _ ≤ (ivl w r j).1 * (ivl w r i).2.2 * x := Nat.mul_le_mul_right x h1
        _ = (ivl w r j).1 * x * (ivl w r i).2.2 := Nat.mul_right_comm _ _ _
        _ ≤ _ := Nat.mul_le_mul_right _ e2
    · calc ((ivl w r (j + 1)).1 + (ivl w r (j + 1)).2.1) * (ivl w r i).2.2 ≤ ((ivl w r j).1 + (ivl w r j).2.1) * x * (ivl w r i).2.2 := Nat.mul_le_mul_right _ e3
        _ = ((ivl w r j).1 + (ivl w r j).2.1) * (ivl w r i).2.2 * x := Nat.mul_right_comm _ _ _
        _ ≤ ((ivl w r i).1 + (ivl w r i).2.1) * (ivl w r j).2.2 * x := Nat.mul_le_mul_right x h2
        _ = _ := Nat.mul_assoc _ _ _
theorem gN_congr {w p : Nat} {r r' : Nat → Bool} (h : ∀ i, i < p → r i = r' i) (hw : 0 < w) : gN w p r = gN w p r' := by
  unfold gN
  rw [g_congr h hw]
theorem cn_congr {w i : Nat} {r r' : Nat → Bool} (h : ∀ j, j < i → r j = r' j) (hw : 0 < w) (b : Bool) (c : Nat) : ∀ k, k ≤ i → cn w r b c k = cn w r' b c k
  | 0, _ => rfl
  | k + 1, hk => by
    rw [cn_succ, cn_succ, cn_congr h hw b c k (by omega), gN_congr (fun j hj => h j (by omega)) hw, h k (by omega)]
theorem ivl_congr {w i : Nat} {r r' : Nat → Bool} (h : ∀ j, j < i → r j = r' j) (hw : 0 < w) : ∀ k, k ≤ i → ivl w r k = ivl w r' k
  | 0, _ => rfl
  | k + 1, hk => by
    have g1 : gN w k r = gN w k r' := gN_congr (fun j hj => h j (by omega)) hw
    unfold ivl
    rw [ivl_congr h hw k (by omega), g1, cn_congr h hw _ _ k (by omega), cn_congr h hw _ _ k (by omega), h k (by omega)]
/-- the bits that differ first tell which interval lies ahead -/
theorem ivl_apart {w k n : Nat} {r r' : Nat → Bool} (h : ∀ j, j < k → r j = r' j) (hw : 0 < w) (h0 : r k = false) (h1 : r' k = true) (hk : k < n) (hn : n ≤ 400) :
    ((ivl w r n).1 + (ivl w r n).2.1) * (ivl w r' n).2.2 ≤ (ivl w r' n).1 * (ivl w r n).2.2 := by
  obtain ⟨m, rfl⟩ : ∃ m, n = k + 1 + m := ⟨n - (k + 1), by omega⟩
  obtain ⟨_, a⟩ := ivl_in w r (k + 1) m
  obtain ⟨b, _⟩ := ivl_in w r' (k + 1) m
  obtain ⟨p1, p2, _⟩ := ivl_inv w r' (k + 1) (by omega)
  have eI := ivl_congr h hw k (Nat.le_refl _)
  have g1 : gN w k r = gN w k r' := gN_congr h hw
  have c0 := cn_congr h hw false (gN w k r') k (Nat.le_refl _)
  have c1 := cn_congr h hw true (gN w k r') k (Nat.le_refl _)
  have e1 : (ivl w r (k + 1)).2.2 = (ivl w r' (k + 1)).2.2 := by
    show (ivl w r k).2.2 * _ = (ivl w r' k).2.2 * _
    rw [eI, g1, c0, c1]
  have e2 : (ivl w r (k + 1)).1 + (ivl w r (k + 1)).2.1 = (ivl w r' (k + 1)).1 := by
    show (ivl w r k).1 * _ + (if r k then _ else 0) + (ivl w r k).2.1 * (if r k then _ else _) = (ivl w r' k).1 * _ + (if r' k then _ else 0)
    rw [eI, g1, c0, c1, h0, h1]
    simp
  rw [e1, e2] at a
  exact frac_trans (by omega) a b
/-- a code's cell lies in the interval -/
theorem cell_in {s : Nat × Nat × Nat} {M D : Nat} (g : Good s M) (hf : ft s D = true) : s.1 * 2 ^ D ≤ cd s D * s.2.2 ∧ (cd s D + 1) * s.2.2 ≤ (s.1 + s.2.1) * 2 ^ D ∧ cd s D < 2 ^ D := by
  have h1 := g.pos
  have h2 := g.le
  have h3 := of_decide_eq_true hf
  refine ⟨cd_ge (by omega), h3, ?_⟩
  have h4 : (s.1 + s.2.1) * 2 ^ D ≤ s.2.2 * 2 ^ D := Nat.mul_le_mul_right _ h2
  rw [Nat.mul_comm s.2.2] at h4
  exact Nat.le_of_mul_le_mul_right (Nat.le_trans h3 h4) (by omega)
/-- the codes of two rows of bits -/
theorem codes_apart {w n k D D' : Nat} {r r' : Nat → Bool} (hw : 0 < w) (hn : n ≤ 256) (h : ∀ j, j < k → r j = r' j) (hk : k < n) (h0 : r k = false) (h1 : r' k = true) (f : ft (ivl w r n) D = true) (f' : ft (ivl w r' n) D' = true) :
    ∃ p s u, dg (cd (ivl w r n) D) D = p ++ 48 :: s ∧ dg (cd (ivl w r' n) D') D' = p ++ 49 :: u := by
  have g := ivl_good w r n hn
  have g' := ivl_good w r' n hn
  obtain ⟨_, a2, a3⟩ := cell_in g f
  obtain ⟨b1, _, b3⟩ := cell_in g' f'
  have ap := ivl_apart h hw h0 h1 hk (by omega)
  have q1 := g.pos
  have q2 := g.le
  have q1' := g'.pos
  have q2' := g'.le
  refine cells_apart _ _ (dg_bits _ _) (dg_bits _ _) ?_
  rw [vl_dg, vl_dg, dg_len, dg_len, Nat.mod_eq_of_lt a3, Nat.mod_eq_of_lt b3]
  exact frac_trans (by omega) (frac_trans (by omega) a2 ap) b1
/-- two unlike rows of one length -/
theorem rows_apart : ∀ (a b : Tx), a.length = b.length → a ≠ b → ∃ p x y s u, a = p ++ x :: s ∧ b = p ++ y :: u ∧ x ≠ y
  | [], [], _, h => absurd rfl h
  | x :: a, y :: b, hl, h => by
    by_cases q : x = y
    · subst q
      obtain ⟨p, x', y', s, u, e1, e2, e3⟩ := rows_apart a b (by simpa using hl) fun z => h (by rw [z])
      exact ⟨x :: p, x', y', s, u, by rw [e1]; rfl, by rw [e2]; rfl, e3⟩
    · exact ⟨[], x, y, a, b, rfl, rfl, q⟩
theorem lt_pre (p : Tx) {x y : Nat} (s u : Tx) (h : x ≠ y) : (p ++ x :: s < p ++ y :: u) ↔ x < y := by
  induction p with
  | nil =>
    show (x :: s < y :: u) ↔ _
    rw [List.cons_lt_cons_iff]
    constructor
    · rintro (z | ⟨z, _⟩)
      · exact z
      · exact absurd z h
    · exact .inl
  | cons c p ih =>
    show (c :: (p ++ x :: s) < c :: (p ++ y :: u)) ↔ _
    rw [List.cons_lt_cons_iff, ih]
    constructor
    · rintro (z | ⟨_, z⟩)
      · exact absurd z (Nat.lt_irrefl _)
      · exact z
    · exact fun z => .inr ⟨rfl, z⟩
theorem rd_pre (p s : Tx) (x : Nat) : rd (p ++ x :: s) p.length = decide (x = 49) ∧ ∀ j, j < p.length → rd (p ++ x :: s) j = rd p j := by
  constructor
  · unfold rd
    rw [List.getD_eq_getElem?_getD, List.getElem?_append_right (Nat.le_refl _), Nat.sub_self]
    rfl
  · intro j hj
    unfold rd
    rw [List.getD_eq_getElem?_getD, List.getElem?_append_left hj, List.getD_eq_getElem?_getD]
end C
/-! PK: bits and bytes. -/
namespace C
open R
def p_pack (bits : Tx) : Res (List Int) :=
  (Res.ok ([] : List Int)).bind fun row => ((rngC (0 : Int) (bits.length : Int) (8 : Int)).bind fun xs1 => fold (fun (x2 : Int) (s3 : (List Int)) => (Res.ok (0 : Int)).bind fun byte => ((ljust (cut bits (some x2) (some (x2 + (8 : Int)))) (8 : Int) 48).bind fun v4 => fold (fun (x5 : Nat) (s6 : Int) => (Res.ok (((2 : Int) * s6) + (if decide ([x5] = (tx "1")) then (1 : Int) else (0 : Int)))).bind fun byte => Res.ok byte) v4 byte : Res (Int)).bind fun s6 => (push s3 s6).bind fun row => Res.ok row) xs1 row : Res ((List Int))).bind fun s3 => Res.ok s3

def p_unpack (row : (List Int)) (count : Int) : Res Tx :=
  (Res.ok ([] : List Tx)).bind fun signs => (fold (fun (x1 : Int) (s2 : (List Tx)) => ((rng 0 (8 : Int)).bind fun xs3 => fold (fun (x4 : Int) (s5 : (List Tx)) => ((shr x1 ((7 : Int) - x4)).bind fun v6 => push s5 (if (!decide ((v6 % 2 ^ 1) = 0)) then (tx "1") else (tx "0"))).bind fun signs => Res.ok signs) xs3 s2 : Res ((List Tx))).bind fun s5 => Res.ok s5) (cut row none (some ((count + (7 : Int)) / (8 : Int)))) signs : Res ((List Tx))).bind fun s2 => (joinS (tx "") s2).bind fun v7 => Res.ok (cut v7 none (some count))

/-- eight bits from a place on, 0 behind the end -/
def pc (t : Tx) (i : Nat) : Tx := (List.range 8).map fun k => t.getD (8 * i + k) 48
theorem pc_len (t : Tx) (i : Nat) : (pc t i).length = 8 := by simp [pc]
theorem getD_bit {t : Tx} (h : ∀ c ∈ t, isBit c) (j : Nat) : isBit (t.getD j 48) := by
  rw [List.getD_eq_getElem?_getD]
  by_cases q : j < t.length
  · rw [List.getElem?_eq_getElem q]
    exact h _ (List.getElem_mem q)
  · rw [List.getElem?_eq_none (by omega)]
    exact .inl rfl
theorem pc_bits {t : Tx} (h : ∀ c ∈ t, isBit c) (i : Nat) : ∀ c ∈ pc t i, isBit c := by
  intro c hc
  obtain ⟨k, _, rfl⟩ := List.mem_map.mp hc
  exact getD_bit h _
theorem part_get (t : Tx) (i m k : Nat) (hk : k < 8) (hm : k < ((t.drop (8 * i)).take 8).length + m) : (((t.drop (8 * i)).take 8) ++ List.replicate m 48)[k]? = some (t.getD (8 * i + k) 48) := by
  rw [List.getD_eq_getElem?_getD]
  by_cases q : k < ((t.drop (8 * i)).take 8).length
  · rw [List.getElem?_append_left q, List.getElem?_take, if_pos hk, List.getElem?_drop]
    have l : 8 * i + k < t.length := by
      rw [List.length_take, List.length_drop] at q
      omega
    rw [List.getElem?_eq_getElem l]
    rfl
  · have l : t.length ≤ 8 * i + k := by
      rw [List.length_take, List.length_drop] at q
      omega
    rw [List.getElem?_append_right (by omega), List.getElem?_replicate, if_pos (by omega), List.getElem?_eq_none l]
    rfl
theorem pc_eq (t : Tx) (i : Nat) : ((t.drop (8 * i)).take 8) ++ List.replicate (8 - ((t.drop (8 * i)).take 8).length) 48 = pc t i := by
  have l : ((t.drop (8 * i)).take 8).length ≤ 8 := by rw [List.length_take]; exact Nat.min_le_left _ _
  refine List.ext_getElem? fun k => ?_
  by_cases hk : k < 8
  · rw [part_get t i _ k hk (by omega)]
    simp [pc, hk]
  · rw [List.getElem?_eq_none (by rw [List.length_append, List.length_replicate]; omega), List.getElem?_eq_none (by rw [pc_len]; omega)]
theorem cut_part (t : Tx) (i : Nat) (hi : 8 * i < t.length) : cut t (some ((8 * i : Nat) : Int)) (some (((8 * i : Nat) : Int) + 8)) = (t.drop (8 * i)).take 8 := by
  unfold cut sIx
  dsimp only
  have e : (((8 * i : Nat) : Int) + 8).toNat = 8 * i + 8 := by omega
  rw [if_neg (by omega), if_neg (by omega), Int.toNat_natCast, e, Nat.min_eq_left (by omega : 8 * i ≤ t.length)]
  by_cases q : 8 * i + 8 ≤ t.length
  · rw [Nat.min_eq_left q]
    congr 1
    omega
  · rw [Nat.min_eq_right (by omega), List.take_of_length_le (by rw [List.length_drop]; exact Nat.le_refl _), List.take_of_length_le (by rw [List.length_drop]; omega)]
theorem rngC8 (n : Nat) (hn : n ≤ 100000) : rngC 0 (n : Int) 8 = .ok ((List.range ((n + 7) / 8)).map fun i : Nat => ((8 * i : Nat) : Int)) := by
  unfold rngC
  rw [chk_of]
  · unfold rangeC rangeN
    by_cases h : 0 < n
    · have e : (((n : Int) - 0 - 1) / 8 + 1).toNat = (n + 7) / 8 := by omega
      rw [if_pos (by omega), e]
      congr 1
      refine List.map_congr_left fun i _ => ?_
      omega
    · have : n = 0 := by omega
      subst this
      rfl
  · simp only [Bool.and_eq_true, decide_eq_true_eq]
    omega
/-- the bytes of bits -/
def bytes (t : Tx) : List Int := (List.range ((t.length + 7) / 8)).map fun i => (vl (pc t i) : Int)
theorem bytes_of (t : Tx) (f : Int → List Int → Res (List Int)) (hl : t.length ≤ 100000) (h : ∀ i, 8 * i < t.length → ∀ s : List Int, s.length < line → f ((8 * i : Nat) : Int) s = .ok (s ++ [(vl (pc t i) : Int)])) : ((rngC (0 : Int) (t.length : Int) (8 : Int)).bind fun xs1 => fold f xs1 []) = .ok (bytes t) := by
  rw [rngC8 _ hl, Res.ok_bind, fold_push (g := fun x : Int => (vl (pc t (x.toNat / 8)) : Int)) (fun x hx s hs => by
    obtain ⟨i, hi, rfl⟩ := List.mem_map.mp hx
    have hi' := List.mem_range.mp hi
    rw [h i (by omega) s hs, Int.toNat_natCast, Nat.mul_div_cancel_left i (by decide)]) (by rw [List.length_map, List.length_range, line_val]; simp; omega), List.nil_append, List.map_map]
  congr 1
  refine List.map_congr_left fun i _ => ?_
  show (vl (pc t ((((8 * i : Nat) : Int)).toNat / 8)) : Int) = _
  rw [Int.toNat_natCast, Nat.mul_div_cancel_left i (by decide)]
theorem p_pack_ok (t : Tx) (hl : t.length ≤ 100000) : p_pack t = .ok (bytes t) := by
  unfold p_pack
  rw [Res.ok_bind, bytes_of t _ hl, Res.ok_bind]
  intro i hi s hs
  have l : ((t.drop (8 * i)).take 8).length ≤ 8 := by rw [List.length_take]; exact Nat.min_le_left _ _
  have ej : ljust ((t.drop (8 * i)).take 8) 8 48 = .ok (pc t i) := by
    unfold ljust
    rw [chk_of]
    · exact congrArg Res.ok (pc_eq t i)
    · simp only [Bool.and_eq_true, decide_eq_true_eq]
      exact ⟨by decide, by decide, Nat.le_trans l (by rw [line_val]; decide)⟩
  have ef := fold_vl (pc t i) 0
  rw [cut_part t i hi, Res.ok_bind, ej, Res.ok_bind]
  refine (congrArg (fun z => Res.bind z _) ef).trans ?_
  rw [Res.ok_bind]
  show (push s ((vl (pc t i) : Nat) : Int)).bind _ = _
  rw [push_ok hs, Res.ok_bind]
theorem r8 : rng 0 8 = .ok ((List.range 8).map fun k : Nat => (k : Int)) := rng_nat (n := 8) (by decide)
/-- the signs of a byte -/
theorem sign8 (x : Nat) : ((List.range 8).map fun k : Nat => (k : Int)).map (fun k : Int => [bd (x / 2 ^ (7 - k.toNat))]) = (dg x 8).map fun c => [c] := rfl
def sgn (row : List Int) : Tx := row.flatMap fun x => dg x.toNat 8
theorem sgn_len (row : List Int) : (sgn row).length = row.length * 8 := flatMap_len fun x _ => dg_len _ _
theorem p_unpack_ok (row : List Int) (m : Nat) (hr : ∀ x ∈ row, 0 ≤ x ∧ x < 256) (hl : row.length ≤ 100000) (hm : m ≤ 100000) : p_unpack row (m : Int) = .ok ((sgn (row.take ((m + 7) / 8))).take m) := by
  unfold p_unpack
  rw [Res.ok_bind]
  have e1 : ((m : Int) + 7) / 8 = (((m + 7) / 8 : Nat) : Int) := by omega
  have ec : cut row none (some (((m : Int) + 7) / 8)) = row.take ((m + 7) / 8) := by
    rw [e1]
    unfold cut sIx
    dsimp only
    rw [if_neg (by omega), Int.toNat_natCast, List.drop_zero, Nat.sub_zero]
    by_cases q : (m + 7) / 8 ≤ row.length
    · rw [Nat.min_eq_left q]
    · rw [Nat.min_eq_right (by omega), List.take_of_length_le (Nat.le_refl _), List.take_of_length_le (by omega)]
  rw [ec]
  have hr' : ∀ x ∈ row.take ((m + 7) / 8), 0 ≤ x ∧ x < 256 := fun x hx => hr x (List.mem_of_mem_take hx)
  have hl' : (row.take ((m + 7) / 8)).length ≤ 100000 := by rw [List.length_take]; omega
  generalize row.take ((m + 7) / 8) = rw_ at *
  have fc := fold_cat (xs := rw_) (s := ([] : List Tx)) (n := 8) (f := fun (x1 : Int) (s2 : (List Tx)) => ((rng 0 (8 : Int)).bind fun xs3 => fold (fun (x4 : Int) (s5 : (List Tx)) => ((shr x1 ((7 : Int) - x4)).bind fun v6 => push s5 (if (!decide ((v6 % 2 ^ 1) = 0)) then (tx "1") else (tx "0"))).bind fun signs => Res.ok signs) xs3 s2 : Res ((List Tx))).bind fun s5 => Res.ok s5) (g := fun x => (dg x.toNat 8).map fun c => [c]) (fun x _ => by rw [List.length_map, dg_len]) (fun x hx s hs => by
    obtain ⟨h0, h1⟩ := hr' x hx
    obtain ⟨n, rfl⟩ : ∃ n : Nat, x = (n : Int) := ⟨x.toNat, by omega⟩
    rw [r8, Res.ok_bind, fold_push (g := fun k : Int => [bd (n / 2 ^ (7 - k.toNat))]) (fun k hk s hs => by
      obtain ⟨j, hj, rfl⟩ := List.mem_map.mp hk
      have hj' := List.mem_range.mp hj
      have e7 : (7 : Int) - (j : Int) = ((7 - j : Nat) : Int) := by omega
      have e2 : (((n / 2 ^ (7 - j) : Nat) : Int) % 2 ^ 1) = ((n / 2 ^ (7 - j) % 2 : Nat) : Int) := by
        rw [Int.natCast_emod]
        rfl
      rw [e7, shr_nat, Res.ok_bind, e2, Int.toNat_natCast]
      have eb : (if (!decide (((n / 2 ^ (7 - j) % 2 : Nat) : Int) = 0)) = true then tx "1" else tx "0") = [bd (n / 2 ^ (7 - j))] := by
        unfold bd
        rcases Nat.mod_two_eq_zero_or_one (n / 2 ^ (7 - j)) with h | h <;> rw [h] <;> rfl
      rw [eb, push_ok hs, Res.ok_bind]) (by
        have : ((List.range 8).map fun k : Nat => (k : Int)).length = 8 := rfl
        rw [this]
        exact hs), Res.ok_bind, sign8, Int.toNat_natCast]) (by rw [line_val]; simp; omega)
  refine (congrArg (fun z => Res.bind z _) fc).trans ?_
  rw [Res.ok_bind, List.nil_append]
  have ef : (rw_.flatMap fun x : Int => (dg x.toNat 8).map fun c => [c]) = (sgn rw_).map fun c => [c] := by
    unfold sgn
    rw [List.map_flatMap]
  have t0 : tx "" = [] := rfl
  rw [ef, t0, joinS_ones (by rw [sgn_len, line_val]; omega), Res.ok_bind]
  congr 1
  unfold cut sIx
  dsimp only
  rw [if_neg (by omega), Int.toNat_natCast, List.drop_zero, Nat.sub_zero]
  by_cases q : m ≤ (sgn rw_).length
  · rw [Nat.min_eq_left q]
  · rw [Nat.min_eq_right (by omega), List.take_of_length_le (Nat.le_refl _), List.take_of_length_le (by omega)]
theorem sgn_bytes {t : Tx} (hb : ∀ c ∈ t, isBit c) : sgn (bytes t) = (List.range ((t.length + 7) / 8)).flatMap (pc t) := by
  unfold sgn bytes
  rw [List.flatMap_map]
  congr 1
  funext i
  show dg ((vl (pc t i) : Int)).toNat 8 = pc t i
  rw [Int.toNat_natCast]
  exact dg_vl 8 (pc t i) (pc_len t i) (pc_bits hb i)
theorem bytes_lt (t : Tx) : ∀ x ∈ bytes t, 0 ≤ x ∧ x < 256 := by
  intro x hx
  obtain ⟨i, _, rfl⟩ := List.mem_map.mp hx
  have := vl_lt (pc t i)
  rw [pc_len] at this
  omega
theorem bytes_len (t : Tx) : (bytes t).length = (t.length + 7) / 8 := by simp [bytes]
/-- bits, read back -/
theorem back {t : Tx} (hb : ∀ c ∈ t, isBit c) : (sgn (bytes t)).take t.length = t := by
  rw [sgn_bytes hb]
  have hn : ((List.range ((t.length + 7) / 8)).flatMap (pc t)).length = (t.length + 7) / 8 * 8 := by
    rw [flatMap_len (n := 8) (fun i _ => pc_len t i), List.length_range]
  refine List.ext_getElem? fun j => ?_
  by_cases q : j < t.length
  · rw [List.getElem?_take, if_pos q]
    have e : j = j / 8 * 8 + j % 8 := (Nat.div_add_mod' _ _).symm
    have h8 : j % 8 < 8 := Nat.mod_lt _ (by decide)
    have hi : j / 8 < (List.range ((t.length + 7) / 8)).length := by rw [List.length_range]; omega
    conv => lhs; rw [e]
    rw [flatMap_get hi h8 (fun i _ => pc_len t i), List.getElem_range]
    unfold pc
    rw [List.getElem?_map, List.getElem?_range h8]
    show some (t.getD (8 * (j / 8) + j % 8) 48) = _
    have e2 : 8 * (j / 8) + j % 8 = j := Nat.div_add_mod _ _
    rw [e2, List.getD_eq_getElem?_getD, List.getElem?_eq_getElem q]
    rfl
  · rw [List.getElem?_eq_none (by rw [List.length_take]; omega), List.getElem?_eq_none (by omega)]
/-- bytes, read back -/
theorem pc_sgn {row : List Int} {i : Nat} (hi : i < row.length) : pc (sgn row) i = dg row[i].toNat 8 := by
  refine List.ext_getElem? fun k => ?_
  by_cases hk : k < 8
  · have := flatMap_get (g := fun x : Int => dg x.toNat 8) (n := 8) hi hk (fun x _ => dg_len _ _)
    unfold pc
    rw [List.getElem?_map, List.getElem?_range hk]
    show some ((sgn row).getD (8 * i + k) 48) = _
    rw [List.getD_eq_getElem?_getD, Nat.mul_comm, show (sgn row)[i * 8 + k]? = _ from this]
    have l : k < (dg row[i].toNat 8).length := by rw [dg_len]; exact hk
    rw [List.getElem?_eq_getElem l]
    rfl
  · rw [List.getElem?_eq_none (by rw [pc_len]; omega), List.getElem?_eq_none (by rw [dg_len]; omega)]
theorem back2 {row : List Int} (hr : ∀ x ∈ row, 0 ≤ x ∧ x < 256) : bytes (sgn row) = row := by
  refine List.ext_getElem (by rw [bytes_len, sgn_len]; omega) fun i h1 h2 => ?_
  have e : (bytes (sgn row))[i] = (vl (pc (sgn row) i) : Int) := by simp [bytes]
  rw [e, pc_sgn h2, vl_dg]
  have := hr _ (List.getElem_mem h2)
  rw [Nat.mod_eq_of_lt (by omega)]
  omega
theorem sgn_take (row : List Int) (m : Nat) : (sgn (row.take ((m + 7) / 8))).take m = (sgn row).take m := by
  by_cases q : (m + 7) / 8 ≤ row.length
  · have e : sgn row = sgn (row.take ((m + 7) / 8)) ++ sgn (row.drop ((m + 7) / 8)) := by
      unfold sgn
      rw [← List.flatMap_append, List.take_append_drop]
    rw [e, List.take_append_of_le_length (by rw [sgn_len, List.length_take, Nat.min_eq_left q]; omega)]
  · rw [List.take_of_length_le (l := row) (by omega)]
end C
/-! PN: codes that begin with given digits. -/
namespace C
open R
theorem vl_append (a b : Tx) : vl (a ++ b) = vl a * 2 ^ b.length + vl b := by
  have := foldl_vl b (vl a)
  unfold vl at this ⊢
  rw [List.foldl_append]
  exact this
/-- a text that begins so has its cell within the beginning's -/
theorem cell_pre {g u : Tx} (h : g <+: u) : vl g * 2 ^ u.length ≤ vl u * 2 ^ g.length ∧ (vl u + 1) * 2 ^ g.length ≤ (vl g + 1) * 2 ^ u.length := by
  obtain ⟨r, rfl⟩ := h
  have hr := vl_lt r
  rw [vl_append, List.length_append, Nat.pow_add]
  generalize 2 ^ r.length = R at *
  generalize 2 ^ g.length = G at *
  constructor
  · have : vl g * (G * R) = vl g * R * G := by rw [Nat.mul_comm G, Nat.mul_assoc]
    rw [this]
    exact Nat.mul_le_mul_right G (Nat.le_add_right _ _)
  · have : (vl g + 1) * (G * R) = (vl g * R + R) * G := by rw [Nat.mul_comm G, ← Nat.mul_assoc, Nat.add_mul, Nat.one_mul]
    rw [this]
    exact Nat.mul_le_mul_right G (by omega)
theorem pre_cell : ∀ (g u : Tx), (∀ c ∈ g, isBit c) → (∀ c ∈ u, isBit c) → vl g * 2 ^ u.length ≤ vl u * 2 ^ g.length → (vl u + 1) * 2 ^ g.length ≤ (vl g + 1) * 2 ^ u.length → g <+: u
  | [], u, _, _, _, _ => List.nil_prefix
  | x :: g, [], hg, _, h1, h2 => by
    have e : vl ([] : Tx) = 0 := rfl
    rw [e, List.length_nil, Nat.pow_zero, Nat.mul_one, Nat.zero_mul] at h1
    rw [e, List.length_nil, Nat.pow_zero, Nat.mul_one, Nat.zero_add, Nat.one_mul, List.length_cons, Nat.pow_succ] at h2
    have := Nat.pow_pos (n := g.length) (show 0 < 2 by decide)
    omega
  | x :: g, y :: u, hg, hu, h1, h2 => by
    have lg := vl_lt g
    have lu := vl_lt u
    rw [vl_cons, vl_cons, List.length_cons, List.length_cons, Nat.pow_succ, Nat.pow_succ] at h1 h2
    have hg' : ∀ c ∈ g, isBit c := fun c hc => hg c (List.mem_cons_of_mem _ hc)
    have hu' : ∀ c ∈ u, isBit c := fun c hc => hu c (List.mem_cons_of_mem _ hc)
    have ih := pre_cell g u hg' hu'
    have pg : 0 < 2 ^ g.length := Nat.pow_pos (by decide)
    have pu : 0 < 2 ^ u.length := Nat.pow_pos (by decide)
    generalize 2 ^ g.length = G at *
    generalize 2 ^ u.length = U at *
    generalize vl g = a at *
    generalize vl u = b at *
    have n48 : ¬ (48 : Nat) = 49 := by decide
    rcases hg x List.mem_cons_self with rfl | rfl <;> rcases hu y List.mem_cons_self with rfl | rfl
    · rw [if_neg n48, Nat.zero_mul, Nat.zero_mul, Nat.zero_add, Nat.zero_add, ← Nat.mul_assoc, ← Nat.mul_assoc] at h1
      rw [if_neg n48, Nat.zero_mul, Nat.zero_mul, Nat.zero_add, Nat.zero_add, ← Nat.mul_assoc, ← Nat.mul_assoc] at h2
      exact List.cons_prefix_cons.mpr ⟨rfl, ih (by omega) (by omega)⟩
    · rw [if_neg n48, if_pos rfl, Nat.zero_mul, Nat.zero_add, Nat.one_mul, ← Nat.mul_assoc, ← Nat.mul_assoc] at h2
      have e1 : U * G + G ≤ (U + b + 1) * G := by
        rw [← Nat.succ_mul]
        exact Nat.mul_le_mul_right G (by omega)
      have e2 : (a + 1) * U ≤ G * U := Nat.mul_le_mul_right U lg
      rw [Nat.mul_comm G U] at e2
      omega
    · rw [if_neg n48, if_pos rfl, Nat.zero_mul, Nat.zero_add, Nat.one_mul, ← Nat.mul_assoc, ← Nat.mul_assoc] at h1
      have e1 : G * U ≤ (G + a) * U := Nat.mul_le_mul_right U (by omega)
      have e2 : b * G + G ≤ U * G := by
        rw [← Nat.succ_mul]
        exact Nat.mul_le_mul_right G lu
      rw [Nat.mul_comm U G] at e2
      omega
    · rw [if_pos rfl, Nat.one_mul, Nat.one_mul, ← Nat.mul_assoc, ← Nat.mul_assoc, Nat.add_mul G a U, Nat.add_mul U b G, Nat.mul_comm U G] at h1
      rw [if_pos rfl, Nat.one_mul, Nat.one_mul, ← Nat.mul_assoc, ← Nat.mul_assoc, Nat.add_assoc, Nat.add_assoc, Nat.add_mul U (b + 1) G, Nat.add_mul G (a + 1) U, Nat.mul_comm U G] at h2
      exact List.cons_prefix_cons.mpr ⟨rfl, ih (by omega) (by omega)⟩
/-- the code of a row of bits -/
def kd (w : Nat) (t : Tx) : Tx := match p_code_ (w : Int) t with
  | .ok c => c
  | _ => []
theorem kd_ok (t : Tx) {w : Nat} (hw : 0 < w) (hl : t.length ≤ 256) : p_code_ (w : Int) t = .ok (kd w t) ∧ l_code (w : Int) t = .ok (kd w t) ∧ (∀ c ∈ kd w t, isBit c) ∧ (kd w t).length ≤ 2000 ∧ 16 * (kd w t).length < 17 * t.length + 848 ∧
    (ivl w (rd t) t.length).1 * 2 ^ (kd w t).length ≤ vl (kd w t) * (ivl w (rd t) t.length).2.2 ∧ (vl (kd w t) + 1) * (ivl w (rd t) t.length).2.2 ≤ ((ivl w (rd t) t.length).1 + (ivl w (rd t) t.length).2.1) * 2 ^ (kd w t).length := by
  obtain ⟨D, d1, d2, d3, d4, pc, lc⟩ := code_ok t w hw hl
  have lg := ivl_log w (rd t) t.length hl
  have g := ivl_good w (rd t) t.length hl
  have g1 := g.pos
  have g2 := g.le
  have e : kd w t = dg (cd (ivl w (rd t) t.length) D) D := by
    unfold kd
    rw [pc]
  obtain ⟨c1, c2, c3⟩ := cell_in g d3
  have up : (ivl w (rd t) t.length).2.1 * 2 ^ D < 4 * (ivl w (rd t) t.length).2.2 := by
    cases D with
    | zero =>
      rw [Nat.pow_zero, Nat.mul_one]
      omega
    | succ d =>
      have z := d4 d (by omega)
      have : ¬ 2 * (ivl w (rd t) t.length).2.2 ≤ (ivl w (rd t) t.length).2.1 * 2 ^ d := fun y => by
        rw [ft_of (by omega) y] at z
        cases z
      rw [Nat.pow_succ, ← Nat.mul_assoc]
      omega
  have sh := code_short w (rd t) t.length D hl g1 up
  have ev : vl (kd w t) = cd (ivl w (rd t) t.length) D := by rw [e, vl_dg, Nat.mod_eq_of_lt c3]
  have el : (kd w t).length = D := by rw [e, dg_len]
  refine ⟨by rw [e]; exact pc, by rw [e]; exact lc, by rw [e]; exact dg_bits _ _, by omega, by omega, ?_, ?_⟩
  · rw [ev, el]
    exact c1
  · rw [ev, el]
    exact c2
/-- rows whose codes begin so -/
def opn (w : Nat) (g t : Tx) : Prop := g <+: kd w t
/-- interval of a row, by the bit behind a beginning -/
theorem row_zero {w : Nat} {b t : Tx} (hw : 0 < w) (h : (b ++ [48]) <+: t) (hl : t.length ≤ 256) :
    ((ivl w (rd t) t.length).1 + (ivl w (rd t) t.length).2.1) * ((ivl w (rd b) b.length).2.2 * (cn w (rd b) false (gN w b.length (rd b)) b.length + cn w (rd b) true (gN w b.length (rd b)) b.length + 2)) ≤ ((ivl w (rd b) b.length).1 * (cn w (rd b) false (gN w b.length (rd b)) b.length + cn w (rd b) true (gN w b.length (rd b)) b.length + 2) + (ivl w (rd b) b.length).2.1 * (cn w (rd b) false (gN w b.length (rd b)) b.length + 1)) * (ivl w (rd t) t.length).2.2 := by
  obtain ⟨r, rfl⟩ := h
  rw [List.append_assoc]
  have rp := rd_pre b r 48
  have hlen : (b ++ ([48] ++ r)).length = b.length + 1 + r.length := by simp; omega
  have e0 : ([48] ++ r : Tx) = 48 :: r := rfl
  rw [e0] at hlen ⊢
  obtain ⟨_, h2⟩ := ivl_in w (rd (b ++ 48 :: r)) (b.length + 1) r.length
  rw [hlen]
  have cI := ivl_congr rp.2 hw _ (Nat.le_refl _)
  have cG : gN w b.length (rd (b ++ 48 :: r)) = gN w b.length (rd b) := gN_congr rp.2 hw
  have c0 := fun x c => cn_congr rp.2 hw x c _ (Nat.le_refl _)
  have e : ∀ f : Nat → Bool, ivl w f (b.length + 1) = ((ivl w f b.length).1 * (cn w f false (gN w b.length f) b.length + cn w f true (gN w b.length f) b.length + 2) + (if f b.length then (ivl w f b.length).2.1 * (cn w f false (gN w b.length f) b.length + 1) else 0),
      (ivl w f b.length).2.1 * (if f b.length then cn w f true (gN w b.length f) b.length + 1 else cn w f false (gN w b.length f) b.length + 1),
      (ivl w f b.length).2.2 * (cn w f false (gN w b.length f) b.length + cn w f true (gN w b.length f) b.length + 2)) := fun f => rfl
  have rb : rd (b ++ 48 :: r) b.length = false := rp.1
  have e2 := e (rd (b ++ 48 :: r))
  rw [cI, cG, c0, c0, rb, if_neg (by decide), if_neg (by decide), Nat.add_zero] at e2
  rw [e2] at h2
  exact h2
theorem row_one {w : Nat} {b t : Tx} (hw : 0 < w) (h : (b ++ [49]) <+: t) (hl : t.length ≤ 256) :
    ((ivl w (rd b) b.length).1 * (cn w (rd b) false (gN w b.length (rd b)) b.length + cn w (rd b) true (gN w b.length (rd b)) b.length + 2) + (ivl w (rd b) b.length).2.1 * (cn w (rd b) false (gN w b.length (rd b)) b.length + 1)) * (ivl w (rd t) t.length).2.2 ≤ (ivl w (rd t) t.length).1 * ((ivl w (rd b) b.length).2.2 * (cn w (rd b) false (gN w b.length (rd b)) b.length + cn w (rd b) true (gN w b.length (rd b)) b.length + 2)) := by
  obtain ⟨r, rfl⟩ := h
  rw [List.append_assoc]
  have rp := rd_pre b r 49
  have hlen : (b ++ ([49] ++ r)).length = b.length + 1 + r.length := by simp; omega
  have e0 : ([49] ++ r : Tx) = 49 :: r := rfl
  rw [e0] at hlen ⊢
  obtain ⟨h2, _⟩ := ivl_in w (rd (b ++ 49 :: r)) (b.length + 1) r.length
  rw [hlen]
  have cI := ivl_congr rp.2 hw _ (Nat.le_refl _)
  have cG : gN w b.length (rd (b ++ 49 :: r)) = gN w b.length (rd b) := gN_congr rp.2 hw
  have c0 := fun x c => cn_congr rp.2 hw x c _ (Nat.le_refl _)
  have e : ∀ f : Nat → Bool, ivl w f (b.length + 1) = ((ivl w f b.length).1 * (cn w f false (gN w b.length f) b.length + cn w f true (gN w b.length f) b.length + 2) + (if f b.length then (ivl w f b.length).2.1 * (cn w f false (gN w b.length f) b.length + 1) else 0),
      (ivl w f b.length).2.1 * (if f b.length then cn w f true (gN w b.length f) b.length + 1 else cn w f false (gN w b.length f) b.length + 1),
      (ivl w f b.length).2.2 * (cn w f false (gN w b.length f) b.length + cn w f true (gN w b.length f) b.length + 2)) := fun f => rfl
  have rb : rd (b ++ 49 :: r) b.length = true := rp.1
  have e2 := e (rd (b ++ 49 :: r))
  rw [cI, cG, c0, c0, rb, if_pos rfl, if_pos rfl] at e2
  rw [e2] at h2
  exact h2
/-- the border of a row's next bit, as a fraction -/
def bN (w : Nat) (b : Tx) : Nat := (ivl w (rd b) b.length).1 * (cn w (rd b) false (gN w b.length (rd b)) b.length + cn w (rd b) true (gN w b.length (rd b)) b.length + 2) + (ivl w (rd b) b.length).2.1 * (cn w (rd b) false (gN w b.length (rd b)) b.length + 1)
def wN (w : Nat) (b : Tx) : Nat := (ivl w (rd b) b.length).2.2 * (cn w (rd b) false (gN w b.length (rd b)) b.length + cn w (rd b) true (gN w b.length (rd b)) b.length + 2)
theorem wN_pos (w : Nat) {b : Tx} (hl : b.length ≤ 256) : 0 < wN w b := by
  obtain ⟨h1, h2, _⟩ := ivl_inv w (rd b) b.length (by omega)
  exact Nat.mul_pos (by omega) (Nat.succ_pos _)
section
variable {w : Nat} {b g t : Tx}
theorem no_one (hw : 0 < w) (hb : b.length ≤ 256) (h : (vl g + 1) * wN w b ≤ bN w b * 2 ^ g.length) (ht : (b ++ [49]) <+: t) (hl : t.length ≤ 256) : ¬ g <+: kd w t := by
  intro hg
  obtain ⟨_, c2⟩ := cell_pre hg
  obtain ⟨_, _, _, _, _, k1, _⟩ := kd_ok t hw hl
  have r1 : bN w b * (ivl w (rd t) t.length).2.2 ≤ (ivl w (rd t) t.length).1 * wN w b := row_one hw ht hl
  obtain ⟨i1, i2, _⟩ := ivl_inv w (rd t) t.length (by omega)
  have s1 := frac_trans (a := bN w b) (b := wN w b) (by omega : 0 < (ivl w (rd t) t.length).2.2) r1 k1
  have s2 := frac_trans (wN_pos w hb) h s1
  have pg : 0 < 2 ^ g.length := Nat.pow_pos (by decide)
  rw [Nat.add_mul, Nat.one_mul] at c2
  omega
theorem no_zero (hw : 0 < w) (hb : b.length ≤ 256) (h : bN w b * 2 ^ g.length ≤ vl g * wN w b) (ht : (b ++ [48]) <+: t) (hl : t.length ≤ 256) : ¬ g <+: kd w t := by
  intro hg
  obtain ⟨c1, _⟩ := cell_pre hg
  obtain ⟨_, _, _, _, _, _, k2⟩ := kd_ok t hw hl
  have r1 : ((ivl w (rd t) t.length).1 + (ivl w (rd t) t.length).2.1) * wN w b ≤ bN w b * (ivl w (rd t) t.length).2.2 := row_zero hw ht hl
  obtain ⟨i1, i2, _⟩ := ivl_inv w (rd t) t.length (by omega)
  have s1 := frac_trans (by omega : 0 < (ivl w (rd t) t.length).2.2) k2 r1
  have s2 := frac_trans (wN_pos w hb) s1 h
  have pg : 0 < 2 ^ g.length := Nat.pow_pos (by decide)
  rw [Nat.add_mul, Nat.one_mul] at s2
  omega
theorem pre_get {a t : Tx} (h : a <+: t) {i : Nat} (hi : i < a.length) : t[i]? = a[i]? := by
  obtain ⟨r, rfl⟩ := h
  exact List.getElem?_append_left hi
/-- the place where two rows with one beginning differ first lies behind it -/
theorem apart_behind {a t u p s z : Tx} {x y : Nat} (ha : a <+: t) (hb : a <+: u) (e1 : t = p ++ x :: s) (e2 : u = p ++ y :: z) (h : x ≠ y) : a.length ≤ p.length := by
  rcases Nat.lt_or_ge p.length a.length with q | q
  · have h1 := pre_get ha q
    have h2 := pre_get hb q
    rw [e1, List.getElem?_append_right (Nat.le_refl _), Nat.sub_self] at h1
    rw [e2, List.getElem?_append_right (Nat.le_refl _), Nat.sub_self] at h2
    have : (some x : Option Nat) = some y := h1.trans h2.symm
    exact absurd (Option.some.inj this) h
  · exact q
theorem last_zero (hw : 0 < w) (hb : b.length ≤ 256) (hgb : ∀ c ∈ g, isBit c) (h : bN w b * 2 ^ g.length ≤ (vl g + 1) * wN w b) {n : Nat} (hn : n ≤ 256) (hbn : b.length < n) (hbb : ∀ c ∈ t, isBit c) (ht : (b ++ [48]) <+: t) (hl : t.length = n) (hg : g <+: kd w t) :
    g <+: kd w ((b ++ [48]) ++ List.replicate (n - b.length - 1) 49) := by
  have ll : ((b ++ [48]) ++ List.replicate (n - b.length - 1) 49).length = n := by simp; omega
  have lp : (b ++ [48]) <+: ((b ++ [48]) ++ List.replicate (n - b.length - 1) 49) := List.prefix_append _ _
  generalize hL : (b ++ [48]) ++ List.replicate (n - b.length - 1) 49 = L at *
  by_cases q : t = L
  · rw [← q]
    exact hg
  · obtain ⟨p, x, y, s, u, e1, e2, hxy⟩ := rows_apart t L (by omega) q
    have bh := apart_behind ht lp e1 e2 hxy
    have hy : y = 49 := by
      have h1 : L[p.length]? = some y := by
        rw [e2, List.getElem?_append_right (Nat.le_refl _), Nat.sub_self]
        rfl
      rw [← hL, List.getElem?_append_right bh, List.getElem?_replicate] at h1
      split at h1
      · exact (Option.some.inj h1).symm
      · cases h1
    have hx : x = 48 := by
      have := hbb x (by rw [e1]; simp)
      rcases this with z | z
      · exact z
      · exact absurd (z.trans hy.symm) hxy
    subst hy hx
    have ra := rd_pre p s 48
    have rb := rd_pre p u 49
    rw [← e1] at ra
    rw [← e2] at rb
    have pn : p.length < n := by
      have := congrArg List.length e1
      rw [List.length_append, List.length_cons] at this
      omega
    have ap := ivl_apart (fun j hj => (ra.2 j hj).trans (rb.2 j hj).symm) hw ra.1 rb.1 pn (by omega)
    obtain ⟨c1, _⟩ := cell_pre hg
    obtain ⟨_, _, _, _, _, _, k2⟩ := kd_ok t hw (by omega)
    obtain ⟨_, _, lb, _, _, m1, m2⟩ := kd_ok L hw (by omega)
    have r1 : ((ivl w (rd L) L.length).1 + (ivl w (rd L) L.length).2.1) * wN w b ≤ bN w b * (ivl w (rd L) L.length).2.2 := row_zero hw lp (by omega)
    obtain ⟨i1, i2, _⟩ := ivl_inv w (rd t) t.length (by omega)
    obtain ⟨j1, j2, _⟩ := ivl_inv w (rd L) L.length (by omega)
    rw [hl] at k2 i1 i2
    rw [ll] at m1 m2 r1 j1 j2
    refine pre_cell g (kd w L) hgb lb ?_ ?_
    · have s1 := frac_trans (by omega : 0 < (ivl w (rd t) n).2.2) k2 ap
      have s2 := frac_trans (by omega : 0 < (ivl w (rd L) n).2.2) s1 m1
      have s3 : vl (kd w t) * 2 ^ (kd w L).length ≤ vl (kd w L) * 2 ^ (kd w t).length := Nat.le_trans (Nat.mul_le_mul_right _ (Nat.le_succ _)) s2
      exact frac_trans (Nat.pow_pos (by decide)) c1 s3
    · have s1 := frac_trans (by omega : 0 < (ivl w (rd L) n).2.2) m2 r1
      exact frac_trans (wN_pos w hb) s1 h
theorem first_one (hw : 0 < w) (hb : b.length ≤ 256) (hgb : ∀ c ∈ g, isBit c) (h : vl g * wN w b ≤ bN w b * 2 ^ g.length) {n : Nat} (hn : n ≤ 256) (hbn : b.length < n) (hbb : ∀ c ∈ t, isBit c) (ht : (b ++ [49]) <+: t) (hl : t.length = n) (hg : g <+: kd w t) :
    g <+: kd w ((b ++ [49]) ++ List.replicate (n - b.length - 1) 48) := by
  have ll : ((b ++ [49]) ++ List.replicate (n - b.length - 1) 48).length = n := by simp; omega
  have lp : (b ++ [49]) <+: ((b ++ [49]) ++ List.replicate (n - b.length - 1) 48) := List.prefix_append _ _
  generalize hL : (b ++ [49]) ++ List.replicate (n - b.length - 1) 48 = L at *
  by_cases q : L = t
  · rw [q]
    exact hg
  · obtain ⟨p, x, y, s, u, e1, e2, hxy⟩ := rows_apart L t (by omega) q
    have bh := apart_behind lp ht e1 e2 hxy
    have hx : x = 48 := by
      have h1 : L[p.length]? = some x := by
        rw [e1, List.getElem?_append_right (Nat.le_refl _), Nat.sub_self]
        rfl
      rw [← hL, List.getElem?_append_right bh, List.getElem?_replicate] at h1
      split at h1
      · exact (Option.some.inj h1).symm
      · cases h1
    have hy : y = 49 := by
      have := hbb y (by rw [e2]; simp)
      rcases this with z | z
      · exact absurd (hx.trans z.symm) hxy
      · exact z
    subst hy hx
    have ra := rd_pre p s 48
    have rb := rd_pre p u 49
    rw [← e1] at ra
    rw [← e2] at rb
    have pn : p.length < n := by
      have := congrArg List.length e1
      rw [List.length_append, List.length_cons] at this
      omega
    have ap := ivl_apart (fun j hj => (ra.2 j hj).trans (rb.2 j hj).symm) hw ra.1 rb.1 pn (by omega)
    obtain ⟨_, c2⟩ := cell_pre hg
    obtain ⟨_, _, _, _, _, k1, _⟩ := kd_ok t hw (by omega)
    obtain ⟨_, _, lb, _, _, m1, m2⟩ := kd_ok L hw (by omega)
    have r1 : bN w b * (ivl w (rd L) L.length).2.2 ≤ (ivl w (rd L) L.length).1 * wN w b := row_one hw lp (by omega)
    obtain ⟨i1, i2, _⟩ := ivl_inv w (rd t) t.length (by omega)
    obtain ⟨j1, j2, _⟩ := ivl_inv w (rd L) L.length (by omega)
    rw [hl] at k1 i1 i2
    rw [ll] at m1 m2 r1 j1 j2
    refine pre_cell g (kd w L) hgb lb ?_ ?_
    · have s1 := frac_trans (by omega : 0 < (ivl w (rd L) n).2.2) r1 m1
      exact frac_trans (wN_pos w hb) h s1
    · have s1 := frac_trans (by omega : 0 < (ivl w (rd L) n).2.2) m2 ap
      have s2 := frac_trans (by omega : 0 < (ivl w (rd t) n).2.2) s1 k1
      have s3 : (vl (kd w L) + 1) * 2 ^ (kd w t).length ≤ (vl (kd w t) + 1) * 2 ^ (kd w L).length := Nat.le_trans s2 (Nat.mul_le_mul_right _ (Nat.le_succ _))
      exact frac_trans (Nat.pow_pos (by decide)) s3 c2
end
end C
/-! PQ: the next bit that is known. -/
namespace C
open R
def p_shares (width : Int) (bits : Tx) (place : Int) : Res (Int × Int) :=
  (p_context width bits place).bind fun here => (Res.ok (1 : Int)).bind fun zeros => (Res.ok (1 : Int)).bind fun ones => ((rng 0 place).bind fun xs2 => fold (fun (x3 : Int) (s4 : Int × Int) => (((p_context width bits x3).bind fun v5 => Res.ok (decide (v5 = here))).bind fun b10 => if b10 then (((idx bits x3).bind fun v6 => Res.ok (decide ([v6] = (tx "1")))).bind fun b8 => if b8 then (Res.ok (s4.1 + (1 : Int))).bind fun ones => Res.ok (ones, s4.2) else (Res.ok (s4.2 + (1 : Int))).bind fun zeros => Res.ok (s4.1, zeros) : Res (Int × Int)).bind fun s7 => Res.ok (s7.1, s7.2) else Res.ok (s4.1, s4.2) : Res (Int × Int)).bind fun s9 => Res.ok (s9.1, s9.2)) xs2 (ones, zeros) : Res (Int × Int)).bind fun s4 => Res.ok (s4.2, s4.1)

theorem p_shares_ok (t : Tx) (w p : Nat) (hw : 0 < w) (hp : p ≤ t.length) (hl : t.length ≤ 399) : p_shares (w : Int) t (p : Int) = .ok (((cn w (rd t) false (gN w p (rd t)) p + 1 : Nat) : Int), ((cn w (rd t) true (gN w p (rd t)) p + 1 : Nat) : Int)) := by
  unfold p_shares
  rw [p_context_ok t w p hw hp, Res.ok_bind, Res.ok_bind, Res.ok_bind, rng_nat (by omega), Res.ok_bind]
  have st := fold_st (xs := (List.range p).map fun i : Nat => (i : Int)) (f := fun (x3 : Int) (s4 : Int × Int) => (((p_context (w : Int) t x3).bind fun v5 => Res.ok (decide (v5 = (g w p (rd t))))).bind fun b10 => if b10 then (((idx t x3).bind fun v6 => Res.ok (decide ([v6] = (tx "1")))).bind fun b8 => if b8 then (Res.ok (s4.1 + (1 : Int))).bind fun ones => Res.ok (ones, s4.2) else (Res.ok (s4.2 + (1 : Int))).bind fun zeros => Res.ok (s4.1, zeros) : Res (Int × Int)).bind fun s7 => Res.ok (s7.1, s7.2) else Res.ok (s4.1, s4.2) : Res (Int × Int)).bind fun s9 => Res.ok (s9.1, s9.2))
    (fun i : Nat => (((cn w (rd t) true (gN w p (rd t)) i + 1 : Nat) : Int), ((cn w (rd t) false (gN w p (rd t)) i + 1 : Nat) : Int))) ?_
  · rw [List.length_map, List.length_range] at st
    exact (congrArg (fun m => Res.bind m _) st).trans rfl
  · intro i hi
    have hi' : i < p := by simpa using hi
    have g1 : ((List.range p).map fun i : Nat => (i : Int))[i] = (i : Int) := by simp
    rw [g1, p_context_ok t w i hw (by omega), Res.ok_bind, Res.ok_bind, g_nat w i, g_nat w p]
    have ed : decide ((gN w i (rd t) : Int) = (gN w p (rd t) : Int)) = decide (gN w i (rd t) = gN w p (rd t)) := by
      rw [Bool.eq_iff_iff, decide_eq_true_eq, decide_eq_true_eq]
      omega
    rw [ed]
    by_cases q : gN w i (rd t) = gN w p (rd t)
    · rw [if_pos (decide_eq_true q), rd_at (by omega), Res.ok_bind]
      cases hb : rd t i with
      | true =>
        rw [if_pos rfl]
        simp only [Res.ok_bind, cn_succ, q, hb, true_and, if_true, Bool.true_eq_false, if_false]
        rfl
      | false =>
        rw [if_neg (by decide)]
        simp only [Res.ok_bind, cn_succ, q, hb, true_and, if_true, Bool.false_eq_true, if_false]
        rfl
    · rw [if_neg (by simpa using q)]
      simp only [cn_succ, q, false_and, if_false, Nat.add_zero, Res.ok_bind]
def p_opens (width : Int) (code : Tx) (bits : Tx) : Res Bool :=
  (p_code_ width bits).bind fun v1 => Res.ok (starts v1 code)

def p_last_with_zero (bits : Tx) (more : Int) : Res Tx :=
  (cat bits (tx "0")).bind fun v1 => (rep (tx "1") more).bind fun v2 => cat v1 v2

def p_first_with_one (bits : Tx) (more : Int) : Res Tx :=
  (cat bits (tx "1")).bind fun v1 => (rep (tx "0") more).bind fun v2 => cat v1 v2

def p_next_bit_ (width : Int) (count : Int) (code : Tx) (bits : Tx) : Res Tx :=
  (p_interval width bits).bind fun t2 => (p_shares width bits (bits.length : Int)).bind fun t4 => ((mul t2.1 (t4.1 + t4.2)).bind fun v5 => (mul t2.2.1 t4.1).bind fun v6 => Res.ok (v5 + v6)).bind fun border => (mul t2.2.2 (t4.1 + t4.2)).bind fun whole => (p_digits_value code).bind fun number => ((mul (number + (1 : Int)) whole).bind fun v9 => (shl border (code.length : Int)).bind fun v10 => Res.ok (decide (v9 ≤ v10))).bind fun b18 => if b18 then Res.ok (tx "0") else ((shl border (code.length : Int)).bind fun v11 => (mul number whole).bind fun v12 => Res.ok (decide (v11 ≤ v12))).bind fun b17 => if b17 then Res.ok (tx "1") else (Res.ok ((count - (bits.length : Int)) - (1 : Int))).bind fun more => ((p_last_with_zero bits more).bind fun v13 => p_opens width code v13).bind fun low_is_possible => ((p_first_with_one bits more).bind fun v15 => p_opens width code v15).bind fun high_is_possible => if (low_is_possible && high_is_possible) then Res.ok (tx "?") else if low_is_possible then Res.ok (tx "0") else Res.ok (if high_is_possible then (tx "1") else (tx ""))

def p_find_prefix (width : Int) (count : Int) (code : Tx) : Res (Option Tx) :=
  if decide ((((17 : Int) * count) + (848 : Int)) ≤ ((16 : Int) * (code.length : Int))) then Res.ok none else (Res.ok (tx "")).bind fun bits => withCtl ((rng 0 count).bind fun xs1 => loop (B := (Option Tx)) (fun (x2 : Int) (s3 : Tx) => (p_next_bit_ width count code s3).bind fun bit => if decide (bit = (tx "?")) then (Res.ok (some s3)).bind fun a => Res.ok (.ret a) else if decide (bit = (tx "")) then (Res.ok none).bind fun a => Res.ok (.ret a) else (cat s3 bit).bind fun bits => Res.ok (.nx bits)) xs1 bits : Res (Ctl (Tx) (Option Tx))) fun s3 => (p_opens width code s3).bind fun v6 => Res.ok (if v6 then (some s3) else none)

def p_check_count (count : Int) : Res Unit :=
  if (!(decide ((0 : Int) ≤ count) && decide (count ≤ (256 : Int)))) then Res.exn (.oor (tx "count")) else Res.ok ()

def p_check_code (code : Tx) : Res Unit :=
  if decide ((400 : Int) < (code.length : Int)) then Res.exn (.oor (tx "code")) else Res.ok ()

def p_known_prefix (width : Int) (count : Int) (code : Tx) : Res (Option Tx) :=
  (p_check_width width).bind fun _ => (p_check_count count).bind fun _ => (p_check_code code).bind fun _ => p_find_prefix width count code


theorem starts_iff (s p : Tx) : starts s p = true ↔ p <+: s := List.isPrefixOf_iff_prefix
theorem opens_ok (g t : Tx) {w : Nat} (hw : 0 < w) (hl : t.length ≤ 256) : p_opens (w : Int) g t = .ok (starts (kd w t) g) := by
  unfold p_opens
  rw [(kd_ok t hw hl).1, Res.ok_bind]
/-- rows that begin with b and whose codes begin with g -/
def Sx (w n : Nat) (g b t : Tx) : Prop := t.length = n ∧ (∀ c ∈ t, isBit c) ∧ b <+: t ∧ g <+: kd w t
theorem next_char {b t : Tx} (h : b <+: t) (hl : b.length < t.length) (hb : ∀ c ∈ t, isBit c) : (b ++ [48]) <+: t ∨ (b ++ [49]) <+: t := by
  obtain ⟨r, rfl⟩ := h
  cases r with
  | nil => simp at hl
  | cons x r =>
    have hx := hb x (by simp)
    rcases hx with rfl | rfl
    · exact .inl ⟨r, by simp⟩
    · exact .inr ⟨r, by simp⟩
theorem last_ok (b : Tx) (m : Nat) (hb : b.length ≤ 256) (hm : m ≤ 256) : p_last_with_zero b (m : Int) = .ok ((b ++ [48]) ++ List.replicate m 49) := by
  unfold p_last_with_zero
  have t0 : tx "0" = [48] := rfl
  have t1 : tx "1" = [49] := rfl
  rw [t0, t1, cat_ok (by rw [line_val]; simp; omega), Res.ok_bind, rep_one 49 m (by rw [line_val]; omega), Res.ok_bind, cat_ok (by rw [line_val]; simp; omega)]
theorem first_ok (b : Tx) (m : Nat) (hb : b.length ≤ 256) (hm : m ≤ 256) : p_first_with_one b (m : Int) = .ok ((b ++ [49]) ++ List.replicate m 48) := by
  unfold p_first_with_one
  have t0 : tx "0" = [48] := rfl
  have t1 : tx "1" = [49] := rfl
  rw [t0, t1, cat_ok (by rw [line_val]; simp; omega), Res.ok_bind, rep_one 48 m (by rw [line_val]; omega), Res.ok_bind, cat_ok (by rw [line_val]; simp; omega)]
theorem next_ok {w n : Nat} {g b : Tx} (hw : 0 < w) (hn : n ≤ 256) (hb : b.length < n) (hgb : ∀ c ∈ g, isBit c) (hgl : g.length ≤ 3000) (bb : ∀ c ∈ b, isBit c) : ∃ r, p_next_bit_ (w : Int) (n : Int) g b = .ok r ∧
    ((r = [48] ∧ ∀ t, Sx w n g b t → (b ++ [48]) <+: t) ∨ (r = [49] ∧ ∀ t, Sx w n g b t → (b ++ [49]) <+: t) ∨ (r = [63] ∧ ∃ t u, Sx w n g b t ∧ Sx w n g b u ∧ (b ++ [48]) <+: t ∧ (b ++ [49]) <+: u) ∨ (r = [] ∧ ∀ t, ¬ Sx w n g b t)) := by
  unfold p_next_bit_
  obtain ⟨i1, i2, i3⟩ := ivl_inv w (rd b) b.length (by omega)
  have cl := cn_le w (rd b) (gN w b.length (rd b)) b.length
  have p2 : (2 : Nat) ^ (9 * b.length) ≤ 2 ^ 2400 := Nat.pow_le_pow_right (by decide) (by omega)
  have hb6 : b.length ≤ 256 := by omega
  rw [p_interval_ok b w hw (by omega), Res.ok_bind, p_shares_ok b w b.length hw (Nat.le_refl _) (by omega), Res.ok_bind]
  dsimp only
  have ex : ((cn w (rd b) false (gN w b.length (rd b)) b.length + 1 : Nat) : Int) + ((cn w (rd b) true (gN w b.length (rd b)) b.length + 1 : Nat) : Int) = ((cn w (rd b) false (gN w b.length (rd b)) b.length + cn w (rd b) true (gN w b.length (rd b)) b.length + 2 : Nat) : Int) := by omega
  have pw : (2 : Nat) ^ 2400 < 2 ^ 2401 := Nat.pow_lt_pow_right (by decide) (by decide)
  have xb : cn w (rd b) false (gN w b.length (rd b)) b.length + cn w (rd b) true (gN w b.length (rd b)) b.length + 2 < 2 ^ 10 := by omega
  have wlt : wN w b < 2 ^ 2411 := by
    have := Nat.mul_lt_mul_of_lt_of_le (Nat.lt_of_le_of_lt (Nat.le_trans i3 p2) pw) (Nat.le_of_lt xb) (by exact Nat.pow_pos (by decide))
    rw [← Nat.pow_add] at this
    exact this
  have ble : bN w b ≤ wN w b := by
    unfold bN wN
    have h1 := Nat.mul_le_mul_right (cn w (rd b) false (gN w b.length (rd b)) b.length + cn w (rd b) true (gN w b.length (rd b)) b.length + 2) i2
    rw [Nat.add_mul] at h1
    have h2 : (ivl w (rd b) b.length).2.1 * (cn w (rd b) false (gN w b.length (rd b)) b.length + 1) ≤ (ivl w (rd b) b.length).2.1 * (cn w (rd b) false (gN w b.length (rd b)) b.length + cn w (rd b) true (gN w b.length (rd b)) b.length + 2) := Nat.mul_le_mul_left _ (by omega)
    omega
  rw [ex, mul_nat 2401 10 (by omega) xb (by decide), Res.ok_bind, mul_nat 2401 10 (by omega) (by omega) (by decide), Res.ok_bind, Res.ok_bind, mul_nat 2401 10 (by omega) xb (by decide), Res.ok_bind, digits_value_ok, Res.ok_bind]
  have eb : (((ivl w (rd b) b.length).1 * (cn w (rd b) false (gN w b.length (rd b)) b.length + cn w (rd b) true (gN w b.length (rd b)) b.length + 2) : Nat) : Int) + (((ivl w (rd b) b.length).2.1 * (cn w (rd b) false (gN w b.length (rd b)) b.length + 1) : Nat) : Int) = (bN w b : Int) := rfl
  have ew : (((ivl w (rd b) b.length).2.2 * (cn w (rd b) false (gN w b.length (rd b)) b.length + cn w (rd b) true (gN w b.length (rd b)) b.length + 2) : Nat) : Int) = (wN w b : Int) := rfl
  have vg := vl_lt g
  have pg : (2 : Nat) ^ g.length ≤ 2 ^ 3000 := Nat.pow_le_pow_right (by decide) hgl
  have pg1 : (2 : Nat) ^ 3000 < 2 ^ 3001 := Nat.pow_lt_pow_right (by decide) (by decide)
  have e1 : ((vl g : Int) + 1) = ((vl g + 1 : Nat) : Int) := rfl
  have es : (bN w b : Int) * 2 ^ g.length = ((bN w b * 2 ^ g.length : Nat) : Int) := by rw [Int.natCast_mul, Int.natCast_pow]; rfl
  have sh : shl (bN w b : Int) (g.length : Int) = .ok ((bN w b * 2 ^ g.length : Nat) : Int) := by
    rw [shl_int (n := 2411) (by rw [Int.natAbs_natCast]; exact Nat.lt_of_le_of_lt ble wlt) (by omega), es]
  rw [eb, ew, e1, mul_nat 3001 2411 (by omega) wlt (by decide), Res.ok_bind, sh, Res.ok_bind, Res.ok_bind]
  have split : ∀ t, Sx w n g b t → (b ++ [48]) <+: t ∨ (b ++ [49]) <+: t := fun t ⟨h1, h2, h3, h4⟩ => next_char h3 (by omega) h2
  by_cases qA : (vl g + 1) * wN w b ≤ bN w b * 2 ^ g.length
  · rw [if_pos (decide_eq_true (Int.ofNat_le.mpr qA))]
    refine ⟨_, rfl, .inl ⟨rfl, fun t h => ?_⟩⟩
    rcases split t h with z | z
    · exact z
    · exact absurd h.2.2.2 (no_one hw hb6 qA z (by have := h.1; omega))
  · rw [if_neg (by rw [decide_eq_true_eq]; exact fun z => qA (Int.ofNat_le.mp z)), Res.ok_bind, mul_nat 3001 2411 (by omega) wlt (by decide), Res.ok_bind, Res.ok_bind]
    by_cases qB : bN w b * 2 ^ g.length ≤ vl g * wN w b
    · rw [if_pos (decide_eq_true (Int.ofNat_le.mpr qB))]
      refine ⟨_, rfl, .inr (.inl ⟨rfl, fun t h => ?_⟩)⟩
      rcases split t h with z | z
      · exact absurd h.2.2.2 (no_zero hw hb6 qB z (by have := h.1; omega))
      · exact z
    · have em : ((n : Int) - (b.length : Int)) - 1 = ((n - b.length - 1 : Nat) : Int) := by omega
      rw [if_neg (by rw [decide_eq_true_eq]; exact fun z => qB (Int.ofNat_le.mp z)), em, Res.ok_bind, last_ok b _ hb6 (by omega), Res.ok_bind, opens_ok _ _ hw (by simp; omega), Res.ok_bind, first_ok b _ hb6 (by omega), Res.ok_bind, opens_ok _ _ hw (by simp; omega), Res.ok_bind]
      have lb : ∀ c ∈ ((b ++ [48]) ++ List.replicate (n - b.length - 1) 49), isBit c := fun c hc => by
        rcases List.mem_append.mp hc with hc | hc
        · rcases List.mem_append.mp hc with hc | hc
          · exact bb c hc
          · exact .inl (List.mem_singleton.mp hc)
        · exact .inr (List.mem_replicate.mp hc).2
      have fb : ∀ c ∈ ((b ++ [49]) ++ List.replicate (n - b.length - 1) 48), isBit c := fun c hc => by
        rcases List.mem_append.mp hc with hc | hc
        · rcases List.mem_append.mp hc with hc | hc
          · exact bb c hc
          · exact .inr (List.mem_singleton.mp hc)
        · exact .inl (List.mem_replicate.mp hc).2
      have llen : ((b ++ [48]) ++ List.replicate (n - b.length - 1) 49).length = n := by simp; omega
      have flen : ((b ++ [49]) ++ List.replicate (n - b.length - 1) 48).length = n := by simp; omega
      have b0 : ∀ r : Tx, b <+: (b ++ [48]) ++ r := fun r => ⟨[48] ++ r, by simp⟩
      have b1 : ∀ r : Tx, b <+: (b ++ [49]) ++ r := fun r => ⟨[49] ++ r, by simp⟩
      have toL : ∀ t, Sx w n g b t → (b ++ [48]) <+: t → starts (kd w ((b ++ [48]) ++ List.replicate (n - b.length - 1) 49)) g = true := fun t h z => (starts_iff _ _).mpr (last_zero hw hb6 hgb (by omega) hn hb h.2.1 z h.1 h.2.2.2)
      have toF : ∀ t, Sx w n g b t → (b ++ [49]) <+: t → starts (kd w ((b ++ [49]) ++ List.replicate (n - b.length - 1) 48)) g = true := fun t h z => (starts_iff _ _).mpr (first_one hw hb6 hgb (by omega) hn hb h.2.1 z h.1 h.2.2.2)
      cases qL : starts (kd w ((b ++ [48]) ++ List.replicate (n - b.length - 1) 49)) g with
      | true =>
        cases qF : starts (kd w ((b ++ [49]) ++ List.replicate (n - b.length - 1) 48)) g with
        | true =>
          refine ⟨[63], by rw [if_pos (by decide)]; rfl, .inr (.inr (.inl ⟨rfl, _, _, ⟨llen, lb, b0 _, (starts_iff _ _).mp qL⟩, ⟨flen, fb, b1 _, (starts_iff _ _).mp qF⟩, List.prefix_append _ _, List.prefix_append _ _⟩))⟩
        | false =>
          refine ⟨[48], by rw [if_neg (by decide), if_pos rfl]; rfl, .inl ⟨rfl, fun t h => ?_⟩⟩
          rcases split t h with z | z
          · exact z
          · rw [toF t h z] at qF
            cases qF
      | false =>
        have nz : ∀ t, Sx w n g b t → (b ++ [49]) <+: t := fun t h => by
          rcases split t h with z | z
          · rw [toL t h z] at qL
            cases qL
          · exact z
        cases qF : starts (kd w ((b ++ [49]) ++ List.replicate (n - b.length - 1) 48)) g with
        | true => exact ⟨[49], by rw [if_neg (by decide), if_neg (by decide), if_pos rfl]; rfl, .inr (.inl ⟨rfl, nz⟩)⟩
        | false =>
          refine ⟨[], by rw [if_neg (by decide), if_neg (by decide), if_neg (by decide)]; rfl, .inr (.inr (.inr ⟨rfl, fun t h => ?_⟩))⟩
          rw [toF t h (nz t h)] at qF
          cases qF
end C
/-! PS: find_prefix. -/
namespace C
open R
/-- what find_prefix answers -/
def FP (w n : Nat) (g : Tx) (o : Option Tx) : Prop := (o = none ∧ ∀ t, ¬ Sx w n g [] t) ∨ ∃ b, o = some b ∧ (∀ c ∈ b, isBit c) ∧ b.length ≤ n ∧ (∀ t, Sx w n g [] t → b <+: t) ∧ ((b.length = n ∧ Sx w n g [] b) ∨ (b.length < n ∧ ∃ t u, Sx w n g [] t ∧ Sx w n g [] u ∧ (b ++ [48]) <+: t ∧ (b ++ [49]) <+: u))
def findF (w n : Nat) (g : Tx) : Int → Tx → Res (Ctl Tx (Option Tx)) := fun (x2 : Int) (s3 : Tx) => (p_next_bit_ (w : Int) (n : Int) g s3).bind fun bit => if decide (bit = (tx "?")) then (Res.ok (some s3)).bind fun a => Res.ok (.ret a) else if decide (bit = (tx "")) then (Res.ok none).bind fun a => Res.ok (.ret a) else (cat s3 bit).bind fun bits => Res.ok (.nx bits)
theorem find_loop {w n : Nat} {g : Tx} (hw : 0 < w) (hn : n ≤ 256) (hgb : ∀ c ∈ g, isBit c) (hgl : g.length ≤ 3000) : ∀ (xs : List Int) (b : Tx), b.length + xs.length = n → (∀ c ∈ b, isBit c) → (∀ t, Sx w n g [] t → b <+: t) →
    (∃ o, loop (findF w n g) xs b = .ok (.ret o) ∧ FP w n g o) ∨ (∃ b', loop (findF w n g) xs b = .ok (.nx b') ∧ b'.length = n ∧ (∀ c ∈ b', isBit c) ∧ ∀ t, Sx w n g [] t → b' <+: t)
  | [], b, hl, hb, inv => .inr ⟨b, rfl, by simpa using hl, hb, inv⟩
  | x :: xs, b, hl, hb, inv => by
    have hl' : b.length + (xs.length + 1) = n := hl
    obtain ⟨r, er, cases_⟩ := next_ok (w := w) (n := n) (g := g) (b := b) hw hn (by omega) hgb hgl hb
    have toS : ∀ t, Sx w n g [] t → Sx w n g b t := fun t h => ⟨h.1, h.2.1, inv t h, h.2.2.2⟩
    have ofS : ∀ t, Sx w n g b t → Sx w n g [] t := fun t h => ⟨h.1, h.2.1, List.nil_prefix, h.2.2.2⟩
    have tq : tx "?" = [63] := rfl
    have te : tx "" = [] := rfl
    have step : findF w n g x b = (if decide (r = [63]) then (Res.ok (some b)).bind fun a => Res.ok (.ret a) else if decide (r = []) then (Res.ok none).bind fun a => Res.ok (.ret a) else (cat b r).bind fun bits => Res.ok (.nx bits)) := by
      unfold findF
      rw [er, Res.ok_bind, tq, te]
    have go : ∀ c : Nat, isBit c → r = [c] → (∀ t, Sx w n g b t → (b ++ [c]) <+: t) → (∃ o, loop (findF w n g) (x :: xs) b = .ok (.ret o) ∧ FP w n g o) ∨ (∃ b', loop (findF w n g) (x :: xs) b = .ok (.nx b') ∧ b'.length = n ∧ (∀ c ∈ b', isBit c) ∧ ∀ t, Sx w n g [] t → b' <+: t) := fun c hc hr h => by
      have n1 : ¬ decide (r = [63]) = true := by
        rw [hr, decide_eq_true_eq]
        intro z
        injection z with z
        rcases hc with rfl | rfl <;> cases z
      have n2 : ¬ decide (r = []) = true := by
        rw [hr, decide_eq_true_eq]
        intro z
        cases z
      have st : findF w n g x b = .ok (.nx (b ++ [c])) := by
        rw [step, if_neg n1, if_neg n2, hr, cat_ok (by rw [line_val]; simp; omega), Res.ok_bind]
      have ih := find_loop hw hn hgb hgl xs (b ++ [c]) (by simp; omega) (fun d hd => by
        rcases List.mem_append.mp hd with hd | hd
        · exact hb d hd
        · rw [List.mem_singleton.mp hd]
          exact hc) (fun t ht => h t (toS t ht))
      rw [loop, st, Res.ok_bind]
      exact ih
    rcases cases_ with ⟨hr, h⟩ | ⟨hr, h⟩ | ⟨hr, t, u, h1, h2, h3, h4⟩ | ⟨hr, h⟩
    · exact go 48 (.inl rfl) hr h
    · exact go 49 (.inr rfl) hr h
    · refine .inl ⟨some b, ?_, .inr ⟨b, rfl, hb, by omega, inv, .inr ⟨by omega, t, u, ofS t h1, ofS u h2, h3, h4⟩⟩⟩
      rw [loop, step, hr, if_pos (by decide), Res.ok_bind, Res.ok_bind]
    · refine .inl ⟨none, ?_, .inl ⟨rfl, fun t ht => h t (toS t ht)⟩⟩
      rw [loop, step, hr, if_neg (by decide), if_pos (by decide), Res.ok_bind, Res.ok_bind]
theorem find_ok {w n : Nat} {g : Tx} (hw : 0 < w) (hn : n ≤ 256) (hgb : ∀ c ∈ g, isBit c) (hgl : g.length ≤ 3000) : ∃ o, p_find_prefix (w : Int) (n : Int) g = .ok o ∧ FP w n g o := by
  unfold p_find_prefix
  by_cases q : (17 : Int) * (n : Int) + 848 ≤ (16 : Int) * (g.length : Int)
  · rw [if_pos (decide_eq_true q)]
    refine ⟨none, rfl, .inl ⟨rfl, fun t h => ?_⟩⟩
    obtain ⟨_, _, _, _, k5, _⟩ := kd_ok t hw (by have := h.1; omega)
    have := h.2.2.2.length_le
    have := h.1
    omega
  · rw [if_neg (by rw [decide_eq_true_eq]; exact q), Res.ok_bind, rng_nat (by omega), Res.ok_bind]
    have te : tx "" = [] := rfl
    rw [te]
    rcases find_loop hw hn hgb hgl ((List.range n).map fun i : Nat => (i : Int)) [] (by simp) (fun c hc => by cases hc) (fun t _ => List.nil_prefix) with ⟨o, e, f⟩ | ⟨b, e, b1, b2, b3⟩
    · refine ⟨o, ?_, f⟩
      exact (congrArg (fun z => withCtl z _) e).trans rfl
    · refine ⟨if starts (kd w b) g then some b else none, ?_, ?_⟩
      · refine (congrArg (fun z => withCtl z _) e).trans ?_
        unfold withCtl
        rw [Res.ok_bind]
        dsimp only
        rw [opens_ok g b hw (by omega), Res.ok_bind]
      · cases qs : starts (kd w b) g with
        | true => exact .inr ⟨b, by rw [if_pos rfl], b2, by omega, b3, .inl ⟨b1, b1, b2, List.nil_prefix, (starts_iff _ _).mp qs⟩⟩
        | false =>
          refine .inl ⟨by rw [if_neg (by decide)], fun t h => ?_⟩
          have e2 : b = t := (b3 t h).eq_of_length (by have := h.1; omega)
          have := (starts_iff _ _).mpr h.2.2.2
          rw [← e2, qs] at this
          cases this
end C
/-! PU: rows in order; those whose codes begin so lie together. -/
namespace C
open R
/-- a row of n bits -/
def Row (n : Nat) (t : Tx) : Prop := t.length = n ∧ ∀ c ∈ t, isBit c
section
variable {w n : Nat} {t u v g : Tx}
theorem row_split (ht : Row n t) (hu : Row n u) (h : vl t < vl u) : ∃ p s z, t = p ++ 48 :: s ∧ u = p ++ 49 :: z := by
  refine cells_apart t u ht.2 hu.2 ?_
  rw [ht.1, hu.1]
  exact Nat.mul_le_mul_right _ h
theorem row_inj (ht : Row n t) (hu : Row n u) (h : vl t = vl u) : t = u := by
  rw [← dg_vl n t ht.1 ht.2, ← dg_vl n u hu.1 hu.2, h]
/-- the cells of rows lie in their order -/
theorem cell_order (hw : 0 < w) (hn : n ≤ 256) (ht : Row n t) (hu : Row n u) (h : vl t < vl u) : (vl (kd w t) + 1) * 2 ^ (kd w u).length ≤ vl (kd w u) * 2 ^ (kd w t).length := by
  obtain ⟨p, s, z, e1, e2⟩ := row_split ht hu h
  have ra := rd_pre p s 48
  have rb := rd_pre p z 49
  rw [← e1] at ra
  rw [← e2] at rb
  have pn : p.length < n := by
    have := congrArg List.length e1
    rw [List.length_append, List.length_cons, ht.1] at this
    omega
  have ap := ivl_apart (fun j hj => (ra.2 j hj).trans (rb.2 j hj).symm) hw ra.1 rb.1 pn (by omega)
  obtain ⟨_, _, tb, _, _, _, a2⟩ := kd_ok t hw (by have := ht.1; omega)
  obtain ⟨_, _, ub, _, _, b1, _⟩ := kd_ok u hw (by have := hu.1; omega)
  obtain ⟨i1, i2, _⟩ := ivl_inv w (rd t) n (by omega)
  obtain ⟨j1, j2, _⟩ := ivl_inv w (rd u) n (by omega)
  rw [ht.1] at a2
  rw [hu.1] at b1
  exact frac_trans (by omega : 0 < (ivl w (rd u) n).2.2) (frac_trans (by omega : 0 < (ivl w (rd t) n).2.2) a2 ap) b1
/-- what lies between two rows whose codes begin so, begins so too -/
theorem between (hw : 0 < w) (hn : n ≤ 256) (hgb : ∀ c ∈ g, isBit c) (ht : Row n t) (hu : Row n u) (hv : Row n v) (h1 : vl t ≤ vl u) (h2 : vl u ≤ vl v) (gt : g <+: kd w t) (gv : g <+: kd w v) : g <+: kd w u := by
  by_cases q1 : vl t = vl u
  · rw [← row_inj ht hu q1]
    exact gt
  · by_cases q2 : vl u = vl v
    · rw [row_inj hu hv q2]
      exact gv
    · have o1 := cell_order hw hn ht hu (by omega)
      have o2 := cell_order hw hn hu hv (by omega)
      obtain ⟨c1, _⟩ := cell_pre gt
      obtain ⟨_, c2⟩ := cell_pre gv
      obtain ⟨_, _, ub, _⟩ := kd_ok u hw (by have := hu.1; omega)
      refine pre_cell g (kd w u) hgb ub ?_ ?_
      · have o1' : vl (kd w t) * 2 ^ (kd w u).length ≤ vl (kd w u) * 2 ^ (kd w t).length := Nat.le_trans (Nat.mul_le_mul_right _ (Nat.le_succ _)) o1
        exact frac_trans (Nat.pow_pos (by decide)) c1 o1'
      · have o2' : (vl (kd w u) + 1) * 2 ^ (kd w v).length ≤ (vl (kd w v) + 1) * 2 ^ (kd w u).length := Nat.le_trans o2 (Nat.mul_le_mul_right _ (Nat.le_succ _))
        exact frac_trans (Nat.pow_pos (by decide)) o2' c2
end
/-! ### numbers of rows -/
theorem vl_ones (m : Nat) : vl (List.replicate m 49) + 1 = 2 ^ m := by
  induction m with
  | zero => rfl
  | succ m ih =>
    rw [List.replicate_succ, vl_cons, if_pos rfl, Nat.one_mul, List.length_replicate, Nat.pow_succ]
    omega
theorem vl_zeros (m : Nat) : vl (List.replicate m 48) = 0 := by
  induction m with
  | zero => rfl
  | succ m ih =>
    rw [List.replicate_succ, vl_cons, if_neg (show ¬ (48 : Nat) = 49 by decide), Nat.zero_mul, Nat.zero_add, ih]
theorem vl_last (b : Tx) (m : Nat) : vl ((b ++ [48]) ++ List.replicate m 49) + 1 = vl b * 2 ^ (m + 1) + 2 ^ m := by
  have := vl_ones m
  rw [vl_append, vl_append, List.length_replicate]
  have e : vl [48] = 0 := rfl
  have e1 : ([48] : Tx).length = 1 := rfl
  rw [e, e1, Nat.add_zero (vl b * 2 ^ 1), Nat.mul_assoc, ← Nat.pow_add, Nat.add_comm 1 m]
  omega
theorem vl_first (b : Tx) (m : Nat) : vl ((b ++ [49]) ++ List.replicate m 48) = vl b * 2 ^ (m + 1) + 2 ^ m := by
  rw [vl_append, vl_append, List.length_replicate, vl_zeros]
  have e : vl [49] = 1 := rfl
  have e1 : ([49] : Tx).length = 1 := rfl
  rw [e, e1, Nat.add_zero, Nat.add_mul, Nat.mul_assoc, ← Nat.pow_add, Nat.add_comm 1 m, Nat.one_mul]
end C
/-! PV: how many rows have a code that begins so. -/
namespace C
open R
def p_many_low_ (width : Int) (code : Tx) (bits : Tx) (more : Int) : Res Int :=
  (Res.ok (1 : Int)).bind fun total => ((rng 0 more).bind fun xs1 => fold (fun (x2 : Int) (s3 : Int × Tx) => (((p_last_with_zero s3.2 x2).bind fun v4 => p_opens width code v4).bind fun b10 => if b10 then ((shl (1 : Int) x2).bind fun v6 => Res.ok (s3.1 + v6)).bind fun total => (cat s3.2 (tx "0")).bind fun bits => Res.ok (total, bits) else (cat s3.2 (tx "1")).bind fun bits => Res.ok (s3.1, bits) : Res (Int × Tx)).bind fun s9 => Res.ok (s9.1, s9.2)) xs1.reverse (total, bits) : Res (Int × Tx)).bind fun s3 => Res.ok s3.1

def p_many_high_ (width : Int) (code : Tx) (bits : Tx) (more : Int) : Res Int :=
  (Res.ok (1 : Int)).bind fun total => ((rng 0 more).bind fun xs1 => fold (fun (x2 : Int) (s3 : Int × Tx) => (((p_first_with_one s3.2 x2).bind fun v4 => p_opens width code v4).bind fun b10 => if b10 then ((shl (1 : Int) x2).bind fun v6 => Res.ok (s3.1 + v6)).bind fun total => (cat s3.2 (tx "1")).bind fun bits => Res.ok (total, bits) else (cat s3.2 (tx "0")).bind fun bits => Res.ok (s3.1, bits) : Res (Int × Tx)).bind fun s9 => Res.ok (s9.1, s9.2)) xs1.reverse (total, bits) : Res (Int × Tx)).bind fun s3 => Res.ok s3.1

def lowF (w : Nat) (g : Tx) : Int → Int × Tx → Res (Int × Tx) := fun (x2 : Int) (s3 : Int × Tx) => (((p_last_with_zero s3.2 x2).bind fun v4 => p_opens (w : Int) g v4).bind fun b10 => if b10 then ((shl (1 : Int) x2).bind fun v6 => Res.ok (s3.1 + v6)).bind fun total => (cat s3.2 (tx "0")).bind fun bits => Res.ok (total, bits) else (cat s3.2 (tx "1")).bind fun bits => Res.ok (s3.1, bits) : Res (Int × Tx)).bind fun s9 => Res.ok (s9.1, s9.2)
def highF (w : Nat) (g : Tx) : Int → Int × Tx → Res (Int × Tx) := fun (x2 : Int) (s3 : Int × Tx) => (((p_first_with_one s3.2 x2).bind fun v4 => p_opens (w : Int) g v4).bind fun b10 => if b10 then ((shl (1 : Int) x2).bind fun v6 => Res.ok (s3.1 + v6)).bind fun total => (cat s3.2 (tx "1")).bind fun bits => Res.ok (total, bits) else (cat s3.2 (tx "0")).bind fun bits => Res.ok (s3.1, bits) : Res (Int × Tx)).bind fun s9 => Res.ok (s9.1, s9.2)
def dn (k : Nat) : List Int := ((List.range k).map fun i : Nat => (i : Int)).reverse
theorem dn_succ (k : Nat) : dn (k + 1) = (k : Int) :: dn k := by
  unfold dn
  rw [List.range_succ, List.map_append, List.reverse_append]
  rfl
theorem bits_snoc {c : Tx} {x : Nat} (h : ∀ y ∈ c, isBit y) (hx : isBit x) : ∀ y ∈ c ++ [x], isBit y := fun y hy => by
  rcases List.mem_append.mp hy with hy | hy
  · exact h y hy
  · rw [List.mem_singleton.mp hy]
    exact hx
theorem bits_rep {c : Tx} {x : Nat} (m : Nat) (h : ∀ y ∈ c, isBit y) (hx : isBit x) : ∀ y ∈ c ++ List.replicate m x, isBit y := fun y hy => by
  rcases List.mem_append.mp hy with hy | hy
  · exact h y hy
  · rw [(List.mem_replicate.mp hy).2]
    exact hx
section
variable {w n : Nat} {g : Tx}
theorem vl_all (c : Tx) (k : Nat) : vl (c ++ List.replicate k 49) + 1 = (vl c + 1) * 2 ^ k := by
  have := vl_ones k
  rw [vl_append, List.length_replicate, Nat.add_mul, Nat.one_mul]
  omega
theorem vl_none (c : Tx) (k : Nat) : vl (c ++ List.replicate k 48) = vl c * 2 ^ k := by
  rw [vl_append, List.length_replicate, vl_zeros, Nat.add_zero]
theorem vl_snoc0 (c : Tx) : vl (c ++ [48]) = 2 * vl c := by rw [vl_snoc, if_neg (show ¬ (48 : Nat) = 49 by decide), Nat.add_zero]
theorem vl_snoc1 (c : Tx) : vl (c ++ [49]) = 2 * vl c + 1 := by rw [vl_snoc, if_pos rfl]
theorem low_walk (hw : 0 < w) (hn : n ≤ 256) (hgb : ∀ c ∈ g, isBit c) : ∀ (k : Nat) (c : Tx) (total : Int), (∀ x ∈ c, isBit x) → c.length + k = n → g <+: kd w (c ++ List.replicate k 49) → (∀ t, Row n t → g <+: kd w t → vl c * 2 ^ k ≤ vl t) →
    ∃ f, fold (lowF w g) (dn k) (total, c) = .ok (total + (vl (c ++ List.replicate k 49) : Int) - (vl f : Int), f) ∧ Row n f ∧ g <+: kd w f ∧ ∀ t, Row n t → g <+: kd w t → vl f ≤ vl t
  | 0, c, total, hb, hl, h1, h2 => by
    have e : c ++ List.replicate 0 49 = c := List.append_nil c
    rw [e] at h1 ⊢
    refine ⟨c, ?_, ⟨by omega, hb⟩, h1, fun t ht hg => by simpa using h2 t ht hg⟩
    show Res.ok (total, c) = _
    rw [Int.add_sub_cancel]
  | k + 1, c, total, hb, hl, h1, h2 => by
    have rl : ((c ++ [48]) ++ List.replicate k 49).length = n := by simp; omega
    have rb := bits_rep k (bits_snoc hb (.inl rfl : isBit 48)) (.inr rfl : isBit 49)
    have al : (c ++ List.replicate (k + 1) 49).length = n := by simp; omega
    have ab := bits_rep (k + 1) hb (.inr rfl : isBit 49)
    have va := vl_all c (k + 1)
    have vr := vl_last c k
    have t0 : tx "0" = [48] := rfl
    have t1 : tx "1" = [49] := rfl
    have p2 : 2 ^ (k + 1) = 2 ^ k * 2 := Nat.pow_succ 2 k
    have st : lowF w g (k : Int) (total, c) = .ok (if starts (kd w ((c ++ [48]) ++ List.replicate k 49)) g then (total + 2 ^ k, c ++ [48]) else (total, c ++ [49])) := by
      unfold lowF
      dsimp only
      rw [last_ok c k (by omega) (by omega), Res.ok_bind, opens_ok g _ hw (by omega), Res.ok_bind]
      cases starts (kd w ((c ++ [48]) ++ List.replicate k 49)) g
      · rw [if_neg (by decide), if_neg (by decide), t1, cat_ok (by rw [line_val]; simp; omega), Res.ok_bind, Res.ok_bind]
      · rw [if_pos rfl, if_pos rfl, shl_one (by omega), Res.ok_bind, Res.ok_bind, t0, cat_ok (by rw [line_val]; simp; omega), Res.ok_bind, Res.ok_bind]
    rw [dn_succ, fold_cons, st, Res.ok_bind]
    cases q : starts (kd w ((c ++ [48]) ++ List.replicate k 49)) g with
    | true =>
      rw [if_pos rfl]
      obtain ⟨f, e, f1, f2, f3⟩ := low_walk hw hn hgb k (c ++ [48]) (total + 2 ^ k) (bits_snoc hb (.inl rfl)) (by simp; omega) ((starts_iff _ _).mp q) (fun t ht hg => by
        have := h2 t ht hg
        rw [vl_snoc0, Nat.mul_comm 2, Nat.mul_assoc, Nat.mul_comm 2, ← p2]
        exact this)
      refine ⟨f, ?_, f1, f2, f3⟩
      rw [e]
      have ec : ((2 : Int) ^ k) = ((2 ^ k : Nat) : Int) := by rw [Int.natCast_pow]; rfl
      have : total + 2 ^ k + (vl ((c ++ [48]) ++ List.replicate k 49) : Int) = total + (vl (c ++ List.replicate (k + 1) 49) : Int) := by
        rw [ec]
        rw [Nat.add_mul, Nat.one_mul] at va
        omega
      rw [this]
    | false =>
      rw [if_neg (by decide)]
      have ea : (c ++ [49]) ++ List.replicate k 49 = c ++ List.replicate (k + 1) 49 := by rw [List.append_assoc]; rfl
      obtain ⟨f, e, f1, f2, f3⟩ := low_walk hw hn hgb k (c ++ [49]) total (bits_snoc hb (.inr rfl)) (by simp; omega) (by rw [ea]; exact h1) (fun t ht hg => by
        have b1 := h2 t ht hg
        rw [vl_snoc1, Nat.add_mul, Nat.one_mul, Nat.mul_comm 2, Nat.mul_assoc, Nat.mul_comm 2, ← p2]
        rcases Nat.lt_or_ge (vl t) (vl c * 2 ^ (k + 1) + 2 ^ k) with z | z
        · have bt := between hw hn hgb ht ⟨rl, rb⟩ ⟨al, ab⟩ (by omega) (by rw [Nat.add_mul, Nat.one_mul] at va; omega) hg h1
          rw [(starts_iff _ _).mpr bt] at q
          cases q
        · exact z)
      refine ⟨f, ?_, f1, f2, f3⟩
      rw [e, ea]
theorem high_walk (hw : 0 < w) (hn : n ≤ 256) (hgb : ∀ c ∈ g, isBit c) : ∀ (k : Nat) (c : Tx) (total : Int), (∀ x ∈ c, isBit x) → c.length + k = n → g <+: kd w (c ++ List.replicate k 48) → (∀ t, Row n t → g <+: kd w t → vl t < (vl c + 1) * 2 ^ k) →
    ∃ f, fold (highF w g) (dn k) (total, c) = .ok (total + (vl f : Int) - (vl (c ++ List.replicate k 48) : Int), f) ∧ Row n f ∧ g <+: kd w f ∧ ∀ t, Row n t → g <+: kd w t → vl t ≤ vl f
  | 0, c, total, hb, hl, h1, h2 => by
    have e : c ++ List.replicate 0 48 = c := List.append_nil c
    rw [e] at h1 ⊢
    refine ⟨c, ?_, ⟨by omega, hb⟩, h1, fun t ht hg => by
      have := h2 t ht hg
      rw [Nat.pow_zero, Nat.mul_one] at this
      omega⟩
    show Res.ok (total, c) = _
    rw [Int.add_sub_cancel]
  | k + 1, c, total, hb, hl, h1, h2 => by
    have rl : ((c ++ [49]) ++ List.replicate k 48).length = n := by simp; omega
    have rb := bits_rep k (bits_snoc hb (.inr rfl : isBit 49)) (.inl rfl : isBit 48)
    have al : (c ++ List.replicate (k + 1) 48).length = n := by simp; omega
    have ab := bits_rep (k + 1) hb (.inl rfl : isBit 48)
    have va := vl_none c (k + 1)
    have vr := vl_first c k
    have t0 : tx "0" = [48] := rfl
    have t1 : tx "1" = [49] := rfl
    have p2 : 2 ^ (k + 1) = 2 ^ k * 2 := Nat.pow_succ 2 k
    have st : highF w g (k : Int) (total, c) = .ok (if starts (kd w ((c ++ [49]) ++ List.replicate k 48)) g then (total + 2 ^ k, c ++ [49]) else (total, c ++ [48])) := by
      unfold highF
      dsimp only
      rw [first_ok c k (by omega) (by omega), Res.ok_bind, opens_ok g _ hw (by omega), Res.ok_bind]
      cases starts (kd w ((c ++ [49]) ++ List.replicate k 48)) g
      · rw [if_neg (by decide), if_neg (by decide), t0, cat_ok (by rw [line_val]; simp; omega), Res.ok_bind, Res.ok_bind]
      · rw [if_pos rfl, if_pos rfl, shl_one (by omega), Res.ok_bind, Res.ok_bind, t1, cat_ok (by rw [line_val]; simp; omega), Res.ok_bind, Res.ok_bind]
    rw [dn_succ, fold_cons, st, Res.ok_bind]
    cases q : starts (kd w ((c ++ [49]) ++ List.replicate k 48)) g with
    | true =>
      rw [if_pos rfl]
      obtain ⟨f, e, f1, f2, f3⟩ := high_walk hw hn hgb k (c ++ [49]) (total + 2 ^ k) (bits_snoc hb (.inr rfl)) (by simp; omega) ((starts_iff _ _).mp q) (fun t ht hg => by
        have := h2 t ht hg
        rw [vl_snoc1, show 2 * vl c + 1 + 1 = (vl c + 1) * 2 by omega, Nat.mul_assoc, Nat.mul_comm 2, ← p2]
        exact this)
      refine ⟨f, ?_, f1, f2, f3⟩
      rw [e]
      have ec : ((2 : Int) ^ k) = ((2 ^ k : Nat) : Int) := by rw [Int.natCast_pow]; rfl
      have : total + 2 ^ k + (vl f : Int) - (vl ((c ++ [49]) ++ List.replicate k 48) : Int) = total + (vl f : Int) - (vl (c ++ List.replicate (k + 1) 48) : Int) := by
        rw [ec]
        omega
      rw [this]
    | false =>
      rw [if_neg (by decide)]
      have ea : (c ++ [48]) ++ List.replicate k 48 = c ++ List.replicate (k + 1) 48 := by rw [List.append_assoc]; rfl
      obtain ⟨f, e, f1, f2, f3⟩ := high_walk hw hn hgb k (c ++ [48]) total (bits_snoc hb (.inl rfl)) (by simp; omega) (by rw [ea]; exact h1) (fun t ht hg => by
        have b1 := h2 t ht hg
        rw [vl_snoc0, Nat.add_mul, Nat.one_mul, Nat.mul_comm 2, Nat.mul_assoc, Nat.mul_comm 2, ← p2]
        rcases Nat.lt_or_ge (vl t) (vl c * 2 ^ (k + 1) + 2 ^ k) with z | z
        · exact z
        · have bt := between hw hn hgb ⟨al, ab⟩ ⟨rl, rb⟩ ht (by omega) (by omega) h1 hg
          rw [(starts_iff _ _).mpr bt] at q
          cases q)
      refine ⟨f, ?_, f1, f2, f3⟩
      rw [e, ea]
end
end C
/-! PR: count_possible. -/
namespace C
open R
def p_count_possible (width : Int) (count : Int) (code : Tx) : Res Int :=
  (p_known_prefix width count code).bind fun bits => if bits.isNone then Res.ok (0 : Int) else ((unopt bits).bind fun v2 => Res.ok (decide ((v2.length : Int) = count))).bind fun b10 => if b10 then Res.ok (1 : Int) else ((unopt bits).bind fun v3 => Res.ok ((count - (v3.length : Int)) - (1 : Int))).bind fun more => (unopt bits).bind fun v4 => (cat v4 (tx "0")).bind fun v5 => (p_many_low_ width code v5 more).bind fun v6 => (unopt bits).bind fun v7 => (cat v7 (tx "1")).bind fun v8 => (p_many_high_ width code v8 more).bind fun v9 => Res.ok (v6 + v9)

/-- the first and the last row whose code begins so -/
def Ends (w n : Nat) (g f l : Tx) : Prop := Row n f ∧ Row n l ∧ g <+: kd w f ∧ g <+: kd w l ∧ (∀ t, Row n t → g <+: kd w t → vl f ≤ vl t) ∧ ∀ t, Row n t → g <+: kd w t → vl t ≤ vl l
section
variable {w n : Nat} {g : Tx}
theorem many_low_ok (hw : 0 < w) (hn : n ≤ 256) (hgb : ∀ c ∈ g, isBit c) (k : Nat) (c : Tx) (hb : ∀ x ∈ c, isBit x) (hl : c.length + k = n) (h1 : g <+: kd w (c ++ List.replicate k 49)) (h2 : ∀ t, Row n t → g <+: kd w t → vl c * 2 ^ k ≤ vl t) :
    ∃ f, p_many_low_ (w : Int) g c (k : Int) = .ok (1 + (vl (c ++ List.replicate k 49) : Int) - (vl f : Int)) ∧ Row n f ∧ g <+: kd w f ∧ ∀ t, Row n t → g <+: kd w t → vl f ≤ vl t := by
  obtain ⟨f, e, f1, f2, f3⟩ := low_walk hw hn hgb k c 1 hb hl h1 h2
  refine ⟨f, ?_, f1, f2, f3⟩
  unfold p_many_low_
  rw [Res.ok_bind, rng_nat (by omega), Res.ok_bind]
  exact (congrArg (fun z => Res.bind z _) e).trans rfl
theorem many_high_ok (hw : 0 < w) (hn : n ≤ 256) (hgb : ∀ c ∈ g, isBit c) (k : Nat) (c : Tx) (hb : ∀ x ∈ c, isBit x) (hl : c.length + k = n) (h1 : g <+: kd w (c ++ List.replicate k 48)) (h2 : ∀ t, Row n t → g <+: kd w t → vl t < (vl c + 1) * 2 ^ k) :
    ∃ f, p_many_high_ (w : Int) g c (k : Int) = .ok (1 + (vl f : Int) - (vl (c ++ List.replicate k 48) : Int)) ∧ Row n f ∧ g <+: kd w f ∧ ∀ t, Row n t → g <+: kd w t → vl t ≤ vl f := by
  obtain ⟨f, e, f1, f2, f3⟩ := high_walk hw hn hgb k c 1 hb hl h1 h2
  refine ⟨f, ?_, f1, f2, f3⟩
  unfold p_many_high_
  rw [Res.ok_bind, rng_nat (by omega), Res.ok_bind]
  exact (congrArg (fun z => Res.bind z _) e).trans rfl
theorem prefix_ok {g : Tx} (hw : 0 < w) (hw2 : w ≤ 16) (hn : n ≤ 256) (hl : g.length ≤ 400) : p_known_prefix (w : Int) (n : Int) g = p_find_prefix (w : Int) (n : Int) g := by
  unfold p_known_prefix p_check_width p_check_count p_check_code
  rw [if_neg (by simp; omega), Res.ok_bind, if_neg (by simp; omega), Res.ok_bind, if_neg (by simp; omega), Res.ok_bind]
theorem pre_vl {b t : Tx} (h : b <+: t) (hl : t.length = n) : vl b * 2 ^ (n - b.length) ≤ vl t ∧ vl t < (vl b + 1) * 2 ^ (n - b.length) := by
  obtain ⟨r, rfl⟩ := h
  have hr := vl_lt r
  have e : n - b.length = r.length := by rw [← hl, List.length_append]; omega
  rw [e, vl_append, Nat.add_mul, Nat.one_mul]
  omega
theorem count_ok (hw : 0 < w) (hw2 : w ≤ 16) (hn : n ≤ 256) (hgb : ∀ c ∈ g, isBit c) (hgl : g.length ≤ 400) : (p_count_possible (w : Int) (n : Int) g = .ok 0 ∧ ∀ t, ¬ (Row n t ∧ g <+: kd w t)) ∨ ∃ f l, p_count_possible (w : Int) (n : Int) g = .ok ((vl l : Int) - (vl f : Int) + 1) ∧ Ends w n g f l := by
  obtain ⟨o, eo, fo⟩ := find_ok (w := w) (n := n) (g := g) hw hn hgb (by omega)
  have toS : ∀ t, Row n t → g <+: kd w t → Sx w n g [] t := fun t h1 h2 => ⟨h1.1, h1.2, List.nil_prefix, h2⟩
  unfold p_count_possible
  rw [prefix_ok hw hw2 hn hgl, eo, Res.ok_bind]
  rcases fo with ⟨rfl, no⟩ | ⟨b, rfl, bb, bl, inv, fin⟩
  · exact .inl ⟨rfl, fun t h => no t (toS t h.1 h.2)⟩
  · have u : unopt (some b) = .ok b := rfl
    have nn : ¬ (some b).isNone = true := by show ¬ false = true; decide
    rw [if_neg nn, u]
    simp only [Res.ok_bind]
    rcases fin with ⟨q, h⟩ | ⟨q, x, y, x1, y1, x2, y2⟩
    · refine .inr ⟨b, b, ?_, ⟨q, bb⟩, ⟨q, bb⟩, h.2.2.2, h.2.2.2, fun t h1 h2 => ?_, fun t h1 h2 => ?_⟩
      · rw [q, decide_eq_true rfl, if_pos rfl, Int.sub_self]
        rfl
      · rw [(inv t (toS t h1 h2)).eq_of_length (by rw [h1.1, q])]
        exact Nat.le_refl _
      · rw [(inv t (toS t h1 h2)).eq_of_length (by rw [h1.1, q])]
        exact Nat.le_refl _
    · have nq : ¬ decide ((b.length : Int) = (n : Int)) = true := by
        rw [decide_eq_true_eq]
        omega
      have em : (n : Int) - (b.length : Int) - 1 = ((n - b.length - 1 : Nat) : Int) := by omega
      have hb6 : b.length ≤ 256 := by omega
      have hA : bN w b * 2 ^ g.length ≤ (vl g + 1) * wN w b := by
        rcases Nat.le_total ((vl g + 1) * wN w b) (bN w b * 2 ^ g.length) with z | z
        · exact absurd y1.2.2.2 (no_one hw hb6 z y2 (by have := y1.1; omega))
        · exact z
      have hB : vl g * wN w b ≤ bN w b * 2 ^ g.length := by
        rcases Nat.le_total (bN w b * 2 ^ g.length) (vl g * wN w b) with z | z
        · exact absurd x1.2.2.2 (no_zero hw hb6 z x2 (by have := x1.1; omega))
        · exact z
      have sL := last_zero hw hb6 hgb hA hn q x1.2.1 x2 x1.1 x1.2.2.2
      have sF := first_one hw hb6 hgb hB hn q y1.2.1 y2 y1.1 y1.2.2.2
      have t0 : tx "0" = [48] := rfl
      have t1 : tx "1" = [49] := rfl
      have ek : n - b.length = (n - b.length - 1) + 1 := by omega
      have p2 : 2 ^ (n - b.length - 1 + 1) = 2 ^ (n - b.length - 1) * 2 := Nat.pow_succ 2 _
      obtain ⟨f, f1, f2, f3, f4⟩ := many_low_ok hw hn hgb (n - b.length - 1) (b ++ [48]) (bits_snoc bb (.inl rfl)) (by simp; omega) sL (fun t h1 h2 => by
        have := (pre_vl (inv t (toS t h1 h2)) h1.1).1
        rw [ek, p2] at this
        rw [vl_snoc0, Nat.mul_comm 2, Nat.mul_assoc, Nat.mul_comm 2]
        exact this)
      obtain ⟨l, l1, l2, l3, l4⟩ := many_high_ok hw hn hgb (n - b.length - 1) (b ++ [49]) (bits_snoc bb (.inr rfl)) (by simp; omega) sF (fun t h1 h2 => by
        have := (pre_vl (inv t (toS t h1 h2)) h1.1).2
        rw [ek, p2] at this
        rw [vl_snoc1, show 2 * vl b + 1 + 1 = (vl b + 1) * 2 by omega, Nat.mul_assoc, Nat.mul_comm 2]
        exact this)
      have v1 := vl_last b (n - b.length - 1)
      have v2 := vl_first b (n - b.length - 1)
      refine .inr ⟨f, l, ?_, f2, l2, f3, l3, f4, l4⟩
      rw [if_neg nq, em, t0, t1, cat_ok (by rw [line_val]; simp; omega), Res.ok_bind, f1, Res.ok_bind, cat_ok (by rw [line_val]; simp; omega), Res.ok_bind, l1, Res.ok_bind]
      refine congrArg Res.ok ?_
      omega
end
end C
/-! PO: first_possible. -/
namespace C
open R
def p_first_possible (width : Int) (count : Int) (code : Tx) : Res (Option Tx) :=
  (p_known_prefix width count code).bind fun bits => (if bits.isNone then Res.ok true else (unopt bits).bind fun v2 => Res.ok (decide ((v2.length : Int) = count))).bind fun b15 => if b15 then Res.ok bits else ((unopt bits).bind fun v4 => (cat v4 (tx "0")).bind fun v5 => Res.ok (some v5)).bind fun bits => ((unopt bits).bind fun v6 => (rng 0 (count - (v6.length : Int))).bind fun xs7 => fold (fun (x8 : Int) (s9 : (Option Tx)) => ((unopt s9).bind fun v10 => (unopt s9).bind fun v11 => (p_last_with_zero v11 x8).bind fun v12 => (p_opens width code v12).bind fun v13 => (cat v10 (if v13 then (tx "0") else (tx "1"))).bind fun v14 => Res.ok (some v14)).bind fun bits => Res.ok bits) xs7.reverse bits : Res ((Option Tx))).bind fun s9 => Res.ok s9

def firstF (w : Nat) (g : Tx) : Int → Option Tx → Res (Option Tx) := fun (x8 : Int) (s9 : (Option Tx)) => ((unopt s9).bind fun v10 => (unopt s9).bind fun v11 => (p_last_with_zero v11 x8).bind fun v12 => (p_opens (w : Int) g v12).bind fun v13 => (cat v10 (if v13 then (tx "0") else (tx "1"))).bind fun v14 => Res.ok (some v14)).bind fun bits => Res.ok bits
section
variable {w n : Nat} {g : Tx}
theorem first_walk (hw : 0 < w) : ∀ (k : Nat) (c : Tx) (tot : Int) (r : Int × Tx), c.length + k ≤ 255 → fold (lowF w g) (dn k) (tot, c) = .ok r → fold (firstF w g) (dn k) (some c) = .ok (some r.2)
  | 0, c, tot, r, hl, h => by
    have e : (tot, c) = r := Res.ok.inj h
    rw [← e]
    rfl
  | k + 1, c, tot, r, hl, h => by
    have t0 : tx "0" = [48] := rfl
    have t1 : tx "1" = [49] := rfl
    have lo : p_last_with_zero c (k : Int) = .ok ((c ++ [48]) ++ List.replicate k 49) := last_ok c k (by omega) (by omega)
    have op := opens_ok g ((c ++ [48]) ++ List.replicate k 49) hw (by simp; omega)
    have u : unopt (some c) = .ok c := rfl
    have st : lowF w g (k : Int) (tot, c) = .ok (if starts (kd w ((c ++ [48]) ++ List.replicate k 49)) g then (tot + 2 ^ k, c ++ [48]) else (tot, c ++ [49])) := by
      unfold lowF
      dsimp only
      rw [lo, Res.ok_bind, op, Res.ok_bind]
      cases starts (kd w ((c ++ [48]) ++ List.replicate k 49)) g
      · rw [if_neg (by decide), if_neg (by decide), t1, cat_ok (by rw [line_val]; simp; omega), Res.ok_bind, Res.ok_bind]
      · rw [if_pos rfl, if_pos rfl, shl_one (by omega), Res.ok_bind, Res.ok_bind, t0, cat_ok (by rw [line_val]; simp; omega), Res.ok_bind, Res.ok_bind]
    have sf : firstF w g (k : Int) (some c) = .ok (if starts (kd w ((c ++ [48]) ++ List.replicate k 49)) g then some (c ++ [48]) else some (c ++ [49])) := by
      unfold firstF
      rw [u, Res.ok_bind, Res.ok_bind, lo, Res.ok_bind, op, Res.ok_bind]
      cases starts (kd w ((c ++ [48]) ++ List.replicate k 49)) g
      · rw [if_neg (by decide), if_neg (by decide), t1, cat_ok (by rw [line_val]; simp; omega), Res.ok_bind, Res.ok_bind]
      · rw [if_pos rfl, if_pos rfl, t0, cat_ok (by rw [line_val]; simp; omega), Res.ok_bind, Res.ok_bind]
    rw [dn_succ, fold_cons, st, Res.ok_bind] at h
    rw [dn_succ, fold_cons, sf, Res.ok_bind]
    cases q : starts (kd w ((c ++ [48]) ++ List.replicate k 49)) g with
    | true =>
      rw [q, if_pos rfl] at h
      rw [if_pos rfl]
      exact first_walk hw k _ _ r (by simp; omega) h
    | false =>
      rw [q, if_neg (by decide)] at h
      rw [if_neg (by decide)]
      exact first_walk hw k _ _ r (by simp; omega) h
theorem first_ok' (hw : 0 < w) (hw2 : w ≤ 16) (hn : n ≤ 255) (hgb : ∀ c ∈ g, isBit c) (hgl : g.length ≤ 400) : (p_first_possible (w : Int) (n : Int) g = .ok none ∧ ∀ t, ¬ (Row n t ∧ g <+: kd w t)) ∨ ∃ f, p_first_possible (w : Int) (n : Int) g = .ok (some f) ∧ Row n f ∧ g <+: kd w f ∧ ∀ t, Row n t → g <+: kd w t → vl f ≤ vl t := by
  have hn : n ≤ 256 := by omega
  obtain ⟨o, eo, fo⟩ := find_ok (w := w) (n := n) (g := g) hw hn hgb (by omega)
  have toS : ∀ t, Row n t → g <+: kd w t → Sx w n g [] t := fun t h1 h2 => ⟨h1.1, h1.2, List.nil_prefix, h2⟩
  unfold p_first_possible
  rw [prefix_ok hw hw2 hn hgl, eo, Res.ok_bind]
  rcases fo with ⟨rfl, no⟩ | ⟨b, rfl, bb, bl, inv, fin⟩
  · exact .inl ⟨rfl, fun t h => no t (toS t h.1 h.2)⟩
  · have u : unopt (some b) = .ok b := rfl
    have nn : ¬ (some b).isNone = true := by show ¬ false = true; decide
    rw [if_neg nn, u, Res.ok_bind, Res.ok_bind, Res.ok_bind]
    rcases fin with ⟨q, h⟩ | ⟨q, x, y, x1, y1, x2, y2⟩
    · refine .inr ⟨b, ?_, ⟨q, bb⟩, h.2.2.2, fun t h1 h2 => ?_⟩
      · rw [q, decide_eq_true rfl, if_pos rfl]
      · rw [(inv t (toS t h1 h2)).eq_of_length (by rw [h1.1, q])]
        exact Nat.le_refl _
    · have nq : ¬ decide ((b.length : Int) = (n : Int)) = true := by
        rw [decide_eq_true_eq]
        omega
      have hb6 : b.length ≤ 256 := by omega
      have hA : bN w b * 2 ^ g.length ≤ (vl g + 1) * wN w b := by
        rcases Nat.le_total ((vl g + 1) * wN w b) (bN w b * 2 ^ g.length) with z | z
        · exact absurd y1.2.2.2 (no_one hw hb6 z y2 (by have := y1.1; omega))
        · exact z
      have hB : vl g * wN w b ≤ bN w b * 2 ^ g.length := by
        rcases Nat.le_total (bN w b * 2 ^ g.length) (vl g * wN w b) with z | z
        · exact absurd x1.2.2.2 (no_zero hw hb6 z x2 (by have := x1.1; omega))
        · exact z
      have sL := last_zero hw hb6 hgb hA hn q x1.2.1 x2 x1.1 x1.2.2.2
      have sF := first_one hw hb6 hgb hB hn q y1.2.1 y2 y1.1 y1.2.2.2
      have t0 : tx "0" = [48] := rfl
      have ek : n - b.length = (n - b.length - 1) + 1 := by omega
      have p2 : 2 ^ (n - b.length - 1 + 1) = 2 ^ (n - b.length - 1) * 2 := Nat.pow_succ 2 _
      obtain ⟨f, f1, f2, f3, f4⟩ := low_walk hw hn hgb (n - b.length - 1) (b ++ [48]) 1 (bits_snoc bb (.inl rfl)) (by simp; omega) sL (fun t h1 h2 => by
        have := (pre_vl (inv t (toS t h1 h2)) h1.1).1
        rw [ek, p2] at this
        rw [vl_snoc0, Nat.mul_comm 2, Nat.mul_assoc, Nat.mul_comm 2]
        exact this)
      have fw := first_walk hw (n - b.length - 1) (b ++ [48]) 1 _ (by simp; omega) f1
      have u2 : unopt (some (b ++ [48])) = .ok (b ++ [48]) := rfl
      have em : (n : Int) - ((b ++ [48]).length : Int) = ((n - b.length - 1 : Nat) : Int) := by simp; omega
      refine .inr ⟨f, ?_, f2, f3, f4⟩
      rw [if_neg nq, t0, cat_ok (by rw [line_val]; simp; omega), Res.ok_bind, Res.ok_bind, u2, Res.ok_bind, em, rng_nat (by omega), Res.ok_bind]
      exact (congrArg (fun z => Res.bind z _) fw).trans rfl
end
end C
/-! PI: no code begins another; the code itself tells its row. -/
namespace C
open R
theorem kd_lt {w n k : Nat} {t u : Tx} (hw : 0 < w) (hn : n ≤ 256) (ht : t.length = n) (hu : u.length = n) (h : ∀ j, j < k → rd t j = rd u j) (hk : k < n) (h0 : rd t k = false) (h1 : rd u k = true) : ∃ p s z, kd w t = p ++ 48 :: s ∧ kd w u = p ++ 49 :: z := by
  have ap := ivl_apart h hw h0 h1 hk (by omega)
  obtain ⟨_, _, tb, _, _, _, a2⟩ := kd_ok t hw (by omega)
  obtain ⟨_, _, ub, _, _, b1, _⟩ := kd_ok u hw (by omega)
  obtain ⟨i1, i2, _⟩ := ivl_inv w (rd t) n (by omega)
  obtain ⟨j1, j2, _⟩ := ivl_inv w (rd u) n (by omega)
  rw [ht] at a2
  rw [hu] at b1
  exact cells_apart _ _ tb ub (frac_trans (by omega : 0 < (ivl w (rd u) n).2.2) (frac_trans (by omega : 0 < (ivl w (rd t) n).2.2) a2 ap) b1)
theorem not_pre {p s z : Tx} {x y : Nat} (h : x ≠ y) : ¬ (p ++ x :: s) <+: (p ++ y :: z) := by
  intro hp
  have := pre_get hp (i := p.length) (by simp)
  rw [List.getElem?_append_right (Nat.le_refl _), List.getElem?_append_right (Nat.le_refl _), Nat.sub_self] at this
  exact h (Option.some.inj this).symm
/-- no code begins another -/
theorem kd_pre {w n : Nat} {t u : Tx} (hw : 0 < w) (hn : n ≤ 256) (ht : t.length = n) (hu : u.length = n) (tb : ∀ c ∈ t, isBit c) (ub : ∀ c ∈ u, isBit c) (h : kd w t <+: kd w u) : t = u := by
  by_cases q : t = u
  · exact q
  · obtain ⟨p, x, y, s, z, e1, e2, hxy⟩ := rows_apart t u (by omega) q
    have hx := tb x (by rw [e1]; simp)
    have hy := ub y (by rw [e2]; simp)
    have ra := rd_pre p s x
    have rb := rd_pre p z y
    rw [← e1] at ra
    rw [← e2] at rb
    have pn : p.length < n := by
      have := congrArg List.length e1
      rw [List.length_append, List.length_cons] at this
      omega
    have eq : ∀ j, j < p.length → rd t j = rd u j := fun j hj => (ra.2 j hj).trans (rb.2 j hj).symm
    rcases hx with rfl | rfl
    · have hy' : y = 49 := by
        rcases hy with z | z
        · exact absurd z.symm hxy
        · exact z
      subst hy'
      obtain ⟨P, S, Z, f1, f2⟩ := kd_lt hw hn ht hu eq pn ra.1 rb.1
      rw [f1, f2] at h
      exact absurd h (not_pre (by decide))
    · have hy' : y = 48 := by
        rcases hy with z | z
        · exact z
        · exact absurd z.symm hxy
      subst hy'
      obtain ⟨P, S, Z, f1, f2⟩ := kd_lt hw hn hu ht (fun j hj => (eq j hj).symm) pn rb.1 ra.1
      rw [f1, f2] at h
      exact absurd h (not_pre (by decide))
theorem some_of {w n : Nat} {g t : Tx} {o : Option Tx} (f : FP w n g o) (h : Sx w n g [] t) : ∃ b, o = some b ∧ (∀ c ∈ b, isBit c) ∧ b.length ≤ n ∧ (∀ t, Sx w n g [] t → b <+: t) ∧ ((b.length = n ∧ Sx w n g [] b) ∨ (b.length < n ∧ ∃ t u, Sx w n g [] t ∧ Sx w n g [] u ∧ (b ++ [48]) <+: t ∧ (b ++ [49]) <+: u)) := by
  rcases f with ⟨_, no⟩ | z
  · exact absurd h (no t)
  · exact z
/-- the code itself tells its row -/
theorem find_self {w n : Nat} {t : Tx} (hw : 0 < w) (hn : n ≤ 256) (ht : t.length = n) (tb : ∀ c ∈ t, isBit c) : p_find_prefix (w : Int) (n : Int) (kd w t) = .ok (some t) := by
  obtain ⟨_, _, kb, kl, _⟩ := kd_ok t hw (by omega)
  obtain ⟨o, eo, fo⟩ := find_ok (w := w) (n := n) (g := kd w t) hw hn kb (by omega)
  have only : ∀ u, Sx w n (kd w t) [] u → t = u := fun u h => kd_pre hw hn ht h.1 tb h.2.1 h.2.2.2
  obtain ⟨b, rfl, _, _, _, fin⟩ := some_of fo ⟨ht, tb, List.nil_prefix, List.prefix_rfl⟩
  rcases fin with ⟨_, h⟩ | ⟨_, x, y, h1, h2, h3, h4⟩
  · rw [eo, only b h]
  · have e1 := only x h1
    have e2 := only y h2
    rw [← e1] at h3
    rw [← e2] at h4
    have c0 := pre_get h3 (i := b.length) (by simp)
    have c1 := pre_get h4 (i := b.length) (by simp)
    rw [c0] at c1
    simp at c1
theorem find_more {w n : Nat} {t : Tx} (hw : 0 < w) (hn : n ≤ 256) (ht : t.length = n) (tb : ∀ c ∈ t, isBit c) {c : Nat} (hc : isBit c) : p_find_prefix (w : Int) (n : Int) (kd w t ++ [c]) = .ok none := by
  obtain ⟨_, _, kb, kl, _⟩ := kd_ok t hw (by omega)
  have gb : ∀ x ∈ kd w t ++ [c], isBit x := fun x hx => by
    rcases List.mem_append.mp hx with hx | hx
    · exact kb x hx
    · rw [List.mem_singleton.mp hx]
      exact hc
  obtain ⟨o, eo, fo⟩ := find_ok (w := w) (n := n) (g := kd w t ++ [c]) hw hn gb (by simp; omega)
  have no : ∀ u, ¬ Sx w n (kd w t ++ [c]) [] u := fun u h => by
    have p1 : kd w t <+: kd w u := (List.prefix_append _ _).trans h.2.2.2
    have e := kd_pre hw hn ht h.1 tb h.2.1 p1
    have l := h.2.2.2.length_le
    rw [← e] at l
    simp at l
    omega
  rw [eo]
  rcases fo with ⟨rfl, _⟩ | ⟨b, _, _, _, _, fin⟩
  · rfl
  · rcases fin with ⟨_, h⟩ | ⟨_, x, y, h1, _⟩
    · exact absurd h (no b)
    · exact absurd h1 (no x)
end C
/-! PA: the rows whose codes begin so, in order; their number, the first one. -/
namespace C
open R
def l_beginning (box : (List Int × Int)) (width : Int) (bits_here : Tx) : Res (Tx × (List Int × Int)) :=
  (l_code width bits_here).bind fun code_here => (l_draw box (8 : Int)).bind fun r3 => if decide (r3.1 = (0 : Int)) then (l_draw r3.2 (2 : Int)).bind fun r4 => (strI r4.1).bind fun v5 => (cat code_here v5).bind fun v6 => Res.ok (v6, r4.2) else if decide (r3.1 = (1 : Int)) then (l_draw r3.2 (9 : Int)).bind fun r7 => l_bits r7.2 r7.1 else if decide (r3.1 = (2 : Int)) then Res.ok (code_here, r3.2) else (l_draw r3.2 ((code_here.length : Int) + (1 : Int))).bind fun r9 => Res.ok ((cut code_here none (some r9.1)), r9.2)

def l_all_bits (many : Int) : Res (List Tx) :=
  (shl (1 : Int) many).bind fun v1 => (rng 0 v1).bind fun xs2 => mapC (fun x3 => l_binary x3 many) xs2

def p_rank_among (width : Int) (code : Tx) (bits : Tx) : Res Int :=
  (p_digits_value bits).bind fun v1 => (p_first_possible width (bits.length : Int) code).bind fun v2 => (unopt v2).bind fun v3 => (p_digits_value v3).bind fun v4 => Res.ok (v1 - v4)

def p_possible_at (width : Int) (count : Int) (code : Tx) (number : Int) : Res Tx :=
  (p_first_possible width count code).bind fun v1 => (unopt v1).bind fun v2 => (p_digits_value v2).bind fun v3 => p_digits_text (v3 + number) count

theorem begin_ok {b : List Int × Int} (hb : BoxOk b) (w : Int) {t c : Tx} (h : l_code w t = .ok c) (hc : c.length ≤ 300) (hcb : ∀ x ∈ c, isBit x) : ∃ g b', l_beginning b w t = .ok (g, b') ∧ BoxOk b' ∧ g.length ≤ 301 ∧ ∀ x ∈ g, isBit x := by
  unfold l_beginning
  rw [h, Res.ok_bind]
  obtain ⟨r1, b1, e1, r10, r11, hb1⟩ := l_draw_ok hb (many := 8) (by decide)
  rw [e1, Res.ok_bind]
  by_cases q0 : r1 = 0
  · rw [if_pos (decide_eq_true q0)]
    obtain ⟨r2, b2, e2, r20, r21, hb2⟩ := l_draw_ok hb1 (many := 2) (by decide)
    obtain ⟨ch, ec, hch⟩ := strI_bit r20 r21
    rw [e2, Res.ok_bind, ec, Res.ok_bind, cat_ok (by rw [line_val]; simp; omega), Res.ok_bind]
    refine ⟨_, _, rfl, hb2, by simp; omega, fun x hx => ?_⟩
    rcases List.mem_append.mp hx with hx | hx
    · exact hcb x hx
    · rw [List.mem_singleton.mp hx]
      exact hch
  · rw [if_neg (by simpa using q0)]
    by_cases q1 : r1 = 1
    · rw [if_pos (decide_eq_true q1)]
      obtain ⟨r2, b2, e2, r20, r21, hb2⟩ := l_draw_ok hb1 (many := 9) (by decide)
      obtain ⟨n, rfl⟩ : ∃ n : Nat, r2 = (n : Int) := ⟨r2.toNat, by omega⟩
      obtain ⟨g, b4, e4, gl, gb, hb4⟩ := l_bits_ok hb2 (many := n) (by omega)
      rw [e2, Res.ok_bind, e4]
      exact ⟨_, _, rfl, hb4, by omega, gb⟩
    · rw [if_neg (by simpa using q1)]
      by_cases q2 : r1 = 2
      · rw [if_pos (decide_eq_true q2)]
        exact ⟨_, _, rfl, hb1, by omega, hcb⟩
      · rw [if_neg (by simpa using q2)]
        obtain ⟨r2, b2, e2, r20, r21, hb2⟩ := l_draw_ok hb1 (many := (c.length : Int) + 1) (by omega)
        rw [e2, Res.ok_bind]
        refine ⟨_, _, rfl, hb2, ?_, fun x hx => ?_⟩
        · unfold cut
          rw [List.length_take, List.length_drop]
          omega
        · unfold cut at hx
          exact hcb x (List.mem_of_mem_drop (List.mem_of_mem_take hx))
theorem all_bits_ok (n : Nat) (hn : n ≤ 20) : l_all_bits (n : Int) = .ok ((List.range (2 ^ n)).map fun v => dg v n) := by
  unfold l_all_bits
  have p : (2 : Nat) ^ n ≤ 2 ^ 20 := Nat.pow_le_pow_right (by decide) hn
  have e : ((2 : Int) ^ n) = ((2 ^ n : Nat) : Int) := by rw [Int.natCast_pow]; rfl
  rw [shl_one (by omega), Res.ok_bind, e, rng_nat (by omega), Res.ok_bind, mapC_ok (g := fun x : Int => dg x.toNat n) (fun x hx => by
    obtain ⟨v, _, rfl⟩ := List.mem_map.mp hx
    rw [l_binary_ok v n (by omega), Int.toNat_natCast]) (by rw [List.length_map, List.length_range, line_val]; omega), List.map_map]
  rfl
/-- all rows whose codes begin so, in order -/
def poss (w n : Nat) (g : Tx) : List Tx := ((List.range (2 ^ n)).map fun v => dg v n).filter fun t => starts (kd w t) g
theorem row_dg (v n : Nat) : Row n (dg v n) := ⟨dg_len v n, dg_bits v n⟩
theorem mem_poss {w n : Nat} {g t : Tx} : t ∈ poss w n g ↔ Row n t ∧ g <+: kd w t := by
  unfold poss
  rw [List.mem_filter, starts_iff, List.mem_map]
  constructor
  · rintro ⟨⟨v, _, rfl⟩, h⟩
    exact ⟨row_dg v n, h⟩
  · rintro ⟨h, g⟩
    refine ⟨⟨vl t, List.mem_range.mpr ?_, dg_vl n t h.1 h.2⟩, g⟩
    have := vl_lt t
    rw [h.1] at this
    exact this
theorem filter_run (N a c : Nat) (P : Nat → Bool) (h : a + c ≤ N) (hp : ∀ v, v < N → (P v = true ↔ a ≤ v ∧ v < a + c)) : (List.range N).filter P = (List.range c).map (a + ·) := by
  obtain ⟨d, rfl⟩ : ∃ d, N = a + (c + d) := ⟨N - a - c, by omega⟩
  rw [List.range_add, List.range_add, List.map_append, List.filter_append, List.filter_append]
  have f1 : (List.range a).filter P = [] := List.filter_eq_nil_iff.mpr fun v hv z => by
    have l := List.mem_range.mp hv
    have := (hp v (by omega)).mp z
    omega
  have f2 : ((List.range c).map (a + ·)).filter P = (List.range c).map (a + ·) := List.filter_eq_self.mpr fun v hv => by
    obtain ⟨i, hi, rfl⟩ := List.mem_map.mp hv
    have l := List.mem_range.mp hi
    exact (hp _ (by omega)).mpr ⟨by omega, by omega⟩
  have f3 : ((List.map (a + ·) (List.map (c + ·) (List.range d)))).filter P = [] := List.filter_eq_nil_iff.mpr fun v hv z => by
    obtain ⟨i, hi, rfl⟩ := List.mem_map.mp hv
    obtain ⟨j, hj, rfl⟩ := List.mem_map.mp hi
    have l := List.mem_range.mp hj
    have := (hp _ (by omega)).mp z
    omega
  rw [f1, f2, f3, List.nil_append, List.append_nil]
section
variable {w n : Nat} {g : Tx}
theorem poss_run (hw : 0 < w) (hn : n ≤ 256) (hgb : ∀ c ∈ g, isBit c) {f l : Tx} (e : Ends w n g f l) : vl f ≤ vl l ∧ vl l < 2 ^ n ∧ poss w n g = (List.range (vl l - vl f + 1)).map fun i => dg (vl f + i) n := by
  obtain ⟨rf, rl, gf, gl, lo, hi⟩ := e
  have le := lo l rl gl
  have lt : vl l < 2 ^ n := by
    have := vl_lt l
    rw [rl.1] at this
    exact this
  refine ⟨le, lt, ?_⟩
  unfold poss
  rw [List.filter_map, filter_run (2 ^ n) (vl f) (vl l - vl f + 1) _ (by omega) (fun v hv => ?_), List.map_map]
  · rfl
  · show starts (kd w (dg v n)) g = true ↔ _
    rw [starts_iff]
    have ev : vl (dg v n) = v := by rw [vl_dg, Nat.mod_eq_of_lt hv]
    constructor
    · intro h
      have a := lo _ (row_dg v n) h
      have b := hi _ (row_dg v n) h
      rw [ev] at a b
      omega
    · intro h
      exact between hw hn hgb rf (row_dg v n) rl (by rw [ev]; omega) (by rw [ev]; omega) gf gl
theorem poss_none (h : ∀ t, ¬ (Row n t ∧ g <+: kd w t)) : poss w n g = [] := by
  cases e : poss w n g with
  | nil => rfl
  | cons x xs => exact absurd (mem_poss.mp (by rw [e]; exact List.mem_cons_self)) (h x)
/-- the number and the first one -/
theorem both_ok (hw : 0 < w) (hw2 : w ≤ 16) (hn : n ≤ 255) (hgb : ∀ c ∈ g, isBit c) (hgl : g.length ≤ 400) : (p_count_possible (w : Int) (n : Int) g = .ok 0 ∧ p_first_possible (w : Int) (n : Int) g = .ok none ∧ ∀ t, ¬ (Row n t ∧ g <+: kd w t)) ∨ ∃ f l, p_count_possible (w : Int) (n : Int) g = .ok ((vl l : Int) - (vl f : Int) + 1) ∧ p_first_possible (w : Int) (n : Int) g = .ok (some f) ∧ Ends w n g f l := by
  rcases count_ok hw hw2 (n := n) (by omega) hgb hgl with ⟨c, no⟩ | ⟨f, l, c, e⟩
  · rcases first_ok' hw hw2 hn hgb hgl with ⟨p, _⟩ | ⟨f, _, r, q, _⟩
    · exact .inl ⟨c, p, no⟩
    · exact absurd ⟨r, q⟩ (no f)
  · rcases first_ok' hw hw2 hn hgb hgl with ⟨_, no⟩ | ⟨f', p, r, q, lo⟩
    · exact absurd ⟨e.1, e.2.2.1⟩ (no f)
    · have : f' = f := row_inj r e.1 (Nat.le_antisymm (lo f e.1 e.2.2.1) (e.2.2.2.2.1 f' r q))
      exact .inr ⟨f, l, c, by rw [p, this], e⟩
theorem rank_ok {f t : Tx} (h : p_first_possible (w : Int) (n : Int) g = .ok (some f)) (ht : t.length = n) : p_rank_among (w : Int) g t = .ok ((vl t : Int) - (vl f : Int)) := by
  unfold p_rank_among
  have u : unopt (some f) = .ok f := rfl
  rw [digits_value_ok, Res.ok_bind, ht, h, Res.ok_bind, u, Res.ok_bind, digits_value_ok, Res.ok_bind]
theorem at_ok {f : Tx} {k : Nat} (h : p_first_possible (w : Int) (n : Int) g = .ok (some f)) (hn : n ≤ 256) : p_possible_at (w : Int) (n : Int) g (k : Int) = .ok (dg (vl f + k) n) := by
  unfold p_possible_at
  have u : unopt (some f) = .ok f := rfl
  rw [h, Res.ok_bind, u, Res.ok_bind, digits_value_ok, Res.ok_bind]
  exact digits_text_ok (vl f + k) n (by omega)
end
end C
/-! PJ: the common beginning of rows; known, pick, sample. -/
namespace C
open R
def l_common (rows : (List Tx)) : Res Tx :=
  (idx rows (0 : Int)).bind fun first => withCtl ((rng 0 (first.length : Int)).bind fun xs2 => loop (B := Tx) (fun (x3 : Int) (s4 : Unit) => thenCtl (loop (B := Tx) (fun (x5 : Tx) (s6 : Unit) => ((idx x5 x3).bind fun v7 => (idx first x3).bind fun v8 => Res.ok (!decide ([v7] = [v8]))).bind fun b9 => if b9 then (Res.ok (cut first none (some x3))).bind fun a => Res.ok (.ret a) else Res.ok (.nx ())) rows () : Res (Ctl (Unit) Tx)) fun s6 => Res.ok (.nx ())) xs2 () : Res (Ctl (Unit) Tx)) fun s4 => Res.ok first

def p_known (width : Int) (count : Int) (code : Tx) : Res (Option Tx) :=
  (p_known_prefix width count code).bind fun bits => if bits.isNone then Res.ok none else (unopt bits).bind fun v2 => (unopt bits).bind fun v3 => (rep (tx "?") (count - (v3.length : Int))).bind fun v4 => (cat v2 v4).bind fun v5 => Res.ok (some v5)

def p_pick (width : Int) (count : Int) (code : Tx) (place : Int) (bit : Tx) : Res (Option Tx) :=
  (p_find_prefix width count code).bind fun bits => (if bits.isNone then Res.ok true else (unopt bits).bind fun v2 => Res.ok (decide ((v2.length : Int) = count))).bind fun b11 => if b11 then Res.ok bits else ((unopt bits).bind fun v4 => Res.ok ((count - (v4.length : Int)) - (1 : Int))).bind fun more => ((unopt bits).bind fun v5 => p_last_with_zero v5 more).bind fun low => (idx low place).bind fun v7 => (if decide ([v7] = bit) then Res.ok low else (unopt bits).bind fun v8 => p_first_with_one v8 more).bind fun v10 => Res.ok (some v10)

def p_sample (width : Int) (count : Int) (code : Tx) (place : Int) (bit : Tx) : Res (Option Tx) :=
  (p_check_width width).bind fun _ => (p_check_count count).bind fun _ => (p_check_code code).bind fun _ => if (!(decide ((0 : Int) ≤ place) && decide (place < count))) then Res.exn (.oor (tx "place")) else if ((!decide (bit = (tx "0"))) && (!decide (bit = (tx "1")))) then Res.exn (.oor (tx "bit")) else p_pick width count code place bit

/-- a loop that leaves in one turn and else goes on -/
theorem loop_some {α S B : Type} {f : α → S → Res (Ctl S B)} {s : S} {r : B} : ∀ {xs : List α}, (∀ x ∈ xs, f x s = .ok (.nx s) ∨ f x s = .ok (.ret r)) → (∃ x ∈ xs, f x s = .ok (.ret r)) → loop f xs s = .ok (.ret r)
  | [], _, ⟨x, hx, _⟩ => nomatch hx
  | x :: xs, h, ⟨y, hy, ey⟩ => by
    rcases h x List.mem_cons_self with e | e
    · rw [loop, e, Res.ok_bind]
      rcases List.mem_cons.mp hy with rfl | hy
      · rw [e] at ey
        cases ey
      · exact loop_some (fun z hz => h z (List.mem_cons_of_mem _ hz)) ⟨y, hy, ey⟩
    · rw [loop, e, Res.ok_bind]
/-- the common beginning of rows -/
theorem common_ok {rows : List Tx} {n : Nat} {b : Tx} (hr : ∀ r ∈ rows, r.length = n ∧ b <+: r) (h0 : 0 < rows.length) (hn : n ≤ 1000) (hd : b.length = n ∨ (b.length < n ∧ ∃ t ∈ rows, ∃ u ∈ rows, (b ++ [48]) <+: t ∧ (b ++ [49]) <+: u)) : l_common rows = .ok b := by
  unfold l_common
  have i0 : idx rows 0 = .ok (rows[0]'h0) := idx_nat (i := 0) h0
  obtain ⟨fl, fb⟩ := hr _ (List.getElem_mem h0)
  rw [i0, Res.ok_bind]
  generalize rows[0]'h0 = fst at *
  have bl : b.length ≤ n := by rw [← fl]; exact fb.length_le
  have same : ∀ i, i < b.length → ∀ r ∈ rows, r[i]? = fst[i]? := fun i hi r h => (pre_get (hr r h).2 hi).trans (pre_get fb hi).symm
  have g : ∀ i (hi : i < ((List.range n).map fun i : Nat => (i : Int)).length), ((List.range n).map fun i : Nat => (i : Int))[i] = (i : Int) := fun i hi => by simp
  have stay : ∀ i, i < b.length → loop (B := Tx) (fun (x5 : Tx) (s6 : Unit) => ((idx x5 (i : Int)).bind fun v7 => (idx fst (i : Int)).bind fun v8 => Res.ok (!decide ([v7] = [v8]))).bind fun b9 => if b9 then (Res.ok (cut fst none (some (i : Int)))).bind fun a => Res.ok (.ret a) else Res.ok (.nx ())) rows () = .ok (.nx ()) := fun i hi => loop_nx fun r h => by
    have l1 : i < r.length := by have := (hr r h).1; omega
    have l2 : i < fst.length := by omega
    have e := same i hi r h
    rw [List.getElem?_eq_getElem l1, List.getElem?_eq_getElem l2] at e
    rw [idx_nat l1, Res.ok_bind, idx_nat l2, Res.ok_bind, Res.ok_bind, Option.some.inj e, decide_eq_true rfl, if_neg (by decide)]
  rw [fl, rng_nat (by omega), Res.ok_bind]
  rcases hd with q | ⟨q, t, ht, u, hu, t0, u1⟩
  · rw [loop_nx]
    · unfold withCtl
      rw [Res.ok_bind]
      have : b = fst := fb.eq_of_length (by omega)
      rw [this]
    · intro x hx
      obtain ⟨i, hi, rfl⟩ := List.mem_map.mp hx
      have hi' := List.mem_range.mp hi
      have st := stay i (by omega)
      exact (congrArg (fun z => thenCtl z _) st).trans rfl
  · have ec : cut fst none (some (b.length : Int)) = b := by
      unfold cut sIx
      dsimp only
      rw [if_neg (by omega), Int.toNat_natCast, Nat.min_eq_left (by omega), List.drop_zero, Nat.sub_zero]
      exact (List.prefix_iff_eq_take.mp fb).symm
    rw [loop_ret (r := b) b.length (by simpa using q)]
    · rfl
    · intro i hi hd
      rw [g]
      exact (congrArg (fun z => thenCtl z _) (stay i hd)).trans rfl
    · rw [g]
      have lv : loop (B := Tx) (fun (x5 : Tx) (s6 : Unit) => ((idx x5 (b.length : Int)).bind fun v7 => (idx fst (b.length : Int)).bind fun v8 => Res.ok (!decide ([v7] = [v8]))).bind fun b9 => if b9 then (Res.ok (cut fst none (some (b.length : Int)))).bind fun a => Res.ok (.ret a) else Res.ok (.nx ())) rows () = .ok (.ret b) := by
        have l2 : b.length < fst.length := by omega
        have one : ∀ r ∈ rows, (fun (x5 : Tx) (s6 : Unit) => (((idx x5 (b.length : Int)).bind fun v7 => (idx fst (b.length : Int)).bind fun v8 => Res.ok (!decide ([v7] = [v8]))).bind fun b9 => if b9 then (Res.ok (cut fst none (some (b.length : Int)))).bind fun a => Res.ok (.ret a) else Res.ok (.nx ()) : Res (Ctl Unit Tx))) r () = if r[b.length]? = fst[b.length]? then .ok (.nx ()) else .ok (.ret b) := fun r h => by
          have l1 : b.length < r.length := by have := (hr r h).1; omega
          dsimp only
          rw [idx_nat l1, Res.ok_bind, idx_nat l2, Res.ok_bind, Res.ok_bind, List.getElem?_eq_getElem l1, List.getElem?_eq_getElem l2]
          by_cases z : r[b.length] = fst[b.length]
          · rw [z, decide_eq_true rfl, if_neg (by decide), if_pos rfl]
          · rw [decide_eq_false (fun y => z (by injection y)), if_pos (by decide), ec, if_neg (fun y => z (Option.some.inj y)), Res.ok_bind]
        refine loop_some (fun r h => ?_) ?_
        · by_cases z : r[b.length]? = fst[b.length]?
          · exact .inl ((one r h).trans (if_pos z))
          · exact .inr ((one r h).trans (if_neg z))
        · have ct : t[b.length]? = some 48 := by
            rw [pre_get t0 (by simp)]
            simp
          have cu : u[b.length]? = some 49 := by
            rw [pre_get u1 (by simp)]
            simp
          by_cases z : t[b.length]? = fst[b.length]?
          · refine ⟨u, hu, ?_⟩
            exact (one u hu).trans (if_neg (by rw [cu, ← z, ct]; decide))
          · refine ⟨t, ht, ?_⟩
            exact (one t ht).trans (if_neg z)
      exact (congrArg (fun z => thenCtl z _) lv).trans rfl

/-- the known prefix as a value -/
def fpx (w n : Nat) (g : Tx) : Option Tx :=
  match p_find_prefix (w : Int) (n : Int) g with
  | .ok o => o
  | _ => none
section
variable {w n : Nat} {g : Tx}
theorem fpx_ok (hw : 0 < w) (hn : n ≤ 256) (hgb : ∀ c ∈ g, isBit c) (hgl : g.length ≤ 3000) : p_find_prefix (w : Int) (n : Int) g = .ok (fpx w n g) ∧ FP w n g (fpx w n g) := by
  obtain ⟨o, e, h⟩ := find_ok (w := w) (n := n) hw hn hgb hgl
  have : fpx w n g = o := by
    unfold fpx
    rw [e]
  rw [this]
  exact ⟨e, h⟩
theorem known_ok (hw : 0 < w) (hw2 : w ≤ 16) (hn : n ≤ 256) (hgb : ∀ c ∈ g, isBit c) (hgl : g.length ≤ 400) : p_known (w : Int) (n : Int) g = .ok ((fpx w n g).map fun b => b ++ List.replicate (n - b.length) 63) := by
  obtain ⟨e, h⟩ := fpx_ok (n := n) hw hn hgb (by omega)
  unfold p_known
  rw [prefix_ok hw hw2 hn hgl, e, Res.ok_bind]
  generalize fpx w n g = o at *
  cases o with
  | none => rfl
  | some b =>
    obtain ⟨h, _⟩ | ⟨b', h, _, bl, _⟩ := h
    · cases h
    · cases h
      have u : unopt (some b) = .ok b := rfl
      have t63 : tx "?" = [63] := rfl
      have em : (n : Int) - (b.length : Int) = ((n - b.length : Nat) : Int) := by omega
      rw [if_neg (show ¬ (some b).isNone = true from (by show ¬ false = true; decide)), u, Res.ok_bind, Res.ok_bind, t63, em, rep_one 63 _ (by rw [line_val]; omega), Res.ok_bind, cat_ok (by rw [line_val, List.length_replicate]; omega), Res.ok_bind]
      rfl
/-- the last row that goes on with 0, the first that goes on with 1 -/
def lowR (n : Nat) (b : Tx) : Tx := (b ++ [48]) ++ List.replicate (n - b.length - 1) 49
def highR (n : Nat) (b : Tx) : Tx := (b ++ [49]) ++ List.replicate (n - b.length - 1) 48
def pkx (w n : Nat) (g : Tx) (place : Nat) (c : Nat) : Option Tx := (fpx w n g).map fun b => if b.length = n then b else if (lowR n b).getD place 0 = c then lowR n b else highR n b
theorem pick_ok (hw : 0 < w) (hn : n ≤ 256) (hgb : ∀ c ∈ g, isBit c) (hgl : g.length ≤ 3000) {j c : Nat} (hj : j < n) : p_pick (w : Int) (n : Int) g (j : Int) [c] = .ok (pkx w n g j c) := by
  obtain ⟨e, h⟩ := fpx_ok (n := n) hw hn hgb hgl
  unfold p_pick pkx
  rw [e, Res.ok_bind]
  generalize fpx w n g = o at *
  cases o with
  | none => rfl
  | some b =>
    obtain ⟨h, _⟩ | ⟨b', h, _, bl, _⟩ := h
    · cases h
    · cases h
      have u : unopt (some b) = .ok b := rfl
      rw [if_neg (show ¬ (some b).isNone = true from (by show ¬ false = true; decide)), u]
      simp only [Res.ok_bind]
      by_cases q : b.length = n
      · rw [decide_eq_true (by omega), if_pos rfl]
        show _ = Res.ok (some (if b.length = n then b else if (lowR n b).getD j 0 = c then lowR n b else highR n b))
        rw [if_pos q]
      · have em : (n : Int) - (b.length : Int) - 1 = ((n - b.length - 1 : Nat) : Int) := by omega
        have ll : (lowR n b).length = n := by unfold lowR; simp; omega
        rw [if_neg (by rw [decide_eq_true_eq]; omega), em, last_ok b _ (by omega) (by omega), Res.ok_bind]
        show ((idx (lowR n b) (j : Int)).bind _) = _
        rw [idx_nat (by rw [ll]; exact hj), Res.ok_bind]
        have gd : (lowR n b).getD j 0 = (lowR n b)[j]'(by rw [ll]; exact hj) := by
          rw [List.getD_eq_getElem?_getD, List.getElem?_eq_getElem (by rw [ll]; exact hj)]
          rfl
        show _ = Res.ok (some (if b.length = n then b else if (lowR n b).getD j 0 = c then lowR n b else highR n b))
        rw [if_neg q, gd]
        by_cases z : (lowR n b)[j]'(by rw [ll]; exact hj) = c
        · rw [if_pos z, z, decide_eq_true rfl, if_pos rfl, Res.ok_bind]
          rfl
        · rw [if_neg z, decide_eq_false (fun y => z (by injection y)), if_neg (by decide), first_ok b _ (by omega) (by omega), Res.ok_bind]
          rfl
theorem sample_ok (hw : 0 < w) (hw2 : w ≤ 16) (hn : n ≤ 256) (hgb : ∀ c ∈ g, isBit c) (hgl : g.length ≤ 400) {j c : Nat} (hj : j < n) (hc : isBit c) : p_sample (w : Int) (n : Int) g (j : Int) [c] = .ok (pkx w n g j c) := by
  unfold p_sample p_check_width p_check_count p_check_code
  have hb : ((!decide ([c] = tx "0")) && (!decide ([c] = tx "1"))) = false := by
    rcases hc with rfl | rfl <;> rfl
  rw [if_neg (by simp; omega), Res.ok_bind, if_neg (by simp; omega), Res.ok_bind, if_neg (by simp; omega), Res.ok_bind, if_neg (by simp; omega), hb, if_neg (by decide), pick_ok hw hn hgb (by omega) hj]
/-- both rows behind a prefix that is not whole are possible -/
theorem both_rows (hw : 0 < w) (hn : n ≤ 256) (hgb : ∀ c ∈ g, isBit c) {b : Tx} (q : b.length < n) {t u : Tx} (ht : Sx w n g [] t) (hu : Sx w n g [] u) (t0 : (b ++ [48]) <+: t) (u1 : (b ++ [49]) <+: u) : g <+: kd w (lowR n b) ∧ g <+: kd w (highR n b) := by
  have hb6 : b.length ≤ 256 := by omega
  have hA : bN w b * 2 ^ g.length ≤ (vl g + 1) * wN w b := by
    rcases Nat.le_total ((vl g + 1) * wN w b) (bN w b * 2 ^ g.length) with z | z
    · exact absurd hu.2.2.2 (no_one hw hb6 z u1 (by have := hu.1; omega))
    · exact z
  have hB : vl g * wN w b ≤ bN w b * 2 ^ g.length := by
    rcases Nat.le_total (bN w b * 2 ^ g.length) (vl g * wN w b) with z | z
    · exact absurd ht.2.2.2 (no_zero hw hb6 z t0 (by have := ht.1; omega))
    · exact z
  exact ⟨last_zero hw hb6 hgb hA hn q ht.2.1 t0 ht.1 ht.2.2.2, first_one hw hb6 hgb hB hn q hu.2.1 u1 hu.1 hu.2.2.2⟩
theorem low_row {b : Tx} (bb : ∀ c ∈ b, isBit c) (q : b.length < n) : Row n (lowR n b) := ⟨by unfold lowR; simp; omega, bits_rep _ (bits_snoc bb (.inl rfl)) (.inr rfl)⟩
theorem high_row {b : Tx} (bb : ∀ c ∈ b, isBit c) (q : b.length < n) : Row n (highR n b) := ⟨by unfold highR; simp; omega, bits_rep _ (bits_snoc bb (.inr rfl)) (.inl rfl)⟩
/-- what is possible, by the known prefix -/
theorem poss_whole (hw : 0 < w) (hw2 : w ≤ 16) (hn : n ≤ 255) (hgb : ∀ c ∈ g, isBit c) (hgl : g.length ≤ 400) {b : Tx} (h : Sx w n g [] b) (inv : ∀ t, Sx w n g [] t → b <+: t) : poss w n g = [b] := by
  rcases both_ok hw hw2 hn hgb hgl with ⟨_, _, no⟩ | ⟨f, l, _, _, en⟩
  · exact absurd ⟨⟨h.1, h.2.1⟩, h.2.2.2⟩ (no b)
  · obtain ⟨le, lt, e⟩ := poss_run hw (by omega) hgb en
    have ef : b = f := (inv f ⟨en.1.1, en.1.2, List.nil_prefix, en.2.2.1⟩).eq_of_length (by rw [h.1, en.1.1])
    have el : b = l := (inv l ⟨en.2.1.1, en.2.1.2, List.nil_prefix, en.2.2.2.1⟩).eq_of_length (by rw [h.1, en.2.1.1])
    rw [e, ← ef, ← el, Nat.sub_self]
    show [dg (vl b + 0) n] = [b]
    exact congrArg (fun x => [x]) (dg_vl n b h.1 h.2.1)
end
end C
namespace K25
open R C
def l_due (possible : (List Tx)) (place : Int) (bit : Tx) : Res (Option Tx) :=
  if decide ((possible.length : Int) = (0 : Int)) then Res.ok none else if decide ((possible.length : Int) = (1 : Int)) then (idx possible (0 : Int)).bind fun v1 => Res.ok (some v1) else (l_common possible).bind fun prefix_ => ((idx possible (0 : Int)).bind fun v3 => Res.ok (((v3.length : Int) - (prefix_.length : Int)) - (1 : Int))).bind fun more => ((cat prefix_ (tx "0")).bind fun v4 => (rep (tx "1") more).bind fun v5 => cat v4 v5).bind fun low => ((idx low place).bind fun v7 => Res.ok (decide ([v7] = bit))).bind fun b11 => if b11 then Res.ok (some low) else (cat prefix_ (tx "1")).bind fun v8 => (rep (tx "0") more).bind fun v9 => (cat v8 v9).bind fun v10 => Res.ok (some v10)

def law (script : (List Int)) : Res Bool :=
  ((l_digits script (0 : Int) (63 : Int)).bind fun v1 => Res.ok (v1, (0 : Int))).bind fun box => ((l_draw box (4 : Int)).bind fun r2 => Res.ok (((1 : Int) + r2.1), r2.2)).bind fun r3 => ((l_draw r3.2 (6 : Int)).bind fun r4 => Res.ok (((1 : Int) + r4.1), r4.2)).bind fun r5 => ((l_bits r5.2 r5.1).bind fun r6 => l_beginning r6.2 r3.1 r6.1).bind fun r8 => ((l_all_bits r5.1).bind fun v9 => filC (fun x10 => (l_code r3.1 x10).bind fun v11 => Res.ok (starts v11 r8.1)) (fun x10 => Res.ok x10) v9).bind fun possible => withCtl ((rng 0 r5.1).bind fun xs13 => loop (B := Bool) (fun (x14 : Int) (s15 : Unit) => thenCtl (loop (B := Bool) (fun (x16 : Tx) (s17 : Unit) => (p_sample r3.1 r5.1 r8.1 x14 x16).bind fun actual => (l_due possible x14 x16).bind fun due_here => thenCtl (if due_here.isNone then if actual.isSome then (Res.ok false).bind fun a => Res.ok (.ret a) else Res.ok (.nx ()) else thenCtl ((if (!(Option.elim actual false (fun _ => true))) then Res.ok true else if (!decide (actual = due_here)) then Res.ok true else (unopt actual).bind fun v20 => Res.ok (!(inL v20 possible))).bind fun b31 => if b31 then (Res.ok false).bind fun b => Res.ok (.ret b) else ((unopt actual).bind fun v23 => (idx v23 x14).bind fun v24 => if (!decide ([v24] = x16)) then (mapC (fun x25 => (idx x25 x14).bind fun v26 => Res.ok [v26]) possible : Res (List Tx)).bind fun v27 => Res.ok (inL x16 v27) else Res.ok false).bind fun b29 => if b29 then (Res.ok false).bind fun a => Res.ok (.ret a) else Res.ok (.nx ()) : Res (Ctl (Unit) Bool)) fun s30 => Res.ok (.nx ()) : Res (Ctl (Unit) Bool)) fun s32 => Res.ok (.nx ())) ([(tx "0"), (tx "1")] : List Tx) () : Res (Ctl (Unit) Bool)) fun s17 => Res.ok (.nx ())) xs13 () : Res (Ctl (Unit) Bool)) fun s15 => Res.ok true
end K25
namespace K25
open R C
section
variable {w n : Nat} {g : Tx}
theorem due_ok (hw : 0 < w) (hw2 : w ≤ 16) (hn : n ≤ 255) (hgb : ∀ c ∈ g, isBit c) (hgl : g.length ≤ 400) {j c : Nat} (hj : j < n) (hc : isBit c) : l_due (poss w n g) (j : Int) [c] = .ok (pkx w n g j c) ∧ ∀ a, pkx w n g j c = some a → a.length = n ∧ a ∈ poss w n g ∧ (a.getD j 0 ≠ c → ∀ r ∈ poss w n g, r.getD j 0 ≠ c) := by
  obtain ⟨e, h⟩ := fpx_ok (n := n) hw (by omega) hgb (by omega)
  have toS : ∀ t, t ∈ poss w n g → Sx w n g [] t := fun t h => by
    obtain ⟨h1, h2⟩ := mem_poss.mp h
    exact ⟨h1.1, h1.2, List.nil_prefix, h2⟩
  have ofS : ∀ t, Sx w n g [] t → t ∈ poss w n g := fun t h => mem_poss.mpr ⟨⟨h.1, h.2.1⟩, h.2.2.2⟩
  unfold l_due pkx
  rcases h with ⟨h, no⟩ | ⟨b, h, bb, bl, inv, fin⟩
  · rw [h, poss_none fun t z => no t ⟨z.1.1, z.1.2, List.nil_prefix, z.2⟩]
    exact ⟨rfl, fun a z => by cases z⟩
  · rw [h]
    rcases fin with ⟨q, hb⟩ | ⟨q, t, u, ht, hu, t0, u1⟩
    · rw [poss_whole hw hw2 hn hgb hgl hb inv]
      have e : (Option.map (fun b : Tx => if b.length = n then b else if (lowR n b).getD j 0 = c then lowR n b else highR n b) (some b)) = some b := by
        show some (if b.length = n then b else if (lowR n b).getD j 0 = c then lowR n b else highR n b) = some b
        rw [if_pos q]
      rw [e]
      refine ⟨rfl, fun a z => ?_⟩
      cases z
      exact ⟨q, List.mem_singleton_self _, fun h r hr => by rw [List.mem_singleton.mp hr]; exact h⟩
    · have mt := ofS t ht
      have mu := ofS u hu
      have ne : t ≠ u := fun z => by
        have c0 := pre_get t0 (i := b.length) (by simp)
        have c1 := pre_get u1 (i := b.length) (by simp)
        rw [z, c1] at c0
        simp at c0
      have l2 : 2 ≤ (poss w n g).length := by
        cases hp : poss w n g with
        | nil => rw [hp] at mt; cases mt
        | cons x xs =>
          cases xs with
          | nil =>
            rw [hp] at mt mu
            exact absurd ((List.mem_singleton.mp mt).trans (List.mem_singleton.mp mu).symm) ne
          | cons y ys => simp
      have cm : l_common (poss w n g) = .ok b := common_ok (n := n) (fun r h => ⟨(toS r h).1, inv r (toS r h)⟩) (by omega) (by omega) (.inr ⟨q, t, mt, u, mu, t0, u1⟩)
      have e : (Option.map (fun b : Tx => if b.length = n then b else if (lowR n b).getD j 0 = c then lowR n b else highR n b) (some b)) = some (if (lowR n b).getD j 0 = c then lowR n b else highR n b) := by
        show some (if b.length = n then b else if (lowR n b).getD j 0 = c then lowR n b else highR n b) = _
        rw [if_neg (by omega)]
      rw [e]
      obtain ⟨gL, gH⟩ := both_rows hw (by omega) hgb q ht hu t0 u1
      have rL := low_row bb q
      have rH := high_row bb q
      have i0 : idx (poss w n g) 0 = .ok ((poss w n g)[0]'(by omega)) := idx_nat (i := 0) (by omega)
      have f0 : ((poss w n g)[0]'(by omega)).length = n := (toS _ (List.getElem_mem _)).1
      have em : (n : Int) - (b.length : Int) - 1 = ((n - b.length - 1 : Nat) : Int) := by omega
      have t0' : tx "0" = [48] := rfl
      have t1' : tx "1" = [49] := rfl
      have gd : (lowR n b).getD j 0 = (lowR n b)[j]'(by rw [rL.1]; exact hj) := by
        rw [List.getD_eq_getElem?_getD, List.getElem?_eq_getElem (by rw [rL.1]; exact hj)]
        rfl
      constructor
      · rw [if_neg (by rw [decide_eq_true_eq]; omega), if_neg (by rw [decide_eq_true_eq]; omega), cm, Res.ok_bind, i0, Res.ok_bind, f0, em, Res.ok_bind, t0', t1', cat_ok (by rw [line_val]; simp; omega), Res.ok_bind, rep_one 49 _ (by rw [line_val]; omega), Res.ok_bind, cat_ok (by rw [line_val]; simp; omega), Res.ok_bind]
        show ((idx (lowR n b) (j : Int)).bind fun v7 => Res.ok (decide ([v7] = [c]))).bind _ = _
        rw [idx_nat (by rw [rL.1]; exact hj), Res.ok_bind, Res.ok_bind, gd]
        by_cases z : (lowR n b)[j]'(by rw [rL.1]; exact hj) = c
        · rw [if_pos z, z, decide_eq_true rfl, if_pos rfl]
          rfl
        · rw [if_neg z, decide_eq_false (fun y => z (by injection y)), if_neg (by decide), cat_ok (by rw [line_val]; simp; omega), Res.ok_bind, rep_one 48 _ (by rw [line_val]; omega), Res.ok_bind, cat_ok (by rw [line_val]; simp; omega), Res.ok_bind]
          rfl
      · intro a z
        have z' := Option.some.inj z
        by_cases y : (lowR n b).getD j 0 = c
        · rw [if_pos y] at z'
          rw [← z']
          exact ⟨rL.1, mem_poss.mpr ⟨rL, gL⟩, fun h => absurd y h⟩
        · rw [if_neg y] at z'
          rw [← z']
          refine ⟨rH.1, mem_poss.mpr ⟨rH, gH⟩, fun h r hr => ?_⟩
          by_cases jb : j < b.length
          · have bp := inv r (toS r hr)
            have e1 : r.getD j 0 = b.getD j 0 := by
              rw [List.getD_eq_getElem?_getD, List.getD_eq_getElem?_getD, pre_get bp jb]
            have e2 : (lowR n b).getD j 0 = b.getD j 0 := by
              rw [List.getD_eq_getElem?_getD, List.getD_eq_getElem?_getD, pre_get (a := b) (t := lowR n b) ((List.prefix_append _ _).trans (List.prefix_append _ _)) jb]
            rw [e1, ← e2]
            exact y
          · have a1 : (highR n b).getD j 0 = if j = b.length then 49 else 48 := by
              unfold highR
              rw [List.getD_eq_getElem?_getD]
              by_cases k : j = b.length
              · rw [if_pos k, List.getElem?_append_left (by simp; omega), List.getElem?_append_right (by omega), k, Nat.sub_self]
                rfl
              · rw [if_neg k, List.getElem?_append_right (by simp; omega), List.getElem?_replicate, if_pos (by simp; omega)]
                rfl
            have a2 : (lowR n b).getD j 0 = if j = b.length then 48 else 49 := by
              unfold lowR
              rw [List.getD_eq_getElem?_getD]
              by_cases k : j = b.length
              · rw [if_pos k, List.getElem?_append_left (by simp; omega), List.getElem?_append_right (by omega), k, Nat.sub_self]
                rfl
              · rw [if_neg k, List.getElem?_append_right (by simp; omega), List.getElem?_replicate, if_pos (by simp; omega)]
                rfl
            rw [a1] at h
            rw [a2] at y
            exfalso
            by_cases k : j = b.length
            · rw [if_pos k] at h y
              rcases hc with rfl | rfl
              · exact y rfl
              · exact h rfl
            · rw [if_neg k] at h y
              rcases hc with rfl | rfl
              · exact h rfl
              · exact y rfl
end
theorem law_true (ns : List Int) (hns : ns.length ≤ 63) : law ns = .ok true := by
  unfold law
  obtain ⟨ds, ed, _, _⟩ := l_digits_ok ns 0 63 (by decide) (by decide)
  have ed' : C.l_digits ns 0 63 = .ok ds := ed
  rw [ed', Res.ok_bind, Res.ok_bind]
  obtain ⟨r1, b1, e1, r10, r11, hb1⟩ := l_draw_ok (b := (ds, 0)) (Int.le_refl 0) (many := 4) (by decide)
  rw [e1, Res.ok_bind, Res.ok_bind]
  dsimp only
  obtain ⟨w, ew, hw, hw2⟩ : ∃ w : Nat, 1 + r1 = (w : Int) ∧ 0 < w ∧ w ≤ 4 := ⟨(1 + r1).toNat, by omega, by omega, by omega⟩
  rw [ew]
  obtain ⟨r2, b2, e2, r20, r21, hb2⟩ := l_draw_ok hb1 (many := 6) (by decide)
  rw [e2, Res.ok_bind, Res.ok_bind]
  dsimp only
  obtain ⟨n, en, hn, hn0⟩ : ∃ n : Nat, 1 + r2 = (n : Int) ∧ n ≤ 6 ∧ 1 ≤ n := ⟨(1 + r2).toNat, by omega, by omega, by omega⟩
  rw [en]
  obtain ⟨t, b3, e3, hl, hbt, hb3⟩ := l_bits_ok hb2 (many := n) (by omega)
  rw [e3, Res.ok_bind]
  dsimp only
  obtain ⟨k1, k2, k3, k4, k5, _⟩ := kd_ok t hw (by omega)
  obtain ⟨g, b4, e4, _, gl, gb⟩ := begin_ok hb3 (w : Int) k2 (by omega) k3
  rw [e4, Res.ok_bind]
  dsimp only
  have pn : (2 : Nat) ^ n ≤ 2 ^ 6 := Nat.pow_le_pow_right (by decide) hn
  have dl : ∀ v, (dg v n).length ≤ 256 := fun v => by rw [dg_len]; omega
  rw [all_bits_ok n (by omega), Res.ok_bind, filC_ok (b := fun t => starts (kd w t) g) (g := fun x => x) (fun x hx => by
    obtain ⟨v, _, rfl⟩ := List.mem_map.mp hx
    rw [(kd_ok (dg v n) hw (dl v)).2.1, Res.ok_bind]) (fun x hx => rfl) (by rw [List.length_map, List.length_range, line_val]; omega), Res.ok_bind, List.map_id']
  have pe : ((List.map (fun v => dg v n) (List.range (2 ^ n))).filter fun t => starts (kd w t) g) = poss w n g := rfl
  have pl : (poss w n g).length ≤ 64 := by
    unfold poss
    refine Nat.le_trans (List.length_filter_le _ _) ?_
    rw [List.length_map, List.length_range]
    exact pn
  rw [pe, rng_nat (by omega), Res.ok_bind, loop_nx]
  · rfl
  · intro x hx
    obtain ⟨j, hj, rfl⟩ := List.mem_map.mp hx
    have hj := List.mem_range.mp hj
    rw [loop_nx]
    · rfl
    · intro bt hbt
      obtain ⟨c, rfl, hc⟩ : ∃ c, bt = [c] ∧ isBit c := by
        rcases List.mem_cons.mp hbt with rfl | h
        · exact ⟨48, rfl, .inl rfl⟩
        · rw [List.mem_singleton.mp h]
          exact ⟨49, rfl, .inr rfl⟩
      obtain ⟨d1, d2⟩ := due_ok (w := w) (n := n) (g := g) hw (by omega) (by omega) gb (by omega) hj hc
      rw [sample_ok hw (by omega) (by omega) gb (by omega) hj hc, Res.ok_bind, d1, Res.ok_bind]
      cases z : pkx w n g j c with
      | none => rfl
      | some a =>
        obtain ⟨al, am, ab⟩ := d2 a z
        have ia : idx a (j : Int) = .ok (a[j]'(by omega)) := idx_nat (by omega)
        have ga : a.getD j 0 = a[j]'(by omega) := by
          rw [List.getD_eq_getElem?_getD, List.getElem?_eq_getElem (by omega)]
          rfl
        have u : unopt (some a) = .ok a := rfl
        have n0 : (some a).isNone = false := rfl
        have cond : (if (!(Option.elim (some a) false (fun _ => true))) = true then Res.ok true else if (!decide (some a = some a)) = true then Res.ok true else (unopt (some a)).bind fun v20 => Res.ok (!inL v20 (poss w n g))) = Res.ok false := by
          rw [u, Res.ok_bind, inL_true am, decide_eq_true rfl]
          rfl
        rw [cond, u]
        simp only [Res.ok_bind]
        rw [n0, if_neg (by decide), if_neg (by decide), ia, Res.ok_bind]
        have second : (if (!decide ([a[j]'(by omega)] = [c])) = true then (mapC (fun x25 => (idx x25 (j : Int)).bind fun v26 => Res.ok [v26]) (poss w n g)).bind fun v27 => Res.ok (inL [c] v27) else Res.ok false) = Res.ok false := by
          by_cases q : a[j]'(by omega) = c
          · rw [q, decide_eq_true rfl]
            rfl
          · rw [decide_eq_false (fun y => q (by injection y)), if_pos (by decide), mapC_ok (g := fun r : Tx => [r.getD j 0]) (fun r hr => by
              have rl := (mem_poss.mp hr).1.1
              rw [idx_nat (by omega), Res.ok_bind, List.getD_eq_getElem?_getD, List.getElem?_eq_getElem (by omega)]
              rfl) (by rw [line_val]; omega), Res.ok_bind]
            refine congrArg Res.ok (inL_false fun y => ?_)
            obtain ⟨r, hr, e⟩ := List.mem_map.mp y
            exact ab (by rw [ga]; exact q) r hr (by injection e)
        rw [second, Res.ok_bind, if_neg (by decide)]
        rfl
end K25
namespace K25
open PySem L2 R Rt C
def topS (i : Nat) : Stmt := PySem.Challenge.pw_packetpicture_k25_sample_over_all_bits.main.body.getD i (.Pass ⟨0, 0, 0, 0⟩)
structure ClsA where
  none_ : Unit
structure Txt (K : PySem.W.Frag) (CO : ClsA) (T : XT) (mg : Str → Option Value) : Prop where
  b_enumerate : mg "enumerate" = none
  b_int : mg "int" = none
  b_isinstance : mg "isinstance" = none
  b_len : mg "len" = none
  b_range : mg "range" = none
  b_reversed : mg "reversed" = none
  b_str : mg "str" = none
  g_WIDTH_MOST : ∃ u, mg "WIDTH_MOST" = some u ∧ RelV (.int 16) u
  g_BITS_MOST : ∃ u, mg "BITS_MOST" = some u ∧ RelV (.int 256) u
  g_CODE_MOST : ∃ u, mg "CODE_MOST" = some u ∧ RelV (.int 400) u
abbrev s_oor : Stmt := inClass (topS 2) 0
theorem sc_oor : FnScope ["self", "name"] ["self", "name"] (defScope s_oor) := ⟨rfl, rfl, rfl, by decide +kernel, rfl, by decide +kernel, by decide +kernel⟩
section
variable {P : Program} {w : World} {K : PySem.W.Frag} {CO : ClsA} {mg : Str → Option Value} {base : Heap} {T : XT}
abbrev s_l_cell : Stmt := topS 25
abbrev N_l_cell : List Str := ["_law_script", "_law_k"]
theorem sc_l_cell : FnScope N_l_cell ["_law_script", "_law_k"] (defScope s_l_cell) := ⟨rfl, rfl, rfl, by decide +kernel, rfl, by decide +kernel, by decide +kernel⟩
theorem fn_l_cell {f : Addr} {fd : FuncData} (F : Fun K "_law_cell" "_law_cell" s_l_cell f fd) (B : Txt K CO T mg)  : FnOk P w K mg base (L2.CX P w) 1 f fd ["_law_script", "_law_k"] (spM 2 T (aCons (fz (cSq K cInt)) (aCons (fz cInt) aNil)) (fun x => l_cell x.1 x.2.1) (fz cInt)) := by
  refine fn_mk F sc_l_cell rfl fun cdv Ar outer s H E hr tk hp a ha => ?_
  obtain ⟨script, k, _⟩ := a
  have nd := sc_l_cell.nd
  show ∃ ts, SX _ _ _ _ _ _ ts (α := Int) (if decide (k < (script.length : Int)) then idx script k else Res.ok (0 : Int)) _
  exact ⟨_, sx_ifret (et_cmp op_lt (ex_var 1) (fun _ => (ex_callB call_len_seq B.b_len PySem.boot_len (ax_cons (ex_var 0) fun _ => ax_nil) fun _ => b_lenQ)) (fun _ _ => o_lt) (nomark _)) (sx_ret (ex_ix L2.ix_list (ex_var 0) (fun _ => (ex_var 1)) fun _ _ => o_ixQ) (fun _ => rfl)) (sx_ret (ex_int) (fun _ => rfl))⟩

abbrev s_l_digits : Stmt := topS 26
abbrev N_l_digits : List Str := ["_law_script", "_law_first", "_law_last", "_law_digits_here", "_law_k", "_law_cell_here", "_law_turn", "_law_seed"]
theorem sc_l_digits : FnScope N_l_digits ["_law_script", "_law_first", "_law_last"] (defScope s_l_digits) := ⟨rfl, rfl, rfl, by decide +kernel, rfl, by decide +kernel, by decide +kernel⟩
theorem fn_l_digits {f : Addr} {fd : FuncData} (F : Fun K "_law_digits" "_law_digits" s_l_digits f fd) (B : Txt K CO T mg) (k_l_cell : Kn P w K mg base 1 "_law_cell" ["_law_script", "_law_k"] (spM 2 T (aCons (fz (cSq K cInt)) (aCons (fz cInt) aNil)) (fun x => l_cell x.1 x.2.1) (fz cInt))) : FnOk P w K mg base (L2.CX P w) 2 f fd ["_law_script", "_law_first", "_law_last"] (spM 3 T (aCons (fz (cSq K cInt)) (aCons (fz cInt) (aCons (fz cInt) aNil))) (fun x => l_digits x.1 x.2.1 x.2.2.1) (ol cInt)) := by
  refine fn_mk F sc_l_digits rfl fun cdv Ar outer s H E hr tk hp a ha => ?_
  obtain ⟨script, first, last, _⟩ := a
  have nd := sc_l_digits.nd
  show ∃ ts, SX _ _ _ _ _ _ ts (α := (List Int)) ((Res.ok ([] : List Int)).bind fun digits_here => ((rng first last).bind fun xs1 => fold (fun (x2 : Int) (s3 : (List Int)) => (l_cell script x2).bind fun cell_here => (if decide (cell_here < (0 : Int)) then (Res.ok ((1 : Int) - ((2 : Int) * cell_here))).bind fun cell_here => Res.ok cell_here else Res.ok cell_here : Res (Int)).bind fun s5 => (if decide ((1000000000000000000 : Int) ≤ s5) then ((rng 0 (60 : Int)).bind fun xs6 => fold (fun (x7 : Int) (s8 : Int × (List Int)) => (if decide ((0 : Int) < s8.1) then (push s8.2 (s8.1 % (1000 : Int))).bind fun digits_here => (Res.ok (s8.1 / (1000 : Int))).bind fun cell_here => Res.ok (digits_here, cell_here) else Res.ok (s8.2, s8.1) : Res ((List Int) × Int)).bind fun s9 => Res.ok (s9.2, s9.1)) xs6 (s5, s3) : Res (Int × (List Int))).bind fun s8 => Res.ok (s8.1, s8.2) else (Res.ok ((((s5 * (40692 : Int)) + (x2 * (52774 : Int))) + (17 : Int)) % (2147483399 : Int))).bind fun seed => ((rng 0 (12 : Int)).bind fun xs10 => fold (fun (x11 : Int) (s12 : Int × (List Int)) => (Res.ok ((((s12.1 * (40014 : Int)) + ((5 : Int) * x11)) + (3 : Int)) % (2147483563 : Int))).bind fun seed => (push s12.2 ((seed / (1009 : Int)) % (1000 : Int))).bind fun digits_here => Res.ok (seed, digits_here)) xs10 (seed, s3) : Res (Int × (List Int))).bind fun s12 => Res.ok (s5, s12.2) : Res (Int × (List Int))).bind fun s13 => Res.ok s13.2) xs1 digits_here : Res ((List Int))).bind fun s3 => Res.ok s3) _
  exact ⟨_, sx_cons (s1_set (i := 3) (R' := ol cInt) (ex_lst (c := cInt) (lx_nil)) (hN := nd)) fun digits_here => sx_cons (s1_for (s0 := fun _ => digits_here) (f := fun (x2 : Int) (s3 : (List Int)) => (l_cell script x2).bind fun cell_here => (if decide (cell_here < (0 : Int)) then (Res.ok ((1 : Int) - ((2 : Int) * cell_here))).bind fun cell_here => Res.ok cell_here else Res.ok cell_here : Res (Int)).bind fun s5 => (if decide ((1000000000000000000 : Int) ≤ s5) then ((rng 0 (60 : Int)).bind fun xs6 => fold (fun (x7 : Int) (s8 : Int × (List Int)) => (if decide ((0 : Int) < s8.1) then (push s8.2 (s8.1 % (1000 : Int))).bind fun digits_here => (Res.ok (s8.1 / (1000 : Int))).bind fun cell_here => Res.ok (digits_here, cell_here) else Res.ok (s8.2, s8.1) : Res ((List Int) × Int)).bind fun s9 => Res.ok (s9.2, s9.1)) xs6 (s5, s3) : Res (Int × (List Int))).bind fun s8 => Res.ok (s8.1, s8.2) else (Res.ok ((((s5 * (40692 : Int)) + (x2 * (52774 : Int))) + (17 : Int)) % (2147483399 : Int))).bind fun seed => ((rng 0 (12 : Int)).bind fun xs10 => fold (fun (x11 : Int) (s12 : Int × (List Int)) => (Res.ok ((((s12.1 * (40014 : Int)) + ((5 : Int) * x11)) + (3 : Int)) % (2147483563 : Int))).bind fun seed => (push s12.2 ((seed / (1009 : Int)) % (1000 : Int))).bind fun digits_here => Res.ok (seed, digits_here)) xs10 (seed, s3) : Res (Int × (List Int))).bind fun s12 => Res.ok (s5, s12.2) : Res (Int × (List Int))).bind fun s13 => Res.ok s13.2) (Γn := fun (s3 : (List Int)) => [some (fz (cSq K cInt) script), some (fz cInt first), some (fz cInt last), some (ol cInt s3), none, none, none, none]) (ix_range2 (AX.as (ax_cons (ex_var 1) fun _ => ax_cons (ex_var 2) fun _ => ax_nil)) B.b_range) (fun s3 x2 => gx_name (i := 4) nd) (fun x2 s3 => sx_cons (s1_set (i := 5) (R' := fz cInt) (ex_callK k_l_cell hr tk (fun _ => rfl) (ax_cons (ex_var 0) fun _ => ax_cons (ex_var 4) fun _ => ax_nil) (fun _ => arg_cons (arg_cons (arg_nil))) (fun _ => wk_rep rfl)) (hN := nd)) fun cell_here => sx_cons (s1_if (I := fun (s5 : Int) => .nx [some (fz (cSq K cInt) script), some (fz cInt first), some (fz cInt last), some (ol cInt s3), some (fz cInt x2), some (fz cInt s5), none, none]) (et_cmp op_lt (ex_var 5) (fun _ => ex_int) (fun _ _ => o_lt) (nomark _)) (sx_cons (s1_set (i := 5) (R' := fz cInt) (ex_op op_sub (ex_int) (fun _ => (ex_op op_mul (ex_int) (fun _ => (ex_var 5)) fun _ _ => o_mulL)) fun _ _ => o_sub) (hN := nd)) fun cell_here => sx_nil ((wkm [true, true, true, true, true, true, false, false]))) (sx_nil ((wkm [true, true, true, true, true, true, false, false])))) fun s5 => sx_cons (s1_if (I := fun (s13 : Int × (List Int)) => .nx [some (fz (cSq K cInt) script), some (fz cInt first), some (fz cInt last), some (ol cInt s13.2), some (fz cInt x2), some (fz cInt s13.1), none, none]) (et_cmp op_ge (ex_var 5) (fun _ => ex_int) (fun _ _ => o_ge) (nomark _)) (sx_cons (s1_for (s0 := fun _ => (s5, s3)) (f := fun (x7 : Int) (s8 : Int × (List Int)) => (if decide ((0 : Int) < s8.1) then (push s8.2 (s8.1 % (1000 : Int))).bind fun digits_here => (Res.ok (s8.1 / (1000 : Int))).bind fun cell_here => Res.ok (digits_here, cell_here) else Res.ok (s8.2, s8.1) : Res ((List Int) × Int)).bind fun s9 => Res.ok (s9.2, s9.1)) (Γn := fun (s8 : Int × (List Int)) => [some (fz (cSq K cInt) script), some (fz cInt first), some (fz cInt last), some (ol cInt s8.2), some (fz cInt x2), some (fz cInt s8.1), none, none]) (ix_range1 (AX.as (ax_cons (ex_int) fun _ => ax_nil)) B.b_range) (fun s8 x7 => gx_name (i := 6) nd) (fun x7 s8 => sx_cons (s1_if (I := fun (s9 : (List Int) × Int) => .nx [some (fz (cSq K cInt) script), some (fz cInt first), some (fz cInt last), some (ol cInt s9.1), some (fz cInt x2), some (fz cInt s9.2), some (fz cInt x7), none]) (et_cmp op_gt (ex_var 5) (fun _ => ex_int) (fun _ _ => o_gt) (nomark _)) (sx_cons (s1_push (i := 3) (c := cInt) (ex_op op_mod (ex_callTy call_int1 B.b_int PyProof.Rows.boot_int (ax_cons (ex_var 5) fun _ => ax_nil) fun _ => b_int) (fun _ => ex_int) fun _ _ => o_modR)) fun digits_here => sx_cons (s1_set (i := 5) (R' := fz cInt) (ex_op op_fdiv (ex_var 5) (fun _ => ex_int) fun _ _ => o_fdivR) (hN := nd)) fun cell_here => sx_nil ((wkm [true, true, true, true, true, true, true, false]))) (sx_nil ((wkm [true, true, true, true, true, true, true, false])))) fun s9 => sx_nil ((wkm [true, true, true, true, true, true, false, false]))) (fun _ => (wkm [true, true, true, true, true, true, false, false])) hp) fun s8 => sx_nil ((wkm [true, true, true, true, true, true, false, false]))) (sx_cons (s1_set (i := 7) (R' := fz cInt) (ex_op op_mod (ex_callTy call_int1 B.b_int PyProof.Rows.boot_int (ax_cons (ex_op op_add (ex_op op_add (ex_op op_mul (ex_var 5) (fun _ => ex_int) fun _ _ => o_mulR) (fun _ => (ex_op op_mul (ex_var 4) (fun _ => ex_int) fun _ _ => o_mulR)) fun _ _ => o_add) (fun _ => ex_int) fun _ _ => o_add) fun _ => ax_nil) fun _ => b_int) (fun _ => ex_int) fun _ _ => o_modR) (hN := nd)) fun seed => sx_cons (s1_for (s0 := fun _ => (seed, s3)) (f := fun (x11 : Int) (s12 : Int × (List Int)) => (Res.ok ((((s12.1 * (40014 : Int)) + ((5 : Int) * x11)) + (3 : Int)) % (2147483563 : Int))).bind fun seed => (push s12.2 ((seed / (1009 : Int)) % (1000 : Int))).bind fun digits_here => Res.ok (seed, digits_here)) (Γn := fun (s12 : Int × (List Int)) => [some (fz (cSq K cInt) script), some (fz cInt first), some (fz cInt last), some (ol cInt s12.2), some (fz cInt x2), some (fz cInt s5), none, some (fz cInt s12.1)]) (ix_range1 (AX.as (ax_cons (ex_int) fun _ => ax_nil)) B.b_range) (fun s12 x11 => gx_name (i := 6) nd) (fun x11 s12 => sx_cons (s1_set (i := 7) (R' := fz cInt) (ex_op op_mod (ex_callTy call_int1 B.b_int PyProof.Rows.boot_int (ax_cons (ex_op op_add (ex_op op_add (ex_op op_mul (ex_var 7) (fun _ => ex_int) fun _ _ => o_mulR) (fun _ => (ex_op op_mul (ex_int) (fun _ => (ex_var 6)) fun _ _ => o_mulL)) fun _ _ => o_add) (fun _ => ex_int) fun _ _ => o_add) fun _ => ax_nil) fun _ => b_int) (fun _ => ex_int) fun _ _ => o_modR) (hN := nd)) fun seed => sx_cons (s1_push (i := 3) (c := cInt) (ex_op op_mod (ex_callTy call_int1 B.b_int PyProof.Rows.boot_int (ax_cons (ex_op op_fdiv (ex_var 7) (fun _ => ex_int) fun _ _ => o_fdivR) fun _ => ax_nil) fun _ => b_int) (fun _ => ex_int) fun _ _ => o_modR)) fun digits_here => sx_nil ((wkm [true, true, true, true, true, true, false, true]))) (fun _ => (wkm [true, true, true, true, true, true, false, true])) hp) fun s12 => sx_nil ((wkm [true, true, true, true, true, true, false, false])))) fun s13 => sx_nil ((wkm [true, true, true, true, false, false, false, false]))) (fun _ => (wkm [true, true, true, true, false, false, false, false])) hp) fun s3 => sx_ret (ex_mv 3) (fun _ => rfl)⟩

abbrev s_l_draw : Stmt := topS 27
abbrev N_l_draw : List Str := ["_law_box", "_law_many", "_law_at"]
theorem sc_l_draw : FnScope N_l_draw ["_law_box", "_law_many"] (defScope s_l_draw) := ⟨rfl, rfl, rfl, by decide +kernel, rfl, by decide +kernel, by decide +kernel⟩
theorem fn_l_draw {f : Addr} {fd : FuncData} (F : Fun K "_law_draw" "_law_draw" s_l_draw f fd) (B : Txt K CO T mg)  : FnOk P w K mg base (L2.CX P w) 1 f fd ["_law_box", "_law_many"] (spL 1 T (aCons (fz cInt) aNil) bx (fun b x => l_draw b x.1) (fz cInt)) := by
  refine fn_mkL F sc_l_draw rfl fun cdv Ar outer s H E hr tk hp pbx box a ha => ?_
  obtain ⟨many, _⟩ := a
  have nd := sc_l_draw.nd
  show ∃ ts, SX _ _ _ _ _ _ ts (α := (Int × (List Int × Int))) ((Res.ok box.2).bind fun at_ => (Res.ok (at_ + (1 : Int))).bind fun n1 => if decide (at_ < (((box.1, n1).1).length : Int)) then (idx ((box.1, n1).1) at_).bind fun v2 => (fmod v2 many).bind fun v3 => Res.ok (v3, (box.1, n1)) else (fmod ((at_ * (7 : Int)) + (3 : Int)) many).bind fun v4 => Res.ok (v4, (box.1, n1))) _
  exact ⟨_, sx_cons (s1_set (i := 2) (R' := fz cInt) (ex_box1 0) (hN := nd)) fun at_ => sx_cons (s1_box (i := 0) (ex_op op_add (ex_var 2) (fun _ => ex_int) fun _ _ => o_add)) fun n1 => sx_ifret (et_cmp op_lt (ex_var 2) (fun _ => (ex_callB call_len_seq B.b_len PySem.boot_len (ax_cons (ex_box0 0) fun _ => ax_nil) fun _ => b_len)) (fun _ _ => o_lt) (nomark _)) (sx_retL (i := 0) (p := pbx) (F := bx) (R' := fz cInt) (ex_op op_mod (ex_callTy call_int1 B.b_int PyProof.Rows.boot_int (ax_cons (ex_ix L2.ix_list (ex_box0 0) (fun _ => (ex_var 2)) fun _ _ => o_ixL) fun _ => ax_nil) fun _ => b_int) (fun _ => (ex_var 1)) fun _ _ => o_mod) (fun _ => rfl) (fun _ => rfl)) (sx_retL (i := 0) (p := pbx) (F := bx) (R' := fz cInt) (ex_op op_mod (ex_callTy call_int1 B.b_int PyProof.Rows.boot_int (ax_cons (ex_op op_add (ex_op op_mul (ex_var 2) (fun _ => ex_int) fun _ _ => o_mulR) (fun _ => ex_int) fun _ _ => o_add) fun _ => ax_nil) fun _ => b_int) (fun _ => (ex_var 1)) fun _ _ => o_mod) (fun _ => rfl) (fun _ => rfl))⟩

abbrev s_l_bits : Stmt := topS 28
abbrev N_l_bits : List Str := ["_law_box", "_law_many", "_law_text", "_law_kind", "_law_k"]
theorem sc_l_bits : FnScope N_l_bits ["_law_box", "_law_many"] (defScope s_l_bits) := ⟨rfl, rfl, rfl, by decide +kernel, rfl, by decide +kernel, by decide +kernel⟩
theorem fn_l_bits {f : Addr} {fd : FuncData} (F : Fun K "_law_bits" "_law_bits" s_l_bits f fd) (B : Txt K CO T mg) (k_l_draw : Kn P w K mg base 1 "_law_draw" ["_law_box", "_law_many"] (spL 1 T (aCons (fz cInt) aNil) bx (fun b x => l_draw b x.1) (fz cInt))) : FnOk P w K mg base (L2.CX P w) 2 f fd ["_law_box", "_law_many"] (spL 1 T (aCons (fz cInt) aNil) bx (fun b x => l_bits b x.1) (fz cTx)) := by
  refine fn_mkL F sc_l_bits rfl fun cdv Ar outer s H E hr tk hp pbx box a ha => ?_
  obtain ⟨many, _⟩ := a
  have nd := sc_l_bits.nd
  show ∃ ts, SX _ _ _ _ _ _ ts (α := (Tx × (List Int × Int))) ((Res.ok (tx "")).bind fun text => (l_draw box (6 : Int)).bind fun r2 => ((rng 0 many).bind fun xs3 => fold (fun (x4 : Int) (s5 : Tx × (List Int × Int)) => (if decide (r2.1 = (0 : Int)) then (cat s5.1 (tx "0")).bind fun text => Res.ok (text, s5.2) else (if decide (r2.1 = (1 : Int)) then (cat s5.1 (tx "1")).bind fun text => Res.ok (text, s5.2) else ((if decide (r2.1 = (2 : Int)) then (if decide ((0 : Int) < x4) then (l_draw s5.2 (4 : Int)).bind fun r8 => Res.ok (decide ((0 : Int) < r8.1), r8.2) else Res.ok (false, s5.2) : Res (Bool × (List Int × Int))) else Res.ok (false, s5.2) : Res (Bool × (List Int × Int))).bind fun r11 => if r11.1 then ((idx s5.1 (x4 - (1 : Int))).bind fun v12 => cat s5.1 [v12]).bind fun text => Res.ok (text, r11.2) else ((l_draw r11.2 (2 : Int)).bind fun r14 => (strI r14.1).bind fun v15 => (cat s5.1 v15).bind fun v16 => Res.ok (v16, r14.2)).bind fun r17 => Res.ok (r17.1, r17.2) : Res (Tx × (List Int × Int))).bind fun s18 => Res.ok (s18.1, s18.2) : Res (Tx × (List Int × Int))).bind fun s19 => Res.ok (s19.1, s19.2) : Res (Tx × (List Int × Int))).bind fun s20 => Res.ok (s20.1, s20.2)) xs3 (text, r2.2) : Res (Tx × (List Int × Int))).bind fun s5 => Res.ok (s5.1, s5.2)) _
  exact ⟨_, sx_cons (s1_set (i := 2) (R' := fz cTx) (ex_str) (hN := nd)) fun text => sx_cons (s1_asg (i := 3) (f := fun (r : Int × (List Int × Int)) => r) (R' := fun (rq : Int × (List Int × Int)) => fz cInt rq.1) (Γ' := fun (rq : Int × (List Int × Int)) => [some (atP pbx (bx rq.2)), some (fz cInt many), some (fz cTx text), none, none]) (EX.nf (mn := (l_draw box (6 : Int) : Res (Int × (List Int × Int)))) (R' := fz cInt) (Γs := fun (bq : List Int × Int) => [some (atP pbx (bx bq)), some (fz cInt many), some (fz cTx text), none, none]) (ex_callL 0 k_l_draw hr tk lt_atP (fun _ => rfl) (ax_cons (ex_int) fun _ => ax_nil) (fun _ => arg_cons (arg_nil)) (fun _ => wk_rep rfl))) (fun _ => rfl) (fun _ => rfl) (fun _ => rfl) nd rfl (by first | exact Or.inl rfl | exact Or.inr rfl) (hb := Bd.at')) fun r2 => sx_cons (s1_for (s0 := fun _ => (text, r2.2)) (f := fun (x4 : Int) (s5 : Tx × (List Int × Int)) => (if decide (r2.1 = (0 : Int)) then (cat s5.1 (tx "0")).bind fun text => Res.ok (text, s5.2) else (if decide (r2.1 = (1 : Int)) then (cat s5.1 (tx "1")).bind fun text => Res.ok (text, s5.2) else ((if decide (r2.1 = (2 : Int)) then (if decide ((0 : Int) < x4) then (l_draw s5.2 (4 : Int)).bind fun r8 => Res.ok (decide ((0 : Int) < r8.1), r8.2) else Res.ok (false, s5.2) : Res (Bool × (List Int × Int))) else Res.ok (false, s5.2) : Res (Bool × (List Int × Int))).bind fun r11 => if r11.1 then ((idx s5.1 (x4 - (1 : Int))).bind fun v12 => cat s5.1 [v12]).bind fun text => Res.ok (text, r11.2) else ((l_draw r11.2 (2 : Int)).bind fun r14 => (strI r14.1).bind fun v15 => (cat s5.1 v15).bind fun v16 => Res.ok (v16, r14.2)).bind fun r17 => Res.ok (r17.1, r17.2) : Res (Tx × (List Int × Int))).bind fun s18 => Res.ok (s18.1, s18.2) : Res (Tx × (List Int × Int))).bind fun s19 => Res.ok (s19.1, s19.2) : Res (Tx × (List Int × Int))).bind fun s20 => Res.ok (s20.1, s20.2)) (Γn := fun (s5 : Tx × (List Int × Int)) => [some (atP pbx (bx s5.2)), some (fz cInt many), some (fz cTx s5.1), some (fz cInt r2.1), none]) (ix_range1 (AX.as (ax_cons (ex_var 1) fun _ => ax_nil)) B.b_range) (fun s5 x4 => gx_name (i := 4) nd) (fun x4 s5 => sx_cons (s1_if (I := fun (s20 : Tx × (List Int × Int)) => .nx [some (atP pbx (bx s20.2)), some (fz cInt many), some (fz cTx s20.1), some (fz cInt r2.1), some (fz cInt x4)]) (et_cmp op_eq (ex_var 3) (fun _ => ex_int) (fun _ _ => o_eq eqs_int) (nomark _)) (sx_cons (s1_set (i := 2) (R' := fz cTx) (ex_op op_add_str (ex_var 2) (fun _ => ex_str) fun _ _ => o_addS) (hN := nd)) fun text => sx_nil ((wkm [true, true, true, true, true]))) (sx_cons (s1_if (I := fun (s19 : Tx × (List Int × Int)) => .nx [some (atP pbx (bx s19.2)), some (fz cInt many), some (fz cTx s19.1), some (fz cInt r2.1), some (fz cInt x4)]) (et_cmp op_eq (ex_var 3) (fun _ => ex_int) (fun _ _ => o_eq eqs_int) (nomark _)) (sx_cons (s1_set (i := 2) (R' := fz cTx) (ex_op op_add_str (ex_var 2) (fun _ => ex_str) fun _ _ => o_addS) (hN := nd)) fun text => sx_nil ((wkm [true, true, true, true, true]))) (sx_cons (s1_ifE (I := fun (s18 : Tx × (List Int × Int)) => .nx [some (atP pbx (bx s18.2)), some (fz cInt many), some (fz cTx s18.1), some (fz cInt r2.1), some (fz cInt x4)]) (f := fun (r : Bool × (List Int × Int)) => r) (b' := fun (r : Bool × (List Int × Int)) => r.1) (Γ' := fun (rq : Bool × (List Int × Int)) => [some (atP pbx (bx rq.2)), some (fz cInt many), some (fz cTx s5.1), some (fz cInt r2.1), some (fz cInt x4)]) (ET.nf (mn := ((if decide (r2.1 = (2 : Int)) then (if decide ((0 : Int) < x4) then (l_draw s5.2 (4 : Int)).bind fun r8 => Res.ok (decide ((0 : Int) < r8.1), r8.2) else Res.ok (false, s5.2) : Res (Bool × (List Int × Int))) else Res.ok (false, s5.2) : Res (Bool × (List Int × Int))) : Res (Bool × (List Int × Int)))) (Γs := fun (bq : List Int × Int) => [some (atP pbx (bx bq)), some (fz cInt many), some (fz cTx s5.1), some (fz cInt r2.1), some (fz cInt x4)]) (et_ew (ew_andS (Γs := fun (bq : List Int × Int) => [some (atP pbx (bx bq)), some (fz cInt many), some (fz cTx s5.1), some (fz cInt r2.1), some (fz cInt x4)]) (et_cmp op_eq (ex_var 3) (fun _ => ex_int) (fun _ _ => o_eq eqs_int) (nomark _)) (fun _ => (ew_andS (Γs := fun (bq : List Int × Int) => [some (atP pbx (bx bq)), some (fz cInt many), some (fz cTx s5.1), some (fz cInt r2.1), some (fz cInt x4)]) (et_cmp op_gt (ex_var 4) (fun _ => ex_int) (fun _ _ => o_gt) (nomark _)) (fun _ => (ew_and1 (et_cmp op_gt (ex_callL 0 k_l_draw hr tk lt_atP (fun _ => rfl) (ax_cons (ex_int) fun _ => ax_nil) (fun _ => arg_cons (arg_nil)) (fun _ => wk_rep rfl)) (fun _ => ex_int) (fun _ _ => o_gt) (nomark _))))))))) (fun _ => rfl) (fun _ => rfl) (fun r11 => sx_cons (s1_set (i := 2) (R' := fz cTx) (ex_op op_add_str (ex_var 2) (fun _ => (ex_ix L2.ix_str (ex_var 2) (fun _ => (ex_op op_sub (ex_var 4) (fun _ => ex_int) fun _ _ => o_sub)) fun _ _ => o_ixS)) fun _ _ => o_addS) (hN := nd)) fun text => sx_nil ((wkm [true, true, true, true, true]))) (fun r11 => sx_cons (s1_asg (i := 2) (f := fun (r : Tx × (List Int × Int)) => r) (R' := fun (rq : Tx × (List Int × Int)) => fz cTx rq.1) (Γ' := fun (rq : Tx × (List Int × Int)) => [some (atP pbx (bx rq.2)), some (fz cInt many), some (fz cTx s5.1), some (fz cInt r2.1), some (fz cInt x4)]) (EX.nf (mn := ((l_draw r11.2 (2 : Int)).bind fun r14 => (strI r14.1).bind fun v15 => (cat s5.1 v15).bind fun v16 => Res.ok (v16, r14.2) : Res (Tx × (List Int × Int)))) (R' := fz cTx) (Γs := fun (bq : List Int × Int) => [some (atP pbx (bx bq)), some (fz cInt many), some (fz cTx s5.1), some (fz cInt r2.1), some (fz cInt x4)]) (ex_op op_add_str (ex_var 2) (fun _ => (ex_callTy call_str_int B.b_str PyProof.Rows.boot_str (ax_cons (ex_callL 0 k_l_draw hr tk lt_atP (fun _ => rfl) (ax_cons (ex_int) fun _ => ax_nil) (fun _ => arg_cons (arg_nil)) (fun _ => wk_rep rfl)) fun _ => ax_nil) fun _ => b_str)) fun _ _ => o_addS)) (fun _ => rfl) (fun _ => rfl) (fun _ => rfl) nd rfl (by first | exact Or.inl rfl | exact Or.inr rfl) (hb := Bd.at')) fun r17 => sx_nil ((wkm [true, true, true, true, true]))) (hb := Bd.at')) fun s18 => sx_nil ((wkm [true, true, true, true, true])))) fun s19 => sx_nil ((wkm [true, true, true, true, true])))) fun s20 => sx_nil ((wkm [true, true, true, true, false]))) (fun _ => (wkm [true, true, true, true, false])) hp) fun s5 => sx_retL (i := 0) (p := pbx) (F := bx) (R' := fz cTx) (ex_var 2) (fun _ => rfl) (fun _ => rfl)⟩

abbrev s_l_context : Stmt := topS 30
abbrev N_l_context : List Str := ["_law_width", "_law_bits_here", "_law_place", "_law_total"]
theorem sc_l_context : FnScope N_l_context ["_law_width", "_law_bits_here", "_law_place"] (defScope s_l_context) := ⟨rfl, rfl, rfl, by decide +kernel, rfl, by decide +kernel, by decide +kernel⟩
theorem fn_l_context {f : Addr} {fd : FuncData} (F : Fun K "_law_context" "_law_context" s_l_context f fd) (B : Txt K CO T mg)  : FnOk P w K mg base (L2.CX P w) 1 f fd ["_law_width", "_law_bits_here", "_law_place"] (spM 3 T (aCons (fz cInt) (aCons (fz cTx) (aCons (fz cInt) aNil))) (fun x => l_context x.1 x.2.1 x.2.2.1) (fz cInt)) := by
  refine fn_mk F sc_l_context rfl fun cdv Ar outer s H E hr tk hp a ha => ?_
  obtain ⟨width, bits_here, place, _⟩ := a
  have nd := sc_l_context.nd
  show ∃ ts, SX _ _ _ _ _ _ ts (α := Int) ((Res.ok (0 : Int)).bind fun total => (((fmod place width).bind fun v1 => if (!decide (v1 = (0 : Int))) then (idx bits_here (place - (1 : Int))).bind fun v2 => Res.ok (decide ([v2] = (tx "1"))) else Res.ok false).bind fun b5 => if b5 then (Res.ok (1 : Int)).bind fun total => Res.ok total else Res.ok total : Res (Int)).bind fun s4 => (if decide (width ≤ place) then (((fmod place width).bind fun v6 => if (!decide (v6 = (0 : Int))) then (idx bits_here ((place - width) - (1 : Int))).bind fun v7 => Res.ok (decide ([v7] = (tx "1"))) else Res.ok false).bind fun b10 => if b10 then (Res.ok (s4 + (2 : Int))).bind fun total => Res.ok total else Res.ok s4 : Res (Int)).bind fun s9 => (((idx bits_here (place - width)).bind fun v11 => Res.ok (decide ([v11] = (tx "1")))).bind fun b13 => if b13 then (Res.ok (s9 + (4 : Int))).bind fun total => Res.ok total else Res.ok s9 : Res (Int)).bind fun s12 => (((fmod place width).bind fun v14 => if decide (v14 < (width - (1 : Int))) then (idx bits_here ((place - width) + (1 : Int))).bind fun v15 => Res.ok (decide ([v15] = (tx "1"))) else Res.ok false).bind fun b18 => if b18 then (Res.ok (s12 + (8 : Int))).bind fun total => Res.ok total else Res.ok s12 : Res (Int)).bind fun s17 => Res.ok s17 else Res.ok s4 : Res (Int)).bind fun s19 => Res.ok s19) _
  exact ⟨_, sx_cons (s1_set (i := 3) (R' := fz cInt) (ex_int) (hN := nd)) fun total => sx_cons (s1_ifM (I := fun (s4 : Int) => .nx [some (fz cInt width), some (fz cTx bits_here), some (fz cInt place), some (fz cInt s4)]) (et_ew (ew_andM (et_cmp op_ne (ex_op op_mod (ex_callTy call_int1 B.b_int PyProof.Rows.boot_int (ax_cons (ex_var 2) fun _ => ax_nil) fun _ => b_int) (fun _ => (ex_var 0)) fun _ _ => o_mod) (fun _ => ex_int) (fun _ _ => o_ne eqs_int) (nomark _)) (fun _ => (ew_and1 (et_cmp op_eq (ex_ix L2.ix_str (ex_var 1) (fun _ => (ex_op op_sub (ex_var 2) (fun _ => ex_int) fun _ _ => o_sub)) fun _ _ => o_ixS) (fun _ => ex_str) (fun _ _ => o_eq eqs_tx) (nomark _)))))) (sx_cons (s1_set (i := 3) (R' := fz cInt) (ex_int) (hN := nd)) fun total => sx_nil ((wkm [true, true, true, true]))) (sx_nil ((wkm [true, true, true, true])))) fun s4 => sx_cons (s1_if (I := fun (s19 : Int) => .nx [some (fz cInt width), some (fz cTx bits_here), some (fz cInt place), some (fz cInt s19)]) (et_cmp op_ge (ex_var 2) (fun _ => (ex_var 0)) (fun _ _ => o_ge) (nomark _)) (sx_cons (s1_ifM (I := fun (s9 : Int) => .nx [some (fz cInt width), some (fz cTx bits_here), some (fz cInt place), some (fz cInt s9)]) (et_ew (ew_andM (et_cmp op_ne (ex_op op_mod (ex_callTy call_int1 B.b_int PyProof.Rows.boot_int (ax_cons (ex_var 2) fun _ => ax_nil) fun _ => b_int) (fun _ => (ex_var 0)) fun _ _ => o_mod) (fun _ => ex_int) (fun _ _ => o_ne eqs_int) (nomark _)) (fun _ => (ew_and1 (et_cmp op_eq (ex_ix L2.ix_str (ex_var 1) (fun _ => (ex_op op_sub (ex_op op_sub (ex_var 2) (fun _ => (ex_var 0)) fun _ _ => o_sub) (fun _ => ex_int) fun _ _ => o_sub)) fun _ _ => o_ixS) (fun _ => ex_str) (fun _ _ => o_eq eqs_tx) (nomark _)))))) (sx_cons (s1_set (i := 3) (R' := fz cInt) (ex_op op_add (ex_var 3) (fun _ => ex_int) fun _ _ => o_add) (hN := nd)) fun total => sx_nil ((wkm [true, true, true, true]))) (sx_nil ((wkm [true, true, true, true])))) fun s9 => sx_cons (s1_ifM (I := fun (s12 : Int) => .nx [some (fz cInt width), some (fz cTx bits_here), some (fz cInt place), some (fz cInt s12)]) (et_cmp op_eq (ex_ix L2.ix_str (ex_var 1) (fun _ => (ex_op op_sub (ex_var 2) (fun _ => (ex_var 0)) fun _ _ => o_sub)) fun _ _ => o_ixS) (fun _ => ex_str) (fun _ _ => o_eq eqs_tx) (nomark _)) (sx_cons (s1_set (i := 3) (R' := fz cInt) (ex_op op_add (ex_var 3) (fun _ => ex_int) fun _ _ => o_add) (hN := nd)) fun total => sx_nil ((wkm [true, true, true, true]))) (sx_nil ((wkm [true, true, true, true])))) fun s12 => sx_cons (s1_ifM (I := fun (s17 : Int) => .nx [some (fz cInt width), some (fz cTx bits_here), some (fz cInt place), some (fz cInt s17)]) (et_ew (ew_andM (et_cmp op_lt (ex_op op_mod (ex_callTy call_int1 B.b_int PyProof.Rows.boot_int (ax_cons (ex_var 2) fun _ => ax_nil) fun _ => b_int) (fun _ => (ex_var 0)) fun _ _ => o_mod) (fun _ => (ex_op op_sub (ex_var 0) (fun _ => ex_int) fun _ _ => o_sub)) (fun _ _ => o_lt) (nomark _)) (fun _ => (ew_and1 (et_cmp op_eq (ex_ix L2.ix_str (ex_var 1) (fun _ => (ex_op op_add (ex_op op_sub (ex_var 2) (fun _ => (ex_var 0)) fun _ _ => o_sub) (fun _ => ex_int) fun _ _ => o_add)) fun _ _ => o_ixS) (fun _ => ex_str) (fun _ _ => o_eq eqs_tx) (nomark _)))))) (sx_cons (s1_set (i := 3) (R' := fz cInt) (ex_op op_add (ex_var 3) (fun _ => ex_int) fun _ _ => o_add) (hN := nd)) fun total => sx_nil ((wkm [true, true, true, true]))) (sx_nil ((wkm [true, true, true, true])))) fun s17 => sx_nil ((wkm [true, true, true, true]))) (sx_nil ((wkm [true, true, true, true])))) fun s19 => sx_ret (ex_var 3) (fun _ => rfl)⟩

abbrev s_l_interval : Stmt := topS 31
abbrev N_l_interval : List Str := ["_law_width", "_law_bits_here", "_law_low", "_law_size", "_law_whole", "_law_zeros", "_law_ones", "_law_place", "_law_here", "_law_parts"]
theorem sc_l_interval : FnScope N_l_interval ["_law_width", "_law_bits_here"] (defScope s_l_interval) := ⟨rfl, rfl, rfl, by decide +kernel, rfl, by decide +kernel, by decide +kernel⟩
theorem fn_l_interval {f : Addr} {fd : FuncData} (F : Fun K "_law_interval" "_law_interval" s_l_interval f fd) (B : Txt K CO T mg) (k_l_context : Kn P w K mg base 1 "_law_context" ["_law_width", "_law_bits_here", "_law_place"] (spM 3 T (aCons (fz cInt) (aCons (fz cTx) (aCons (fz cInt) aNil))) (fun x => l_context x.1 x.2.1 x.2.2.1) (fz cInt))) : FnOk P w K mg base (L2.CX P w) 2 f fd ["_law_width", "_law_bits_here"] (spM 2 T (aCons (fz cInt) (aCons (fz cTx) aNil)) (fun x => l_interval x.1 x.2.1) (ol cInt)) := by
  refine fn_mk F sc_l_interval rfl fun cdv Ar outer s H E hr tk hp a ha => ?_
  obtain ⟨width, bits_here, _⟩ := a
  have nd := sc_l_interval.nd
  show ∃ ts, SX _ _ _ _ _ _ ts (α := (List Int)) ((Res.ok (0 : Int)).bind fun low => (Res.ok (1 : Int)).bind fun size => (Res.ok (1 : Int)).bind fun whole => (rep ([(0 : Int)] : List Int) (16 : Int)).bind fun zeros => (rep ([(0 : Int)] : List Int) (16 : Int)).bind fun ones => ((rng 0 (bits_here.length : Int)).bind fun xs3 => fold (fun (x4 : Int) (s5 : Int × Int × Int × (List Int) × (List Int)) => (l_context width bits_here x4).bind fun here => ((idx s5.2.2.2.2 here).bind fun v7 => (idx s5.2.2.2.1 here).bind fun v8 => Res.ok ((v7 + v8) + (2 : Int))).bind fun parts => (mul s5.1 parts).bind fun low => (mul s5.2.1 parts).bind fun whole => (((idx bits_here x4).bind fun v11 => Res.ok (decide ([v11] = (tx "1")))).bind fun b21 => if b21 then ((idx s5.2.2.2.2 here).bind fun v12 => (mul s5.2.2.1 (v12 + (1 : Int))).bind fun v13 => Res.ok (low + v13)).bind fun low => ((idx s5.2.2.2.1 here).bind fun v14 => mul s5.2.2.1 (v14 + (1 : Int))).bind fun size => ((idx s5.2.2.2.1 here).bind fun v16 => setI s5.2.2.2.1 here (v16 + (1 : Int))).bind fun ones => Res.ok (low, size, ones, s5.2.2.2.2) else ((idx s5.2.2.2.2 here).bind fun v17 => mul s5.2.2.1 (v17 + (1 : Int))).bind fun size => ((idx s5.2.2.2.2 here).bind fun v19 => setI s5.2.2.2.2 here (v19 + (1 : Int))).bind fun zeros => Res.ok (low, size, s5.2.2.2.1, zeros) : Res (Int × Int × (List Int) × (List Int))).bind fun s20 => Res.ok (s20.1, whole, s20.2.1, s20.2.2.1, s20.2.2.2)) xs3 (low, whole, size, ones, zeros) : Res (Int × Int × Int × (List Int) × (List Int))).bind fun s5 => Res.ok ([s5.1, s5.2.2.1, s5.2.1] : List Int)) _
  exact ⟨_, sx_cons (s1_set (i := 2) (R' := fz cInt) (ex_int) (hN := nd)) fun low => sx_cons (s1_set (i := 3) (R' := fz cInt) (ex_int) (hN := nd)) fun size => sx_cons (s1_set (i := 4) (R' := fz cInt) (ex_int) (hN := nd)) fun whole => sx_cons (s1_set (i := 5) (R' := ol cInt) (ex_op op_rep (ex_lst (c := cInt) (lx_cons (ex_int) fun _ => lx_nil)) (fun _ => ex_int) fun _ _ => o_rep (c := cInt) isL_o) (hN := nd)) fun zeros => sx_cons (s1_set (i := 6) (R' := ol cInt) (ex_op op_rep (ex_lst (c := cInt) (lx_cons (ex_int) fun _ => lx_nil)) (fun _ => ex_int) fun _ _ => o_rep (c := cInt) isL_o) (hN := nd)) fun ones => sx_cons (s1_for (s0 := fun _ => (low, whole, size, ones, zeros)) (f := fun (x4 : Int) (s5 : Int × Int × Int × (List Int) × (List Int)) => (l_context width bits_here x4).bind fun here => ((idx s5.2.2.2.2 here).bind fun v7 => (idx s5.2.2.2.1 here).bind fun v8 => Res.ok ((v7 + v8) + (2 : Int))).bind fun parts => (mul s5.1 parts).bind fun low => (mul s5.2.1 parts).bind fun whole => (((idx bits_here x4).bind fun v11 => Res.ok (decide ([v11] = (tx "1")))).bind fun b21 => if b21 then ((idx s5.2.2.2.2 here).bind fun v12 => (mul s5.2.2.1 (v12 + (1 : Int))).bind fun v13 => Res.ok (low + v13)).bind fun low => ((idx s5.2.2.2.1 here).bind fun v14 => mul s5.2.2.1 (v14 + (1 : Int))).bind fun size => ((idx s5.2.2.2.1 here).bind fun v16 => setI s5.2.2.2.1 here (v16 + (1 : Int))).bind fun ones => Res.ok (low, size, ones, s5.2.2.2.2) else ((idx s5.2.2.2.2 here).bind fun v17 => mul s5.2.2.1 (v17 + (1 : Int))).bind fun size => ((idx s5.2.2.2.2 here).bind fun v19 => setI s5.2.2.2.2 here (v19 + (1 : Int))).bind fun zeros => Res.ok (low, size, s5.2.2.2.1, zeros) : Res (Int × Int × (List Int) × (List Int))).bind fun s20 => Res.ok (s20.1, whole, s20.2.1, s20.2.2.1, s20.2.2.2)) (Γn := fun (s5 : Int × Int × Int × (List Int) × (List Int)) => [some (fz cInt width), some (fz cTx bits_here), some (fz cInt s5.1), some (fz cInt s5.2.2.1), some (fz cInt s5.2.1), some (ol cInt s5.2.2.2.2), some (ol cInt s5.2.2.2.1), none, none, none]) (ix_range1 (AX.as (ax_cons (ex_callB call_len_str B.b_len PySem.boot_len (ax_cons (ex_var 1) fun _ => ax_nil) fun _ => b_lenS) fun _ => ax_nil)) B.b_range) (fun s5 x4 => gx_name (i := 7) nd) (fun x4 s5 => sx_cons (s1_set (i := 8) (R' := fz cInt) (ex_callK k_l_context hr tk (fun _ => rfl) (ax_cons (ex_var 0) fun _ => ax_cons (ex_var 1) fun _ => ax_cons (ex_var 7) fun _ => ax_nil) (fun _ => arg_cons (arg_cons (arg_cons (arg_nil)))) (fun _ => wk_rep rfl)) (hN := nd)) fun here => sx_cons (s1_set (i := 9) (R' := fz cInt) (ex_op op_add (ex_op op_add (ex_ixO 5 (c := cInt) (ex_var 8)) (fun _ => (ex_ixO 6 (c := cInt) (ex_var 8))) fun _ _ => o_add) (fun _ => ex_int) fun _ _ => o_add) (hN := nd)) fun parts => sx_cons (s1_set (i := 2) (R' := fz cInt) (ex_op op_mulX (ex_var 2) (fun _ => (ex_var 9)) fun _ _ => o_mul) (hN := nd)) fun low => sx_cons (s1_set (i := 4) (R' := fz cInt) (ex_op op_mulX (ex_var 4) (fun _ => (ex_var 9)) fun _ _ => o_mul) (hN := nd)) fun whole => sx_cons (s1_ifM (I := fun (s20 : Int × Int × (List Int) × (List Int)) => .nx [some (fz cInt width), some (fz cTx bits_here), some (fz cInt s20.1), some (fz cInt s20.2.1), some (fz cInt whole), some (ol cInt s20.2.2.2), some (ol cInt s20.2.2.1), some (fz cInt x4), some (fz cInt here), some (fz cInt parts)]) (et_cmp op_eq (ex_ix L2.ix_str (ex_var 1) (fun _ => (ex_var 7)) fun _ _ => o_ixS) (fun _ => ex_str) (fun _ _ => o_eq eqs_tx) (nomark _)) (sx_cons (s1_set (i := 2) (R' := fz cInt) (ex_op op_add (ex_var 2) (fun _ => (ex_op op_mulX (ex_var 3) (fun _ => (ex_op op_add (ex_ixO 5 (c := cInt) (ex_var 8)) (fun _ => ex_int) fun _ _ => o_add)) fun _ _ => o_mul)) fun _ _ => o_add) (hN := nd)) fun low => sx_cons (s1_set (i := 3) (R' := fz cInt) (ex_op op_mulX (ex_var 3) (fun _ => (ex_op op_add (ex_ixO 6 (c := cInt) (ex_var 8)) (fun _ => ex_int) fun _ _ => o_add)) fun _ _ => o_mul) (hN := nd)) fun size => sx_cons (s1_setI (i := 6) (c := cInt) (ex_op op_add (ex_ixO 6 (c := cInt) (ex_var 8)) (fun _ => ex_int) fun _ _ => o_add) (fun _ => (ex_var 8))) fun ones => sx_nil ((wkm [true, true, true, true, true, true, true, true, true, true]))) (sx_cons (s1_set (i := 3) (R' := fz cInt) (ex_op op_mulX (ex_var 3) (fun _ => (ex_op op_add (ex_ixO 5 (c := cInt) (ex_var 8)) (fun _ => ex_int) fun _ _ => o_add)) fun _ _ => o_mul) (hN := nd)) fun size => sx_cons (s1_setI (i := 5) (c := cInt) (ex_op op_add (ex_ixO 5 (c := cInt) (ex_var 8)) (fun _ => ex_int) fun _ _ => o_add) (fun _ => (ex_var 8))) fun zeros => sx_nil ((wkm [true, true, true, true, true, true, true, true, true, true])))) fun s20 => sx_nil ((wkm [true, true, true, true, true, true, true, false, false, false]))) (fun _ => (wkm [true, true, true, true, true, true, true, false, false, false])) hp) fun s5 => sx_ret (ex_lst (c := cInt) (lx_cons (ex_var 2) fun _ => lx_cons (ex_var 3) fun _ => lx_cons (ex_var 4) fun _ => lx_nil)) (fun _ => rfl)⟩

abbrev s_l_binary : Stmt := topS 29
abbrev N_l_binary : List Str := ["_law_value", "_law_many", "_law_text", "_law_turn"]
theorem sc_l_binary : FnScope N_l_binary ["_law_value", "_law_many"] (defScope s_l_binary) := ⟨rfl, rfl, rfl, by decide +kernel, rfl, by decide +kernel, by decide +kernel⟩
theorem fn_l_binary {f : Addr} {fd : FuncData} (F : Fun K "_law_binary" "_law_binary" s_l_binary f fd) (B : Txt K CO T mg)  : FnOk P w K mg base (L2.CX P w) 1 f fd ["_law_value", "_law_many"] (spM 2 T (aCons (fz cInt) (aCons (fz cInt) aNil)) (fun x => l_binary x.1 x.2.1) (fz cTx)) := by
  refine fn_mk F sc_l_binary rfl fun cdv Ar outer s H E hr tk hp a ha => ?_
  obtain ⟨value, many, _⟩ := a
  have nd := sc_l_binary.nd
  show ∃ ts, SX _ _ _ _ _ _ ts (α := Tx) ((Res.ok (tx "")).bind fun text => ((rng 0 many).bind fun xs1 => fold (fun (x2 : Int) (s3 : Tx × Int) => ((strI (s3.2 % (2 : Int))).bind fun v4 => cat v4 s3.1).bind fun text => (Res.ok (s3.2 / (2 : Int))).bind fun value => Res.ok (text, value)) xs1 (text, value) : Res (Tx × Int)).bind fun s3 => Res.ok s3.1) _
  exact ⟨_, sx_cons (s1_set (i := 2) (R' := fz cTx) (ex_str) (hN := nd)) fun text => sx_cons (s1_for (s0 := fun _ => (text, value)) (f := fun (x2 : Int) (s3 : Tx × Int) => ((strI (s3.2 % (2 : Int))).bind fun v4 => cat v4 s3.1).bind fun text => (Res.ok (s3.2 / (2 : Int))).bind fun value => Res.ok (text, value)) (Γn := fun (s3 : Tx × Int) => [some (fz cInt s3.2), some (fz cInt many), some (fz cTx s3.1), none]) (ix_range1 (AX.as (ax_cons (ex_var 1) fun _ => ax_nil)) B.b_range) (fun s3 x2 => gx_name (i := 3) nd) (fun x2 s3 => sx_cons (s1_set (i := 2) (R' := fz cTx) (ex_op op_add_str (ex_callTy call_str_int B.b_str PyProof.Rows.boot_str (ax_cons (ex_op op_mod (ex_callTy call_int1 B.b_int PyProof.Rows.boot_int (ax_cons (ex_var 0) fun _ => ax_nil) fun _ => b_int) (fun _ => ex_int) fun _ _ => o_modR) fun _ => ax_nil) fun _ => b_str) (fun _ => (ex_var 2)) fun _ _ => o_addS) (hN := nd)) fun text => sx_cons (s1_set (i := 0) (R' := fz cInt) (ex_op op_fdiv (ex_var 0) (fun _ => ex_int) fun _ _ => o_fdivR) (hN := nd)) fun value => sx_nil ((wkm [true, true, true, false]))) (fun _ => (wkm [true, true, true, false])) hp) fun s3 => sx_ret (ex_var 2) (fun _ => rfl)⟩

abbrev s_l_code : Stmt := topS 32
abbrev N_l_code : List Str := ["_law_width", "_law_bits_here", "_law_made", "_law_power", "_law_first", "_law_digits_here", "_law_turn"]
theorem sc_l_code : FnScope N_l_code ["_law_width", "_law_bits_here"] (defScope s_l_code) := ⟨rfl, rfl, rfl, by decide +kernel, rfl, by decide +kernel, by decide +kernel⟩
theorem fn_l_code {f : Addr} {fd : FuncData} (F : Fun K "_law_code" "_law_code" s_l_code f fd) (B : Txt K CO T mg) (k_l_interval : Kn P w K mg base 2 "_law_interval" ["_law_width", "_law_bits_here"] (spM 2 T (aCons (fz cInt) (aCons (fz cTx) aNil)) (fun x => l_interval x.1 x.2.1) (ol cInt))) (k_l_binary : Kn P w K mg base 1 "_law_binary" ["_law_value", "_law_many"] (spM 2 T (aCons (fz cInt) (aCons (fz cInt) aNil)) (fun x => l_binary x.1 x.2.1) (fz cTx))) : FnOk P w K mg base (L2.CX P w) 3 f fd ["_law_width", "_law_bits_here"] (spM 2 T (aCons (fz cInt) (aCons (fz cTx) aNil)) (fun x => l_code x.1 x.2.1) (fz cTx)) := by
  refine fn_mk F sc_l_code rfl fun cdv Ar outer s H E hr tk hp a ha => ?_
  obtain ⟨width, bits_here, _⟩ := a
  have nd := sc_l_code.nd
  show ∃ ts, SX _ _ _ _ _ _ ts (α := Tx) ((l_interval width bits_here).bind fun made => (Res.ok (1 : Int)).bind fun power => (Res.ok (0 : Int)).bind fun first => (Res.ok (0 : Int)).bind fun digits_here => withCtl ((rng 0 (2100 : Int)).bind fun xs2 => loop (B := Tx) (fun (x3 : Int) (s4 : Int × Int × Int) => ((idx made (0 : Int)).bind fun v5 => (mul v5 s4.2.1).bind fun v6 => (idx made (2 : Int)).bind fun v7 => (idx made (2 : Int)).bind fun v8 => fdiv ((v6 + v7) - (1 : Int)) v8).bind fun first => ((idx made (2 : Int)).bind fun v10 => (mul (first + (1 : Int)) v10).bind fun v11 => (idx made (0 : Int)).bind fun v12 => (idx made (1 : Int)).bind fun v13 => (mul (v12 + v13) s4.2.1).bind fun v14 => Res.ok (decide (v11 ≤ v14))).bind fun b15 => if b15 then (Res.ok (first, s4.2.1, s4.2.2)).bind fun a => Res.ok (.brk a) else (Res.ok (s4.2.1 * (2 : Int))).bind fun power => (Res.ok (s4.2.2 + (1 : Int))).bind fun digits_here => Res.ok (.nx (first, power, digits_here))) xs2 (first, power, digits_here) : Res (Ctl (Int × Int × Int) Tx)) fun s4 => l_binary s4.1 s4.2.2) _
  exact ⟨_, sx_cons (s1_set (i := 2) (R' := fz (cList cInt)) (EX.icy (EX.as (ex_callK k_l_interval hr tk (fun _ => rfl) (ax_cons (ex_var 0) fun _ => ax_cons (ex_var 1) fun _ => ax_nil) (fun _ => arg_cons (arg_cons (arg_nil))) (fun _ => wk_rep rfl)))) (hN := nd)) fun made => sx_cons (s1_set (i := 3) (R' := fz cInt) (ex_int) (hN := nd)) fun power => sx_cons (s1_set (i := 4) (R' := fz cInt) (ex_int) (hN := nd)) fun first => sx_cons (s1_set (i := 5) (R' := fz cInt) (ex_int) (hN := nd)) fun digits_here => sx_with (s1_forC (s0 := fun _ => (first, power, digits_here)) (f := fun (x3 : Int) (s4 : Int × Int × Int) => ((idx made (0 : Int)).bind fun v5 => (mul v5 s4.2.1).bind fun v6 => (idx made (2 : Int)).bind fun v7 => (idx made (2 : Int)).bind fun v8 => fdiv ((v6 + v7) - (1 : Int)) v8).bind fun first => ((idx made (2 : Int)).bind fun v10 => (mul (first + (1 : Int)) v10).bind fun v11 => (idx made (0 : Int)).bind fun v12 => (idx made (1 : Int)).bind fun v13 => (mul (v12 + v13) s4.2.1).bind fun v14 => Res.ok (decide (v11 ≤ v14))).bind fun b15 => if b15 then (Res.ok (first, s4.2.1, s4.2.2)).bind fun a => Res.ok (.brk a) else (Res.ok (s4.2.1 * (2 : Int))).bind fun power => (Res.ok (s4.2.2 + (1 : Int))).bind fun digits_here => Res.ok (.nx (first, power, digits_here))) (Γn := fun (s4 : Int × Int × Int) => [some (fz cInt width), some (fz cTx bits_here), some (fz (cList cInt) made), some (fz cInt s4.2.1), some (fz cInt s4.1), some (fz cInt s4.2.2), none]) (RB := fz cTx) (LB := fun _ => []) (ix_range1 (AX.as (ax_cons (ex_int) fun _ => ax_nil)) B.b_range) (fun s4 x3 => gx_name (i := 6) nd) (fun x3 s4 => sx_cons (s1_set (i := 4) (R' := fz cInt) (ex_op op_fdivW (ex_op op_sub (ex_op op_add (ex_op op_mulX (ex_ix L2.ix_list (ex_var 2) (fun _ => ex_int) fun _ _ => o_ixL) (fun _ => (ex_var 3)) fun _ _ => o_mul) (fun _ => (ex_ix L2.ix_list (ex_var 2) (fun _ => ex_int) fun _ _ => o_ixL)) fun _ _ => o_add) (fun _ => ex_int) fun _ _ => o_sub) (fun _ => (ex_ix L2.ix_list (ex_var 2) (fun _ => ex_int) fun _ _ => o_ixL)) fun _ _ => o_fdiv) (hN := nd)) fun first => sx_ifretC (j := Ctl.brk) (et_cmp op_le (ex_op op_mulX (ex_op op_add (ex_var 4) (fun _ => ex_int) fun _ _ => o_add) (fun _ => (ex_ix L2.ix_list (ex_var 2) (fun _ => ex_int) fun _ _ => o_ixL)) fun _ _ => o_mul) (fun _ => (ex_op op_mulX (ex_op op_add (ex_ix L2.ix_list (ex_var 2) (fun _ => ex_int) fun _ _ => o_ixL) (fun _ => (ex_ix L2.ix_list (ex_var 2) (fun _ => ex_int) fun _ _ => o_ixL)) fun _ _ => o_add) (fun _ => (ex_var 3)) fun _ _ => o_mul)) (fun _ _ => o_le) (nomark _)) (sx_brk (Γn := fun (s4 : Int × Int × Int) => [some (fz cInt width), some (fz cTx bits_here), some (fz (cList cInt) made), some (fz cInt s4.2.1), some (fz cInt s4.1), some (fz cInt s4.2.2), none]) ((wkm [true, true, true, true, true, true, false]))) (sx_cons (s1_set (i := 3) (R' := fz cInt) (ex_op op_mul (ex_var 3) (fun _ => ex_int) fun _ _ => o_mulR) (hN := nd)) fun power => sx_cons (s1_set (i := 5) (R' := fz cInt) (ex_op op_add (ex_var 5) (fun _ => ex_int) fun _ _ => o_add) (hN := nd)) fun digits_here => sx_nilC ((wkm [true, true, true, true, true, true, false])))) (fun _ => (wkm [true, true, true, true, true, true, false])) hp) fun s4 => sx_ret (ex_callK k_l_binary hr tk (fun _ => rfl) (ax_cons (ex_var 4) fun _ => ax_cons (ex_var 5) fun _ => ax_nil) (fun _ => arg_cons (arg_cons (arg_nil))) (fun _ => wk_rep rfl)) (fun _ => rfl)⟩

abbrev s_l_beginning : Stmt := topS 34
abbrev N_l_beginning : List Str := ["_law_box", "_law_width", "_law_bits_here", "_law_code_here", "_law_kind"]
theorem sc_l_beginning : FnScope N_l_beginning ["_law_box", "_law_width", "_law_bits_here"] (defScope s_l_beginning) := ⟨rfl, rfl, rfl, by decide +kernel, rfl, by decide +kernel, by decide +kernel⟩
theorem fn_l_beginning {f : Addr} {fd : FuncData} (F : Fun K "_law_beginning" "_law_beginning" s_l_beginning f fd) (B : Txt K CO T mg) (k_l_code : Kn P w K mg base 3 "_law_code" ["_law_width", "_law_bits_here"] (spM 2 T (aCons (fz cInt) (aCons (fz cTx) aNil)) (fun x => l_code x.1 x.2.1) (fz cTx))) (k_l_draw : Kn P w K mg base 1 "_law_draw" ["_law_box", "_law_many"] (spL 1 T (aCons (fz cInt) aNil) bx (fun b x => l_draw b x.1) (fz cInt))) (k_l_bits : Kn P w K mg base 2 "_law_bits" ["_law_box", "_law_many"] (spL 1 T (aCons (fz cInt) aNil) bx (fun b x => l_bits b x.1) (fz cTx))) : FnOk P w K mg base (L2.CX P w) 4 f fd ["_law_box", "_law_width", "_law_bits_here"] (spL 2 T (aCons (fz cInt) (aCons (fz cTx) aNil)) bx (fun b x => l_beginning b x.1 x.2.1) (fz cTx)) := by
  refine fn_mkL F sc_l_beginning rfl fun cdv Ar outer s H E hr tk hp pbx box a ha => ?_
  obtain ⟨width, bits_here, _⟩ := a
  have nd := sc_l_beginning.nd
  show ∃ ts, SX _ _ _ _ _ _ ts (α := (Tx × (List Int × Int))) ((l_code width bits_here).bind fun code_here => (l_draw box (8 : Int)).bind fun r3 => if decide (r3.1 = (0 : Int)) then (l_draw r3.2 (2 : Int)).bind fun r4 => (strI r4.1).bind fun v5 => (cat code_here v5).bind fun v6 => Res.ok (v6, r4.2) else if decide (r3.1 = (1 : Int)) then (l_draw r3.2 (9 : Int)).bind fun r7 => l_bits r7.2 r7.1 else if decide (r3.1 = (2 : Int)) then Res.ok (code_here, r3.2) else (l_draw r3.2 ((code_here.length : Int) + (1 : Int))).bind fun r9 => Res.ok ((cut code_here none (some r9.1)), r9.2)) _
  exact ⟨_, sx_cons (s1_set (i := 3) (R' := fz cTx) (ex_callK k_l_code hr tk (fun _ => rfl) (ax_cons (ex_var 1) fun _ => ax_cons (ex_var 2) fun _ => ax_nil) (fun _ => arg_cons (arg_cons (arg_nil))) (fun _ => wk_rep rfl)) (hN := nd)) fun code_here => sx_cons (s1_asg (i := 4) (f := fun (r : Int × (List Int × Int)) => r) (R' := fun (rq : Int × (List Int × Int)) => fz cInt rq.1) (Γ' := fun (rq : Int × (List Int × Int)) => [some (atP pbx (bx rq.2)), some (fz cInt width), some (fz cTx bits_here), some (fz cTx code_here), none]) (EX.nf (mn := (l_draw box (8 : Int) : Res (Int × (List Int × Int)))) (R' := fz cInt) (Γs := fun (bq : List Int × Int) => [some (atP pbx (bx bq)), some (fz cInt width), some (fz cTx bits_here), some (fz cTx code_here), none]) (ex_callL 0 k_l_draw hr tk lt_atP (fun _ => rfl) (ax_cons (ex_int) fun _ => ax_nil) (fun _ => arg_cons (arg_nil)) (fun _ => wk_rep rfl))) (fun _ => rfl) (fun _ => rfl) (fun _ => rfl) nd rfl (by first | exact Or.inl rfl | exact Or.inr rfl) (hb := Bd.at')) fun r3 => sx_ifret (et_cmp op_eq (ex_var 4) (fun _ => ex_int) (fun _ _ => o_eq eqs_int) (nomark _)) (sx_retL (i := 0) (p := pbx) (F := bx) (R' := fz cTx) (ex_op op_add_str (ex_var 3) (fun _ => (ex_callTy call_str_int B.b_str PyProof.Rows.boot_str (ax_cons (ex_callL 0 k_l_draw hr tk lt_atP (fun _ => rfl) (ax_cons (ex_int) fun _ => ax_nil) (fun _ => arg_cons (arg_nil)) (fun _ => wk_rep rfl)) fun _ => ax_nil) fun _ => b_str)) fun _ _ => o_addS) (fun _ => rfl) (fun _ => rfl)) (sx_ifret (et_cmp op_eq (ex_var 4) (fun _ => ex_int) (fun _ _ => o_eq eqs_int) (nomark _)) (sx_retL (i := 0) (p := pbx) (F := bx) (R' := fz cTx) (ex_callL 0 k_l_bits hr tk lt_atP (fun _ => rfl) (ax_cons (ex_callL 0 k_l_draw hr tk lt_atP (fun _ => rfl) (ax_cons (ex_int) fun _ => ax_nil) (fun _ => arg_cons (arg_nil)) (fun _ => wk_rep rfl)) fun _ => ax_nil) (fun _ => arg_cons (arg_nil)) (fun _ => wk_rep rfl)) (fun _ => rfl) (fun _ => rfl)) (sx_ifret (et_cmp op_eq (ex_var 4) (fun _ => ex_int) (fun _ _ => o_eq eqs_int) (nomark _)) (sx_retL (i := 0) (p := pbx) (F := bx) (R' := fz cTx) (ex_var 3) (fun _ => rfl) (fun _ => rfl)) (sx_retL (i := 0) (p := pbx) (F := bx) (R' := fz cTx) (ex_slice sl_str (ex_var 3) (fun _ => eo_none) (fun _ _ => (eo_some (EX.as (ex_callL 0 k_l_draw hr tk lt_atP (fun _ => rfl) (ax_cons (ex_op op_add (ex_callB call_len_str B.b_len PySem.boot_len (ax_cons (ex_var 3) fun _ => ax_nil) fun _ => b_lenS) (fun _ => ex_int) fun _ _ => o_add) fun _ => ax_nil) (fun _ => arg_cons (arg_nil)) (fun _ => wk_rep rfl))))) (fun _ _ _ => sl_s)) (fun _ => rfl) (fun _ => rfl))))⟩

abbrev s_l_all_bits : Stmt := topS 33
abbrev N_l_all_bits : List Str := ["_law_many", "_law_value"]
theorem sc_l_all_bits : FnScope N_l_all_bits ["_law_many"] (defScope s_l_all_bits) := ⟨rfl, rfl, rfl, by decide +kernel, rfl, by decide +kernel, by decide +kernel⟩
theorem fn_l_all_bits {f : Addr} {fd : FuncData} (F : Fun K "_law_all_bits" "_law_all_bits" s_l_all_bits f fd) (B : Txt K CO T mg) (k_l_binary : Kn P w K mg base 1 "_law_binary" ["_law_value", "_law_many"] (spM 2 T (aCons (fz cInt) (aCons (fz cInt) aNil)) (fun x => l_binary x.1 x.2.1) (fz cTx))) : FnOk P w K mg base (L2.CX P w) 2 f fd ["_law_many"] (spM 1 T (aCons (fz cInt) aNil) (fun x => l_all_bits x.1) (ol cTx)) := by
  refine fn_mk F sc_l_all_bits rfl fun cdv Ar outer s H E hr tk hp a ha => ?_
  obtain ⟨many, _⟩ := a
  have nd := sc_l_all_bits.nd
  show ∃ ts, SX _ _ _ _ _ _ ts (α := (List Tx)) ((shl (1 : Int) many).bind fun v1 => (rng 0 v1).bind fun xs2 => mapC (fun x3 => l_binary x3 many) xs2) _
  exact ⟨_, sx_ret (ex_lc (f := fun _ (x3 : Int) => l_binary x3 many) (own := [("_law_value", 1)]) (c := cTx) (Γe := List.replicate 2 none) nd (ix_range1 (AX.as (ax_cons (ex_op op_shlW (ex_int) (fun _ => (ex_var 0)) fun _ _ => o_shl) fun _ => ax_nil)) B.b_range) (blkOk_by (N := N_l_all_bits) (sc := defScope s_l_all_bits) (by decide +kernel)) (fun _ _ _ _ _ _ _ => gx_name (i := 1) nd) (fun _ _ _ _ _ _ _ => (ex_callK k_l_binary hr takes0 (fun _ => rfl) (ax_cons (ex_var 1) fun _ => ax_cons (ex_var 0) fun _ => ax_nil) (fun _ => arg_cons (arg_cons (arg_nil))) (fun _ => wk_rep rfl))) (hd := fun _ _ => (wkm [true, false]))) (fun _ => rfl)⟩

abbrev s_p_check_width : Stmt := topS 7
abbrev N_p_check_width : List Str := ["width"]
theorem sc_p_check_width : FnScope N_p_check_width ["width"] (defScope s_p_check_width) := ⟨rfl, rfl, rfl, by decide +kernel, rfl, by decide +kernel, by decide +kernel⟩
theorem fn_p_check_width {f : Addr} {fd : FuncData} (F : Fun K "check_width" "check_width" s_p_check_width f fd) (B : Txt K CO T mg)  (k_oor : KnO P w K mg base "OutOfRange" T.oor (spOor T.oor)) : FnOk P w K mg base (L2.CX P w) 3 f fd ["width"] (spM 1 T (aCons (fz cInt) aNil) (fun x => p_check_width x.1) (fun _ => sN)) := by
  refine fn_mkN F sc_p_check_width rfl fun cdv Ar outer s H E hr tk hp a ha => ?_
  obtain ⟨width, _⟩ := a
  have nd := sc_p_check_width.nd
  show ∃ ts, SX _ _ _ _ _ _ ts (α := Unit) (if (!(decide ((1 : Int) ≤ width) && decide (width ≤ (16 : Int)))) then Res.exn (.oor (tx "width")) else Res.ok ()) _
  exact ⟨_, sx_ifraise (mA := Res.exn (.oor (tx "width"))) (IA := fun e => e.elim) (et_not (et_chain op_le op_le (ex_int) (fun _ => (ex_var 0)) (fun _ _ => (EX.as (ex_globE (c := cInt) B.g_WIDTH_MOST (fun _ => rfl)))))) (sx_oor k_oor hr tk (AX.as (ax_cons (ex_str) fun _ => ax_nil)) (fun _ => wk_rep rfl)) (sx_nil (wkm [false]))⟩

abbrev s_p_check_count : Stmt := topS 13
abbrev N_p_check_count : List Str := ["count"]
theorem sc_p_check_count : FnScope N_p_check_count ["count"] (defScope s_p_check_count) := ⟨rfl, rfl, rfl, by decide +kernel, rfl, by decide +kernel, by decide +kernel⟩
theorem fn_p_check_count {f : Addr} {fd : FuncData} (F : Fun K "check_count" "check_count" s_p_check_count f fd) (B : Txt K CO T mg)  (k_oor : KnO P w K mg base "OutOfRange" T.oor (spOor T.oor)) : FnOk P w K mg base (L2.CX P w) 3 f fd ["count"] (spM 1 T (aCons (fz cInt) aNil) (fun x => p_check_count x.1) (fun _ => sN)) := by
  refine fn_mkN F sc_p_check_count rfl fun cdv Ar outer s H E hr tk hp a ha => ?_
  obtain ⟨count, _⟩ := a
  have nd := sc_p_check_count.nd
  show ∃ ts, SX _ _ _ _ _ _ ts (α := Unit) (if (!(decide ((0 : Int) ≤ count) && decide (count ≤ (256 : Int)))) then Res.exn (.oor (tx "count")) else Res.ok ()) _
  exact ⟨_, sx_ifraise (mA := Res.exn (.oor (tx "count"))) (IA := fun e => e.elim) (et_not (et_chain op_le op_le (ex_int) (fun _ => (ex_var 0)) (fun _ _ => (EX.as (ex_globE (c := cInt) B.g_BITS_MOST (fun _ => rfl)))))) (sx_oor k_oor hr tk (AX.as (ax_cons (ex_str) fun _ => ax_nil)) (fun _ => wk_rep rfl)) (sx_nil (wkm [false]))⟩

abbrev s_p_check_code : Stmt := topS 8
abbrev N_p_check_code : List Str := ["code"]
theorem sc_p_check_code : FnScope N_p_check_code ["code"] (defScope s_p_check_code) := ⟨rfl, rfl, rfl, by decide +kernel, rfl, by decide +kernel, by decide +kernel⟩
theorem fn_p_check_code {f : Addr} {fd : FuncData} (F : Fun K "check_code" "check_code" s_p_check_code f fd) (B : Txt K CO T mg)  (k_oor : KnO P w K mg base "OutOfRange" T.oor (spOor T.oor)) : FnOk P w K mg base (L2.CX P w) 3 f fd ["code"] (spM 1 T (aCons (fz cTx) aNil) (fun x => p_check_code x.1) (fun _ => sN)) := by
  refine fn_mkN F sc_p_check_code rfl fun cdv Ar outer s H E hr tk hp a ha => ?_
  obtain ⟨code, _⟩ := a
  have nd := sc_p_check_code.nd
  show ∃ ts, SX _ _ _ _ _ _ ts (α := Unit) (if decide ((400 : Int) < (code.length : Int)) then Res.exn (.oor (tx "code")) else Res.ok ()) _
  exact ⟨_, sx_ifraise (mA := Res.exn (.oor (tx "code"))) (IA := fun e => e.elim) (et_cmp op_gt (ex_callB call_len_str B.b_len PySem.boot_len (ax_cons (ex_var 0) fun _ => ax_nil) fun _ => b_lenS) (fun _ => (ex_globE (c := cInt) B.g_CODE_MOST (fun _ => rfl))) (fun _ _ => o_gt) (nomark _)) (sx_oor k_oor hr tk (AX.as (ax_cons (ex_str) fun _ => ax_nil)) (fun _ => wk_rep rfl)) (sx_nil (wkm [false]))⟩

abbrev s_p_context : Stmt := topS 9
abbrev N_p_context : List Str := ["width", "bits", "place", "total", "column"]
theorem sc_p_context : FnScope N_p_context ["width", "bits", "place"] (defScope s_p_context) := ⟨rfl, rfl, rfl, by decide +kernel, rfl, by decide +kernel, by decide +kernel⟩
theorem fn_p_context {f : Addr} {fd : FuncData} (F : Fun K "context" "context" s_p_context f fd) (B : Txt K CO T mg)  : FnOk P w K mg base (L2.CX P w) 1 f fd ["width", "bits", "place"] (spM 3 T (aCons (fz cInt) (aCons (fz cTx) (aCons (fz cInt) aNil))) (fun x => p_context x.1 x.2.1 x.2.2.1) (fz cInt)) := by
  refine fn_mk F sc_p_context rfl fun cdv Ar outer s H E hr tk hp a ha => ?_
  obtain ⟨width, bits, place, _⟩ := a
  have nd := sc_p_context.nd
  show ∃ ts, SX _ _ _ _ _ _ ts (α := Int) ((Res.ok (0 : Int)).bind fun total => (fmod place width).bind fun column => ((if decide ((0 : Int) < column) then (idx bits (place - (1 : Int))).bind fun v2 => Res.ok (decide ([v2] = (tx "1"))) else Res.ok false).bind fun b5 => if b5 then (Res.ok (total + (1 : Int))).bind fun total => Res.ok total else Res.ok total : Res (Int)).bind fun s4 => if decide (place < width) then Res.ok s4 else ((if decide ((0 : Int) < column) then (idx bits ((place - width) - (1 : Int))).bind fun v6 => Res.ok (decide ([v6] = (tx "1"))) else Res.ok false).bind fun b9 => if b9 then (Res.ok (s4 + (2 : Int))).bind fun total => Res.ok total else Res.ok s4 : Res (Int)).bind fun s8 => (((idx bits (place - width)).bind fun v10 => Res.ok (decide ([v10] = (tx "1")))).bind fun b12 => if b12 then (Res.ok (s8 + (4 : Int))).bind fun total => Res.ok total else Res.ok s8 : Res (Int)).bind fun s11 => ((if decide ((column + (1 : Int)) < width) then (idx bits ((place - width) + (1 : Int))).bind fun v13 => Res.ok (decide ([v13] = (tx "1"))) else Res.ok false).bind fun b16 => if b16 then (Res.ok (s11 + (8 : Int))).bind fun total => Res.ok total else Res.ok s11 : Res (Int)).bind fun s15 => Res.ok s15) _
  exact ⟨_, sx_cons (s1_set (i := 3) (R' := fz cInt) (ex_int) (hN := nd)) fun total => sx_cons (s1_set (i := 4) (R' := fz cInt) (ex_op op_mod (ex_var 2) (fun _ => (ex_var 0)) fun _ _ => o_mod) (hN := nd)) fun column => sx_cons (s1_ifM (I := fun (s4 : Int) => .nx [some (fz cInt width), some (fz cTx bits), some (fz cInt place), some (fz cInt s4), some (fz cInt column)]) (et_ew (ew_andM (et_cmp op_gt (ex_var 4) (fun _ => ex_int) (fun _ _ => o_gt) (nomark _)) (fun _ => (ew_and1 (et_cmp op_eq (ex_ix L2.ix_str (ex_var 1) (fun _ => (ex_op op_sub (ex_var 2) (fun _ => ex_int) fun _ _ => o_sub)) fun _ _ => o_ixS) (fun _ => ex_str) (fun _ _ => o_eq eqs_tx) (nomark _)))))) (sx_cons (s1_set (i := 3) (R' := fz cInt) (ex_op op_add (ex_var 3) (fun _ => ex_int) fun _ _ => o_add) (hN := nd)) fun total => sx_nil ((wkm [true, true, true, true, true]))) (sx_nil ((wkm [true, true, true, true, true])))) fun s4 => sx_ifret (et_cmp op_lt (ex_var 2) (fun _ => (ex_var 0)) (fun _ _ => o_lt) (nomark _)) (sx_ret (ex_var 3) (fun _ => rfl)) (sx_cons (s1_ifM (I := fun (s8 : Int) => .nx [some (fz cInt width), some (fz cTx bits), some (fz cInt place), some (fz cInt s8), some (fz cInt column)]) (et_ew (ew_andM (et_cmp op_gt (ex_var 4) (fun _ => ex_int) (fun _ _ => o_gt) (nomark _)) (fun _ => (ew_and1 (et_cmp op_eq (ex_ix L2.ix_str (ex_var 1) (fun _ => (ex_op op_sub (ex_op op_sub (ex_var 2) (fun _ => (ex_var 0)) fun _ _ => o_sub) (fun _ => ex_int) fun _ _ => o_sub)) fun _ _ => o_ixS) (fun _ => ex_str) (fun _ _ => o_eq eqs_tx) (nomark _)))))) (sx_cons (s1_set (i := 3) (R' := fz cInt) (ex_op op_add (ex_var 3) (fun _ => ex_int) fun _ _ => o_add) (hN := nd)) fun total => sx_nil ((wkm [true, true, true, true, true]))) (sx_nil ((wkm [true, true, true, true, true])))) fun s8 => sx_cons (s1_ifM (I := fun (s11 : Int) => .nx [some (fz cInt width), some (fz cTx bits), some (fz cInt place), some (fz cInt s11), some (fz cInt column)]) (et_cmp op_eq (ex_ix L2.ix_str (ex_var 1) (fun _ => (ex_op op_sub (ex_var 2) (fun _ => (ex_var 0)) fun _ _ => o_sub)) fun _ _ => o_ixS) (fun _ => ex_str) (fun _ _ => o_eq eqs_tx) (nomark _)) (sx_cons (s1_set (i := 3) (R' := fz cInt) (ex_op op_add (ex_var 3) (fun _ => ex_int) fun _ _ => o_add) (hN := nd)) fun total => sx_nil ((wkm [true, true, true, true, true]))) (sx_nil ((wkm [true, true, true, true, true])))) fun s11 => sx_cons (s1_ifM (I := fun (s15 : Int) => .nx [some (fz cInt width), some (fz cTx bits), some (fz cInt place), some (fz cInt s15), some (fz cInt column)]) (et_ew (ew_andM (et_cmp op_lt (ex_op op_add (ex_var 4) (fun _ => ex_int) fun _ _ => o_add) (fun _ => (ex_var 0)) (fun _ _ => o_lt) (nomark _)) (fun _ => (ew_and1 (et_cmp op_eq (ex_ix L2.ix_str (ex_var 1) (fun _ => (ex_op op_add (ex_op op_sub (ex_var 2) (fun _ => (ex_var 0)) fun _ _ => o_sub) (fun _ => ex_int) fun _ _ => o_add)) fun _ _ => o_ixS) (fun _ => ex_str) (fun _ _ => o_eq eqs_tx) (nomark _)))))) (sx_cons (s1_set (i := 3) (R' := fz cInt) (ex_op op_add (ex_var 3) (fun _ => ex_int) fun _ _ => o_add) (hN := nd)) fun total => sx_nil ((wkm [true, true, true, true, true]))) (sx_nil ((wkm [true, true, true, true, true])))) fun s15 => sx_ret (ex_var 3) (fun _ => rfl))⟩

abbrev s_p_interval : Stmt := topS 11
abbrev N_p_interval : List Str := ["width", "bits", "low", "size", "whole", "zeros", "ones", "place", "bit", "here", "total"]
theorem sc_p_interval : FnScope N_p_interval ["width", "bits"] (defScope s_p_interval) := ⟨rfl, rfl, rfl, by decide +kernel, rfl, by decide +kernel, by decide +kernel⟩
theorem fn_p_interval {f : Addr} {fd : FuncData} (F : Fun K "interval" "interval" s_p_interval f fd) (B : Txt K CO T mg) (k_p_context : Kn P w K mg base 1 "context" ["width", "bits", "place"] (spM 3 T (aCons (fz cInt) (aCons (fz cTx) (aCons (fz cInt) aNil))) (fun x => p_context x.1 x.2.1 x.2.2.1) (fz cInt))) : FnOk P w K mg base (L2.CX P w) 2 f fd ["width", "bits"] (spM 2 T (aCons (fz cInt) (aCons (fz cTx) aNil)) (fun x => p_interval x.1 x.2.1) (fz (cTup K (dCons cInt (dCons cInt (dOne cInt)))))) := by
  refine fn_mk F sc_p_interval rfl fun cdv Ar outer s H E hr tk hp a ha => ?_
  obtain ⟨width, bits, _⟩ := a
  have nd := sc_p_interval.nd
  show ∃ ts, SX _ _ _ _ _ _ ts (α := (Int × Int × Int)) ((Res.ok ((0 : Int), (1 : Int), (1 : Int))).bind fun t1 => (rep ([(1 : Int)] : List Int) (16 : Int)).bind fun zeros => (rep ([(1 : Int)] : List Int) (16 : Int)).bind fun ones => (fold (fun (x4 : (Int × Tx)) (s5 : Int × Int × Int × (List Int) × (List Int)) => (p_context width bits x4.1).bind fun here => ((idx s5.2.2.2.2 here).bind fun v7 => (idx s5.2.2.2.1 here).bind fun v8 => Res.ok (v7 + v8)).bind fun total => (mul s5.1 total).bind fun low => (mul s5.2.1 total).bind fun whole => (if decide (x4.2 = (tx "1")) then ((idx s5.2.2.2.2 here).bind fun v11 => (mul s5.2.2.1 v11).bind fun v12 => Res.ok (low + v12)).bind fun low => ((idx s5.2.2.2.1 here).bind fun v13 => mul s5.2.2.1 v13).bind fun size => ((idx s5.2.2.2.1 here).bind fun v15 => setI s5.2.2.2.1 here (v15 + (1 : Int))).bind fun ones => Res.ok (low, size, ones, s5.2.2.2.2) else ((idx s5.2.2.2.2 here).bind fun v16 => mul s5.2.2.1 v16).bind fun size => ((idx s5.2.2.2.2 here).bind fun v18 => setI s5.2.2.2.2 here (v18 + (1 : Int))).bind fun zeros => Res.ok (low, size, s5.2.2.2.1, zeros) : Res (Int × Int × (List Int) × (List Int))).bind fun s19 => Res.ok (s19.1, whole, s19.2.1, s19.2.2.1, s19.2.2.2)) (enumL (bits.map fun c => [c])) (t1.1, t1.2.2, t1.2.1, ones, zeros) : Res (Int × Int × Int × (List Int) × (List Int))).bind fun s5 => Res.ok (s5.1, s5.2.2.1, s5.2.1)) _
  exact ⟨_, sx_cons (s1_asgG (R' := fz (cTup K (dCons cInt (dCons cInt (dOne cInt))))) (ex_tup (K := K) (d := (dCons cInt (dCons cInt (dOne cInt)))) (ax_cons (ex_int) fun _ => ax_cons (ex_int) fun _ => ax_cons (ex_int) fun _ => ax_nil) (fun _ => tup_cons (tup_cons (tup_one)))) (fun _ => (gx_tup (gxs_cons (i := 2) (gxs_cons (i := 3) (gxs_one (i := 4) nd) nd) nd)))) fun t1 => sx_cons (s1_set (i := 5) (R' := ol cInt) (ex_op op_rep (ex_lst (c := cInt) (lx_cons (ex_int) fun _ => lx_nil)) (fun _ => ex_int) fun _ _ => o_rep (c := cInt) isL_o) (hN := nd)) fun zeros => sx_cons (s1_set (i := 6) (R' := ol cInt) (ex_op op_rep (ex_lst (c := cInt) (lx_cons (ex_int) fun _ => lx_nil)) (fun _ => ex_int) fun _ _ => o_rep (c := cInt) isL_o) (hN := nd)) fun ones => sx_cons (s1_for (s0 := fun _ => (t1.1, t1.2.2, t1.2.1, ones, zeros)) (f := fun (x4 : (Int × Tx)) (s5 : Int × Int × Int × (List Int) × (List Int)) => (p_context width bits x4.1).bind fun here => ((idx s5.2.2.2.2 here).bind fun v7 => (idx s5.2.2.2.1 here).bind fun v8 => Res.ok (v7 + v8)).bind fun total => (mul s5.1 total).bind fun low => (mul s5.2.1 total).bind fun whole => (if decide (x4.2 = (tx "1")) then ((idx s5.2.2.2.2 here).bind fun v11 => (mul s5.2.2.1 v11).bind fun v12 => Res.ok (low + v12)).bind fun low => ((idx s5.2.2.2.1 here).bind fun v13 => mul s5.2.2.1 v13).bind fun size => ((idx s5.2.2.2.1 here).bind fun v15 => setI s5.2.2.2.1 here (v15 + (1 : Int))).bind fun ones => Res.ok (low, size, ones, s5.2.2.2.2) else ((idx s5.2.2.2.2 here).bind fun v16 => mul s5.2.2.1 v16).bind fun size => ((idx s5.2.2.2.2 here).bind fun v18 => setI s5.2.2.2.2 here (v18 + (1 : Int))).bind fun zeros => Res.ok (low, size, s5.2.2.2.1, zeros) : Res (Int × Int × (List Int) × (List Int))).bind fun s19 => Res.ok (s19.1, whole, s19.2.1, s19.2.2.1, s19.2.2.2)) (Γn := fun (s5 : Int × Int × Int × (List Int) × (List Int)) => [some (fz cInt width), some (fz cTx bits), some (fz cInt s5.1), some (fz cInt s5.2.2.1), some (fz cInt s5.2.1), some (ol cInt s5.2.2.2.2), some (ol cInt s5.2.2.2.1), none, none, none, none]) (ix_enumT (AX.as (ax_cons (ex_var 1) fun _ => ax_nil)) B.b_enumerate) (fun s5 x4 => gx_tup (gxs_cons (i := 7) (gxs_one (i := 8) nd) nd)) (fun x4 s5 => sx_cons (s1_set (i := 9) (R' := fz cInt) (ex_callK k_p_context hr tk (fun _ => rfl) (ax_cons (ex_var 0) fun _ => ax_cons (ex_var 1) fun _ => ax_cons (ex_var 7) fun _ => ax_nil) (fun _ => arg_cons (arg_cons (arg_cons (arg_nil)))) (fun _ => wk_rep rfl)) (hN := nd)) fun here => sx_cons (s1_set (i := 10) (R' := fz cInt) (ex_op op_add (ex_ixO 5 (c := cInt) (ex_var 9)) (fun _ => (ex_ixO 6 (c := cInt) (ex_var 9))) fun _ _ => o_add) (hN := nd)) fun total => sx_cons (s1_set (i := 2) (R' := fz cInt) (ex_op op_mulX (ex_var 2) (fun _ => (ex_var 10)) fun _ _ => o_mul) (hN := nd)) fun low => sx_cons (s1_set (i := 4) (R' := fz cInt) (ex_op op_mulX (ex_var 4) (fun _ => (ex_var 10)) fun _ _ => o_mul) (hN := nd)) fun whole => sx_cons (s1_if (I := fun (s19 : Int × Int × (List Int) × (List Int)) => .nx [some (fz cInt width), some (fz cTx bits), some (fz cInt s19.1), some (fz cInt s19.2.1), some (fz cInt whole), some (ol cInt s19.2.2.2), some (ol cInt s19.2.2.1), some (fz cInt x4.1), some (fz cTx x4.2), some (fz cInt here), some (fz cInt total)]) (et_cmp op_eq (ex_var 8) (fun _ => ex_str) (fun _ _ => o_eq eqs_tx) (nomark _)) (sx_cons (s1_set (i := 2) (R' := fz cInt) (ex_op op_add (ex_var 2) (fun _ => (ex_op op_mulX (ex_var 3) (fun _ => (ex_ixO 5 (c := cInt) (ex_var 9))) fun _ _ => o_mul)) fun _ _ => o_add) (hN := nd)) fun low => sx_cons (s1_set (i := 3) (R' := fz cInt) (ex_op op_mulX (ex_var 3) (fun _ => (ex_ixO 6 (c := cInt) (ex_var 9))) fun _ _ => o_mul) (hN := nd)) fun size => sx_cons (s1_setI (i := 6) (c := cInt) (ex_op op_add (ex_ixO 6 (c := cInt) (ex_var 9)) (fun _ => ex_int) fun _ _ => o_add) (fun _ => (ex_var 9))) fun ones => sx_nil ((wkm [true, true, true, true, true, true, true, true, true, true, true]))) (sx_cons (s1_set (i := 3) (R' := fz cInt) (ex_op op_mulX (ex_var 3) (fun _ => (ex_ixO 5 (c := cInt) (ex_var 9))) fun _ _ => o_mul) (hN := nd)) fun size => sx_cons (s1_setI (i := 5) (c := cInt) (ex_op op_add (ex_ixO 5 (c := cInt) (ex_var 9)) (fun _ => ex_int) fun _ _ => o_add) (fun _ => (ex_var 9))) fun zeros => sx_nil ((wkm [true, true, true, true, true, true, true, true, true, true, true])))) fun s19 => sx_nil ((wkm [true, true, true, true, true, true, true, false, false, false, false]))) (fun _ => (wkm [true, true, true, true, true, true, true, false, false, false, false])) hp) fun s5 => sx_ret (ex_tup (K := K) (d := (dCons cInt (dCons cInt (dOne cInt)))) (ax_cons (ex_var 2) fun _ => ax_cons (ex_var 3) fun _ => ax_cons (ex_var 4) fun _ => ax_nil) (fun _ => tup_cons (tup_cons (tup_one)))) (fun _ => rfl)⟩

abbrev s_p_shares : Stmt := topS 10
abbrev N_p_shares : List Str := ["width", "bits", "place", "here", "zeros", "ones", "earlier"]
theorem sc_p_shares : FnScope N_p_shares ["width", "bits", "place"] (defScope s_p_shares) := ⟨rfl, rfl, rfl, by decide +kernel, rfl, by decide +kernel, by decide +kernel⟩
theorem fn_p_shares {f : Addr} {fd : FuncData} (F : Fun K "shares" "shares" s_p_shares f fd) (B : Txt K CO T mg) (k_p_context : Kn P w K mg base 1 "context" ["width", "bits", "place"] (spM 3 T (aCons (fz cInt) (aCons (fz cTx) (aCons (fz cInt) aNil))) (fun x => p_context x.1 x.2.1 x.2.2.1) (fz cInt))) : FnOk P w K mg base (L2.CX P w) 2 f fd ["width", "bits", "place"] (spM 3 T (aCons (fz cInt) (aCons (fz cTx) (aCons (fz cInt) aNil))) (fun x => p_shares x.1 x.2.1 x.2.2.1) (fz (cTup K (dCons cInt (dOne cInt))))) := by
  refine fn_mk F sc_p_shares rfl fun cdv Ar outer s H E hr tk hp a ha => ?_
  obtain ⟨width, bits, place, _⟩ := a
  have nd := sc_p_shares.nd
  show ∃ ts, SX _ _ _ _ _ _ ts (α := (Int × Int)) ((p_context width bits place).bind fun here => (Res.ok (1 : Int)).bind fun zeros => (Res.ok (1 : Int)).bind fun ones => ((rng 0 place).bind fun xs2 => fold (fun (x3 : Int) (s4 : Int × Int) => (((p_context width bits x3).bind fun v5 => Res.ok (decide (v5 = here))).bind fun b10 => if b10 then (((idx bits x3).bind fun v6 => Res.ok (decide ([v6] = (tx "1")))).bind fun b8 => if b8 then (Res.ok (s4.1 + (1 : Int))).bind fun ones => Res.ok (ones, s4.2) else (Res.ok (s4.2 + (1 : Int))).bind fun zeros => Res.ok (s4.1, zeros) : Res (Int × Int)).bind fun s7 => Res.ok (s7.1, s7.2) else Res.ok (s4.1, s4.2) : Res (Int × Int)).bind fun s9 => Res.ok (s9.1, s9.2)) xs2 (ones, zeros) : Res (Int × Int)).bind fun s4 => Res.ok (s4.2, s4.1)) _
  exact ⟨_, sx_cons (s1_set (i := 3) (R' := fz cInt) (ex_callK k_p_context hr tk (fun _ => rfl) (ax_cons (ex_var 0) fun _ => ax_cons (ex_var 1) fun _ => ax_cons (ex_var 2) fun _ => ax_nil) (fun _ => arg_cons (arg_cons (arg_cons (arg_nil)))) (fun _ => wk_rep rfl)) (hN := nd)) fun here => sx_cons (s1_set (i := 4) (R' := fz cInt) (ex_int) (hN := nd)) fun zeros => sx_cons (s1_set (i := 5) (R' := fz cInt) (ex_int) (hN := nd)) fun ones => sx_cons (s1_for (s0 := fun _ => (ones, zeros)) (f := fun (x3 : Int) (s4 : Int × Int) => (((p_context width bits x3).bind fun v5 => Res.ok (decide (v5 = here))).bind fun b10 => if b10 then (((idx bits x3).bind fun v6 => Res.ok (decide ([v6] = (tx "1")))).bind fun b8 => if b8 then (Res.ok (s4.1 + (1 : Int))).bind fun ones => Res.ok (ones, s4.2) else (Res.ok (s4.2 + (1 : Int))).bind fun zeros => Res.ok (s4.1, zeros) : Res (Int × Int)).bind fun s7 => Res.ok (s7.1, s7.2) else Res.ok (s4.1, s4.2) : Res (Int × Int)).bind fun s9 => Res.ok (s9.1, s9.2)) (Γn := fun (s4 : Int × Int) => [some (fz cInt width), some (fz cTx bits), some (fz cInt place), some (fz cInt here), some (fz cInt s4.2), some (fz cInt s4.1), none]) (ix_range1 (AX.as (ax_cons (ex_var 2) fun _ => ax_nil)) B.b_range) (fun s4 x3 => gx_name (i := 6) nd) (fun x3 s4 => sx_cons (s1_ifM (I := fun (s9 : Int × Int) => .nx [some (fz cInt width), some (fz cTx bits), some (fz cInt place), some (fz cInt here), some (fz cInt s9.2), some (fz cInt s9.1), some (fz cInt x3)]) (et_cmp op_eq (ex_callK k_p_context hr tk (fun _ => rfl) (ax_cons (ex_var 0) fun _ => ax_cons (ex_var 1) fun _ => ax_cons (ex_var 6) fun _ => ax_nil) (fun _ => arg_cons (arg_cons (arg_cons (arg_nil)))) (fun _ => wk_rep rfl)) (fun _ => (ex_var 3)) (fun _ _ => o_eq eqs_int) (nomark _)) (sx_cons (s1_ifM (I := fun (s7 : Int × Int) => .nx [some (fz cInt width), some (fz cTx bits), some (fz cInt place), some (fz cInt here), some (fz cInt s7.2), some (fz cInt s7.1), some (fz cInt x3)]) (et_cmp op_eq (ex_ix L2.ix_str (ex_var 1) (fun _ => (ex_var 6)) fun _ _ => o_ixS) (fun _ => ex_str) (fun _ _ => o_eq eqs_tx) (nomark _)) (sx_cons (s1_set (i := 5) (R' := fz cInt) (ex_op op_add (ex_var 5) (fun _ => ex_int) fun _ _ => o_add) (hN := nd)) fun ones => sx_nil ((wkm [true, true, true, true, true, true, true]))) (sx_cons (s1_set (i := 4) (R' := fz cInt) (ex_op op_add (ex_var 4) (fun _ => ex_int) fun _ _ => o_add) (hN := nd)) fun zeros => sx_nil ((wkm [true, true, true, true, true, true, true])))) fun s7 => sx_nil ((wkm [true, true, true, true, true, true, true]))) (sx_nil ((wkm [true, true, true, true, true, true, true])))) fun s9 => sx_nil ((wkm [true, true, true, true, true, true, false]))) (fun _ => (wkm [true, true, true, true, true, true, false])) hp) fun s4 => sx_ret (ex_tup (K := K) (d := (dCons cInt (dOne cInt))) (ax_cons (ex_var 4) fun _ => ax_cons (ex_var 5) fun _ => ax_nil) (fun _ => tup_cons (tup_one))) (fun _ => rfl)⟩

abbrev s_p_digits_value : Stmt := topS 14
abbrev N_p_digits_value : List Str := ["digits", "number", "digit"]
theorem sc_p_digits_value : FnScope N_p_digits_value ["digits"] (defScope s_p_digits_value) := ⟨rfl, rfl, rfl, by decide +kernel, rfl, by decide +kernel, by decide +kernel⟩
theorem fn_p_digits_value {f : Addr} {fd : FuncData} (F : Fun K "digits_value" "digits_value" s_p_digits_value f fd) (B : Txt K CO T mg)  : FnOk P w K mg base (L2.CX P w) 1 f fd ["digits"] (spM 1 T (aCons (fz cTx) aNil) (fun x => p_digits_value x.1) (fz cInt)) := by
  refine fn_mk F sc_p_digits_value rfl fun cdv Ar outer s H E hr tk hp a ha => ?_
  obtain ⟨digits, _⟩ := a
  have nd := sc_p_digits_value.nd
  show ∃ ts, SX _ _ _ _ _ _ ts (α := Int) ((Res.ok (0 : Int)).bind fun number => (fold (fun (x1 : Nat) (s2 : Int) => (Res.ok (((2 : Int) * s2) + (if decide ([x1] = (tx "1")) then (1 : Int) else (0 : Int)))).bind fun number => Res.ok number) digits number : Res (Int)).bind fun s2 => Res.ok s2) _
  exact ⟨_, sx_cons (s1_set (i := 1) (R' := fz cInt) (ex_int) (hN := nd)) fun number => sx_cons (s1_for (s0 := fun _ => number) (f := fun (x1 : Nat) (s2 : Int) => (Res.ok (((2 : Int) * s2) + (if decide ([x1] = (tx "1")) then (1 : Int) else (0 : Int)))).bind fun number => Res.ok number) (Γn := fun (s2 : Int) => [some (fz cTx digits), some (fz cInt s2), none]) (ix_str (ex_var 0)) (fun s2 x1 => gx_name (i := 2) nd) (fun x1 s2 => sx_cons (s1_set (i := 1) (R' := fz cInt) (ex_op op_add (ex_op op_mul (ex_int) (fun _ => (ex_var 1)) fun _ _ => o_mulL) (fun _ => (ex_if (r := fz cInt) (et_cmp op_eq (ex_var 2) (fun _ => ex_str) (fun _ _ => o_eq eqs_tx) (nomark _)) (fun _ => ex_int) (fun _ => ex_int))) fun _ _ => o_add) (hN := nd)) fun number => sx_nil ((wkm [true, true, false]))) (fun _ => (wkm [true, true, false])) hp) fun s2 => sx_ret (ex_var 1) (fun _ => rfl)⟩

abbrev s_p_last_with_zero : Stmt := topS 18
abbrev N_p_last_with_zero : List Str := ["bits", "more"]
theorem sc_p_last_with_zero : FnScope N_p_last_with_zero ["bits", "more"] (defScope s_p_last_with_zero) := ⟨rfl, rfl, rfl, by decide +kernel, rfl, by decide +kernel, by decide +kernel⟩
theorem fn_p_last_with_zero {f : Addr} {fd : FuncData} (F : Fun K "last_with_zero" "last_with_zero" s_p_last_with_zero f fd) (B : Txt K CO T mg)  : FnOk P w K mg base (L2.CX P w) 1 f fd ["bits", "more"] (spM 2 T (aCons (fz cTx) (aCons (fz cInt) aNil)) (fun x => p_last_with_zero x.1 x.2.1) (fz cTx)) := by
  refine fn_mk F sc_p_last_with_zero rfl fun cdv Ar outer s H E hr tk hp a ha => ?_
  obtain ⟨bits, more, _⟩ := a
  have nd := sc_p_last_with_zero.nd
  show ∃ ts, SX _ _ _ _ _ _ ts (α := Tx) ((cat bits (tx "0")).bind fun v1 => (rep (tx "1") more).bind fun v2 => cat v1 v2) _
  exact ⟨_, sx_ret (ex_op op_add_str (ex_op op_add_str (ex_var 0) (fun _ => ex_str) fun _ _ => o_addS) (fun _ => (ex_op op_repN (ex_str) (fun _ => (ex_var 1)) fun _ _ => o_repN)) fun _ _ => o_addS) (fun _ => rfl)⟩

abbrev s_p_digits_text : Stmt := topS 15
abbrev N_p_digits_text : List Str := ["number", "many", "place"]
theorem sc_p_digits_text : FnScope N_p_digits_text ["number", "many"] (defScope s_p_digits_text) := ⟨rfl, rfl, rfl, by decide +kernel, rfl, by decide +kernel, by decide +kernel⟩
theorem fn_p_digits_text {f : Addr} {fd : FuncData} (F : Fun K "digits_text" "digits_text" s_p_digits_text f fd) (B : Txt K CO T mg)  : FnOk P w K mg base (L2.CX P w) 1 f fd ["number", "many"] (spM 2 T (aCons (fz cInt) (aCons (fz cInt) aNil)) (fun x => p_digits_text x.1 x.2.1) (fz cTx)) := by
  refine fn_mk F sc_p_digits_text rfl fun cdv Ar outer s H E hr tk hp a ha => ?_
  obtain ⟨number, many, _⟩ := a
  have nd := sc_p_digits_text.nd
  show ∃ ts, SX _ _ _ _ _ _ ts (α := Tx) ((rng 0 many).bind fun xs1 => (mapC (fun x2 => (shr number x2).bind fun v3 => Res.ok (if (!decide ((v3 % 2 ^ 1) = 0)) then (tx "1") else (tx "0"))) xs1.reverse).bind fun v4 => joinS (tx "") v4) _
  exact ⟨_, sx_ret (ex_join (ex_str) (fun _ => (EX.icy (EX.as (ex_lc (f := fun _ (x2 : Int) => (shr number x2).bind fun v3 => Res.ok (if (!decide ((v3 % 2 ^ 1) = 0)) then (tx "1") else (tx "0"))) (own := [("place", 2)]) (c := cTx) (Γe := List.replicate 3 none) nd (ix_rev1 (ex_var 1) B.b_range B.b_reversed) (blkOk_by (N := N_p_digits_text) (sc := defScope s_p_digits_text) (by decide +kernel)) (fun _ _ _ _ _ _ _ => gx_name (i := 2) nd) (fun _ _ _ _ _ _ _ => (ex_if (r := fz cTx) (et_int (EX.as (ex_op op_andM (ex_op op_shr (ex_var 0) (fun _ => (ex_var 2)) fun _ _ => o_shr) (fun _ => ex_int) fun _ _ => (o_mask 1)))) (fun _ => ex_str) (fun _ => ex_str))) (hd := fun _ _ => (wkm [true, true, false]))))))) (fun _ => rfl)⟩

abbrev s_p_code_ : Stmt := topS 16
abbrev N_p_code_ : List Str := ["width", "bits", "low", "size", "whole", "many", "first"]
theorem sc_p_code_ : FnScope N_p_code_ ["width", "bits"] (defScope s_p_code_) := ⟨rfl, rfl, rfl, by decide +kernel, rfl, by decide +kernel, by decide +kernel⟩
theorem fn_p_code_ {f : Addr} {fd : FuncData} (F : Fun K "_code" "_code" s_p_code_ f fd) (B : Txt K CO T mg) (k_p_interval : Kn P w K mg base 2 "interval" ["width", "bits"] (spM 2 T (aCons (fz cInt) (aCons (fz cTx) aNil)) (fun x => p_interval x.1 x.2.1) (fz (cTup K (dCons cInt (dCons cInt (dOne cInt))))))) (k_p_digits_text : Kn P w K mg base 1 "digits_text" ["number", "many"] (spM 2 T (aCons (fz cInt) (aCons (fz cInt) aNil)) (fun x => p_digits_text x.1 x.2.1) (fz cTx))) : FnOk P w K mg base (L2.CX P w) 3 f fd ["width", "bits"] (spM 2 T (aCons (fz cInt) (aCons (fz cTx) aNil)) (fun x => p_code_ x.1 x.2.1) (fz cTx)) := by
  refine fn_mk F sc_p_code_ rfl fun cdv Ar outer s H E hr tk hp a ha => ?_
  obtain ⟨width, bits, _⟩ := a
  have nd := sc_p_code_.nd
  show ∃ ts, SX _ _ _ _ _ _ ts (α := Tx) ((p_interval width bits).bind fun t2 => ((fdiv t2.2.2 t2.2.1).bind fun v3 => Res.ok ((nbits v3 : Int) - (1 : Int))).bind fun many => withCtl (whil (B := Tx) (fun (s4 : Int) => Res.ok true) (fun (s4 : Int) => ((shl (-t2.1) s4).bind fun v5 => (fdiv v5 t2.2.2).bind fun v6 => Res.ok (-v6)).bind fun first => ((mul (first + (1 : Int)) t2.2.2).bind fun v7 => (shl (t2.1 + t2.2.1) s4).bind fun v8 => Res.ok (decide (v7 ≤ v8))).bind fun b10 => if b10 then (p_digits_text first s4).bind fun a => Res.ok (.ret a) else (Res.ok (s4 + (1 : Int))).bind fun many => Res.ok (.nx many)) 1000 many : Res (Ctl (Int) Tx)) fun s4 => .stuck) _
  exact ⟨_, sx_cons (s1_asgG (R' := fz (cTup K (dCons cInt (dCons cInt (dOne cInt))))) (ex_callK k_p_interval hr tk (fun _ => rfl) (ax_cons (ex_var 0) fun _ => ax_cons (ex_var 1) fun _ => ax_nil) (fun _ => arg_cons (arg_cons (arg_nil))) (fun _ => wk_rep rfl)) (fun _ => (gx_tup (gxs_cons (i := 2) (gxs_cons (i := 3) (gxs_one (i := 4) nd) nd) nd)))) fun t2 => sx_cons (s1_set (i := 5) (R' := fz cInt) (ex_op op_sub (ex_bits (EX.as (ex_op op_fdivW (ex_var 4) (fun _ => (ex_var 3)) fun _ _ => o_fdiv))) (fun _ => ex_int) fun _ _ => o_sub) (hN := nd)) fun many => sx_with (s1_whileC (s0 := many) (t := fun (s4 : Int) => Res.ok true) (f := fun (s4 : Int) => ((shl (-t2.1) s4).bind fun v5 => (fdiv v5 t2.2.2).bind fun v6 => Res.ok (-v6)).bind fun first => ((mul (first + (1 : Int)) t2.2.2).bind fun v7 => (shl (t2.1 + t2.2.1) s4).bind fun v8 => Res.ok (decide (v7 ≤ v8))).bind fun b10 => if b10 then (p_digits_text first s4).bind fun a => Res.ok (.ret a) else (Res.ok (s4 + (1 : Int))).bind fun many => Res.ok (.nx many)) (Γn := fun (s4 : Int) => [some (fz cInt width), some (fz cTx bits), some (fz cInt t2.1), some (fz cInt t2.2.1), some (fz cInt t2.2.2), some (fz cInt s4), none]) (RB := fz cTx) (LB := fun _ => []) (fun s4 => et_val (ex_bl)) (hb := fun s4 => sx_cons (s1_set (i := 6) (R' := fz cInt) (ex_un un_neg (ex_op op_fdivW (ex_op op_shlW (ex_un un_neg (ex_var 2) fun _ => o_neg) (fun _ => (ex_var 5)) fun _ _ => o_shl) (fun _ => (ex_var 4)) fun _ _ => o_fdiv) fun _ => o_neg) (hN := nd)) fun first => sx_ifretC (j := Ctl.ret) (et_cmp op_le (ex_op op_mulX (ex_op op_add (ex_var 6) (fun _ => ex_int) fun _ _ => o_add) (fun _ => (ex_var 4)) fun _ _ => o_mul) (fun _ => (ex_op op_shlW (ex_op op_add (ex_var 2) (fun _ => (ex_var 3)) fun _ _ => o_add) (fun _ => (ex_var 5)) fun _ _ => o_shl)) (fun _ _ => o_le) (nomark _)) (sx_ret (ex_callK k_p_digits_text hr tk (fun _ => rfl) (ax_cons (ex_var 6) fun _ => ax_cons (ex_var 5) fun _ => ax_nil) (fun _ => arg_cons (arg_cons (arg_nil))) (fun _ => wk_rep rfl)) (fun _ => rfl)) (sx_cons (s1_set (i := 5) (R' := fz cInt) (ex_op op_add (ex_var 5) (fun _ => ex_int) fun _ _ => o_add) (hN := nd)) fun many => sx_nilC ((wkm [true, true, true, true, true, true, false])))) (h0 := (wkm [true, true, true, true, true, true, false])) (hp := hp)) fun s4 => sx_dead⟩

abbrev s_p_opens : Stmt := topS 17
abbrev N_p_opens : List Str := ["width", "code", "bits"]
theorem sc_p_opens : FnScope N_p_opens ["width", "code", "bits"] (defScope s_p_opens) := ⟨rfl, rfl, rfl, by decide +kernel, rfl, by decide +kernel, by decide +kernel⟩
theorem fn_p_opens {f : Addr} {fd : FuncData} (F : Fun K "opens" "opens" s_p_opens f fd) (B : Txt K CO T mg) (k_p_code_ : Kn P w K mg base 3 "_code" ["width", "bits"] (spM 2 T (aCons (fz cInt) (aCons (fz cTx) aNil)) (fun x => p_code_ x.1 x.2.1) (fz cTx))) : FnOk P w K mg base (L2.CX P w) 4 f fd ["width", "code", "bits"] (spM 3 T (aCons (fz cInt) (aCons (fz cTx) (aCons (fz cTx) aNil))) (fun x => p_opens x.1 x.2.1 x.2.2.1) (fz cBool)) := by
  refine fn_mk F sc_p_opens rfl fun cdv Ar outer s H E hr tk hp a ha => ?_
  obtain ⟨width, code, bits, _⟩ := a
  have nd := sc_p_opens.nd
  show ∃ ts, SX _ _ _ _ _ _ ts (α := Bool) ((p_code_ width bits).bind fun v1 => Res.ok (starts v1 code)) _
  exact ⟨_, sx_ret (ex_starts (EX.as (ex_callK k_p_code_ hr tk (fun _ => rfl) (ax_cons (ex_var 0) fun _ => ax_cons (ex_var 2) fun _ => ax_nil) (fun _ => arg_cons (arg_cons (arg_nil))) (fun _ => wk_rep rfl))) (fun _ => (ex_var 1))) (fun _ => rfl)⟩

abbrev s_p_first_with_one : Stmt := topS 19
abbrev N_p_first_with_one : List Str := ["bits", "more"]
theorem sc_p_first_with_one : FnScope N_p_first_with_one ["bits", "more"] (defScope s_p_first_with_one) := ⟨rfl, rfl, rfl, by decide +kernel, rfl, by decide +kernel, by decide +kernel⟩
theorem fn_p_first_with_one {f : Addr} {fd : FuncData} (F : Fun K "first_with_one" "first_with_one" s_p_first_with_one f fd) (B : Txt K CO T mg)  : FnOk P w K mg base (L2.CX P w) 1 f fd ["bits", "more"] (spM 2 T (aCons (fz cTx) (aCons (fz cInt) aNil)) (fun x => p_first_with_one x.1 x.2.1) (fz cTx)) := by
  refine fn_mk F sc_p_first_with_one rfl fun cdv Ar outer s H E hr tk hp a ha => ?_
  obtain ⟨bits, more, _⟩ := a
  have nd := sc_p_first_with_one.nd
  show ∃ ts, SX _ _ _ _ _ _ ts (α := Tx) ((cat bits (tx "1")).bind fun v1 => (rep (tx "0") more).bind fun v2 => cat v1 v2) _
  exact ⟨_, sx_ret (ex_op op_add_str (ex_op op_add_str (ex_var 0) (fun _ => ex_str) fun _ _ => o_addS) (fun _ => (ex_op op_repN (ex_str) (fun _ => (ex_var 1)) fun _ _ => o_repN)) fun _ _ => o_addS) (fun _ => rfl)⟩

abbrev s_p_next_bit_ : Stmt := topS 20
abbrev N_p_next_bit_ : List Str := ["width", "count", "code", "bits", "low", "size", "whole", "zeros", "ones", "border", "number", "more", "low_is_possible", "high_is_possible"]
theorem sc_p_next_bit_ : FnScope N_p_next_bit_ ["width", "count", "code", "bits"] (defScope s_p_next_bit_) := ⟨rfl, rfl, rfl, by decide +kernel, rfl, by decide +kernel, by decide +kernel⟩
theorem fn_p_next_bit_ {f : Addr} {fd : FuncData} (F : Fun K "_next_bit" "_next_bit" s_p_next_bit_ f fd) (B : Txt K CO T mg) (k_p_interval : Kn P w K mg base 2 "interval" ["width", "bits"] (spM 2 T (aCons (fz cInt) (aCons (fz cTx) aNil)) (fun x => p_interval x.1 x.2.1) (fz (cTup K (dCons cInt (dCons cInt (dOne cInt))))))) (k_p_shares : Kn P w K mg base 2 "shares" ["width", "bits", "place"] (spM 3 T (aCons (fz cInt) (aCons (fz cTx) (aCons (fz cInt) aNil))) (fun x => p_shares x.1 x.2.1 x.2.2.1) (fz (cTup K (dCons cInt (dOne cInt)))))) (k_p_digits_value : Kn P w K mg base 1 "digits_value" ["digits"] (spM 1 T (aCons (fz cTx) aNil) (fun x => p_digits_value x.1) (fz cInt))) (k_p_last_with_zero : Kn P w K mg base 1 "last_with_zero" ["bits", "more"] (spM 2 T (aCons (fz cTx) (aCons (fz cInt) aNil)) (fun x => p_last_with_zero x.1 x.2.1) (fz cTx))) (k_p_opens : Kn P w K mg base 4 "opens" ["width", "code", "bits"] (spM 3 T (aCons (fz cInt) (aCons (fz cTx) (aCons (fz cTx) aNil))) (fun x => p_opens x.1 x.2.1 x.2.2.1) (fz cBool))) (k_p_first_with_one : Kn P w K mg base 1 "first_with_one" ["bits", "more"] (spM 2 T (aCons (fz cTx) (aCons (fz cInt) aNil)) (fun x => p_first_with_one x.1 x.2.1) (fz cTx))) : FnOk P w K mg base (L2.CX P w) 5 f fd ["width", "count", "code", "bits"] (spM 4 T (aCons (fz cInt) (aCons (fz cInt) (aCons (fz cTx) (aCons (fz cTx) aNil)))) (fun x => p_next_bit_ x.1 x.2.1 x.2.2.1 x.2.2.2.1) (fz cTx)) := by
  refine fn_mk F sc_p_next_bit_ rfl fun cdv Ar outer s H E hr tk hp a ha => ?_
  obtain ⟨width, count, code, bits, _⟩ := a
  have nd := sc_p_next_bit_.nd
  show ∃ ts, SX _ _ _ _ _ _ ts (α := Tx) ((p_interval width bits).bind fun t2 => (p_shares width bits (bits.length : Int)).bind fun t4 => ((mul t2.1 (t4.1 + t4.2)).bind fun v5 => (mul t2.2.1 t4.1).bind fun v6 => Res.ok (v5 + v6)).bind fun border => (mul t2.2.2 (t4.1 + t4.2)).bind fun whole => (p_digits_value code).bind fun number => ((mul (number + (1 : Int)) whole).bind fun v9 => (shl border (code.length : Int)).bind fun v10 => Res.ok (decide (v9 ≤ v10))).bind fun b18 => if b18 then Res.ok (tx "0") else ((shl border (code.length : Int)).bind fun v11 => (mul number whole).bind fun v12 => Res.ok (decide (v11 ≤ v12))).bind fun b17 => if b17 then Res.ok (tx "1") else (Res.ok ((count - (bits.length : Int)) - (1 : Int))).bind fun more => ((p_last_with_zero bits more).bind fun v13 => p_opens width code v13).bind fun low_is_possible => ((p_first_with_one bits more).bind fun v15 => p_opens width code v15).bind fun high_is_possible => if (low_is_possible && high_is_possible) then Res.ok (tx "?") else if low_is_possible then Res.ok (tx "0") else Res.ok (if high_is_possible then (tx "1") else (tx ""))) _
  exact ⟨_, sx_cons (s1_asgG (R' := fz (cTup K (dCons cInt (dCons cInt (dOne cInt))))) (ex_callK k_p_interval hr tk (fun _ => rfl) (ax_cons (ex_var 0) fun _ => ax_cons (ex_var 3) fun _ => ax_nil) (fun _ => arg_cons (arg_cons (arg_nil))) (fun _ => wk_rep rfl)) (fun _ => (gx_tup (gxs_cons (i := 4) (gxs_cons (i := 5) (gxs_one (i := 6) nd) nd) nd)))) fun t2 => sx_cons (s1_asgG (R' := fz (cTup K (dCons cInt (dOne cInt)))) (ex_callK k_p_shares hr tk (fun _ => rfl) (ax_cons (ex_var 0) fun _ => ax_cons (ex_var 3) fun _ => ax_cons (ex_callB call_len_str B.b_len PySem.boot_len (ax_cons (ex_var 3) fun _ => ax_nil) fun _ => b_lenS) fun _ => ax_nil) (fun _ => arg_cons (arg_cons (arg_cons (arg_nil)))) (fun _ => wk_rep rfl)) (fun _ => (gx_tup (gxs_cons (i := 7) (gxs_one (i := 8) nd) nd)))) fun t4 => sx_cons (s1_set (i := 9) (R' := fz cInt) (ex_op op_add (ex_op op_mulX (ex_var 4) (fun _ => (ex_op op_add (ex_var 7) (fun _ => (ex_var 8)) fun _ _ => o_add)) fun _ _ => o_mul) (fun _ => (ex_op op_mulX (ex_var 5) (fun _ => (ex_var 7)) fun _ _ => o_mul)) fun _ _ => o_add) (hN := nd)) fun border => sx_cons (s1_set (i := 6) (R' := fz cInt) (ex_op op_mulX (ex_var 6) (fun _ => (ex_op op_add (ex_var 7) (fun _ => (ex_var 8)) fun _ _ => o_add)) fun _ _ => o_mul) (hN := nd)) fun whole => sx_cons (s1_set (i := 10) (R' := fz cInt) (ex_callK k_p_digits_value hr tk (fun _ => rfl) (ax_cons (ex_var 2) fun _ => ax_nil) (fun _ => arg_cons (arg_nil)) (fun _ => wk_rep rfl)) (hN := nd)) fun number => sx_ifretM (et_cmp op_le (ex_op op_mulX (ex_op op_add (ex_var 10) (fun _ => ex_int) fun _ _ => o_add) (fun _ => (ex_var 6)) fun _ _ => o_mul) (fun _ => (ex_op op_shlW (ex_var 9) (fun _ => (ex_callB call_len_str B.b_len PySem.boot_len (ax_cons (ex_var 2) fun _ => ax_nil) fun _ => b_lenS)) fun _ _ => o_shl)) (fun _ _ => o_le) (nomark _)) (sx_ret (ex_str) (fun _ => rfl)) (sx_ifretM (et_cmp op_le (ex_op op_shlW (ex_var 9) (fun _ => (ex_callB call_len_str B.b_len PySem.boot_len (ax_cons (ex_var 2) fun _ => ax_nil) fun _ => b_lenS)) fun _ _ => o_shl) (fun _ => (ex_op op_mulX (ex_var 10) (fun _ => (ex_var 6)) fun _ _ => o_mul)) (fun _ _ => o_le) (nomark _)) (sx_ret (ex_str) (fun _ => rfl)) (sx_cons (s1_set (i := 11) (R' := fz cInt) (ex_op op_sub (ex_op op_sub (ex_var 1) (fun _ => (ex_callB call_len_str B.b_len PySem.boot_len (ax_cons (ex_var 3) fun _ => ax_nil) fun _ => b_lenS)) fun _ _ => o_sub) (fun _ => ex_int) fun _ _ => o_sub) (hN := nd)) fun more => sx_cons (s1_set (i := 12) (R' := fz cBool) (ex_callK k_p_opens hr tk (fun _ => rfl) (ax_cons (ex_var 0) fun _ => ax_cons (ex_var 2) fun _ => ax_cons (ex_callK k_p_last_with_zero hr tk (fun _ => rfl) (ax_cons (ex_var 3) fun _ => ax_cons (ex_var 11) fun _ => ax_nil) (fun _ => arg_cons (arg_cons (arg_nil))) (fun _ => wk_rep rfl)) fun _ => ax_nil) (fun _ => arg_cons (arg_cons (arg_cons (arg_nil)))) (fun _ => wk_rep rfl)) (hN := nd)) fun low_is_possible => sx_cons (s1_set (i := 13) (R' := fz cBool) (ex_callK k_p_opens hr tk (fun _ => rfl) (ax_cons (ex_var 0) fun _ => ax_cons (ex_var 2) fun _ => ax_cons (ex_callK k_p_first_with_one hr tk (fun _ => rfl) (ax_cons (ex_var 3) fun _ => ax_cons (ex_var 11) fun _ => ax_nil) (fun _ => arg_cons (arg_cons (arg_nil))) (fun _ => wk_rep rfl)) fun _ => ax_nil) (fun _ => arg_cons (arg_cons (arg_cons (arg_nil)))) (fun _ => wk_rep rfl)) (hN := nd)) fun high_is_possible => sx_ifret (et_ew (ew_and (et_val (ex_var 12)) (fun _ => (ew_and1 (et_val (ex_var 13)))))) (sx_ret (ex_str) (fun _ => rfl)) (sx_ifret (et_val (ex_var 12)) (sx_ret (ex_str) (fun _ => rfl)) (sx_ret (ex_if (r := fz cTx) (et_val (ex_var 13)) (fun _ => ex_str) (fun _ => ex_str)) (fun _ => rfl)))))⟩

abbrev s_p_find_prefix : Stmt := topS 21
abbrev N_p_find_prefix : List Str := ["width", "count", "code", "bits", "_", "bit"]
theorem sc_p_find_prefix : FnScope N_p_find_prefix ["width", "count", "code"] (defScope s_p_find_prefix) := ⟨rfl, rfl, rfl, by decide +kernel, rfl, by decide +kernel, by decide +kernel⟩
theorem fn_p_find_prefix {f : Addr} {fd : FuncData} (F : Fun K "find_prefix" "find_prefix" s_p_find_prefix f fd) (B : Txt K CO T mg) (k_p_next_bit_ : Kn P w K mg base 5 "_next_bit" ["width", "count", "code", "bits"] (spM 4 T (aCons (fz cInt) (aCons (fz cInt) (aCons (fz cTx) (aCons (fz cTx) aNil)))) (fun x => p_next_bit_ x.1 x.2.1 x.2.2.1 x.2.2.2.1) (fz cTx))) (k_p_opens : Kn P w K mg base 4 "opens" ["width", "code", "bits"] (spM 3 T (aCons (fz cInt) (aCons (fz cTx) (aCons (fz cTx) aNil))) (fun x => p_opens x.1 x.2.1 x.2.2.1) (fz cBool))) : FnOk P w K mg base (L2.CX P w) 6 f fd ["width", "count", "code"] (spM 3 T (aCons (fz cInt) (aCons (fz cInt) (aCons (fz cTx) aNil))) (fun x => p_find_prefix x.1 x.2.1 x.2.2.1) (fz (cOpt cTx))) := by
  refine fn_mk F sc_p_find_prefix rfl fun cdv Ar outer s H E hr tk hp a ha => ?_
  obtain ⟨width, count, code, _⟩ := a
  have nd := sc_p_find_prefix.nd
  show ∃ ts, SX _ _ _ _ _ _ ts (α := (Option Tx)) (if decide ((((17 : Int) * count) + (848 : Int)) ≤ ((16 : Int) * (code.length : Int))) then Res.ok none else (Res.ok (tx "")).bind fun bits => withCtl ((rng 0 count).bind fun xs1 => loop (B := (Option Tx)) (fun (x2 : Int) (s3 : Tx) => (p_next_bit_ width count code s3).bind fun bit => if decide (bit = (tx "?")) then (Res.ok (some s3)).bind fun a => Res.ok (.ret a) else if decide (bit = (tx "")) then (Res.ok none).bind fun a => Res.ok (.ret a) else (cat s3 bit).bind fun bits => Res.ok (.nx bits)) xs1 bits : Res (Ctl (Tx) (Option Tx))) fun s3 => (p_opens width code s3).bind fun v6 => Res.ok (if v6 then (some s3) else none)) _
  exact ⟨_, sx_ifret (et_cmp op_ge (ex_op op_mul (ex_int) (fun _ => (ex_callB call_len_str B.b_len PySem.boot_len (ax_cons (ex_var 2) fun _ => ax_nil) fun _ => b_lenS)) fun _ _ => o_mulL) (fun _ => (ex_op op_add (ex_op op_mul (ex_int) (fun _ => (ex_var 1)) fun _ _ => o_mulL) (fun _ => ex_int) fun _ _ => o_add)) (fun _ _ => o_ge) (nomark _)) (sx_ret (EX.none (ex_non)) (fun _ => rfl)) (sx_cons (s1_set (i := 3) (R' := fz cTx) (ex_str) (hN := nd)) fun bits => sx_with (s1_forC (s0 := fun _ => bits) (f := fun (x2 : Int) (s3 : Tx) => (p_next_bit_ width count code s3).bind fun bit => if decide (bit = (tx "?")) then (Res.ok (some s3)).bind fun a => Res.ok (.ret a) else if decide (bit = (tx "")) then (Res.ok none).bind fun a => Res.ok (.ret a) else (cat s3 bit).bind fun bits => Res.ok (.nx bits)) (Γn := fun (s3 : Tx) => [some (fz cInt width), some (fz cInt count), some (fz cTx code), some (fz cTx s3), none, none]) (RB := fz (cOpt cTx)) (LB := fun _ => []) (ix_range1 (AX.as (ax_cons (ex_var 1) fun _ => ax_nil)) B.b_range) (fun s3 x2 => gx_name (i := 4) nd) (fun x2 s3 => sx_cons (s1_set (i := 5) (R' := fz cTx) (ex_callK k_p_next_bit_ hr tk (fun _ => rfl) (ax_cons (ex_var 0) fun _ => ax_cons (ex_var 1) fun _ => ax_cons (ex_var 2) fun _ => ax_cons (ex_var 3) fun _ => ax_nil) (fun _ => arg_cons (arg_cons (arg_cons (arg_cons (arg_nil))))) (fun _ => wk_rep rfl)) (hN := nd)) fun bit => sx_ifretCp (j := Ctl.ret) (et_cmp op_eq (ex_var 5) (fun _ => ex_str) (fun _ _ => o_eq eqs_tx) (nomark _)) (sx_ret (EX.some (ex_var 3) nn_tx) (fun _ => rfl)) (sx_ifretCp (j := Ctl.ret) (et_cmp op_eq (ex_var 5) (fun _ => ex_str) (fun _ _ => o_eq eqs_tx) (nomark _)) (sx_ret (EX.none (ex_non)) (fun _ => rfl)) (sx_cons (s1_set (i := 3) (R' := fz cTx) (ex_op op_add_str (ex_var 3) (fun _ => (ex_var 5)) fun _ _ => o_addS) (hN := nd)) fun bits => sx_nilC ((wkm [true, true, true, true, false, false]))))) (fun _ => (wkm [true, true, true, true, false, false])) hp) fun s3 => sx_ret (ex_if (r := fz (cOpt cTx)) (et_val (EX.as (ex_callK k_p_opens hr tk (fun _ => rfl) (ax_cons (ex_var 0) fun _ => ax_cons (ex_var 2) fun _ => ax_cons (ex_var 3) fun _ => ax_nil) (fun _ => arg_cons (arg_cons (arg_cons (arg_nil)))) (fun _ => wk_rep rfl)))) (fun _ => (EX.some (ex_var 3) nn_tx)) (fun _ => (EX.none (ex_non)))) (fun _ => rfl))⟩

abbrev s_p_pick : Stmt := topS 22
abbrev N_p_pick : List Str := ["width", "count", "code", "place", "bit", "bits", "more", "low"]
theorem sc_p_pick : FnScope N_p_pick ["width", "count", "code", "place", "bit"] (defScope s_p_pick) := ⟨rfl, rfl, rfl, by decide +kernel, rfl, by decide +kernel, by decide +kernel⟩
theorem fn_p_pick {f : Addr} {fd : FuncData} (F : Fun K "pick" "pick" s_p_pick f fd) (B : Txt K CO T mg) (k_p_find_prefix : Kn P w K mg base 6 "find_prefix" ["width", "count", "code"] (spM 3 T (aCons (fz cInt) (aCons (fz cInt) (aCons (fz cTx) aNil))) (fun x => p_find_prefix x.1 x.2.1 x.2.2.1) (fz (cOpt cTx)))) (k_p_last_with_zero : Kn P w K mg base 1 "last_with_zero" ["bits", "more"] (spM 2 T (aCons (fz cTx) (aCons (fz cInt) aNil)) (fun x => p_last_with_zero x.1 x.2.1) (fz cTx))) (k_p_first_with_one : Kn P w K mg base 1 "first_with_one" ["bits", "more"] (spM 2 T (aCons (fz cTx) (aCons (fz cInt) aNil)) (fun x => p_first_with_one x.1 x.2.1) (fz cTx))) : FnOk P w K mg base (L2.CX P w) 7 f fd ["width", "count", "code", "place", "bit"] (spM 5 T (aCons (fz cInt) (aCons (fz cInt) (aCons (fz cTx) (aCons (fz cInt) (aCons (fz cTx) aNil))))) (fun x => p_pick x.1 x.2.1 x.2.2.1 x.2.2.2.1 x.2.2.2.2.1) (fz (cOpt cTx))) := by
  refine fn_mk F sc_p_pick rfl fun cdv Ar outer s H E hr tk hp a ha => ?_
  obtain ⟨width, count, code, place, bit, _⟩ := a
  have nd := sc_p_pick.nd
  show ∃ ts, SX _ _ _ _ _ _ ts (α := (Option Tx)) ((p_find_prefix width count code).bind fun bits => (if bits.isNone then Res.ok true else (unopt bits).bind fun v2 => Res.ok (decide ((v2.length : Int) = count))).bind fun b11 => if b11 then Res.ok bits else ((unopt bits).bind fun v4 => Res.ok ((count - (v4.length : Int)) - (1 : Int))).bind fun more => ((unopt bits).bind fun v5 => p_last_with_zero v5 more).bind fun low => (idx low place).bind fun v7 => (if decide ([v7] = bit) then Res.ok low else (unopt bits).bind fun v8 => p_first_with_one v8 more).bind fun v10 => Res.ok (some v10)) _
  exact ⟨_, sx_cons (s1_set (i := 5) (R' := fz (cOpt cTx)) (ex_callK k_p_find_prefix hr tk (fun _ => rfl) (ax_cons (ex_var 0) fun _ => ax_cons (ex_var 1) fun _ => ax_cons (ex_var 2) fun _ => ax_nil) (fun _ => arg_cons (arg_cons (arg_cons (arg_nil)))) (fun _ => wk_rep rfl)) (hN := nd)) fun bits => sx_ifretM (et_ew (ew_orM (et_cmp op_isN (ex_var 5) (fun _ => ex_non) (fun _ _ => o_isN) (nomark _)) (fun _ => (ew_or1 (et_cmp op_eq (ex_callB call_len_str B.b_len PySem.boot_len (ax_cons (EX.unopt (ex_var 5)) fun _ => ax_nil) fun _ => b_lenS) (fun _ => (ex_var 1)) (fun _ _ => o_eq eqs_int) (nomark _)))))) (sx_ret (ex_var 5) (fun _ => rfl)) (sx_cons (s1_set (i := 6) (R' := fz cInt) (ex_op op_sub (ex_op op_sub (ex_var 1) (fun _ => (ex_callB call_len_str B.b_len PySem.boot_len (ax_cons (EX.unopt (ex_var 5)) fun _ => ax_nil) fun _ => b_lenS)) fun _ _ => o_sub) (fun _ => ex_int) fun _ _ => o_sub) (hN := nd)) fun more => sx_cons (s1_set (i := 7) (R' := fz cTx) (ex_callK k_p_last_with_zero hr tk (fun _ => rfl) (ax_cons (EX.unopt (ex_var 5)) fun _ => ax_cons (ex_var 6) fun _ => ax_nil) (fun _ => arg_cons (arg_cons (arg_nil))) (fun _ => wk_rep rfl)) (hN := nd)) fun low => sx_ret (EX.some (EX.as (ex_ifM (r := fz cTx) (et_cmp op_eq (ex_ix L2.ix_str (ex_var 7) (fun _ => (ex_var 3)) fun _ _ => o_ixS) (fun _ => (ex_var 4)) (fun _ _ => o_eq eqs_tx) (nomark _)) (fun _ => (ex_var 7)) (fun _ => (EX.as (ex_callK k_p_first_with_one hr tk (fun _ => rfl) (ax_cons (EX.unopt (ex_var 5)) fun _ => ax_cons (ex_var 6) fun _ => ax_nil) (fun _ => arg_cons (arg_cons (arg_nil))) (fun _ => wk_rep rfl)))))) nn_tx) (fun _ => rfl))⟩

abbrev s_p_sample : Stmt := topS 23
abbrev N_p_sample : List Str := ["width", "count", "code", "place", "bit"]
theorem sc_p_sample : FnScope N_p_sample ["width", "count", "code", "place", "bit"] (defScope s_p_sample) := ⟨rfl, rfl, rfl, by decide +kernel, rfl, by decide +kernel, by decide +kernel⟩
theorem fn_p_sample {f : Addr} {fd : FuncData} (F : Fun K "sample" "sample" s_p_sample f fd) (B : Txt K CO T mg) (k_p_check_width : Kn P w K mg base 3 "check_width" ["width"] (spM 1 T (aCons (fz cInt) aNil) (fun x => p_check_width x.1) (fun _ => sN))) (k_p_check_count : Kn P w K mg base 3 "check_count" ["count"] (spM 1 T (aCons (fz cInt) aNil) (fun x => p_check_count x.1) (fun _ => sN))) (k_p_check_code : Kn P w K mg base 3 "check_code" ["code"] (spM 1 T (aCons (fz cTx) aNil) (fun x => p_check_code x.1) (fun _ => sN))) (k_p_pick : Kn P w K mg base 7 "pick" ["width", "count", "code", "place", "bit"] (spM 5 T (aCons (fz cInt) (aCons (fz cInt) (aCons (fz cTx) (aCons (fz cInt) (aCons (fz cTx) aNil))))) (fun x => p_pick x.1 x.2.1 x.2.2.1 x.2.2.2.1 x.2.2.2.2.1) (fz (cOpt cTx)))) (k_oor : KnO P w K mg base "OutOfRange" T.oor (spOor T.oor)) : FnOk P w K mg base (L2.CX P w) 8 f fd ["width", "count", "code", "place", "bit"] (spM 5 T (aCons (fz cInt) (aCons (fz cInt) (aCons (fz cTx) (aCons (fz cInt) (aCons (fz cTx) aNil))))) (fun x => p_sample x.1 x.2.1 x.2.2.1 x.2.2.2.1 x.2.2.2.2.1) (fz (cOpt cTx))) := by
  refine fn_mk F sc_p_sample rfl fun cdv Ar outer s H E hr tk hp a ha => ?_
  obtain ⟨width, count, code, place, bit, _⟩ := a
  have nd := sc_p_sample.nd
  show ∃ ts, SX _ _ _ _ _ _ ts (α := (Option Tx)) ((p_check_width width).bind fun _ => (p_check_count count).bind fun _ => (p_check_code code).bind fun _ => if (!(decide ((0 : Int) ≤ place) && decide (place < count))) then Res.exn (.oor (tx "place")) else if ((!decide (bit = (tx "0"))) && (!decide (bit = (tx "1")))) then Res.exn (.oor (tx "bit")) else p_pick width count code place bit) _
  exact ⟨_, sx_cons (s1_expr (f := fun _ => ()) (Γ' := fun _ => _) (ex_callK k_p_check_width hr tk (fun _ => rfl) (ax_cons (ex_var 0) fun _ => ax_nil) (fun _ => arg_cons (arg_nil)) (fun _ => wk_rep rfl)) (fun _ => rfl)) fun _ => sx_cons (s1_expr (f := fun _ => ()) (Γ' := fun _ => _) (ex_callK k_p_check_count hr tk (fun _ => rfl) (ax_cons (ex_var 1) fun _ => ax_nil) (fun _ => arg_cons (arg_nil)) (fun _ => wk_rep rfl)) (fun _ => rfl)) fun _ => sx_cons (s1_expr (f := fun _ => ()) (Γ' := fun _ => _) (ex_callK k_p_check_code hr tk (fun _ => rfl) (ax_cons (ex_var 2) fun _ => ax_nil) (fun _ => arg_cons (arg_nil)) (fun _ => wk_rep rfl)) (fun _ => rfl)) fun _ => sx_ifraise (mA := Res.exn (.oor (tx "place"))) (IA := fun e => e.elim) (et_not (et_chain op_le op_lt (ex_int) (fun _ => (ex_var 3)) (fun _ _ => (ex_var 1)))) (sx_oor k_oor hr tk (AX.as (ax_cons (ex_str) fun _ => ax_nil)) (fun _ => wk_rep rfl)) (sx_ifraise (mA := Res.exn (.oor (tx "bit"))) (IA := fun e => e.elim) (et_ew (ew_and (et_cmp op_ne (ex_var 4) (fun _ => ex_str) (fun _ _ => o_ne eqs_tx) (nomark _)) (fun _ => (ew_and1 (et_cmp op_ne (ex_var 4) (fun _ => ex_str) (fun _ _ => o_ne eqs_tx) (nomark _)))))) (sx_oor k_oor hr tk (AX.as (ax_cons (ex_str) fun _ => ax_nil)) (fun _ => wk_rep rfl)) (sx_ret (ex_callK k_p_pick hr tk (fun _ => rfl) (ax_cons (ex_var 0) fun _ => ax_cons (ex_var 1) fun _ => ax_cons (ex_var 2) fun _ => ax_cons (ex_var 3) fun _ => ax_cons (ex_var 4) fun _ => ax_nil) (fun _ => arg_cons (arg_cons (arg_cons (arg_cons (arg_cons (arg_nil)))))) (fun _ => wk_rep rfl)) (fun _ => rfl)))⟩

abbrev s_l_common : Stmt := topS 35
abbrev N_l_common : List Str := ["_law_rows", "_law_first", "_law_at", "_law_row"]
theorem sc_l_common : FnScope N_l_common ["_law_rows"] (defScope s_l_common) := ⟨rfl, rfl, rfl, by decide +kernel, rfl, by decide +kernel, by decide +kernel⟩
theorem fn_l_common {f : Addr} {fd : FuncData} (F : Fun K "_law_common" "_law_common" s_l_common f fd) (B : Txt K CO T mg)  : FnOk P w K mg base (L2.CX P w) 1 f fd ["_law_rows"] (spM 1 T (aCons (fz (cList cTx)) aNil) (fun x => l_common x.1) (fz cTx)) := by
  refine fn_mk F sc_l_common rfl fun cdv Ar outer s H E hr tk hp a ha => ?_
  obtain ⟨rows, _⟩ := a
  have nd := sc_l_common.nd
  show ∃ ts, SX _ _ _ _ _ _ ts (α := Tx) ((idx rows (0 : Int)).bind fun first => withCtl ((rng 0 (first.length : Int)).bind fun xs2 => loop (B := Tx) (fun (x3 : Int) (s4 : Unit) => thenCtl (loop (B := Tx) (fun (x5 : Tx) (s6 : Unit) => ((idx x5 x3).bind fun v7 => (idx first x3).bind fun v8 => Res.ok (!decide ([v7] = [v8]))).bind fun b9 => if b9 then (Res.ok (cut first none (some x3))).bind fun a => Res.ok (.ret a) else Res.ok (.nx ())) rows () : Res (Ctl (Unit) Tx)) fun s6 => Res.ok (.nx ())) xs2 () : Res (Ctl (Unit) Tx)) fun s4 => Res.ok first) _
  exact ⟨_, sx_cons (s1_set (i := 1) (R' := fz cTx) (ex_ix L2.ix_list (ex_var 0) (fun _ => ex_int) fun _ _ => o_ixL) (hN := nd)) fun first => sx_with (s1_forC (s0 := fun _ => ()) (f := fun (x3 : Int) (s4 : Unit) => thenCtl (loop (B := Tx) (fun (x5 : Tx) (s6 : Unit) => ((idx x5 x3).bind fun v7 => (idx first x3).bind fun v8 => Res.ok (!decide ([v7] = [v8]))).bind fun b9 => if b9 then (Res.ok (cut first none (some x3))).bind fun a => Res.ok (.ret a) else Res.ok (.nx ())) rows () : Res (Ctl (Unit) Tx)) fun s6 => Res.ok (.nx ())) (Γn := fun (s4 : Unit) => [some (fz (cList cTx) rows), some (fz cTx first), none, none]) (RB := fz cTx) (LB := fun _ => []) (ix_range1 (AX.as (ax_cons (ex_callB call_len_str B.b_len PySem.boot_len (ax_cons (ex_var 1) fun _ => ax_nil) fun _ => b_lenS) fun _ => ax_nil)) B.b_range) (fun s4 x3 => gx_name (i := 2) nd) (fun x3 s4 => sx_then (s1_forC (s0 := fun _ => ()) (f := fun (x5 : Tx) (s6 : Unit) => ((idx x5 x3).bind fun v7 => (idx first x3).bind fun v8 => Res.ok (!decide ([v7] = [v8]))).bind fun b9 => if b9 then (Res.ok (cut first none (some x3))).bind fun a => Res.ok (.ret a) else Res.ok (.nx ())) (Γn := fun (s6 : Unit) => [some (fz (cList cTx) rows), some (fz cTx first), some (fz cInt x3), none]) (RB := fz cTx) (LB := fun _ => []) (ix_list (c := cTx) (ex_var 0)) (fun s6 x5 => gx_name (i := 3) nd) (fun x5 s6 => sx_ifretC (j := Ctl.ret) (et_cmp op_ne (ex_ix L2.ix_str (ex_var 3) (fun _ => (ex_var 2)) fun _ _ => o_ixS) (fun _ => (ex_ix L2.ix_str (ex_var 1) (fun _ => (ex_var 2)) fun _ _ => o_ixS)) (fun _ _ => o_ne eqs_tx) (nomark _)) (sx_ret (ex_slice sl_str (ex_var 1) (fun _ => eo_none) (fun _ _ => (eo_some (ex_var 2))) (fun _ _ _ => sl_s)) (fun _ => rfl)) (sx_nilC ((wkm [true, true, true, false])))) (fun _ => (wkm [true, true, true, false])) hp) fun s6 => sx_nilC ((wkm [true, true, false, false]))) (fun _ => (wkm [true, true, false, false])) hp) fun s4 => sx_ret (ex_var 1) (fun _ => rfl)⟩

abbrev s_l_due : Stmt := topS 36
abbrev N_l_due : List Str := ["_law_possible", "_law_place", "_law_bit", "_law_prefix", "_law_more", "_law_low"]
theorem sc_l_due : FnScope N_l_due ["_law_possible", "_law_place", "_law_bit"] (defScope s_l_due) := ⟨rfl, rfl, rfl, by decide +kernel, rfl, by decide +kernel, by decide +kernel⟩
theorem fn_l_due {f : Addr} {fd : FuncData} (F : Fun K "_law_due" "_law_due" s_l_due f fd) (B : Txt K CO T mg) (k_l_common : Kn P w K mg base 1 "_law_common" ["_law_rows"] (spM 1 T (aCons (fz (cList cTx)) aNil) (fun x => l_common x.1) (fz cTx))) : FnOk P w K mg base (L2.CX P w) 2 f fd ["_law_possible", "_law_place", "_law_bit"] (spM 3 T (aCons (fz (cList cTx)) (aCons (fz cInt) (aCons (fz cTx) aNil))) (fun x => l_due x.1 x.2.1 x.2.2.1) (fz (cOpt cTx))) := by
  refine fn_mk F sc_l_due rfl fun cdv Ar outer s H E hr tk hp a ha => ?_
  obtain ⟨possible, place, bit, _⟩ := a
  have nd := sc_l_due.nd
  show ∃ ts, SX _ _ _ _ _ _ ts (α := (Option Tx)) (if decide ((possible.length : Int) = (0 : Int)) then Res.ok none else if decide ((possible.length : Int) = (1 : Int)) then (idx possible (0 : Int)).bind fun v1 => Res.ok (some v1) else (l_common possible).bind fun prefix_ => ((idx possible (0 : Int)).bind fun v3 => Res.ok (((v3.length : Int) - (prefix_.length : Int)) - (1 : Int))).bind fun more => ((cat prefix_ (tx "0")).bind fun v4 => (rep (tx "1") more).bind fun v5 => cat v4 v5).bind fun low => ((idx low place).bind fun v7 => Res.ok (decide ([v7] = bit))).bind fun b11 => if b11 then Res.ok (some low) else (cat prefix_ (tx "1")).bind fun v8 => (rep (tx "0") more).bind fun v9 => (cat v8 v9).bind fun v10 => Res.ok (some v10)) _
  exact ⟨_, sx_ifret (et_cmp op_eq (ex_callB call_len_seq B.b_len PySem.boot_len (ax_cons (ex_var 0) fun _ => ax_nil) fun _ => b_len) (fun _ => ex_int) (fun _ _ => o_eq eqs_int) (nomark _)) (sx_ret (EX.none (ex_non)) (fun _ => rfl)) (sx_ifret (et_cmp op_eq (ex_callB call_len_seq B.b_len PySem.boot_len (ax_cons (ex_var 0) fun _ => ax_nil) fun _ => b_len) (fun _ => ex_int) (fun _ _ => o_eq eqs_int) (nomark _)) (sx_ret (EX.some (EX.as (ex_ix L2.ix_list (ex_var 0) (fun _ => ex_int) fun _ _ => o_ixL)) nn_tx) (fun _ => rfl)) (sx_cons (s1_set (i := 3) (R' := fz cTx) (ex_callK k_l_common hr tk (fun _ => rfl) (ax_cons (ex_var 0) fun _ => ax_nil) (fun _ => arg_cons (arg_nil)) (fun _ => wk_rep rfl)) (hN := nd)) fun prefix_ => sx_cons (s1_set (i := 4) (R' := fz cInt) (ex_op op_sub (ex_op op_sub (ex_callB call_len_str B.b_len PySem.boot_len (ax_cons (ex_ix L2.ix_list (ex_var 0) (fun _ => ex_int) fun _ _ => o_ixL) fun _ => ax_nil) fun _ => b_lenS) (fun _ => (ex_callB call_len_str B.b_len PySem.boot_len (ax_cons (ex_var 3) fun _ => ax_nil) fun _ => b_lenS)) fun _ _ => o_sub) (fun _ => ex_int) fun _ _ => o_sub) (hN := nd)) fun more => sx_cons (s1_set (i := 5) (R' := fz cTx) (ex_op op_add_str (ex_op op_add_str (ex_var 3) (fun _ => ex_str) fun _ _ => o_addS) (fun _ => (ex_op op_repN (ex_str) (fun _ => (ex_var 4)) fun _ _ => o_repN)) fun _ _ => o_addS) (hN := nd)) fun low => sx_ifretM (et_cmp op_eq (ex_ix L2.ix_str (ex_var 5) (fun _ => (ex_var 1)) fun _ _ => o_ixS) (fun _ => (ex_var 2)) (fun _ _ => o_eq eqs_tx) (nomark _)) (sx_ret (EX.some (ex_var 5) nn_tx) (fun _ => rfl)) (sx_ret (EX.some (EX.as (ex_op op_add_str (ex_op op_add_str (ex_var 3) (fun _ => ex_str) fun _ _ => o_addS) (fun _ => (ex_op op_repN (ex_str) (fun _ => (ex_var 4)) fun _ _ => o_repN)) fun _ _ => o_addS)) nn_tx) (fun _ => rfl))))⟩

abbrev s_law : Stmt := topS 37
abbrev N_law : List Str := ["_law_script", "_law_box", "_law_width", "_law_many", "_law_given", "_law_possible", "_law_place", "_law_bit", "_law_actual", "_law_due_here", "_law_bits_here", "_law_row"]
theorem sc_law : FnScope N_law ["_law_script"] (defScope s_law) := ⟨rfl, rfl, rfl, by decide +kernel, rfl, by decide +kernel, by decide +kernel⟩
theorem fn_law {f : Addr} {fd : FuncData} (F : Fun K "law" "law" s_law f fd) (B : Txt K CO T mg) (k_l_digits : Kn P w K mg base 2 "_law_digits" ["_law_script", "_law_first", "_law_last"] (spM 3 T (aCons (fz (cSq K cInt)) (aCons (fz cInt) (aCons (fz cInt) aNil))) (fun x => l_digits x.1 x.2.1 x.2.2.1) (ol cInt))) (k_l_draw : Kn P w K mg base 1 "_law_draw" ["_law_box", "_law_many"] (spL 1 T (aCons (fz cInt) aNil) bx (fun b x => l_draw b x.1) (fz cInt))) (k_l_bits : Kn P w K mg base 2 "_law_bits" ["_law_box", "_law_many"] (spL 1 T (aCons (fz cInt) aNil) bx (fun b x => l_bits b x.1) (fz cTx))) (k_l_beginning : Kn P w K mg base 4 "_law_beginning" ["_law_box", "_law_width", "_law_bits_here"] (spL 2 T (aCons (fz cInt) (aCons (fz cTx) aNil)) bx (fun b x => l_beginning b x.1 x.2.1) (fz cTx))) (k_l_all_bits : Kn P w K mg base 2 "_law_all_bits" ["_law_many"] (spM 1 T (aCons (fz cInt) aNil) (fun x => l_all_bits x.1) (ol cTx))) (k_l_code : Kn P w K mg base 3 "_law_code" ["_law_width", "_law_bits_here"] (spM 2 T (aCons (fz cInt) (aCons (fz cTx) aNil)) (fun x => l_code x.1 x.2.1) (fz cTx))) (k_p_sample : Kn P w K mg base 8 "sample" ["width", "count", "code", "place", "bit"] (spM 5 T (aCons (fz cInt) (aCons (fz cInt) (aCons (fz cTx) (aCons (fz cInt) (aCons (fz cTx) aNil))))) (fun x => p_sample x.1 x.2.1 x.2.2.1 x.2.2.2.1 x.2.2.2.2.1) (fz (cOpt cTx)))) (k_l_due : Kn P w K mg base 2 "_law_due" ["_law_possible", "_law_place", "_law_bit"] (spM 3 T (aCons (fz (cList cTx)) (aCons (fz cInt) (aCons (fz cTx) aNil))) (fun x => l_due x.1 x.2.1 x.2.2.1) (fz (cOpt cTx)))) : FnOk P w K mg base (L2.CX P w) 9 f fd ["_law_script"] (spM 1 T (aCons (fz (cSq K cInt)) aNil) (fun x => law x.1) (fz cBool)) := by
  refine fn_mk F sc_law rfl fun cdv Ar outer s H E hr tk hp a ha => ?_
  obtain ⟨script, _⟩ := a
  have nd := sc_law.nd
  show ∃ ts, SX _ _ _ _ _ _ ts (α := Bool) (((l_digits script (0 : Int) (63 : Int)).bind fun v1 => Res.ok (v1, (0 : Int))).bind fun box => ((l_draw box (4 : Int)).bind fun r2 => Res.ok (((1 : Int) + r2.1), r2.2)).bind fun r3 => ((l_draw r3.2 (6 : Int)).bind fun r4 => Res.ok (((1 : Int) + r4.1), r4.2)).bind fun r5 => ((l_bits r5.2 r5.1).bind fun r6 => l_beginning r6.2 r3.1 r6.1).bind fun r8 => ((l_all_bits r5.1).bind fun v9 => filC (fun x10 => (l_code r3.1 x10).bind fun v11 => Res.ok (starts v11 r8.1)) (fun x10 => Res.ok x10) v9).bind fun possible => withCtl ((rng 0 r5.1).bind fun xs13 => loop (B := Bool) (fun (x14 : Int) (s15 : Unit) => thenCtl (loop (B := Bool) (fun (x16 : Tx) (s17 : Unit) => (p_sample r3.1 r5.1 r8.1 x14 x16).bind fun actual => (l_due possible x14 x16).bind fun due_here => thenCtl (if due_here.isNone then if actual.isSome then (Res.ok false).bind fun a => Res.ok (.ret a) else Res.ok (.nx ()) else thenCtl ((if (!(Option.elim actual false (fun _ => true))) then Res.ok true else if (!decide (actual = due_here)) then Res.ok true else (unopt actual).bind fun v20 => Res.ok (!(inL v20 possible))).bind fun b31 => if b31 then (Res.ok false).bind fun b => Res.ok (.ret b) else ((unopt actual).bind fun v23 => (idx v23 x14).bind fun v24 => if (!decide ([v24] = x16)) then (mapC (fun x25 => (idx x25 x14).bind fun v26 => Res.ok [v26]) possible : Res (List Tx)).bind fun v27 => Res.ok (inL x16 v27) else Res.ok false).bind fun b29 => if b29 then (Res.ok false).bind fun a => Res.ok (.ret a) else Res.ok (.nx ()) : Res (Ctl (Unit) Bool)) fun s30 => Res.ok (.nx ()) : Res (Ctl (Unit) Bool)) fun s32 => Res.ok (.nx ())) ([(tx "0"), (tx "1")] : List Tx) () : Res (Ctl (Unit) Bool)) fun s17 => Res.ok (.nx ())) xs13 () : Res (Ctl (Unit) Bool)) fun s15 => Res.ok true) _
  exact ⟨_, sx_cons (s1_set (i := 1) (R' := bx) (ex_box (ax_cons (EX.icy (EX.as (ex_callK k_l_digits hr tk (fun _ => rfl) (ax_cons (ex_var 0) fun _ => ax_cons (ex_int) fun _ => ax_cons (ex_int) fun _ => ax_nil) (fun _ => arg_cons (arg_cons (arg_cons (arg_nil)))) (fun _ => wk_rep rfl)))) fun _ => ax_cons (ex_int) fun _ => ax_nil)) (hN := nd)) fun box => sx_cons (s1_asg (i := 2) (f := fun (r : Int × (List Int × Int)) => r) (R' := fun (rq : Int × (List Int × Int)) => fz cInt rq.1) (Γ' := fun (rq : Int × (List Int × Int)) => [some (fz (cSq K cInt) script), some (bx rq.2), none, none, none, none, none, none, none, none, none, none]) (EX.nf (mn := ((l_draw box (4 : Int)).bind fun r2 => Res.ok (((1 : Int) + r2.1), r2.2) : Res (Int × (List Int × Int)))) (R' := fz cInt) (Γs := fun (bq : List Int × Int) => [some (fz (cSq K cInt) script), some (bx bq), none, none, none, none, none, none, none, none, none, none]) (ex_op op_add (ex_int) (fun _ => (ex_callL 1 k_l_draw hr tk lt_bx (fun _ => rfl) (ax_cons (ex_int) fun _ => ax_nil) (fun _ => arg_cons (arg_nil)) (fun _ => wk_rep rfl))) fun _ _ => o_add)) (fun _ => rfl) (fun _ => rfl) (fun _ => rfl) nd rfl (by first | exact Or.inl rfl | exact Or.inr rfl) (hb := Bd.at')) fun r3 => sx_cons (s1_asg (i := 3) (f := fun (r : Int × (List Int × Int)) => r) (R' := fun (rq : Int × (List Int × Int)) => fz cInt rq.1) (Γ' := fun (rq : Int × (List Int × Int)) => [some (fz (cSq K cInt) script), some (bx rq.2), some (fz cInt r3.1), none, none, none, none, none, none, none, none, none]) (EX.nf (mn := ((l_draw r3.2 (6 : Int)).bind fun r4 => Res.ok (((1 : Int) + r4.1), r4.2) : Res (Int × (List Int × Int)))) (R' := fz cInt) (Γs := fun (bq : List Int × Int) => [some (fz (cSq K cInt) script), some (bx bq), some (fz cInt r3.1), none, none, none, none, none, none, none, none, none]) (ex_op op_add (ex_int) (fun _ => (ex_callL 1 k_l_draw hr tk lt_bx (fun _ => rfl) (ax_cons (ex_int) fun _ => ax_nil) (fun _ => arg_cons (arg_nil)) (fun _ => wk_rep rfl))) fun _ _ => o_add)) (fun _ => rfl) (fun _ => rfl) (fun _ => rfl) nd rfl (by first | exact Or.inl rfl | exact Or.inr rfl) (hb := Bd.at')) fun r5 => sx_cons (s1_asg (i := 4) (f := fun (r : Tx × (List Int × Int)) => r) (R' := fun (rq : Tx × (List Int × Int)) => fz cTx rq.1) (Γ' := fun (rq : Tx × (List Int × Int)) => [some (fz (cSq K cInt) script), some (bx rq.2), some (fz cInt r3.1), some (fz cInt r5.1), none, none, none, none, none, none, none, none]) (EX.nf (mn := ((l_bits r5.2 r5.1).bind fun r6 => l_beginning r6.2 r3.1 r6.1 : Res (Tx × (List Int × Int)))) (R' := fz cTx) (Γs := fun (bq : List Int × Int) => [some (fz (cSq K cInt) script), some (bx bq), some (fz cInt r3.1), some (fz cInt r5.1), none, none, none, none, none, none, none, none]) (ex_callL 1 k_l_beginning hr tk lt_bx (fun _ => rfl) (ax_cons (ex_var 2) fun _ => ax_cons (ex_callL 1 k_l_bits hr tk lt_bx (fun _ => rfl) (ax_cons (ex_var 3) fun _ => ax_nil) (fun _ => arg_cons (arg_nil)) (fun _ => wk_rep rfl)) fun _ => ax_nil) (fun _ => arg_cons (arg_cons (arg_nil))) (fun _ => wk_rep rfl))) (fun _ => rfl) (fun _ => rfl) (fun _ => rfl) nd rfl (by first | exact Or.inl rfl | exact Or.inr rfl) (hb := Bd.at')) fun r8 => sx_cons (s1_asgLcT (i := 5) (f := fun _ (x10 : Tx) => Res.ok x10) (tf := fun _ (x10 : Tx) => (l_code r3.1 x10).bind fun v11 => Res.ok (starts v11 r8.1)) (own := [("_law_bits_here", 10)]) (c := cTx) (Γe := List.replicate 12 none) nd rfl rfl (sw_true rfl rfl rfl (by decide +kernel)) (ix_list (c := cTx) (EX.icy (EX.as (ex_callK k_l_all_bits hr tk (fun _ => rfl) (ax_cons (ex_var 3) fun _ => ax_nil) (fun _ => arg_cons (arg_nil)) (fun _ => wk_rep rfl))))) (blkOk_by (N := N_law) (sc := defScope s_law) (by decide +kernel)) (fun _ _ _ _ _ _ _ => gx_name (i := 10) nd) (fun _ _ _ _ _ _ _ => (et_val (EX.as (ex_starts (EX.as (ex_callK k_l_code hr takes0 (fun _ => rfl) (ax_cons (ex_var 2) fun _ => ax_cons (ex_var 10) fun _ => ax_nil) (fun _ => arg_cons (arg_cons (arg_nil))) (fun _ => wk_rep rfl))) (fun _ => (ex_var 4)))))) (fun _ _ _ _ _ _ _ => (ex_var 10)) (hd := fun _ _ => (wkm [true, true, true, true, true, true, true, true, true, true, false, true]))) fun possible => SX.icy (c := cTx) 5 rfl (sx_with (s1_forC (s0 := fun _ => ()) (f := fun (x14 : Int) (s15 : Unit) => thenCtl (loop (B := Bool) (fun (x16 : Tx) (s17 : Unit) => (p_sample r3.1 r5.1 r8.1 x14 x16).bind fun actual => (l_due possible x14 x16).bind fun due_here => thenCtl (if due_here.isNone then if actual.isSome then (Res.ok false).bind fun a => Res.ok (.ret a) else Res.ok (.nx ()) else thenCtl ((if (!(Option.elim actual false (fun _ => true))) then Res.ok true else if (!decide (actual = due_here)) then Res.ok true else (unopt actual).bind fun v20 => Res.ok (!(inL v20 possible))).bind fun b31 => if b31 then (Res.ok false).bind fun b => Res.ok (.ret b) else ((unopt actual).bind fun v23 => (idx v23 x14).bind fun v24 => if (!decide ([v24] = x16)) then (mapC (fun x25 => (idx x25 x14).bind fun v26 => Res.ok [v26]) possible : Res (List Tx)).bind fun v27 => Res.ok (inL x16 v27) else Res.ok false).bind fun b29 => if b29 then (Res.ok false).bind fun a => Res.ok (.ret a) else Res.ok (.nx ()) : Res (Ctl (Unit) Bool)) fun s30 => Res.ok (.nx ()) : Res (Ctl (Unit) Bool)) fun s32 => Res.ok (.nx ())) ([(tx "0"), (tx "1")] : List Tx) () : Res (Ctl (Unit) Bool)) fun s17 => Res.ok (.nx ())) (Γn := fun (s15 : Unit) => [some (fz (cSq K cInt) script), some (bx r8.2), some (fz cInt r3.1), some (fz cInt r5.1), some (fz cTx r8.1), some (fz (cList cTx) possible), none, none, none, none, none, none]) (RB := fz cBool) (LB := fun _ => []) (ix_range1 (AX.as (ax_cons (ex_var 3) fun _ => ax_nil)) B.b_range) (fun s15 x14 => gx_name (i := 6) nd) (fun x14 s15 => sx_then (s1_forC (s0 := fun _ => ()) (f := fun (x16 : Tx) (s17 : Unit) => (p_sample r3.1 r5.1 r8.1 x14 x16).bind fun actual => (l_due possible x14 x16).bind fun due_here => thenCtl (if due_here.isNone then if actual.isSome then (Res.ok false).bind fun a => Res.ok (.ret a) else Res.ok (.nx ()) else thenCtl ((if (!(Option.elim actual false (fun _ => true))) then Res.ok true else if (!decide (actual = due_here)) then Res.ok true else (unopt actual).bind fun v20 => Res.ok (!(inL v20 possible))).bind fun b31 => if b31 then (Res.ok false).bind fun b => Res.ok (.ret b) else ((unopt actual).bind fun v23 => (idx v23 x14).bind fun v24 => if (!decide ([v24] = x16)) then (mapC (fun x25 => (idx x25 x14).bind fun v26 => Res.ok [v26]) possible : Res (List Tx)).bind fun v27 => Res.ok (inL x16 v27) else Res.ok false).bind fun b29 => if b29 then (Res.ok false).bind fun a => Res.ok (.ret a) else Res.ok (.nx ()) : Res (Ctl (Unit) Bool)) fun s30 => Res.ok (.nx ()) : Res (Ctl (Unit) Bool)) fun s32 => Res.ok (.nx ())) (Γn := fun (s17 : Unit) => [some (fz (cSq K cInt) script), some (bx r8.2), some (fz cInt r3.1), some (fz cInt r5.1), some (fz cTx r8.1), some (fz (cList cTx) possible), some (fz cInt x14), none, none, none, none, none]) (RB := fz cBool) (LB := fun _ => []) (ix_list (c := cTx) (EX.icy (EX.as (ex_lst (c := cTx) (lx_cons (ex_str) fun _ => lx_cons (ex_str) fun _ => lx_nil))))) (fun s17 x16 => gx_name (i := 7) nd) (fun x16 s17 => sx_cons (s1_set (i := 8) (R' := fz (cOpt cTx)) (ex_callK k_p_sample hr tk (fun _ => rfl) (ax_cons (ex_var 2) fun _ => ax_cons (ex_var 3) fun _ => ax_cons (ex_var 4) fun _ => ax_cons (ex_var 6) fun _ => ax_cons (ex_var 7) fun _ => ax_nil) (fun _ => arg_cons (arg_cons (arg_cons (arg_cons (arg_cons (arg_nil)))))) (fun _ => wk_rep rfl)) (hN := nd)) fun actual => sx_cons (s1_set (i := 9) (R' := fz (cOpt cTx)) (ex_callK k_l_due hr tk (fun _ => rfl) (ax_cons (ex_var 5) fun _ => ax_cons (ex_var 6) fun _ => ax_cons (ex_var 7) fun _ => ax_nil) (fun _ => arg_cons (arg_cons (arg_cons (arg_nil)))) (fun _ => wk_rep rfl)) (hN := nd)) fun due_here => sx_then (s1_if (I := outC (fun (s32 : Unit) => [some (fz (cSq K cInt) script), some (bx r8.2), some (fz cInt r3.1), some (fz cInt r5.1), some (fz cTx r8.1), some (fz (cList cTx) possible), some (fz cInt x14), some (fz cTx x16), some (fz (cOpt cTx) actual), some (fz (cOpt cTx) due_here), none, none]) (fz cBool) (fun _ => [])) (et_cmp op_isN (ex_var 9) (fun _ => ex_non) (fun _ _ => o_isN) (nomark _)) (sx_ifretCp (j := Ctl.ret) (et_cmp op_notN (ex_var 8) (fun _ => ex_non) (fun _ _ => o_notN) (nomark _)) (sx_ret (ex_bl) (fun _ => rfl)) (sx_nilC ((wkm [true, true, true, true, true, true, true, true, true, true, false, false])))) (sx_then (s1_ifM (I := outC (fun (s30 : Unit) => [some (fz (cSq K cInt) script), some (bx r8.2), some (fz cInt r3.1), some (fz cInt r5.1), some (fz cTx r8.1), some (fz (cList cTx) possible), some (fz cInt x14), some (fz cTx x16), some (fz (cOpt cTx) actual), some (fz (cOpt cTx) due_here), none, none]) (fz cBool) (fun _ => [])) (et_ew (ew_orM (et_not (et_val (EX.as (ex_callB call_isi B.b_isinstance PyProof.Rows.boot_isinstance (ax_cons (ex_var 8) fun _ => ax_cons (ex_ty B.b_str PyProof.Rows.boot_str) fun _ => ax_nil) fun _ => b_isi (isOf_optE (b0 := false) (by decide +kernel) (isOf_tx (b := true) (by decide +kernel))))))) (fun _ => (ew_orM (et_cmp (op_neP hr.units) (ex_var 8) (fun _ => (ex_var 9)) (fun _ _ => o_neP (eqd_opt eqd_tx) (eqd_opt eqd_tx) (datp_opt datp_tx fun _ => ⟨rfl, rfl⟩)) (nomark _)) (fun _ => (ew_or1 (et_cmp op_notIn_seq (EX.as (EX.unopt (ex_var 8))) (fun _ => (ex_var 5)) (fun _ _ => o_notin flat_tx) (by rfl)))))))) (SX.toC (j := Ctl.ret) (sx_ret (ex_bl) (fun _ => rfl))) (sx_ifretC (j := Ctl.ret) (et_ew (ew_andM (et_cmp op_ne (ex_ix L2.ix_str (EX.unopt (ex_var 8)) (fun _ => (ex_var 6)) fun _ _ => o_ixS) (fun _ => (ex_var 7)) (fun _ _ => o_ne eqs_tx) (nomark _)) (fun _ => (ew_and1 (et_cmp op_in_seq (ex_var 7) (fun _ => (EX.icy (EX.as (ex_lc (f := fun _ (x25 : Tx) => (idx x25 x14).bind fun v26 => Res.ok [v26]) (own := [("_law_row", 11)]) (c := cTx) (Γe := List.replicate 12 none) nd (ix_list (c := cTx) (ex_var 5)) (blkOk_by (N := N_law) (sc := defScope s_law) (by decide +kernel)) (fun _ _ _ _ _ _ _ => gx_name (i := 11) nd) (fun _ _ _ _ _ _ _ => (ex_ix L2.ix_str (ex_var 11) (fun _ => (ex_var 6)) fun _ _ => o_ixS)) (hd := fun _ _ => (wkm [true, true, true, true, true, true, true, true, true, true, true, false])))))) (fun _ _ => o_in flat_tx) (by rfl)))))) (sx_ret (ex_bl) (fun _ => rfl)) (sx_nilC ((wkm [true, true, true, true, true, true, true, true, true, true, false, false]))))) fun s30 => sx_nilC ((wkm [true, true, true, true, true, true, true, true, true, true, false, false])))) fun s32 => sx_nilC ((wkm [true, true, true, true, true, true, true, false, false, false, false, false]))) (fun _ => (wkm [true, true, true, true, true, true, true, false, false, false, false, false])) hp) fun s17 => sx_nilC ((wkm [true, true, true, true, true, true, false, false, false, false, false, false]))) (fun _ => (wkm [true, true, true, true, true, true, false, false, false, false, false, false])) hp) fun s15 => sx_ret (ex_bl) (fun _ => rfl))⟩
end
end K25
namespace K25
open PySem L2 R Rt C
section
theorem all_mk {l : PySem.W.OpenLaw} {w : World} {K : PySem.W.Frag} {h : Heap} {mg : Str → Option Value} {fa : Addr} (X : K.In h) (G : h.Ns mainGlobals mg) (hfa : mg "law" = some (.ref fa))
    {t_WIDTH_MOST : Tok} (g_WIDTH_MOST : PySem.W.nsIn K mainGlobals "WIDTH_MOST" = some (some (.int 16 t_WIDTH_MOST)))
    {t_BITS_MOST : Tok} (g_BITS_MOST : PySem.W.nsIn K mainGlobals "BITS_MOST" = some (some (.int 256 t_BITS_MOST)))
    {t_CODE_MOST : Tok} (g_CODE_MOST : PySem.W.nsIn K mainGlobals "CODE_MOST" = some (some (.int 400 t_CODE_MOST)))
    {CX NX fX : Addr} {nmX qX : Str} {bsX bmX : List Value} {snX : List Str} {subX : List Value} {abX : Bool} {colX : Option Bool} {ddX : Option Addr} {k0X k1X k2X k3X k5X : Option Value} {odX anX : Option Addr} {slX : Array (Option Value)} {ocX kVX dcX pmX cdX ctX : Value} (aX : PySem.W.nsIn K mainGlobals "OutOfRange" = some (some (.ref CX))) (clX : K.lookup CX = some (excClassObj nmX qX CX NX bsX bmX true snX subX abX colX ddX k0X k1X k2X k3X k5X "ValueError.__new__")) (rvX : PySem.HandSPX.refsVE bmX = true) (saX : PySem.W.findIn K (.ref CX) "__setattr__" = some (some (.builtin "object.__setattr__"))) (exX : PySem.W.subIn K (.ref CX) (.type "BaseException") = some true) (tyX : PySem.W.typeIn K (.ref CX) = some (.type "type")) (kcX : PySem.W.keepIn K (.ref CX) = true) (iX : PySem.W.findIn K (.ref CX) "__init__" = some (some (.ref fX))) (tX : PySem.W.typeIn K (.ref fX) = some (.type "function")) (naX : PySem.W.findIn K (.ref CX) "name" = some none) (lX : K.lookup fX = some ⟨ocX, odX, .func (PySem.W.fnOf "__init__" "OutOfRange.__init__" (defArgs s_oor) (defBody s_oor) (defScope s_oor) .none kVX dcX pmX anX cdX ctX), slX⟩) (cX : PySem.W.codeIn K cdX "OutOfRange.__init__" = true) (kX : PySem.W.keepIn K (.ref fX) = true)
    {f0 : Addr} {oc0 kV0 dc0 pm0 cd0 ct0 : Value} {od0 an0 : Option Addr} {sl0 : Array (Option Value)} (a0 : PySem.W.nsIn K mainGlobals "_law_cell" = some (some (.ref f0))) (l0 : K.lookup f0 = some ⟨oc0, od0, .func (PySem.W.fnOf "_law_cell" "_law_cell" (defArgs s_l_cell) (defBody s_l_cell) (defScope s_l_cell) .none kV0 dc0 pm0 an0 cd0 ct0), sl0⟩) (c0 : PySem.W.codeIn K cd0 "_law_cell" = true) (k0 : PySem.W.keepIn K (.ref f0) = true)
    {f1 : Addr} {oc1 kV1 dc1 pm1 cd1 ct1 : Value} {od1 an1 : Option Addr} {sl1 : Array (Option Value)} (a1 : PySem.W.nsIn K mainGlobals "_law_digits" = some (some (.ref f1))) (l1 : K.lookup f1 = some ⟨oc1, od1, .func (PySem.W.fnOf "_law_digits" "_law_digits" (defArgs s_l_digits) (defBody s_l_digits) (defScope s_l_digits) .none kV1 dc1 pm1 an1 cd1 ct1), sl1⟩) (c1 : PySem.W.codeIn K cd1 "_law_digits" = true) (k1 : PySem.W.keepIn K (.ref f1) = true)
    {f2 : Addr} {oc2 kV2 dc2 pm2 cd2 ct2 : Value} {od2 an2 : Option Addr} {sl2 : Array (Option Value)} (a2 : PySem.W.nsIn K mainGlobals "_law_draw" = some (some (.ref f2))) (l2 : K.lookup f2 = some ⟨oc2, od2, .func (PySem.W.fnOf "_law_draw" "_law_draw" (defArgs s_l_draw) (defBody s_l_draw) (defScope s_l_draw) .none kV2 dc2 pm2 an2 cd2 ct2), sl2⟩) (c2 : PySem.W.codeIn K cd2 "_law_draw" = true) (k2 : PySem.W.keepIn K (.ref f2) = true)
    {f3 : Addr} {oc3 kV3 dc3 pm3 cd3 ct3 : Value} {od3 an3 : Option Addr} {sl3 : Array (Option Value)} (a3 : PySem.W.nsIn K mainGlobals "_law_bits" = some (some (.ref f3))) (l3 : K.lookup f3 = some ⟨oc3, od3, .func (PySem.W.fnOf "_law_bits" "_law_bits" (defArgs s_l_bits) (defBody s_l_bits) (defScope s_l_bits) .none kV3 dc3 pm3 an3 cd3 ct3), sl3⟩) (c3 : PySem.W.codeIn K cd3 "_law_bits" = true) (k3 : PySem.W.keepIn K (.ref f3) = true)
    {f4 : Addr} {oc4 kV4 dc4 pm4 cd4 ct4 : Value} {od4 an4 : Option Addr} {sl4 : Array (Option Value)} (a4 : PySem.W.nsIn K mainGlobals "_law_context" = some (some (.ref f4))) (l4 : K.lookup f4 = some ⟨oc4, od4, .func (PySem.W.fnOf "_law_context" "_law_context" (defArgs s_l_context) (defBody s_l_context) (defScope s_l_context) .none kV4 dc4 pm4 an4 cd4 ct4), sl4⟩) (c4 : PySem.W.codeIn K cd4 "_law_context" = true) (k4 : PySem.W.keepIn K (.ref f4) = true)
    {f5 : Addr} {oc5 kV5 dc5 pm5 cd5 ct5 : Value} {od5 an5 : Option Addr} {sl5 : Array (Option Value)} (a5 : PySem.W.nsIn K mainGlobals "_law_interval" = some (some (.ref f5))) (l5 : K.lookup f5 = some ⟨oc5, od5, .func (PySem.W.fnOf "_law_interval" "_law_interval" (defArgs s_l_interval) (defBody s_l_interval) (defScope s_l_interval) .none kV5 dc5 pm5 an5 cd5 ct5), sl5⟩) (c5 : PySem.W.codeIn K cd5 "_law_interval" = true) (k5 : PySem.W.keepIn K (.ref f5) = true)
    {f6 : Addr} {oc6 kV6 dc6 pm6 cd6 ct6 : Value} {od6 an6 : Option Addr} {sl6 : Array (Option Value)} (a6 : PySem.W.nsIn K mainGlobals "_law_binary" = some (some (.ref f6))) (l6 : K.lookup f6 = some ⟨oc6, od6, .func (PySem.W.fnOf "_law_binary" "_law_binary" (defArgs s_l_binary) (defBody s_l_binary) (defScope s_l_binary) .none kV6 dc6 pm6 an6 cd6 ct6), sl6⟩) (c6 : PySem.W.codeIn K cd6 "_law_binary" = true) (k6 : PySem.W.keepIn K (.ref f6) = true)
    {f7 : Addr} {oc7 kV7 dc7 pm7 cd7 ct7 : Value} {od7 an7 : Option Addr} {sl7 : Array (Option Value)} (a7 : PySem.W.nsIn K mainGlobals "_law_code" = some (some (.ref f7))) (l7 : K.lookup f7 = some ⟨oc7, od7, .func (PySem.W.fnOf "_law_code" "_law_code" (defArgs s_l_code) (defBody s_l_code) (defScope s_l_code) .none kV7 dc7 pm7 an7 cd7 ct7), sl7⟩) (c7 : PySem.W.codeIn K cd7 "_law_code" = true) (k7 : PySem.W.keepIn K (.ref f7) = true)
    {f8 : Addr} {oc8 kV8 dc8 pm8 cd8 ct8 : Value} {od8 an8 : Option Addr} {sl8 : Array (Option Value)} (a8 : PySem.W.nsIn K mainGlobals "_law_beginning" = some (some (.ref f8))) (l8 : K.lookup f8 = some ⟨oc8, od8, .func (PySem.W.fnOf "_law_beginning" "_law_beginning" (defArgs s_l_beginning) (defBody s_l_beginning) (defScope s_l_beginning) .none kV8 dc8 pm8 an8 cd8 ct8), sl8⟩) (c8 : PySem.W.codeIn K cd8 "_law_beginning" = true) (k8 : PySem.W.keepIn K (.ref f8) = true)
    {f9 : Addr} {oc9 kV9 dc9 pm9 cd9 ct9 : Value} {od9 an9 : Option Addr} {sl9 : Array (Option Value)} (a9 : PySem.W.nsIn K mainGlobals "_law_all_bits" = some (some (.ref f9))) (l9 : K.lookup f9 = some ⟨oc9, od9, .func (PySem.W.fnOf "_law_all_bits" "_law_all_bits" (defArgs s_l_all_bits) (defBody s_l_all_bits) (defScope s_l_all_bits) .none kV9 dc9 pm9 an9 cd9 ct9), sl9⟩) (c9 : PySem.W.codeIn K cd9 "_law_all_bits" = true) (k9 : PySem.W.keepIn K (.ref f9) = true)
    {f10 : Addr} {oc10 kV10 dc10 pm10 cd10 ct10 : Value} {od10 an10 : Option Addr} {sl10 : Array (Option Value)} (a10 : PySem.W.nsIn K mainGlobals "check_width" = some (some (.ref f10))) (l10 : K.lookup f10 = some ⟨oc10, od10, .func (PySem.W.fnOf "check_width" "check_width" (defArgs s_p_check_width) (defBody s_p_check_width) (defScope s_p_check_width) .none kV10 dc10 pm10 an10 cd10 ct10), sl10⟩) (c10 : PySem.W.codeIn K cd10 "check_width" = true) (k10 : PySem.W.keepIn K (.ref f10) = true)
    {f11 : Addr} {oc11 kV11 dc11 pm11 cd11 ct11 : Value} {od11 an11 : Option Addr} {sl11 : Array (Option Value)} (a11 : PySem.W.nsIn K mainGlobals "check_count" = some (some (.ref f11))) (l11 : K.lookup f11 = some ⟨oc11, od11, .func (PySem.W.fnOf "check_count" "check_count" (defArgs s_p_check_count) (defBody s_p_check_count) (defScope s_p_check_count) .none kV11 dc11 pm11 an11 cd11 ct11), sl11⟩) (c11 : PySem.W.codeIn K cd11 "check_count" = true) (k11 : PySem.W.keepIn K (.ref f11) = true)
    {f12 : Addr} {oc12 kV12 dc12 pm12 cd12 ct12 : Value} {od12 an12 : Option Addr} {sl12 : Array (Option Value)} (a12 : PySem.W.nsIn K mainGlobals "check_code" = some (some (.ref f12))) (l12 : K.lookup f12 = some ⟨oc12, od12, .func (PySem.W.fnOf "check_code" "check_code" (defArgs s_p_check_code) (defBody s_p_check_code) (defScope s_p_check_code) .none kV12 dc12 pm12 an12 cd12 ct12), sl12⟩) (c12 : PySem.W.codeIn K cd12 "check_code" = true) (k12 : PySem.W.keepIn K (.ref f12) = true)
    {f13 : Addr} {oc13 kV13 dc13 pm13 cd13 ct13 : Value} {od13 an13 : Option Addr} {sl13 : Array (Option Value)} (a13 : PySem.W.nsIn K mainGlobals "context" = some (some (.ref f13))) (l13 : K.lookup f13 = some ⟨oc13, od13, .func (PySem.W.fnOf "context" "context" (defArgs s_p_context) (defBody s_p_context) (defScope s_p_context) .none kV13 dc13 pm13 an13 cd13 ct13), sl13⟩) (c13 : PySem.W.codeIn K cd13 "context" = true) (k13 : PySem.W.keepIn K (.ref f13) = true)
    {f14 : Addr} {oc14 kV14 dc14 pm14 cd14 ct14 : Value} {od14 an14 : Option Addr} {sl14 : Array (Option Value)} (a14 : PySem.W.nsIn K mainGlobals "interval" = some (some (.ref f14))) (l14 : K.lookup f14 = some ⟨oc14, od14, .func (PySem.W.fnOf "interval" "interval" (defArgs s_p_interval) (defBody s_p_interval) (defScope s_p_interval) .none kV14 dc14 pm14 an14 cd14 ct14), sl14⟩) (c14 : PySem.W.codeIn K cd14 "interval" = true) (k14 : PySem.W.keepIn K (.ref f14) = true)
    {f15 : Addr} {oc15 kV15 dc15 pm15 cd15 ct15 : Value} {od15 an15 : Option Addr} {sl15 : Array (Option Value)} (a15 : PySem.W.nsIn K mainGlobals "shares" = some (some (.ref f15))) (l15 : K.lookup f15 = some ⟨oc15, od15, .func (PySem.W.fnOf "shares" "shares" (defArgs s_p_shares) (defBody s_p_shares) (defScope s_p_shares) .none kV15 dc15 pm15 an15 cd15 ct15), sl15⟩) (c15 : PySem.W.codeIn K cd15 "shares" = true) (k15 : PySem.W.keepIn K (.ref f15) = true)
    {f16 : Addr} {oc16 kV16 dc16 pm16 cd16 ct16 : Value} {od16 an16 : Option Addr} {sl16 : Array (Option Value)} (a16 : PySem.W.nsIn K mainGlobals "digits_value" = some (some (.ref f16))) (l16 : K.lookup f16 = some ⟨oc16, od16, .func (PySem.W.fnOf "digits_value" "digits_value" (defArgs s_p_digits_value) (defBody s_p_digits_value) (defScope s_p_digits_value) .none kV16 dc16 pm16 an16 cd16 ct16), sl16⟩) (c16 : PySem.W.codeIn K cd16 "digits_value" = true) (k16 : PySem.W.keepIn K (.ref f16) = true)
    {f17 : Addr} {oc17 kV17 dc17 pm17 cd17 ct17 : Value} {od17 an17 : Option Addr} {sl17 : Array (Option Value)} (a17 : PySem.W.nsIn K mainGlobals "last_with_zero" = some (some (.ref f17))) (l17 : K.lookup f17 = some ⟨oc17, od17, .func (PySem.W.fnOf "last_with_zero" "last_with_zero" (defArgs s_p_last_with_zero) (defBody s_p_last_with_zero) (defScope s_p_last_with_zero) .none kV17 dc17 pm17 an17 cd17 ct17), sl17⟩) (c17 : PySem.W.codeIn K cd17 "last_with_zero" = true) (k17 : PySem.W.keepIn K (.ref f17) = true)
    {f18 : Addr} {oc18 kV18 dc18 pm18 cd18 ct18 : Value} {od18 an18 : Option Addr} {sl18 : Array (Option Value)} (a18 : PySem.W.nsIn K mainGlobals "digits_text" = some (some (.ref f18))) (l18 : K.lookup f18 = some ⟨oc18, od18, .func (PySem.W.fnOf "digits_text" "digits_text" (defArgs s_p_digits_text) (defBody s_p_digits_text) (defScope s_p_digits_text) .none kV18 dc18 pm18 an18 cd18 ct18), sl18⟩) (c18 : PySem.W.codeIn K cd18 "digits_text" = true) (k18 : PySem.W.keepIn K (.ref f18) = true)
    {f19 : Addr} {oc19 kV19 dc19 pm19 cd19 ct19 : Value} {od19 an19 : Option Addr} {sl19 : Array (Option Value)} (a19 : PySem.W.nsIn K mainGlobals "_code" = some (some (.ref f19))) (l19 : K.lookup f19 = some ⟨oc19, od19, .func (PySem.W.fnOf "_code" "_code" (defArgs s_p_code_) (defBody s_p_code_) (defScope s_p_code_) .none kV19 dc19 pm19 an19 cd19 ct19), sl19⟩) (c19 : PySem.W.codeIn K cd19 "_code" = true) (k19 : PySem.W.keepIn K (.ref f19) = true)
    {f20 : Addr} {oc20 kV20 dc20 pm20 cd20 ct20 : Value} {od20 an20 : Option Addr} {sl20 : Array (Option Value)} (a20 : PySem.W.nsIn K mainGlobals "opens" = some (some (.ref f20))) (l20 : K.lookup f20 = some ⟨oc20, od20, .func (PySem.W.fnOf "opens" "opens" (defArgs s_p_opens) (defBody s_p_opens) (defScope s_p_opens) .none kV20 dc20 pm20 an20 cd20 ct20), sl20⟩) (c20 : PySem.W.codeIn K cd20 "opens" = true) (k20 : PySem.W.keepIn K (.ref f20) = true)
    {f21 : Addr} {oc21 kV21 dc21 pm21 cd21 ct21 : Value} {od21 an21 : Option Addr} {sl21 : Array (Option Value)} (a21 : PySem.W.nsIn K mainGlobals "first_with_one" = some (some (.ref f21))) (l21 : K.lookup f21 = some ⟨oc21, od21, .func (PySem.W.fnOf "first_with_one" "first_with_one" (defArgs s_p_first_with_one) (defBody s_p_first_with_one) (defScope s_p_first_with_one) .none kV21 dc21 pm21 an21 cd21 ct21), sl21⟩) (c21 : PySem.W.codeIn K cd21 "first_with_one" = true) (k21 : PySem.W.keepIn K (.ref f21) = true)
    {f22 : Addr} {oc22 kV22 dc22 pm22 cd22 ct22 : Value} {od22 an22 : Option Addr} {sl22 : Array (Option Value)} (a22 : PySem.W.nsIn K mainGlobals "_next_bit" = some (some (.ref f22))) (l22 : K.lookup f22 = some ⟨oc22, od22, .func (PySem.W.fnOf "_next_bit" "_next_bit" (defArgs s_p_next_bit_) (defBody s_p_next_bit_) (defScope s_p_next_bit_) .none kV22 dc22 pm22 an22 cd22 ct22), sl22⟩) (c22 : PySem.W.codeIn K cd22 "_next_bit" = true) (k22 : PySem.W.keepIn K (.ref f22) = true)
    {f23 : Addr} {oc23 kV23 dc23 pm23 cd23 ct23 : Value} {od23 an23 : Option Addr} {sl23 : Array (Option Value)} (a23 : PySem.W.nsIn K mainGlobals "find_prefix" = some (some (.ref f23))) (l23 : K.lookup f23 = some ⟨oc23, od23, .func (PySem.W.fnOf "find_prefix" "find_prefix" (defArgs s_p_find_prefix) (defBody s_p_find_prefix) (defScope s_p_find_prefix) .none kV23 dc23 pm23 an23 cd23 ct23), sl23⟩) (c23 : PySem.W.codeIn K cd23 "find_prefix" = true) (k23 : PySem.W.keepIn K (.ref f23) = true)
    {f24 : Addr} {oc24 kV24 dc24 pm24 cd24 ct24 : Value} {od24 an24 : Option Addr} {sl24 : Array (Option Value)} (a24 : PySem.W.nsIn K mainGlobals "pick" = some (some (.ref f24))) (l24 : K.lookup f24 = some ⟨oc24, od24, .func (PySem.W.fnOf "pick" "pick" (defArgs s_p_pick) (defBody s_p_pick) (defScope s_p_pick) .none kV24 dc24 pm24 an24 cd24 ct24), sl24⟩) (c24 : PySem.W.codeIn K cd24 "pick" = true) (k24 : PySem.W.keepIn K (.ref f24) = true)
    {f25 : Addr} {oc25 kV25 dc25 pm25 cd25 ct25 : Value} {od25 an25 : Option Addr} {sl25 : Array (Option Value)} (a25 : PySem.W.nsIn K mainGlobals "sample" = some (some (.ref f25))) (l25 : K.lookup f25 = some ⟨oc25, od25, .func (PySem.W.fnOf "sample" "sample" (defArgs s_p_sample) (defBody s_p_sample) (defScope s_p_sample) .none kV25 dc25 pm25 an25 cd25 ct25), sl25⟩) (c25 : PySem.W.codeIn K cd25 "sample" = true) (k25 : PySem.W.keepIn K (.ref f25) = true)
    {f26 : Addr} {oc26 kV26 dc26 pm26 cd26 ct26 : Value} {od26 an26 : Option Addr} {sl26 : Array (Option Value)} (a26 : PySem.W.nsIn K mainGlobals "_law_common" = some (some (.ref f26))) (l26 : K.lookup f26 = some ⟨oc26, od26, .func (PySem.W.fnOf "_law_common" "_law_common" (defArgs s_l_common) (defBody s_l_common) (defScope s_l_common) .none kV26 dc26 pm26 an26 cd26 ct26), sl26⟩) (c26 : PySem.W.codeIn K cd26 "_law_common" = true) (k26 : PySem.W.keepIn K (.ref f26) = true)
    {f27 : Addr} {oc27 kV27 dc27 pm27 cd27 ct27 : Value} {od27 an27 : Option Addr} {sl27 : Array (Option Value)} (a27 : PySem.W.nsIn K mainGlobals "_law_due" = some (some (.ref f27))) (l27 : K.lookup f27 = some ⟨oc27, od27, .func (PySem.W.fnOf "_law_due" "_law_due" (defArgs s_l_due) (defBody s_l_due) (defScope s_l_due) .none kV27 dc27 pm27 an27 cd27 ct27), sl27⟩) (c27 : PySem.W.codeIn K cd27 "_law_due" = true) (k27 : PySem.W.keepIn K (.ref f27) = true)
    {f28 : Addr} {oc28 kV28 dc28 pm28 cd28 ct28 : Value} {od28 an28 : Option Addr} {sl28 : Array (Option Value)} (a28 : PySem.W.nsIn K mainGlobals "law" = some (some (.ref f28))) (l28 : K.lookup f28 = some ⟨oc28, od28, .func (PySem.W.fnOf "law" "law" (defArgs s_law) (defBody s_law) (defScope s_law) .none kV28 dc28 pm28 an28 cd28 ct28), sl28⟩) (c28 : PySem.W.codeIn K cd28 "law" = true) (k28 : PySem.W.keepIn K (.ref f28) = true)
    (z_enumerate : PySem.W.nsIn K mainGlobals "enumerate" = some none)
    (z_int : PySem.W.nsIn K mainGlobals "int" = some none)
    (z_isinstance : PySem.W.nsIn K mainGlobals "isinstance" = some none)
    (z_len : PySem.W.nsIn K mainGlobals "len" = some none)
    (z_range : PySem.W.nsIn K mainGlobals "range" = some none)
    (z_reversed : PySem.W.nsIn K mainGlobals "reversed" = some none)
    (z_str : PySem.W.nsIn K mainGlobals "str" = some none) :
    ∃ fd : FuncData, (∀ (s : Shared) (u : Value), BindsTo s fd ⟨[u], []⟩ [("_law_script", u)]) ∧ ∀ base : Heap, K.In base → base.Ns mainGlobals mg → FnOk l.prog w K mg base (L2.CX l.prog w) 9 fa fd ["_law_script"] (spTrue K) := by
  have e := hfa.symm.trans (PySem.W.mg_of X G a28)
  cases e
  let CO : ClsA := ⟨()⟩
  let T : XT := ⟨CX, 0, fun k => 0, [], false⟩
  have B : Txt K CO T mg := ⟨PySem.W.mg_none_of X G z_enumerate, PySem.W.mg_none_of X G z_int, PySem.W.mg_none_of X G z_isinstance, PySem.W.mg_none_of X G z_len, PySem.W.mg_none_of X G z_range, PySem.W.mg_none_of X G z_reversed, PySem.W.mg_none_of X G z_str, ⟨_, PySem.W.mg_of X G g_WIDTH_MOST, ⟨_, rfl⟩⟩, ⟨_, PySem.W.mg_of X G g_BITS_MOST, ⟨_, rfl⟩⟩, ⟨_, PySem.W.mg_of X G g_CODE_MOST, ⟨_, rfl⟩⟩⟩
  have F0 := fun_mk (st := s_l_cell) l0 c0 k0
  have D0 := F0.binds (ps := ["_law_script", "_law_k"]) fun _ _ _ _ _ _ us hl => match us, hl with | [_, _], _ => rfl
  have F1 := fun_mk (st := s_l_digits) l1 c1 k1
  have D1 := F1.binds (ps := ["_law_script", "_law_first", "_law_last"]) fun _ _ _ _ _ _ us hl => match us, hl with | [_, _, _], _ => rfl
  have F2 := fun_mk (st := s_l_draw) l2 c2 k2
  have D2 := F2.binds (ps := ["_law_box", "_law_many"]) fun _ _ _ _ _ _ us hl => match us, hl with | [_, _], _ => rfl
  have F3 := fun_mk (st := s_l_bits) l3 c3 k3
  have D3 := F3.binds (ps := ["_law_box", "_law_many"]) fun _ _ _ _ _ _ us hl => match us, hl with | [_, _], _ => rfl
  have F4 := fun_mk (st := s_l_context) l4 c4 k4
  have D4 := F4.binds (ps := ["_law_width", "_law_bits_here", "_law_place"]) fun _ _ _ _ _ _ us hl => match us, hl with | [_, _, _], _ => rfl
  have F5 := fun_mk (st := s_l_interval) l5 c5 k5
  have D5 := F5.binds (ps := ["_law_width", "_law_bits_here"]) fun _ _ _ _ _ _ us hl => match us, hl with | [_, _], _ => rfl
  have F6 := fun_mk (st := s_l_binary) l6 c6 k6
  have D6 := F6.binds (ps := ["_law_value", "_law_many"]) fun _ _ _ _ _ _ us hl => match us, hl with | [_, _], _ => rfl
  have F7 := fun_mk (st := s_l_code) l7 c7 k7
  have D7 := F7.binds (ps := ["_law_width", "_law_bits_here"]) fun _ _ _ _ _ _ us hl => match us, hl with | [_, _], _ => rfl
  have F8 := fun_mk (st := s_l_beginning) l8 c8 k8
  have D8 := F8.binds (ps := ["_law_box", "_law_width", "_law_bits_here"]) fun _ _ _ _ _ _ us hl => match us, hl with | [_, _, _], _ => rfl
  have F9 := fun_mk (st := s_l_all_bits) l9 c9 k9
  have D9 := F9.binds (ps := ["_law_many"]) fun _ _ _ _ _ _ us hl => match us, hl with | [_], _ => rfl
  have F10 := fun_mk (st := s_p_check_width) l10 c10 k10
  have D10 := F10.binds (ps := ["width"]) fun _ _ _ _ _ _ us hl => match us, hl with | [_], _ => rfl
  have F11 := fun_mk (st := s_p_check_count) l11 c11 k11
  have D11 := F11.binds (ps := ["count"]) fun _ _ _ _ _ _ us hl => match us, hl with | [_], _ => rfl
  have F12 := fun_mk (st := s_p_check_code) l12 c12 k12
  have D12 := F12.binds (ps := ["code"]) fun _ _ _ _ _ _ us hl => match us, hl with | [_], _ => rfl
  have F13 := fun_mk (st := s_p_context) l13 c13 k13
  have D13 := F13.binds (ps := ["width", "bits", "place"]) fun _ _ _ _ _ _ us hl => match us, hl with | [_, _, _], _ => rfl
  have F14 := fun_mk (st := s_p_interval) l14 c14 k14
  have D14 := F14.binds (ps := ["width", "bits"]) fun _ _ _ _ _ _ us hl => match us, hl with | [_, _], _ => rfl
  have F15 := fun_mk (st := s_p_shares) l15 c15 k15
  have D15 := F15.binds (ps := ["width", "bits", "place"]) fun _ _ _ _ _ _ us hl => match us, hl with | [_, _, _], _ => rfl
  have F16 := fun_mk (st := s_p_digits_value) l16 c16 k16
  have D16 := F16.binds (ps := ["digits"]) fun _ _ _ _ _ _ us hl => match us, hl with | [_], _ => rfl
  have F17 := fun_mk (st := s_p_last_with_zero) l17 c17 k17
  have D17 := F17.binds (ps := ["bits", "more"]) fun _ _ _ _ _ _ us hl => match us, hl with | [_, _], _ => rfl
  have F18 := fun_mk (st := s_p_digits_text) l18 c18 k18
  have D18 := F18.binds (ps := ["number", "many"]) fun _ _ _ _ _ _ us hl => match us, hl with | [_, _], _ => rfl
  have F19 := fun_mk (st := s_p_code_) l19 c19 k19
  have D19 := F19.binds (ps := ["width", "bits"]) fun _ _ _ _ _ _ us hl => match us, hl with | [_, _], _ => rfl
  have F20 := fun_mk (st := s_p_opens) l20 c20 k20
  have D20 := F20.binds (ps := ["width", "code", "bits"]) fun _ _ _ _ _ _ us hl => match us, hl with | [_, _, _], _ => rfl
  have F21 := fun_mk (st := s_p_first_with_one) l21 c21 k21
  have D21 := F21.binds (ps := ["bits", "more"]) fun _ _ _ _ _ _ us hl => match us, hl with | [_, _], _ => rfl
  have F22 := fun_mk (st := s_p_next_bit_) l22 c22 k22
  have D22 := F22.binds (ps := ["width", "count", "code", "bits"]) fun _ _ _ _ _ _ us hl => match us, hl with | [_, _, _, _], _ => rfl
  have F23 := fun_mk (st := s_p_find_prefix) l23 c23 k23
  have D23 := F23.binds (ps := ["width", "count", "code"]) fun _ _ _ _ _ _ us hl => match us, hl with | [_, _, _], _ => rfl
  have F24 := fun_mk (st := s_p_pick) l24 c24 k24
  have D24 := F24.binds (ps := ["width", "count", "code", "place", "bit"]) fun _ _ _ _ _ _ us hl => match us, hl with | [_, _, _, _, _], _ => rfl
  have F25 := fun_mk (st := s_p_sample) l25 c25 k25
  have D25 := F25.binds (ps := ["width", "count", "code", "place", "bit"]) fun _ _ _ _ _ _ us hl => match us, hl with | [_, _, _, _, _], _ => rfl
  have F26 := fun_mk (st := s_l_common) l26 c26 k26
  have D26 := F26.binds (ps := ["_law_rows"]) fun _ _ _ _ _ _ us hl => match us, hl with | [_], _ => rfl
  have F27 := fun_mk (st := s_l_due) l27 c27 k27
  have D27 := F27.binds (ps := ["_law_possible", "_law_place", "_law_bit"]) fun _ _ _ _ _ _ us hl => match us, hl with | [_, _, _], _ => rfl
  have F28 := fun_mk (st := s_law) l28 c28 k28
  have D28 := F28.binds (ps := ["_law_script"]) fun _ _ _ _ _ _ us hl => match us, hl with | [_], _ => rfl
  refine ⟨PySem.W.fnOf "law" "law" (defArgs s_law) (defBody s_law) (defScope s_law) .none kV28 dc28 pm28 an28 cd28 ct28, fun s u => .of_eq rfl, fun base _ _ => ?_⟩
  have oxX : OexC K CX := ⟨⟨nmX, qX, NX, bsX, bmX, snX, subX, abX, colX, ddX, k0X, k1X, k2X, k3X, k5X, clX, rvX⟩, saX, exX, tyX, kcX⟩
  have FX := fun_mk (st := s_oor) lX cX kX
  have k_oor : KnO l.prog w K mg base "OutOfRange" T.oor (spOor T.oor) := ⟨PySem.W.mg_of X G aX, oxX, fX, _, iX, tX, FX.binds fun _ _ _ _ _ _ us hl => match us, hl with | [_, _], _ => rfl, fn_oor FX sc_oor rfl oxX naX (fun _ => rfl) rfl rfl⟩
  have k_l_cell : Kn l.prog w K mg base 1 "_law_cell" ["_law_script", "_law_k"] (spM 2 T (aCons (fz (cSq K cInt)) (aCons (fz cInt) aNil)) (fun x => l_cell x.1 x.2.1) (fz cInt)) := ⟨f0, _, PySem.W.mg_of X G a0, F0.kp, D0, fn_l_cell (CO := CO) (T := T) F0 B ⟩
  have k_l_digits : Kn l.prog w K mg base 2 "_law_digits" ["_law_script", "_law_first", "_law_last"] (spM 3 T (aCons (fz (cSq K cInt)) (aCons (fz cInt) (aCons (fz cInt) aNil))) (fun x => l_digits x.1 x.2.1 x.2.2.1) (ol cInt)) := ⟨f1, _, PySem.W.mg_of X G a1, F1.kp, D1, fn_l_digits (CO := CO) (T := T) F1 B k_l_cell⟩
  have k_l_draw : Kn l.prog w K mg base 1 "_law_draw" ["_law_box", "_law_many"] (spL 1 T (aCons (fz cInt) aNil) bx (fun b x => l_draw b x.1) (fz cInt)) := ⟨f2, _, PySem.W.mg_of X G a2, F2.kp, D2, fn_l_draw (CO := CO) (T := T) F2 B ⟩
  have k_l_bits : Kn l.prog w K mg base 2 "_law_bits" ["_law_box", "_law_many"] (spL 1 T (aCons (fz cInt) aNil) bx (fun b x => l_bits b x.1) (fz cTx)) := ⟨f3, _, PySem.W.mg_of X G a3, F3.kp, D3, fn_l_bits (CO := CO) (T := T) F3 B k_l_draw⟩
  have k_l_context : Kn l.prog w K mg base 1 "_law_context" ["_law_width", "_law_bits_here", "_law_place"] (spM 3 T (aCons (fz cInt) (aCons (fz cTx) (aCons (fz cInt) aNil))) (fun x => l_context x.1 x.2.1 x.2.2.1) (fz cInt)) := ⟨f4, _, PySem.W.mg_of X G a4, F4.kp, D4, fn_l_context (CO := CO) (T := T) F4 B ⟩
  have k_l_interval : Kn l.prog w K mg base 2 "_law_interval" ["_law_width", "_law_bits_here"] (spM 2 T (aCons (fz cInt) (aCons (fz cTx) aNil)) (fun x => l_interval x.1 x.2.1) (ol cInt)) := ⟨f5, _, PySem.W.mg_of X G a5, F5.kp, D5, fn_l_interval (CO := CO) (T := T) F5 B k_l_context⟩
  have k_l_binary : Kn l.prog w K mg base 1 "_law_binary" ["_law_value", "_law_many"] (spM 2 T (aCons (fz cInt) (aCons (fz cInt) aNil)) (fun x => l_binary x.1 x.2.1) (fz cTx)) := ⟨f6, _, PySem.W.mg_of X G a6, F6.kp, D6, fn_l_binary (CO := CO) (T := T) F6 B ⟩
  have k_l_code : Kn l.prog w K mg base 3 "_law_code" ["_law_width", "_law_bits_here"] (spM 2 T (aCons (fz cInt) (aCons (fz cTx) aNil)) (fun x => l_code x.1 x.2.1) (fz cTx)) := ⟨f7, _, PySem.W.mg_of X G a7, F7.kp, D7, fn_l_code (CO := CO) (T := T) F7 B k_l_interval k_l_binary⟩
  have k_l_beginning : Kn l.prog w K mg base 4 "_law_beginning" ["_law_box", "_law_width", "_law_bits_here"] (spL 2 T (aCons (fz cInt) (aCons (fz cTx) aNil)) bx (fun b x => l_beginning b x.1 x.2.1) (fz cTx)) := ⟨f8, _, PySem.W.mg_of X G a8, F8.kp, D8, fn_l_beginning (CO := CO) (T := T) F8 B k_l_code k_l_draw k_l_bits⟩
  have k_l_all_bits : Kn l.prog w K mg base 2 "_law_all_bits" ["_law_many"] (spM 1 T (aCons (fz cInt) aNil) (fun x => l_all_bits x.1) (ol cTx)) := ⟨f9, _, PySem.W.mg_of X G a9, F9.kp, D9, fn_l_all_bits (CO := CO) (T := T) F9 B k_l_binary⟩
  have k_p_check_width : Kn l.prog w K mg base 3 "check_width" ["width"] (spM 1 T (aCons (fz cInt) aNil) (fun x => p_check_width x.1) (fun _ => sN)) := ⟨f10, _, PySem.W.mg_of X G a10, F10.kp, D10, fn_p_check_width (CO := CO) (T := T) F10 B k_oor⟩
  have k_p_check_count : Kn l.prog w K mg base 3 "check_count" ["count"] (spM 1 T (aCons (fz cInt) aNil) (fun x => p_check_count x.1) (fun _ => sN)) := ⟨f11, _, PySem.W.mg_of X G a11, F11.kp, D11, fn_p_check_count (CO := CO) (T := T) F11 B k_oor⟩
  have k_p_check_code : Kn l.prog w K mg base 3 "check_code" ["code"] (spM 1 T (aCons (fz cTx) aNil) (fun x => p_check_code x.1) (fun _ => sN)) := ⟨f12, _, PySem.W.mg_of X G a12, F12.kp, D12, fn_p_check_code (CO := CO) (T := T) F12 B k_oor⟩
  have k_p_context : Kn l.prog w K mg base 1 "context" ["width", "bits", "place"] (spM 3 T (aCons (fz cInt) (aCons (fz cTx) (aCons (fz cInt) aNil))) (fun x => p_context x.1 x.2.1 x.2.2.1) (fz cInt)) := ⟨f13, _, PySem.W.mg_of X G a13, F13.kp, D13, fn_p_context (CO := CO) (T := T) F13 B ⟩
  have k_p_interval : Kn l.prog w K mg base 2 "interval" ["width", "bits"] (spM 2 T (aCons (fz cInt) (aCons (fz cTx) aNil)) (fun x => p_interval x.1 x.2.1) (fz (cTup K (dCons cInt (dCons cInt (dOne cInt)))))) := ⟨f14, _, PySem.W.mg_of X G a14, F14.kp, D14, fn_p_interval (CO := CO) (T := T) F14 B k_p_context⟩
  have k_p_shares : Kn l.prog w K mg base 2 "shares" ["width", "bits", "place"] (spM 3 T (aCons (fz cInt) (aCons (fz cTx) (aCons (fz cInt) aNil))) (fun x => p_shares x.1 x.2.1 x.2.2.1) (fz (cTup K (dCons cInt (dOne cInt))))) := ⟨f15, _, PySem.W.mg_of X G a15, F15.kp, D15, fn_p_shares (CO := CO) (T := T) F15 B k_p_context⟩
  have k_p_digits_value : Kn l.prog w K mg base 1 "digits_value" ["digits"] (spM 1 T (aCons (fz cTx) aNil) (fun x => p_digits_value x.1) (fz cInt)) := ⟨f16, _, PySem.W.mg_of X G a16, F16.kp, D16, fn_p_digits_value (CO := CO) (T := T) F16 B ⟩
  have k_p_last_with_zero : Kn l.prog w K mg base 1 "last_with_zero" ["bits", "more"] (spM 2 T (aCons (fz cTx) (aCons (fz cInt) aNil)) (fun x => p_last_with_zero x.1 x.2.1) (fz cTx)) := ⟨f17, _, PySem.W.mg_of X G a17, F17.kp, D17, fn_p_last_with_zero (CO := CO) (T := T) F17 B ⟩
  have k_p_digits_text : Kn l.prog w K mg base 1 "digits_text" ["number", "many"] (spM 2 T (aCons (fz cInt) (aCons (fz cInt) aNil)) (fun x => p_digits_text x.1 x.2.1) (fz cTx)) := ⟨f18, _, PySem.W.mg_of X G a18, F18.kp, D18, fn_p_digits_text (CO := CO) (T := T) F18 B ⟩
  have k_p_code_ : Kn l.prog w K mg base 3 "_code" ["width", "bits"] (spM 2 T (aCons (fz cInt) (aCons (fz cTx) aNil)) (fun x => p_code_ x.1 x.2.1) (fz cTx)) := ⟨f19, _, PySem.W.mg_of X G a19, F19.kp, D19, fn_p_code_ (CO := CO) (T := T) F19 B k_p_interval k_p_digits_text⟩
  have k_p_opens : Kn l.prog w K mg base 4 "opens" ["width", "code", "bits"] (spM 3 T (aCons (fz cInt) (aCons (fz cTx) (aCons (fz cTx) aNil))) (fun x => p_opens x.1 x.2.1 x.2.2.1) (fz cBool)) := ⟨f20, _, PySem.W.mg_of X G a20, F20.kp, D20, fn_p_opens (CO := CO) (T := T) F20 B k_p_code_⟩
  have k_p_first_with_one : Kn l.prog w K mg base 1 "first_with_one" ["bits", "more"] (spM 2 T (aCons (fz cTx) (aCons (fz cInt) aNil)) (fun x => p_first_with_one x.1 x.2.1) (fz cTx)) := ⟨f21, _, PySem.W.mg_of X G a21, F21.kp, D21, fn_p_first_with_one (CO := CO) (T := T) F21 B ⟩
  have k_p_next_bit_ : Kn l.prog w K mg base 5 "_next_bit" ["width", "count", "code", "bits"] (spM 4 T (aCons (fz cInt) (aCons (fz cInt) (aCons (fz cTx) (aCons (fz cTx) aNil)))) (fun x => p_next_bit_ x.1 x.2.1 x.2.2.1 x.2.2.2.1) (fz cTx)) := ⟨f22, _, PySem.W.mg_of X G a22, F22.kp, D22, fn_p_next_bit_ (CO := CO) (T := T) F22 B k_p_interval k_p_shares k_p_digits_value k_p_last_with_zero k_p_opens k_p_first_with_one⟩
  have k_p_find_prefix : Kn l.prog w K mg base 6 "find_prefix" ["width", "count", "code"] (spM 3 T (aCons (fz cInt) (aCons (fz cInt) (aCons (fz cTx) aNil))) (fun x => p_find_prefix x.1 x.2.1 x.2.2.1) (fz (cOpt cTx))) := ⟨f23, _, PySem.W.mg_of X G a23, F23.kp, D23, fn_p_find_prefix (CO := CO) (T := T) F23 B k_p_next_bit_ k_p_opens⟩
  have k_p_pick : Kn l.prog w K mg base 7 "pick" ["width", "count", "code", "place", "bit"] (spM 5 T (aCons (fz cInt) (aCons (fz cInt) (aCons (fz cTx) (aCons (fz cInt) (aCons (fz cTx) aNil))))) (fun x => p_pick x.1 x.2.1 x.2.2.1 x.2.2.2.1 x.2.2.2.2.1) (fz (cOpt cTx))) := ⟨f24, _, PySem.W.mg_of X G a24, F24.kp, D24, fn_p_pick (CO := CO) (T := T) F24 B k_p_find_prefix k_p_last_with_zero k_p_first_with_one⟩
  have k_p_sample : Kn l.prog w K mg base 8 "sample" ["width", "count", "code", "place", "bit"] (spM 5 T (aCons (fz cInt) (aCons (fz cInt) (aCons (fz cTx) (aCons (fz cInt) (aCons (fz cTx) aNil))))) (fun x => p_sample x.1 x.2.1 x.2.2.1 x.2.2.2.1 x.2.2.2.2.1) (fz (cOpt cTx))) := ⟨f25, _, PySem.W.mg_of X G a25, F25.kp, D25, fn_p_sample (CO := CO) (T := T) F25 B k_p_check_width k_p_check_count k_p_check_code k_p_pick k_oor⟩
  have k_l_common : Kn l.prog w K mg base 1 "_law_common" ["_law_rows"] (spM 1 T (aCons (fz (cList cTx)) aNil) (fun x => l_common x.1) (fz cTx)) := ⟨f26, _, PySem.W.mg_of X G a26, F26.kp, D26, fn_l_common (CO := CO) (T := T) F26 B ⟩
  have k_l_due : Kn l.prog w K mg base 2 "_law_due" ["_law_possible", "_law_place", "_law_bit"] (spM 3 T (aCons (fz (cList cTx)) (aCons (fz cInt) (aCons (fz cTx) aNil))) (fun x => l_due x.1 x.2.1 x.2.2.1) (fz (cOpt cTx))) := ⟨f27, _, PySem.W.mg_of X G a27, F27.kp, D27, fn_l_due (CO := CO) (T := T) F27 B k_l_common⟩
  exact (fn_law F28 B k_l_digits k_l_draw k_l_bits k_l_beginning k_l_all_bits k_l_code k_p_sample k_l_due).imp (law_spQ (T := T) law_true)
theorem no_cx {P : Program} {w : World} {H : Hp} {s : Shared} {e : Value} {s' : Shared} (h : L2.CX P w [] H s (fun _ _ _ => False) e s') : False := by
  obtain ⟨_, _, _, _, _, _, _, _, _, _, _, _, z⟩ := h
  exact z
theorem walk {l : PySem.W.OpenLaw} {q : Program} {loose : List Str} {XP : (Str → Option Value) → Heap → Prop} {YP : World → Heap → Prop} {d : DefRec} {K : Params → PySem.W.Frag} (hn : l.most = some 63) (hdf : d.params.defaults = [])
    (hY : ∀ (w : World) (h : Heap), YP w h → (K w.params).In h)
    (F : ∀ (w : World) (mg : Str → Option Value) (fa : Addr) (h : Heap), (K w.params).In h → h.Ns mainGlobals mg → mg d.name = some (.ref fa) →
      ∃ fd : FuncData, (∀ (s : Shared) (u : Value), BindsTo s fd ⟨[u], []⟩ [("_law_script", u)]) ∧ ∀ base : Heap, (K w.params).In base → base.Ns mainGlobals mg → FnOk l.prog w (K w.params) mg base (L2.CX l.prog w) 9 fa fd ["_law_script"] (spTrue (K w.params))) :
    PySem.W.WalkO q loose XP YP l.row.toRowW d [] (fun f vs => PySem.call f vs) :=
  L2.walk_of (n := 63) (k := 9) (x := "_law_script") (CX := fun w => L2.CX l.prog w) (sp := fun w => spTrue (K w.params)) hn (by decide) hdf ⟨rfl, by decide, by decide⟩ hY F (fun _ _ _ ns hl _ hS => sp_true hS hl) fun _ _ _ _ _ z => no_cx z
end
end K25
open PySem PySem.W PyProof.Rows
set_option maxRecDepth 100000 in
set_option maxHeartbeats 0 in
theorem PySem.Challenge.cw_packetpicture_k25_sample_over_all_bits_holds : PySem.Challenge.rw_packetpicture_k25_sample_over_all_bits.Holds := by
  w_on; o_law; k_head; (case hw => w_witness2)
  k_fill
  refine K25.walk (l := PySem.Challenge.rw_packetpicture_k25_sample_over_all_bits) rfl rfl (fun w h Y => PySem.W.kIn_of Y) ?F
  case F =>
    intro w mg fa h KX G hmg
    refine' K25.all_mk KX G hmg ?g_WIDTH_MOST ?g_BITS_MOST ?g_CODE_MOST ?aX ?clX ?rvX ?saX ?exX ?tyX ?kcX ?iX ?tX ?naX ?lX ?cX ?kX ?a0 ?l0 ?c0 ?k0 ?a1 ?l1 ?c1 ?k1 ?a2 ?l2 ?c2 ?k2 ?a3 ?l3 ?c3 ?k3 ?a4 ?l4 ?c4 ?k4 ?a5 ?l5 ?c5 ?k5 ?a6 ?l6 ?c6 ?k6 ?a7 ?l7 ?c7 ?k7 ?a8 ?l8 ?c8 ?k8 ?a9 ?l9 ?c9 ?k9 ?a10 ?l10 ?c10 ?k10 ?a11 ?l11 ?c11 ?k11 ?a12 ?l12 ?c12 ?k12 ?a13 ?l13 ?c13 ?k13 ?a14 ?l14 ?c14 ?k14 ?a15 ?l15 ?c15 ?k15 ?a16 ?l16 ?c16 ?k16 ?a17 ?l17 ?c17 ?k17 ?a18 ?l18 ?c18 ?k18 ?a19 ?l19 ?c19 ?k19 ?a20 ?l20 ?c20 ?k20 ?a21 ?l21 ?c21 ?k21 ?a22 ?l22 ?c22 ?k22 ?a23 ?l23 ?c23 ?k23 ?a24 ?l24 ?c24 ?k24 ?a25 ?l25 ?c25 ?k25 ?a26 ?l26 ?c26 ?k26 ?a27 ?l27 ?c27 ?k27 ?a28 ?l28 ?c28 ?k28 ?z_enumerate ?z_int ?z_isinstance ?z_len ?z_range ?z_reversed ?z_str
    (case g_WIDTH_MOST => k_is)
    (case g_BITS_MOST => k_is)
    (case g_CODE_MOST => k_is)
    (case aX => k_is)
    (case clX => k_is)
    (case rvX => rfl)
    (case saX => k_is)
    (case exX => k_is)
    (case tyX => k_is)
    (case kcX => k_is)
    (case iX => k_is)
    (case tX => k_is)
    (case naX => k_is)
    (case lX => k_is)
    (case cX => k_is)
    (case kX => k_is)
    (case a0 => k_is)
    (case l0 => k_is)
    (case c0 => k_is)
    (case k0 => k_is)
    (case a1 => k_is)
    (case l1 => k_is)
    (case c1 => k_is)
    (case k1 => k_is)
    (case a2 => k_is)
    (case l2 => k_is)
    (case c2 => k_is)
    (case k2 => k_is)
    (case a3 => k_is)
    (case l3 => k_is)
    (case c3 => k_is)
    (case k3 => k_is)
    (case a4 => k_is)
    (case l4 => k_is)
    (case c4 => k_is)
    (case k4 => k_is)
    (case a5 => k_is)
    (case l5 => k_is)
    (case c5 => k_is)
    (case k5 => k_is)
    (case a6 => k_is)
    (case l6 => k_is)
    (case c6 => k_is)
    (case k6 => k_is)
    (case a7 => k_is)
    (case l7 => k_is)
    (case c7 => k_is)
    (case k7 => k_is)
    (case a8 => k_is)
    (case l8 => k_is)
    (case c8 => k_is)
    (case k8 => k_is)
    (case a9 => k_is)
    (case l9 => k_is)
    (case c9 => k_is)
    (case k9 => k_is)
    (case a10 => k_is)
    (case l10 => k_is)
    (case c10 => k_is)
    (case k10 => k_is)
    (case a11 => k_is)
    (case l11 => k_is)
    (case c11 => k_is)
    (case k11 => k_is)
    (case a12 => k_is)
    (case l12 => k_is)
    (case c12 => k_is)
    (case k12 => k_is)
    (case a13 => k_is)
    (case l13 => k_is)
    (case c13 => k_is)
    (case k13 => k_is)
    (case a14 => k_is)
    (case l14 => k_is)
    (case c14 => k_is)
    (case k14 => k_is)
    (case a15 => k_is)
    (case l15 => k_is)
    (case c15 => k_is)
    (case k15 => k_is)
    (case a16 => k_is)
    (case l16 => k_is)
    (case c16 => k_is)
    (case k16 => k_is)
    (case a17 => k_is)
    (case l17 => k_is)
    (case c17 => k_is)
    (case k17 => k_is)
    (case a18 => k_is)
    (case l18 => k_is)
    (case c18 => k_is)
    (case k18 => k_is)
    (case a19 => k_is)
    (case l19 => k_is)
    (case c19 => k_is)
    (case k19 => k_is)
    (case a20 => k_is)
    (case l20 => k_is)
    (case c20 => k_is)
    (case k20 => k_is)
    (case a21 => k_is)
    (case l21 => k_is)
    (case c21 => k_is)
    (case k21 => k_is)
    (case a22 => k_is)
    (case l22 => k_is)
    (case c22 => k_is)
    (case k22 => k_is)
    (case a23 => k_is)
    (case l23 => k_is)
    (case c23 => k_is)
    (case k23 => k_is)
    (case a24 => k_is)
    (case l24 => k_is)
    (case c24 => k_is)
    (case k24 => k_is)
    (case a25 => k_is)
    (case l25 => k_is)
    (case c25 => k_is)
    (case k25 => k_is)
    (case a26 => k_is)
    (case l26 => k_is)
    (case c26 => k_is)
    (case k26 => k_is)
    (case a27 => k_is)
    (case l27 => k_is)
    (case c27 => k_is)
    (case k27 => k_is)
    (case a28 => k_is)
    (case l28 => k_is)
    (case c28 => k_is)
    (case k28 => k_is)
    (case z_enumerate => k_is)
    (case z_int => k_is)
    (case z_isinstance => k_is)
    (case z_len => k_is)
    (case z_range => k_is)
    (case z_reversed => k_is)
    (case z_str => k_is)
