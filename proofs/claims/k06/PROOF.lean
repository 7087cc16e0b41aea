import PyProof.Rows.All
import Wide.All
import OpenK.AllK
import Wide.FinOn
import HandS.ForMost
import HandS.Evl
import HandS.Walk
import HandS.Wide
import HandS.WideBits
import HandS.ForExc
import HandS.RevRange
import HandS.Conv
import HandS.IsInst
import KE.DataEq
import PyProof.StrOps2
import HandS.Iter
import HandS.ExcInit
import HandS.ExcIs
import HandS.ExcField
import KE.GoesEnum
import KE.GoesMore
import PyProof.Draws
import HandS.Flow
import PySem.Challenge.RW_packetpicture_k06_picture_bounds_and_cop
set_option Elab.async false
set_option linter.all false
set_option maxRecDepth 100000
set_option maxHeartbeats 4000000
set_option synthInstance.maxSize 4000
/-! Res: the mirror's own words (plain Lean). -/
namespace R

abbrev Tx := List Nat
def tx (s : String) : Tx := s.toList.map Char.toNat

/-- what is raised: OutOfRange(name), TextFault(line, column, words), any other own class, by its number -/
inductive Exn where
  | oor (name : Tx)
  | txt (line column : Int) (words : Tx)
  | cls (k : Nat)
  deriving DecidableEq

/-- an answer, an exception, or a place that the walk does not pass -/
inductive Res (α : Type) where
  | ok (a : α)
  | exn (e : Exn)
  | stuck

def Res.bind {α β : Type} (m : Res α) (f : α → Res β) : Res β :=
  match m with
  | .ok a => f a
  | .exn e => .exn e
  | .stuck => .stuck
@[simp] theorem Res.ok_bind {α β : Type} (a : α) (f : α → Res β) : (Res.ok a).bind f = f a := by
  have h : ∀ m : Res α, m = .ok a → m.bind f = f a := fun m h => by subst h; rfl
  exact h _ rfl
@[simp] theorem Res.exn_bind {α β : Type} (e : Exn) (f : α → Res β) : (Res.exn e : Res α).bind f = .exn e := rfl
@[simp] theorem Res.stuck_bind {α β : Type} (f : α → Res β) : (Res.stuck : Res α).bind f = .stuck := rfl
@[simp] theorem Res.bind_ok {α : Type} (m : Res α) : m.bind .ok = m := by cases m <;> rfl
theorem Res.bind_assoc {α β γ : Type} (m : Res α) (f : α → Res β) (g : β → Res γ) : (m.bind f).bind g = m.bind fun a => (f a).bind g := by cases m <;> rfl

/-- where nothing may be raised -/
def Res.calm {α : Type} (m : Res α) : Res α :=
  match m with
  | .ok a => .ok a
  | _ => .stuck
@[simp] theorem Res.ok_calm {α : Type} (a : α) : (Res.ok a).calm = .ok a := rfl
/-- try: what is raised, by its clauses -/
def tryR {α : Type} (m : Res α) (h : Exn → Option (Res α)) : Res α :=
  match m with
  | .ok a => .ok a
  | .exn e => match h e with
    | some r => r.calm
    | none => .exn e
  | .stuck => .stuck
def Exn.isO : Exn → Bool
  | .oor _ => true
  | _ => false
def Exn.isT : Exn → Bool
  | .txt _ _ _ => true
  | _ => false
def Exn.isC (k : Nat) : Exn → Bool
  | .cls j => j == k
  | _ => false
def Exn.isA : Exn → Bool := fun _ => true
def exName : Exn → Res Tx
  | .oor n => .ok n
  | _ => .stuck
def exLine : Exn → Res Int
  | .txt l _ _ => .ok l
  | _ => .stuck
def exColumn : Exn → Res Int
  | .txt _ c _ => .ok c
  | _ => .stuck
def exWords : Exn → Res Tx
  | .txt _ _ w => .ok w
  | _ => .stuck
@[simp] theorem tryR_ok {α : Type} (a : α) (h : Exn → Option (Res α)) : tryR (.ok a) h = .ok a := rfl
/-- what must hold of an answer, of an exception -/
def Res.wp {α : Type} (m : Res α) (Q : α → Prop) (E : Exn → Prop) : Prop :=
  match m with
  | .ok a => Q a
  | .exn e => E e
  | .stuck => False
theorem Res.wp_bind {α β : Type} {m : Res α} {f : α → Res β} {Q : β → Prop} {E : Exn → Prop} (h : (m.bind f).wp Q E) : m.wp (fun a => (f a).wp Q E) E := by cases m <;> exact h
theorem Res.wp_mono {α : Type} {m : Res α} {Q Q' : α → Prop} {E E' : Exn → Prop} (h : m.wp Q E) (hq : ∀ a, Q a → Q' a) (he : ∀ e, E e → E' e) : m.wp Q' E' := by
  cases m with
  | ok a => exact hq a h
  | exn e => exact he e h
  | stuck => exact h
theorem Res.wp_calm {α : Type} {m : Res α} {Q : α → Prop} {E : Exn → Prop} (h : m.calm.wp Q E) : m.wp Q fun _ => False := by
  cases m with
  | ok a => exact h
  | exn e => exact h
  | stuck => exact h

/-- how a statement ends -/
inductive Ctl (S B : Type) where
  | nx (s : S)
  | ret (b : B)
  | brk (s : S)
  | cnt (s : S)

/-- a check -/
def chk {α : Type} (c : Bool) (m : Res α) : Res α := if c then m else .stuck
@[simp] theorem chk_true {α : Type} (m : Res α) : chk true m = m := rfl
theorem chk_of {α : Type} {c : Bool} {m : Res α} (h : c = true) : chk c m = m := by rw [h]; rfl

/-! ### whole numbers -/
def line : Nat := 16777216
def nbits (i : Int) : Nat := if i = 0 then 0 else i.natAbs.log2 + 1
def mul (i j : Int) : Res Int := chk (decide (nbits i + nbits j ≤ 134217728)) (.ok (i * j))
/-- a product by a small number -/
def mulc (i j : Int) : Int := i * j
def fdiv (i j : Int) : Res Int := chk (decide (0 < j) && decide (j.natAbs.log2 < 9000)) (.ok (i / j))
def fmod (i j : Int) : Res Int := chk (decide (0 < j)) (.ok (i % j))
def shl (i j : Int) : Res Int := chk (decide (0 ≤ j) && decide ((nbits i : Int) + j ≤ 134217728)) (.ok (i * 2 ^ j.toNat))
def shr (i j : Int) : Res Int := chk (decide (0 ≤ j)) (.ok (i / 2 ^ j.toNat))
def xor (i j : Int) : Res Int := chk (decide (0 ≤ i) && decide (0 ≤ j)) (.ok ((i.toNat ^^^ j.toNat : Nat) : Int))
def band (i j : Int) : Res Int := chk (decide (0 ≤ i) && decide (0 ≤ j)) (.ok ((i.toNat &&& j.toNat : Nat) : Int))
def bor (i j : Int) : Res Int := chk (decide (0 ≤ i) && decide (0 ≤ j)) (.ok ((i.toNat ||| j.toNat : Nat) : Int))
def abs (i : Int) : Int := if i < 0 then -i else i
def max2 (i j : Int) : Int := if j > i then j else i
def min2 (i j : Int) : Int := if j < i then j else i
def b2i (b : Bool) : Int := if b then 1 else 0

/-! ### rows by place -/
def ixN (n : Nat) (i : Int) : Option Nat := if 0 ≤ i then (if i < n then some i.toNat else none) else if -(n : Int) ≤ i then some (i + n).toNat else none
def atI {α : Type} (xs : List α) (i : Int) : Option α := (ixN xs.length i).bind fun j => xs[j]?
def idx {α : Type} (xs : List α) (i : Int) : Res α :=
  match atI xs i with
  | some v => .ok v
  | none => .stuck
def setI {α : Type} (xs : List α) (i : Int) (v : α) : Res (List α) :=
  match ixN xs.length i with
  | some j => .ok (xs.set j v)
  | none => .stuck
def push {α : Type} (xs : List α) (v : α) : Res (List α) := chk (decide (xs.length < line)) (.ok (xs ++ [v]))
def cat {α : Type} (xs ys : List α) : Res (List α) := chk (decide (xs.length + ys.length ≤ line)) (.ok (xs ++ ys))
def rep {α : Type} (xs : List α) (k : Int) : Res (List α) := chk (decide (-(2 ^ 63) ≤ k) && (decide (k < 2 ^ 63) && decide (xs.length * k.toNat ≤ line))) (.ok (List.replicate k.toNat xs).flatten)
/-- a slice's bound within 0 .. n -/
def sIx (n d : Nat) : Option Int → Nat
  | none => d
  | some v => if v < 0 then (v + (n : Int)).toNat else min v.toNat n
def cut {α : Type} (xs : List α) (lo hi : Option Int) : List α := (xs.drop (sIx xs.length 0 lo)).take (sIx xs.length xs.length hi - sIx xs.length 0 lo)

def unopt {α : Type} : Option α → Res α
  | some a => .ok a
  | none => .stuck
def dvm (i j : Int) : Res (Int × Int) := chk (decide (0 < j) && decide (j < 1073741824)) (.ok (i / j, i % j))
def strI (i : Int) : Res Tx := chk (decide (i.natAbs.log2 < 1920) && decide ((tx (toString i)).length ≤ line)) (.ok (tx (toString i)))
def joinT (sep : Tx) : List Tx → Tx
  | [] => []
  | [p] => p
  | p :: q :: r => p ++ (sep ++ joinT sep (q :: r))
def joinS (sep : Tx) (ps : List Tx) : Res Tx := chk (decide ((ps.map List.length).sum + ps.length * sep.length ≤ line)) (.ok (joinT sep ps))
/-! ### walks -/
/-- a loop that carries s and never leaves -/
def fold {α S : Type} (f : α → S → Res S) : List α → S → Res S
  | [], s => .ok s
  | x :: r, s => (f x s).bind fun s' => fold f r s'
/-- a loop that may leave: nx, cnt go on, brk ends it, ret leaves -/
def loop {α S B : Type} (f : α → S → Res (Ctl S B)) : List α → S → Res (Ctl S B)
  | [], s => .ok (.nx s)
  | x :: r, s => (f x s).bind fun c =>
    match c with
    | .nx s' => loop f r s'
    | .cnt s' => loop f r s'
    | .brk s' => .ok (.nx s')
    | .ret b => .ok (.ret b)
/-- a while with so many turns at most -/
def whil {S B : Type} (t : S → Res Bool) (f : S → Res (Ctl S B)) : Nat → S → Res (Ctl S B)
  | 0, _ => .stuck
  | n + 1, s => (t s).bind fun b => if b then (f s).bind fun c =>
      match c with
      | .nx s' => whil t f n s'
      | .cnt s' => whil t f n s'
      | .brk s' => .ok (.nx s')
      | .ret r => .ok (.ret r)
    else .ok (.nx s)
/-- .. that only goes on -/
def whilN {S : Type} (t : S → Res Bool) (f : S → Res S) : Nat → S → Res S
  | 0, _ => .stuck
  | n + 1, s => (t s).bind fun b => if b then (f s).bind fun s' => whilN t f n s' else .ok s
def mapK {α β : Type} (f : α → Res β) : List α → Res (List β)
  | [] => .ok []
  | x :: r => (f x).calm.bind fun y => (mapK f r).bind fun ys => .ok (y :: ys)
/-- [e for x in xs] -/
def mapC {α β : Type} (f : α → Res β) (xs : List α) : Res (List β) := chk (decide (xs.length ≤ line)) (mapK f xs)
def filK {α β : Type} (t : α → Res Bool) (f : α → Res β) : List α → Res (List β)
  | [] => .ok []
  | x :: r => (t x).calm.bind fun b => if b then (f x).calm.bind fun y => (filK t f r).bind fun ys => .ok (y :: ys) else filK t f r
/-- [e for x in xs if t] -/
def filC {α β : Type} (t : α → Res Bool) (f : α → Res β) (xs : List α) : Res (List β) := chk (decide (xs.length ≤ line)) (filK t f xs)
/-- the lists that a walk gives, one behind the other -/
def catK {α β : Type} (f : α → Res (List β)) : List α → Res (List β)
  | [] => .ok []
  | x :: r => (f x).calm.bind fun ys => (catK f r).bind fun zs => .ok (ys ++ zs)
/-- [e for x in xs for y in ..] -/
def catC {α β : Type} (f : α → Res (List β)) (xs : List α) : Res (List β) := (catK f xs).bind fun ys => chk (decide (ys.length ≤ line)) (.ok ys)
def range (a b : Int) : List Int := (List.range (b - a).toNat).map fun (i : Nat) => a + (i : Int)

def rng (a b : Int) : Res (List Int) := chk (decide (-(2 ^ 62) ≤ a) && (decide (a < 2 ^ 62) && (decide (-(2 ^ 62) ≤ b) && decide (b < 2 ^ 62)))) (.ok (range a b))

def revL (n : Int) : Res (List Int) := chk (decide (-(2 ^ 62) ≤ n) && decide (n ≤ 16777216)) (.ok (range 0 n).reverse)
def enumL {α : Type} (xs : List α) : List (Int × α) := (List.range xs.length).zipWith (fun (i : Nat) x => ((i : Int), x)) xs
def rangeN (a b c : Int) : Nat := if a < b then ((b - a - 1) / c + 1).toNat else 0
def rangeC (a b c : Int) : List Int := (List.range (rangeN a b c)).map fun (i : Nat) => a + (i : Int) * c
def rngC (a b c : Int) : Res (List Int) := chk (decide (-(2 ^ 62) ≤ a) && (decide (a < 2 ^ 62) && (decide (-(2 ^ 62) ≤ b) && (decide (b < 2 ^ 62) && (decide (0 < c) && decide (c < 1073741824)))))) (.ok (rangeC a b c))

def withCtl {S B : Type} (m : Res (Ctl S B)) (f : S → Res B) : Res B := m.bind fun c =>
  match c with
  | .nx s => f s
  | .ret b => .ok b
  | .brk _ => .stuck
  | .cnt _ => .stuck
def thenCtl {S T B : Type} (m : Res (Ctl S B)) (f : S → Res (Ctl T B)) : Res (Ctl T B) := m.bind fun c =>
  match c with
  | .nx s => f s
  | .ret b => .ok (.ret b)
  | .brk _ => .stuck
  | .cnt _ => .stuck
/-- whether a text starts so -/
def starts (s p : Tx) : Bool := p.isPrefixOf s
/-- int of a digit's text -/
def intT (t : Tx) : Res Int :=
  match t with
  | [c] => chk (decide (48 ≤ c) && decide (c ≤ 57)) (.ok ((c : Int) - 48))
  | _ => .stuck
/-- how often it stands in a list -/
def cnt {α : Type} [DecidableEq α] (xs : List α) (k : α) : Int := (xs.countP fun x => decide (x = k) : Nat)
/-- a text made so long with a sign behind it -/
def ljust (s : Tx) (n : Int) (c : Nat) : Res Tx := chk (decide (0 ≤ n) && (decide (n ≤ 16777216) && decide (s.length ≤ line))) (.ok (s ++ List.replicate (n.toNat - s.length) c))
/-! ### tables: rows of pairs, in the order of their first stores -/
def dget {κ β : Type} [DecidableEq κ] (xs : List (κ × β)) (k : κ) : Option β := (xs.find? fun p => decide (p.1 = k)).map (·.2)
def dput {κ β : Type} [DecidableEq κ] (xs : List (κ × β)) (k : κ) (b : β) : List (κ × β) := if (xs.any fun p => decide (p.1 = k)) = true then xs.map (fun p => if p.1 = k then (p.1, b) else p) else xs ++ [(k, b)]
def dhas {κ β : Type} [DecidableEq κ] (xs : List (κ × β)) (k : κ) : Bool := (dget xs k).isSome
def dputR {κ β : Type} [DecidableEq κ] (xs : List (κ × β)) (k : κ) (b : β) : Res (List (κ × β)) := chk (decide (xs.length < line)) (.ok (dput xs k b))
def dat {κ β : Type} [DecidableEq κ] (xs : List (κ × β)) (k : κ) : Res β :=
  match dget xs k with
  | some b => .ok b
  | none => .stuck
def dgetD {κ β : Type} [DecidableEq κ] (xs : List (κ × β)) (k : κ) (b : β) : β := (dget xs k).getD b
end R
/-! Res2: more of the mirror: the greatest of a list, lists made by a walk that changes something on its way. -/
namespace R
def maxL : List Int → Res Int
  | [] => .stuck
  | x :: r => .ok (r.foldl (fun a b => if a < b then b else a) x)
def minL : List Int → Res Int
  | [] => .stuck
  | x :: r => .ok (r.foldl (fun a b => if b < a then b else a) x)
theorem foldl_max : ∀ (r : List Int) (x : Int), (r.foldl (fun a b => if a < b then b else a) x ∈ x :: r) ∧ ∀ y ∈ x :: r, y ≤ r.foldl (fun a b => if a < b then b else a) x
  | [], x => ⟨List.mem_cons_self, fun y h => by rw [List.mem_singleton.mp h]; exact Int.le_refl _⟩
  | b :: r, x => by
    obtain ⟨h1, h2⟩ := foldl_max r (if x < b then b else x)
    rw [List.foldl_cons]
    refine ⟨?_, fun y hy => ?_⟩
    · rcases List.mem_cons.mp h1 with h | h
      · rw [h]
        split
        · exact List.mem_cons_of_mem _ List.mem_cons_self
        · exact List.mem_cons_self
      · exact List.mem_cons_of_mem _ (List.mem_cons_of_mem _ h)
    · have h0 := h2 _ List.mem_cons_self
      have hx : x ≤ (if x < b then b else x) ∧ b ≤ (if x < b then b else x) := by split <;> omega
      rcases List.mem_cons.mp hy with rfl | hy
      · exact Int.le_trans hx.1 h0
      · rcases List.mem_cons.mp hy with rfl | hy
        · exact Int.le_trans hx.2 h0
        · exact h2 y (List.mem_cons_of_mem _ hy)
theorem foldl_min : ∀ (r : List Int) (x : Int), (r.foldl (fun a b => if b < a then b else a) x ∈ x :: r) ∧ ∀ y ∈ x :: r, r.foldl (fun a b => if b < a then b else a) x ≤ y
  | [], x => ⟨List.mem_cons_self, fun y h => by rw [List.mem_singleton.mp h]; exact Int.le_refl _⟩
  | b :: r, x => by
    obtain ⟨h1, h2⟩ := foldl_min r (if b < x then b else x)
    rw [List.foldl_cons]
    refine ⟨?_, fun y hy => ?_⟩
    · rcases List.mem_cons.mp h1 with h | h
      · rw [h]
        split
        · exact List.mem_cons_of_mem _ List.mem_cons_self
        · exact List.mem_cons_self
      · exact List.mem_cons_of_mem _ (List.mem_cons_of_mem _ h)
    · have h0 := h2 _ List.mem_cons_self
      have hx : (if b < x then b else x) ≤ x ∧ (if b < x then b else x) ≤ b := by split <;> omega
      rcases List.mem_cons.mp hy with rfl | hy
      · exact Int.le_trans h0 hx.1
      · rcases List.mem_cons.mp hy with rfl | hy
        · exact Int.le_trans h0 hx.2
        · exact h2 y (List.mem_cons_of_mem _ hy)
theorem maxL_ok {ns : List Int} {m : Int} (h : maxL ns = .ok m) : m ∈ ns ∧ ∀ y ∈ ns, y ≤ m := by
  cases ns with
  | nil => cases h
  | cons x r =>
    cases h
    exact foldl_max r x
theorem minL_ok {ns : List Int} {m : Int} (h : minL ns = .ok m) : m ∈ ns ∧ ∀ y ∈ ns, m ≤ y := by
  cases ns with
  | nil => cases h
  | cons x r =>
    cases h
    exact foldl_min r x
theorem maxL_ne {ns : List Int} : ∀ e, maxL ns ≠ .exn e := fun e z => by cases ns <;> cases z
theorem minL_ne {ns : List Int} : ∀ e, minL ns ≠ .exn e := fun e z => by cases ns <;> cases z
/-- a list made item by item, something changing on the way -/
def mapSK {α β S : Type} (f : α → S → Res (β × S)) : List α → S → Res (List β × S)
  | [], s => .ok ([], s)
  | x :: r, s => (f x s).calm.bind fun p => (mapSK f r p.2).bind fun q => .ok (p.1 :: q.1, q.2)
def mapSC {α β S : Type} (f : α → S → Res (β × S)) (xs : List α) (s : S) : Res (List β × S) := chk (decide (xs.length ≤ line)) (mapSK f xs s)
/-- d.setdefault(k, []).append(y) -/
def setdR {κ β : Type} [DecidableEq κ] (xs : List (κ × List β)) (k : κ) (y : β) : Res (List (κ × List β)) := chk (decide (xs.length < line)) ((push (dgetD xs k []) y).bind fun ys => .ok (dput xs k ys))
/-- from the greatest down -/
def srtDown (ks : List Int) : List Int := ks.mergeSort fun a b => decide (b ≤ a)
/-- sorted(d, reverse=True) -/
def sortDR {β : Type} (xs : List (Int × β)) : Res (List Int) := chk (decide (xs.length ≤ line)) (.ok (srtDown (xs.map (·.1))))
end R
/-! Res3: a value of a list, stored anew where there is one; a list whose items are turned one by one. -/
namespace R
def lput {α : Type _} (xs : List α) (k : Int) (a : α) : List α :=
  match ixN xs.length k with
  | some j => xs.set j a
  | none => xs
def zipU {α β : Type} (f : α → β → Res α) : List α → List β → Res (List α)
  | [], _ => .ok []
  | r :: rs, [] => .ok (r :: rs)
  | r :: rs, y :: ys => (f r y).bind fun r' => (zipU f rs ys).bind fun rs' => .ok (r' :: rs')
end R
/-! Res4: texts in order. -/
namespace R
def ltT : Tx → Tx → Bool
  | [], [] => false
  | [], _ :: _ => true
  | _ :: _, [] => false
  | a :: r, b :: t => decide (a < b) || (a == b && ltT r t)
theorem ltT_irr : ∀ a, ltT a a = false
  | [] => rfl
  | x :: r => by
    show (decide (x < x) || (x == x && ltT r r)) = false
    rw [ltT_irr r]
    simp
theorem ltT_iff (a b : Nat) (r t : Tx) : ltT (a :: r) (b :: t) = true ↔ a < b ∨ (a = b ∧ ltT r t = true) := by
  show (decide (a < b) || (a == b && ltT r t)) = true ↔ _
  rw [Bool.or_eq_true, Bool.and_eq_true, decide_eq_true_eq, beq_iff_eq]
theorem ltT_total : ∀ a b, ltT a b = true ∨ a = b ∨ ltT b a = true
  | [], [] => .inr (.inl rfl)
  | [], _ :: _ => .inl rfl
  | _ :: _, [] => .inr (.inr rfl)
  | x :: r, y :: t => by
    rw [ltT_iff, ltT_iff]
    rcases Nat.lt_trichotomy x y with h | h | h
    · exact .inl (.inl h)
    · subst h
      rcases ltT_total r t with z | z | z
      · exact .inl (.inr ⟨rfl, z⟩)
      · exact .inr (.inl (by rw [z]))
      · exact .inr (.inr (.inr ⟨rfl, z⟩))
    · exact .inr (.inr (.inl h))
theorem ltT_trans : ∀ {a b c}, ltT a b = true → ltT b c = true → ltT a c = true
  | [], _, [], h, k => by cases ‹List Nat› <;> simp [ltT] at h k
  | [], _, _ :: _, _, _ => rfl
  | _ :: _, [], _, h, _ => by simp [ltT] at h
  | _ :: _, _ :: _, [], _, k => by simp [ltT] at k
  | x :: r, y :: t, z :: u, h, k => by
    rw [ltT_iff] at h k ⊢
    rcases h with h | ⟨h, h'⟩ <;> rcases k with k | ⟨k, k'⟩
    · exact .inl (by omega)
    · exact .inl (by omega)
    · exact .inl (by omega)
    · exact .inr ⟨by omega, ltT_trans h' k'⟩
theorem ltT_asymm {a b : Tx} (h : ltT a b = true) : ltT b a = false := by
  cases e : ltT b a with
  | false => rfl
  | true => have := ltT_trans h e; rw [ltT_irr] at this; cases this
/-- the texts in order -/
def sorT (xs : List Tx) : List Tx := xs.mergeSort fun a b => !ltT b a
def sortT (xs : List Tx) : Res (List Tx) := chk (decide (xs.length < 64)) (.ok (sorT xs))
theorem sorT_perm (xs : List Tx) : (sorT xs).Perm xs := List.mergeSort_perm _ _
theorem sorT_pair (xs : List Tx) : (sorT xs).Pairwise fun a b => ltT b a = false := by
  have := List.pairwise_mergeSort (le := fun a b : Tx => !ltT b a) (fun a b c h k => by
    rw [Bool.not_eq_true'] at h k ⊢
    rcases ltT_total a c with z | z | z
    · exact ltT_asymm z
    · rw [z]; exact ltT_irr c
    · rcases ltT_total b c with y | y | y
      · rw [ltT_trans y z] at h; cases h
      · rw [y, z] at h; cases h
      · rw [y] at k; cases k) (fun a b => by
    rw [Bool.or_eq_true, Bool.not_eq_true', Bool.not_eq_true']
    rcases ltT_total a b with z | z | z
    · exact .inl (ltT_asymm z)
    · rw [z]; exact .inl (ltT_irr b)
    · exact .inr (ltT_asymm z)) xs
  exact this.imp fun h => by simpa using h
theorem sorT_eq {xs ys : List Tx} (p : ys.Perm xs) (h : ys.Pairwise fun a b => ltT b a = false) : ys = sorT xs :=
  List.Perm.eq_of_pairwise (le := fun a b : Tx => ltT b a = false) (fun a b _ _ h k => by
    rcases ltT_total a b with z | z | z
    · rw [z] at k; cases k
    · exact z
    · rw [z] at h; cases h) h (sorT_pair xs) (p.trans (sorT_perm xs).symm)
theorem sortT_ne {xs : List Tx} : ∀ e, sortT xs ≠ .exn e := fun e h => by
  unfold sortT chk at h
  split at h <;> cases h
end R
/-! Res5: exceptions that a state must fit; the state that fits. -/
namespace R
/-- what is raised is raised only if b; otherwise nothing is known -/
def exnIf {α : Type} (b : Bool) (m : Res α) : Res α :=
  match m with
  | .exn e => if b then .exn e else .stuck
  | r => r
/-- a state at which something is known -/
noncomputable def pick {σ ρ : Type} [Nonempty σ] (f : σ → Res ρ) : σ := Classical.epsilon fun x => f x ≠ .stuck
theorem pick_ne {σ ρ : Type} [Nonempty σ] {f : σ → Res ρ} (h : ∃ x, f x ≠ .stuck) : f (pick f) ≠ .stuck := Classical.epsilon_spec h
theorem Res.wp_exnIf {α : Type} {b : Bool} {m : Res α} {Q : α → Prop} {E : Exn → Prop} (h : (exnIf b m).wp Q E) : m.wp Q fun e => b = true ∧ E e := by
  cases m with
  | ok a => exact h
  | exn e =>
    cases b with
    | true => exact ⟨rfl, h⟩
    | false => exact h.elim
  | stuck => exact h
end R
/-! Res6: lists that lose items. -/
namespace R
/-- xs.pop(): the last one, and what is left -/
def popL {α : Type} (xs : List α) : Res (α × List α) :=
  match xs.getLast? with
  | some x => .ok (x, xs.dropLast)
  | none => .stuck
/-- xs.pop(i) -/
def popI {α : Type} (xs : List α) (i : Int) : Res (α × List α) := chk (decide (xs.length ≤ line)) (
  match ixN xs.length i with
  | none => .stuck
  | some j => match xs[j]? with
    | some x => .ok (x, xs.eraseIdx j)
    | none => .stuck)
/-- del xs[i] -/
def delI {α : Type} (xs : List α) (i : Int) : Res (List α) := chk (decide (xs.length ≤ line)) (
  match ixN xs.length i with
  | none => .stuck
  | some j => .ok (xs.eraseIdx j))
theorem popL_ne {α : Type} {xs : List α} : ∀ e, popL xs ≠ .exn e := fun e z => by
  unfold popL at z
  cases q : xs.getLast? with
  | none => rw [q] at z; cases z
  | some v => rw [q] at z; cases z
theorem popI_ne {α : Type} {xs : List α} {i : Int} : ∀ e, popI xs i ≠ .exn e := fun e z => by
  unfold popI chk at z
  split at z
  · split at z
    · cases z
    · split at z <;> cases z
  · cases z
theorem delI_ne {α : Type} {xs : List α} {i : Int} : ∀ e, delI xs i ≠ .exn e := fun e z => by
  unfold delI chk at z
  split at z
  · split at z <;> cases z
  · cases z
theorem popL_ok {α : Type} {xs : List α} {r : α × List α} (h : popL xs = .ok r) : xs = r.2 ++ [r.1] := by
  unfold popL at h
  cases q : xs.getLast? with
  | none => rw [q] at h; cases h
  | some v =>
    rw [q] at h
    cases h
    obtain ⟨ys, rfl⟩ := List.getLast?_eq_some_iff.mp q
    rw [List.dropLast_concat]
theorem popL_snoc {α : Type} {xs : List α} {x : α} : popL (xs ++ [x]) = .ok (x, xs) := by
  unfold popL
  rw [List.getLast?_concat, List.dropLast_concat]
theorem popI_ok {α : Type} {xs : List α} {i : Int} {r : α × List α} (h : popI xs i = .ok r) : xs.length ≤ line ∧ ∃ j, ixN xs.length i = some j ∧ xs[j]? = some r.1 ∧ r.2 = xs.eraseIdx j := by
  unfold popI chk at h
  split at h
  · rename_i q
    refine ⟨of_decide_eq_true q, ?_⟩
    split at h
    · cases h
    · rename_i j e
      split at h
      · rename_i x e2
        cases h
        exact ⟨j, e, e2, rfl⟩
      · cases h
  · cases h
theorem delI_ok {α : Type} {xs : List α} {i : Int} {r : List α} (h : delI xs i = .ok r) : xs.length ≤ line ∧ ∃ j, ixN xs.length i = some j ∧ r = xs.eraseIdx j := by
  unfold delI chk at h
  split at h
  · rename_i q
    refine ⟨of_decide_eq_true q, ?_⟩
    split at h
    · cases h
    · rename_i j e
      cases h
      exact ⟨j, e, rfl⟩
  · cases h
theorem popI_at {α : Type} {xs : List α} {i : Int} {j : Nat} {x : α} (h0 : xs.length ≤ line) (h1 : ixN xs.length i = some j) (h2 : xs[j]? = some x) : popI xs i = .ok (x, xs.eraseIdx j) := by
  unfold popI chk
  rw [if_pos (by simpa using h0), h1]
  simp only [h2]
theorem delI_at {α : Type} {xs : List α} {i : Int} {j : Nat} (h0 : xs.length ≤ line) (h1 : ixN xs.length i = some j) : delI xs i = .ok (xs.eraseIdx j) := by
  unfold delI chk
  rw [if_pos (by simpa using h0), h1]
end R
/-! Res7: a while whose test changes something. -/
namespace R
def whilE {S A : Type} (t : S → Res (Bool × A)) (g : S → A → S) (f : S → Res S) : Nat → S → Res S
  | 0, _ => .stuck
  | n + 1, s => (t s).bind fun r => if r.1 then (f (g s r.2)).bind fun s' => whilE t g f n s' else .ok (g s r.2)
end R
/-! Rt1: places (Sl) with what they own; what holds of them over a frozen part G of the heap H. -/
namespace Rt
open PySem L2 R
abbrev Ex := Evl.Ex

/-- what a value at hand is, over the frozen part G and the heap H; ps: the addresses that it owns -/
structure Sl where
  rel : Hp → Hp → V → List Addr → Prop
  mono : ∀ {G H G' H' : Hp} {v : V} {ps : List Addr}, rel G H v ps → Ex G G' → (∀ p ∈ ps, H' p = H p) → rel G' H' v ps
/-- what a value is over the frozen part alone -/
structure Cod (α : Type) where
  rel : Hp → V → α → Prop
  mono : ∀ {G G' : Hp} {v : V} {a : α}, rel G v a → Ex G G' → rel G' v a
def fz {α : Type} (c : Cod α) (a : α) : Sl := ⟨fun G _ v ps => c.rel G v a ∧ ps = [], fun h e _ => ⟨c.mono h.1 e, h.2⟩⟩
/-- an owned list whose items are frozen -/
def ol {α : Type} (c : Cod α) (xs : List α) : Sl :=
  ⟨fun G H v ps => ∃ p vs, v = .ref p ∧ ps = [p] ∧ H p = some (.lst vs) ∧ Paired (c.rel G) vs xs, fun h e k => by
    obtain ⟨p, vs, h1, h2, h3, h4⟩ := h
    refine ⟨p, vs, h1, h2, ?_, Paired.mono (fun _ _ q => c.mono q e) h4⟩
    rw [k p (by rw [h2]; exact List.mem_cons_self)]
    exact h3⟩

abbrev Pl := Option Sl × Option V
def plOk (G H : Hp) (o : Option Sl) (w : Option V) (ps : List Addr) : Prop :=
  match o with
  | none => ps = []
  | some s => ∃ v, w = some v ∧ s.rel G H v ps
def All (G H : Hp) : List Pl → List Addr → Prop
  | [], ps => ps = []
  | p :: l, ps => ∃ p1 p2, ps = p1 ++ p2 ∧ plOk G H p.1 p.2 p1 ∧ All G H l p2
theorem plOk.mono {G H G' H' : Hp} {o : Option Sl} {w : Option V} {ps : List Addr} (h : plOk G H o w ps) (e : Ex G G') (k : ∀ p ∈ ps, H' p = H p) : plOk G' H' o w ps := by
  cases o with
  | none => exact h
  | some s =>
    obtain ⟨v, h1, h2⟩ := h
    exact ⟨v, h1, s.mono h2 e k⟩
theorem All.mono {G H G' H' : Hp} : ∀ {l : List Pl} {ps : List Addr}, All G H l ps → Ex G G' → (∀ p ∈ ps, H' p = H p) → All G' H' l ps
  | [], _, h, _, _ => h
  | _ :: _, _, ⟨p1, p2, h1, h2, h3⟩, e, k => ⟨p1, p2, h1, h2.mono e (fun p hp => k p (by rw [h1]; exact List.mem_append_left _ hp)), h3.mono e fun p hp => k p (by rw [h1]; exact List.mem_append_right _ hp)⟩
theorem All.perm {G H : Hp} {l l' : List Pl} (hp : l.Perm l') : ∀ {ps : List Addr}, All G H l ps → ∃ ps', ps.Perm ps' ∧ All G H l' ps' := by
  induction hp with
  | nil => intro ps h; exact ⟨ps, .refl _, h⟩
  | cons x _ ih =>
    rintro ps ⟨p1, p2, rfl, h2, h3⟩
    obtain ⟨q, k1, k2⟩ := ih h3
    exact ⟨p1 ++ q, List.Perm.append_left _ k1, p1, q, rfl, h2, k2⟩
  | swap x y l =>
    rintro ps ⟨p1, p2, rfl, h2, p3, p4, rfl, h3, h4⟩
    refine ⟨p3 ++ (p1 ++ p4), ?_, p3, p1 ++ p4, rfl, h3, p1, p4, rfl, h2, h4⟩
    rw [← List.append_assoc, ← List.append_assoc]
    exact List.Perm.append_right _ List.perm_append_comm
  | trans _ _ ih1 ih2 =>
    intro ps h
    obtain ⟨q, k1, k2⟩ := ih1 h
    obtain ⟨r, k3, k4⟩ := ih2 k2
    exact ⟨r, k1.trans k3, k4⟩
theorem All.append {G H : Hp} : ∀ {l m : List Pl} {ps : List Addr}, All G H (l ++ m) ps ↔ ∃ p1 p2, ps = p1 ++ p2 ∧ All G H l p1 ∧ All G H m p2
  | [], m, ps => ⟨fun h => ⟨[], ps, rfl, rfl, h⟩, fun ⟨p1, p2, h1, h2, h3⟩ => by
      have e : p1 = [] := h2
      rw [h1, e]
      exact h3⟩
  | x :: l, m, ps => ⟨fun ⟨p1, p2, h1, h2, h3⟩ => by
      obtain ⟨q1, q2, k1, k2, k3⟩ := All.append.mp h3
      exact ⟨p1 ++ q1, q2, by rw [h1, k1, List.append_assoc], ⟨p1, q1, rfl, h2, k2⟩, k3⟩, fun ⟨p1, p2, h1, ⟨q1, q2, k1, k2, k3⟩, h3⟩ => by
      exact ⟨q1, q2 ++ p2, by rw [h1, k1, List.append_assoc], k2, All.append.mpr ⟨q2, p2, rfl, k3, h3⟩⟩⟩

/-- Z: what must stand to the end; G0: what was frozen at the entry; G, H: the frozen part and the heap now; l: what is at hand -/
structure Okl (Z G0 : Hp) (l : List Pl) (G H : Hp) : Prop where
  zh : Ex Z H
  gg : Ex G0 G
  gh : Ex G H
  fr : ∀ q o u, Z q = some o → G q = some u → G0 q = some u
  own : ∃ ps, All G H l ps ∧ ps.Nodup ∧ ∀ p ∈ ps, Z p = none ∧ G p = none ∧ ∃ o, H p = some o
section
variable {Z G0 G H : Hp} {l m : List Pl}
theorem Okl.perm (k : Okl Z G0 l G H) (p : l.Perm m) : Okl Z G0 m G H := by
  obtain ⟨ps, h1, h2, h3⟩ := k.own
  obtain ⟨qs, k1, k2⟩ := h1.perm p
  exact ⟨k.zh, k.gg, k.gh, k.fr, qs, k2, k1.nodup_iff.mp h2, fun q hq => h3 q (k1.mem_iff.mpr hq)⟩
theorem Okl.drop {x : Pl} (k : Okl Z G0 (x :: l) G H) : Okl Z G0 l G H := by
  obtain ⟨ps, ⟨p1, p2, rfl, _, h4⟩, h2, h3⟩ := k.own
  exact ⟨k.zh, k.gg, k.gh, k.fr, p2, h4, (List.nodup_append.mp h2).2.1, fun q hq => h3 q (List.mem_append_right _ hq)⟩
theorem Okl.forget {o : Option Sl} {w w' : Option V} (k : Okl Z G0 ((o, w) :: l) G H) : Okl Z G0 ((none, w') :: l) G H := by
  obtain ⟨ps, h1, h2, h3⟩ := k.drop.own
  exact ⟨k.zh, k.gg, k.gh, k.fr, ps, ⟨[], ps, rfl, rfl, h1⟩, h2, h3⟩
theorem Okl.sub {S : List Pl} (k : Okl Z G0 (S ++ l) G H) : Okl Z G0 l G H := by
  induction S with
  | nil => exact k
  | cons x r ih => exact ih k.drop
/-- something frozen comes on top -/
theorem Okl.push {α : Type} {c : Cod α} {a : α} {v : V} (k : Okl Z G0 l G H) (h : c.rel G v a) : Okl Z G0 ((some (fz c a), some v) :: l) G H := by
  obtain ⟨ps, h1, h2, h3⟩ := k.own
  exact ⟨k.zh, k.gg, k.gh, k.fr, ps, ⟨[], ps, rfl, ⟨v, rfl, h, rfl⟩, h1⟩, h2, h3⟩
theorem Okl.top {α : Type} {c : Cod α} {a : α} {w : Option V} (k : Okl Z G0 ((some (fz c a), w) :: l) G H) : ∃ v, w = some v ∧ c.rel G v a := by
  obtain ⟨ps, ⟨p1, p2, rfl, ⟨v, h1, h2⟩, _⟩, _, _⟩ := k.own
  exact ⟨v, h1, h2.1⟩
/-- a new object is laid, and frozen -/
theorem Okl.lay {q : Addr} {o : HO} (k : Okl Z G0 l G H) (hq : H q = none) : Okl Z G0 l (upd G q o) (upd H q o) := by
  have gq : G q = none := Evl.fresh_back k.gh hq
  have zq : Z q = none := Evl.fresh_back k.zh hq
  obtain ⟨ps, h1, h2, h3⟩ := k.own
  have np : ∀ p ∈ ps, p ≠ q := fun p hp => by
    obtain ⟨_, _, u, hu⟩ := h3 p hp
    exact ne_of_none hu hq
  refine ⟨k.zh.trans (Evl.Ex.new hq), k.gg.trans (Evl.Ex.new gq), fun a u e => ?_, fun a u w hz hg => ?_, ps, h1.mono (Evl.Ex.new gq) fun p hp => upd_ne (np p hp), h2, fun p hp => ?_⟩
  · by_cases ha : a = q
    · subst ha
      rw [upd_same] at e ⊢
      exact e
    · rw [upd_ne ha] at e ⊢
      exact k.gh a u e
  · rw [upd_ne (ne_of_none hz zq)] at hg
    exact k.fr a u w hz hg
  · rw [upd_ne (np p hp), upd_ne (np p hp)]
    exact h3 p hp
/-- a new object is laid, and owned -/
theorem Okl.layOwn {q : Addr} {o : HO} {s : Sl} {v : V} (k : Okl Z G0 l G H) (hq : H q = none) (hs : s.rel G (upd H q o) v [q]) : Okl Z G0 ((some s, some v) :: l) G (upd H q o) := by
  have gq : G q = none := Evl.fresh_back k.gh hq
  have zq : Z q = none := Evl.fresh_back k.zh hq
  obtain ⟨ps, h1, h2, h3⟩ := k.own
  have np : ∀ p ∈ ps, p ≠ q := fun p hp => by
    obtain ⟨_, _, u, hu⟩ := h3 p hp
    exact ne_of_none hu hq
  refine ⟨k.zh.trans (Evl.Ex.new hq), k.gg, k.gh.trans (Evl.Ex.new hq), k.fr, [q] ++ ps, ⟨[q], ps, rfl, ⟨v, rfl, hs⟩, h1.mono (Evl.Ex.refl G) fun p hp => upd_ne (np p hp)⟩, ?_, fun p hp => ?_⟩
  · exact List.nodup_cons.mpr ⟨fun hm => np q hm rfl, h2⟩
  · rcases List.mem_cons.mp hp with rfl | hp
    · exact ⟨zq, gq, o, upd_same⟩
    · rw [upd_ne (np p hp)]
      exact h3 p hp
/-- the owned object on top is changed -/
theorem Okl.write {p : Addr} {o : HO} {s s' : Sl} {w : Option V} {v' : V} (k : Okl Z G0 ((some s, w) :: l) G H) (h1 : ∀ v ps, w = some v → s.rel G H v ps → ps = [p]) (hs : s'.rel G (upd H p o) v' [p]) : Okl Z G0 ((some s', some v') :: l) G (upd H p o) := by
  obtain ⟨ps, ⟨p1, p2, rfl, ⟨v, e, h4⟩, h5⟩, h2, h3⟩ := k.own
  obtain rfl := h1 v p1 e h4
  obtain ⟨zp, gp, u, hu⟩ := h3 p (List.mem_append_left _ List.mem_cons_self)
  have nd := List.nodup_cons.mp h2
  have np : ∀ q ∈ p2, q ≠ p := fun q hq z => nd.1 (z ▸ hq)
  refine ⟨fun a x e => ?_, k.gg, fun a x e => ?_, k.fr, [p] ++ p2, ⟨[p], p2, rfl, ⟨v', rfl, hs⟩, h5.mono (Evl.Ex.refl G) fun q hq => upd_ne (np q hq)⟩, h2, fun q hq => ?_⟩
  · rw [upd_ne (ne_of_none e zp)]
    exact k.zh a x e
  · rw [upd_ne (ne_of_none e gp)]
    exact k.gh a x e
  · obtain ⟨a, b, x, hx⟩ := h3 q hq
    refine ⟨a, b, ?_⟩
    by_cases e : q = p
    · subst e
      exact ⟨o, upd_same⟩
    · exact ⟨x, by rw [upd_ne e]; exact hx⟩
/-- the owned object on top is frozen -/
theorem Okl.freeze {p : Addr} {o : HO} {s : Sl} {w : Option V} {α : Type} {c : Cod α} {a : α} {v' : V} (k : Okl Z G0 ((some s, w) :: l) G H) (h1 : ∀ v ps, w = some v → s.rel G H v ps → ps = [p]) (hp : H p = some o) (hs : c.rel (upd G p o) v' a) :
    Okl Z G0 ((some (fz c a), some v') :: l) (upd G p o) H := by
  obtain ⟨ps, ⟨p1, p2, rfl, ⟨v, e, h4⟩, h5⟩, h2, h3⟩ := k.own
  obtain rfl := h1 v p1 e h4
  obtain ⟨zp, gp, u, hu⟩ := h3 p (List.mem_append_left _ List.mem_cons_self)
  have nd := List.nodup_cons.mp h2
  have np : ∀ q ∈ p2, q ≠ p := fun q hq z => nd.1 (z ▸ hq)
  refine ⟨k.zh, k.gg.trans (Evl.Ex.new gp), fun a x e => ?_, fun a x y hz hg => ?_, p2, ⟨[], p2, rfl, ⟨v', rfl, hs, rfl⟩, h5.mono (Evl.Ex.new gp) fun _ _ => rfl⟩, nd.2, fun q hq => ?_⟩
  · by_cases ha : a = p
    · subst ha
      rw [upd_same] at e
      rw [hp]
      exact e
    · rw [upd_ne ha] at e
      exact k.gh a x e
  · rw [upd_ne (ne_of_none hz zp)] at hg
    exact k.fr a x y hz hg
  · obtain ⟨a, b, x⟩ := h3 q (List.mem_append_right _ hq)
    exact ⟨a, by rw [upd_ne (np q hq)]; exact b, x⟩

/-! ### a call: its arguments, what the caller has beside them -/
/-- the heap without the addresses ps -/
def wo (H : Hp) (ps : List Addr) : Hp := fun b => if b ∈ ps then none else H b
theorem wo_ex {ps : List Addr} : Ex (wo H ps) H := fun a o e => by
  unfold wo at e
  split at e
  · cases e
  · exact e
theorem wo_in {ps : List Addr} {p : Addr} (h : p ∈ ps) : wo H ps p = none := if_pos h
theorem wo_out {ps : List Addr} {p : Addr} (h : p ∉ ps) : wo H ps p = H p := if_neg h
/-- what a callee gets of l ++ m when l is handed in; what it gives back brings all of m -/
theorem Okl.lend (k : Okl Z G0 (l ++ m) G H) : ∃ Zc : Hp, Okl Zc G l G H ∧ ∀ (r : List Pl) (G' H' : Hp), Okl Zc G r G' H' → Okl Z G0 (r ++ m) G' H' := by
  obtain ⟨ps, ha, nd, h3⟩ := k.own
  obtain ⟨p1, p2, rfl, a1, a2⟩ := All.append.mp ha
  have dj := (List.nodup_append.mp nd).2.2
  have n12 : ∀ q ∈ p2, q ∉ p1 := fun q hq hm => dj q hm q hq rfl
  refine ⟨wo H p1, ⟨wo_ex, Evl.Ex.refl G, k.gh, fun _ _ _ _ e => e, p1, a1, (List.nodup_append.mp nd).1, fun p hp => ⟨wo_in hp, (h3 p (List.mem_append_left _ hp)).2⟩⟩, fun r G' H' j => ?_⟩
  obtain ⟨rs, b1, b2, b3⟩ := j.own
  have keep : ∀ q ∈ p2, H' q = H q := fun q hq => by
    obtain ⟨_, _, o, ho⟩ := h3 q (List.mem_append_right _ hq)
    rw [ho]
    exact j.zh q o (by rw [wo_out (n12 q hq)]; exact ho)
  refine ⟨fun a o e => j.zh a o ?_, k.gg.trans j.gg, j.gh, fun q o u hz hg => ?_, rs ++ p2, All.append.mpr ⟨rs, p2, rfl, b1, a2.mono j.gg keep⟩, ?_, fun p hp => ?_⟩
  · have n : a ∉ p1 := fun hm => by
      have z := (h3 a (List.mem_append_left _ hm)).1
      rw [e] at z
      cases z
    rw [wo_out n]
    exact k.zh a o e
  · have n : q ∉ p1 := fun hm => by
      have z := (h3 q (List.mem_append_left _ hm)).1
      rw [hz] at z
      cases z
    exact k.fr q o u hz (j.fr q o u (by rw [wo_out n]; exact k.zh q o hz) hg)
  · refine List.nodup_append.mpr ⟨b2, (List.nodup_append.mp nd).2.1, fun x hx y hy e => ?_⟩
    subst e
    obtain ⟨_, _, o, ho⟩ := h3 x (List.mem_append_right _ hy)
    have z := (b3 x hx).1
    rw [wo_out (n12 x hy), ho] at z
    cases z
  · rcases List.mem_append.mp hp with hp | hp
    · obtain ⟨z1, z2, z3⟩ := b3 p hp
      refine ⟨?_, z2, z3⟩
      cases e : Z p with
      | none => rfl
      | some o =>
        have n : p ∉ p1 := fun hm => by
          have z := (h3 p (List.mem_append_left _ hm)).1
          rw [e] at z
          cases z
        rw [wo_out n, k.zh p o e] at z1
        cases z1
    · obtain ⟨z1, z2, o, ho⟩ := h3 p (List.mem_append_right _ hp)
      refine ⟨z1, ?_, o, by rw [keep p hp]; exact ho⟩
      cases e : G' p with
      | none => rfl
      | some u =>
        have z := j.fr p o u (by rw [wo_out (n12 p hp)]; exact ho) e
        rw [z2] at z
        cases z
end
end Rt
/-! Rt2: an expression's mirror (EX), a test's (ET), arguments' (AX). -/
namespace Rt
open PySem L2 R

/-- where the classes of the errors stand -/
structure XT where
  oor : Addr
  txt : Addr
  cl : Nat → Addr
  ks : List Nat
  ht : Bool
def sv (t : Tx) : V := .str ⟨t.toArray⟩
def XT.rel (T : XT) (e : Exn) (cls : Value) (d : Option Addr) (G : Hp) : Prop :=
  match e with
  | .oor n => cls = .ref T.oor ∧ n.length ≤ R.line ∧ ∃ dd, d = some dd ∧ G dd = some (.xd [("name", sv n)])
  | .txt l c w => cls = .ref T.txt ∧ T.ht = true ∧ w.length ≤ R.line ∧ ∃ dd, d = some dd ∧ G dd = some (.xd [("words", sv w), ("column", .int c), ("line", .int l)])
  | .cls k => cls = .ref (T.cl k) ∧ d = none ∧ k ∈ T.ks

theorem XT.rel_mono {T : XT} {e : Exn} {cls : Value} {d : Option Addr} {G G' : Hp} (h : T.rel e cls d G) (x : Ex G G') : T.rel e cls d G' := by
  cases e with
  | oor n => obtain ⟨h1, h2, dd, h3, h4⟩ := h; exact ⟨h1, h2, dd, h3, x dd _ h4⟩
  | txt l c w => obtain ⟨h1, h0, h2, dd, h3, h4⟩ := h; exact ⟨h1, h0, h2, dd, h3, x dd _ h4⟩
  | cls k => exact h

abbrev Ctx := List (Option Sl)
structure Okc (Z G0 : Hp) (S : List Pl) (Γ : Ctx) (σ : St) (G H : Hp) : Prop where
  len : Γ.length = σ.length
  ok : Okl Z G0 (S ++ Γ.zip σ) G H
theorem Okc.of {Z G0 : Hp} {S : List Pl} {x : Pl} {Γ : Ctx} {σ : St} {G H : Hp} (k : Okc Z G0 (x :: S) Γ σ G H) : Okl Z G0 (x :: (S ++ Γ.zip σ)) G H := k.ok
theorem Okc.drop {Z G0 : Hp} {S : List Pl} {x : Pl} {Γ : Ctx} {σ : St} {G H : Hp} (k : Okc Z G0 (x :: S) Γ σ G H) : Okc Z G0 S Γ σ G H := ⟨k.len, k.of.drop⟩
theorem Okc.pushf {Z G0 : Hp} {S : List Pl} {Γ : Ctx} {σ : St} {G H : Hp} {α : Type} {c : Cod α} {a : α} {v : V} (k : Okc Z G0 S Γ σ G H) (h : c.rel G v a) : Okc Z G0 ((some (fz c a), some v) :: S) Γ σ G H := ⟨k.len, k.ok.push h⟩
/-- Γ says at least what Δ says -/
def Wk (Γ Δ : Ctx) : Prop := ∀ Z G0 S σ G H, Okc Z G0 S Γ σ G H → Okc Z G0 S Δ σ G H
theorem Wk.refl (Γ : Ctx) : Wk Γ Γ := fun _ _ _ _ _ _ k => k
theorem Wk.trans {Γ Δ E : Ctx} (a : Wk Γ Δ) (b : Wk Δ E) : Wk Γ E := fun _ _ _ _ _ _ k => b _ _ _ _ _ _ (a _ _ _ _ _ _ k)
theorem mid {l m : List Pl} {x : Pl} : (l ++ x :: m).Perm (x :: (l ++ m)) := List.perm_middle
theorem Wk.cons {o : Option Sl} {Γ Δ : Ctx} (w : Wk Γ Δ) : Wk (o :: Γ) (o :: Δ) := fun Z G0 S σ G H k => by
  cases σ with
  | nil => exact absurd k.len (by simp)
  | cons x σ =>
    have e : Okc Z G0 ((o, x) :: S) Γ σ G H := ⟨Nat.succ.inj k.len, k.ok.perm mid⟩
    have f := w _ _ _ _ _ _ e
    exact ⟨congrArg Nat.succ f.len, f.ok.perm mid.symm⟩
theorem Wk.none1 {o : Option Sl} {Γ Δ : Ctx} (w : Wk Γ Δ) : Wk (o :: Γ) (none :: Δ) := fun Z G0 S σ G H k => by
  cases σ with
  | nil => exact absurd k.len (by simp)
  | cons x σ =>
    have e : Okc Z G0 ((none, x) :: S) Γ σ G H := ⟨Nat.succ.inj k.len, (k.ok.perm mid).forget⟩
    have f := w _ _ _ _ _ _ e
    exact ⟨congrArg Nat.succ f.len, f.ok.perm mid.symm⟩
theorem Wk.none : ∀ {Γ : Ctx}, Wk Γ (List.replicate Γ.length none)
  | [] => Wk.refl []
  | _ :: _ => Wk.none1 Wk.none
theorem Wk.nones {Γ : Ctx} {n : Nat} (h : Γ.length = n) : Wk Γ (List.replicate n Option.none) := h ▸ Wk.none

/-- an expression: its derivation, and what it gives -/
structure EX (X : Cx) (T : XT) (W : WX) (Γx Γ : Ctx) (e : Expr) (te : TE) {α : Type} (m : Res α) (R : α → Sl) (Γo : α → Ctx) : Prop where
  pe : PE X e te
  ev : ∀ (Z G0 : Hp) (S : List Pl) (σ : St) (G H : Hp) (Q : VK), Okc Z G0 S Γ σ G H →
    m.wp (fun a => ∀ v G' H', Okc Z G0 ((some (R a), some v) :: S) (Γo a) σ G' H' → Q v H') (fun ex => ∀ cls d G' H', Okc Z G0 S Γx σ G' H' → T.rel ex cls d G' → W cls d σ H') → te σ H Q
structure ET (X : Cx) (T : XT) (W : WX) (Γx Γ : Ctx) (e : Expr) (tt : TT) {α : Type} (m : Res α) (b : α → Bool) (Γo : α → Ctx) : Prop where
  pt : PT X e tt
  ev : ∀ (Z G0 : Hp) (S : List Pl) (σ : St) (G H : Hp) (Q : Bool → Hp → Prop), Okc Z G0 S Γ σ G H →
    m.wp (fun a => ∀ G' H', Okc Z G0 S (Γo a) σ G' H' → Q (b a) H') (fun ex => ∀ cls d G' H', Okc Z G0 S Γx σ G' H' → T.rel ex cls d G' → W cls d σ H') → tt σ H Q
def plz (Rs : List Sl) (vs : List V) : List Pl := (Rs.map some).zip (vs.map some)
structure AX (X : Cx) (T : XT) (W : WX) (Γx Γ : Ctx) (es : List Expr) (ta : TA) {α : Type} (m : Res α) (Rs : α → List Sl) (Γo : α → Ctx) : Prop where
  pa : PA X es ta
  ev : ∀ (Z G0 : Hp) (S : List Pl) (σ : St) (G H : Hp) (Q : List V → Hp → Prop), Okc Z G0 S Γ σ G H →
    m.wp (fun a => ∀ vs G' H', (Rs a).length = vs.length → Okc Z G0 (plz (Rs a) vs ++ S) (Γo a) σ G' H' → Q vs H') (fun ex => ∀ cls d G' H', Okc Z G0 S Γx σ G' H' → T.rel ex cls d G' → W cls d σ H') → ta σ H Q
/-- m goes on from me by k -/
def Bd {α β : Type} (m : Res β) (me : Res α) (k : α → Res β) : Prop := ∀ Q E, m.wp Q E → me.wp (fun a => (k a).wp Q E) E
theorem Bd.ok {α β : Type} {a : α} {k : α → Res β} : Bd (k a) (.ok a) k := fun _ _ h => h
theorem Bd.bind {α β γ : Type} {m : Res γ} {f : γ → Res β} {g : γ → Res α} {k : α → Res β} (h : ∀ x, Bd (f x) (g x) k) : Bd (m.bind f) (m.bind g) k := fun Q E w => by
  cases m with
  | ok a => exact h a Q E w
  | exn e => exact w
  | stuck => exact w
theorem Bd.done {α β : Type} {m : Res β} {a : α} {k : α → Res β} (h : m = k a) : Bd m (.ok a) k := fun _ _ w => by
  rw [h] at w
  exact w
theorem Bd.don' {α β : Type} {m : Res β} {a : α} {k : α → Res β} (h : m = k a) : Bd m (.ok a) k := Bd.done h
theorem Bd.okl {α β γ : Type} {m : Res β} {a : γ} {f : γ → Res α} {k : α → Res β} (h : Bd m (f a) k) : Bd m ((Res.ok a).bind f) k := h
theorem Bd.assoc {α β γ δ : Type} {m : Res β} {a : Res γ} {f : γ → Res δ} {g : δ → Res α} {k : α → Res β} (h : Bd m (a.bind fun x => (f x).bind g) k) : Bd m ((a.bind f).bind g) k := by
  rw [Res.bind_assoc]
  exact h
theorem Bd.eta {α β : Type} {m : Res β} {g : β → Res α} {k : α → Res β} (h : ∀ x, Bd (.ok x) (g x) k) : Bd m (m.bind g) k := fun Q E w => by
  cases m with
  | ok a => exact h a Q E w
  | exn e => exact w
  | stuck => exact w
theorem Bd.ite {α β : Type} {c : Bool} {A' B' : Res β} {A B : Res α} {k : α → Res β} (h1 : Bd A' A k) (h2 : Bd B' B k) : Bd (if c then A' else B') (if c then A else B) k := by
  cases c
  · exact h2
  · exact h1
theorem Bd.iteB {α β γ : Type} {c : Bool} {A' B' A B : Res γ} {f : γ → Res β} {g : γ → Res α} {k : α → Res β} (h1 : Bd A' A .ok) (h2 : Bd B' B .ok) (h3 : ∀ x, Bd (f x) (g x) k) : Bd ((if c then A' else B').bind f) ((if c then A else B).bind g) k := fun Q E w => by
  have go : ∀ {M' M : Res γ}, Bd M' M .ok → (M'.bind f).wp Q E → (M.bind g).wp (fun a => (k a).wp Q E) E := fun {M' M} h w => by
    have z := h (fun x => (f x).wp Q E) E (Res.wp_bind w)
    cases M with
    | ok a => exact h3 a Q E z
    | exn e => exact z
    | stuck => exact z
  cases c
  · exact go h2 w
  · exact go h1 w
theorem Bd.iteE {α β : Type} {c : Bool} {A' B' A B : Res β} {g : β → Res α} {k : α → Res β} (h1 : Bd A' A .ok) (h2 : Bd B' B .ok) (h3 : ∀ x, Bd (.ok x) (g x) k) : Bd (if c then A' else B') ((if c then A else B).bind g) k := fun Q E w => by
  have w' : ((if c then A' else B').bind .ok).wp Q E := by rw [Res.bind_ok]; exact w
  exact Bd.iteB h1 h2 h3 Q E w'
theorem Bd.iteL {α β γ : Type} {c : Bool} {A' B' : Res γ} {f : γ → Res β} {A B : Res α} {k : α → Res β} (h1 : Bd (A'.bind f) A k) (h2 : Bd (B'.bind f) B k) : Bd ((if c then A' else B').bind f) (if c then A else B) k := by
  cases c
  · exact h2
  · exact h1
theorem Bd.assocL {α β γ δ : Type} {a : Res γ} {f : γ → Res δ} {g : δ → Res β} {me : Res α} {k : α → Res β} (h : Bd (a.bind fun x => (f x).bind g) me k) : Bd ((a.bind f).bind g) me k := by
  rw [Res.bind_assoc]
  exact h
theorem Bd.oklL {α β γ : Type} {a : γ} {f : γ → Res β} {me : Res α} {k : α → Res β} (h : Bd (f a) me k) : Bd ((Res.ok a).bind f) me k := h
theorem Bd.same {α : Type} {m : Res α} : Bd m m (fun a => .ok a) := fun Q E w => by
  cases m with
  | ok a => exact w
  | exn e => exact w
  | stuck => exact w
theorem Bd.at {α β : Type} {m : Res α} {k : α → Res β} : Bd (m.bind k) m k := fun _ _ h => Res.wp_bind h

/-! ### what a place is -/
def cInt : Cod Int := ⟨fun _ v i => v = .int i, fun h _ => h⟩
def cBool : Cod Bool := ⟨fun _ v b => v = .bl b, fun h _ => h⟩
def cTx : Cod Tx := ⟨fun _ v t => v = sv t ∧ t.length ≤ R.line, fun h _ => h⟩
def cNon : Cod Unit := ⟨fun _ v _ => v = .non, fun h _ => h⟩
def cOpt {α : Type} (c : Cod α) : Cod (Option α) := ⟨fun G v o => match o with | none => v = .non | some a => c.rel G v a ∧ v ≠ .non, fun {G G' v o} h e => by
  cases o with
  | none => exact h
  | some a => exact ⟨c.mono h.1 e, h.2⟩⟩
/-- a list of the program's own -/
def cList {α : Type} (c : Cod α) : Cod (List α) := ⟨fun G v xs => ∃ p vs, v = .ref p ∧ G p = some (.lst vs) ∧ Paired (c.rel G) vs xs, fun h e => by
  obtain ⟨p, vs, h1, h2, h3⟩ := h
  exact ⟨p, vs, h1, e p _ h2, Paired.mono (fun _ _ q => c.mono q e) h3⟩⟩
/-- any list that may be read (the script) -/
def cSq (K : PySem.W.Frag) {α : Type} (c : Cod α) : Cod (List α) := ⟨fun G v xs => ∃ p vs, v = .ref p ∧ SqL K G p vs ∧ Paired (c.rel G) vs xs, fun h e => by
  obtain ⟨p, vs, h1, h2, h3⟩ := h
  exact ⟨p, vs, h1, Evl.ex_l e h2, Paired.mono (fun _ _ q => c.mono q e) h3⟩⟩
theorem cl_sq {K : PySem.W.Frag} {G H : Hp} {p : Addr} {vs : List V} (e : Ex G H) (h : G p = some (.lst vs)) : SqL K H p vs := SqL.of (e p _ h)
/-- the items of a tuple -/
structure Cods (α : Type) where
  rel : Hp → List V → α → Prop
  mono : ∀ {G G' : Hp} {vs : List V} {a : α}, rel G vs a → Ex G G' → rel G' vs a
def dNil : Cods Unit := ⟨fun _ vs _ => vs = [], fun h _ => h⟩
def dCons {α β : Type} (c : Cod α) (d : Cods β) : Cods (α × β) := ⟨fun G vs a => ∃ v r, vs = v :: r ∧ c.rel G v a.1 ∧ d.rel G r a.2, fun ⟨v, r, h1, h2, h3⟩ e => ⟨v, r, h1, c.mono h2 e, d.mono h3 e⟩⟩
def dOne {α : Type} (c : Cod α) : Cods α := ⟨fun G vs a => ∃ v, vs = [v] ∧ c.rel G v a, fun ⟨v, h1, h2⟩ e => ⟨v, h1, c.mono h2 e⟩⟩
def cTup (K : PySem.W.Frag) {α : Type} (d : Cods α) : Cod α := ⟨fun G v a => ∃ p vs, v = .ref p ∧ G p = some (.tup vs) ∧ d.rel G vs a, fun h e => by
  obtain ⟨p, vs, h1, h2, h3⟩ := h
  exact ⟨p, vs, h1, e p _ h2, d.mono h3 e⟩⟩
theorem ct_sq {K : PySem.W.Frag} {G H : Hp} {p : Addr} {vs : List V} (e : Ex G H) (h : G p = some (.tup vs)) : SqT K H p vs := SqT.of (e p _ h)
abbrev sI (i : Int) : Sl := fz cInt i
abbrev sB (b : Bool) : Sl := fz cBool b
abbrev sT (t : Tx) : Sl := fz cTx t
abbrev sN : Sl := fz cNon ()

section
variable {X : Cx} {T : XT} {W : WX} {Γx Γ : Ctx}
/-- what stands on top, frozen -/
theorem Okc.tp {Z G0 : Hp} {S : List Pl} {σ : St} {G H : Hp} {α : Type} {c : Cod α} {a : α} {v : V} (k : Okc Z G0 ((some (fz c a), some v) :: S) Γ σ G H) : c.rel G v a := by
  obtain ⟨w, e, h⟩ := k.of.top
  cases e
  exact h
theorem Okc.tp2 {Z G0 : Hp} {S : List Pl} {σ : St} {G H : Hp} {α : Type} {c : Cod α} {a : α} {v : V} {x : Pl} (k : Okc Z G0 (x :: (some (fz c a), some v) :: S) Γ σ G H) : c.rel G v a := k.drop.tp
theorem zip_get {Γ : Ctx} {σ : St} {i : Nat} {o : Option Sl} (hl : Γ.length = σ.length) (h : Γ[i]? = some o) : ∃ w, σ[i]? = some w ∧ (Γ.zip σ)[i]? = some (o, w) := by
  have hi := (List.getElem?_eq_some_iff.mp h).1
  have hs : i < σ.length := by omega
  refine ⟨σ[i], by simp [hs], ?_⟩
  rw [List.getElem?_zip_eq_some]
  exact ⟨h, by simp [hs]⟩
theorem perm_at : ∀ {l : List Pl} {i : Nat} {x : Pl}, l[i]? = some x → l.Perm (x :: l.eraseIdx i)
  | [], _, _, h => by simp at h
  | y :: l, 0, x, h => by
    have e : y = x := by simpa using h
    subst e
    exact .refl _
  | y :: l, i + 1, x, h => by
    have ih := perm_at (l := l) (i := i) (x := x) (by simpa using h)
    exact (ih.cons y).trans (.swap x y _)
/-- what the slot i holds, frozen -/
theorem Okc.slot {Z G0 : Hp} {S : List Pl} {σ : St} {G H : Hp} {α : Type} {c : Cod α} {a : α} {i : Nat} (k : Okc Z G0 S Γ σ G H) (h : Γ[i]? = some (some (fz c a))) : ∃ v, σ[i]? = some (some v) ∧ c.rel G v a := by
  obtain ⟨w, hw, hz⟩ := zip_get k.len h
  have q := (k.ok.perm (List.perm_append_comm.trans ((perm_at hz).append_right S)))
  obtain ⟨v, e, hr⟩ := q.top
  subst e
  exact ⟨v, hw, hr⟩

/-! ### names, constants -/
theorem ex_var {α : Type} {c : Cod α} {a : α} (i : Nat) {x : Str} {pos : Pos} (h : Γ[i]? = some (some (fz c a)) := by rfl) (hN : X.N[i]? = some x := by rfl) (hv : Vis X.env.scope x := by first | exact Or.inl rfl | exact Or.inr (Or.inl rfl) | exact Or.inr (Or.inr rfl)) (hd : (x == ("__debug__" : Str)) = false := by decide)
    (hcd : (x == ("__classdict__" : Str)) = false := by decide) : EX X T W Γx Γ (.Name x pos) (tVar i) (.ok ()) (fun _ => fz c a) (fun _ => Γ) := by
  refine ⟨pv i hN hv hd hcd, fun Z G0 S σ G H Q k q => ?_⟩
  obtain ⟨v, hs, hr⟩ := k.slot h
  exact ⟨v, hs, q v G H (k.pushf hr)⟩
theorem ex_c {α : Type} {c : Cod α} {a : α} {v : V} {e : Expr} (hp : PE X e (tC v)) (h : ∀ G, c.rel G v a) : EX X T W Γx Γ e (tC v) (.ok ()) (fun _ => fz c a) (fun _ => Γ) :=
  ⟨hp, fun _ _ _ _ G H _ k q => q v G H (k.pushf (h G))⟩
theorem ex_int {i : Int} {j : Nat} {pos : Pos} : EX X T W Γx Γ (.Constant (.int i) j pos) (tC (.int i)) (.ok ()) (fun _ => sI i) (fun _ => Γ) := ex_c pe_int fun _ => rfl
theorem ex_bl {b : Bool} {j : Nat} {pos : Pos} : EX X T W Γx Γ (.Constant (.bool b) j pos) (tC (.bl b)) (.ok ()) (fun _ => sB b) (fun _ => Γ) := ex_c pe_bl fun _ => rfl
theorem ex_non {j : Nat} {pos : Pos} : EX X T W Γx Γ (.Constant .none j pos) (tC .non) (.ok ()) (fun _ => sN) (fun _ => Γ) := ex_c pe_non fun _ => rfl
theorem of_tx (s : String) : Str.ofString s = (⟨(tx s).toArray⟩ : Str) := Str.ofString_eq_toList s
theorem ex_str {s : String} {j : Nat} {pos : Pos} (hl : (tx s).length ≤ R.line := by decide +kernel) : EX X T W Γx Γ (.Constant (.str (Str.ofString s)) j pos) (tC (.str (Str.ofString s))) (.ok ()) (fun _ => sT (tx s)) (fun _ => Γ) :=
  ex_c pe_str fun _ => ⟨congrArg V.str (of_tx s), hl⟩
/-- a name of the module that holds an int, a text, a tuple -/
theorem ex_glob {α : Type} {c : Cod α} {a : α} {x : Str} {v : V} {u : Value} {pos : Pos} (hm : X.mg x = some u) (r : RelV v u) (h : ∀ G, c.rel G v a) (hg : Gl X x := by rfl) (hd : (x == ("__debug__" : Str)) = false := by decide) : EX X T W Γx Γ (.Name x pos) (tC v) (.ok ()) (fun _ => fz c a) (fun _ => Γ) :=
  ex_c (pe_glob hg hm r hd) h
/-- an answer seen otherwise -/
theorem EX.conv {e : Expr} {te : TE} {α : Type} {m : Res α} {R R' : α → Sl} {Γo : α → Ctx} (h : EX X T W Γx Γ e te m R Γo) (hc : ∀ a G H v ps, (R a).rel G H v ps → (R' a).rel G H v ps) : EX X T W Γx Γ e te m R' Γo := by
  refine ⟨h.pe, fun Z G0 S σ G H Q k q => h.ev Z G0 S σ G H Q k (Res.wp_mono q (fun a f v G' H' k' => f v G' H' ⟨k'.len, ?_⟩) fun _ z => z)⟩
  obtain ⟨ps, ⟨p1, p2, e1, ⟨w, e2, r⟩, e3⟩, h2, h3⟩ := k'.of.own
  exact ⟨k'.of.zh, k'.of.gg, k'.of.gh, k'.of.fr, ps, ⟨p1, p2, e1, ⟨w, e2, hc a _ _ _ _ r⟩, e3⟩, h2, h3⟩
theorem EX.as {e : Expr} {te : TE} {α : Type} {m : Res α} {R R' : α → Sl} {Γo : α → Ctx} (h : EX X T W Γx Γ e te m R Γo) (hR : ∀ a, R a = R' a := by exact fun _ => rfl) : EX X T W Γx Γ e te m R' Γo := by
  obtain rfl : R = R' := funext hR
  exact h
theorem AX.as {es : List Expr} {ta : TA} {α : Type} {m : Res α} {Rs Rs' : α → List Sl} {Γo : α → Ctx} (h : AX X T W Γx Γ es ta m Rs Γo) (hR : ∀ a, Rs a = Rs' a := by exact fun _ => rfl) : AX X T W Γx Γ es ta m Rs' Γo := by
  obtain rfl : Rs = Rs' := funext hR
  exact h
/-- as a value that may be None -/
theorem EX.some {e : Expr} {te : TE} {α β : Type} {m : Res α} {c : Cod β} {f : α → β} {Γo : α → Ctx} (h : EX X T W Γx Γ e te m (fun a => fz c (f a)) Γo) (hn : ∀ G v b, c.rel G v b → v ≠ .non) : EX X T W Γx Γ e te m (fun a => fz (cOpt c) (some (f a))) Γo :=
  h.conv fun a G H v ps r => ⟨⟨r.1, hn _ _ _ r.1⟩, r.2⟩
theorem EX.none {e : Expr} {te : TE} {α β : Type} {m : Res α} {c : Cod β} {Γo : α → Ctx} (h : EX X T W Γx Γ e te m (fun _ => sN) Γo) : EX X T W Γx Γ e te m (fun _ => fz (cOpt c) none) Γo := h.conv fun _ _ _ _ _ r => r


/-! ### operators by values -/
/-- no exception -/
def Res.ne {γ : Type} (m : Res γ) : Prop := ∀ e, m ≠ .exn e
/-- a two-place operation: what stands on top is its second operand -/
structure OpOk (r : R2) (s1 s2 : Sl) {γ : Type} (m : Res γ) (R : γ → Sl) : Prop where
  run : ∀ (Z G0 : Hp) (l : List Pl) (G H : Hp) (v1 v2 : V) (Q : VK), Okl Z G0 ((Option.some s2, Option.some v2) :: (Option.some s1, Option.some v1) :: l) G H →
    ∀ c, m = .ok c → (∀ v G' H', Okl Z G0 ((Option.some (R c), Option.some v) :: l) G' H' → Q v H') → r v1 v2 H Q
  ne : ∀ e, m ≠ .exn e
structure UnOk (r : V → Hp → VK → Prop) (s1 : Sl) {γ : Type} (m : Res γ) (R : γ → Sl) : Prop where
  run : ∀ (Z G0 : Hp) (l : List Pl) (G H : Hp) (v1 : V) (Q : VK), Okl Z G0 ((Option.some s1, Option.some v1) :: l) G H →
    ∀ c, m = .ok c → (∀ v G' H', Okl Z G0 ((Option.some (R c), Option.some v) :: l) G' H' → Q v H') → r v1 H Q
  ne : ∀ e, m ≠ .exn e
theorem wp_cases {γ : Type} {m : Res γ} {Q : γ → Prop} {E : Exn → Prop} (w : m.wp Q E) (ne : ∀ e, m ≠ .exn e) : ∃ c, m = .ok c ∧ Q c := by
  cases m with
  | ok c => exact ⟨c, rfl, w⟩
  | exn e => exact absurd rfl (ne e)
  | stuck => exact w.elim
theorem op_ev {r : R2} {e1 e2 : Expr} {ta tb : TE} {α β γ : Type} {m1 : Res α} {R1 : α → Sl} {Γ1 : α → Ctx} {m2 : α → Res β} {R2 : α → β → Sl} {Γ2 : α → β → Ctx} {m3 : α → β → Res γ} {R3 : α → β → γ → Sl}
    (ha : EX X T W Γx Γ e1 ta m1 R1 Γ1) (hb : ∀ x, EX X T W Γx (Γ1 x) e2 tb (m2 x) (R2 x) (Γ2 x)) (h3 : ∀ x y, OpOk r (R1 x) (R2 x y) (m3 x y) (R3 x y))
    (Z G0 : Hp) (S : List Pl) (σ : St) (G H : Hp) (Q : VK) (k : Okc Z G0 S Γ σ G H)
    (q : (m1.bind fun x => (m2 x).bind fun y => (m3 x y).bind fun c => .ok (x, y, c)).wp (fun t => ∀ v G' H', Okc Z G0 ((Option.some (R3 t.1 t.2.1 t.2.2), Option.some v) :: S) (Γ2 t.1 t.2.1) σ G' H' → Q v H') (fun ex => ∀ cls d G' H', Okc Z G0 S Γx σ G' H' → T.rel ex cls d G' → W cls d σ H')) : tOp r ta tb σ H Q := by
  refine ha.ev Z G0 S σ G H _ k (Res.wp_mono (Res.wp_bind q) (fun x q v1 G1 H1 k1 => ?_) fun ex q => q)
  refine (hb x).ev Z G0 _ σ G1 H1 _ k1 (Res.wp_mono (Res.wp_bind q) (fun y q v2 G2 H2 k2 => ?_) fun ex q cls d G' H' k' => q cls d G' H' k'.drop)
  obtain ⟨c, e, q3⟩ := wp_cases (Res.wp_bind q) (h3 x y).ne
  exact (h3 x y).run Z G0 _ G2 H2 v1 v2 Q k2.ok c e fun v G' H' k' => q3 v G' H' ⟨k2.len, k'⟩
theorem ex_op {op : Operator} {r : R2} {e1 e2 : Expr} {pos : Pos} {ta tb : TE} {α β γ : Type} [Nonempty α] {m1 : Res α} {R1 : α → Sl} {Γ1 : α → Ctx} {m2 : α → Res β} {R2 : α → β → Sl} {Γ2 : α → β → Ctx} {m3 : α → β → Res γ} {R3 : α → β → γ → Sl}
    (ho : OpR X (binaryOp op) r) (ha : EX X T W Γx Γ e1 ta m1 R1 Γ1) (hb : ∀ x, EX X T W Γx (Γ1 x) e2 tb (m2 x) (R2 x) (Γ2 x)) (h3 : ∀ x y, OpOk r (R1 x) (R2 x y) (m3 x y) (R3 x y)) :
    EX X T W Γx Γ (.BinOp e1 op e2 pos) (tOp r ta tb) (m1.bind fun x => (m2 x).bind fun y => (m3 x y).bind fun c => .ok (x, y, c)) (fun t => R3 t.1 t.2.1 t.2.2) (fun t => Γ2 t.1 t.2.1) := by
  obtain ⟨x⟩ := ‹Nonempty α›
  exact ⟨pe_op ho ha.pe (hb x).pe, op_ev ha hb h3⟩
theorem ex_cmp {op : CmpOp} {r : R2} {e1 e2 : Expr} {pos : Pos} {ta tb : TE} {α β γ : Type} [Nonempty α] {m1 : Res α} {R1 : α → Sl} {Γ1 : α → Ctx} {m2 : α → Res β} {R2 : α → β → Sl} {Γ2 : α → β → Ctx} {m3 : α → β → Res γ} {R3 : α → β → γ → Sl}
    (ho : OpR X (compareOp op) r) (ha : EX X T W Γx Γ e1 ta m1 R1 Γ1) (hb : ∀ x, EX X T W Γx (Γ1 x) e2 tb (m2 x) (R2 x) (Γ2 x)) (h3 : ∀ x y, OpOk r (R1 x) (R2 x y) (m3 x y) (R3 x y)) (hm : behindInMarks op e2 = false) :
    EX X T W Γx Γ (.Compare e1 [op] [e2] pos) (tOp r ta tb) (m1.bind fun x => (m2 x).bind fun y => (m3 x y).bind fun c => .ok (x, y, c)) (fun t => R3 t.1 t.2.1 t.2.2) (fun t => Γ2 t.1 t.2.1) := by
  obtain ⟨x⟩ := ‹Nonempty α›
  exact ⟨pe_cmpR ho ha.pe (hb x).pe hm, op_ev ha hb h3⟩
theorem et_cmp {op : CmpOp} {r : R2} {e1 e2 : Expr} {pos : Pos} {ta tb : TE} {α β γ : Type} [Nonempty α] {m1 : Res α} {R1 : α → Sl} {Γ1 : α → Ctx} {m2 : α → Res β} {R2 : α → β → Sl} {Γ2 : α → β → Ctx} {m3 : α → β → Res γ} {b : α → β → γ → Bool}
    (ho : OpR X (compareOp op) r) (ha : EX X T W Γx Γ e1 ta m1 R1 Γ1) (hb : ∀ x, EX X T W Γx (Γ1 x) e2 tb (m2 x) (R2 x) (Γ2 x)) (h3 : ∀ x y, OpOk r (R1 x) (R2 x y) (m3 x y) (fun c => sB (b x y c))) (hm : behindInMarks op e2 = false) :
    ET X T W Γx Γ (.Compare e1 [op] [e2] pos) (tTest (tOp r ta tb)) (m1.bind fun x => (m2 x).bind fun y => (m3 x y).bind fun c => .ok (x, y, c)) (fun t => b t.1 t.2.1 t.2.2) (fun t => Γ2 t.1 t.2.1) := by
  obtain ⟨x⟩ := ‹Nonempty α›
  refine ⟨pt_cmpR ho ha.pe (hb x).pe hm, fun Z G0 S σ G H Q k q => ?_⟩
  refine op_ev ha hb h3 Z G0 S σ G H _ k (Res.wp_mono q (fun t q v G' H' k' => ?_) fun _ z => z)
  exact ⟨_, k'.tp, q G' H' k'.drop⟩
theorem ex_un {op : UnaryOp} {r : V → Hp → VK → Prop} {e1 : Expr} {pos : Pos} {ta : TE} {α γ : Type} {m1 : Res α} {R1 : α → Sl} {Γ1 : α → Ctx} {m3 : α → Res γ} {R3 : α → γ → Sl}
    (ho : UnR X (unaryOp op) r) (ha : EX X T W Γx Γ e1 ta m1 R1 Γ1) (h3 : ∀ x, UnOk r (R1 x) (m3 x) (R3 x)) :
    EX X T W Γx Γ (.UnaryOp op e1 pos) (tUn r ta) (m1.bind fun x => (m3 x).bind fun c => .ok (x, c)) (fun t => R3 t.1 t.2) (fun t => Γ1 t.1) := by
  refine ⟨pe_un ho ha.pe, fun Z G0 S σ G H Q k q => ?_⟩
  refine ha.ev Z G0 S σ G H _ k (Res.wp_mono (Res.wp_bind q) (fun x q v1 G1 H1 k1 => ?_) fun ex q => q)
  obtain ⟨c, e, q3⟩ := wp_cases (Res.wp_bind q) (h3 x).ne
  exact (h3 x).run Z G0 _ G1 H1 v1 Q k1.ok c e fun v G' H' k' => q3 v G' H' ⟨k1.len, k'⟩
/-- a test by its value -/
theorem et_val {e : Expr} {te : TE} {α : Type} {m : Res α} {b : α → Bool} {Γo : α → Ctx} (h : EX X T W Γx Γ e te m (fun a => sB (b a)) Γo) (he : ∀ whole, isTrue e X.env whole = (do let v ← whole; standAt e.pos; holding [v] (truthy v)) := by intro _; rfl) :
    ET X T W Γx Γ e (tB te) m b Γo := by
  refine ⟨pt_val h.pe he, fun Z G0 S σ G H Q k q => h.ev Z G0 S σ G H _ k (Res.wp_mono q (fun t q v G' H' k' => ?_) fun _ z => z)⟩
  exact ⟨_, k'.tp, q G' H' k'.drop⟩
theorem et_not {e : Expr} {te : TT} {α : Type} {m : Res α} {b : α → Bool} {Γo : α → Ctx} {pos : Pos} (h : ET X T W Γx Γ e te m b Γo) : ET X T W Γx Γ (.UnaryOp .Not e pos) (tNot te) m (fun a => !b a) Γo :=
  ⟨pt_not h.pt, fun Z G0 S σ G H Q k q => h.ev Z G0 S σ G H _ k q⟩
end
end Rt
/-! Rt3: operators, comparisons, built-ins by what stands at hand. -/
namespace Rt
open PySem L2 R
theorem line_eq : R.line = sizeLine := by rw [sizeLine_eq]; rfl
theorem chk_ok {α : Type} {b : Bool} {m : Res α} {c : α} (h : chk b m = .ok c) : b = true ∧ m = .ok c := by
  cases b with
  | true => exact ⟨rfl, h⟩
  | false => cases h
theorem chk_ne {α : Type} {b : Bool} {m : Res α} (h : ∀ e, m ≠ .exn e) : ∀ e, chk b m ≠ .exn e := fun e z => by
  cases b with
  | true => exact h e z
  | false => cases z
theorem ok_ne {α : Type} {a : α} : ∀ e, (Res.ok a : Res α) ≠ .exn e := fun _ z => by cases z
section
variable {Z G0 G H : Hp} {l : List Pl}
/-- two operands off, the answer on -/
theorem Okl.op2 {α β γ : Type} {c1 : Cod α} {c2 : Cod β} {c3 : Cod γ} {a : α} {b : β} {z : γ} {v1 v2 v3 : V} (k : Okl Z G0 ((Option.some (fz c2 b), Option.some v2) :: (Option.some (fz c1 a), Option.some v1) :: l) G H) (h : c1.rel G v1 a → c2.rel G v2 b → c3.rel G v3 z) :
    Okl Z G0 ((Option.some (fz c3 z), Option.some v3) :: l) G H := by
  obtain ⟨w2, e2, h2⟩ := k.top
  obtain ⟨w1, e1, h1⟩ := k.drop.top
  cases e1; cases e2
  exact k.drop.drop.push (h h1 h2)
theorem Okl.rels {α β : Type} {c1 : Cod α} {c2 : Cod β} {a : α} {b : β} {v1 v2 : V} (k : Okl Z G0 ((Option.some (fz c2 b), Option.some v2) :: (Option.some (fz c1 a), Option.some v1) :: l) G H) : c1.rel G v1 a ∧ c2.rel G v2 b := by
  obtain ⟨w2, e2, h2⟩ := k.top
  obtain ⟨w1, e1, h1⟩ := k.drop.top
  cases e1; cases e2
  exact ⟨h1, h2⟩
theorem Okl.rel1 {α : Type} {c1 : Cod α} {a : α} {v1 : V} (k : Okl Z G0 ((Option.some (fz c1 a), Option.some v1) :: l) G H) : c1.rel G v1 a := by
  obtain ⟨w1, e1, h1⟩ := k.top
  cases e1
  exact h1
end
/-! ### two whole numbers -/
theorem ok_i0 {g : Int → Int → V} {i j : Int} {γ : Type} {c : Cod γ} {z : γ} (h : ∀ G, c.rel G (g i j) z) : OpOk (rI0 g) (sI i) (sI j) (.ok ()) (fun _ => fz c z) :=
  ⟨fun Z G0 l G H v1 v2 Q k _ _ q => by
    obtain ⟨h1, h2⟩ := k.rels
    exact ⟨i, j, h1, h2, q _ _ _ (k.drop.drop.push (h G))⟩, ok_ne⟩
theorem ok_iC {C : Int → Int → Prop} {g : Int → Int → V} {i j : Int} {γ : Type} {c : Cod γ} {z : γ} (hC : C i j) (h : ∀ G, c.rel G (g i j) z) : OpOk (rI C g) (sI i) (sI j) (.ok ()) (fun _ => fz c z) :=
  ⟨fun Z G0 l G H v1 v2 Q k _ _ q => by
    obtain ⟨h1, h2⟩ := k.rels
    exact ⟨i, j, h1, h2, hC, q _ _ _ (k.drop.drop.push (h G))⟩, ok_ne⟩
theorem ok_iM {C : Int → Int → Prop} {g : Int → Int → V} {i j : Int} {γ : Type} {c : Cod γ} {m : Res γ} (hm : ∀ z, m = .ok z → C i j ∧ ∀ G, c.rel G (g i j) z) (hn : ∀ e, m ≠ .exn e) : OpOk (rI C g) (sI i) (sI j) m (fun z => fz c z) :=
  ⟨fun Z G0 l G H v1 v2 Q k z e q => by
    obtain ⟨h1, h2⟩ := k.rels
    obtain ⟨hC, h⟩ := hm z e
    exact ⟨i, j, h1, h2, hC, q _ _ _ (k.drop.drop.push (h G))⟩, hn⟩
theorem o_add {i j : Int} : OpOk (rI0 fun i j => .int (i + j)) (sI i) (sI j) (.ok ()) (fun _ => sI (i + j)) := ok_i0 fun _ => rfl
theorem o_sub {i j : Int} : OpOk (rI0 fun i j => .int (i - j)) (sI i) (sI j) (.ok ()) (fun _ => sI (i - j)) := ok_i0 fun _ => rfl
theorem o_lt {i j : Int} : OpOk (rI0 fun i j => .bl (decide (i < j))) (sI i) (sI j) (.ok ()) (fun _ => sB (decide (i < j))) := ok_i0 fun _ => rfl
theorem o_le {i j : Int} : OpOk (rI0 fun i j => .bl (decide (i ≤ j))) (sI i) (sI j) (.ok ()) (fun _ => sB (decide (i ≤ j))) := ok_i0 fun _ => rfl
theorem o_gt {i j : Int} : OpOk (rI0 fun i j => .bl (decide (j < i))) (sI i) (sI j) (.ok ()) (fun _ => sB (decide (j < i))) := ok_i0 fun _ => rfl
theorem o_ge {i j : Int} : OpOk (rI0 fun i j => .bl (decide (j ≤ i))) (sI i) (sI j) (.ok ()) (fun _ => sB (decide (j ≤ i))) := ok_i0 fun _ => rfl
/-- a factor that is written -/
theorem o_mulL {i j : Int} (h : -(2 ^ 64) < i ∧ i < 2 ^ 64 := by decide) : OpOk (rI CMul fun i j => .int (i * j)) (sI i) (sI j) (.ok ()) (fun _ => sI (i * j)) := ok_iC (.inl h) fun _ => rfl
theorem o_mulR {i j : Int} (h : -(2 ^ 64) < j ∧ j < 2 ^ 64 := by decide) : OpOk (rI CMul fun i j => .int (i * j)) (sI i) (sI j) (.ok ()) (fun _ => sI (i * j)) := ok_iC (.inr h) fun _ => rfl
theorem nbits_le (i : Int) : Builtin.Int.intBits i = R.nbits i := by
  unfold Builtin.Int.intBits R.nbits
  by_cases h : i = 0
  · simp [h]
  · simp [h]
theorem o_mul {i j : Int} : OpOk (rI CMulX fun i j => .int (i * j)) (sI i) (sI j) (R.mul i j) (fun z => sI z) := ok_iM (fun z e => by
    obtain ⟨h1, h2⟩ := chk_ok e
    cases h2
    refine ⟨?_, fun _ => rfl⟩
    show (Builtin.Int.intBits i : Int) + (Builtin.Int.intBits j : Int) ≤ 134217728
    have := of_decide_eq_true h1
    rw [nbits_le, nbits_le]
    omega) (chk_ne ok_ne)
/-- a divisor that is written -/
theorem o_fdivR {i j : Int} (h : CDiv i j := by exact ⟨by decide, by decide⟩) : OpOk (rI CDiv fun i j => .int (i / j)) (sI i) (sI j) (.ok ()) (fun _ => sI (i / j)) := ok_iC h fun _ => rfl
theorem o_modR {i j : Int} (h : 0 < j := by decide) : OpOk (rI (fun _ j => 0 < j) fun i j => .int (i % j)) (sI i) (sI j) (.ok ()) (fun _ => sI (i % j)) := ok_iC h fun _ => rfl
theorem o_fdiv {i j : Int} : OpOk (rI CDivW fun i j => .int (i / j)) (sI i) (sI j) (R.fdiv i j) (fun z => sI z) := ok_iM (fun z e => by
    obtain ⟨h1, h2⟩ := chk_ok e
    cases h2
    rw [Bool.and_eq_true] at h1
    exact ⟨⟨of_decide_eq_true h1.1, of_decide_eq_true h1.2⟩, fun _ => rfl⟩) (chk_ne ok_ne)
theorem o_mod {i j : Int} : OpOk (rI (fun _ j => 0 < j) fun i j => .int (i % j)) (sI i) (sI j) (R.fmod i j) (fun z => sI z) := ok_iM (fun z e => by
    obtain ⟨h1, h2⟩ := chk_ok e
    cases h2
    exact ⟨of_decide_eq_true h1, fun _ => rfl⟩) (chk_ne ok_ne)
theorem o_shl {i j : Int} : OpOk (rI CShl fun i j => .int (i * 2 ^ j.toNat)) (sI i) (sI j) (R.shl i j) (fun z => sI z) := ok_iM (fun z e => by
    obtain ⟨h1, h2⟩ := chk_ok e
    cases h2
    rw [Bool.and_eq_true] at h1
    refine ⟨⟨of_decide_eq_true h1.1, ?_⟩, fun _ => rfl⟩
    have := of_decide_eq_true h1.2
    rw [nbits_le]
    have z : (2 : Int) ^ 27 = 134217728 := by decide
    omega) (chk_ne ok_ne)
theorem o_shr {i j : Int} : OpOk (rI (fun _ j => 0 ≤ j) fun i j => .int (i / 2 ^ j.toNat)) (sI i) (sI j) (R.shr i j) (fun z => sI z) := ok_iM (fun z e => by
    obtain ⟨h1, h2⟩ := chk_ok e
    cases h2
    exact ⟨of_decide_eq_true h1, fun _ => rfl⟩) (chk_ne ok_ne)
theorem o_pow {i j : Int} (h : CPow i j := by exact ⟨by decide, by decide, by decide⟩) : OpOk (rI CPow fun i j => .int (i ^ j.toNat)) (sI i) (sI j) (.ok ()) (fun _ => sI (i ^ j.toNat)) := ok_iC h fun _ => rfl
theorem o_xor {i j : Int} : OpOk (rI0 fun i j => .int (Builtin.bitXor i j)) (sI i) (sI j) (R.xor i j) (fun z => sI z) :=
  ⟨fun Z G0 l G H v1 v2 Q k z e q => by
    obtain ⟨h1, h2⟩ := k.rels
    obtain ⟨h3, h4⟩ := chk_ok e
    cases h4
    rw [Bool.and_eq_true] at h3
    refine ⟨i, j, h1, h2, q _ _ _ (k.drop.drop.push ?_)⟩
    show V.int _ = V.int _
    rw [Bits.bitXor_pp (of_decide_eq_true h3.1) (of_decide_eq_true h3.2)], chk_ne ok_ne⟩
theorem o_band {i j : Int} : OpOk (rI0 fun i j => .int (Builtin.bitAnd i j)) (sI i) (sI j) (R.band i j) (fun z => sI z) :=
  ⟨fun Z G0 l G H v1 v2 Q k z e q => by
    obtain ⟨h1, h2⟩ := k.rels
    obtain ⟨h3, h4⟩ := chk_ok e
    cases h4
    rw [Bool.and_eq_true] at h3
    refine ⟨i, j, h1, h2, q _ _ _ (k.drop.drop.push ?_)⟩
    show V.int _ = V.int _
    rw [PyProof.Rows.bitAnd_pp (of_decide_eq_true h3.1) (of_decide_eq_true h3.2)], chk_ne ok_ne⟩
/-- & by a written 2 ^ k - 1 -/
theorem o_mask {i j : Int} (k : Nat) (hj : j = 2 ^ k - 1 := by decide) : OpOk (fun x y H Q => ∃ (i : Int) (k : Nat), x = .int i ∧ y = .int (2 ^ k - 1) ∧ Q (.int (i % 2 ^ k)) H) (sI i) (sI j) (.ok ()) (fun _ => sI (i % 2 ^ k)) :=
  ⟨fun Z G0 l G H v1 v2 Q kk _ _ q => by
    obtain ⟨h1, h2⟩ := kk.rels
    subst hj
    exact ⟨i, k, h1, h2, q _ _ _ (kk.drop.drop.push rfl)⟩, ok_ne⟩
theorem o_neg {i : Int} : UnOk (rU fun i => .int (-i)) (sI i) (.ok ()) (fun _ => sI (-i)) :=
  ⟨fun Z G0 l G H v1 Q k _ _ q => ⟨i, k.rel1, q _ _ _ (k.drop.push rfl)⟩, ok_ne⟩

/-! ### == and != of scalars -/
/-- what == tells apart by the values alone -/
structure EqS {α : Type} (c : Cod α) (d : DecidableEq α) : Prop where
  eq : ∀ G v w a b, c.rel G v a → c.rel G w b → scal v w = true ∧ decide (v = w) = decide (a = b)
theorem eqs_int : EqS cInt inferInstance := ⟨fun G v w a b h1 h2 => by
  have e1 : v = .int a := h1
  have e2 : w = .int b := h2
  subst e1; subst e2
  exact ⟨rfl, by rw [Bool.eq_iff_iff]; simp⟩⟩
theorem eqs_bool : EqS cBool inferInstance := ⟨fun G v w a b h1 h2 => by
  have e1 : v = .bl a := h1
  have e2 : w = .bl b := h2
  subst e1; subst e2
  exact ⟨rfl, by rw [Bool.eq_iff_iff]; simp⟩⟩
theorem sv_inj {a b : Tx} : sv a = sv b ↔ a = b := ⟨fun h => by
  injection h with h
  injection h with h
  simpa using h, fun h => by rw [h]⟩
theorem eqs_tx : EqS cTx inferInstance := ⟨fun G v w a b h1 h2 => by
  have e1 : v = sv a := h1.1
  have e2 : w = sv b := h2.1
  subst e1; subst e2
  exact ⟨rfl, by rw [Bool.eq_iff_iff]; simp only [decide_eq_true_eq]; exact sv_inj⟩⟩
theorem o_eq {α : Type} [d : DecidableEq α] {c : Cod α} {a b : α} (e : EqS c d) : OpOk rEq (fz c a) (fz c b) (.ok ()) (fun _ => sB (decide (a = b))) :=
  ⟨fun Z G0 l G H v1 v2 Q k _ _ q => by
    obtain ⟨h1, h2⟩ := k.rels
    obtain ⟨s, t⟩ := e.eq G v1 v2 a b h1 h2
    exact ⟨s, q _ _ _ (k.drop.drop.push (congrArg V.bl t))⟩, ok_ne⟩
theorem o_ne {α : Type} [d : DecidableEq α] {c : Cod α} {a b : α} (e : EqS c d) : OpOk rNe (fz c a) (fz c b) (.ok ()) (fun _ => sB (!decide (a = b))) :=
  ⟨fun Z G0 l G H v1 v2 Q k _ _ q => by
    obtain ⟨h1, h2⟩ := k.rels
    obtain ⟨s, t⟩ := e.eq G v1 v2 a b h1 h2
    exact ⟨s, q _ _ _ (k.drop.drop.push (congrArg (fun b => V.bl (!b)) t))⟩, ok_ne⟩
end Rt
/-! Rt4: arguments, calls, displays, items. -/
namespace Rt
open PySem L2 R
section
variable {X : Cx} {T : XT} {W : WX} {Γx Γ : Ctx} {K : PySem.W.Frag}
theorem ax_nil : AX X T W Γx Γ [] tNil (.ok ()) (fun _ => []) (fun _ => Γ) := ⟨pa_nil, fun _ _ _ _ G H _ k q => q [] G H rfl k⟩
theorem ax_cons {e : Expr} {es : List Expr} {te : TE} {ta : TA} {α β : Type} [Nonempty α] {m1 : Res α} {R1 : α → Sl} {Γ1 : α → Ctx} {m2 : α → Res β} {Rs : α → β → List Sl} {Γ2 : α → β → Ctx}
    (he : EX X T W Γx Γ e te m1 R1 Γ1) (hr : ∀ x, AX X T W Γx (Γ1 x) es ta (m2 x) (Rs x) (Γ2 x)) (hs : starEach (e :: es) X.env = (false, eval e X.env) :: starEach es X.env := by rfl) :
    AX X T W Γx Γ (e :: es) (tCons te ta) (m1.bind fun x => (m2 x).bind fun y => .ok (x, y)) (fun t => R1 t.1 :: Rs t.1 t.2) (fun t => Γ2 t.1 t.2) := by
  obtain ⟨x⟩ := ‹Nonempty α›
  refine ⟨pa_cons he.pe (hr x).pa hs, fun Z G0 S σ G H Q k q => ?_⟩
  refine he.ev Z G0 S σ G H _ k (Res.wp_mono (Res.wp_bind q) (fun x q v1 G1 H1 k1 => ?_) fun ex q => q)
  refine (hr x).ev Z G0 _ σ G1 H1 _ k1 (Res.wp_mono (Res.wp_bind q) (fun y q vs G2 H2 hl k2 => ?_) fun ex q cls d G' H' k' => q cls d G' H' k'.drop)
  refine q (v1 :: vs) G2 H2 (congrArg Nat.succ hl) ⟨k2.len, ?_⟩
  refine k2.ok.perm ?_
  show (plz (Rs x y) vs ++ (some (R1 x), some v1) :: S ++ _).Perm ((some (R1 x), some v1) :: (plz (Rs x y) vs ++ S) ++ _)
  exact mid.append_right _
/-- items of one kind -/
theorem lx_nil {β : Type} {c : Cod β} : AX X T W Γx Γ [] tNil (.ok ()) (fun _ => ([] : List β).map (fz c)) (fun _ => Γ) := ax_nil
theorem lx_cons {e : Expr} {es : List Expr} {te : TE} {ta : TA} {α β γ : Type} [Nonempty α] {c : Cod γ} {m1 : Res α} {a : α → γ} {Γ1 : α → Ctx} {m2 : α → Res β} {xs : α → β → List γ} {Γ2 : α → β → Ctx}
    (he : EX X T W Γx Γ e te m1 (fun x => fz c (a x)) Γ1) (hr : ∀ x, AX X T W Γx (Γ1 x) es ta (m2 x) (fun y => (xs x y).map (fz c)) (Γ2 x)) (hs : starEach (e :: es) X.env = (false, eval e X.env) :: starEach es X.env := by rfl) :
    AX X T W Γx Γ (e :: es) (tCons te ta) (m1.bind fun x => (m2 x).bind fun y => .ok (x, y)) (fun t => (a t.1 :: xs t.1 t.2).map (fz c)) (fun t => Γ2 t.1 t.2) := ax_cons he hr hs
theorem plz_pop {Z G0 G H : Hp} {l : List Pl} : ∀ {Rs : List Sl} {vs : List V}, Okl Z G0 (plz Rs vs ++ l) G H → Okl Z G0 l G H := fun k => k.sub
/-- what frozen items are -/
theorem plz_fz {Z G0 G H : Hp} {l : List Pl} {γ : Type} {c : Cod γ} : ∀ {xs : List γ} {vs : List V}, (xs.map (fz c)).length = vs.length → Okl Z G0 (plz (xs.map (fz c)) vs ++ l) G H → Paired (c.rel G) vs xs
  | [], [], _, _ => .nil
  | [], v :: vs, h, _ => by simp at h
  | x :: xs, [], h, _ => by simp at h
  | x :: xs, v :: vs, h, k => .cons (Okl.rel1 (show Okl Z G0 ((some (fz c x), some v) :: (plz (xs.map (fz c)) vs ++ l)) G H from k)) (plz_fz (Nat.succ.inj h) (Okl.drop (show Okl Z G0 ((some (fz c x), some v) :: (plz (xs.map (fz c)) vs ++ l)) G H from k)))
theorem ex_lst {es : List Expr} {pos : Pos} {ta : TA} {α γ : Type} {c : Cod γ} {m : Res α} {xs : α → List γ} {Γo : α → Ctx} (h : AX X T W Γx Γ es ta m (fun t => (xs t).map (fz c)) Γo) (hz : ∀ t, Nat.ble (xs t).length R.line = true := by intro _; rfl) :
    EX X T W Γx Γ (.List es pos) (tLst ta) m (fun t => ol c (xs t)) Γo := by
  refine ⟨pe_lst h.pa, fun Z G0 S σ G H Q k q => h.ev Z G0 S σ G H _ k (Res.wp_mono q (fun t q vs G' H' hl k' => ?_) fun _ z => z)⟩
  have p := plz_fz hl (show Okl Z G0 (plz ((xs t).map (fz c)) vs ++ (S ++ (Γo t).zip σ)) G' H' by rw [← List.append_assoc]; exact k'.ok)
  have k2 : Okl Z G0 (S ++ (Γo t).zip σ) G' H' := (show Okl Z G0 (plz ((xs t).map (fz c)) vs ++ (S ++ (Γo t).zip σ)) G' H' by rw [← List.append_assoc]; exact k'.ok).sub
  refine ⟨?_, fun pa hp => q _ _ _ ⟨k'.len, k2.layOwn (s := ol c (xs t)) hp ⟨pa, vs, rfl, rfl, upd_same, p⟩⟩⟩
  rw [p.length, ← line_eq]
  exact Nat.le_of_ble_eq_true (hz t)
/-- the items of a tuple from what stands at hand -/
def TupOf {α : Type} (d : Cods α) (Rs : List Sl) (a : α) : Prop := ∀ Z G0 l G H vs, Rs.length = vs.length → Okl Z G0 (plz Rs vs ++ l) G H → d.rel G vs a
theorem tup_one {α : Type} {c : Cod α} {a : α} : TupOf (dOne c) [fz c a] a := fun Z G0 l G H vs hl k => by
  match vs, hl with
  | [v], _ => exact ⟨v, rfl, Okl.rel1 (show Okl Z G0 ((some (fz c a), some v) :: l) G H from k)⟩
theorem tup_cons {α β : Type} {c : Cod α} {d : Cods β} {a : α} {b : β} {Rs : List Sl} (h : TupOf d Rs b) : TupOf (dCons c d) (fz c a :: Rs) (a, b) := fun Z G0 l G H vs hl k => by
  match vs, hl with
  | v :: vs, hl =>
    have k' : Okl Z G0 ((some (fz c a), some v) :: (plz Rs vs ++ l)) G H := k
    exact ⟨v, vs, rfl, k'.rel1, h Z G0 l G H vs (Nat.succ.inj hl) k'.drop⟩
theorem ex_tup {es : List Expr} {x1 : _} {pos : Pos} {ta : TA} {α γ : Type} {d : Cods γ} {m : Res α} {Rs : α → List Sl} {a : α → γ} {Γo : α → Ctx} (h : AX X T W Γx Γ es ta m Rs Γo) (ht : ∀ t, TupOf d (Rs t) (a t)) (hz : ∀ t, Nat.ble (Rs t).length R.line = true := by intro _; rfl) :
    EX X T W Γx Γ (.Tuple es x1 pos) (tTup ta) m (fun t => fz (cTup K d) (a t)) Γo := by
  refine ⟨pe_tup h.pa, fun Z G0 S σ G H Q k q => h.ev Z G0 S σ G H _ k (Res.wp_mono q (fun t q vs G' H' hl k' => ?_) fun _ z => z)⟩
  have k1 : Okl Z G0 (plz (Rs t) vs ++ (S ++ (Γo t).zip σ)) G' H' := by rw [← List.append_assoc]; exact k'.ok
  have p := ht t Z G0 _ G' H' vs hl k1
  refine ⟨?_, fun pa hp => q _ _ _ ⟨k'.len, (k1.sub.lay (o := .tup vs) hp).push ⟨pa, vs, rfl, upd_same, d.mono p (Evl.Ex.new (Evl.fresh_back k1.gh hp))⟩⟩⟩
  rw [← hl, ← line_eq]
  exact Nat.le_of_ble_eq_true (hz t)

/-! ### built-ins -/
structure CallOk (r : List V → Hp → VK → Prop) (Rs : List Sl) {γ : Type} (m : Res γ) (R : γ → Sl) : Prop where
  run : ∀ (Z G0 : Hp) (l : List Pl) (G H : Hp) (vs : List V) (Q : VK), Rs.length = vs.length → Okl Z G0 (plz Rs vs ++ l) G H →
    ∀ c, m = .ok c → (∀ v G' H', Okl Z G0 ((some (R c), some v) :: l) G' H' → Q v H') → r vs H Q
  ne : ∀ e, m ≠ .exn e
theorem cb_ev {r : List V → Hp → VK → Prop} {es : List Expr} {ta : TA} {α γ : Type} {m1 : Res α} {Rs : α → List Sl} {Γ1 : α → Ctx} {m3 : α → Res γ} {R3 : α → γ → Sl} (ha : AX X T W Γx Γ es ta m1 Rs Γ1) (h3 : ∀ x, CallOk r (Rs x) (m3 x) (R3 x))
    (Z G0 : Hp) (S : List Pl) (σ : St) (G H : Hp) (Q : VK) (k : Okc Z G0 S Γ σ G H)
    (q : (m1.bind fun x => (m3 x).bind fun c => .ok (x, c)).wp (fun t => ∀ v G' H', Okc Z G0 ((some (R3 t.1 t.2), some v) :: S) (Γ1 t.1) σ G' H' → Q v H') (fun ex => ∀ cls d G' H', Okc Z G0 S Γx σ G' H' → T.rel ex cls d G' → W cls d σ H')) : tCB r ta σ H Q := by
  refine ha.ev Z G0 S σ G H _ k (Res.wp_mono (Res.wp_bind q) (fun x q vs G1 H1 hl k1 => ?_) fun ex q => q)
  obtain ⟨c, e, q3⟩ := wp_cases (Res.wp_bind q) (h3 x).ne
  exact (h3 x).run Z G0 (S ++ (Γ1 x).zip σ) G1 H1 vs Q hl (by rw [← List.append_assoc]; exact k1.ok) c e fun v G' H' k' => q3 v G' H' ⟨k1.len, k'⟩
theorem ex_callB {r : List V → Hp → VK → Prop} {id : String} {x : Str} {e : Expr} {es : List Expr} {p pos : Pos} {ta : TA} {α γ : Type} {m1 : Res α} {Rs : α → List Sl} {Γ1 : α → Ctx} {m3 : α → Res γ} {R3 : α → γ → Sl}
    (hc : CallR X (.builtin id) r) (hm : X.mg x = none) (hv : bootBuiltins x = some (.builtin id)) (ha : AX X T W Γx Γ (e :: es) ta m1 Rs Γ1) (h3 : ∀ x, CallOk r (Rs x) (m3 x) (R3 x)) (hg : Gl X x := by rfl)
    (hn : x ≠ "__name__" := by decide) (hdb : (x == ("__debug__" : Str)) = false := by decide) (he : starEach (e :: es) X.env = (false, eval e X.env) :: starEach es X.env := by rfl) (hpl : (backTo pos (starEach es X.env)).any (·.1) = false := by rfl) :
    EX X T W Γx Γ (.Call (.Name x p) (e :: es) [] pos) (tCB r ta) (m1.bind fun x => (m3 x).bind fun c => .ok (x, c)) (fun t => R3 t.1 t.2) (fun t => Γ1 t.1) := ⟨pe_callB hc hg hm hv ha.pa hn hdb he hpl, cb_ev ha h3⟩
theorem ex_callTy {r : List V → Hp → VK → Prop} {id : String} {x : Str} {e : Expr} {es : List Expr} {p pos : Pos} {ta : TA} {α γ : Type} {m1 : Res α} {Rs : α → List Sl} {Γ1 : α → Ctx} {m3 : α → Res γ} {R3 : α → γ → Sl}
    (hc : CallR X (.type id) r) (hm : X.mg x = none) (hv : bootBuiltins x = some (.type id)) (ha : AX X T W Γx Γ (e :: es) ta m1 Rs Γ1) (h3 : ∀ x, CallOk r (Rs x) (m3 x) (R3 x)) (hg : Gl X x := by rfl)
    (hn : x ≠ "__name__" := by decide) (hdb : (x == ("__debug__" : Str)) = false := by decide) (he : starEach (e :: es) X.env = (false, eval e X.env) :: starEach es X.env := by rfl) (hpl : (backTo pos (starEach es X.env)).any (·.1) = false := by rfl) :
    EX X T W Γx Γ (.Call (.Name x p) (e :: es) [] pos) (tCB r ta) (m1.bind fun x => (m3 x).bind fun c => .ok (x, c)) (fun t => R3 t.1 t.2) (fun t => Γ1 t.1) := ⟨pe_callTy hc hg hm hv ha.pa hn hdb he hpl, cb_ev ha h3⟩
/-- one argument, frozen -/
theorem co1 {r : List V → Hp → VK → Prop} {α γ δ : Type} {c : Cod α} {d : Cod δ} {a : α} {m : Res γ} {f : γ → δ} (hn : ∀ e, m ≠ .exn e) (h : ∀ G H v (Q : VK), Ex G H → c.rel G v a → ∀ z, m = .ok z → (∀ v', d.rel G v' (f z) → Q v' H) → r [v] H Q) : CallOk r [fz c a] m (fun z => fz d (f z)) :=
  ⟨fun Z G0 l G H vs Q hl k z e q => by
    match vs, hl with
    | [v], _ =>
      have k' : Okl Z G0 ((some (fz c a), some v) :: l) G H := k
      exact h G H v Q k'.gh k'.rel1 z e fun v' hv => q v' G H (k'.drop.push hv), hn⟩
theorem co2 {r : List V → Hp → VK → Prop} {α β γ δ : Type} {c : Cod α} {c' : Cod β} {d : Cod δ} {a : α} {b : β} {m : Res γ} {f : γ → δ} (hn : ∀ e, m ≠ .exn e) (h : ∀ G H v w (Q : VK), Ex G H → c.rel G v a → c'.rel G w b → ∀ z, m = .ok z → (∀ v', d.rel G v' (f z) → Q v' H) → r [v, w] H Q) : CallOk r [fz c a, fz c' b] m (fun z => fz d (f z)) :=
  ⟨fun Z G0 l G H vs Q hl k z e q => by
    match vs, hl with
    | [v, w], _ =>
      have k' : Okl Z G0 ((some (fz c a), some v) :: (some (fz c' b), some w) :: l) G H := k
      exact h G H v w Q k'.gh k'.rel1 k'.drop.rel1 z e fun v' hv => q v' G H (k'.drop.drop.push hv), hn⟩
abbrev rLen (K : PySem.W.Frag) : List V → Hp → VK → Prop := fun xs H Q => ∃ p ys, xs = [.ref p] ∧ (SqL K H p ys ∨ SqT K H p ys) ∧ Q (.int ys.length) H
theorem b_len {α : Type} {c : Cod α} {xs : List α} : CallOk (rLen K) [fz (cList c) xs] (.ok ()) (fun _ => sI (xs.length : Int)) := co1 (f := fun _ => (xs.length : Int)) ok_ne fun G H v Q e h z _ q => by
  obtain ⟨p, vs, rfl, hs, hp⟩ := h
  exact ⟨p, vs, rfl, .inl (cl_sq e hs), q _ (by show V.int _ = V.int _; rw [hp.length])⟩
theorem b_lenQ {α : Type} {c : Cod α} {xs : List α} : CallOk (rLen K) [fz (cSq K c) xs] (.ok ()) (fun _ => sI (xs.length : Int)) := co1 (f := fun _ => (xs.length : Int)) ok_ne fun G H v Q e h z _ q => by
  obtain ⟨p, vs, rfl, hs, hp⟩ := h
  exact ⟨p, vs, rfl, .inl (Evl.ex_l e hs), q _ (by show V.int _ = V.int _; rw [hp.length])⟩
abbrev rLenStr : List V → Hp → VK → Prop := fun xs H Q => ∃ z, xs = [.str z] ∧ z.length ≤ sizeLine ∧ Q (.int z.length) H
theorem sv_len (t : Tx) : (⟨t.toArray⟩ : Str).length = t.length := by simp [Str.length]
theorem b_lenS {t : Tx} : CallOk rLenStr [sT t] (.ok ()) (fun _ => sI (t.length : Int)) := co1 (f := fun _ => (t.length : Int)) ok_ne fun G H v Q e h z _ q => by
  obtain ⟨rfl, hl⟩ := h
  refine ⟨_, rfl, ?_, q _ ?_⟩
  · rw [sv_len, ← line_eq]
    exact hl
  · show V.int _ = V.int _
    rw [sv_len]
theorem b_abs {i : Int} : CallOk (fun xs H Q => ∃ i, xs = [.int i] ∧ Q (.int (if i < 0 then -i else i)) H) [sI i] (.ok ()) (fun _ => sI (R.abs i)) := co1 (f := fun _ => R.abs i) ok_ne fun G H v Q e h z _ q => ⟨i, congrArg (fun v => [v]) h, q _ rfl⟩
theorem b_int {i : Int} : CallOk (fun xs H Q => (∃ i, xs = [.int i] ∧ Q (.int i) H) ∨ ∃ k, xs = [.bl k] ∧ Q (.int (if k then 1 else 0)) H) [sI i] (.ok ()) (fun _ => sI i) := co1 (f := fun _ => i) ok_ne fun G H v Q e h z _ q => .inl ⟨i, congrArg (fun v => [v]) h, q _ rfl⟩
theorem b_intB {b : Bool} : CallOk (fun xs H Q => (∃ i, xs = [.int i] ∧ Q (.int i) H) ∨ ∃ k, xs = [.bl k] ∧ Q (.int (if k then 1 else 0)) H) [sB b] (.ok ()) (fun _ => sI (R.b2i b)) := co1 (f := fun _ => R.b2i b) ok_ne fun G H v Q e h z _ q => .inr ⟨b, congrArg (fun v => [v]) h, q _ rfl⟩
theorem b_max {i j : Int} : CallOk (fun xs H Q => ∃ i j, xs = [.int i, .int j] ∧ Q (.int (if j > i then j else i)) H) [sI i, sI j] (.ok ()) (fun _ => sI (R.max2 i j)) := co2 (f := fun _ => R.max2 i j) ok_ne fun G H v w Q e h h' z _ q => ⟨i, j, by rw [show v = .int i from h, show w = .int j from h'], q _ rfl⟩
theorem b_min {i j : Int} : CallOk (fun xs H Q => ∃ i j, xs = [.int i, .int j] ∧ Q (.int (if j < i then j else i)) H) [sI i, sI j] (.ok ()) (fun _ => sI (R.min2 i j)) := co2 (f := fun _ => R.min2 i j) ok_ne fun G H v w Q e h h' z _ q => ⟨i, j, by rw [show v = .int i from h, show w = .int j from h'], q _ rfl⟩
/-- list(xs): a new one -/
theorem b_list {α : Type} {c : Cod α} {xs : List α} : CallOk (fun vs H Q => ∃ p ys, vs = [.ref p] ∧ (SqL K H p ys ∨ SqT K H p ys) ∧ ∀ l, H l = none → Q (.ref l) (upd H l (.lst ys))) [fz (cList c) xs] (.ok ()) (fun _ => ol c xs) :=
  ⟨fun Z G0 l G H vs Q hl k z e q => by
    match vs, hl with
    | [v], _ =>
      have k' : Okl Z G0 ((some (fz (cList c) xs), some v) :: l) G H := k
      obtain ⟨p, ws, rfl, hs, hp⟩ := k'.rel1
      exact ⟨p, ws, rfl, .inl (cl_sq k'.gh hs), fun a ha => q _ _ _ (k'.drop.layOwn (s := ol c xs) ha ⟨a, ws, rfl, rfl, upd_same, hp⟩)⟩, ok_ne⟩
theorem bools_of {G : Hp} : ∀ {vs : List V} {bs : List Bool}, Paired (cBool.rel G) vs bs → vs = bs.map V.bl
  | _, _, .nil => rfl
  | _, _, .cons (a := v) (b := b) h r => by rw [show v = V.bl b from h, bools_of r]; rfl
theorem ints_of {G : Hp} : ∀ {vs : List V} {ns : List Int}, Paired (cInt.rel G) vs ns → vs = ns.map V.int
  | _, _, .nil => rfl
  | _, _, .cons (a := v) (b := b) h r => by rw [show v = V.int b from h, ints_of r]; rfl
theorem b_all {bs : List Bool} : CallOk (rAll K) [fz (cList cBool) bs] (.ok ()) (fun _ => sB (bs.all id)) := co1 (f := fun _ => bs.all id) ok_ne fun G H v Q e h z _ q => by
  obtain ⟨p, vs, rfl, hs, hp⟩ := h
  rw [bools_of hp] at hs
  exact ⟨p, bs, rfl, cl_sq e hs, q _ rfl⟩
theorem b_sum {ns : List Int} : CallOk (rSum K) [fz (cList cInt) ns] (.ok ()) (fun _ => sI ns.sum) := co1 (f := fun _ => ns.sum) ok_ne fun G H v Q e h z _ q => by
  obtain ⟨p, vs, rfl, hs, hp⟩ := h
  rw [ints_of hp] at hs
  exact ⟨p, ns, rfl, cl_sq e hs, q _ rfl⟩

/-! ### items -/
theorem atI_rel {α : Type} {c : Cod α} {G : Hp} {vs : List V} {xs : List α} (h : Paired (c.rel G) vs xs) {i : Int} {x : α} (e : R.atI xs i = some x) : ∃ v, L2.atI vs i = some v ∧ c.rel G v x := by
  have hl := h.length
  unfold R.atI at e
  cases q : R.ixN xs.length i with
  | none => rw [q] at e; cases e
  | some j =>
    rw [q] at e
    have e' : xs[j]? = some x := e
    have hg : ∀ {vs : List V} {xs : List α} {j : Nat}, Paired (c.rel G) vs xs → xs[j]? = some x → ∃ v, vs[j]? = some v ∧ c.rel G v x := by
      intro vs xs j h
      induction h generalizing j with
      | nil => intro z; simp at z
      | cons r _ ih =>
        intro z
        cases j with
        | zero =>
          have z' := Option.some.inj z
          subst z'
          exact ⟨_, rfl, r⟩
        | succ j => exact ih (by simpa using z)
    obtain ⟨v, hv, hr⟩ := hg h e'
    refine ⟨v, ?_, hr⟩
    unfold L2.atI
    rw [hl]
    have q' : L2.ixN xs.length i = some j := q
    rw [q']
    exact hv
theorem idx_ok {α : Type} {xs : List α} {i : Int} {x : α} (e : R.idx xs i = .ok x) : R.atI xs i = some x := by
  unfold R.idx at e
  cases q : R.atI xs i with
  | none => rw [q] at e; cases e
  | some v => rw [q] at e; cases e; rfl
theorem idx_ne {α : Type} {xs : List α} {i : Int} : ∀ e, R.idx xs i ≠ .exn e := fun e z => by
  unfold R.idx at z
  cases q : R.atI xs i with
  | none => rw [q] at z; cases z
  | some v => rw [q] at z; cases z
theorem o_ixL {α : Type} {c : Cod α} {xs : List α} {i : Int} : OpOk (rIxL K) (fz (cList c) xs) (sI i) (R.idx xs i) (fun x => fz c x) :=
  ⟨fun Z G0 l G H v1 v2 Q k x e q => by
    obtain ⟨⟨p, vs, e1, hs, hp⟩, h2⟩ := k.rels
    obtain ⟨v, hv, hr⟩ := atI_rel hp (idx_ok e)
    exact ⟨p, vs, i, v, e1, h2, cl_sq k.gh hs, hv, q v G H (k.drop.drop.push hr)⟩, idx_ne⟩
theorem o_ixQ {α : Type} {c : Cod α} {xs : List α} {i : Int} : OpOk (rIxL K) (fz (cSq K c) xs) (sI i) (R.idx xs i) (fun x => fz c x) :=
  ⟨fun Z G0 l G H v1 v2 Q k x e q => by
    obtain ⟨⟨p, vs, e1, hs, hp⟩, h2⟩ := k.rels
    obtain ⟨v, hv, hr⟩ := atI_rel hp (idx_ok e)
    exact ⟨p, vs, i, v, e1, h2, Evl.ex_l k.gh hs, hv, q v G H (k.drop.drop.push hr)⟩, idx_ne⟩
theorem ex_ix {r : R2} {e1 e2 : Expr} {pos : Pos} {ta tb : TE} {α β γ : Type} [Nonempty α] {m1 : Res α} {R1 : α → Sl} {Γ1 : α → Ctx} {m2 : α → Res β} {R2 : α → β → Sl} {Γ2 : α → β → Ctx} {m3 : α → β → Res γ} {R3 : α → β → γ → Sl}
    (ho : IxR X r) (ha : EX X T W Γx Γ e1 ta m1 R1 Γ1) (hb : ∀ x, EX X T W Γx (Γ1 x) e2 tb (m2 x) (R2 x) (Γ2 x)) (h3 : ∀ x y, OpOk r (R1 x) (R2 x y) (m3 x y) (R3 x y)) (hs : PlainIx e2 := by exact fun _ _ => rfl) :
    EX X T W Γx Γ (.Subscript e1 e2 pos) (tOp r ta tb) (m1.bind fun x => (m2 x).bind fun y => (m3 x y).bind fun c => .ok (x, y, c)) (fun t => R3 t.1 t.2.1 t.2.2) (fun t => Γ2 t.1 t.2.1) := by
  obtain ⟨x⟩ := ‹Nonempty α›
  exact ⟨pe_ix ho ha.pe (hb x).pe hs, op_ev ha hb h3⟩
theorem o_ixS {t : Tx} {i : Int} : OpOk rIxS (sT t) (sI i) (R.idx t i) (fun x => sT [x]) :=
  ⟨fun Z G0 l G H v1 v2 Q k x e q => by
    obtain ⟨⟨e1, hl⟩, h2⟩ := k.rels
    refine ⟨⟨t.toArray⟩, i, x, e1, h2, ?_, idx_ok e, q _ G H (k.drop.drop.push ⟨rfl, by show 1 ≤ R.line; decide⟩)⟩
    rw [sv_len, ← line_eq]
    exact hl, idx_ne⟩
/-- a written place of a tuple -/
def Prj {α β : Type} (d : Cods α) (k : Nat) (c : Cod β) (f : α → β) : Prop := ∀ G vs a, d.rel G vs a → ∃ v, vs[k]? = some v ∧ c.rel G v (f a)
theorem prj_one {α : Type} {c : Cod α} : Prj (dOne c) 0 c (fun a => a) := fun G vs a ⟨v, h1, h2⟩ => ⟨v, by rw [h1]; rfl, h2⟩
theorem prj_0 {α β : Type} {c : Cod α} {d : Cods β} : Prj (dCons c d) 0 c Prod.fst := fun G vs a ⟨v, r, h1, h2, _⟩ => ⟨v, by rw [h1]; rfl, h2⟩
theorem prj_s {α β γ : Type} {c : Cod α} {d : Cods β} {c' : Cod γ} {k : Nat} {f : β → γ} (h : Prj d k c' f) : Prj (dCons c d) (k + 1) c' (fun a => f a.2) := fun G vs a ⟨v, r, h1, _, h3⟩ => by
  obtain ⟨w, e, q⟩ := h G r a.2 h3
  exact ⟨w, by rw [h1]; exact e, q⟩
theorem o_ixT {α β : Type} {d : Cods α} {c : Cod β} {a : α} {i : Int} {k : Nat} {f : α → β} (h : Prj d k c f) (hi : i = (k : Int) := by rfl) : OpOk (rIxT K) (fz (cTup K d) a) (sI i) (.ok ()) (fun _ => fz c (f a)) :=
  ⟨fun Z G0 l G H v1 v2 Q kk x e q => by
    obtain ⟨⟨p, vs, e1, hs, hp⟩, h2⟩ := kk.rels
    obtain ⟨v, hv, hr⟩ := h G vs a hp
    subst hi
    exact ⟨p, vs, k, v, e1, h2, ct_sq kk.gh hs, atI_nat hv, q v G H (kk.drop.drop.push hr)⟩, ok_ne⟩
end
end Rt
/-! Rt5: statements, defs, calls, loops. -/
namespace Rt
open PySem L2 R
/-! ### what a def promises -/
def aNil : Unit → List (Option Sl) := fun _ => []
def aCons {α β : Type} (s : α → Sl) (r : β → List (Option Sl)) : α × β → List (Option Sl) := fun x => some (s x.1) :: r x.2
def ArgOf {ξ : Type} (A : ξ → List (Option Sl)) (Rs : List Sl) (x : ξ) : Prop := A x = Rs.map some
theorem arg_nil : ArgOf aNil [] () := rfl
theorem arg_cons {α β : Type} {s : α → Sl} {r : β → List (Option Sl)} {a : α} {b : β} {Rs : List Sl} (h : ArgOf r Rs b) : ArgOf (aCons s r) (s a :: Rs) (a, b) := congrArg (some (s a) :: ·) h
def spM {ξ β : Type} (n : Nat) (T : XT) (A : ξ → List (Option Sl)) (f : ξ → Res β) (R : β → Sl) : Sp := fun vs H Q E => ∃ (x : ξ) (Z G0 G : Hp), vs.length = n ∧ (A x).length = n ∧ Okl Z G0 ((A x).zip (vs.map some)) G H ∧
  (f x).wp (fun b => ∀ v G' H', Okl Z G0 [(some (R b), some v)] G' H' → Q v H') (fun ex => ∀ cls d G' H', Okl Z G0 [] G' H' → T.rel ex cls d G' → E cls d H')
section
variable {X : Cx} {T : XT} {W : WX} {Γx Γ : Ctx} {K : PySem.W.Frag}
theorem okc_app {Z G0 : Hp} {S L : List Pl} {σ : St} {G H : Hp} (k : Okc Z G0 (L ++ S) Γ σ G H) : Okl Z G0 (L ++ (S ++ Γ.zip σ)) G H := by
  rw [← List.append_assoc]
  exact k.ok
theorem call_ev {ξ β α : Type} {n : Nat} {A : ξ → List (Option Sl)} {f : ξ → Res β} {R : β → Sl} {es : List Expr} {ta : TA} {m1 : Res α} {Rs : α → List Sl} {Γ1 : α → Ctx} {x : α → ξ} (hn : ∀ x, (A x).length = n) (ha : AX X T W Γx Γ es ta m1 Rs Γ1) (hx : ∀ t, ArgOf A (Rs t) (x t)) (hw : ∀ t, Wk (Γ1 t) Γx)
    (Z G0 : Hp) (S : List Pl) (σ : St) (G H : Hp) (Q : VK) (k : Okc Z G0 S Γ σ G H)
    (q : (m1.bind fun t => (f (x t)).bind fun r => .ok (t, r)).wp (fun t => ∀ v G' H', Okc Z G0 ((some (R t.2), some v) :: S) (Γ1 t.1) σ G' H' → Q v H') (fun ex => ∀ cls d G' H', Okc Z G0 S Γx σ G' H' → T.rel ex cls d G' → W cls d σ H')) : ta σ H fun vs H1 => spM n T A f R vs H1 Q (WE W σ) := by
  refine ha.ev Z G0 S σ G H _ k (Res.wp_mono (Res.wp_bind q) (fun t q vs G1 H1 hl k1 => ?_) fun ex q => q)
  obtain ⟨Zc, l1, l2⟩ := (okc_app k1).lend
  have e : A (x t) = (Rs t).map some := hx t
  refine ⟨x t, Zc, G1, G1, ?_, hn _, ?_, Res.wp_mono (Res.wp_bind q) (fun r q v G' H' k' => ?_) fun ex q cls d G' H' k' => q cls d G' H' (hw t _ _ _ _ _ _ ⟨k1.len, l2 [] G' H' k'⟩)⟩
  · rw [← hl, ← hn (x t), e, List.length_map]
  · rw [e]
    exact l1
  · exact q v G' H' ⟨k1.len, l2 _ G' H' k'⟩
theorem ex_call {ξ β α : Type} {n : Nat} {A : ξ → List (Option Sl)} {f : ξ → Res β} {R : β → Sl} {k : Nat} {fa : Addr} {fd : FuncData} {ps : List Str} {x : Str} {p pos : Pos} {e : Expr} {es : List Expr} {ta : TA} {m1 : Res α} {Rs : α → List Sl} {Γ1 : α → Ctx} {a : α → ξ}
    (F : FnOk X.prog X.w X.K X.mg X.base (L2.CX X.prog X.w) k fa fd ps (spM n T A f R)) (hr : Room k X.A) (hm : X.mg x = some (.ref fa)) (hk : PySem.W.keepIn X.K (.ref fa) = true) (hb : Binds X.K fd ps []) (tk : Takes X W) (hn : ∀ x, (A x).length = n)
    (ha : AX X T W Γx Γ (e :: es) ta m1 Rs Γ1) (hx : ∀ t, ArgOf A (Rs t) (a t)) (hw : ∀ t, Wk (Γ1 t) Γx) (hg : Gl X x := by rfl) (hdb : (x == ("__debug__" : Str)) = false := by decide) (he : starEach (e :: es) X.env = (false, eval e X.env) :: starEach es X.env := by rfl) (hpl : (backTo pos (starEach es X.env)).any (·.1) = false := by rfl) :
    EX X T W Γx Γ (.Call (.Name x p) (e :: es) [] pos) (tCallS (spM n T A f R) (WE W) ta) (m1.bind fun t => (f (a t)).bind fun r => .ok (t, r)) (fun t => R t.2) (fun t => Γ1 t.1) :=
  ⟨pe_callS F hr hg hm hk hb (fun σ => passAt tk σ) ha.pa hdb he hpl, call_ev hn ha hx hw⟩

/-! ### statements -/
inductive Out where
  | nx (Γ : Ctx)
  | ret (s : Sl) (l : List Pl)
  | brk (Γ : Ctx)
  | cnt (Γ : Ctx)
def Out.go (o : Out) (D : Ends) (Z G0 : Hp) (S : List Pl) : Prop :=
  match o with
  | .nx Γ => ∀ σ' G' H', Okc Z G0 S Γ σ' G' H' → D.nx σ' H'
  | .ret s l => ∀ v G' H', Okl Z G0 ((some s, some v) :: (l ++ S)) G' H' → D.rt v H'
  | .brk Γ => ∀ σ' G' H', Okc Z G0 S Γ σ' G' H' → D.bk σ' H'
  | .cnt Γ => ∀ σ' G' H', Okc Z G0 S Γ σ' G' H' → D.ct σ' H'
/-- statements -/
structure SX (X : Cx) (T : XT) (W : WX) (Γx Γ : Ctx) (sts : List Stmt) (ts : TS) {α : Type} (m : Res α) (I : α → Out) : Prop where
  ps : PSs X sts ts
  ev : ∀ (Z G0 : Hp) (S : List Pl) (σ : St) (G H : Hp) (D : Ends), Okc Z G0 S Γ σ G H → m.wp (fun a => (I a).go D Z G0 S) (fun ex => ∀ cls d σ' G' H', Okc Z G0 S Γx σ' G' H' → T.rel ex cls d G' → W cls d σ' H') → ts D σ H
/-- one statement that goes on -/
structure S1 (X : Cx) (T : XT) (W : WX) (Γx Γ : Ctx) (st : Stmt) (ts : TS) {α : Type} (m : Res α) (I : α → Out) : Prop where
  ps : PS X st ts
  ev : ∀ (Z G0 : Hp) (S : List Pl) (σ : St) (G H : Hp) (D : Ends), Okc Z G0 S Γ σ G H → m.wp (fun a => (I a).go D Z G0 S) (fun ex => ∀ cls d σ' G' H', Okc Z G0 S Γx σ' G' H' → T.rel ex cls d G' → W cls d σ' H') → ts D σ H
theorem sx_nil {α : Type} {s : α} {Γn : α → Ctx} (w : Wk Γ (Γn s)) : SX X T W Γx Γ [] tNext (.ok s) (fun s => .nx (Γn s)) := ⟨pss_nil, fun Z G0 S σ G H D k q => q σ G H (w _ _ _ _ _ _ k)⟩
theorem sx_cons {st : Stmt} {rest : List Stmt} {t u : TS} {α β : Type} [Nonempty α] {m1 : Res α} {Γ1 : α → Ctx} {m2 : α → Res β} {I : β → Out} (h1 : S1 X T W Γx Γ st t m1 (fun a => .nx (Γ1 a))) (h2 : ∀ a, SX X T W Γx (Γ1 a) rest u (m2 a) I) :
    SX X T W Γx Γ (st :: rest) (tSeq t u) (m1.bind m2) I := by
  obtain ⟨x⟩ := ‹Nonempty α›
  refine ⟨pss_cons h1.ps (h2 x).ps, fun Z G0 S σ G H D k q => ?_⟩
  exact h1.ev Z G0 S σ G H { D with nx := u D } k (Res.wp_mono (Res.wp_bind q) (fun a q σ' G' H' k' => (h2 a).ev Z G0 S σ' G' H' D k' q) fun _ z => z)
theorem SX.wk {Δ : Ctx} {sts : List Stmt} {ts : TS} {α : Type} {m : Res α} {I : α → Out} (h : SX X T W Γx Δ sts ts m I) (w : Wk Γ Δ) : SX X T W Γx Γ sts ts m I := ⟨h.ps, fun Z G0 S σ G H D k q => h.ev Z G0 S σ G H D (w _ _ _ _ _ _ k) q⟩
/-- a slot is stored -/
theorem zip_set : ∀ {Γ : Ctx} {σ : St} {i : Nat} {o : Option Sl} {w : Option V}, (Γ.set i o).zip (σ.set i w) = (Γ.zip σ).set i (o, w)
  | [], _, _, _, _ => rfl
  | _ :: _, [], 0, _, _ => rfl
  | _ :: _, [], _ + 1, _, _ => rfl
  | _ :: _, _ :: _, 0, _, _ => rfl
  | x :: Γ, y :: σ, i + 1, o, w => congrArg ((x, y) :: ·) (zip_set (Γ := Γ) (σ := σ) (i := i) (o := o) (w := w))
theorem perm_set : ∀ {l : List Pl} {i : Nat} {x y : Pl}, l[i]? = some x → (l.set i y).Perm (y :: l.eraseIdx i)
  | [], _, _, _, h => by simp at h
  | _ :: l, 0, _, _, _ => .refl _
  | z :: l, i + 1, x, y, h => ((perm_set (l := l) (i := i) (x := x) (y := y) (by simpa using h)).cons z).trans (.swap y z _)
theorem Okc.store {Z G0 : Hp} {S : List Pl} {σ : St} {G H : Hp} {o : Option Sl} {w : Option V} {i : Nat} (k : Okc Z G0 ((o, w) :: S) Γ σ G H) (hi : i < Γ.length) : Okc Z G0 S (Γ.set i o) (σ.set i w) G H := by
  refine ⟨by rw [List.length_set, List.length_set]; exact k.len, ?_⟩
  rw [zip_set]
  obtain ⟨w0, _, hz⟩ := zip_get (o := Γ[i]) k.len (List.getElem?_eq_getElem hi)
  have p1 := perm_at hz
  have p2 := perm_set (y := (o, w)) hz
  have k1 : Okl Z G0 ((Γ[i], w0) :: ((o, w) :: (S ++ (Γ.zip σ).eraseIdx i))) G H := by
    refine k.of.perm ?_
    refine (List.Perm.cons _ (p1.append_left S)).trans ?_
    exact (List.Perm.cons _ mid).trans (.swap _ _ _)
  refine k1.drop.perm ?_
  exact (mid.symm.trans (p2.symm.append_left S))
theorem s1_asg {i : Nat} {x : Str} {e : Expr} {te : TE} {pos pos' : Pos} {α ν : Type} {me : Res α} {mn : Res ν} {R : α → Sl} {Γo : α → Ctx} {R' : ν → Sl} {Γ' : ν → Ctx} {f : α → ν} (he : EX X T W Γx Γ e te me R Γo) (hR : ∀ t, R t = R' (f t)) (hΓ : ∀ t, Γo t = Γ' (f t)) (hl : ∀ v, Nat.ble (i + 1) (Γ' v).length = true)
    (hN : X.N.Nodup) (hi : X.N[i]? = some x) (hx : Loc X.env.scope x) (hb : Bd mn me (fun t => .ok (f t)) := by intros; repeat (first | ((with_reducible refine Bd.done ?_); exact rfl) | with_reducible refine Bd.okl ?_ | with_reducible refine Bd.assoc ?_ | with_reducible refine Bd.bind fun _ => ?_ | with_reducible refine Bd.eta fun _ => ?_ | with_reducible refine Bd.iteB ?_ ?_ fun _ => ?_ | with_reducible refine Bd.iteE ?_ ?_ fun _ => ?_ | with_reducible refine Bd.ite ?_ ?_ | with_reducible refine Bd.iteL ?_ ?_ | with_reducible refine Bd.assocL ?_ | with_reducible refine Bd.oklL ?_ | with_reducible exact Bd.same | with_reducible exact Bd.at | dsimp only))
    (hs : swapsWith e (some (.Name x pos')) pos.line X.env = pure false := by rfl) (hf : X.fn x = true ∨ X.env.scope.names.lookup x = some .local := by first | exact .inl rfl | exact .inr rfl | assumption) :
    S1 X T W Γx Γ (.Assign [.Name x pos'] e pos) (tAsg te (gName i)) mn (fun v => .nx ((Γ' v).set i (some (R' v)))) :=
  ⟨ps_set hN hi hx he.pe hs hf, fun Z G0 S σ G H D k q => he.ev Z G0 S σ G H _ k (Res.wp_mono (hb _ _ q) (fun a q v G' H' k' => q _ G' H' (by
    have z : i < (Γ' (f a)).length := Nat.le_of_ble_eq_true (hl (f a))
    rw [← hΓ] at z
    rw [← hΓ, ← hR]
    exact k'.store z)) fun ex q cls d G' H' k' => q cls d σ G' H' k')⟩
/-- nothing else changes -/
theorem s1_set {i : Nat} {x : Str} {e : Expr} {te : TE} {pos pos' : Pos} {α ν : Type} {me : Res α} {mn : Res ν} {R : α → Sl} {Γo : α → Ctx} {R' : ν → Sl} {f : α → ν} (he : EX X T W Γx Γ e te me R Γo) (hR : ∀ t, R t = R' (f t) := by exact fun _ => rfl) (hΓ : ∀ t, Γo t = Γ := by exact fun _ => rfl) (hl : Nat.ble (i + 1) Γ.length = true := by rfl)
    (hN : X.N.Nodup) (hi : X.N[i]? = some x := by rfl) (hx : Loc X.env.scope x := by first | exact Or.inl rfl | exact Or.inr rfl) (hb : Bd mn me (fun t => .ok (f t)) := by intros; repeat (first | ((with_reducible refine Bd.done ?_); exact rfl) | with_reducible refine Bd.okl ?_ | with_reducible refine Bd.assoc ?_ | with_reducible refine Bd.bind fun _ => ?_ | with_reducible refine Bd.eta fun _ => ?_ | with_reducible refine Bd.iteB ?_ ?_ fun _ => ?_ | with_reducible refine Bd.iteE ?_ ?_ fun _ => ?_ | with_reducible refine Bd.ite ?_ ?_ | with_reducible refine Bd.iteL ?_ ?_ | with_reducible refine Bd.assocL ?_ | with_reducible refine Bd.oklL ?_ | with_reducible exact Bd.same | with_reducible exact Bd.at | dsimp only))
    (hs : swapsWith e (some (.Name x pos')) pos.line X.env = pure false := by rfl) (hf : X.fn x = true ∨ X.env.scope.names.lookup x = some .local := by first | exact .inl rfl | exact .inr rfl | assumption) :
    S1 X T W Γx Γ (.Assign [.Name x pos'] e pos) (tAsg te (gName i)) mn (fun v => .nx (Γ.set i (some (R' v)))) := s1_asg (Γ' := fun _ => Γ) he hR hΓ (fun _ => hl) hN hi hx hb hs hf
theorem s1_expr {e : Expr} {te : TE} {pos : Pos} {α ν : Type} {me : Res α} {mn : Res ν} {R : α → Sl} {Γo : α → Ctx} {Γ' : ν → Ctx} {f : α → ν} (he : EX X T W Γx Γ e te me R Γo) (hΓ : ∀ t, Γo t = Γ' (f t)) (hb : Bd mn me (fun t => .ok (f t)) := by intros; repeat (first | ((with_reducible refine Bd.done ?_); exact rfl) | with_reducible refine Bd.okl ?_ | with_reducible refine Bd.assoc ?_ | with_reducible refine Bd.bind fun _ => ?_ | with_reducible refine Bd.eta fun _ => ?_ | with_reducible refine Bd.iteB ?_ ?_ fun _ => ?_ | with_reducible refine Bd.iteE ?_ ?_ fun _ => ?_ | with_reducible refine Bd.ite ?_ ?_ | with_reducible refine Bd.iteL ?_ ?_ | with_reducible refine Bd.assocL ?_ | with_reducible refine Bd.oklL ?_ | with_reducible exact Bd.same | with_reducible exact Bd.at | dsimp only))
    (hs : swapsWith e none pos.line X.env = pure false := by rfl) : S1 X T W Γx Γ (.Expr e pos) (tDrop te) mn (fun v => .nx (Γ' v)) :=
  ⟨ps_expr he.pe hs, fun Z G0 S σ G H D k q => he.ev Z G0 S σ G H _ k (Res.wp_mono (hb _ _ q) (fun a q v G' H' k' => q σ G' H' (by
    rw [← hΓ]
    exact k'.drop)) fun ex q cls d G' H' k' => q cls d σ G' H' k')⟩
/-- all but what stands on the stack is dropped -/
theorem Okc.bare {Z G0 : Hp} {S : List Pl} {σ : St} {G H : Hp} (k : Okc Z G0 S Γ σ G H) : Okl Z G0 S G H := (k.ok.perm List.perm_append_comm).sub
theorem sx_ret {e : Expr} {te : TE} {pos : Pos} {rest : List Stmt} {α β : Type} {mn : Res β} {me : Res α} {R : α → Sl} {Γo : α → Ctx} {f : α → β} {R' : β → Sl} (he : EX X T W Γx Γ e te me R Γo) (hR : ∀ a, R a = R' (f a)) (hb : Bd mn me (fun a => .ok (f a)) := by intros; repeat (first | ((with_reducible refine Bd.done ?_); exact rfl) | with_reducible refine Bd.okl ?_ | with_reducible refine Bd.assoc ?_ | with_reducible refine Bd.bind fun _ => ?_ | with_reducible refine Bd.eta fun _ => ?_ | with_reducible refine Bd.iteB ?_ ?_ fun _ => ?_ | with_reducible refine Bd.iteE ?_ ?_ fun _ => ?_ | with_reducible refine Bd.ite ?_ ?_ | with_reducible refine Bd.iteL ?_ ?_ | with_reducible refine Bd.assocL ?_ | with_reducible refine Bd.oklL ?_ | with_reducible exact Bd.same | with_reducible exact Bd.at | dsimp only)) :
    SX X T W Γx Γ (.Return (some e) pos :: rest) (tSeq (tRet te) tNever) mn (fun b => .ret (R' b) []) :=
  ⟨pss_cons (ps_ret he.pe) pss_never, fun Z G0 S σ G H D k q => he.ev Z G0 S σ G H _ k (Res.wp_mono (hb _ _ q) (fun a q v G' H' k' => by
    have z := q v G' H'
    rw [← hR] at z
    exact z k'.bare) fun ex q cls d G' H' k' => q cls d σ G' H' k')⟩
/-- a test, by its nice form -/
theorem if_ev {c : Expr} {tc : TT} {tA tB : TS} {α ν β : Type} {me : Res α} {mn : Res ν} {b : α → Bool} {Γt : α → Ctx} {f : α → ν} {b' : ν → Bool} {Γ' : ν → Ctx} {mA mB : ν → Res β} {I : β → Out} {DA : Ends → Ends} (hc : ET X T W Γx Γ c tc me b Γt) (hB' : ∀ t, b t = b' (f t)) (hΓ : ∀ t, Γt t = Γ' (f t))
    (hA : ∀ v Z G0 S σ G H (D : Ends), Okc Z G0 S (Γ' v) σ G H → (mA v).wp (fun a => (I a).go D Z G0 S) (fun ex => ∀ cls d σ' G' H', Okc Z G0 S Γx σ' G' H' → T.rel ex cls d G' → W cls d σ' H') → tA (DA D) σ H)
    (hB : ∀ v Z G0 S σ G H (D : Ends), Okc Z G0 S (Γ' v) σ G H → (mB v).wp (fun a => (I a).go D Z G0 S) (fun ex => ∀ cls d σ' G' H', Okc Z G0 S Γx σ' G' H' → T.rel ex cls d G' → W cls d σ' H') → tB (DA D) σ H)
    (hb : Bd mn me (fun t => .ok (f t))) (Z G0 : Hp) (S : List Pl) (σ : St) (G H : Hp) (D : Ends) (k : Okc Z G0 S Γ σ G H)
    (q : (mn.bind fun v => if b' v then mA v else mB v).wp (fun a => (I a).go D Z G0 S) (fun ex => ∀ cls d σ' G' H', Okc Z G0 S Γx σ' G' H' → T.rel ex cls d G' → W cls d σ' H')) : tIfS tc tA tB (DA D) σ H := by
  refine hc.ev Z G0 S σ G H _ k (Res.wp_mono (hb _ _ (Res.wp_bind q)) (fun a q G' H' k' => ?_) fun ex q cls d G' H' k' => q cls d σ G' H' k')
  have q' : (if b' (f a) then mA (f a) else mB (f a)).wp (fun a => (I a).go D Z G0 S) (fun ex => ∀ cls d σ' G' H', Okc Z G0 S Γx σ' G' H' → T.rel ex cls d G' → W cls d σ' H') := q
  rw [hΓ] at k'
  rw [hB']
  cases e : b' (f a) with
  | true =>
    simp only [e, if_true] at q'
    rw [if_pos rfl]
    exact hA _ Z G0 S σ G' H' D k' q'
  | false =>
    simp only [e, Bool.false_eq_true, if_false] at q'
    rw [if_neg Bool.false_ne_true]
    exact hB _ Z G0 S σ G' H' D k' q'
/-- if c: A (never ends at its foot); the rest. The test is pure | may stop | changes what is owned -/
theorem sx_ifretE {c : Expr} {tc : TT} {A rest : List Stmt} {pos : Pos} {tA tr : TS} {α ν β : Type} [Nonempty ν] {me : Res α} {mn : Res ν} {b : α → Bool} {Γt : α → Ctx} {f : α → ν} {b' : ν → Bool} {Γ' : ν → Ctx} {mA mr : ν → Res β} {I : β → Out} (hc : ET X T W Γx Γ c tc me b Γt) (hB : ∀ t, b t = b' (f t)) (hΓ : ∀ t, Γt t = Γ' (f t))
    (hA : ∀ v, SX X T W Γx (Γ' v) A tA (mA v) I) (hr : ∀ v, SX X T W Γx (Γ' v) rest tr (mr v) I) (hI : ∀ a D N Z G0 S, (I a).go D Z G0 S → (I a).go { D with nx := N } Z G0 S := by exact fun _ _ _ _ _ _ z => z) (hb : Bd mn me (fun t => .ok (f t)) := by intros; repeat (first | ((with_reducible refine Bd.done ?_); exact rfl) | with_reducible refine Bd.okl ?_ | with_reducible refine Bd.assoc ?_ | with_reducible refine Bd.bind fun _ => ?_ | with_reducible refine Bd.eta fun _ => ?_ | with_reducible refine Bd.iteB ?_ ?_ fun _ => ?_ | with_reducible refine Bd.iteE ?_ ?_ fun _ => ?_ | with_reducible refine Bd.ite ?_ ?_ | with_reducible refine Bd.iteL ?_ ?_ | with_reducible refine Bd.assocL ?_ | with_reducible refine Bd.oklL ?_ | with_reducible exact Bd.same | with_reducible exact Bd.at | dsimp only)) :
    SX X T W Γx Γ (.If c A [] pos :: rest) (tSeq (tIfS tc tA tNext) tr) (mn.bind fun v => if b' v then mA v else mr v) I := by
  obtain ⟨x⟩ := ‹Nonempty ν›
  refine ⟨pss_cons (ps_if hc.pt (hA x).ps pss_nil) (hr x).ps, fun Z G0 S σ G H D k q => ?_⟩
  exact if_ev (DA := fun D => { D with nx := tr D }) hc hB hΓ (fun v Z G0 S σ G H D k q => (hA v).ev Z G0 S σ G H _ k (Res.wp_mono q (fun c z => hI c _ _ _ _ _ z) fun _ z => z)) (fun v Z G0 S σ G H D k q => (hr v).ev Z G0 S σ G H D k q) hb Z G0 S σ G H D k q
theorem sx_ifretM {c : Expr} {tc : TT} {A rest : List Stmt} {pos : Pos} {tA tr : TS} {α β : Type} {me : Res α} {mn : Res Bool} {b : α → Bool} {Γt : α → Ctx} {mA mr : Res β} {I : β → Out} (hc : ET X T W Γx Γ c tc me b Γt)
    (hA : SX X T W Γx Γ A tA mA I) (hr : SX X T W Γx Γ rest tr mr I) (hΓ : ∀ t, Γt t = Γ := by exact fun _ => rfl) (hI : ∀ a D N Z G0 S, (I a).go D Z G0 S → (I a).go { D with nx := N } Z G0 S := by exact fun _ _ _ _ _ _ z => z) (hb : Bd mn me (fun t => .ok (b t)) := by intros; repeat (first | ((with_reducible refine Bd.done ?_); exact rfl) | with_reducible refine Bd.okl ?_ | with_reducible refine Bd.assoc ?_ | with_reducible refine Bd.bind fun _ => ?_ | with_reducible refine Bd.eta fun _ => ?_ | with_reducible refine Bd.iteB ?_ ?_ fun _ => ?_ | with_reducible refine Bd.iteE ?_ ?_ fun _ => ?_ | with_reducible refine Bd.ite ?_ ?_ | with_reducible refine Bd.iteL ?_ ?_ | with_reducible refine Bd.assocL ?_ | with_reducible refine Bd.oklL ?_ | with_reducible exact Bd.same | with_reducible exact Bd.at | dsimp only)) :
    SX X T W Γx Γ (.If c A [] pos :: rest) (tSeq (tIfS tc tA tNext) tr) (mn.bind fun v => if v then mA else mr) I := sx_ifretE (b' := id) hc (fun _ => rfl) hΓ (fun _ => hA) (fun _ => hr) hI hb
theorem sx_ifret {c : Expr} {tc : TT} {A rest : List Stmt} {pos : Pos} {tA tr : TS} {α β : Type} {me : Res α} {bn : Bool} {b : α → Bool} {Γt : α → Ctx} {mA mr : Res β} {I : β → Out} (hc : ET X T W Γx Γ c tc me b Γt)
    (hA : SX X T W Γx Γ A tA mA I) (hr : SX X T W Γx Γ rest tr mr I) (hΓ : ∀ t, Γt t = Γ := by exact fun _ => rfl) (hI : ∀ a D N Z G0 S, (I a).go D Z G0 S → (I a).go { D with nx := N } Z G0 S := by exact fun _ _ _ _ _ _ z => z) (hb : Bd (.ok bn) me (fun t => .ok (b t)) := by intros; repeat (first | ((with_reducible refine Bd.done ?_); exact rfl) | with_reducible refine Bd.okl ?_ | with_reducible refine Bd.assoc ?_ | with_reducible refine Bd.bind fun _ => ?_ | with_reducible refine Bd.eta fun _ => ?_ | with_reducible refine Bd.iteB ?_ ?_ fun _ => ?_ | with_reducible refine Bd.iteE ?_ ?_ fun _ => ?_ | with_reducible refine Bd.ite ?_ ?_ | with_reducible refine Bd.iteL ?_ ?_ | with_reducible refine Bd.assocL ?_ | with_reducible refine Bd.oklL ?_ | with_reducible exact Bd.same | with_reducible exact Bd.at | dsimp only)) :
    SX X T W Γx Γ (.If c A [] pos :: rest) (tSeq (tIfS tc tA tNext) tr) (if bn then mA else mr) I := sx_ifretM (mn := .ok bn) hc hA hr hΓ hI hb
/-- if c: A else: B, both with the same outcomes -/
theorem s1_ifE {c : Expr} {tc : TT} {A B : List Stmt} {pos : Pos} {tA tB : TS} {α ν β : Type} [Nonempty ν] {me : Res α} {mn : Res ν} {b : α → Bool} {Γt : α → Ctx} {f : α → ν} {b' : ν → Bool} {Γ' : ν → Ctx} {mA mB : ν → Res β} {I : β → Out} (hc : ET X T W Γx Γ c tc me b Γt) (hB' : ∀ t, b t = b' (f t)) (hΓ : ∀ t, Γt t = Γ' (f t))
    (hA : ∀ v, SX X T W Γx (Γ' v) A tA (mA v) I) (hB : ∀ v, SX X T W Γx (Γ' v) B tB (mB v) I) (hb : Bd mn me (fun t => .ok (f t)) := by intros; repeat (first | ((with_reducible refine Bd.done ?_); exact rfl) | with_reducible refine Bd.okl ?_ | with_reducible refine Bd.assoc ?_ | with_reducible refine Bd.bind fun _ => ?_ | with_reducible refine Bd.eta fun _ => ?_ | with_reducible refine Bd.iteB ?_ ?_ fun _ => ?_ | with_reducible refine Bd.iteE ?_ ?_ fun _ => ?_ | with_reducible refine Bd.ite ?_ ?_ | with_reducible refine Bd.iteL ?_ ?_ | with_reducible refine Bd.assocL ?_ | with_reducible refine Bd.oklL ?_ | with_reducible exact Bd.same | with_reducible exact Bd.at | dsimp only)) : S1 X T W Γx Γ (.If c A B pos) (tIfS tc tA tB) (mn.bind fun v => if b' v then mA v else mB v) I := by
  obtain ⟨x⟩ := ‹Nonempty ν›
  exact ⟨ps_if hc.pt (hA x).ps (hB x).ps, fun Z G0 S σ G H D k q => if_ev (DA := id) hc hB' hΓ (fun v => (hA v).ev) (fun v => (hB v).ev) hb Z G0 S σ G H D k q⟩
theorem s1_ifM {c : Expr} {tc : TT} {A B : List Stmt} {pos : Pos} {tA tB : TS} {α β : Type} {me : Res α} {mn : Res Bool} {b : α → Bool} {Γt : α → Ctx} {mA mB : Res β} {I : β → Out} (hc : ET X T W Γx Γ c tc me b Γt)
    (hA : SX X T W Γx Γ A tA mA I) (hB : SX X T W Γx Γ B tB mB I) (hΓ : ∀ t, Γt t = Γ := by exact fun _ => rfl) (hb : Bd mn me (fun t => .ok (b t)) := by intros; repeat (first | ((with_reducible refine Bd.done ?_); exact rfl) | with_reducible refine Bd.okl ?_ | with_reducible refine Bd.assoc ?_ | with_reducible refine Bd.bind fun _ => ?_ | with_reducible refine Bd.eta fun _ => ?_ | with_reducible refine Bd.iteB ?_ ?_ fun _ => ?_ | with_reducible refine Bd.iteE ?_ ?_ fun _ => ?_ | with_reducible refine Bd.ite ?_ ?_ | with_reducible refine Bd.iteL ?_ ?_ | with_reducible refine Bd.assocL ?_ | with_reducible refine Bd.oklL ?_ | with_reducible exact Bd.same | with_reducible exact Bd.at | dsimp only)) : S1 X T W Γx Γ (.If c A B pos) (tIfS tc tA tB) (mn.bind fun v => if v then mA else mB) I := s1_ifE (b' := id) hc (fun _ => rfl) hΓ (fun _ => hA) (fun _ => hB) hb
theorem s1_if {c : Expr} {tc : TT} {A B : List Stmt} {pos : Pos} {tA tB : TS} {α β : Type} {me : Res α} {bn : Bool} {b : α → Bool} {Γt : α → Ctx} {mA mB : Res β} {I : β → Out} (hc : ET X T W Γx Γ c tc me b Γt)
    (hA : SX X T W Γx Γ A tA mA I) (hB : SX X T W Γx Γ B tB mB I) (hΓ : ∀ t, Γt t = Γ := by exact fun _ => rfl) (hb : Bd (.ok bn) me (fun t => .ok (b t)) := by intros; repeat (first | ((with_reducible refine Bd.done ?_); exact rfl) | with_reducible refine Bd.okl ?_ | with_reducible refine Bd.assoc ?_ | with_reducible refine Bd.bind fun _ => ?_ | with_reducible refine Bd.eta fun _ => ?_ | with_reducible refine Bd.iteB ?_ ?_ fun _ => ?_ | with_reducible refine Bd.iteE ?_ ?_ fun _ => ?_ | with_reducible refine Bd.ite ?_ ?_ | with_reducible refine Bd.iteL ?_ ?_ | with_reducible refine Bd.assocL ?_ | with_reducible refine Bd.oklL ?_ | with_reducible exact Bd.same | with_reducible exact Bd.at | dsimp only)) : S1 X T W Γx Γ (.If c A B pos) (tIfS tc tA tB) (if bn then mA else mB) I := s1_ifM (mn := .ok bn) hc hA hB hΓ hb
/-- a last statement that ends the block as the block ends -/
theorem sx_one {st : Stmt} {t : TS} {α : Type} {m : Res α} {I : α → Out} (h : S1 X T W Γx Γ st t m I) : SX X T W Γx Γ [st] t m I := ⟨pss_one h.ps, h.ev⟩
/-- the outcomes of a block that may go on or leave -/
def outC {S B : Type} (Γn : S → Ctx) (R : B → Sl) (L : B → List Pl) : Ctl S B → Out
  | .nx s => .nx (Γn s)
  | .ret b => .ret (R b) (L b)
  | .brk s => .brk (Γn s)
  | .cnt s => .cnt (Γn s)
theorem sx_with {st : Stmt} {rest : List Stmt} {t u : TS} {S' β : Type} [Nonempty S'] {m1 : Res (Ctl S' β)} {Γn : S' → Ctx} {R : β → Sl} {L : β → List Pl} {m2 : S' → Res β} (h1 : S1 X T W Γx Γ st t m1 (outC Γn R L)) (h2 : ∀ s, SX X T W Γx (Γn s) rest u (m2 s) (fun b => .ret (R b) (L b))) :
    SX X T W Γx Γ (st :: rest) (tSeq t u) (withCtl m1 m2) (fun b => .ret (R b) (L b)) := by
  obtain ⟨x⟩ := ‹Nonempty S'›
  refine ⟨pss_cons h1.ps (h2 x).ps, fun Z G0 S σ G H D k q => ?_⟩
  refine h1.ev Z G0 S σ G H { D with nx := u D } k (Res.wp_mono (Res.wp_bind q) (fun a q => ?_) fun _ z => z)
  cases a with
  | nx s => exact fun σ' G' H' k' => (h2 s).ev Z G0 S σ' G' H' D k' q
  | ret b => exact q
  | brk s => exact q.elim
  | cnt s => exact q.elim
theorem sx_then {st : Stmt} {rest : List Stmt} {t u : TS} {S' S2 β : Type} [Nonempty S'] {m1 : Res (Ctl S' β)} {Γn : S' → Ctx} {Γ2 : S2 → Ctx} {R : β → Sl} {L : β → List Pl} {m2 : S' → Res (Ctl S2 β)} (h1 : S1 X T W Γx Γ st t m1 (outC Γn R L)) (h2 : ∀ s, SX X T W Γx (Γn s) rest u (m2 s) (outC Γ2 R L)) :
    SX X T W Γx Γ (st :: rest) (tSeq t u) (thenCtl m1 m2) (outC Γ2 R L) := by
  obtain ⟨x⟩ := ‹Nonempty S'›
  refine ⟨pss_cons h1.ps (h2 x).ps, fun Z G0 S σ G H D k q => ?_⟩
  refine h1.ev Z G0 S σ G H { D with nx := u D } k (Res.wp_mono (Res.wp_bind q) (fun a q => ?_) fun _ z => z)
  cases a with
  | nx s => exact fun σ' G' H' k' => (h2 s).ev Z G0 S σ' G' H' D k' q
  | ret b => exact q
  | brk s => exact q.elim
  | cnt s => exact q.elim
/-- an outcome of a block that goes on, or leaves, as one that may do both -/
theorem SX.toN {sts : List Stmt} {ts : TS} {S' β : Type} {m : Res S'} {Γn : S' → Ctx} {R : β → Sl} {L : β → List Pl} (h : SX X T W Γx Γ sts ts m (fun s => .nx (Γn s))) : SX X T W Γx Γ sts ts (m.bind fun s => .ok (.nx s)) (outC Γn R L) :=
  ⟨h.ps, fun Z G0 S σ G H D k q => h.ev Z G0 S σ G H D k (Res.wp_bind q)⟩
theorem SX.toR {sts : List Stmt} {ts : TS} {S' β : Type} {m : Res β} {Γn : S' → Ctx} {R : β → Sl} {L : β → List Pl} (h : SX X T W Γx Γ sts ts m (fun b => .ret (R b) (L b))) : SX X T W Γx Γ sts ts (m.bind fun b => .ok (.ret b)) (outC Γn R L) :=
  ⟨h.ps, fun Z G0 S σ G H D k q => h.ev Z G0 S σ G H D k (Res.wp_bind q)⟩
theorem sx_brk {pos : Pos} {S' : Type} {s : S'} {Γn : S' → Ctx} (w : Wk Γ (Γn s)) : SX X T W Γx Γ [.Break pos] tBreak (.ok s) (fun s => .brk (Γn s)) := ⟨pss_one ps_break, fun Z G0 S σ G H D k q => q σ G H (w _ _ _ _ _ _ k)⟩
theorem sx_nilC {S' β : Type} {s : S'} {Γn : S' → Ctx} {R : β → Sl} {L : β → List Pl} (w : Wk Γ (Γn s)) : SX X T W Γx Γ [] tNext (.ok (.nx s)) (outC Γn R L) := ⟨pss_nil, fun Z G0 S σ G H D k q => q σ G H (w _ _ _ _ _ _ k)⟩
theorem sx_break {pos : Pos} {S' β : Type} {s : S'} {Γn : S' → Ctx} {R : β → Sl} {L : β → List Pl} (w : Wk Γ (Γn s)) : SX X T W Γx Γ [.Break pos] tBreak (.ok (.brk s)) (outC Γn R L) := ⟨pss_one ps_break, fun Z G0 S σ G H D k q => q σ G H (w _ _ _ _ _ _ k)⟩

/-! ### a def -/
section
variable {P : Program} {w : World} {mg : Str → Option Value} {base : Heap}
theorem fn_mk {x qual : Str} {st : Stmt} {f : Addr} {fd : FuncData} {N ps : List Str} {k n : Nat} {ξ β : Type} {A : ξ → List (Option Sl)} {g : ξ → Res β} {R : β → Sl} (F : Fun K x qual st f fd) (Sc : FnScope N ps (defScope st)) (hn : ps.length = n)
    (hbody : ∀ (cdv : Value) (Ar : Around) (outer : List Env) (s : Shared) (H : Hp) (E : XK), Room k (Ar.deeper (PyProof.Rows.envOfC qual (defScope st) s.heap.objs.size f cdv)) → Takes (cxOf (L2.CX P w) P w K mg base N qual (defScope st) f cdv Ar outer s H E) (fun cls d _ H => E cls d H) →
      PassesOwn (model P w) (Ar.deeper (PyProof.Rows.envOfC qual (defScope st) s.heap.objs.size f cdv)) (PyProof.Rows.envOfC qual (defScope st) s.heap.objs.size f cdv) (cxOf (L2.CX P w) P w K mg base N qual (defScope st) f cdv Ar outer s H E).xe → ∀ a : ξ, (A a).length = n →
      ∃ ts, SX (cxOf (L2.CX P w) P w K mg base N qual (defScope st) f cdv Ar outer s H E) T (fun cls d _ H => E cls d H) (List.replicate N.length none) (A a ++ List.replicate (N.length - n) none) (defBody st) ts (g a) (fun b => .ret (R b) [])) :
    FnOk P w K mg base (L2.CX P w) (k + 1) f fd ps (spM n T A g R) := by
  refine F.okX Sc (fun vs H Q E h => ?_) (fun cdv Ar outer s H vs Q E hr h => ?_)
  · obtain ⟨_, _, _, _, h1, _⟩ := h
    rw [h1, hn]
  · obtain ⟨a, Z, G0, G, h1, h2, h3, h4⟩ := h
    obtain ⟨ts, hs⟩ := hbody cdv Ar outer s H E hr (takes_of rfl rfl rfl rfl) (passes_of rfl) a h2
    refine ⟨ts, hs.ps, hs.ev Z G0 [] _ G H _ ⟨?_, ?_⟩ (Res.wp_mono h4 (fun b q v G' H' k' => q v G' H' k') fun ex q cls d σ' G' H' k' => q cls d G' H' k'.bare)⟩
    · unfold L2.start
      rw [List.length_append, List.length_append, List.length_map, List.length_replicate, List.length_replicate, h1, h2]
    · unfold L2.start
      show Okl Z G0 ((A a ++ List.replicate (N.length - n) none).zip (vs.map some ++ List.replicate (N.length - vs.length) none)) G H
      rw [List.zip_append (by rw [h2, List.length_map, h1]), h1]
      have go : ∀ j, Okl Z G0 ((A a).zip (vs.map some) ++ (List.replicate j none).zip (List.replicate j none)) G H := by
        intro j
        induction j with
        | zero => simpa using h3
        | succ j ih =>
          refine Okl.perm ?_ mid.symm
          obtain ⟨ps, z1, z2, z3⟩ := ih.own
          exact ⟨ih.zh, ih.gg, ih.gh, ih.fr, ps, ⟨[], ps, rfl, rfl, z1⟩, z2, z3⟩
      exact go _
end
end
end Rt
/-! Rt6: walks, loops, comprehensions. -/
namespace Rt
open PySem L2 R
section
variable {Z G0 G H G' H' : Hp} {l m : List Pl} {Γ : Ctx} {S : List Pl} {σ σ' : St}
theorem Okl.base (k : Okl Z G0 l G H) : Okl Z G l G H := ⟨k.zh, Evl.Ex.refl G, k.gh, fun _ _ _ _ e => e, k.own⟩
theorem Okl.back (k : Okl Z G0 l G H) (j : Okl Z G m G' H') : Okl Z G0 m G' H' := ⟨j.zh, k.gg.trans j.gg, j.gh, fun q o u hz hg => k.fr q o u hz (j.fr q o u hz hg), j.own⟩
theorem Okc.base (k : Okc Z G0 S Γ σ G H) : Okc Z G S Γ σ G H := ⟨k.len, k.ok.base⟩
theorem Okc.back {Δ : Ctx} {S' : List Pl} (k : Okc Z G0 S Γ σ G H) (j : Okc Z G S' Δ σ' G' H') : Okc Z G0 S' Δ σ' G' H' := ⟨j.len, k.ok.back j.ok⟩
theorem Okc.gex (k : Okc Z G S Γ σ G' H') : Ex G G' := k.ok.gg
theorem Okc.hex (k : Okc Z G S Γ σ G' H') : Ex G H' := k.ok.gg.trans k.ok.gh
end
/-- what a walk J gives: the items xs, each as R says -/
def Src (J : It) {β : Type} (xs : List β) (R : β → Sl) (G1 : Hp) : Prop :=
  ∃ (Gd : Hp → Prop) (Y : Nat → Hp → V → Hp → Prop), Walk J xs.length Gd Y ∧ (∀ H, Ex G1 H → Gd H) ∧
    ∀ i x, xs[i]? = some x → ∀ H v H', Y i H v H' → ∀ Z G0 l G, Ex G1 G → Okl Z G0 l G H → ∃ G', Okl Z G0 ((some (R x), some v) :: l) G' H'
structure IX (X : Cx) (T : XT) (W : WX) (Γx Γ : Ctx) (tg iter : Expr) (wi : TI) {α β : Type} (m : Res α) (xs : α → List β) (R : β → Sl) (Γo : α → Ctx) : Prop where
  pi : PI X tg iter wi
  ev : ∀ (Z G0 : Hp) (S : List Pl) (σ : St) (G H : Hp) (Rk : It → Hp → Prop), Okc Z G0 S Γ σ G H →
    m.wp (fun a => ∀ J G1 H1, Okc Z G0 S (Γo a) σ G1 H1 → Src J (xs a) R G1 → Rk J H1) (fun ex => ∀ cls d G' H', Okc Z G0 S Γx σ G' H' → T.rel ex cls d G' → W cls d σ H') → wi σ H Rk
/-- a target -/
structure GX (X : Cx) (tg : Expr) (g : TG) (js : List Nat) (s : Sl) (Γ Γ' : Ctx) : Prop where
  pg : PG X tg g
  ev : ∀ (Z G0 : Hp) (S : List Pl) (σ : St) (G H : Hp) (v : V) (Q : St → Hp → Prop), Okc Z G0 ((some s, some v) :: S) Γ σ G H → (∀ σ' G' H', Okc Z G0 S Γ' σ' G' H' → (∀ vs, (∀ j ∈ js, j ∈ vs) → wipe σ' vs = wipe σ vs) → Q σ' H') → g v σ H Q
theorem wipe_get {σ : St} : ∀ {vs : List Nat} {i : Nat}, (wipe σ vs)[i]? = if i ∈ vs ∧ i < σ.length then some none else σ[i]?
  | [], i => by simp [wipe]
  | v :: vs, i => by
    show ((wipe σ vs).set v none)[i]? = _
    rw [List.getElem?_set, wipe_length, wipe_get (vs := vs) (i := i)]
    by_cases h : v = i
    · subst h
      by_cases hl : v < σ.length
      · simp [hl]
      · simp [hl]
    · have h' : ¬ i = v := fun e => h e.symm
      simp [h, h']
theorem wipe_set {σ : St} {vs : List Nat} {j : Nat} {w : Option V} (h : j ∈ vs) : wipe (σ.set j w) vs = wipe σ vs := by
  refine List.ext_getElem? fun i => ?_
  rw [wipe_get, wipe_get, List.length_set, List.getElem?_set]
  by_cases hi : i ∈ vs ∧ i < σ.length
  · rw [if_pos hi, if_pos hi]
  · rw [if_neg hi, if_neg hi]
    by_cases e : j = i
    · subst e
      have hl : ¬ j < σ.length := fun z => hi ⟨h, z⟩
      rw [if_pos rfl, if_neg hl, List.getElem?_eq_none (by omega)]
    · rw [if_neg e]
theorem wipe_wipe {σ : St} {vs : List Nat} : wipe (wipe σ vs) vs = wipe σ vs := by
  refine List.ext_getElem? fun i => ?_
  rw [wipe_get, wipe_length, wipe_get]
  by_cases hi : i ∈ vs ∧ i < σ.length
  · rw [if_pos hi, if_pos hi]
  · rw [if_neg hi]
section
variable {X : Cx} {T : XT} {W : WX} {Γx Γ : Ctx} {K : PySem.W.Frag}
theorem gx_name {i : Nat} {x : Str} {pos : Pos} {s : Sl} (hN : X.N.Nodup) (hi : X.N[i]? = some x := by rfl) (hx : Loc X.env.scope x := by first | exact Or.inl rfl | exact Or.inr rfl) (hl : Nat.ble (i + 1) Γ.length = true := by rfl) (hf : X.fn x = true ∨ X.env.scope.names.lookup x = some .local := by first | exact .inl rfl | exact .inr rfl | assumption) :
    GX X (.Name x pos) (gName i) [i] s Γ (Γ.set i (some s)) := ⟨pg_name hN hi hx hf, fun Z G0 S σ G H v Q k q => q _ G H (k.store (Nat.le_of_ble_eq_true hl)) fun vs h => wipe_set (h i List.mem_cons_self)⟩
/-- several targets, the items of a tuple -/
structure GXs (X : Cx) (tgs : List Expr) (g : TGs) (js : List Nat) {α : Type} (d : Cods α) (a : α) (n : Nat) (Γ Γ' : Ctx) : Prop where
  pg : PGs X tgs g
  n : ∀ G vs, d.rel G vs a → vs.length = n
  ev : ∀ (Z G0 : Hp) (S : List Pl) (σ : St) (G H : Hp) (vs : List V) (Q : St → Hp → Prop), Okc Z G0 S Γ σ G H → d.rel G vs a → (∀ σ' G' H', Okc Z G0 S Γ' σ' G' H' → (∀ vs, (∀ j ∈ js, j ∈ vs) → wipe σ' vs = wipe σ vs) → Q σ' H') → g vs σ H Q
theorem gxs_one {α : Type} {c : Cod α} {a : α} {i : Nat} {x : Str} {pos : Pos} (hN : X.N.Nodup) (hi : X.N[i]? = some x := by rfl) (hx : Loc X.env.scope x := by first | exact Or.inl rfl | exact Or.inr rfl) (hl : Nat.ble (i + 1) Γ.length = true := by rfl) (hf : X.fn x = true ∨ X.env.scope.names.lookup x = some .local := by first | exact .inl rfl | exact .inr rfl | assumption)
    (hs : (assignEach [.Name x pos] X.env).map (·.2) = assign (.Name x pos) X.env :: (assignEach [] X.env).map (·.2) := by rfl) : GXs X [.Name x pos] (gCons (gName i) gNil) [i] (dOne c) a 1 Γ (Γ.set i (some (fz c a))) :=
  ⟨pgs_cons (pg_name hN hi hx hf) pgs_nil hs, fun G vs ⟨v, h, _⟩ => by rw [h]; rfl, fun Z G0 S σ G H vs Q k ⟨v, h1, h2⟩ q => ⟨v, [], h1, rfl, q _ G H ((k.pushf h2).store (Nat.le_of_ble_eq_true hl)) fun vs h => wipe_set (h i List.mem_cons_self)⟩⟩
theorem gxs_cons {α β : Type} {c : Cod α} {d : Cods β} {a : α} {b : β} {i n : Nat} {x : Str} {pos : Pos} {es : List Expr} {u : TGs} {js : List Nat} {Γ' : Ctx} (h : GXs X es u js d b n (Γ.set i (some (fz c a))) Γ') (hN : X.N.Nodup) (hi : X.N[i]? = some x := by rfl) (hx : Loc X.env.scope x := by first | exact Or.inl rfl | exact Or.inr rfl) (hl : Nat.ble (i + 1) Γ.length = true := by rfl) (hf : X.fn x = true ∨ X.env.scope.names.lookup x = some .local := by first | exact .inl rfl | exact .inr rfl | assumption)
    (hs : (assignEach (.Name x pos :: es) X.env).map (·.2) = assign (.Name x pos) X.env :: (assignEach es X.env).map (·.2) := by rfl) : GXs X (.Name x pos :: es) (gCons (gName i) u) (i :: js) (dCons c d) (a, b) (n + 1) Γ Γ' :=
  ⟨pgs_cons (pg_name hN hi hx hf) h.pg hs, fun G vs ⟨v, r, h1, _, h3⟩ => by rw [h1, List.length_cons, h.n G r h3], fun Z G0 S σ G H vs Q k ⟨v, r, h1, h2, h3⟩ q => ⟨v, r, h1, h.ev Z G0 S _ G H r Q ((k.pushf h2).store (Nat.le_of_ble_eq_true hl)) h3 fun σ' G' H' k' w => q σ' G' H' k' fun vs hv => (w vs fun j hj => hv j (List.mem_cons_of_mem _ hj)).trans (wipe_set (hv i List.mem_cons_self))⟩⟩
theorem gx_tup {es : List Expr} {k : Nat} {u : TGs} {js : List Nat} {n : Nat} {pos : Pos} {α : Type} {d : Cods α} {a : α} {Γ' : Ctx} (h : GXs X es u js d a n Γ Γ') (hK : X.K = K := by rfl) (hc : X.calm = true := by rfl) (hn : (assignEach es X.env).length = n := by rfl) (hst : (assignEach es X.env).findIdx? (·.1) = none := by rfl) :
    GX X (.Tuple es k pos) (gTup K n u) js (fz (cTup K d) a) Γ Γ' := by
  subst hK
  refine ⟨pg_tup hc h.pg hn hst, fun Z G0 S σ G H v Q kk q => ?_⟩
  obtain ⟨p, vs, rfl, hs, hp⟩ := kk.tp
  exact ⟨p, vs, rfl, ct_sq kk.ok.gh hs, h.n G vs hp, h.ev Z G0 S σ G H vs Q kk.drop hp q⟩
theorem paired_get {α : Type} {c : Cod α} {G : Hp} : ∀ {vs : List V} {xs : List α} {i : Nat} {v : V} {x : α}, Paired (c.rel G) vs xs → vs[i]? = some v → xs[i]? = some x → c.rel G v x
  | _, _, _, _, _, .nil, h, _ => by simp at h
  | _, _, 0, _, _, .cons r _, h1, h2 => by
    have e1 := Option.some.inj h1
    have e2 := Option.some.inj h2
    subst e1; subst e2
    exact r
  | _, _, i + 1, _, _, .cons _ t, h1, h2 => paired_get (i := i) t (by simpa using h1) (by simpa using h2)
theorem src_list {α : Type} {c : Cod α} {a : Addr} {vs : List V} {xs : List α} {G1 : Hp} (hs : SqL K G1 a vs) (hp : Paired (c.rel G1) vs xs) : Src (Itl K a) xs (fz c) G1 :=
  ⟨fun H => SqL K H a vs, YAt vs, by rw [← hp.length]; exact walk_list, fun H e => Evl.ex_l e hs, fun i x hx H v H' y Z G0 l G e k => by
    obtain ⟨rfl, hv⟩ := y
    exact ⟨G, k.push (c.mono (paired_get hp hv hx) e)⟩⟩
theorem ix_list {e tg : Expr} {te : TE} {α β : Type} {c : Cod β} {m : Res α} {xs : α → List β} {Γo : α → Ctx} (he : EX X T W Γx Γ e te m (fun a => fz (cList c) (xs a)) Γo) (hK : X.K = K := by rfl) : IX X T W Γx Γ tg e (iList K te) m xs (fz c) Γo := by
  subst hK
  refine ⟨pi_list he.pe, fun Z G0 S σ G H Rk k q => he.ev Z G0 S σ G H _ k (Res.wp_mono q (fun a q v G' H' k' => ?_) fun _ z => z)⟩
  obtain ⟨p, vs, rfl, hs, hp⟩ := k'.tp
  exact ⟨p, rfl, ⟨vs, cl_sq k'.ok.gh hs⟩, q _ G' H' k'.drop (src_list (SqL.of hs) hp)⟩
theorem ix_listQ {e tg : Expr} {te : TE} {α β : Type} {c : Cod β} {m : Res α} {xs : α → List β} {Γo : α → Ctx} (he : EX X T W Γx Γ e te m (fun a => fz (cSq K c) (xs a)) Γo) (hK : X.K = K := by rfl) : IX X T W Γx Γ tg e (iList K te) m xs (fz c) Γo := by
  subst hK
  refine ⟨pi_list he.pe, fun Z G0 S σ G H Rk k q => he.ev Z G0 S σ G H _ k (Res.wp_mono q (fun a q v G' H' k' => ?_) fun _ z => z)⟩
  obtain ⟨p, vs, rfl, hs, hp⟩ := k'.tp
  exact ⟨p, rfl, ⟨vs, Evl.ex_l k'.ok.gh hs⟩, q _ G' H' k'.drop (src_list hs hp)⟩
theorem range_len (a b : Int) : (R.range a b).length = (b - a).toNat := by
  unfold R.range
  rw [List.length_map, List.length_range]
theorem range_get {a b : Int} {i : Nat} {x : Int} (h : (R.range a b)[i]? = some x) : x = a + (i : Int) := by
  unfold R.range at h
  rw [List.getElem?_map] at h
  cases e : (List.range (b - a).toNat)[i]? with
  | none => rw [e] at h; cases h
  | some j =>
    rw [e] at h
    obtain ⟨hj, ej⟩ := List.getElem?_eq_some_iff.mp e
    rw [List.getElem_range] at ej
    subst ej
    exact (Option.some.inj h).symm
theorem src_range {a b : Int} {G1 : Hp} : Src (Itr a (b - a).toNat) (R.range a b) sI G1 :=
  ⟨fun _ => True, YFn fun i => .int (a + i), by rw [range_len]; exact walk_range, fun _ _ => trivial, fun i x hx H v H' y Z G0 l G e k => by
    obtain ⟨rfl, rfl⟩ := y
    exact ⟨G, k.push (c := cInt) (by rw [range_get hx]; rfl)⟩⟩
theorem rng_ok {a b : Int} {xs : List Int} (h : R.rng a b = .ok xs) : xs = R.range a b ∧ (-(2 ^ 62) ≤ a ∧ a < 2 ^ 62 ∧ -(2 ^ 62) ≤ b ∧ b < 2 ^ 62) := by
  obtain ⟨h1, h2⟩ := chk_ok h
  cases h2
  simp only [Bool.and_eq_true, decide_eq_true_eq] at h1
  exact ⟨rfl, h1⟩
theorem rng_ne {a b : Int} : ∀ e, R.rng a b ≠ .exn e := chk_ne ok_ne
theorem ax1 {Z G0 G H : Hp} {S : List Pl} {σ : St} {α : Type} {c : Cod α} {a : α} {vs : List V} (hl : [fz c a].length = vs.length) (k : Okc Z G0 (plz [fz c a] vs ++ S) Γ σ G H) : ∃ v, vs = [v] ∧ c.rel G v a ∧ Okc Z G0 S Γ σ G H := by
  match vs, hl with
  | [v], _ => exact ⟨v, rfl, Okc.tp (show Okc Z G0 ((some (fz c a), some v) :: S) Γ σ G H from k), Okc.drop (show Okc Z G0 ((some (fz c a), some v) :: S) Γ σ G H from k)⟩
theorem ax2 {Z G0 G H : Hp} {S : List Pl} {σ : St} {α β : Type} {c : Cod α} {d : Cod β} {a : α} {b : β} {vs : List V} (hl : [fz c a, fz d b].length = vs.length) (k : Okc Z G0 (plz [fz c a, fz d b] vs ++ S) Γ σ G H) : ∃ v w, vs = [v, w] ∧ c.rel G v a ∧ d.rel G w b ∧ Okc Z G0 S Γ σ G H := by
  match vs, hl with
  | [v, w], _ =>
    have k' : Okc Z G0 ((some (fz c a), some v) :: (some (fz d b), some w) :: S) Γ σ G H := k
    exact ⟨v, w, rfl, k'.tp, k'.drop.tp, k'.drop.drop⟩
theorem ix_range1 {e tg : Expr} {p pos : Pos} {ta : TA} {α : Type} {m : Res α} {n : α → Int} {Γo : α → Ctx} (ha : AX X T W Γx Γ [e] ta m (fun a => [sI (n a)]) Γo) (hm : X.mg "range" = none) (hg : Gl X "range" := by rfl) (hs : starEach [e] X.env = [(false, eval e X.env)] := by rfl) :
    IX X T W Γx Γ tg (.Call (.Name "range" p) [e] [] pos) (iRng1 ta) (m.bind fun a => (R.rng 0 (n a)).bind fun xs => .ok (a, xs)) (fun t => t.2) sI (fun t => Γo t.1) := by
  refine ⟨pi_range1 hg hm ha.pa hs, fun Z G0 S σ G H Rk k q => ha.ev Z G0 S σ G H _ k (Res.wp_mono (Res.wp_bind q) (fun a q vs G' H' hl k' => ?_) fun _ z => z)⟩
  obtain ⟨v, rfl, hv, k2⟩ := ax1 hl k'
  obtain ⟨xs, e, q3⟩ := wp_cases (Res.wp_bind q) rng_ne
  obtain ⟨rfl, b1, b2, b3, b4⟩ := rng_ok e
  refine ⟨n a, by rw [show v = .int (n a) from hv], b3, b4, q3 _ G' H' k2 ?_⟩
  have z := src_range (a := 0) (b := n a) (G1 := G')
  rw [Int.sub_zero] at z
  exact z
theorem ix_range2 {e e2 tg : Expr} {p pos : Pos} {ta : TA} {α : Type} {m : Res α} {lo n : α → Int} {Γo : α → Ctx} (ha : AX X T W Γx Γ [e, e2] ta m (fun a => [sI (lo a), sI (n a)]) Γo) (hm : X.mg "range" = none) (hg : Gl X "range" := by rfl)
    (hs : starEach [e, e2] X.env = [(false, eval e X.env), (false, eval e2 X.env)] := by rfl) (hs2 : starEach [e2] X.env = [(false, eval e2 X.env)] := by rfl) :
    IX X T W Γx Γ tg (.Call (.Name "range" p) [e, e2] [] pos) (iRng2 ta) (m.bind fun a => (R.rng (lo a) (n a)).bind fun xs => .ok (a, xs)) (fun t => t.2) sI (fun t => Γo t.1) := by
  refine ⟨pi_range2 hg hm ha.pa hs hs2, fun Z G0 S σ G H Rk k q => ha.ev Z G0 S σ G H _ k (Res.wp_mono (Res.wp_bind q) (fun a q vs G' H' hl k' => ?_) fun _ z => z)⟩
  obtain ⟨v, w, rfl, hv, hw, k2⟩ := ax2 hl k'
  obtain ⟨xs, e, q3⟩ := wp_cases (Res.wp_bind q) rng_ne
  obtain ⟨rfl, b⟩ := rng_ok e
  exact ⟨lo a, n a, by rw [show v = .int (lo a) from hv, show w = .int (n a) from hw], b, q3 _ G' H' k2 src_range⟩
/-- reversed(range(n)) -/
theorem src_revr {a b : Int} {G1 : Hp} : Src (Itc (a + (((b - a).toNat : Nat) : Int) - 1) (-1) (b - a).toNat) (R.range a b).reverse sI G1 :=
  ⟨fun _ => True, YFn fun i => .int (a + (((b - a).toNat : Nat) : Int) - 1 + (i : Nat) * (-1)), by rw [List.length_reverse, range_len]; exact walk_rangeC, fun _ _ => trivial, fun i x hx H v H' y Z G0 l G e k => by
    obtain ⟨rfl, rfl⟩ := y
    refine ⟨G, k.push (c := cInt) ?_⟩
    have hi : i < (R.range a b).length := by
      have := (List.getElem?_eq_some_iff.mp hx).1
      rwa [List.length_reverse] at this
    rw [List.getElem?_reverse hi] at hx
    have z := range_get hx
    rw [range_len] at z hi
    show V.int _ = V.int _
    rw [z]
    congr 1
    omega⟩
theorem ix_rev1 {e tg : Expr} {p p2 pos pos2 : Pos} {te : TE} {α : Type} {m : Res α} {n : α → Int} {Γo : α → Ctx} (he : EX X T W Γx Γ e te m (fun a => sI (n a)) Γo) (hm : X.mg "range" = none) (hm2 : X.mg "reversed" = none) (hg : Gl X "range" := by rfl) (hg2 : Gl X "reversed" := by rfl)
    (na : starEach [e] X.env = (false, eval e X.env) :: starEach [] X.env := by rfl) (hs : starEach [.Call (.Name "range" p) [e] [] pos] X.env = (false, eval (.Call (.Name "range" p) [e] [] pos) X.env) :: starEach [] X.env := by rfl) :
    IX X T W Γx Γ tg (.Call (.Name "reversed" p2) [.Call (.Name "range" p) [e] [] pos] [] pos2) (iRevR (tRg1 te)) (m.bind fun a => (R.rng 0 (n a)).bind fun xs => .ok (a, xs)) (fun t => t.2.reverse) sI (fun t => Γo t.1) := by
  refine ⟨pi_revR hg2 hm2 (prg_1 hg hm he.pe na) hs, fun Z G0 S σ G H Rk k q => he.ev Z G0 S σ G H _ k (Res.wp_mono (Res.wp_bind q) (fun a q v G' H' k' => ?_) fun _ z => z)⟩
  obtain ⟨xs, e, q3⟩ := wp_cases (Res.wp_bind q) rng_ne
  obtain ⟨rfl, b1, b2, b3, b4⟩ := rng_ok e
  refine ⟨n a, k'.tp, b1, b2, b3, b4, q3 _ G' H' k'.drop src_revr⟩

/-! ### for -/
theorem s1_for {tg iter : Expr} {body : List Stmt} {pos : Pos} {wi : TI} {g : TG} {tb : TS} {α β S' : Type} [Nonempty α] [Nonempty β] [Nonempty S'] {mi : Res α} {xs : α → List β} {Rb : β → Sl} {Γ0 : α → Ctx} {Γn : S' → Ctx} {s0 : α → S'} {f : β → S' → Res S'} {Γg : S' → β → Ctx} {m : Res S'}
    (hi : IX X T W Γx Γ tg iter wi mi xs Rb Γ0) {js : List Nat} (hg : ∀ s x, GX X tg g js (Rb x) (Γn s) (Γg s x)) (hb : ∀ x s, SX X T W Γx (Γg s x) body tb (f x s) (fun s' => .nx (Γn s'))) (h0 : ∀ a, Wk (Γ0 a) (Γn (s0 a)))
    (hp : PassesOwn (model X.prog X.w) X.A X.env X.xe) (hm : Bd m mi (fun a => R.fold f (xs a) (s0 a)) := by intros; repeat (first | ((with_reducible refine Bd.done ?_); exact rfl) | with_reducible refine Bd.okl ?_ | with_reducible refine Bd.assoc ?_ | with_reducible refine Bd.bind fun _ => ?_ | with_reducible refine Bd.eta fun _ => ?_ | with_reducible refine Bd.iteB ?_ ?_ fun _ => ?_ | with_reducible refine Bd.iteE ?_ ?_ fun _ => ?_ | with_reducible refine Bd.ite ?_ ?_ | with_reducible refine Bd.iteL ?_ ?_ | with_reducible refine Bd.assocL ?_ | with_reducible refine Bd.oklL ?_ | with_reducible exact Bd.same | with_reducible exact Bd.at | dsimp only)) (hc : X.calm = true := by rfl) (hs : ∀ x, foldedSetIterable iter X.env x = pure x := by intro _; rfl) :
    S1 X T W Γx Γ (.For tg iter body [] pos) (tFor wi g tb) m (fun s => .nx (Γn s)) := by
  obtain ⟨a0⟩ := ‹Nonempty α›
  obtain ⟨b0⟩ := ‹Nonempty β›
  obtain ⟨c0⟩ := ‹Nonempty S'›
  refine ⟨ps_for hp hc hi.pi (hg c0 b0).pg (hb b0 c0).ps hs, fun Z G0 S σ G H D k q => ?_⟩
  refine hi.ev Z G0 S σ G H _ k (Res.wp_mono (hm _ _ q) (fun a q J G1 H1 k1 src => ?_) fun ex q cls d G' H' k' => q cls d σ G' H' k')
  obtain ⟨Gd, Y, wk, gd, hy⟩ := src
  refine for_it wk (fun i σ H => ∃ s G, Okc Z G1 S (Γn s) σ G H ∧ (R.fold f ((xs a).drop i) s).wp (fun s => ∀ σ' G' H', Okc Z G0 S (Γn s) σ' G' H' → D.nx σ' H') (fun ex => ∀ cls d σ' G' H', Okc Z G0 S Γx σ' G' H' → T.rel ex cls d G' → W cls d σ' H'))
    ⟨s0 a, G1, (h0 a _ _ _ _ _ _ k1).base, q⟩ (fun i σ H _ ⟨s, G, k2, _⟩ => gd H k2.hex) ?_ ?_
  · rintro i v σ H H' hi' ⟨s, G, k2, w⟩ y
    have hx : (xs a)[i]? = some (xs a)[i] := List.getElem?_eq_getElem hi'
    rw [List.drop_eq_getElem_cons hi'] at w
    obtain ⟨G2, k3⟩ := hy i _ hx H v H' y Z G1 _ G k2.gex k2.ok
    refine (hg s (xs a)[i]).ev Z G1 S σ G2 H' v _ ⟨k2.len, k3⟩ fun σ3 G3 H3 k4 _ => ?_
    refine (hb _ s).ev Z G1 S σ3 G3 H3 _ k4 (Res.wp_mono (Res.wp_bind w) (fun s' w' σ4 G4 H4 k5 => ⟨s', G4, k5, w'⟩) fun ex q cls d σ' G' H' k' => q cls d σ' G' H' (k1.back k'))
  · rintro σ H ⟨s, G, k2, w⟩
    rw [List.drop_length] at w
    exact w σ G H (k1.back k2)
theorem s1_forC {tg iter : Expr} {body : List Stmt} {pos : Pos} {wi : TI} {g : TG} {tb : TS} {α β S' B : Type} [Nonempty α] [Nonempty β] [Nonempty S'] {mi : Res α} {xs : α → List β} {Rb : β → Sl} {Γ0 : α → Ctx} {Γn : S' → Ctx} {s0 : α → S'} {f : β → S' → Res (Ctl S' B)} {Γg : S' → β → Ctx} {RB : B → Sl} {LB : B → List Pl} {m : Res (Ctl S' B)}
    (hi : IX X T W Γx Γ tg iter wi mi xs Rb Γ0) {js : List Nat} (hg : ∀ s x, GX X tg g js (Rb x) (Γn s) (Γg s x)) (hb : ∀ x s, SX X T W Γx (Γg s x) body tb (f x s) (outC Γn RB LB)) (h0 : ∀ a, Wk (Γ0 a) (Γn (s0 a)))
    (hp : PassesOwn (model X.prog X.w) X.A X.env X.xe) (hm : Bd m mi (fun a => R.loop f (xs a) (s0 a)) := by intros; repeat (first | ((with_reducible refine Bd.done ?_); exact rfl) | with_reducible refine Bd.okl ?_ | with_reducible refine Bd.assoc ?_ | with_reducible refine Bd.bind fun _ => ?_ | with_reducible refine Bd.eta fun _ => ?_ | with_reducible refine Bd.iteB ?_ ?_ fun _ => ?_ | with_reducible refine Bd.iteE ?_ ?_ fun _ => ?_ | with_reducible refine Bd.ite ?_ ?_ | with_reducible refine Bd.iteL ?_ ?_ | with_reducible refine Bd.assocL ?_ | with_reducible refine Bd.oklL ?_ | with_reducible exact Bd.same | with_reducible exact Bd.at | dsimp only)) (hc : X.calm = true := by rfl) (hs : ∀ x, foldedSetIterable iter X.env x = pure x := by intro _; rfl) :
    S1 X T W Γx Γ (.For tg iter body [] pos) (tFor wi g tb) m (outC Γn RB LB) := by
  obtain ⟨a0⟩ := ‹Nonempty α›
  obtain ⟨b0⟩ := ‹Nonempty β›
  obtain ⟨c0⟩ := ‹Nonempty S'›
  refine ⟨ps_for hp hc hi.pi (hg c0 b0).pg (hb b0 c0).ps hs, fun Z G0 S σ G H D k q => ?_⟩
  refine hi.ev Z G0 S σ G H _ k (Res.wp_mono (hm _ _ q) (fun a q J G1 H1 k1 src => ?_) fun ex q cls d G' H' k' => q cls d σ G' H' k')
  obtain ⟨Gd, Y, wk, gd, hy⟩ := src
  refine for_it wk (fun i σ H => ∃ s G, Okc Z G1 S (Γn s) σ G H ∧ (R.loop f ((xs a).drop i) s).wp (fun o => (outC Γn RB LB o).go D Z G0 S) (fun ex => ∀ cls d σ' G' H', Okc Z G0 S Γx σ' G' H' → T.rel ex cls d G' → W cls d σ' H'))
    ⟨s0 a, G1, (h0 a _ _ _ _ _ _ k1).base, q⟩ (fun i σ H _ ⟨s, G, k2, _⟩ => gd H k2.hex) ?_ ?_
  · rintro i v σ H H' hi' ⟨s, G, k2, w⟩ y
    have hx : (xs a)[i]? = some (xs a)[i] := List.getElem?_eq_getElem hi'
    rw [List.drop_eq_getElem_cons hi'] at w
    obtain ⟨G2, k3⟩ := hy i _ hx H v H' y Z G1 _ G k2.gex k2.ok
    refine (hg s (xs a)[i]).ev Z G1 S σ G2 H' v _ ⟨k2.len, k3⟩ fun σ3 G3 H3 k4 _ => ?_
    refine (hb _ s).ev Z G1 S σ3 G3 H3 _ k4 (Res.wp_mono (Res.wp_bind w) (fun o w' => ?_) fun ex q cls d σ' G' H' k' => q cls d σ' G' H' (k1.back k'))
    cases o with
    | nx s' => exact fun σ4 G4 H4 k5 => ⟨s', G4, k5, w'⟩
    | cnt s' => exact fun σ4 G4 H4 k5 => ⟨s', G4, k5, w'⟩
    | brk s' => exact fun σ4 G4 H4 k5 => w' σ4 G4 H4 (k1.back k5)
    | ret b => exact fun v G' H' k5 => w' v G' H' ((k1.bare).back k5)
  · rintro σ H ⟨s, G, k2, w⟩
    rw [List.drop_length] at w
    exact w σ G H (k1.back k2)

/-! ### while -/
theorem s1_whileN {c : Expr} {body : List Stmt} {pos : Pos} {tc : TT} {tb : TS} {α S' : Type} [Nonempty α] [Nonempty S'] {Γn : S' → Ctx} {mt : S' → Res α} {b : S' → α → Bool} {t : S' → Res Bool} {f : S' → Res S'} {n : Nat} {s0 : S'}
    {Γt : S' → α → Ctx} (ht : ∀ s, ET X T W Γx (Γn s) c tc (mt s) (b s) (Γt s)) (hΓt : ∀ s t, Γt s t = Γn s := by exact fun _ _ => rfl) (htb : ∀ s, Bd (t s) (mt s) (fun a => .ok (b s a)) := by intros; repeat (first | ((with_reducible refine Bd.done ?_); exact rfl) | with_reducible refine Bd.okl ?_ | with_reducible refine Bd.assoc ?_ | with_reducible refine Bd.bind fun _ => ?_ | with_reducible refine Bd.eta fun _ => ?_ | with_reducible refine Bd.iteB ?_ ?_ fun _ => ?_ | with_reducible refine Bd.iteE ?_ ?_ fun _ => ?_ | with_reducible refine Bd.ite ?_ ?_ | with_reducible refine Bd.iteL ?_ ?_ | with_reducible refine Bd.assocL ?_ | with_reducible refine Bd.oklL ?_ | with_reducible exact Bd.same | with_reducible exact Bd.at | dsimp only)) (hb : ∀ s, SX X T W Γx (Γn s) body tb (f s) (fun s' => .nx (Γn s'))) (h0 : Wk Γ (Γn s0))
    (hp : PassesOwn (model X.prog X.w) X.A X.env X.xe) : S1 X T W Γx Γ (.While c body [] pos) (tWhile tc tb) (R.whilN t f n s0) (fun s => .nx (Γn s)) := by
  obtain rfl : Γt = fun s _ => Γn s := funext fun s => funext (hΓt s)
  obtain ⟨c0⟩ := ‹Nonempty S'›
  refine ⟨ps_while hp (ht c0).pt (hb c0).ps, fun Z G0 S σ G H D k q => ?_⟩
  refine ⟨fun j σ H => ∃ s G, Okc Z G0 S (Γn s) σ G H ∧ (R.whilN t f j s).wp (fun s => ∀ σ' G' H', Okc Z G0 S (Γn s) σ' G' H' → D.nx σ' H') (fun ex => ∀ cls d σ' G' H', Okc Z G0 S Γx σ' G' H' → T.rel ex cls d G' → W cls d σ' H'), ⟨n, s0, G, h0 _ _ _ _ _ _ k, q⟩, ?_⟩
  rintro j σ H ⟨s, G, k2, w⟩
  cases j with
  | zero => exact w.elim
  | succ j =>
    refine (ht s).ev Z G0 S σ G H _ k2 (Res.wp_mono (htb s _ _ (Res.wp_bind w)) (fun a w' G' H' k3 => ?_) fun ex q cls d G' H' k' => q cls d σ G' H' k')
    have w2 : (if b s a = true then (f s).bind fun s' => R.whilN t f j s' else Res.ok s).wp (fun s => ∀ σ' G' H', Okc Z G0 S (Γn s) σ' G' H' → D.nx σ' H') (fun ex => ∀ cls d σ' G' H', Okc Z G0 S Γx σ' G' H' → T.rel ex cls d G' → W cls d σ' H') := w'
    cases e : b s a with
    | true =>
      simp only [e, if_true] at w2
      rw [if_pos rfl]
      exact ⟨_, fun σ' H' z => ⟨j, Nat.lt_succ_self j, z⟩, (hb s).ev Z G0 S σ G' H' _ k3 (Res.wp_mono (Res.wp_bind w2) (fun s' w3 σ4 G4 H4 k5 => ⟨s', G4, k5, w3⟩) fun _ z => z)⟩
    | false =>
      simp only [e, Bool.false_eq_true, if_false] at w2
      rw [if_neg Bool.false_ne_true]
      exact w2 σ G' H' k3
theorem s1_whileC {c : Expr} {body : List Stmt} {pos : Pos} {tc : TT} {tb : TS} {α S' B : Type} [Nonempty α] [Nonempty S'] {Γn : S' → Ctx} {mt : S' → Res α} {b : S' → α → Bool} {t : S' → Res Bool} {f : S' → Res (Ctl S' B)} {RB : B → Sl} {LB : B → List Pl} {n : Nat} {s0 : S'}
    {Γt : S' → α → Ctx} (ht : ∀ s, ET X T W Γx (Γn s) c tc (mt s) (b s) (Γt s)) (hΓt : ∀ s t, Γt s t = Γn s := by exact fun _ _ => rfl) (htb : ∀ s, Bd (t s) (mt s) (fun a => .ok (b s a)) := by intros; repeat (first | ((with_reducible refine Bd.done ?_); exact rfl) | with_reducible refine Bd.okl ?_ | with_reducible refine Bd.assoc ?_ | with_reducible refine Bd.bind fun _ => ?_ | with_reducible refine Bd.eta fun _ => ?_ | with_reducible refine Bd.iteB ?_ ?_ fun _ => ?_ | with_reducible refine Bd.iteE ?_ ?_ fun _ => ?_ | with_reducible refine Bd.ite ?_ ?_ | with_reducible refine Bd.iteL ?_ ?_ | with_reducible refine Bd.assocL ?_ | with_reducible refine Bd.oklL ?_ | with_reducible exact Bd.same | with_reducible exact Bd.at | dsimp only)) (hb : ∀ s, SX X T W Γx (Γn s) body tb (f s) (outC Γn RB LB)) (h0 : Wk Γ (Γn s0))
    (hp : PassesOwn (model X.prog X.w) X.A X.env X.xe) : S1 X T W Γx Γ (.While c body [] pos) (tWhile tc tb) (R.whil t f n s0) (outC Γn RB LB) := by
  obtain rfl : Γt = fun s _ => Γn s := funext fun s => funext (hΓt s)
  obtain ⟨c0⟩ := ‹Nonempty S'›
  refine ⟨ps_while hp (ht c0).pt (hb c0).ps, fun Z G0 S σ G H D k q => ?_⟩
  refine ⟨fun j σ H => ∃ s G, Okc Z G0 S (Γn s) σ G H ∧ (R.whil t f j s).wp (fun o => (outC Γn RB LB o).go D Z G0 S) (fun ex => ∀ cls d σ' G' H', Okc Z G0 S Γx σ' G' H' → T.rel ex cls d G' → W cls d σ' H'), ⟨n, s0, G, h0 _ _ _ _ _ _ k, q⟩, ?_⟩
  rintro j σ H ⟨s, G, k2, w⟩
  cases j with
  | zero => exact w.elim
  | succ j =>
    refine (ht s).ev Z G0 S σ G H _ k2 (Res.wp_mono (htb s _ _ (Res.wp_bind w)) (fun a w' G' H' k3 => ?_) fun ex q cls d G' H' k' => q cls d σ G' H' k')
    have w2 : (if b s a = true then (f s).bind fun c => (match c with
      | .nx s' => R.whil t f j s'
      | .cnt s' => R.whil t f j s'
      | .brk s' => .ok (.nx s')
      | .ret r => .ok (.ret r)) else Res.ok (.nx s)).wp (fun o => (outC Γn RB LB o).go D Z G0 S) (fun ex => ∀ cls d σ' G' H', Okc Z G0 S Γx σ' G' H' → T.rel ex cls d G' → W cls d σ' H') := w'
    cases e : b s a with
    | true =>
      simp only [e, if_true] at w2
      rw [if_pos rfl]
      refine ⟨_, fun σ' H' z => ⟨j, Nat.lt_succ_self j, z⟩, (hb s).ev Z G0 S σ G' H' _ k3 (Res.wp_mono (Res.wp_bind w2) (fun o w3 => ?_) fun _ z => z)⟩
      cases o with
      | nx s' => exact fun σ4 G4 H4 k5 => ⟨s', G4, k5, w3⟩
      | cnt s' => exact fun σ4 G4 H4 k5 => ⟨s', G4, k5, w3⟩
      | brk s' => exact fun σ4 G4 H4 k5 => w3 σ4 G4 H4 k5
      | ret r => exact fun v G' H' k5 => w3 v G' H' k5
    | false =>
      simp only [e, Bool.false_eq_true, if_false] at w2
      rw [if_neg Bool.false_ne_true]
      exact w2 σ G' H' k3
end
end Rt
/-! Rt7: comprehensions, and | or, slices, lists that grow. -/
namespace Rt
open PySem L2 R
def wipeC (Γ : Ctx) : List Nat → Ctx
  | [] => Γ
  | v :: vs => (wipeC Γ vs).set v none
theorem wipeC_length (Γ : Ctx) : ∀ vs, (wipeC Γ vs).length = Γ.length
  | [] => rfl
  | v :: vs => by unfold wipeC; rw [List.length_set, wipeC_length Γ vs]
section
variable {Z G0 G H G' H' : Hp} {l m : List Pl} {Γ : Ctx} {S : List Pl} {σ σ' : St}
theorem Okl.noneOn {w : Option V} (k : Okl Z G0 l G H) : Okl Z G0 ((none, w) :: l) G H := by
  obtain ⟨ps, h1, h2, h3⟩ := k.own
  exact ⟨k.zh, k.gg, k.gh, k.fr, ps, ⟨[], ps, rfl, rfl, h1⟩, h2, h3⟩
theorem lift1 {i : Nat} (hl : Γ.length = σ.length) (hi : i < Γ.length) : ∃ x : Pl, (∀ Z G0 S G H, Okc Z G0 S Γ σ G H → Okc Z G0 (x :: S) (Γ.set i none) (σ.set i none) G H) ∧ ∀ Z G0 S G H, Okc Z G0 (x :: S) (Γ.set i none) (σ.set i none) G H → Okc Z G0 S Γ σ G H := by
  obtain ⟨w, _, hz⟩ := zip_get (o := Γ[i]) hl (List.getElem?_eq_getElem hi)
  have p1 := perm_at hz
  have p2 := perm_set (y := (none, none)) hz
  refine ⟨(Γ[i], w), fun Z G0 S G H k => ⟨by rw [List.length_set, List.length_set]; exact hl, ?_⟩, fun Z G0 S G H k => ⟨hl, ?_⟩⟩
  · rw [zip_set]
    have k1 : Okl Z G0 ((Γ[i], w) :: (S ++ (Γ.zip σ).eraseIdx i)) G H := k.ok.perm ((p1.append_left S).trans mid)
    refine (k1.noneOn (w := none)).perm ?_
    exact (List.Perm.swap _ _ _).trans (List.Perm.cons _ (mid.symm.trans (p2.symm.append_left S)))
  · have k0 := k.ok
    rw [zip_set] at k0
    have k1 : Okl Z G0 ((none, none) :: (Γ[i], w) :: (S ++ (Γ.zip σ).eraseIdx i)) G H := k0.perm ((List.Perm.cons _ ((p2.append_left S).trans mid)).trans (List.Perm.swap _ _ _))
    exact k1.drop.perm (mid.symm.trans (p1.symm.append_left S))
theorem lifts (hl : Γ.length = σ.length) : ∀ vs : List Nat, (∀ v ∈ vs, v < Γ.length) → ∃ L : List Pl, (∀ Z G0 S G H, Okc Z G0 S Γ σ G H → Okc Z G0 (L ++ S) (wipeC Γ vs) (wipe σ vs) G H) ∧ ∀ Z G0 S G H, Okc Z G0 (L ++ S) (wipeC Γ vs) (wipe σ vs) G H → Okc Z G0 S Γ σ G H
  | [], _ => ⟨[], fun _ _ _ _ _ k => k, fun _ _ _ _ _ k => k⟩
  | v :: vs, h => by
    obtain ⟨L, h1, h2⟩ := lifts hl vs fun u hu => h u (List.mem_cons_of_mem _ hu)
    have hl' : (wipeC Γ vs).length = (wipe σ vs).length := by rw [wipeC_length, wipe_length, hl]
    obtain ⟨x, k1, k2⟩ := lift1 (i := v) hl' (by rw [wipeC_length]; exact h v List.mem_cons_self)
    exact ⟨x :: L, fun Z G0 S G H k => k1 Z G0 _ G H (h1 Z G0 S G H k), fun Z G0 S G H k => h2 Z G0 S G H (k2 Z G0 _ G H k)⟩
end
theorem forget1 {Z G0 G H : Hp} {Γ : Ctx} {S : List Pl} {σ : St} {i : Nat} (k : Okc Z G0 S Γ σ G H) (hi : Γ[i]? = some none) : Okc Z G0 S Γ (σ.set i none) G H := by
  obtain ⟨w, _, hz⟩ := zip_get k.len hi
  have p1 := perm_at hz
  have p2 := perm_set (y := (none, none)) hz
  have e : Γ = Γ.set i none := by
    refine List.ext_getElem? fun j => ?_
    rw [List.getElem?_set]
    by_cases h : i = j
    · subst h
      rw [if_pos rfl, if_pos (List.getElem?_eq_some_iff.mp hi).1, hi]
    · rw [if_neg h]
  refine ⟨by rw [List.length_set]; exact k.len, ?_⟩
  have z : Γ.zip (σ.set i none) = (Γ.zip σ).set i (none, none) := by
    have y := zip_set (Γ := Γ) (σ := σ) (i := i) (o := none) (w := none)
    rw [← e] at y
    exact y
  rw [z]
  have k1 : Okl Z G0 ((none, w) :: (S ++ (Γ.zip σ).eraseIdx i)) G H := k.ok.perm ((p1.append_left S).trans mid)
  exact (k1.forget (w' := none)).perm (mid.symm.trans (p2.symm.append_left S))
theorem forgets {Z G0 G H : Hp} {Γ : Ctx} {S : List Pl} {σ : St} (k : Okc Z G0 S Γ σ G H) : ∀ vs : List Nat, (∀ v ∈ vs, Γ[v]? = some none) → Okc Z G0 S Γ (wipe σ vs) G H
  | [], _ => k
  | v :: vs, h => forget1 (forgets k vs fun u hu => h u (List.mem_cons_of_mem _ hu)) (h v List.mem_cons_self)
theorem wipeC_at {Γ : Ctx} : ∀ {vs : List Nat} {v : Nat}, v ∈ vs → v < Γ.length → (wipeC Γ vs)[v]? = some none
  | [], _, h, _ => by cases h
  | u :: vs, v, h, hl => by
    unfold wipeC
    rw [List.getElem?_set]
    by_cases e : u = v
    · subst e
      rw [if_pos rfl, wipeC_length, if_pos hl]
    · rw [if_neg e]
      rcases List.mem_cons.mp h with z | z
      · exact absurd z.symm e
      · exact wipeC_at z hl
section
variable {X : Cx} {T : XT} {W : WX} {Γx Γ : Ctx} {K : PySem.W.Frag}
/-- the new list on the stack, one more item -/
theorem Okl.grow {Z G0 G H : Hp} {l : List Pl} {γ : Type} {c : Cod γ} {acc : List γ} {D : Addr} {y : V} {a : γ} (k : Okl Z G0 ((some (fz c a), some y) :: (some (ol c acc), some (.ref D)) :: l) G H) :
    ∃ ws, H D = some (.lst ws) ∧ ws.length = acc.length ∧ Okl Z G0 ((some (ol c (acc ++ [a])), some (.ref D)) :: l) G (upd H D (.lst (ws ++ [y]))) := by
  have hr := k.rel1
  have k1 := k.drop
  obtain ⟨ps, ⟨p1, p2, _, ⟨v, e1, p, vs, e2, e3, h3, hp⟩, _⟩, _, _⟩ := k1.own
  cases e1
  cases e2
  refine ⟨vs, h3, hp.length, k1.write (p := D) (fun v ps e r => ?_) ⟨D, _, rfl, rfl, upd_same, Paired.snoc hp hr⟩⟩
  obtain ⟨p', _, e2, e4, _⟩ := r
  cases e
  cases e2
  exact e4
theorem lc_ev {tg iter : Expr} {wi : TI} {g : TG} {te : TE} {vs js : List Nat} {elt : Expr} {α β γ δ : Type} {mi : Res α} {xs : α → List β} {Rb : β → Sl} {Γ0 : α → Ctx} {c : Cod γ} {f : α → β → Res γ} {me : α → β → Res δ} {yv : α → β → δ → γ} {Γg : α → β → Ctx} {Γe : Ctx} {X' : Cx}
    (hi : IX X T W Γx Γ tg iter wi mi xs Rb Γ0) (hg : ∀ a x, GX X' tg g js (Rb x) (wipeC (Γ0 a) vs) (Γg a x)) (hj : ∀ j ∈ js, j ∈ vs) (hv : ∀ a, ∀ v ∈ vs, v < (Γ0 a).length)
    (he : ∀ a x, EX X' T (fun _ _ _ _ => False) Γe (Γg a x) elt te (me a x) (fun b => fz c (yv a x b)) (fun _ => Γg a x)) (hd : ∀ a x, Wk (Γg a x) (wipeC (Γ0 a) vs)) (hb : ∀ a x, Bd (f a x) (me a x) (fun b => .ok (yv a x b)))
    (Z G0 : Hp) (S : List Pl) (σ : St) (G H : Hp) (Q : VK) (k : Okc Z G0 S Γ σ G H)
    (q : (mi.bind fun a => (R.mapC (f a) (xs a)).bind fun ys => .ok (a, ys)).wp (fun t => ∀ v G' H', Okc Z G0 ((some (ol c t.2), some v) :: S) (Γ0 t.1) σ G' H' → Q v H') (fun ex => ∀ cls d G' H', Okc Z G0 S Γx σ G' H' → T.rel ex cls d G' → W cls d σ H')) :
    tLc wi g tYes te vs σ H Q := by
  refine hi.ev Z G0 S σ G H _ k (Res.wp_mono (Res.wp_bind q) (fun a q J G1 H1 k1 src => ?_) fun ex q => q)
  intro D hD
  have q := Res.wp_bind q
  obtain ⟨Gd, Y, wk, gd, hy⟩ := src
  obtain ⟨L, up, down⟩ := lifts k1.len vs (hv a)
  have q' : (R.mapK (f a) (xs a)).wp (fun ys => ∀ v G' H', Okc Z G0 ((some (ol c ys), some v) :: S) (Γ0 a) σ G' H' → Q v H') (fun _ => True) ∧ (xs a).length ≤ R.line := by
    unfold R.mapC at q
    cases e : decide ((xs a).length ≤ R.line) with
    | true =>
      rw [e] at q
      exact ⟨Res.wp_mono q (fun ys z => z) fun _ _ => trivial, of_decide_eq_true e⟩
    | false =>
      rw [e] at q
      exact q.elim
  obtain ⟨q, hz⟩ := q'
  have kD : Okc Z G1 ((some (ol c []), some (.ref D)) :: S) (Γ0 a) σ G1 (upd H1 D (.lst [])) := ⟨k1.len, k1.base.ok.layOwn (s := ol c []) hD ⟨D, [], rfl, rfl, upd_same, .nil⟩⟩
  refine lc_it wk (fun i H => ∃ acc G, Okc Z G1 (L ++ ((some (ol c acc), some (.ref D)) :: S)) (wipeC (Γ0 a) vs) (wipe σ vs) G H ∧ acc.length ≤ i ∧
      (R.mapK (f a) ((xs a).drop i)).wp (fun ys => ∀ v G' H', Okc Z G0 ((some (ol c (acc ++ ys)), some v) :: S) (Γ0 a) σ G' H' → Q v H') (fun _ => True))
    ⟨[], G1, up _ _ _ _ _ kD, Nat.zero_le _, q⟩ (fun i H _ ⟨acc, G, k2, _⟩ => gd H k2.hex) ?_ ?_
  · rintro i v H H' hi' ⟨acc, G, k2, hl, w⟩ y
    have hx : (xs a)[i]? = some (xs a)[i] := List.getElem?_eq_getElem hi'
    rw [List.drop_eq_getElem_cons hi'] at w
    have w2 : (f a (xs a)[i]).wp (fun y => ((R.mapK (f a) ((xs a).drop (i + 1))).bind fun ys => .ok (y :: ys)).wp (fun ys => ∀ v G' H', Okc Z G0 ((some (ol c (acc ++ ys)), some v) :: S) (Γ0 a) σ G' H' → Q v H') (fun _ => True)) (fun _ => False) := Res.wp_calm (Res.wp_bind w)
    obtain ⟨G2, k3⟩ := hy i _ hx H v H' y Z G1 _ G k2.gex k2.ok
    refine (hg a (xs a)[i]).ev Z G1 _ _ G2 H' v _ ⟨k2.len, k3⟩ fun σ3 G3 H3 k4 hw => ⟨(hw vs hj).trans wipe_wipe, ?_⟩
    unfold tYes
    dsimp only
    rw [if_pos rfl]
    refine (he a (xs a)[i]).ev Z G1 _ σ3 G3 H3 _ k4 (Res.wp_mono (hb a (xs a)[i] _ _ w2) (fun b w3 y G4 H4 k5 => ?_) fun ex z => z.elim)
    have w4 := Res.wp_bind (show ((R.mapK (f a) ((xs a).drop (i + 1))).bind fun ys => .ok (yv a (xs a)[i] b :: ys)).wp (fun ys => ∀ v G' H', Okc Z G0 ((some (ol c (acc ++ ys)), some v) :: S) (Γ0 a) σ G' H' → Q v H') (fun _ => True) from w3)
    -- the new item ahead of the list
    have k6 : Okc Z G1 (L ++ ((some (fz c (yv a (xs a)[i] b)), some y) :: (some (ol c acc), some (.ref D)) :: S)) (wipeC (Γ0 a) vs) (wipe σ vs) G4 H4 := by
      have e1 := forgets (hd a (xs a)[i] _ _ _ _ _ _ k5) vs fun v h => wipeC_at h (hv a v h)
      rw [(hw vs hj).trans wipe_wipe] at e1
      refine ⟨e1.len, e1.ok.perm ?_⟩
      show (((some (fz c (yv a (xs a)[i] b)), some y) :: (L ++ (some (ol c acc), some (.ref D)) :: S)) ++ _).Perm _
      exact (mid (l := L) (m := (some (ol c acc), some (.ref D)) :: S)).symm.append_right _
    have k7 := down _ _ _ _ _ k6
    obtain ⟨ws, hD', hlen, k8⟩ := Okl.grow k7.ok
    refine ⟨ws, hD', ?_, acc ++ [yv a (xs a)[i] b], G4, up _ _ _ _ _ ⟨k7.len, k8⟩, ?_, Res.wp_mono w4 (fun ys z => ?_) fun _ _ => trivial⟩
    · rw [← line_eq, hlen]
      omega
    · rw [List.length_append]
      show acc.length + 1 ≤ i + 1
      omega
    · rw [List.append_assoc]
      exact z
  · rintro H ⟨acc, G, k2, _, w⟩
    rw [List.drop_length] at w
    have k3 := k1.back (down _ _ _ _ _ k2)
    exact w (.ref D) G H (by rw [List.append_nil]; exact k3)
/-- [elt for tg in iter] -/
theorem ex_lc {tg iter elt : Expr} {scope : Scope} {own : List (Str × Nat)} {pos : Pos} {wi : TI} {g : TG} {te : TE} {js : List Nat} {α β γ δ : Type} [Nonempty α] [Nonempty β] {mi : Res α} {xs : α → List β} {Rb : β → Sl} {Γ0 : α → Ctx} {c : Cod γ} {f : α → β → Res γ} {me : α → β → Res δ} {yv : α → β → δ → γ} {Γg : α → β → Ctx} {Γe : Ctx} {Re : α → β → δ → Sl} {Γo : α → β → δ → Ctx}
    (hN : X.N.Nodup) (hi : IX X T W Γx Γ tg iter wi mi xs Rb Γ0) (ok : BlkOk X.N X.env.scope scope own)
    (hg : ∀ (s : Shared) (H : Hp) (C : Addr) (cl : List (Str × Addr)) (fp : List Addr) a x, GX (X.blk s H scope (compEnvC scope cl C X.env) fp) tg g js (Rb x) (wipeC (Γ0 a) (own.map (·.2))) (Γg a x))
    (he : ∀ (s : Shared) (H : Hp) (C : Addr) (cl : List (Str × Addr)) (fp : List Addr) a x, EX (X.blk s H scope (compEnvC scope cl C X.env) fp) T (fun _ _ _ _ => False) Γe (Γg a x) elt te (me a x) (Re a x) (Γo a x))
    (hRe : ∀ a x b, Re a x b = fz c (yv a x b) := by exact fun _ _ _ => rfl) (hΓo : ∀ a x b, Γo a x b = Γg a x := by exact fun _ _ _ => rfl) (hb : ∀ a x, Bd (f a x) (me a x) (fun b => .ok (yv a x b)) := by intros; repeat (first | ((with_reducible refine Bd.done ?_); exact rfl) | with_reducible refine Bd.okl ?_ | with_reducible refine Bd.assoc ?_ | with_reducible refine Bd.bind fun _ => ?_ | with_reducible refine Bd.eta fun _ => ?_ | with_reducible refine Bd.iteB ?_ ?_ fun _ => ?_ | with_reducible refine Bd.iteE ?_ ?_ fun _ => ?_ | with_reducible refine Bd.ite ?_ ?_ | with_reducible refine Bd.iteL ?_ ?_ | with_reducible refine Bd.assocL ?_ | with_reducible refine Bd.oklL ?_ | with_reducible exact Bd.same | with_reducible exact Bd.at | dsimp only)) (hj : ∀ j ∈ js, j ∈ own.map (·.2) := by decide) (hv : ∀ a, ((own.map (·.2)).all fun v => Nat.ble (v + 1) (Γ0 a).length) = true := by exact fun _ => rfl) (hd : ∀ a x, Wk (Γg a x) (wipeC (Γ0 a) (own.map (·.2))))
    (hc : X.calm = true := by rfl) (hs : ∀ x, foldedSetIterable iter X.env x = pure x := by intro _; rfl) :
    EX X T W Γx Γ (.ListComp elt [⟨tg, iter, [], 0⟩] scope pos) (tLc wi g tYes te (own.map (·.2))) (mi.bind fun a => (R.mapC (f a) (xs a)).bind fun ys => .ok (a, ys)) (fun t => ol c t.2) (fun t => Γ0 t.1) := by
  obtain rfl : Re = fun a x b => fz c (yv a x b) := funext fun a => funext fun x => funext (hRe a x)
  obtain rfl : Γo = fun a x _ => Γg a x := funext fun a => funext fun x => funext (hΓo a x)
  obtain ⟨a0⟩ := ‹Nonempty α›
  obtain ⟨b0⟩ := ‹Nonempty β›
  refine ⟨pe_lc hc hN hi.pi ok (fun s H C cl fp => (hg s H C cl fp a0 b0).pg) (fun _ _ _ _ _ => pts_nil) (fun s H C cl fp => (he s H C cl fp a0 b0).pe) hs, ?_⟩
  exact lc_ev hi (hg X.s_0 (fun _ => none) 0 [] []) hj (fun a v hm => Nat.le_of_ble_eq_true (List.all_eq_true.mp (hv a) v hm)) (he X.s_0 (fun _ => none) 0 [] []) hd hb
theorem s1_asgLc {i : Nat} {y : Str} {py spos : Pos} {tg iter elt : Expr} {scope : Scope} {own : List (Str × Nat)} {pos : Pos} {wi : TI} {g : TG} {te : TE} {js : List Nat} {α β γ δ : Type} [Nonempty α] [Nonempty β] {mi : Res α} {xs : α → List β} {Rb : β → Sl} {Γ0 : α → Ctx} {c : Cod γ} {f : α → β → Res γ} {me : α → β → Res δ} {yv : α → β → δ → γ} {Γg : α → β → Ctx} {Γe : Ctx} {Re : α → β → δ → Sl} {Γo : α → β → δ → Ctx} {mn : Res (List γ)}
    (hN : X.N.Nodup) (hy : X.N[i]? = some y) (hyl : X.env.scope.names.lookup y = some .local) (hsw : swapsWith (.ListComp elt [⟨tg, iter, [], 0⟩] scope pos) (some (.Name y py)) spos.line X.env = pure true) (hi : IX X T W Γx Γ tg iter wi mi xs Rb Γ0) (ok : BlkOk X.N X.env.scope scope own)
    (hg : ∀ (s : Shared) (H : Hp) (C : Addr) (cl : List (Str × Addr)) (fp : List Addr) a x, GX (X.blk s H scope (compEnvC scope cl C X.env) fp) tg g js (Rb x) (wipeC (Γ0 a) (own.map (·.2))) (Γg a x))
    (he : ∀ (s : Shared) (H : Hp) (C : Addr) (cl : List (Str × Addr)) (fp : List Addr) a x, EX (X.blk s H scope (compEnvC scope cl C X.env) fp) T (fun _ _ _ _ => False) Γe (Γg a x) elt te (me a x) (Re a x) (Γo a x))
    (hRe : ∀ a x b, Re a x b = fz c (yv a x b) := by exact fun _ _ _ => rfl) (hΓo : ∀ a x b, Γo a x b = Γg a x := by exact fun _ _ _ => rfl) (hb : ∀ a x, Bd (f a x) (me a x) (fun b => .ok (yv a x b)) := by intros; repeat (first | ((with_reducible refine Bd.done ?_); exact rfl) | with_reducible refine Bd.okl ?_ | with_reducible refine Bd.assoc ?_ | with_reducible refine Bd.bind fun _ => ?_ | with_reducible refine Bd.eta fun _ => ?_ | with_reducible refine Bd.iteB ?_ ?_ fun _ => ?_ | with_reducible refine Bd.iteE ?_ ?_ fun _ => ?_ | with_reducible refine Bd.ite ?_ ?_ | with_reducible refine Bd.iteL ?_ ?_ | with_reducible refine Bd.assocL ?_ | with_reducible refine Bd.oklL ?_ | with_reducible exact Bd.same | with_reducible exact Bd.at | dsimp only)) (hj : ∀ j ∈ js, j ∈ own.map (·.2) := by decide) (hv : ∀ a, ((own.map (·.2)).all fun v => Nat.ble (v + 1) (Γ0 a).length) = true := by exact fun _ => rfl) (hd : ∀ a x, Wk (Γg a x) (wipeC (Γ0 a) (own.map (·.2)))) (hΓ : ∀ t, Γ0 t = Γ := by exact fun _ => rfl) (hl : Nat.ble (i + 1) Γ.length = true := by rfl) (hm : Bd mn (mi.bind fun a => (R.mapC (f a) (xs a)).bind fun ys => .ok (a, ys)) (fun t => .ok t.2) := by intros; repeat (first | ((with_reducible refine Bd.done ?_); exact rfl) | with_reducible refine Bd.okl ?_ | with_reducible refine Bd.assoc ?_ | with_reducible refine Bd.bind fun _ => ?_ | with_reducible refine Bd.eta fun _ => ?_ | with_reducible refine Bd.iteB ?_ ?_ fun _ => ?_ | with_reducible refine Bd.iteE ?_ ?_ fun _ => ?_ | with_reducible refine Bd.ite ?_ ?_ | with_reducible refine Bd.iteL ?_ ?_ | with_reducible refine Bd.assocL ?_ | with_reducible refine Bd.oklL ?_ | with_reducible exact Bd.same | with_reducible exact Bd.at | dsimp only))
    (hc : X.calm = true := by rfl) (hs : ∀ x, foldedSetIterable iter X.env x = pure x := by intro _; rfl) :
    S1 X T W Γx Γ (.Assign [.Name y py] (.ListComp elt [⟨tg, iter, [], 0⟩] scope pos) spos) (tAsg (tLc wi g tYes te (own.map (·.2))) (gName i)) mn (fun v => .nx (Γ.set i (some (ol c v)))) := by
  obtain rfl : Re = fun a x b => fz c (yv a x b) := funext fun a => funext fun x => funext (hRe a x)
  obtain rfl : Γo = fun a x _ => Γg a x := funext fun a => funext fun x => funext (hΓo a x)
  obtain ⟨a0⟩ := ‹Nonempty α›
  obtain ⟨b0⟩ := ‹Nonempty β›
  refine ⟨ps_setLc hc hN hy hyl hsw hi.pi ok (fun s H C cl fp => (hg s H C cl fp a0 b0).pg) (fun _ _ _ _ _ => pts_nil) (fun s H C cl fp => (he s H C cl fp a0 b0).pe) hs, fun Z G0 S σ G H D k q => ?_⟩
  exact lc_ev hi (hg X.s_0 (fun _ => none) 0 [] []) hj (fun a v hm => Nat.le_of_ble_eq_true (List.all_eq_true.mp (hv a) v hm)) (he X.s_0 (fun _ => none) 0 [] []) hd hb Z G0 S σ G H _ k (Res.wp_mono (hm _ _ q) (fun t q v G' H' k' => by
    rw [hΓ] at k'
    exact q _ G' H' (k'.store (Nat.le_of_ble_eq_true hl))) fun ex q cls d G' H' k' => q cls d σ G' H' k')
/-- an owned list, frozen -/
theorem Okl.icy {Z G0 G H : Hp} {l : List Pl} {γ : Type} {c : Cod γ} {xs : List γ} {w : Option V} (k : Okl Z G0 ((some (ol c xs), w) :: l) G H) : ∃ G', Okl Z G0 ((some (fz (cList c) xs), w) :: l) G' H := by
  obtain ⟨ps, ⟨p1, p2, _, ⟨v, e1, p, vs, e2, e3, h3, hp⟩, _⟩, _, h4⟩ := k.own
  subst e1; subst e2
  refine ⟨upd G p (.lst vs), k.freeze (p := p) (fun v ps e r => ?_) h3 ⟨p, vs, rfl, upd_same, Paired.mono (fun _ _ q => c.mono q (Evl.Ex.new ?_)) hp⟩⟩
  · obtain ⟨p', _, e2, e4, _⟩ := r
    cases e
    cases e2
    exact e4
  · exact (h4 p (by simp_all)).2.1
theorem EX.icy {e : Expr} {te : TE} {α γ : Type} {m : Res α} {c : Cod γ} {xs : α → List γ} {Γo : α → Ctx} (h : EX X T W Γx Γ e te m (fun a => ol c (xs a)) Γo) : EX X T W Γx Γ e te m (fun a => fz (cList c) (xs a)) Γo :=
  ⟨h.pe, fun Z G0 S σ G H Q k q => h.ev Z G0 S σ G H Q k (Res.wp_mono q (fun a q v G' H' k' => by
    obtain ⟨G2, k2⟩ := k'.of.icy 
    exact q v G2 H' ⟨k'.len, k2⟩) fun _ z => z)⟩
/-- an owned list at a slot, frozen for good -/
theorem Okc.icySlot {Z G0 G H : Hp} {S : List Pl} {σ : St} {γ : Type} {c : Cod γ} {xs : List γ} {i : Nat} (k : Okc Z G0 S Γ σ G H) (h : Γ[i]? = some (some (ol c xs))) : ∃ G', Okc Z G0 S (Γ.set i (some (fz (cList c) xs))) σ G' H := by
  obtain ⟨w, hw, hz⟩ := zip_get k.len h
  have p1 := perm_at hz
  have p2 := perm_set (y := (some (fz (cList c) xs), w)) hz
  have k1 : Okl Z G0 ((some (ol c xs), w) :: (S ++ (Γ.zip σ).eraseIdx i)) G H := k.ok.perm ((p1.append_left S).trans mid)
  obtain ⟨G', k2⟩ := k1.icy 
  refine ⟨G', by rw [List.length_set]; exact k.len, ?_⟩
  have e : σ = σ.set i w := by
    refine List.ext_getElem? fun j => ?_
    rw [List.getElem?_set]
    by_cases q : i = j
    · subst q
      rw [if_pos rfl, if_pos (List.getElem?_eq_some_iff.mp hw).1, hw]
    · rw [if_neg q]
  have z := zip_set (Γ := Γ) (σ := σ) (i := i) (o := some (fz (cList c) xs)) (w := w)
  rw [← e] at z
  rw [z]
  exact k2.perm (mid.symm.trans (p2.symm.append_left S))
theorem SX.icy {sts : List Stmt} {ts : TS} {α γ : Type} {m : Res α} {I : α → Out} {c : Cod γ} {xs : List γ} (i : Nat) (h : Γ[i]? = some (some (ol c xs))) (r : SX X T W Γx (Γ.set i (some (fz (cList c) xs))) sts ts m I) : SX X T W Γx Γ sts ts m I :=
  ⟨r.ps, fun Z G0 S σ G H D k q => by
    obtain ⟨G', k'⟩ := k.icySlot  h
    exact r.ev Z G0 S σ G' H D k' q⟩
/-- what a slot owns, on top; the slot again behind -/
theorem Okc.take {Z G0 G H : Hp} {S : List Pl} {σ : St} {s : Sl} {i : Nat} (k : Okc Z G0 S Γ σ G H) (h : Γ[i]? = some (some s)) : ∃ v l, σ[i]? = some (some v) ∧ Okl Z G0 ((some s, some v) :: l) G H ∧
    ∀ s' G' H', Okl Z G0 ((some s', some v) :: l) G' H' → Okc Z G0 S (Γ.set i (some s')) σ G' H' := by
  obtain ⟨w, hw, hz⟩ := zip_get k.len h
  have p1 := perm_at hz
  have k1 : Okl Z G0 ((some s, w) :: (S ++ (Γ.zip σ).eraseIdx i)) G H := k.ok.perm ((p1.append_left S).trans mid)
  obtain ⟨ps, ⟨_, _, _, ⟨v, e1, _⟩, _⟩, _, _⟩ := k1.own
  subst e1
  refine ⟨v, _, hw, k1, fun s' G' H' k2 => ⟨by rw [List.length_set]; exact k.len, ?_⟩⟩
  have p2 := perm_set (y := (some s', some v)) hz
  have e : σ = σ.set i (some v) := by
    refine List.ext_getElem? fun j => ?_
    rw [List.getElem?_set]
    by_cases q : i = j
    · subst q
      rw [if_pos rfl, if_pos (List.getElem?_eq_some_iff.mp hw).1, hw]
    · rw [if_neg q]
  have z := zip_set (Γ := Γ) (σ := σ) (i := i) (o := some s') (w := some v)
  rw [← e] at z
  rw [z]
  exact k2.perm (mid.symm.trans (p2.symm.append_left S))
theorem ol_own {Z G0 G H : Hp} {l : List Pl} {γ : Type} {c : Cod γ} {xs : List γ} {v : V} (k : Okl Z G0 ((some (ol c xs), some v) :: l) G H) : ∃ p vs, v = .ref p ∧ H p = some (.lst vs) ∧ Paired (c.rel G) vs xs ∧
    ∀ vs' xs', Paired (c.rel G) vs' xs' → Okl Z G0 ((some (ol c xs'), some v) :: l) G (upd H p (.lst vs')) := by
  obtain ⟨ps, ⟨p1, p2, _, ⟨v', e1, p, vs, e2, e3, h3, hp⟩, _⟩, _, _⟩ := k.own
  cases e1
  subst e2
  refine ⟨p, vs, rfl, h3, hp, fun vs' xs' h => k.write (p := p) (fun v ps e r => ?_) ⟨p, vs', rfl, rfl, upd_same, h⟩⟩
  obtain ⟨p', _, e2, e4, _⟩ := r
  cases e
  cases e2
  exact e4
/-- xs.append(e), xs at the slot i -/
theorem s1_append {i : Nat} {x : Str} {e : Expr} {te : TE} {p1 p2 p3 pos : Pos} {α γ : Type} {m : Res α} {c : Cod γ} {a : α → γ} {xs : α → List γ} {Γo : α → Ctx} {ν : Type} {mn : Res ν} {Γ' : ν → Ctx} {ys : ν → List γ} {f : α → List γ → ν} (he : EX X T W Γx Γ e te m (fun t => fz c (a t)) Γo) (h : ∀ t, (Γo t)[i]? = some (some (ol c (xs t)))) (hΓ : ∀ t u, Γo t = Γ' (f t u)) (hy : ∀ t u, u = ys (f t u)) (h0 : ∃ xs0, Γ[i]? = some (some (ol c xs0)))
    (hN : X.N[i]? = some x) (hv : Vis X.env.scope x) (hK : X.K = K := by rfl) (hd : (x == ("__debug__" : Str)) = false := by decide) (hcd : (x == ("__classdict__" : Str)) = false := by decide)
    (hbm : PE X (.Call (.Attribute (.Name x p1) "append" p2) [e] [] p3) (tBM K "list" rAppend (tVar i) (tCons te tNil))) (hb : Bd mn (m.bind fun t => (R.push (xs t) (a t)).bind fun u => .ok (t, u)) (fun t => .ok (f t.1 t.2)) := by intros; repeat (first | ((with_reducible refine Bd.done ?_); exact rfl) | with_reducible refine Bd.okl ?_ | with_reducible refine Bd.assoc ?_ | with_reducible refine Bd.bind fun _ => ?_ | with_reducible refine Bd.eta fun _ => ?_ | with_reducible refine Bd.iteB ?_ ?_ fun _ => ?_ | with_reducible refine Bd.iteE ?_ ?_ fun _ => ?_ | with_reducible refine Bd.ite ?_ ?_ | with_reducible refine Bd.iteL ?_ ?_ | with_reducible refine Bd.assocL ?_ | with_reducible refine Bd.oklL ?_ | with_reducible exact Bd.same | with_reducible exact Bd.at | dsimp only)) (hs : swapsWith (.Call (.Attribute (.Name x p1) "append" p2) [e] [] p3) none pos.line X.env = pure false := by rfl) :
    S1 X T W Γx Γ (.Expr (.Call (.Attribute (.Name x p1) "append" p2) [e] [] p3) pos) (tDrop (tBM K "list" rAppend (tVar i) (tCons te tNil))) mn (fun v => .nx ((Γ' v).set i (some (ol c (ys v))))) := by
  subst hK
  obtain ⟨xs0, h0⟩ := h0
  refine ⟨ps_expr hbm hs, fun Z G0 S σ G H D k q => ?_⟩
  obtain ⟨v, l, hw, k1, _⟩ := k.take h0
  obtain ⟨p, vs, rfl, h3, _, _⟩ := ol_own k1
  refine ⟨.ref p, hw, .inl ⟨rfl, _, SqL.of h3⟩, ?_⟩
  refine he.ev Z G0 S σ G H _ k (Res.wp_mono (Res.wp_bind (hb _ _ q)) (fun t q y G' H' k' => ?_) fun ex q cls d G' H' k' => q cls d σ G' H' k')
  obtain ⟨us, e2, q3⟩ := wp_cases (Res.wp_bind q) (chk_ne ok_ne)
  obtain ⟨e3, e4⟩ := chk_ok e2
  cases e4
  have hr := k'.tp
  obtain ⟨v', l', hw', k2, back⟩ := k'.drop.take (h t)
  rw [hw] at hw'
  cases hw'
  obtain ⟨p', vs', e5, h6, h7, h8⟩ := ol_own k2
  cases e5
  refine ⟨p, vs', y, rfl, rfl, h6, ?_, q3 σ _ _ (by
    dsimp only
    rw [← hΓ, ← hy]
    exact back _ _ _ (h8 _ _ (Paired.snoc h7 hr)))⟩
  rw [h7.length, ← line_eq]
  exact of_decide_eq_true e3
end
end Rt
/-! Rt8: and | or, conditional values, chains, None, isinstance, slices, texts. -/
namespace Rt
open PySem L2 R
/-- and | or of tests -/
structure EW (X : Cx) (T : XT) (W : WX) (Γx Γ : Ctx) (e : Expr) (tt : TT) {α : Type} (m : Res α) (b : α → Bool) (Γo : α → Ctx) : Prop where
  pw : PW X e tt
  ev : ∀ (Z G0 : Hp) (S : List Pl) (σ : St) (G H : Hp) (Q : Bool → Hp → Prop), Okc Z G0 S Γ σ G H →
    m.wp (fun a => ∀ G' H', Okc Z G0 S (Γo a) σ G' H' → Q (b a) H') (fun ex => ∀ cls d G' H', Okc Z G0 S Γx σ G' H' → T.rel ex cls d G' → W cls d σ H') → tt σ H Q
section
variable {X : Cx} {T : XT} {W : WX} {Γx Γ : Ctx} {K : PySem.W.Frag}
theorem ew_and1 {a : Expr} {pos : Pos} {tt : TT} {α : Type} {m : Res α} {b : α → Bool} {Γo : α → Ctx} (h : ET X T W Γx Γ a tt m b Γo) : EW X T W Γx Γ (.BoolOp .And [a] pos) tt m b Γo := ⟨pw_and1 h.pt, h.ev⟩
theorem ew_or1 {a : Expr} {pos : Pos} {tt : TT} {α : Type} {m : Res α} {b : α → Bool} {Γo : α → Ctx} (h : ET X T W Γx Γ a tt m b Γo) : EW X T W Γx Γ (.BoolOp .Or [a] pos) tt m b Γo := ⟨pw_or1 h.pt, h.ev⟩
theorem et_ew {e : Expr} {tt : TT} {α : Type} {m : Res α} {b : α → Bool} {Γo : α → Ctx} (h : EW X T W Γx Γ e tt m b Γo) : ET X T W Γx Γ e tt m b Γo := ⟨PW.pt h.pw, h.ev⟩
/-- the second one stops nowhere and changes nothing -/
theorem ew_and {a c : Expr} {rest : List Expr} {pos : Pos} {t u : TT} {α β : Type} [Nonempty α] {m1 : Res α} {b1 : α → Bool} {Γ1 : α → Ctx} {m2 : α → Res β} {y : α → β} {b2 : α → β → Bool} {Γ2 : α → β → Ctx} (h1 : ET X T W Γx Γ a t m1 b1 Γ1) (h2 : ∀ x, EW X T W Γx (Γ1 x) (.BoolOp .And (c :: rest) pos) u (m2 x) (b2 x) (Γ2 x))
    (hy : ∀ x, m2 x = .ok (y x) := by exact fun _ => rfl) (hΓ : ∀ x y, Γ2 x y = Γ1 x := by exact fun _ _ => rfl) : EW X T W Γx Γ (.BoolOp .And (a :: c :: rest) pos) (tAnd t u) m1 (fun x => b1 x && b2 x (y x)) Γ1 := by
  obtain ⟨x⟩ := ‹Nonempty α›
  refine ⟨pw_and h1.pt (h2 x).pw, fun Z G0 S σ G H Q k q => h1.ev Z G0 S σ G H _ k (Res.wp_mono q (fun x q G' H' k' => ?_) fun _ z => z)⟩
  cases e : b1 x with
  | true =>
    rw [if_pos rfl]
    refine (h2 x).ev Z G0 S σ G' H' Q k' ?_
    rw [hy]
    intro G2 H2 k2
    rw [hΓ] at k2
    have z := q G2 H2 k2
    rw [e, Bool.true_and] at z
    exact z
  | false =>
    rw [if_neg Bool.false_ne_true]
    have z := q G' H' k'
    rw [e, Bool.false_and] at z
    exact z
theorem ew_or {a c : Expr} {rest : List Expr} {pos : Pos} {t u : TT} {α β : Type} [Nonempty α] {m1 : Res α} {b1 : α → Bool} {Γ1 : α → Ctx} {m2 : α → Res β} {y : α → β} {b2 : α → β → Bool} {Γ2 : α → β → Ctx} (h1 : ET X T W Γx Γ a t m1 b1 Γ1) (h2 : ∀ x, EW X T W Γx (Γ1 x) (.BoolOp .Or (c :: rest) pos) u (m2 x) (b2 x) (Γ2 x))
    (hy : ∀ x, m2 x = .ok (y x) := by exact fun _ => rfl) (hΓ : ∀ x y, Γ2 x y = Γ1 x := by exact fun _ _ => rfl) : EW X T W Γx Γ (.BoolOp .Or (a :: c :: rest) pos) (tOr t u) m1 (fun x => b1 x || b2 x (y x)) Γ1 := by
  obtain ⟨x⟩ := ‹Nonempty α›
  refine ⟨pw_or h1.pt (h2 x).pw, fun Z G0 S σ G H Q k q => h1.ev Z G0 S σ G H _ k (Res.wp_mono q (fun x q G' H' k' => ?_) fun _ z => z)⟩
  cases e : b1 x with
  | true =>
    rw [if_pos rfl]
    have z := q G' H' k'
    rw [e, Bool.true_or] at z
    exact z
  | false =>
    rw [if_neg Bool.false_ne_true]
    refine (h2 x).ev Z G0 S σ G' H' Q k' ?_
    rw [hy]
    intro G2 H2 k2
    rw [hΓ] at k2
    have z := q G2 H2 k2
    rw [e, Bool.false_or] at z
    exact z
/-- the second one may stop, or raise -/
theorem ew_andM {a c : Expr} {rest : List Expr} {pos : Pos} {t u : TT} {α β : Type} [Nonempty α] {m1 : Res α} {b1 : α → Bool} {Γ1 : α → Ctx} {m2 : α → Res β} {b2 : α → β → Bool} {Γ2 : α → β → Ctx} (h1 : ET X T W Γx Γ a t m1 b1 Γ1) (h2 : ∀ x, EW X T W Γx (Γ1 x) (.BoolOp .And (c :: rest) pos) u (m2 x) (b2 x) (Γ2 x))
    (hΓ1 : ∀ x, Γ1 x = Γ := by exact fun _ => rfl) (hΓ : ∀ x y, Γ2 x y = Γ := by exact fun _ _ => rfl) : EW X T W Γx Γ (.BoolOp .And (a :: c :: rest) pos) (tAnd t u) (m1.bind fun x => if b1 x then (m2 x).bind fun y => .ok (b2 x y) else .ok false) id (fun _ => Γ) := by
  obtain ⟨x⟩ := ‹Nonempty α›
  refine ⟨pw_and h1.pt (h2 x).pw, fun Z G0 S σ G H Q k q => h1.ev Z G0 S σ G H _ k (Res.wp_mono (Res.wp_bind q) (fun x q G' H' k' => ?_) fun _ z => z)⟩
  cases e : b1 x with
  | true =>
    rw [if_pos rfl]
    simp only [e, if_true] at q
    refine (h2 x).ev Z G0 S σ G' H' Q k' (Res.wp_mono (Res.wp_bind q) (fun y q G2 H2 k2 => ?_) fun _ z => z)
    rw [hΓ] at k2
    exact q G2 H2 k2
  | false =>
    rw [if_neg Bool.false_ne_true]
    simp only [e, Bool.false_eq_true, if_false] at q
    rw [hΓ1] at k'
    exact q G' H' k'
theorem ew_orM {a c : Expr} {rest : List Expr} {pos : Pos} {t u : TT} {α β : Type} [Nonempty α] {m1 : Res α} {b1 : α → Bool} {Γ1 : α → Ctx} {m2 : α → Res β} {b2 : α → β → Bool} {Γ2 : α → β → Ctx} (h1 : ET X T W Γx Γ a t m1 b1 Γ1) (h2 : ∀ x, EW X T W Γx (Γ1 x) (.BoolOp .Or (c :: rest) pos) u (m2 x) (b2 x) (Γ2 x))
    (hΓ1 : ∀ x, Γ1 x = Γ := by exact fun _ => rfl) (hΓ : ∀ x y, Γ2 x y = Γ := by exact fun _ _ => rfl) : EW X T W Γx Γ (.BoolOp .Or (a :: c :: rest) pos) (tOr t u) (m1.bind fun x => if b1 x then .ok true else (m2 x).bind fun y => .ok (b2 x y)) id (fun _ => Γ) := by
  obtain ⟨x⟩ := ‹Nonempty α›
  refine ⟨pw_or h1.pt (h2 x).pw, fun Z G0 S σ G H Q k q => h1.ev Z G0 S σ G H _ k (Res.wp_mono (Res.wp_bind q) (fun x q G' H' k' => ?_) fun _ z => z)⟩
  cases e : b1 x with
  | true =>
    rw [if_pos rfl]
    simp only [e, if_true] at q
    rw [hΓ1] at k'
    exact q G' H' k'
  | false =>
    rw [if_neg Bool.false_ne_true]
    simp only [e, Bool.false_eq_true, if_false] at q
    refine (h2 x).ev Z G0 S σ G' H' Q k' (Res.wp_mono (Res.wp_bind q) (fun y q G2 H2 k2 => ?_) fun _ z => z)
    rw [hΓ] at k2
    exact q G2 H2 k2
/-! as values -/
theorem ex_one {op : BoolOp} {a : Expr} {pos : Pos} {te : TE} {α : Type} {m : Res α} {R : α → Sl} {Γo : α → Ctx} (h : EX X T W Γx Γ a te m R Γo) : EX X T W Γx Γ (.BoolOp op [a] pos) te m R Γo := ⟨pe_one h.pe, h.ev⟩
theorem ex_not {e : Expr} {te : TE} {α : Type} {m : Res α} {b : α → Bool} {Γo : α → Ctx} {pos : Pos} (h : EX X T W Γx Γ e te m (fun a => sB (b a)) Γo) : EX X T W Γx Γ (.UnaryOp .Not e pos) (tNotV te) m (fun a => sB (!b a)) Γo :=
  ⟨pe_not h.pe, fun Z G0 S σ G H Q k q => h.ev Z G0 S σ G H _ k (Res.wp_mono q (fun a q v G' H' k' => ⟨b a, k'.tp, q _ G' H' (k'.drop.pushf (c := cBool) rfl)⟩) fun _ z => z)⟩
theorem ex_and {a c : Expr} {rest : List Expr} {pos : Pos} {t u : TE} {α β : Type} [Nonempty α] {m1 : Res α} {b1 : α → Bool} {Γ1 : α → Ctx} {m2 : α → Res β} {y : α → β} {b2 : α → β → Bool} {Γ2 : α → β → Ctx} (h1 : EX X T W Γx Γ a t m1 (fun x => sB (b1 x)) Γ1) (h2 : ∀ x, EX X T W Γx (Γ1 x) (.BoolOp .And (c :: rest) pos) u (m2 x) (fun y => sB (b2 x y)) (Γ2 x))
    (hy : ∀ x, m2 x = .ok (y x) := by exact fun _ => rfl) (hΓ : ∀ x y, Γ2 x y = Γ1 x := by exact fun _ _ => rfl) : EX X T W Γx Γ (.BoolOp .And (a :: c :: rest) pos) (tAndV t u) m1 (fun x => sB (b1 x && b2 x (y x))) Γ1 := by
  obtain ⟨x⟩ := ‹Nonempty α›
  refine ⟨pe_and h1.pe (h2 x).pe, fun Z G0 S σ G H Q k q => h1.ev Z G0 S σ G H _ k (Res.wp_mono q (fun x q v G' H' k' => ⟨b1 x, k'.tp, ?_⟩) fun _ z => z)⟩
  have k' := k'.drop
  cases e : b1 x with
  | true =>
    rw [if_pos rfl]
    refine (h2 x).ev Z G0 S σ G' H' Q k' ?_
    rw [hy]
    intro w G2 H2 k2
    rw [hΓ] at k2
    refine q w G2 H2 ?_
    rw [e, Bool.true_and]
    exact k2
  | false =>
    rw [if_neg Bool.false_ne_true]
    refine q _ G' H' (k'.pushf ?_)
    rw [e, Bool.false_and]
    rfl
theorem ex_or {a c : Expr} {rest : List Expr} {pos : Pos} {t u : TE} {α β : Type} [Nonempty α] {m1 : Res α} {b1 : α → Bool} {Γ1 : α → Ctx} {m2 : α → Res β} {y : α → β} {b2 : α → β → Bool} {Γ2 : α → β → Ctx} (h1 : EX X T W Γx Γ a t m1 (fun x => sB (b1 x)) Γ1) (h2 : ∀ x, EX X T W Γx (Γ1 x) (.BoolOp .Or (c :: rest) pos) u (m2 x) (fun y => sB (b2 x y)) (Γ2 x))
    (hy : ∀ x, m2 x = .ok (y x) := by exact fun _ => rfl) (hΓ : ∀ x y, Γ2 x y = Γ1 x := by exact fun _ _ => rfl) : EX X T W Γx Γ (.BoolOp .Or (a :: c :: rest) pos) (tOrV t u) m1 (fun x => sB (b1 x || b2 x (y x))) Γ1 := by
  obtain ⟨x⟩ := ‹Nonempty α›
  refine ⟨pe_or h1.pe (h2 x).pe, fun Z G0 S σ G H Q k q => h1.ev Z G0 S σ G H _ k (Res.wp_mono q (fun x q v G' H' k' => ⟨b1 x, k'.tp, ?_⟩) fun _ z => z)⟩
  have k' := k'.drop
  cases e : b1 x with
  | true =>
    rw [if_pos rfl]
    refine q _ G' H' (k'.pushf ?_)
    rw [e, Bool.true_or]
    rfl
  | false =>
    rw [if_neg Bool.false_ne_true]
    refine (h2 x).ev Z G0 S σ G' H' Q k' ?_
    rw [hy]
    intro w G2 H2 k2
    rw [hΓ] at k2
    refine q w G2 H2 ?_
    rw [e, Bool.false_or]
    exact k2
theorem ex_andM {a c : Expr} {rest : List Expr} {pos : Pos} {t u : TE} {α β : Type} [Nonempty α] {m1 : Res α} {b1 : α → Bool} {Γ1 : α → Ctx} {m2 : α → Res β} {b2 : α → β → Bool} {Γ2 : α → β → Ctx} (h1 : EX X T W Γx Γ a t m1 (fun x => sB (b1 x)) Γ1) (h2 : ∀ x, EX X T W Γx (Γ1 x) (.BoolOp .And (c :: rest) pos) u (m2 x) (fun y => sB (b2 x y)) (Γ2 x))
    (hΓ1 : ∀ x, Γ1 x = Γ := by exact fun _ => rfl) (hΓ : ∀ x y, Γ2 x y = Γ := by exact fun _ _ => rfl) : EX X T W Γx Γ (.BoolOp .And (a :: c :: rest) pos) (tAndV t u) (m1.bind fun x => if b1 x then (m2 x).bind fun y => .ok (b2 x y) else .ok false) sB (fun _ => Γ) := by
  obtain ⟨x⟩ := ‹Nonempty α›
  refine ⟨pe_and h1.pe (h2 x).pe, fun Z G0 S σ G H Q k q => h1.ev Z G0 S σ G H _ k (Res.wp_mono (Res.wp_bind q) (fun x q v G' H' k' => ⟨b1 x, k'.tp, ?_⟩) fun _ z => z)⟩
  have k' := k'.drop
  cases e : b1 x with
  | true =>
    rw [if_pos rfl]
    simp only [e, if_true] at q
    refine (h2 x).ev Z G0 S σ G' H' Q k' (Res.wp_mono (Res.wp_bind q) (fun y q w G2 H2 k2 => ?_) fun _ z => z)
    rw [hΓ] at k2
    exact q w G2 H2 k2
  | false =>
    rw [if_neg Bool.false_ne_true]
    simp only [e, Bool.false_eq_true, if_false] at q
    rw [hΓ1] at k'
    exact q _ G' H' (k'.pushf (c := cBool) rfl)
theorem ex_orM {a c : Expr} {rest : List Expr} {pos : Pos} {t u : TE} {α β : Type} [Nonempty α] {m1 : Res α} {b1 : α → Bool} {Γ1 : α → Ctx} {m2 : α → Res β} {b2 : α → β → Bool} {Γ2 : α → β → Ctx} (h1 : EX X T W Γx Γ a t m1 (fun x => sB (b1 x)) Γ1) (h2 : ∀ x, EX X T W Γx (Γ1 x) (.BoolOp .Or (c :: rest) pos) u (m2 x) (fun y => sB (b2 x y)) (Γ2 x))
    (hΓ1 : ∀ x, Γ1 x = Γ := by exact fun _ => rfl) (hΓ : ∀ x y, Γ2 x y = Γ := by exact fun _ _ => rfl) : EX X T W Γx Γ (.BoolOp .Or (a :: c :: rest) pos) (tOrV t u) (m1.bind fun x => if b1 x then .ok true else (m2 x).bind fun y => .ok (b2 x y)) sB (fun _ => Γ) := by
  obtain ⟨x⟩ := ‹Nonempty α›
  refine ⟨pe_or h1.pe (h2 x).pe, fun Z G0 S σ G H Q k q => h1.ev Z G0 S σ G H _ k (Res.wp_mono (Res.wp_bind q) (fun x q v G' H' k' => ⟨b1 x, k'.tp, ?_⟩) fun _ z => z)⟩
  have k' := k'.drop
  cases e : b1 x with
  | true =>
    rw [if_pos rfl]
    simp only [e, if_true] at q
    rw [hΓ1] at k'
    exact q _ G' H' (k'.pushf (c := cBool) rfl)
  | false =>
    rw [if_neg Bool.false_ne_true]
    simp only [e, Bool.false_eq_true, if_false] at q
    refine (h2 x).ev Z G0 S σ G' H' Q k' (Res.wp_mono (Res.wp_bind q) (fun y q w G2 H2 k2 => ?_) fun _ z => z)
    rw [hΓ] at k2
    exact q w G2 H2 k2
/-- a if t else b: both stop nowhere and change nothing -/
theorem ex_if {c a b : Expr} {pos : Pos} {tc : TT} {ta tb : TE} {α β γ δ : Type} [Nonempty α] {mc : Res α} {bb : α → Bool} {Γ1 : α → Ctx} {m1 : α → Res β} {m2 : α → Res γ} {y1 : α → β} {y2 : α → γ} {r : δ → Sl} {v1 : α → β → δ} {v2 : α → γ → δ} {Γ2 : α → β → Ctx} {Γ3 : α → γ → Ctx}
    (hc : ET X T W Γx Γ c tc mc bb Γ1) (h1 : ∀ x, EX X T W Γx (Γ1 x) a ta (m1 x) (fun y => r (v1 x y)) (Γ2 x)) (h2 : ∀ x, EX X T W Γx (Γ1 x) b tb (m2 x) (fun y => r (v2 x y)) (Γ3 x))
    (hy1 : ∀ x, m1 x = .ok (y1 x) := by exact fun _ => rfl) (hy2 : ∀ x, m2 x = .ok (y2 x) := by exact fun _ => rfl) (hΓ2 : ∀ x y, Γ2 x y = Γ1 x := by exact fun _ _ => rfl) (hΓ3 : ∀ x y, Γ3 x y = Γ1 x := by exact fun _ _ => rfl) :
    EX X T W Γx Γ (.IfExp c a b pos) (tIf tc ta tb) mc (fun x => r (if bb x then v1 x (y1 x) else v2 x (y2 x))) Γ1 := by
  obtain ⟨x⟩ := ‹Nonempty α›
  refine ⟨pe_ifExp hc.pt (h1 x).pe (h2 x).pe, fun Z G0 S σ G H Q k q => hc.ev Z G0 S σ G H _ k (Res.wp_mono q (fun x q G' H' k' => ?_) fun _ z => z)⟩
  cases e : bb x with
  | true =>
    rw [if_pos rfl]
    refine (h1 x).ev Z G0 S σ G' H' Q k' ?_
    rw [hy1]
    intro w G2 H2 k2
    rw [hΓ2] at k2
    refine q w G2 H2 ?_
    rw [e, if_pos rfl]
    exact k2
  | false =>
    rw [if_neg Bool.false_ne_true]
    refine (h2 x).ev Z G0 S σ G' H' Q k' ?_
    rw [hy2]
    intro w G2 H2 k2
    rw [hΓ3] at k2
    refine q w G2 H2 ?_
    rw [e, if_neg Bool.false_ne_true]
    exact k2
theorem ex_ifM {c a b : Expr} {pos : Pos} {tc : TT} {ta tb : TE} {α β γ δ : Type} [Nonempty α] {mc : Res α} {bb : α → Bool} {Γ1 : α → Ctx} {m1 : α → Res β} {m2 : α → Res γ} {r : δ → Sl} {v1 : α → β → δ} {v2 : α → γ → δ} {Γ2 : α → β → Ctx} {Γ3 : α → γ → Ctx}
    (hc : ET X T W Γx Γ c tc mc bb Γ1) (h1 : ∀ x, EX X T W Γx (Γ1 x) a ta (m1 x) (fun y => r (v1 x y)) (Γ2 x)) (h2 : ∀ x, EX X T W Γx (Γ1 x) b tb (m2 x) (fun y => r (v2 x y)) (Γ3 x))
    (hΓ2 : ∀ x y, Γ2 x y = Γ := by exact fun _ _ => rfl) (hΓ3 : ∀ x y, Γ3 x y = Γ := by exact fun _ _ => rfl) :
    EX X T W Γx Γ (.IfExp c a b pos) (tIf tc ta tb) (mc.bind fun x => if bb x then (m1 x).bind fun y => .ok (v1 x y) else (m2 x).bind fun y => .ok (v2 x y)) r (fun _ => Γ) := by
  obtain ⟨x⟩ := ‹Nonempty α›
  refine ⟨pe_ifExp hc.pt (h1 x).pe (h2 x).pe, fun Z G0 S σ G H Q k q => hc.ev Z G0 S σ G H _ k (Res.wp_mono (Res.wp_bind q) (fun x q G' H' k' => ?_) fun _ z => z)⟩
  cases e : bb x with
  | true =>
    rw [if_pos rfl]
    simp only [e, if_true] at q
    refine (h1 x).ev Z G0 S σ G' H' Q k' (Res.wp_mono (Res.wp_bind q) (fun y q w G2 H2 k2 => ?_) fun _ z => z)
    rw [hΓ2] at k2
    exact q w G2 H2 k2
  | false =>
    rw [if_neg Bool.false_ne_true]
    simp only [e, Bool.false_eq_true, if_false] at q
    refine (h2 x).ev Z G0 S σ G' H' Q k' (Res.wp_mono (Res.wp_bind q) (fun y q w G2 H2 k2 => ?_) fun _ z => z)
    rw [hΓ3] at k2
    exact q w G2 H2 k2
/-- a op b op' c of whole numbers, none of which stops -/
theorem et_chain {op op' : CmpOp} {p p' : Int → Int → Bool} {a b c : Expr} {pos : Pos} {ta tb tc : TE} {α β γ : Type} [Nonempty α] [Nonempty β] {m1 : Res α} {m2 : α → Res β} {m3 : α → β → Res γ} {y : α → β → γ} {i : α → Int} {j : α → β → Int} {z : α → β → γ → Int} {Γ1 : α → Ctx} {Γ2 : α → β → Ctx} {Γ3 : α → β → γ → Ctx}
    (ho : OpR X (compareOp op) (rI0 fun i j => .bl (p i j))) (ho' : OpR X (compareOp op') (rI0 fun i j => .bl (p' i j)))
    (ha : EX X T W Γx Γ a ta m1 (fun x => sI (i x)) Γ1) (hb : ∀ x, EX X T W Γx (Γ1 x) b tb (m2 x) (fun y => sI (j x y)) (Γ2 x)) (hc : ∀ x w, EX X T W Γx (Γ2 x w) c tc (m3 x w) (fun u => sI (z x w u)) (Γ3 x w))
    (hy : ∀ x w, m3 x w = .ok (y x w) := by exact fun _ _ => rfl) (hΓ : ∀ x w u, Γ3 x w u = Γ2 x w := by exact fun _ _ _ => rfl) (hm : lastMarks [op, op'] [b, c] = false := by with_unfolding_all rfl) :
    ET X T W Γx Γ (.Compare a [op, op'] [b, c] pos) (tTest (tChain (rI0 fun i j => .bl (p i j)) (rI0 fun i j => .bl (p' i j)) ta tb tc)) (m1.bind fun x => (m2 x).bind fun w => .ok (x, w)) (fun t => p (i t.1) (j t.1 t.2) && p' (j t.1 t.2) (z t.1 t.2 (y t.1 t.2))) (fun t => Γ2 t.1 t.2) := by
  obtain ⟨x⟩ := ‹Nonempty α›
  obtain ⟨w⟩ := ‹Nonempty β›
  refine ⟨pt_chain ho ho' ha.pe (hb x).pe (hc x w).pe hm, fun Z G0 S σ G H Q k q => ha.ev Z G0 S σ G H _ k (Res.wp_mono (Res.wp_bind q) (fun x q v1 G1 H1 k1 => ?_) fun _ z => z)⟩
  refine (hb x).ev Z G0 _ σ G1 H1 _ k1 (Res.wp_mono (Res.wp_bind q) (fun w q v2 G2 H2 k2 => ?_) fun ex q cls d G' H' k' => q cls d G' H' k'.drop)
  refine ⟨_, _, k2.drop.tp, k2.tp, _, rfl, ?_⟩
  cases e : p (i x) (j x w) with
  | true =>
    rw [if_pos rfl]
    refine (hc x w).ev Z G0 _ σ G2 H2 _ k2 ?_
    rw [hy]
    intro v3 G3 H3 k3
    rw [hΓ] at k3
    refine ⟨_, _, k3.drop.tp, k3.tp, _, rfl, ?_⟩
    have q' := q G3 H3 k3.drop.drop.drop
    rw [e, Bool.true_and] at q'
    exact q'
  | false =>
    rw [if_neg Bool.false_ne_true]
    have q' := q G2 H2 k2.drop.drop
    rw [e, Bool.false_and] at q'
    exact ⟨_, rfl, q'⟩

/-! ### None -/
theorem o_isN {α : Type} {c : Cod α} {o : Option α} : OpOk (fun x y H Q => y = .non ∧ Q (.bl (decide (x = .non))) H) (fz (cOpt c) o) sN (.ok ()) (fun _ => sB o.isNone) :=
  ⟨fun Z G0 l G H v1 v2 Q k _ _ q => by
    obtain ⟨h1, h2⟩ := k.rels
    refine ⟨h2, q _ _ _ (k.drop.drop.push ?_)⟩
    cases o with
    | none => rw [show v1 = .non from h1]; rfl
    | some a => exact congrArg V.bl (decide_eq_false h1.2), ok_ne⟩
theorem o_notN {α : Type} {c : Cod α} {o : Option α} : OpOk (fun x y H Q => y = .non ∧ Q (.bl (!decide (x = .non))) H) (fz (cOpt c) o) sN (.ok ()) (fun _ => sB o.isSome) :=
  ⟨fun Z G0 l G H v1 v2 Q k _ _ q => by
    obtain ⟨h1, h2⟩ := k.rels
    refine ⟨h2, q _ _ _ (k.drop.drop.push ?_)⟩
    cases o with
    | none => rw [show v1 = .non from h1]; rfl
    | some a => exact congrArg V.bl (by rw [decide_eq_false h1.2]; rfl), ok_ne⟩

/-! ### isinstance -/
def cTy : Cod String := ⟨fun _ v n => v = .ty n, fun h _ => h⟩
theorem ex_ty {n : String} {x : Str} {pos : Pos} (hm : X.mg x = none) (hv : bootBuiltins x = some (.type n)) (hg : Gl X x := by rfl) (hn : x ≠ "__name__" := by decide) (hd : (x == ("__debug__" : Str)) = false := by decide) : EX X T W Γx Γ (.Name x pos) (tC (.ty n)) (.ok ()) (fun _ => fz cTy n) (fun _ => Γ) :=
  ex_c (pe_bltn hg hm hv rfl hn hd) fun _ => rfl
/-- the answer of isinstance(v, n) -/
def IsOf (K : PySem.W.Frag) {α : Type} (c : Cod α) (n : String) (b : α → Bool) : Prop := ∀ G H v a, Ex G H → c.rel G v a → ∃ t, TyX K H v t ∧ PySem.W.kitOne K t (.type n) = some (b a)
theorem isOf_int {n : String} {b : Bool} (h : kitB "int" n = some b) : IsOf K cInt n (fun _ => b) := fun G H v a e r => by
  cases (show v = .int a from r)
  exact ⟨_, .base (.int a), kit_ty h⟩
theorem isOf_bool {n : String} {b : Bool} (h : kitB "bool" n = some b) : IsOf K cBool n (fun _ => b) := fun G H v a e r => by
  cases (show v = .bl a from r)
  exact ⟨_, .base (.bl a), kit_ty h⟩
theorem isOf_tx {n : String} {b : Bool} (h : kitB "str" n = some b) : IsOf K cTx n (fun _ => b) := fun G H v a e r => by
  cases (show v = sv a from r.1)
  exact ⟨_, .base (.str _), kit_ty h⟩
theorem isOf_list {α : Type} {c : Cod α} {n : String} {b : Bool} (h : kitB "list" n = some b) : IsOf K (cList c) n (fun _ => b) := fun G H v a e r => by
  obtain ⟨p, vs, rfl, hs, _⟩ := r
  exact ⟨_, .base (.lst (e p _ hs)), kit_ty h⟩
theorem isOf_tup {α : Type} {d : Cods α} {n : String} {b : Bool} (h : kitB "tuple" n = some b) : IsOf K (cTup K d) n (fun _ => b) := fun G H v a e r => by
  obtain ⟨p, vs, rfl, hs, _⟩ := r
  rcases ct_sq (K := K) e hs with (h1 | ⟨o, h1⟩) | ⟨o, its, m, h1, h2, _⟩
  · exact ⟨_, .base (.tup h1), kit_ty h⟩
  · exact ⟨_, .fTuple h1, kit_ty h⟩
  · exact ⟨_, .kTuple h1 h2, kit_ty h⟩
theorem isOf_opt {α : Type} {c : Cod α} {n : String} {b0 : Bool} {b : α → Bool} (h0 : kitB "NoneType" n = some b0) (h : IsOf K c n b) : IsOf K (cOpt c) n (fun o => match o with | none => b0 | some a => b a) := fun G H v o e r => by
  cases o with
  | none =>
    cases (show v = .non from r)
    exact ⟨_, .base .non, kit_ty h0⟩
  | some a => exact h G H v a e r.1
theorem b_isi {α : Type} {c : Cod α} {n : String} {a : α} {b : α → Bool} (h : IsOf K c n b) : CallOk (rIsi K) [fz c a, fz cTy n] (.ok ()) (fun _ => sB (b a)) := co2 (f := fun _ => b a) ok_ne fun G H v w Q e r r' z _ q => by
  obtain ⟨t, h1, h2⟩ := h G H v a e r
  cases (show w = .ty n from r')
  exact ⟨v, .ty n, t, .type n, b a, rfl, .ty n, h1, h2, q _ rfl⟩

/-! ### slices -/
structure EO (X : Cx) (T : XT) (W : WX) (Γx Γ : Ctx) (e : Option Expr) (to : TO) {α : Type} (m : Res α) (o : α → Option Int) (Γo : α → Ctx) : Prop where
  po : PO X e to
  ev : ∀ (Z G0 : Hp) (S : List Pl) (σ : St) (G H : Hp) (Q : Option Int → Hp → Prop), Okc Z G0 S Γ σ G H →
    m.wp (fun a => ∀ G' H', Okc Z G0 S (Γo a) σ G' H' → Q (o a) H') (fun ex => ∀ cls d G' H', Okc Z G0 S Γx σ G' H' → T.rel ex cls d G' → W cls d σ H') → to σ H Q
theorem eo_none : EO X T W Γx Γ none tNoPart (.ok ()) (fun _ => none) (fun _ => Γ) := ⟨po_none, fun _ _ _ _ G H _ k q => q G H k⟩
theorem eo_some {e : Expr} {te : TE} {α : Type} {m : Res α} {i : α → Int} {Γo : α → Ctx} (h : EX X T W Γx Γ e te m (fun a => sI (i a)) Γo) : EO X T W Γx Γ (some e) (tPart te) m (fun a => some (i a)) Γo :=
  ⟨po_some h.pe, fun Z G0 S σ G H Q k q => h.ev Z G0 S σ G H _ k (Res.wp_mono q (fun a q v G' H' k' => ⟨i a, k'.tp, q G' H' k'.drop⟩) fun _ z => z)⟩
/-- what a slice of a value is -/
def SlOk (r : V → Option Int → Option Int → Hp → VK → Prop) (s : Sl) (lo hi : Option Int) (R : Sl) : Prop := ∀ (Z G0 : Hp) (l : List Pl) (G H : Hp) (v : V) (Q : VK), Okl Z G0 ((some s, some v) :: l) G H → (∀ v G' H', Okl Z G0 ((some R, some v) :: l) G' H' → Q v H') → r v lo hi H Q
theorem ex_slice {r : V → Option Int → Option Int → Hp → VK → Prop} {e : Expr} {lo hi : Option Expr} {te : TE} {tl th : TO} {pos p2 : Pos} {α β γ : Type} [Nonempty α] [Nonempty β] {m1 : Res α} {R1 : α → Sl} {Γ1 : α → Ctx} {m2 : α → Res β} {o2 : α → β → Option Int} {Γ2 : α → β → Ctx} {m3 : α → β → Res γ} {o3 : α → β → γ → Option Int} {Γ3 : α → β → γ → Ctx} {R3 : α → β → γ → Sl}
    (hr : SlR X r) (he : EX X T W Γx Γ e te m1 R1 Γ1) (hl : ∀ x, EO X T W Γx (Γ1 x) lo tl (m2 x) (o2 x) (Γ2 x)) (hh : ∀ x y, EO X T W Γx (Γ2 x y) hi th (m3 x y) (o3 x y) (Γ3 x y)) (hs : ∀ x y z, SlOk r (R1 x) (o2 x y) (o3 x y z) (R3 x y z)) :
    EX X T W Γx Γ (.Subscript e (.Slice lo hi none p2) pos) (tSl r te tl th) (m1.bind fun x => (m2 x).bind fun y => (m3 x y).bind fun z => .ok (x, y, z)) (fun t => R3 t.1 t.2.1 t.2.2) (fun t => Γ3 t.1 t.2.1 t.2.2) := by
  obtain ⟨x⟩ := ‹Nonempty α›
  obtain ⟨y⟩ := ‹Nonempty β›
  refine ⟨pe_slice hr he.pe (hl x).po (hh x y).po, fun Z G0 S σ G H Q k q => he.ev Z G0 S σ G H _ k (Res.wp_mono (Res.wp_bind q) (fun x q v1 G1 H1 k1 => ?_) fun _ z => z)⟩
  refine (hl x).ev Z G0 _ σ G1 H1 _ k1 (Res.wp_mono (Res.wp_bind q) (fun y q G2 H2 k2 => ?_) fun ex q cls d G' H' k' => q cls d G' H' k'.drop)
  refine (hh x y).ev Z G0 _ σ G2 H2 _ k2 (Res.wp_mono (Res.wp_bind q) (fun z q G3 H3 k3 => ?_) fun ex q cls d G' H' k' => q cls d G' H' k'.drop)
  exact hs x y z Z G0 _ G3 H3 v1 Q k3.ok fun v G' H' k' => q v G' H' ⟨k3.len, k'⟩
theorem paired_drop {α : Type} {F : V → α → Prop} : ∀ {vs : List V} {xs : List α} (n : Nat), Paired F vs xs → Paired F (vs.drop n) (xs.drop n)
  | _, _, 0, r => r
  | _, _, _ + 1, .nil => .nil
  | _, _, n + 1, .cons _ t => paired_drop n t
theorem paired_take {α : Type} {F : V → α → Prop} : ∀ {vs : List V} {xs : List α} (n : Nat), Paired F vs xs → Paired F (vs.take n) (xs.take n)
  | _, _, 0, _ => .nil
  | _, _, _ + 1, .nil => .nil
  | _, _, n + 1, .cons r t => .cons r (paired_take n t)
theorem sIx_eq (n d : Nat) (o : Option Int) : HT.sIx n d o = R.sIx n d o := by cases o <;> rfl
theorem cut_eq {α : Type} {F : V → α → Prop} {vs : List V} {xs : List α} (h : Paired F vs xs) (lo hi : Option Int) : Paired F (cutV vs lo hi) (R.cut xs lo hi) := by
  unfold cutV R.cut
  rw [h.length, sIx_eq, sIx_eq]
  exact paired_take _ (paired_drop _ h)
theorem sl_l {α : Type} {c : Cod α} {xs : List α} {lo hi : Option Int} : SlOk (rSlL K) (fz (cList c) xs) lo hi (ol c (R.cut xs lo hi)) := fun Z G0 l G H v Q k q => by
  obtain ⟨p, vs, rfl, hs, hp⟩ := k.rel1
  exact ⟨p, vs, rfl, cl_sq k.gh hs, fun a ha => q _ _ _ (k.drop.layOwn (s := ol c (R.cut xs lo hi)) ha ⟨a, _, rfl, rfl, upd_same, cut_eq hp lo hi⟩)⟩
theorem cut_len {α : Type} (xs : List α) (lo hi : Option Int) : (R.cut xs lo hi).length ≤ xs.length := by
  unfold R.cut
  rw [List.length_take, List.length_drop]
  omega
theorem sl_s {t : Tx} {lo hi : Option Int} : SlOk rSlS (sT t) lo hi (sT (R.cut t lo hi)) := fun Z G0 l G H v Q k q => by
  obtain ⟨rfl, hl⟩ := k.rel1
  refine ⟨_, rfl, by rw [sv_len, ← line_eq]; exact hl, q _ _ _ (k.drop.push ⟨?_, Nat.le_trans (cut_len t lo hi) hl⟩)⟩
  show V.str (cutS ⟨t.toArray⟩ lo hi) = V.str ⟨(R.cut t lo hi).toArray⟩
  unfold cutS R.cut
  rw [sv_len, sIx_eq, sIx_eq]

/-! ### texts and lists that are put together -/
theorem o_addS {a b : Tx} : OpOk (fun x y H Q => ∃ i j, x = .str i ∧ y = .str j ∧ i.length + j.length ≤ sizeLine ∧ Q (.str (i ++ j)) H) (sT a) (sT b) (R.cat a b) (fun t => sT t) :=
  ⟨fun Z G0 l G H v1 v2 Q k t e q => by
    obtain ⟨⟨rfl, h1⟩, rfl, h2⟩ := k.rels
    obtain ⟨h3, h4⟩ := chk_ok e
    cases h4
    have h3 := of_decide_eq_true h3
    refine ⟨_, _, rfl, rfl, by rw [sv_len, sv_len, ← line_eq]; exact h3, q _ _ _ (k.drop.drop.push ⟨?_, ?_⟩)⟩
    · show V.str _ = V.str _
      congr 1
      show Str.append _ _ = _
      unfold Str.append
      simp
    · rw [List.length_append]
      exact h3, chk_ne ok_ne⟩
/-- where a list stands -/
structure IsL (s : Sl) {α : Type} (c : Cod α) (xs : List α) : Prop where
  at_ : ∀ Z G0 l G H v, Okl Z G0 ((some s, some v) :: l) G H → ∃ p vs, v = .ref p ∧ H p = some (.lst vs) ∧ Paired (c.rel G) vs xs
theorem isL_o {α : Type} {c : Cod α} {xs : List α} : IsL (ol c xs) c xs := ⟨fun Z G0 l G H v k => by
  obtain ⟨p, vs, e, h1, h2, _⟩ := ol_own k
  exact ⟨p, vs, e, h1, h2⟩⟩
theorem isL_f {α : Type} {c : Cod α} {xs : List α} : IsL (fz (cList c) xs) c xs := ⟨fun Z G0 l G H v k => by
  obtain ⟨p, vs, e, h1, h2⟩ := k.rel1
  exact ⟨p, vs, e, k.gh p _ h1, h2⟩⟩
theorem paired_app {α : Type} {F : V → α → Prop} {vs vs' : List V} {xs xs' : List α} (h : Paired F vs xs) (h' : Paired F vs' xs') : Paired F (vs ++ vs') (xs ++ xs') := by
  induction h with
  | nil => exact h'
  | cons r _ ih => exact .cons r ih
/-- xs * k -/
theorem o_rep {α : Type} {c : Cod α} {xs : List α} {k : Int} {s1 : Sl} (i1 : IsL s1 c xs) : OpOk rRep s1 (sI k) (R.rep xs k) (fun zs => ol c zs) :=
  ⟨fun Z G0 l G H v1 v2 Q kk zs e q => by
    obtain ⟨h3, h4⟩ := chk_ok e
    cases h4
    simp only [Bool.and_eq_true, decide_eq_true_eq] at h3
    obtain ⟨b1, b2, b3⟩ := h3
    obtain ⟨p1, vs1, rfl, e1, hp1⟩ := i1.at_ _ _ _ _ _ _ kk.drop
    have hk : v2 = .int k := kk.rel1
    subst hk
    refine ⟨p1, k, vs1, rfl, rfl, e1, b1, b2, by rw [hp1.length, ← line_eq]; exact b3, fun p hp => q (.ref p) G _ ?_⟩
    refine kk.drop.drop.layOwn (s := ol c (List.replicate k.toNat xs).flatten) hp ⟨p, _, rfl, rfl, upd_same, ?_⟩
    generalize k.toNat = n
    induction n with
    | zero => exact .nil
    | succ n ih =>
      rw [List.replicate_succ, List.flatten_cons, List.replicate_succ, List.flatten_cons]
      exact paired_app hp1 ih, chk_ne ok_ne⟩
/-- xs + ys -/
theorem o_cat {α : Type} {c : Cod α} {xs ys : List α} {s1 s2 : Sl} (i1 : IsL s1 c xs) (i2 : IsL s2 c ys) : OpOk rCat s1 s2 (R.cat xs ys) (fun zs => ol c zs) :=
  ⟨fun Z G0 l G H v1 v2 Q k zs e q => by
    obtain ⟨h3, h4⟩ := chk_ok e
    cases h4
    have h3 := of_decide_eq_true h3
    obtain ⟨p2, vs2, rfl, e2, hp2⟩ := i2.at_ _ _ _ _ _ _ k
    obtain ⟨p1, vs1, rfl, e1, hp1⟩ := i1.at_ _ _ _ _ _ _ k.drop
    refine ⟨p1, p2, vs1, vs2, rfl, rfl, e1, e2, by rw [hp1.length, hp2.length, ← line_eq]; exact h3, fun p hp => q (.ref p) G _ ?_⟩
    exact k.drop.drop.layOwn (s := ol c (xs ++ ys)) hp ⟨p, _, rfl, rfl, upd_same, paired_app hp1 hp2⟩, chk_ne ok_ne⟩
end
end Rt
/-! Rt9: defs as they are known, what is moved, the law's end. -/
namespace Rt
open PySem L2 R
/-- a def that is known: its name, its promise -/
def Kn (P : Program) (w : World) (K : PySem.W.Frag) (mg : Str → Option Value) (base : Heap) (k : Nat) (x : Str) (ps : List Str) (sp : Sp) : Prop :=
  ∃ (f : Addr) (fd : FuncData), mg x = some (.ref f) ∧ PySem.W.keepIn K (.ref f) = true ∧ Binds K fd ps [] ∧ FnOk P w K mg base (L2.CX P w) k f fd ps sp
/-- a def as the top has left it -/
def Dn (K : PySem.W.Frag) (mg : Str → Option Value) (x qual : Str) (st : Stmt) (ps : List Str) : Prop := ∃ (f : Addr) (fd : FuncData), mg x = some (.ref f) ∧ Fun K x qual st f fd ∧ Binds K fd ps []
section
variable {P : Program} {w : World} {K : PySem.W.Frag} {mg : Str → Option Value} {base : Heap}
theorem kn_of {x qual : Str} {st : Stmt} {ps : List Str} {k : Nat} {sp : Sp} (D : Dn K mg x qual st ps) (h : ∀ f fd, Fun K x qual st f fd → FnOk P w K mg base (L2.CX P w) k f fd ps sp) : Kn P w K mg base k x ps sp := by
  obtain ⟨f, fd, h1, h2, h3⟩ := D
  exact ⟨f, fd, h1, h2.kp, h3, h f fd h2⟩
end
section
variable {X : Cx} {T : XT} {W : WX} {Γx Γ : Ctx} {K : PySem.W.Frag}
theorem ex_callK {ξ β α : Type} {n : Nat} {A : ξ → List (Option Sl)} {f : ξ → Res β} {R : β → Sl} {k j : Nat} {ps : List Str} {x : Str} {p pos : Pos} {e : Expr} {es : List Expr} {ta : TA} {m1 : Res α} {Rs : α → List Sl} {Γ1 : α → Ctx} {a : α → ξ}
    (kn : Kn X.prog X.w X.K X.mg X.base k x ps (spM n T A f R)) (hr : Room j X.A) (tk : Takes X W) (hn : ∀ x, (A x).length = n) (ha : AX X T W Γx Γ (e :: es) ta m1 Rs Γ1) (hx : ∀ t, ArgOf A (Rs t) (a t)) (hw : ∀ t, Wk (Γ1 t) Γx) (hj : k ≤ j := by decide)
    (hg : Gl X x := by rfl) (hdb : (x == ("__debug__" : Str)) = false := by decide) (he : starEach (e :: es) X.env = (false, eval e X.env) :: starEach es X.env := by rfl) (hpl : (backTo pos (starEach es X.env)).any (·.1) = false := by rfl) :
    EX X T W Γx Γ (.Call (.Name x p) (e :: es) [] pos) (tCallS (spM n T A f R) (WE W) ta) (m1.bind fun t => (f (a t)).bind fun r => .ok (t, r)) (fun t => R t.2) (fun t => Γ1 t.1) := by
  obtain ⟨fa, fd, h1, h2, h3, F⟩ := kn
  exact ex_call F (hr.mono hj) h1 h2 h3 tk hn ha hx hw hg hdb he hpl
/-- a name whose slot is moved off -/
theorem ex_mv {s : Sl} (i : Nat) {x : Str} {pos : Pos} (h : Γ[i]? = some (some s) := by rfl) (hN : X.N[i]? = some x := by rfl) (hv : Vis X.env.scope x := by first | exact Or.inl rfl | exact Or.inr (Or.inl rfl) | exact Or.inr (Or.inr rfl)) (hd : (x == ("__debug__" : Str)) = false := by decide)
    (hcd : (x == ("__classdict__" : Str)) = false := by decide) : EX X T W Γx Γ (.Name x pos) (tVar i) (.ok ()) (fun _ => s) (fun _ => Γ.set i none) := by
  refine ⟨pv i hN hv hd hcd, fun Z G0 S σ G H Q k q => ?_⟩
  obtain ⟨w, hw, hz⟩ := zip_get k.len h
  have p1 := perm_at hz
  have p2 := perm_set (y := (none, w)) hz
  have k1 : Okl Z G0 ((some s, w) :: (S ++ (Γ.zip σ).eraseIdx i)) G H := k.ok.perm ((p1.append_left S).trans mid)
  obtain ⟨ps, ⟨_, _, _, ⟨v, e1, _⟩, _⟩, _, _⟩ := k1.own
  subst e1
  refine ⟨v, hw, q v G H ⟨by rw [List.length_set]; exact k.len, ?_⟩⟩
  have e : σ = σ.set i (some v) := by
    refine List.ext_getElem? fun j => ?_
    rw [List.getElem?_set]
    by_cases q : i = j
    · subst q
      rw [if_pos rfl, if_pos (List.getElem?_eq_some_iff.mp hw).1, hw]
    · rw [if_neg q]
  have z := zip_set (Γ := Γ) (σ := σ) (i := i) (o := none) (w := some v)
  rw [← e] at z
  rw [z]
  have k2 : Okl Z G0 ((none, some v) :: (some s, some v) :: (S ++ (Γ.zip σ).eraseIdx i)) G H := k1.noneOn
  refine k2.perm ?_
  refine (List.Perm.swap _ _ _).trans (List.Perm.cons _ ?_)
  exact mid.symm.trans (p2.symm.append_left S)
/-- if c: A (leaves); the rest may go on -/
theorem sx_ifretC {c : Expr} {tc : TT} {A rest : List Stmt} {pos : Pos} {tA tr : TS} {α δ β : Type} {me : Res α} {mn : Res Bool} {b : α → Bool} {Γt : α → Ctx} {mA : Res δ} {mr : Res β} {IA : δ → Out} {I : β → Out} {j : δ → β} (hc : ET X T W Γx Γ c tc me b Γt)
    (hA : SX X T W Γx Γ A tA mA IA) (hr : SX X T W Γx Γ rest tr mr I) (hj : ∀ a, I (j a) = IA a := by exact fun _ => rfl) (hΓ : ∀ t, Γt t = Γ := by exact fun _ => rfl) (hI : ∀ a D N Z G0 S, (IA a).go D Z G0 S → (IA a).go { D with nx := N } Z G0 S := by exact fun _ _ _ _ _ _ z => z) (hb : Bd mn me (fun t => .ok (b t)) := by intros; repeat (first | ((with_reducible refine Bd.done ?_); exact rfl) | with_reducible refine Bd.okl ?_ | with_reducible refine Bd.assoc ?_ | with_reducible refine Bd.bind fun _ => ?_ | with_reducible refine Bd.eta fun _ => ?_ | with_reducible refine Bd.iteB ?_ ?_ fun _ => ?_ | with_reducible refine Bd.iteE ?_ ?_ fun _ => ?_ | with_reducible refine Bd.ite ?_ ?_ | with_reducible refine Bd.iteL ?_ ?_ | with_reducible refine Bd.assocL ?_ | with_reducible refine Bd.oklL ?_ | with_reducible exact Bd.same | with_reducible exact Bd.at | dsimp only)) :
    SX X T W Γx Γ (.If c A [] pos :: rest) (tSeq (tIfS tc tA tNext) tr) (mn.bind fun v => if v then mA.bind fun a => .ok (j a) else mr) I := by
  refine ⟨pss_cons (ps_if hc.pt hA.ps pss_nil) hr.ps, fun Z G0 S σ G H D k q => ?_⟩
  refine if_ev (DA := fun D => { D with nx := tr D }) (mn := mn) (f := b) (b' := id) (Γ' := fun _ => Γ) (mA := fun _ => mA.bind fun a => .ok (j a)) (mB := fun _ => mr) hc (fun _ => rfl) hΓ (fun v Z G0 S σ G H D k q => ?_) (fun v Z G0 S σ G H D k q => hr.ev Z G0 S σ G H D k q) hb Z G0 S σ G H D k q
  refine hA.ev Z G0 S σ G H _ k (Res.wp_mono (Res.wp_bind q) (fun a z => hI a _ _ _ _ _ ?_) fun _ z => z)
  have z' : (I (j a)).go D Z G0 S := z
  rw [hj] at z'
  exact z'
theorem sx_ifretCp {c : Expr} {tc : TT} {A rest : List Stmt} {pos : Pos} {tA tr : TS} {α δ β : Type} {me : Res α} {bn : Bool} {b : α → Bool} {Γt : α → Ctx} {mA : Res δ} {mr : Res β} {IA : δ → Out} {I : β → Out} {j : δ → β} (hc : ET X T W Γx Γ c tc me b Γt)
    (hA : SX X T W Γx Γ A tA mA IA) (hr : SX X T W Γx Γ rest tr mr I) (hj : ∀ a, I (j a) = IA a := by exact fun _ => rfl) (hΓ : ∀ t, Γt t = Γ := by exact fun _ => rfl) (hI : ∀ a D N Z G0 S, (IA a).go D Z G0 S → (IA a).go { D with nx := N } Z G0 S := by exact fun _ _ _ _ _ _ z => z) (hb : Bd (.ok bn) me (fun t => .ok (b t)) := by intros; repeat (first | ((with_reducible refine Bd.done ?_); exact rfl) | with_reducible refine Bd.okl ?_ | with_reducible refine Bd.assoc ?_ | with_reducible refine Bd.bind fun _ => ?_ | with_reducible refine Bd.eta fun _ => ?_ | with_reducible refine Bd.iteB ?_ ?_ fun _ => ?_ | with_reducible refine Bd.iteE ?_ ?_ fun _ => ?_ | with_reducible refine Bd.ite ?_ ?_ | with_reducible refine Bd.iteL ?_ ?_ | with_reducible refine Bd.assocL ?_ | with_reducible refine Bd.oklL ?_ | with_reducible exact Bd.same | with_reducible exact Bd.at | dsimp only)) :
    SX X T W Γx Γ (.If c A [] pos :: rest) (tSeq (tIfS tc tA tNext) tr) (if bn then mA.bind fun a => .ok (j a) else mr) I := sx_ifretC (mn := .ok bn) hc hA hr hj hΓ hI hb
/-- a block that leaves, as one that may go on -/
theorem SX.toC {sts : List Stmt} {ts : TS} {δ β : Type} {m : Res δ} {IA : δ → Out} {I : β → Out} {j : δ → β} (h : SX X T W Γx Γ sts ts m IA) (hj : ∀ a, I (j a) = IA a := by exact fun _ => rfl) : SX X T W Γx Γ sts ts (m.bind fun a => .ok (j a)) I :=
  ⟨h.ps, fun Z G0 S σ G H D k q => h.ev Z G0 S σ G H D k (Res.wp_mono (Res.wp_bind q) (fun a z => by
    have z' : (I (j a)).go D Z G0 S := z
    rw [hj] at z'
    exact z') fun _ z => z)⟩
/-- a for over what stops nowhere ahead of the walk -/
theorem wk_rep {n : Nat} (h : Γ.length = n) : Wk Γ (List.replicate n none) := Wk.nones h
end
/-! the law's end -/
section
variable {K : PySem.W.Frag} {T : XT}
theorem law_sp {f : List Int → Res Bool} {ns : List Int} (h : f ns = .ok true) {H : Hp} {a : Addr} (hS : SqL K H a (ns.map V.int)) : spM 1 T (aCons (fz (cSq K cInt)) aNil) (fun x => f x.1) (fz cBool) [.ref a] H (fun v _ => v = .bl true) fun _ _ _ => False := by
  refine ⟨(ns, ()), H, H, H, rfl, rfl, ⟨Evl.Ex.refl H, Evl.Ex.refl H, Evl.Ex.refl H, fun _ _ _ _ e => e, [], ⟨[], [], rfl, ⟨.ref a, rfl, ⟨a, _, rfl, hS, ?_⟩, rfl⟩, rfl⟩, List.nodup_nil, fun p hp => by cases hp⟩, ?_⟩
  · have go : ∀ l : List Int, Paired (cInt.rel H) (l.map V.int) l := fun l => by
      induction l with
      | nil => exact .nil
      | cons n r ih => exact .cons rfl ih
    exact go ns
  · show (f ns).wp _ _
    rw [h]
    intro v G' H' k
    exact k.rel1
end
end Rt
/-! Rt10: stores, == of data, texts of numbers. -/
namespace Rt
open PySem L2 R
section
variable {X : Cx} {T : XT} {W : WX} {Γx Γ : Ctx} {K : PySem.W.Frag}
/-! ### what is not None -/
theorem nn_int (G : Hp) (v : V) (b : Int) (h : cInt.rel G v b) : v ≠ .non := fun z => by
  rw [show v = .int b from h] at z
  cases z
theorem nn_bool (G : Hp) (v : V) (b : Bool) (h : cBool.rel G v b) : v ≠ .non := fun z => by
  rw [show v = .bl b from h] at z
  cases z
theorem nn_tx (G : Hp) (v : V) (b : Tx) (h : cTx.rel G v b) : v ≠ .non := fun z => by
  rw [show v = sv b from h.1] at z
  cases z
theorem nn_list {α : Type} {c : Cod α} (G : Hp) (v : V) (b : List α) (h : (cList c).rel G v b) : v ≠ .non := fun z => by
  obtain ⟨p, vs, e, _⟩ := h
  rw [e] at z
  cases z
theorem nn_tup {α : Type} {d : Cods α} (G : Hp) (v : V) (b : α) (h : (cTup K d).rel G v b) : v ≠ .non := fun z => by
  obtain ⟨p, vs, e, _⟩ := h
  rw [e] at z
  cases z
/-! ### an owned list at a slot is read -/
theorem ex_ixO (i : Nat) {β γ : Type} {c : Cod γ} {xs : List γ} {x : Str} {e2 : Expr} {p1 pos : Pos} {tb : TE} {m2 : Res β} {k : β → Int} {Rk : β → Sl} {Γo : β → Ctx} (hb : EX X T W Γx Γ e2 tb m2 Rk Γo) (hRk : ∀ t, Rk t = sI (k t) := by exact fun _ => rfl) (hΓo : ∀ t, Γo t = Γ := by exact fun _ => rfl) (h : Γ[i]? = some (some (ol c xs)) := by rfl) (hN : X.N[i]? = some x := by rfl)
    (hv : Vis X.env.scope x := by first | exact Or.inl rfl | exact Or.inr (Or.inl rfl) | exact Or.inr (Or.inr rfl)) (hs : PlainIx e2 := by exact fun _ _ => rfl) (hK : X.K = K := by rfl) (hd : (x == ("__debug__" : Str)) = false := by decide) (hcd : (x == ("__classdict__" : Str)) = false := by decide) :
    EX X T W Γx Γ (.Subscript (.Name x p1) e2 pos) (tOp (rIxL K) (tVar i) tb) (m2.bind fun y => (R.idx xs (k y)).bind fun z => .ok (y, z)) (fun t => fz c t.2) (fun _ => Γ) := by
  subst hK
  obtain rfl : Rk = fun t => sI (k t) := funext hRk
  obtain rfl : Γo = fun _ => Γ := funext hΓo
  refine ⟨pe_ix L2.ix_list (pv i hN hv hd hcd) hb.pe hs, fun Z G0 S σ G H Q kk q => ?_⟩
  obtain ⟨v, l, hw, k1, _⟩ := kk.take h
  refine ⟨v, hw, ?_⟩
  refine hb.ev Z G0 S σ G H _ kk (Res.wp_mono (Res.wp_bind q) (fun y q w G' H' k' => ?_) fun _ z => z)
  obtain ⟨z, e, q3⟩ := wp_cases (Res.wp_bind q) idx_ne
  obtain ⟨v', l', hw', k2, _⟩ := k'.drop.take h
  rw [hw] at hw'
  cases hw'
  obtain ⟨p, vs, rfl, h3, hp, _⟩ := ol_own k2
  obtain ⟨u, hu, hr⟩ := atI_rel hp (idx_ok e)
  exact ⟨p, vs, k y, u, rfl, k'.tp, SqL.of h3, hu, q3 u G' H' (k'.drop.pushf hr)⟩
theorem ex_lenO (i : Nat) {γ : Type} {c : Cod γ} {xs : List γ} {x : Str} {p p1 pos : Pos} (hm : X.mg "len" = none) (h : Γ[i]? = some (some (ol c xs)) := by rfl) (hN : X.N[i]? = some x := by rfl)
    (hv : Vis X.env.scope x := by first | exact Or.inl rfl | exact Or.inr (Or.inl rfl) | exact Or.inr (Or.inr rfl)) (hK : X.K = K := by rfl) (hg : Gl X "len" := by rfl) (hd : (x == ("__debug__" : Str)) = false := by decide) (hcd : (x == ("__classdict__" : Str)) = false := by decide)
    (hs : starEach (.Name x p1 :: []) X.env = (false, eval (.Name x p1) X.env) :: starEach [] X.env := by rfl) (hpl : (backTo pos (starEach [] X.env)).any (·.1) = false := by rfl) :
    EX X T W Γx Γ (.Call (.Name "len" p) [.Name x p1] [] pos) (tCB (rLen K) (tCons (tVar i) tNil)) (.ok ()) (fun _ => sI (xs.length : Int)) (fun _ => Γ) := by
  subst hK
  refine ⟨pe_callB call_len_seq hg hm PySem.boot_len (pa_cons (pv i hN hv hd hcd) pa_nil hs) (by decide) (by decide) hs hpl, fun Z G0 S σ G H Q k q => ?_⟩
  obtain ⟨v, l, hw, k1, _⟩ := k.take h
  obtain ⟨p, vs, rfl, h3, hp, _⟩ := ol_own k1
  exact ⟨_, hw, p, vs, rfl, .inl (SqL.of h3), q _ G H (k.pushf (c := cInt) (by show V.int _ = V.int _; rw [hp.length]))⟩
/-! ### stores -/
theorem ixN_lt {n : Nat} {i : Int} {j : Nat} (h : R.ixN n i = some j) : L2.ixN n i = some j := h
theorem paired_set {α : Type} {F : V → α → Prop} : ∀ {vs : List V} {xs : List α} {j : Nat} {v : V} {a : α}, Paired F vs xs → F v a → Paired F (vs.set j v) (xs.set j a)
  | _, _, _, _, _, .nil, _ => .nil
  | _, _, 0, _, _, .cons _ t, h => .cons h t
  | _, _, _ + 1, _, _, .cons r t, h => .cons r (paired_set t h)
theorem setI_ne {α : Type} {xs : List α} {i : Int} {a : α} : ∀ e, R.setI xs i a ≠ .exn e := fun e z => by
  unfold R.setI at z
  cases q : R.ixN xs.length i with
  | none => rw [q] at z; cases z
  | some v => rw [q] at z; cases z
theorem s1_setI {i : Nat} {x : Str} {e e2 : Expr} {te ti : TE} {p1 p2 pos : Pos} {α β γ : Type} [Nonempty α] {c : Cod γ} {m1 : Res α} {Rm : α → Sl} {a : α → γ} {m2 : α → Res β} {Rk : α → β → Sl} {Γo : α → Ctx} {Γk : α → β → Ctx} {k : α → β → Int} {xs : List γ} {mn : Res (List γ)} (he : EX X T W Γx Γ e te m1 Rm Γo) (hi : ∀ t, EX X T W Γx (Γo t) e2 ti (m2 t) (Rk t) (Γk t)) (hR : ∀ t, Rm t = fz c (a t) := by exact fun _ => rfl) (hRk : ∀ t u, Rk t u = sI (k t u) := by exact fun _ _ => rfl) (hΓo : ∀ t, Γo t = Γ := by exact fun _ => rfl) (hΓk : ∀ t u, Γk t u = Γ := by exact fun _ _ => rfl)
    (h : Γ[i]? = some (some (ol c xs)) := by rfl) (hN : X.N[i]? = some x := by rfl) (hv : Vis X.env.scope x := by first | exact Or.inl rfl | exact Or.inr (Or.inl rfl) | exact Or.inr (Or.inr rfl)) (hb : Bd mn (m1.bind fun t => (m2 t).bind fun u => (R.setI xs (k t u) (a t)).bind fun ys => .ok (t, u, ys)) (fun t => .ok t.2.2) := by intros; repeat (first | ((with_reducible refine Bd.done ?_); exact rfl) | with_reducible refine Bd.okl ?_ | with_reducible refine Bd.assoc ?_ | with_reducible refine Bd.bind fun _ => ?_ | with_reducible refine Bd.eta fun _ => ?_ | with_reducible refine Bd.iteB ?_ ?_ fun _ => ?_ | with_reducible refine Bd.iteE ?_ ?_ fun _ => ?_ | with_reducible refine Bd.ite ?_ ?_ | with_reducible refine Bd.iteL ?_ ?_ | with_reducible refine Bd.assocL ?_ | with_reducible refine Bd.oklL ?_ | with_reducible exact Bd.same | with_reducible exact Bd.at | dsimp only))
    (hd : (x == ("__debug__" : Str)) = false := by decide) (hcd : (x == ("__classdict__" : Str)) = false := by decide) (hpg : ∀ {to ti : TE}, PE X (.Name x p1) to → PE X e2 ti → PG X (.Subscript (.Name x p1) e2 p2) (gSub to ti rSetL) := by exact fun h1 h2 => pg_sub h1 h2 set_list)
    (hs : swapsWithSole [.Subscript (.Name x p1) e2 p2] e pos.line X.env = pure false := by rfl) (hw : swappedStores [.Subscript (.Name x p1) e2 p2] e X.env = pure none := by rfl) :
    S1 X T W Γx Γ (.Assign [.Subscript (.Name x p1) e2 p2] e pos) (tAsg te (gSub (tVar i) ti rSetL)) mn (fun ys => .nx (Γ.set i (some (ol c ys)))) := by
  obtain rfl : Rm = fun t => fz c (a t) := funext hR
  obtain rfl : Rk = fun t u => sI (k t u) := funext fun t => funext (hRk t)
  obtain rfl : Γo = fun _ => Γ := funext hΓo
  obtain rfl : Γk = fun _ _ => Γ := funext fun t => funext (hΓk t)
  obtain ⟨t0⟩ := ‹Nonempty α›
  refine ⟨ps_asg he.pe (hpg (pv i hN hv hd hcd) (hi t0).pe) hs hw, fun Z G0 S σ G H D kk q => ?_⟩
  refine he.ev Z G0 S σ G H _ kk (Res.wp_mono (Res.wp_bind (hb _ _ q)) (fun t q y G1 H1 k1 => ?_) fun ex q cls d G' H' k' => q cls d σ G' H' k')
  obtain ⟨v, l, hw, k2, _⟩ := k1.drop.take h
  refine ⟨v, hw, ?_⟩
  refine (hi t).ev Z G0 _ σ G1 H1 _ k1 (Res.wp_mono (Res.wp_bind q) (fun u q w G2 H2 k3 => ?_) fun ex q cls d G' H' k' => q cls d σ G' H' k'.drop)
  obtain ⟨ys, e, q3⟩ := wp_cases (Res.wp_bind q) setI_ne
  have hk := k3.tp
  have hy := k3.drop.tp
  obtain ⟨v', l', hw', k4, back⟩ := k3.drop.drop.take h
  rw [hw] at hw'
  cases hw'
  obtain ⟨p, vs, rfl, h3, hp, wr⟩ := ol_own k4
  unfold R.setI at e
  cases ej : R.ixN xs.length (k t u) with
  | none => rw [ej] at e; cases e
  | some j =>
    rw [ej] at e
    cases e
    refine ⟨p, vs, k t u, j, rfl, hk, h3, by rw [hp.length]; exact ej, q3 σ G2 _ (back _ _ _ (wr _ _ (paired_set hp hy)))⟩
theorem s1_push {i : Nat} {x : Str} {e : Expr} {te : TE} {p1 p2 p3 pos : Pos} {α γ : Type} {c : Cod γ} {m1 : Res α} {Rm : α → Sl} {Γo : α → Ctx} {a : α → γ} {xs : List γ} {mn : Res (List γ)} (he : EX X T W Γx Γ e te m1 Rm Γo) (hR : ∀ t, Rm t = fz c (a t) := by exact fun _ => rfl) (hΓo : ∀ t, Γo t = Γ := by exact fun _ => rfl)
    (h : Γ[i]? = some (some (ol c xs)) := by rfl) (hN : X.N[i]? = some x := by rfl) (hv : Vis X.env.scope x := by first | exact Or.inl rfl | exact Or.inr (Or.inl rfl) | exact Or.inr (Or.inr rfl)) (hb : Bd mn (m1.bind fun t => (R.push xs (a t)).bind fun ys => .ok (t, ys)) (fun t => .ok t.2) := by intros; repeat (first | ((with_reducible refine Bd.done ?_); exact rfl) | with_reducible refine Bd.okl ?_ | with_reducible refine Bd.assoc ?_ | with_reducible refine Bd.bind fun _ => ?_ | with_reducible refine Bd.eta fun _ => ?_ | with_reducible refine Bd.iteB ?_ ?_ fun _ => ?_ | with_reducible refine Bd.iteE ?_ ?_ fun _ => ?_ | with_reducible refine Bd.ite ?_ ?_ | with_reducible refine Bd.iteL ?_ ?_ | with_reducible refine Bd.assocL ?_ | with_reducible refine Bd.oklL ?_ | with_reducible exact Bd.same | with_reducible exact Bd.at | dsimp only))
    (hK : X.K = K := by rfl) (hd : (x == ("__debug__" : Str)) = false := by decide) (hcd : (x == ("__classdict__" : Str)) = false := by decide)
    (hpe : ∀ {to : TE} {ta : TA}, PE X (.Name x p1) to → PA X [e] ta → PE X (.Call (.Attribute (.Name x p1) "append" p2) [e] [] p3) (tBM X.K "list" rAppend to ta) := by exact fun h1 h2 => pe_bm PySem.F.plainAttrs_list PySem.F.slot_list_append PySem.F.type_list_append mt_append h1 h2)
    (hst : starEach (e :: []) X.env = (false, eval e X.env) :: starEach [] X.env := by rfl) (hs : swapsWith (.Call (.Attribute (.Name x p1) "append" p2) [e] [] p3) none pos.line X.env = pure false := by rfl) :
    S1 X T W Γx Γ (.Expr (.Call (.Attribute (.Name x p1) "append" p2) [e] [] p3) pos) (tDrop (tBM K "list" rAppend (tVar i) (tCons te tNil))) mn (fun ys => .nx (Γ.set i (some (ol c ys)))) := by
  subst hK
  obtain rfl : Rm = fun t => fz c (a t) := funext hR
  obtain rfl : Γo = fun _ => Γ := funext hΓo
  refine ⟨ps_expr (hpe (pv i hN hv hd hcd) (pa_cons he.pe pa_nil hst)) hs, fun Z G0 S σ G H D k q => ?_⟩
  obtain ⟨v, l, hw, k1, _⟩ := k.take h
  obtain ⟨p, vs, rfl, h3, _, _⟩ := ol_own k1
  refine ⟨.ref p, hw, .inl ⟨rfl, _, SqL.of h3⟩, ?_⟩
  refine he.ev Z G0 S σ G H _ k (Res.wp_mono (Res.wp_bind (hb _ _ q)) (fun t q y G' H' k' => ?_) fun ex q cls d G' H' k' => q cls d σ G' H' k')
  obtain ⟨us, e2, q3⟩ := wp_cases (Res.wp_bind q) (chk_ne ok_ne)
  obtain ⟨e3, e4⟩ := chk_ok e2
  cases e4
  have hr := k'.tp
  obtain ⟨v', l', hw', k2, back⟩ := k'.drop.take h
  rw [hw] at hw'
  cases hw'
  obtain ⟨p', vs', e5, h6, h7, h8⟩ := ol_own k2
  cases e5
  refine ⟨p, vs', y, rfl, rfl, h6, ?_, q3 σ _ _ (back _ _ _ (h8 _ _ (Paired.snoc h7 hr)))⟩
  rw [h7.length, ← line_eq]
  exact of_decide_eq_true e3
/-- several names, or any target -/
theorem s1_asgG {tg e : Expr} {te : TE} {g : TG} {js : List Nat} {pos : Pos} {α ν : Type} {me : Res α} {mn : Res ν} {R : α → Sl} {R' : ν → Sl} {f : α → ν} {Γ' : ν → Ctx} {Γo : α → Ctx} (he : EX X T W Γx Γ e te me R Γo) (hg : ∀ v, GX X tg g js (R' v) Γ (Γ' v)) [Nonempty ν] (hR : ∀ t, R t = R' (f t) := by exact fun _ => rfl) (hΓo : ∀ t, Γo t = Γ := by exact fun _ => rfl) (hb : Bd mn me (fun t => .ok (f t)) := by intros; repeat (first | ((with_reducible refine Bd.done ?_); exact rfl) | with_reducible refine Bd.okl ?_ | with_reducible refine Bd.assoc ?_ | with_reducible refine Bd.bind fun _ => ?_ | with_reducible refine Bd.eta fun _ => ?_ | with_reducible refine Bd.iteB ?_ ?_ fun _ => ?_ | with_reducible refine Bd.iteE ?_ ?_ fun _ => ?_ | with_reducible refine Bd.ite ?_ ?_ | with_reducible refine Bd.iteL ?_ ?_ | with_reducible refine Bd.assocL ?_ | with_reducible refine Bd.oklL ?_ | with_reducible exact Bd.same | with_reducible exact Bd.at | dsimp only))
    (hs : swapsWithSole [tg] e pos.line X.env = pure false := by rfl) (hw : swappedStores [tg] e X.env = pure none := by rfl) (h1 : (assignEach [tg] X.env).map (·.2) = [assign tg X.env] := by rfl) : S1 X T W Γx Γ (.Assign [tg] e pos) (tAsg te g) mn (fun v => .nx (Γ' v)) := by
  obtain rfl : Γo = fun _ => Γ := funext hΓo
  obtain ⟨v0⟩ := ‹Nonempty ν›
  refine ⟨ps_asg he.pe (hg v0).pg hs hw h1, fun Z G0 S σ G H D k q => he.ev Z G0 S σ G H _ k (Res.wp_mono (hb _ _ q) (fun t q v G' H' k' => ?_) fun ex q cls d G' H' k' => q cls d σ G' H' k')⟩
  rw [hR] at k'
  exact (hg (f t)).ev Z G0 S σ G' H' v _ k' fun σ' G'' H'' k'' _ => q σ' G'' H'' k''
/-! ### a text is walked -/
theorem src_str {t : Tx} {G1 : Hp} : Src (Its ⟨t.toArray⟩) t (fun c => sT [c]) G1 :=
  ⟨fun _ => True, fun i H v H' => H' = H ∧ ∃ c, (⟨t.toArray⟩ : Str).cps[i]? = some c ∧ v = .str ⟨#[c]⟩, by
    have z := walk_str (z := ⟨t.toArray⟩)
    have e : (⟨t.toArray⟩ : Str).cps.size = t.length := by simp
    rw [e] at z
    exact z, fun _ _ => trivial, fun i x hx H v H' y Z G0 l G e k => by
    obtain ⟨rfl, c, hc, rfl⟩ := y
    have hc' : t[i]? = some c := by simpa using hc
    rw [hx] at hc'
    cases hc'
    exact ⟨G, k.push (c := cTx) ⟨rfl, by show 1 ≤ R.line; decide⟩⟩⟩
theorem ix_str {e tg : Expr} {te : TE} {α : Type} {m : Res α} {t : α → Tx} {Γo : α → Ctx} (he : EX X T W Γx Γ e te m (fun a => sT (t a)) Γo) : IX X T W Γx Γ tg e (iStr te) m t (fun c => sT [c]) Γo :=
  ⟨pi_str he.pe, fun Z G0 S σ G H Rk k q => he.ev Z G0 S σ G H _ k (Res.wp_mono q (fun a q v G' H' k' => ⟨_, k'.tp.1, q _ G' H' k'.drop src_str⟩) fun _ z => z)⟩
end
end Rt
/-! Rt11: == of data, str of int, a text many times, comprehensions with a test, with two clauses. -/
namespace Rt
open PySem L2 R
section
variable {X : Cx} {T : XT} {W : WX} {Γx Γ : Ctx} {K : PySem.W.Frag}
/-! ### == of data -/
def rEqP (K : PySem.W.Frag) : R2 := fun x y H Q => ∃ d e, Dp K H x d ∧ Dp K H y e ∧ d.plain = true ∧ e.plain = true ∧ d.depth ≤ 64 ∧ Q (.bl (PyData.eqv d e)) H
def rNeP (K : PySem.W.Frag) : R2 := fun x y H Q => ∃ d e, Dp K H x d ∧ Dp K H y e ∧ d.plain = true ∧ e.plain = true ∧ d.depth ≤ 64 ∧ Q (.bl (!PyData.eqv d e)) H
theorem op_eqP (hu : X.A.units + 64 < cLine) : OpR X (compareOp .Eq) (rEqP X.K) := by
  intro pins s σ H x y v u Q I rx ry h
  obtain ⟨d, e, hd, he, sd, se, hz, q⟩ := h
  obtain ⟨as, r1⟩ := Dp.reads I d x v hd rx
  obtain ⟨bs, r2⟩ := Dp.reads I e y u he ry
  exact SeqAt.eq_plain r1 r2 sd se (by have : min d.depth e.depth ≤ d.depth := Nat.min_le_left _ _; omega) ⟨.bl _, H, I, rfl, q⟩
theorem op_neP (hu : X.A.units + 64 < cLine) : OpR X (compareOp .NotEq) (rNeP X.K) := by
  intro pins s σ H x y v u Q I rx ry h
  obtain ⟨d, e, hd, he, sd, se, hz, q⟩ := h
  obtain ⟨as, r1⟩ := Dp.reads I d x v hd rx
  obtain ⟨bs, r2⟩ := Dp.reads I e y u he ry
  exact SeqAt.ne_plain r1 r2 sd se (by have : min d.depth e.depth ≤ d.depth := Nat.min_le_left _ _; omega) ⟨.bl _, H, I, rfl, q⟩
/-- data that the model compares as we do -/
structure DatP {α : Type} [DecidableEq α] (d : α → PyData) (n : Nat) : Prop where
  plain : ∀ a, (d a).plain = true
  depth : ∀ a, (d a).depth ≤ n
  eqv : ∀ a b, PyData.eqv (d a) (d b) = decide (a = b)
structure EqD (K : PySem.W.Frag) {α : Type} (c : Cod α) (d : α → PyData) : Prop where
  rel : ∀ G H v a, c.rel G v a → Ex G H → Dp K H v (d a)
theorem datp_int : DatP PyData.int 0 := ⟨fun _ => rfl, fun _ => Nat.le_refl _, fun a b => by show (a == b) = _; rw [Bool.eq_iff_iff]; simp⟩
theorem datp_bool : DatP PyData.bool 0 := ⟨fun _ => rfl, fun _ => Nat.le_refl _, fun a b => by show (a == b) = _; rw [Bool.eq_iff_iff]; simp⟩
abbrev dTx (t : Tx) : PyData := .str ⟨t.toArray⟩
theorem datp_tx : DatP dTx 0 := ⟨fun _ => rfl, fun _ => Nat.le_refl _, fun a b => by
  show ((⟨a.toArray⟩ : Str) == ⟨b.toArray⟩) = _
  rw [Bool.eq_iff_iff, beq_iff_eq, decide_eq_true_eq]
  constructor
  · intro h
    have := congrArg (fun s : Str => s.cps.toList) h
    simpa using this
  · intro h
    rw [h]⟩
abbrev dLst {α : Type} (d : α → PyData) (xs : List α) : PyData := .list (xs.map d)
abbrev dOpt {α : Type} (d : α → PyData) (o : Option α) : PyData := match o with | none => .none | some a => d a
theorem datp_list {α : Type} [DecidableEq α] {d : α → PyData} {n : Nat} (h : DatP d n) : DatP (dLst d) (n + 1) := by
  refine ⟨fun xs => ?_, fun xs => ?_, fun xs ys => ?_⟩
  · show PyData.plainAll (xs.map d) = true
    induction xs with
    | nil => rfl
    | cons x r ih => show ((d x).plain && PyData.plainAll (r.map d)) = true; rw [h.plain x, ih]; rfl
  · show PyData.depthAll (xs.map d) + 1 ≤ n + 1
    refine Nat.succ_le_succ ?_
    induction xs with
    | nil => exact Nat.zero_le _
    | cons x r ih => exact Nat.max_le.mpr ⟨h.depth x, ih⟩
  · show PyData.eqvAll (xs.map d) (ys.map d) = _
    induction xs generalizing ys with
    | nil => cases ys <;> rfl
    | cons x r ih =>
      cases ys with
      | nil => rfl
      | cons y ys =>
        show (PyData.eqv (d x) (d y) && PyData.eqvAll (r.map d) (ys.map d)) = _
        rw [ih, h.eqv, Bool.eq_iff_iff]
        simp
theorem eqd_int : EqD K cInt PyData.int := ⟨fun G H v a h _ => by rw [show v = .int a from h]; exact .int a⟩
theorem eqd_bool : EqD K cBool PyData.bool := ⟨fun G H v a h _ => by rw [show v = .bl a from h]; exact .bl a⟩
theorem eqd_tx : EqD K cTx dTx := ⟨fun G H v a h _ => by rw [h.1]; exact .str _⟩
theorem dpall {α : Type} {c : Cod α} {d : α → PyData} (h : EqD K c d) {G H : Hp} (e : Ex G H) : ∀ {vs : List V} {xs : List α}, Paired (c.rel G) vs xs → DpAll K H vs (xs.map d)
  | _, _, .nil => .nil
  | _, _, .cons r t => .cons (h.rel G H _ _ r e) (dpall h e t)
theorem eqd_list {α : Type} {c : Cod α} {d : α → PyData} (h : EqD K c d) : EqD K (cList c) (dLst d) := ⟨fun G H v a ⟨p, vs, e1, h1, hp⟩ e => by
  rw [e1]
  exact .lst (cl_sq e h1) (dpall h e hp)⟩
theorem eqd_seq {α : Type} {c : Cod α} {d : α → PyData} (h : EqD K c d) : EqD K (cSq K c) (dLst d) := ⟨fun G H v a ⟨p, vs, e1, h1, hp⟩ e => by
  rw [e1]
  exact .lst (Evl.ex_l e h1) (dpall h e hp)⟩
theorem eqd_opt {α : Type} {c : Cod α} {d : α → PyData} (h : EqD K c d) : EqD K (cOpt c) (dOpt d) := ⟨fun G H v a k e => by
  cases a with
  | none => rw [show v = .non from k]; exact .non
  | some a => exact h.rel G H v a k.1 e⟩
theorem datp_opt {α : Type} [DecidableEq α] {d : α → PyData} {n : Nat} (h : DatP d n) (hn : ∀ a, PyData.eqv .none (d a) = false ∧ PyData.eqv (d a) .none = false) : DatP (dOpt d) n := by
  refine ⟨fun o => ?_, fun o => ?_, fun a b => ?_⟩
  · cases o with
    | none => rfl
    | some a => exact h.plain a
  · cases o with
    | none => exact Nat.zero_le _
    | some a => exact h.depth a
  · cases a with
    | none =>
      cases b with
      | none => rfl
      | some b => exact (hn b).1.trans (by simp)
    | some a =>
      cases b with
      | none => exact (hn a).2.trans (by simp)
      | some b => exact (h.eqv a b).trans (by rw [Bool.eq_iff_iff]; simp)
/-- the items of a tuple -/
structure DatPs {α : Type} [DecidableEq α] (d : α → List PyData) (n : Nat) : Prop where
  plain : ∀ a, PyData.plainAll (d a) = true
  depth : ∀ a, PyData.depthAll (d a) ≤ n
  eqv : ∀ a b, PyData.eqvAll (d a) (d b) = decide (a = b)
structure EqDs (K : PySem.W.Frag) {α : Type} (c : Cods α) (d : α → List PyData) : Prop where
  rel : ∀ G H vs a, c.rel G vs a → Ex G H → DpAll K H vs (d a)
abbrev tOne {α : Type} (d : α → PyData) (a : α) : List PyData := [d a]
abbrev tMore {α β : Type} (d : α → PyData) (e : β → List PyData) (a : α × β) : List PyData := d a.1 :: e a.2
abbrev dTup {α : Type} (d : α → List PyData) (a : α) : PyData := .tuple (d a)
theorem datps_one {α : Type} [DecidableEq α] {d : α → PyData} {n : Nat} (h : DatP d n) : DatPs (tOne d) n := ⟨fun a => by show ((d a).plain && true) = true; rw [h.plain]; rfl, fun a => Nat.max_le.mpr ⟨h.depth a, Nat.zero_le _⟩, fun a b => by
  show (PyData.eqv (d a) (d b) && true) = _
  rw [h.eqv, Bool.and_true]⟩
theorem datps_more {α β : Type} [DecidableEq α] [DecidableEq β] {d : α → PyData} {e : β → List PyData} {n m : Nat} (h : DatP d n) (k : DatPs e m) : DatPs (tMore d e) (max n m) := ⟨fun a => by show ((d a.1).plain && PyData.plainAll (e a.2)) = true; rw [h.plain, k.plain]; rfl, fun a => Nat.max_le.mpr ⟨Nat.le_trans (h.depth _) (Nat.le_max_left _ _), Nat.le_trans (k.depth _) (Nat.le_max_right _ _)⟩, fun a b => by
  show (PyData.eqv (d a.1) (d b.1) && PyData.eqvAll (e a.2) (e b.2)) = _
  rw [h.eqv, k.eqv, Bool.eq_iff_iff]
  simp [Prod.ext_iff]⟩
theorem datp_tup {α : Type} [DecidableEq α] {d : α → List PyData} {n : Nat} (h : DatPs d n) : DatP (dTup d) (n + 1) := ⟨h.plain, fun a => Nat.succ_le_succ (h.depth a), h.eqv⟩
theorem eqds_one {α : Type} {c : Cod α} {d : α → PyData} (h : EqD K c d) : EqDs K (dOne c) (tOne d) := ⟨fun G H vs a ⟨v, e1, k⟩ e => by rw [e1]; exact .cons (h.rel G H v a k e) .nil⟩
theorem eqds_more {α β : Type} {c : Cod α} {cs : Cods β} {d : α → PyData} {ds : β → List PyData} (h : EqD K c d) (k : EqDs K cs ds) : EqDs K (dCons c cs) (tMore d ds) := ⟨fun G H vs a ⟨v, r, e1, k1, k2⟩ e => by rw [e1]; exact .cons (h.rel G H v a.1 k1 e) (k.rel G H r a.2 k2 e)⟩
theorem eqd_tup {α : Type} {cs : Cods α} {ds : α → List PyData} (h : EqDs K cs ds) : EqD K (cTup K cs) (dTup ds) := ⟨fun G H v a ⟨p, vs, e1, h1, hp⟩ e => by
  rw [e1]
  exact .tup (ct_sq e h1) (h.rel G H vs a hp e)⟩
theorem o_eqP {α : Type} [DecidableEq α] {c c' : Cod α} {d : α → PyData} {n : Nat} {a b : α} (h : EqD K c d) (h' : EqD K c' d) (p : DatP d n) (hn : Nat.ble n 64 = true := by rfl) : OpOk (rEqP K) (fz c a) (fz c' b) (.ok ()) (fun _ => sB (decide (a = b))) :=
  ⟨fun Z G0 l G H v1 v2 Q k _ _ q => by
    obtain ⟨r1, r2⟩ := k.rels
    refine ⟨d a, d b, h.rel _ _ _ _ r1 k.gh, h'.rel _ _ _ _ r2 k.gh, p.plain a, p.plain b, Nat.le_trans (p.depth a) (Nat.le_of_ble_eq_true hn), ?_⟩
    rw [p.eqv]
    exact q _ G H (k.drop.drop.push rfl), ok_ne⟩
theorem o_neP {α : Type} [DecidableEq α] {c c' : Cod α} {d : α → PyData} {n : Nat} {a b : α} (h : EqD K c d) (h' : EqD K c' d) (p : DatP d n) (hn : Nat.ble n 64 = true := by rfl) : OpOk (rNeP K) (fz c a) (fz c' b) (.ok ()) (fun _ => sB (!decide (a = b))) :=
  ⟨fun Z G0 l G H v1 v2 Q k _ _ q => by
    obtain ⟨r1, r2⟩ := k.rels
    refine ⟨d a, d b, h.rel _ _ _ _ r1 k.gh, h'.rel _ _ _ _ r2 k.gh, p.plain a, p.plain b, Nat.le_trans (p.depth a) (Nat.le_of_ble_eq_true hn), ?_⟩
    rw [p.eqv]
    exact q _ G H (k.drop.drop.push rfl), ok_ne⟩
end
end Rt
/-! Rt12: comprehensions with a test, with two clauses. -/
namespace Rt
open PySem L2 R
section
variable {X : Cx} {T : XT} {W : WX} {Γx Γ : Ctx} {K : PySem.W.Frag}
theorem lct_ev {tg iter : Expr} {wi : TI} {g : TG} {tt : TT} {te : TE} {vs js : List Nat} {elt cnd : Expr} {α β γ δ ε : Type} {mi : Res α} {xs : α → List β} {Rb : β → Sl} {Γ0 : α → Ctx} {c : Cod γ} {f : α → β → Res γ} {tf : α → β → Res Bool} {me : α → β → Res δ} {yv : α → β → δ → γ} {mt : α → β → Res ε} {bt : α → β → ε → Bool} {Γg : α → β → Ctx} {Γe : Ctx} {X' : Cx}
    (hi : IX X T W Γx Γ tg iter wi mi xs Rb Γ0) (hg : ∀ a x, GX X' tg g js (Rb x) (wipeC (Γ0 a) vs) (Γg a x)) (hj : ∀ j ∈ js, j ∈ vs) (hv : ∀ a, ∀ v ∈ vs, v < (Γ0 a).length)
    (ht : ∀ a x, ET X' T (fun _ _ _ _ => False) Γe (Γg a x) cnd tt (mt a x) (bt a x) (fun _ => Γg a x)) (htb : ∀ a x, Bd (tf a x) (mt a x) (fun b => .ok (bt a x b)))
    (he : ∀ a x, EX X' T (fun _ _ _ _ => False) Γe (Γg a x) elt te (me a x) (fun b => fz c (yv a x b)) (fun _ => Γg a x)) (hd : ∀ a x, Wk (Γg a x) (wipeC (Γ0 a) vs)) (hb : ∀ a x, Bd (f a x) (me a x) (fun b => .ok (yv a x b)))
    (Z G0 : Hp) (S : List Pl) (σ : St) (G H : Hp) (Q : VK) (k : Okc Z G0 S Γ σ G H)
    (q : (mi.bind fun a => (R.filC (tf a) (f a) (xs a)).bind fun ys => .ok (a, ys)).wp (fun t => ∀ v G' H', Okc Z G0 ((some (ol c t.2), some v) :: S) (Γ0 t.1) σ G' H' → Q v H') (fun ex => ∀ cls d G' H', Okc Z G0 S Γx σ G' H' → T.rel ex cls d G' → W cls d σ H')) :
    tLc wi g tt te vs σ H Q := by
  refine hi.ev Z G0 S σ G H _ k (Res.wp_mono (Res.wp_bind q) (fun a q J G1 H1 k1 src => ?_) fun ex q => q)
  intro D hD
  have q := Res.wp_bind q
  obtain ⟨Gd, Y, wk, gd, hy⟩ := src
  obtain ⟨L, up, down⟩ := lifts k1.len vs (hv a)
  have q' : (R.filK (tf a) (f a) (xs a)).wp (fun ys => ∀ v G' H', Okc Z G0 ((some (ol c ys), some v) :: S) (Γ0 a) σ G' H' → Q v H') (fun _ => True) ∧ (xs a).length ≤ R.line := by
    unfold R.filC at q
    cases e : decide ((xs a).length ≤ R.line) with
    | true =>
      rw [e] at q
      exact ⟨Res.wp_mono q (fun ys z => z) fun _ _ => trivial, of_decide_eq_true e⟩
    | false =>
      rw [e] at q
      exact q.elim
  obtain ⟨q, hz⟩ := q'
  have kD : Okc Z G1 ((some (ol c []), some (.ref D)) :: S) (Γ0 a) σ G1 (upd H1 D (.lst [])) := ⟨k1.len, k1.base.ok.layOwn (s := ol c []) hD ⟨D, [], rfl, rfl, upd_same, .nil⟩⟩
  refine lc_it wk (fun i H => ∃ acc G, Okc Z G1 (L ++ ((some (ol c acc), some (.ref D)) :: S)) (wipeC (Γ0 a) vs) (wipe σ vs) G H ∧ acc.length ≤ i ∧
      (R.filK (tf a) (f a) ((xs a).drop i)).wp (fun ys => ∀ v G' H', Okc Z G0 ((some (ol c (acc ++ ys)), some v) :: S) (Γ0 a) σ G' H' → Q v H') (fun _ => True))
    ⟨[], G1, up _ _ _ _ _ kD, Nat.zero_le _, q⟩ (fun i H _ ⟨acc, G, k2, _⟩ => gd H k2.hex) ?_ ?_
  · rintro i v H H' hi' ⟨acc, G, k2, hl, w⟩ y
    have hx : (xs a)[i]? = some (xs a)[i] := List.getElem?_eq_getElem hi'
    rw [List.drop_eq_getElem_cons hi'] at w
    have w2 : (tf a (xs a)[i]).wp (fun b => (if b then (f a (xs a)[i]).calm.bind fun y => (R.filK (tf a) (f a) ((xs a).drop (i + 1))).bind fun ys => .ok (y :: ys) else R.filK (tf a) (f a) ((xs a).drop (i + 1))).wp (fun ys => ∀ v G' H', Okc Z G0 ((some (ol c (acc ++ ys)), some v) :: S) (Γ0 a) σ G' H' → Q v H') (fun _ => True)) (fun _ => False) := Res.wp_calm (Res.wp_bind w)
    obtain ⟨G2, k3⟩ := hy i _ hx H v H' y Z G1 _ G k2.gex k2.ok
    refine (hg a (xs a)[i]).ev Z G1 _ _ G2 H' v _ ⟨k2.len, k3⟩ fun σ3 G3 H3 k4 hw => ⟨(hw vs hj).trans wipe_wipe, ?_⟩
    refine (ht a (xs a)[i]).ev Z G1 _ σ3 G3 H3 _ k4 (Res.wp_mono (htb a (xs a)[i] _ _ w2) (fun b0 w5 G5 H5 k5 => ?_) fun ex z => z.elim)
    have w5' : (if bt a (xs a)[i] b0 then (f a (xs a)[i]).calm.bind fun y => (R.filK (tf a) (f a) ((xs a).drop (i + 1))).bind fun ys => .ok (y :: ys) else R.filK (tf a) (f a) ((xs a).drop (i + 1))).wp (fun ys => ∀ v G' H', Okc Z G0 ((some (ol c (acc ++ ys)), some v) :: S) (Γ0 a) σ G' H' → Q v H') (fun _ => True) := w5
    have clean : ∀ {G6 H6 Sx}, Okc Z G1 Sx (Γg a (xs a)[i]) σ3 G6 H6 → Okc Z G1 Sx (wipeC (Γ0 a) vs) (wipe σ vs) G6 H6 := fun {G6 H6 Sx} k6 => by
      have e1 := forgets (hd a (xs a)[i] _ _ _ _ _ _ k6) vs fun v h => wipeC_at h (hv a v h)
      rw [(hw vs hj).trans wipe_wipe] at e1
      exact e1
    cases eb : bt a (xs a)[i] b0 with
    | false =>
      rw [eb] at w5'
      rw [if_neg Bool.false_ne_true]
      exact ⟨acc, G5, clean k5, Nat.le_succ_of_le hl, w5'⟩
    | true =>
      rw [eb] at w5'
      rw [if_pos rfl]
      have w6 := Res.wp_calm (Res.wp_bind (show ((f a (xs a)[i]).calm.bind fun y => (R.filK (tf a) (f a) ((xs a).drop (i + 1))).bind fun ys => .ok (y :: ys)).wp (fun ys => ∀ v G' H', Okc Z G0 ((some (ol c (acc ++ ys)), some v) :: S) (Γ0 a) σ G' H' → Q v H') (fun _ => True) from w5'))
      refine (he a (xs a)[i]).ev Z G1 _ σ3 G5 H5 _ k5 (Res.wp_mono (hb a (xs a)[i] _ _ w6) (fun b w3 y G4 H4 k5 => ?_) fun ex z => z.elim)
      have w4 := Res.wp_bind (show ((R.filK (tf a) (f a) ((xs a).drop (i + 1))).bind fun ys => .ok (yv a (xs a)[i] b :: ys)).wp (fun ys => ∀ v G' H', Okc Z G0 ((some (ol c (acc ++ ys)), some v) :: S) (Γ0 a) σ G' H' → Q v H') (fun _ => True) from w3)
      have k6 : Okc Z G1 (L ++ ((some (fz c (yv a (xs a)[i] b)), some y) :: (some (ol c acc), some (.ref D)) :: S)) (wipeC (Γ0 a) vs) (wipe σ vs) G4 H4 := by
        have e1 := clean k5
        refine ⟨e1.len, e1.ok.perm ?_⟩
        show (((some (fz c (yv a (xs a)[i] b)), some y) :: (L ++ (some (ol c acc), some (.ref D)) :: S)) ++ _).Perm _
        exact (mid (l := L) (m := (some (ol c acc), some (.ref D)) :: S)).symm.append_right _
      have k7 := down _ _ _ _ _ k6
      obtain ⟨ws, hD', hlen, k8⟩ := Okl.grow k7.ok
      refine ⟨ws, hD', ?_, acc ++ [yv a (xs a)[i] b], G4, up _ _ _ _ _ ⟨k7.len, k8⟩, ?_, Res.wp_mono w4 (fun ys z => ?_) fun _ _ => trivial⟩
      · rw [← line_eq, hlen]
        omega
      · rw [List.length_append]
        show acc.length + 1 ≤ i + 1
        omega
      · rw [List.append_assoc]
        exact z
  · rintro H ⟨acc, G, k2, _, w⟩
    rw [List.drop_length] at w
    have k3 := k1.back (down _ _ _ _ _ k2)
    exact w (.ref D) G H (by rw [List.append_nil]; exact k3)
theorem ex_lcT {tg iter elt cnd : Expr} {scope : Scope} {own : List (Str × Nat)} {pos : Pos} {wi : TI} {g : TG} {tt : TT} {te : TE} {js : List Nat} {α β γ δ ε : Type} [Nonempty α] [Nonempty β] {mi : Res α} {xs : α → List β} {Rb : β → Sl} {Γ0 : α → Ctx} {c : Cod γ} {f : α → β → Res γ} {tf : α → β → Res Bool} {me : α → β → Res δ} {yv : α → β → δ → γ} {mt : α → β → Res ε} {bt : α → β → ε → Bool} {Γg : α → β → Ctx} {Γe : Ctx} {Re : α → β → δ → Sl} {Γo : α → β → δ → Ctx} {Γt : α → β → ε → Ctx}
    (hN : X.N.Nodup) (hi : IX X T W Γx Γ tg iter wi mi xs Rb Γ0) (ok : BlkOk X.N X.env.scope scope own)
    (hg : ∀ (s : Shared) (H : Hp) (C : Addr) (cl : List (Str × Addr)) (fp : List Addr) a x, GX (X.blk s H scope (compEnvC scope cl C X.env) fp) tg g js (Rb x) (wipeC (Γ0 a) (own.map (·.2))) (Γg a x))
    (ht : ∀ (s : Shared) (H : Hp) (C : Addr) (cl : List (Str × Addr)) (fp : List Addr) a x, ET (X.blk s H scope (compEnvC scope cl C X.env) fp) T (fun _ _ _ _ => False) Γe (Γg a x) cnd tt (mt a x) (bt a x) (Γt a x))
    (he : ∀ (s : Shared) (H : Hp) (C : Addr) (cl : List (Str × Addr)) (fp : List Addr) a x, EX (X.blk s H scope (compEnvC scope cl C X.env) fp) T (fun _ _ _ _ => False) Γe (Γg a x) elt te (me a x) (Re a x) (Γo a x))
    (hRe : ∀ a x b, Re a x b = fz c (yv a x b) := by exact fun _ _ _ => rfl) (hΓo : ∀ a x b, Γo a x b = Γg a x := by exact fun _ _ _ => rfl) (hΓt : ∀ a x b, Γt a x b = Γg a x := by exact fun _ _ _ => rfl) (htb : ∀ a x, Bd (tf a x) (mt a x) (fun b => .ok (bt a x b)) := by intros; repeat (first | ((with_reducible refine Bd.done ?_); exact rfl) | with_reducible refine Bd.okl ?_ | with_reducible refine Bd.assoc ?_ | with_reducible refine Bd.bind fun _ => ?_ | with_reducible refine Bd.eta fun _ => ?_ | with_reducible refine Bd.iteB ?_ ?_ fun _ => ?_ | with_reducible refine Bd.iteE ?_ ?_ fun _ => ?_ | with_reducible refine Bd.ite ?_ ?_ | with_reducible refine Bd.iteL ?_ ?_ | with_reducible refine Bd.assocL ?_ | with_reducible refine Bd.oklL ?_ | with_reducible exact Bd.same | with_reducible exact Bd.at | dsimp only))
    (hb : ∀ a x, Bd (f a x) (me a x) (fun b => .ok (yv a x b)) := by intros; repeat (first | ((with_reducible refine Bd.done ?_); exact rfl) | with_reducible refine Bd.okl ?_ | with_reducible refine Bd.assoc ?_ | with_reducible refine Bd.bind fun _ => ?_ | with_reducible refine Bd.eta fun _ => ?_ | with_reducible refine Bd.iteB ?_ ?_ fun _ => ?_ | with_reducible refine Bd.iteE ?_ ?_ fun _ => ?_ | with_reducible refine Bd.ite ?_ ?_ | with_reducible refine Bd.iteL ?_ ?_ | with_reducible refine Bd.assocL ?_ | with_reducible refine Bd.oklL ?_ | with_reducible exact Bd.same | with_reducible exact Bd.at | dsimp only)) (hj : ∀ j ∈ js, j ∈ own.map (·.2) := by decide) (hv : ∀ a, ((own.map (·.2)).all fun v => Nat.ble (v + 1) (Γ0 a).length) = true := by exact fun _ => rfl) (hd : ∀ a x, Wk (Γg a x) (wipeC (Γ0 a) (own.map (·.2))))
    (hc : X.calm = true := by rfl) (hs : ∀ x, foldedSetIterable iter X.env x = pure x := by intro _; rfl) :
    EX X T W Γx Γ (.ListComp elt [⟨tg, iter, [cnd], 0⟩] scope pos) (tLc wi g tt te (own.map (·.2))) (mi.bind fun a => (R.filC (tf a) (f a) (xs a)).bind fun ys => .ok (a, ys)) (fun t => ol c t.2) (fun t => Γ0 t.1) := by
  obtain rfl : Re = fun a x b => fz c (yv a x b) := funext fun a => funext fun x => funext (hRe a x)
  obtain rfl : Γo = fun a x _ => Γg a x := funext fun a => funext fun x => funext (hΓo a x)
  obtain rfl : Γt = fun a x _ => Γg a x := funext fun a => funext fun x => funext (hΓt a x)
  obtain ⟨a0⟩ := ‹Nonempty α›
  obtain ⟨b0⟩ := ‹Nonempty β›
  refine ⟨pe_lc hc hN hi.pi ok (fun s H C cl fp => (hg s H C cl fp a0 b0).pg) (fun s H C cl fp => pts_one (ht s H C cl fp a0 b0).pt) (fun s H C cl fp => (he s H C cl fp a0 b0).pe) hs, ?_⟩
  exact lct_ev hi (hg X.s_0 (fun _ => none) 0 [] []) hj (fun a v hm => Nat.le_of_ble_eq_true (List.all_eq_true.mp (hv a) v hm)) (ht X.s_0 (fun _ => none) 0 [] []) htb (he X.s_0 (fun _ => none) 0 [] []) hd hb
theorem s1_asgLcT {i : Nat} {y : Str} {py spos : Pos} {tg iter elt cnd : Expr} {scope : Scope} {own : List (Str × Nat)} {pos : Pos} {wi : TI} {g : TG} {tt : TT} {te : TE} {js : List Nat} {α β γ δ ε : Type} [Nonempty α] [Nonempty β] {mi : Res α} {xs : α → List β} {Rb : β → Sl} {Γ0 : α → Ctx} {c : Cod γ} {f : α → β → Res γ} {tf : α → β → Res Bool} {me : α → β → Res δ} {yv : α → β → δ → γ} {mt : α → β → Res ε} {bt : α → β → ε → Bool} {Γg : α → β → Ctx} {Γe : Ctx} {Re : α → β → δ → Sl} {Γo : α → β → δ → Ctx} {Γt : α → β → ε → Ctx} {mn : Res (List γ)}
    (hN : X.N.Nodup) (hy : X.N[i]? = some y) (hyl : X.env.scope.names.lookup y = some .local) (hsw : swapsWith (.ListComp elt [⟨tg, iter, [cnd], 0⟩] scope pos) (some (.Name y py)) spos.line X.env = pure true) (hi : IX X T W Γx Γ tg iter wi mi xs Rb Γ0) (ok : BlkOk X.N X.env.scope scope own)
    (hg : ∀ (s : Shared) (H : Hp) (C : Addr) (cl : List (Str × Addr)) (fp : List Addr) a x, GX (X.blk s H scope (compEnvC scope cl C X.env) fp) tg g js (Rb x) (wipeC (Γ0 a) (own.map (·.2))) (Γg a x))
    (ht : ∀ (s : Shared) (H : Hp) (C : Addr) (cl : List (Str × Addr)) (fp : List Addr) a x, ET (X.blk s H scope (compEnvC scope cl C X.env) fp) T (fun _ _ _ _ => False) Γe (Γg a x) cnd tt (mt a x) (bt a x) (Γt a x))
    (he : ∀ (s : Shared) (H : Hp) (C : Addr) (cl : List (Str × Addr)) (fp : List Addr) a x, EX (X.blk s H scope (compEnvC scope cl C X.env) fp) T (fun _ _ _ _ => False) Γe (Γg a x) elt te (me a x) (Re a x) (Γo a x))
    (hRe : ∀ a x b, Re a x b = fz c (yv a x b) := by exact fun _ _ _ => rfl) (hΓo : ∀ a x b, Γo a x b = Γg a x := by exact fun _ _ _ => rfl) (hΓt : ∀ a x b, Γt a x b = Γg a x := by exact fun _ _ _ => rfl) (htb : ∀ a x, Bd (tf a x) (mt a x) (fun b => .ok (bt a x b)) := by intros; repeat (first | ((with_reducible refine Bd.done ?_); exact rfl) | with_reducible refine Bd.okl ?_ | with_reducible refine Bd.assoc ?_ | with_reducible refine Bd.bind fun _ => ?_ | with_reducible refine Bd.eta fun _ => ?_ | with_reducible refine Bd.iteB ?_ ?_ fun _ => ?_ | with_reducible refine Bd.iteE ?_ ?_ fun _ => ?_ | with_reducible refine Bd.ite ?_ ?_ | with_reducible refine Bd.iteL ?_ ?_ | with_reducible refine Bd.assocL ?_ | with_reducible refine Bd.oklL ?_ | with_reducible exact Bd.same | with_reducible exact Bd.at | dsimp only))
    (hb : ∀ a x, Bd (f a x) (me a x) (fun b => .ok (yv a x b)) := by intros; repeat (first | ((with_reducible refine Bd.done ?_); exact rfl) | with_reducible refine Bd.okl ?_ | with_reducible refine Bd.assoc ?_ | with_reducible refine Bd.bind fun _ => ?_ | with_reducible refine Bd.eta fun _ => ?_ | with_reducible refine Bd.iteB ?_ ?_ fun _ => ?_ | with_reducible refine Bd.iteE ?_ ?_ fun _ => ?_ | with_reducible refine Bd.ite ?_ ?_ | with_reducible refine Bd.iteL ?_ ?_ | with_reducible refine Bd.assocL ?_ | with_reducible refine Bd.oklL ?_ | with_reducible exact Bd.same | with_reducible exact Bd.at | dsimp only)) (hj : ∀ j ∈ js, j ∈ own.map (·.2) := by decide) (hv : ∀ a, ((own.map (·.2)).all fun v => Nat.ble (v + 1) (Γ0 a).length) = true := by exact fun _ => rfl) (hd : ∀ a x, Wk (Γg a x) (wipeC (Γ0 a) (own.map (·.2)))) (hΓ : ∀ t, Γ0 t = Γ := by exact fun _ => rfl) (hl : Nat.ble (i + 1) Γ.length = true := by rfl) (hm : Bd mn (mi.bind fun a => (R.filC (tf a) (f a) (xs a)).bind fun ys => .ok (a, ys)) (fun t => .ok t.2) := by intros; repeat (first | ((with_reducible refine Bd.done ?_); exact rfl) | with_reducible refine Bd.okl ?_ | with_reducible refine Bd.assoc ?_ | with_reducible refine Bd.bind fun _ => ?_ | with_reducible refine Bd.eta fun _ => ?_ | with_reducible refine Bd.iteB ?_ ?_ fun _ => ?_ | with_reducible refine Bd.iteE ?_ ?_ fun _ => ?_ | with_reducible refine Bd.ite ?_ ?_ | with_reducible refine Bd.iteL ?_ ?_ | with_reducible refine Bd.assocL ?_ | with_reducible refine Bd.oklL ?_ | with_reducible exact Bd.same | with_reducible exact Bd.at | dsimp only))
    (hc : X.calm = true := by rfl) (hs : ∀ x, foldedSetIterable iter X.env x = pure x := by intro _; rfl) :
    S1 X T W Γx Γ (.Assign [.Name y py] (.ListComp elt [⟨tg, iter, [cnd], 0⟩] scope pos) spos) (tAsg (tLc wi g tt te (own.map (·.2))) (gName i)) mn (fun v => .nx (Γ.set i (some (ol c v)))) := by
  obtain rfl : Re = fun a x b => fz c (yv a x b) := funext fun a => funext fun x => funext (hRe a x)
  obtain rfl : Γo = fun a x _ => Γg a x := funext fun a => funext fun x => funext (hΓo a x)
  obtain rfl : Γt = fun a x _ => Γg a x := funext fun a => funext fun x => funext (hΓt a x)
  obtain ⟨a0⟩ := ‹Nonempty α›
  obtain ⟨b0⟩ := ‹Nonempty β›
  refine ⟨ps_setLc hc hN hy hyl hsw hi.pi ok (fun s H C cl fp => (hg s H C cl fp a0 b0).pg) (fun s H C cl fp => pts_one (ht s H C cl fp a0 b0).pt) (fun s H C cl fp => (he s H C cl fp a0 b0).pe) hs, fun Z G0 S σ G H D k q => ?_⟩
  exact lct_ev hi (hg X.s_0 (fun _ => none) 0 [] []) hj (fun a v hm => Nat.le_of_ble_eq_true (List.all_eq_true.mp (hv a) v hm)) (ht X.s_0 (fun _ => none) 0 [] []) htb (he X.s_0 (fun _ => none) 0 [] []) hd hb Z G0 S σ G H _ k (Res.wp_mono (hm _ _ q) (fun t q v G' H' k' => by
    rw [hΓ] at k'
    exact q _ G' H' (k'.store (Nat.le_of_ble_eq_true hl))) fun ex q cls d G' H' k' => q cls d σ G' H' k')
end
end Rt
namespace Rt
open PySem L2 R
/-- some places are forgotten -/
def maskC : List Bool → Ctx → Ctx
  | true :: m, x :: Γ => x :: maskC m Γ
  | false :: m, _ :: Γ => none :: maskC m Γ
  | _, Γ => Γ
theorem wk_mask : ∀ (m : List Bool) (Γ : Ctx), Wk Γ (maskC m Γ)
  | [], Γ => Wk.refl _
  | true :: m, [] => Wk.refl _
  | false :: m, [] => Wk.refl _
  | true :: m, _ :: Γ => Wk.cons (wk_mask m Γ)
  | false :: m, _ :: Γ => Wk.none1 (wk_mask m Γ)
theorem wkm (m : List Bool) {Γ Δ : Ctx} (h : Δ = maskC m Γ := by rfl) : Wk Γ Δ := h ▸ wk_mask m Γ
theorem relab {env : Env} : ∀ {names : List (Str × NameKind)} {x : Str} {k : NameKind}, names.lookup x = some k → (k = .cell ∨ k = .free) →
    ((names.map fun (n, k) => if (k == NameKind.free && env.scope.kind == .function && env.kindOf n == some .cell) then (n, NameKind.cell) else (n, k)).lookup x = some .cell ∨
     (names.map fun (n, k) => if (k == NameKind.free && env.scope.kind == .function && env.kindOf n == some .cell) then (n, NameKind.cell) else (n, k)).lookup x = some .free)
  | [], _, _, h, _ => by simp at h
  | (n, k') :: r, x, k, h, hk => by
    rw [List.lookup_cons] at h
    rw [List.map_cons]
    cases e : x == n with
    | true =>
      rw [e] at h
      cases h
      dsimp only
      by_cases q : (k' == NameKind.free && env.scope.kind == .function && env.kindOf n == some .cell) = true
      · rw [if_pos q, List.lookup_cons, e]
        exact .inl rfl
      · rw [if_neg q, List.lookup_cons, e]
        rcases hk with rfl | rfl
        · exact .inl rfl
        · exact .inr rfl
    | false =>
      rw [e] at h
      dsimp only
      have ih := relab (env := env) h hk
      by_cases q : (k' == NameKind.free && env.scope.kind == .function && env.kindOf n == some .cell) = true
      · rw [if_pos q, List.lookup_cons, e]
        exact ih
      · rw [if_neg q, List.lookup_cons, e]
        exact ih
theorem blkOk_in {X : Cx} {N : List Str} {s : Shared} {H : Hp} {scope1 scope : Scope} {cl : List (Str × Addr)} {C : Addr} {fp : List Addr} {own : List (Str × Nat)} (hN : X.N = N) (h : blkC N scope1 scope own = true) : BlkOk (X.blk s H scope1 (compEnvC scope1 cl C X.env) fp).N (X.blk s H scope1 (compEnvC scope1 cl C X.env) fp).env.scope scope own := by
  have e : (X.blk s H scope1 (compEnvC scope1 cl C X.env) fp).N = N := hN
  rw [e]
  refine blkOk_by ?_
  unfold blkC at h ⊢
  simp only [Bool.and_eq_true, List.all_eq_true] at h ⊢
  obtain ⟨⟨⟨h1, h2⟩, h3⟩, h4⟩ := h
  refine ⟨⟨⟨h1, h2⟩, h3⟩, fun y hy => ?_⟩
  have z := h4 y hy
  cases ey : y.2 with
  | free =>
    rw [ey] at z
    have go : ∀ k, scope1.names.lookup y.1 = some k → (k = .cell ∨ k = .free) → (match (X.blk s H scope1 (compEnvC scope1 cl C X.env) fp).env.scope.names.lookup y.1 with | some .cell => true | some .free => true | _ => false) = true := fun k hk hc => by
      rcases relab (env := X.env) hk hc with q | q
      · rw [show (X.blk s H scope1 (compEnvC scope1 cl C X.env) fp).env.scope.names.lookup y.1 = some .cell from q]
      · rw [show (X.blk s H scope1 (compEnvC scope1 cl C X.env) fp).env.scope.names.lookup y.1 = some .free from q]
    cases ek : scope1.names.lookup y.1 with
    | none => rw [ek] at z; cases z
    | some k =>
      rw [ek] at z
      cases k with
      | cell => exact go _ ek (.inl rfl)
      | free => exact go _ ek (.inr rfl)
      | _ => cases z
  | _ => first | rfl | (rw [ey] at z; exact z) | (rw [ey] at z)
end Rt
/-! Rt13: a first argument that is lent and given back changed; the box [digits, place]. -/
namespace Rt
open PySem L2 R
/-- at a place that is known -/
def atP (p : Addr) (s : Sl) : Sl := ⟨fun G H v ps => v = .ref p ∧ s.rel G H v ps, fun h e k => ⟨h.1, s.mono h.2 e k⟩⟩
/-- a list of digits and a place in it -/
def bx (b : List Int × Int) : Sl := ⟨fun G H v ps => ∃ p w, v = .ref p ∧ ps = [p] ∧ H p = some (.lst [w, .int b.2]) ∧ (cList cInt).rel G w b.1, fun h e k => by
  obtain ⟨p, w, h1, h2, h3, h4⟩ := h
  refine ⟨p, w, h1, h2, ?_, (cList cInt).mono h4 e⟩
  rw [k p (by rw [h2]; exact List.mem_cons_self)]
  exact h3⟩
/-- where such a thing may stand: by itself, or at a known place -/
structure Lt {β : Type} (F Fs : β → Sl) : Prop where
  out : ∀ G H v ps b, (Fs b).rel G H v ps → ∃ p, v = .ref p ∧ (F b).rel G H v ps ∧ ∀ G' H' ps' b', (F b').rel G' H' v ps' → (Fs b').rel G' H' v ps'
theorem lt_atP {β : Type} {F : β → Sl} {p : Addr} : Lt F (fun b => atP p (F b)) := ⟨fun G H v ps b h => ⟨p, h.1, h.2, fun _ _ _ _ k => ⟨h.1, k⟩⟩⟩
theorem lt_bx : Lt bx bx := ⟨fun G H v ps b h => by
  obtain ⟨p, w, h1, h2⟩ := h
  exact ⟨p, h1, ⟨p, w, h1, h2⟩, fun _ _ _ _ k => k⟩⟩
theorem Okl.re {Z G0 G H : Hp} {l : List Pl} {s s' : Sl} {v : V} (k : Okl Z G0 ((some s, some v) :: l) G H) (h : ∀ ps, s.rel G H v ps → s'.rel G H v ps) : Okl Z G0 ((some s', some v) :: l) G H := by
  obtain ⟨ps, ⟨p1, p2, rfl, ⟨v', e1, r⟩, h4⟩, h2, h3⟩ := k.own
  cases e1
  exact ⟨k.zh, k.gg, k.gh, k.fr, _, ⟨p1, p2, rfl, ⟨v, rfl, h _ r⟩, h4⟩, h2, h3⟩
/-- what a call of a lending def is -/
def spL {ξ ρ β : Type} (n : Nat) (T : XT) (A : ξ → List (Option Sl)) (F : β → Sl) (f : β → ξ → Res (ρ × β)) (R : ρ → Sl) : Sp := fun vs H Q E => ∃ (p : Addr) (vs' : List V) (b : β) (x : ξ) (Z G0 G : Hp), vs = .ref p :: vs' ∧ vs'.length = n ∧ (A x).length = n ∧
  Okl Z G0 ((some (atP p (F b)), some (.ref p)) :: (A x).zip (vs'.map some)) G H ∧
  (f b x).wp (fun r => ∀ v G' H', Okl Z G0 [(some (R r.1), some v), (some (atP p (F r.2)), some (.ref p))] G' H' → Q v H') (fun ex => ∀ cls d G' H', Okl Z G0 [] G' H' → T.rel ex cls d G' → E cls d H')
section
variable {X : Cx} {T : XT} {W : WX} {Γx Γ : Ctx} {K : PySem.W.Frag}
/-- what a slot owns, ahead of what stands on the stack -/
theorem Okc.takeS {Z G0 G H : Hp} {L S : List Pl} {σ : St} {s : Sl} {i : Nat} (k : Okc Z G0 (L ++ S) Γ σ G H) (h : Γ[i]? = some (some s)) : ∃ v M, σ[i]? = some (some v) ∧ Okl Z G0 ((some s, some v) :: (L ++ M)) G H ∧
    (∀ (Z G0 : Hp) s' r G' H', Okl Z G0 ((some s', some v) :: (r ++ M)) G' H' → Okc Z G0 (r ++ S) (Γ.set i (some s')) σ G' H') ∧ ∀ (Z G0 : Hp) G' H', Okl Z G0 M G' H' → Okc Z G0 S (Γ.set i none) σ G' H' := by
  obtain ⟨w, hw, hz⟩ := zip_get k.len h
  have p1 := perm_at hz
  have k1 : Okl Z G0 ((some s, w) :: ((L ++ S) ++ (Γ.zip σ).eraseIdx i)) G H := k.ok.perm ((p1.append_left (L ++ S)).trans mid)
  obtain ⟨ps, ⟨_, _, _, ⟨v, e1, _⟩, _⟩, _, _⟩ := k1.own
  subst e1
  refine ⟨v, S ++ (Γ.zip σ).eraseIdx i, hw, by rw [← List.append_assoc]; exact k1, fun Z G0 s' r G' H' k2 => ⟨by rw [List.length_set]; exact k.len, ?_⟩, fun Z G0 G' H' k2 => ⟨by rw [List.length_set]; exact k.len, ?_⟩⟩
  all_goals
    have e : σ = σ.set i (some v) := by
      refine List.ext_getElem? fun j => ?_
      rw [List.getElem?_set]
      by_cases q : i = j
      · subst q
        rw [if_pos rfl, if_pos (List.getElem?_eq_some_iff.mp hw).1, hw]
      · rw [if_neg q]
  · have p2 := perm_set (y := (some s', some v)) hz
    have z := zip_set (Γ := Γ) (σ := σ) (i := i) (o := some s') (w := some v)
    rw [← e] at z
    rw [z]
    rw [← List.append_assoc] at k2
    exact k2.perm (mid.symm.trans (p2.symm.append_left (r ++ S)))
  · have p2 := perm_set (y := (none, some v)) hz
    have z := zip_set (Γ := Γ) (σ := σ) (i := i) (o := none) (w := some v)
    rw [← e] at z
    rw [z]
    exact (Okl.noneOn (w := some v) k2).perm (mid.symm.trans (p2.symm.append_left S))
theorem callL_ev {ξ ρ β α : Type} {n i : Nat} {A : ξ → List (Option Sl)} {F Fs : β → Sl} {f : β → ξ → Res (ρ × β)} {R : ρ → Sl} {es : List Expr} {ta : TA} {m1 : Res α} {Rs : α → List Sl} {Γ1 : α → Ctx} {b : α → β} {x : α → ξ} {s0 : Sl} (lt : Lt F Fs) (hn : ∀ x, (A x).length = n) (h0 : Γ[i]? = some (some s0))
    (ha : AX X T W Γx Γ es ta m1 Rs Γ1) (hx : ∀ t, ArgOf A (Rs t) (x t)) (h1 : ∀ t, (Γ1 t)[i]? = some (some (Fs (b t)))) (hw : ∀ t, Wk ((Γ1 t).set i none) Γx)
    (Z G0 : Hp) (S : List Pl) (σ : St) (G H : Hp) (Q : VK) (k : Okc Z G0 S Γ σ G H)
    (q : (m1.bind fun t => (f (b t) (x t)).bind fun r => .ok (t, r)).wp (fun t => ∀ v G' H', Okc Z G0 ((some (R t.2.1), some v) :: S) ((Γ1 t.1).set i (some (Fs t.2.2))) σ G' H' → Q v H') (fun ex => ∀ cls d G' H', Okc Z G0 S Γx σ G' H' → T.rel ex cls d G' → W cls d σ H')) :
    tCons (tVar i) ta σ H fun vs H1 => spL n T A F f R vs H1 Q (WE W σ) := by
  obtain ⟨v, _, hv, _, _⟩ := k.take h0
  refine ⟨v, hv, ?_⟩
  refine ha.ev Z G0 S σ G H _ k (Res.wp_mono (Res.wp_bind q) (fun t q vs G1 H1 hl k1 => ?_) fun ex q => q)
  obtain ⟨v', M, hv', k2, back, bare⟩ := k1.takeS (h1 t)
  rw [hv] at hv'
  cases hv'
  obtain ⟨ps, ⟨p1, p2, _, ⟨v', e1, r⟩, _⟩, _, _⟩ := k2.own
  cases e1
  obtain ⟨p, rfl, _, _⟩ := lt.out _ _ _ _ _ r
  have k3 : Okl Z G0 ((some (atP p (F (b t))), some (.ref p)) :: (plz (Rs t) vs ++ M)) G1 H1 := k2.re fun ps r => by
    obtain ⟨_, _, r2, _⟩ := lt.out _ _ _ _ _ r
    exact ⟨rfl, r2⟩
  have bk : ∀ G' H' ps' b', (F b').rel G' H' (.ref p) ps' → (Fs b').rel G' H' (.ref p) ps' := by
    obtain ⟨_, _, _, r3⟩ := lt.out _ _ _ _ _ r
    exact r3
  obtain ⟨Zc, l1, l2⟩ := Okl.lend (l := (some (atP p (F (b t))), some (.ref p)) :: plz (Rs t) vs) (m := M) k3
  have e : A (x t) = (Rs t).map some := hx t
  refine ⟨p, vs, b t, x t, Zc, G1, G1, rfl, ?_, hn _, ?_, Res.wp_mono (Res.wp_bind q) (fun r q v G' H' k' => ?_) fun ex q cls d G' H' k' => q cls d G' H' (hw t _ _ _ _ _ _ (bare _ _ _ _ (l2 [] G' H' k')))⟩
  · rw [← hl, ← hn (x t), e, List.length_map]
  · rw [e]
    exact l1
  · have k4 : Okl Z G0 ((some (R r.1), some v) :: (some (atP p (F r.2)), some (.ref p)) :: M) G' H' := l2 _ G' H' k'
    have k5 := (k4.perm (List.Perm.swap _ _ _)).re (s' := Fs r.2) fun ps h => bk _ _ _ _ h.2
    exact q v G' H' (back _ _ (Fs r.2) [(some (R r.1), some v)] G' H' k5)
theorem ex_callL {ξ ρ β α : Type} {n k j : Nat} (i : Nat) {A : ξ → List (Option Sl)} {F Fs : β → Sl} {f : β → ξ → Res (ρ × β)} {R : ρ → Sl} {ps : List Str} {x y : Str} {p py pos : Pos} {es : List Expr} {ta : TA} {m1 : Res α} {Rs : α → List Sl} {Γ1 : α → Ctx} {b : α → β} {a : α → ξ} {s0 : Sl}
    (kn : Kn X.prog X.w X.K X.mg X.base k x ps (spL n T A F f R)) (hr : Room j X.A) (tk : Takes X W) (lt : Lt F Fs) (hn : ∀ x, (A x).length = n) (ha : AX X T W Γx Γ es ta m1 Rs Γ1) (hx : ∀ t, ArgOf A (Rs t) (a t)) (hw : ∀ t, Wk ((Γ1 t).set i none) Γx) (h0 : Γ[i]? = some (some s0) := by rfl) (h1 : ∀ t, (Γ1 t)[i]? = some (some (Fs (b t))) := by exact fun _ => rfl) (hj : k ≤ j := by decide)
    (hN : X.N[i]? = some y := by rfl) (hv : Vis X.env.scope y := by first | exact Or.inl rfl | exact Or.inr (Or.inl rfl) | exact Or.inr (Or.inr rfl)) (hd : (y == ("__debug__" : Str)) = false := by decide) (hcd : (y == ("__classdict__" : Str)) = false := by decide)
    (hg : Gl X x := by rfl) (hdb : (x == ("__debug__" : Str)) = false := by decide) (he : starEach (.Name y py :: es) X.env = (false, eval (.Name y py) X.env) :: starEach es X.env := by rfl) (hpl : (backTo pos (starEach es X.env)).any (·.1) = false := by rfl) :
    EX X T W Γx Γ (.Call (.Name x p) (.Name y py :: es) [] pos) (tCallS (spL n T A F f R) (WE W) (tCons (tVar i) ta)) (m1.bind fun t => (f (b t) (a t)).bind fun r => .ok (t, r)) (fun t => R t.2.1) (fun t => (Γ1 t.1).set i (some (Fs t.2.2))) := by
  obtain ⟨fa, fd, h1', h2, h3, FO⟩ := kn
  exact ⟨pe_callS FO (hr.mono hj) hg h1' h2 h3 (fun σ => passAt tk σ) (pa_cons (pv i hN hv hd hcd) ha.pa he) hdb he hpl, callL_ev lt hn h0 ha hx h1 hw⟩
/-- at the end: what is handed back, and the lent thing -/
theorem Okc.pick {Z G0 G H : Hp} {S : List Pl} {σ : St} {x : Pl} {s : Sl} {p : Addr} {i : Nat} (k : Okc Z G0 (x :: S) Γ σ G H) (h : Γ[i]? = some (some (atP p s))) : Okl Z G0 (x :: ([(some (atP p s), some (.ref p))] ++ S)) G H := by
  obtain ⟨w, hw, hz⟩ := zip_get k.len h
  have p1 := perm_at hz
  have k1 : Okl Z G0 ((some (atP p s), w) :: ((x :: S) ++ (Γ.zip σ).eraseIdx i)) G H := k.ok.perm ((p1.append_left (x :: S)).trans mid)
  obtain ⟨ps, ⟨_, _, _, ⟨v, e1, r⟩, _⟩, _, _⟩ := k1.own
  subst e1
  obtain ⟨rfl, _⟩ := r
  have k2 : Okl Z G0 ((Γ.zip σ).eraseIdx i ++ ((some (atP p s), some (.ref p)) :: x :: S)) G H := k1.perm ((List.perm_append_comm (l₁ := (some (atP p s), some (V.ref p)) :: x :: S)))
  exact k2.sub.perm (List.Perm.swap _ _ _)
/-- return e; the lent thing is given back -/
theorem sx_retL {e : Expr} {te : TE} {pos : Pos} {rest : List Stmt} {α ρ β : Type} {i : Nat} {mn : Res (ρ × β)} {me : Res α} {R : α → Sl} {Γo : α → Ctx} {g : α → ρ} {s : α → β} {R' : ρ → Sl} {F : β → Sl} {p : Addr} (he : EX X T W Γx Γ e te me R Γo) (hR : ∀ a, R a = R' (g a)) (hS : ∀ a, (Γo a)[i]? = some (some (atP p (F (s a)))))
    (hb : Bd mn me (fun a => .ok (g a, s a)) := by intros; repeat (first | ((with_reducible refine Bd.done ?_); exact rfl) | with_reducible refine Bd.okl ?_ | with_reducible refine Bd.assoc ?_ | with_reducible refine Bd.bind fun _ => ?_ | with_reducible refine Bd.eta fun _ => ?_ | with_reducible refine Bd.iteB ?_ ?_ fun _ => ?_ | with_reducible refine Bd.iteE ?_ ?_ fun _ => ?_ | with_reducible refine Bd.ite ?_ ?_ | with_reducible refine Bd.iteL ?_ ?_ | with_reducible refine Bd.assocL ?_ | with_reducible refine Bd.oklL ?_ | with_reducible exact Bd.same | with_reducible exact Bd.at | dsimp only)) :
    SX X T W Γx Γ (.Return (some e) pos :: rest) (tSeq (tRet te) tNever) mn (fun r => .ret (R' r.1) [(some (atP p (F r.2)), some (.ref p))]) :=
  ⟨pss_cons (ps_ret he.pe) pss_never, fun Z G0 S σ G H D k q => he.ev Z G0 S σ G H _ k (Res.wp_mono (hb _ _ q) (fun a q v G' H' k' => by
    have z := q v G' H'
    rw [← hR] at z
    refine z ?_
    exact Okc.pick k' (hS a)) fun ex q cls d G' H' k' => q cls d σ G' H' k')⟩
/-! ### what an expression gives, in a nice form -/
theorem EX.nf {e : Expr} {te : TE} {α γ ν : Type} {m : Res α} {mn : Res (γ × ν)} {R : α → Sl} {R' : γ → Sl} {Γo : α → Ctx} {Γs : ν → Ctx} {g : α → γ} {s : α → ν} (h : EX X T W Γx Γ e te m R Γo) (hR : ∀ a, R a = R' (g a) := by exact fun _ => rfl) (hΓ : ∀ a, Γo a = Γs (s a) := by exact fun _ => rfl) (hb : Bd mn m (fun a => .ok (g a, s a)) := by intros; repeat (first | ((with_reducible refine Bd.done ?_); exact rfl) | with_reducible refine Bd.okl ?_ | with_reducible refine Bd.assoc ?_ | with_reducible refine Bd.bind fun _ => ?_ | with_reducible refine Bd.eta fun _ => ?_ | with_reducible refine Bd.iteB ?_ ?_ fun _ => ?_ | with_reducible refine Bd.iteE ?_ ?_ fun _ => ?_ | with_reducible refine Bd.ite ?_ ?_ | with_reducible refine Bd.iteL ?_ ?_ | with_reducible refine Bd.assocL ?_ | with_reducible refine Bd.oklL ?_ | with_reducible exact Bd.same | with_reducible exact Bd.at | dsimp only)) :
    EX X T W Γx Γ e te mn (fun r => R' r.1) (fun r => Γs r.2) :=
  ⟨h.pe, fun Z G0 S σ G H Q k q => h.ev Z G0 S σ G H Q k (Res.wp_mono (hb _ _ q) (fun a q v G' H' k' => by
    rw [hR, hΓ] at k'
    exact q v G' H' k') fun _ z => z)⟩
theorem ET.nf {e : Expr} {te : TT} {α ν : Type} {m : Res α} {mn : Res (Bool × ν)} {b : α → Bool} {Γo : α → Ctx} {Γs : ν → Ctx} {s : α → ν} (h : ET X T W Γx Γ e te m b Γo) (hΓ : ∀ a, Γo a = Γs (s a) := by exact fun _ => rfl) (hb : Bd mn m (fun a => .ok (b a, s a)) := by intros; repeat (first | ((with_reducible refine Bd.done ?_); exact rfl) | with_reducible refine Bd.okl ?_ | with_reducible refine Bd.assoc ?_ | with_reducible refine Bd.bind fun _ => ?_ | with_reducible refine Bd.eta fun _ => ?_ | with_reducible refine Bd.iteB ?_ ?_ fun _ => ?_ | with_reducible refine Bd.iteE ?_ ?_ fun _ => ?_ | with_reducible refine Bd.ite ?_ ?_ | with_reducible refine Bd.iteL ?_ ?_ | with_reducible refine Bd.assocL ?_ | with_reducible refine Bd.oklL ?_ | with_reducible exact Bd.same | with_reducible exact Bd.at | dsimp only)) :
    ET X T W Γx Γ e te mn (fun r => r.1) (fun r => Γs r.2) :=
  ⟨h.pt, fun Z G0 S σ G H Q k q => h.ev Z G0 S σ G H Q k (Res.wp_mono (hb _ _ q) (fun a q G' H' k' => by
    rw [hΓ] at k'
    exact q G' H' k') fun _ z => z)⟩
theorem IX.nf {tg iter : Expr} {wi : TI} {α β ν : Type} {mi : Res α} {mn : Res (List β × ν)} {xs : α → List β} {Rb : β → Sl} {Γ0 : α → Ctx} {Γs : ν → Ctx} {s : α → ν} (h : IX X T W Γx Γ tg iter wi mi xs Rb Γ0) (hΓ : ∀ a, Γ0 a = Γs (s a) := by exact fun _ => rfl) (hb : Bd mn mi (fun a => .ok (xs a, s a)) := by intros; repeat (first | ((with_reducible refine Bd.done ?_); exact rfl) | with_reducible refine Bd.okl ?_ | with_reducible refine Bd.assoc ?_ | with_reducible refine Bd.bind fun _ => ?_ | with_reducible refine Bd.eta fun _ => ?_ | with_reducible refine Bd.iteB ?_ ?_ fun _ => ?_ | with_reducible refine Bd.iteE ?_ ?_ fun _ => ?_ | with_reducible refine Bd.ite ?_ ?_ | with_reducible refine Bd.iteL ?_ ?_ | with_reducible refine Bd.assocL ?_ | with_reducible refine Bd.oklL ?_ | with_reducible exact Bd.same | with_reducible exact Bd.at | dsimp only)) :
    IX X T W Γx Γ tg iter wi mn (fun r => r.1) Rb (fun r => Γs r.2) :=
  ⟨h.pi, fun Z G0 S σ G H Rk k q => h.ev Z G0 S σ G H Rk k (Res.wp_mono (hb _ _ q) (fun a q => by
    have z := hΓ a
    rw [z]
    exact q) fun _ z => z)⟩
theorem Bd.at' {α : Type} {m : Res α} : Bd m m (fun t => .ok t) := fun _ _ h => h
theorem sx_ifretCE {c : Expr} {tc : TT} {A rest : List Stmt} {pos : Pos} {tA tr : TS} {ν δ β : Type} [Nonempty ν] {mn : Res (Bool × ν)} {Γs : ν → Ctx} {mA : Bool × ν → Res δ} {mr : Bool × ν → Res β} {IA : δ → Out} {I : β → Out} {j : δ → β} (hc : ET X T W Γx Γ c tc mn (fun r => r.1) (fun r => Γs r.2))
    (hA : ∀ r : Bool × ν, SX X T W Γx (Γs r.2) A tA (mA r) IA) (hr : ∀ r : Bool × ν, SX X T W Γx (Γs r.2) rest tr (mr r) I) (hj : ∀ a, I (j a) = IA a := by exact fun _ => rfl) (hI : ∀ a D N Z G0 S, (IA a).go D Z G0 S → (IA a).go { D with nx := N } Z G0 S := by exact fun _ _ _ _ _ _ z => z) :
    SX X T W Γx Γ (.If c A [] pos :: rest) (tSeq (tIfS tc tA tNext) tr) (mn.bind fun v => if v.1 then (mA v).bind fun a => .ok (j a) else mr v) I := by
  obtain ⟨x⟩ := ‹Nonempty ν›
  refine ⟨pss_cons (ps_if hc.pt (hA (true, x)).ps pss_nil) (hr (true, x)).ps, fun Z G0 S σ G H D k q => ?_⟩
  refine if_ev (DA := fun D => { D with nx := tr D }) (mn := mn) (f := fun r => r) (b' := fun r => r.1) (Γ' := fun r => Γs r.2) (mA := fun r => (mA r).bind fun a => .ok (j a)) (mB := mr) hc (fun _ => rfl) (fun _ => rfl) (fun v Z G0 S σ G H D k q => ?_) (fun v Z G0 S σ G H D k q => (hr v).ev Z G0 S σ G H D k q) Bd.at' Z G0 S σ G H D k q
  refine (hA v).ev Z G0 S σ G H _ k (Res.wp_mono (Res.wp_bind q) (fun a z => hI a _ _ _ _ _ ?_) fun _ z => z)
  have z' : (I (j a)).go D Z G0 S := z
  rw [hj] at z'
  exact z'
theorem s1_pushE {i : Nat} {x : Str} {e : Expr} {te : TE} {p1 p2 p3 pos : Pos} {α γ ν : Type} {c : Cod γ} {m1 : Res α} {Rm : α → Sl} {Γo : α → Ctx} {a : α → γ} {s : α → ν} {xs : List γ} {mn : Res (List γ × ν)} {Γs : ν → Ctx} (he : EX X T W Γx Γ e te m1 Rm Γo) (hR : ∀ t, Rm t = fz c (a t) := by exact fun _ => rfl) (hΓo : ∀ t, Γo t = Γs (s t) := by exact fun _ => rfl)
    (h0 : Γ[i]? = some (some (ol c xs)) := by rfl) (h : ∀ s, (Γs s)[i]? = some (some (ol c xs)) := by exact fun _ => rfl) (hN : X.N[i]? = some x := by rfl) (hv : Vis X.env.scope x := by first | exact Or.inl rfl | exact Or.inr (Or.inl rfl) | exact Or.inr (Or.inr rfl)) (hb : Bd mn (m1.bind fun t => (R.push xs (a t)).bind fun ys => .ok (t, ys)) (fun t => .ok (t.2, s t.1)) := by intros; repeat (first | ((with_reducible refine Bd.done ?_); exact rfl) | with_reducible refine Bd.okl ?_ | with_reducible refine Bd.assoc ?_ | with_reducible refine Bd.bind fun _ => ?_ | with_reducible refine Bd.eta fun _ => ?_ | with_reducible refine Bd.iteB ?_ ?_ fun _ => ?_ | with_reducible refine Bd.iteE ?_ ?_ fun _ => ?_ | with_reducible refine Bd.ite ?_ ?_ | with_reducible refine Bd.iteL ?_ ?_ | with_reducible refine Bd.assocL ?_ | with_reducible refine Bd.oklL ?_ | with_reducible exact Bd.same | with_reducible exact Bd.at | dsimp only))
    (hK : X.K = K := by rfl) (hd : (x == ("__debug__" : Str)) = false := by decide) (hcd : (x == ("__classdict__" : Str)) = false := by decide)
    (hpe : ∀ {to : TE} {ta : TA}, PE X (.Name x p1) to → PA X [e] ta → PE X (.Call (.Attribute (.Name x p1) "append" p2) [e] [] p3) (tBM X.K "list" rAppend to ta) := by exact fun h1 h2 => pe_bm PySem.F.plainAttrs_list PySem.F.slot_list_append PySem.F.type_list_append mt_append h1 h2)
    (hst : starEach (e :: []) X.env = (false, eval e X.env) :: starEach [] X.env := by rfl) (hs : swapsWith (.Call (.Attribute (.Name x p1) "append" p2) [e] [] p3) none pos.line X.env = pure false := by rfl) :
    S1 X T W Γx Γ (.Expr (.Call (.Attribute (.Name x p1) "append" p2) [e] [] p3) pos) (tDrop (tBM K "list" rAppend (tVar i) (tCons te tNil))) mn (fun r => .nx ((Γs r.2).set i (some (ol c r.1)))) := by
  subst hK
  obtain rfl : Rm = fun t => fz c (a t) := funext hR
  obtain rfl : Γo = fun t => Γs (s t) := funext hΓo
  exact s1_append (Γ' := fun r => Γs r.2) (ys := fun r => r.1) (f := fun t u => (u, s t)) he (fun t => h (s t)) (fun _ _ => rfl) (fun _ _ => rfl) ⟨xs, h0⟩ hN hv rfl hd hcd (hpe (pv i hN hv hd hcd) (pa_cons he.pe pa_nil hst)) hb hs
/-! ### the box -/
theorem bx_own {Z G0 G H : Hp} {l : List Pl} {p : Addr} {b : List Int × Int} {v : V} (k : Okl Z G0 ((some (atP p (bx b)), some v) :: l) G H) : ∃ w, v = .ref p ∧ H p = some (.lst [w, .int b.2]) ∧ (cList cInt).rel G w b.1 ∧
    ∀ i : Int, Okl Z G0 ((some (atP p (bx (b.1, i))), some v) :: l) G (upd H p (.lst [w, .int i])) := by
  obtain ⟨ps, ⟨p1, p2, _, ⟨v', e1, rfl, p', w, e2, e3, h3, hr⟩, _⟩, _, _⟩ := k.own
  cases e1
  cases e2
  refine ⟨w, rfl, h3, hr, fun i => k.write (p := p) (fun v ps e r => ?_) ⟨rfl, p, w, rfl, rfl, upd_same, hr⟩⟩
  obtain ⟨rfl, p', _, e2, e4, _⟩ := r
  cases e2
  exact e4
theorem ex_box1 (i : Nat) {p : Addr} {b : List Int × Int} {x : Str} {p1 p2 pos : Pos} {j : Nat} (h : Γ[i]? = some (some (atP p (bx b))) := by rfl) (hN : X.N[i]? = some x := by rfl)
    (hv : Vis X.env.scope x := by first | exact Or.inl rfl | exact Or.inr (Or.inl rfl) | exact Or.inr (Or.inr rfl)) (hK : X.K = K := by rfl) (hd : (x == ("__debug__" : Str)) = false := by decide) (hcd : (x == ("__classdict__" : Str)) = false := by decide) :
    EX X T W Γx Γ (.Subscript (.Name x p1) (.Constant (.int 1) j p2) pos) (tOp (rIxL K) (tVar i) (tC (.int 1))) (.ok ()) (fun _ => sI b.2) (fun _ => Γ) := by
  subst hK
  refine ⟨pe_ix L2.ix_list (pv i hN hv hd hcd) pe_int (fun _ _ => rfl), fun Z G0 S σ G H Q k q => ?_⟩
  obtain ⟨v, l, hw, k1, _⟩ := k.take h
  obtain ⟨w, rfl, h3, hr, _⟩ := bx_own k1
  exact ⟨_, hw, p, [w, .int b.2], 1, .int b.2, rfl, rfl, SqL.of h3, rfl, q _ G H (k.pushf (c := cInt) rfl)⟩
theorem ex_box0 (i : Nat) {p : Addr} {b : List Int × Int} {x : Str} {p1 p2 pos : Pos} {j : Nat} (h : Γ[i]? = some (some (atP p (bx b))) := by rfl) (hN : X.N[i]? = some x := by rfl)
    (hv : Vis X.env.scope x := by first | exact Or.inl rfl | exact Or.inr (Or.inl rfl) | exact Or.inr (Or.inr rfl)) (hK : X.K = K := by rfl) (hd : (x == ("__debug__" : Str)) = false := by decide) (hcd : (x == ("__classdict__" : Str)) = false := by decide) :
    EX X T W Γx Γ (.Subscript (.Name x p1) (.Constant (.int 0) j p2) pos) (tOp (rIxL K) (tVar i) (tC (.int 0))) (.ok ()) (fun _ => fz (cList cInt) b.1) (fun _ => Γ) := by
  subst hK
  refine ⟨pe_ix L2.ix_list (pv i hN hv hd hcd) pe_int (fun _ _ => rfl), fun Z G0 S σ G H Q k q => ?_⟩
  obtain ⟨v, l, hw, k1, _⟩ := k.take h
  obtain ⟨w, rfl, h3, hr, _⟩ := bx_own k1
  exact ⟨_, hw, p, [w, .int b.2], 0, w, rfl, rfl, SqL.of h3, rfl, q _ G H (k.pushf (c := cList cInt) hr)⟩
theorem s1_box {i : Nat} {x : Str} {e : Expr} {te : TE} {p1 p2 p3 pos : Pos} {jc : Nat} {α : Type} {m1 : Res α} {p : Addr} {b : List Int × Int} {Rm : α → Sl} {Γo : α → Ctx} {a : α → Int} {mn : Res Int} (he : EX X T W Γx Γ e te m1 Rm Γo) (hR : ∀ t, Rm t = sI (a t) := by exact fun _ => rfl) (hΓo : ∀ t, Γo t = Γ := by exact fun _ => rfl)
    (h : Γ[i]? = some (some (atP p (bx b))) := by rfl) (hN : X.N[i]? = some x := by rfl) (hv : Vis X.env.scope x := by first | exact Or.inl rfl | exact Or.inr (Or.inl rfl) | exact Or.inr (Or.inr rfl)) (hb : Bd mn m1 (fun t => .ok (a t)) := by intros; repeat (first | ((with_reducible refine Bd.done ?_); exact rfl) | with_reducible refine Bd.okl ?_ | with_reducible refine Bd.assoc ?_ | with_reducible refine Bd.bind fun _ => ?_ | with_reducible refine Bd.eta fun _ => ?_ | with_reducible refine Bd.iteB ?_ ?_ fun _ => ?_ | with_reducible refine Bd.iteE ?_ ?_ fun _ => ?_ | with_reducible refine Bd.ite ?_ ?_ | with_reducible refine Bd.iteL ?_ ?_ | with_reducible refine Bd.assocL ?_ | with_reducible refine Bd.oklL ?_ | with_reducible exact Bd.same | with_reducible exact Bd.at | dsimp only))
    (hd : (x == ("__debug__" : Str)) = false := by decide) (hcd : (x == ("__classdict__" : Str)) = false := by decide) (hpg : ∀ {to ti : TE}, PE X (.Name x p1) to → PE X (.Constant (.int 1) jc p3) ti → PG X (.Subscript (.Name x p1) (.Constant (.int 1) jc p3) p2) (gSub to ti rSetL) := by exact fun h1 h2 => pg_sub h1 h2 set_list)
    (hs : swapsWithSole [.Subscript (.Name x p1) (.Constant (.int 1) jc p3) p2] e pos.line X.env = pure false := by rfl) (hw : swappedStores [.Subscript (.Name x p1) (.Constant (.int 1) jc p3) p2] e X.env = pure none := by rfl) :
    S1 X T W Γx Γ (.Assign [.Subscript (.Name x p1) (.Constant (.int 1) jc p3) p2] e pos) (tAsg te (gSub (tVar i) (tC (.int 1)) rSetL)) mn (fun y => .nx (Γ.set i (some (atP p (bx (b.1, y)))))) := by
  obtain rfl : Rm = fun t => sI (a t) := funext hR
  obtain rfl : Γo = fun _ => Γ := funext hΓo
  refine ⟨ps_asg he.pe (hpg (pv i hN hv hd hcd) pe_int) hs hw, fun Z G0 S σ G H D kk q => ?_⟩
  refine he.ev Z G0 S σ G H _ kk (Res.wp_mono (hb _ _ q) (fun t q y G1 H1 k1 => ?_) fun ex q cls d G' H' k' => q cls d σ G' H' k')
  have hy : y = .int (a t) := k1.tp
  subst hy
  obtain ⟨v, l, hw, k2, back⟩ := k1.drop.take h
  obtain ⟨w, rfl, h3, hr, up⟩ := bx_own k2
  exact ⟨.ref p, hw, p, [w, .int b.2], 1, 1, rfl, rfl, h3, rfl, q σ G1 _ (back _ _ _ (up (a t)))⟩
/-- [digits, place] -/
theorem ex_box {es : List Expr} {pos : Pos} {ta : TA} {α : Type} {m : Res α} {Rs : α → List Sl} {ds : α → List Int} {n : α → Int} {Γo : α → Ctx} (h : AX X T W Γx Γ es ta m Rs Γo) (hR : ∀ t, Rs t = [fz (cList cInt) (ds t), sI (n t)] := by exact fun _ => rfl) :
    EX X T W Γx Γ (.List es pos) (tLst ta) m (fun t => bx (ds t, n t)) Γo := by
  obtain rfl : Rs = fun t => [fz (cList cInt) (ds t), sI (n t)] := funext hR
  refine ⟨pe_lst h.pa, fun Z G0 S σ G H Q k q => h.ev Z G0 S σ G H _ k (Res.wp_mono q (fun t q vs G' H' hl k' => ?_) fun _ z => z)⟩
  obtain ⟨v, w, rfl, hv, hw, k2⟩ := ax2 hl k'
  have hw' : w = .int (n t) := hw
  subst hw'
  refine ⟨(by decide +kernel : 2 ≤ sizeLine), fun pa hp => q _ _ _ ⟨k2.len, k2.ok.layOwn (s := bx (ds t, n t)) hp ⟨pa, v, rfl, rfl, upd_same, hv⟩⟩⟩
/-! ### tests that change what is lent -/
theorem ew_andS {a c : Expr} {rest : List Expr} {pos : Pos} {t u : TT} {α β ν : Type} [Nonempty α] {m1 : Res α} {b1 : α → Bool} {Γ1 : α → Ctx} {m2 : α → Res β} {b2 : α → β → Bool} {Γ2 : α → β → Ctx} {Γs : ν → Ctx} {s1 : α → ν} {s2 : α → β → ν} (h1 : ET X T W Γx Γ a t m1 b1 Γ1) (h2 : ∀ x, EW X T W Γx (Γ1 x) (.BoolOp .And (c :: rest) pos) u (m2 x) (b2 x) (Γ2 x))
    (hΓ1 : ∀ x, Γ1 x = Γs (s1 x) := by exact fun _ => rfl) (hΓ : ∀ x y, Γ2 x y = Γs (s2 x y) := by exact fun _ _ => rfl) : EW X T W Γx Γ (.BoolOp .And (a :: c :: rest) pos) (tAnd t u) (m1.bind fun x => if b1 x then (m2 x).bind fun y => .ok (b2 x y, s2 x y) else .ok (false, s1 x)) (fun r => r.1) (fun r => Γs r.2) := by
  obtain ⟨x⟩ := ‹Nonempty α›
  refine ⟨pw_and h1.pt (h2 x).pw, fun Z G0 S σ G H Q k q => h1.ev Z G0 S σ G H _ k (Res.wp_mono (Res.wp_bind q) (fun x q G' H' k' => ?_) fun _ z => z)⟩
  cases e : b1 x with
  | true =>
    rw [e] at q
    exact (h2 x).ev Z G0 S σ G' H' _ k' (Res.wp_mono (Res.wp_bind (show ((m2 x).bind fun y => Res.ok (b2 x y, s2 x y)).wp _ _ from q)) (fun y q G' H' k' => by
      rw [hΓ] at k'
      exact q G' H' k') fun _ z => z)
  | false =>
    rw [e] at q
    rw [hΓ1] at k'
    exact q G' H' k'
theorem ew_orS {a c : Expr} {rest : List Expr} {pos : Pos} {t u : TT} {α β ν : Type} [Nonempty α] {m1 : Res α} {b1 : α → Bool} {Γ1 : α → Ctx} {m2 : α → Res β} {b2 : α → β → Bool} {Γ2 : α → β → Ctx} {Γs : ν → Ctx} {s1 : α → ν} {s2 : α → β → ν} (h1 : ET X T W Γx Γ a t m1 b1 Γ1) (h2 : ∀ x, EW X T W Γx (Γ1 x) (.BoolOp .Or (c :: rest) pos) u (m2 x) (b2 x) (Γ2 x))
    (hΓ1 : ∀ x, Γ1 x = Γs (s1 x) := by exact fun _ => rfl) (hΓ : ∀ x y, Γ2 x y = Γs (s2 x y) := by exact fun _ _ => rfl) : EW X T W Γx Γ (.BoolOp .Or (a :: c :: rest) pos) (tOr t u) (m1.bind fun x => if b1 x then .ok (true, s1 x) else (m2 x).bind fun y => .ok (b2 x y, s2 x y)) (fun r => r.1) (fun r => Γs r.2) := by
  obtain ⟨x⟩ := ‹Nonempty α›
  refine ⟨pw_or h1.pt (h2 x).pw, fun Z G0 S σ G H Q k q => h1.ev Z G0 S σ G H _ k (Res.wp_mono (Res.wp_bind q) (fun x q G' H' k' => ?_) fun _ z => z)⟩
  cases e : b1 x with
  | true =>
    rw [e] at q
    rw [hΓ1] at k'
    exact q G' H' k'
  | false =>
    rw [e] at q
    exact (h2 x).ev Z G0 S σ G' H' _ k' (Res.wp_mono (Res.wp_bind (show ((m2 x).bind fun y => Res.ok (b2 x y, s2 x y)).wp _ _ from q)) (fun y q G' H' k' => by
      rw [hΓ] at k'
      exact q G' H' k') fun _ z => z)
/-! ### a def that lends -/
section
variable {P : Program} {w : World} {mg : Str → Option Value} {base : Heap}
theorem fn_mkL {x qual : Str} {st : Stmt} {f : Addr} {fd : FuncData} {N ps : List Str} {k n : Nat} {ξ ρ β : Type} {A : ξ → List (Option Sl)} {F : β → Sl} {g : β → ξ → Res (ρ × β)} {R : ρ → Sl} (FF : Fun K x qual st f fd) (Sc : FnScope N ps (defScope st)) (hn : ps.length = n + 1)
    (hbody : ∀ (cdv : Value) (Ar : Around) (outer : List Env) (s : Shared) (H : Hp) (E : XK), Room k (Ar.deeper (PyProof.Rows.envOfC qual (defScope st) s.heap.objs.size f cdv)) → Takes (cxOf (L2.CX P w) P w K mg base N qual (defScope st) f cdv Ar outer s H E) (fun cls d _ H => E cls d H) →
      PassesOwn (model P w) (Ar.deeper (PyProof.Rows.envOfC qual (defScope st) s.heap.objs.size f cdv)) (PyProof.Rows.envOfC qual (defScope st) s.heap.objs.size f cdv) (cxOf (L2.CX P w) P w K mg base N qual (defScope st) f cdv Ar outer s H E).xe → ∀ (p : Addr) (b : β) (a : ξ), (A a).length = n →
      ∃ ts, SX (cxOf (L2.CX P w) P w K mg base N qual (defScope st) f cdv Ar outer s H E) T (fun cls d _ H => E cls d H) (List.replicate N.length none) (some (atP p (F b)) :: (A a ++ List.replicate (N.length - (n + 1)) none)) (defBody st) ts (g b a) (fun r => .ret (R r.1) [(some (atP p (F r.2)), some (.ref p))])) :
    FnOk P w K mg base (L2.CX P w) (k + 1) f fd ps (spL n T A F g R) := by
  refine FF.okX Sc (fun vs H Q E h => ?_) (fun cdv Ar outer s H vs Q E hr h => ?_)
  · obtain ⟨p, vs', _, _, _, _, _, h1, h2, _⟩ := h
    rw [h1, hn, List.length_cons, h2]
  · obtain ⟨p, vs', b, a, Z, G0, G, rfl, h1, h2, h3, h4⟩ := h
    obtain ⟨ts, hs⟩ := hbody cdv Ar outer s H E hr (takes_of rfl rfl rfl rfl) (passes_of rfl) p b a h2
    refine ⟨ts, hs.ps, hs.ev Z G0 [] _ G H _ ⟨?_, ?_⟩ (Res.wp_mono h4 (fun r q v G' H' k' => q v G' H' k') fun ex q cls d σ' G' H' k' => q cls d G' H' k'.bare)⟩
    · unfold L2.start
      rw [List.length_cons, List.length_append, List.length_append, List.length_map, List.length_replicate, List.length_replicate, List.length_cons, h1, h2]
      omega
    · unfold L2.start
      show Okl Z G0 ((some (atP p (F b)) :: (A a ++ List.replicate (N.length - (n + 1)) none)).zip (some (.ref p) :: (vs'.map some ++ List.replicate (N.length - (vs'.length + 1)) none))) G H
      rw [List.zip_cons_cons, List.zip_append (by rw [h2, List.length_map, h1]), h1]
      have go : ∀ j, Okl Z G0 ((some (atP p (F b)), some (.ref p)) :: ((A a).zip (vs'.map some) ++ (List.replicate j none).zip (List.replicate j none))) G H := by
        intro j
        induction j with
        | zero => simpa using h3
        | succ j ih =>
          refine Okl.perm ?_ (mid.symm.cons _)
          refine Okl.perm ?_ (List.Perm.swap _ _ _)
          obtain ⟨ps, z1, z2, z3⟩ := ih.own
          exact ⟨ih.zh, ih.gg, ih.gh, ih.fr, ps, ⟨[], ps, rfl, rfl, z1⟩, z2, z3⟩
      exact go _
end
end
end Rt
/-! Rt14: texts of numbers, join. -/
namespace Rt
open PySem L2 R
section
variable {X : Cx} {T : XT} {W : WX} {Γx Γ : Ctx} {K : PySem.W.Frag}
theorem b_str {i : Int} : CallOk (fun xs H Q => ∃ i, xs = [.int i] ∧ i.natAbs.log2 < 1920 ∧ Q (.str (toString i)) H) [sI i] (R.strI i) (fun t => sT t) := co1 (f := fun t => t) (chk_ne ok_ne) fun G H v Q e h z hz q => by
  obtain ⟨h1, h2⟩ := chk_ok hz
  cases h2
  simp only [Bool.and_eq_true, decide_eq_true_eq] at h1
  exact ⟨i, congrArg (fun v => [v]) h, h1.1, q _ ⟨congrArg V.str (of_tx (toString i)), h1.2⟩⟩
/-! ### join -/
theorem sv_app (a b : Tx) : (⟨a.toArray⟩ : Str) ++ ⟨b.toArray⟩ = ⟨(a ++ b).toArray⟩ := by
  show Str.append _ _ = _
  unfold Str.append
  simp
theorem join_sv (sep : Tx) : ∀ ps : List Tx, Str.join ⟨sep.toArray⟩ (ps.map fun p => (⟨p.toArray⟩ : Str)) = ⟨(R.joinT sep ps).toArray⟩
  | [] => rfl
  | [p] => rfl
  | p :: q :: r => by
    show (⟨p.toArray⟩ : Str) ++ ⟨sep.toArray⟩ ++ Str.join ⟨sep.toArray⟩ ((q :: r).map fun p => (⟨p.toArray⟩ : Str)) = _
    rw [join_sv sep (q :: r), sv_app, sv_app]
    show _ = (⟨(p ++ (sep ++ R.joinT sep (q :: r))).toArray⟩ : Str)
    rw [List.append_assoc]
theorem joinT_len (sep : Tx) : ∀ ps : List Tx, (R.joinT sep ps).length ≤ (ps.map List.length).sum + ps.length * sep.length
  | [] => Nat.zero_le _
  | [p] => by
    show p.length ≤ _
    simp only [List.map_cons, List.map_nil, List.sum_cons, List.sum_nil]
    omega
  | p :: q :: r => by
    have h := joinT_len sep (q :: r)
    show (p ++ (sep ++ R.joinT sep (q :: r))).length ≤ _
    rw [List.length_append, List.length_append, List.map_cons, List.sum_cons, List.length_cons (a := p), Nat.succ_mul]
    omega
theorem txs_of {G : Hp} : ∀ {vs : List V} {ts : List Tx}, Paired (cTx.rel G) vs ts → vs = (ts.map fun p => (⟨p.toArray⟩ : Str)).map V.str
  | _, _, .nil => rfl
  | _, _, .cons (a := v) (b := b) h r => by rw [show v = sv b from h.1, txs_of r]; rfl
theorem ex_join {o e : Expr} {to te : TE} {apos pos : Pos} {α β : Type} [Nonempty α] {m1 : Res α} {sep : α → Tx} {Γ1 : α → Ctx} {m2 : α → Res β} {ps : α → β → List Tx} {Γ2 : α → β → Ctx} (ho : EX X T W Γx Γ o to m1 (fun a => sT (sep a)) Γ1) (he : ∀ a, EX X T W Γx (Γ1 a) e te (m2 a) (fun b => fz (cList cTx) (ps a b)) (Γ2 a)) (hK : X.K = K := by rfl)
    (hs : starEach [e] X.env = [(false, eval e X.env)] := by rfl) (hbase : attributeBase o "join" X.env (eval o X.env) = eval o X.env := by rfl) (hline : (apos.endLine == pos.line) = true := by rfl) :
    EX X T W Γx Γ (.Call (.Attribute o "join" apos) [e] [] pos) (tM1 (fun x xs H Q => ∃ a p, ∃ ys : List Str, x = .str a ∧ xs = [.ref p] ∧ (SqL X.K H p (ys.map V.str) ∨ SqT X.K H p (ys.map V.str)) ∧
      (ys.map (·.length)).sum + ys.length * a.length ≤ 16777216 ∧ Q (.str (Txt.join a ys)) H) to te) (m1.bind fun a => (m2 a).bind fun b => (R.joinS (sep a) (ps a b)).bind fun t => .ok (a, b, t)) (fun t => sT t.2.2) (fun t => Γ2 t.1 t.2.1) := by
  obtain ⟨a0⟩ := ‹Nonempty α›
  refine ⟨pe_join ho.pe (he a0).pe hs hbase hline, fun Z G0 S σ G H Q k q => ?_⟩
  refine ho.ev Z G0 S σ G H _ k (Res.wp_mono (Res.wp_bind q) (fun a q v G' H' k' => ?_) fun ex q => q)
  have hv := k'.tp
  obtain ⟨rfl, hl⟩ := hv
  refine ⟨⟨_, rfl⟩, ?_⟩
  refine (he a).ev Z G0 _ σ G' H' _ k' (Res.wp_mono (Res.wp_bind q) (fun b q w G2 H2 k2 => ?_) fun ex q cls d G' H' k' => q cls d G' H' k'.drop)
  obtain ⟨t, e, q3⟩ := wp_cases (Res.wp_bind q) (chk_ne ok_ne)
  obtain ⟨e3, e4⟩ := chk_ok e
  cases e4
  have e3 := of_decide_eq_true e3
  obtain ⟨p, vs, rfl, hp, hr⟩ := k2.tp
  have hz : (((ps a b).map fun p => (⟨p.toArray⟩ : Str)).map (·.length)).sum + ((ps a b).map fun p => (⟨p.toArray⟩ : Str)).length * (⟨(sep a).toArray⟩ : Str).length ≤ 16777216 := by
    rw [List.map_map, List.length_map, sv_len]
    have : ((fun x : Str => x.length) ∘ fun p : Tx => (⟨p.toArray⟩ : Str)) = List.length := funext fun p => sv_len p
    rw [this]
    exact e3
  refine ⟨_, p, (ps a b).map fun p => ⟨p.toArray⟩, rfl, rfl, .inl ?_, hz, ?_⟩
  · rw [← txs_of hr, hK]
    exact SqL.of (k2.ok.gh p _ hp)
  · rw [TL.join_eq, join_sv]
    exact q3 _ G2 H2 (k2.drop.drop.pushf (c := cTx) ⟨rfl, Nat.le_trans (joinT_len _ _) e3⟩)
end
end Rt
/-! Rt16: objects whose fields are frozen: fields, stores while they are made, methods, constructors. -/
namespace Rt
open PySem L2 R
/-- what a field holds -/
structure Fz where
  rel : Hp → V → Prop
  mono : ∀ {G G' : Hp} {v : V}, rel G v → Ex G G' → rel G' v
def fzv {α : Type} (c : Cod α) (a : α) : Fz := ⟨fun G v => c.rel G v a, fun h e => c.mono h e⟩
abbrev Fs := List (Str × Fz)
def FsR (G : Hp) (f : Str × V) (x : Str × Fz) : Prop := f.1 = x.1 ∧ x.2.rel G f.2
theorem FsR.mono {G G' : Hp} {f : Str × V} {x : Str × Fz} (h : FsR G f x) (e : Ex G G') : FsR G' f x := ⟨h.1, x.2.mono h.2 e⟩
/-- an object that is being made, or whose fields change: owned -/
def pob (C : Addr) (l : Fs) : Sl := ⟨fun G H v ps => ∃ p dx fs, v = .ref p ∧ ps = [p] ∧ H p = some (.ins C dx fs) ∧ Paired (FsR G) fs l, fun h e k => by
  obtain ⟨p, dx, fs, h1, h2, h3, h4⟩ := h
  refine ⟨p, dx, fs, h1, h2, ?_, Paired.mono (fun _ _ q => q.mono e) h4⟩
  rw [k p (by rw [h2]; exact List.mem_cons_self)]
  exact h3⟩
/-- an object that never changes -/
def cobj {α : Type} (C : Addr) (f : α → Fs) : Cod α := ⟨fun G v a => ∃ p dx fs, v = .ref p ∧ G p = some (.ins C dx fs) ∧ Paired (FsR G) fs (f a), fun h e => by
  obtain ⟨p, dx, fs, h1, h2, h3⟩ := h
  exact ⟨p, dx, fs, h1, e p _ h2, Paired.mono (fun _ _ q => q.mono e) h3⟩⟩
theorem nn_obj {α : Type} {C : Addr} {f : α → Fs} (G : Hp) (v : V) (b : α) (h : (cobj C f).rel G v b) : v ≠ .non := fun z => by
  obtain ⟨p, _, _, e, _⟩ := h
  rw [e] at z
  cases z
theorem fs_lookup {G : Hp} {n : Str} {z : Fz} : ∀ {fs : List (Str × V)} {l : Fs}, Paired (FsR G) fs l → l.lookup n = some z → ∃ v, fs.lookup n = some v ∧ z.rel G v
  | _, _, .nil, h => by cases h
  | (g, v) :: fs, (g', x) :: l, .cons r t, h => by
    obtain ⟨rfl, r2⟩ : g = g' ∧ x.rel G v := r
    rw [List.lookup_cons] at h
    rw [List.lookup_cons]
    cases e : n == g with
    | true =>
      rw [e] at h
      cases h
      exact ⟨v, rfl, r2⟩
    | false =>
      rw [e] at h
      exact fs_lookup t h
theorem fs_none {G : Hp} {n : Str} : ∀ {fs : List (Str × V)} {l : Fs}, Paired (FsR G) fs l → l.lookup n = none → fs.lookup n = none
  | _, _, .nil, _ => rfl
  | (g, v) :: fs, (g', x) :: l, .cons r t, h => by
    obtain ⟨rfl, r2⟩ : g = g' ∧ x.rel G v := r
    rw [List.lookup_cons] at h
    rw [List.lookup_cons]
    cases e : n == g with
    | true => rw [e] at h; cases h
    | false =>
      rw [e] at h
      exact fs_none t h
/-- a field is stored -/
def putS (n : Str) (z : Fz) : Fs → Fs
  | [] => [(n, z)]
  | (g, x) :: r => if g = n then (g, z) :: r else (g, x) :: putS n z r
theorem fs_put {G : Hp} {n : Str} {z : Fz} {v : V} (hz : z.rel G v) : ∀ {fs : List (Str × V)} {l : Fs}, Paired (FsR G) fs l → Paired (FsR G) (putF n v fs) (putS n z l)
  | _, _, .nil => .cons ⟨rfl, hz⟩ .nil
  | (g, w) :: fs, (g', x) :: l, .cons r t => by
    obtain ⟨rfl, r2⟩ : g = g' ∧ x.rel G w := r
    unfold putF putS
    by_cases h : g = n
    · rw [if_pos h, if_pos h]
      exact .cons ⟨rfl, hz⟩ t
    · rw [if_neg h, if_neg h]
      exact .cons ⟨rfl, r2⟩ (fs_put hz t)
theorem paired_cat {α β : Type} {F : α → β → Prop} {vs vs' : List α} {xs xs' : List β} (h : Paired F vs xs) (h' : Paired F vs' xs') : Paired F (vs ++ vs') (xs ++ xs') := by
  induction h with
  | nil => exact h'
  | cons r _ ih => exact .cons r ih
theorem putF_new {n : Str} {v : V} : ∀ {fs : List (Str × V)}, (fs.map (·.1)).contains n = false → putF n v fs = fs ++ [(n, v)]
  | [], _ => rfl
  | (g, x) :: r, h => by
    rw [List.map_cons, List.contains_cons, Bool.or_eq_false_iff] at h
    unfold putF
    rw [if_neg (fun z : g = n => by rw [z] at h; simp at h), putF_new h.2]
    rfl
theorem fs_names {G : Hp} : ∀ {fs : List (Str × V)} {l : Fs}, Paired (FsR G) fs l → fs.map (·.1) = l.map (·.1)
  | _, _, .nil => rfl
  | (g, v) :: fs, (g', x) :: l, .cons r t => by
    have e : g = g' := r.1
    rw [List.map_cons, List.map_cons, fs_names t, e]
theorem pob_own {Z G0 G H : Hp} {l : List Pl} {p C : Addr} {fl : Fs} {v : V} (k : Okl Z G0 ((some (atP p (pob C fl)), some v) :: l) G H) : ∃ dx fs, v = .ref p ∧ H p = some (.ins C dx fs) ∧ Paired (FsR G) fs fl ∧
    ∀ fs' fl', Paired (FsR G) fs' fl' → Okl Z G0 ((some (atP p (pob C fl')), some v) :: l) G (upd H p (.ins C dx fs')) := by
  obtain ⟨ps, ⟨p1, p2, _, ⟨v', e1, rfl, p', dx, fs, e2, e3, h3, hr⟩, _⟩, _, _⟩ := k.own
  cases e1
  cases e2
  refine ⟨dx, fs, rfl, h3, hr, fun fs' fl' h' => k.write (p := p) (fun v ps e r => ?_) ⟨rfl, p, dx, fs', rfl, rfl, upd_same, h'⟩⟩
  obtain ⟨rfl, p', _, _, e2, e4, _⟩ := r
  cases e2
  exact e4
section
variable {X : Cx} {T : XT} {W : WX} {Γx Γ : Ctx} {K : PySem.W.Frag}
/-- o.n of an object that never changes -/
theorem ex_fld {o : Expr} {ta : TE} {n : Str} {pos : Pos} {C : Addr} {α β γ : Type} {m : Res α} {f : β → Fs} {b : α → β} {c : Cod γ} {g : β → γ} {Γo : α → Ctx} (he : EX X T W Γx Γ o ta m (fun t => fz (cobj C f) (b t)) Γo) (cl : Cls K C) (na : NoAttr K C n) (hf : ∀ b, (f b).lookup n = some (fzv c (g b)) := by exact fun _ => rfl) (hK : X.K = K := by rfl)
    (hb : attributeBase o n X.env (eval o X.env) = eval o X.env := by rfl) : EX X T W Γx Γ (.Attribute o n pos) (tFld K ta n) m (fun t => fz c (g (b t))) Γo := by
  subst hK
  refine ⟨pe_fld he.pe hb, fun Z G0 S σ G H Q k q => he.ev Z G0 S σ G H _ k (Res.wp_mono q (fun t q v G' H' k' => ?_) fun _ z => z)⟩
  obtain ⟨p, dx, fs, rfl, hp, hr⟩ := k'.tp
  obtain ⟨w, hw, rw_⟩ := fs_lookup hr (hf (b t))
  exact ⟨p, C, dx, fs, w, rfl, k'.ok.gh p _ hp, cl, na, hw, q w G' H' (k'.drop.pushf rw_)⟩
/-- self.n of an object at hand that is owned -/
theorem ex_fldO (i : Nat) {x n : Str} {p C : Addr} {p1 pos : Pos} {fl : Fs} {γ : Type} {c : Cod γ} {g : γ} (cl : Cls K C) (na : NoAttr K C n) (h : Γ[i]? = some (some (atP p (pob C fl))) := by rfl) (hf : fl.lookup n = some (fzv c g) := by rfl) (hN : X.N[i]? = some x := by rfl)
    (hv : Vis X.env.scope x := by first | exact Or.inl rfl | exact Or.inr (Or.inl rfl) | exact Or.inr (Or.inr rfl)) (hK : X.K = K := by rfl) (hd : (x == ("__debug__" : Str)) = false := by decide) (hcd : (x == ("__classdict__" : Str)) = false := by decide)
    (hb : attributeBase (.Name x p1) n X.env (eval (.Name x p1) X.env) = eval (.Name x p1) X.env := by rfl) : EX X T W Γx Γ (.Attribute (.Name x p1) n pos) (tFld K (tVar i) n) (.ok ()) (fun _ => fz c g) (fun _ => Γ) := by
  subst hK
  refine ⟨pe_fld (pv i hN hv hd hcd) hb, fun Z G0 S σ G H Q k q => ?_⟩
  obtain ⟨v, l, hw, k1, _⟩ := k.take h
  obtain ⟨dx, fs, rfl, h3, hr, _⟩ := pob_own k1
  obtain ⟨w, hw2, rw_⟩ := fs_lookup hr hf
  exact ⟨_, hw, p, C, dx, fs, w, rfl, h3, cl, na, hw2, q w G H (k.pushf rw_)⟩
/-- self.n = e -/
theorem s1_fld {i : Nat} {x n : Str} {e : Expr} {te : TE} {p1 p2 pos : Pos} {p C : Addr} {α γ : Type} {m1 : Res α} {fl : Fs} {c : Cod γ} {Rm : α → Sl} {Γo : α → Ctx} {a : α → γ} {mn : Res γ} {ns : List Str} (cl : Cls K C) (na : NoAttr K C n) (he : EX X T W Γx Γ e te m1 Rm Γo) (hR : ∀ t, Rm t = fz c (a t) := by exact fun _ => rfl) (hΓo : ∀ t, Γo t = Γ := by exact fun _ => rfl)
    (h : Γ[i]? = some (some (atP p (pob C fl))) := by rfl) (hl : Nat.ble (fl.length + 1) 1000 = true := by rfl) (hns : fl.map (·.1) = ns := by rfl) (hnew : ns.contains n = false := by decide +kernel) (hN : X.N[i]? = some x := by rfl) (hv : Vis X.env.scope x := by first | exact Or.inl rfl | exact Or.inr (Or.inl rfl) | exact Or.inr (Or.inr rfl)) (hb : Bd mn m1 (fun t => .ok (a t)) := by intros; repeat (first | ((with_reducible refine Bd.done ?_); exact rfl) | with_reducible refine Bd.okl ?_ | with_reducible refine Bd.assoc ?_ | with_reducible refine Bd.bind fun _ => ?_ | with_reducible refine Bd.eta fun _ => ?_ | with_reducible refine Bd.iteB ?_ ?_ fun _ => ?_ | with_reducible refine Bd.iteE ?_ ?_ fun _ => ?_ | with_reducible refine Bd.ite ?_ ?_ | with_reducible refine Bd.iteL ?_ ?_ | with_reducible refine Bd.assocL ?_ | with_reducible refine Bd.oklL ?_ | with_reducible exact Bd.same | with_reducible exact Bd.at | dsimp only))
    (hK : X.K = K := by rfl) (hd : (x == ("__debug__" : Str)) = false := by decide) (hcd : (x == ("__classdict__" : Str)) = false := by decide) (hs : swapsWith e (some (.Attribute (.Name x p1) n p2)) pos.line X.env = pure false := by rfl) :
    S1 X T W Γx Γ (.Assign [.Attribute (.Name x p1) n p2] e pos) (sFld K (tVar i) te n) mn (fun y => .nx (Γ.set i (some (atP p (pob C (fl ++ [(n, fzv c y)])))))) := by
  subst hK
  obtain rfl : Rm = fun t => fz c (a t) := funext hR
  obtain rfl : Γo = fun _ => Γ := funext hΓo
  refine ⟨ps_fld (pv i hN hv hd hcd) he.pe hs, fun Z G0 S σ G H D kk q => ?_⟩
  refine he.ev Z G0 S σ G H _ kk (Res.wp_mono (hb _ _ q) (fun t q y G1 H1 k1 => ?_) fun ex q cls d G' H' k' => q cls d σ G' H' k')
  have hy := k1.tp
  obtain ⟨v, l, hw, k2, back⟩ := k1.drop.take h
  obtain ⟨dx, fs, rfl, h3, hr, up⟩ := pob_own k2
  have hp : Paired (FsR G1) (putF n y fs) (fl ++ [(n, fzv c (a t))]) := by
    rw [putF_new (by rw [fs_names hr, hns]; exact hnew)]
    have h1 : Paired (FsR G1) [(n, y)] [(n, fzv c (a t))] := .cons ⟨rfl, hy⟩ .nil
    exact paired_cat hr h1
  refine ⟨.ref p, hw, p, C, dx, fs, rfl, h3, cl, na, ?_, q σ G1 _ (back _ _ _ (up _ _ hp))⟩
  rw [hr.length]
  exact Nat.le_of_ble_eq_true hl
/-- owned, and from now on frozen -/
theorem Okl.icyOb {Z G0 G H : Hp} {l : List Pl} {α : Type} {p C : Addr} {f : α → Fs} {a : α} {v : V} (k : Okl Z G0 ((some (atP p (pob C (f a))), some v) :: l) G H) : ∃ G', Okl Z G0 ((some (fz (cobj C f) a), some v) :: l) G' H := by
  obtain ⟨ps, ⟨p1, p2, _, ⟨v', e1, rfl, p', dx, fs, e2, e3, h3, hr⟩, _⟩, _, h4⟩ := k.own
  cases e1
  cases e2
  subst e3
  refine ⟨upd G p (.ins C dx fs), k.freeze (p := p) (fun v ps e r => ?_) h3 ⟨p, dx, fs, rfl, upd_same, Paired.mono (fun _ _ q => q.mono (Evl.Ex.new ?_)) hr⟩⟩
  · obtain ⟨rfl, p', _, _, e2, e4, _⟩ := r
    cases e2
    exact e4
  · exact (h4 p (by simp_all)).2.1
end
/-- what a call of __init__ is -/
def spI {ξ α : Type} (n : Nat) (T : XT) (A : ξ → List (Option Sl)) (C : Addr) (fl : α → Fs) (f : ξ → Res α) : Sp := fun vs H Q E => ∃ (p : Addr) (vs' : List V) (x : ξ) (Z G0 G : Hp), vs = .ref p :: vs' ∧ vs'.length = n ∧ (A x).length = n ∧
  Okl Z G0 ((some (atP p (pob C [])), some (.ref p)) :: (A x).zip (vs'.map some)) G H ∧
  (f x).wp (fun a => ∀ G' H', Okl Z G0 [(some (atP p (pob C (fl a))), some (.ref p))] G' H' → Q .non H') (fun ex => ∀ cls d G' H', Okl Z G0 [] G' H' → T.rel ex cls d G' → E cls d H')
/-- a class that is known: it is made by its __init__ -/
def KnC (P : Program) (w : World) (K : PySem.W.Frag) (mg : Str → Option Value) (base : Heap) (k : Nat) (x : Str) (C : Addr) (ps : List Str) (sp : Sp) : Prop :=
  ∃ (f : Addr) (fd : FuncData), mg x = some (.ref C) ∧ Mk K C f ∧ Binds K fd ps [] ∧ FnOk P w K mg base (L2.CX P w) k f fd ps sp
/-- a method that is known -/
def KnM (P : Program) (w : World) (K : PySem.W.Frag) (mg : Str → Option Value) (base : Heap) (k : Nat) (C : Addr) (m : Str) (ps : List Str) (sp : Sp) : Prop :=
  ∃ (f : Addr) (fd : FuncData), Meth K C m f ∧ Binds K fd ps [] ∧ FnOk P w K mg base (L2.CX P w) k f fd ps sp
def tMakeS (C : Addr) (sp : Sp) (E : St → XK) (t : TA) : TE := fun σ H Q => t σ H fun vs H1 => ∀ x dx, H1 x = none → H1 dx = none → dx ≠ x → sp (.ref x :: vs) (upd (upd H1 dx (.own x)) x (.ins C dx [])) (fun v H2 => v = .non ∧ Q (.ref x) H2) (E σ)
def tMethS (C : Addr) (m : Str) (sp : Sp) (E : St → XK) (ta : TE) (t : TA) : TE := fun σ H Q => ta σ H fun x H1 => ∃ a dx fs, x = .ref a ∧ H1 a = some (.ins C dx fs) ∧ fs.lookup m = none ∧ t σ H1 fun vs H2 => sp (x :: vs) H2 Q (E σ)
section
variable {X : Cx} {CX : CXT} {k : Nat} {f C : Addr} {fd : FuncData} {ps : List Str} {sp : Sp} {E : St → XK} {x m : Str} {p pos apos : Pos} {e o : Expr} {es : List Expr} {ta : TE} {t : TA}
/-- a new instance, told at the caller's slots -/
theorem pe_makeS (M : Mk X.K C f) (F : FnOk X.prog X.w X.K X.mg X.base CX k f fd ps sp) (room : Room (k + 1) X.A) (glob : Gl X x) (here : X.mg x = some (.ref C)) (bnd : Binds X.K fd ps []) (pass : ∀ σ, PassesAt CX X σ (E σ)) (args : PA X (e :: es) t) (hdb : (x == ("__debug__" : Str)) = false := by decide)
    (he : starEach (e :: es) X.env = (false, eval e X.env) :: starEach es X.env := by rfl) (hpl : (backTo pos (starEach es X.env)).any (·.1) = false := by rfl) : PE X (.Call (.Name x p) (e :: es) [] pos) (tMakeS C sp E t) := by
  refine ⟨fun pins s σ H Q inv want => wpAny_Call_Name_kw (ld_glob inv glob here ?_ hdb)⟩
  refine PySem.W.callWith_K (h₀ := X.base) inv.ok.mod.kin M.kp (thn (args.run pos pins s σ H _ inv want) fun us s1 ⟨vs, H1, J, rel, q⟩ => ⟨J.kIn, ?_⟩) he hpl
  have got := q (s1.heap.objs.size + 1) s1.heap.objs.size (J.hok.fresh (Nat.le_succ _)) (J.hok.fresh (Nat.le_refl _)) (Nat.ne_of_lt (Nat.lt_succ_self _))
  have J2 := Inv.made (C := C) J
  have rel2 : Vals (V.ref (s1.heap.objs.size + 1) :: vs) (Value.ref (s1.heap.objs.size + 1) :: us) := Paired.cons rfl rel
  have count : (Value.ref (s1.heap.objs.size + 1) :: us).length = ps.length := rel2.length.symm.trans (F.len _ _ _ _ got)
  have bound := bnd _ (Value.ref (s1.heap.objs.size + 1) :: us) J2.kIn (by rw [List.append_nil]; exact count)
  rw [List.append_nil] at bound
  show wpAny _ _ (call (.ref C) us) _ _ _
  refine wpAny_call (make_map (f := f) J.kIn M.makes M.init (beq_iff_eq.mp M.fn) (codeAny_mono (F.run _ X.stack _ _ ⟨_, []⟩ _ _ _ (E σ) (room.make C us []) (J2.env0.make C us []) bound rel2 got) fun r s' fin => ?_))
  rcases r with er | fl
  · exact pass σ pins _ _ er s' J2 fin
  · cases fl with
    | next => exact fin.elim
    | brk => exact fin.elim
    | cont => exact fin.elim
    | ret u =>
      obtain ⟨v, H', J3, rv, ev, q3⟩ := J2.after fin
      subst ev
      exact ⟨rv, V.ref (s1.heap.objs.size + 1), H', J3, rfl, q3⟩
/-- o.m(e, ..), told at the caller's slots -/
theorem pe_methS {pl : Sem Bool} (he : PE X o ta) (c : Cls X.K C) (hm : Meth X.K C m f) (F : FnOk X.prog X.w X.K X.mg X.base CX k f fd ps sp) (room : Room k X.A) (bnd : Binds X.K fd ps []) (pass : ∀ σ, PassesAt CX X σ (E σ)) (args : PA X (e :: es) t)
    (hst : starEach (e :: es) X.env = (false, eval e X.env) :: starEach es X.env := by rfl) (hpl : (backTo pos (starEach es X.env)).any (·.1) = false := by rfl)
    (ht : eval (.Call (.Attribute o m apos) (e :: es) [] pos) X.env = (do let ov ← eval o X.env; standAt apos.atName; let (f, first) ← holding [ov] (getMethod ov m pl); callWith pos f first (backTo pos (starEach (e :: es) X.env)) (backToKw pos (keywordEach [] X.env))) := by rfl) :
    PE X (.Call (.Attribute o m apos) (e :: es) [] pos) (tMethS C m sp E ta t) := by
  refine ⟨fun pins s σ H Q inv want => PySem.W.methodCall_KW (pl := pl) (thn (he.run pins s σ H _ inv want) fun u s1 ⟨x, H1, J1, rx, a, dx, fs, ex, ea, l, q⟩ => ?_) ht⟩
  subst ex
  obtain rfl : u = Value.ref a := rx
  refine getmeth_ok J1 ea c hm l (PySem.W.callWith_K (first := [.ref a]) (h₀ := X.base) inv.ok.mod.kin hm.kp (thn (args.run pos pins s1 σ H1 _ J1 q) fun us s2 ⟨vs, H2, J2, rel, q2⟩ => ⟨J2.kIn, ?_⟩) hst hpl)
  exact run_fnS (us := .ref a :: us) (vs := .ref a :: vs) F room bnd (pass σ) J2 (.cons rfl rel) q2
theorem pe_methS0 {pl : Sem Bool} (he : PE X o ta) (c : Cls X.K C) (hm : Meth X.K C m f) (F : FnOk X.prog X.w X.K X.mg X.base CX k f fd ps sp) (room : Room k X.A) (bnd : Binds X.K fd ps []) (pass : ∀ σ, PassesAt CX X σ (E σ))
    (ht : eval (.Call (.Attribute o m apos) [] [] pos) X.env = (do let ov ← eval o X.env; standAt apos.atName; let (f, first) ← holding [ov] (getMethod ov m pl); callWith pos f first (backTo pos (starEach [] X.env)) (backToKw pos (keywordEach [] X.env))) := by rfl) :
    PE X (.Call (.Attribute o m apos) [] [] pos) (tMethS C m sp E ta tNil) := by
  refine ⟨fun pins s σ H Q inv want => PySem.W.methodCall_KW (pl := pl) (thn (he.run pins s σ H _ inv want) fun u s1 ⟨x, H1, J1, rx, a, dx, fs, ex, ea, l, q⟩ => ?_) ht⟩
  subst ex
  obtain rfl : u = Value.ref a := rx
  exact getmeth_ok J1 ea c hm l (PySem.W.callWith_K0 (first := [.ref a]) J1.kIn hm.kp (run_fnS (us := [.ref a]) (vs := [.ref a]) F room bnd (pass σ) J1 (.cons rfl .nil) q))
end
end Rt
/-! Rt17: objects made, methods called, procedures; exceptions raised. -/
namespace Rt
open PySem L2 R
section
variable {X : Cx} {T : XT} {W : WX} {Γx Γ : Ctx} {K : PySem.W.Frag}
theorem make_ev {ξ β α : Type} {n : Nat} {A : ξ → List (Option Sl)} {C : Addr} {fl : β → Fs} {f : ξ → Res β} {es : List Expr} {ta : TA} {m1 : Res α} {Rs : α → List Sl} {Γ1 : α → Ctx} {x : α → ξ} (hn : ∀ x, (A x).length = n) (ha : AX X T W Γx Γ es ta m1 Rs Γ1) (hx : ∀ t, ArgOf A (Rs t) (x t)) (hw : ∀ t, Wk (Γ1 t) Γx)
    (Z G0 : Hp) (S : List Pl) (σ : St) (G H : Hp) (Q : VK) (k : Okc Z G0 S Γ σ G H)
    (q : (m1.bind fun t => (f (x t)).bind fun r => .ok (t, r)).wp (fun t => ∀ v G' H', Okc Z G0 ((some (fz (cobj C fl) t.2), some v) :: S) (Γ1 t.1) σ G' H' → Q v H') (fun ex => ∀ cls d G' H', Okc Z G0 S Γx σ G' H' → T.rel ex cls d G' → W cls d σ H')) : tMakeS C (spI n T A C fl f) (WE W) ta σ H Q := by
  refine ha.ev Z G0 S σ G H _ k (Res.wp_mono (Res.wp_bind q) (fun t q vs G1 H1 hl k1 => ?_) fun ex q => q)
  intro a dx h1 h2 hne
  have hxd : upd H1 dx (.own a) a = none := by rw [upd_ne (Ne.symm hne)]; exact h1
  have j1 := (okc_app k1).lay (o := .own a) h2
  have j2 := j1.layOwn (q := a) (o := .ins C dx []) (s := atP a (pob C [])) (v := .ref a) hxd ⟨rfl, a, dx, [], rfl, rfl, upd_same, .nil⟩
  obtain ⟨Zc, l1, l2⟩ := Okl.lend (l := (some (atP a (pob C [])), some (.ref a)) :: plz (Rs t) vs) (m := S ++ (Γ1 t).zip σ) j2
  have e : A (x t) = (Rs t).map some := hx t
  refine ⟨a, vs, x t, Zc, upd G1 dx (.own a), upd G1 dx (.own a), rfl, ?_, hn _, ?_, Res.wp_mono (Res.wp_bind q) (fun r q G' H' k' => ⟨rfl, ?_⟩) fun ex q cls d G' H' k' => q cls d G' H' (hw t _ _ _ _ _ _ ⟨k1.len, ?_⟩)⟩
  · rw [← hl, ← hn (x t), e, List.length_map]
  · rw [e]
    exact l1
  · have k4 : Okl Z G0 ((some (atP a (pob C (fl r))), some (.ref a)) :: (S ++ (Γ1 t).zip σ)) G' H' := l2 _ G' H' k'
    obtain ⟨G2, k5⟩ := k4.icyOb
    exact q _ G2 H' ⟨k1.len, k5⟩
  · exact l2 [] G' H' k'
theorem ex_make {ξ β α : Type} {n k j : Nat} {A : ξ → List (Option Sl)} {C : Addr} {fl : β → Fs} {f : ξ → Res β} {ps : List Str} {x : Str} {p pos : Pos} {e : Expr} {es : List Expr} {ta : TA} {m1 : Res α} {Rs : α → List Sl} {Γ1 : α → Ctx} {a : α → ξ}
    (kn : KnC X.prog X.w X.K X.mg X.base k x C ps (spI n T A C fl f)) (hr : Room j X.A) (tk : Takes X W) (hn : ∀ x, (A x).length = n) (ha : AX X T W Γx Γ (e :: es) ta m1 Rs Γ1) (hx : ∀ t, ArgOf A (Rs t) (a t)) (hw : ∀ t, Wk (Γ1 t) Γx) (hj : k + 1 ≤ j := by decide)
    (hg : Gl X x := by rfl) (hdb : (x == ("__debug__" : Str)) = false := by decide) (he : starEach (e :: es) X.env = (false, eval e X.env) :: starEach es X.env := by rfl) (hpl : (backTo pos (starEach es X.env)).any (·.1) = false := by rfl) :
    EX X T W Γx Γ (.Call (.Name x p) (e :: es) [] pos) (tMakeS C (spI n T A C fl f) (WE W) ta) (m1.bind fun t => (f (a t)).bind fun r => .ok (t, r)) (fun t => fz (cobj C fl) t.2) (fun t => Γ1 t.1) := by
  obtain ⟨fa, fd, h1, h2, h3, FO⟩ := kn
  exact ⟨pe_makeS h2 FO (hr.mono hj) hg h1 h3 (fun σ => passAt tk σ) ha.pa hdb he hpl, make_ev hn ha hx hw⟩
theorem meth_ev {ξ β α δ ρ : Type} {n : Nat} {A : ξ → List (Option Sl)} {C : Addr} {fl : β → Fs} {f : ξ → Res ρ} {R : ρ → Sl} {m : Str} {o : Expr} {es : List Expr} {to : TE} {ta : TA} {m0 : Res α} {b : α → β} {Γ0 : α → Ctx} {m1 : α → Res δ} {Rs : α → δ → List Sl} {Γ1 : α → δ → Ctx} {a : α → δ → ξ}
    (hl : ∀ b, (fl b).lookup m = none) (hn : ∀ x, (A x).length = n) (ho : EX X T W Γx Γ o to m0 (fun t => fz (cobj C fl) (b t)) Γ0) (ha : ∀ t, AX X T W Γx (Γ0 t) es ta (m1 t) (Rs t) (Γ1 t)) (hx : ∀ t u, ArgOf A (fz (cobj C fl) (b t) :: Rs t u) (a t u)) (hw : ∀ t u, Wk (Γ1 t u) Γx)
    (Z G0 : Hp) (S : List Pl) (σ : St) (G H : Hp) (Q : VK) (k : Okc Z G0 S Γ σ G H)
    (q : (m0.bind fun t => (m1 t).bind fun u => (f (a t u)).bind fun r => .ok (t, u, r)).wp (fun t => ∀ v G' H', Okc Z G0 ((some (R t.2.2), some v) :: S) (Γ1 t.1 t.2.1) σ G' H' → Q v H') (fun ex => ∀ cls d G' H', Okc Z G0 S Γx σ G' H' → T.rel ex cls d G' → W cls d σ H')) : tMethS C m (spM n T A f R) (WE W) to ta σ H Q := by
  refine ho.ev Z G0 S σ G H _ k (Res.wp_mono (Res.wp_bind q) (fun t q v G1 H1 k1 => ?_) fun ex q => q)
  obtain ⟨p, dx, fs, rfl, hp, hr⟩ := k1.tp
  refine ⟨p, dx, fs, rfl, k1.ok.gh p _ hp, fs_none hr (hl _), ?_⟩
  refine (ha t).ev Z G0 _ σ G1 H1 _ k1 (Res.wp_mono (Res.wp_bind q) (fun u q vs G2 H2 hlen k2 => ?_) fun ex q cls d G' H' k' => q cls d G' H' k'.drop)
  have k3 : Okc Z G0 (plz (fz (cobj C fl) (b t) :: Rs t u) (.ref p :: vs) ++ S) (Γ1 t u) σ G2 H2 := ⟨k2.len, k2.ok.perm (by
    show (plz (Rs t u) vs ++ ((some (fz (cobj C fl) (b t)), some (.ref p)) :: S) ++ (Γ1 t u).zip σ).Perm (((some (fz (cobj C fl) (b t)), some (.ref p)) :: (plz (Rs t u) vs ++ S)) ++ (Γ1 t u).zip σ)
    exact mid.append_right _)⟩
  obtain ⟨Zc, l1, l2⟩ := (okc_app k3).lend
  have e : A (a t u) = (fz (cobj C fl) (b t) :: Rs t u).map some := hx t u
  refine ⟨a t u, Zc, G2, G2, ?_, hn _, ?_, Res.wp_mono (Res.wp_bind q) (fun r q v G' H' k' => ?_) fun ex q cls d G' H' k' => q cls d G' H' (hw t u _ _ _ _ _ _ ⟨k2.len, l2 [] G' H' k'⟩)⟩
  · rw [List.length_cons, ← hlen, ← hn (a t u), e, List.length_map, List.length_cons]
  · rw [e]
    exact l1
  · exact q v G' H' ⟨k2.len, l2 _ G' H' k'⟩
theorem ex_meth {ξ β α δ ρ : Type} [Nonempty α] {n k j : Nat} {A : ξ → List (Option Sl)} {C : Addr} {fl : β → Fs} {f : ξ → Res ρ} {R : ρ → Sl} {m : Str} {ps : List Str} {o e : Expr} {es : List Expr} {to : TE} {ta : TA} {apos pos : Pos} {pl : Sem Bool} {m0 : Res α} {b : α → β} {Γ0 : α → Ctx} {m1 : α → Res δ} {Rs : α → δ → List Sl} {Γ1 : α → δ → Ctx} {a : α → δ → ξ}
    (kn : KnM X.prog X.w X.K X.mg X.base k C m ps (spM n T A f R)) (cl : Cls K C) (hr : Room j X.A) (tk : Takes X W) (hn : ∀ x, (A x).length = n) (ho : EX X T W Γx Γ o to m0 (fun t => fz (cobj C fl) (b t)) Γ0) (ha : ∀ t, AX X T W Γx (Γ0 t) (e :: es) ta (m1 t) (Rs t) (Γ1 t)) (hx : ∀ t u, ArgOf A (fz (cobj C fl) (b t) :: Rs t u) (a t u)) (hw : ∀ t u, Wk (Γ1 t u) Γx)
    (hl : ∀ b, (fl b).lookup m = none := by exact fun _ => rfl) (hK : X.K = K := by rfl) (hj : k ≤ j := by decide) (hst : starEach (e :: es) X.env = (false, eval e X.env) :: starEach es X.env := by rfl) (hpl : (backTo pos (starEach es X.env)).any (·.1) = false := by rfl)
    (ht : eval (.Call (.Attribute o m apos) (e :: es) [] pos) X.env = (do let ov ← eval o X.env; standAt apos.atName; let (f, first) ← holding [ov] (getMethod ov m pl); callWith pos f first (backTo pos (starEach (e :: es) X.env)) (backToKw pos (keywordEach [] X.env))) := by rfl) :
    EX X T W Γx Γ (.Call (.Attribute o m apos) (e :: es) [] pos) (tMethS C m (spM n T A f R) (WE W) to ta) (m0.bind fun t => (m1 t).bind fun u => (f (a t u)).bind fun r => .ok (t, u, r)) (fun t => R t.2.2) (fun t => Γ1 t.1 t.2.1) := by
  subst hK
  obtain ⟨t0⟩ := ‹Nonempty α›
  obtain ⟨fa, fd, h2, h3, FO⟩ := kn
  exact ⟨pe_methS (pl := pl) ho.pe cl h2 FO (hr.mono hj) h3 (fun σ => passAt tk σ) (ha t0).pa hst hpl ht, meth_ev hl hn ho ha hx hw⟩
theorem ex_meth0 {ξ β α ρ : Type} {k j : Nat} {A : ξ → List (Option Sl)} {C : Addr} {fl : β → Fs} {f : ξ → Res ρ} {R : ρ → Sl} {m : Str} {ps : List Str} {o : Expr} {to : TE} {apos pos : Pos} {pl : Sem Bool} {m0 : Res α} {b : α → β} {Γ0 : α → Ctx} {a : α → ξ}
    (kn : KnM X.prog X.w X.K X.mg X.base k C m ps (spM 1 T A f R)) (cl : Cls K C) (hr : Room j X.A) (tk : Takes X W) (hn : ∀ x, (A x).length = 1) (ho : EX X T W Γx Γ o to m0 (fun t => fz (cobj C fl) (b t)) Γ0) (hx : ∀ t, ArgOf A [fz (cobj C fl) (b t)] (a t)) (hw : ∀ t, Wk (Γ0 t) Γx)
    (hl : ∀ b, (fl b).lookup m = none := by exact fun _ => rfl) (hK : X.K = K := by rfl) (hj : k ≤ j := by decide)
    (ht : eval (.Call (.Attribute o m apos) [] [] pos) X.env = (do let ov ← eval o X.env; standAt apos.atName; let (f, first) ← holding [ov] (getMethod ov m pl); callWith pos f first (backTo pos (starEach [] X.env)) (backToKw pos (keywordEach [] X.env))) := by rfl) :
    EX X T W Γx Γ (.Call (.Attribute o m apos) [] [] pos) (tMethS C m (spM 1 T A f R) (WE W) to tNil) (m0.bind fun t => (Res.ok ()).bind fun u => (f (a t)).bind fun r => .ok (t, u, r)) (fun t => R t.2.2) (fun t => Γ0 t.1) := by
  subst hK
  obtain ⟨fa, fd, h2, h3, FO⟩ := kn
  exact ⟨pe_methS0 (pl := pl) ho.pe cl h2 FO (hr.mono hj) h3 (fun σ => passAt tk σ) ht, meth_ev (Γ1 := fun t _ => Γ0 t) (a := fun t _ => a t) hl hn ho (fun t => ax_nil) (fun t _ => hx t) (fun t _ => hw t)⟩
/-! ### what is raised -/
/-- the class OutOfRange is known -/
structure KnO (P : Program) (w : World) (K : PySem.W.Frag) (mg : Str → Option Value) (base : Heap) (x : Str) (C : Addr) (sp : Sp) : Prop where
  at_ : mg x = some (.ref C)
  ox : OexC K C
  ini : ∃ (f : Addr) (fd : FuncData), PySem.W.findIn K (.ref C) "__init__" = some (some (.ref f)) ∧ PySem.W.typeIn K (.ref f) = some (.type "function") ∧ Binds K fd ["self", "name"] [] ∧ FnOk P w K mg base (L2.CX P w) 1 f fd ["self", "name"] sp
def spOor (C : Addr) : Sp := fun vs H Q _ => ∃ a v, vs = [.ref a, v] ∧ H a = some (exo a C none) ∧ ∀ d, H d = none → d ≠ a → Q .non (upd (upd H d (exd d [("name", v)])) a (exo a C (some d)))
theorem passes_no : Passes (L2.CX X.prog X.w) X (fun _ _ _ => False) := fun _ _ _ _ _ _ _ h => by
  obtain ⟨_, _, _, _, _, _, _, _, _, _, _, _, z⟩ := h
  exact z.elim
theorem sx_oor {x : Str} {p pos pos2 : Pos} {e : Expr} {ta : TA} {α γ : Type} {m : Res α} {n : α → Tx} {Γo : α → Ctx} {rest : List Stmt} {I : γ → Out} {j : Nat} {mn : Res γ} (kn : KnO X.prog X.w X.K X.mg X.base x T.oor (spOor T.oor)) (hr : Room j X.A) (tk : Takes X W) (ha : AX X T W Γx Γ [e] ta m (fun t => [sT (n t)]) Γo) (hw : ∀ t, Wk (Γo t) Γx) (hj : 2 ≤ j := by decide)
    (hb : Bd mn m (fun t => .exn (.oor (n t))) := by intros; repeat (first | exact Bd.don' rfl | with_reducible refine Bd.okl ?_ | with_reducible refine Bd.assoc ?_ | with_reducible refine Bd.bind fun _ => ?_ | dsimp only)) (hc : X.calm = true := by rfl) (hg : Gl X x := by rfl) (hdb : (x == ("__debug__" : Str)) = false := by decide) (he : starEach [e] X.env = (false, eval e X.env) :: starEach [] X.env := by rfl) (hpl : (backTo pos (starEach [] X.env)).any (·.1) = false := by rfl) :
    SX X T W Γx Γ (.Raise (some (.Call (.Name x p) [e] [] pos)) none pos2 :: rest) (tSeq (fun _ σ H => tMkO T.oor (spOor T.oor) [] ta σ H fun cls d H' => W cls d σ H') tNever) mn I := by
  obtain ⟨h1, h2, f, fd, h3, h4, h5, FO⟩ := kn
  refine ⟨pss_cons (ps_raise hc tk (pmk_oex (ds := []) (dvs := []) h2 h3 h4 FO (hr.mono hj) h5 .nil passes_no hg h1 ha.pa hdb he hpl)) pss_never, fun Z G0 S σ G H D k q => ?_⟩
  refine ha.ev Z G0 S σ G H _ k (Res.wp_mono (hb _ _ q) (fun t q vs G1 H1 hl k1 => ?_) fun ex q cls d G' H' k' => q cls d σ G' H' k')
  obtain ⟨v, rfl, hv, k2⟩ := ax1 hl k1
  refine ⟨by show 1 ≤ 1000; decide, fun a hfa => ⟨a, v, rfl, upd_same, fun d hd hda => ⟨rfl, d, [("name", v)], upd_same, ?_, ?_, ?_⟩⟩⟩
  · rw [upd_ne hda, upd_same]
  · rw [upd_ne hda] at hd
    exact hd
  · rw [upd_ne hda] at hd
    have e : upd (del (upd (upd (upd H1 a (exo a T.oor none)) d (exd d [("name", v)])) a (exo a T.oor (some d))) a) d (.xd [("name", v)]) = upd H1 d (.xd [("name", v)]) := by
      funext b
      by_cases hbd : b = d
      · subst hbd
        rw [upd_same, upd_same]
      · rw [upd_ne hbd, upd_ne hbd]
        by_cases hba : b = a
        · subst hba
          rw [del_same, hfa]
        · rw [del_ne hba, upd_ne hba, upd_ne hbd, upd_ne hba]
    rw [e]
    have k3 := hw t _ _ _ _ _ _ k2
    exact q (.ref T.oor) (some d) σ _ _ ⟨k3.len, k3.ok.lay (o := .xd [("name", v)]) hd⟩ ⟨rfl, hv.2, d, rfl, by rw [upd_same, hv.1]⟩
end
end Rt
/-! Rt18: defs that make, defs that only do, the making of OutOfRange; a branch that raises. -/
namespace Rt
open PySem L2 R
section
variable {K : PySem.W.Frag} {T : XT} {P : Program} {w : World} {mg : Str → Option Value} {base : Heap}
theorem nones_zip {Z G0 G H : Hp} {l : List Pl} (k : Okl Z G0 l G H) : ∀ j, Okl Z G0 (l ++ (List.replicate j (none : Option Sl)).zip (List.replicate j (none : Option V))) G H
  | 0 => by simpa using k
  | j + 1 => by
    have ih := nones_zip k j
    refine Okl.perm ?_ mid.symm
    obtain ⟨ps, z1, z2, z3⟩ := ih.own
    exact ⟨ih.zh, ih.gg, ih.gh, ih.fr, ps, ⟨[], ps, rfl, rfl, z1⟩, z2, z3⟩
/-- a def that falls off its end -/
theorem fn_mkN {x qual : Str} {st : Stmt} {f : Addr} {fd : FuncData} {N ps : List Str} {k n : Nat} {ξ : Type} {A : ξ → List (Option Sl)} {g : ξ → Res Unit} (F : Fun K x qual st f fd) (Sc : FnScope N ps (defScope st)) (hn : ps.length = n)
    (hbody : ∀ (cdv : Value) (Ar : Around) (outer : List Env) (s : Shared) (H : Hp) (E : XK), Room k (Ar.deeper (PyProof.Rows.envOfC qual (defScope st) s.heap.objs.size f cdv)) → Takes (cxOf (L2.CX P w) P w K mg base N qual (defScope st) f cdv Ar outer s H E) (fun cls d _ H => E cls d H) →
      PassesOwn (model P w) (Ar.deeper (PyProof.Rows.envOfC qual (defScope st) s.heap.objs.size f cdv)) (PyProof.Rows.envOfC qual (defScope st) s.heap.objs.size f cdv) (cxOf (L2.CX P w) P w K mg base N qual (defScope st) f cdv Ar outer s H E).xe → ∀ a : ξ, (A a).length = n →
      ∃ ts, SX (cxOf (L2.CX P w) P w K mg base N qual (defScope st) f cdv Ar outer s H E) T (fun cls d _ H => E cls d H) (List.replicate N.length none) (A a ++ List.replicate (N.length - n) none) (defBody st) ts (g a) (fun _ => .nx (List.replicate N.length none))) :
    FnOk P w K mg base (L2.CX P w) (k + 1) f fd ps (spM n T A g (fun _ => sN)) := by
  refine F.okX Sc (fun vs H Q E h => ?_) (fun cdv Ar outer s H vs Q E hr h => ?_)
  · obtain ⟨_, _, _, _, h1, _⟩ := h
    rw [h1, hn]
  · obtain ⟨a, Z, G0, G, h1, h2, h3, h4⟩ := h
    obtain ⟨ts, hs⟩ := hbody cdv Ar outer s H E hr (takes_of rfl rfl rfl rfl) (passes_of rfl) a h2
    refine ⟨ts, hs.ps, hs.ev Z G0 [] _ G H _ ⟨?_, ?_⟩ (Res.wp_mono h4 (fun b q σ' G' H' k' => q .non G' H' (Okl.push (c := cNon) k'.bare rfl)) fun ex q cls d σ' G' H' k' => q cls d G' H' k'.bare)⟩
    · unfold L2.start
      rw [List.length_append, List.length_append, List.length_map, List.length_replicate, List.length_replicate, h1, h2]
    · unfold L2.start
      show Okl Z G0 ((A a ++ List.replicate (N.length - n) none).zip (vs.map some ++ List.replicate (N.length - vs.length) none)) G H
      rw [List.zip_append (by rw [h2, List.length_map, h1]), h1]
      exact nones_zip h3 _
theorem pick0 {Z G0 G H : Hp} {σ : St} {s : Sl} {p : Addr} {Γ : Ctx} (k : Okc Z G0 [] (some (atP p s) :: Γ) σ G H) : Okl Z G0 [(some (atP p s), some (.ref p))] G H := by
  have z : Okc Z G0 ((none, none) :: []) (some (atP p s) :: Γ) σ G H := ⟨k.len, Okl.noneOn k.ok⟩
  exact (Okc.pick (i := 0) z rfl).drop
/-- __init__: self's fields are stored, the end is reached -/
theorem fn_mkI {x qual : Str} {st : Stmt} {f : Addr} {fd : FuncData} {N ps : List Str} {k n : Nat} {ξ α : Type} {A : ξ → List (Option Sl)} {C : Addr} {fl : α → Fs} {g : ξ → Res α} (FF : Fun K x qual st f fd) (Sc : FnScope N ps (defScope st)) (hn : ps.length = n + 1)
    (hbody : ∀ (cdv : Value) (Ar : Around) (outer : List Env) (s : Shared) (H : Hp) (E : XK), Room k (Ar.deeper (PyProof.Rows.envOfC qual (defScope st) s.heap.objs.size f cdv)) → Takes (cxOf (L2.CX P w) P w K mg base N qual (defScope st) f cdv Ar outer s H E) (fun cls d _ H => E cls d H) →
      PassesOwn (model P w) (Ar.deeper (PyProof.Rows.envOfC qual (defScope st) s.heap.objs.size f cdv)) (PyProof.Rows.envOfC qual (defScope st) s.heap.objs.size f cdv) (cxOf (L2.CX P w) P w K mg base N qual (defScope st) f cdv Ar outer s H E).xe → ∀ (p : Addr) (a : ξ), (A a).length = n →
      ∃ ts, SX (cxOf (L2.CX P w) P w K mg base N qual (defScope st) f cdv Ar outer s H E) T (fun cls d _ H => E cls d H) (List.replicate N.length none) (some (atP p (pob C [])) :: (A a ++ List.replicate (N.length - (n + 1)) none)) (defBody st) ts (g a) (fun b => .nx (some (atP p (pob C (fl b))) :: List.replicate (N.length - 1) none))) :
    FnOk P w K mg base (L2.CX P w) (k + 1) f fd ps (spI n T A C fl g) := by
  refine FF.okX Sc (fun vs H Q E h => ?_) (fun cdv Ar outer s H vs Q E hr h => ?_)
  · obtain ⟨p, vs', _, _, _, _, h1, h2, _⟩ := h
    rw [h1, hn, List.length_cons, h2]
  · obtain ⟨p, vs', a, Z, G0, G, rfl, h1, h2, h3, h4⟩ := h
    obtain ⟨ts, hs⟩ := hbody cdv Ar outer s H E hr (takes_of rfl rfl rfl rfl) (passes_of rfl) p a h2
    refine ⟨ts, hs.ps, hs.ev Z G0 [] _ G H _ ⟨?_, ?_⟩ (Res.wp_mono h4 (fun r q σ' G' H' k' => q G' H' (pick0 k')) fun ex q cls d σ' G' H' k' => q cls d G' H' k'.bare)⟩
    · unfold L2.start
      rw [List.length_cons, List.length_append, List.length_append, List.length_map, List.length_replicate, List.length_replicate, List.length_cons, h1, h2]
      omega
    · unfold L2.start
      show Okl Z G0 ((some (atP p (pob C [])) :: (A a ++ List.replicate (N.length - (n + 1)) none)).zip (some (.ref p) :: (vs'.map some ++ List.replicate (N.length - (vs'.length + 1)) none))) G H
      rw [List.zip_cons_cons, List.zip_append (by rw [h2, List.length_map, h1]), h1]
      exact nones_zip (l := (some (atP p (pob C [])), some (.ref p)) :: (A a).zip (vs'.map some)) h3 _
/-- OutOfRange's own __init__ -/
theorem fn_oor {x qual : Str} {st : Stmt} {f C : Addr} {fd : FuncData} {p1 p2 p3 pos : Pos} (F : Fun K x qual st f fd) (Sc : FnScope ["self", "name"] ["self", "name"] (defScope st)) (hbd : defBody st = [.Assign [.Attribute (.Name "self" p1) "name" p2] (.Name "name" p3) pos]) (ox : OexC K C) (na : PySem.W.findIn K (.ref C) "name" = some none)
    (hs : ∀ (X : Cx), swapsWith (.Name "name" p3) (some (.Attribute (.Name "self" p1) "name" p2)) pos.line X.env = pure false)
    (hs1 : (defScope st).names.lookup ("self" : Str) = some .local) (hs2 : (defScope st).names.lookup ("name" : Str) = some .local) : FnOk P w K mg base (L2.CX P w) 1 f fd ["self", "name"] (spOor C) := by
  refine F.okX Sc (fun vs H Q E h => ?_) (fun cdv Ar outer s H vs Q E hr h => ?_)
  · obtain ⟨a, v, rfl, _⟩ := h
    rfl
  · obtain ⟨a, v, rfl, h1, h2⟩ := h
    rw [hbd]
    refine ⟨_, pss_one (ps_ost (pv 0 rfl (Or.inl hs1) (by decide) (by decide)) (pv 1 rfl (Or.inl hs2) (by decide) (by decide)) (hs _)), ?_⟩
    refine ⟨v, rfl, .ref a, rfl, a, C, rfl, ox, na, .inl ⟨h1, fun dx hd hne => h2 dx hd hne⟩⟩
end
section
variable {X : Cx} {T : XT} {W : WX} {Γx Γ : Ctx} {K : PySem.W.Frag}
/-- if c: raise .. -/
theorem sx_ifraiseM {c : Expr} {tc : TT} {A rest : List Stmt} {pos : Pos} {tA tr : TS} {α β : Type} {me : Res α} {mn : Res Bool} {b : α → Bool} {Γt : α → Ctx} {mA : Res Empty} {mr mx : Res β} {IA : Empty → Out} {I : β → Out} (hc : ET X T W Γx Γ c tc me b Γt)
    (hA : SX X T W Γx Γ A tA mA IA) (hr : SX X T W Γx Γ rest tr mr I) (hx : mx = mA.bind fun e => e.elim := by rfl) (hΓ : ∀ t, Γt t = Γ := by exact fun _ => rfl) (hb : Bd mn me (fun t => .ok (b t)) := by intros; repeat (first | ((with_reducible refine Bd.done ?_); exact rfl) | with_reducible refine Bd.okl ?_ | with_reducible refine Bd.assoc ?_ | with_reducible refine Bd.bind fun _ => ?_ | with_reducible refine Bd.eta fun _ => ?_ | with_reducible refine Bd.iteB ?_ ?_ fun _ => ?_ | with_reducible refine Bd.iteE ?_ ?_ fun _ => ?_ | with_reducible refine Bd.ite ?_ ?_ | with_reducible refine Bd.iteL ?_ ?_ | with_reducible refine Bd.assocL ?_ | with_reducible refine Bd.oklL ?_ | with_reducible exact Bd.same | with_reducible exact Bd.at | dsimp only)) :
    SX X T W Γx Γ (.If c A [] pos :: rest) (tSeq (tIfS tc tA tNext) tr) (mn.bind fun v => if v then mx else mr) I := by
  subst hx
  refine ⟨pss_cons (ps_if hc.pt hA.ps pss_nil) hr.ps, fun Z G0 S σ G H D k q => ?_⟩
  refine if_ev (DA := fun D => { D with nx := tr D }) (mn := mn) (f := b) (b' := id) (Γ' := fun _ => Γ) (mA := fun _ => mA.bind fun e => e.elim) (mB := fun _ => mr) hc (fun _ => rfl) hΓ (fun v Z G0 S σ G H D k q => ?_) (fun v Z G0 S σ G H D k q => hr.ev Z G0 S σ G H D k q) hb Z G0 S σ G H D k q
  exact hA.ev Z G0 S σ G H _ k (Res.wp_mono (Res.wp_bind q) (fun a z => a.elim) fun _ z => z)
theorem sx_ifraise {c : Expr} {tc : TT} {A rest : List Stmt} {pos : Pos} {tA tr : TS} {α β : Type} {me : Res α} {bn : Bool} {b : α → Bool} {Γt : α → Ctx} {mA : Res Empty} {mr mx : Res β} {IA : Empty → Out} {I : β → Out} (hc : ET X T W Γx Γ c tc me b Γt)
    (hA : SX X T W Γx Γ A tA mA IA) (hr : SX X T W Γx Γ rest tr mr I) (hx : mx = mA.bind fun e => e.elim := by rfl) (hΓ : ∀ t, Γt t = Γ := by exact fun _ => rfl) (hb : Bd (.ok bn) me (fun t => .ok (b t)) := by intros; repeat (first | ((with_reducible refine Bd.done ?_); exact rfl) | with_reducible refine Bd.okl ?_ | with_reducible refine Bd.assoc ?_ | with_reducible refine Bd.bind fun _ => ?_ | with_reducible refine Bd.eta fun _ => ?_ | with_reducible refine Bd.iteB ?_ ?_ fun _ => ?_ | with_reducible refine Bd.iteE ?_ ?_ fun _ => ?_ | with_reducible refine Bd.ite ?_ ?_ | with_reducible refine Bd.iteL ?_ ?_ | with_reducible refine Bd.assocL ?_ | with_reducible refine Bd.oklL ?_ | with_reducible exact Bd.same | with_reducible exact Bd.at | dsimp only)) :
    SX X T W Γx Γ (.If c A [] pos :: rest) (tSeq (tIfS tc tA tNext) tr) (if bn then mx else mr) I := sx_ifraiseM (mn := .ok bn) hc hA hr hx hΓ hb
/-- a constant of the module -/
theorem ex_globE {α : Type} {c : Cod α} {a : α} {x : Str} {v : V} {pos : Pos} (hm : ∃ u, X.mg x = some u ∧ RelV v u) (h : ∀ G, c.rel G v a) (hg : Gl X x := by rfl) (hd : (x == ("__debug__" : Str)) = false := by decide) : EX X T W Γx Γ (.Name x pos) (tC v) (.ok ()) (fun _ => fz c a) (fun _ => Γ) := by
  obtain ⟨u, h1, h2⟩ := hm
  exact ex_glob h1 h2 h hg hd
end
/-! ### the law's promise -/
def spTrue (K : PySem.W.Frag) : Sp := fun vs H Q _ => ∃ (a : Addr) (ns : List Int), vs = [.ref a] ∧ SqL K H a (ns.map V.int) ∧ ns.length ≤ 63 ∧ ∀ H', Q (.bl true) H'
theorem law_spQ {K : PySem.W.Frag} {T : XT} {f : List Int → Res Bool} (h : ∀ ns : List Int, ns.length ≤ 63 → f ns = .ok true) : ∀ vs H Q E, spTrue K vs H Q E → spM 1 T (aCons (fz (cSq K cInt)) aNil) (fun x => f x.1) (fz cBool) vs H Q E := by
  rintro vs H Q E ⟨a, ns, rfl, hS, hl, q⟩
  refine ⟨(ns, ()), H, H, H, rfl, rfl, ⟨Evl.Ex.refl H, Evl.Ex.refl H, Evl.Ex.refl H, fun _ _ _ _ e => e, [], ⟨[], [], rfl, ⟨.ref a, rfl, ⟨a, _, rfl, hS, ?_⟩, rfl⟩, rfl⟩, List.nodup_nil, fun p hp => by cases hp⟩, ?_⟩
  · have go : ∀ l : List Int, Paired (cInt.rel H) (l.map V.int) l := fun l => by
      induction l with
      | nil => exact .nil
      | cons n r ih => exact .cons rfl ih
    exact go ns
  · show (f ns).wp _ _
    rw [h ns hl]
    intro v G' H' k
    have e : v = .bl true := k.rel1
    rw [e]
    exact q H'
theorem sp_true {K : PySem.W.Frag} {H : Hp} {a : Addr} {ns : List Int} (hS : SqL K H a (ns.map V.int)) (hl : ns.length ≤ 63) : spTrue K [.ref a] H (fun v _ => v = .bl true) fun _ _ _ => False := ⟨a, ns, rfl, hS, hl, fun _ => rfl⟩
end Rt
/-! Rt20: try with any except clauses, named or not. -/
namespace Rt
open PySem L2 R PySem.Spec PyProof.Rows
abbrev Su := Addr → Value → Option Addr → TS
/-- how a clause's suite ends: its name is gone -/
def dOf (D : Ends) : Option Nat → Ends
  | none => D
  | some i => ⟨fun σ H => D.nx (σ.set i none) H, D.rt, fun σ H => D.bk (σ.set i none) H, fun σ H => D.ct (σ.set i none) H⟩
def sOf (σ : L2.St) (a : Addr) : Option Nat → L2.St
  | none => σ
  | some i => σ.set i (some (.ref a))
def gone (σ : L2.St) : Option Nat → L2.St
  | none => σ
  | some i => σ.set i none
/-- what the clauses wish, in turn -/
def wHs (K : PySem.W.Frag) (Wo : WX) (D : Ends) : List (Value × Option Nat × Su) → WX
  | [] => Wo
  | (c, oi, ts) :: r => fun cls d σ H => ∃ b, PySem.W.exmOne K cls c = some b ∧ (b = true → ∀ a, H a = none → ts a cls d (dOf D oi) (sOf σ a oi) H) ∧ (b = false → wHs K Wo D r cls d σ H)
/-- the clauses of a try -/
inductive Hs (X : Cx) : List ExceptHandler → List (Value × Option Nat × Su) → Prop
  | nil : Hs X [] []
  | one {x : Str} {c : Value} {ts : Su} {b0 : Stmt} {su : List Stmt} {p1 p2 : Pos} {hr : List ExceptHandler} {l : List (Value × Option Nat × Su)} (nm : Names X x c)
      (hs : ∀ (a : Addr) (oe : Obj) (cls : Value) (d : Option Addr) (pn : List (Addr × Obj)), Zc cls d oe → (∃ vs, oe.data = .fields vs) → PSs (X.suite a ((a, oe) :: pn)) (b0 :: su) (ts a cls d)) (r : Hs X hr l) :
      Hs X (.ExceptHandler (some (.Name x p1)) none (b0 :: su) p2 :: hr) ((c, none, ts) :: l)
  | as {x n : Str} {i : Nat} {c : Value} {ts : Su} {b0 : Stmt} {su : List Stmt} {p1 p2 : Pos} {hr : List ExceptHandler} {l : List (Value × Option Nat × Su)} (nm : Names X x c) (nd : X.N.Nodup) (hi : X.N[i]? = some n) (ln : X.env.kindOf n = some .local)
      (hs : ∀ (a : Addr) (oe : Obj) (cls : Value) (d : Option Addr) (pn : List (Addr × Obj)), Zc cls d oe → (∃ vs, oe.data = .fields vs) → PSs (X.suite a ((a, oe) :: pn)) (b0 :: su) (ts a cls d)) (r : Hs X hr l) :
      Hs X (.ExceptHandler (some (.Name x p1)) (some n) (b0 :: su) p2 :: hr) ((c, some i, ts) :: l)
/-- the reading of a try: its clauses, and a body that wishes what they wish -/
def tTry (X : Cx) (Wo : WX) (body : List Stmt) (hds : List ExceptHandler) : TS := fun D σ H => ∃ l, Hs X hds l ∧ ∀ (pn : List (Addr × Obj)) (xe : Value → Shared → Prop), Takes (X.tr pn xe) (wHs X.K Wo D l) → PassesOwn (model X.prog X.w) X.A X.env xe → ∃ ts, PSs (X.tr pn xe) body ts ∧ ts D σ H
section
variable {X : Cx} {body : List Stmt} {h0 : ExceptHandler} {hr : List ExceptHandler} {pos : Pos} {Wo : WX}
theorem ps_tryX (k1 : X.stack = X.env :: X.outer) (k2 : X.env.frame = some X.env.locals) (tk : Takes X Wo) : PS X (.Try body (h0 :: hr) [] [] pos) (tTry X Wo body (h0 :: hr)) := by
  refine ⟨fun pins s σ H D I ⟨l, hh, hb⟩ => ?_⟩
  have ok := I.ok
  have fr : X.A.frames = some (X.env :: X.outer) := by rw [ok.frames, k1]
  refine Exists.elim (hb (X.pn ++ pins) (fun e sa => wpAny (model X.prog X.w) X.A (noteFrame e X.env) (fun _ sb => wpAny (model X.prog X.w) X.A (setFlight e none) (fun _ sc =>
    wpAny (model X.prog X.w) X.A (handleBy e X.env (h0 :: hr)) (SP X pins D) X.xe sc) X.xe sb) X.xe sa) (fun u sd thrown => ?_) PassesOwn.looking) fun ts ⟨hts, hD⟩ => ?_
  · obtain ⟨a, B, sI, pins', σ', H', cls, d, rfl, Jt, nb, up, sky, na, os, ag, w⟩ := thrown
    have J : Inv X pins σ' H' sI := Jt.ofTry ok
    have sk : Sky B (X.env :: X.outer) a (Zc cls d) X.env.locals sd.heap := by rw [← k1]; exact sky
    show wpAny (model X.prog X.w) X.A (noteFrame (.ref a) X.env) _ _ _
    refine Sky.land Zc.steady fr k2 sk fun g3 fl3 up3 => ?_
    have J3 : Inv X pins σ' H' { sd with heap := g3 } := J.landed nb fl3.1 (up.trans up3) os ag
    obtain ⟨o3, v3, e3, z3, d3⟩ := fl3.there
    have out : a ∉ frs (X.env :: X.outer) := fun hm => by
      obtain ⟨_, o', e', hnf⟩ := fl3.2.2.1.mem hm
      rw [e3] at e'
      cases e'
      exact hnf _ d3
    have nL : a ≠ X.env.locals := fun z => out (List.mem_filterMap.mpr ⟨X.env, List.mem_cons_self, by rw [k2, z]⟩)
    have nF : a ∉ X.fs := fun hm => by
      obtain ⟨e, he, q⟩ := List.mem_filterMap.mp hm
      exact out (List.mem_filterMap.mpr ⟨e, List.mem_cons_of_mem _ he, q⟩)
    have S3 := J3.suite e3 d3 na nL nF
    have LT : PySem.W.Looks (model X.prog X.w) g3 (typeOf (.ref a)) cls := fun A Q E s k q => wpAny_typeOf_ref (k _ _ e3) (by rw [z3.1]; exact q)
    have name : ∀ {x : Str} {c : Value} {np : Pos} {Q E : Value → Shared → Prop}, Names X x c → Q c { sd with heap := g3 } → wpAny (model X.prog X.w) (X.A.mark (some (.ref a))) (eval (.Name x np) X.env) Q E { sd with heap := g3 } := fun {x c np Q E} nm q => by
      rcases nm with ⟨hg, db, hm | ⟨hm, hv, hnn⟩⟩
      · exact ld_glob (X := X.suite a ((a, o3) :: (X.pn ++ pins))) S3 hg hm q db
      · exact ld_blt (X := X.suite a ((a, o3) :: (X.pn ++ pins))) S3 hg hm hv q hnn db
    have go : ∀ {hs' : List ExceptHandler} {l' : List (Value × Option Nat × Su)}, Hs X hs' l' → wHs X.K Wo D l' cls d σ' H' → wpAny (model X.prog X.w) X.A (handleBy (.ref a) X.env hs') (SP X pins D) X.xe { sd with heap := g3 } := by
      intro hs' l' hk
      induction hk with
      | nil =>
        intro w
        obtain ⟨_, _, _, oe, vs, T, oT, ts', he, hz, hd, h1, _⟩ := id fl3
        refine wpAny_handleBy_nil ?_
        unfold PySem.passOn
        refine wpAny_bind (wpAny_field he hd h1 ?_)
        rw [if_neg (show ¬ ((Value.ref T == Value.none) = true) from by simp)]
        have fin : wpAny (model X.prog X.w) X.A (setFlight (.ref a) X.env.frame) (fun _ sz => wpAny (model X.prog X.w) X.A (throw (.ref a) : Sem Flow) (SP X pins D) X.xe sz) X.xe { sd with heap := g3 } := by
          rw [k2]
          exact HandSPX.setFlight_upZ fl3 fun g4 hg4 up4 => wpAny_throw (tk _ _ ⟨a, B, sI, pins, σ', H', cls, d, rfl, J, nb, (up.trans up3).trans up4, .inr (.inr (by rw [k1]; exact hg4)), na, os, ag, w⟩)
        first
          | exact wpAny_bind (wpAny_pure (wpAny_bind fin))
          | exact wpAny_bind fin
      | @one x c ts b0 su p1 p2 hr2 l2 nm hsu r ih =>
        rintro ⟨b, hb1, yes, no⟩
        refine wpAny_handleBy_cons (codeAny_handlers_test (name nm ((PySem.W.exm_one (M := model X.prog X.w) J3.kIn LT hb1).here ?_))) (by intro q; cases q)
        cases b with
        | true =>
          refine codeAny_handlers_suite (HandSPX.lands_againZ fl3 fun g4 fl4 up4 => ?_)
          have J4 : Inv X pins σ' H' { sd with heap := g4 } := J.landed nb fl4.1 ((up.trans up3).trans up4) os ag
          obtain ⟨o4, v4, e4, z4, d4⟩ := fl4.there
          refine wpAny_mono ((hsu a o4 cls d (X.pn ++ pins) z4 ⟨_, d4⟩).run [] _ _ H' _ (J4.suite e4 d4 na nL nF) (yes rfl a na)) (fun f s6 q => ?_) (fun _ _ z => False.elim z)
          cases f with
          | next => obtain ⟨σ6, H6, S6, q6⟩ := q; exact ⟨_, _, S6.unsuite ok, q6⟩
          | brk => obtain ⟨σ6, H6, S6, q6⟩ := q; exact ⟨_, _, S6.unsuite ok, q6⟩
          | cont => obtain ⟨σ6, H6, S6, q6⟩ := q; exact ⟨_, _, S6.unsuite ok, q6⟩
          | ret u => obtain ⟨v6, σ6, H6, S6, r6, q6⟩ := q; exact ⟨_, _, _, S6.unsuite ok, r6, q6⟩
        | false =>
          show wpAny _ X.A (handleBy (.ref a) X.env hr2) _ _ _
          exact ih (no rfl)
      | @as x n i c ts b0 su p1 p2 hr2 l2 nm nd hi ln hsu r ih =>
        rintro ⟨b, hb1, yes, no⟩
        refine wpAny_handleBy_cons (codeAny_handlers_test (name nm ((PySem.W.exm_one (M := model X.prog X.w) J3.kIn LT hb1).here ?_))) (by intro q; cases q)
        cases b with
        | true =>
          refine codeAny_handlers_suite_as (HandSPX.lands_againZ fl3 fun g4 fl4 up4 => ?_)
          have J4 : Inv X pins σ' H' { sd with heap := g4 } := J.landed nb fl4.1 ((up.trans up3).trans up4) os ag
          obtain ⟨o4, v4, e4, z4, d4⟩ := fl4.there
          refine store_ok (X := X.suite a ((a, o4) :: (X.pn ++ pins))) (v := .ref a) (J4.suite e4 d4 na nL nF) nd hi (.inl ln) rfl (fun s5 S5 => ?_) (.inr ln)
          refine wpAny_mono ((hsu a o4 cls d (X.pn ++ pins) z4 ⟨_, d4⟩).run [] s5 _ H' _ S5 (yes rfl a na)) (fun f s6 q => ?_) (fun _ _ z => False.elim z)
          have off : ∀ {σ6 : L2.St} {H6 : Hp} {Q : Shared → Prop}, Inv (X.suite a ((a, o4) :: (X.pn ++ pins))) [] σ6 H6 s6 → (∀ s7, Inv X pins (σ6.set i none) H6 s7 → Q s7) → wpAny (model X.prog X.w) X.A (do bindName X.env n .none; unbindBehindTheSuite X.env n p2) (fun _ s7 => Q s7) X.xe s6 := fun S6 hq => gone_ok (S6.unsuite ok) nd hi ln hq
          cases f with
          | next => obtain ⟨σ6, H6, S6, q6⟩ := q; exact off S6 fun s7 J7 => ⟨_, _, J7, q6⟩
          | brk => obtain ⟨σ6, H6, S6, q6⟩ := q; exact off S6 fun s7 J7 => ⟨_, _, J7, q6⟩
          | cont => obtain ⟨σ6, H6, S6, q6⟩ := q; exact off S6 fun s7 J7 => ⟨_, _, J7, q6⟩
          | ret u => obtain ⟨v6, σ6, H6, S6, r6, q6⟩ := q; exact off S6 fun s7 J7 => ⟨_, _, _, J7, r6, q6⟩
        | false =>
          show wpAny _ X.A (handleBy (.ref a) X.env hr2) _ _ _
          exact ih (no rfl)
    exact go hh w
  · refine wpAny_Try_except (wpAny_mono (hts.run [] s σ H D (I.toTry _) hD) (fun f s1 q => ?_) (fun e s1 z => z))
    cases f with
    | next => obtain ⟨σ', H', J', q⟩ := q; exact wpAny_execs_nil ⟨σ', H', J'.ofTry ok, q⟩
    | brk => obtain ⟨σ', H', J', q⟩ := q; exact ⟨σ', H', J'.ofTry ok, q⟩
    | cont => obtain ⟨σ', H', J', q⟩ := q; exact ⟨σ', H', J'.ofTry ok, q⟩
    | ret u => obtain ⟨v, σ', H', J', r, q⟩ := q; exact ⟨v, σ', H', J'.ofTry ok, r, q⟩
end
end Rt
/-! Rt21: the suites of a try: what is caught, its field, isinstance of it; the try as a statement. -/
namespace PySem.W
open PySem PySem.Spec PySem.Calls PyProof.Rows
section
variable {prog : Program} {w : World} {A : Around} {E : Value → Shared → Prop} {s : Shared} {K : Frag} {x D : Addr} {ox : Obj} {od : Option Obj}
theorem rt_find {C : Addr} {name : Str} {a g : Value} (h1 : (clsIn K C).isSome = true) (h2 : findIn K (.ref C) name = some (some a)) (h3 : specialIn K a "__get__" = some (some g)) (h4 : takesIn K a = some true) : findObj K C od name = some (.bind g a) := by
  obtain ⟨cd, e⟩ := Option.isSome_iff_exists.mp h1
  simp only [findObj, e, Option.bind_some, h2, h3, h4]
/-- o.__class__ of an own exception, with a dict of its own or not -/
theorem rt_class {Q : Option Value → Shared → Prop} (g1 : findIn K (.ref D) "__getattribute__" = some (some (.builtin "BaseException.__getattribute__"))) (g2 : findIn K (.ref D) "__getattr__" = some none) (g3 : subIn K (.ref D) (.type "BaseException") = some true) (g4 : hasDictIn K D = true)
    (g5 : findIn K (.ref D) "__class__" = some (some (.builtin "object.__class__"))) (g6 : specialIn K (.builtin "object.__class__") "__get__" = some (some (.builtin "getset_descriptor.__get__"))) (g7 : takesIn K (.builtin "object.__class__") = some true)
    (g8 : mroIn K D (.type "object") = some true) (X : K.In s.heap) (I : InstAt s.heap x ox D od) (q : Q (some (.ref D)) { s with toks := s.toks + 1 }) : wpAny (model prog w) A (getAttr? (.ref x) "__class__") Q E s := by
  have f0 : findObj K D od "__class__" = some (.bind (.builtin "getset_descriptor.__get__") (.builtin "object.__class__")) := rt_find (by obtain ⟨cd, e, _⟩ := any_some g4; rw [e]; rfl) g5 g6 g7
  obtain ⟨hp, g, d, t, os⟩ := s
  have l0 := I.type (M := model prog w)
  have l1 := looks_findIn (M := model prog w) X g1
  have l2 := looks_findIn (M := model prog w) X g2
  have l3 := looks_find (M := model prog w) X I f0
  have isB : Looks (model prog w) hp (isInstance (.ref x) (.type "BaseException")) true := l0.andThen (looks_subIn X g3)
  have n2 : (Value.builtin "BaseException.__getattribute__" == Value.builtin "object.__getattribute__") = false := by decide +kernel
  have n1 : (onTheHeap (Value.ref D) && Value.builtin "BaseException.__getattribute__" == Value.builtin "object.__getattribute__") = false := by rw [n2, Bool.and_false]
  have n0 : (false && onTheHeap (Value.builtin "BaseException.__getattribute__")) = false := rfl
  unfold getAttr? getAttrBy? getAttrBy
  refine wpAny_bind (wpAny_mkText (wpAny_bind (wpAny_attempt (wpAny_holding (wpAny_bind (l0.at (wpAny_bind (l1.at ?_))))))))
  show wpAny _ _ (ite ((onTheHeap (Value.ref D) && Value.builtin "BaseException.__getattribute__" == Value.builtin "object.__getattribute__") = true) _ _) _ _ _
  rw [n1, if_neg Bool.false_ne_true]
  unfold getAttrByItsOwn hookBefore
  refine wpAny_bind ?_
  rw [if_pos (show onTheHeap (Value.ref D) = true from rfl)]
  refine l2.at (wpAny_bind (wpAny_attempt (wpAny_holding ?_)))
  unfold callGetattribute
  rw [n0, if_neg Bool.false_ne_true]
  unfold boundAndCalled
  rw [PySem.F.excAttr_ValueError.ga.bind (.ref x)]
  refine wpAny_bind (wpAny_pure ?_)
  show wpAny _ _ (call (.builtin "BaseException.__getattribute__") [.ref x, .str "__class__" t]) _ _ _
  refine wpAny_call (codeAny_call_builtin PySem.F.excAttr_ValueError.ga.plain PySem.F.entry_bexc_ga (@check_slot (model prog w) _ _ ⟨hp, g, d, t + 1, os⟩ "BaseException.__getattribute__" "BaseException" "__getattribute__" (.ref x) [.str "__class__" t] [] _ (by decide +kernel) (by decide +kernel) isB (PySem.F.args_bexc_ga (.ref x) (.str "__class__" t)) ?_))
  unfold Builtin.«object.__getattribute__»
  refine wpAny_bind (wpAny_of_eq (a := ((Value.ref x : Value), [Value.str "__class__" t])) (by first | rfl | (simp only [slotArgs]; rfl)) (wpAny_bind (wpAny_pure (wpAny_bind (l0.at (wpAny_bind (l3.at ?_)))))))
  show wpAny _ _ (holding [Value.builtin "object.__class__"] (call (.builtin "getset_descriptor.__get__") [.builtin "object.__class__", .ref x, .ref D]) >>= ret) _ _ _
  refine wpAny_bind (wpAny_holding (wpAny_call (class_get (s := ⟨hp, g, d, t + 1, os⟩) (ox := ox) (od := od) X I g8 (wpAny_pure ?_))))
  show wpAny _ _ (handedOut (.ref D)) _ _ _
  rw [handedOut_of (v := .ref D) rfl]
  first
    | exact wpAny_pure (wpAny_pure q)
    | exact wpAny_pure q
    | exact wpAny_pure (wpAny_bind (wpAny_pure (wpAny_pure q)))
theorem rt_kitx (g1 : findIn K (.ref D) "__getattribute__" = some (some (.builtin "BaseException.__getattribute__"))) (g2 : findIn K (.ref D) "__getattr__" = some none) (g3 : subIn K (.ref D) (.type "BaseException") = some true) (g4 : hasDictIn K D = true)
    (g5 : findIn K (.ref D) "__class__" = some (some (.builtin "object.__class__"))) (g6 : specialIn K (.builtin "object.__class__") "__get__" = some (some (.builtin "getset_descriptor.__get__"))) (g7 : takesIn K (.builtin "object.__class__") = some true)
    (g8 : mroIn K D (.type "object") = some true) : KitX K (.ref x) (.ref D) (fun h => InstAt h x ox D od) := by
  obtain ⟨cd, hc, _⟩ := any_some g4
  unfold clsIn at hc
  split at hc
  · rename_i c' d' cd' sl' ho
    refine ⟨fun _ _ _ I => I.type, fun _ _ X _ => ?_, fun h tp dd its n sl X htp => Bool.eq_false_iff.mpr fun q => ?_, fun X I k => rt_class g1 g2 g3 g4 g5 g6 g7 g8 X I k⟩
    · intro A' Q' E' s' k q
      unfold isType loadHead
      exact wpAny_bind (wpAny_loadPart (k _ _ (X _ _ ho)) (wpAny_pure q))
    · have e : D = tp := Value.ref.inj (beq_iff_eq.mp q)
      subst e
      cases (X _ _ ho).symm.trans htp
  · cases hc
end
end PySem.W
namespace L2
open PySem PySem.Spec PyProof.Rows
/-- isinstance(e, c) of what a suite holds -/
def rIsX (K : PySem.W.Frag) (D a : Addr) : List V → Hp → VK → Prop := fun xs H Q => ∃ (c : V) (cv : Value) (b : Bool), xs = [.ref a, c] ∧ (∀ u, RelV c u → u = cv) ∧ PySem.W.kitOne K (.ref D) cv = some b ∧ Q (.bl b) H
theorem call_isX {X : Cx} {a D : Addr} {oe : Obj} {d : Option Addr} {pn : List (Addr × Obj)} {fs : List (Str × V)} (C : ExcC X.K D) (hz : Zc (.ref D) d oe) (hf : ∃ vs, oe.data = .fields vs) :
    CallR (X.suite a ((a, oe) :: pn)) (.builtin "isinstance") (fun xs H Q => (∀ dd, d = some dd → H dd = some (.xd fs)) ∧ rIsX X.K D a xs H Q) := by
  rintro pins s σ H xs us Q I r ⟨hdd, c, cv, b, rfl, hcv, e, q⟩
  cases r with
  | cons rx rr =>
    cases rr with
    | cons rt rr =>
      cases rr
      cases rx
      have ec := hcv _ rt
      subst ec
      have hget := (I.pin (a, oe) (List.mem_append.mpr (.inl List.mem_cons_self))).1
      obtain ⟨vs, hv⟩ := hf
      have J : ∃ od, PySem.W.InstAt s.heap a oe D od := by
        cases d with
        | none =>
          obtain ⟨oc, oda, odt, osl⟩ := oe
          obtain ⟨z1, z2⟩ := hz
          dsimp only at z1 z2 hv
          subst z1 z2 hv
          exact ⟨none, hget, rfl, rfl, trivial⟩
        | some dd =>
          have hx : ObjOk X.prog X.w H s.heap dd (.xd fs) := I.hok dd _ (hdd dd rfl)
          obtain ⟨mA, hns, _⟩ := hx
          obtain ⟨od, ho, _⟩ := lookIn_ns hns
          exact ⟨some od, hget, hz.1, by unfold PySem.W.notCls; rw [hv] <;> rfl, by rw [hz.2]; exact ho⟩
      obtain ⟨od, J⟩ := J
      exact PySem.W.kia_one (PySem.W.rt_kitx C.hg C.hk C.hs C.hd C.ha C.hn C.ht C.hm) I.kIn J e (fun z => nomatch z) fun tk => ⟨.bl b, H, I.kept (t' := tk) fun _ _ z => z, rfl, q⟩
end L2
/-! Rt22: try as a statement; what a suite says of what it holds. -/
namespace Rt
open PySem L2 R
def hwp {α : Type} (o : Option (Res α)) (Q : α → Prop) (w : Prop) : Prop := match o with
  | some r => r.calm.wp Q (fun _ => False)
  | none => w
theorem tryR_wp {α : Type} {m : Res α} {h : Exn → Option (Res α)} {Q : α → Prop} {E : Exn → Prop} (q : (tryR m h).wp Q E) : m.wp Q (fun e => hwp (h e) Q (E e)) := by
  cases m with
  | ok a => exact q
  | stuck => exact q
  | exn e =>
    show hwp (h e) Q (E e)
    have q' : (match h e with | some r => r.calm | none => Res.exn e).wp Q E := q
    cases he : h e with
    | some r =>
      rw [he] at q'
      show r.calm.wp Q (fun _ => False)
      have q2 : r.calm.wp Q E := q'
      cases r with
      | ok a => exact q2
      | exn e => exact q2.elim
      | stuck => exact q2.elim
    | none =>
      rw [he] at q'
      exact q'
/-- what a suite holds by its name -/
def cEx (T : XT) (a : Addr) (cls : Value) (d : Option Addr) : Cod Exn := ⟨fun G v ex => v = .ref a ∧ T.rel ex cls d G, fun h e => ⟨h.1, XT.rel_mono h.2 e⟩⟩
/-- nothing stands at the slot behind -/
def Out.free (o : Out) (i : Nat) : Prop :=
  match o with
  | .nx Γ => Γ[i]? = some none
  | .ret _ _ => True
  | .brk Γ => Γ[i]? = some none
  | .cnt Γ => Γ[i]? = some none
/-- clauses: their suites by what is raised -/
structure HX (X : Cx) (T : XT) (Γb : Ctx) (hds : List ExceptHandler) (l : List (Value × Option Nat × Su)) {α : Type} (h : Exn → Option (Res α)) (I : α → Out) : Prop where
  hs : Hs X hds l
  ev : ∀ (W : WX) (Z G0 : Hp) (S : List Pl) (σ : L2.St) (G H : Hp) (D : Ends) (ex : Exn) (cls : Value) (d : Option Addr), Okc Z G0 S Γb σ G H → T.rel ex cls d G →
    hwp (h ex) (fun a => (I a).go D Z G0 S) (W cls d σ H) → wHs X.K W D l cls d σ H
section
variable {X : Cx} {T : XT} {W : WX} {Γx Γ Γb : Ctx} {K : PySem.W.Frag}
theorem hx_nil {α : Type} {I : α → Out} : HX X T Γb [] [] (fun _ => none) I := ⟨.nil, fun _ _ _ _ _ _ _ _ _ _ _ _ _ q => q⟩
/-- what a clause tells apart -/
def Tells (K : PySem.W.Frag) (T : XT) (c : Value) (b : Exn → Bool) : Prop := ∀ ex cls d G, T.rel ex cls d G → PySem.W.exmOne K cls c = some (b ex)
theorem suite_wp {α : Type} {r : Res α} {Q : α → Prop} {b : Bool} {o : Option (Res α)} {w : Prop} (q : hwp (if b then some r else o) Q w) :
    (b = true → r.wp Q fun _ => False) ∧ (b = false → hwp o Q w) := by
  cases b with
  | true => exact ⟨fun _ => Res.wp_mono (Res.wp_calm q) (fun _ z => z) fun _ z => z, fun z => by cases z⟩
  | false => exact ⟨fun z => (by cases z), fun _ => q⟩
theorem hx_one {x : Str} {c : Value} {ts : Su} {b0 : Stmt} {su : List Stmt} {p1 p2 : Pos} {hr : List ExceptHandler} {l : List (Value × Option Nat × Su)} {α : Type} {I : α → Out} {b : Exn → Bool} {m : Exn → Res α} {h : Exn → Option (Res α)} (nm : Names X x c) (tl : Tells X.K T c b)
    (hsu : ∀ (a : Addr) (oe : Obj) (cls : Value) (d : Option Addr) (pn : List (Addr × Obj)), Zc cls d oe → (∃ vs, oe.data = .fields vs) → ∀ ex, SX (X.suite a ((a, oe) :: pn)) T (fun _ _ _ _ => False) [] Γb (b0 :: su) (ts a cls d) (m ex) I)
    (r : HX X T Γb hr l h I) : HX X T Γb (.ExceptHandler (some (.Name x p1)) none (b0 :: su) p2 :: hr) ((c, none, ts) :: l) (fun ex => if b ex then some (m ex) else h ex) I := by
  refine ⟨.one nm (fun a oe cls d pn z f => (hsu a oe cls d pn z f (.cls 0)).ps) r.hs, fun W Z G0 S σ G H D ex cls d k t q => ⟨b ex, tl ex cls d G t, fun e a ha => ?_, fun e => ?_⟩⟩
  · have q1 := (suite_wp q).1 e
    exact (hsu a ⟨cls, d, .fields #[], #[]⟩ cls d [] ⟨rfl, rfl⟩ ⟨_, rfl⟩ ex).ev Z G0 S σ G H D k (Res.wp_mono q1 (fun _ z => z) fun _ z => z.elim)
  · exact r.ev W Z G0 S σ G H D ex cls d k t ((suite_wp q).2 e)
theorem Out.go_gone {o : Out} {i : Nat} {D : Ends} {Z G0 : Hp} {S : List Pl} (f : o.free i) (h : o.go D Z G0 S) : o.go (dOf D (some i)) Z G0 S := by
  cases o with
  | nx Γ => exact fun σ G H k => h _ G H (forget1 k f)
  | ret s l => exact h
  | brk Γ => exact fun σ G H k => h _ G H (forget1 k f)
  | cnt Γ => exact fun σ G H k => h _ G H (forget1 k f)
theorem hx_as {x n : Str} {i : Nat} {c : Value} {ts : Su} {b0 : Stmt} {su : List Stmt} {p1 p2 : Pos} {hr : List ExceptHandler} {l : List (Value × Option Nat × Su)} {α : Type} {I : α → Out} {b : Exn → Bool} {m : Exn → Res α} {h : Exn → Option (Res α)} (nm : Names X x c) (tl : Tells X.K T c b) (nd : X.N.Nodup)
    (hsu : ∀ (a : Addr) (oe : Obj) (cls : Value) (d : Option Addr) (pn : List (Addr × Obj)), Zc cls d oe → (∃ vs, oe.data = .fields vs) → ∀ ex, SX (X.suite a ((a, oe) :: pn)) T (fun _ _ _ _ => False) [] (Γb.set i (some (fz (cEx T a cls d) ex))) (b0 :: su) (ts a cls d) (m ex) I)
    (r : HX X T Γb hr l h I) (hfr : ∀ a, (I a).free i := by intro a; first | exact trivial | rfl | (cases a <;> first | exact trivial | rfl)) (hi : X.N[i]? = some n := by rfl) (hl : Nat.ble (i + 1) Γb.length = true := by rfl) (ln : X.env.kindOf n = some .local := by rfl) :
    HX X T Γb (.ExceptHandler (some (.Name x p1)) (some n) (b0 :: su) p2 :: hr) ((c, some i, ts) :: l) (fun ex => if b ex then some (m ex) else h ex) I := by
  refine ⟨.as nm nd hi ln (fun a oe cls d pn z f => (hsu a oe cls d pn z f (.cls 0)).ps) r.hs, fun W Z G0 S σ G H D ex cls d k t q => ⟨b ex, tl ex cls d G t, fun e a ha => ?_, fun e => ?_⟩⟩
  · have q1 := (suite_wp q).1 e
    have k1 : Okc Z G0 S (Γb.set i (some (fz (cEx T a cls d) ex))) (σ.set i (some (.ref a))) G H := Okc.store (k.pushf (c := cEx T a cls d) (a := ex) (v := .ref a) ⟨rfl, t⟩) (Nat.le_of_ble_eq_true hl)
    exact (hsu a ⟨cls, d, .fields #[], #[]⟩ cls d [] ⟨rfl, rfl⟩ ⟨_, rfl⟩ ex).ev Z G0 S _ G H _ k1 (Res.wp_mono q1 (fun a z => Out.go_gone (hfr a) z) fun _ z => z.elim)
  · exact r.ev W Z G0 S σ G H D ex cls d k t ((suite_wp q).2 e)
theorem s1_try {body : List Stmt} {h0 : ExceptHandler} {hr : List ExceptHandler} {l : List (Value × Option Nat × Su)} {pos : Pos} {α : Type} {mB : Res α} {h : Exn → Option (Res α)} {I : α → Out} (Γb : Ctx) (tk : Takes X W)
    (hb : ∀ (W' : WX) (pn : List (Addr × Obj)) (xe : Value → Shared → Prop), Takes (X.tr pn xe) W' → PassesOwn (model X.prog X.w) X.A X.env xe → ∃ ts, SX (X.tr pn xe) T W' Γb Γ body ts mB I)
    (hh : HX X T Γb (h0 :: hr) l h I) (hw : Wk Γb Γx) (k1 : X.stack = X.env :: X.outer := by rfl) (k2 : X.env.frame = some X.env.locals := by rfl) :
    S1 X T W Γx Γ (.Try body (h0 :: hr) [] [] pos) (tTry X W body (h0 :: hr)) (tryR mB h) I := by
  refine ⟨ps_tryX k1 k2 tk, fun Z G0 S σ G H D k q => ⟨l, hh.hs, fun pn xe tk' po => ?_⟩⟩
  obtain ⟨ts, hs⟩ := hb _ pn xe tk' po
  refine ⟨ts, hs.ps, hs.ev Z G0 S σ G H D k (Res.wp_mono (tryR_wp q) (fun _ z => z) fun ex q cls d σ' G' H' k' t => ?_)⟩
  refine hh.ev W Z G0 S σ' G' H' D ex cls d k' t ?_
  cases e : h ex with
  | some r =>
    rw [e] at q
    exact q
  | none =>
    rw [e] at q
    exact (show ∀ cls d σ' G' H', _ from q) cls d σ' G' H' (hw _ _ _ _ _ _ k') t
/-- e.f of what the suite holds -/
theorem ex_exf {a : Addr} {oe : Obj} {cls : Value} {d : Option Addr} {pn : List (Addr × Obj)} {e : Expr} {te : TE} {pos : Pos} {n : Str} {C : Addr} {α γ : Type} {c : Cod γ} {m : Res α} {f : Exn → Res γ} {x : α → Exn} {Γo : α → Ctx} {W : WX} (xf : XfC K C) (na : PySem.W.findIn K (.ref C) n = some none) (hz : Zc cls d oe) (hf : ∃ vs, oe.data = .fields vs)
    (hn : ∀ ex, ∀ z, f ex ≠ .exn z) (hr : ∀ ex z G, f ex = .ok z → T.rel ex cls d G → cls = .ref C ∧ ∃ dd fs v, d = some dd ∧ G dd = some (.xd fs) ∧ fs.lookup n = some v ∧ c.rel G v z)
    (he : EX (X.suite a ((a, oe) :: pn)) T W Γx Γ e te m (fun t => fz (cEx T a cls d) (x t)) Γo) (hK : X.K = K := by rfl)
    (hb : attributeBase e n X.env (eval e X.env) = eval e X.env := by rfl) :
    EX (X.suite a ((a, oe) :: pn)) T W Γx Γ (.Attribute e n pos) (tXf a cls d C n te) (m.bind fun t => (f (x t)).bind fun z => .ok (t, z)) (fun t => fz c t.2) (fun t => Γo t.1) := by
  subst hK
  refine ⟨pe_xf xf na hz hf he.pe hb, fun Z G0 S σ G H Q k q => he.ev Z G0 S σ G H _ k (Res.wp_mono (Res.wp_bind q) (fun t q v G' H' k' => ?_) fun ex q => q)⟩
  obtain ⟨e1, t1⟩ := k'.tp
  obtain ⟨z, ez, q3⟩ := wp_cases (Res.wp_bind q) (hn (x t))
  obtain ⟨e2, dd, fs, w, e3, e4, e5, e6⟩ := hr _ z G' ez t1
  exact ⟨e1, e2, dd, fs, w, e3, k'.ok.gh dd _ e4, e5, q3 w G' H' (k'.drop.pushf e6)⟩
theorem exf_name {cls : Value} {d : Option Addr} : ∀ ex z G, exName ex = .ok z → T.rel ex cls d G → cls = .ref T.oor ∧ ∃ dd fs v, d = some dd ∧ G dd = some (.xd fs) ∧ fs.lookup ("name" : Str) = some v ∧ cTx.rel G v z := fun ex z G e t => by
  cases ex with
  | oor n =>
    obtain ⟨h1, h2, dd, h3, h4⟩ := t
    cases e
    exact ⟨h1, dd, _, _, h3, h4, rfl, rfl, h2⟩
  | txt _ _ _ => cases e
  | cls _ => cases e
theorem exn_name : ∀ ex : Exn, ∀ z, exName ex ≠ .exn z := fun ex z h => by cases ex <;> cases h
/-- the classes whose instances are caught, and what isinstance tells of them -/
def IsX (K : PySem.W.Frag) (T : XT) (cv : Value) (b : Exn → Bool) : Prop := ∀ ex cls d G, T.rel ex cls d G → ∃ D, cls = .ref D ∧ ExcC K D ∧ PySem.W.kitOne K (.ref D) cv = some (b ex)
theorem ex_isE {a : Addr} {oe : Obj} {cls : Value} {d : Option Addr} {pn : List (Addr × Obj)} {x y : Str} {p p1 pos : Pos} {ce : Expr} {cv : V} {u : Value} {ex : Exn} {b : Exn → Bool} {W : WX} (i : Nat) (ki : IsX X.K T u b) (hz : Zc cls d oe) (hf : ∃ vs, oe.data = .fields vs) (hm : X.mg x = none)
    (hc : PE (X.suite a ((a, oe) :: pn)) ce (tC cv)) (hu : ∀ w, RelV cv w → w = u) (hv : bootBuiltins x = some (.builtin "isinstance")) (h : Γ[i]? = some (some (fz (cEx T a cls d) ex)) := by rfl) (hN : X.N[i]? = some y := by rfl) (hvis : Vis X.env.scope y := by first | exact Or.inl rfl | exact Or.inr (Or.inl rfl) | exact Or.inr (Or.inr rfl))
    (hg : Gl (X.suite a ((a, oe) :: pn)) x := by rfl) (hd : (y == ("__debug__" : Str)) = false := by decide) (hcd : (y == ("__classdict__" : Str)) = false := by decide) (hn : x ≠ "__name__" := by decide) (hdb : (x == ("__debug__" : Str)) = false := by decide)
    (he : starEach [.Name y p1, ce] X.env = (false, eval (.Name y p1) X.env) :: starEach [ce] X.env := by rfl) (he2 : starEach [ce] X.env = (false, eval ce X.env) :: starEach [] X.env := by rfl) (hpl : (backTo pos (starEach [ce] X.env)).any (·.1) = false := by rfl) :
    EX (X.suite a ((a, oe) :: pn)) T W Γx Γ (.Call (.Name x p) [.Name y p1, ce] [] pos) (tCB (fun xs H Q => ∃ D fs, cls = .ref D ∧ (∀ dd, d = some dd → H dd = some (.xd fs)) ∧ ExcC X.K D ∧ rIsX X.K D a xs H Q) (tCons (tVar i) (tCons (tC cv) tNil))) (.ok ()) (fun _ => sB (b ex)) (fun _ => Γ) := by
  refine ⟨pe_callB (fun pins s σ H xs us Q I r ⟨D, fs, e1, e2, e3, q⟩ => ?_) hg hm hv (pa_cons (pv i hN hvis hd hcd) (pa_cons hc pa_nil he2) he) hn hdb he hpl, fun Z G0 S σ G H Q k q => ?_⟩
  · subst e1
    exact call_isX e3 hz hf pins s σ H xs us Q I r ⟨e2, q⟩
  · obtain ⟨v, hs, e1, t⟩ := k.slot h
    subst e1
    obtain ⟨D, h1, h2, h3⟩ := ki ex cls d G t
    have hdd : ∃ fs, ∀ dd, d = some dd → H dd = some (.xd fs) := by
      cases ex with
      | oor n =>
        obtain ⟨_, _, dd, e1, e2⟩ := t
        exact ⟨_, fun d2 e3 => by rw [e1] at e3; cases e3; exact k.ok.gh _ _ e2⟩
      | txt l c w =>
        obtain ⟨_, _, _, dd, e1, e2⟩ := t
        exact ⟨_, fun d2 e3 => by rw [e1] at e3; cases e3; exact k.ok.gh _ _ e2⟩
      | cls j => exact ⟨[], fun d2 e3 => by rw [t.2.1] at e3; cases e3⟩
    obtain ⟨fs, hdd⟩ := hdd
    exact ⟨.ref a, hs, D, fs, h1, hdd, h2, cv, u, b ex, rfl, hu, h3, q _ _ _ (k.pushf rfl)⟩
end
end Rt
namespace Rt
open PySem L2 R
/-- an own exception class that is made with a written text -/
structure ExO (K : PySem.W.Frag) (mg : Str → Option Value) (x : Str) (C : Addr) : Prop where
  at_ : mg x = some (.ref C)
  xi : PySem.W.excIn K C [.type "ValueError", .type "Exception", .type "BaseException", .type "object"] "ValueError.__new__" = true
  kp : PySem.W.keepIn K (.ref C) = true
  sb : PySem.W.subIn K (.ref C) (.type "BaseException") = some true
  ty : PySem.W.typeIn K (.ref C) = some (.type "type")
section
variable {X : Cx} {T : XT} {W : WX} {Γx Γ : Ctx}
theorem sx_cls {x m : Str} {p p2 pos pos2 : Pos} {j k : Nat} {C : Addr} {γ : Type} {rest : List Stmt} {I : γ → Out} (ex : ExO X.K X.mg x C) (ck : T.cl k = C ∧ k ∈ T.ks) (tk : Takes X W) (hw : Wk Γ Γx) (hc : X.calm = true := by rfl) (hg : Gl X x := by rfl) (hdb : (x == ("__debug__" : Str)) = false := by decide) :
    SX X T W Γx Γ (.Raise (some (.Call (.Name x p) [.Constant (.str m) j p2] [] pos)) none pos2 :: rest) (tSeq (fun _ σ H => W (.ref C) none σ H) tNever) (.exn (.cls k) : Res γ) I := by
  refine ⟨pss_cons (ps_raise hc tk (pmk_own PySem.F.excBase_ValueError ex.xi ex.at_ ex.kp (raises_own ex.sb ex.ty) hg hdb)) pss_never, fun Z G0 S σ G H D kk q => ?_⟩
  exact q (.ref C) none σ G H (hw _ _ _ _ _ _ kk) ⟨by rw [ck.1], rfl, ck.2⟩
end
theorem tells_of {K : PySem.W.Frag} {T : XT} {c : Value} {b : Exn → Bool} (bo : Bool) (hb : ∀ n, b (.oor n) = bo) (ho : PySem.W.exmOne K (.ref T.oor) c = some bo) (ht : T.ht = false) (hk : ∀ k ∈ T.ks, PySem.W.exmOne K (.ref (T.cl k)) c = some (b (.cls k))) : Tells K T c b := fun ex cls d G t => by
  cases ex with
  | oor n => rw [t.1, ho, hb]
  | txt l cl w => have z := t.2.1; rw [ht] at z; cases z
  | cls k => rw [t.1, hk k t.2.2]
theorem isx_of {K : PySem.W.Frag} {T : XT} {cv : Value} {b : Exn → Bool} (bo : Bool) (hb : ∀ n, b (.oor n) = bo) (ho : ExcC K T.oor ∧ PySem.W.kitOne K (.ref T.oor) cv = some bo) (ht : T.ht = false) (hk : ∀ k ∈ T.ks, ExcC K (T.cl k) ∧ PySem.W.kitOne K (.ref (T.cl k)) cv = some (b (.cls k))) : IsX K T cv b := fun ex cls d G t => by
  cases ex with
  | oor n => exact ⟨_, t.1, ho.1, by rw [ho.2, hb]⟩
  | txt l cl w => have z := t.2.1; rw [ht] at z; cases z
  | cls k => exact ⟨_, t.1, hk k t.2.2⟩
theorem all_nil {P : Nat → Prop} : ∀ k ∈ ([] : List Nat), P k := fun k h => by cases h
theorem all_cons {P : Nat → Prop} {a : Nat} {l : List Nat} (h : P a) (r : ∀ k ∈ l, P k) : ∀ k ∈ a :: l, P k := fun k hk => by
  rcases List.mem_cons.mp hk with rfl | z
  · exact h
  · exact r k z
end Rt
namespace PySem.W
open PySem PySem.Spec PyProof.Rows
section
variable {K : Frag} {C : Addr} {cls : Value}
theorem rt_cls {b : Bool} (h1 : hasDictIn K C = true) (h2 : typeIn K (.ref C) = some (.type "type")) (h3 : subIn K cls (.ref C) = some b) : kitCls K cls (.ref C) = some b := by
  obtain ⟨cd, hc, _⟩ := any_some h1
  have e : ((clsIn K C).isSome && typeIn K (.ref C) == some (.type "type")) = true := by rw [hc, h2] <;> rfl
  show (if _ then _ else _) = _
  rw [if_pos e, h3]
theorem rt_kit (h1 : hasDictIn K C = true) (h2 : typeIn K (.ref C) = some (.type "type")) (h3 : subIn K cls (.ref C) = some true) : kitOne K cls (.ref C) = some true := by
  unfold kitOne
  split
  · rfl
  · exact rt_cls h1 h2 h3
theorem rt_kitN (h1 : hasDictIn K C = true) (h2 : typeIn K (.ref C) = some (.type "type")) (h3 : subIn K cls (.ref C) = some false) (h4 : subIn K (.ref C) (.ref C) = some true) : kitOne K cls (.ref C) = some false := by
  unfold kitOne
  split
  · next e =>
    rw [beq_iff_eq] at e
    rw [e, h4] at h3
    cases h3
  · exact rt_cls h1 h2 h3
theorem rt_kitT {S : String} (h1 : kitMeta S = true) (h3 : subIn K cls (.type S) = some true) : kitOne K cls (.type S) = some true := by
  unfold kitOne
  split
  · rfl
  · show (if _ then _ else _) = _
    rw [if_pos h1, h3]
end
end PySem.W
/-! Rt23: a chain whose last part may stop; an option that must hold something. -/
namespace Rt
open PySem L2 R
section
variable {X : Cx} {T : XT} {W : WX} {Γx Γ : Ctx}
theorem et_chainM {op op' : CmpOp} {p p' : Int → Int → Bool} {a b c : Expr} {pos : Pos} {ta tb tc : TE} {α β γ : Type} [Nonempty α] [Nonempty β] {m1 : Res α} {m2 : α → Res β} {m3 : α → β → Res γ} {i : α → Int} {j : α → β → Int} {z : α → β → γ → Int} {Γ1 : α → Ctx} {Γ2 : α → β → Ctx} {Γ3 : α → β → γ → Ctx}
    (ho : OpR X (compareOp op) (rI0 fun i j => .bl (p i j))) (ho' : OpR X (compareOp op') (rI0 fun i j => .bl (p' i j)))
    (ha : EX X T W Γx Γ a ta m1 (fun x => sI (i x)) Γ1) (hb : ∀ x, EX X T W Γx (Γ1 x) b tb (m2 x) (fun y => sI (j x y)) (Γ2 x)) (hc : ∀ x w, EX X T W Γx (Γ2 x w) c tc (m3 x w) (fun u => sI (z x w u)) (Γ3 x w))
    (hΓ2 : ∀ x w, Γ2 x w = Γ := by exact fun _ _ => rfl) (hΓ3 : ∀ x w u, Γ3 x w u = Γ := by exact fun _ _ _ => rfl) (hm : lastMarks [op, op'] [b, c] = false := by with_unfolding_all rfl) :
    ET X T W Γx Γ (.Compare a [op, op'] [b, c] pos) (tTest (tChain (rI0 fun i j => .bl (p i j)) (rI0 fun i j => .bl (p' i j)) ta tb tc)) (m1.bind fun x => (m2 x).bind fun w => if p (i x) (j x w) then (m3 x w).bind fun u => .ok (p' (j x w) (z x w u)) else .ok false) id (fun _ => Γ) := by
  obtain ⟨x⟩ := ‹Nonempty α›
  obtain ⟨w⟩ := ‹Nonempty β›
  refine ⟨pt_chain ho ho' ha.pe (hb x).pe (hc x w).pe hm, fun Z G0 S σ G H Q k q => ha.ev Z G0 S σ G H _ k (Res.wp_mono (Res.wp_bind q) (fun x q v1 G1 H1 k1 => ?_) fun _ z => z)⟩
  refine (hb x).ev Z G0 _ σ G1 H1 _ k1 (Res.wp_mono (Res.wp_bind q) (fun w q v2 G2 H2 k2 => ?_) fun ex q cls d G' H' k' => q cls d G' H' k'.drop)
  refine ⟨_, _, k2.drop.tp, k2.tp, _, rfl, ?_⟩
  cases e : p (i x) (j x w) with
  | true =>
    rw [if_pos rfl]
    simp only [e, if_true] at q
    refine (hc x w).ev Z G0 _ σ G2 H2 _ k2 (Res.wp_mono (Res.wp_bind q) (fun u q v3 G3 H3 k3 => ?_) fun ex q cls d G' H' k' => q cls d G' H' k'.drop.drop)
    rw [hΓ3] at k3
    exact ⟨_, _, k3.drop.tp, k3.tp, _, rfl, q G3 H3 k3.drop.drop.drop⟩
  | false =>
    rw [if_neg Bool.false_ne_true]
    simp only [e, Bool.false_eq_true, if_false] at q
    have k3 := k2.drop.drop
    rw [hΓ2] at k3
    exact ⟨_, rfl, q G2 H2 k3⟩
theorem unopt_ne {α : Type} {o : Option α} : ∀ e, R.unopt o ≠ .exn e := fun e z => by cases o <;> cases z
theorem EX.unopt {e : Expr} {te : TE} {α β : Type} {m : Res α} {c : Cod β} {o : α → Option β} {Γo : α → Ctx} (h : EX X T W Γx Γ e te m (fun t => fz (cOpt c) (o t)) Γo) : EX X T W Γx Γ e te (m.bind fun t => (R.unopt (o t)).bind fun b => .ok (t, b)) (fun t => fz c t.2) (fun t => Γo t.1) := by
  refine ⟨h.pe, fun Z G0 S σ G H Q k q => h.ev Z G0 S σ G H Q k (Res.wp_mono (Res.wp_bind q) (fun t q v G' H' k' => ?_) fun _ z => z)⟩
  obtain ⟨b, e, q2⟩ := wp_cases (Res.wp_bind q) unopt_ne
  cases ho : o t with
  | none => rw [ho] at e; cases e
  | some b' =>
    rw [ho] at e
    cases e
    have r := k'.tp
    rw [ho] at r
    exact q2 v G' H' (k'.drop.pushf r.1)
end
end Rt
/-! Rt25: comprehensions of any number of clauses. -/
namespace L2
open PySem PySem.Spec PyProof.Rows
section
variable {elt tg iter tg1 iter1 : Expr} {ifs ifs1 : List Expr} {gens : List Comprehension} {scope : Scope} {pos : Pos} {k : Nat} {it acc : Value} {env : Env}
theorem turnMid (h0 : gens[k]? = some ⟨tg, iter, ifs, 0⟩) (h1 : gens[k + 1]? = some ⟨tg1, iter1, ifs1, 0⟩) : compTurn (.ListComp elt gens scope pos) k it acc env = (do
      standAt iter.pos
      match ← pyNext it with
      | none => pure (.done .next)
      | some v =>
        letOwnedTupleGo tg it v
        assign tg env v
        let mut ok := true
        for cc in ifs do
          if ok then ok ← isTrue cc env (eval cc env)
        if ok then
          let x ← eval iter1 env
          standAt iter1.pos
          let x ← foldedSetIterable iter1 env x
          let _ ← runOwn (.compStart (.ListComp elt gens scope pos) (k + 1) (← holding [x] (pyIter x)) acc env) env
        again (.compLoop (.ListComp elt gens scope pos) k it acc env)) := by
  unfold compTurn
  simp only [h0, h1]
  rfl
theorem turnLast (h0 : gens[k]? = some ⟨tg, iter, ifs, 0⟩) (h1 : gens[k + 1]? = none) : compTurn (.ListComp elt gens scope pos) k it acc env = (do
      standAt iter.pos
      match ← pyNext it with
      | none => pure (.done .next)
      | some v =>
        letOwnedTupleGo tg it v
        assign tg env v
        let mut ok := true
        for cc in ifs do
          if ok then ok ← isTrue cc env (eval cc env)
        if ok then (do let _ ← call (.builtin "list.append") [acc, ← eval elt env])
        again (.compLoop (.ListComp elt gens scope pos) k it acc env)) := by
  unfold compTurn
  simp only [h0, h1]
  rfl
end
section
variable {prog : Program} {w : World} {A : Around} {R : Result → Shared → Prop} {s : Shared} {elt tg iter tg1 iter1 : Expr} {ifs ifs1 : List Expr} {gens : List Comprehension} {scope : Scope} {pos : Pos} {k : Nat} {it acc : Value} {env : Env}
abbrev noE : Value → Shared → Prop := fun _ _ => False
/-- a turn up to its tests -/
def turnUp (prog : Program) (w : World) (A : Around) (tg : Expr) (ifs : List Expr) (env : Env) (it : Value) (stop : Shared → Prop) (yes no : Shared → Prop) (s : Shared) : Prop :=
  wpAny (model prog w) A (pyNext it) (fun r sa => match r with
    | none => stop sa
    | some v => wpAny (model prog w) A (letOwnedTupleGo tg it v) (fun _ sb => wpAny (model prog w) A (assign tg env v) (fun _ sc =>
        wpAny (model prog w) A (forIn ifs true fun cc r => if r = true then do let ok ← isTrue cc env (eval cc env); pure (ForInStep.yield ok) else pure (ForInStep.yield r)) (fun ok sd => if ok = true then yes sd else no sd) noE sc) noE sb) noE sa) noE s
theorem loopMid (h0 : gens[k]? = some ⟨tg, iter, ifs, 0⟩) (h1 : gens[k + 1]? = some ⟨tg1, iter1, ifs1, 0⟩) (hs : ∀ x, foldedSetIterable iter1 env x = pure x) (I : Nat → Shared → Prop)
    (turn : ∀ n s, I n s → turnUp prog w A tg ifs env it (R (.ok .next)) (fun sd => wpAny (model prog w) A (eval iter1 env) (fun x se => wpAny (model prog w) A (pyIter x) (fun it1 sf =>
      codeAny (model prog w) A (.compStart (.ListComp elt gens scope pos) (k + 1) it1 acc env) (fun r s' => match r with | .ok _ => ∃ m, m < n ∧ I m s' | .error _ => False) sf) noE se) noE sd) (fun sd => ∃ m, m < n ∧ I m sd) s) (n : Nat) (h : I n s) :
    codeAny (model prog w) A (.compLoop (.ListComp elt gens scope pos) k it acc env) R s := by
  refine codeAny_loop rfl I (fun n s hI => ?_) n h
  show wpAny _ A ((compTurn (.ListComp elt gens scope pos) k it acc env).onRaise (fun x => do noteFrame x env; theTreesLotGoes x)) _ _ s
  refine wpAny_noted ?_
  rw [turnMid h0 h1]
  refine wpAny_bind (wpAny_standAt (wpAny_bind (wpAny_mono (show wpAny _ _ _ _ _ _ from turn n s hI) (fun r sa ha => ?_) fun _ _ z => False.elim z)))
  cases r with
  | none => exact wpAny_pure ha
  | some v =>
    refine wpAny_bind (wpAny_mono ha (fun _ sb hb => wpAny_bind (wpAny_mono hb (fun _ sc hc => wpAny_bind (wpAny_mono hc (fun ok sd hd => ?_) fun _ _ z => False.elim z)) fun _ _ z => False.elim z)) fun _ _ z => False.elim z)
    cases ok with
    | false => exact wpAny_pure ⟨rfl, hd⟩
    | true =>
      refine wpAny_bind (wpAny_mono hd (fun x se he => ?_) fun _ _ z => False.elim z)
      refine wpAny_bind (wpAny_standAt (wpAny_bind (wpAny_of_eq (hs x) (wpAny_bind (wpAny_holding (wpAny_mono he (fun it1 sf hf => ?_) fun _ _ z => False.elim z))))))
      refine wpAny_bind (wpAny_runOwn ?_)
      rw [Around.mark_none]
      refine codeAny_mono hf fun r s' hr => ?_
      cases r with
      | error e => exact hr.elim
      | ok f =>
        first
          | exact wpAny_pure ⟨rfl, hr⟩
          | exact wpAny_bind (wpAny_pure (wpAny_pure ⟨rfl, hr⟩))
theorem loopLast (h0 : gens[k]? = some ⟨tg, iter, ifs, 0⟩) (h1 : gens[k + 1]? = none) (I : Nat → Shared → Prop)
    (turn : ∀ n s, I n s → turnUp prog w A tg ifs env it (R (.ok .next)) (fun sd => wpAny (model prog w) A (eval elt env) (fun x se => wpAny (model prog w) A (call (.builtin "list.append") [acc, x]) (fun _ sf => ∃ m, m < n ∧ I m sf) noE se) noE sd) (fun sd => ∃ m, m < n ∧ I m sd) s) (n : Nat) (h : I n s) :
    codeAny (model prog w) A (.compLoop (.ListComp elt gens scope pos) k it acc env) R s := by
  refine codeAny_loop rfl I (fun n s hI => ?_) n h
  show wpAny _ A ((compTurn (.ListComp elt gens scope pos) k it acc env).onRaise (fun x => do noteFrame x env; theTreesLotGoes x)) _ _ s
  refine wpAny_noted ?_
  rw [turnLast h0 h1]
  refine wpAny_bind (wpAny_standAt (wpAny_bind (wpAny_mono (show wpAny _ _ _ _ _ _ from turn n s hI) (fun r sa ha => ?_) fun _ _ z => False.elim z)))
  cases r with
  | none => exact wpAny_pure ha
  | some v =>
    refine wpAny_bind (wpAny_mono ha (fun _ sb hb => wpAny_bind (wpAny_mono hb (fun _ sc hc => wpAny_bind (wpAny_mono hc (fun ok sd hd => ?_) fun _ _ z => False.elim z)) fun _ _ z => False.elim z)) fun _ _ z => False.elim z)
    cases ok with
    | false => exact wpAny_pure ⟨rfl, hd⟩
    | true => exact wpAny_bind (wpAny_bind (wpAny_mono hd (fun x se he => wpAny_bind (wpAny_mono he (fun _ sf hf => wpAny_pure (wpAny_pure ⟨rfl, hf⟩)) fun _ _ z => False.elim z)) fun _ _ z => False.elim z))
theorem startAt (h1 : gens[k]? = some ⟨tg1, iter1, ifs1, 0⟩) (ha : codeAny (model prog w) A (.compLoop (.ListComp elt gens scope pos) k it acc env) R s)
    (hb : wpAny (model prog w) A (pyIter it) (fun it' s' => codeAny (model prog w) A (.compLoop (.ListComp elt gens scope pos) k it' acc env) R s') noE s) :
    codeAny (model prog w) A (.compStart (.ListComp elt gens scope pos) k it acc env) R s := by
  refine codeAny_of_tree ?_
  show wpAny _ _ ((compStart (.ListComp elt gens scope pos) k it acc env).onRaise (fun x => do noteFrame x env; standAt theWindowsPlace)) _ _ s
  refine wpAny_notedAt ?_
  unfold compStart
  have hc : (clausesOf (.ListComp elt gens scope pos))[k]? = some ⟨tg1, iter1, ifs1, 0⟩ := h1
  simp only [hc]
  show wpAny _ _ (ask >>= _) _ _ s
  refine wpAny_bind (wpAny_askSetting (wpAny_ite ?_))
  split
  · first
      | exact wpAny_bind (wpAny_pure (wpAny_pure ⟨rfl, ha⟩))
      | exact wpAny_pure ⟨rfl, ha⟩
  · first
      | exact wpAny_bind (wpAny_rule (wpAny_bind (wpAny_standAt (wpAny_bind (wpAny_mono hb (fun it' s' h' => wpAny_pure ⟨rfl, h'⟩) fun _ _ z => False.elim z)))))
      | (refine wpAny_bind (wpAny_rule ?_); show wpAny _ _ (standAt iter1.pos >>= _) _ _ s; exact wpAny_bind (wpAny_standAt (wpAny_bind (wpAny_mono hb (fun it' s' h' => wpAny_pure ⟨rfl, h'⟩) fun _ _ z => False.elim z))))
end
end L2
/-! Rt26: the loops of a comprehension, one in another; the comprehension as a value. -/
namespace L2
open PySem PySem.Spec PyProof.Rows
/-- a clause, and how its parts are read; vs: the names of this clause and of those behind it -/
structure Cl where
  tg : Expr
  iter : Expr
  ifs : List Expr
  wi : TI
  g : TG
  tt : TT
  vs : List Nat
abbrev Cl.py (c : Cl) : Comprehension := ⟨c.tg, c.iter, c.ifs, 0⟩
/-- what is left of a walk: W by the turn and a measure, Q behind it -/
def tLoop (c : Cl) (σ : L2.St) (J : It) (inner : L2.St → Hp → (Hp → Prop) → Prop) (Q : Hp → Prop) (W : Nat → Nat → Hp → Prop) : Prop := ∀ i m H, W i m H →
  (J.stop i H ∧ Q H) ∨ (J.go i H ∧ ∃ Nx : Hp → Prop, (∀ H', Nx H' → ∃ m', m' < m ∧ W (i + 1) m' H') ∧ ∀ x H', J.yld i H x H' → c.g x (wipe σ c.vs) H' fun σa Ha => wipe σa c.vs = wipe σ c.vs ∧ c.tt σa Ha fun b Hb => (b = true → inner σa Hb Nx) ∧ (b = false → Nx Hb))
def tIn (te : TE) (D : Addr) : List Cl → L2.St → Hp → (Hp → Prop) → Prop
  | [], σ, H, Q => te σ H fun y Ha => ∃ acc, Ha D = some (.lst acc) ∧ acc.length < sizeLine ∧ Q (upd Ha D (.lst (acc ++ [y])))
  | c :: r, σ, H, Q => c.wi σ H fun J Ha => ∃ W : Nat → Nat → Hp → Prop, (∃ m, W 0 m Ha) ∧ tLoop c σ J (tIn te D r) Q W
structure Cl.Ok (c : Cl) (Y : Cx) : Prop where
  pg : PG Y c.tg c.g
  pt : PTs Y c.ifs c.tt
structure Cl.OkI (c : Cl) (Y : Cx) : Prop where
  pi : PI Y c.tg c.iter c.wi
  fs : ∀ x, foldedSetIterable c.iter Y.env x = pure x
def Nest : List Cl → Prop
  | [] => True
  | [_] => True
  | c :: d :: r => (∀ i ∈ d.vs, i ∈ c.vs) ∧ Nest (d :: r)
section
variable {X : Cx} {s3 : Shared} {H3 : Hp} {scope : Scope} {ce : Env} {fp : List Addr} {elt : Expr} {gens : List Comprehension} {pos : Pos} {te : TE} {D : Addr}
theorem loop_run (hc : X.calm = true) (pe : PE (X.blk s3 H3 scope ce fp) elt te) : ∀ (r : List Cl) (c : Cl) (k : Nat), gens[k]? = some c.py → (∀ i, gens[k + 1 + i]? = (r.map Cl.py)[i]?) → c.Ok (X.blk s3 H3 scope ce fp) → (∀ d ∈ r, d.Ok (X.blk s3 H3 scope ce fp) ∧ d.OkI (X.blk s3 H3 scope ce fp)) → Nest (c :: r) →
    ∀ {pins : List (Addr × Obj)} {s : Shared} {σ : L2.St} {H : Hp} {Q : Hp → Prop} {R : Result → Shared → Prop} {it : Addr} {fi : List Addr} {tn : Nat → Heap → Prop} {J : It} {W : Nat → Nat → Hp → Prop}, Turn X.prog X.w X.K c.tg J fi it tn →
    (∀ {σ' : L2.St} {H' : Hp} {s' : Shared}, Inv (X.blk s3 H3 scope ce fp) pins σ' H' s' → (∀ b ∈ fi, H' b = none) → ∀ b ∈ fi, FpOk (X.blk s3 H3 scope ce fp) pins H' b) →
    Inv (X.blk s3 H3 scope ce fp) pins (wipe σ c.vs) H s → tn 0 s.heap → (∀ b ∈ fi, H b = none) → (∃ m, W 0 m H) → tLoop c σ J (tIn te D r) Q W →
    (∀ H' s', Inv (X.blk s3 H3 scope ce fp) pins (wipe σ c.vs) H' s' → Q H' → R (.ok .next) s') →
    codeAny (model X.prog X.w) X.A (.compLoop (.ListComp elt gens scope pos) k (.ref it) (.ref D) ce) R s := by
  intro r
  induction r with
  | nil =>
    intro c k h0 h1 ok okr nest pins s σ H Q R it fi tn J W T stat I st nf ⟨m0, w0⟩ turn hR
    refine loopLast h0 (h1 0) (fun n s' => ∃ j H', Inv (X.blk s3 H3 scope ce fp) pins (wipe σ c.vs) H' s' ∧ tn j s'.heap ∧ (∀ b ∈ fi, H' b = none) ∧ W j n H') ?_ m0 ⟨0, H, I, st, nf, w0⟩
    rintro n sa ⟨j, Ha, Ia, sta, na, wa⟩
    rcases turn j n Ha wa with ⟨stop, q⟩ | ⟨go, Nx, hNx, step⟩
    · exact thnF (T.done (X.blk s3 H3 scope ce fp) rfl rfl rfl hc j _ sa _ Ha noE Ia (stat Ia na) sta stop) fun r sb ⟨hr, Ib⟩ => by
        subst hr
        exact hR _ _ Ib q
    · refine thnF (T.item (X.blk s3 H3 scope ce fp) rfl rfl rfl hc j _ sa _ Ha noE Ia (stat Ia na) sta go) fun r sb ⟨u, hr, hb⟩ => ?_
      subst hr
      refine thnF hb fun _ sc ⟨x, Hc, Ic, rc, yc, stc, nc⟩ => ?_
      refine thnF (ok.pg.run _ sc (wipe σ c.vs) Hc x u _ (Ic.pinned (stat Ic nc) (T.obj _ _ stc)) rc (step x Hc yc)) fun _ sd ⟨σd, Hd, Id, hw, qd⟩ => ?_
      refine thnF (ok.pt.run _ sd σd Hd _ Id qd) fun b se ⟨He, Ie, qe, qn⟩ => ?_
      have fin : ∀ {s' : Shared} {H' : Hp}, Inv (X.blk s3 H3 scope ce fp) (pins ++ pinsAt fi sc.heap) σd H' s' → Nx H' → ∃ m, m < n ∧ ∃ j H', Inv (X.blk s3 H3 scope ce fp) pins (wipe σ c.vs) H' s' ∧ tn j s'.heap ∧ (∀ b ∈ fi, H' b = none) ∧ W j m H' := fun {s' H'} I' nx => by
        obtain ⟨m', hm, w'⟩ := hNx H' nx
        have pin : ∀ b ∈ fi, ∀ o, sc.heap.get? b = some o → s'.heap.get? b = some o ∧ H' b = none := fun b hb o e => by
          have z := I'.pin (b, o) (List.mem_append_right _ (List.mem_append_right _ (mem_pinsAt hb e)))
          exact ⟨z.1, z.2.1⟩
        refine ⟨m', hm, j + 1, H', I'.unpinned.weak (by rw [← hw, wipe_length]) (fun i v e => by rw [← hw] at e; exact (wipe_some e).1), T.keep _ _ _ stc fun b hb o e => (pin b hb o e).1, fun b hb => ?_, w'⟩
        obtain ⟨o, e, _⟩ := T.obj _ _ stc b hb
        exact (pin b hb o e).2
      cases b with
      | false =>
        rw [if_neg Bool.false_ne_true]
        exact fin Ie (qn rfl)
      | true =>
        rw [if_pos rfl]
        exact thnF (pe.run _ se σd He _ Ie (qe rfl)) fun z sf ⟨yv, Hf, If, rf, acc, hD, hz, nx⟩ => app_ok (X := X.blk s3 H3 scope ce fp) If hD hz rf fun sg Ig => fin Ig nx
  | cons d r ih =>
    intro c k h0 h1 ok okr nest pins s σ H Q R it fi tn J W T stat I st nf ⟨m0, w0⟩ turn hR
    obtain ⟨okd, oki⟩ := okr d List.mem_cons_self
    have hd : gens[k + 1]? = some d.py := h1 0
    have sub : ∀ i ∈ d.vs, i ∈ c.vs := nest.1
    refine loopMid h0 hd oki.fs (fun n s' => ∃ j H', Inv (X.blk s3 H3 scope ce fp) pins (wipe σ c.vs) H' s' ∧ tn j s'.heap ∧ (∀ b ∈ fi, H' b = none) ∧ W j n H') ?_ m0 ⟨0, H, I, st, nf, w0⟩
    rintro n sa ⟨j, Ha, Ia, sta, na, wa⟩
    rcases turn j n Ha wa with ⟨stop, q⟩ | ⟨go, Nx, hNx, step⟩
    · exact thnF (T.done (X.blk s3 H3 scope ce fp) rfl rfl rfl hc j _ sa _ Ha noE Ia (stat Ia na) sta stop) fun r sb ⟨hr, Ib⟩ => by
        subst hr
        exact hR _ _ Ib q
    · refine thnF (T.item (X.blk s3 H3 scope ce fp) rfl rfl rfl hc j _ sa _ Ha noE Ia (stat Ia na) sta go) fun r sb ⟨u, hr, hb⟩ => ?_
      subst hr
      refine thnF hb fun _ sc ⟨x, Hc, Ic, rc, yc, stc, nc⟩ => ?_
      refine thnF (ok.pg.run _ sc (wipe σ c.vs) Hc x u _ (Ic.pinned (stat Ic nc) (T.obj _ _ stc)) rc (step x Hc yc)) fun _ sd ⟨σd, Hd, Id, hw, qd⟩ => ?_
      refine thnF (ok.pt.run _ sd σd Hd _ Id qd) fun b se ⟨He, Ie, qe, qn⟩ => ?_
      have fin : ∀ {s' : Shared} {H' : Hp} {σ' : L2.St}, Inv (X.blk s3 H3 scope ce fp) (pins ++ pinsAt fi sc.heap) σ' H' s' → (wipe σ c.vs).length = σ'.length → (∀ (i : Nat) v, (wipe σ c.vs)[i]? = some (some v) → σ'[i]? = some (some v)) → Nx H' →
          ∃ m, m < n ∧ ∃ j H', Inv (X.blk s3 H3 scope ce fp) pins (wipe σ c.vs) H' s' ∧ tn j s'.heap ∧ (∀ b ∈ fi, H' b = none) ∧ W j m H' := fun {s' H' σ'} I' hl hk nx => by
        obtain ⟨m', hm, w'⟩ := hNx H' nx
        have pin : ∀ b ∈ fi, ∀ o, sc.heap.get? b = some o → s'.heap.get? b = some o ∧ H' b = none := fun b hb o e => by
          have z := I'.pin (b, o) (List.mem_append_right _ (List.mem_append_right _ (mem_pinsAt hb e)))
          exact ⟨z.1, z.2.1⟩
        refine ⟨m', hm, j + 1, H', I'.unpinned.weak hl hk, T.keep _ _ _ stc fun b hb o e => (pin b hb o e).1, fun b hb => ?_, w'⟩
        obtain ⟨o, e, _⟩ := T.obj _ _ stc b hb
        exact (pin b hb o e).2
      have l8 : (wipe σ c.vs).length = σd.length := by rw [← hw, wipe_length]
      have k8 : ∀ (i : Nat) v, (wipe σ c.vs)[i]? = some (some v) → σd[i]? = some (some v) ∧ i ∉ c.vs := fun i v e => by
        rw [← hw] at e
        exact wipe_some e
      cases b with
      | false =>
        rw [if_neg Bool.false_ne_true]
        exact fin Ie l8 (fun i v e => (k8 i v e).1) (qn rfl)
      | true =>
        rw [if_pos rfl]
        refine thnF (oki.pi.run _ se σd He _ Ie (qe rfl)) fun xv sf hx => thnF hx fun itv sg hg => ?_
        obtain ⟨i1, f1, t1, J1, Hg, e1, Ig, T1, stg, fg, W1, w1, turn1⟩ := hg
        subst e1
        have stat1 : ∀ {σ' : L2.St} {H' : Hp} {s' : Shared}, Inv (X.blk s3 H3 scope ce fp) (pins ++ pinsAt fi sc.heap) σ' H' s' → (∀ b ∈ f1, H' b = none) → ∀ b ∈ f1, FpOk (X.blk s3 H3 scope ce fp) (pins ++ pinsAt fi sc.heap) H' b := fun _ hn b hb => ⟨hn b hb, (fg b hb).2⟩
        have lp := ih d (k + 1) hd (fun i => by
          have z := h1 (i + 1)
          rw [show k + 1 + (i + 1) = k + 1 + 1 + i by omega] at z
          rw [z]
          simp) okd (fun d' hd' => okr d' (List.mem_cons_of_mem _ hd')) nest.2 (R := fun r s' => match r with
            | .ok _ => ∃ m, m < n ∧ ∃ j H', Inv (X.blk s3 H3 scope ce fp) pins (wipe σ c.vs) H' s' ∧ tn j s'.heap ∧ (∀ b ∈ fi, H' b = none) ∧ W j m H'
            | .error _ => False) T1 stat1 (Ig.weak (wipe_length _ _) fun i v e => (wipe_some e).1) stg (fun b hb => (fg b hb).1) w1 turn1 fun H' s' I' nx => fin I' (l8.trans (wipe_length σd d.vs).symm) (fun i v e => by
              obtain ⟨z1, z2⟩ := k8 i v e
              rw [wipe_out fun z => z2 (sub i z)]
              exact z1) nx
        exact startAt hd lp (T1.self X.A 0 _ _ _ stg lp)
end
end L2
/-! Rt27: a comprehension of several clauses as a value, stored. -/
namespace L2
open PySem PySem.Spec PyProof.Rows
def tLcN (c : Cl) (r : List Cl) (te : TE) : TE := fun σ H Q => c.wi σ H fun J Ha => ∀ D, Ha D = none → ∃ W : Nat → Nat → Hp → Prop, (∃ m, W 0 m (upd Ha D (.lst []))) ∧ tLoop c σ J (tIn te D r) (fun Hb => Q (.ref D) Hb) W
section
variable {X : Cx}
theorem lcN_core {pins : List (Addr × Obj)} {s : Shared} {σ : L2.St} {H : Hp} {Q : VK} {elt : Expr} {c : Cl} {r : List Cl} {scope : Scope} {own : List (Str × Nat)} {pos pos' : Pos} {te : TE} {use : Option (Value → Sem Unit)} {Qf : Value → Shared → Prop}
    (hc : X.calm = true) (hN : X.N.Nodup) (I : Inv X pins σ H s) (hi : c.OkI X) (ok : BlkOk X.N X.env.scope scope own) (hv : c.vs = own.map (·.2)) (nest : Nest (c :: r))
    (hg : ∀ (s : Shared) (H : Hp) (C : Addr) (cl : List (Str × Addr)) (fp : List Addr), c.Ok (X.blk s H scope (compEnvC scope cl C X.env) fp) ∧ (∀ d ∈ r, d.Ok (X.blk s H scope (compEnvC scope cl C X.env) fp) ∧ d.OkI (X.blk s H scope (compEnvC scope cl C X.env) fp)) ∧ PE (X.blk s H scope (compEnvC scope cl C X.env) fp) elt te)
    (h : tLcN c r te σ H Q)
    (back : ∀ D C s' m H', Inv X pins σ H' s' → Q (.ref D) H' → s'.heap.Ns C m → FpOk X pins H' C → compPost (model X.prog X.w) X.A X.xe use Qf (.ref D) C (.ok .next) s') :
    wpAny (model X.prog X.w) X.A (comprehension (.ListComp elt (c.py :: r.map Cl.py) scope pos) scope X.env pos' (newList []) false (eval c.iter X.env) use) Qf X.xe s := by
  have has : ∀ y ∈ scope.names, y.2 = .free → ∃ a, X.env.cells.lookup y.1 = some a := fun y hy e => (ok.free y hy e).elim (fun z => I.ok.has _ (.inl z)) fun z => I.ok.has _ (.inr z)
  refine wpAny_comprehension_free (use := use) rfl hi.fs (closure_ok has) ok.kind (fun y hy e => by rw [ok.uniq y hy, e]) (thn (hi.pi.run pins s σ H _ I h) fun xv sa ha => thn ha fun itv sb hb => ?_)
  obtain ⟨it, fp, tn, J, Hb, rfl, Ib, T, stb, fb, q⟩ := hb
  refine wpAny_newObj_type (newEnv_comp ?_) (by show 0 ≤ sizeLine; decide)
  obtain ⟨D, hD⟩ : ∃ D, sb.heap.objs.size = D := ⟨_, rfl⟩
  rw [hD]
  have dn : Hb D = none := Ib.hok.fresh (Nat.le_of_eq hD)
  obtain ⟨W, w0, turn⟩ := q D dn
  obtain ⟨s3, hs3⟩ : ∃ s3 : Shared, ({ sb with heap := sb.heap.push { cls := .type "list", data := .seq ([] : List Value).toArray } } : Shared) = s3 := ⟨_, rfl⟩
  have hp3 : s3.heap = sb.heap.push { cls := .type "list", data := .seq ([] : List Value).toArray } := by rw [← hs3]
  have I3 : Inv X pins σ (upd Hb D (.lst [])) s3 := by
    rw [← hs3]
    exact Ib.laid (t' := sb.toks) (fun b o e => Heap.get?_push_of_some _ e) (Nat.le_of_eq hD) ⟨Nat.zero_le _, [], 0, .nil, by rw [← hD]; exact Heap.get?_push_size _ rfl⟩
  have small : ∀ b ∈ fp, b < sb.heap.objs.size := fun b hm => by
    obtain ⟨o, e, _⟩ := T.obj _ _ stb b hm
    exact Heap.lt_size e
  have f3 : ∀ b ∈ fp, FpOk X pins (upd Hb D (.lst [])) b ∧ b < s3.heap.objs.size := fun b hm => by
    have lt := small b hm
    exact ⟨⟨by rw [upd_ne (by rw [← hD]; exact Nat.ne_of_lt lt)]; exact (fb b hm).1, (fb b hm).2⟩, by rw [hp3, Heap.size_push]; exact Nat.lt_succ_of_lt lt⟩
  have st3 : tn 0 s3.heap := T.keep _ _ _ stb fun b _ o e => by
    rw [hp3]
    exact Heap.get?_push_of_some _ e
  have I4 := block_start I3 ok hN f3
  obtain ⟨okc, okr, pe⟩ := hg s3 (upd Hb D (.lst [])) s3.heap.objs.size (cellsFrom (s3.heap.objs.size + 1) scope.names (cloFrom X.env.cells scope.names [])) fp
  rw [hs3]
  show codeAny _ _ (.compStart (.ListComp elt (c.py :: r.map Cl.py) scope pos) 0 (.ref it) (.ref D) (compEnvC scope (cellsFrom (s3.heap.objs.size + 1) scope.names (cloFrom X.env.cells scope.names [])) s3.heap.objs.size X.env)) (compPost (model X.prog X.w) X.A X.xe use Qf (.ref D) s3.heap.objs.size) { s3 with heap := pushCells (s3.heap.push { cls := .type "dict", data := .dict #[] }) scope.names }
  obtain ⟨ce, hce⟩ : ∃ ce, compEnvC scope (cellsFrom (s3.heap.objs.size + 1) scope.names (cloFrom X.env.cells scope.names [])) s3.heap.objs.size X.env = ce := ⟨_, rfl⟩
  have loc : ce.locals = s3.heap.objs.size := by subst hce; rfl
  obtain ⟨H3, hH3⟩ : ∃ H3, upd Hb D (.lst []) = H3 := ⟨_, rfl⟩
  obtain ⟨s4, hs4⟩ : ∃ s4 : Shared, ({ s3 with heap := pushCells (s3.heap.push { cls := .type "dict", data := .dict #[] }) scope.names } : Shared) = s4 := ⟨_, rfl⟩
  have st4 : tn 0 s4.heap := T.keep _ _ _ st3 fun b _ o e => by
    rw [← hs4]
    exact pushCells_keeps _ _ _ _ (Heap.get?_push_of_some _ e)
  rw [hce] at I4 okc okr pe ⊢
  rw [hH3] at I3 I4 okc okr pe w0 f3
  rw [hs4] at I4 ⊢
  have stat : ∀ {σ' : L2.St} {H' : Hp} {s' : Shared}, Inv (X.blk s3 H3 scope ce fp) [] σ' H' s' → (∀ b ∈ fp, H' b = none) → ∀ b ∈ fp, FpOk (X.blk s3 H3 scope ce fp) [] H' b := fun I' hn b hm =>
    ⟨hn b hm, (I'.ok.exf b hm).1, I'.ok.exfs b hm, .inl hm, fun x a e => (I'.ok.exf b hm).2 x a e, fun p hp => absurd (show p ∈ ([] : List (Addr × Obj)) ++ [] from hp) (by simp)⟩
  rw [← hv] at I4
  have lp := loop_run (gens := c.py :: r.map Cl.py) (pos := pos) hc pe r c 0 rfl (fun i => by rw [show 0 + 1 + i = i + 1 by omega]; rfl) okc okr nest (R := compPost (model X.prog X.w) X.A X.xe use Qf (.ref D) s3.heap.objs.size) T stat I4 st4 (fun b hm => (f3 b hm).1.1) w0 turn fun H' s' I' qq => by
    have I7 : Inv X pins σ H' s' := I3.call' (ch := fp) I'.os I'.base I'.hok I'.bare fun b hm => ⟨(f3 b hm).1.2.2.2.1, (f3 b hm).1.2.1, (f3 b hm).1.2.2.2.2.1, (f3 b hm).1.2.2.2.2.2⟩
    have nC : H' s3.heap.objs.size = none := by
      have z : H' ce.locals = none := I'.free
      rwa [loc] at z
    obtain ⟨m, hn, _⟩ := I'.loc
    have hn' : s'.heap.Ns ce.locals m := hn
    rw [loc] at hn'
    exact back D _ s' m H' I7 qq hn' (I3.fpOk (Nat.le_refl _) nC)
  exact startAt (gens := c.py :: r.map Cl.py) (k := 0) rfl lp (T.self X.A 0 _ _ _ st4 lp)
theorem pe_lcN {elt : Expr} {c : Cl} {r : List Cl} {scope : Scope} {own : List (Str × Nat)} {pos : Pos} {te : TE} (hc : X.calm = true) (hN : X.N.Nodup) (hi : c.OkI X) (ok : BlkOk X.N X.env.scope scope own) (hv : c.vs = own.map (·.2)) (nest : Nest (c :: r))
    (hg : ∀ (s : Shared) (H : Hp) (C : Addr) (cl : List (Str × Addr)) (fp : List Addr), c.Ok (X.blk s H scope (compEnvC scope cl C X.env) fp) ∧ (∀ d ∈ r, d.Ok (X.blk s H scope (compEnvC scope cl C X.env) fp) ∧ d.OkI (X.blk s H scope (compEnvC scope cl C X.env) fp)) ∧ PE (X.blk s H scope (compEnvC scope cl C X.env) fp) elt te) :
    PE X (.ListComp elt (c.py :: r.map Cl.py) scope pos) (tLcN c r te) := by
  refine ⟨fun pins s σ H Q I h => ?_⟩
  rw [eval_ListComp]
  refine lcN_core hc hN I hi ok hv nest hg h fun D C s' m H' I' q hn f => ⟨m, hn, fun h2 sb => ⟨.ref D, H', I'.turned (t' := s'.toks) (fun b o hb e => (sb.2 b hb).trans e) f.1 f.2.1 f.2.2.2.1 f.2.2.2.2.1 f.2.2.2.2.2, rfl, q⟩⟩
theorem ps_setLcN {i : Nat} {y : Str} {py : Pos} {elt : Expr} {c : Cl} {r : List Cl} {scope : Scope} {own : List (Str × Nat)} {pos spos : Pos} {te : TE} (hc : X.calm = true) (hN : X.N.Nodup) (hy : X.N[i]? = some y) (hyl : X.env.scope.names.lookup y = some .local)
    (hsw : swapsWith (.ListComp elt (c.py :: r.map Cl.py) scope pos) (some (.Name y py)) spos.line X.env = pure true) (hi : c.OkI X) (ok : BlkOk X.N X.env.scope scope own) (hv : c.vs = own.map (·.2)) (nest : Nest (c :: r))
    (hg : ∀ (s : Shared) (H : Hp) (C : Addr) (cl : List (Str × Addr)) (fp : List Addr), c.Ok (X.blk s H scope (compEnvC scope cl C X.env) fp) ∧ (∀ d ∈ r, d.Ok (X.blk s H scope (compEnvC scope cl C X.env) fp) ∧ d.OkI (X.blk s H scope (compEnvC scope cl C X.env) fp)) ∧ PE (X.blk s H scope (compEnvC scope cl C X.env) fp) elt te) :
    PS X (.Assign [.Name y py] (.ListComp elt (c.py :: r.map Cl.py) scope pos) spos) (tAsg (tLcN c r te) (gName i)) := by
  refine ⟨fun pins s σ H E I h => ?_⟩
  rw [exec_Assign_Name_used _ _ _ _ hsw]
  refine wpAny_bind (wpAny_standAt (wpAny_bind ?_))
  show wpAny _ X.A (do let _ ← comprehension (.ListComp elt (c.py :: r.map Cl.py) scope pos) scope X.env (firstIterPos (c.py :: r.map Cl.py) pos) (newList []) false (eval c.iter X.env) (some (assign (.Name y py) X.env))) _ _ s
  have h2 : tLcN c r te σ H (fun x Ha => gName i x σ Ha E.nx) := h
  refine wpAny_bind (thn (lcN_core (Qf := fun _ s' => SP X pins E .next s') hc hN I hi ok hv nest hg h2 fun L C s' m H' I' q hn f => ?_) fun _ s' hq => wpAny_pure (wpAny_pure hq))
  show wpAny _ _ (assign (.Name y py) X.env (.ref L)) _ _ _
  refine wpAny_assign_Name (store_ok2 (v := V.ref L) I' hN hy (.inl hyl) rfl (fun s2 I2 ⟨a, sb, ha⟩ => ?_) (.inr hyl))
  have nCa : C ≠ a := by
    rcases ha with z | z
    · rw [z]; exact f.2.1
    · exact fun e => f.2.2.2.2.1 _ _ z e.symm
  obtain ⟨m2, hn2⟩ : ∃ m2, s2.heap.Ns C m2 := ⟨m, hn.extBut sb.extBut nCa⟩
  exact ⟨m2, hn2, fun g sb2 => ⟨_, H', I2.turned (t' := s2.toks) (fun b o hb e => (sb2.2 b hb).trans e) f.1 f.2.1 f.2.2.2.1 f.2.2.2.2.1 f.2.2.2.2.2, q⟩⟩
end
end L2
/-! Rt28: comprehensions of several clauses and their mirrors. -/
namespace Rt
open PySem L2 R
theorem loop_it {J : It} {n : Nat} {Gd : Hp → Prop} {Y : Nat → Hp → V → Hp → Prop} {c : Cl} {σ : L2.St} {inner : L2.St → Hp → (Hp → Prop) → Prop} {Q : Hp → Prop} {Ha : Hp} (wk : Walk J n Gd Y) (Pv : Nat → Hp → Prop) (h0 : Pv 0 Ha) (hG : ∀ i H, i ≤ n → Pv i H → Gd H)
    (turn : ∀ i v H H', i < n → Pv i H → Y i H v H' → c.g v (wipe σ c.vs) H' fun σa Hb => wipe σa c.vs = wipe σ c.vs ∧ c.tt σa Hb fun b Hc => (b = true → inner σa Hc (Pv (i + 1))) ∧ (b = false → Pv (i + 1) Hc)) (done : ∀ H, Pv n H → Q H) :
    ∃ W : Nat → Nat → Hp → Prop, (∃ m, W 0 m Ha) ∧ tLoop c σ J inner Q W := by
  refine ⟨fun i m H => i ≤ n ∧ m = n - i ∧ Pv i H, ⟨n, Nat.zero_le _, rfl, h0⟩, fun i m H ⟨h1, h2, h3⟩ => ?_⟩
  by_cases h : i < n
  · exact .inr ⟨wk.goes i H h (hG i H h1 h3), Pv (i + 1), fun H' p => ⟨n - (i + 1), by omega, h, rfl, p⟩, fun x H' y => turn i x H H' h h3 (wk.yields i H x H' h (hG i H h1 h3) y)⟩
  · obtain rfl : i = n := by omega
    exact .inl ⟨wk.stops H (hG _ H h1 h3), done H h3⟩
def nestB : List Nat → List Cl → Bool
  | _, [] => true
  | vs, d :: r => (d.vs.all fun i => vs.contains i) && nestB d.vs r
theorem nest_of : ∀ {c : Cl} {r : List Cl}, nestB c.vs r = true → Nest (c :: r)
  | _, [], _ => trivial
  | c, d :: r, h => by
    have h' : ((d.vs.all fun i => c.vs.contains i) && nestB d.vs r) = true := h
    rw [Bool.and_eq_true] at h'
    exact ⟨fun i hi => by have z := List.all_eq_true.mp h'.1 i hi; simpa using z, nest_of h'.2⟩
/-- the tests of a clause -/
structure TSX (Y : Cx) (T : XT) (Γ : Ctx) (ifs : List Expr) (tt : TT) {δ : Type} (m : Res δ) (b : δ → Bool) : Prop where
  pt : PTs Y ifs tt
  ev : ∀ (Z G0 : Hp) (S : List Pl) (σ : L2.St) (G H : Hp) (Q : Bool → Hp → Prop), Okc Z G0 S Γ σ G H → m.wp (fun a => ∀ G' H', Okc Z G0 S Γ σ G' H' → Q (b a) H') (fun _ => False) → tt σ H Q
/-- what stands behind the first clauses: it grows the list by m's -/
structure NX (Y : Cx) (T : XT) (Γ : Ctx) (elt : Expr) (r : List Cl) (te : TE) {γ : Type} (c : Cod γ) (m : Res (List γ)) : Prop where
  ok : ∀ d ∈ r, d.Ok Y ∧ d.OkI Y
  pe : PE Y elt te
  ev : ∀ (Z G0 : Hp) (S : List Pl) (σ : L2.St) (G H : Hp) (D : Addr) (acc : List γ) (Q : Hp → Prop), Okc Z G0 ((some (ol c acc), some (.ref D)) :: S) Γ σ G H →
    m.wp (fun ys => (acc ++ ys).length ≤ R.line ∧ ∀ G' H', Okc Z G0 ((some (ol c (acc ++ ys)), some (.ref D)) :: S) Γ σ G' H' → Q H') (fun _ => False) → tIn te D r σ H Q
section
variable {Y : Cx} {T : XT} {Γ Γe : Ctx} {γ : Type} {c : Cod γ}
theorem ts_nil : TSX Y T Γ [] tYes (.ok ()) (fun _ => true) := ⟨pts_nil, fun _ _ _ _ G H _ k q => q G H k⟩
theorem ts_one {e : Expr} {tt : TT} {δ : Type} {m : Res δ} {b : δ → Bool} {Γo : δ → Ctx} (h : ET Y T (fun _ _ _ _ => False) Γe Γ e tt m b Γo) (hΓ : ∀ a, Γo a = Γ := by exact fun _ => rfl) : TSX Y T Γ [e] tt m b :=
  ⟨pts_one h.pt, fun Z G0 S σ G H Q k q => h.ev Z G0 S σ G H Q k (Res.wp_mono q (fun a z G' H' k' => by
    rw [hΓ] at k'
    exact z G' H' k') fun _ z => False.elim z)⟩
theorem nx_nil {elt : Expr} {te : TE} {δ : Type} {me : Res δ} {Re : δ → Sl} {yv : δ → γ} {Γo : δ → Ctx} {m : Res (List γ)} (he : EX Y T (fun _ _ _ _ => False) Γe Γ elt te me Re Γo) (hRe : ∀ b, Re b = fz c (yv b) := by exact fun _ => rfl) (hΓ : ∀ b, Γo b = Γ := by exact fun _ => rfl)
    (hb : Bd m me (fun b => .ok [yv b]) := by intros; repeat (first | ((with_reducible refine Bd.done ?_); exact rfl) | with_reducible refine Bd.okl ?_ | with_reducible refine Bd.assoc ?_ | with_reducible refine Bd.bind fun _ => ?_ | with_reducible refine Bd.eta fun _ => ?_ | with_reducible refine Bd.iteB ?_ ?_ fun _ => ?_ | with_reducible refine Bd.iteE ?_ ?_ fun _ => ?_ | with_reducible refine Bd.ite ?_ ?_ | with_reducible refine Bd.iteL ?_ ?_ | with_reducible refine Bd.assocL ?_ | with_reducible refine Bd.oklL ?_ | with_reducible exact Bd.same | with_reducible exact Bd.at | dsimp only)) :
    NX Y T Γ elt [] te c m := by
  obtain rfl : Re = fun b => fz c (yv b) := funext hRe
  obtain rfl : Γo = fun _ => Γ := funext hΓ
  refine ⟨fun d hd => (by cases hd), he.pe, fun Z G0 S σ G H D acc Q k q => he.ev Z G0 _ σ G H _ k (Res.wp_mono (hb _ _ q) (fun b z y Ga Ha ka => ?_) fun _ z => False.elim z)⟩
  obtain ⟨ws, hD, hlen, kb⟩ := Okl.grow ka.of
  obtain ⟨z1, z2⟩ := z
  refine ⟨ws, hD, ?_, z2 Ga _ ⟨ka.len, kb⟩⟩
  rw [List.length_append] at z1
  rw [← line_eq, hlen]
  exact z1
theorem cat_wp {α : Type} {f : α → Res (List γ)} {x : α} {r : List α} {P : List γ → Prop} (h : (catK f (x :: r)).wp P fun _ => False) : (f x).wp (fun ys => (catK f r).wp (fun zs => P (ys ++ zs)) fun _ => False) fun _ => False := by
  have h1 := Res.wp_calm (Res.wp_bind (show (((f x).calm.bind fun ys => (catK f r).bind fun zs => .ok (ys ++ zs)) : Res (List γ)).wp P (fun _ => False) from h))
  exact Res.wp_mono h1 (fun ys z => Res.wp_bind z) fun _ z => z
theorem catK_calm {α : Type} {f : α → Res (List γ)} : ∀ {xs : List α} {P : List γ → Prop} {E : Exn → Prop}, (catK f xs).wp P E → (catK f xs).wp P fun _ => False
  | [], _, _, h => h
  | x :: r, P, E, h => by
    show (((f x).calm.bind fun ys => (catK f r).bind fun zs => .ok (ys ++ zs)) : Res (List γ)).wp P _
    have h1 : (((f x).calm.bind fun ys => (catK f r).bind fun zs => .ok (ys ++ zs)) : Res (List γ)).wp P E := h
    cases e : (f x).calm with
    | ok ys =>
      rw [e] at h1
      have h2 : (catK f r).wp (fun zs => P (ys ++ zs)) E := Res.wp_bind (show ((catK f r).bind fun zs => Res.ok (ys ++ zs)).wp P E from h1)
      have h3 := catK_calm h2
      show ((catK f r).bind fun zs => Res.ok (ys ++ zs)).wp P _
      cases e2 : catK f r with
      | ok zs => rw [e2] at h3; exact h3
      | exn ex => rw [e2] at h3; exact h3
      | stuck => rw [e2] at h3; exact h3
    | exn ex =>
      cases e2 : f x with
      | ok a => rw [e2] at e; cases e
      | exn a => rw [e2] at e; cases e
      | stuck => rw [e2] at e; cases e
    | stuck => rw [e] at h1; exact h1
/-- one loop of a comprehension: what a turn does is told by NX -/
theorem nx_loop {elt : Expr} {d : Cl} {r : List Cl} {te : TE} {js : List Nat} {β : Type} {xs : List β} {Rb : β → Sl} {Γg : β → Ctx} {δ : β → Type} {mt : (x : β) → Res (δ x)} {bt : (x : β) → δ x → Bool} {mi : β → Res (List γ)} {f : β → Res (List γ)}
    (hg : ∀ x, GX Y d.tg d.g js (Rb x) (wipeC Γ d.vs) (Γg x)) (hj : ∀ j ∈ js, j ∈ d.vs) (hv : ∀ v ∈ d.vs, v < Γ.length) (ht : ∀ x, TSX Y T (Γg x) d.ifs d.tt (mt x) (bt x)) (hn : ∀ x, NX Y T (Γg x) elt r te c (mi x)) (hd : ∀ x, Wk (Γg x) (wipeC Γ d.vs))
    (hf : ∀ x, Bd (f x) (((mt x).bind fun t => if bt x t then mi x else .ok [])) .ok) (Z G0 : Hp) (S : List Pl) (σ : L2.St) (G H : Hp) (D : Addr) (acc : List γ) (Q : Hp → Prop) (k : Okc Z G0 ((some (ol c acc), some (.ref D)) :: S) Γ σ G H) {J : It} (src : Src J xs Rb G)
    (q : (catK f xs).wp (fun ys => (acc ++ ys).length ≤ R.line ∧ ∀ G' H', Okc Z G0 ((some (ol c (acc ++ ys)), some (.ref D)) :: S) Γ σ G' H' → Q H') (fun _ => False)) :
    ∃ W : Nat → Nat → Hp → Prop, (∃ m, W 0 m H) ∧ tLoop d σ J (tIn te D r) Q W := by
  obtain ⟨Gd, Yl, wk, gd, hy⟩ := src
  obtain ⟨L, up, down⟩ := lifts k.len d.vs hv
  refine loop_it wk (fun i H => ∃ acc2 G', Okc Z G ((some (ol c acc2), some (.ref D)) :: (L ++ S)) (wipeC Γ d.vs) (wipe σ d.vs) G' H ∧
      (catK f (xs.drop i)).wp (fun ys => (acc2 ++ ys).length ≤ R.line ∧ ∀ G' H', Okc Z G0 ((some (ol c (acc2 ++ ys)), some (.ref D)) :: S) Γ σ G' H' → Q H') (fun _ => False)) ?_ (fun i H _ ⟨acc2, G', k2, _⟩ => gd H k2.hex) ?_ ?_
  · have k1 := up _ _ _ _ _ k.base
    exact ⟨acc, G, ⟨k1.len, k1.ok.perm (mid.append_right _)⟩, q⟩
  · rintro i v Ha Hb hi ⟨acc2, Ga, k2, w⟩ y
    have hx : xs[i]? = some xs[i] := List.getElem?_eq_getElem hi
    rw [List.drop_eq_getElem_cons hi] at w
    have w2 := cat_wp w
    obtain ⟨G2, k3⟩ := hy i _ hx Ha v Hb y Z G _ Ga k2.gex k2.ok
    refine (hg xs[i]).ev Z G _ _ G2 Hb v _ ⟨k2.len, k3⟩ fun σ3 G3 H3 k4 hw => ⟨(hw d.vs hj).trans wipe_wipe, ?_⟩
    refine (ht xs[i]).ev Z G _ σ3 G3 H3 _ k4 (Res.wp_mono (Res.wp_bind (hf xs[i] _ _ w2)) (fun t w3 G4 H4 k5 => ⟨fun hb => ?_, fun hb => ?_⟩) fun _ z => z)
    · rw [if_pos hb] at w3
      refine (hn xs[i]).ev Z G _ σ3 G4 H4 D acc2 _ k5 (Res.wp_mono w3 (fun ys w4 => ?_) fun _ z => z)
      have w5 : (catK f (xs.drop (i + 1))).wp (fun zs => (acc2 ++ (ys ++ zs)).length ≤ R.line ∧ ∀ G' H', Okc Z G0 ((some (ol c (acc2 ++ (ys ++ zs))), some (.ref D)) :: S) Γ σ G' H' → Q H') (fun _ => False) := w4
      refine ⟨?_, fun G5 H5 k6 => ⟨acc2 ++ ys, G5, ?_, Res.wp_mono w5 (fun zs z => by rw [← List.append_assoc] at z; exact z) fun _ z => z⟩⟩
      · have go : ∃ zs, (acc2 ++ (ys ++ zs)).length ≤ R.line := by
          cases e : catK f (xs.drop (i + 1)) with
          | ok zs => rw [e] at w5; exact ⟨zs, w5.1⟩
          | exn ex => rw [e] at w5; exact w5.elim
          | stuck => rw [e] at w5; exact w5.elim
        obtain ⟨zs, hz⟩ := go
        simp only [List.length_append] at hz ⊢
        omega
      · have e1 := forgets (hd xs[i] _ _ _ _ _ _ k6) d.vs fun v h => wipeC_at h (hv v h)
        rw [(hw d.vs hj).trans wipe_wipe] at e1
        exact e1
    · rw [if_neg (by rw [hb]; exact Bool.false_ne_true)] at w3
      have w5 : (catK f (xs.drop (i + 1))).wp (fun zs => (acc2 ++ ([] ++ zs)).length ≤ R.line ∧ ∀ G' H', Okc Z G0 ((some (ol c (acc2 ++ ([] ++ zs))), some (.ref D)) :: S) Γ σ G' H' → Q H') (fun _ => False) := w3
      refine ⟨acc2, G4, ?_, Res.wp_mono w5 (fun zs z => z) fun _ z => z⟩
      have e1 := forgets (hd xs[i] _ _ _ _ _ _ k5) d.vs fun v h => wipeC_at h (hv v h)
      rw [(hw d.vs hj).trans wipe_wipe] at e1
      exact e1
  · rintro Ha ⟨acc2, Ga, k2, w⟩
    rw [List.drop_length] at w
    have k4 : Okc Z G (L ++ ((some (ol c acc2), some (.ref D)) :: S)) (wipeC Γ d.vs) (wipe σ d.vs) Ga Ha := ⟨k2.len, k2.ok.perm (mid.symm.append_right _)⟩
    have k3 := k.back (down _ _ _ _ _ k4)
    have w' : (acc2 ++ []).length ≤ R.line ∧ ∀ G' H', Okc Z G0 ((some (ol c (acc2 ++ [])), some (.ref D)) :: S) Γ σ G' H' → Q H' := w
    rw [List.append_nil] at w'
    exact w'.2 Ga Ha k3
theorem catC_wp {α : Type} {f : α → Res (List γ)} {xs : List α} {P : List γ → Prop} {E : Exn → Prop} (h : (catC f xs).wp P E) : (catK f xs).wp (fun ys => ys.length ≤ R.line ∧ P ys) fun _ => False := by
  have h1 : (catK f xs).wp (fun ys => (chk (decide (ys.length ≤ R.line)) (.ok ys)).wp P E) E := Res.wp_bind h
  refine catK_calm (Res.wp_mono h1 (fun ys z => ?_) fun _ z => z)
  cases e : decide (ys.length ≤ R.line) with
  | true => rw [e] at z; exact ⟨of_decide_eq_true e, z⟩
  | false => rw [e] at z; exact False.elim z
/-- for d in .. behind other clauses -/
theorem nx_cons {elt tg iter : Expr} {wi : TI} {g : TG} {r : List Cl} {te : TE} {js vs : List Nat} {α β : Type} [Nonempty α] [Nonempty β] {mi : Res α} {xs : α → List β} {Rb : β → Sl} {Γo : α → Ctx} {Γg : α → β → Ctx} {f : α → β → Res (List γ)} {m : Res (List γ)}
    (hi : IX Y T (fun _ _ _ _ => False) Γe Γ tg iter wi mi xs Rb Γo) (hg : ∀ a x, GX Y tg g js (Rb x) (wipeC Γ vs) (Γg a x)) (hn : ∀ a x, NX Y T (Γg a x) elt r te c (f a x)) (hd : ∀ a x, Wk (Γg a x) (wipeC Γ vs)) (hΓo : ∀ a, Γo a = Γ := by exact fun _ => rfl) (hj : ∀ j ∈ js, j ∈ vs := by decide)
    (hv : (vs.all fun v => Nat.ble (v + 1) Γ.length) = true := by rfl) (hm : Bd m (mi.bind fun a => (catK (f a) (xs a)).bind fun ys => .ok ys) .ok := by intros; repeat (first | ((with_reducible refine Bd.done ?_); exact rfl) | with_reducible refine Bd.okl ?_ | with_reducible refine Bd.assoc ?_ | with_reducible refine Bd.bind fun _ => ?_ | with_reducible refine Bd.eta fun _ => ?_ | with_reducible refine Bd.iteB ?_ ?_ fun _ => ?_ | with_reducible refine Bd.iteE ?_ ?_ fun _ => ?_ | with_reducible refine Bd.ite ?_ ?_ | with_reducible refine Bd.iteL ?_ ?_ | with_reducible refine Bd.assocL ?_ | with_reducible refine Bd.oklL ?_ | with_reducible exact Bd.same | with_reducible exact Bd.at | dsimp only))
    (fs : ∀ x, foldedSetIterable iter Y.env x = pure x := by intro _; rfl) : NX Y T Γ elt (⟨tg, iter, [], wi, g, tYes, vs⟩ :: r) te c m := by
  obtain ⟨a0⟩ := ‹Nonempty α›
  obtain ⟨b0⟩ := ‹Nonempty β›
  obtain rfl : Γo = fun _ => Γ := funext hΓo
  refine ⟨fun d hd' => ?_, (hn a0 b0).pe, fun Z G0 S σ G H D acc Q k q => hi.ev Z G0 _ σ G H _ k (Res.wp_mono (Res.wp_bind (hm _ _ q)) (fun a w J G1 H1 k1 src => ?_) fun _ z => False.elim z)⟩
  · rcases List.mem_cons.mp hd' with rfl | h
    · exact ⟨⟨(hg a0 b0).pg, pts_nil⟩, ⟨hi.pi, fs⟩⟩
    · exact (hn a0 b0).ok d h
  · have w2 := Res.wp_bind w
    exact nx_loop (d := ⟨tg, iter, [], wi, g, tYes, vs⟩) (f := f a) (mt := fun _ => .ok ()) (bt := fun _ _ => true) (hg a) hj (fun v hm => Nat.le_of_ble_eq_true (List.all_eq_true.mp hv v hm)) (fun _ => ts_nil) (hn a) (hd a) (fun x => fun Q E z => by
      show ((Res.ok ()).bind fun t => if true = true then f a x else .ok []).wp _ _
      exact z) Z G0 S σ G1 H1 D acc Q k1 src w2
theorem nx_consT {elt tg iter t : Expr} {wi : TI} {g : TG} {tt : TT} {r : List Cl} {te : TE} {js vs : List Nat} {α β : Type} [Nonempty α] [Nonempty β] {δ : α → β → Type} {mi : Res α} {xs : α → List β} {Rb : β → Sl} {Γo : α → Ctx} {Γg : α → β → Ctx} {mt : (a : α) → (x : β) → Res (δ a x)} {bt : (a : α) → (x : β) → δ a x → Bool} {f f2 : α → β → Res (List γ)} {m : Res (List γ)}
    (hi : IX Y T (fun _ _ _ _ => False) Γe Γ tg iter wi mi xs Rb Γo) (hg : ∀ a x, GX Y tg g js (Rb x) (wipeC Γ vs) (Γg a x)) (ht : ∀ a x, TSX Y T (Γg a x) [t] tt (mt a x) (bt a x)) (hn : ∀ a x, NX Y T (Γg a x) elt r te c (f2 a x)) (hd : ∀ a x, Wk (Γg a x) (wipeC Γ vs)) (hΓo : ∀ a, Γo a = Γ := by exact fun _ => rfl) (hj : ∀ j ∈ js, j ∈ vs := by decide)
    (hv : (vs.all fun v => Nat.ble (v + 1) Γ.length) = true := by rfl) (hm : Bd m (mi.bind fun a => (catK (f a) (xs a)).bind fun ys => .ok ys) .ok := by intros; repeat (first | ((with_reducible refine Bd.done ?_); exact rfl) | with_reducible refine Bd.okl ?_ | with_reducible refine Bd.assoc ?_ | with_reducible refine Bd.bind fun _ => ?_ | with_reducible refine Bd.eta fun _ => ?_ | with_reducible refine Bd.iteB ?_ ?_ fun _ => ?_ | with_reducible refine Bd.iteE ?_ ?_ fun _ => ?_ | with_reducible refine Bd.ite ?_ ?_ | with_reducible refine Bd.iteL ?_ ?_ | with_reducible refine Bd.assocL ?_ | with_reducible refine Bd.oklL ?_ | with_reducible exact Bd.same | with_reducible exact Bd.at | dsimp only))
    (hf : ∀ a x, Bd (f a x) ((mt a x).bind fun d => if bt a x d then f2 a x else .ok []) .ok := by intros; repeat (first | ((with_reducible refine Bd.done ?_); exact rfl) | with_reducible refine Bd.okl ?_ | with_reducible refine Bd.assoc ?_ | with_reducible refine Bd.bind fun _ => ?_ | with_reducible refine Bd.eta fun _ => ?_ | with_reducible refine Bd.iteB ?_ ?_ fun _ => ?_ | with_reducible refine Bd.iteE ?_ ?_ fun _ => ?_ | with_reducible refine Bd.ite ?_ ?_ | with_reducible refine Bd.iteL ?_ ?_ | with_reducible refine Bd.assocL ?_ | with_reducible refine Bd.oklL ?_ | with_reducible exact Bd.same | with_reducible exact Bd.at | dsimp only))
    (fs : ∀ x, foldedSetIterable iter Y.env x = pure x := by intro _; rfl) : NX Y T Γ elt (⟨tg, iter, [t], wi, g, tt, vs⟩ :: r) te c m := by
  obtain ⟨a0⟩ := ‹Nonempty α›
  obtain ⟨b0⟩ := ‹Nonempty β›
  obtain rfl : Γo = fun _ => Γ := funext hΓo
  refine ⟨fun d hd' => ?_, (hn a0 b0).pe, fun Z G0 S σ G H D acc Q k q => hi.ev Z G0 _ σ G H _ k (Res.wp_mono (Res.wp_bind (hm _ _ q)) (fun a w J G1 H1 k1 src => ?_) fun _ z => False.elim z)⟩
  · rcases List.mem_cons.mp hd' with rfl | h
    · exact ⟨⟨(hg a0 b0).pg, (ht a0 b0).pt⟩, ⟨hi.pi, fs⟩⟩
    · exact (hn a0 b0).ok d h
  · have w2 := Res.wp_bind w
    exact nx_loop (d := ⟨tg, iter, [t], wi, g, tt, vs⟩) (f := f a) (mt := mt a) (bt := bt a) (hg a) hj (fun v hm => Nat.le_of_ble_eq_true (List.all_eq_true.mp hv v hm)) (ht a) (hn a) (hd a) (hf a) Z G0 S σ G1 H1 D acc Q k1 src w2
end
section
variable {X : Cx} {T : XT} {W : WX} {Γx Γ Γe : Ctx}
theorem lcN_ev {tg iter elt : Expr} {ifs : List Expr} {wi : TI} {g : TG} {tt : TT} {r : List Cl} {te : TE} {js vs : List Nat} {α β γ : Type} {δ : α → β → Type} {c : Cod γ} {mi : Res α} {xs : α → List β} {Rb : β → Sl} {Γ0 : α → Ctx} {Γg : α → β → Ctx} {mt : (a : α) → (x : β) → Res (δ a x)} {bt : (a : α) → (x : β) → δ a x → Bool} {f f2 : α → β → Res (List γ)} {Y : Cx}
    (hi : IX X T W Γx Γ tg iter wi mi xs Rb Γ0) (hg : ∀ a x, GX Y tg g js (Rb x) (wipeC (Γ0 a) vs) (Γg a x)) (ht : ∀ a x, TSX Y T (Γg a x) ifs tt (mt a x) (bt a x)) (hn : ∀ a x, NX Y T (Γg a x) elt r te c (f2 a x)) (hd : ∀ a x, Wk (Γg a x) (wipeC (Γ0 a) vs)) (hj : ∀ j ∈ js, j ∈ vs)
    (hv : ∀ a, ∀ v ∈ vs, v < (Γ0 a).length) (hf : ∀ a x, Bd (f a x) ((mt a x).bind fun d => if bt a x d then f2 a x else .ok []) .ok) (Z G0 : Hp) (S : List Pl) (σ : L2.St) (G H : Hp) (Q : VK) (k : Okc Z G0 S Γ σ G H)
    (q : (mi.bind fun a => (catC (f a) (xs a)).bind fun ys => .ok (a, ys)).wp (fun t => ∀ v G' H', Okc Z G0 ((some (ol c t.2), some v) :: S) (Γ0 t.1) σ G' H' → Q v H') (fun ex => ∀ cls d G' H', Okc Z G0 S Γx σ G' H' → T.rel ex cls d G' → W cls d σ H')) : tLcN ⟨tg, iter, ifs, wi, g, tt, vs⟩ r te σ H Q := by
  refine hi.ev Z G0 S σ G H _ k (Res.wp_mono (Res.wp_bind q) (fun a q J G1 H1 k1 src D hD => ?_) fun ex q => q)
  have w := catC_wp (Res.wp_bind q)
  have kD : Okc Z G0 ((some (ol c []), some (.ref D)) :: S) (Γ0 a) σ G1 (upd H1 D (.lst [])) := ⟨k1.len, k1.ok.layOwn (s := ol c []) hD ⟨D, [], rfl, rfl, upd_same, .nil⟩⟩
  have src2 : Src J (xs a) Rb G1 := src
  exact nx_loop (d := ⟨tg, iter, ifs, wi, g, tt, vs⟩) (f := f a) (mt := mt a) (bt := bt a) (hg a) hj (hv a) (ht a) (hn a) (hd a) (hf a) Z G0 S σ G1 _ D [] _ kD src2 (Res.wp_mono w (fun ys z => ⟨z.1, fun G' H' k' => z.2 (.ref D) G' H' k'⟩) fun _ z => z)
theorem ex_lcN {tg iter elt : Expr} {scope : Scope} {own : List (Str × Nat)} {pos : Pos} {wi : TI} {g : TG} {r : List Cl} {te : TE} {js : List Nat} {α β γ : Type} [Nonempty α] [Nonempty β] {c : Cod γ} {mi : Res α} {xs : α → List β} {Rb : β → Sl} {Γ0 : α → Ctx} {Γg : α → β → Ctx} {f : α → β → Res (List γ)} {rest : List Comprehension}
    (hN : X.N.Nodup) (hi : IX X T W Γx Γ tg iter wi mi xs Rb Γ0) (ok : BlkOk X.N X.env.scope scope own)
    (hg : ∀ (s : Shared) (H : Hp) (C : Addr) (cl : List (Str × Addr)) (fp : List Addr) a x, GX (X.blk s H scope (compEnvC scope cl C X.env) fp) tg g js (Rb x) (wipeC (Γ0 a) (own.map (·.2))) (Γg a x))
    (hn : ∀ (s : Shared) (H : Hp) (C : Addr) (cl : List (Str × Addr)) (fp : List Addr) a x, NX (X.blk s H scope (compEnvC scope cl C X.env) fp) T (Γg a x) elt r te c (f a x)) (hd : ∀ a x, Wk (Γg a x) (wipeC (Γ0 a) (own.map (·.2)))) (hr : r.map Cl.py = rest := by rfl) (nest : nestB (own.map (·.2)) r = true := by rfl)
    (hj : ∀ j ∈ js, j ∈ own.map (·.2) := by decide) (hv : ∀ a, ((own.map (·.2)).all fun v => Nat.ble (v + 1) (Γ0 a).length) = true := by exact fun _ => rfl) (hc : X.calm = true := by rfl) (hs : ∀ x, foldedSetIterable iter X.env x = pure x := by intro _; rfl) :
    EX X T W Γx Γ (.ListComp elt (⟨tg, iter, [], 0⟩ :: rest) scope pos) (tLcN ⟨tg, iter, [], wi, g, tYes, own.map (·.2)⟩ r te) (mi.bind fun a => (catC (f a) (xs a)).bind fun ys => .ok (a, ys)) (fun t => ol c t.2) (fun t => Γ0 t.1) := by
  obtain ⟨a0⟩ := ‹Nonempty α›
  obtain ⟨b0⟩ := ‹Nonempty β›
  subst hr
  refine ⟨pe_lcN (c := ⟨tg, iter, [], wi, g, tYes, own.map (·.2)⟩) hc hN ⟨hi.pi, hs⟩ ok rfl (nest_of (c := ⟨tg, iter, [], wi, g, tYes, own.map (·.2)⟩) nest) (fun s H C cl fp => ⟨⟨(hg s H C cl fp a0 b0).pg, pts_nil⟩, (hn s H C cl fp a0 b0).ok, (hn s H C cl fp a0 b0).pe⟩), ?_⟩
  · exact lcN_ev (f := f) (mt := fun _ _ => .ok ()) (bt := fun _ _ _ => true) hi (hg X.s_0 (fun _ => none) 0 [] []) (fun _ _ => ts_nil) (hn X.s_0 (fun _ => none) 0 [] []) hd hj (fun a v hm => Nat.le_of_ble_eq_true (List.all_eq_true.mp (hv a) v hm)) fun a x => fun Q E z => by
      show ((Res.ok ()).bind fun t => if true = true then f a x else .ok []).wp _ _
      exact z
theorem s1_asgLcN {i : Nat} {y : Str} {py spos : Pos} {tg iter elt : Expr} {scope : Scope} {own : List (Str × Nat)} {pos : Pos} {wi : TI} {g : TG} {r : List Cl} {te : TE} {js : List Nat} {α β γ : Type} [Nonempty α] [Nonempty β] {c : Cod γ} {mi : Res α} {xs : α → List β} {Rb : β → Sl} {Γ0 : α → Ctx} {Γg : α → β → Ctx} {f : α → β → Res (List γ)} {mn : Res (List γ)} {rest : List Comprehension}
    (hN : X.N.Nodup) (hy : X.N[i]? = some y) (hyl : X.env.scope.names.lookup y = some .local) (hsw : swapsWith (.ListComp elt (⟨tg, iter, [], 0⟩ :: rest) scope pos) (some (.Name y py)) spos.line X.env = pure true) (hi : IX X T W Γx Γ tg iter wi mi xs Rb Γ0) (ok : BlkOk X.N X.env.scope scope own)
    (hg : ∀ (s : Shared) (H : Hp) (C : Addr) (cl : List (Str × Addr)) (fp : List Addr) a x, GX (X.blk s H scope (compEnvC scope cl C X.env) fp) tg g js (Rb x) (wipeC (Γ0 a) (own.map (·.2))) (Γg a x))
    (hn : ∀ (s : Shared) (H : Hp) (C : Addr) (cl : List (Str × Addr)) (fp : List Addr) a x, NX (X.blk s H scope (compEnvC scope cl C X.env) fp) T (Γg a x) elt r te c (f a x)) (hd : ∀ a x, Wk (Γg a x) (wipeC (Γ0 a) (own.map (·.2)))) (hr : r.map Cl.py = rest := by rfl) (nest : nestB (own.map (·.2)) r = true := by rfl)
    (hj : ∀ j ∈ js, j ∈ own.map (·.2) := by decide) (hv : ∀ a, ((own.map (·.2)).all fun v => Nat.ble (v + 1) (Γ0 a).length) = true := by exact fun _ => rfl) (hΓ : ∀ t, Γ0 t = Γ := by exact fun _ => rfl) (hl : Nat.ble (i + 1) Γ.length = true := by rfl)
    (hm : Bd mn (mi.bind fun a => (catC (f a) (xs a)).bind fun ys => .ok (a, ys)) (fun t => .ok t.2) := by intros; repeat (first | ((with_reducible refine Bd.done ?_); exact rfl) | with_reducible refine Bd.okl ?_ | with_reducible refine Bd.assoc ?_ | with_reducible refine Bd.bind fun _ => ?_ | with_reducible refine Bd.eta fun _ => ?_ | with_reducible refine Bd.iteB ?_ ?_ fun _ => ?_ | with_reducible refine Bd.iteE ?_ ?_ fun _ => ?_ | with_reducible refine Bd.ite ?_ ?_ | with_reducible refine Bd.iteL ?_ ?_ | with_reducible refine Bd.assocL ?_ | with_reducible refine Bd.oklL ?_ | with_reducible exact Bd.same | with_reducible exact Bd.at | dsimp only))
    (hc : X.calm = true := by rfl) (hs : ∀ x, foldedSetIterable iter X.env x = pure x := by intro _; rfl) :
    S1 X T W Γx Γ (.Assign [.Name y py] (.ListComp elt (⟨tg, iter, [], 0⟩ :: rest) scope pos) spos) (tAsg (tLcN ⟨tg, iter, [], wi, g, tYes, own.map (·.2)⟩ r te) (gName i)) mn (fun v => .nx (Γ.set i (some (ol c v)))) := by
  obtain ⟨a0⟩ := ‹Nonempty α›
  obtain ⟨b0⟩ := ‹Nonempty β›
  subst hr
  refine ⟨ps_setLcN (c := ⟨tg, iter, [], wi, g, tYes, own.map (·.2)⟩) hc hN hy hyl hsw ⟨hi.pi, hs⟩ ok rfl (nest_of (c := ⟨tg, iter, [], wi, g, tYes, own.map (·.2)⟩) nest) (fun s H C cl fp => ⟨⟨(hg s H C cl fp a0 b0).pg, pts_nil⟩, (hn s H C cl fp a0 b0).ok, (hn s H C cl fp a0 b0).pe⟩), fun Z G0 S σ G H D k q => ?_⟩
  · refine lcN_ev (f := f) (mt := fun _ _ => .ok ()) (bt := fun _ _ _ => true) hi (hg X.s_0 (fun _ => none) 0 [] []) (fun _ _ => ts_nil) (hn X.s_0 (fun _ => none) 0 [] []) hd hj (fun a v hm => Nat.le_of_ble_eq_true (List.all_eq_true.mp (hv a) v hm)) (fun a x => fun Q E z => ?_) Z G0 S σ G H _ k (Res.wp_mono (hm _ _ q) (fun t q v G' H' k' => ?_) fun ex q cls d G' H' k' => q cls d σ G' H' k')
    · show ((Res.ok ()).bind fun t => if true = true then f a x else .ok []).wp _ _
      exact z
    · rw [hΓ] at k'
      exact q _ G' H' (k'.store (Nat.le_of_ble_eq_true hl))
end
end Rt
/-! Rt30: owned lists that are lent to an expression; tuples walked; in. -/
namespace Rt
open PySem L2 R
/-- what it is, is told by the heap and what it owns -/
def GFree (s : Sl) : Prop := ∀ G G' H v ps, s.rel G H v ps → s.rel G' H v ps
theorem gf_int {i : Int} : GFree (sI i) := fun _ _ _ _ _ h => h
theorem gf_bool {b : Bool} : GFree (sB b) := fun _ _ _ _ _ h => h
theorem gf_tx {t : Tx} : GFree (sT t) := fun _ _ _ _ _ h => h
theorem gf_non : GFree sN := fun _ _ _ _ _ h => h
theorem paired_imp {α : Type} {F F' : V → α → Prop} (h : ∀ v a, F v a → F' v a) : ∀ {vs : List V} {xs : List α}, Paired F vs xs → Paired F' vs xs
  | _, _, .nil => .nil
  | _, _, .cons r t => .cons (h _ _ r) (paired_imp h t)
theorem gf_olI {xs : List Int} : GFree (ol cInt xs) := fun _ _ _ _ _ ⟨p, vs, h1, h2, h3, h4⟩ => ⟨p, vs, h1, h2, h3, h4⟩
theorem gf_olT {xs : List Tx} : GFree (ol cTx xs) := fun _ _ _ _ _ ⟨p, vs, h1, h2, h3, h4⟩ => ⟨p, vs, h1, h2, h3, h4⟩
theorem gf_olB {xs : List Bool} : GFree (ol cBool xs) := fun _ _ _ _ _ ⟨p, vs, h1, h2, h3, h4⟩ => ⟨p, vs, h1, h2, h3, h4⟩
/-- a slot as it is seen while all that is owned is lent -/
inductive Lend : Option Sl → Option Sl → Prop
  | no (o : Option Sl) : Lend o none
  | fz {α : Type} (c : Cod α) (a : α) : Lend (some (fz c a)) (some (fz c a))
  | ol {α : Type} (c : Cod α) (xs : List α) : Lend (some (ol c xs)) (some (Rt.fz (cList c) xs))
  | re {α : Type} (s : Sl) (c : Cod α) (a : α) (h : ∀ G H v ps, s.rel G H v ps → ∀ G1, Ex G G1 → (∀ p ∈ ps, G1 p = H p) → c.rel G1 v a) : Lend (some s) (some (Rt.fz c a))
theorem lend_all {G H : Hp} {qs : List Addr} {G1 : Hp} (e1 : Ex G G1) (e2 : ∀ p ∈ qs, G1 p = H p) : ∀ {Γ Δ : Ctx} (σ : L2.St) {ps : List Addr}, Paired Lend Γ Δ → All G H (Γ.zip σ) ps → (∀ p ∈ ps, p ∈ qs) → All G1 H (Δ.zip σ) []
  | _, _, σ, _, .nil, _, _ => by
    rw [List.zip_nil_left]
    rfl
  | o :: Γ, d :: Δ, [], _, .cons _ _, _, _ => rfl
  | o :: Γ, d :: Δ, w :: σ, ps, .cons r t, h, hq => by
    obtain ⟨p1, p2, rfl, h1, h2⟩ := h
    refine ⟨[], [], rfl, ?_, lend_all e1 e2 σ t h2 fun p hp => hq p (List.mem_append_right _ hp)⟩
    cases r with
    | no => rfl
    | fz c a =>
      obtain ⟨v, e, h3, h4⟩ := h1
      exact ⟨v, e, c.mono h3 e1, rfl⟩
    | ol c xs =>
      obtain ⟨v, e, p, vs, h3, h4, h5, h6⟩ := h1
      exact ⟨v, e, ⟨p, vs, h3, by rw [e2 p (hq p (List.mem_append_left _ (by rw [h4]; exact List.mem_cons_self)))]; exact h5, Paired.mono (fun _ _ q => c.mono q e1) h6⟩, rfl⟩
    | re s c a h =>
      obtain ⟨v, e, h3⟩ := h1
      exact ⟨v, e, h _ _ _ _ h3 G1 e1 fun p hp => e2 p (hq p (List.mem_append_left _ hp)), rfl⟩
/-- what is owned is lent; what comes back -/
theorem Okc.lendAll {Z G0 : Hp} {S : List Pl} {Γ Δ : Ctx} {σ : L2.St} {G H : Hp} (k : Okc Z G0 S Γ σ G H) (d : Paired Lend Γ Δ) : ∃ G1, Okc Z G1 [] Δ σ G1 H ∧ ∀ {s : List Pl} {G' H' : Hp}, Okc Z G1 s Δ σ G' H' → (∀ ps, All G' H' s ps → ∀ G2, All G2 H' s ps) → Okc Z G0 (s ++ S) Γ σ G H' := by
  obtain ⟨ps, ha, nd, hp⟩ := k.ok.own
  obtain ⟨p1, p2, rfl, a1, a2⟩ := All.append.mp ha
  have off : ∀ a o, G a = some o → a ∉ p1 ++ p2 := fun a o e hm => by
    rw [(hp a hm).2.1] at e
    cases e
  let G1 : Hp := fun a => if a ∈ p1 ++ p2 then H a else G a
  have in1 : ∀ a ∈ p1 ++ p2, G1 a = H a := fun a h => if_pos h
  have out1 : ∀ a, a ∉ p1 ++ p2 → G1 a = G a := fun a h => if_neg h
  have e1 : Ex G G1 := fun a o e => by rw [out1 a (off a o e)]; exact e
  have e2 : Ex G1 H := fun a o e => by
    by_cases h : a ∈ p1 ++ p2
    · rw [in1 a h] at e; exact e
    · rw [out1 a h] at e; exact k.ok.gh a o e
  have len : Δ.length = σ.length := by rw [← d.length]; exact k.len
  have k1 : Okc Z G1 [] Δ σ G1 H := ⟨len, ⟨k.ok.zh, Evl.Ex.refl _, e2, fun _ _ _ _ e => e, [], lend_all e1 in1 σ d a2 (fun p h => List.mem_append_right _ h), List.nodup_nil, fun p h => by cases h⟩⟩
  refine ⟨G1, k1, fun {s G' H'} j hs => ?_⟩
  have e3 : Ex G1 G' := j.ok.gg
  have keep : ∀ p ∈ p1 ++ p2, H' p = H p := fun p h => by
    obtain ⟨_, _, o, ho⟩ := hp p h
    rw [ho]
    exact j.ok.gh p o (e3 p o (by rw [in1 p h]; exact ho))
  obtain ⟨qs, hq, nq, cq⟩ := j.ok.own
  obtain ⟨q1, q2, rfl, b1, b2⟩ := All.append.mp hq
  refine ⟨k.len, ⟨j.ok.zh, k.ok.gg, fun a o e => j.ok.gh a o (e3 a o (e1 a o e)), k.ok.fr, q1 ++ (p1 ++ p2), ?_, ?_, ?_⟩⟩
  · rw [List.append_assoc]
    exact All.append.mpr ⟨q1, p1 ++ p2, rfl, hs q1 b1 G, ha.mono (Evl.Ex.refl G) keep⟩
  · refine List.nodup_append.mpr ⟨(List.nodup_append.mp nq).1, nd, fun x hx y hy e => ?_⟩
    subst e
    obtain ⟨_, _, o, ho⟩ := hp x hy
    have z := (cq x (List.mem_append_left _ hx)).2.1
    rw [e3 x o (by rw [in1 x hy]; exact ho)] at z
    cases z
  · intro p h
    rcases List.mem_append.mp h with h | h
    · obtain ⟨z1, z2, z3⟩ := cq p (List.mem_append_left _ h)
      refine ⟨z1, ?_, z3⟩
      cases e : G p with
      | none => rfl
      | some o => rw [e3 p o (e1 p o e)] at z2; cases z2
    · obtain ⟨z1, z2, o, ho⟩ := hp p h
      exact ⟨z1, z2, o, by rw [keep p h]; exact ho⟩
section
variable {X : Cx} {T : XT} {W : WX} {Γx Γy Γ Δ : Ctx}
theorem EX.thaw {e : Expr} {te : TE} {α : Type} {m : Res α} {R : α → Sl} {Γo : α → Ctx} (d : Paired Lend Γ Δ) (h : EX X T W Γy Δ e te m R Γo) (hg : ∀ a, GFree (R a)) (hΓ : ∀ a, Γo a = Δ := by exact fun _ => rfl) : EX X T W Γx Γ e te m.calm R (fun _ => Γ) := by
  refine ⟨h.pe, fun Z G0 S σ G H Q k q => ?_⟩
  obtain ⟨G1, k1, back⟩ := k.lendAll d
  refine h.ev Z G1 [] σ G1 H Q k1 (Res.wp_mono (Res.wp_calm q) (fun a q v G' H' k' => ?_) fun _ z => False.elim z)
  rw [hΓ] at k'
  exact q v G H' (back k' fun ps ha G2 => by
    obtain ⟨p1, p2, e1, ⟨v2, e2, r⟩, r2⟩ := ha
    exact ⟨p1, p2, e1, ⟨v2, e2, hg a _ _ _ _ _ r⟩, r2⟩)
theorem ET.thaw {e : Expr} {tt : TT} {α : Type} {m : Res α} {b : α → Bool} {Γo : α → Ctx} (d : Paired Lend Γ Δ) (h : ET X T W Γy Δ e tt m b Γo) (hΓ : ∀ a, Γo a = Δ := by exact fun _ => rfl) : ET X T W Γx Γ e tt m.calm b (fun _ => Γ) := by
  refine ⟨h.pt, fun Z G0 S σ G H Q k q => ?_⟩
  obtain ⟨G1, k1, back⟩ := k.lendAll d
  refine h.ev Z G1 [] σ G1 H Q k1 (Res.wp_mono (Res.wp_calm q) (fun a q G' H' k' => ?_) fun _ z => False.elim z)
  rw [hΓ] at k'
  exact q G H' (back k' fun ps ha G2 => ha)
end
/-! ### tuples walked -/
def TupL {α β : Type} (d : Cods α) (c : Cod β) (f : α → List β) : Prop := ∀ G vs a, d.rel G vs a → Paired (c.rel G) vs (f a)
theorem tl_one {α : Type} {c : Cod α} : TupL (dOne c) c (fun a => [a]) := fun G vs a ⟨v, h1, h2⟩ => by
  rw [h1]
  exact .cons h2 .nil
theorem tl_cons {α β : Type} {c : Cod α} {d : Cods β} {f : β → List α} (h : TupL d c f) : TupL (dCons c d) c (fun a => a.1 :: f a.2) := fun G vs a ⟨v, r, h1, h2, h3⟩ => by
  rw [h1]
  exact .cons h2 (h G r _ h3)
section
variable {X : Cx} {T : XT} {W : WX} {Γx Γ : Ctx} {K : PySem.W.Frag}
theorem src_tup {α : Type} {c : Cod α} {a : Addr} {vs : List V} {xs : List α} {G1 : Hp} (hs : SqT K G1 a vs) (hp : Paired (c.rel G1) vs xs) : Src (Itt K a) xs (fz c) G1 :=
  ⟨fun H => SqT K H a vs, YAt vs, by rw [← hp.length]; exact walk_tup, fun H e => Evl.ex_t e hs, fun i x hx H v H' y Z G0 l G e k => by
    obtain ⟨rfl, hv⟩ := y
    exact ⟨G, k.push (c.mono (paired_get hp hv hx) e)⟩⟩
theorem ix_tup {e tg : Expr} {te : TE} {α β γ : Type} {d : Cods γ} {c : Cod β} {f : γ → List β} {m : Res α} {a : α → γ} {Γo : α → Ctx} (tl : TupL d c f) (he : EX X T W Γx Γ e te m (fun t => fz (cTup K d) (a t)) Γo) (hK : X.K = K := by rfl) : IX X T W Γx Γ tg e (iTup K te) m (fun t => f (a t)) (fz c) Γo := by
  subst hK
  refine ⟨pi_tup he.pe, fun Z G0 S σ G H Rk k q => he.ev Z G0 S σ G H _ k (Res.wp_mono q (fun t q v G' H' k' => ?_) fun _ z => z)⟩
  obtain ⟨p, vs, rfl, hs, hp⟩ := k'.tp
  exact ⟨p, rfl, ⟨vs, ct_sq k'.ok.gh hs⟩, q _ G' H' k'.drop (src_tup (SqT.of hs) (tl G' vs _ hp))⟩
/-! ### in -/
/-- flat things, told apart by their values -/
structure Flat {α : Type} (c : Cod α) (d : DecidableEq α) : Prop where
  fl : ∀ G v a, c.rel G v a → flatV v = true
  eq : ∀ G v w a b, c.rel G v a → c.rel G w b → eqV v w = decide (a = b)
theorem any_eq {α : Type} [d : DecidableEq α] {c : Cod α} (f : Flat c d) {G : Hp} {v : V} {a : α} (hv : c.rel G v a) : ∀ {vs : List V} {xs : List α}, Paired (c.rel G) vs xs → inV v vs = decide (a ∈ xs) ∧ vs.all flatV = true
  | _, _, .nil => ⟨by simp [inV], rfl⟩
  | w :: vs, b :: xs, .cons r t => by
    obtain ⟨h1, h2⟩ := any_eq f hv t
    have e := f.eq G w v b a r hv
    refine ⟨?_, by simp [f.fl G w b r, h2]⟩
    have h3 : inV v (w :: vs) = (eqV w v || inV v vs) := rfl
    rw [h3, e, h1]
    rw [Bool.eq_iff_iff]
    simp only [Bool.or_eq_true, decide_eq_true_eq, List.mem_cons]
    constructor
    · rintro (h | h)
      · exact .inl h.symm
      · exact .inr h
    · rintro (h | h)
      · exact .inl h.symm
      · exact .inr h
theorem o_in {α : Type} [d : DecidableEq α] {c : Cod α} (f : Flat c d) {a : α} {xs : List α} : OpOk (rIn K false) (fz c a) (fz (cList c) xs) (.ok ()) (fun _ => sB (decide (a ∈ xs))) :=
  ⟨fun Z G0 l G H v1 v2 Q k _ _ q => by
    obtain ⟨h1, p, vs, rfl, hs, hp⟩ := k.rels
    obtain ⟨e1, e2⟩ := any_eq f h1 hp
    exact ⟨p, vs, rfl, .inl (cl_sq k.gh hs), f.fl G v1 a h1, e2, q _ _ _ (k.drop.drop.push (congrArg V.bl e1))⟩, ok_ne⟩
theorem o_notin {α : Type} [d : DecidableEq α] {c : Cod α} (f : Flat c d) {a : α} {xs : List α} : OpOk (rIn K true) (fz c a) (fz (cList c) xs) (.ok ()) (fun _ => sB (!decide (a ∈ xs))) :=
  ⟨fun Z G0 l G H v1 v2 Q k _ _ q => by
    obtain ⟨h1, p, vs, rfl, hs, hp⟩ := k.rels
    obtain ⟨e1, e2⟩ := any_eq f h1 hp
    exact ⟨p, vs, rfl, .inl (cl_sq k.gh hs), f.fl G v1 a h1, e2, q _ _ _ (k.drop.drop.push (congrArg (fun b => V.bl (!b)) e1))⟩, ok_ne⟩
end
end Rt
namespace Rt
open PySem L2 R
theorem flat_int : Flat cInt inferInstance := ⟨fun G v a h => by rw [show v = .int a from h]; rfl, fun G v w a b h1 h2 => by
  rw [show v = .int a from h1, show w = .int b from h2]
  show (a == b) = _
  rw [Bool.eq_iff_iff]
  simp⟩
theorem flat_bool : Flat cBool inferInstance := ⟨fun G v a h => by rw [show v = .bl a from h]; rfl, fun G v w a b h1 h2 => by
  rw [show v = .bl a from h1, show w = .bl b from h2]
  show (a == b) = _
  rw [Bool.eq_iff_iff]
  simp⟩
theorem flat_tx : Flat cTx inferInstance := ⟨fun G v a h => by rw [show v = sv a from h.1]; rfl, fun G v w a b h1 h2 => by
  rw [show v = sv a from h1.1, show w = sv b from h2.1]
  show ((⟨a.toArray⟩ : Str) == ⟨b.toArray⟩) = _
  rw [Bool.eq_iff_iff]
  simp only [beq_iff_eq, decide_eq_true_eq]
  constructor
  · intro h
    injection h with h
    simpa using h
  · intro h
    rw [h]⟩
end Rt
namespace Rt
open PySem L2 R
section
variable {X : Cx} {T : XT} {W : WX} {Γx Γy Γ Δ : Ctx}
theorem EX.lent {e : Expr} {te : TE} {α ν : Type} {m : Res α} {mn : Res ν} {R : α → Sl} {Γo : α → Ctx} {f : α → ν} (R' : ν → Sl) (d : Paired Lend Γ Δ) (h : EX X T W Γy Δ e te m R Γo) (hg : ∀ a, GFree (R' a)) (hR : ∀ a, R a = R' (f a) := by exact fun _ => rfl) (hΓ : ∀ a, Γo a = Δ := by exact fun _ => rfl)
    (hb : Bd mn m (fun a => .ok (f a)) := by intros; repeat (first | ((with_reducible refine Bd.done ?_); exact rfl) | with_reducible refine Bd.okl ?_ | with_reducible refine Bd.assoc ?_ | with_reducible refine Bd.bind fun _ => ?_ | with_reducible refine Bd.eta fun _ => ?_ | with_reducible refine Bd.iteB ?_ ?_ fun _ => ?_ | with_reducible refine Bd.iteE ?_ ?_ fun _ => ?_ | with_reducible refine Bd.ite ?_ ?_ | with_reducible refine Bd.iteL ?_ ?_ | with_reducible refine Bd.assocL ?_ | with_reducible refine Bd.oklL ?_ | with_reducible exact Bd.same | with_reducible exact Bd.at | dsimp only)) : EX X T W Γx Γ e te mn.calm R' (fun _ => Γ) := by
  refine ⟨h.pe, fun Z G0 S σ G H Q k q => ?_⟩
  obtain ⟨G1, k1, back⟩ := k.lendAll d
  refine h.ev Z G1 [] σ G1 H Q k1 (Res.wp_mono (hb _ _ (Res.wp_calm q)) (fun a q v G' H' k' => ?_) fun _ z => False.elim z)
  rw [hΓ, hR] at k'
  exact q v G H' (back k' fun ps ha G2 => by
    obtain ⟨p1, p2, e1, ⟨v2, e2, r⟩, r2⟩ := ha
    exact ⟨p1, p2, e1, ⟨v2, e2, hg _ _ _ _ _ _ r⟩, r2⟩)
theorem ET.lent {e : Expr} {tt : TT} {α : Type} {m : Res α} {mn : Res Bool} {b : α → Bool} {Γo : α → Ctx} (d : Paired Lend Γ Δ) (h : ET X T W Γy Δ e tt m b Γo) (hΓ : ∀ a, Γo a = Δ := by exact fun _ => rfl)
    (hb : Bd mn m (fun a => .ok (b a)) := by intros; repeat (first | ((with_reducible refine Bd.done ?_); exact rfl) | with_reducible refine Bd.okl ?_ | with_reducible refine Bd.assoc ?_ | with_reducible refine Bd.bind fun _ => ?_ | with_reducible refine Bd.eta fun _ => ?_ | with_reducible refine Bd.iteB ?_ ?_ fun _ => ?_ | with_reducible refine Bd.iteE ?_ ?_ fun _ => ?_ | with_reducible refine Bd.ite ?_ ?_ | with_reducible refine Bd.iteL ?_ ?_ | with_reducible refine Bd.assocL ?_ | with_reducible refine Bd.oklL ?_ | with_reducible exact Bd.same | with_reducible exact Bd.at | dsimp only)) : ET X T W Γx Γ e tt mn.calm (fun b => b) (fun _ => Γ) := by
  refine ⟨h.pt, fun Z G0 S σ G H Q k q => ?_⟩
  obtain ⟨G1, k1, back⟩ := k.lendAll d
  refine h.ev Z G1 [] σ G1 H Q k1 (Res.wp_mono (hb _ _ (Res.wp_calm q)) (fun a q G' H' k' => ?_) fun _ z => False.elim z)
  rw [hΓ] at k'
  exact q G H' (back k' fun ps ha G2 => ha)
end
end Rt
/-! Rt36: values of one of two kinds. -/
namespace Rt
open PySem L2 R
def cSum {α β : Type} (c : Cod α) (d : Cod β) : Cod (α ⊕ β) := ⟨fun G v s => match s with | .inl a => c.rel G v a | .inr b => d.rel G v b, fun {G G' v s} h e => by
  cases s with
  | inl a => exact c.mono h e
  | inr b => exact d.mono h e⟩
section
variable {X : Cx} {T : XT} {W : WX} {Γx Γ : Ctx} {K : PySem.W.Frag}
theorem EX.inl {e : Expr} {te : TE} {α β γ : Type} {m : Res α} {c : Cod β} {d : Cod γ} {f : α → β} {Γo : α → Ctx} (h : EX X T W Γx Γ e te m (fun a => fz c (f a)) Γo) : EX X T W Γx Γ e te m (fun a => fz (cSum c d) (.inl (f a))) Γo := h.conv fun _ _ _ _ _ r => r
theorem EX.inr {e : Expr} {te : TE} {α β γ : Type} {m : Res α} {c : Cod γ} {d : Cod β} {f : α → β} {Γo : α → Ctx} (h : EX X T W Γx Γ e te m (fun a => fz d (f a)) Γo) : EX X T W Γx Γ e te m (fun a => fz (cSum c d) (.inr (f a))) Γo := h.conv fun _ _ _ _ _ r => r
abbrev dSum {α β : Type} (d : α → PyData) (e : β → PyData) : α ⊕ β → PyData := fun s => match s with | .inl a => d a | .inr b => e b
theorem eqd_sum {α β : Type} {c : Cod α} {c' : Cod β} {d : α → PyData} {e : β → PyData} (h : EqD K c d) (h' : EqD K c' e) : EqD K (cSum c c') (dSum d e) := ⟨fun G H v a k x => by
  cases a with
  | inl a => exact h.rel G H v a k x
  | inr b => exact h'.rel G H v b k x⟩
theorem datp_sum {α β : Type} [DecidableEq α] [DecidableEq β] {d : α → PyData} {e : β → PyData} {n m : Nat} (h : DatP d n) (k : DatP e m) (hn : ∀ a b, PyData.eqv (d a) (e b) = false ∧ PyData.eqv (e b) (d a) = false) : DatP (dSum d e) (max n m) :=
  ⟨fun s => by cases s with | inl a => exact h.plain a | inr b => exact k.plain b,
   fun s => by cases s with | inl a => exact Nat.le_trans (h.depth a) (Nat.le_max_left _ _) | inr b => exact Nat.le_trans (k.depth b) (Nat.le_max_right _ _),
   fun s t => by
    cases s with
    | inl a =>
      cases t with
      | inl b =>
        show PyData.eqv (d a) (d b) = _
        rw [h.eqv]
        simp
      | inr b =>
        show PyData.eqv (d a) (e b) = _
        rw [(hn a b).1]
        simp
    | inr a =>
      cases t with
      | inl b =>
        show PyData.eqv (e a) (d b) = _
        rw [(hn b a).2]
        simp
      | inr b =>
        show PyData.eqv (e a) (e b) = _
        rw [k.eqv]
        simp⟩
theorem isOf_sum {α β : Type} {c : Cod α} {d : Cod β} {n : String} {b : α → Bool} {b' : β → Bool} (h : IsOf K c n b) (h' : IsOf K d n b') : IsOf K (cSum c d) n (fun s => Sum.elim b b' s) := fun G H v s e r => by
  cases s with
  | inl a => exact h G H v a e r
  | inr a => exact h' G H v a e r
end
end Rt
/-! Rt39: a reading of a frozen value as another reading. -/
namespace Rt
open PySem L2 R
def Cv {α β : Type} (c : Cod α) (d : Cod β) (h : α → β) : Prop := ∀ G v a, c.rel G v a → d.rel G v (h a)
theorem cv_id {α : Type} {c : Cod α} : Cv c c (fun a => a) := fun _ _ _ r => r
theorem cv_inl {α β γ : Type} {c0 : Cod γ} {c : Cod α} {d : Cod β} {h : γ → α} (k : Cv c0 c h) : Cv c0 (cSum c d) (fun a => .inl (h a)) := fun G v a r => k G v a r
theorem cv_inr {α β γ : Type} {c0 : Cod γ} {c : Cod β} {d : Cod α} {h : γ → β} (k : Cv c0 c h) : Cv c0 (cSum d c) (fun a => .inr (h a)) := fun G v a r => k G v a r
theorem cv_some {α γ : Type} {c0 : Cod γ} {c : Cod α} {h : γ → α} (k : Cv c0 c h) (nn : ∀ G v b, c.rel G v b → v ≠ .non) : Cv c0 (cOpt c) (fun a => some (h a)) := fun G v a r => ⟨k G v a r, nn G v _ (k G v a r)⟩
theorem cv_none {α : Type} {c : Cod α} : Cv cNon (cOpt c) (fun _ => none) := fun _ _ _ r => r
theorem cv_opt {α γ : Type} {c0 : Cod γ} {c : Cod α} {h : γ → α} (k : Cv c0 c h) : Cv (cOpt c0) (cOpt c) (fun o => o.map h) := fun G v o r => by
  cases o with
  | none => exact r
  | some a => exact ⟨k G v a r.1, r.2⟩
theorem cv_sum {α β γ δ : Type} {c : Cod α} {d : Cod β} {c' : Cod γ} {d' : Cod δ} {f : α → γ} {g : β → δ} (k : Cv c c' f) (l : Cv d d' g) : Cv (cSum c d) (cSum c' d') (fun s => s.map f g) := fun G v s r => by
  cases s with
  | inl a => exact k G v a r
  | inr a => exact l G v a r
theorem pd_map {α β V : Type} {R : V → α → Prop} {S : V → β → Prop} {h : α → β} (k : ∀ v a, R v a → S v (h a)) {vs : List V} {xs : List α} (p : Paired R vs xs) : Paired S vs (xs.map h) := by
  induction p with
  | nil => exact .nil
  | cons a _ ih => exact .cons (k _ _ a) ih
theorem cv_list {α β : Type} {c : Cod α} {d : Cod β} {h : α → β} (k : Cv c d h) : Cv (cList c) (cList d) (fun xs => xs.map h) := fun G v xs ⟨p, vs, e1, e2, e3⟩ => ⟨p, vs, e1, e2, pd_map (k G) e3⟩
def Cvs {α β : Type} (c : Cods α) (d : Cods β) (h : α → β) : Prop := ∀ G vs a, c.rel G vs a → d.rel G vs (h a)
theorem cvs_one {α β : Type} {c : Cod α} {d : Cod β} {h : α → β} (k : Cv c d h) : Cvs (dOne c) (dOne d) h := fun G vs a ⟨v, e, r⟩ => ⟨v, e, k G v a r⟩
theorem cvs_cons {α β γ δ : Type} {c : Cod α} {d : Cod β} {c' : Cods γ} {d' : Cods δ} {h : α → β} {g : γ → δ} (k : Cv c d h) (l : Cvs c' d' g) : Cvs (dCons c c') (dCons d d') (fun a => (h a.1, g a.2)) := fun G vs a ⟨v, r, e, e1, e2⟩ => ⟨v, r, e, k G v _ e1, l G r _ e2⟩
section
variable {X : Cx} {T : XT} {W : WX} {Γx Γ : Ctx} {K : PySem.W.Frag}
theorem cv_tup {α β : Type} {d : Cods α} {e : Cods β} {h : α → β} (k : Cvs d e h) : Cv (cTup K d) (cTup K e) h := fun G v a ⟨p, vs, e1, e2, e3⟩ => ⟨p, vs, e1, e2, k G vs a e3⟩
theorem EX.cv {e : Expr} {te : TE} {α β γ : Type} {m : Res α} {c : Cod β} {d : Cod γ} {f : α → β} {h : β → γ} {Γo : α → Ctx} (k : Cv c d h) (x : EX X T W Γx Γ e te m (fun a => fz c (f a)) Γo) : EX X T W Γx Γ e te m (fun a => fz d (h (f a))) Γo := x.conv fun a G _ v _ r => ⟨k G v _ r.1, r.2⟩
end
end Rt
/-! Rt40: dicts: keys, what a dict holds, owned ones and frozen ones. -/
namespace Rt
open PySem L2 R
/-! ### tables -/
section
variable {κ β : Type} [DecidableEq κ]
/-- the pairs of the heap and those of the mirror -/
def PrR (c : Hp → V → β → Prop) (G : Hp) (a : κ × V) (b : κ × β) : Prop := a.1 = b.1 ∧ c G a.2 b.2
theorem tab_get {c : Cod β} {G : Hp} (k : κ) {kvs : List (κ × V)} {xs : List (κ × β)} (h : Paired (PrR c.rel G) kvs xs) :
    (valV kvs k = none ∧ dget xs k = none) ∨ ∃ v b, valV kvs k = some v ∧ dget xs k = some b ∧ c.rel G v b := by
  induction h with
  | nil => exact .inl ⟨rfl, rfl⟩
  | @cons p q kvs xs r _ ih =>
    obtain ⟨e, r2⟩ : p.1 = q.1 ∧ c.rel G p.2 q.2 := r
    by_cases z : p.1 = k
    · refine .inr ⟨p.2, q.2, valV_pos z, ?_, r2⟩
      have z' : q.1 = k := by rw [← e]; exact z
      simp [dget, z']
    · have z' : ¬ q.1 = k := by rw [← e]; exact z
      rw [valV_neg z]
      have : dget (q :: xs) k = dget xs k := by simp [dget, List.find?_cons, z']
      rw [this]
      exact ih
theorem tab_any {c : Cod β} {G : Hp} (k : κ) {kvs : List (κ × V)} {xs : List (κ × β)} (h : Paired (PrR c.rel G) kvs xs) : (kvs.any fun p => decide (p.1 = k)) = xs.any fun p => decide (p.1 = k) := by
  induction h with
  | nil => rfl
  | cons r _ ih =>
    have e := r.1
    rw [List.any_cons, List.any_cons, ih, e]
theorem tab_put {c : Cod β} {G : Hp} (k : κ) {v : V} {b : β} (hv : c.rel G v b) {kvs : List (κ × V)} {xs : List (κ × β)} (h : Paired (PrR c.rel G) kvs xs) : Paired (PrR c.rel G) (putK kvs k v) (dput xs k b) := by
  unfold putK dput
  rw [tab_any k h]
  cases (xs.any fun p => decide (p.1 = k)) with
  | true =>
    rw [if_pos rfl, if_pos rfl]
    induction h with
    | nil => exact .nil
    | @cons p q kvs xs r _ ih =>
      obtain ⟨e, r2⟩ : p.1 = q.1 ∧ c.rel G p.2 q.2 := r
      refine .cons ?_ ih
      show PrR c.rel G (if p.1 = k then (p.1, v) else p) (if q.1 = k then (q.1, b) else q)
      by_cases z : p.1 = k
      · have z' : q.1 = k := by rw [← e]; exact z
        rw [if_pos z, if_pos z']
        exact ⟨e, hv⟩
      · have z' : ¬ q.1 = k := by rw [← e]; exact z
        rw [if_neg z, if_neg z']
        exact ⟨e, r2⟩
  | false =>
    rw [if_neg (by decide), if_neg (by decide)]
    have h1 : Paired (PrR c.rel G) [(k, v)] [(k, b)] := .cons ⟨rfl, hv⟩ .nil
    exact paired_cat h h1
theorem PrR.mono {c : Cod β} {G G' : Hp} {a : κ × V} {b : κ × β} (h : PrR c.rel G a b) (e : Ex G G') : PrR c.rel G' a b := ⟨h.1, c.mono h.2 e⟩
end
/-! ### keys -/
structure Kk (κ : Type) [DecidableEq κ] where
  c : Cod κ
  ho : List (κ × V) → HO
  get : ∀ {G H : Hp} {a : Addr} {kvs : List (κ × V)} {v : V} {k : κ}, Ex G H → c.rel G v k → H a = some (ho kvs) → DGet H a v (valV kvs k)
  put : ∀ {G H : Hp} {a : Addr} {kvs : List (κ × V)} {v w : V} {k : κ}, Ex G H → c.rel G v k → H a = some (ho kvs) → kvs.length < sizeLine → DPut H a v w (upd H a (ho (putK kvs k w)))
  isD : ∀ {H : Hp} {a : Addr} {kvs : List (κ × V)}, H a = some (ho kvs) → IsD H a
section
variable {κ ι : Type} [DecidableEq κ] [DecidableEq ι]
theorem val_map {f : κ → ι} (hf : ∀ a b, f a = f b → a = b) (k : κ) : ∀ kvs : List (κ × V), valV (kvs.map fun p => (f p.1, p.2)) (f k) = valV kvs k
  | [] => rfl
  | p :: r => by
    rw [List.map_cons]
    by_cases z : p.1 = k
    · rw [valV_pos (show (f p.1, p.2).1 = f k by rw [z]), valV_pos z]
    · rw [valV_neg (show ¬ (f p.1, p.2).1 = f k from fun e => z (hf _ _ e)), valV_neg z, val_map hf k r]
theorem put_map {f : κ → ι} (hf : ∀ a b, f a = f b → a = b) (k : κ) (w : V) (kvs : List (κ × V)) : putK (kvs.map fun p => (f p.1, p.2)) (f k) w = (putK kvs k w).map fun p => (f p.1, p.2) := by
  have ha : ((kvs.map fun p => (f p.1, p.2)).any fun p => decide (p.1 = f k)) = kvs.any fun p => decide (p.1 = k) := by
    rw [List.any_map]
    congr 1
    funext p
    show decide (f p.1 = f k) = decide (p.1 = k)
    by_cases z : p.1 = k
    · rw [decide_eq_true z, decide_eq_true (by rw [z])]
    · rw [decide_eq_false z, decide_eq_false fun e => z (hf _ _ e)]
  unfold putK
  rw [ha]
  cases (kvs.any fun p => decide (p.1 = k)) with
  | true =>
    rw [if_pos rfl, if_pos rfl, List.map_map, List.map_map]
    refine List.map_congr_left fun p _ => ?_
    show (if f p.1 = f k then (f p.1, w) else (f p.1, p.2)) = (f (if p.1 = k then (p.1, w) else p).1, (if p.1 = k then (p.1, w) else p).2)
    by_cases z : p.1 = k
    · rw [if_pos z, if_pos (by rw [z])]
    · rw [if_neg z, if_neg fun e => z (hf _ _ e)]
  | false =>
    rw [if_neg (by decide), if_neg (by decide), List.map_append]
    rfl
end
def kInt : Kk Int where
  c := cInt
  ho kvs := .dK (kvs.map fun p => (Sum.inl p.1, p.2))
  get := fun {G H a kvs v k} e r h => by
    have z : v = .int k := r
    subst z
    rw [← val_map (f := (Sum.inl : Int → Key)) (fun a b e => Sum.inl.inj e)]
    exact DGet.k (k := Sum.inl k) h
  put := fun {G H a kvs v w k} e r h hl => by
    have z : v = .int k := r
    subst z
    rw [← put_map (f := (Sum.inl : Int → Key)) (fun a b e => Sum.inl.inj e)]
    exact DPut.k (k := Sum.inl k) h (by rw [List.length_map]; exact hl)
  isD := fun h => .inl ⟨_, .inl h⟩
/-- the items of a tuple that is a key -/
structure Kt {α : Type} (d : Cods α) (f : α → List Key) : Prop where
  of : ∀ G vs a, d.rel G vs a → vs = (f a).map kV
  inj : ∀ a b, f a = f b → a = b
theorem kt_one : Kt (dOne cInt) (fun i => [Sum.inl i]) := ⟨fun G vs a ⟨v, e, r⟩ => by rw [e, show v = V.int a from r]; rfl, fun a b e => by injection e with e _; exact Sum.inl.inj e⟩
theorem kt_cons {α : Type} {d : Cods α} {f : α → List Key} (h : Kt d f) : Kt (dCons cInt d) (fun a => Sum.inl a.1 :: f a.2) := ⟨fun G vs a ⟨v, r, e, r1, r2⟩ => by rw [e, show v = V.int a.1 from r1, h.of G r a.2 r2]; rfl, fun a b e => by
  injection e with e1 e2
  exact Prod.ext (Sum.inl.inj e1) (h.inj _ _ e2)⟩
def kTup {α : Type} [DecidableEq α] (K : PySem.W.Frag) {d : Cods α} {f : α → List Key} (h : Kt d f) : Kk α where
  c := cTup K d
  ho kvs := .dT (kvs.map fun p => (f p.1, p.2))
  get := fun {G H a kvs v k} e r hh => by
    obtain ⟨p, vs, rfl, h1, h2⟩ := r
    rw [← val_map h.inj]
    refine DGet.t hh ?_
    rw [← h.of G vs k h2]
    exact e p _ h1
  put := fun {G H a kvs v w k} e r hh hl => by
    obtain ⟨p, vs, rfl, h1, h2⟩ := r
    rw [← put_map h.inj]
    refine DPut.t hh ?_ (by rw [List.length_map]; exact hl)
    rw [← h.of G vs k h2]
    exact e p _ h1
  isD := fun hh => .inr ⟨_, .inl hh⟩
abbrev kI2 (K : PySem.W.Frag) : Kk (Int × Int) := kTup K (kt_cons kt_one)
abbrev kI3 (K : PySem.W.Frag) : Kk (Int × Int × Int) := kTup K (kt_cons (kt_cons kt_one))
/-! ### dicts -/
section
variable {κ β : Type} [DecidableEq κ]
/-- an owned dict whose keys and values are frozen -/
def od (k : Kk κ) (c : Cod β) (xs : List (κ × β)) : Sl := ⟨fun G H v ps => ∃ p kvs, v = .ref p ∧ ps = [p] ∧ H p = some (k.ho kvs) ∧ Paired (PrR c.rel G) kvs xs, fun h e q => by
  obtain ⟨p, kvs, h1, h2, h3, h4⟩ := h
  refine ⟨p, kvs, h1, h2, ?_, Paired.mono (fun _ _ r => r.mono e) h4⟩
  rw [q p (by rw [h2]; exact List.mem_cons_self)]
  exact h3⟩
/-- a dict that never changes -/
def cDt (k : Kk κ) (c : Cod β) : Cod (List (κ × β)) := ⟨fun G v xs => ∃ p kvs, v = .ref p ∧ G p = some (k.ho kvs) ∧ Paired (PrR c.rel G) kvs xs, fun h e => by
  obtain ⟨p, kvs, h1, h2, h3⟩ := h
  exact ⟨p, kvs, h1, e p _ h2, Paired.mono (fun _ _ r => r.mono e) h3⟩⟩
theorem nn_dt {k : Kk κ} {c : Cod β} (G : Hp) (v : V) (b : List (κ × β)) (h : (cDt k c).rel G v b) : v ≠ .non := fun z => by
  obtain ⟨p, _, e, _⟩ := h
  rw [e] at z
  cases z
/-- an owned dict, frozen -/
theorem Okl.icyD {Z G0 G H : Hp} {l : List Pl} {k : Kk κ} {c : Cod β} {xs : List (κ × β)} {w : Option V} (h : Okl Z G0 ((some (od k c xs), w) :: l) G H) : ∃ G', Okl Z G0 ((some (fz (cDt k c) xs), w) :: l) G' H := by
  obtain ⟨ps, ⟨p1, p2, _, ⟨v, e1, p, kvs, e2, e3, h3, hp⟩, _⟩, _, h4⟩ := h.own
  subst e1; subst e2
  refine ⟨upd G p (k.ho kvs), h.freeze (p := p) (fun v ps e r => ?_) h3 ⟨p, kvs, rfl, upd_same, Paired.mono (fun _ _ q => q.mono (Evl.Ex.new ?_)) hp⟩⟩
  · obtain ⟨p', _, e2, e4, _⟩ := r
    cases e
    cases e2
    exact e4
  · exact (h4 p (by simp_all)).2.1
end
/-! ### what may be read -/
abbrev Rp := Hp → Hp → V → Prop
def rpF {α : Type} (c : Cod α) (a : α) : Rp := fun G _ v => c.rel G v a
def rpD {κ β : Type} [DecidableEq κ] (k : Kk κ) (c : Cod β) (xs : List (κ × β)) : Rp := fun G H v => ∃ p kvs, v = .ref p ∧ H p = some (k.ho kvs) ∧ Paired (PrR c.rel G) kvs xs
def rpL {β : Type} (c : Cod β) (xs : List β) : Rp := fun G H v => ∃ p vs, v = .ref p ∧ H p = some (.lst vs) ∧ Paired (c.rel G) vs xs
/-- a part of what is owned tells P -/
def Rds (s : Sl) (P : Rp) : Prop := ∀ G H v ps, Ex G H → s.rel G H v ps → P G H v
theorem rds_fz {α : Type} {c : Cod α} {a : α} : Rds (fz c a) (rpF c a) := fun _ _ _ _ _ h => h.1
theorem rds_od {κ β : Type} [DecidableEq κ] {k : Kk κ} {c : Cod β} {xs : List (κ × β)} : Rds (od k c xs) (rpD k c xs) := fun _ _ _ _ _ ⟨p, kvs, h1, _, h3, h4⟩ => ⟨p, kvs, h1, h3, h4⟩
theorem rds_dt {κ β : Type} [DecidableEq κ] {k : Kk κ} {c : Cod β} {xs : List (κ × β)} : Rds (fz (cDt k c) xs) (rpD k c xs) := fun _ _ _ _ e ⟨⟨p, kvs, h1, h3, h4⟩, _⟩ => ⟨p, kvs, h1, e p _ h3, h4⟩
theorem rds_ol {β : Type} {c : Cod β} {xs : List β} : Rds (ol c xs) (rpL c xs) := fun _ _ _ _ _ ⟨p, vs, h1, _, h3, h4⟩ => ⟨p, vs, h1, h3, h4⟩
theorem rds_cl {β : Type} {c : Cod β} {xs : List β} : Rds (fz (cList c) xs) (rpL c xs) := fun _ _ _ _ e ⟨⟨p, vs, h1, h3, h4⟩, _⟩ => ⟨p, vs, h1, e p _ h3, h4⟩
/-- an expression that is a path to something at hand: its value is the same as long as the slots hold what they hold -/
structure BX (X : Cx) (Γ : Ctx) (e : Expr) (te : TE) (P : Rp) : Prop where
  pe : PE X e te
  ev : ∀ (Z G0 : Hp) (S : List Pl) (σ : St) (G H : Hp), Okc Z G0 S Γ σ G H → ∃ w, (∀ Z G0 S G H, Okc Z G0 S Γ σ G H → P G H w ∧ ∀ Q : VK, Q w H → te σ H Q)
section
variable {X : Cx} {T : XT} {W : WX} {Γx Γ : Ctx} {K : PySem.W.Frag}
theorem bx_slot (i : Nat) {x : Str} {pos : Pos} {s : Sl} {P : Rp} (r : Rds s P) (h : Γ[i]? = some (some s) := by rfl) (hN : X.N[i]? = some x := by rfl) (hv : Vis X.env.scope x := by first | exact Or.inl rfl | exact Or.inr (Or.inl rfl) | exact Or.inr (Or.inr rfl)) (hd : (x == ("__debug__" : Str)) = false := by decide) (hcd : (x == ("__classdict__" : Str)) = false := by decide) :
    BX X Γ (.Name x pos) (tVar i) P := ⟨pv i hN hv hd hcd, fun Z G0 S σ G H k => by
  obtain ⟨v, _, hw, _, _⟩ := k.take h
  refine ⟨v, fun Z G0 S G H k => ?_⟩
  obtain ⟨v', l, hw', k1, _⟩ := k.take h
  rw [hw] at hw'
  cases hw'
  obtain ⟨ps, ⟨p1, p2, _, ⟨v', e1, r1⟩, _⟩, _, _⟩ := k1.own
  cases e1
  exact ⟨r G H v p1 k.ok.gh r1, fun Q q => ⟨v, hw, q⟩⟩⟩
/-- what a path leads to, if it is frozen -/
theorem ex_bx {e : Expr} {te : TE} {α : Type} {c : Cod α} {a : α} (h : BX X Γ e te (rpF c a)) : EX X T W Γx Γ e te (.ok ()) (fun _ => fz c a) (fun _ => Γ) := ⟨h.pe, fun Z G0 S σ G H Q k q => by
  obtain ⟨w, hw⟩ := h.ev Z G0 S σ G H k
  obtain ⟨p, t⟩ := hw Z G0 S G H k
  exact t Q (q w G H (k.pushf p))⟩
/-! ### dicts that are read -/
section
variable {κ β : Type} [DecidableEq κ] {kk : Kk κ} {c : Cod β} {xs : List (κ × β)} {o i : Expr} {td ty : TE} {pos : Pos} {α : Type} {m : Res α} {Rm : α → Sl} {Γm : α → Ctx} {a : α → κ}
theorem room_u {j : Nat} {A : Around} (h : Room j A) : A.units + 1 < cLine := hu_of h
theorem dat_ok {k : κ} {b : β} (h : dat xs k = .ok b) : dget xs k = some b := by
  unfold dat at h
  cases e : dget xs k with
  | none => rw [e] at h; cases h
  | some b' => rw [e] at h; exact congrArg some (Res.ok.inj h)
theorem dat_ne {k : κ} : ∀ e, dat xs k ≠ .exn e := fun e z => by
  unfold dat at z
  cases h : dget xs k with
  | none => rw [h] at z; cases z
  | some b' => rw [h] at z; cases z
/-- d[k] -/
theorem ex_dat {j : Nat} (hr : Room j X.A) (ho : BX X Γ o td (rpD kk c xs)) (hi : EX X T W Γx Γ i ty m Rm Γm) (hR : ∀ t, Rm t = fz kk.c (a t) := by exact fun _ => rfl) (hΓ : ∀ t, Γm t = Γ := by exact fun _ => rfl) (hs : NoSl i := by exact fun _ _ => rfl) :
    EX X T W Γx Γ (.Subscript o i pos) (tDGet td ty) (m.bind fun t => (dat xs (a t)).bind fun b => .ok (t, b)) (fun t => fz c t.2) (fun _ => Γ) := by
  obtain rfl : Rm = fun t => fz kk.c (a t) := funext hR
  obtain rfl : Γm = fun _ => Γ := funext hΓ
  refine ⟨pe_dget (room_u hr) ho.pe hi.pe hs, fun Z G0 S σ G H Q k q => ?_⟩
  obtain ⟨w, hw⟩ := ho.ev Z G0 S σ G H k
  refine (hw Z G0 S G H k).2 _ ?_
  refine hi.ev Z G0 S σ G H _ k (Res.wp_mono (Res.wp_bind q) (fun t q y G1 H1 k1 => ?_) fun _ z => z)
  obtain ⟨b, e, q3⟩ := wp_cases (Res.wp_bind q) dat_ne
  obtain ⟨⟨p, kvs, rfl, hp, hh⟩, _⟩ := hw _ _ _ _ _ k1.drop
  rcases tab_get (a t) hh with ⟨_, z⟩ | ⟨v, b', z1, z2, z3⟩
  · rw [dat_ok e] at z
    cases z
  · rw [dat_ok e] at z2
    cases z2
    have g := kk.get k1.ok.gh k1.tp hp
    rw [z1] at g
    exact ⟨p, v, rfl, g, q3 v G1 H1 (k1.drop.pushf z3)⟩
theorem din_ev {neg : Bool} (hi : EX X T W Γx Γ i ty m (fun t => fz kk.c (a t)) (fun _ => Γ)) (ho : BX X Γ o td (rpD kk c xs)) (Z G0 : Hp) (S : List Pl) (σ : St) (G H : Hp) (Q : VK) (k : Okc Z G0 S Γ σ G H)
    (q : m.wp (fun t => ∀ v G' H', Okc Z G0 ((some (sB (if neg then !dhas xs (a t) else dhas xs (a t))), some v) :: S) Γ σ G' H' → Q v H') (fun ex => ∀ cls d G' H', Okc Z G0 S Γx σ G' H' → T.rel ex cls d G' → W cls d σ H')) :
    ty σ H fun y H1 => td σ H1 fun x H2 => ∃ a o, x = .ref a ∧ DGet H2 a y o ∧ Q (.bl (if neg then !o.isSome else o.isSome)) H2 := by
  refine hi.ev Z G0 S σ G H _ k (Res.wp_mono q (fun t q y G1 H1 k1 => ?_) fun _ z => z)
  obtain ⟨w, hw⟩ := ho.ev _ _ _ _ _ _ k1.drop
  obtain ⟨⟨p, kvs, rfl, hp, hh⟩, t2⟩ := hw _ _ _ _ _ k1.drop
  refine t2 _ ?_
  have g := kk.get k1.ok.gh k1.tp hp
  have e : (valV kvs (a t)).isSome = dhas xs (a t) := by
    unfold dhas
    rcases tab_get (a t) hh with ⟨z1, z2⟩ | ⟨v, b', z1, z2, _⟩
    · rw [z1, z2]
      rfl
    · rw [z1, z2]
      rfl
  refine ⟨p, _, rfl, g, q _ G1 H1 (k1.drop.pushf (c := cBool) ?_)⟩
  rw [e]
  rfl
/-- k in d, as a value, as a test -/
theorem ex_din {j : Nat} (hr : Room j X.A) (hi : EX X T W Γx Γ i ty m Rm Γm) (ho : BX X Γ o td (rpD kk c xs)) (hR : ∀ t, Rm t = fz kk.c (a t) := by exact fun _ => rfl) (hΓ : ∀ t, Γm t = Γ := by exact fun _ => rfl) (hm : behindInMarks .In o = false := by rfl) :
    EX X T W Γx Γ (.Compare i [.In] [o] pos) (tDIn ty td) m (fun t => sB (dhas xs (a t))) (fun _ => Γ) := by
  obtain rfl : Rm = fun t => fz kk.c (a t) := funext hR
  obtain rfl : Γm = fun _ => Γ := funext hΓ
  exact ⟨pe_cmp (pc_din (room_u hr) hi.pe ho.pe) hm, din_ev (neg := false) hi ho⟩
theorem ex_dnin {j : Nat} (hr : Room j X.A) (hi : EX X T W Γx Γ i ty m Rm Γm) (ho : BX X Γ o td (rpD kk c xs)) (hR : ∀ t, Rm t = fz kk.c (a t) := by exact fun _ => rfl) (hΓ : ∀ t, Γm t = Γ := by exact fun _ => rfl) (hm : behindInMarks .NotIn o = false := by rfl) :
    EX X T W Γx Γ (.Compare i [.NotIn] [o] pos) (tDNotIn ty td) m (fun t => sB (!dhas xs (a t))) (fun _ => Γ) := by
  obtain rfl : Rm = fun t => fz kk.c (a t) := funext hR
  obtain rfl : Γm = fun _ => Γ := funext hΓ
  exact ⟨pe_cmp (pc_dnotin (room_u hr) hi.pe ho.pe) hm, din_ev (neg := true) hi ho⟩
/-- d.get(k, x) -/
theorem ex_dgetD {j : Nat} {f : Expr} {tx : TE} {apos : Pos} {γ : Type} {m2 : α → Res γ} {R2 : α → γ → Sl} {Γ2 : α → γ → Ctx} {x : α → γ → β} [Nonempty α] (hr : Room j X.A) (ho : BX X Γ o td (rpD kk c xs)) (hi : EX X T W Γx Γ i ty m Rm Γm) (hf : ∀ t, EX X T W Γx Γ f tx (m2 t) (R2 t) (Γ2 t))
    (hR : ∀ t, Rm t = fz kk.c (a t) := by exact fun _ => rfl) (hΓ : ∀ t, Γm t = Γ := by exact fun _ => rfl) (hR2 : ∀ t u, R2 t u = fz c (x t u) := by exact fun _ _ => rfl) (hΓ2 : ∀ t u, Γ2 t u = Γ := by exact fun _ _ => rfl) (mm : M2 X o "get" apos i f pos := by exact ⟨rfl, rfl, rfl, rfl⟩) :
    EX X T W Γx Γ (.Call (.Attribute o "get" apos) [i, f] [] pos) (tDGet2 td ty tx) (m.bind fun t => (m2 t).bind fun u => .ok (t, u)) (fun t => fz c (dgetD xs (a t.1) (x t.1 t.2))) (fun _ => Γ) := by
  obtain rfl : Rm = fun t => fz kk.c (a t) := funext hR
  obtain rfl : Γm = fun _ => Γ := funext hΓ
  obtain rfl : R2 = fun t u => fz c (x t u) := funext fun t => funext (hR2 t)
  obtain rfl : Γ2 = fun _ _ => Γ := funext fun t => funext (hΓ2 t)
  obtain ⟨t0⟩ := ‹Nonempty α›
  refine ⟨pe_dget2 (room_u hr) ho.pe hi.pe (hf t0).pe mm, fun Z G0 S σ G H Q k q => ?_⟩
  obtain ⟨w, hw⟩ := ho.ev Z G0 S σ G H k
  obtain ⟨⟨p, kvs0, rfl, hp0, _⟩, t2⟩ := hw Z G0 S G H k
  refine t2 _ ⟨p, rfl, kk.isD hp0, ?_⟩
  refine hi.ev Z G0 S σ G H _ k (Res.wp_mono (Res.wp_bind q) (fun t q y G1 H1 k1 => ?_) fun _ z => z)
  refine (hf t).ev Z G0 _ σ G1 H1 _ k1 (Res.wp_mono (Res.wp_bind q) (fun u q z G2 H2 k2 => ?_) fun ex q cls d G' H' k' => q cls d G' H' k'.drop)
  obtain ⟨⟨p', kvs, e', hp, hh⟩, _⟩ := hw _ _ _ _ _ k2.drop.drop
  cases e'
  have g := kk.get k2.ok.gh k2.drop.tp hp
  refine ⟨_, g, q _ G2 H2 (k2.drop.drop.pushf ?_)⟩
  unfold dgetD
  rcases tab_get (a t) hh with ⟨z1, z2⟩ | ⟨v, b', z1, z2, z3⟩
  · rw [z1, z2]
    exact k2.tp
  · rw [z1, z2]
    exact z3
end
/-! ### dicts that are made and changed -/
section
variable {κ β : Type} [DecidableEq κ]
theorem ex_dnewT {α : Type} [DecidableEq α] {d : Cods α} {f : α → List Key} (h : Kt d f) {c : Cod β} {pos : Pos} : EX X T W Γx Γ (.Dict [] [] pos) tDNewT (.ok ()) (fun _ => od (kTup K h) c []) (fun _ => Γ) :=
  ⟨pe_dnewT, fun Z G0 S σ G H Q k q p hp => q (.ref p) G _ ⟨k.len, k.ok.layOwn (s := od (kTup K h) c []) hp ⟨p, [], rfl, rfl, upd_same, .nil⟩⟩⟩
theorem ex_dnewI {c : Cod β} {pos : Pos} : EX X T W Γx Γ (.Dict [] [] pos) tDNewK (.ok ()) (fun _ => od kInt c []) (fun _ => Γ) :=
  ⟨pe_dnewK, fun Z G0 S σ G H Q k q p hp => q (.ref p) G _ ⟨k.len, k.ok.layOwn (s := od kInt c []) hp ⟨p, [], rfl, rfl, upd_same, .nil⟩⟩⟩
theorem dput_ok {xs ys : List (κ × β)} {k : κ} {b : β} (h : dputR xs k b = .ok ys) : xs.length < R.line ∧ ys = dput xs k b := by
  obtain ⟨h1, h2⟩ := chk_ok h
  cases h2
  exact ⟨of_decide_eq_true h1, rfl⟩
theorem dput_ne {xs : List (κ × β)} {k : κ} {b : β} : ∀ e, dputR xs k b ≠ .exn e := chk_ne ok_ne
/-- an owned dict on top is changed -/
theorem Okl.putD {Z G0 G H : Hp} {l : List Pl} {kk : Kk κ} {c : Cod β} {xs : List (κ × β)} {v w : V} {k : κ} {b : β} (h : Okl Z G0 ((some (od kk c xs), some v) :: l) G H) (hw : c.rel G w b) :
    ∃ p kvs, v = .ref p ∧ H p = some (kk.ho kvs) ∧ kvs.length = xs.length ∧ Okl Z G0 ((some (od kk c (dput xs k b)), some v) :: l) G (upd H p (kk.ho (putK kvs k w))) := by
  obtain ⟨ps, ⟨p1, p2, _, ⟨v', e1, p, kvs, e2, e3, h3, hp⟩, _⟩, _, _⟩ := h.own
  cases e1
  cases e2
  refine ⟨p, kvs, rfl, h3, hp.length, h.write (p := p) (fun v ps e r => ?_) ⟨p, _, rfl, rfl, upd_same, tab_put k hw hp⟩⟩
  obtain ⟨p', _, e2, e4, _⟩ := r
  cases e
  cases e2
  exact e4
/-- d[k] = v, d in a slot -/
theorem s1_dput {n : Nat} {x : Str} {i e : Expr} {ty te : TE} {p1 p2 pos : Pos} {kk : Kk κ} {c : Cod β} {xs : List (κ × β)} {α γ : Type} [Nonempty α] {m1 : Res α} {R1 : α → Sl} {Γ1 : α → Ctx} {b : α → β} {m2 : α → Res γ} {R2 : α → γ → Sl} {Γ2 : α → γ → Ctx} {a : α → γ → κ} {mn : Res (List (κ × β))} {j : Nat} (hr : Room j X.A)
    (he : EX X T W Γx Γ e te m1 R1 Γ1) (hi : ∀ t, EX X T W Γx Γ i ty (m2 t) (R2 t) (Γ2 t)) (hR : ∀ t, R1 t = fz c (b t) := by exact fun _ => rfl) (hΓ : ∀ t, Γ1 t = Γ := by exact fun _ => rfl) (hR2 : ∀ t u, R2 t u = fz kk.c (a t u) := by exact fun _ _ => rfl) (hΓ2 : ∀ t u, Γ2 t u = Γ := by exact fun _ _ => rfl)
    (h : Γ[n]? = some (some (od kk c xs)) := by rfl) (hN : X.N[n]? = some x := by rfl) (hv : Vis X.env.scope x := by first | exact Or.inl rfl | exact Or.inr (Or.inl rfl) | exact Or.inr (Or.inr rfl)) (hd : (x == ("__debug__" : Str)) = false := by decide) (hcd : (x == ("__classdict__" : Str)) = false := by decide)
    (hb : Bd mn (m1.bind fun t => (m2 t).bind fun u => (dputR xs (a t u) (b t)).bind fun ys => .ok (t, u, ys)) (fun t => .ok t.2.2) := by intros; repeat (first | ((with_reducible refine Bd.done ?_); exact rfl) | with_reducible refine Bd.okl ?_ | with_reducible refine Bd.assoc ?_ | with_reducible refine Bd.bind fun _ => ?_ | with_reducible refine Bd.eta fun _ => ?_ | with_reducible refine Bd.iteB ?_ ?_ fun _ => ?_ | with_reducible refine Bd.iteE ?_ ?_ fun _ => ?_ | with_reducible refine Bd.ite ?_ ?_ | with_reducible refine Bd.iteL ?_ ?_ | with_reducible refine Bd.assocL ?_ | with_reducible refine Bd.oklL ?_ | with_reducible exact Bd.same | with_reducible exact Bd.at | dsimp only))
    (hs : swapsWith e (some (.Subscript (.Name x p1) i p2)) pos.line X.env = pure false := by rfl) :
    S1 X T W Γx Γ (.Assign [.Subscript (.Name x p1) i p2] e pos) (sDPut (tVar n) ty te) mn (fun ys => .nx (Γ.set n (some (od kk c ys)))) := by
  obtain rfl : R1 = fun t => fz c (b t) := funext hR
  obtain rfl : Γ1 = fun _ => Γ := funext hΓ
  obtain rfl : R2 = fun t u => fz kk.c (a t u) := funext fun t => funext (hR2 t)
  obtain rfl : Γ2 = fun _ _ => Γ := funext fun t => funext (hΓ2 t)
  obtain ⟨t0⟩ := ‹Nonempty α›
  refine ⟨ps_dput (room_u hr) (pv n hN hv hd hcd) (hi t0).pe he.pe hs, fun Z G0 S σ G H D k q => ?_⟩
  refine he.ev Z G0 S σ G H _ k (Res.wp_mono (Res.wp_bind (hb _ _ q)) (fun t q v G1 H1 k1 => ?_) fun ex q cls d G' H' k' => q cls d σ G' H' k')
  obtain ⟨w, _, hw, _, _⟩ := k1.drop.take h
  refine ⟨w, hw, ?_⟩
  refine (hi t).ev Z G0 _ σ G1 H1 _ k1 (Res.wp_mono (Res.wp_bind q) (fun u q y G2 H2 k2 => ?_) fun ex q cls d G' H' k' => q cls d σ G' H' k'.drop)
  obtain ⟨ys, e, q3⟩ := wp_cases (Res.wp_bind q) dput_ne
  obtain ⟨hl, rfl⟩ := dput_ok e
  have hy := k2.tp
  have hv2 := k2.drop.tp
  obtain ⟨w', l, hw', k3, back⟩ := k2.drop.drop.take h
  rw [hw] at hw'
  cases hw'
  obtain ⟨p, kvs, rfl, hp, hlen, k4⟩ := k3.putD (k := a t u) (b := b t) hv2
  exact ⟨p, _, rfl, kk.put k2.ok.gh hy hp (by rw [hlen, ← line_eq]; exact hl), q3 σ G2 _ (back _ _ _ k4)⟩
/-- an owned dict is frozen from here on -/
theorem SX.icyD {sts : List Stmt} {ts : TS} {α : Type} {m : Res α} {I : α → Out} {kk : Kk κ} {c : Cod β} {xs : List (κ × β)} (i : Nat) (h : Γ[i]? = some (some (od kk c xs))) (hs : SX X T W Γx (Γ.set i (some (fz (cDt kk c) xs))) sts ts m I) : SX X T W Γx Γ sts ts m I :=
  ⟨hs.ps, fun Z G0 S σ G H D k q => by
    obtain ⟨v, l, hw, k1, back⟩ := k.take h
    obtain ⟨G', k2⟩ := k1.icyD
    exact hs.ev Z G0 S σ G' H D (back _ _ _ k2) q⟩
theorem EX.icyD {e : Expr} {te : TE} {α : Type} {m : Res α} {kk : Kk κ} {c : Cod β} {xs : α → List (κ × β)} {Γo : α → Ctx} (h : EX X T W Γx Γ e te m (fun a => od kk c (xs a)) Γo) : EX X T W Γx Γ e te m (fun a => fz (cDt kk c) (xs a)) Γo :=
  ⟨h.pe, fun Z G0 S σ G H Q k q => h.ev Z G0 S σ G H Q k (Res.wp_mono q (fun a q v G' H' k' => by
    obtain ⟨G2, k2⟩ := Okl.icyD k'.of
    exact q v G2 H' ⟨k'.len, k2⟩) fun _ z => z)⟩
end
end
end Rt
/-! Rt41: objects that change: what their fields hold is owned with them. -/
namespace Rt
open PySem L2 R
abbrev FsS := List (Str × Sl)
/-- the fields and what they hold -/
def flS : FsS → List (Str × V) → List Pl
  | x :: l, f :: fs => (some x.2, some f.2) :: flS l fs
  | _, _ => []
/-- an object at p whose fields have the values fs -/
def oobV (C p dx : Addr) (fs : List (Str × V)) (l : FsS) : Sl := ⟨fun G H v ps => v = .ref p ∧ fs.map (·.1) = l.map (·.1) ∧ ∃ qs, ps = p :: qs ∧ H p = some (.ins C dx fs) ∧ All G H (flS l fs) qs, fun h e k => by
  obtain ⟨h1, h2, qs, h3, h4, h5⟩ := h
  refine ⟨h1, h2, qs, h3, ?_, h5.mono e fun p hp => k p (by rw [h3]; exact List.mem_cons_of_mem _ hp)⟩
  rw [k _ (by rw [h3]; exact List.mem_cons_self)]
  exact h4⟩
/-- an object -/
def oob (C : Addr) (l : FsS) : Sl := ⟨fun G H v ps => ∃ p dx fs, (oobV C p dx fs l).rel G H v ps, fun h e k => by
  obtain ⟨p, dx, fs, h1⟩ := h
  exact ⟨p, dx, fs, (oobV C p dx fs l).mono h1 e k⟩⟩
/-- what is told of fields -/
abbrev FsP := List (Str × Rp)
def rpV (C p dx : Addr) (fs : List (Str × V)) (l : FsP) : Rp := fun G H v => v = .ref p ∧ H p = some (.ins C dx fs) ∧ Paired (fun f x => f.1 = x.1 ∧ x.2 G H f.2) fs l
def FsRd (l : FsS) (m : FsP) : Prop := Paired (fun x y => x.1 = y.1 ∧ Rds x.2 y.2) l m
theorem fr_nil : FsRd [] [] := .nil
theorem fr_cons {n : Str} {s : Sl} {P : Rp} {l : FsS} {m : FsP} (h : Rds s P) (r : FsRd l m) : FsRd ((n, s) :: l) ((n, P) :: m) := .cons ⟨rfl, h⟩ r
theorem fs_told {G H : Hp} (e : Ex G H) : ∀ {l : FsS} {m : FsP} {fs : List (Str × V)} {qs : List Addr}, FsRd l m → fs.map (·.1) = l.map (·.1) → All G H (flS l fs) qs → Paired (fun f (x : Str × Rp) => f.1 = x.1 ∧ x.2 G H f.2) fs m
  | _, _, [], _, .nil, _, _ => .nil
  | _, _, f :: fs, _, .nil, h, _ => by cases h
  | _, _, [], _, .cons _ _, h, _ => by cases h
  | _, _, f :: fs, _, .cons r t, h, a => by
    obtain ⟨q1, q2, _, ⟨v, e1, a1⟩, a2⟩ := a
    cases e1
    rw [List.map_cons, List.map_cons] at h
    injection h with h1 h2
    exact .cons ⟨h1.trans r.1, r.2 G H _ _ e a1⟩ (fs_told e t h2 a2)
theorem rds_oobV {C p dx : Addr} {fs : List (Str × V)} {l : FsS} {m : FsP} (h : FsRd l m) : Rds (oobV C p dx fs l) (rpV C p dx fs m) := fun G H v ps e ⟨h1, h2, qs, h3, h4, h5⟩ => ⟨h1, h4, fs_told e h h2 h5⟩
theorem fp_lookup {G H : Hp} {n : Str} {P : Rp} : ∀ {fs : List (Str × V)} {l : FsP}, Paired (fun f (x : Str × Rp) => f.1 = x.1 ∧ x.2 G H f.2) fs l → l.lookup n = some P → ∃ v, fs.lookup n = some v ∧ P G H v
  | _, _, .nil, h => by cases h
  | (g, v) :: fs, (g', x) :: l, .cons r t, h => by
    obtain ⟨rfl, r2⟩ : g = g' ∧ x G H v := r
    rw [List.lookup_cons] at h
    rw [List.lookup_cons]
    cases e : n == g with
    | true =>
      rw [e] at h
      cases h
      exact ⟨v, rfl, r2⟩
    | false =>
      rw [e] at h
      exact fp_lookup t h
theorem fp_none {G H : Hp} {n : Str} : ∀ {fs : List (Str × V)} {l : FsP}, Paired (fun f (x : Str × Rp) => f.1 = x.1 ∧ x.2 G H f.2) fs l → l.lookup n = none → fs.lookup n = none
  | _, _, .nil, _ => rfl
  | (g, v) :: fs, (g', x) :: l, .cons r t, h => by
    obtain ⟨rfl, r2⟩ : g = g' ∧ x G H v := r
    rw [List.lookup_cons] at h
    rw [List.lookup_cons]
    cases e : n == g with
    | true => rw [e] at h; cases h
    | false =>
      rw [e] at h
      exact fp_none t h
section
variable {X : Cx} {T : XT} {W : WX} {Γx Γ : Ctx} {K : PySem.W.Frag}
/-- o.n, a path -/
theorem bx_fld {o : Expr} {to : TE} {n : Str} {pos : Pos} {C p dx : Addr} {fs : List (Str × V)} {l : FsP} {P : Rp} (h : BX X Γ o to (rpV C p dx fs l)) (cl : Cls K C) (na : NoAttr K C n) (hf : l.lookup n = some P := by rfl) (hK : X.K = K := by rfl)
    (hb : attributeBase o n X.env (eval o X.env) = eval o X.env := by rfl) : BX X Γ (.Attribute o n pos) (tFld K to n) P := by
  subst hK
  refine ⟨pe_fld h.pe hb, fun Z G0 S σ G H k => ?_⟩
  obtain ⟨w, hw⟩ := h.ev Z G0 S σ G H k
  obtain ⟨⟨_, _, hr⟩, _⟩ := hw _ _ _ _ _ k
  obtain ⟨u, hu, _⟩ := fp_lookup hr hf
  refine ⟨u, fun Z G0 S G H k => ?_⟩
  obtain ⟨⟨rfl, hp, hr⟩, t⟩ := hw _ _ _ _ _ k
  obtain ⟨u', hu', hP⟩ := fp_lookup hr hf
  rw [hu] at hu'
  cases hu'
  exact ⟨hP, fun Q q => t _ ⟨p, C, dx, fs, u, rfl, hp, cl, na, hu, q⟩⟩
/-! ### from here on its fields are known -/
theorem okc_open {Z G0 G H : Hp} {S : List Pl} {σ : St} {C : Addr} {l : FsS} {i : Nat} (k : Okc Z G0 S Γ σ G H) (h : Γ[i]? = some (some (oob C l))) : ∃ p dx fs, Okc Z G0 S (Γ.set i (some (oobV C p dx fs l))) σ G H := by
  obtain ⟨v, M, hw, k1, back⟩ := k.take h
  obtain ⟨ps, ⟨p1, p2, hps, ⟨v', e1, p, dx, fs, r⟩, h4⟩, h2, h3⟩ := k1.own
  cases e1
  exact ⟨p, dx, fs, back _ _ _ ⟨k1.zh, k1.gg, k1.gh, k1.fr, ps, ⟨p1, p2, hps, ⟨v, rfl, r⟩, h4⟩, h2, h3⟩⟩
theorem SX.open {sts : List Stmt} {ts : TS} {α : Type} {m : Res α} {I : α → Out} {C : Addr} {l : FsS} (i : Nat) (h : Γ[i]? = some (some (oob C l))) (hs : ∀ p dx fs, SX X T W Γx (Γ.set i (some (oobV C p dx fs l))) sts ts m I) : SX X T W Γx Γ sts ts m I :=
  ⟨(hs 0 0 []).ps, fun Z G0 S σ G H D k q => by
    obtain ⟨p, dx, fs, k1⟩ := okc_open k h
    exact (hs p dx fs).ev Z G0 S σ G H D k1 q⟩
theorem okc_openP {Z G0 G H : Hp} {S : List Pl} {σ : St} {C p : Addr} {l : FsS} {i : Nat} (k : Okc Z G0 S Γ σ G H) (h : Γ[i]? = some (some (atP p (oob C l)))) : ∃ dx fs, Okc Z G0 S (Γ.set i (some (oobV C p dx fs l))) σ G H := by
  obtain ⟨v, M, hw, k1, back⟩ := k.take h
  obtain ⟨ps, ⟨p1, p2, hps, ⟨v', e1, e3, p', dx, fs, r⟩, h4⟩, h2, h3⟩ := k1.own
  cases e1
  cases e3
  obtain rfl : p = p' := V.ref.inj r.1
  exact ⟨dx, fs, back _ _ _ ⟨k1.zh, k1.gg, k1.gh, k1.fr, ps, ⟨p1, p2, hps, ⟨_, rfl, r⟩, h4⟩, h2, h3⟩⟩
theorem SX.openP {sts : List Stmt} {ts : TS} {α : Type} {m : Res α} {I : α → Out} {C p : Addr} {l : FsS} (i : Nat) (h : Γ[i]? = some (some (atP p (oob C l)))) (hs : ∀ dx fs, SX X T W Γx (Γ.set i (some (oobV C p dx fs l))) sts ts m I) : SX X T W Γx Γ sts ts m I :=
  ⟨(hs 0 []).ps, fun Z G0 S σ G H D k q => by
    obtain ⟨dx, fs, k1⟩ := okc_openP k h
    exact (hs dx fs).ev Z G0 S σ G H D k1 q⟩
theorem EX.clo {e : Expr} {te : TE} {α : Type} {m : Res α} {C p dx : Addr} {fs : List (Str × V)} {l : α → FsS} {Γo : α → Ctx} (h : EX X T W Γx Γ e te m (fun a => oobV C p dx fs (l a)) Γo) : EX X T W Γx Γ e te m (fun a => oob C (l a)) Γo := h.conv fun _ _ _ _ _ r => ⟨p, dx, fs, r⟩
theorem EX.unp {e : Expr} {te : TE} {α : Type} {m : Res α} {C p : Addr} {l : α → FsS} {Γo : α → Ctx} (h : EX X T W Γx Γ e te m (fun a => atP p (oob C (l a))) Γo) : EX X T W Γx Γ e te m (fun a => oob C (l a)) Γo := h.conv fun _ _ _ _ _ r => r.2
/-! ### weakening, place by place -/
theorem wkn : Wk [] [] := Wk.refl _
theorem wkk {o : Option Sl} {Γ Δ : Ctx} (w : Wk Γ Δ) : Wk (o :: Γ) (o :: Δ) := w.cons
theorem wkd {o : Option Sl} {Γ Δ : Ctx} (w : Wk Γ Δ) : Wk (o :: Γ) (none :: Δ) := w.none1
theorem Wk.sl {s s' : Sl} {Γ Δ : Ctx} (h : ∀ G H v ps, s.rel G H v ps → s'.rel G H v ps) (w : Wk Γ Δ) : Wk (some s :: Γ) (some s' :: Δ) := (w.cons (o := some s)).trans fun Z G0 S σ G H k => by
  obtain ⟨v, M, hw, k1, back⟩ := k.take (i := 0) (s := s) rfl
  exact back s' G H (k1.re fun ps r => h _ _ _ _ r)
/-- its fields are forgotten -/
theorem wkc {C p dx : Addr} {fs : List (Str × V)} {l : FsS} {Γ Δ : Ctx} (w : Wk Γ Δ) : Wk (some (oobV C p dx fs l) :: Γ) (some (oob C l) :: Δ) := w.sl fun _ _ _ _ r => ⟨p, dx, fs, r⟩
/-- .. but its place -/
theorem wkp {C p dx : Addr} {fs : List (Str × V)} {l : FsS} {Γ Δ : Ctx} (w : Wk Γ Δ) : Wk (some (oobV C p dx fs l) :: Γ) (some (atP p (oob C l)) :: Δ) := w.sl fun _ _ _ _ r => ⟨r.1, p, dx, fs, r⟩
theorem wku {C p : Addr} {l : FsS} {Γ Δ : Ctx} (w : Wk Γ Δ) : Wk (some (atP p (oob C l)) :: Γ) (some (oob C l) :: Δ) := w.sl fun _ _ _ _ r => r.2
/-! ### stores -/
/-- a field holds something else -/
def putL (n : Str) (s : Sl) : FsS → FsS
  | [] => [(n, s)]
  | (g, x) :: r => if g = n then (g, s) :: r else (g, x) :: putL n s r
theorem fl_names {n : Str} {s : Sl} {v : V} : ∀ {fs : List (Str × V)} {l : FsS}, fs.map (·.1) = l.map (·.1) → (putF n v fs).map (·.1) = (putL n s l).map (·.1)
  | [], [], _ => rfl
  | [], _ :: _, h => by cases h
  | _ :: _, [], h => by cases h
  | (g, w) :: fs, (g', x) :: l, h => by
    rw [List.map_cons, List.map_cons] at h
    injection h with h1 h2
    have h1' : g = g' := h1
    subst h1'
    unfold putF putL
    by_cases z : g = n
    · rw [if_pos z, if_pos z, List.map_cons, List.map_cons, h2]
    · rw [if_neg z, if_neg z, List.map_cons, List.map_cons, fl_names h2]
theorem all_put {G H : Hp} {n : Str} {s : Sl} {w : V} : ∀ {fs : List (Str × V)} {l : FsS} {qs : List Addr}, fs.map (·.1) = l.map (·.1) → All G H ((some s, some w) :: flS l fs) qs → ∃ qs' r, qs.Perm (qs' ++ r) ∧ All G H (flS (putL n s l) (putF n w fs)) qs'
  | [], [], qs, _, a => ⟨qs, [], by rw [List.append_nil], a⟩
  | [], _ :: _, _, h, _ => by cases h
  | _ :: _, [], _, h, _ => by cases h
  | (g, u) :: fs, (g', x) :: l, qs, h, a => by
    rw [List.map_cons, List.map_cons] at h
    injection h with h1 h2
    have h1' : g = g' := h1
    subst h1'
    obtain ⟨q1, q23, rfl, a1, q2, q3, rfl, a2, a3⟩ := a
    unfold putF putL
    by_cases z : g = n
    · rw [if_pos z, if_pos z]
      refine ⟨q1 ++ q3, q2, ?_, q1, q3, rfl, a1, a3⟩
      rw [List.append_assoc]
      exact List.Perm.append_left _ List.perm_append_comm
    · rw [if_neg z, if_neg z]
      obtain ⟨qs', r, pr, b⟩ := all_put (n := n) h2 (show All G H ((some s, some w) :: flS l fs) (q1 ++ q3) from ⟨q1, q3, rfl, a1, a3⟩)
      refine ⟨q2 ++ qs', r, ?_, q2, qs', rfl, a2, b⟩
      rw [List.append_assoc]
      refine List.Perm.trans ?_ (List.Perm.append_left q2 pr)
      rw [← List.append_assoc, ← List.append_assoc]
      exact List.Perm.append_right _ List.perm_append_comm
/-- o.n = w, the old thing let go -/
theorem Okl.fput {Z G0 G H : Hp} {M : List Pl} {C p dx : Addr} {fs : List (Str × V)} {l : FsS} {v w : V} {s : Sl} {n : Str} (k : Okl Z G0 ((some s, some w) :: (some (oobV C p dx fs l), some v) :: M) G H) :
    v = .ref p ∧ H p = some (.ins C dx fs) ∧ fs.map (·.1) = l.map (·.1) ∧ Okl Z G0 ((some (oobV C p dx (putF n w fs) (putL n s l)), some v) :: M) G (upd H p (.ins C dx (putF n w fs))) := by
  obtain ⟨ps, ⟨p1, p23, rfl, ⟨w', e1, r1⟩, p2, p3, rfl, ⟨v', e2, rfl, hn, qs, rfl, hp, ha⟩, a3⟩, nd, h3⟩ := k.own
  cases e1
  cases e2
  obtain ⟨qs', r, pr, b⟩ := all_put (n := n) (s := s) (w := w) hn (show All G H ((some s, some w) :: flS l fs) (p1 ++ qs) from ⟨p1, qs, rfl, ⟨w, rfl, r1⟩, ha⟩)
  -- the place itself is none of the others
  have pm : (p1 ++ (p :: qs ++ p3)).Perm (p :: (qs' ++ (r ++ p3))) := by
    refine List.Perm.trans (List.perm_middle) (List.Perm.cons _ ?_)
    show (p1 ++ (qs ++ p3)).Perm _
    rw [← List.append_assoc, ← List.append_assoc]
    exact List.Perm.append_right _ pr
  have nd2 := pm.nodup_iff.mp nd
  have np : p ∉ qs' ++ (r ++ p3) := (List.nodup_cons.mp nd2).1
  have sub : ∀ q, q ∈ p :: (qs' ++ (r ++ p3)) → Z q = none ∧ G q = none ∧ ∃ o, H q = some o := fun q hq => h3 q (pm.mem_iff.mpr hq)
  obtain ⟨zp, gp, _⟩ := sub p List.mem_cons_self
  have ne : ∀ q, q ∈ qs' ++ (r ++ p3) → q ≠ p := fun q hq z => np (z ▸ hq)
  refine ⟨rfl, hp, hn, fun a x e => ?_, k.gg, fun a x e => ?_, k.fr, (p :: qs') ++ p3, ⟨p :: qs', p3, rfl, ⟨.ref p, rfl, rfl, fl_names hn, qs', rfl, upd_same, b.mono (Evl.Ex.refl G) fun q hq => upd_ne (ne q (List.mem_append_left _ hq))⟩, a3.mono (Evl.Ex.refl G) fun q hq => upd_ne (ne q (List.mem_append_right _ (List.mem_append_right _ hq)))⟩, ?_, fun q hq => ?_⟩
  · rw [upd_ne (ne_of_none e zp)]
    exact k.zh a x e
  · rw [upd_ne (ne_of_none e gp)]
    exact k.gh a x e
  · have s1 : (p :: (qs' ++ p3)).Sublist (p :: (qs' ++ (r ++ p3))) := List.Sublist.cons₂ _ (List.Sublist.append (List.Sublist.refl _) (List.sublist_append_right _ _))
    exact nd2.sublist s1
  · have hq' : q ∈ p :: (qs' ++ (r ++ p3)) := by
      rcases List.mem_append.mp hq with z | z
      · rcases List.mem_cons.mp z with rfl | z
        · exact List.mem_cons_self
        · exact List.mem_cons_of_mem _ (List.mem_append_left _ z)
      · exact List.mem_cons_of_mem _ (List.mem_append_right _ (List.mem_append_right _ z))
    obtain ⟨a, b, o, ho⟩ := sub q hq'
    refine ⟨a, b, ?_⟩
    by_cases e : q = p
    · subst e
      exact ⟨_, upd_same⟩
    · exact ⟨o, by rw [upd_ne e]; exact ho⟩
/-- only its value is known -/
def hole (w : V) : Sl := ⟨fun _ _ v ps => v = w ∧ ps = [], fun h _ _ => h⟩
theorem all_focus {G H : Hp} {n : Str} {s : Sl} {w : V} : ∀ {fs : List (Str × V)} {l : FsS} {qs : List Addr}, fs.map (·.1) = l.map (·.1) → l.lookup n = some s → fs.lookup n = some w → All G H (flS l fs) qs → ∃ q1 q2, qs.Perm (q1 ++ q2) ∧ s.rel G H w q1 ∧ All G H (flS (putL n (hole w) l) fs) q2
  | [], [], _, _, h, _, _ => by cases h
  | [], _ :: _, _, h, _, _, _ => by cases h
  | _ :: _, [], _, h, _, _, _ => by cases h
  | (g, u) :: fs, (g', x) :: l, qs, h, hl, hf, a => by
    rw [List.map_cons, List.map_cons] at h
    injection h with h1 h2
    have h1' : g = g' := h1
    subst h1'
    obtain ⟨q2, q3, rfl, a2, a3⟩ := a
    rw [List.lookup_cons] at hl hf
    unfold putL
    by_cases z : g = n
    · subst z
      rw [beq_self_eq_true] at hl hf
      cases hl
      cases hf
      rw [if_pos rfl]
      obtain ⟨u', e, r⟩ := a2
      cases e
      exact ⟨q2, q3, .refl _, r, [], q3, rfl, ⟨_, rfl, rfl, rfl⟩, a3⟩
    · have e : (n == g) = false := by
        rw [beq_eq_false_iff_ne]
        exact fun y => z y.symm
      rw [e] at hl hf
      rw [if_neg z]
      obtain ⟨q1, q4, pr, r, b⟩ := all_focus (n := n) h2 hl hf a3
      refine ⟨q1, q2 ++ q4, ?_, r, q2, q4, rfl, a2, b⟩
      refine (List.Perm.append_left q2 pr).trans ?_
      rw [← List.append_assoc, ← List.append_assoc]
      exact List.Perm.append_right _ List.perm_append_comm
theorem all_unfocus {G H : Hp} {n : Str} {s : Sl} {w : V} {q1 : List Addr} (hs : s.rel G H w q1) : ∀ {fs : List (Str × V)} {l : FsS} {q2 : List Addr}, fs.map (·.1) = l.map (·.1) → fs.lookup n = some w → All G H (flS (putL n (hole w) l) fs) q2 → ∃ qs, (q1 ++ q2).Perm qs ∧ All G H (flS (putL n s l) fs) qs
  | [], _, _, _, h, _ => by cases h
  | _ :: _, [], _, h, _, _ => by cases h
  | (g, u) :: fs, (g', x) :: l, q2, h, hf, a => by
    rw [List.map_cons, List.map_cons] at h
    injection h with h1 h2
    have h1' : g = g' := h1
    subst h1'
    rw [List.lookup_cons] at hf
    unfold putL at a ⊢
    by_cases z : g = n
    · subst z
      rw [beq_self_eq_true] at hf
      cases hf
      rw [if_pos rfl] at a ⊢
      obtain ⟨q3, q4, rfl, ⟨u', e, r1, r2⟩, a2⟩ := a
      cases e
      subst r2
      exact ⟨q1 ++ q4, .refl _, q1, q4, rfl, ⟨_, rfl, hs⟩, a2⟩
    · have e : (n == g) = false := by
        rw [beq_eq_false_iff_ne]
        exact fun y => z y.symm
      rw [e] at hf
      rw [if_neg z] at a ⊢
      obtain ⟨q3, q4, rfl, a1, a2⟩ := a
      obtain ⟨qs, pr, b⟩ := all_unfocus hs h2 hf a2
      refine ⟨q3 ++ qs, ?_, q3, qs, rfl, a1, b⟩
      refine List.Perm.trans ?_ (List.Perm.append_left q3 pr)
      rw [← List.append_assoc, ← List.append_assoc]
      exact List.Perm.append_right _ List.perm_append_comm
/-- a field comes on top; what is done to it -/
theorem Okl.focus {Z G0 G H : Hp} {M : List Pl} {C p dx : Addr} {fs : List (Str × V)} {l : FsS} {v : V} {s : Sl} {n : Str} (k : Okl Z G0 ((some (oobV C p dx fs l), some v) :: M) G H) (hl : l.lookup n = some s) :
    ∃ w, v = .ref p ∧ H p = some (.ins C dx fs) ∧ fs.lookup n = some w ∧ fs.map (·.1) = l.map (·.1) ∧ Okl Z G0 ((some s, some w) :: (some (oobV C p dx fs (putL n (hole w) l)), some v) :: M) G H := by
  obtain ⟨ps, ⟨p2, p3, rfl, ⟨v', e2, rfl, hn, qs, rfl, hp, ha⟩, a3⟩, nd, h3⟩ := k.own
  cases e2
  have hw : ∃ w, fs.lookup n = some w := by
    have : ∀ {fs : List (Str × V)} {l : FsS}, fs.map (·.1) = l.map (·.1) → l.lookup n = some s → ∃ w, fs.lookup n = some w := by
      intro fs
      induction fs with
      | nil =>
        intro l h hl
        cases l with
        | nil => cases hl
        | cons _ _ => cases h
      | cons f fs ih =>
        intro l h hl
        cases l with
        | nil => cases h
        | cons x l =>
          rw [List.map_cons, List.map_cons] at h
          injection h with h1 h2
          rw [List.lookup_cons] at hl ⊢
          rw [h1]
          cases e : n == x.1 with
          | true => exact ⟨f.2, rfl⟩
          | false =>
            rw [e] at hl
            exact ih h2 hl
    exact this hn hl
  obtain ⟨w, hw⟩ := hw
  obtain ⟨q1, q2, pr, r, b⟩ := all_focus hn hl hw ha
  have nm : ∀ l : FsS, l.lookup n = some s → (putL n (hole w) l).map (·.1) = l.map (·.1) := by
    intro l
    induction l with
    | nil => intro h; cases h
    | cons x l ih =>
      intro h
      unfold putL
      by_cases z : x.1 = n
      · rw [if_pos z]
        rfl
      · rw [if_neg z, List.map_cons, List.map_cons, ih]
        rw [List.lookup_cons] at h
        have e : (n == x.1) = false := by
          rw [beq_eq_false_iff_ne]
          exact fun y => z y.symm
        rw [e] at h
        exact h
  have pm : (p :: qs ++ p3).Perm (q1 ++ (p :: q2 ++ p3)) := by
    have a : (p :: qs ++ p3).Perm (p :: (q1 ++ q2) ++ p3) := List.Perm.append_right _ (List.Perm.cons _ pr)
    refine a.trans ?_
    show (p :: (q1 ++ q2 ++ p3)).Perm _
    rw [List.append_assoc]
    exact (List.perm_middle (l₁ := q1) (l₂ := q2 ++ p3)).symm
  exact ⟨w, rfl, hp, hw, hn, k.zh, k.gg, k.gh, k.fr, q1 ++ (p :: q2 ++ p3), ⟨q1, p :: q2 ++ p3, rfl, ⟨w, rfl, r⟩, p :: q2, p3, rfl, ⟨.ref p, rfl, rfl, by rw [nm l hl]; exact hn, q2, rfl, hp, b⟩, a3⟩, pm.nodup_iff.mp nd, fun q hq => h3 q (pm.mem_iff.mpr hq)⟩
theorem Okl.unfocus {Z G0 G H : Hp} {M : List Pl} {C p dx : Addr} {fs : List (Str × V)} {l : FsS} {v w : V} {s : Sl} {n : Str} (hn : fs.map (·.1) = l.map (·.1)) (hw : fs.lookup n = some w) (k : Okl Z G0 ((some s, some w) :: (some (oobV C p dx fs (putL n (hole w) l)), some v) :: M) G H) (hl : ((putL n s l).map (·.1)) = l.map (·.1)) :
    Okl Z G0 ((some (oobV C p dx fs (putL n s l)), some v) :: M) G H := by
  obtain ⟨ps, ⟨p1, p23, rfl, ⟨w', e1, r1⟩, p2, p3, rfl, ⟨v', e2, rfl, _, qs, rfl, hp, ha⟩, a3⟩, nd, h3⟩ := k.own
  cases e1
  cases e2
  obtain ⟨qs', pr, b⟩ := all_unfocus r1 hn hw ha
  have pm : (p1 ++ (p :: qs ++ p3)).Perm (p :: qs' ++ p3) := by
    refine List.Perm.trans (List.perm_middle) (List.Perm.cons _ ?_)
    show (p1 ++ (qs ++ p3)).Perm (qs' ++ p3)
    rw [← List.append_assoc]
    exact List.Perm.append_right _ pr
  exact ⟨k.zh, k.gg, k.gh, k.fr, p :: qs' ++ p3, ⟨p :: qs', p3, rfl, ⟨.ref p, rfl, rfl, by rw [hl]; exact hn, qs', rfl, hp, b⟩, a3⟩, pm.nodup_iff.mp nd, fun q hq => h3 q (pm.mem_iff.mpr hq)⟩
end
end Rt
/-! Rt42: defs to which things are lent: calls, methods, makers. -/
namespace Rt
open PySem L2 R
/-- a value that holds s is at p -/
def Pin (s : Sl) (p : Addr) : Prop := ∀ G H v ps, Ex G H → s.rel G H v ps → v = .ref p
theorem pin_at {p : Addr} {s : Sl} : Pin (atP p s) p := fun _ _ _ _ _ h => h.1
theorem pin_ob {C p dx : Addr} {fs : List (Str × V)} {l : FsS} : Pin (oobV C p dx fs l) p := fun _ _ _ _ _ h => h.1
theorem pin_ro {C p dx : Addr} {fs : List (Str × V)} {l : FsP} {s : Sl} (h : Rds s (rpV C p dx fs l)) : Pin s p := fun G H v ps e r => (h G H v ps e r).1
def PinL : List (Option Addr) → List (Option Sl) → Prop
  | some p :: P, some s :: A => Pin s p ∧ PinL P A
  | none :: P, _ :: A => PinL P A
  | [], [] => True
  | _, _ => False
/-- what is given back -/
def bk : List (Option Addr) → List (Option Sl) → List Pl
  | some p :: P, s :: A => (s, some (.ref p)) :: bk P A
  | none :: P, _ :: A => bk P A
  | _, _ => []
def spB {ξ ρ : Type} (n : Nat) (T : XT) (A : ξ → List (Option Sl)) (Pm : ξ → List (Option Addr)) (Pre : ξ → Prop) (f : ξ → Res ρ) (R : ξ → ρ → Sl) (B : ξ → ρ → List (Option Sl)) (Be : ξ → List (Option Sl)) : Sp := fun vs H Q E =>
  ∃ (x : ξ) (Z G0 G : Hp), vs.length = n ∧ (A x).length = n ∧ Pre x ∧ Okl Z G0 ((A x).zip (vs.map some)) G H ∧
  (f x).wp (fun r => ∀ v G' H', Okl Z G0 ((some (R x r), some v) :: bk (Pm x) (B x r)) G' H' → Q v H') (fun ex => ∀ cls d G' H', Okl Z G0 (bk (Pm x) (Be x)) G' H' → T.rel ex cls d G' → E cls d H')
/-- a promise for whatever is lent -/
def spX {γ : Sort _} (sp : γ → Sp) : Sp := fun vs H Q E => ∃ g, sp g vs H Q E
def SpI (s t : Sp) : Prop := ∀ vs H Q E, s vs H Q E → t vs H Q E
theorem spi_rf {s : Sp} : SpI s s := fun _ _ _ _ h => h
theorem spi_ex {γ : Sort _} {s : Sp} {t : γ → Sp} (g : γ) (h : SpI s (t g)) : SpI s (spX t) := fun vs H Q E q => ⟨g, h vs H Q E q⟩
theorem fnOk_ex {P : Program} {w : World} {K : PySem.W.Frag} {mg : Str → Option Value} {base : Heap} {CX : CXT} {k : Nat} {f : Addr} {fd : FuncData} {ps : List Str} {γ : Sort _} {sp : γ → Sp} (F : ∀ g, FnOk P w K mg base CX k f fd ps (sp g)) : FnOk P w K mg base CX k f fd ps (spX sp) :=
  ⟨fun vs H Q E ⟨g, q⟩ => (F g).len vs H Q E q, fun A outer s H args us vs Q E hr he hb hv ⟨g, hs⟩ => (F g).run A outer s H args us vs Q E hr he hb hv hs⟩
/-! ### arguments, some of them lent -/
/-- the lent ones are what the slots hold -/
def Lm : List (Option Nat) → St → List V → Prop
  | [], _, [] => True
  | none :: ls, σ, _ :: vs => Lm ls σ vs
  | some i :: ls, σ, v :: vs => σ[i]? = some (some v) ∧ Lm ls σ vs
  | _, _, _ => False
def Ln : List (Option Nat) → List (Option Sl) → Prop
  | [], [] => True
  | none :: ls, _ :: As => Ln ls As
  | some _ :: ls, a :: As => a = none ∧ Ln ls As
  | _, _ => False
structure LX (X : Cx) (T : XT) (W : WX) (Γx Γ : Ctx) (es : List Expr) (ta : TA) (ls : List (Option Nat)) {α : Type} (m : Res α) (As : α → List (Option Sl)) (Γo : α → Ctx) : Prop where
  pa : PA X es ta
  ln : ∀ a, Ln ls (As a)
  ev : ∀ (Z G0 : Hp) (S : List Pl) (σ : St) (G H : Hp) (Q : List V → Hp → Prop), Okc Z G0 S Γ σ G H →
    m.wp (fun a => ∀ vs G' H', (As a).length = vs.length → Lm ls σ vs → Okc Z G0 ((As a).zip (vs.map some) ++ S) (Γo a) σ G' H' → Q vs H') (fun ex => ∀ cls d G' H', Okc Z G0 S Γx σ G' H' → T.rel ex cls d G' → W cls d σ H') → ta σ H Q
def mvA : List (Option Nat) → Ctx → List (Option Sl) → List (Option Sl)
  | none :: ls, Γ, s :: As => s :: mvA ls Γ As
  | some i :: ls, Γ, _ :: As => Γ.getD i none :: mvA ls Γ As
  | _, _, As => As
def mvC : List (Option Nat) → Ctx → Ctx
  | none :: ls, Γ => mvC ls Γ
  | some i :: ls, Γ => (mvC ls Γ).set i none
  | [], Γ => Γ
def bkC : List (Option Nat) → List (Option Sl) → Ctx → Ctx
  | none :: ls, _ :: B, Γ => bkC ls B Γ
  | some i :: ls, b :: B, Γ => bkC ls B (Γ.set i b)
  | _, _, Γ => Γ
/-- the lent slots are told apart and there -/
def lsOk : List (Option Nat) → Nat → Bool
  | none :: ls, n => lsOk ls n
  | some i :: ls, n => decide (i < n) && (!ls.contains (some i) && lsOk ls n)
  | [], _ => true
theorem mvC_length : ∀ (ls : List (Option Nat)) (Γ : Ctx), (mvC ls Γ).length = Γ.length
  | [], _ => rfl
  | none :: ls, Γ => mvC_length ls Γ
  | some i :: ls, Γ => by unfold mvC; rw [List.length_set, mvC_length ls Γ]
theorem mvC_get : ∀ {ls : List (Option Nat)} {Γ : Ctx} {i : Nat}, ls.contains (some i) = false → (mvC ls Γ)[i]? = Γ[i]?
  | [], _, _, _ => rfl
  | none :: ls, Γ, i, h => by
    rw [List.contains_cons, Bool.or_eq_false_iff] at h
    exact mvC_get (ls := ls) h.2
  | some j :: ls, Γ, i, h => by
    rw [List.contains_cons, Bool.or_eq_false_iff] at h
    unfold mvC
    rw [List.getElem?_set, if_neg (fun e : j = i => by rw [e] at h; simp at h)]
    exact mvC_get h.2
theorem mv_ok {S : List Pl} {σ : St} {Γ : Ctx} (hl : Γ.length = σ.length) : ∀ {ls : List (Option Nat)} {vs : List V} {As : List (Option Sl)}, Lm ls σ vs → Ln ls As → lsOk ls Γ.length = true → ((As.zip (vs.map some)) ++ (S ++ Γ.zip σ)).Perm ((mvA ls Γ As).zip (vs.map some) ++ (S ++ (mvC ls Γ).zip σ))
  | [], [], [], _, _, _ => .refl _
  | [], _ :: _, _, h, _, _ => h.elim
  | [], [], _ :: _, _, h, _ => h.elim
  | none :: ls, [], _, h, _, _ => h.elim
  | none :: ls, _ :: _, [], _, h, _ => h.elim
  | none :: ls, v :: vs, a :: As, h, h2, h3 => List.Perm.cons _ (mv_ok (ls := ls) hl h h2 h3)
  | some i :: ls, [], _, h, _, _ => h.elim
  | some i :: ls, _ :: _, [], _, h, _ => h.elim
  | some i :: ls, v :: vs, a :: As, ⟨hv, h⟩, ⟨ha, h2⟩, h3 => by
    have h3' := h3
    unfold lsOk at h3'
    rw [Bool.and_eq_true, Bool.and_eq_true] at h3'
    obtain ⟨b1, b2, b3⟩ := h3'
    have b1 := of_decide_eq_true b1
    have b2 : ls.contains (some i) = false := by simpa using b2
    subst ha
    have ih := mv_ok (S := S) hl h h2 b3
    obtain ⟨o, ho⟩ : ∃ o, Γ[i]? = some o := ⟨Γ[i], List.getElem?_eq_getElem b1⟩
    have hg : (mvC ls Γ)[i]? = some o := (mvC_get b2).trans ho
    have hl' : (mvC ls Γ).length = σ.length := by rw [mvC_length, hl]
    obtain ⟨w, hw, hz⟩ := zip_get hl' hg
    rw [hv] at hw
    cases hw
    have p1 := perm_at hz
    have p2 := perm_set (y := (none, some v)) hz
    have e : σ = σ.set i (some v) := by
      refine List.ext_getElem? fun j => ?_
      rw [List.getElem?_set]
      by_cases q : i = j
      · subst q
        rw [if_pos rfl, if_pos (List.getElem?_eq_some_iff.mp hv).1, hv]
      · rw [if_neg q]
    have z := zip_set (Γ := mvC ls Γ) (σ := σ) (i := i) (o := none) (w := some v)
    rw [← e] at z
    have gd : Γ.getD i none = o := by rw [List.getD_eq_getElem?_getD, ho]; rfl
    show ((none, some v) :: (As.zip (vs.map some) ++ (S ++ Γ.zip σ))).Perm ((Γ.getD i none, some v) :: ((mvA ls Γ As).zip (vs.map some) ++ (S ++ ((mvC ls Γ).set i none).zip σ)))
    rw [gd, z]
    refine (List.Perm.cons _ ih).trans ?_
    have q1 : ((mvA ls Γ As).zip (vs.map some) ++ (S ++ (mvC ls Γ).zip σ)).Perm ((o, some v) :: ((mvA ls Γ As).zip (vs.map some) ++ (S ++ ((mvC ls Γ).zip σ).eraseIdx i))) := by
      rw [← List.append_assoc, ← List.append_assoc]
      exact (p1.append_left _).trans mid
    have q2 : ((mvA ls Γ As).zip (vs.map some) ++ (S ++ ((mvC ls Γ).zip σ).set i (none, some v))).Perm ((none, some v) :: ((mvA ls Γ As).zip (vs.map some) ++ (S ++ ((mvC ls Γ).zip σ).eraseIdx i))) := by
      rw [← List.append_assoc, ← List.append_assoc]
      exact (p2.append_left _).trans mid
    exact (List.Perm.cons _ q1).trans ((List.Perm.swap _ _ _).trans (List.Perm.cons _ q2.symm))
/-- the values of what is lent -/
def VsP : List (Option Addr) → List V → Prop
  | some p :: P, v :: vs => v = .ref p ∧ VsP P vs
  | none :: P, _ :: vs => VsP P vs
  | [], _ => True
  | _, [] => False
theorem vsP_of {Z G0 G H : Hp} {M : List Pl} : ∀ {P : List (Option Addr)} {A : List (Option Sl)} {vs : List V}, PinL P A → A.length = vs.length → Okl Z G0 (A.zip (vs.map some) ++ M) G H → VsP P vs
  | [], [], [], _, _, _ => trivial
  | [], _ :: _, _, h, _, _ => h.elim
  | [], [], _ :: _, _, h, _ => by cases h
  | none :: P, [], _, h, _, _ => h.elim
  | none :: P, _ :: A, [], _, h, _ => by cases h
  | none :: P, _ :: A, v :: vs, h, hl, k => vsP_of (P := P) h (Nat.succ.inj hl) k.drop
  | some p :: P, [], _, h, _, _ => h.elim
  | some p :: P, none :: A, _, h, _, _ => h.elim
  | some p :: P, some s :: A, [], _, h, _ => by cases h
  | some p :: P, some s :: A, v :: vs, ⟨h1, h2⟩, hl, k => by
    obtain ⟨ps, ⟨p1, p2, _, ⟨v', e, r⟩, _⟩, _, _⟩ := k.own
    cases e
    exact ⟨h1 _ _ _ _ k.gh r, vsP_of h2 (Nat.succ.inj hl) k.drop⟩
/-- lent and given back go together -/
def LsP : List (Option Nat) → List (Option Addr) → Bool
  | none :: ls, none :: P => LsP ls P
  | some _ :: ls, some _ :: P => LsP ls P
  | [], [] => true
  | _, _ => false
theorem bk_ok {Z G0 G H : Hp} {S : List Pl} {σ : St} : ∀ {ls : List (Option Nat)} {P : List (Option Addr)} {vs : List V} {B : List (Option Sl)} {Γ : Ctx}, LsP ls P = true → Lm ls σ vs → VsP P vs → B.length = P.length → lsOk ls Γ.length = true → Okc Z G0 (bk P B ++ S) Γ σ G H → Okc Z G0 S (bkC ls B Γ) σ G H
  | [], [], _, [], Γ, _, _, _, _, _, k => k
  | [], [], _, _ :: _, Γ, _, _, _, h, _, _ => by cases h
  | [], _ :: _, _, _, _, h, _, _, _, _, _ => by cases h
  | none :: ls, none :: P, [], _, _, _, h, _, _, _, _ => h.elim
  | none :: ls, none :: P, v :: vs, [], _, _, _, _, h, _, _ => by cases h
  | none :: ls, none :: P, v :: vs, b :: B, Γ, h1, h2, h3, h4, h5, k => bk_ok (ls := ls) (P := P) h1 h2 h3 (Nat.succ.inj h4) h5 k
  | none :: ls, [], _, _, _, h, _, _, _, _, _ => by cases h
  | none :: ls, some _ :: _, _, _, _, h, _, _, _, _, _ => by cases h
  | some i :: ls, [], _, _, _, h, _, _, _, _, _ => by cases h
  | some i :: ls, none :: _, _, _, _, h, _, _, _, _, _ => by cases h
  | some i :: ls, some p :: P, [], _, _, _, h, _, _, _, _ => h.elim
  | some i :: ls, some p :: P, v :: vs, [], _, _, _, _, h, _, _ => by cases h
  | some i :: ls, some p :: P, v :: vs, b :: B, Γ, h1, ⟨hv, h2⟩, ⟨e, h3⟩, h4, h5, k => by
    subst e
    have h5' := h5
    unfold lsOk at h5'
    rw [Bool.and_eq_true, Bool.and_eq_true] at h5'
    have b1 := of_decide_eq_true h5'.1
    have k1 : Okc Z G0 ((b, some (.ref p)) :: (bk P B ++ S)) Γ σ G H := k
    have k2 := k1.store (i := i) b1
    have es : σ.set i (some (.ref p)) = σ := by
      refine List.ext_getElem? fun j => ?_
      rw [List.getElem?_set]
      by_cases q : i = j
      · subst q
        rw [if_pos rfl, if_pos (List.getElem?_eq_some_iff.mp hv).1, hv]
      · rw [if_neg q]
    rw [es] at k2
    exact bk_ok (ls := ls) (P := P) (Γ := Γ.set i b) h1 h2 h3 (Nat.succ.inj h4) (by rw [List.length_set]; exact h5'.2.2) k2
/-! ### what a def is given -/
def aConsR {α : Type} (s : Sl) (r : α → List (Option Sl)) : α → List (Option Sl) := fun x => some s :: r x
def aMk {α : Type} (C : Addr) (r : α → List (Option Sl)) : Addr × Addr × α → List (Option Sl) := fun x => some (oobV C x.1 x.2.1 [] []) :: r x.2.2
theorem ag_nil : ([] : List (Option Sl)) = aNil () := rfl
theorem ag_cons {α β : Type} {s : α → Sl} {r : β → List (Option Sl)} {a : α} {b : β} {As : List (Option Sl)} (h : As = r b) : some (s a) :: As = aCons s r (a, b) := congrArg (some (s a) :: ·) h
theorem ag_ro {α : Type} {s : Sl} {r : α → List (Option Sl)} {x : α} {As : List (Option Sl)} (h : As = r x) : some s :: As = aConsR s r x := congrArg (some s :: ·) h
theorem ag_mk {α : Type} {C p dx : Addr} {r : α → List (Option Sl)} {b : α} {As : List (Option Sl)} (h : As = r b) : some (oobV C p dx [] []) :: As = aMk C r (p, dx, b) := congrArg (some (oobV C p dx [] []) :: ·) h
section
variable {X : Cx} {T : XT} {W : WX} {Γx Γ : Ctx} {K : PySem.W.Frag}
theorem lg_nil : LX X T W Γx Γ [] tNil [] (.ok ()) (fun _ => []) (fun _ => Γ) := ⟨pa_nil, fun _ => trivial, fun _ _ _ _ G H _ k q => q [] G H rfl trivial k⟩
theorem lg_cons {e : Expr} {es : List Expr} {te : TE} {ta : TA} {ls : List (Option Nat)} {α β : Type} [Nonempty α] {m1 : Res α} {R1 : α → Sl} {Γ1 : α → Ctx} {m2 : α → Res β} {As : α → β → List (Option Sl)} {Γ2 : α → β → Ctx}
    (he : EX X T W Γx Γ e te m1 R1 Γ1) (hr : ∀ x, LX X T W Γx (Γ1 x) es ta ls (m2 x) (As x) (Γ2 x)) (hs : starEach (e :: es) X.env = (false, eval e X.env) :: starEach es X.env := by rfl) :
    LX X T W Γx Γ (e :: es) (tCons te ta) (none :: ls) (m1.bind fun x => (m2 x).bind fun y => .ok (x, y)) (fun t => some (R1 t.1) :: As t.1 t.2) (fun t => Γ2 t.1 t.2) := by
  obtain ⟨x⟩ := ‹Nonempty α›
  refine ⟨pa_cons he.pe (hr x).pa hs, fun t => (hr t.1).ln t.2, fun Z G0 S σ G H Q k q => ?_⟩
  refine he.ev Z G0 S σ G H _ k (Res.wp_mono (Res.wp_bind q) (fun x q v1 G1 H1 k1 => ?_) fun ex q => q)
  refine (hr x).ev Z G0 _ σ G1 H1 _ k1 (Res.wp_mono (Res.wp_bind q) (fun y q vs G2 H2 hl hm k2 => ?_) fun ex q cls d G' H' k' => q cls d G' H' k'.drop)
  refine q (v1 :: vs) G2 H2 (congrArg Nat.succ hl) hm ⟨k2.len, ?_⟩
  refine k2.ok.perm ?_
  show ((As x y).zip (vs.map some) ++ (some (R1 x), some v1) :: S ++ (Γ2 x y).zip σ).Perm ((some (R1 x), some v1) :: ((As x y).zip (vs.map some) ++ S) ++ (Γ2 x y).zip σ)
  exact mid.append_right _
/-- what a slot holds is lent -/
theorem lg_lent (i : Nat) {x : Str} {p : Pos} {s : Sl} {es : List Expr} {ta : TA} {ls : List (Option Nat)} {β : Type} {m : Res β} {As : β → List (Option Sl)} {Γ2 : β → Ctx} (hr : LX X T W Γx Γ es ta ls m As Γ2) (h : Γ[i]? = some (some s) := by rfl) (hN : X.N[i]? = some x := by rfl) (hv : Vis X.env.scope x := by first | exact Or.inl rfl | exact Or.inr (Or.inl rfl) | exact Or.inr (Or.inr rfl)) (hd : (x == ("__debug__" : Str)) = false := by decide) (hcd : (x == ("__classdict__" : Str)) = false := by decide)
    (hs : starEach (.Name x p :: es) X.env = (false, eval (.Name x p) X.env) :: starEach es X.env := by rfl) :
    LX X T W Γx Γ (.Name x p :: es) (tCons (tVar i) ta) (some i :: ls) m (fun t => none :: As t) Γ2 := by
  refine ⟨pa_cons (pv i hN hv hd hcd) hr.pa hs, fun t => ⟨rfl, hr.ln t⟩, fun Z G0 S σ G H Q k q => ?_⟩
  obtain ⟨v, _, hw, _, _⟩ := k.take h
  refine ⟨v, hw, ?_⟩
  refine hr.ev Z G0 S σ G H _ k (Res.wp_mono q (fun y q vs G2 H2 hl hm k2 => ?_) fun ex q => q)
  refine q (v :: vs) G2 H2 (congrArg Nat.succ hl) ⟨hw, hm⟩ ⟨k2.len, ?_⟩
  exact Okl.noneOn (w := some v) k2.ok
/-- the call -/
theorem spB_go {ξ ρ : Type} {n : Nat} {A : ξ → List (Option Sl)} {Pm : ξ → List (Option Addr)} {Pre : ξ → Prop} {f : ξ → Res ρ} {R : ξ → ρ → Sl} {B : ξ → ρ → List (Option Sl)} {Be : ξ → List (Option Sl)} {ls : List (Option Nat)} {As : List (Option Sl)} {Γ1 : Ctx} {x : ξ} {vs : List V} {Q : VK} {E : XK}
    (hA : mvA ls Γ1 As = A x) (hn : (A x).length = n) (hpin : PinL (Pm x) (A x)) (hpre : Pre x) (hls : lsOk ls Γ1.length = true) (hlp : LsP ls (Pm x) = true) (hB : ∀ r, (B x r).length = (Pm x).length) (hBe : (Be x).length = (Pm x).length)
    {Z G0 : Hp} {S : List Pl} {σ : St} {G H : Hp} (hlen : As.length = vs.length) (hln : Ln ls As) (hm : Lm ls σ vs) (k : Okc Z G0 (As.zip (vs.map some) ++ S) Γ1 σ G H)
    (q : (f x).wp (fun r => ∀ v G' H', Okc Z G0 ((some (R x r), some v) :: S) (bkC ls (B x r) (mvC ls Γ1)) σ G' H' → Q v H') (fun ex => ∀ cls d G' H', Okc Z G0 S (bkC ls (Be x) (mvC ls Γ1)) σ G' H' → T.rel ex cls d G' → E cls d H')) :
    spB n T A Pm Pre f R B Be vs H Q E := by
  have k1 := (okc_app k).perm (mv_ok k.len hm hln hls)
  rw [hA] at k1
  have lA : (A x).length = vs.length := by
    have : ∀ {ls : List (Option Nat)} {As : List (Option Sl)}, Ln ls As → (mvA ls Γ1 As).length = As.length := by
      intro ls
      induction ls with
      | nil =>
        intro As h
        cases As with
        | nil => rfl
        | cons _ _ => exact h.elim
      | cons l ls ih =>
        intro As h
        cases As with
        | nil => cases l <;> exact h.elim
        | cons a As =>
          cases l with
          | none => exact congrArg Nat.succ (ih h)
          | some i => exact congrArg Nat.succ (ih h.2)
    rw [← hA, this hln, hlen]
  have hvp := vsP_of hpin lA k1
  obtain ⟨Zc, l1, l2⟩ := Okl.lend (l := (A x).zip (vs.map some)) (m := S ++ (mvC ls Γ1).zip σ) k1
  have hl2 : lsOk ls (mvC ls Γ1).length = true := by rw [mvC_length]; exact hls
  refine ⟨x, Zc, G, G, by rw [← lA, hn], hn, hpre, l1, Res.wp_mono q (fun r q v G' H' k' => ?_) fun ex q cls d G' H' k' => ?_⟩
  · refine q v G' H' (bk_ok (P := Pm x) (vs := vs) hlp hm hvp (hB r) hl2 ⟨by rw [mvC_length]; exact k.len, ?_⟩)
    have k2 : Okl Z G0 ((some (R x r), some v) :: (bk (Pm x) (B x r) ++ (S ++ (mvC ls Γ1).zip σ))) G' H' := l2 _ G' H' k'
    refine k2.perm ?_
    show ((some (R x r), some v) :: (bk (Pm x) (B x r) ++ (S ++ (mvC ls Γ1).zip σ))).Perm ((bk (Pm x) (B x r) ++ (some (R x r), some v) :: S) ++ (mvC ls Γ1).zip σ)
    rw [List.append_assoc]
    exact mid.symm
  · refine q cls d G' H' (bk_ok (P := Pm x) (vs := vs) hlp hm hvp hBe hl2 ⟨by rw [mvC_length]; exact k.len, ?_⟩)
    have k2 : Okl Z G0 (bk (Pm x) (Be x) ++ (S ++ (mvC ls Γ1).zip σ)) G' H' := l2 _ G' H' k'
    rw [← List.append_assoc] at k2
    exact k2
theorem ex_callG {ξ ρ α : Type} {n kk j : Nat} {A : ξ → List (Option Sl)} {Pm : ξ → List (Option Addr)} {Pre : ξ → Prop} {f : ξ → Res ρ} {R : ξ → ρ → Sl} {B : ξ → ρ → List (Option Sl)} {Be : ξ → List (Option Sl)} {ls : List (Option Nat)} {ps : List Str} {x : Str} {p pos : Pos} {e : Expr} {es : List Expr} {ta : TA} {m1 : Res α} {As : α → List (Option Sl)} {Γ1 : α → Ctx} {SP : Sp} (a : α → ξ)
    (kn : Kn X.prog X.w X.K X.mg X.base kk x ps SP) (hi : SpI (spB n T A Pm Pre f R B Be) SP) (hr : Room j X.A) (tk : Takes X W) (ha : LX X T W Γx Γ (e :: es) ta ls m1 As Γ1) (hpin : ∀ t, PinL (Pm (a t)) (A (a t))) (hpre : ∀ t, Pre (a t)) (hw : ∀ t, Wk (bkC ls (Be (a t)) (mvC ls (Γ1 t))) Γx)
    (hA : ∀ t, mvA ls (Γ1 t) (As t) = A (a t) := by exact fun _ => rfl) (hn : ∀ x, (A x).length = n := by exact fun _ => rfl) (hls : ∀ t, lsOk ls (Γ1 t).length = true := by exact fun _ => rfl) (hlp : ∀ x, LsP ls (Pm x) = true := by exact fun _ => rfl) (hB : ∀ x r, (B x r).length = (Pm x).length := by exact fun _ _ => rfl) (hBe : ∀ x, (Be x).length = (Pm x).length := by exact fun _ => rfl) (hj : kk ≤ j := by decide)
    (hg : Gl X x := by rfl) (hdb : (x == ("__debug__" : Str)) = false := by decide) (he : starEach (e :: es) X.env = (false, eval e X.env) :: starEach es X.env := by rfl) (hpl : (backTo pos (starEach es X.env)).any (·.1) = false := by rfl) :
    EX X T W Γx Γ (.Call (.Name x p) (e :: es) [] pos) (tCallS SP (WE W) ta) (m1.bind fun t => (f (a t)).bind fun r => .ok (t, r)) (fun t => R (a t.1) t.2) (fun t => bkC ls (B (a t.1) t.2) (mvC ls (Γ1 t.1))) := by
  obtain ⟨fa, fd, h1, h2, h3, FO⟩ := kn
  refine ⟨pe_callS FO (hr.mono hj) hg h1 h2 h3 (fun σ => passAt tk σ) ha.pa hdb he hpl, fun Z G0 S σ G H Q k q => ?_⟩
  refine ha.ev Z G0 S σ G H _ k (Res.wp_mono (Res.wp_bind q) (fun t q vs G1 H1 hl hm k1 => ?_) fun ex q => q)
  refine hi _ _ _ _ ?_
  exact spB_go (hA t) (hn _) (hpin t) (hpre t) (hls t) (hlp _) (hB _) (hBe _) hl (ha.ln t) hm k1 (Res.wp_mono (Res.wp_bind q) (fun r q => q) fun ex q cls d G' H' k' => q cls d G' H' (hw t _ _ _ _ _ _ k'))
theorem methB_ev {ξ ρ α : Type} {n : Nat} {A : ξ → List (Option Sl)} {Pm : ξ → List (Option Addr)} {Pre : ξ → Prop} {f : ξ → Res ρ} {R : ξ → ρ → Sl} {B : ξ → ρ → List (Option Sl)} {Be : ξ → List (Option Sl)} {ls : List (Option Nat)} {m : Str} {C p dx : Addr} {fs : List (Str × V)} {l : FsP} {s0 : Sl} {i : Nat} {es : List Expr} {ta : TA} {m1 : Res α} {As : α → List (Option Sl)} {Γ1 : α → Ctx} {a : α → ξ} {SP : Sp} (hi : SpI (spB n T A Pm Pre f R B Be) SP)
    (h0 : Γ[i]? = some (some s0)) (r0 : Rds s0 (rpV C p dx fs l)) (hlm : l.lookup m = none) (ha : LX X T W Γx Γ es ta ls m1 As Γ1) (hpin : ∀ t, PinL (Pm (a t)) (A (a t))) (hpre : ∀ t, Pre (a t)) (hw : ∀ t, Wk (bkC (some i :: ls) (Be (a t)) (mvC (some i :: ls) (Γ1 t))) Γx)
    (hA : ∀ t, mvA (some i :: ls) (Γ1 t) (none :: As t) = A (a t)) (hn : ∀ x, (A x).length = n) (hls : ∀ t, lsOk (some i :: ls) (Γ1 t).length = true) (hlp : ∀ x, LsP (some i :: ls) (Pm x) = true) (hB : ∀ x r, (B x r).length = (Pm x).length) (hBe : ∀ x, (Be x).length = (Pm x).length)
    (Z G0 : Hp) (S : List Pl) (σ : St) (G H : Hp) (Q : VK) (k : Okc Z G0 S Γ σ G H)
    (q : (m1.bind fun t => (f (a t)).bind fun r => .ok (t, r)).wp (fun t => ∀ v G' H', Okc Z G0 ((some (R (a t.1) t.2), some v) :: S) (bkC (some i :: ls) (B (a t.1) t.2) (mvC (some i :: ls) (Γ1 t.1))) σ G' H' → Q v H') (fun ex => ∀ cls d G' H', Okc Z G0 S Γx σ G' H' → T.rel ex cls d G' → W cls d σ H')) :
    tMethS C m SP (WE W) (tVar i) ta σ H Q := by
  obtain ⟨v, _, hv, k1, _⟩ := k.take h0
  obtain ⟨ps, ⟨q1, _, _, ⟨v', e1, r1⟩, _⟩, _, _⟩ := k1.own
  cases e1
  obtain ⟨rfl, hp, hf⟩ := r0 _ _ _ _ k.ok.gh r1
  refine ⟨.ref p, hv, p, dx, fs, rfl, hp, fp_none hf hlm, ?_⟩
  refine ha.ev Z G0 S σ G H _ k (Res.wp_mono (Res.wp_bind q) (fun t q vs G1 H1 hl hm k2 => ?_) fun ex q => q)
  have k3 : Okc Z G0 ((none :: As t).zip ((V.ref p :: vs).map some) ++ S) (Γ1 t) σ G1 H1 := ⟨k2.len, Okl.noneOn (w := some (.ref p)) k2.ok⟩
  refine hi _ _ _ _ ?_
  exact spB_go (x := a t) (ls := some i :: ls) (As := none :: As t) (hA t) (hn _) (hpin t) (hpre t) (hls t) (hlp _) (hB _) (hBe _) (congrArg Nat.succ hl) ⟨rfl, ha.ln t⟩ ⟨hv, hm⟩ k3 (Res.wp_mono (Res.wp_bind q) (fun r q => q) fun ex q cls d G' H' k' => q cls d G' H' (hw t _ _ _ _ _ _ k'))
theorem ex_methG {ξ ρ α : Type} [Nonempty α] {n kk j : Nat} {A : ξ → List (Option Sl)} {Pm : ξ → List (Option Addr)} {Pre : ξ → Prop} {f : ξ → Res ρ} {R : ξ → ρ → Sl} {B : ξ → ρ → List (Option Sl)} {Be : ξ → List (Option Sl)} {ls : List (Option Nat)} {ps : List Str} {m x : Str} {C p dx : Addr} {fs : List (Str × V)} {l : FsP} {s0 : Sl} (i : Nat) {p1 apos pos : Pos} {pl : Sem Bool} {e : Expr} {es : List Expr} {ta : TA} {m1 : Res α} {As : α → List (Option Sl)} {Γ1 : α → Ctx} {SP : Sp} (a : α → ξ)
    (kn : KnM X.prog X.w X.K X.mg X.base kk C m ps SP) (hi : SpI (spB n T A Pm Pre f R B Be) SP) (cl : Cls K C) (hr : Room j X.A) (tk : Takes X W) (r0 : Rds s0 (rpV C p dx fs l)) (ha : LX X T W Γx Γ (e :: es) ta ls m1 As Γ1) (hpin : ∀ t, PinL (Pm (a t)) (A (a t))) (hpre : ∀ t, Pre (a t)) (hw : ∀ t, Wk (bkC (some i :: ls) (Be (a t)) (mvC (some i :: ls) (Γ1 t))) Γx)
    (h0 : Γ[i]? = some (some s0) := by rfl) (hlm : l.lookup m = none := by rfl) (hA : ∀ t, mvA (some i :: ls) (Γ1 t) (none :: As t) = A (a t) := by exact fun _ => rfl) (hn : ∀ x, (A x).length = n := by exact fun _ => rfl) (hls : ∀ t, lsOk (some i :: ls) (Γ1 t).length = true := by exact fun _ => rfl) (hlp : ∀ x, LsP (some i :: ls) (Pm x) = true := by exact fun _ => rfl) (hB : ∀ x r, (B x r).length = (Pm x).length := by exact fun _ _ => rfl) (hBe : ∀ x, (Be x).length = (Pm x).length := by exact fun _ => rfl) (hK : X.K = K := by rfl) (hj : kk ≤ j := by decide)
    (hN : X.N[i]? = some x := by rfl) (hv : Vis X.env.scope x := by first | exact Or.inl rfl | exact Or.inr (Or.inl rfl) | exact Or.inr (Or.inr rfl)) (hd : (x == ("__debug__" : Str)) = false := by decide) (hcd : (x == ("__classdict__" : Str)) = false := by decide)
    (hst : starEach (e :: es) X.env = (false, eval e X.env) :: starEach es X.env := by rfl) (hpl : (backTo pos (starEach es X.env)).any (·.1) = false := by rfl)
    (ht : eval (.Call (.Attribute (.Name x p1) m apos) (e :: es) [] pos) X.env = (do let ov ← eval (.Name x p1) X.env; standAt apos.atName; let (f, first) ← holding [ov] (getMethod ov m pl); callWith pos f first (backTo pos (starEach (e :: es) X.env)) (backToKw pos (keywordEach [] X.env))) := by rfl) :
    EX X T W Γx Γ (.Call (.Attribute (.Name x p1) m apos) (e :: es) [] pos) (tMethS C m SP (WE W) (tVar i) ta) (m1.bind fun t => (f (a t)).bind fun r => .ok (t, r)) (fun t => R (a t.1) t.2) (fun t => bkC (some i :: ls) (B (a t.1) t.2) (mvC (some i :: ls) (Γ1 t.1))) := by
  subst hK
  obtain ⟨t0⟩ := ‹Nonempty α›
  obtain ⟨fa, fd, h2, h3, FO⟩ := kn
  exact ⟨pe_methS (pl := pl) (pv i hN hv hd hcd) cl h2 FO (hr.mono hj) h3 (fun σ => passAt tk σ) ha.pa hst hpl ht, methB_ev hi h0 r0 hlm ha hpin hpre hw hA hn hls hlp hB hBe⟩
theorem ex_methG0 {ξ ρ : Type} {n kk j : Nat} {A : ξ → List (Option Sl)} {Pm : ξ → List (Option Addr)} {Pre : ξ → Prop} {f : ξ → Res ρ} {R : ξ → ρ → Sl} {B : ξ → ρ → List (Option Sl)} {Be : ξ → List (Option Sl)} {ps : List Str} {m x : Str} {C p dx : Addr} {fs : List (Str × V)} {l : FsP} {s0 : Sl} (i : Nat) {p1 apos pos : Pos} {pl : Sem Bool} {SP : Sp} (a : ξ)
    (kn : KnM X.prog X.w X.K X.mg X.base kk C m ps SP) (hi : SpI (spB n T A Pm Pre f R B Be) SP) (cl : Cls K C) (hr : Room j X.A) (tk : Takes X W) (r0 : Rds s0 (rpV C p dx fs l)) (hpin : PinL (Pm a) (A a)) (hpre : Pre a) (hw : Wk (bkC [some i] (Be a) (mvC [some i] Γ)) Γx)
    (h0 : Γ[i]? = some (some s0) := by rfl) (hlm : l.lookup m = none := by rfl) (hA : mvA [some i] Γ [none] = A a := by rfl) (hn : ∀ x, (A x).length = n := by exact fun _ => rfl) (hls : lsOk [some i] Γ.length = true := by rfl) (hlp : ∀ x, LsP [some i] (Pm x) = true := by exact fun _ => rfl) (hB : ∀ x r, (B x r).length = (Pm x).length := by exact fun _ _ => rfl) (hBe : ∀ x, (Be x).length = (Pm x).length := by exact fun _ => rfl) (hK : X.K = K := by rfl) (hj : kk ≤ j := by decide)
    (hN : X.N[i]? = some x := by rfl) (hv : Vis X.env.scope x := by first | exact Or.inl rfl | exact Or.inr (Or.inl rfl) | exact Or.inr (Or.inr rfl)) (hd : (x == ("__debug__" : Str)) = false := by decide) (hcd : (x == ("__classdict__" : Str)) = false := by decide)
    (ht : eval (.Call (.Attribute (.Name x p1) m apos) [] [] pos) X.env = (do let ov ← eval (.Name x p1) X.env; standAt apos.atName; let (f, first) ← holding [ov] (getMethod ov m pl); callWith pos f first (backTo pos (starEach [] X.env)) (backToKw pos (keywordEach [] X.env))) := by rfl) :
    EX X T W Γx Γ (.Call (.Attribute (.Name x p1) m apos) [] [] pos) (tMethS C m SP (WE W) (tVar i) tNil) ((Res.ok ()).bind fun t => (f a).bind fun r => .ok (t, r)) (fun t => R a t.2) (fun t => bkC [some i] (B a t.2) (mvC [some i] Γ)) := by
  subst hK
  obtain ⟨fa, fd, h2, h3, FO⟩ := kn
  exact ⟨pe_methS0 (pl := pl) (pv i hN hv hd hcd) cl h2 FO (hr.mono hj) h3 (fun σ => passAt tk σ) ht, methB_ev (a := fun _ => a) (ls := []) hi h0 r0 hlm (lg_nil (X := X)) (fun _ => hpin) (fun _ => hpre) (fun _ => hw) (fun _ => hA) hn (fun _ => hls) hlp hB hBe⟩
/-- what is lent stands in the first slots -/
theorem okc_pick {Z G0 G H : Hp} {Γr : Ctx} : ∀ {P : List (Option Addr)} {B : List (Option Sl)} {L : List Pl} {σ : St}, PinL P B → Okc Z G0 L (B ++ Γr) σ G H → Okl Z G0 (bk P B ++ L) G H
  | [], [], L, σ, _, k => k.bare
  | [], _ :: _, _, _, h, _ => h.elim
  | none :: P, [], _, _, h, _ => h.elim
  | none :: P, b :: B, L, [], h, k => by cases k.len
  | none :: P, b :: B, L, w :: σ, h, k => by
    have k0 : Okl Z G0 (L ++ ((b, w) :: (B ++ Γr).zip σ)) G H := k.ok
    exact okc_pick (P := P) (B := B) (L := L) (σ := σ) h ⟨Nat.succ.inj k.len, (k0.perm mid).drop⟩
  | some p :: P, [], _, _, h, _ => h.elim
  | some p :: P, none :: B, _, _, h, _ => h.elim
  | some p :: P, some s :: B, L, [], h, k => by cases k.len
  | some p :: P, some s :: B, L, w :: σ, ⟨h1, h2⟩, k => by
    have k0 : Okl Z G0 (L ++ ((some s, w) :: (B ++ Γr).zip σ)) G H := k.ok
    have k1 := k0.perm mid
    obtain ⟨ps, ⟨q1, q2, _, ⟨v', e1, r1⟩, _⟩, _, _⟩ := k1.own
    subst e1
    obtain rfl := h1 _ _ _ _ k.ok.gh r1
    have k2 : Okc Z G0 ((some s, some (.ref p)) :: L) (B ++ Γr) σ G H := ⟨Nat.succ.inj k.len, k1⟩
    exact (okc_pick (P := P) (B := B) h2 k2).perm mid
/-- return e; what is lent is given back -/
theorem sx_retB {e : Expr} {te : TE} {pos : Pos} {rest : List Stmt} {α ρ : Type} {mn : Res ρ} {me : Res α} {R : α → Sl} {Γo : α → Ctx} {g : α → ρ} {R' : ρ → Sl} {P : List (Option Addr)} {B : ρ → List (Option Sl)} {Γr : Ctx} (he : EX X T W Γx Γ e te me R Γo) (hw : ∀ a, Wk (Γo a) (B (g a) ++ Γr)) (hp : ∀ r, PinL P (B r)) (hR : ∀ a, R a = R' (g a) := by exact fun _ => rfl)
    (hb : Bd mn me (fun a => .ok (g a)) := by intros; repeat (first | ((with_reducible refine Bd.done ?_); exact rfl) | with_reducible refine Bd.okl ?_ | with_reducible refine Bd.assoc ?_ | with_reducible refine Bd.bind fun _ => ?_ | with_reducible refine Bd.eta fun _ => ?_ | with_reducible refine Bd.iteB ?_ ?_ fun _ => ?_ | with_reducible refine Bd.iteE ?_ ?_ fun _ => ?_ | with_reducible refine Bd.ite ?_ ?_ | with_reducible refine Bd.iteL ?_ ?_ | with_reducible refine Bd.assocL ?_ | with_reducible refine Bd.oklL ?_ | with_reducible exact Bd.same | with_reducible exact Bd.at | dsimp only)) :
    SX X T W Γx Γ (.Return (some e) pos :: rest) (tSeq (tRet te) tNever) mn (fun r => .ret (R' r) (bk P (B r))) :=
  ⟨pss_cons (ps_ret he.pe) pss_never, fun Z G0 S σ G H D k q => he.ev Z G0 S σ G H _ k (Res.wp_mono (hb _ _ q) (fun a q v G' H' k' => by
    have z := q v G' H'
    rw [← hR] at z
    refine z ?_
    have k2 := okc_pick (hp (g a)) (hw a _ _ _ _ _ _ k')
    exact k2.perm mid) fun ex q cls d G' H' k' => q cls d σ G' H' k')⟩
end
/-! ### a def -/
section
variable {K : PySem.W.Frag} {T : XT} {P : Program} {w : World} {mg : Str → Option Value} {base : Heap}
theorem fn_mkB {x qual : Str} {st : Stmt} {f : Addr} {fd : FuncData} {N ps : List Str} {k n : Nat} {ξ ρ : Type} {A : ξ → List (Option Sl)} {Pm : ξ → List (Option Addr)} {Pre : ξ → Prop} {g : ξ → Res ρ} {R : ξ → ρ → Sl} {B : ξ → ρ → List (Option Sl)} {Be : ξ → List (Option Sl)} (F : Fun K x qual st f fd) (Sc : FnScope N ps (defScope st)) (hn : ps.length = n) (hpe : ∀ a, PinL (Pm a) (Be a))
    (hbody : ∀ (cdv : Value) (Ar : Around) (outer : List Env) (s : Shared) (H : Hp) (E : XK), Room k (Ar.deeper (PyProof.Rows.envOfC qual (defScope st) s.heap.objs.size f cdv)) → Takes (cxOf (L2.CX P w) P w K mg base N qual (defScope st) f cdv Ar outer s H E) (fun cls d _ H => E cls d H) →
      PassesOwn (model P w) (Ar.deeper (PyProof.Rows.envOfC qual (defScope st) s.heap.objs.size f cdv)) (PyProof.Rows.envOfC qual (defScope st) s.heap.objs.size f cdv) (cxOf (L2.CX P w) P w K mg base N qual (defScope st) f cdv Ar outer s H E).xe → ∀ a : ξ, (A a).length = n → Pre a →
      ∃ ts, SX (cxOf (L2.CX P w) P w K mg base N qual (defScope st) f cdv Ar outer s H E) T (fun cls d _ H => E cls d H) (Be a ++ List.replicate (N.length - n) none) (A a ++ List.replicate (N.length - n) none) (defBody st) ts (g a) (fun r => .ret (R a r) (bk (Pm a) (B a r)))) :
    FnOk P w K mg base (L2.CX P w) (k + 1) f fd ps (spB n T A Pm Pre g R B Be) := by
  refine F.okX Sc (fun vs H Q E h => ?_) (fun cdv Ar outer s H vs Q E hr h => ?_)
  · obtain ⟨_, _, _, _, h1, _⟩ := h
    rw [h1, hn]
  · obtain ⟨a, Z, G0, G, h1, h2, h0, h3, h4⟩ := h
    obtain ⟨ts, hs⟩ := hbody cdv Ar outer s H E hr (takes_of rfl rfl rfl rfl) (passes_of rfl) a h2 h0
    refine ⟨ts, hs.ps, hs.ev Z G0 [] _ G H _ ⟨?_, ?_⟩ (Res.wp_mono h4 (fun r q v G' H' k' => q v G' H' (by
      rw [List.append_nil] at k'
      exact k')) fun ex q cls d σ' G' H' k' => q cls d G' H' (by
      have z := okc_pick (hpe a) k'
      rw [List.append_nil] at z
      exact z))⟩
    · unfold L2.start
      rw [List.length_append, List.length_append, List.length_map, List.length_replicate, List.length_replicate, h1, h2]
    · unfold L2.start
      show Okl Z G0 ((A a ++ List.replicate (N.length - n) none).zip (vs.map some ++ List.replicate (N.length - vs.length) none)) G H
      rw [List.zip_append (by rw [h2, List.length_map, h1]), h1]
      exact nones_zip h3 _
/-- .. that falls off its end: what is lent then -/
theorem fn_mkBN {x qual : Str} {st : Stmt} {f : Addr} {fd : FuncData} {N ps : List Str} {k n : Nat} {ξ ρ : Type} {A : ξ → List (Option Sl)} {Pm : ξ → List (Option Addr)} {Pre : ξ → Prop} {g : ξ → Res ρ} {B : ξ → ρ → List (Option Sl)} {Be : ξ → List (Option Sl)} (F : Fun K x qual st f fd) (Sc : FnScope N ps (defScope st)) (hn : ps.length = n) (hpe : ∀ a, PinL (Pm a) (Be a)) (hpb : ∀ a r, PinL (Pm a) (B a r))
    (hbody : ∀ (cdv : Value) (Ar : Around) (outer : List Env) (s : Shared) (H : Hp) (E : XK), Room k (Ar.deeper (PyProof.Rows.envOfC qual (defScope st) s.heap.objs.size f cdv)) → Takes (cxOf (L2.CX P w) P w K mg base N qual (defScope st) f cdv Ar outer s H E) (fun cls d _ H => E cls d H) →
      PassesOwn (model P w) (Ar.deeper (PyProof.Rows.envOfC qual (defScope st) s.heap.objs.size f cdv)) (PyProof.Rows.envOfC qual (defScope st) s.heap.objs.size f cdv) (cxOf (L2.CX P w) P w K mg base N qual (defScope st) f cdv Ar outer s H E).xe → ∀ a : ξ, (A a).length = n → Pre a →
      ∃ ts, SX (cxOf (L2.CX P w) P w K mg base N qual (defScope st) f cdv Ar outer s H E) T (fun cls d _ H => E cls d H) (Be a ++ List.replicate (N.length - n) none) (A a ++ List.replicate (N.length - n) none) (defBody st) ts (g a) (fun r => .nx (B a r ++ List.replicate (N.length - n) none))) :
    FnOk P w K mg base (L2.CX P w) (k + 1) f fd ps (spB n T A Pm Pre g (fun _ _ => sN) B Be) := by
  refine F.okX Sc (fun vs H Q E h => ?_) (fun cdv Ar outer s H vs Q E hr h => ?_)
  · obtain ⟨_, _, _, _, h1, _⟩ := h
    rw [h1, hn]
  · obtain ⟨a, Z, G0, G, h1, h2, h0, h3, h4⟩ := h
    obtain ⟨ts, hs⟩ := hbody cdv Ar outer s H E hr (takes_of rfl rfl rfl rfl) (passes_of rfl) a h2 h0
    refine ⟨ts, hs.ps, hs.ev Z G0 [] _ G H _ ⟨?_, ?_⟩ (Res.wp_mono h4 (fun r q σ' G' H' k' => q .non G' H' (by
      have z := okc_pick (hpb a r) k'
      rw [List.append_nil] at z
      exact Okl.push (c := cNon) z rfl)) fun ex q cls d σ' G' H' k' => q cls d G' H' (by
      have z := okc_pick (hpe a) k'
      rw [List.append_nil] at z
      exact z))⟩
    · unfold L2.start
      rw [List.length_append, List.length_append, List.length_map, List.length_replicate, List.length_replicate, h1, h2]
    · unfold L2.start
      show Okl Z G0 ((A a ++ List.replicate (N.length - n) none).zip (vs.map some ++ List.replicate (N.length - vs.length) none)) G H
      rw [List.zip_append (by rw [h2, List.length_map, h1]), h1]
      exact nones_zip h3 _
end
end Rt
/-! Rt43: stores into what objects hold; objects made. -/
namespace Rt
open PySem L2 R
section
variable {X : Cx} {T : XT} {W : WX} {Γx Γ : Ctx} {K : PySem.W.Frag}
/-- o.n = e -/
theorem s1_fldS {i : Nat} {x n : Str} {e : Expr} {te : TE} {p1 p2 pos : Pos} {C p dx : Addr} {fs : List (Str × V)} {l : FsS} {α ν : Type} {m1 : Res α} {Rm : α → Sl} {Γo : α → Ctx} {f : α → ν} {s : ν → Sl} {mn : Res ν} (cl : Cls K C) (na : NoAttr K C n) (he : EX X T W Γx Γ e te m1 Rm Γo) (hR : ∀ t, Rm t = s (f t)) (hΓo : ∀ t, (Γo t)[i]? = some (some (oobV C p dx fs l))) {Γn : ν → Ctx} (hΓn : ∀ t, (Γo t).set i (some (atP p (oob C (putL n (s (f t)) l)))) = Γn (f t))
    (hl : Nat.ble (l.length + 1) 1000 = true := by rfl) (hN : X.N[i]? = some x := by rfl) (hv : Vis X.env.scope x := by first | exact Or.inl rfl | exact Or.inr (Or.inl rfl) | exact Or.inr (Or.inr rfl)) (hb : Bd mn m1 (fun t => .ok (f t)) := by intros; repeat (first | ((with_reducible refine Bd.done ?_); exact rfl) | with_reducible refine Bd.okl ?_ | with_reducible refine Bd.assoc ?_ | with_reducible refine Bd.bind fun _ => ?_ | with_reducible refine Bd.eta fun _ => ?_ | with_reducible refine Bd.iteB ?_ ?_ fun _ => ?_ | with_reducible refine Bd.iteE ?_ ?_ fun _ => ?_ | with_reducible refine Bd.ite ?_ ?_ | with_reducible refine Bd.iteL ?_ ?_ | with_reducible refine Bd.assocL ?_ | with_reducible refine Bd.oklL ?_ | with_reducible exact Bd.same | with_reducible exact Bd.at | dsimp only))
    (hK : X.K = K := by rfl) (hd : (x == ("__debug__" : Str)) = false := by decide) (hcd : (x == ("__classdict__" : Str)) = false := by decide) (hs : swapsWith e (some (.Attribute (.Name x p1) n p2)) pos.line X.env = pure false := by rfl) :
    S1 X T W Γx Γ (.Assign [.Attribute (.Name x p1) n p2] e pos) (sFld K (tVar i) te n) mn (fun y => .nx (Γn y)) := by
  subst hK
  refine ⟨ps_fld (pv i hN hv hd hcd) he.pe hs, fun Z G0 S σ G H D kk q => ?_⟩
  refine he.ev Z G0 S σ G H _ kk (Res.wp_mono (hb _ _ q) (fun t q y G1 H1 k1 => ?_) fun ex q cls d G' H' k' => q cls d σ G' H' k')
  obtain ⟨v, M, hw, k2, back, _⟩ := Okc.takeS (L := [(some (Rm t), some y)]) (S := S) k1 (hΓo t)
  have k3 : Okl Z G0 ((some (Rm t), some y) :: (some (oobV C p dx fs l), some v) :: M) G1 H1 := k2.perm (List.Perm.swap _ _ _)
  rw [hR] at k3
  obtain ⟨rfl, hp, hn, k4⟩ := Okl.fput (n := n) k3
  refine ⟨.ref p, hw, p, C, dx, fs, rfl, hp, cl, na, ?_, ?_⟩
  · have : fs.length = l.length := by
      have := congrArg List.length hn
      rw [List.length_map, List.length_map] at this
      exact this
    rw [this]
    exact Nat.le_of_ble_eq_true hl
  · have k5 : Okl Z G0 ((some (atP p (oob C (putL n (s (f t)) l))), some (.ref p)) :: M) G1 (upd H1 p (.ins C dx (putF n y fs))) := k4.re fun ps r => ⟨rfl, p, dx, putF n y fs, r⟩
    have k6 := back Z G0 _ [] _ _ k5
    rw [hΓn] at k6
    exact q σ G1 _ k6
/-- o.n[k] = v, a dict that the object holds -/
theorem s1_fldD {κ β : Type} [DecidableEq κ] {i : Nat} {x n : Str} {ie e : Expr} {ty te : TE} {p1 p2 p3 pos : Pos} {C p dx : Addr} {fs : List (Str × V)} {l : FsS} {lp : FsP} {kk : Kk κ} {c : Cod β} {xs : List (κ × β)} {α γ : Type} [Nonempty α] {m1 : Res α} {R1 : α → Sl} {Γ1 : α → Ctx} {b : α → β} {m2 : α → Res γ} {R2 : α → γ → Sl} {Γ2 : α → γ → Ctx} {a : α → γ → κ} {mn : Res (List (κ × β))} {j : Nat} {Γn : List (κ × β) → Ctx} (hr : Room j X.A)
    (cl : Cls K C) (na : NoAttr K C n) (rd : FsRd l lp) (he : EX X T W Γx Γ e te m1 R1 Γ1) (hi : ∀ t, EX X T W Γx Γ ie ty (m2 t) (R2 t) (Γ2 t)) (hR : ∀ t, R1 t = fz c (b t) := by exact fun _ => rfl) (hΓ : ∀ t, Γ1 t = Γ := by exact fun _ => rfl) (hR2 : ∀ t u, R2 t u = fz kk.c (a t u) := by exact fun _ _ => rfl) (hΓ2 : ∀ t u, Γ2 t u = Γ := by exact fun _ _ => rfl)
    (h : Γ[i]? = some (some (oobV C p dx fs l)) := by rfl) (hf : l.lookup n = some (od kk c xs) := by rfl) (hfp : lp.lookup n = some (rpD kk c xs) := by rfl) (hΓn : ∀ ys, Γ.set i (some (atP p (oob C (putL n (od kk c ys) l)))) = Γn ys) (hnm : ∀ s, (putL n s l).map (·.1) = l.map (·.1) := by exact fun _ => rfl) (hN : X.N[i]? = some x := by rfl) (hv : Vis X.env.scope x := by first | exact Or.inl rfl | exact Or.inr (Or.inl rfl) | exact Or.inr (Or.inr rfl)) (hd : (x == ("__debug__" : Str)) = false := by decide) (hcd : (x == ("__classdict__" : Str)) = false := by decide)
    (hb : Bd mn (m1.bind fun t => (m2 t).bind fun u => (dputR xs (a t u) (b t)).bind fun ys => .ok (t, u, ys)) (fun t => .ok t.2.2) := by intros; repeat (first | ((with_reducible refine Bd.done ?_); exact rfl) | with_reducible refine Bd.okl ?_ | with_reducible refine Bd.assoc ?_ | with_reducible refine Bd.bind fun _ => ?_ | with_reducible refine Bd.eta fun _ => ?_ | with_reducible refine Bd.iteB ?_ ?_ fun _ => ?_ | with_reducible refine Bd.iteE ?_ ?_ fun _ => ?_ | with_reducible refine Bd.ite ?_ ?_ | with_reducible refine Bd.iteL ?_ ?_ | with_reducible refine Bd.assocL ?_ | with_reducible refine Bd.oklL ?_ | with_reducible exact Bd.same | with_reducible exact Bd.at | dsimp only))
    (hK : X.K = K := by rfl) (hba : attributeBase (.Name x p1) n X.env (eval (.Name x p1) X.env) = eval (.Name x p1) X.env := by rfl) (hs : swapsWith e (some (.Subscript (.Attribute (.Name x p1) n p2) ie p3)) pos.line X.env = pure false := by rfl) :
    S1 X T W Γx Γ (.Assign [.Subscript (.Attribute (.Name x p1) n p2) ie p3] e pos) (sDPut (tFld K (tVar i) n) ty te) mn (fun ys => .nx (Γn ys)) := by
  subst hK
  obtain rfl : R1 = fun t => fz c (b t) := funext hR
  obtain rfl : Γ1 = fun _ => Γ := funext hΓ
  obtain rfl : R2 = fun t u => fz kk.c (a t u) := funext fun t => funext (hR2 t)
  obtain rfl : Γ2 = fun _ _ => Γ := funext fun t => funext (hΓ2 t)
  obtain ⟨t0⟩ := ‹Nonempty α›
  have bx : BX X Γ (.Attribute (.Name x p1) n p2) (tFld X.K (tVar i) n) (rpD kk c xs) := bx_fld (bx_slot i (rds_oobV rd) h hN hv hd hcd) cl na hfp rfl hba
  refine ⟨ps_dput (room_u hr) bx.pe (hi t0).pe he.pe hs, fun Z G0 S σ G H D k q => ?_⟩
  refine he.ev Z G0 S σ G H _ k (Res.wp_mono (Res.wp_bind (hb _ _ q)) (fun t q v G1 H1 k1 => ?_) fun ex q cls d G' H' k' => q cls d σ G' H' k')
  obtain ⟨v0, _, hw0, k0, _⟩ := k1.drop.take h
  obtain ⟨w, rfl, hp0, hw, hn0, _⟩ := k0.focus hf
  refine ⟨.ref p, hw0, p, C, dx, fs, w, rfl, hp0, cl, na, hw, ?_⟩
  refine (hi t).ev Z G0 _ σ G1 H1 _ k1 (Res.wp_mono (Res.wp_bind q) (fun u q y G2 H2 k2 => ?_) fun ex q cls d G' H' k' => q cls d σ G' H' k'.drop)
  obtain ⟨ys, e2, q3⟩ := wp_cases (Res.wp_bind q) dput_ne
  obtain ⟨hl, rfl⟩ := dput_ok e2
  have hy := k2.tp
  have hv2 := k2.drop.tp
  obtain ⟨v1, M, hw1, k3, back⟩ := k2.drop.drop.take h
  rw [hw0] at hw1
  cases hw1
  obtain ⟨w', _, _, hw', hn, k4⟩ := k3.focus hf
  rw [hw] at hw'
  cases hw'
  obtain ⟨d, kvs, rfl, hd3, hlen, k5⟩ := k4.putD (k := a t u) (b := b t) hv2
  have k6 := Okl.unfocus hn hw k5 (hnm _)
  have k7 : Okl Z G0 ((some (atP p (oob C (putL n (od kk c (dput xs (a t u) (b t))) l))), some (.ref p)) :: M) G2 (upd H2 d (kk.ho (putK kvs (a t u) v))) := k6.re fun ps r => ⟨rfl, p, dx, fs, r⟩
  have k8 := back _ _ _ k7
  rw [hΓn] at k8
  exact ⟨d, _, rfl, kk.put k2.ok.gh hy hd3 (by rw [hlen, ← line_eq]; exact hl), q3 σ G2 _ k8⟩
/-- C(..), an object that changes -/
theorem makeG_ev {ξ β α : Type} {n : Nat} {A : ξ → List (Option Sl)} {Pm : ξ → List (Option Addr)} {Pre : ξ → Prop} {C : Addr} {fl : β → FsS} {f : ξ → Res β} {B : ξ → β → List (Option Sl)} {Be : ξ → List (Option Sl)} {ls : List (Option Nat)} {es : List Expr} {ta : TA} {m1 : Res α} {As : α → List (Option Sl)} {Γ1 : α → Ctx} {a : α → Addr → Addr → ξ} {SP : Sp} (hi : SpI (spB n T A Pm Pre f (fun _ _ => sN) B Be) SP)
    (ha : LX X T W Γx Γ es ta ls m1 As Γ1) (hpin : ∀ t p dx, PinL (Pm (a t p dx)) (A (a t p dx))) (hpre : ∀ t p dx, Pre (a t p dx)) (hw : ∀ t p dx, Wk (bkC ls (Be (a t p dx)).tail (mvC ls (Γ1 t))) Γx)
    (hA : ∀ t p dx, some (oobV C p dx [] []) :: mvA ls (Γ1 t) (As t) = A (a t p dx)) (hn : ∀ x, (A x).length = n) (hls : ∀ t, lsOk ls (Γ1 t).length = true) (hP : ∀ t p dx, (Pm (a t p dx)).head? = some (some p)) (hlp : ∀ x, LsP ls (Pm x).tail = true) (hB1 : ∀ t p dx r, (B (a t p dx) r).head? = some (some (atP p (oob C (fl r))))) (hB : ∀ x r, (B x r).length = (Pm x).length) (hBe : ∀ x, (Be x).length = (Pm x).length)
    (hf : ∀ t p dx p' dx', f (a t p dx) = f (a t p' dx')) (hBB : ∀ t p dx r, (B (a t p dx) r).tail = (B (a t 0 0) r).tail)
    (Z G0 : Hp) (S : List Pl) (σ : St) (G H : Hp) (Q : VK) (k : Okc Z G0 S Γ σ G H)
    (q : (m1.bind fun t => (f (a t 0 0)).bind fun r => .ok (t, r)).wp (fun t => ∀ v G' H', Okc Z G0 ((some (oob C (fl t.2)), some v) :: S) (bkC ls (B (a t.1 0 0) t.2).tail (mvC ls (Γ1 t.1))) σ G' H' → Q v H') (fun ex => ∀ cls d G' H', Okc Z G0 S Γx σ G' H' → T.rel ex cls d G' → W cls d σ H')) :
    tMakeS C SP (WE W) ta σ H Q := by
  refine ha.ev Z G0 S σ G H _ k (Res.wp_mono (Res.wp_bind q) (fun t q vs G1 H1 hlen hm k1 => ?_) fun ex q => q)
  intro p dx h1 h2 hne
  have hxd : upd H1 dx (.own p) p = none := by rw [upd_ne (Ne.symm hne)]; exact h1
  have k1' : Okl Z G0 ((As t).zip (vs.map some) ++ (S ++ (Γ1 t).zip σ)) G1 H1 := okc_app k1
  have j0 := k1'.perm (mv_ok k1.len hm (ha.ln t) (hls t))
  have j1 := j0.lay (o := .own p) h2
  have j2 := j1.layOwn (q := p) (o := .ins C dx []) (s := oobV C p dx [] []) (v := .ref p) hxd ⟨rfl, rfl, [], rfl, upd_same, rfl⟩
  have eA := hA t p dx
  have lA : (mvA ls (Γ1 t) (As t)).length = vs.length := by
    have : ∀ {ls : List (Option Nat)} {As : List (Option Sl)}, Ln ls As → (mvA ls (Γ1 t) As).length = As.length := by
      intro ls
      induction ls with
      | nil =>
        intro As h
        cases As with
        | nil => rfl
        | cons _ _ => exact h.elim
      | cons l ls ih =>
        intro As h
        cases As with
        | nil => cases l <;> exact h.elim
        | cons a As =>
          cases l with
          | none => exact congrArg Nat.succ (ih h)
          | some i => exact congrArg Nat.succ (ih h.2)
    rw [this (ha.ln t), hlen]
  obtain ⟨P', hP'⟩ : ∃ P', Pm (a t p dx) = some p :: P' := by
    have := hP t p dx
    cases e : Pm (a t p dx) with
    | nil => rw [e] at this; cases this
    | cons x r => rw [e] at this; cases this; exact ⟨r, rfl⟩
  have hpin' := hpin t p dx
  rw [← eA, hP'] at hpin'
  have hlp' := hlp (a t p dx)
  rw [hP'] at hlp'
  have hvp : VsP P' vs := vsP_of hpin'.2 lA j0
  obtain ⟨Zc, l1, l2⟩ := Okl.lend (l := (some (oobV C p dx [] []), some (.ref p)) :: (mvA ls (Γ1 t) (As t)).zip (vs.map some)) (m := S ++ (mvC ls (Γ1 t)).zip σ) j2
  have hl2 : lsOk ls (mvC ls (Γ1 t)).length = true := by rw [mvC_length]; exact hls t
  have hcl : (mvC ls (Γ1 t)).length = σ.length := by rw [mvC_length]; exact k1.len
  refine hi _ _ _ _ ⟨a t p dx, Zc, upd G1 dx (.own p), upd G1 dx (.own p), ?_, hn _, hpre t p dx, ?_, ?_⟩
  · have := hn (a t p dx)
    rw [← eA, List.length_cons, lA] at this
    rw [List.length_cons]
    exact this
  · rw [← eA]
    exact l1
  · have q2 : (f (a t p dx)).wp (fun r => ∀ v G' H', Okc Z G0 ((some (oob C (fl r)), some v) :: S) (bkC ls (B (a t 0 0) r).tail (mvC ls (Γ1 t))) σ G' H' → Q v H') (fun ex => ∀ cls d G' H', Okc Z G0 S Γx σ G' H' → T.rel ex cls d G' → W cls d σ H') := by
      rw [hf t p dx 0 0]
      exact Res.wp_mono (Res.wp_bind q) (fun r q => q) fun ex q => q
    refine Res.wp_mono q2 (fun r q v G' H' k' => ?_) fun ex q cls d G' H' k' => ?_
    · rw [hP'] at k'
      have hb1 := hB1 t p dx r
      have hbl := hB (a t p dx) r
      have hbb := hBB t p dx r
      cases eB : B (a t p dx) r with
      | nil => rw [eB] at hb1; cases hb1
      | cons b0 B' =>
        rw [eB] at hb1 k' hbl hbb
        cases hb1
        rw [hP'] at hbl
        have k3 : Okl Z G0 ((some sN, some v) :: (some (atP p (oob C (fl r))), some (.ref p)) :: (bk P' B' ++ (S ++ (mvC ls (Γ1 t)).zip σ))) G' H' := l2 _ G' H' k'
        obtain ⟨ve, he1, hv⟩ := k3.top
        have hvn : v = .non := (Option.some.inj he1).trans hv
        refine ⟨hvn, q (.ref p) G' H' ?_⟩
        have k4 := k3.drop.re (s' := oob C (fl r)) fun ps h => h.2
        rw [show (B (a t 0 0) r).tail = B' from hbb.symm]
        refine bk_ok (P := P') (vs := vs) (B := B') hlp' hm hvp (Nat.succ.inj hbl) hl2 ⟨hcl, ?_⟩
        refine k4.perm ?_
        show ((some (oob C (fl r)), some (.ref p)) :: (bk P' B' ++ (S ++ (mvC ls (Γ1 t)).zip σ))).Perm ((bk P' B' ++ (some (oob C (fl r)), some (.ref p)) :: S) ++ (mvC ls (Γ1 t)).zip σ)
        rw [List.append_assoc]
        exact mid.symm
    · rw [hP'] at k'
      have hbl := hBe (a t p dx)
      have hwt := hw t p dx
      cases eB : Be (a t p dx) with
      | nil => rw [eB, hP'] at hbl; cases hbl
      | cons b0 B' =>
        rw [eB] at k' hbl hwt
        rw [hP'] at hbl
        have k3 : Okl Z G0 ((b0, some (.ref p)) :: (bk P' B' ++ (S ++ (mvC ls (Γ1 t)).zip σ))) G' H' := l2 _ G' H' k'
        refine q cls d G' H' (hwt _ _ _ _ _ _ (bk_ok (P := P') (vs := vs) (B := B') hlp' hm hvp (Nat.succ.inj hbl) hl2 ⟨hcl, ?_⟩))
        have k4 := k3.drop
        rw [← List.append_assoc] at k4
        exact k4
theorem ex_makeG {ξ β α : Type} {n kk j : Nat} {A : ξ → List (Option Sl)} {Pm : ξ → List (Option Addr)} {Pre : ξ → Prop} {C : Addr} {fl : β → FsS} {f : ξ → Res β} {B : ξ → β → List (Option Sl)} {Be : ξ → List (Option Sl)} {ls : List (Option Nat)} {ps : List Str} {x : Str} {p pos : Pos} {e : Expr} {es : List Expr} {ta : TA} {m1 : Res α} {As : α → List (Option Sl)} {Γ1 : α → Ctx} {SP : Sp} (a : α → Addr → Addr → ξ)
    (kn : KnC X.prog X.w X.K X.mg X.base kk x C ps SP) (hi : SpI (spB n T A Pm Pre f (fun _ _ => sN) B Be) SP) (hr : Room j X.A) (tk : Takes X W) (ha : LX X T W Γx Γ (e :: es) ta ls m1 As Γ1) (hpin : ∀ t p dx, PinL (Pm (a t p dx)) (A (a t p dx))) (hpre : ∀ t p dx, Pre (a t p dx)) (hw : ∀ t p dx, Wk (bkC ls (Be (a t p dx)).tail (mvC ls (Γ1 t))) Γx) (hB1 : ∀ t p dx r, (B (a t p dx) r).head? = some (some (atP p (oob C (fl r)))) := by exact fun _ _ _ _ => rfl)
    (hA : ∀ t p dx, some (oobV C p dx [] []) :: mvA ls (Γ1 t) (As t) = A (a t p dx) := by exact fun _ _ _ => rfl) (hn : ∀ x, (A x).length = n := by exact fun _ => rfl) (hls : ∀ t, lsOk ls (Γ1 t).length = true := by exact fun _ => rfl) (hP : ∀ t p dx, (Pm (a t p dx)).head? = some (some p) := by exact fun _ _ _ => rfl) (hlp : ∀ x, LsP ls (Pm x).tail = true := by exact fun _ => rfl) (hB : ∀ x r, (B x r).length = (Pm x).length := by exact fun _ _ => rfl) (hBe : ∀ x, (Be x).length = (Pm x).length := by exact fun _ => rfl)
    (hf : ∀ t p dx p' dx', f (a t p dx) = f (a t p' dx') := by exact fun _ _ _ _ _ => rfl) (hBB : ∀ t p dx r, (B (a t p dx) r).tail = (B (a t 0 0) r).tail := by exact fun _ _ _ _ => rfl) (hj : kk + 1 ≤ j := by decide)
    (hg : Gl X x := by rfl) (hdb : (x == ("__debug__" : Str)) = false := by decide) (he : starEach (e :: es) X.env = (false, eval e X.env) :: starEach es X.env := by rfl) (hpl : (backTo pos (starEach es X.env)).any (·.1) = false := by rfl) :
    EX X T W Γx Γ (.Call (.Name x p) (e :: es) [] pos) (tMakeS C SP (WE W) ta) (m1.bind fun t => (f (a t 0 0)).bind fun r => .ok (t, r)) (fun t => oob C (fl t.2)) (fun t => bkC ls (B (a t.1 0 0) t.2).tail (mvC ls (Γ1 t.1))) := by
  obtain ⟨fa, fd, h1, h2, h3, FO⟩ := kn
  exact ⟨pe_makeS h2 FO (hr.mono hj) hg h1 h3 (fun σ => passAt tk σ) ha.pa hdb he hpl, makeG_ev hi ha hpin hpre hw hA hn hls hP hlp hB1 hB hBe hf hBB⟩
end
end Rt
/-! Rt44: more of what is lent. -/
namespace Rt
open PySem L2 R
theorem pin_hole {p : Addr} : Pin (hole (.ref p)) p := fun _ _ _ _ _ h => h.1
/-- only its place stays known -/
theorem wkh {C p dx : Addr} {fs : List (Str × V)} {l : FsS} {Γ Δ : Ctx} (w : Wk Γ Δ) : Wk (some (oobV C p dx fs l) :: Γ) (some (hole (.ref p)) :: Δ) := (w.cons (o := some (oobV C p dx fs l))).trans fun Z G0 S σ G H k => by
  obtain ⟨v, M, hw, k1, back⟩ := k.take (i := 0) (s := oobV C p dx fs l) rfl
  refine back (hole (.ref p)) G H ?_
  obtain ⟨ps, ⟨p1, p2, rfl, ⟨v', e1, r⟩, h4⟩, h2, h3⟩ := k1.own
  cases e1
  exact ⟨k1.zh, k1.gg, k1.gh, k1.fr, p2, ⟨[], p2, rfl, ⟨v, rfl, r.1, rfl⟩, h4⟩, (List.nodup_append.mp h2).2.1, fun q hq => h3 q (List.mem_append_right _ hq)⟩
section
variable {X : Cx} {T : XT} {W : WX} {Γx Γ : Ctx} {K : PySem.W.Frag}
theorem s1_exprV {e : Expr} {te : TE} {pos : Pos} {α ν : Type} {me : Res α} {mn : Res ν} {R : α → Sl} {Γo : α → Ctx} {Γ' : ν → Ctx} {f : α → ν} (he : EX X T W Γx Γ e te me R Γo) (hΓ : ∀ t, Γo t = Γ' (f t) := by exact fun _ => rfl) (hb : Bd mn me (fun t => .ok (f t)) := by intros; repeat (first | ((with_reducible refine Bd.done ?_); exact rfl) | with_reducible refine Bd.okl ?_ | with_reducible refine Bd.assoc ?_ | with_reducible refine Bd.bind fun _ => ?_ | with_reducible refine Bd.eta fun _ => ?_ | with_reducible refine Bd.iteB ?_ ?_ fun _ => ?_ | with_reducible refine Bd.iteE ?_ ?_ fun _ => ?_ | with_reducible refine Bd.ite ?_ ?_ | with_reducible refine Bd.iteL ?_ ?_ | with_reducible refine Bd.assocL ?_ | with_reducible refine Bd.oklL ?_ | with_reducible exact Bd.same | with_reducible exact Bd.at | dsimp only)) (hs : swapsWith e none pos.line X.env = pure false := by rfl) :
    S1 X T W Γx Γ (.Expr e pos) (tDrop te) mn (fun y => .nx (Γ' y)) := s1_expr he hΓ hb hs
end
end Rt
/-! Rt46: zip of a list or a text with a list or a text, to a pair. -/
namespace L2
open PySem PySem.Spec PyProof.Rows
/-- what zip walks over: the list at a, the text x -/
inductive Zs
  | L (a : Addr)
  | T (x : Str)
namespace Zs
def v : Zs → V
  | L a => .ref a
  | T x => .str x
def st (it : Addr) (i : Nat) (h : Heap) : Zs → Prop
  | L a => h.IsListIter it a i
  | T x => ∃ t, h.IsStrIter it (strIterType x) x t i
def at_ (K : PySem.W.Frag) (i : Nat) (H : Hp) (y : V) : Zs → Prop
  | L a => ∃ xs, SqL K H a xs ∧ xs[i]? = some y
  | T x => ∃ c, x.cps[i]? = some c ∧ y = .str ⟨#[c]⟩
def is (K : PySem.W.Frag) (i : Nat) (H : Hp) (y : V) : Zs → Prop
  | L a => ∀ xs, SqL K H a xs → xs[i]? = some y
  | T x => ∃ c, x.cps[i]? = some c ∧ y = .str ⟨#[c]⟩
def le (K : PySem.W.Frag) (i : Nat) (H : Hp) : Zs → Prop
  | L a => ∃ xs, SqL K H a xs ∧ i ≤ xs.length
  | T x => i ≤ x.cps.size
def eq (K : PySem.W.Frag) (i : Nat) (H : Hp) : Zs → Prop
  | L a => ∃ xs, SqL K H a xs ∧ i = xs.length
  | T x => i = x.cps.size
/-- what may stand beside the iterator's cell -/
def apart (bs : List Addr) : Zs → Prop
  | L a => ∀ b ∈ bs, a ≠ b
  | T _ => True
end Zs
/-- an item, drawn -/
structure ZDr (prog : Program) (w : World) (A : Around) (it : Addr) (z : Zs) (K : PySem.W.Frag) (H : Hp) (s : Shared) (i : Nat) (fp : List Addr) (n : Nat) (P : Nat → Value → Prop) (St : Nat → Heap → Prop) : Prop where
  D : Draws prog w A it fp n P St
  st : St i s.heap
  back : ∀ j h, St j h → z.st it j h
  mem : it ∈ fp
  is : ∀ b ∈ fp, b = it ∨ ∃ a, z = .L a ∧ b = a
theorem zdr {X : Cx} {pins : List (Addr × Obj)} {σ : St} {H : Hp} {s : Shared} (I : Inv X pins σ H s) (hh : X.A.in1.handled = none) {it : Addr} {z : Zs} {i : Nat} (st : z.st it i s.heap) (ha : z.apart [it]) (hl : z.le X.K i H) :
    ∃ fp n P St, ZDr X.prog X.w X.A.in1 it z X.K H s i fp n P St ∧ (z.eq X.K i H → i = n) ∧ i ≤ n ∧ ((∃ y, z.at_ X.K i H y) → i < n) ∧ ∀ y u, z.at_ X.K i H y → P i u → RelV y u ∧ z.is X.K i H y := by
  cases z with
  | L a =>
    obtain ⟨xs, hq, hi⟩ := hl
    obtain ⟨its, rv, p, _⟩ := I.list hq
    have hlen := rv.length
    refine ⟨_, _, _, _, ⟨Draws.list hh it a (ha it (by simp)) its.toArray, ⟨st, p.isList⟩, fun j h q => q.1, by simp, fun b hb => ?_⟩, fun ⟨ys, hy, e⟩ => ?_, by simp; omega, fun ⟨y, ys, hy, e⟩ => ?_, fun y u ⟨ys, hy, e⟩ q => ⟨?_, fun zs hz => ?_⟩⟩
    · have e' : b = it ∨ b = a := by simpa using hb
      rcases e' with q | q
      · exact .inl q
      · exact .inr ⟨a, rfl, q⟩
    · rw [I.list_inj hy hq] at e
      simp
      omega
    · rw [I.list_inj hy hq] at e
      have := (List.getElem?_eq_some_iff.mp e).1
      simp
      omega
    · rw [I.list_inj hy hq] at e
      obtain ⟨u', hu, ru⟩ := rv.get e
      have q' : its[i]? = some u := by simpa using q
      rw [hu] at q'
      cases q'
      exact ru
    · rw [I.list_inj hz hy]
      exact e
  | T x =>
    obtain ⟨t, st⟩ := st
    refine ⟨_, _, _, _, ⟨Draws.text hh it x t, st, fun j h q => ⟨t, q⟩, by simp, fun b hb => .inl (by simpa using hb)⟩, fun e => e, hl, fun ⟨y, c, hc, _⟩ => ?_, fun y u ⟨c, hc, e⟩ q => ?_⟩
    · exact (Array.getElem?_eq_some_iff.mp hc).1
    · obtain ⟨c', t', hc', rfl⟩ := q
      rw [hc] at hc'
      cases hc'
      exact ⟨e ▸ ⟨_, rfl⟩, c, hc, e⟩
def Itg (K : PySem.W.Frag) (z1 z2 : Zs) : It :=
  ⟨fun i H => (z1.le K i H ∧ z2.le K i H) ∧ ∃ x y, z1.at_ K i H x ∧ z2.at_ K i H y,
    fun i H v H' => ∃ T x y, v = .ref T ∧ H T = none ∧ H' = upd H T (.tup [x, y]) ∧ z1.is K i H x ∧ z2.is K i H y,
    fun i H => (z1.le K i H ∧ z2.le K i H) ∧ (z1.eq K i H ∨ z2.eq K i H)⟩
theorem Zs.st_live {z : Zs} {it : Addr} {i : Nat} {h : Heap} (st : z.st it i h) : ∃ o, h.get? it = some o ∧ ∀ v, o.data ≠ .cell v := by
  cases z with
  | L a =>
    obtain ⟨o, e, _, d⟩ := st
    exact ⟨o, e, fun v q => by rw [d] at q; cases q⟩
  | T x =>
    obtain ⟨t, o, e, _, d⟩ := st
    exact ⟨o, e, fun v q => by rw [d] at q; cases q⟩
theorem Zs.st_keep {z : Zs} {it : Addr} {i : Nat} {h h' : Heap} (st : z.st it i h) (k : ∀ o, h.get? it = some o → h'.get? it = some o) : z.st it i h' := by
  cases z with
  | L a => exact st.at k
  | T x =>
    obtain ⟨t, o, e, r⟩ := st
    exact ⟨t, o, k o e, r⟩
/-- the cells of the zip lie apart -/
structure ZSep (z TI TO i1 i2 : Addr) (z1 z2 : Zs) : Prop where
  nd : [z, TI, TO, i1, i2].Nodup
  a1 : z1.apart [z, TI, TO, i1, i2]
  a2 : z2.apart [z, TI, TO, i1, i2]
theorem ZSep.sep {P : Program} {w : World} {A : Around} {K : PySem.W.Frag} {H : Hp} {s : Shared} {i : Nat} {z TI TO i1 i2 : Addr} {z1 z2 : Zs} {fp1 fp2 : List Addr} {n1 n2 : Nat} {P1 P2 : Nat → Value → Prop} {St1 St2 : Nat → Heap → Prop} (S : ZSep z TI TO i1 i2 z1 z2) (D1 : ZDr P w A i1 z1 K H s i fp1 n1 P1 St1) (D2 : ZDr P w A i2 z2 K H s i fp2 n2 P2 St2) : ZipSep2 z TI TO i1 i2 fp1 fp2 := by
  obtain ⟨nd, a1, a2⟩ := S
  have out1 : ∀ b ∈ [z, TI, TO, i1, i2], b ≠ i1 → b ∉ fp1 := fun b hb ne h => by
    rcases D1.is b h with q | ⟨a, rfl, q⟩
    · exact ne q
    · exact a1 b hb q.symm
  have out2 : ∀ b ∈ [z, TI, TO, i1, i2], b ≠ i2 → b ∉ fp2 := fun b hb ne h => by
    rcases D2.is b h with q | ⟨a, rfl, q⟩
    · exact ne q
    · exact a2 b hb q.symm
  simp only [List.nodup_cons, List.mem_cons, List.not_mem_nil, or_false, not_or, not_false_eq_true, List.nodup_nil, and_true] at nd
  obtain ⟨⟨x1, x2, x3, x4⟩, ⟨y1, y2, y3⟩, ⟨w1, w2⟩, v1⟩ := nd
  exact ⟨Ne.symm x1, Ne.symm x2, y1, y2, D1.mem, out1 z (by simp) x3, out1 TO (by simp) w1, y3, D2.mem, out2 z (by simp) x4, out2 TO (by simp) w2, out2 i1 (by simp) v1, out1 i2 (by simp) (Ne.symm v1)⟩
theorem turn_zipG {P : Program} {w : World} {K : PySem.W.Frag} {elts : List Expr} {kk : Nat} {tpos : Pos} {z TI TO i1 i2 : Addr} {z1 z2 : Zs} (S : ZSep z TI TO i1 i2 z1 z2) :
    Turn P w K (.Tuple elts kk tpos) (Itg K z1 z2) [z, TI, TO, i1, i2] z (fun i h => IsZip h z TI TO .none ∧ IsPair h TI (.ref i1) (.ref i2) ∧ (∃ x y, IsPair h TO x y) ∧ z1.st i1 i h ∧ z2.st i2 i h) where
  mem := by simp
  obj := fun i h st c hc => by
    obtain ⟨hz, hTI, ⟨x, y, hTO⟩, s1, s2⟩ := st
    have e' : c = z ∨ c = TI ∨ c = TO ∨ c = i1 ∨ c = i2 := by simpa using hc
    rcases e' with q | q | q | q | q <;> rw [q]
    · exact ⟨_, hz, fun v q => nomatch q⟩
    · exact ⟨_, hTI, fun v q => nomatch q⟩
    · exact ⟨_, hTO, fun v q => nomatch q⟩
    · exact Zs.st_live s1
    · exact Zs.st_live s2
  keep := fun i h h' st k => by
    obtain ⟨hz, hTI, ⟨x, y, hTO⟩, s1, s2⟩ := st
    exact ⟨k z (by simp) _ hz, k TI (by simp) _ hTI, ⟨x, y, k TO (by simp) _ hTO⟩, Zs.st_keep s1 fun o q => k i1 (by simp) o q, Zs.st_keep s2 fun o q => k i2 (by simp) o q⟩
  item := by
    intro X hP hw hK hc i pins s σ H E I hf st hg
    subst hP hw hK
    obtain ⟨hz, hTI, ⟨x0, y0, hTO⟩, s1, s2⟩ := st
    obtain ⟨⟨l1, l2⟩, x, y, g1, g2⟩ := hg
    have sub : ∀ {zz : Zs} {j : Addr}, j ∈ [z, TI, TO, i1, i2] → zz.apart [z, TI, TO, i1, i2] → zz.apart [j] := fun {zz j} hj h => by
      cases zz with
      | L a => exact fun b hb => h b (by rw [List.mem_singleton.mp hb]; exact hj)
      | T _ => trivial
    obtain ⟨fp1, n1, P1, St1, D1, _, _, lt1, v1⟩ := zdr I (I.ok.hd hc) s1 (sub (by simp) S.a1) l1
    obtain ⟨fp2, n2, P2, St2, D2, _, _, lt2, v2⟩ := zdr I (I.ok.hd hc) s2 (sub (by simp) S.a2) l2
    have Z := S.sep D1 D2
    have hzl : z < s.heap.objs.size := Heap.lt_size hz
    refine wpAny_pyNext_zipD2_item Z D1.D D2.D hz hTI hTO D1.st D2.st (lt1 ⟨x, g1⟩) (lt2 ⟨y, g2⟩) fun u u2 h' tk hu hu2 z' TO' t1 t2 hT hsz hk => ?_
    obtain ⟨ru, w1⟩ := v1 x u g1 hu
    obtain ⟨ru2, w2⟩ := v2 y u2 g2 hu2
    refine ⟨_, rfl, wpAny_letOwnedTupleGo_zip (s := { s with heap := h', toks := tk }) z' fun h'' z'' sb => ?_⟩
    have hT2 : h''.get? s.heap.objs.size = some { cls := .type "tuple", data := .seq #[u, u2] } := (sb.2 _ (Nat.ne_of_gt hzl)).trans hT
    have new : ObjOk X.prog X.w (upd H s.heap.objs.size (.tup [x, y])) h'' s.heap.objs.size (.tup [x, y]) :=
      ⟨by show 2 ≤ sizeLine; decide, [u, u2], .cons ru (.cons ru2 .nil), ⟨_, hT2, rfl, _, rfl⟩⟩
    have I1 : Inv X pins σ (upd H s.heap.objs.size (.tup [x, y])) { s with heap := h'', toks := tk } :=
      I.turnedNew (ch := [z, TI, TO, i1, i2]) (fun c o hb q => (sb.2 c (fun q' => hb (by simp [q']))).trans (hk c o (fun q' => hb (by simp [q'])) (fun q' => hb (by simp [q'])) (fun q' => hb (by simp [q'])) (fun q' => hb (by simp [q'])) q)) hf (Nat.le_refl _) new
    refine ⟨.ref s.heap.objs.size, _, I1, rfl, ⟨_, x, y, rfl, I.hok.fresh (Nat.le_refl _), rfl, w1, w2⟩, ⟨z'', ?_, ⟨u, u2, ?_⟩, ?_, ?_⟩, fun c hcm => ?_⟩
    · exact (sb.2 _ Z.TIz).trans (hk _ _ Z.TIz Z.TITO Z.TIi1 Z.TIi2 hTI)
    · exact (sb.2 _ Z.TOz).trans TO'
    · exact Zs.st_keep (D1.back _ _ t1) fun o q => (sb.2 _ (Ne.symm Z.zi1)).trans q
    · exact Zs.st_keep (D2.back _ _ t2) fun o q => (sb.2 _ (Ne.symm Z.zi2)).trans q
    · have hlt : c < s.heap.objs.size := by
        have e' : c = z ∨ c = TI ∨ c = TO ∨ c = i1 ∨ c = i2 := by simpa using hcm
        rcases e' with q | q | q | q | q <;> rw [q]
        · exact hzl
        · exact Heap.lt_size hTI
        · exact Heap.lt_size hTO
        · obtain ⟨_, e1, _⟩ := Zs.st_live s1; exact Heap.lt_size e1
        · obtain ⟨_, e2, _⟩ := Zs.st_live s2; exact Heap.lt_size e2
      rw [upd_ne (Nat.ne_of_lt hlt)]
      exact (hf c hcm).1
  done := by
    intro X hP hw hK hc i pins s σ H E I hf st hg
    subst hP hw hK
    obtain ⟨hz, hTI, ⟨x0, y0, hTO⟩, s1, s2⟩ := st
    obtain ⟨⟨l1, l2⟩, he⟩ := hg
    have sub : ∀ {zz : Zs} {j : Addr}, j ∈ [z, TI, TO, i1, i2] → zz.apart [z, TI, TO, i1, i2] → zz.apart [j] := fun {zz j} hj h => by
      cases zz with
      | L a => exact fun b hb => h b (by rw [List.mem_singleton.mp hb]; exact hj)
      | T _ => trivial
    obtain ⟨fp1, n1, P1, St1, D1, e1, le1, _, _⟩ := zdr I (I.ok.hd hc) s1 (sub (by simp) S.a1) l1
    obtain ⟨fp2, n2, P2, St2, D2, e2, le2, _, _⟩ := zdr I (I.ok.hd hc) s2 (sub (by simp) S.a2) l2
    refine wpAny_pyNext_zipD2_end (S.sep D1 D2) D1.D D2.D hz hTI hTO D1.st D2.st le1 le2 (he.imp e1 e2) fun h' tk hk => ⟨rfl, I.turnedL (ch := [z, TI, TO, i1, i2]) (fun c o hb q =>
      hk c o (fun q' => hb (by simp [q'])) (fun q' => hb (by simp [q'])) (fun q' => hb (by simp [q'])) (fun q' => hb (by simp [q'])) q) hf⟩
  self := fun A i s Q E st h => wpAny_pyIter_zip st.1 h
def Zs.here (K : PySem.W.Frag) (H : Hp) : Zs → Prop
  | .L a => ∃ xs, SqL K H a xs
  | .T _ => True
theorem Zs.begins {X : Cx} {pins : List (Addr × Obj)} {σ : St} {H : Hp} {s : Shared} (I : Inv X pins σ H s) {z : Zs} {u : Value} (r : RelV z.v u) (h : z.here X.K H) :
    ∃ o Hc, Begins u o Hc ∧ Hc s.heap ∧ (∀ it h', h'.get? it = some o → z.st it 0 h') ∧ ∀ bs : List Addr, (∀ b ∈ bs, s.heap.objs.size ≤ b) → z.apart bs := by
  cases z with
  | L a =>
    obtain ⟨xs, hq⟩ := h
    obtain ⟨its, rv, p, _⟩ := I.list hq
    obtain rfl : u = Value.ref a := r
    refine ⟨_, _, begins_list a its.toArray, p.isList, fun it h' e => ⟨_, e, rfl, rfl⟩, fun bs hb b hm => ?_⟩
    exact Nat.ne_of_lt (Nat.lt_of_lt_of_le p.lt (hb b hm))
  | T x =>
    obtain ⟨t, rfl⟩ := r
    exact ⟨_, _, begins_text x t, trivial, fun it h' e => ⟨t, _, e, rfl, rfl⟩, fun _ _ => trivial⟩
def iZipG (K : PySem.W.Frag) (ta : TA) : TI := fun σ H R => ta σ H fun vs H1 => ∃ z1 z2 : Zs, vs = [z1.v, z2.v] ∧ z1.here K H1 ∧ z2.here K H1 ∧ R (Itg K z1 z2) H1
theorem pi_zipG {X : Cx} {e e2 : Expr} {ta : TA} {p pos tpos : Pos} {elts : List Expr} {kk : Nat} (hg : Gl X "zip") (hm : X.mg "zip" = none) (ha : PA X [e, e2] ta)
    (hs : starEach [e, e2] X.env = (false, eval e X.env) :: starEach [e2] X.env := by rfl) (hpl : (backTo pos (starEach [e2] X.env)).any (·.1) = false := by rfl) :
    PI X (.Tuple elts kk tpos) (.Call (.Name "zip" p) [e, e2] [] pos) (iZipG X.K ta) := by
  refine ⟨fun pins s σ H R I h => ?_⟩
  refine Call_ (ld_blt I hg hm PyProof.Rows.boot_zip (PyProof.Rows.callWith_type1 (thn (ha.run pos pins s σ H _ I h) fun us s1 ⟨vs, H1, I1, r1, z1, z2, ex, q1, q2, q⟩ => ?_) hs hpl))
  subst ex
  cases r1 with
  | cons r rr =>
    cases rr with
    | cons r' rr =>
      cases rr
      obtain ⟨o1, Hc1, B1, c1, s1', ap1⟩ := Zs.begins I1 r q1
      obtain ⟨o2, Hc2, B2, c2, s2', ap2⟩ := Zs.begins I1 r' q2
      have ge : ∀ b ∈ [s1.heap.objs.size + 4, s1.heap.objs.size + 2, s1.heap.objs.size + 3, s1.heap.objs.size, s1.heap.objs.size + 1], s1.heap.objs.size ≤ b := fun b hb => by
        have e' : b = s1.heap.objs.size + 4 ∨ b = s1.heap.objs.size + 2 ∨ b = s1.heap.objs.size + 3 ∨ b = s1.heap.objs.size ∨ b = s1.heap.objs.size + 1 := by simpa using hb
        rcases e' with z | z | z | z | z <;> rw [z]
        · exact Nat.le_add_right _ _
        · exact Nat.le_add_right _ _
        · exact Nat.le_add_right _ _
        · exact Nat.le_refl _
        · exact Nat.le_add_right _ _
      refine zip_begins2 B1 B2 c1 c2 fun h' hz hTI hTO g1 g2 hsz hk => wpAny_pyIter_zip hz ?_
      have nd : ∀ N : Nat, [N + 4, N + 2, N + 3, N, N + 1].Nodup := fun N => by
        simp
      refine ⟨s1.heap.objs.size + 4, [s1.heap.objs.size + 4, s1.heap.objs.size + 2, s1.heap.objs.size + 3, s1.heap.objs.size, s1.heap.objs.size + 1], _, _, H1, rfl, I1.kept (t' := s1.toks) hk, turn_zipG (i1 := s1.heap.objs.size) (i2 := s1.heap.objs.size + 1) ⟨nd _, ap1 _ ge, ap2 _ ge⟩, ⟨hz, hTI, ⟨_, _, hTO⟩, s1' _ _ g1, s2' _ _ g2⟩, fun c hcm => I1.fpOk (ge c hcm) (I1.hok.fresh (ge c hcm)), q⟩
end L2
/-! Rt50: owned dicts that own their values. -/
namespace Rt
open PySem L2 R
/-! ### tables, the first place of a key -/
section
variable {κ σ : Type} [DecidableEq κ]
def putT (k : κ) (s : σ) : List (κ × σ) → List (κ × σ)
  | [] => [(k, s)]
  | (g, x) :: r => if g = k then (g, s) :: r else (g, x) :: putT k s r
theorem putT_out {k : κ} {s : σ} : ∀ {l : List (κ × σ)}, k ∉ l.map (·.1) → putT k s l = l ++ [(k, s)]
  | [], _ => rfl
  | (g, x) :: r, h => by
    have hg : ¬ g = k := fun e => h (by rw [e]; exact List.mem_cons_self)
    rw [putT, if_neg hg, putT_out fun m => h (List.mem_cons_of_mem _ m)]
    rfl
theorem dput_putT {k : κ} {s : σ} : ∀ {l : List (κ × σ)}, (l.map (·.1)).Nodup → dput l k s = putT k s l
  | [], _ => rfl
  | (g, x) :: r, nd => by
    have nd' := List.nodup_cons.mp nd
    by_cases h : g = k
    · subst h
      have hr : r.map (fun p => if p.1 = g then (p.1, s) else p) = r := by
        have : ∀ p ∈ r, (if p.1 = g then (p.1, s) else p) = p := fun p hp => if_neg fun e => nd'.1 (by show g ∈ List.map (·.1) r; rw [← e]; exact List.mem_map.mpr ⟨p, hp, rfl⟩)
        exact (List.map_congr_left this).trans (List.map_id' r)
      unfold dput
      rw [if_pos (by simp), putT, if_pos rfl, List.map_cons, if_pos rfl]
      exact congrArg _ hr
    · have ih := dput_putT (k := k) (s := s) nd'.2
      rw [putT, if_neg h, ← ih]
      unfold dput
      rw [List.any_cons, decide_eq_false h, Bool.false_or]
      by_cases z : (r.any fun p => decide (p.1 = k)) = true
      · rw [if_pos z, if_pos z, List.map_cons, if_neg h]
      · rw [if_neg z, if_neg z]
        rfl
theorem putT_keys {τ : Type} {k : κ} {s : σ} {w : τ} : ∀ {l : List (κ × σ)} {m : List (κ × τ)}, m.map (·.1) = l.map (·.1) → (putT k w m).map (·.1) = (putT k s l).map (·.1)
  | [], [], _ => rfl
  | [], _ :: _, h => by cases h
  | _ :: _, [], h => by cases h
  | (g, x) :: r, (g', y) :: m, h => by
    rw [List.map_cons, List.map_cons] at h
    injection h with h1 h2
    have h1' : g' = g := h1
    subst h1'
    rw [putT, putT]
    split
    · rw [List.map_cons, List.map_cons, h2]
    · rw [List.map_cons, List.map_cons, putT_keys h2]
theorem putT_nodup {k : κ} {s : σ} : ∀ {l : List (κ × σ)}, (l.map (·.1)).Nodup → ((putT k s l).map (·.1)).Nodup := by
  intro l nd
  by_cases h : k ∈ l.map (·.1)
  · have same : ∀ {l : List (κ × σ)}, k ∈ l.map (·.1) → (putT k s l).map (·.1) = l.map (·.1) := by
      intro l
      induction l with
      | nil => intro h; cases h
      | cons p r ih =>
        intro h
        obtain ⟨g, x⟩ := p
        rw [putT]
        split
        · rfl
        · rename_i hg
          rw [List.map_cons, List.map_cons, ih]
          rcases List.mem_cons.mp h with z | z
          · exact absurd z.symm hg
          · exact z
    rw [same h]
    exact nd
  · rw [putT_out h, List.map_append]
    refine List.nodup_append.mpr ⟨nd, by simp, fun a ha b hb e => ?_⟩
    have : b = k := by simpa using hb
    exact h (by rw [← this, ← e]; exact ha)
theorem dget_pos {l : List (κ × σ)} {p : κ × σ} {k : κ} (h : p.1 = k) : dget (p :: l) k = some p.2 := by
  unfold dget
  rw [List.find?_cons, decide_eq_true h]
  rfl
theorem dget_neg {l : List (κ × σ)} {p : κ × σ} {k : κ} (h : ¬ p.1 = k) : dget (p :: l) k = dget l k := by
  unfold dget
  rw [List.find?_cons, decide_eq_false h]
theorem dget_lmap {τ : Type} {f : σ → τ} {k : κ} : ∀ {l : List (κ × σ)}, dget (l.map fun p => (p.1, f p.2)) k = (dget l k).map f
  | [] => rfl
  | p :: r => by
    rw [List.map_cons]
    by_cases h : p.1 = k
    · rw [dget_pos (p := (p.1, f p.2)) h, dget_pos h]
      rfl
    · rw [dget_neg (p := (p.1, f p.2)) h, dget_neg h, dget_lmap]
theorem putT_map {τ : Type} {f : σ → τ} {k : κ} {s : σ} : ∀ {l : List (κ × σ)}, putT k (f s) (l.map fun p => (p.1, f p.2)) = (putT k s l).map fun p => (p.1, f p.2)
  | [] => rfl
  | p :: r => by
    obtain ⟨g, x⟩ := p
    rw [List.map_cons, putT, putT]
    split
    · rfl
    · rw [List.map_cons, putT_map]
theorem putT_putT {k : κ} {s s' : σ} : ∀ {l : List (κ × σ)}, putT k s (putT k s' l) = putT k s l
  | [] => by
    show putT k s [(k, s')] = [(k, s)]
    rw [putT, if_pos rfl]
  | (g, x) :: r => by
    rw [putT, putT]
    split
    · rename_i h
      rw [putT, if_pos h]
    · rename_i h
      rw [putT, if_neg h, putT_putT]
theorem dget_in {l : List (κ × σ)} {k : κ} : (dget l k).isSome = true ↔ k ∈ l.map (·.1) := by
  induction l with
  | nil => simp [dget]
  | cons p r ih =>
    by_cases h : p.1 = k
    · rw [dget_pos h, List.map_cons]
      exact ⟨fun _ => by rw [← h]; exact List.mem_cons_self, fun _ => rfl⟩
    · rw [dget_neg h, ih, List.map_cons, List.mem_cons]
      exact ⟨Or.inr, fun z => z.resolve_left fun e => h e.symm⟩
end
/-! ### the slot -/
section
variable {κ : Type} [DecidableEq κ]
/-- slots and the values in them -/
def vS : List (κ × Sl) → List (κ × V) → List Pl
  | x :: l, y :: m => (some x.2, some y.2) :: vS l m
  | _, _ => []
/-- an owned dict whose values are owned with it -/
def ods (kk : Kk κ) (l : List (κ × Sl)) : Sl := ⟨fun G H v ps => ∃ p kvs qs, v = .ref p ∧ ps = p :: qs ∧ H p = some (kk.ho kvs) ∧ kvs.map (·.1) = l.map (·.1) ∧ (l.map (·.1)).Nodup ∧ All G H (vS l kvs) qs, fun h e k => by
  obtain ⟨p, kvs, qs, h1, h2, h3, h4, h5, h6⟩ := h
  refine ⟨p, kvs, qs, h1, h2, ?_, h4, h5, h6.mono e fun q hq => k q (by rw [h2]; exact List.mem_cons_of_mem _ hq)⟩
  rw [k p (by rw [h2]; exact List.mem_cons_self)]
  exact h3⟩
theorem vs_focus {G H : Hp} {k : κ} {s : Sl} : ∀ {l : List (κ × Sl)} {kvs : List (κ × V)} {qs : List Addr}, kvs.map (·.1) = l.map (·.1) → dget l k = some s → All G H (vS l kvs) qs → ∃ w q1 q2, valV kvs k = some w ∧ qs.Perm (q1 ++ q2) ∧ s.rel G H w q1 ∧ All G H (vS (putT k (hole w) l) kvs) q2
  | [], _, _, _, h, _ => by cases h
  | _ :: _, [], _, h, _, _ => by cases h
  | (g, x) :: l, (g', u) :: kvs, qs, h, hl, a => by
    rw [List.map_cons, List.map_cons] at h
    injection h with h1 h2
    have h1' : g' = g := h1
    subst h1'
    obtain ⟨q2, q3, rfl, a2, a3⟩ := a
    by_cases z : g' = k
    · rw [dget_pos (p := (g', x)) z] at hl
      cases hl
      obtain ⟨u', e, r⟩ := a2
      cases e
      refine ⟨u, q2, q3, valV_pos (p := (g', u)) z, .refl _, r, ?_⟩
      rw [putT, if_pos z]
      exact ⟨[], q3, rfl, ⟨u, rfl, rfl, rfl⟩, a3⟩
    · rw [dget_neg (p := (g', x)) z] at hl
      obtain ⟨w, q1, q4, hw, pr, r, b⟩ := vs_focus h2 hl a3
      refine ⟨w, q1, q2 ++ q4, by rw [valV_neg (p := (g', u)) z]; exact hw, ?_, r, ?_⟩
      · refine (List.Perm.append_left q2 pr).trans ?_
        rw [← List.append_assoc, ← List.append_assoc]
        exact List.Perm.append_right _ List.perm_append_comm
      · rw [putT, if_neg z]
        exact ⟨q2, q4, rfl, a2, b⟩
theorem vs_unfocus {G H : Hp} {k : κ} {s : Sl} {w : V} {q1 : List Addr} (hs : s.rel G H w q1) : ∀ {l : List (κ × Sl)} {kvs : List (κ × V)} {q2 : List Addr}, kvs.map (·.1) = l.map (·.1) → k ∈ l.map (·.1) → valV kvs k = some w → All G H (vS (putT k (hole w) l) kvs) q2 → ∃ qs, (q1 ++ q2).Perm qs ∧ All G H (vS (putT k s l) kvs) qs
  | [], _, _, _, h, _, _ => by cases h
  | _ :: _, [], _, h, _, _, _ => by cases h
  | (g, x) :: l, (g', u) :: kvs, q2, h, hk, hf, a => by
    rw [List.map_cons, List.map_cons] at h
    injection h with h1 h2
    have h1' : g' = g := h1
    subst h1'
    rw [putT] at a ⊢
    by_cases z : g' = k
    · rw [valV_pos (p := (g', u)) z] at hf
      cases hf
      rw [if_pos z] at a ⊢
      obtain ⟨q3, q4, rfl, ⟨u', e, r1, r2⟩, a2⟩ := a
      cases e
      subst r2
      exact ⟨q1 ++ q4, .refl _, q1, q4, rfl, ⟨_, rfl, hs⟩, a2⟩
    · rw [valV_neg (p := (g', u)) z] at hf
      rw [if_neg z] at a ⊢
      obtain ⟨q3, q4, rfl, a1, a2⟩ := a
      have hk' : k ∈ l.map (·.1) := by
        rcases List.mem_cons.mp hk with y | y
        · exact absurd y.symm z
        · exact y
      obtain ⟨qs, pr, b⟩ := vs_unfocus hs h2 hk' hf a2
      refine ⟨q3 ++ qs, ?_, q3, qs, rfl, a1, b⟩
      refine List.Perm.trans ?_ (List.Perm.append_left q3 pr)
      rw [← List.append_assoc, ← List.append_assoc]
      exact List.Perm.append_right _ List.perm_append_comm
theorem vs_put {G H : Hp} {k : κ} {s : Sl} {w : V} : ∀ {l : List (κ × Sl)} {kvs : List (κ × V)} {qs : List Addr}, kvs.map (·.1) = l.map (·.1) → All G H ((some s, some w) :: vS l kvs) qs → ∃ qs' r, qs.Perm (qs' ++ r) ∧ All G H (vS (putT k s l) (putT k w kvs)) qs'
  | [], [], qs, _, a => ⟨qs, [], by rw [List.append_nil], a⟩
  | [], _ :: _, _, h, _ => by cases h
  | _ :: _, [], _, h, _ => by cases h
  | (g, x) :: l, (g', u) :: kvs, qs, h, a => by
    rw [List.map_cons, List.map_cons] at h
    injection h with h1 h2
    have h1' : g' = g := h1
    subst h1'
    obtain ⟨q1, q23, rfl, a1, q2, q3, rfl, a2, a3⟩ := a
    rw [putT, putT]
    by_cases z : g' = k
    · rw [if_pos z, if_pos z]
      refine ⟨q1 ++ q3, q2, ?_, q1, q3, rfl, a1, a3⟩
      rw [List.append_assoc]
      exact List.Perm.append_left _ List.perm_append_comm
    · rw [if_neg z, if_neg z]
      obtain ⟨qs', r, pr, b⟩ := vs_put (k := k) h2 (show All G H ((some s, some w) :: vS l kvs) (q1 ++ q3) from ⟨q1, q3, rfl, a1, a3⟩)
      refine ⟨q2 ++ qs', r, ?_, q2, qs', rfl, a2, b⟩
      rw [List.append_assoc]
      refine List.Perm.trans ?_ (List.Perm.append_left q2 pr)
      rw [← List.append_assoc, ← List.append_assoc]
      exact List.Perm.append_right _ List.perm_append_comm
theorem val_in {kvs : List (κ × V)} {k : κ} (h : valV kvs k = none) : k ∉ kvs.map (·.1) := by
  induction kvs with
  | nil => exact fun z => by cases z
  | cons p r ih =>
    intro z
    by_cases e : p.1 = k
    · rw [valV_pos e] at h
      cases h
    · rw [valV_neg e] at h
      rcases List.mem_cons.mp z with y | y
      · exact e y.symm
      · exact ih h y
variable {Z G0 G H : Hp} {M : List Pl} {kk : Kk κ} {l : List (κ × Sl)} {v w : V} {s : Sl} {k : κ}
/-- the value of a key comes on top -/
theorem Okl.dfocus (j : Okl Z G0 ((some (ods kk l), some v) :: M) G H) (hk : dget l k = some s) :
    ∃ p kvs w, v = .ref p ∧ H p = some (kk.ho kvs) ∧ kvs.length = l.length ∧ valV kvs k = some w ∧ Okl Z G0 ((some s, some w) :: (some (ods kk (putT k (hole w) l)), some v) :: M) G H := by
  obtain ⟨ps, ⟨p2, p3, rfl, ⟨v', e2, p, kvs, qs, rfl, rfl, hp, hn, nd0, ha⟩, a3⟩, nd, h3⟩ := j.own
  cases e2
  obtain ⟨w, q1, q2, hw, pr, r, b⟩ := vs_focus hn hk ha
  have pm : (p :: qs ++ p3).Perm (q1 ++ (p :: q2 ++ p3)) := by
    have a : (p :: qs ++ p3).Perm (p :: (q1 ++ q2) ++ p3) := List.Perm.append_right _ (List.Perm.cons _ pr)
    refine a.trans ?_
    show (p :: (q1 ++ q2 ++ p3)).Perm _
    rw [List.append_assoc]
    exact (List.perm_middle (l₁ := q1) (l₂ := q2 ++ p3)).symm
  have kin : k ∈ l.map (·.1) := dget_in.mp (by rw [hk]; rfl)
  have ke : kvs.map (·.1) = (putT k (hole w) l).map (·.1) := by
    have same : ∀ {l : List (κ × Sl)}, k ∈ l.map (·.1) → (putT k (hole w) l).map (·.1) = l.map (·.1) := by
      intro l
      induction l with
      | nil => intro h; cases h
      | cons p r ih =>
        intro h
        obtain ⟨g, x⟩ := p
        rw [putT]
        split
        · rfl
        · rename_i hg
          rw [List.map_cons, List.map_cons, ih]
          rcases List.mem_cons.mp h with z | z
          · exact absurd z.symm hg
          · exact z
    rw [same kin]
    exact hn
  have len : kvs.length = l.length := by
    have := congrArg List.length hn
    rw [List.length_map, List.length_map] at this
    exact this
  exact ⟨p, kvs, w, rfl, hp, len, hw, j.zh, j.gg, j.gh, j.fr, q1 ++ (p :: q2 ++ p3), ⟨q1, p :: q2 ++ p3, rfl, ⟨w, rfl, r⟩, p :: q2, p3, rfl, ⟨.ref p, rfl, p, kvs, q2, rfl, rfl, hp, ke, putT_nodup nd0, b⟩, a3⟩, pm.nodup_iff.mp nd, fun q hq => h3 q (pm.mem_iff.mpr hq)⟩
theorem same_keys {x : Sl} : ∀ {l : List (κ × Sl)}, k ∈ l.map (·.1) → (putT k x l).map (·.1) = l.map (·.1) := by
  intro l
  induction l with
  | nil => intro h; cases h
  | cons p r ih =>
    intro h
    obtain ⟨g, y⟩ := p
    rw [putT]
    split
    · rfl
    · rename_i hg
      rw [List.map_cons, List.map_cons, ih]
      rcases List.mem_cons.mp h with z | z
      · exact absurd z.symm hg
      · exact z
theorem vs_hole {w : V} : ∀ {l : List (κ × Sl)} {kvs : List (κ × V)} {qs : List Addr}, kvs.map (·.1) = l.map (·.1) → k ∈ l.map (·.1) → All G H (vS (putT k (hole w) l) kvs) qs → valV kvs k = some w
  | [], _, _, _, h, _ => by cases h
  | _ :: _, [], _, h, _, _ => by cases h
  | (g, x) :: l, (g', u) :: kvs, qs, h, hk, a => by
    rw [List.map_cons, List.map_cons] at h
    injection h with h1 h2
    have h1' : g' = g := h1
    subst h1'
    rw [putT] at a
    by_cases z : g' = k
    · rw [if_pos z] at a
      obtain ⟨q3, q4, rfl, ⟨u', e, r1, r2⟩, a2⟩ := a
      have e' : u = u' := Option.some.inj e
      rw [valV_pos (p := (g', u)) z]
      show some u = some w
      rw [e', r1]
    · rw [if_neg z] at a
      obtain ⟨q3, q4, rfl, a1, a2⟩ := a
      rw [valV_neg (p := (g', u)) z]
      refine vs_hole h2 ?_ a2
      rcases List.mem_cons.mp hk with y | y
      · exact absurd y.symm z
      · exact y
/-- .. and goes back -/
theorem Okl.dunfocus (hk : k ∈ l.map (·.1)) (j : Okl Z G0 ((some s, some w) :: (some (ods kk (putT k (hole w) l)), some v) :: M) G H) :
    Okl Z G0 ((some (ods kk (putT k s l)), some v) :: M) G H := by
  obtain ⟨ps, ⟨p1, p23, rfl, ⟨w', e1, r1⟩, p2, p3, rfl, ⟨v', e2, p, kvs, qs, rfl, rfl, hp, hn, nd0, ha⟩, a3⟩, nd, h3⟩ := j.own
  cases e1
  cases e2
  have hn' : kvs.map (·.1) = l.map (·.1) := by rw [hn, same_keys hk]
  obtain ⟨qs', pr, b⟩ := vs_unfocus r1 hn' hk (vs_hole hn' hk ha) ha
  have pm : (p1 ++ (p :: qs ++ p3)).Perm (p :: qs' ++ p3) := by
    refine List.Perm.trans (List.perm_middle) (List.Perm.cons _ ?_)
    show (p1 ++ (qs ++ p3)).Perm (qs' ++ p3)
    rw [← List.append_assoc]
    exact List.Perm.append_right _ pr
  refine ⟨j.zh, j.gg, j.gh, j.fr, p :: qs' ++ p3, ⟨p :: qs', p3, rfl, ⟨.ref p, rfl, p, kvs, qs', rfl, rfl, hp, by rw [same_keys hk]; exact hn', ?_, b⟩, a3⟩, pm.nodup_iff.mp nd, fun q hq => h3 q (pm.mem_iff.mpr hq)⟩
  rw [same_keys hk]
  rw [same_keys hk] at nd0
  exact nd0
/-- a new value -/
theorem putK_putT {kvs : List (κ × V)} (nd : (kvs.map (·.1)).Nodup) : putK kvs k w = putT k w kvs := dput_putT (l := kvs) nd
theorem Okl.dputL (j : Okl Z G0 ((some s, some w) :: (some (ods kk l), some v) :: M) G H) :
    ∃ p kvs, v = .ref p ∧ H p = some (kk.ho kvs) ∧ kvs.length = l.length ∧ kvs.map (·.1) = l.map (·.1) ∧ Okl Z G0 ((some (ods kk (putT k s l)), some v) :: M) G (upd H p (kk.ho (putK kvs k w))) := by
  obtain ⟨ps, ⟨p1, p23, rfl, h1, p2, p3, rfl, ⟨v', e2, p, kvs, qs, rfl, rfl, hp, hn, nd0, ha⟩, a3⟩, nd, h3⟩ := j.own
  cases e2
  have len : kvs.length = l.length := by
    have := congrArg List.length hn
    rw [List.length_map, List.length_map] at this
    exact this
  have ndk : (kvs.map (·.1)).Nodup := by rw [hn]; exact nd0
  obtain ⟨qs', r, pr, b⟩ := vs_put (k := k) hn (show All G H ((some s, some w) :: vS l kvs) (p1 ++ qs) from ⟨p1, qs, rfl, h1, ha⟩)
  have pm : (p1 ++ (p :: qs ++ p3)).Perm (p :: (qs' ++ (r ++ p3))) := by
    refine List.Perm.trans (List.perm_middle) (List.Perm.cons _ ?_)
    show (p1 ++ (qs ++ p3)).Perm (qs' ++ (r ++ p3))
    rw [← List.append_assoc, ← List.append_assoc]
    exact List.Perm.append_right _ pr
  have nd' := pm.nodup_iff.mp nd
  have ndc := List.nodup_cons.mp nd'
  have nin : ∀ q ∈ qs', q ≠ p := fun q hq e => ndc.1 (by rw [← e]; exact List.mem_append_left _ hq)
  have nin3 : ∀ q ∈ p3, q ≠ p := fun q hq e => ndc.1 (by rw [← e]; exact List.mem_append_right _ (List.mem_append_right _ hq))
  obtain ⟨zp, gp, u, hu⟩ := h3 p (pm.mem_iff.mpr List.mem_cons_self)
  have sub : (qs' ++ p3).Sublist (qs' ++ (r ++ p3)) := List.Sublist.append (List.Sublist.refl _) (List.sublist_append_right _ _)
  refine ⟨p, kvs, rfl, hp, len, hn, fun a x e => ?_, j.gg, fun a x e => ?_, j.fr, p :: qs' ++ p3, ⟨p :: qs', p3, rfl, ⟨.ref p, rfl, p, putK kvs k w, qs', rfl, rfl, upd_same, ?_, putT_nodup nd0, ?_⟩, a3.mono (Evl.Ex.refl G) fun q hq => upd_ne (nin3 q hq)⟩, ?_, fun q hq => ?_⟩
  · rw [upd_ne (ne_of_none e zp)]
    exact j.zh a x e
  · rw [upd_ne (ne_of_none e gp)]
    exact j.gh a x e
  · rw [putK_putT ndk]
    exact putT_keys hn
  · rw [putK_putT ndk]
    exact b.mono (Evl.Ex.refl G) fun q hq => upd_ne (nin q hq)
  · exact List.nodup_cons.mpr ⟨fun m => ndc.1 (sub.subset m), ndc.2.sublist sub⟩
  · have hm : q ∈ p :: (qs' ++ (r ++ p3)) := by
      rcases List.mem_cons.mp hq with y | y
      · exact y ▸ List.mem_cons_self
      · exact List.mem_cons_of_mem _ (sub.subset y)
    obtain ⟨a, b, x, hx⟩ := h3 q (pm.mem_iff.mpr hm)
    refine ⟨a, b, ?_⟩
    by_cases e : q = p
    · subst e
      exact ⟨_, upd_same⟩
    · exact ⟨x, by rw [upd_ne e]; exact hx⟩
/-! ### frozen -/
def dSl (kk : Kk κ) (kvs : List (κ × V)) : Sl := ⟨fun _ H v ps => ∃ p, v = .ref p ∧ ps = [p] ∧ H p = some (kk.ho kvs), fun h _ q => by
  obtain ⟨p, h1, h2, h3⟩ := h
  refine ⟨p, h1, h2, ?_⟩
  rw [q p (by rw [h2]; exact List.mem_cons_self)]
  exact h3⟩
theorem Okl.dopen (j : Okl Z G0 ((some (ods kk l), some v) :: M) G H) : ∃ p kvs, v = .ref p ∧ H p = some (kk.ho kvs) ∧ kvs.map (·.1) = l.map (·.1) ∧ (l.map (·.1)).Nodup ∧ Okl Z G0 (vS l kvs ++ (some (dSl kk kvs), some v) :: M) G H := by
  obtain ⟨ps, ⟨p2, p3, rfl, ⟨v', e2, p, kvs, qs, rfl, rfl, hp, hn, nd0, ha⟩, a3⟩, nd, h3⟩ := j.own
  cases e2
  have pm : (p :: qs ++ p3).Perm (qs ++ (p :: p3)) := (List.perm_middle (a := p) (l₁ := qs) (l₂ := p3)).symm
  exact ⟨p, kvs, rfl, hp, hn, nd0, j.zh, j.gg, j.gh, j.fr, qs ++ (p :: p3), All.append.mpr ⟨qs, p :: p3, rfl, ha, [p], p3, rfl, ⟨.ref p, rfl, p, rfl, rfl, hp⟩, a3⟩, pm.nodup_iff.mp nd, fun q hq => h3 q (pm.mem_iff.mpr hq)⟩
/-- frozen, and what was frozen stays -/
theorem Okl.baseO (j : Okl Z G0 M G H) : Okl Z G M G H := ⟨j.zh, Evl.Ex.refl G, j.gh, fun _ _ _ _ h => h, j.own⟩
theorem Okl.rebaseO {G' : Hp} (h : Ex G0 G) (hf : ∀ q o u, Z q = some o → G q = some u → G0 q = some u) (j : Okl Z G M G' H) : Okl Z G0 M G' H := ⟨j.zh, h.trans j.gg, j.gh, fun q o u a b => hf q o u a (j.fr q o u a b), j.own⟩
end
section
variable {κ β : Type} [DecidableEq κ] {Z G0 G H : Hp} {M : List Pl} {kk : Kk κ} {c : Cod β}
/-- an owned dict of owned lists -/
def odl (kk : Kk κ) (c : Cod β) (xs : List (κ × List β)) : Sl := ods kk (xs.map fun x => (x.1, ol c x.2))
theorem icy_vS : ∀ {xs : List (κ × List β)} {kvs : List (κ × V)} {G : Hp}, kvs.map (·.1) = xs.map (·.1) → Okl Z G0 (vS (xs.map fun x => (x.1, ol c x.2)) kvs ++ M) G H → ∃ G', Ex G G' ∧ Okl Z G0 M G' H ∧ Paired (PrR (cList c).rel G') kvs xs
  | [], [], G, _, j => ⟨G, Evl.Ex.refl G, j, .nil⟩
  | [], _ :: _, _, h, _ => by cases h
  | _ :: _, [], _, h, _ => by cases h
  | (g, x) :: xs, (g', u) :: kvs, G, h, j => by
    rw [List.map_cons, List.map_cons] at h
    injection h with h1 h2
    have j1 : Okl Z G0 ((some (ol c x), some u) :: (vS (xs.map fun x => (x.1, ol c x.2)) kvs ++ M)) G H := j
    obtain ⟨G1, j2⟩ := j1.baseO.icy
    have e1 : Ex G G1 := j2.gg
    have j3 := Okl.rebaseO j1.gg j1.fr j2
    obtain ⟨v, e, r⟩ := j3.top
    cases e
    obtain ⟨G2, e2, j4, pr⟩ := icy_vS h2 j3.drop
    exact ⟨G2, e1.trans e2, j4, .cons ⟨h1, (cList c).mono r e2⟩ pr⟩
theorem Okl.icyO {xs : List (κ × List β)} {w : Option V} (j : Okl Z G0 ((some (odl kk c xs), w) :: M) G H) : ∃ G', Okl Z G0 ((some (fz (cDt kk (cList c)) xs), w) :: M) G' H := by
  obtain ⟨ps, ⟨_, _, _, ⟨v, e1, _⟩, _⟩, _, _⟩ := j.own
  subst e1
  obtain ⟨p, kvs, rfl, hp, hn, nd0, j1⟩ := Okl.dopen j
  rw [List.map_map] at hn
  obtain ⟨G1, e1, j2, pr⟩ := icy_vS hn j1
  have np : G1 p = none := by
    obtain ⟨ps, ⟨p1, p2, rfl, ⟨v, e, q, e2, e3, _⟩, _⟩, _, h4⟩ := j2.own
    cases e
    cases e2
    subst e3
    exact (h4 p (List.mem_append_left _ List.mem_cons_self)).2.1
  refine ⟨upd G1 p (kk.ho kvs), j2.freeze (p := p) (fun v ps e r => ?_) hp ⟨p, kvs, rfl, upd_same, Paired.mono (fun _ _ q => q.mono (Evl.Ex.new np)) pr⟩⟩
  obtain ⟨q, e2, e3, _⟩ := r
  cases e
  cases e2
  exact e3
end
end Rt
/-! Rt51: owned dicts of owned lists: the rules. -/
namespace Rt
open PySem L2 R
section
variable {κ β : Type} [DecidableEq κ] {Z G0 G H : Hp} {M : List Pl} {kk : Kk κ} {c : Cod β} {xs : List (κ × List β)}
theorem odl_keys : (xs.map fun x => (x.1, ol c x.2)).map (·.1) = xs.map (·.1) := by
  rw [List.map_map]
  rfl
theorem odl_put {k : κ} {b : List β} (nd : (xs.map (·.1)).Nodup) : odl kk c (dput xs k b) = ods kk (putT k (ol c b) (xs.map fun x => (x.1, ol c x.2))) := by
  rw [dput_putT nd, putT_map (f := ol c)]
  rfl
theorem odl_get {k : κ} {b : List β} (h : dget xs k = some b) : dget (xs.map fun x => (x.1, ol c x.2)) k = some (ol c b) := by
  rw [dget_lmap (f := ol c), h]
  rfl
theorem Okl.nodL {l : List (κ × Sl)} {w : Option V} (j : Okl Z G0 ((some (ods kk l), w) :: M) G H) : (l.map (·.1)).Nodup := by
  obtain ⟨ps, ⟨p2, p3, _, ⟨v', e2, p, kvs, qs, _, _, hp, hn, nd0, ha⟩, a3⟩, nd, h3⟩ := j.own
  exact nd0
end
section
variable {X : Cx} {T : XT} {W : WX} {Γx Γ : Ctx} {K : PySem.W.Frag} {κ β : Type} [DecidableEq κ]
theorem ex_onewT {α : Type} [DecidableEq α] {d : Cods α} {f : α → List Key} (h : Kt d f) {c : Cod β} {pos : Pos} : EX X T W Γx Γ (.Dict [] [] pos) tDNewT (.ok ()) (fun _ => odl (kTup K h) c []) (fun _ => Γ) :=
  ⟨pe_dnewT, fun Z G0 S σ G H Q k q p hp => q (.ref p) G _ ⟨k.len, k.ok.layOwn (s := odl (kTup K h) c []) hp ⟨p, [], [], rfl, rfl, upd_same, rfl, .nil, rfl⟩⟩⟩
theorem ex_onewI {c : Cod β} {pos : Pos} : EX X T W Γx Γ (.Dict [] [] pos) tDNewK (.ok ()) (fun _ => odl kInt c []) (fun _ => Γ) :=
  ⟨pe_dnewK, fun Z G0 S σ G H Q k q p hp => q (.ref p) G _ ⟨k.len, k.ok.layOwn (s := odl kInt c []) hp ⟨p, [], [], rfl, rfl, upd_same, rfl, .nil, rfl⟩⟩⟩
/-- d[k] = a list, d in a slot -/
theorem s1_dputO {n : Nat} {x : Str} {i e : Expr} {ty te : TE} {p1 p2 pos : Pos} {kk : Kk κ} {c : Cod β} {xs : List (κ × List β)} {α γ : Type} [Nonempty α] {m1 : Res α} {R1 : α → Sl} {Γ1 : α → Ctx} {b : α → List β} {m2 : α → Res γ} {R2 : α → γ → Sl} {Γ2 : α → γ → Ctx} {a : α → γ → κ} {mn : Res (List (κ × List β))} {j : Nat} (hr : Room j X.A)
    (he : EX X T W Γx Γ e te m1 R1 Γ1) (hi : ∀ t, EX X T W Γx Γ i ty (m2 t) (R2 t) (Γ2 t)) (hR : ∀ t, R1 t = ol c (b t) := by exact fun _ => rfl) (hΓ : ∀ t, Γ1 t = Γ := by exact fun _ => rfl) (hR2 : ∀ t u, R2 t u = fz kk.c (a t u) := by exact fun _ _ => rfl) (hΓ2 : ∀ t u, Γ2 t u = Γ := by exact fun _ _ => rfl)
    (h : Γ[n]? = some (some (odl kk c xs)) := by rfl) (hN : X.N[n]? = some x := by rfl) (hv : Vis X.env.scope x := by first | exact Or.inl rfl | exact Or.inr (Or.inl rfl) | exact Or.inr (Or.inr rfl)) (hd : (x == ("__debug__" : Str)) = false := by decide) (hcd : (x == ("__classdict__" : Str)) = false := by decide)
    (hb : Bd mn (m1.bind fun t => (m2 t).bind fun u => (dputR xs (a t u) (b t)).bind fun ys => .ok (t, u, ys)) (fun t => .ok t.2.2) := by intros; repeat (first | ((with_reducible refine Bd.done ?_); exact rfl) | with_reducible refine Bd.okl ?_ | with_reducible refine Bd.assoc ?_ | with_reducible refine Bd.bind fun _ => ?_ | with_reducible refine Bd.eta fun _ => ?_ | with_reducible refine Bd.iteB ?_ ?_ fun _ => ?_ | with_reducible refine Bd.iteE ?_ ?_ fun _ => ?_ | with_reducible refine Bd.ite ?_ ?_ | with_reducible refine Bd.iteL ?_ ?_ | with_reducible refine Bd.assocL ?_ | with_reducible refine Bd.oklL ?_ | with_reducible exact Bd.same | with_reducible exact Bd.at | dsimp only))
    (hs : swapsWith e (some (.Subscript (.Name x p1) i p2)) pos.line X.env = pure false := by rfl) :
    S1 X T W Γx Γ (.Assign [.Subscript (.Name x p1) i p2] e pos) (sDPut (tVar n) ty te) mn (fun ys => .nx (Γ.set n (some (odl kk c ys)))) := by
  obtain rfl : R1 = fun t => ol c (b t) := funext hR
  obtain rfl : Γ1 = fun _ => Γ := funext hΓ
  obtain rfl : R2 = fun t u => fz kk.c (a t u) := funext fun t => funext (hR2 t)
  obtain rfl : Γ2 = fun _ _ => Γ := funext fun t => funext (hΓ2 t)
  obtain ⟨t0⟩ := ‹Nonempty α›
  refine ⟨ps_dput (room_u hr) (pv n hN hv hd hcd) (hi t0).pe he.pe hs, fun Z G0 S σ G H D k q => ?_⟩
  refine he.ev Z G0 S σ G H _ k (Res.wp_mono (Res.wp_bind (hb _ _ q)) (fun t q v G1 H1 k1 => ?_) fun ex q cls d G' H' k' => q cls d σ G' H' k')
  obtain ⟨w, _, hw, _, _⟩ := k1.drop.take h
  refine ⟨w, hw, ?_⟩
  refine (hi t).ev Z G0 _ σ G1 H1 _ k1 (Res.wp_mono (Res.wp_bind q) (fun u q y G2 H2 k2 => ?_) fun ex q cls d G' H' k' => q cls d σ G' H' k'.drop)
  obtain ⟨ys, e, q3⟩ := wp_cases (Res.wp_bind q) dput_ne
  obtain ⟨hl, rfl⟩ := dput_ok e
  have hy := k2.tp
  obtain ⟨w', M, hw', k3, back, _⟩ := Okc.takeS (L := [(some (ol c (b t)), some v)]) (S := S) k2.drop h
  rw [hw] at hw'
  cases hw'
  have nd : (xs.map (·.1)).Nodup := by
    have := Okl.nodL (kk := kk) k3
    rw [odl_keys] at this
    exact this
  have k4 : Okl Z G0 ((some (ol c (b t)), some v) :: (some (odl kk c xs), some w) :: M) G2 H2 := k3.perm (List.Perm.swap _ _ _)
  obtain ⟨p, kvs, rfl, hp, hlen, hkeys, k5⟩ := Okl.dputL (k := a t u) k4
  rw [List.length_map] at hlen
  rw [← odl_put nd] at k5
  exact ⟨p, _, rfl, kk.put k2.ok.gh hy hp (by rw [hlen, ← line_eq]; exact hl), q3 σ G2 _ (back _ _ _ [] _ _ k5)⟩
/-- an owned dict of lists is frozen from here on -/
theorem SX.icyO {sts : List Stmt} {ts : TS} {α : Type} {m : Res α} {I : α → Out} {kk : Kk κ} {c : Cod β} {xs : List (κ × List β)} (i : Nat) (h : Γ[i]? = some (some (odl kk c xs))) (hs : SX X T W Γx (Γ.set i (some (fz (cDt kk (cList c)) xs))) sts ts m I) : SX X T W Γx Γ sts ts m I :=
  ⟨hs.ps, fun Z G0 S σ G H D k q => by
    obtain ⟨v, l, hw, k1, back⟩ := k.take h
    obtain ⟨G', k2⟩ := k1.icyO
    exact hs.ev Z G0 S σ G' H D (back _ _ _ k2) q⟩
/-- row = d[k]: the row is at hand, its place in d is a hole -/
theorem sx_row {n jj : Nat} {x y : Str} {i : Expr} {ty : TE} {p1 p2 p3 pos : Pos} {kk : Kk κ} {c : Cod β} {xs : List (κ × List β)} {α γ : Type} [Nonempty α] {m1 : Res α} {R1 : α → Sl} {Γ1 : α → Ctx} {a : α → κ} {rest : List Stmt} {u : TS} {m2 : α → List β → Res γ} {I : γ → Out} {j : Nat} (hr : Room j X.A)
    (hi : EX X T W Γx Γ i ty m1 R1 Γ1) (hrest : ∀ t r p, dget xs (a t) = some r → SX X T W Γx ((Γ.set n (some (ods kk (putT (a t) (hole (.ref p)) (xs.map fun x => (x.1, ol c x.2)))))).set jj (some (atP p (ol c r)))) rest u (m2 t r) I) (hps : PSs X rest u)
    (hNd : X.N.Nodup) (hj : X.N[jj]? = some y) (hy : Loc X.env.scope y) (hR : ∀ t, R1 t = fz kk.c (a t) := by exact fun _ => rfl) (hΓ : ∀ t, Γ1 t = Γ := by exact fun _ => rfl) (hs0 : NoSl i := by exact fun _ _ => rfl)
    (h : Γ[n]? = some (some (odl kk c xs)) := by rfl) (hlj : Nat.ble (jj + 1) Γ.length = true := by rfl) (hN : X.N[n]? = some x := by rfl) (hv : Vis X.env.scope x := by first | exact Or.inl rfl | exact Or.inr (Or.inl rfl) | exact Or.inr (Or.inr rfl)) (hd : (x == ("__debug__" : Str)) = false := by decide) (hcd : (x == ("__classdict__" : Str)) = false := by decide)
    (hs : swapsWith (.Subscript (.Name x p1) i p2) (some (.Name y p3)) pos.line X.env = pure false := by rfl) (hf : X.fn y = true ∨ X.env.scope.names.lookup y = some .local := by first | exact .inl rfl | exact .inr rfl | assumption) :
    SX X T W Γx Γ (.Assign [.Name y p3] (.Subscript (.Name x p1) i p2) pos :: rest) (tSeq (tAsg (tDGet (tVar n) ty) (gName jj)) u) (m1.bind fun t => (dat xs (a t)).bind fun r => m2 t r) I := by
  obtain rfl : R1 = fun t => fz kk.c (a t) := funext hR
  obtain rfl : Γ1 = fun _ => Γ := funext hΓ
  refine ⟨pss_cons (ps_set hNd hj hy (pe_dget (room_u hr) (pv n hN hv hd hcd) hi.pe hs0) hs hf) hps, fun Z G0 S σ G H D k q => ?_⟩
  obtain ⟨w, _, hw, _, _⟩ := k.take h
  refine ⟨w, hw, ?_⟩
  refine hi.ev Z G0 S σ G H _ k (Res.wp_mono (Res.wp_bind q) (fun t q y G1 H1 k1 => ?_) fun ex q cls d G' H' k' => q cls d σ G' H' k')
  obtain ⟨r, e, q3⟩ := wp_cases (Res.wp_bind q) dat_ne
  have hy2 := k1.tp
  obtain ⟨w', M, hw', k3, back, _⟩ := Okc.takeS (L := []) (S := S) k1.drop h
  rw [hw] at hw'
  cases hw'
  have k3' : Okl Z G0 ((some (odl kk c xs), some w) :: M) G1 H1 := k3
  obtain ⟨p, kvs, u', rfl, hp, hlen, hval, k4⟩ := Okl.dfocus (k := a t) (s := ol c r) k3' (odl_get (dat_ok e))
  obtain ⟨q', vs, rfl, _, _, _⟩ := ol_own k4
  have k5 := k4.re (s' := atP q' (ol c r)) fun ps hh => ⟨rfl, hh⟩
  have g := kk.get k1.ok.gh hy2 hp
  rw [hval] at g
  refine ⟨p, _, rfl, g, ?_⟩
  have k6 := back Z G0 (ods kk (putT (a t) (hole (.ref q')) (xs.map fun x => (x.1, ol c x.2)))) [(some (atP q' (ol c r)), some (.ref q'))] G1 H1 (k5.perm (List.Perm.swap _ _ _))
  exact (hrest t r q' (dat_ok e)).ev Z G0 S _ G1 H1 D (k6.store (by rw [List.length_set]; exact Nat.le_of_ble_eq_true hlj)) q3
theorem Okl.hole {Z G0 G H : Hp} {l : List Pl} {v : V} (k : Okl Z G0 l G H) : Okl Z G0 ((some (Rt.hole v), some v) :: l) G H := by
  obtain ⟨ps, h1, h2, h3⟩ := k.own
  exact ⟨k.zh, k.gg, k.gh, k.fr, ps, ⟨[], ps, rfl, ⟨v, rfl, rfl, rfl⟩, h1⟩, h2, h3⟩
/-- the row goes back -/
theorem wk_row {n jj : Nat} {kk : Kk κ} {c : Cod β} {xs : List (κ × List β)} {k : κ} {r r0 : List β} {p : Addr} (h1 : Γ[n]? = some (some (ods kk (putT k (hole (.ref p)) (xs.map fun x => (x.1, ol c x.2)))))) (h2 : Γ[jj]? = some (some (atP p (ol c r)))) (hne : ¬ n = jj) (hk : dget xs k = some r0) : Wk Γ ((Γ.set jj none).set n (some (odl kk c (dput xs k r)))) := fun Z G0 S σ G H j => by
  obtain ⟨v, M, hw, k1, back, bare⟩ := Okc.takeS (L := []) (S := S) j h2
  have k1' : Okl Z G0 ((some (atP p (ol c r)), some v) :: M) G H := k1
  have hvp : v = .ref p := by
    obtain ⟨ps, ⟨_, _, _, ⟨v', e, z, _⟩, _⟩, _, _⟩ := k1'.own
    cases e
    exact z
  subst hvp
  have k2 := k1'.re (s' := ol c r) fun ps hh => hh.2
  have b1 := back Z G0 (hole (.ref p)) [(some (ol c r), some (.ref p))] G H k2.hole
  have h1' : (Γ.set jj (some (hole (.ref p))))[n]? = some (some (ods kk (putT k (hole (.ref p)) (xs.map fun x => (x.1, ol c x.2))))) := by
    rw [List.getElem?_set, if_neg fun e => hne e.symm]
    exact h1
  obtain ⟨v, M', hw2, k3, back2, _⟩ := Okc.takeS (L := [(some (ol c r), some (V.ref p))]) (S := S) b1 h1'
  have k3' : Okl Z G0 ((some (ods kk (putT k (hole (.ref p)) (xs.map fun x => (x.1, ol c x.2)))), some v) :: (some (ol c r), some (.ref p)) :: M') G H := k3
  have kin : k ∈ (xs.map fun x => (x.1, ol c x.2)).map (·.1) := dget_in.mp (by rw [odl_get hk]; rfl)
  have nd : (xs.map (·.1)).Nodup := by
    have := Okl.nodL (kk := kk) k3'
    rw [same_keys kin, odl_keys] at this
    exact this
  have k4 := Okl.dunfocus kin (k3'.perm (List.Perm.swap _ _ _))
  rw [← odl_put nd] at k4
  have k5 := back2 Z G0 (odl kk c (dput xs k r)) [] G H k4
  have h2' : ((Γ.set jj (some (hole (.ref p)))).set n (some (odl kk c (dput xs k r))))[jj]? = some (some (hole (.ref p))) := by
    rw [List.getElem?_set, if_neg hne, List.getElem?_set, if_pos rfl]
    obtain ⟨z, _⟩ := List.getElem?_eq_some_iff.mp h2
    rw [if_pos z]
  obtain ⟨_, M2, _, k6, _, bare2⟩ := Okc.takeS (L := []) (S := S) k5 h2'
  have k7 := bare2 Z G0 G H (Okl.drop k6)
  rw [List.set_comm _ _ hne, List.set_set] at k7
  exact k7
/-- row[i] = e, the row of a dict -/
theorem s1_setIP {pp : Addr} {i : Nat} {x : Str} {e e2 : Expr} {te ti : TE} {p1 p2 pos : Pos} {α β γ : Type} [Nonempty α] {c : Cod γ} {m1 : Res α} {Rm : α → Sl} {a : α → γ} {m2 : α → Res β} {Rk : α → β → Sl} {Γo : α → Ctx} {Γk : α → β → Ctx} {k : α → β → Int} {xs : List γ} {mn : Res (List γ)} (he : EX X T W Γx Γ e te m1 Rm Γo) (hi : ∀ t, EX X T W Γx (Γo t) e2 ti (m2 t) (Rk t) (Γk t)) (hR : ∀ t, Rm t = fz c (a t) := by exact fun _ => rfl) (hRk : ∀ t u, Rk t u = sI (k t u) := by exact fun _ _ => rfl) (hΓo : ∀ t, Γo t = Γ := by exact fun _ => rfl) (hΓk : ∀ t u, Γk t u = Γ := by exact fun _ _ => rfl)
    (h : Γ[i]? = some (some (atP pp (ol c xs))) := by rfl) (hN : X.N[i]? = some x := by rfl) (hv : Vis X.env.scope x := by first | exact Or.inl rfl | exact Or.inr (Or.inl rfl) | exact Or.inr (Or.inr rfl)) (hb : Bd mn (m1.bind fun t => (m2 t).bind fun u => (R.setI xs (k t u) (a t)).bind fun ys => .ok (t, u, ys)) (fun t => .ok t.2.2) := by intros; repeat (first | ((with_reducible refine Bd.done ?_); exact rfl) | with_reducible refine Bd.okl ?_ | with_reducible refine Bd.assoc ?_ | with_reducible refine Bd.bind fun _ => ?_ | with_reducible refine Bd.eta fun _ => ?_ | with_reducible refine Bd.iteB ?_ ?_ fun _ => ?_ | with_reducible refine Bd.iteE ?_ ?_ fun _ => ?_ | with_reducible refine Bd.ite ?_ ?_ | with_reducible refine Bd.iteL ?_ ?_ | with_reducible refine Bd.assocL ?_ | with_reducible refine Bd.oklL ?_ | with_reducible exact Bd.same | with_reducible exact Bd.at | dsimp only))
    (hd : (x == ("__debug__" : Str)) = false := by decide) (hcd : (x == ("__classdict__" : Str)) = false := by decide) (hpg : ∀ {to ti : TE}, PE X (.Name x p1) to → PE X e2 ti → PG X (.Subscript (.Name x p1) e2 p2) (gSub to ti rSetL) := by exact fun h1 h2 => pg_sub h1 h2 set_list)
    (hs : swapsWithSole [.Subscript (.Name x p1) e2 p2] e pos.line X.env = pure false := by rfl) (hw : swappedStores [.Subscript (.Name x p1) e2 p2] e X.env = pure none := by rfl) :
    S1 X T W Γx Γ (.Assign [.Subscript (.Name x p1) e2 p2] e pos) (tAsg te (gSub (tVar i) ti rSetL)) mn (fun ys => .nx (Γ.set i (some (atP pp (ol c ys))))) := by
  obtain rfl : Rm = fun t => fz c (a t) := funext hR
  obtain rfl : Rk = fun t u => sI (k t u) := funext fun t => funext (hRk t)
  obtain rfl : Γo = fun _ => Γ := funext hΓo
  obtain rfl : Γk = fun _ _ => Γ := funext fun t => funext (hΓk t)
  obtain ⟨t0⟩ := ‹Nonempty α›
  refine ⟨ps_asg he.pe (hpg (pv i hN hv hd hcd) (hi t0).pe) hs hw, fun Z G0 S σ G H D kk q => ?_⟩
  refine he.ev Z G0 S σ G H _ kk (Res.wp_mono (Res.wp_bind (hb _ _ q)) (fun t q y G1 H1 k1 => ?_) fun ex q cls d G' H' k' => q cls d σ G' H' k')
  obtain ⟨v, l, hw, k2, _⟩ := k1.drop.take h
  refine ⟨v, hw, ?_⟩
  refine (hi t).ev Z G0 _ σ G1 H1 _ k1 (Res.wp_mono (Res.wp_bind q) (fun u q w G2 H2 k3 => ?_) fun ex q cls d G' H' k' => q cls d σ G' H' k'.drop)
  obtain ⟨ys, e, q3⟩ := wp_cases (Res.wp_bind q) setI_ne
  have hk := k3.tp
  have hy := k3.drop.tp
  obtain ⟨v', l', hw', k4, back⟩ := k3.drop.drop.take h
  rw [hw] at hw'
  cases hw'
  have hvp : v = .ref pp := by
    obtain ⟨ps, ⟨_, _, _, ⟨v', e, z, _⟩, _⟩, _, _⟩ := k4.own
    cases e
    exact z
  obtain ⟨p, vs, hvp2, h3, hp, wr⟩ := ol_own (k4.re (s' := ol c xs) fun ps hh => hh.2)
  subst hvp2
  unfold R.setI at e
  cases ej : R.ixN xs.length (k t u) with
  | none => rw [ej] at e; cases e
  | some j =>
    rw [ej] at e
    cases e
    refine ⟨p, vs, k t u, j, rfl, hk, h3, by rw [hp.length]; exact ej, q3 σ G2 _ (back _ _ _ ((wr _ _ (paired_set hp hy)).re fun ps hh => ⟨hvp, hh⟩))⟩
theorem rds_atP {p : Addr} {c : Cod β} {xs : List β} : Rds (atP p (ol c xs)) (rpL c xs) := fun _ _ _ _ _ ⟨_, p, vs, h1, _, h3, h4⟩ => ⟨p, vs, h1, h3, h4⟩
end
end Rt
/-! Rt57: a context written out anew. -/
namespace Rt
open PySem L2 R
theorem SX.re {X : Cx} {T : XT} {W : WX} {Γx Γ Γ' : Ctx} {sts : List Stmt} {ts : TS} {α : Type} {m : Res α} {I : α → Out} (h : Γ = Γ') (hs : SX X T W Γx Γ' sts ts m I) : SX X T W Γx Γ sts ts m I := h ▸ hs
end Rt
/-! Rt60: a new object, lent to a call at once and given up. -/
namespace Rt
open PySem L2 R
section
variable {X : Cx} {T : XT} {W : WX} {Γx Γ : Ctx} {K : PySem.W.Frag}
theorem okl_drops {Z G0 G H : Hp} {M : List Pl} : ∀ {L : List Pl}, Okl Z G0 (L ++ M) G H → Okl Z G0 M G H
  | [], k => k
  | _ :: L, k => okl_drops (L := L) k.drop
theorem okl_openV {Z G0 G H : Hp} {M : List Pl} {C : Addr} {l : FsS} {v : V} (k : Okl Z G0 ((some (oob C l), some v) :: M) G H) : ∃ p dx fs, Okl Z G0 ((some (oobV C p dx fs l), some v) :: M) G H := by
  obtain ⟨ps, ⟨p1, p2, hps, ⟨v', e1, p, dx, fs, r⟩, h4⟩, h2, h3⟩ := k.own
  cases e1
  exact ⟨p, dx, fs, ⟨k.zh, k.gg, k.gh, k.fr, ps, ⟨p1, p2, hps, ⟨v, rfl, r⟩, h4⟩, h2, h3⟩⟩
/-- a call, its first argument a new object that is given up -/
theorem ex_callT {ξ ρ α : Type} {n kk j : Nat} {A : α → Addr → Addr → List (Str × V) → ξ → List (Option Sl)} {Pm : α → Addr → Addr → List (Str × V) → ξ → List (Option Addr)} {f : α → ξ → Res ρ} {R : ρ → Sl} {B : α → Addr → Addr → List (Str × V) → ξ → ρ → List (Option Sl)} {Be : α → Addr → Addr → List (Str × V) → ξ → List (Option Sl)} {ps : List Str} {x : Str} {p pos : Pos} {e : Expr} {es : List Expr} {ta : TA} {ls : List (Option Nat)} {m1 : Res α} {As : α → List (Option Sl)} {Γ1 : α → Ctx} {SP : Sp} (C : Addr) (a : α → ξ)
    (kn : Kn X.prog X.w X.K X.mg X.base kk x ps SP) (hr : Room j X.A) (tk : Takes X W) (ha : LX X T W Γx Γ (e :: es) ta ls m1 As Γ1) (l : α → FsS) (hi : ∀ t p dx fs, SpI (spB n T (A t p dx fs) (Pm t p dx fs) (fun _ => True) (f t) (fun _ => R) (B t p dx fs) (Be t p dx fs)) SP) (hw : ∀ t, Wk (Γ1 t) Γx)
    (h0 : ∀ t, As t = some (oob C (l t)) :: (As t).tail := by exact fun _ => rfl) (hA : ∀ t p dx fs, some (oobV C p dx fs (l t)) :: (As t).tail = A t p dx fs (a t) := by exact fun _ _ _ _ => rfl) (hn : ∀ t p dx fs x, (A t p dx fs x).length = n := by exact fun _ _ _ _ _ => rfl) (hj : kk ≤ j := by decide)
    (hg : Gl X x := by rfl) (hdb : (x == ("__debug__" : Str)) = false := by decide) (he : starEach (e :: es) X.env = (false, eval e X.env) :: starEach es X.env := by rfl) (hpl : (backTo pos (starEach es X.env)).any (·.1) = false := by rfl) :
    EX X T W Γx Γ (.Call (.Name x p) (e :: es) [] pos) (tCallS SP (WE W) ta) (m1.bind fun t => (f t (a t)).bind fun r => .ok (t, r)) (fun t => R t.2) (fun t => Γ1 t.1) := by
  obtain ⟨fa, fd, h1, h2, h3, FO⟩ := kn
  refine ⟨pe_callS FO (hr.mono hj) hg h1 h2 h3 (fun σ => passAt tk σ) ha.pa hdb he hpl, fun Z G0 S σ G H Q k q => ?_⟩
  refine ha.ev Z G0 S σ G H _ k (Res.wp_mono (Res.wp_bind q) (fun t q vs G1 H1 hl hm k1 => ?_) fun ex q => q)
  rw [h0] at hl k1
  match vs, hl, hm, k1 with
  | v :: vs, hl, hm, k1 =>
    have k2 : Okl Z G0 ((some (oob C (l t)), some v) :: ((As t).tail.zip (vs.map some) ++ (S ++ (Γ1 t).zip σ))) G1 H1 := okc_app (L := (some (oob C (l t)), some v) :: (As t).tail.zip (vs.map some)) k1
    obtain ⟨po, dx, fs, k3⟩ := okl_openV k2
    have k4 : Okl Z G0 ((A t po dx fs (a t)).zip ((v :: vs).map some) ++ (S ++ (Γ1 t).zip σ)) G1 H1 := by
      rw [← hA]
      exact k3
    obtain ⟨Zc, l1, l2⟩ := Okl.lend k4
    refine hi t po dx fs _ _ _ _ ⟨a t, Zc, G1, G1, ?_, hn _ _ _ _ _, trivial, l1, Res.wp_mono (Res.wp_bind q) (fun r q v' G' H' k' => ?_) fun ex q cls d G' H' k' => ?_⟩
    · rw [← hl, ← hn t po dx fs (a t), ← hA]
      rfl
    · have k5 := l2 _ G' H' k'
      refine q v' G' H' ⟨k1.len, ?_⟩
      have k6 : Okl Z G0 ((some (R r), some v') :: (bk (Pm t po dx fs (a t)) (B t po dx fs (a t) r) ++ (S ++ (Γ1 t).zip σ))) G' H' := k5
      have k7 : Okl Z G0 (bk (Pm t po dx fs (a t)) (B t po dx fs (a t) r) ++ ((some (R r), some v') :: (S ++ (Γ1 t).zip σ))) G' H' := k6.perm mid.symm
      exact okl_drops k7
    · have k5 := l2 _ G' H' k'
      exact q cls d G' H' (hw t _ _ _ _ _ _ ⟨k1.len, okl_drops k5⟩)
end
end Rt
/-! Rt65: a walk over an owned list that the walk does not change. -/
namespace Rt
open PySem L2 R
/-- an owned list by its values -/
def lSl (vs : List V) : Sl := ⟨fun _ H v ps => ∃ p, v = .ref p ∧ ps = [p] ∧ H p = some (.lst vs), fun h _ q => by
  obtain ⟨p, h1, h2, h3⟩ := h
  refine ⟨p, h1, h2, ?_⟩
  rw [q p (by rw [h2]; exact List.mem_cons_self)]
  exact h3⟩
theorem Okl.lget {Z G0 G H : Hp} {l : List Pl} {vs : List V} {p : Addr} (k : Okl Z G0 ((some (lSl vs), some (.ref p)) :: l) G H) : H p = some (.lst vs) := by
  obtain ⟨ps, ⟨p1, p2, _, ⟨v', e1, q, e2, _, h⟩, _⟩, _, _⟩ := k.own
  cases e1
  cases e2
  exact h
section
variable {X : Cx} {T : XT} {W : WX} {Γx Γ : Ctx} {K : PySem.W.Frag}
theorem ol_lsl {Z G0 G H : Hp} {l : List Pl} {γ : Type} {c : Cod γ} {xs : List γ} {v : V} (k : Okl Z G0 ((some (ol c xs), some v) :: l) G H) : ∃ p vs, v = .ref p ∧ Paired (c.rel G) vs xs ∧ Okl Z G0 ((some (lSl vs), some (.ref p)) :: l) G H := by
  obtain ⟨p, vs, rfl, h3, hp, _⟩ := ol_own k
  refine ⟨p, vs, rfl, hp, k.re fun ps r => ?_⟩
  obtain ⟨p', vs', e1, e2, e3, _⟩ := r
  cases e1
  exact ⟨p, rfl, e2, h3⟩
theorem lsl_ol {Z G0 G H : Hp} {l : List Pl} {γ : Type} {c : Cod γ} {xs : List γ} {p : Addr} {vs : List V} (k : Okl Z G0 ((some (lSl vs), some (.ref p)) :: l) G H) (hp : Paired (c.rel G) vs xs) : Okl Z G0 ((some (ol c xs), some (.ref p)) :: l) G H :=
  k.re fun ps r => by
    obtain ⟨p', e1, e2, e3⟩ := r
    exact ⟨p', vs, e1, e2, e3, hp⟩
theorem s1_forO {i : Nat} {x : Str} {p1 : Pos} {tg : Expr} {body : List Stmt} {pos : Pos} {g : TG} {tb : TS} {β S' B : Type} [Nonempty β] [Nonempty S'] {c : Cod β} {xs : List β} {Γr : S' → Ctx} {Γh : Addr → S' → Ctx} {s0 : S'} {f : β → S' → Res (Ctl S' B)} {Γg : Addr → S' → β → Ctx} {RB : B → Sl} {LB : B → List Pl} {js : List Nat}
    (hg : ∀ p s x, GX X tg g js (fz c x) (Γh p s) (Γg p s x)) (hb : ∀ p x s, SX X T W Γx (Γg p s x) body tb (f x s) (outC (Γh p) RB LB)) (h0 : Unit → Wk Γ (Γr s0)) (hp : PassesOwn (model X.prog X.w) X.A X.env X.xe)
    (hΓh : ∀ p s, Γh p s = (Γr s).set i (some (hole (.ref p))) := by exact fun _ _ => rfl) (hΓr : ∀ s, (Γr s)[i]? = some (some (ol c xs)) := by exact fun _ => rfl) (hN : X.N[i]? = some x := by rfl)
    (hv : Vis X.env.scope x := by first | exact Or.inl rfl | exact Or.inr (Or.inl rfl) | exact Or.inr (Or.inr rfl)) (hd : (x == ("__debug__" : Str)) = false := by decide) (hcd : (x == ("__classdict__" : Str)) = false := by decide) (hK : X.K = K := by rfl) (hc : X.calm = true := by rfl) (hs : ∀ y, foldedSetIterable (.Name x p1) X.env y = pure y := by intro _; rfl) :
    S1 X T W Γx Γ (.For tg (.Name x p1) body [] pos) (tFor (iList K (tVar i)) g tb) (R.loop f xs s0) (outC Γr RB LB) := by
  subst hK
  obtain ⟨b0⟩ := ‹Nonempty β›
  obtain ⟨c0⟩ := ‹Nonempty S'›
  refine ⟨ps_for hp hc (pi_list (pv i hN hv hd hcd)) (hg 0 c0 b0).pg (hb 0 b0 c0).ps hs, fun Z G0 S σ G H D k q => ?_⟩
  have k1 := h0 () _ _ _ _ _ _ k
  obtain ⟨v, M, hw, k2, back, _⟩ := Okc.takeS (L := []) (S := S) k1 (hΓr s0)
  obtain ⟨p, vs, rfl, pr, k3⟩ := ol_lsl (show Okl Z G0 ((some (ol c xs), some v) :: M) G H from k2)
  have k4 : Okc Z G0 ((some (lSl vs), some (.ref p)) :: S) (Γh p s0) σ G H := by
    rw [hΓh]
    exact back Z G0 (hole (.ref p)) [(some (lSl vs), some (.ref p))] G H k3.hole
  have hl := k3.lget
  -- behind: the list goes back to its place
  have fin : ∀ s σ' G' H', Okc Z G0 ((some (lSl vs), some (.ref p)) :: S) (Γh p s) σ' G' H' → Ex G G' → Okc Z G0 S (Γr s) σ' G' H' := fun s σ' G' H' j e => by
    rw [hΓh] at j
    have hi : ((Γr s).set i (some (hole (.ref p))))[i]? = some (some (hole (.ref p))) := by
      rw [List.getElem?_set, if_pos rfl, if_pos (List.getElem?_eq_some_iff.mp (hΓr s)).1]
    obtain ⟨v, M, _, j2, back, _⟩ := Okc.takeS (L := [(some (lSl vs), some (V.ref p))]) (S := S) j hi
    have j2' : Okl Z G0 ((some (hole (.ref p)), some v) :: (some (lSl vs), some (.ref p)) :: M) G' H' := j2
    have hv : v = .ref p := by
      obtain ⟨ps, ⟨_, _, _, ⟨v', e1, z, _⟩, _⟩, _, _⟩ := j2'.own
      cases e1
      exact z
    subst hv
    have z := back Z G0 (ol c xs) [] G' H' (lsl_ol j2'.drop (Paired.mono (fun _ _ q => c.mono q e) pr))
    have e2 : ((Γr s).set i (some (hole (.ref p)))).set i (some (ol c xs)) = Γr s := by
      rw [List.set_set]
      refine List.ext_getElem? fun a => ?_
      rw [List.getElem?_set]
      by_cases h : i = a
      · subst h
        rw [if_pos rfl, if_pos (List.getElem?_eq_some_iff.mp (hΓr s)).1, hΓr s]
      · rw [if_neg h]
    rw [e2] at z
    exact z
  refine (show iList X.K (tVar i) σ H _ from ⟨.ref p, hw, p, rfl, ⟨vs, SqL.of hl⟩, ?_⟩)
  refine for_it (walk_list (K := X.K) (a := p) (xs := vs)) (fun j σ H => ∃ s G', Okc Z G ((some (lSl vs), some (.ref p)) :: S) (Γh p s) σ G' H ∧ (R.loop f (xs.drop j) s).wp (fun o => (outC Γr RB LB o).go D Z G0 S) (fun ex => ∀ cls d σ' G' H', Okc Z G0 S Γx σ' G' H' → T.rel ex cls d G' → W cls d σ' H'))
    ⟨s0, G, k4.base, q⟩ (fun j σ H _ ⟨s, G', k2, _⟩ => SqL.of k2.of.lget) ?_ ?_
  · rintro j v σ H H' hi' ⟨s, G', k5, w⟩ ⟨rfl, hv⟩
    rw [pr.length] at hi'
    have hx : xs[j]? = some xs[j] := List.getElem?_eq_getElem hi'
    rw [List.drop_eq_getElem_cons hi'] at w
    have k6 : Okc Z G ((some (fz c xs[j]), some v) :: (some (lSl vs), some (.ref p)) :: S) (Γh p s) σ G' H' := k5.pushf (c.mono (paired_get pr hv hx) k5.gex)
    refine (hg p s xs[j]).ev Z G _ σ G' H' v _ k6 fun σ3 G3 H3 k7 _ => ?_
    refine (hb p _ s).ev Z G _ σ3 G3 H3 _ k7 (Res.wp_mono (Res.wp_bind w) (fun o w' => ?_) fun ex q cls d σ' G' H' k' => q cls d σ' G' H' (k4.back k').drop)
    cases o with
    | nx s' => exact fun σ4 G4 H4 k8 => ⟨s', G4, k8, w'⟩
    | cnt s' => exact fun σ4 G4 H4 k8 => ⟨s', G4, k8, w'⟩
    | brk s' => exact fun σ4 G4 H4 k8 => w' σ4 G4 H4 (fin s' σ4 G4 H4 (k4.back k8) k8.gex)
    | ret b => exact fun v G' H' k8 => w' v G' H' (by
        have z := (k4.bare).back k8
        have z2 : Okl Z G0 ((some (lSl vs), some (.ref p)) :: ((some (RB b), some v) :: (LB b ++ S))) G' H' := z.perm (((List.perm_middle (l₁ := LB b)).cons _).trans (.swap _ _ _))
        exact z2.drop)
  · rintro σ H ⟨s, G', k5, w⟩
    rw [pr.length, List.drop_length] at w
    exact w σ G' H (fin s σ G' H (k4.back k5) k5.gex)
end
end Rt
/-! Rt69: an expression that changes two things. -/
namespace Rt
open PySem L2 R
section
variable {X : Cx} {T : XT} {W : WX} {Γx Γ : Ctx} {K : PySem.W.Frag}
theorem EX.nf2 {e : Expr} {te : TE} {α γ ν1 ν2 : Type} {m : Res α} {mn : Res (γ × ν1 × ν2)} {R : α → Sl} {R' : γ → Sl} {Γo : α → Ctx} {Γs : ν1 → ν2 → Ctx} {g : α → γ} {s1 : α → ν1} {s2 : α → ν2} (h : EX X T W Γx Γ e te m R Γo) (hR : ∀ a, R a = R' (g a) := by exact fun _ => rfl) (hΓ : ∀ a, Γo a = Γs (s1 a) (s2 a) := by exact fun _ => rfl) (hb : Bd mn m (fun a => .ok (g a, s1 a, s2 a)) := by intros; repeat (first | ((with_reducible refine Bd.done ?_); exact rfl) | with_reducible refine Bd.okl ?_ | with_reducible refine Bd.assoc ?_ | with_reducible refine Bd.bind fun _ => ?_ | with_reducible refine Bd.eta fun _ => ?_ | with_reducible refine Bd.iteB ?_ ?_ fun _ => ?_ | with_reducible refine Bd.iteE ?_ ?_ fun _ => ?_ | with_reducible refine Bd.ite ?_ ?_ | with_reducible refine Bd.iteL ?_ ?_ | with_reducible refine Bd.assocL ?_ | with_reducible refine Bd.oklL ?_ | with_reducible exact Bd.same | with_reducible exact Bd.at | dsimp only)) :
    EX X T W Γx Γ e te mn (fun r => R' r.1) (fun r => Γs r.2.1 r.2.2) := EX.nf (Γs := fun r => Γs r.1 r.2) (s := fun a => (s1 a, s2 a)) h hR hΓ hb
end
end Rt
/-! Rt72: owned lists that own their values. -/
namespace Rt
open PySem L2 R
/-- an owned list of owned things -/
def ols (l : List Sl) : Sl := ⟨fun G H v ps => ∃ p vs qs, v = .ref p ∧ ps = p :: qs ∧ H p = some (.lst vs) ∧ vs.length = l.length ∧ All G H (plz l vs) qs, fun h e k => by
  obtain ⟨p, vs, qs, h1, h2, h3, h4, h5⟩ := h
  refine ⟨p, vs, qs, h1, h2, ?_, h4, h5.mono e fun q hq => k q (by rw [h2]; exact List.mem_cons_of_mem _ hq)⟩
  rw [k p (by rw [h2]; exact List.mem_cons_self)]
  exact h3⟩
def oll {β : Type} (c : Cod β) (xs : List (List β)) : Sl := ols (xs.map (ol c))
section
variable {Z G0 G H : Hp} {M : List Pl} {l : List Sl} {v w : V} {s : Sl}
theorem Okl.lopen (j : Okl Z G0 ((some (ols l), some v) :: M) G H) : ∃ p vs, v = .ref p ∧ H p = some (.lst vs) ∧ vs.length = l.length ∧ Okl Z G0 (plz l vs ++ (some (lSl vs), some v) :: M) G H := by
  obtain ⟨ps, ⟨p2, p3, rfl, ⟨v', e2, p, vs, qs, rfl, rfl, hp, hn, ha⟩, a3⟩, nd, h3⟩ := j.own
  cases e2
  have pm : (p :: qs ++ p3).Perm (qs ++ (p :: p3)) := (List.perm_middle (a := p) (l₁ := qs) (l₂ := p3)).symm
  exact ⟨p, vs, rfl, hp, hn, j.zh, j.gg, j.gh, j.fr, qs ++ (p :: p3), All.append.mpr ⟨qs, p :: p3, rfl, ha, [p], p3, rfl, ⟨.ref p, rfl, p, rfl, rfl, hp⟩, a3⟩, pm.nodup_iff.mp nd, fun q hq => h3 q (pm.mem_iff.mpr hq)⟩
theorem Okl.lclose {p : Addr} {vs : List V} (hn : vs.length = l.length) (j : Okl Z G0 (plz l vs ++ (some (lSl vs), some (.ref p)) :: M) G H) : Okl Z G0 ((some (ols l), some (.ref p)) :: M) G H := by
  obtain ⟨ps, ha, nd, h3⟩ := j.own
  obtain ⟨qs, r, rfl, a1, p2, p3, rfl, ⟨v', e, p', e2, e3, hp⟩, a3⟩ := All.append.mp ha
  cases e
  cases e2
  subst e3
  have pm : (qs ++ ([p] ++ p3)).Perm (p :: qs ++ p3) := List.perm_middle
  exact ⟨j.zh, j.gg, j.gh, j.fr, p :: qs ++ p3, ⟨p :: qs, p3, rfl, ⟨.ref p, rfl, p, vs, qs, rfl, rfl, hp, hn, a1⟩, a3⟩, pm.nodup_iff.mp nd, fun q hq => h3 q (pm.mem_iff.mpr hq)⟩
theorem plz_snoc {y : V} : ∀ {l : List Sl} {vs : List V}, vs.length = l.length → plz (l ++ [s]) (vs ++ [y]) = plz l vs ++ [(some s, some y)]
  | [], [], _ => rfl
  | [], _ :: _, h => by cases h
  | _ :: _, [], h => by cases h
  | a :: l, b :: vs, h => congrArg ((some a, some b) :: ·) (plz_snoc (Nat.succ.inj h))
theorem perm_in {A B : List Pl} {a b : Pl} : (a :: (A ++ b :: B)).Perm (A ++ b :: a :: B) := by
  have e : A ++ b :: a :: B = (A ++ [b]) ++ a :: B := by rw [List.append_assoc]; rfl
  rw [e]
  refine List.Perm.trans (List.Perm.cons _ ?_) mid.symm
  rw [List.append_assoc]
  exact List.Perm.refl _
/-- one more item -/
theorem Okl.growO {D : Addr} {y : V} (k : Okl Z G0 ((some s, some y) :: (some (ols l), some (.ref D)) :: M) G H) :
    ∃ ws, H D = some (.lst ws) ∧ ws.length = l.length ∧ Okl Z G0 ((some (ols (l ++ [s])), some (.ref D)) :: M) G (upd H D (.lst (ws ++ [y]))) := by
  obtain ⟨p, vs, e, hp, hn, k1⟩ := (k.perm (List.Perm.swap _ _ _)).lopen
  cases e
  have k2 : Okl Z G0 ((some (lSl vs), some (.ref D)) :: (plz l vs ++ (some s, some y) :: M)) G H := k1.perm mid
  have k3 := k2.write (p := D) (o := .lst (vs ++ [y])) (s' := lSl (vs ++ [y])) (v' := .ref D) (fun v ps e r => by
    obtain ⟨p', e1, e2, _⟩ := r
    cases e
    cases e1
    exact e2) ⟨D, rfl, rfl, upd_same⟩
  refine ⟨vs, hp, hn, Okl.lclose (vs := vs ++ [y]) (by rw [List.length_append, List.length_append, hn]; rfl) (k3.perm ?_)⟩
  rw [plz_snoc hn, List.append_assoc]
  exact perm_in
theorem plz_at : ∀ {l : List Sl} {vs : List V} {i : Nat}, l[i]? = some s → vs.length = l.length → ∃ w, vs[i]? = some w ∧ (plz l vs).Perm ((some s, some w) :: plz (l.eraseIdx i) (vs.eraseIdx i)) ∧ ∀ s', (plz (l.set i s') vs).Perm ((some s', some w) :: plz (l.eraseIdx i) (vs.eraseIdx i))
  | [], _, _, h, _ => by cases h
  | _ :: _, [], _, _, h => by cases h
  | a :: l, b :: vs, 0, h, _ => by
    cases h
    exact ⟨b, rfl, List.Perm.refl _, fun _ => List.Perm.refl _⟩
  | a :: l, b :: vs, i + 1, h, hn => by
    obtain ⟨w, h1, h2, h3⟩ := plz_at (i := i) (l := l) (vs := vs) h (Nat.succ.inj hn)
    exact ⟨w, h1, (List.Perm.cons _ h2).trans (List.Perm.swap _ _ _), fun s' => (List.Perm.cons _ (h3 s')).trans (List.Perm.swap _ _ _)⟩
/-- one of them comes on top -/
theorem Okl.lfocus {i : Nat} (j : Okl Z G0 ((some (ols l), some v) :: M) G H) (hi : l[i]? = some s) : ∃ p vs w, v = .ref p ∧ H p = some (.lst vs) ∧ vs.length = l.length ∧ vs[i]? = some w ∧ Okl Z G0 ((some s, some w) :: (some (ols (l.set i (Rt.hole w))), some v) :: M) G H := by
  obtain ⟨p, vs, rfl, hp, hn, k1⟩ := j.lopen
  obtain ⟨w, hw, p1, p2⟩ := plz_at hi hn
  refine ⟨p, vs, w, rfl, hp, hn, hw, ?_⟩
  have k2 : Okl Z G0 ((some s, some w) :: (plz (l.eraseIdx i) (vs.eraseIdx i) ++ (some (lSl vs), some (.ref p)) :: M)) G H := k1.perm (p1.append_right _)
  have k3 := k2.hole (v := w)
  have k4 : Okl Z G0 (plz (l.set i (Rt.hole w)) vs ++ (some (lSl vs), some (.ref p)) :: ((some s, some w) :: M)) G H := k3.perm ((List.Perm.cons _ perm_in).trans ((p2 (Rt.hole w)).symm.append_right _))
  exact (k4.lclose (by rw [List.length_set]; exact hn)).perm (List.Perm.swap _ _ _)
/-- .. and goes back -/
theorem Okl.lunfocus {i : Nat} (hi : i < l.length) (j : Okl Z G0 ((some s, some w) :: (some (ols (l.set i (Rt.hole w))), some v) :: M) G H) : Okl Z G0 ((some (ols (l.set i s)), some v) :: M) G H := by
  obtain ⟨p, vs, rfl, hp, hn, k1⟩ := (j.perm (List.Perm.swap _ _ _)).lopen
  obtain ⟨w', hw, p1, p2⟩ := plz_at (s := Rt.hole w) (i := i) (l := l.set i (Rt.hole w)) (vs := vs) (by rw [List.getElem?_set, if_pos rfl, if_pos hi]) hn
  have k2 : Okl Z G0 ((some (Rt.hole w), some w') :: (plz ((l.set i (Rt.hole w)).eraseIdx i) (vs.eraseIdx i) ++ (some (lSl vs), some (.ref p)) :: (some s, some w) :: M)) G H := k1.perm (p1.append_right _)
  have ew : w' = w := by
    obtain ⟨ps, ⟨_, _, _, ⟨v', e, z, _⟩, _⟩, _, _⟩ := k2.own
    cases e
    exact z
  subst ew
  have k3 : Okl Z G0 ((some s, some w') :: (plz ((l.set i (Rt.hole w')).eraseIdx i) (vs.eraseIdx i) ++ (some (lSl vs), some (.ref p)) :: M)) G H := k2.drop.perm perm_in.symm
  have p3 := p2 s
  rw [List.set_set] at p3
  rw [List.length_set] at hn
  exact Okl.lclose (vs := vs) (by rw [List.length_set]; exact hn) (k3.perm (p3.symm.append_right _))
end
section
variable {Z G0 G H : Hp} {M : List Pl} {β : Type} {c : Cod β}
theorem icy_ls : ∀ {xs : List (List β)} {vs : List V} {G : Hp}, vs.length = xs.length → Okl Z G0 (plz (xs.map (ol c)) vs ++ M) G H → ∃ G', Ex G G' ∧ Okl Z G0 M G' H ∧ Paired ((cList c).rel G') vs xs
  | [], [], G, _, j => ⟨G, Evl.Ex.refl G, j, .nil⟩
  | [], _ :: _, _, h, _ => by cases h
  | _ :: _, [], _, h, _ => by cases h
  | x :: xs, u :: vs, G, h, j => by
    have j1 : Okl Z G0 ((some (ol c x), some u) :: (plz (xs.map (ol c)) vs ++ M)) G H := j
    obtain ⟨G1, j2⟩ := j1.baseO.icy
    have e1 : Ex G G1 := j2.gg
    have j3 := Okl.rebaseO j1.gg j1.fr j2
    obtain ⟨v, e, r⟩ := j3.top
    cases e
    obtain ⟨G2, e2, j4, pr⟩ := icy_ls (Nat.succ.inj h) j3.drop
    exact ⟨G2, e1.trans e2, j4, .cons ((cList c).mono r e2) pr⟩
/-- frozen inside -/
theorem Okl.icyI {xs : List (List β)} {w : Option V} (j : Okl Z G0 ((some (oll c xs), w) :: M) G H) : ∃ G', Okl Z G0 ((some (ol (cList c) xs), w) :: M) G' H := by
  obtain ⟨ps, ⟨_, _, _, ⟨v, e1, _⟩, _⟩, _, _⟩ := j.own
  subst e1
  obtain ⟨p, vs, rfl, hp, hn, j1⟩ := Okl.lopen j
  rw [List.length_map] at hn
  obtain ⟨G1, e1, j2, pr⟩ := icy_ls hn j1
  exact ⟨G1, lsl_ol j2 pr⟩
theorem Okl.icyL {xs : List (List β)} {w : Option V} (j : Okl Z G0 ((some (oll c xs), w) :: M) G H) : ∃ G', Okl Z G0 ((some (fz (cList (cList c)) xs), w) :: M) G' H := by
  obtain ⟨G1, j1⟩ := j.icyI
  exact j1.icy
end
section
variable {X : Cx} {T : XT} {W : WX} {Γx Γ : Ctx} {K : PySem.W.Frag}
theorem EX.icyI {e : Expr} {te : TE} {α γ : Type} {m : Res α} {c : Cod γ} {xs : α → List (List γ)} {Γo : α → Ctx} (h : EX X T W Γx Γ e te m (fun a => oll c (xs a)) Γo) : EX X T W Γx Γ e te m (fun a => ol (cList c) (xs a)) Γo :=
  ⟨h.pe, fun Z G0 S σ G H Q k q => h.ev Z G0 S σ G H Q k (Res.wp_mono q (fun a q v G' H' k' => by
    obtain ⟨G2, k2⟩ := k'.of.icyI
    exact q v G2 H' ⟨k'.len, k2⟩) fun _ z => z)⟩
theorem EX.icyL {e : Expr} {te : TE} {α γ : Type} {m : Res α} {c : Cod γ} {xs : α → List (List γ)} {Γo : α → Ctx} (h : EX X T W Γx Γ e te m (fun a => oll c (xs a)) Γo) : EX X T W Γx Γ e te m (fun a => fz (cList (cList c)) (xs a)) Γo := h.icyI.icy
/-- an owned list of owned lists is frozen from here on -/
theorem SX.icyL {sts : List Stmt} {ts : TS} {α : Type} {m : Res α} {I : α → Out} {β : Type} {c : Cod β} {xs : List (List β)} (i : Nat) (h : Γ[i]? = some (some (oll c xs))) (hs : SX X T W Γx (Γ.set i (some (fz (cList (cList c)) xs))) sts ts m I) : SX X T W Γx Γ sts ts m I :=
  ⟨hs.ps, fun Z G0 S σ G H D k q => by
    obtain ⟨v, l, hw, k1, back⟩ := k.take h
    obtain ⟨G', k2⟩ := k1.icyL
    exact hs.ev Z G0 S σ G' H D (back _ _ _ k2) q⟩
end
end Rt
/-! Rt73: comprehensions whose items are owned. -/
namespace Rt
open PySem L2 R
section
variable {X : Cx} {T : XT} {W : WX} {Γx Γ : Ctx} {K : PySem.W.Frag}
theorem lcF_ev {tg iter : Expr} {wi : TI} {g : TG} {te : TE} {vs js : List Nat} {elt : Expr} {α β γ δ : Type} {mi : Res α} {xs : α → List β} {Rb : β → Sl} {Γ0 : α → Ctx} {F : γ → Sl} {f : α → β → Res γ} {me : α → β → Res δ} {yv : α → β → δ → γ} {Γg : α → β → Ctx} {Γe : Ctx} {X' : Cx}
    (hi : IX X T W Γx Γ tg iter wi mi xs Rb Γ0) (hg : ∀ a x, GX X' tg g js (Rb x) (wipeC (Γ0 a) vs) (Γg a x)) (hj : ∀ j ∈ js, j ∈ vs) (hv : ∀ a, ∀ v ∈ vs, v < (Γ0 a).length)
    (he : ∀ a x, EX X' T (fun _ _ _ _ => False) Γe (Γg a x) elt te (me a x) (fun b => F (yv a x b)) (fun _ => Γg a x)) (hd : ∀ a x, Wk (Γg a x) (wipeC (Γ0 a) vs)) (hb : ∀ a x, Bd (f a x) (me a x) (fun b => .ok (yv a x b)))
    (Z G0 : Hp) (S : List Pl) (σ : St) (G H : Hp) (Q : VK) (k : Okc Z G0 S Γ σ G H)
    (q : (mi.bind fun a => (R.mapC (f a) (xs a)).bind fun ys => .ok (a, ys)).wp (fun t => ∀ v G' H', Okc Z G0 ((some (ols (List.map F t.2)), some v) :: S) (Γ0 t.1) σ G' H' → Q v H') (fun ex => ∀ cls d G' H', Okc Z G0 S Γx σ G' H' → T.rel ex cls d G' → W cls d σ H')) :
    tLc wi g tYes te vs σ H Q := by
  refine hi.ev Z G0 S σ G H _ k (Res.wp_mono (Res.wp_bind q) (fun a q J G1 H1 k1 src => ?_) fun ex q => q)
  intro D hD
  have q := Res.wp_bind q
  obtain ⟨Gd, Y, wk, gd, hy⟩ := src
  obtain ⟨L, up, down⟩ := lifts k1.len vs (hv a)
  have q' : (R.mapK (f a) (xs a)).wp (fun ys => ∀ v G' H', Okc Z G0 ((some (ols (List.map F ys)), some v) :: S) (Γ0 a) σ G' H' → Q v H') (fun _ => True) ∧ (xs a).length ≤ R.line := by
    unfold R.mapC at q
    cases e : decide ((xs a).length ≤ R.line) with
    | true =>
      rw [e] at q
      exact ⟨Res.wp_mono q (fun ys z => z) fun _ _ => trivial, of_decide_eq_true e⟩
    | false =>
      rw [e] at q
      exact q.elim
  obtain ⟨q, hz⟩ := q'
  have kD : Okc Z G1 ((some (ols (List.map F [])), some (.ref D)) :: S) (Γ0 a) σ G1 (upd H1 D (.lst [])) := ⟨k1.len, k1.base.ok.layOwn (s := ols (List.map F [])) hD ⟨D, [], [], rfl, rfl, upd_same, rfl, rfl⟩⟩
  refine lc_it wk (fun i H => ∃ acc G, Okc Z G1 (L ++ ((some (ols (List.map F acc)), some (.ref D)) :: S)) (wipeC (Γ0 a) vs) (wipe σ vs) G H ∧ acc.length ≤ i ∧
      (R.mapK (f a) ((xs a).drop i)).wp (fun ys => ∀ v G' H', Okc Z G0 ((some (ols (List.map F (acc ++ ys))), some v) :: S) (Γ0 a) σ G' H' → Q v H') (fun _ => True))
    ⟨[], G1, up _ _ _ _ _ kD, Nat.zero_le _, q⟩ (fun i H _ ⟨acc, G, k2, _⟩ => gd H k2.hex) ?_ ?_
  · rintro i v H H' hi' ⟨acc, G, k2, hl, w⟩ y
    have hx : (xs a)[i]? = some (xs a)[i] := List.getElem?_eq_getElem hi'
    rw [List.drop_eq_getElem_cons hi'] at w
    have w2 : (f a (xs a)[i]).wp (fun y => ((R.mapK (f a) ((xs a).drop (i + 1))).bind fun ys => .ok (y :: ys)).wp (fun ys => ∀ v G' H', Okc Z G0 ((some (ols (List.map F (acc ++ ys))), some v) :: S) (Γ0 a) σ G' H' → Q v H') (fun _ => True)) (fun _ => False) := Res.wp_calm (Res.wp_bind w)
    obtain ⟨G2, k3⟩ := hy i _ hx H v H' y Z G1 _ G k2.gex k2.ok
    refine (hg a (xs a)[i]).ev Z G1 _ _ G2 H' v _ ⟨k2.len, k3⟩ fun σ3 G3 H3 k4 hw => ⟨(hw vs hj).trans wipe_wipe, ?_⟩
    unfold tYes
    dsimp only
    rw [if_pos rfl]
    refine (he a (xs a)[i]).ev Z G1 _ σ3 G3 H3 _ k4 (Res.wp_mono (hb a (xs a)[i] _ _ w2) (fun b w3 y G4 H4 k5 => ?_) fun ex z => z.elim)
    have w4 := Res.wp_bind (show ((R.mapK (f a) ((xs a).drop (i + 1))).bind fun ys => .ok (yv a (xs a)[i] b :: ys)).wp (fun ys => ∀ v G' H', Okc Z G0 ((some (ols (List.map F (acc ++ ys))), some v) :: S) (Γ0 a) σ G' H' → Q v H') (fun _ => True) from w3)
    -- the new item ahead of the list
    have k6 : Okc Z G1 (L ++ ((some (F (yv a (xs a)[i] b)), some y) :: (some (ols (List.map F acc)), some (.ref D)) :: S)) (wipeC (Γ0 a) vs) (wipe σ vs) G4 H4 := by
      have e1 := forgets (hd a (xs a)[i] _ _ _ _ _ _ k5) vs fun v h => wipeC_at h (hv a v h)
      rw [(hw vs hj).trans wipe_wipe] at e1
      refine ⟨e1.len, e1.ok.perm ?_⟩
      show (((some (F (yv a (xs a)[i] b)), some y) :: (L ++ (some (ols (List.map F acc)), some (.ref D)) :: S)) ++ _).Perm _
      exact (mid (l := L) (m := (some (ols (List.map F acc)), some (.ref D)) :: S)).symm.append_right _
    have k7 := down _ _ _ _ _ k6
    obtain ⟨ws, hD', hlen, k8⟩ := Okl.growO k7.ok
    rw [List.length_map] at hlen
    rw [show List.map F acc ++ [F (yv a (xs a)[i] b)] = List.map F (acc ++ [yv a (xs a)[i] b]) by rw [List.map_append]; rfl] at k8
    refine ⟨ws, hD', ?_, acc ++ [yv a (xs a)[i] b], G4, up _ _ _ _ _ ⟨k7.len, k8⟩, ?_, Res.wp_mono w4 (fun ys z => ?_) fun _ _ => trivial⟩
    · rw [← line_eq, hlen]
      omega
    · rw [List.length_append]
      show acc.length + 1 ≤ i + 1
      omega
    · rw [List.append_assoc]
      exact z
  · rintro H ⟨acc, G, k2, _, w⟩
    rw [List.drop_length] at w
    have k3 := k1.back (down _ _ _ _ _ k2)
    exact w (.ref D) G H (by rw [List.append_nil]; exact k3)
/-- [elt for tg in iter] -/
theorem ex_lcF {tg iter elt : Expr} {scope : Scope} {own : List (Str × Nat)} {pos : Pos} {wi : TI} {g : TG} {te : TE} {js : List Nat} {α β γ δ : Type} [Nonempty α] [Nonempty β] {mi : Res α} {xs : α → List β} {Rb : β → Sl} {Γ0 : α → Ctx} {F : γ → Sl} {f : α → β → Res γ} {me : α → β → Res δ} {yv : α → β → δ → γ} {Γg : α → β → Ctx} {Γe : Ctx} {Re : α → β → δ → Sl} {Γo : α → β → δ → Ctx}
    (hN : X.N.Nodup) (hi : IX X T W Γx Γ tg iter wi mi xs Rb Γ0) (ok : BlkOk X.N X.env.scope scope own)
    (hg : ∀ (s : Shared) (H : Hp) (C : Addr) (cl : List (Str × Addr)) (fp : List Addr) a x, GX (X.blk s H scope (compEnvC scope cl C X.env) fp) tg g js (Rb x) (wipeC (Γ0 a) (own.map (·.2))) (Γg a x))
    (he : ∀ (s : Shared) (H : Hp) (C : Addr) (cl : List (Str × Addr)) (fp : List Addr) a x, EX (X.blk s H scope (compEnvC scope cl C X.env) fp) T (fun _ _ _ _ => False) Γe (Γg a x) elt te (me a x) (Re a x) (Γo a x))
    (hRe : ∀ a x b, Re a x b = F (yv a x b) := by exact fun _ _ _ => rfl) (hΓo : ∀ a x b, Γo a x b = Γg a x := by exact fun _ _ _ => rfl) (hb : ∀ a x, Bd (f a x) (me a x) (fun b => .ok (yv a x b)) := by intros; repeat (first | ((with_reducible refine Bd.done ?_); exact rfl) | with_reducible refine Bd.okl ?_ | with_reducible refine Bd.assoc ?_ | with_reducible refine Bd.bind fun _ => ?_ | with_reducible refine Bd.eta fun _ => ?_ | with_reducible refine Bd.iteB ?_ ?_ fun _ => ?_ | with_reducible refine Bd.iteE ?_ ?_ fun _ => ?_ | with_reducible refine Bd.ite ?_ ?_ | with_reducible refine Bd.iteL ?_ ?_ | with_reducible refine Bd.assocL ?_ | with_reducible refine Bd.oklL ?_ | with_reducible exact Bd.same | with_reducible exact Bd.at | dsimp only)) (hj : ∀ j ∈ js, j ∈ own.map (·.2) := by decide) (hv : ∀ a, ((own.map (·.2)).all fun v => Nat.ble (v + 1) (Γ0 a).length) = true := by exact fun _ => rfl) (hd : ∀ a x, Wk (Γg a x) (wipeC (Γ0 a) (own.map (·.2))))
    (hc : X.calm = true := by rfl) (hs : ∀ x, foldedSetIterable iter X.env x = pure x := by intro _; rfl) :
    EX X T W Γx Γ (.ListComp elt [⟨tg, iter, [], 0⟩] scope pos) (tLc wi g tYes te (own.map (·.2))) (mi.bind fun a => (R.mapC (f a) (xs a)).bind fun ys => .ok (a, ys)) (fun t => ols (List.map F t.2)) (fun t => Γ0 t.1) := by
  obtain rfl : Re = fun a x b => F (yv a x b) := funext fun a => funext fun x => funext (hRe a x)
  obtain rfl : Γo = fun a x _ => Γg a x := funext fun a => funext fun x => funext (hΓo a x)
  obtain ⟨a0⟩ := ‹Nonempty α›
  obtain ⟨b0⟩ := ‹Nonempty β›
  refine ⟨pe_lc hc hN hi.pi ok (fun s H C cl fp => (hg s H C cl fp a0 b0).pg) (fun _ _ _ _ _ => pts_nil) (fun s H C cl fp => (he s H C cl fp a0 b0).pe) hs, ?_⟩
  exact lcF_ev hi (hg X.s_0 (fun _ => none) 0 [] []) hj (fun a v hm => Nat.le_of_ble_eq_true (List.all_eq_true.mp (hv a) v hm)) (he X.s_0 (fun _ => none) 0 [] []) hd hb
theorem s1_asgLcF {i : Nat} {y : Str} {py spos : Pos} {tg iter elt : Expr} {scope : Scope} {own : List (Str × Nat)} {pos : Pos} {wi : TI} {g : TG} {te : TE} {js : List Nat} {α β γ δ : Type} [Nonempty α] [Nonempty β] {mi : Res α} {xs : α → List β} {Rb : β → Sl} {Γ0 : α → Ctx} {F : γ → Sl} {f : α → β → Res γ} {me : α → β → Res δ} {yv : α → β → δ → γ} {Γg : α → β → Ctx} {Γe : Ctx} {Re : α → β → δ → Sl} {Γo : α → β → δ → Ctx} {mn : Res (List γ)}
    (hN : X.N.Nodup) (hy : X.N[i]? = some y) (hyl : X.env.scope.names.lookup y = some .local) (hsw : swapsWith (.ListComp elt [⟨tg, iter, [], 0⟩] scope pos) (some (.Name y py)) spos.line X.env = pure true) (hi : IX X T W Γx Γ tg iter wi mi xs Rb Γ0) (ok : BlkOk X.N X.env.scope scope own)
    (hg : ∀ (s : Shared) (H : Hp) (C : Addr) (cl : List (Str × Addr)) (fp : List Addr) a x, GX (X.blk s H scope (compEnvC scope cl C X.env) fp) tg g js (Rb x) (wipeC (Γ0 a) (own.map (·.2))) (Γg a x))
    (he : ∀ (s : Shared) (H : Hp) (C : Addr) (cl : List (Str × Addr)) (fp : List Addr) a x, EX (X.blk s H scope (compEnvC scope cl C X.env) fp) T (fun _ _ _ _ => False) Γe (Γg a x) elt te (me a x) (Re a x) (Γo a x))
    (hRe : ∀ a x b, Re a x b = F (yv a x b) := by exact fun _ _ _ => rfl) (hΓo : ∀ a x b, Γo a x b = Γg a x := by exact fun _ _ _ => rfl) (hb : ∀ a x, Bd (f a x) (me a x) (fun b => .ok (yv a x b)) := by intros; repeat (first | ((with_reducible refine Bd.done ?_); exact rfl) | with_reducible refine Bd.okl ?_ | with_reducible refine Bd.assoc ?_ | with_reducible refine Bd.bind fun _ => ?_ | with_reducible refine Bd.eta fun _ => ?_ | with_reducible refine Bd.iteB ?_ ?_ fun _ => ?_ | with_reducible refine Bd.iteE ?_ ?_ fun _ => ?_ | with_reducible refine Bd.ite ?_ ?_ | with_reducible refine Bd.iteL ?_ ?_ | with_reducible refine Bd.assocL ?_ | with_reducible refine Bd.oklL ?_ | with_reducible exact Bd.same | with_reducible exact Bd.at | dsimp only)) (hj : ∀ j ∈ js, j ∈ own.map (·.2) := by decide) (hv : ∀ a, ((own.map (·.2)).all fun v => Nat.ble (v + 1) (Γ0 a).length) = true := by exact fun _ => rfl) (hd : ∀ a x, Wk (Γg a x) (wipeC (Γ0 a) (own.map (·.2)))) (hΓ : ∀ t, Γ0 t = Γ := by exact fun _ => rfl) (hl : Nat.ble (i + 1) Γ.length = true := by rfl) (hm : Bd mn (mi.bind fun a => (R.mapC (f a) (xs a)).bind fun ys => .ok (a, ys)) (fun t => .ok t.2) := by intros; repeat (first | ((with_reducible refine Bd.done ?_); exact rfl) | with_reducible refine Bd.okl ?_ | with_reducible refine Bd.assoc ?_ | with_reducible refine Bd.bind fun _ => ?_ | with_reducible refine Bd.eta fun _ => ?_ | with_reducible refine Bd.iteB ?_ ?_ fun _ => ?_ | with_reducible refine Bd.iteE ?_ ?_ fun _ => ?_ | with_reducible refine Bd.ite ?_ ?_ | with_reducible refine Bd.iteL ?_ ?_ | with_reducible refine Bd.assocL ?_ | with_reducible refine Bd.oklL ?_ | with_reducible exact Bd.same | with_reducible exact Bd.at | dsimp only))
    (hc : X.calm = true := by rfl) (hs : ∀ x, foldedSetIterable iter X.env x = pure x := by intro _; rfl) :
    S1 X T W Γx Γ (.Assign [.Name y py] (.ListComp elt [⟨tg, iter, [], 0⟩] scope pos) spos) (tAsg (tLc wi g tYes te (own.map (·.2))) (gName i)) mn (fun v => .nx (Γ.set i (some (ols (List.map F v))))) := by
  obtain rfl : Re = fun a x b => F (yv a x b) := funext fun a => funext fun x => funext (hRe a x)
  obtain rfl : Γo = fun a x _ => Γg a x := funext fun a => funext fun x => funext (hΓo a x)
  obtain ⟨a0⟩ := ‹Nonempty α›
  obtain ⟨b0⟩ := ‹Nonempty β›
  refine ⟨ps_setLc hc hN hy hyl hsw hi.pi ok (fun s H C cl fp => (hg s H C cl fp a0 b0).pg) (fun _ _ _ _ _ => pts_nil) (fun s H C cl fp => (he s H C cl fp a0 b0).pe) hs, fun Z G0 S σ G H D k q => ?_⟩
  exact lcF_ev hi (hg X.s_0 (fun _ => none) 0 [] []) hj (fun a v hm => Nat.le_of_ble_eq_true (List.all_eq_true.mp (hv a) v hm)) (he X.s_0 (fun _ => none) 0 [] []) hd hb Z G0 S σ G H _ k (Res.wp_mono (hm _ _ q) (fun t q v G' H' k' => by
    rw [hΓ] at k'
    exact q _ G' H' (k'.store (Nat.le_of_ble_eq_true hl))) fun ex q cls d G' H' k' => q cls d σ G' H' k')
end
end Rt
/-! Rt74: rows of an owned list of owned lists. -/
namespace Rt
open PySem L2 R
theorem lput_map {α β : Type _} {f : α → β} {xs : List α} {k : Int} {a : α} : lput (xs.map f) k (f a) = (lput xs k a).map f := by
  unfold lput
  rw [List.length_map]
  cases R.ixN xs.length k with
  | none => rfl
  | some j => exact List.map_set.symm
theorem lput_at {α : Type _} {xs : List α} {k : Int} {a : α} {j : Nat} (h : R.ixN xs.length k = some j) : lput xs k a = xs.set j a := by
  unfold lput
  rw [h]
theorem atI_ix {α : Type} {xs : List α} {k : Int} {a : α} (h : R.atI xs k = some a) : ∃ j, R.ixN xs.length k = some j ∧ xs[j]? = some a := by
  unfold R.atI at h
  cases e : R.ixN xs.length k with
  | none => rw [e] at h; cases h
  | some j => rw [e] at h; exact ⟨j, rfl, h⟩
section
variable {X : Cx} {T : XT} {W : WX} {Γx Γ : Ctx} {K : PySem.W.Frag} {β : Type}
/-- row = x[k]: the row is at hand, its place in x is a hole -/
theorem sx_rowL {n jj : Nat} {x y : Str} {i : Expr} {ty : TE} {p1 p2 p3 pos : Pos} {c : Cod β} {xs : List (List β)} {α γ : Type} [Nonempty α] {m1 : Res α} {R1 : α → Sl} {Γ1 : α → Ctx} {a : α → Int} {mi : Res Int} {rest : List Stmt} {u : TS} {m2 : Int → List β → Res γ} {I : γ → Out}
    (hi : EX X T W Γx Γ i ty m1 R1 Γ1) (hrest : ∀ k r p, SX X T W Γx ((Γ.set n (some (ols (lput (xs.map (ol c)) k (hole (.ref p)))))).set jj (some (atP p (ol c r)))) rest u (m2 k r) I)
    (hNd : X.N.Nodup) (hj : X.N[jj]? = some y := by rfl) (hy : Loc X.env.scope y := by first | exact Or.inl rfl | exact Or.inr rfl) (hR : ∀ t, R1 t = sI (a t) := by exact fun _ => rfl) (hΓ : ∀ t, Γ1 t = Γ := by exact fun _ => rfl) (hpi : PlainIx i := by exact fun _ _ => rfl)
    (hb : Bd mi m1 (fun t => .ok (a t)) := by intros; repeat (first | ((with_reducible refine Bd.done ?_); exact rfl) | with_reducible refine Bd.okl ?_ | with_reducible refine Bd.assoc ?_ | with_reducible refine Bd.bind fun _ => ?_ | with_reducible refine Bd.eta fun _ => ?_ | with_reducible refine Bd.iteB ?_ ?_ fun _ => ?_ | with_reducible refine Bd.iteE ?_ ?_ fun _ => ?_ | with_reducible refine Bd.ite ?_ ?_ | with_reducible refine Bd.iteL ?_ ?_ | with_reducible refine Bd.assocL ?_ | with_reducible refine Bd.oklL ?_ | with_reducible exact Bd.same | with_reducible exact Bd.at | dsimp only))
    (h : Γ[n]? = some (some (oll c xs)) := by rfl) (hlj : Nat.ble (jj + 1) Γ.length = true := by rfl) (hN : X.N[n]? = some x := by rfl) (hv : Vis X.env.scope x := by first | exact Or.inl rfl | exact Or.inr (Or.inl rfl) | exact Or.inr (Or.inr rfl)) (hd : (x == ("__debug__" : Str)) = false := by decide) (hcd : (x == ("__classdict__" : Str)) = false := by decide)
    (hs : swapsWith (.Subscript (.Name x p1) i p2) (some (.Name y p3)) pos.line X.env = pure false := by rfl) (hf : X.fn y = true ∨ X.env.scope.names.lookup y = some .local := by first | exact .inl rfl | exact .inr rfl | assumption) (hK : X.K = K := by rfl) :
    SX X T W Γx Γ (.Assign [.Name y p3] (.Subscript (.Name x p1) i p2) pos :: rest) (tSeq (tAsg (tOp (rIxL K) (tVar n) ty) (gName jj)) u) (mi.bind fun k => (idx xs k).bind fun r => m2 k r) I := by
  subst hK
  obtain rfl : R1 = fun t => sI (a t) := funext hR
  obtain rfl : Γ1 = fun _ => Γ := funext hΓ
  refine ⟨pss_cons (ps_set hNd hj hy (pe_ix L2.ix_list (pv n hN hv hd hcd) hi.pe hpi) hs hf) (hrest 0 [] 0).ps, fun Z G0 S σ G H D k q => ?_⟩
  obtain ⟨w, _, hw, _, _⟩ := k.take h
  refine ⟨w, hw, ?_⟩
  refine hi.ev Z G0 S σ G H _ k (Res.wp_mono (hb _ _ (Res.wp_bind q)) (fun t q y G1 H1 k1 => ?_) fun ex q cls d G' H' k' => q cls d σ G' H' k')
  obtain ⟨r, e, q3⟩ := wp_cases (Res.wp_bind q) idx_ne
  have hy2 : y = .int (a t) := k1.tp
  obtain ⟨w', M, hw', k3, back, _⟩ := Okc.takeS (L := []) (S := S) k1.drop h
  rw [hw] at hw'
  cases hw'
  have k3' : Okl Z G0 ((some (oll c xs), some w) :: M) G1 H1 := k3
  obtain ⟨j, ej, er⟩ := atI_ix (idx_ok e)
  obtain ⟨p, vs, u', rfl, hp, hlen, hval, k4⟩ := Okl.lfocus (i := j) (s := ol c r) k3' (by rw [List.getElem?_map, er]; rfl)
  rw [List.length_map] at hlen
  obtain ⟨q', ws, rfl, _, _, _⟩ := ol_own k4
  have k5 := k4.re (s' := atP q' (ol c r)) fun ps hh => ⟨rfl, hh⟩
  refine ⟨p, vs, a t, .ref q', rfl, hy2, SqL.of hp, ?_, ?_⟩
  · unfold L2.atI
    rw [hlen, ixN_lt ej]
    exact hval
  · rw [← lput_at (xs := xs.map (ol c)) (k := a t) (by rw [List.length_map]; exact ej)] at k5
    have k6 := back Z G0 (ols (lput (xs.map (ol c)) (a t) (hole (.ref q')))) [(some (atP q' (ol c r)), some (.ref q'))] G1 H1 (k5.perm (List.Perm.swap _ _ _))
    exact (hrest (a t) r q').ev Z G0 S _ G1 H1 D (k6.store (by rw [List.length_set]; exact Nat.le_of_ble_eq_true hlj)) q3
/-- the row goes back -/
theorem wk_rowL {n jj : Nat} {c : Cod β} {xs : List (List β)} {k : Int} {r : List β} {p : Addr} (h1 : Γ[n]? = some (some (ols (lput (xs.map (ol c)) k (hole (.ref p)))))) (h2 : Γ[jj]? = some (some (atP p (ol c r)))) (hne : ¬ n = jj) : Wk Γ ((Γ.set jj none).set n (some (oll c (lput xs k r)))) := fun Z G0 S σ G H j => by
  obtain ⟨v, M, hw, k1, back, bare⟩ := Okc.takeS (L := []) (S := S) j h2
  have k1' : Okl Z G0 ((some (atP p (ol c r)), some v) :: M) G H := k1
  have hvp : v = .ref p := by
    obtain ⟨ps, ⟨_, _, _, ⟨v', e, z, _⟩, _⟩, _, _⟩ := k1'.own
    cases e
    exact z
  subst hvp
  cases e : R.ixN xs.length k with
  | none =>
    have e1 : lput xs k r = xs := by unfold lput; rw [e]
    have e2 : lput (xs.map (ol c)) k (hole (.ref p)) = xs.map (ol c) := by unfold lput; rw [List.length_map, e]
    rw [e2] at h1
    rw [e1]
    have z := bare Z G0 G H k1'.drop
    have e3 : (Γ.set jj none).set n (some (oll c xs)) = Γ.set jj none := by
      refine List.ext_getElem? fun a => ?_
      rw [List.getElem?_set]
      by_cases ha : n = a
      · subst ha
        have hl : n < (Γ.set jj none).length := by rw [List.length_set]; exact (List.getElem?_eq_some_iff.mp h1).1
        rw [if_pos rfl, if_pos hl, List.getElem?_set, if_neg fun y => hne y.symm, h1]
        rfl
      · rw [if_neg ha]
    rw [e3]
    exact z
  | some i =>
    have e2 : lput (xs.map (ol c)) k (hole (.ref p)) = (xs.map (ol c)).set i (hole (.ref p)) := lput_at (by rw [List.length_map]; exact e)
    rw [e2] at h1
    have hi : i < xs.length := (ixN_seq (ixN_lt e)).2.1
    have k2 := k1'.re (s' := ol c r) fun ps hh => hh.2
    have b1 := back Z G0 (hole (.ref p)) [(some (ol c r), some (.ref p))] G H k2.hole
    have h1' : (Γ.set jj (some (hole (.ref p))))[n]? = some (some (ols ((xs.map (ol c)).set i (hole (.ref p))))) := by
      rw [List.getElem?_set, if_neg fun e => hne e.symm]
      exact h1
    obtain ⟨v, M', hw2, k3, back2, _⟩ := Okc.takeS (L := [(some (ol c r), some (V.ref p))]) (S := S) b1 h1'
    have k3' : Okl Z G0 ((some (ols ((xs.map (ol c)).set i (hole (.ref p)))), some v) :: (some (ol c r), some (.ref p)) :: M') G H := k3
    have k4 := Okl.lunfocus (by rw [List.length_map]; exact hi) (k3'.perm (List.Perm.swap _ _ _))
    have e4 : (xs.map (ol c)).set i (ol c r) = (lput xs k r).map (ol c) := by rw [lput_at e, List.map_set]
    rw [e4] at k4
    have k5 := back2 Z G0 (oll c (lput xs k r)) [] G H k4
    have h2' : ((Γ.set jj (some (hole (.ref p)))).set n (some (oll c (lput xs k r))))[jj]? = some (some (hole (.ref p))) := by
      rw [List.getElem?_set, if_neg hne, List.getElem?_set, if_pos rfl]
      obtain ⟨z, _⟩ := List.getElem?_eq_some_iff.mp h2
      rw [if_pos z]
    obtain ⟨_, M2, _, k6, _, bare2⟩ := Okc.takeS (L := []) (S := S) k5 h2'
    have k7 := bare2 Z G0 G H (Okl.drop k6)
    rw [List.set_comm _ _ hne, List.set_set] at k7
    exact k7
theorem Bd.calmB {ι ε β α : Type} {mj : Res ι} {m3 : Res ε} {kk : ε → ι} {g : ι → Res β} {f : ε → Res α} {K : α → Res β} (hg : ∀ z, Bd (g (kk z)) (f z) K) (h : Bd mj m3 (fun z => .ok (kk z))) : Bd (mj.calm.bind g) (m3.calm.bind f) K := fun Q E w => by
  have w1 := h _ _ (Res.wp_calm (Res.wp_bind w))
  cases e : m3 with
  | ok z => rw [e] at w1; exact hg z Q E w1
  | exn _ => rw [e] at w1; exact w1.elim
  | stuck => rw [e] at w1; exact w1.elim
/-- x[i][j] = e -/
theorem s1_setLL {n : Nat} {x : Str} {e e2 e3 : Expr} {te ti tj : TE} {p1 p2 p4 pos : Pos} {α γ δ : Type} {ε : Type} [Nonempty α] [Nonempty δ] {c : Cod γ} {m1 : Res α} {Rm : α → Sl} {a : α → γ} {m2 : α → Res δ} {Rk : α → δ → Sl} {Γo : α → Ctx} {Γk : α → δ → Ctx} {k : α → δ → Int} {m3 : α → δ → Res ε} {R3 : α → δ → ε → Sl} {Γ3 : α → δ → Int → V → ε → Ctx} {Γe : Ctx} {kk : α → δ → ε → Int} {xs : List (List γ)} {mn : Res (List (List γ))}
    (he : EX X T W Γx Γ e te m1 Rm Γo) (hi : ∀ t, EX X T W Γx (Γo t) e2 ti (m2 t) (Rk t) (Γk t)) (hj : ∀ t u i w, EX X T (fun _ _ _ _ => False) Γe (Γ.set n (some (ols (lput (xs.map (ol c)) i (hole w))))) e3 tj (m3 t u) (R3 t u) (Γ3 t u i w))
    (hR : ∀ t, Rm t = fz c (a t) := by exact fun _ => rfl) (hRk : ∀ t u, Rk t u = sI (k t u) := by exact fun _ _ => rfl) (hR3 : ∀ t u z, R3 t u z = sI (kk t u z) := by exact fun _ _ _ => rfl) (hΓo : ∀ t, Γo t = Γ := by exact fun _ => rfl) (hΓk : ∀ t u, Γk t u = Γ := by exact fun _ _ => rfl) (hΓ3 : ∀ t u i w z, Γ3 t u i w z = Γ.set n (some (ols (lput (xs.map (ol c)) i (hole w)))) := by exact fun _ _ _ _ _ => rfl)
    (h : Γ[n]? = some (some (oll c xs)) := by rfl) (hN : X.N[n]? = some x := by rfl) (hv : Vis X.env.scope x := by first | exact Or.inl rfl | exact Or.inr (Or.inl rfl) | exact Or.inr (Or.inr rfl))
    (hb : Bd mn (m1.bind fun t => (m2 t).bind fun u => (idx xs (k t u)).bind fun r => (m3 t u).calm.bind fun z => (R.setI r (kk t u z) (a t)).bind fun r' => .ok (t, u, z, lput xs (k t u) r')) (fun t => .ok t.2.2.2) := by intros; repeat (first | ((with_reducible refine Bd.done ?_); exact rfl) | with_reducible refine Bd.okl ?_ | (with_reducible apply Bd.calmB; intro _) | with_reducible refine Bd.assoc ?_ | with_reducible refine Bd.bind fun _ => ?_ | with_reducible refine Bd.eta fun _ => ?_ | with_reducible refine Bd.iteB ?_ ?_ fun _ => ?_ | with_reducible refine Bd.iteE ?_ ?_ fun _ => ?_ | with_reducible refine Bd.ite ?_ ?_ | with_reducible refine Bd.iteL ?_ ?_ | with_reducible refine Bd.assocL ?_ | with_reducible refine Bd.oklL ?_ | with_reducible exact Bd.same | with_reducible exact Bd.at | dsimp only))
    (hd : (x == ("__debug__" : Str)) = false := by decide) (hcd : (x == ("__classdict__" : Str)) = false := by decide) (hpi : PlainIx e2 := by exact fun _ _ => rfl) (hpg : ∀ {to ti : TE}, PE X (.Subscript (.Name x p1) e2 p2) to → PE X e3 ti → PG X (.Subscript (.Subscript (.Name x p1) e2 p2) e3 p4) (gSub to ti rSetL) := by exact fun h1 h2 => pg_sub h1 h2 set_list)
    (hs : swapsWithSole [.Subscript (.Subscript (.Name x p1) e2 p2) e3 p4] e pos.line X.env = pure false := by rfl) (hw : swappedStores [.Subscript (.Subscript (.Name x p1) e2 p2) e3 p4] e X.env = pure none := by rfl) (hK : X.K = K := by rfl) :
    S1 X T W Γx Γ (.Assign [.Subscript (.Subscript (.Name x p1) e2 p2) e3 p4] e pos) (tAsg te (gSub (tOp (rIxL K) (tVar n) ti) tj rSetL)) mn (fun ys => .nx (Γ.set n (some (oll c ys)))) := by
  subst hK
  obtain rfl : Rm = fun t => fz c (a t) := funext hR
  obtain rfl : Rk = fun t u => sI (k t u) := funext fun t => funext (hRk t)
  obtain rfl : R3 = fun t u z => sI (kk t u z) := funext fun t => funext fun u => funext (hR3 t u)
  obtain rfl : Γo = fun _ => Γ := funext hΓo
  obtain rfl : Γk = fun _ _ => Γ := funext fun t => funext (hΓk t)
  obtain rfl : Γ3 = fun t u i w _ => Γ.set n (some (ols (lput (xs.map (ol c)) i (hole w)))) := funext fun t => funext fun u => funext fun i => funext fun w => funext (hΓ3 t u i w)
  obtain ⟨t0⟩ := ‹Nonempty α›
  obtain ⟨u0⟩ := ‹Nonempty δ›
  refine ⟨ps_asg he.pe (hpg (pe_ix L2.ix_list (pv n hN hv hd hcd) (hi t0).pe hpi) (hj t0 u0 0 .non).pe) hs hw, fun Z G0 S σ G H D kc q => ?_⟩
  refine he.ev Z G0 S σ G H _ kc (Res.wp_mono (Res.wp_bind (hb _ _ q)) (fun t q y G1 H1 k1 => ?_) fun ex q cls d G' H' k' => q cls d σ G' H' k')
  obtain ⟨v, _, hw', _, _⟩ := k1.drop.take h
  refine ⟨v, hw', ?_⟩
  refine (hi t).ev Z G0 _ σ G1 H1 _ k1 (Res.wp_mono (Res.wp_bind q) (fun u q w G2 H2 k2 => ?_) fun ex q cls d G' H' k' => q cls d σ G' H' k'.drop)
  obtain ⟨r, e, q3⟩ := wp_cases (Res.wp_bind q) idx_ne
  have hk : w = .int (k t u) := k2.tp
  obtain ⟨v', M, hw2, k3, back, _⟩ := Okc.takeS (L := [(some (fz c (a t)), some y)]) (S := S) k2.drop h
  rw [hw'] at hw2
  cases hw2
  have k3' : Okl Z G0 ((some (oll c xs), some v) :: (some (fz c (a t)), some y) :: M) G2 H2 := k3
  obtain ⟨j, ej, er⟩ := atI_ix (idx_ok e)
  have hjx : j < xs.length := (ixN_seq (ixN_lt ej)).2.1
  obtain ⟨p, vs, u', rfl, hp, hlen, hval, k4⟩ := Okl.lfocus (i := j) (s := ol c r) k3' (by rw [List.getElem?_map, er]; rfl)
  rw [List.length_map] at hlen
  have elp : ∀ s, lput (xs.map (ol c)) (k t u) s = (xs.map (ol c)).set j s := fun s => lput_at (by rw [List.length_map]; exact ej)
  refine ⟨p, vs, k t u, u', rfl, hk, SqL.of hp, ?_, ?_⟩
  · unfold L2.atI
    rw [hlen, ixN_lt ej]
    exact hval
  · have k6 : Okc Z G0 ((some (ol c r), some u') :: (some (fz c (a t)), some y) :: S) (Γ.set n (some (ols (lput (xs.map (ol c)) (k t u) (hole u'))))) σ G2 H2 := back Z G0 (ols (lput (xs.map (ol c)) (k t u) (hole u'))) [(some (ol c r), some u'), (some (fz c (a t)), some y)] G2 H2 (by rw [elp]; exact k4.perm (List.Perm.swap _ _ _))
    refine (hj t u (k t u) u').ev Z G0 _ σ G2 H2 _ k6 (Res.wp_mono (Res.wp_calm (Res.wp_bind q3)) (fun z q w3 G3 H3 k7 => ?_) fun ex z => z.elim)
    obtain ⟨r', e5, q5⟩ := wp_cases (Res.wp_bind q) setI_ne
    have hk3 : w3 = .int (kk t u z) := k7.tp
    have hn : (Γ.set n (some (ols (lput (xs.map (ol c)) (k t u) (hole u')))))[n]? = some (some (ols (lput (xs.map (ol c)) (k t u) (hole u')))) := by
      rw [List.getElem?_set, if_pos rfl, if_pos (List.getElem?_eq_some_iff.mp h).1]
    have hy := k7.drop.drop.tp
    obtain ⟨v3, M3, hw3, k8, back3, _⟩ := Okc.takeS (L := [(some (ol c r), some u'), (some (fz c (a t)), some y)]) (S := S) k7.drop hn
    rw [hw'] at hw3
    cases hw3
    have k9 : Okl Z G0 ((some (ol c r), some u') :: (some (ols (lput (xs.map (ol c)) (k t u) (hole u'))), some (.ref p)) :: (some (fz c (a t)), some y) :: M3) G3 H3 := k8.perm (List.Perm.swap _ _ _)
    obtain ⟨q', ws, rfl, h3, hpr, wr⟩ := ol_own k9
    unfold R.setI at e5
    cases ej2 : R.ixN r.length (kk t u z) with
    | none => rw [ej2] at e5; cases e5
    | some j2 =>
      rw [ej2] at e5
      cases e5
      refine ⟨q', ws, kk t u z, j2, rfl, hk3, h3, by rw [hpr.length]; exact ej2, ?_⟩
      have k10 := wr _ _ (paired_set (j := j2) hpr hy)
      rw [elp] at k10
      have k11 := Okl.lunfocus (by rw [List.length_map]; exact hjx) k10
      have e4 : (xs.map (ol c)).set j (ol c (r.set j2 (a t))) = (lput xs (k t u) (r.set j2 (a t))).map (ol c) := by rw [lput_at ej, List.map_set]
      rw [e4] at k11
      have k12 := back3 Z G0 (oll c (lput xs (k t u) (r.set j2 (a t)))) [] G3 _ (Okl.drop (k11.perm (List.Perm.swap _ _ _)))
      rw [List.set_set] at k12
      exact q5 σ G3 _ k12
end
end Rt
/-! Rt75: a list at hand is read. -/
namespace Rt
open PySem L2 R
section
variable {X : Cx} {T : XT} {W : WX} {Γx Γ : Ctx} {K : PySem.W.Frag}
theorem ex_ixB {β γ : Type} {c : Cod γ} {xs : List γ} {o e2 : Expr} {pos : Pos} {td tb : TE} {m2 : Res β} {k : β → Int} {Rk : β → Sl} {Γo : β → Ctx} (ho : BX X Γ o td (rpL c xs)) (hb : EX X T W Γx Γ e2 tb m2 Rk Γo) (hRk : ∀ t, Rk t = sI (k t) := by exact fun _ => rfl) (hΓo : ∀ t, Γo t = Γ := by exact fun _ => rfl)
    (hs : PlainIx e2 := by exact fun _ _ => rfl) (hK : X.K = K := by rfl) :
    EX X T W Γx Γ (.Subscript o e2 pos) (tOp (rIxL K) td tb) (m2.bind fun y => (R.idx xs (k y)).bind fun z => .ok (y, z)) (fun t => fz c t.2) (fun _ => Γ) := by
  subst hK
  obtain rfl : Rk = fun t => sI (k t) := funext hRk
  obtain rfl : Γo = fun _ => Γ := funext hΓo
  refine ⟨pe_ix L2.ix_list ho.pe hb.pe hs, fun Z G0 S σ G H Q kk q => ?_⟩
  obtain ⟨w, hw⟩ := ho.ev Z G0 S σ G H kk
  refine (hw _ _ _ _ _ kk).2 _ ?_
  refine hb.ev Z G0 S σ G H _ kk (Res.wp_mono (Res.wp_bind q) (fun y q w' G' H' k' => ?_) fun _ z => z)
  obtain ⟨z, e, q3⟩ := wp_cases (Res.wp_bind q) idx_ne
  obtain ⟨p, vs, rfl, h3, hp⟩ := (hw _ _ _ _ _ k'.drop).1
  obtain ⟨u, hu, hr⟩ := atI_rel hp (idx_ok e)
  exact ⟨p, vs, k y, u, rfl, k'.tp, SqL.of h3, hu, q3 u G' H' (k'.drop.pushf hr)⟩
theorem ex_lenB {γ : Type} {c : Cod γ} {xs : List γ} {o : Expr} {td : TE} {p pos : Pos} (ho : BX X Γ o td (rpL c xs)) (hm : X.mg "len" = none) (hK : X.K = K := by rfl) (hg : Gl X "len" := by rfl)
    (hs : starEach (o :: []) X.env = (false, eval o X.env) :: starEach [] X.env := by rfl) (hpl : (backTo pos (starEach [] X.env)).any (·.1) = false := by rfl) :
    EX X T W Γx Γ (.Call (.Name "len" p) [o] [] pos) (tCB (rLen K) (tCons td tNil)) (.ok ()) (fun _ => sI (xs.length : Int)) (fun _ => Γ) := by
  subst hK
  refine ⟨pe_callB call_len_seq hg hm PySem.boot_len (pa_cons ho.pe pa_nil hs) (by decide) (by decide) hs hpl, fun Z G0 S σ G H Q k q => ?_⟩
  obtain ⟨w, hw⟩ := ho.ev Z G0 S σ G H k
  refine (hw _ _ _ _ _ k).2 _ ?_
  obtain ⟨p, vs, rfl, h3, hp⟩ := (hw _ _ _ _ _ k).1
  exact ⟨p, vs, rfl, .inl (SqL.of h3), q _ G H (k.pushf (c := cInt) (by show V.int _ = V.int _; rw [hp.length]))⟩
end
end Rt
/-! Rt77: a list and the box lent to one call. -/
namespace Rt
open PySem L2 R
section
variable {β : Type} {c : Cod β} {xs : List β} {p : Addr} {s : Sl} {b : List Int × Int}
def rpLp (p : Addr) (c : Cod β) (xs : List β) : Rp := fun G H v => v = .ref p ∧ rpL c xs G H v
theorem rds_lp (h : Rds s (rpLp p c xs)) : Rds s (rpL c xs) := fun G H v ps e r => (h G H v ps e r).2
theorem pin_rl (h : Rds s (rpLp p c xs)) : Pin s p := fun G H v ps e r => (h G H v ps e r).1
theorem rds_atL : Rds (atP p (ol c xs)) (rpLp p c xs) := fun G H v ps e r => ⟨r.1, rds_ol G H v ps e r.2⟩
variable {X : Cx} {T : XT} {W : WX} {Γx Γ : Ctx}
theorem okc_pinL {Z G0 G H : Hp} {S : List Pl} {σ : St} {i : Nat} (k : Okc Z G0 S Γ σ G H) (h : Γ[i]? = some (some (ol c xs))) : ∃ p, Okc Z G0 S (Γ.set i (some (atP p (ol c xs)))) σ G H := by
  obtain ⟨v, l, _, k1, back⟩ := k.take h
  obtain ⟨p, vs, rfl, _⟩ := ol_own k1
  exact ⟨p, back _ _ _ (k1.re fun ps' r' => ⟨rfl, r'⟩)⟩
theorem SX.pinL {sts : List Stmt} {ts : TS} {α : Type} {m : Res α} {I : α → Out} (i : Nat) (h : Γ[i]? = some (some (ol c xs))) (hs : ∀ p, SX X T W Γx (Γ.set i (some (atP p (ol c xs)))) sts ts m I) : SX X T W Γx Γ sts ts m I :=
  ⟨(hs 0).ps, fun Z G0 S σ G H D k q => by
    obtain ⟨p, k'⟩ := okc_pinL k h
    exact (hs p).ev Z G0 S σ G H D k' q⟩
theorem okc_pinX {Z G0 G H : Hp} {S : List Pl} {σ : St} {i : Nat} (k : Okc Z G0 S Γ σ G H) (h : Γ[i]? = some (some (bx b))) : ∃ p, Okc Z G0 S (Γ.set i (some (atP p (bx b)))) σ G H := by
  obtain ⟨v, l, _, k1, back⟩ := k.take h
  obtain ⟨ps, ⟨p1, p2, e, ⟨v', e1, p, w, e2, r⟩, h4⟩, h2, h3⟩ := k1.own
  cases e1
  exact ⟨p, back _ _ _ (k1.re fun ps' r' => ⟨e2, r'⟩)⟩
theorem SX.pinX {sts : List Stmt} {ts : TS} {α : Type} {m : Res α} {I : α → Out} (i : Nat) (h : Γ[i]? = some (some (bx b))) (hs : ∀ p, SX X T W Γx (Γ.set i (some (atP p (bx b)))) sts ts m I) : SX X T W Γx Γ sts ts m I :=
  ⟨(hs 0).ps, fun Z G0 S σ G H D k q => by
    obtain ⟨p, k'⟩ := okc_pinX k h
    exact (hs p).ev Z G0 S σ G H D k' q⟩
/-- what is at a known place, wherever that is -/
theorem SX.unpA {sts : List Stmt} {ts : TS} {α : Type} {m : Res α} {I : α → Out} (i : Nat) (h : Γ[i]? = some (some (atP p s))) (hs : SX X T W Γx (Γ.set i (some s)) sts ts m I) : SX X T W Γx Γ sts ts m I :=
  ⟨hs.ps, fun Z G0 S σ G H D k q => by
    obtain ⟨v, l, _, k1, back⟩ := k.take h
    exact hs.ev Z G0 S σ G H D (back _ _ _ (k1.re fun ps' r' => r'.2)) q⟩
/-- what is at a known place is given up, its place is known -/
theorem wkb {Γ Δ : Ctx} (w : Wk Γ Δ) : Wk (some (atP p s) :: Γ) (some (hole (.ref p)) :: Δ) := (w.cons (o := some (atP p s))).trans fun Z G0 S σ G H k => by
  obtain ⟨v, M, hw, k1, back⟩ := k.take (i := 0) (s := atP p s) rfl
  refine back (hole (.ref p)) G H ?_
  obtain ⟨ps, ⟨p1, p2, rfl, ⟨v', e1, r⟩, h4⟩, h2, h3⟩ := k1.own
  cases e1
  exact ⟨k1.zh, k1.gg, k1.gh, k1.fr, p2, ⟨[], p2, rfl, ⟨v, rfl, r.1, rfl⟩, h4⟩, (List.nodup_append.mp h2).2.1, fun q hq => h3 q (List.mem_append_right _ hq)⟩
end
section
variable {X : Cx} {T : XT} {W : WX} {Γx Γ : Ctx} {K : PySem.W.Frag}
theorem Okc.holeAt {Z G0 G H : Hp} {S : List Pl} {σ : St} {v : V} {i : Nat} (k : Okc Z G0 S (Γ.set i none) σ G H) (hv : σ[i]? = some (some v)) (hi : i < Γ.length) : Okc Z G0 S (Γ.set i (some (hole v))) σ G H := by
  have k1 : Okc Z G0 ((some (Rt.hole v), some v) :: S) (Γ.set i none) σ G H := ⟨k.len, Okl.hole k.ok⟩
  have k2 := k1.store (i := i) (by rw [List.length_set]; exact hi)
  rw [List.set_set] at k2
  have es : σ.set i (some v) = σ := by
    refine List.ext_getElem? fun j => ?_
    rw [List.getElem?_set]
    by_cases q : i = j
    · subst q
      rw [if_pos rfl, if_pos (List.getElem?_eq_some_iff.mp hv).1, hv]
    · rw [if_neg q]
  rw [es] at k2
  exact k2
/-- what is at a known place may be lost where something is raised: its place is known -/
theorem ex_holed {e : Expr} {te : TE} {α : Type} {m : Res α} {R : α → Sl} {Γo : α → Ctx} {p : Addr} {s : Sl} (i : Nat) (h : Γ[i]? = some (some (atP p s))) (he : EX X T W (Γ.set i none) Γ e te m R Γo) (hw : Wk (Γ.set i (some (hole (.ref p)))) Γx) : EX X T W Γx Γ e te m R Γo :=
  ⟨he.pe, fun Z G0 S σ G H Q k q => by
    obtain ⟨v, l, hv, k1, _⟩ := k.take h
    obtain ⟨ps, ⟨_, _, _, ⟨v', e1, r1⟩, _⟩, _, _⟩ := k1.own
    cases e1
    obtain ⟨rfl, _⟩ := r1
    exact he.ev Z G0 S σ G H Q k (Res.wp_mono q (fun _ z => z) fun ex q cls d G' H' k' => q cls d G' H' (hw _ _ _ _ _ _ (Okc.holeAt k' hv (List.getElem?_eq_some_iff.mp h).1)))⟩
/-- x.m(e), x's object only read, e a new object that is given up -/
theorem ex_methT {ξ ρ α : Type} [Nonempty α] {kk j : Nat} {A : α → Addr → Addr → List (Str × V) → ξ → List (Option Sl)} {Pm : α → Addr → Addr → List (Str × V) → ξ → List (Option Addr)} {f : α → ξ → Res ρ} {R : ρ → Sl} {B : α → Addr → Addr → List (Str × V) → ξ → ρ → List (Option Sl)} {Be : α → Addr → Addr → List (Str × V) → ξ → List (Option Sl)} {ps : List Str} {m x : Str} {C C2 p dx : Addr} {fs : List (Str × V)} {lp : FsP} {s0 : Sl} (i : Nat) {p1 apos pos : Pos} {pl : Sem Bool} {e : Expr} {te : TE} {m1 : Res α} {R1 : α → Sl} {Γ1 : α → Ctx} {SP : Sp} (a : α → ξ) (l : α → FsS)
    (kn : KnM X.prog X.w X.K X.mg X.base kk C m ps SP) (cl : Cls K C) (hr : Room j X.A) (tk : Takes X W) (r0 : Rds s0 (rpV C p dx fs lp)) (he : EX X T W Γx Γ e te m1 R1 Γ1) (hi : ∀ t po dx fs, SpI (spB 2 T (A t po dx fs) (Pm t po dx fs) (fun _ => True) (f t) (fun _ => R) (B t po dx fs) (Be t po dx fs)) SP) (hw : ∀ t, Wk ((Γ1 t).set i none) Γx)
    (hR1 : ∀ t, R1 t = oob C2 (l t) := by exact fun _ => rfl) (hA : ∀ t po dx fs, A t po dx fs (a t) = [some s0, some (oobV C2 po dx fs (l t))] := by exact fun _ _ _ _ => rfl) (hP : ∀ t po dx fs, Pm t po dx fs (a t) = [some p, some po] := by exact fun _ _ _ _ => rfl) (hB : ∀ t po dx fs r, B t po dx fs (a t) r = [some s0, some (oobV C2 po dx fs (l t))] := by exact fun _ _ _ _ _ => rfl) (hBe : ∀ t po dx fs, (Be t po dx fs (a t)).length = 2 := by exact fun _ _ _ _ => rfl)
    (h0 : Γ[i]? = some (some s0) := by rfl) (h1 : ∀ t, (Γ1 t)[i]? = some (some s0) := by exact fun _ => rfl) (hlm : lp.lookup m = none := by rfl) (hK : X.K = K := by rfl) (hj : kk ≤ j := by decide)
    (hN : X.N[i]? = some x := by rfl) (hv : Vis X.env.scope x := by first | exact Or.inl rfl | exact Or.inr (Or.inl rfl) | exact Or.inr (Or.inr rfl)) (hd : (x == ("__debug__" : Str)) = false := by decide) (hcd : (x == ("__classdict__" : Str)) = false := by decide)
    (hst : starEach (e :: []) X.env = (false, eval e X.env) :: starEach [] X.env := by rfl) (hpl : (backTo pos (starEach [] X.env)).any (·.1) = false := by rfl)
    (ht : eval (.Call (.Attribute (.Name x p1) m apos) (e :: []) [] pos) X.env = (do let ov ← eval (.Name x p1) X.env; standAt apos.atName; let (f, first) ← holding [ov] (getMethod ov m pl); callWith pos f first (backTo pos (starEach (e :: []) X.env)) (backToKw pos (keywordEach [] X.env))) := by rfl) :
    EX X T W Γx Γ (.Call (.Attribute (.Name x p1) m apos) (e :: []) [] pos) (tMethS C m SP (WE W) (tVar i) (tCons te tNil)) (m1.bind fun t => (f t (a t)).bind fun r => .ok (t, r)) (fun t => R t.2) (fun t => Γ1 t.1) := by
  subst hK
  obtain rfl : R1 = fun t => oob C2 (l t) := funext hR1
  obtain ⟨t0⟩ := ‹Nonempty α›
  obtain ⟨fa, fd, h2, h3, FO⟩ := kn
  refine ⟨pe_methS (pl := pl) (pv i hN hv hd hcd) cl h2 FO (hr.mono hj) h3 (fun σ => passAt tk σ) (pa_cons he.pe pa_nil hst) hst hpl ht, fun Z G0 S σ G H Q k q => ?_⟩
  obtain ⟨v, _, hv1, k1, _⟩ := k.take h0
  obtain ⟨ps, ⟨q1, _, _, ⟨v', e1, r1⟩, _⟩, _, _⟩ := k1.own
  cases e1
  obtain ⟨rfl, hp, hf⟩ := r0 _ _ _ _ k.ok.gh r1
  refine ⟨.ref p, hv1, p, dx, fs, rfl, hp, fp_none hf hlm, ?_⟩
  refine he.ev Z G0 S σ G H _ k (Res.wp_mono (Res.wp_bind q) (fun t q w G1 H1 k2 => ?_) fun ex q => q)
  obtain ⟨v2, M, hv2, k3, back, bare⟩ := Okc.takeS (L := [(some (oob C2 (l t)), some w)]) (S := S) k2 (h1 t)
  rw [hv1] at hv2
  cases hv2
  have k4 : Okl Z G0 ((some (oob C2 (l t)), some w) :: (some s0, some (.ref p)) :: M) G1 H1 := k3.perm (List.Perm.swap _ _ _)
  obtain ⟨po, dx2, fs2, k5⟩ := okl_openV k4
  have k6 : Okl Z G0 ((A t po dx2 fs2 (a t)).zip ([V.ref p, w].map some) ++ M) G1 H1 := by
    rw [hA]
    exact k5.perm (List.Perm.swap _ _ _)
  obtain ⟨Zc, l1, l2⟩ := Okl.lend k6
  refine hi t po dx2 fs2 _ _ _ _ ⟨a t, Zc, G1, G1, rfl, by rw [hA]; rfl, trivial, l1, Res.wp_mono (Res.wp_bind q) (fun r q v' G' H' k' => ?_) fun ex q cls d G' H' k' => ?_⟩
  · have k7 := l2 _ G' H' k'
    rw [hP, hB] at k7
    have k8 : Okl Z G0 ((some (R r), some v') :: (some s0, some (.ref p)) :: (some (oobV C2 po dx2 fs2 (l t)), some (.ref po)) :: M) G' H' := k7
    have k9 : Okl Z G0 ((some (oobV C2 po dx2 fs2 (l t)), some (.ref po)) :: (some s0, some (.ref p)) :: (some (R r), some v') :: M) G' H' := k8.perm ((List.Perm.cons _ (List.Perm.swap _ _ _)).trans ((List.Perm.swap _ _ _).trans (List.Perm.cons _ (List.Perm.swap _ _ _))))
    have k10 := back Z G0 s0 [(some (R r), some v')] G' H' k9.drop
    have eΓ : (Γ1 t).set i (some s0) = Γ1 t := by
      refine List.ext_getElem? fun b => ?_
      rw [List.getElem?_set]
      by_cases e : i = b
      · subst e
        rw [if_pos rfl, if_pos (List.getElem?_eq_some_iff.mp (h1 t)).1, h1]
      · rw [if_neg e]
    rw [eΓ] at k10
    exact q v' G' H' k10
  · have k7 := l2 _ G' H' k'
    exact q cls d G' H' (hw t _ _ _ _ _ _ (bare Z G0 G' H' (okl_drops k7)))
end
end Rt
/-! Rt79: an object whose fields are owned is frozen, with all that it holds. -/
namespace Rt
open PySem L2 R
/-- what can be frozen -/
def Icy (s s' : Sl) : Prop := ∀ (Z G0 G H : Hp) (M : List Pl) (w : V), Okl Z G0 ((some s, some w) :: M) G H → ∃ G', Okl Z G0 ((some s', some w) :: M) G' H
theorem icy_ol {γ : Type} {c : Cod γ} {xs : List γ} : Icy (ol c xs) (fz (cList c) xs) := fun _ _ _ _ _ _ k => k.icy
theorem icy_od {κ β : Type} [DecidableEq κ] {kk : Kk κ} {c : Cod β} {xs : List (κ × β)} : Icy (od kk c xs) (fz (cDt kk c) xs) := fun _ _ _ _ _ _ k => k.icyD
theorem Okl.icyFld {Z G0 G H : Hp} {M : List Pl} {C p dx : Addr} {fs : List (Str × V)} {l : FsS} {v : V} {s s' : Sl} {n : Str} (k : Okl Z G0 ((some (oobV C p dx fs l), some v) :: M) G H) (hl : l.lookup n = some s) (hi : Icy s s') (hnm : (putL n s' l).map (·.1) = l.map (·.1)) : ∃ G', Okl Z G0 ((some (oobV C p dx fs (putL n s' l)), some v) :: M) G' H := by
  obtain ⟨w, rfl, hp0, hw, hn, k1⟩ := k.focus hl
  obtain ⟨G', k2⟩ := hi _ _ _ _ _ _ k1
  exact ⟨G', Okl.unfocus hn hw k2 hnm⟩
/-- all that the fields hold is frozen -/
def FsZ (l : FsS) (m : Fs) : Prop := Paired (fun x y => x.1 = y.1 ∧ ∀ G H v ps, x.2.rel G H v ps → ps = [] ∧ y.2.rel G v) l m
theorem fz_nil : FsZ [] [] := .nil
theorem fz_cons {n : Str} {α : Type} {c : Cod α} {a : α} {l : FsS} {m : Fs} (r : FsZ l m) : FsZ ((n, fz c a) :: l) ((n, fzv c a) :: m) := .cons ⟨rfl, fun _ _ _ _ h => ⟨h.2, h.1⟩⟩ r
theorem fsz_all {G H : Hp} : ∀ {l : FsS} {m : Fs} {fs : List (Str × V)} {qs : List Addr}, FsZ l m → fs.map (·.1) = l.map (·.1) → All G H (flS l fs) qs → qs = [] ∧ Paired (FsR G) fs m
  | _, _, [], _, .nil, _, h => ⟨h, .nil⟩
  | _, _, f :: fs, _, .nil, h, _ => by cases h
  | _, _, [], _, .cons _ _, h, _ => by cases h
  | _, _, f :: fs, _, .cons r t, h, a => by
    obtain ⟨q1, q2, e, ⟨v, e1, a1⟩, a2⟩ := a
    cases e1
    rw [List.map_cons, List.map_cons] at h
    injection h with h1 h2
    obtain ⟨rfl, r1⟩ := r.2 G H _ _ a1
    obtain ⟨rfl, r2⟩ := fsz_all t h2 a2
    exact ⟨e, .cons ⟨h1.trans r.1, r1⟩ r2⟩
theorem Okl.icyV {Z G0 G H : Hp} {M : List Pl} {C p dx : Addr} {fs : List (Str × V)} {l : FsS} {v : V} {α : Type} {f : α → Fs} {a : α} (k : Okl Z G0 ((some (oobV C p dx fs l), some v) :: M) G H) (hz : FsZ l (f a)) : ∃ G', Okl Z G0 ((some (fz (cobj C f) a), some v) :: M) G' H := by
  refine Okl.icyOb (p := p) (C := C) (f := f) (a := a) (k.re fun ps r => ?_)
  obtain ⟨h1, h2, qs, h3, h4, h5⟩ := r
  obtain ⟨rfl, h6⟩ := fsz_all hz h2 h5
  exact ⟨h1, p, dx, fs, h1, h3, h4, h6⟩
section
variable {X : Cx} {T : XT} {W : WX} {Γx Γ : Ctx} {K : PySem.W.Frag}
theorem SX.icyS {sts : List Stmt} {ts : TS} {α : Type} {m : Res α} {I : α → Out} {s s' : Sl} (i : Nat) (h : Γ[i]? = some (some s)) (hi : Icy s s') (r : SX X T W Γx (Γ.set i (some s')) sts ts m I) : SX X T W Γx Γ sts ts m I :=
  ⟨r.ps, fun Z G0 S σ G H D k q => by
    obtain ⟨v, M, hw, k1, back⟩ := k.take h
    obtain ⟨G', k2⟩ := hi _ _ _ _ _ _ k1
    exact r.ev Z G0 S σ G' H D (back _ _ _ k2) q⟩
theorem icy_fld {C p dx : Addr} {fs : List (Str × V)} {l : FsS} {s s' : Sl} {n : Str} (hl : l.lookup n = some s) (hi : Icy s s') (hnm : (putL n s' l).map (·.1) = l.map (·.1)) : Icy (oobV C p dx fs l) (oobV C p dx fs (putL n s' l)) := fun _ _ _ _ _ _ k => k.icyFld hl hi hnm
theorem icy_obV {C p dx : Addr} {fs : List (Str × V)} {l : FsS} {α : Type} {f : α → Fs} {a : α} (hz : FsZ l (f a)) : Icy (oobV C p dx fs l) (fz (cobj C f) a) := fun _ _ _ _ _ _ k => k.icyV hz
theorem icy_tr {s s' s'' : Sl} (h1 : Icy s s') (h2 : Icy s' s'') : Icy s s'' := fun _ _ _ _ _ _ k => by
  obtain ⟨G', k1⟩ := h1 _ _ _ _ _ _ k
  exact h2 _ _ _ _ _ _ k1
end
end Rt
/-! Rt86: tests that open an object anew. -/
namespace Rt
open PySem L2 R
section
variable {X : Cx} {T : XT} {W : WX} {Γx Γ : Ctx} {K : PySem.W.Frag}
theorem EW.openP {e : Expr} {tt : TT} {α : Type} {m : Res α} {b : α → Bool} {Γo : α → Ctx} {C p : Addr} {l : FsS} (i : Nat) (h : Γ[i]? = some (some (atP p (oob C l)))) (hs : ∀ dx fs, EW X T W Γx (Γ.set i (some (oobV C p dx fs l))) e tt m b Γo) : EW X T W Γx Γ e tt m b Γo :=
  ⟨(hs 0 []).pw, fun Z G0 S σ G H Q k q => by
    obtain ⟨dx, fs, k1⟩ := okc_openP k h
    exact (hs dx fs).ev Z G0 S σ G H Q k1 q⟩
theorem EW.wk {e : Expr} {tt : TT} {α : Type} {m : Res α} {b : α → Bool} {Γo Γn : α → Ctx} (h : EW X T W Γx Γ e tt m b Γo) (w : ∀ a, Wk (Γo a) (Γn a)) : EW X T W Γx Γ e tt m b Γn :=
  ⟨h.pw, fun Z G0 S σ G H Q k q => h.ev Z G0 S σ G H Q k (Res.wp_mono q (fun a q G' H' k' => q G' H' (w a _ _ _ _ _ _ k')) fun _ z => z)⟩
end
end Rt
/-! Rt88: a walk over a list that is lent; its copy. -/
namespace Rt
open PySem L2 R
section
variable {X : Cx} {T : XT} {W : WX} {Γx Γ : Ctx} {K : PySem.W.Frag}
/-- a list of which the place is known -/
def rpLw {β : Type} (w : V) (c : Cod β) (xs : List β) : Rp := fun G H v => v = w ∧ rpL c xs G H v
theorem bx_fldW {β : Type} {c : Cod β} {xs : List β} {o : Expr} {to : TE} {n : Str} {pos : Pos} {C p dx : Addr} {fs : List (Str × V)} {l : FsP} (h : BX X Γ o to (rpV C p dx fs l)) (cl : Cls K C) (na : NoAttr K C n) (hf : l.lookup n = some (rpL c xs) := by rfl) (hK : X.K = K := by rfl)
    (hb : attributeBase o n X.env (eval o X.env) = eval o X.env := by rfl) : BX X Γ (.Attribute o n pos) (tFld K to n) (rpLw ((fs.lookup n).getD .non) c xs) := by
  subst hK
  refine ⟨pe_fld h.pe hb, fun Z G0 S σ G H k => ?_⟩
  obtain ⟨w, hw⟩ := h.ev Z G0 S σ G H k
  obtain ⟨⟨_, _, hr⟩, _⟩ := hw _ _ _ _ _ k
  obtain ⟨u, hu, _⟩ := fp_lookup hr hf
  refine ⟨u, fun Z G0 S G H k => ?_⟩
  obtain ⟨⟨rfl, hp, hr⟩, t⟩ := hw _ _ _ _ _ k
  obtain ⟨u', hu', hP⟩ := fp_lookup hr hf
  rw [hu] at hu'
  cases hu'
  exact ⟨⟨by rw [hu]; rfl, hP⟩, fun Q q => t _ ⟨p, C, dx, fs, u, rfl, hp, cl, na, hu, q⟩⟩
theorem walkB {p : Addr} {n : Nat} : Walk (Itl K p) n (fun H => ∃ vs, SqL K H p vs ∧ vs.length = n) (fun i H v H' => H' = H ∧ ∀ vs, SqL K H p vs → vs[i]? = some v) :=
  ⟨fun i _ hi ⟨vs, q, e⟩ => ⟨vs, vs[i]'(by omega), q, List.getElem?_eq_getElem (by omega)⟩, fun _ ⟨vs, q, e⟩ => ⟨vs, q, by omega⟩, fun _ _ _ _ _ _ y => y⟩
theorem s1_forB {tg e : Expr} {body : List Stmt} {pos : Pos} {g : TG} {td : TE} {tb : TS} {β S' B : Type} [Nonempty β] {c : Cod β} {xs : List β} {w0 : V} {Γr : S' → Ctx} {s0 : S'} {f : β → S' → Res (Ctl S' B)} {Γg : S' → β → Ctx} {RB : B → Sl} {LB : B → List Pl} {js : List Nat}
    (ho : ∀ s, BX X (Γr s) e td (rpLw w0 c xs)) (hg : ∀ s x, GX X tg g js (fz c x) (Γr s) (Γg s x)) (hb : ∀ x s, SX X T W Γx (Γg s x) body tb (f x s) (outC Γr RB LB)) (h0 : Unit → Wk Γ (Γr s0)) (hp : PassesOwn (model X.prog X.w) X.A X.env X.xe)
    (hK : X.K = K := by rfl) (hc : X.calm = true := by rfl) (hs : ∀ y, foldedSetIterable e X.env y = pure y := by intro _; rfl) :
    S1 X T W Γx Γ (.For tg e body [] pos) (tFor (iList K td) g tb) (R.loop f xs s0) (outC Γr RB LB) := by
  subst hK
  obtain ⟨b0⟩ := ‹Nonempty β›
  refine ⟨ps_for hp hc (pi_list (ho s0).pe) (hg s0 b0).pg (hb b0 s0).ps hs, fun Z G0 S σ G H D k q => ?_⟩
  have k1 := h0 () _ _ _ _ _ _ k
  obtain ⟨w, hw⟩ := (ho s0).ev _ _ _ _ _ _ k1
  obtain ⟨⟨e0, p, vs, e1, hl, pr⟩, hev⟩ := hw _ _ _ _ _ k1
  rw [e1] at e0 hev
  subst e0
  refine (show iList X.K td σ H _ from hev _ ⟨p, rfl, ⟨vs, SqL.of hl⟩, ?_⟩)
  have at_ : ∀ {s σ G' H'}, Okc Z G S (Γr s) σ G' H' → ∃ ws, H' p = some (.lst ws) ∧ Paired (c.rel G') ws xs := fun {s σ G' H'} k2 => by
    obtain ⟨w, hw⟩ := (ho s).ev _ _ _ _ _ _ k2
    obtain ⟨⟨e0, p', vs, e1, hl, pr⟩, _⟩ := hw _ _ _ _ _ k2
    rw [e0] at e1
    cases e1
    exact ⟨vs, hl, pr⟩
  refine for_it (walkB (K := X.K) (p := p) (n := xs.length)) (fun j σ H => ∃ s G', Okc Z G S (Γr s) σ G' H ∧ (R.loop f (xs.drop j) s).wp (fun o => (outC Γr RB LB o).go D Z G0 S) (fun ex => ∀ cls d σ' G' H', Okc Z G0 S Γx σ' G' H' → T.rel ex cls d G' → W cls d σ' H'))
    ⟨s0, G, k1.base, q⟩ (fun j σ H _ ⟨s, G', k2, _⟩ => (at_ k2).elim fun ws h => ⟨ws, SqL.of h.1, h.2.length⟩) ?_ ?_
  · rintro j v σ H H' hi' ⟨s, G', k5, w⟩ ⟨rfl, hv⟩
    obtain ⟨ws, hl2, pr2⟩ := at_ k5
    have hx : xs[j]? = some xs[j] := List.getElem?_eq_getElem hi'
    rw [List.drop_eq_getElem_cons hi'] at w
    have k6 : Okc Z G ((some (fz c xs[j]), some v) :: S) (Γr s) σ G' H' := k5.pushf (paired_get pr2 (hv ws (SqL.of hl2)) hx)
    refine (hg s xs[j]).ev Z G _ σ G' H' v _ k6 fun σ3 G3 H3 k7 _ => ?_
    refine (hb _ s).ev Z G _ σ3 G3 H3 _ k7 (Res.wp_mono (Res.wp_bind w) (fun o w' => ?_) fun ex q cls d σ' G' H' k' => q cls d σ' G' H' (k1.back k'))
    cases o with
    | nx s' => exact fun σ4 G4 H4 k8 => ⟨s', G4, k8, w'⟩
    | cnt s' => exact fun σ4 G4 H4 k8 => ⟨s', G4, k8, w'⟩
    | brk s' => exact fun σ4 G4 H4 k8 => w' σ4 G4 H4 (k1.back k8)
    | ret b => exact fun v G' H' k8 => w' v G' H' ((k1.bare).back k8)
  · rintro σ H ⟨s, G', k5, w⟩
    rw [List.drop_length] at w
    exact w σ G' H (k1.back k5)
theorem s1_forBN {tg e : Expr} {body : List Stmt} {pos : Pos} {g : TG} {td : TE} {tb : TS} {β S' : Type} [Nonempty β] {c : Cod β} {xs : List β} {w0 : V} {Γr : S' → Ctx} {s0 : S'} {f : β → S' → Res S'} {Γg : S' → β → Ctx} {js : List Nat}
    (ho : ∀ s, BX X (Γr s) e td (rpLw w0 c xs)) (hg : ∀ s x, GX X tg g js (fz c x) (Γr s) (Γg s x)) (hb : ∀ x s, SX X T W Γx (Γg s x) body tb (f x s) (fun s' => .nx (Γr s'))) (h0 : Unit → Wk Γ (Γr s0)) (hp : PassesOwn (model X.prog X.w) X.A X.env X.xe)
    (hK : X.K = K := by rfl) (hc : X.calm = true := by rfl) (hs : ∀ y, foldedSetIterable e X.env y = pure y := by intro _; rfl) :
    S1 X T W Γx Γ (.For tg e body [] pos) (tFor (iList K td) g tb) (R.fold f xs s0) (fun s => .nx (Γr s)) := by
  subst hK
  obtain ⟨b0⟩ := ‹Nonempty β›
  refine ⟨ps_for hp hc (pi_list (ho s0).pe) (hg s0 b0).pg (hb b0 s0).ps hs, fun Z G0 S σ G H D k q => ?_⟩
  have k1 := h0 () _ _ _ _ _ _ k
  obtain ⟨w, hw⟩ := (ho s0).ev _ _ _ _ _ _ k1
  obtain ⟨⟨e0, p, vs, e1, hl, pr⟩, hev⟩ := hw _ _ _ _ _ k1
  rw [e1] at e0 hev
  subst e0
  refine (show iList X.K td σ H _ from hev _ ⟨p, rfl, ⟨vs, SqL.of hl⟩, ?_⟩)
  have at_ : ∀ {s σ G' H'}, Okc Z G S (Γr s) σ G' H' → ∃ ws, H' p = some (.lst ws) ∧ Paired (c.rel G') ws xs := fun {s σ G' H'} k2 => by
    obtain ⟨w, hw⟩ := (ho s).ev _ _ _ _ _ _ k2
    obtain ⟨⟨e0, p', vs, e1, hl, pr⟩, _⟩ := hw _ _ _ _ _ k2
    rw [e0] at e1
    cases e1
    exact ⟨vs, hl, pr⟩
  refine for_it (walkB (K := X.K) (p := p) (n := xs.length)) (fun j σ H => ∃ s G', Okc Z G S (Γr s) σ G' H ∧ (R.fold f (xs.drop j) s).wp (fun s => ∀ σ' G' H', Okc Z G0 S (Γr s) σ' G' H' → D.nx σ' H') (fun ex => ∀ cls d σ' G' H', Okc Z G0 S Γx σ' G' H' → T.rel ex cls d G' → W cls d σ' H'))
    ⟨s0, G, k1.base, q⟩ (fun j σ H _ ⟨s, G', k2, _⟩ => (at_ k2).elim fun ws h => ⟨ws, SqL.of h.1, h.2.length⟩) ?_ ?_
  · rintro j v σ H H' hi' ⟨s, G', k5, w⟩ ⟨rfl, hv⟩
    obtain ⟨ws, hl2, pr2⟩ := at_ k5
    have hx : xs[j]? = some xs[j] := List.getElem?_eq_getElem hi'
    rw [List.drop_eq_getElem_cons hi'] at w
    have k6 : Okc Z G ((some (fz c xs[j]), some v) :: S) (Γr s) σ G' H' := k5.pushf (paired_get pr2 (hv ws (SqL.of hl2)) hx)
    refine (hg s xs[j]).ev Z G _ σ G' H' v _ k6 fun σ3 G3 H3 k7 _ => ?_
    exact (hb _ s).ev Z G _ σ3 G3 H3 _ k7 (Res.wp_mono (Res.wp_bind w) (fun s' w' σ4 G4 H4 k8 => ⟨s', G4, k8, w'⟩) fun ex q cls d σ' G' H' k' => q cls d σ' G' H' (k1.back k'))
  · rintro σ H ⟨s, G', k5, w⟩
    rw [List.drop_length] at w
    exact w σ G' H (k1.back k5)
/-- list(e), the list e at hand -/
theorem ex_listB {γ : Type} {c : Cod γ} {xs : List γ} {o : Expr} {td : TE} {p pos : Pos} (ho : BX X Γ o td (rpL c xs)) (hm : X.mg "list" = none) (hK : X.K = K := by rfl) (hg : Gl X "list" := by rfl)
    (hs : starEach (o :: []) X.env = (false, eval o X.env) :: starEach [] X.env := by rfl) (hpl : (backTo pos (starEach [] X.env)).any (·.1) = false := by rfl) :
    EX X T W Γx Γ (.Call (.Name "list" p) [o] [] pos) (tCB (fun vs H Q => ∃ p ys, vs = [.ref p] ∧ (SqL K H p ys ∨ SqT K H p ys) ∧ ∀ l, H l = none → Q (.ref l) (upd H l (.lst ys))) (tCons td tNil)) (.ok ()) (fun _ => ol c xs) (fun _ => Γ) := by
  subst hK
  refine ⟨pe_callTy call_list_of hg hm PyProof.Rows.boot_list (pa_cons ho.pe pa_nil hs) (by decide) (by decide) hs hpl, fun Z G0 S σ G H Q k q => ?_⟩
  obtain ⟨w, hw⟩ := ho.ev Z G0 S σ G H k
  refine (hw _ _ _ _ _ k).2 _ ?_
  obtain ⟨p, vs, rfl, h3, hp⟩ := (hw _ _ _ _ _ k).1
  exact ⟨p, vs, rfl, .inl (SqL.of h3), fun a ha => q (.ref a) G _ ⟨k.len, k.ok.layOwn (s := ol c xs) ha ⟨a, vs, rfl, rfl, upd_same, hp⟩⟩⟩
theorem okc_pinZ {β : Type} {c : Cod β} {xs : List β} {Z G0 G H : Hp} {S : List Pl} {σ : St} {i : Nat} (k : Okc Z G0 S Γ σ G H) (h : Γ[i]? = some (some (fz (cList c) xs))) : ∃ p, Okc Z G0 S (Γ.set i (some (atP p (fz (cList c) xs)))) σ G H := by
  obtain ⟨v, l, _, k1, back⟩ := k.take h
  obtain ⟨p, vs, rfl, _⟩ := k1.rel1
  exact ⟨p, back _ _ _ (k1.re fun ps' r' => ⟨rfl, r'⟩)⟩
theorem SX.pinZ {β : Type} {c : Cod β} {xs : List β} {sts : List Stmt} {ts : TS} {α : Type} {m : Res α} {I : α → Out} (i : Nat) (h : Γ[i]? = some (some (fz (cList c) xs))) (hs : ∀ p, SX X T W Γx (Γ.set i (some (atP p (fz (cList c) xs)))) sts ts m I) : SX X T W Γx Γ sts ts m I :=
  ⟨(hs 0).ps, fun Z G0 S σ G H D k q => by
    obtain ⟨p, k'⟩ := okc_pinZ k h
    exact (hs p).ev Z G0 S σ G H D k' q⟩
theorem wka {p : Addr} {s : Sl} {Γ Δ : Ctx} (w : Wk Γ Δ) : Wk (some (atP p s) :: Γ) (some s :: Δ) := w.sl fun _ _ _ _ r => r.2
theorem rds_atZ {β : Type} {c : Cod β} {xs : List β} {p : Addr} : Rds (atP p (fz (cList c) xs)) (rpLp p c xs) := fun G H v ps e r => ⟨r.1, rds_cl G H v ps e r.2⟩
/-- xs != e, the list xs at hand -/
theorem et_neB {α β : Type} [DecidableEq α] {c : Cod α} {c' : Cod (List α)} {d : α → PyData} {n : Nat} {xs : List α} {ys : β → List α} {o1 e2 : Expr} {pos : Pos} {t1 t2 : TE} {m2 : Res β} {R2 : β → Sl} {Γo : β → Ctx} (hu : X.A.units + 64 < cLine) (ho : BX X Γ o1 t1 (rpL c xs)) (hb : EX X T W Γx Γ e2 t2 m2 R2 Γo) (h : EqD K c d) (h' : EqD K c' (dLst d)) (p : DatP (dLst d) n) (hm : behindInMarks .NotEq e2 = false) (hR : ∀ b, R2 b = fz c' (ys b) := by exact fun _ => rfl) (hΓ : ∀ b, Γo b = Γ := by exact fun _ => rfl) (hn : Nat.ble n 64 = true := by rfl) (hK : X.K = K := by rfl) :
    ET X T W Γx Γ (.Compare o1 [.NotEq] [e2] pos) (tTest (tOp (rNeP K) t1 t2)) m2 (fun b => !decide (xs = ys b)) (fun _ => Γ) := by
  subst hK
  obtain rfl : R2 = fun b => fz c' (ys b) := funext hR
  obtain rfl : Γo = fun _ => Γ := funext hΓ
  refine ⟨pt_cmpR (op_neP hu) ho.pe hb.pe hm, fun Z G0 S σ G H Q k q => ?_⟩
  obtain ⟨w, hw⟩ := ho.ev Z G0 S σ G H k
  refine (hw _ _ _ _ _ k).2 _ ?_
  refine hb.ev Z G0 S σ G H _ k (Res.wp_mono q (fun b q v G' H' k' => ?_) fun _ z => z)
  obtain ⟨p1, vs, rfl, h3, hp⟩ := (hw _ _ _ _ _ k'.drop).1
  refine ⟨dLst d xs, dLst d (ys b), .lst (SqL.of h3) (dpall h k'.ok.gh hp), h'.rel _ _ _ _ k'.tp k'.ok.gh, p.plain xs, p.plain (ys b), Nat.le_trans (p.depth xs) (Nat.le_of_ble_eq_true hn), ?_⟩
  rw [p.eqv]
  exact ⟨_, rfl, q G' H' k'.drop⟩
/-- xs == e, the list xs at hand -/
theorem et_eqB {α β : Type} [DecidableEq α] {c : Cod α} {c' : Cod (List α)} {d : α → PyData} {n : Nat} {xs : List α} {ys : β → List α} {o1 e2 : Expr} {pos : Pos} {t1 t2 : TE} {m2 : Res β} {R2 : β → Sl} {Γo : β → Ctx} (hu : X.A.units + 64 < cLine) (ho : BX X Γ o1 t1 (rpL c xs)) (hb : EX X T W Γx Γ e2 t2 m2 R2 Γo) (h : EqD K c d) (h' : EqD K c' (dLst d)) (p : DatP (dLst d) n) (hm : behindInMarks .Eq e2 = false) (hR : ∀ b, R2 b = fz c' (ys b) := by exact fun _ => rfl) (hΓ : ∀ b, Γo b = Γ := by exact fun _ => rfl) (hn : Nat.ble n 64 = true := by rfl) (hK : X.K = K := by rfl) :
    ET X T W Γx Γ (.Compare o1 [.Eq] [e2] pos) (tTest (tOp (rEqP K) t1 t2)) m2 (fun b => decide (xs = ys b)) (fun _ => Γ) := by
  subst hK
  obtain rfl : R2 = fun b => fz c' (ys b) := funext hR
  obtain rfl : Γo = fun _ => Γ := funext hΓ
  refine ⟨pt_cmpR (op_eqP hu) ho.pe hb.pe hm, fun Z G0 S σ G H Q k q => ?_⟩
  obtain ⟨w, hw⟩ := ho.ev Z G0 S σ G H k
  refine (hw _ _ _ _ _ k).2 _ ?_
  refine hb.ev Z G0 S σ G H _ k (Res.wp_mono q (fun b q v G' H' k' => ?_) fun _ z => z)
  obtain ⟨p1, vs, rfl, h3, hp⟩ := (hw _ _ _ _ _ k'.drop).1
  refine ⟨dLst d xs, dLst d (ys b), .lst (SqL.of h3) (dpall h k'.ok.gh hp), h'.rel _ _ _ _ k'.tp k'.ok.gh, p.plain xs, p.plain (ys b), Nat.le_trans (p.depth xs) (Nat.le_of_ble_eq_true hn), ?_⟩
  rw [p.eqv]
  exact ⟨_, rfl, q G' H' k'.drop⟩
theorem ET.nf2 {e : Expr} {te : TT} {α ν1 ν2 : Type} {m : Res α} {mn : Res (Bool × ν1 × ν2)} {b : α → Bool} {Γo : α → Ctx} {Γs : ν1 → ν2 → Ctx} {s1 : α → ν1} {s2 : α → ν2} (h : ET X T W Γx Γ e te m b Γo) (hΓ : ∀ a, Γo a = Γs (s1 a) (s2 a) := by exact fun _ => rfl) (hb : Bd mn m (fun a => .ok (b a, s1 a, s2 a)) := by intros; repeat (first | ((with_reducible refine Bd.done ?_); exact rfl) | with_reducible refine Bd.okl ?_ | with_reducible refine Bd.assoc ?_ | with_reducible refine Bd.bind fun _ => ?_ | with_reducible refine Bd.eta fun _ => ?_ | with_reducible refine Bd.iteB ?_ ?_ fun _ => ?_ | with_reducible refine Bd.iteE ?_ ?_ fun _ => ?_ | with_reducible refine Bd.ite ?_ ?_ | with_reducible refine Bd.iteL ?_ ?_ | with_reducible refine Bd.assocL ?_ | with_reducible refine Bd.oklL ?_ | with_reducible exact Bd.same | with_reducible exact Bd.at | dsimp only)) :
    ET X T W Γx Γ e te mn (fun r => r.1) (fun r => Γs r.2.1 r.2.2) :=
  ⟨h.pt, fun Z G0 S σ G H Q k q => h.ev Z G0 S σ G H Q k (Res.wp_mono (hb _ _ q) (fun a q G' H' k' => by
    rw [hΓ] at k'
    exact q G' H' k') fun _ z => z)⟩
theorem EW.nf2 {e : Expr} {te : TT} {α ν1 ν2 : Type} {m : Res α} {mn : Res (Bool × ν1 × ν2)} {b : α → Bool} {Γo : α → Ctx} {Γs : ν1 → ν2 → Ctx} {s1 : α → ν1} {s2 : α → ν2} (h : EW X T W Γx Γ e te m b Γo) (hΓ : ∀ a, Γo a = Γs (s1 a) (s2 a) := by exact fun _ => rfl) (hb : Bd mn m (fun a => .ok (b a, s1 a, s2 a)) := by intros; repeat (first | ((with_reducible refine Bd.done ?_); exact rfl) | with_reducible refine Bd.okl ?_ | with_reducible refine Bd.assoc ?_ | with_reducible refine Bd.bind fun _ => ?_ | with_reducible refine Bd.eta fun _ => ?_ | with_reducible refine Bd.iteB ?_ ?_ fun _ => ?_ | with_reducible refine Bd.iteE ?_ ?_ fun _ => ?_ | with_reducible refine Bd.ite ?_ ?_ | with_reducible refine Bd.iteL ?_ ?_ | with_reducible refine Bd.assocL ?_ | with_reducible refine Bd.oklL ?_ | with_reducible exact Bd.same | with_reducible exact Bd.at | dsimp only)) :
    EW X T W Γx Γ e te mn (fun r => r.1) (fun r => Γs r.2.1 r.2.2) :=
  ⟨h.pw, fun Z G0 S σ G H Q k q => h.ev Z G0 S σ G H Q k (Res.wp_mono (hb _ _ q) (fun a q G' H' k' => by
    rw [hΓ] at k'
    exact q G' H' k') fun _ z => z)⟩
theorem EW.nf1 {e : Expr} {te : TT} {α ν1 : Type} {m : Res α} {mn : Res (Bool × ν1)} {b : α → Bool} {Γo : α → Ctx} {Γs : ν1 → Ctx} {s1 : α → ν1} (h : EW X T W Γx Γ e te m b Γo) (hΓ : ∀ a, Γo a = Γs (s1 a) := by exact fun _ => rfl) (hb : Bd mn m (fun a => .ok (b a, s1 a)) := by intros; repeat (first | ((with_reducible refine Bd.done ?_); exact rfl) | with_reducible refine Bd.okl ?_ | with_reducible refine Bd.assoc ?_ | with_reducible refine Bd.bind fun _ => ?_ | with_reducible refine Bd.eta fun _ => ?_ | with_reducible refine Bd.iteB ?_ ?_ fun _ => ?_ | with_reducible refine Bd.iteE ?_ ?_ fun _ => ?_ | with_reducible refine Bd.ite ?_ ?_ | with_reducible refine Bd.iteL ?_ ?_ | with_reducible refine Bd.assocL ?_ | with_reducible refine Bd.oklL ?_ | with_reducible exact Bd.same | with_reducible exact Bd.at | dsimp only)) :
    EW X T W Γx Γ e te mn (fun r => r.1) (fun r => Γs r.2) :=
  ⟨h.pw, fun Z G0 S σ G H Q k q => h.ev Z G0 S σ G H Q k (Res.wp_mono (hb _ _ q) (fun a q G' H' k' => by
    rw [hΓ] at k'
    exact q G' H' k') fun _ z => z)⟩
end
end Rt
/-! Rt95: objects that change no more: frozen, they are lent to defs that only read them. -/
namespace Rt
open PySem L2 R
/-- a frozen object at p -/
def fzV {α : Type} (C p dx : Addr) (fs : List (Str × V)) (f : α → Fs) (a : α) : Sl := ⟨fun G _ v ps => ps = [] ∧ v = .ref p ∧ G p = some (.ins C dx fs) ∧ Paired (FsR G) fs (f a), fun h e _ => ⟨h.1, h.2.1, e _ _ h.2.2.1, Paired.mono (fun _ _ q => q.mono e) h.2.2.2⟩⟩
/-- what frozen fields tell -/
def FsT (l : Fs) (m : FsP) : Prop := Paired (fun x y => x.1 = y.1 ∧ ∀ G H v, Ex G H → x.2.rel G v → y.2 G H v) l m
theorem ft_nil : FsT [] [] := .nil
theorem ft_cons {n : Str} {α : Type} {c : Cod α} {a : α} {P : Rp} {l : Fs} {m : FsP} (h : Rds (fz c a) P) (r : FsT l m) : FsT ((n, fzv c a) :: l) ((n, P) :: m) := .cons ⟨rfl, fun G H v e q => h G H v [] e ⟨q, rfl⟩⟩ r
theorem ft_told {G H : Hp} (e : Ex G H) : ∀ {l : Fs} {m : FsP} {fs : List (Str × V)}, FsT l m → Paired (FsR G) fs l → Paired (fun f (x : Str × Rp) => f.1 = x.1 ∧ x.2 G H f.2) fs m
  | _, _, _, .nil, .nil => .nil
  | _, _, _, .cons r t, .cons r' t' => .cons ⟨r'.1.trans r.1, r.2 G H _ e r'.2⟩ (ft_told e t t')
theorem rds_fzV {α : Type} {C p dx : Addr} {fs : List (Str × V)} {f : α → Fs} {a : α} {lp : FsP} (h : FsT (f a) lp) : Rds (fzV C p dx fs f a) (rpV C p dx fs lp) := fun G H v ps e ⟨_, h1, h2, h3⟩ => ⟨h1, e _ _ h2, ft_told e h h3⟩
theorem pin_fz {α : Type} {C p dx : Addr} {fs : List (Str × V)} {f : α → Fs} {a : α} : Pin (fzV C p dx fs f a) p := fun _ _ _ _ _ h => h.2.1
theorem Icy.rf {s : Sl} : Icy s s := fun _ _ G _ _ _ k => ⟨G, k⟩
section
variable {X : Cx} {T : XT} {W : WX} {Γx Γ : Ctx} {K : PySem.W.Frag}
/-- what is given out is frozen -/
theorem EX.icyX {e : Expr} {te : TE} {α : Type} {m : Res α} {R R' : α → Sl} {Γo : α → Ctx} (hi : ∀ a, Icy (R a) (R' a)) (h : EX X T W Γx Γ e te m R Γo) : EX X T W Γx Γ e te m R' Γo :=
  ⟨h.pe, fun Z G0 S σ G H Q k q => h.ev Z G0 S σ G H Q k (Res.wp_mono q (fun a q v G' H' k' => by
    obtain ⟨G2, k2⟩ := hi a _ _ _ _ _ _ k'.of
    exact q v G2 H' ⟨k'.len, k2⟩) fun _ z => z)⟩
end
/-- a field at a time -/
theorem icy_oob {C : Addr} {l : FsS} {s' : Sl} (h : ∀ p dx fs, Icy (oobV C p dx fs l) s') : Icy (oob C l) s' := fun Z G0 G H M w k => by
  obtain ⟨p, dx, fs, k1⟩ := okl_openV k
  exact h p dx fs _ _ _ _ _ _ k1
theorem icy_at {p : Addr} {s s' : Sl} (h : Icy s s') : Icy (atP p s) s' := fun Z G0 G H M w k => h _ _ _ _ _ _ (k.re fun ps r => r.2)
/-! ### a frozen thing is lent -/
theorem spi_at {ξ ρ : Type} {n : Nat} {T : XT} {A : ξ → List (Option Sl)} {Pm : ξ → List (Option Addr)} {g : ξ → Res ρ} {R : ξ → ρ → Sl} {B : ξ → ρ → List (Option Sl)} {Be : ξ → List (Option Sl)} {A' : List (Option Sl)} {P' : List (Option Addr)} {g' : Res ρ} {R' : ρ → Sl} {B' : ρ → List (Option Sl)} {Be' : List (Option Sl)} (x : ξ)
    (hA : A x = A') (hP : Pm x = P') (hg : g x = g') (hR : R x = R') (hB : B x = B') (hE : Be x = Be') :
    SpI (spB n T (fun _ : Unit => A') (fun _ => P') (fun _ => True) (fun _ => g') (fun _ => R') (fun _ => B') (fun _ => Be')) (spB n T A Pm (fun _ => True) g R B Be) := fun vs H Q E ⟨_, Z, G0, G, h1, h2, h3, h4, h5⟩ => by
  subst hA; subst hP; subst hg; subst hR; subst hB; subst hE
  exact ⟨x, Z, G0, G, h1, h2, h3, h4, h5⟩
theorem bk_dropK {Z G0 G H : Hp} {p : Addr} {s : Option Sl} : ∀ {k : Nat} {P : List (Option Addr)} {B : List (Option Sl)} {M : List Pl}, P[k]? = some none → B.length = P.length → Okl Z G0 (M ++ bk (P.set k (some p)) (B.set k s)) G H → Okl Z G0 (M ++ bk P B) G H
  | 0, none :: P, b :: B, M, _, _, k => (show Okl Z G0 (M ++ (s, some (V.ref p)) :: bk P B) G H from k).perm mid |>.drop
  | 0, some _ :: P, _, M, h, _, _ => by cases h
  | 0, [], _, M, h, _, _ => by cases h
  | 0, _ :: _, [], M, _, h, _ => by cases h
  | k + 1, [], _, M, h, _, _ => by cases h
  | k + 1, _ :: _, [], M, _, h, _ => by cases h
  | k + 1, none :: P, b :: B, M, h1, h2, q => bk_dropK (k := k) (P := P) (B := B) (M := M) h1 (Nat.succ.inj h2) q
  | k + 1, some a :: P, b :: B, M, h1, h2, q => by
    have q1 : Okl Z G0 ((M ++ [(b, some (V.ref a))]) ++ bk (P.set k (some p)) (B.set k s)) G H := by
      rw [List.append_assoc]
      exact q
    have q2 := bk_dropK (k := k) (P := P) (B := B) (M := M ++ [(b, some (V.ref a))]) h1 (Nat.succ.inj h2) q1
    rw [List.append_assoc] at q2
    exact q2
theorem zip_openK {Z G0 G H : Hp} {s : Sl} {C : Addr} {α : Type} {f : α → Fs} {b : α} : ∀ {k : Nat} {A : List (Option Sl)} {vs : List V} {M : List Pl}, A[k]? = some (some (fz (cobj C f) b)) → A.length = vs.length → Okl Z G0 (M ++ A.zip (vs.map some)) G H → ∃ p dx fs, Okl Z G0 (M ++ (A.set k (some (fzV C p dx fs f b))).zip (vs.map some)) G H
  | 0, [], _, M, h, _, _ => by cases h
  | 0, a :: A, [], M, _, h, _ => by cases h
  | 0, a :: A, v :: vs, M, h, _, q => by
    cases h
    have q1 : Okl Z G0 ((some (fz (cobj C f) b), some v) :: (M ++ A.zip (vs.map some))) G H := (show Okl Z G0 (M ++ (some (fz (cobj C f) b), some v) :: A.zip (vs.map some)) G H from q).perm mid
    obtain ⟨v', e, p, dx, fs, h1, h2, h3⟩ := q1.top
    cases e
    refine ⟨p, dx, fs, ?_⟩
    have q2 : Okl Z G0 ((some (fzV C p dx fs f b), some v) :: (M ++ A.zip (vs.map some))) G H := q1.re fun ps r => ⟨r.2, h1, h2, h3⟩
    exact q2.perm mid.symm
  | k + 1, [], _, M, h, _, _ => by cases h
  | k + 1, a :: A, [], M, _, h, _ => by cases h
  | k + 1, a :: A, v :: vs, M, h, hl, q => by
    have q1 : Okl Z G0 ((M ++ [(a, some v)]) ++ A.zip (vs.map some)) G H := by
      rw [List.append_assoc]
      exact q
    obtain ⟨p, dx, fs, q2⟩ := zip_openK (k := k) (A := A) (vs := vs) (M := M ++ [(a, some v)]) (s := s) h (Nat.succ.inj hl) q1
    rw [List.append_assoc] at q2
    exact ⟨p, dx, fs, q2⟩
/-- the argument k is frozen -/
theorem spi_fz {ξ ρ α : Type} {n : Nat} {T : XT} {A : ξ → List (Option Sl)} {Pm : ξ → List (Option Addr)} {g : ξ → Res ρ} {R : ξ → ρ → Sl} {B : ξ → ρ → List (Option Sl)} {Be : ξ → List (Option Sl)} {C : Addr} {f : α → Fs} {SP : Sp} (k : Nat) (b : ξ → α)
    (hA : ∀ x, (A x)[k]? = some (some (fz (cobj C f) (b x)))) (hP : ∀ x, (Pm x)[k]? = some none) (hB : ∀ x r, (B x r).length = (Pm x).length) (hE : ∀ x, (Be x).length = (Pm x).length)
    (hi : ∀ x p dx fs, SpI (spB n T (fun _ : Unit => (A x).set k (some (fzV C p dx fs f (b x)))) (fun _ => (Pm x).set k (some p)) (fun _ => True) (fun _ => g x) (fun _ => R x) (fun _ r => (B x r).set k (some (fzV C p dx fs f (b x)))) (fun _ => (Be x).set k (some (fzV C p dx fs f (b x))))) SP) :
    SpI (spB n T A Pm (fun _ => True) g R B Be) SP := fun vs H Q E ⟨x, Z, G0, G, h1, h2, h3, h4, h5⟩ => by
  obtain ⟨p, dx, fs, k1⟩ := zip_openK (k := k) (M := []) (s := fzV C 0 0 [] f (b x)) (hA x) (h2.trans h1.symm) h4
  refine hi x p dx fs vs H Q E ⟨(), Z, G0, G, h1, by rw [List.length_set]; exact h2, trivial, k1, Res.wp_mono h5 (fun r q v G' H' k' => q v G' H' ?_) fun ex q cls d G' H' k' => q cls d G' H' ?_⟩
  · exact bk_dropK (M := [(some (R x r), some v)]) (hP x) (hB x r) k'
  · exact bk_dropK (M := []) (hP x) (hE x) k'
theorem bk_nones {n : Nat} : ∀ {m : Nat}, bk (List.replicate n none) (List.replicate m none) = [] := by
  induction n with
  | zero => intro m; rfl
  | succ n ih =>
    intro m
    cases m with
    | zero => rfl
    | succ m => exact ih
/-- nothing is lent -/
theorem spiM {ξ ρ : Type} {n : Nat} {T : XT} {A : ξ → List (Option Sl)} {g : ξ → Res ρ} {R : ρ → Sl} {SP : Sp} (h : SpI (spB n T A (fun _ => List.replicate n none) (fun _ => True) g (fun _ => R) (fun _ _ => List.replicate n none) (fun _ => List.replicate n none)) SP) : SpI (spM n T A g R) SP := fun vs H Q E ⟨x, Z, G0, G, h1, h2, h3, h4⟩ => h vs H Q E ⟨x, Z, G0, G, h1, h2, trivial, h3, Res.wp_mono h4 (fun r q v G' H' k' => q v G' H' (by rw [bk_nones] at k'; exact k')) fun ex q cls d G' H' k' => q cls d G' H' (by rw [bk_nones] at k'; exact k')⟩
section
variable {P : Program} {w : World} {K : PySem.W.Frag} {mg : Str → Option Value} {base : Heap}
theorem Kn.sp {k : Nat} {x : Str} {ps : List Str} {s t : Sp} (h : SpI s t) (q : Kn P w K mg base k x ps t) : Kn P w K mg base k x ps s := by
  obtain ⟨f, fd, h1, h2, h3, h4⟩ := q
  exact ⟨f, fd, h1, h2, h3, h4.imp h⟩
theorem KnM.sp {k : Nat} {C : Addr} {m : Str} {ps : List Str} {s t : Sp} (h : SpI s t) (q : KnM P w K mg base k C m ps t) : KnM P w K mg base k C m ps s := by
  obtain ⟨f, fd, h1, h2, h3⟩ := q
  exact ⟨f, fd, h1, h2, h3.imp h⟩
theorem KnC.sp {k : Nat} {x : Str} {C : Addr} {ps : List Str} {s t : Sp} (h : SpI s t) (q : KnC P w K mg base k x C ps t) : KnC P w K mg base k x C ps s := by
  obtain ⟨f, fd, h1, h2, h3, h4⟩ := q
  exact ⟨f, fd, h1, h2, h3, h4.imp h⟩
end
end Rt
/-! Rt96: lists that lose items: x.pop(), x.pop(i), del x[i]; x an owned list or a list that an object holds. -/
namespace Rt
open PySem L2 R
theorem Paired.split {α : Type} {F : V → α → Prop} : ∀ {vs : List V} {xs : List α} {x : α}, Paired F vs (xs ++ [x]) → ∃ us u, vs = us ++ [u] ∧ Paired F us xs ∧ F u x
  | _, [], _, .cons r .nil => ⟨[], _, rfl, .nil, r⟩
  | _, _ :: _, _, .cons r t => by
    obtain ⟨us, u, rfl, h1, h2⟩ := Paired.split t
    exact ⟨_ :: us, u, rfl, .cons r h1, h2⟩
theorem Paired.erase {α : Type} {F : V → α → Prop} : ∀ {vs : List V} {xs : List α} {j : Nat}, Paired F vs xs → Paired F (vs.eraseIdx j) (xs.eraseIdx j)
  | _, _, _, .nil => .nil
  | _, _, 0, .cons _ t => t
  | _, _, _ + 1, .cons r t => .cons r (Paired.erase t)
theorem Paired.getr {α : Type} {F : V → α → Prop} : ∀ {vs : List V} {xs : List α} {j : Nat} {x : α}, Paired F vs xs → xs[j]? = some x → ∃ v, vs[j]? = some v ∧ F v x
  | _, _, _, _, .nil, h => by cases h
  | _, _, 0, _, .cons r _, h => by cases h; exact ⟨_, rfl, r⟩
  | _ :: vs, _ :: xs, j + 1, x, .cons _ t, h => by
    have h' : xs[j]? = some x := by simpa using h
    obtain ⟨v, h1, h2⟩ := Paired.getr t h'
    exact ⟨v, by simpa using h1, h2⟩
theorem pop_ix {n : Nat} {i : Int} {j : Nat} (h : R.ixN n i = some j) (hn : n ≤ R.line) : -(2 ^ 63) ≤ i ∧ i < 2 ^ 63 ∧ seqIndex? i n = some j := by
  obtain ⟨h1, _, h2, h3⟩ := ixN_seq (ixN_lt h)
  unfold R.line at hn
  exact ⟨by omega, by omega, h1⟩
section
variable {X : Cx} {T : XT} {W : WX} {Γx Γ : Ctx} {K : PySem.W.Frag}
/-- x.pop() -/
theorem ex_popO (i : Nat) {γ : Type} {c : Cod γ} {xs : List γ} {x : Str} {p1 p2 p3 : Pos} (h : Γ[i]? = some (some (ol c xs)) := by rfl) (hN : X.N[i]? = some x := by rfl) (hv : Vis X.env.scope x := by first | exact Or.inl rfl | exact Or.inr (Or.inl rfl) | exact Or.inr (Or.inr rfl)) (hd : (x == ("__debug__" : Str)) = false := by decide) (hcd : (x == ("__classdict__" : Str)) = false := by decide) (hK : X.K = K := by rfl)
    (hpe : ∀ {to : TE}, PE X (.Name x p1) to → PE X (.Call (.Attribute (.Name x p1) "pop" p2) [] [] p3) (tBM0 X.K "list" rPop to) := by exact fun h1 => pe_bm0 PySem.F.plainAttrs_list PySem.F.slot_list_pop PySem.F.type_list_pop mt_pop h1) :
    EX X T W Γx Γ (.Call (.Attribute (.Name x p1) "pop" p2) [] [] p3) (tBM0 K "list" rPop (tVar i)) (popL xs) (fun r => fz c r.1) (fun r => Γ.set i (some (ol c r.2))) := by
  subst hK
  refine ⟨hpe (pv i hN hv hd hcd), fun Z G0 S σ G H Q k q => ?_⟩
  obtain ⟨v, l, hw, k1, back⟩ := k.take h
  obtain ⟨p, vs, rfl, h3, h4, h5⟩ := ol_own k1
  obtain ⟨r, e, q2⟩ := wp_cases q popL_ne
  obtain rfl := popL_ok e
  obtain ⟨us, u, rfl, h6, h7⟩ := Paired.split h4
  refine ⟨.ref p, hw, .inl ⟨rfl, _, SqL.of h3⟩, p, _, u, rfl, rfl, h3, ?_, ?_⟩
  · rw [List.length_append, List.length_singleton, Nat.add_sub_cancel, List.getElem?_append_right (Nat.le_refl _), Nat.sub_self]
    rfl
  · rw [List.dropLast_concat]
    exact q2 u _ _ ((back _ _ _ (h5 _ _ h6)).pushf h7)
/-- x.pop(e) -/
theorem ex_popAt (i : Nat) {α γ : Type} {c : Cod γ} {xs : List γ} {x : Str} {e : Expr} {te : TE} {p1 p2 p3 : Pos} {m1 : Res α} {Rm : α → Sl} {Γo : α → Ctx} {a : α → Int} (he : EX X T W Γx Γ e te m1 Rm Γo) (hR : ∀ t, Rm t = sI (a t) := by exact fun _ => rfl) (hΓo : ∀ t, Γo t = Γ := by exact fun _ => rfl) (h : Γ[i]? = some (some (ol c xs)) := by rfl) (hN : X.N[i]? = some x := by rfl) (hv : Vis X.env.scope x := by first | exact Or.inl rfl | exact Or.inr (Or.inl rfl) | exact Or.inr (Or.inr rfl)) (hd : (x == ("__debug__" : Str)) = false := by decide) (hcd : (x == ("__classdict__" : Str)) = false := by decide) (hK : X.K = K := by rfl)
    (hpe : ∀ {to : TE} {ta : TA}, PE X (.Name x p1) to → PA X [e] ta → PE X (.Call (.Attribute (.Name x p1) "pop" p2) [e] [] p3) (tBM X.K "list" rPopAt to ta) := by exact fun h1 h2 => pe_bm PySem.F.plainAttrs_list PySem.F.slot_list_pop PySem.F.type_list_pop mt_popAt h1 h2)
    (hst : starEach (e :: []) X.env = (false, eval e X.env) :: starEach [] X.env := by rfl) :
    EX X T W Γx Γ (.Call (.Attribute (.Name x p1) "pop" p2) [e] [] p3) (tBM K "list" rPopAt (tVar i) (tCons te tNil)) (m1.bind fun t => (popI xs (a t)).bind fun r => .ok (t, r)) (fun r => fz c r.2.1) (fun r => Γ.set i (some (ol c r.2.2))) := by
  subst hK
  obtain rfl : Rm = fun t => sI (a t) := funext hR
  obtain rfl : Γo = fun _ => Γ := funext hΓo
  refine ⟨hpe (pv i hN hv hd hcd) (pa_cons he.pe pa_nil hst), fun Z G0 S σ G H Q k q => ?_⟩
  obtain ⟨v, l, hw, k1, _⟩ := k.take h
  obtain ⟨p, vs, rfl, h3, _, _⟩ := ol_own k1
  refine ⟨.ref p, hw, .inl ⟨rfl, _, SqL.of h3⟩, ?_⟩
  refine he.ev Z G0 S σ G H _ k (Res.wp_mono (Res.wp_bind q) (fun t q y G' H' k' => ?_) fun ex q => q)
  obtain ⟨r, e1, q2⟩ := wp_cases (Res.wp_bind q) popI_ne
  obtain ⟨hn, j, e2, e3, e4⟩ := popI_ok e1
  have hr : y = V.int (a t) := k'.tp
  subst hr
  obtain ⟨v', l', hw', k2, back⟩ := k'.drop.take h
  rw [hw] at hw'
  cases hw'
  obtain ⟨p', vs', e5, h6, h7, h8⟩ := ol_own k2
  cases e5
  obtain ⟨u, hu, hr⟩ := Paired.getr h7 e3
  rw [← h7.length] at e2 hn
  obtain ⟨b1, b2, b3⟩ := pop_ix e2 hn
  refine ⟨p, vs', a t, j, u, rfl, rfl, h6, b1, b2, b3, hu, ?_⟩
  have z := h8 _ _ (Paired.erase (j := j) h7)
  rw [← e4] at z
  exact q2 u _ _ ((back _ _ _ z).pushf hr)
/-- o.n.pop() -/
theorem ex_popF (i : Nat) {γ : Type} {c : Cod γ} {xs : List γ} {x n : Str} {p1 p2 p3 p4 : Pos} {C p dx : Addr} {fs : List (Str × V)} {l : FsS} {lp : FsP} {Γn : List γ → Ctx} (hΓn : ∀ ys, Γ.set i (some (atP p (oob C (putL n (ol c ys) l)))) = Γn ys) (cl : Cls K C) (na : NoAttr K C n) (rd : FsRd l lp) (h : Γ[i]? = some (some (oobV C p dx fs l)) := by rfl) (hf : l.lookup n = some (ol c xs) := by rfl) (hfp : lp.lookup n = some (rpL c xs) := by rfl) (hnm : ∀ s, (putL n s l).map (·.1) = l.map (·.1) := by exact fun _ => rfl)
    (hN : X.N[i]? = some x := by rfl) (hv : Vis X.env.scope x := by first | exact Or.inl rfl | exact Or.inr (Or.inl rfl) | exact Or.inr (Or.inr rfl)) (hd : (x == ("__debug__" : Str)) = false := by decide) (hcd : (x == ("__classdict__" : Str)) = false := by decide) (hK : X.K = K := by rfl) (hba : attributeBase (.Name x p1) n X.env (eval (.Name x p1) X.env) = eval (.Name x p1) X.env := by rfl)
    (hpe : ∀ {to : TE}, PE X (.Attribute (.Name x p1) n p2) to → PE X (.Call (.Attribute (.Attribute (.Name x p1) n p2) "pop" p3) [] [] p4) (tBM0 X.K "list" rPop to) := by exact fun h1 => pe_bm0 PySem.F.plainAttrs_list PySem.F.slot_list_pop PySem.F.type_list_pop mt_pop h1) :
    EX X T W Γx Γ (.Call (.Attribute (.Attribute (.Name x p1) n p2) "pop" p3) [] [] p4) (tBM0 K "list" rPop (tFld K (tVar i) n)) (popL xs) (fun r => fz c r.1) (fun r => Γn r.2) := by
  subst hK
  have bx : BX X Γ (.Attribute (.Name x p1) n p2) (tFld X.K (tVar i) n) (rpL c xs) := bx_fld (bx_slot i (rds_oobV rd) h hN hv hd hcd) cl na hfp rfl hba
  refine ⟨hpe bx.pe, fun Z G0 S σ G H Q k q => ?_⟩
  obtain ⟨v0, _, hw0, k0, back⟩ := k.take h
  obtain ⟨w, rfl, hp0, hw, hn0, k1⟩ := k0.focus hf
  obtain ⟨b, vs, rfl, h3, h4, h5⟩ := ol_own k1
  obtain ⟨r, e, q2⟩ := wp_cases q popL_ne
  obtain rfl := popL_ok e
  obtain ⟨us, u, rfl, h6, h7⟩ := Paired.split h4
  refine ⟨.ref p, hw0, p, C, dx, fs, .ref b, rfl, hp0, cl, na, hw, .inl ⟨rfl, _, SqL.of h3⟩, b, _, u, rfl, rfl, h3, ?_, ?_⟩
  · rw [List.length_append, List.length_singleton, Nat.add_sub_cancel, List.getElem?_append_right (Nat.le_refl _), Nat.sub_self]
    rfl
  · rw [List.dropLast_concat]
    have k5 := Okl.unfocus hn0 hw (h5 _ _ h6) (hnm _)
    have k6 := k5.re (s' := atP p (oob C (putL n (ol c r.2) l))) fun ps r => ⟨rfl, p, dx, fs, r⟩
    have k7 := back _ _ _ k6
    rw [hΓn] at k7
    exact q2 u _ _ (k7.pushf h7)
/-- o.n = e, where e changes the object -/
theorem s1_fldX {i : Nat} {x n : Str} {e : Expr} {te : TE} {p1 p2 pos : Pos} {C p : Addr} {α ν : Type} {l : ν → FsS} {m1 : Res α} {Rm : α → Sl} {Γo : α → Ctx} {f : α → ν} {s : ν → Sl} {mn : Res ν} (cl : Cls K C) (na : NoAttr K C n) (he : EX X T W Γx Γ e te m1 Rm Γo) (hR : ∀ t, Rm t = s (f t)) (hΓo : ∀ t, (Γo t)[i]? = some (some (atP p (oob C (l (f t)))))) {Γn : ν → Ctx} (hΓn : ∀ t, (Γo t).set i (some (atP p (oob C (putL n (s (f t)) (l (f t)))))) = Γn (f t))
    (hl : ∀ r, Nat.ble ((l r).length + 1) 1000 = true := by exact fun _ => rfl) (hN : X.N[i]? = some x := by rfl) (hv : Vis X.env.scope x := by first | exact Or.inl rfl | exact Or.inr (Or.inl rfl) | exact Or.inr (Or.inr rfl)) (hb : Bd mn m1 (fun t => .ok (f t)) := by intros; repeat (first | ((with_reducible refine Bd.done ?_); exact rfl) | with_reducible refine Bd.okl ?_ | with_reducible refine Bd.assoc ?_ | with_reducible refine Bd.bind fun _ => ?_ | with_reducible refine Bd.eta fun _ => ?_ | with_reducible refine Bd.iteB ?_ ?_ fun _ => ?_ | with_reducible refine Bd.iteE ?_ ?_ fun _ => ?_ | with_reducible refine Bd.ite ?_ ?_ | with_reducible refine Bd.iteL ?_ ?_ | with_reducible refine Bd.assocL ?_ | with_reducible refine Bd.oklL ?_ | with_reducible exact Bd.same | with_reducible exact Bd.at | dsimp only))
    (hK : X.K = K := by rfl) (hd : (x == ("__debug__" : Str)) = false := by decide) (hcd : (x == ("__classdict__" : Str)) = false := by decide) (hs : swapsWith e (some (.Attribute (.Name x p1) n p2)) pos.line X.env = pure false := by rfl) :
    S1 X T W Γx Γ (.Assign [.Attribute (.Name x p1) n p2] e pos) (sFld K (tVar i) te n) mn (fun y => .nx (Γn y)) := by
  subst hK
  refine ⟨ps_fld (pv i hN hv hd hcd) he.pe hs, fun Z G0 S σ G H D kk q => ?_⟩
  refine he.ev Z G0 S σ G H _ kk (Res.wp_mono (hb _ _ q) (fun t q y G1 H1 k1 => ?_) fun ex q cls d G' H' k' => q cls d σ G' H' k')
  obtain ⟨v, M, hw, k2, back, _⟩ := Okc.takeS (L := [(some (Rm t), some y)]) (S := S) k1 (hΓo t)
  obtain ⟨dx, fs, k2'⟩ : ∃ dx fs, Okl Z G0 ((some (oobV C p dx fs (l (f t))), some v) :: (some (Rm t), some y) :: M) G1 H1 := by
    obtain ⟨ps, ⟨q1, q2, hps, ⟨v', e1, e3, p', dx, fs, r⟩, h4⟩, h2, h3⟩ := k2.own
    cases e1
    cases e3
    obtain rfl : p = p' := V.ref.inj r.1
    exact ⟨dx, fs, k2.zh, k2.gg, k2.gh, k2.fr, ps, ⟨q1, q2, hps, ⟨_, rfl, r⟩, h4⟩, h2, h3⟩
  have k3 : Okl Z G0 ((some (Rm t), some y) :: (some (oobV C p dx fs (l (f t))), some v) :: M) G1 H1 := k2'.perm (List.Perm.swap _ _ _)
  rw [hR] at k3
  obtain ⟨rfl, hp, hn, k4⟩ := Okl.fput (n := n) k3
  refine ⟨.ref p, hw, p, C, dx, fs, rfl, hp, cl, na, ?_, ?_⟩
  · have : fs.length = (l (f t)).length := by
      have := congrArg List.length hn
      rw [List.length_map, List.length_map] at this
      exact this
    rw [this]
    exact Nat.le_of_ble_eq_true (hl _)
  · have k5 : Okl Z G0 ((some (atP p (oob C (putL n (s (f t)) (l (f t))))), some (.ref p)) :: M) G1 (upd H1 p (.ins C dx (putF n y fs))) := k4.re fun ps r => ⟨rfl, p, dx, putF n y fs, r⟩
    have k6 := back Z G0 _ [] _ _ k5
    rw [hΓn] at k6
    exact q σ G1 _ k6
/-- o.n.pop(e) -/
theorem ex_popFAt (i : Nat) {α γ : Type} {c : Cod γ} {xs : List γ} {x n : Str} {e : Expr} {te : TE} {p1 p2 p3 p4 : Pos} {C p dx : Addr} {fs : List (Str × V)} {l : FsS} {lp : FsP} {m1 : Res α} {Rm : α → Sl} {Γo : α → Ctx} {a : α → Int} {Γn : List γ → Ctx} (hΓn : ∀ ys, Γ.set i (some (atP p (oob C (putL n (ol c ys) l)))) = Γn ys) (cl : Cls K C) (na : NoAttr K C n) (rd : FsRd l lp) (he : EX X T W Γx Γ e te m1 Rm Γo) (hR : ∀ t, Rm t = sI (a t) := by exact fun _ => rfl) (hΓo : ∀ t, Γo t = Γ := by exact fun _ => rfl) (h : Γ[i]? = some (some (oobV C p dx fs l)) := by rfl) (hf : l.lookup n = some (ol c xs) := by rfl) (hfp : lp.lookup n = some (rpL c xs) := by rfl) (hnm : ∀ s, (putL n s l).map (·.1) = l.map (·.1) := by exact fun _ => rfl)
    (hN : X.N[i]? = some x := by rfl) (hv : Vis X.env.scope x := by first | exact Or.inl rfl | exact Or.inr (Or.inl rfl) | exact Or.inr (Or.inr rfl)) (hd : (x == ("__debug__" : Str)) = false := by decide) (hcd : (x == ("__classdict__" : Str)) = false := by decide) (hK : X.K = K := by rfl) (hba : attributeBase (.Name x p1) n X.env (eval (.Name x p1) X.env) = eval (.Name x p1) X.env := by rfl)
    (hpe : ∀ {to : TE} {ta : TA}, PE X (.Attribute (.Name x p1) n p2) to → PA X [e] ta → PE X (.Call (.Attribute (.Attribute (.Name x p1) n p2) "pop" p3) [e] [] p4) (tBM X.K "list" rPopAt to ta) := by exact fun h1 h2 => pe_bm PySem.F.plainAttrs_list PySem.F.slot_list_pop PySem.F.type_list_pop mt_popAt h1 h2)
    (hst : starEach (e :: []) X.env = (false, eval e X.env) :: starEach [] X.env := by rfl) :
    EX X T W Γx Γ (.Call (.Attribute (.Attribute (.Name x p1) n p2) "pop" p3) [e] [] p4) (tBM K "list" rPopAt (tFld K (tVar i) n) (tCons te tNil)) (m1.bind fun t => (popI xs (a t)).bind fun r => .ok (t, r)) (fun r => fz c r.2.1) (fun r => Γn r.2.2) := by
  subst hK
  obtain rfl : Rm = fun t => sI (a t) := funext hR
  obtain rfl : Γo = fun _ => Γ := funext hΓo
  have bx : BX X Γ (.Attribute (.Name x p1) n p2) (tFld X.K (tVar i) n) (rpL c xs) := bx_fld (bx_slot i (rds_oobV rd) h hN hv hd hcd) cl na hfp rfl hba
  refine ⟨hpe bx.pe (pa_cons he.pe pa_nil hst), fun Z G0 S σ G H Q k q => ?_⟩
  obtain ⟨v0, _, hw0, k0, _⟩ := k.take h
  obtain ⟨w, rfl, hp0, hw, hn0, k1⟩ := k0.focus hf
  obtain ⟨b, vs, rfl, h3, _, _⟩ := ol_own k1
  refine ⟨.ref p, hw0, p, C, dx, fs, .ref b, rfl, hp0, cl, na, hw, .inl ⟨rfl, _, SqL.of h3⟩, ?_⟩
  refine he.ev Z G0 S σ G H _ k (Res.wp_mono (Res.wp_bind q) (fun t q y G' H' k' => ?_) fun ex q => q)
  obtain ⟨r, e1, q2⟩ := wp_cases (Res.wp_bind q) popI_ne
  obtain ⟨hn, j, e2, e3, e4⟩ := popI_ok e1
  have hr : y = V.int (a t) := k'.tp
  subst hr
  obtain ⟨v1, M, hw1, k2, back⟩ := k'.drop.take h
  rw [hw0] at hw1
  cases hw1
  obtain ⟨w', _, _, hw', hn1, k4⟩ := k2.focus hf
  rw [hw] at hw'
  cases hw'
  obtain ⟨p', vs', e5, h6, h7, h8⟩ := ol_own k4
  cases e5
  obtain ⟨u, hu, hr⟩ := Paired.getr h7 e3
  rw [← h7.length] at e2 hn
  obtain ⟨b1, b2, b3⟩ := pop_ix e2 hn
  refine ⟨b, vs', a t, j, u, rfl, rfl, h6, b1, b2, b3, hu, ?_⟩
  have z := h8 _ _ (Paired.erase (j := j) h7)
  rw [← e4] at z
  have k5 := Okl.unfocus hn1 hw z (hnm _)
  have k6 := k5.re (s' := atP p (oob C (putL n (ol c r.2) l))) fun ps r => ⟨rfl, p, dx, fs, r⟩
  have k7 := back _ _ _ k6
  rw [hΓn] at k7
  exact q2 u _ _ (k7.pushf hr)
/-- del o.n[e] -/
theorem s1_delF {i : Nat} {x n : Str} {e : Expr} {te : TE} {p1 p2 p3 pos : Pos} {C p dx : Addr} {fs : List (Str × V)} {l : FsS} {lp : FsP} {α γ : Type} {c : Cod γ} {m1 : Res α} {Rm : α → Sl} {Γo : α → Ctx} {a : α → Int} {xs : List γ} {mn : Res (List γ)} {Γn : List γ → Ctx} (cl : Cls K C) (na : NoAttr K C n) (rd : FsRd l lp) (he : EX X T W Γx Γ e te m1 Rm Γo) (hR : ∀ t, Rm t = sI (a t) := by exact fun _ => rfl) (hΓo : ∀ t, Γo t = Γ := by exact fun _ => rfl)
    (h : Γ[i]? = some (some (oobV C p dx fs l)) := by rfl) (hf : l.lookup n = some (ol c xs) := by rfl) (hfp : lp.lookup n = some (rpL c xs) := by rfl) (hΓn : ∀ ys, Γ.set i (some (atP p (oob C (putL n (ol c ys) l)))) = Γn ys) (hnm : ∀ s, (putL n s l).map (·.1) = l.map (·.1) := by exact fun _ => rfl) (hN : X.N[i]? = some x := by rfl) (hv : Vis X.env.scope x := by first | exact Or.inl rfl | exact Or.inr (Or.inl rfl) | exact Or.inr (Or.inr rfl)) (hd : (x == ("__debug__" : Str)) = false := by decide) (hcd : (x == ("__classdict__" : Str)) = false := by decide)
    (hb : Bd mn (m1.bind fun t => (R.delI xs (a t)).bind fun ys => .ok (t, ys)) (fun t => .ok t.2) := by intros; repeat (first | ((with_reducible refine Bd.done ?_); exact rfl) | with_reducible refine Bd.okl ?_ | with_reducible refine Bd.assoc ?_ | with_reducible refine Bd.bind fun _ => ?_ | with_reducible refine Bd.eta fun _ => ?_ | with_reducible refine Bd.iteB ?_ ?_ fun _ => ?_ | with_reducible refine Bd.iteE ?_ ?_ fun _ => ?_ | with_reducible refine Bd.ite ?_ ?_ | with_reducible refine Bd.iteL ?_ ?_ | with_reducible refine Bd.assocL ?_ | with_reducible refine Bd.oklL ?_ | with_reducible exact Bd.same | with_reducible exact Bd.at | dsimp only))
    (hK : X.K = K := by rfl) (hba : attributeBase (.Name x p1) n X.env (eval (.Name x p1) X.env) = eval (.Name x p1) X.env := by rfl) :
    S1 X T W Γx Γ (.Delete [.Subscript (.Attribute (.Name x p1) n p2) e p3] pos) (tDelL (tFld K (tVar i) n) te) mn (fun ys => .nx (Γn ys)) := by
  subst hK
  obtain rfl : Rm = fun t => sI (a t) := funext hR
  obtain rfl : Γo = fun _ => Γ := funext hΓo
  have bx : BX X Γ (.Attribute (.Name x p1) n p2) (tFld X.K (tVar i) n) (rpL c xs) := bx_fld (bx_slot i (rds_oobV rd) h hN hv hd hcd) cl na hfp rfl hba
  refine ⟨ps_delL bx.pe he.pe, fun Z G0 S σ G H D k q => ?_⟩
  obtain ⟨v0, _, hw0, k0, _⟩ := k.take h
  obtain ⟨w, rfl, hp0, hw, hn0, k1⟩ := k0.focus hf
  obtain ⟨b, vs, rfl, h3, _, _⟩ := ol_own k1
  refine ⟨.ref p, hw0, p, C, dx, fs, .ref b, rfl, hp0, cl, na, hw, ?_⟩
  refine he.ev Z G0 S σ G H _ k (Res.wp_mono (Res.wp_bind (hb _ _ q)) (fun t q y G' H' k' => ?_) fun ex q cls d G' H' k' => q cls d σ G' H' k')
  obtain ⟨r, e1, q2⟩ := wp_cases (Res.wp_bind q) delI_ne
  obtain ⟨hn, j, e2, e4⟩ := delI_ok e1
  have hr : y = V.int (a t) := k'.tp
  subst hr
  obtain ⟨v1, M, hw1, k2, back⟩ := k'.drop.take h
  rw [hw0] at hw1
  cases hw1
  obtain ⟨w', _, _, hw', hn1, k4⟩ := k2.focus hf
  rw [hw] at hw'
  cases hw'
  obtain ⟨p', vs', e5, h6, h7, h8⟩ := ol_own k4
  cases e5
  rw [← h7.length] at e2 hn
  obtain ⟨b1, b2, b3⟩ := pop_ix e2 hn
  refine ⟨b, vs', a t, j, rfl, rfl, h6, b1, b2, b3, ?_⟩
  have z := h8 _ _ (Paired.erase (j := j) h7)
  rw [← e4] at z
  have k5 := Okl.unfocus hn1 hw z (hnm _)
  have k6 := k5.re (s' := atP p (oob C (putL n (ol c r) l))) fun ps r => ⟨rfl, p, dx, fs, r⟩
  have k8 := back _ _ _ k6
  rw [hΓn] at k8
  exact q2 σ _ _ k8
end
end Rt
/-! Rt97: x[i].append(e), x an owned list of owned lists. -/
namespace Rt
open PySem L2 R
section
variable {X : Cx} {T : XT} {W : WX} {Γx Γ : Ctx} {K : PySem.W.Frag}
/-- an expression by its value -/
theorem EX.nfv {e : Expr} {te : TE} {α ν : Type} {m : Res α} {mn : Res ν} {R : α → Sl} {R' : ν → Sl} {Γo : α → Ctx} {Γs : Ctx} {g : α → ν} (h : EX X T W Γx Γ e te m R Γo) (hR : ∀ a, R a = R' (g a) := by exact fun _ => rfl) (hΓ : ∀ a, Γo a = Γs := by exact fun _ => rfl) (hb : Bd mn m (fun a => .ok (g a)) := by intros; repeat (first | ((with_reducible refine Bd.done ?_); exact rfl) | with_reducible refine Bd.okl ?_ | with_reducible refine Bd.assoc ?_ | with_reducible refine Bd.bind fun _ => ?_ | with_reducible refine Bd.eta fun _ => ?_ | with_reducible refine Bd.iteB ?_ ?_ fun _ => ?_ | with_reducible refine Bd.iteE ?_ ?_ fun _ => ?_ | with_reducible refine Bd.ite ?_ ?_ | with_reducible refine Bd.iteL ?_ ?_ | with_reducible refine Bd.assocL ?_ | with_reducible refine Bd.oklL ?_ | with_reducible exact Bd.same | with_reducible exact Bd.at | dsimp only)) :
    EX X T W Γx Γ e te mn R' (fun _ => Γs) := ⟨h.pe, fun Z G0 S σ G H Q k q => h.ev Z G0 S σ G H Q k (Res.wp_mono (hb _ _ q) (fun a q v G' H' k' => q v G' H' (by rw [← hR, ← hΓ a]; exact k')) fun _ z => z)⟩
theorem s1_appLL {n : Nat} {x : Str} {e2 e3 : Expr} {ti tj : TE} {p1 p2 p4 p5 pos : Pos} {γ δ : Type} {ε : Type} [Nonempty δ] {c : Cod γ} {m2 : Res δ} {Rk : δ → Sl} {Γk : δ → Ctx} {k : δ → Int} {m3 : δ → Res ε} {R3 : δ → ε → Sl} {Γ3 : δ → Int → V → ε → Ctx} {Γe : Ctx} {a : δ → ε → γ} {xs : List (List γ)} {mn : Res (List (List γ))}
    (hi : EX X T W Γx Γ e2 ti m2 Rk Γk) (hj : ∀ u i w, EX X T (fun _ _ _ _ => False) Γe (Γ.set n (some (ols (lput (xs.map (ol c)) i (hole w))))) e3 tj (m3 u) (R3 u) (Γ3 u i w))
    (hRk : ∀ u, Rk u = sI (k u) := by exact fun _ => rfl) (hR3 : ∀ u z, R3 u z = fz c (a u z) := by exact fun _ _ => rfl) (hΓk : ∀ u, Γk u = Γ := by exact fun _ => rfl) (hΓ3 : ∀ u i w z, Γ3 u i w z = Γ.set n (some (ols (lput (xs.map (ol c)) i (hole w)))) := by exact fun _ _ _ _ => rfl)
    (h : Γ[n]? = some (some (oll c xs)) := by rfl) (hN : X.N[n]? = some x := by rfl) (hv : Vis X.env.scope x := by first | exact Or.inl rfl | exact Or.inr (Or.inl rfl) | exact Or.inr (Or.inr rfl))
    (hb : Bd mn (m2.bind fun u => (idx xs (k u)).bind fun r => (m3 u).calm.bind fun z => (R.push r (a u z)).bind fun r' => .ok (u, z, lput xs (k u) r')) (fun t => .ok t.2.2) := by intros; repeat (first | ((with_reducible refine Bd.done ?_); exact rfl) | with_reducible refine Bd.okl ?_ | (with_reducible apply Bd.calmB; intro _) | with_reducible refine Bd.assoc ?_ | with_reducible refine Bd.bind fun _ => ?_ | with_reducible refine Bd.eta fun _ => ?_ | with_reducible refine Bd.iteB ?_ ?_ fun _ => ?_ | with_reducible refine Bd.iteE ?_ ?_ fun _ => ?_ | with_reducible refine Bd.ite ?_ ?_ | with_reducible refine Bd.iteL ?_ ?_ | with_reducible refine Bd.assocL ?_ | with_reducible refine Bd.oklL ?_ | with_reducible exact Bd.same | with_reducible exact Bd.at | dsimp only))
    (hd : (x == ("__debug__" : Str)) = false := by decide) (hcd : (x == ("__classdict__" : Str)) = false := by decide) (hpi : PlainIx e2 := by exact fun _ _ => rfl)
    (hpe : ∀ {to : TE} {ta : TA}, PE X (.Subscript (.Name x p1) e2 p2) to → PA X [e3] ta → PE X (.Call (.Attribute (.Subscript (.Name x p1) e2 p2) "append" p4) [e3] [] p5) (tBM X.K "list" rAppend to ta) := by exact fun h1 h2 => pe_bm PySem.F.plainAttrs_list PySem.F.slot_list_append PySem.F.type_list_append mt_append h1 h2)
    (hst : starEach (e3 :: []) X.env = (false, eval e3 X.env) :: starEach [] X.env := by rfl) (hs : swapsWith (.Call (.Attribute (.Subscript (.Name x p1) e2 p2) "append" p4) [e3] [] p5) none pos.line X.env = pure false := by rfl) (hK : X.K = K := by rfl) :
    S1 X T W Γx Γ (.Expr (.Call (.Attribute (.Subscript (.Name x p1) e2 p2) "append" p4) [e3] [] p5) pos) (tDrop (tBM K "list" rAppend (tOp (rIxL K) (tVar n) ti) (tCons tj tNil))) mn (fun ys => .nx (Γ.set n (some (oll c ys)))) := by
  subst hK
  obtain rfl : Rk = fun u => sI (k u) := funext hRk
  obtain rfl : R3 = fun u z => fz c (a u z) := funext fun u => funext (hR3 u)
  obtain rfl : Γk = fun _ => Γ := funext hΓk
  obtain rfl : Γ3 = fun u i w _ => Γ.set n (some (ols (lput (xs.map (ol c)) i (hole w)))) := funext fun u => funext fun i => funext fun w => funext (hΓ3 u i w)
  obtain ⟨u0⟩ := ‹Nonempty δ›
  refine ⟨ps_expr (hpe (pe_ix L2.ix_list (pv n hN hv hd hcd) hi.pe hpi) (pa_cons (hj u0 0 .non).pe pa_nil hst)) hs, fun Z G0 S σ G H D kc q => ?_⟩
  obtain ⟨v, _, hw', _, _⟩ := kc.take h
  refine ⟨v, hw', ?_⟩
  refine hi.ev Z G0 S σ G H _ kc (Res.wp_mono (Res.wp_bind (hb _ _ q)) (fun u q w G2 H2 k2 => ?_) fun ex q cls d G' H' k' => q cls d σ G' H' k')
  obtain ⟨r, e, q3⟩ := wp_cases (Res.wp_bind q) idx_ne
  have hk : w = .int (k u) := k2.tp
  obtain ⟨v', M, hw2, k3, back, _⟩ := Okc.takeS (L := []) (S := S) k2.drop h
  rw [hw'] at hw2
  cases hw2
  have k3' : Okl Z G0 ((some (oll c xs), some v) :: M) G2 H2 := k3
  obtain ⟨j, ej, er⟩ := atI_ix (idx_ok e)
  have hjx : j < xs.length := (ixN_seq (ixN_lt ej)).2.1
  obtain ⟨p, vs, u', rfl, hp, hlen, hval, k4⟩ := Okl.lfocus (i := j) (s := ol c r) k3' (by rw [List.getElem?_map, er]; rfl)
  rw [List.length_map] at hlen
  have elp : ∀ s, lput (xs.map (ol c)) (k u) s = (xs.map (ol c)).set j s := fun s => lput_at (by rw [List.length_map]; exact ej)
  obtain ⟨b0, ws0, rfl, hb0, _, _⟩ := ol_own k4
  refine ⟨p, vs, k u, .ref b0, rfl, hk, SqL.of hp, ?_, ?_⟩
  · unfold L2.atI
    rw [hlen, ixN_lt ej]
    exact hval
  · refine .inl ⟨rfl, _, SqL.of hb0⟩ |> fun z => ⟨z, ?_⟩
    have k6 : Okc Z G0 ((some (ol c r), some (.ref b0)) :: S) (Γ.set n (some (ols (lput (xs.map (ol c)) (k u) (hole (.ref b0)))))) σ G2 H2 := back Z G0 (ols (lput (xs.map (ol c)) (k u) (hole (.ref b0)))) [(some (ol c r), some (.ref b0))] G2 H2 (by rw [elp]; exact k4.perm (List.Perm.swap _ _ _))
    refine (hj u (k u) (.ref b0)).ev Z G0 _ σ G2 H2 _ k6 (Res.wp_mono (Res.wp_calm (Res.wp_bind q3)) (fun z q w3 G3 H3 k7 => ?_) fun ex z => z.elim)
    obtain ⟨r', e5, q5⟩ := wp_cases (Res.wp_bind q) (chk_ne ok_ne)
    obtain ⟨e6, e7⟩ := chk_ok e5
    cases e7
    have hy := k7.tp
    have hn : (Γ.set n (some (ols (lput (xs.map (ol c)) (k u) (hole (.ref b0))))))[n]? = some (some (ols (lput (xs.map (ol c)) (k u) (hole (.ref b0))))) := by
      rw [List.getElem?_set, if_pos rfl, if_pos (List.getElem?_eq_some_iff.mp h).1]
    obtain ⟨v3, M3, hw3, k8, back3, _⟩ := Okc.takeS (L := [(some (ol c r), some (.ref b0))]) (S := S) k7.drop hn
    rw [hw'] at hw3
    cases hw3
    have k9 : Okl Z G0 ((some (ol c r), some (.ref b0)) :: (some (ols (lput (xs.map (ol c)) (k u) (hole (.ref b0)))), some (.ref p)) :: M3) G3 H3 := k8.perm (List.Perm.swap _ _ _)
    obtain ⟨q', ws, e8, h3, hpr, wr⟩ := ol_own k9
    cases e8
    refine ⟨b0, ws, w3, rfl, rfl, h3, ?_, ?_⟩
    · rw [hpr.length, ← line_eq]
      exact of_decide_eq_true e6
    have k10 := wr _ _ (Paired.snoc hpr hy)
    rw [elp] at k10
    have k11 := Okl.lunfocus (by rw [List.length_map]; exact hjx) k10
    have e4 : (xs.map (ol c)).set j (ol c (r ++ [a u z])) = (lput xs (k u) (r ++ [a u z])).map (ol c) := by rw [lput_at ej, List.map_set]
    rw [e4] at k11
    have k12 := back3 Z G0 (oll c (lput xs (k u) (r ++ [a u z]))) [] G3 _ k11
    rw [List.set_set] at k12
    exact q5 σ G3 _ k12
end
end Rt
/-! Rt98: objects that are frozen while they are held at a known place. -/
namespace Rt
open PySem L2 R
theorem icy_pin {C p dx : Addr} {fs : List (Str × V)} {l : FsS} {s' : Sl} (h : Icy (oobV C p dx fs l) s') : Icy (oobV C p dx fs l) (atP p s') := fun Z G0 G H M w k => by
  have hw : w = .ref p := by
    obtain ⟨ps, ⟨q1, _, _, ⟨v', e1, r1⟩, _⟩, _, _⟩ := k.own
    cases e1
    exact r1.1
  obtain ⟨G', k1⟩ := h _ _ _ _ _ _ k
  exact ⟨G', k1.re fun ps r => ⟨hw, r⟩⟩
section
variable {X : Cx} {T : XT} {W : WX} {Γx Γ : Ctx} {K : PySem.W.Frag}
theorem EX.icyM {e : Expr} {te : TE} {α : Type} {m : Res α} {R R' : α → Sl} {Γo : α → Ctx} (h : EX X T W Γx Γ e te m R Γo) (hi : ∀ a, Icy (R a) (R' a)) : EX X T W Γx Γ e te m R' Γo := h.icyX hi
/-- a copy of what is frozen at a known place -/
theorem ex_varP (i : Nat) {x : Str} {pos : Pos} {q : Addr} {α : Type} {c : Cod α} {a : α} (h : Γ[i]? = some (some (atP q (fz c a))) := by rfl) (hN : X.N[i]? = some x := by rfl) (hv : Vis X.env.scope x := by first | exact Or.inl rfl | exact Or.inr (Or.inl rfl) | exact Or.inr (Or.inr rfl)) (hd : (x == ("__debug__" : Str)) = false := by decide) (hcd : (x == ("__classdict__" : Str)) = false := by decide) :
    EX X T W Γx Γ (.Name x pos) (tVar i) (Res.ok ()) (fun _ => fz c a) (fun _ => Γ) := by
  refine ⟨pv i hN hv hd hcd, fun Z G0 S σ G H Q k q' => ?_⟩
  obtain ⟨v, l, hw, k1, back⟩ := k.take h
  have hr : c.rel G v a := by
    obtain ⟨ps, ⟨q1, _, _, ⟨v', e1, r1⟩, _⟩, _, _⟩ := k1.own
    cases e1
    exact r1.2.1
  exact ⟨v, hw, q' v G H (k.pushf hr)⟩
/-- an object is closed, its place known -/
theorem SX.cloP {sts : List Stmt} {ts : TS} {α : Type} {m : Res α} {I : α → Out} {C p dx : Addr} {fs : List (Str × V)} {l : FsS} (i : Nat) (h : Γ[i]? = some (some (oobV C p dx fs l))) (hs : SX X T W Γx (Γ.set i (some (atP p (oob C l)))) sts ts m I) : SX X T W Γx Γ sts ts m I :=
  ⟨hs.ps, fun Z G0 S σ G H D k q => by
    obtain ⟨v, M, hw, k1, back⟩ := k.take h
    exact hs.ev Z G0 S σ G H D (back _ _ _ (k1.re fun ps r => ⟨r.1, p, dx, fs, r⟩)) q⟩
end
end Rt
/-! Rt101: owned lists of owned lists: x.append(e) for a new list e, also while a row of x is at hand that goes back with it; x.pop(). -/
namespace Rt
open PySem L2 R
section
variable {X : Cx} {T : XT} {W : WX} {Γx Γ : Ctx} {K : PySem.W.Frag} {β : Type}
theorem lput_len {α : Type _} {xs : List α} {k : Int} {a : α} : (lput xs k a).length = xs.length := by
  unfold lput
  cases R.ixN xs.length k with
  | none => rfl
  | some j => exact List.length_set
/-- the row goes back, and one more list stands behind -/
theorem wk_rowLA {n jj : Nat} {c : Cod β} {xs : List (List β)} {ys : List β} {k : Int} {r : List β} {p : Addr} (h1 : Γ[n]? = some (some (ols (lput (xs.map (ol c)) k (hole (.ref p)) ++ [ol c ys])))) (h2 : Γ[jj]? = some (some (atP p (ol c r)))) (hne : ¬ n = jj) : Wk Γ ((Γ.set jj none).set n (some (oll c (lput xs k r ++ [ys])))) := by
  cases e : R.ixN xs.length k with
  | none =>
    have e1 : lput xs k r = xs := by unfold lput; rw [e]
    have e2 : lput (xs.map (ol c)) k (hole (.ref p)) = xs.map (ol c) := by unfold lput; rw [List.length_map, e]
    have e0 : R.ixN (xs ++ [ys]).length ((xs ++ [ys]).length : Int) = none := by
      unfold R.ixN
      rw [if_pos (by omega), if_neg (by omega)]
    have e3 : lput (xs ++ [ys]) ((xs ++ [ys]).length : Int) r = xs ++ [ys] := by unfold lput; rw [e0]
    have e4 : lput ((xs ++ [ys]).map (ol c)) ((xs ++ [ys]).length : Int) (hole (.ref p)) = (xs ++ [ys]).map (ol c) := by unfold lput; rw [List.length_map, e0]
    rw [e2] at h1
    rw [e1]
    have z := wk_rowL (n := n) (jj := jj) (c := c) (xs := xs ++ [ys]) (k := ((xs ++ [ys]).length : Int)) (r := r) (p := p) (by rw [e4, List.map_append]; exact h1) h2 hne
    rw [e3] at z
    exact z
  | some j =>
    have hj : j < xs.length := (ixN_seq (ixN_lt e)).2.1
    have e0 : R.ixN (xs ++ [ys]).length (j : Int) = some j := by
      unfold R.ixN
      rw [if_pos (by omega), if_pos (by rw [List.length_append]; omega), Int.toNat_natCast]
    have e1 : lput xs k r = xs.set j r := lput_at e
    have e2 : lput (xs.map (ol c)) k (hole (.ref p)) = (xs.map (ol c)).set j (hole (.ref p)) := lput_at (by rw [List.length_map]; exact e)
    have e3 : lput (xs ++ [ys]) (j : Int) r = xs.set j r ++ [ys] := by rw [lput_at e0, List.set_append_left _ _ hj]
    have e4 : lput ((xs ++ [ys]).map (ol c)) (j : Int) (hole (.ref p)) = (xs.map (ol c)).set j (hole (.ref p)) ++ [ol c ys] := by
      rw [lput_at (by rw [List.length_map]; exact e0), List.map_append, List.set_append_left _ _ (by rw [List.length_map]; exact hj)]
      rfl
    rw [e2] at h1
    rw [e1]
    have z := wk_rowL (n := n) (jj := jj) (c := c) (xs := xs ++ [ys]) (k := (j : Int)) (r := r) (p := p) (by rw [e4]; exact h1) h2 hne
    rw [e3] at z
    exact z
/-- x.append(e), e a new list -/
theorem s1_pushG {i : Nat} {l : List Sl} {x : Str} {e : Expr} {te : TE} {p1 p2 p3 pos : Pos} {α γ : Type} {c : Cod γ} {m1 : Res α} {Rm : α → Sl} {Γo : α → Ctx} {a : α → List γ} {xs : List (List γ)} {Γ' : List (List γ) → Ctx} {mn : Res (List (List γ))} (he : EX X T W Γx Γ e te m1 Rm Γo) (hl : l.length = xs.length) (hW : ∀ ys, Wk (Γ.set i (some (ols (l ++ [ol c ys])))) (Γ' (xs ++ [ys]))) (hR : ∀ t, Rm t = ol c (a t) := by exact fun _ => rfl) (hΓo : ∀ t, Γo t = Γ := by exact fun _ => rfl)
    (h : Γ[i]? = some (some (ols l)) := by rfl) (hN : X.N[i]? = some x := by rfl) (hv : Vis X.env.scope x := by first | exact Or.inl rfl | exact Or.inr (Or.inl rfl) | exact Or.inr (Or.inr rfl)) (hb : Bd mn (m1.bind fun t => (R.push xs (a t)).bind fun ys => .ok (t, ys)) (fun t => .ok t.2) := by intros; repeat (first | ((with_reducible refine Bd.done ?_); exact rfl) | with_reducible refine Bd.okl ?_ | with_reducible refine Bd.assoc ?_ | with_reducible refine Bd.bind fun _ => ?_ | with_reducible refine Bd.eta fun _ => ?_ | with_reducible refine Bd.iteB ?_ ?_ fun _ => ?_ | with_reducible refine Bd.iteE ?_ ?_ fun _ => ?_ | with_reducible refine Bd.ite ?_ ?_ | with_reducible refine Bd.iteL ?_ ?_ | with_reducible refine Bd.assocL ?_ | with_reducible refine Bd.oklL ?_ | with_reducible exact Bd.same | with_reducible exact Bd.at | dsimp only))
    (hK : X.K = K := by rfl) (hd : (x == ("__debug__" : Str)) = false := by decide) (hcd : (x == ("__classdict__" : Str)) = false := by decide)
    (hpe : ∀ {to : TE} {ta : TA}, PE X (.Name x p1) to → PA X [e] ta → PE X (.Call (.Attribute (.Name x p1) "append" p2) [e] [] p3) (tBM X.K "list" rAppend to ta) := by exact fun h1 h2 => pe_bm PySem.F.plainAttrs_list PySem.F.slot_list_append PySem.F.type_list_append mt_append h1 h2)
    (hst : starEach (e :: []) X.env = (false, eval e X.env) :: starEach [] X.env := by rfl) (hs : swapsWith (.Call (.Attribute (.Name x p1) "append" p2) [e] [] p3) none pos.line X.env = pure false := by rfl) :
    S1 X T W Γx Γ (.Expr (.Call (.Attribute (.Name x p1) "append" p2) [e] [] p3) pos) (tDrop (tBM K "list" rAppend (tVar i) (tCons te tNil))) mn (fun zs => .nx (Γ' zs)) := by
  subst hK
  obtain rfl : Rm = fun t => ol c (a t) := funext hR
  obtain rfl : Γo = fun _ => Γ := funext hΓo
  refine ⟨ps_expr (hpe (pv i hN hv hd hcd) (pa_cons he.pe pa_nil hst)) hs, fun Z G0 S σ G H D k q => ?_⟩
  obtain ⟨v, _, hw, k1, _⟩ := k.take h
  obtain ⟨p, vs0, rfl, h3, _, _⟩ := Okl.lopen k1
  refine ⟨.ref p, hw, .inl ⟨rfl, _, SqL.of h3⟩, ?_⟩
  refine he.ev Z G0 S σ G H _ k (Res.wp_mono (Res.wp_bind (hb _ _ q)) (fun t q y G' H' k' => ?_) fun ex q cls d G' H' k' => q cls d σ G' H' k')
  obtain ⟨us, e2, q3⟩ := wp_cases (Res.wp_bind q) (chk_ne ok_ne)
  obtain ⟨e3, e4⟩ := chk_ok e2
  cases e4
  obtain ⟨v', M, hw', k2, back, _⟩ := Okc.takeS (L := [(some (ol c (a t)), some y)]) (S := S) k' h
  rw [hw] at hw'
  cases hw'
  have k3 : Okl Z G0 ((some (ol c (a t)), some y) :: (some (ols l), some (.ref p)) :: M) G' H' := (show Okl Z G0 ((some (ols l), some (.ref p)) :: (some (ol c (a t)), some y) :: M) G' H' from k2).perm (List.Perm.swap _ _ _)
  obtain ⟨ws, hp, hlen, k4⟩ := Okl.growO k3
  refine ⟨p, ws, y, rfl, rfl, hp, ?_, q3 σ _ _ (hW _ _ _ _ _ _ _ (back Z G0 (ols (l ++ [ol c (a t)])) [] _ _ k4))⟩
  rw [hlen, hl, ← line_eq]
  exact of_decide_eq_true e3
/-- .. no row is at hand -/
theorem s1_pushN {i : Nat} {x : Str} {e : Expr} {te : TE} {p1 p2 p3 pos : Pos} {α γ : Type} {c : Cod γ} {m1 : Res α} {Rm : α → Sl} {Γo : α → Ctx} {a : α → List γ} {xs : List (List γ)} {mn : Res (List (List γ))} (he : EX X T W Γx Γ e te m1 Rm Γo) (hR : ∀ t, Rm t = ol c (a t) := by exact fun _ => rfl) (hΓo : ∀ t, Γo t = Γ := by exact fun _ => rfl)
    (h : Γ[i]? = some (some (oll c xs)) := by rfl) (hN : X.N[i]? = some x := by rfl) (hv : Vis X.env.scope x := by first | exact Or.inl rfl | exact Or.inr (Or.inl rfl) | exact Or.inr (Or.inr rfl)) (hb : Bd mn (m1.bind fun t => (R.push xs (a t)).bind fun ys => .ok (t, ys)) (fun t => .ok t.2) := by intros; repeat (first | ((with_reducible refine Bd.done ?_); exact rfl) | with_reducible refine Bd.okl ?_ | with_reducible refine Bd.assoc ?_ | with_reducible refine Bd.bind fun _ => ?_ | with_reducible refine Bd.eta fun _ => ?_ | with_reducible refine Bd.iteB ?_ ?_ fun _ => ?_ | with_reducible refine Bd.iteE ?_ ?_ fun _ => ?_ | with_reducible refine Bd.ite ?_ ?_ | with_reducible refine Bd.iteL ?_ ?_ | with_reducible refine Bd.assocL ?_ | with_reducible refine Bd.oklL ?_ | with_reducible exact Bd.same | with_reducible exact Bd.at | dsimp only))
    (hK : X.K = K := by rfl) (hd : (x == ("__debug__" : Str)) = false := by decide) (hcd : (x == ("__classdict__" : Str)) = false := by decide)
    (hpe : ∀ {to : TE} {ta : TA}, PE X (.Name x p1) to → PA X [e] ta → PE X (.Call (.Attribute (.Name x p1) "append" p2) [e] [] p3) (tBM X.K "list" rAppend to ta) := by exact fun h1 h2 => pe_bm PySem.F.plainAttrs_list PySem.F.slot_list_append PySem.F.type_list_append mt_append h1 h2)
    (hst : starEach (e :: []) X.env = (false, eval e X.env) :: starEach [] X.env := by rfl) (hs : swapsWith (.Call (.Attribute (.Name x p1) "append" p2) [e] [] p3) none pos.line X.env = pure false := by rfl) :
    S1 X T W Γx Γ (.Expr (.Call (.Attribute (.Name x p1) "append" p2) [e] [] p3) pos) (tDrop (tBM K "list" rAppend (tVar i) (tCons te tNil))) mn (fun zs => .nx (Γ.set i (some (oll c zs)))) :=
  s1_pushG (l := xs.map (ol c)) (Γ' := fun zs => Γ.set i (some (oll c zs))) he (List.length_map _) (fun ys => by
    show Wk _ (Γ.set i (some (ols ((xs ++ [ys]).map (ol c)))))
    rw [List.map_append]
    exact Wk.refl _) hR hΓo h hN hv hb hK hd hcd hpe hst hs
/-- .. a row of x is at hand, and goes back -/
theorem s1_pushB {i jj : Nat} {x : Str} {e : Expr} {te : TE} {p1 p2 p3 pos : Pos} {α γ : Type} {c : Cod γ} {k : Int} {p : Addr} {r : List γ} {m1 : Res α} {Rm : α → Sl} {Γo : α → Ctx} {a : α → List γ} {xs : List (List γ)} {mn : Res (List (List γ))} (he : EX X T W Γx Γ e te m1 Rm Γo) (hR : ∀ t, Rm t = ol c (a t) := by exact fun _ => rfl) (hΓo : ∀ t, Γo t = Γ := by exact fun _ => rfl)
    (h : Γ[i]? = some (some (ols (lput (xs.map (ol c)) k (hole (.ref p))))) := by rfl) (hj : Γ[jj]? = some (some (atP p (ol c r))) := by rfl) (hne : ¬ i = jj := by decide) (hN : X.N[i]? = some x := by rfl) (hv : Vis X.env.scope x := by first | exact Or.inl rfl | exact Or.inr (Or.inl rfl) | exact Or.inr (Or.inr rfl)) (hb : Bd mn (m1.bind fun t => (R.push (lput xs k r) (a t)).bind fun ys => .ok (t, ys)) (fun t => .ok t.2) := by intros; repeat (first | ((with_reducible refine Bd.done ?_); exact rfl) | with_reducible refine Bd.okl ?_ | with_reducible refine Bd.assoc ?_ | with_reducible refine Bd.bind fun _ => ?_ | with_reducible refine Bd.eta fun _ => ?_ | with_reducible refine Bd.iteB ?_ ?_ fun _ => ?_ | with_reducible refine Bd.iteE ?_ ?_ fun _ => ?_ | with_reducible refine Bd.ite ?_ ?_ | with_reducible refine Bd.iteL ?_ ?_ | with_reducible refine Bd.assocL ?_ | with_reducible refine Bd.oklL ?_ | with_reducible exact Bd.same | with_reducible exact Bd.at | dsimp only))
    (hK : X.K = K := by rfl) (hd : (x == ("__debug__" : Str)) = false := by decide) (hcd : (x == ("__classdict__" : Str)) = false := by decide)
    (hpe : ∀ {to : TE} {ta : TA}, PE X (.Name x p1) to → PA X [e] ta → PE X (.Call (.Attribute (.Name x p1) "append" p2) [e] [] p3) (tBM X.K "list" rAppend to ta) := by exact fun h1 h2 => pe_bm PySem.F.plainAttrs_list PySem.F.slot_list_append PySem.F.type_list_append mt_append h1 h2)
    (hst : starEach (e :: []) X.env = (false, eval e X.env) :: starEach [] X.env := by rfl) (hs : swapsWith (.Call (.Attribute (.Name x p1) "append" p2) [e] [] p3) none pos.line X.env = pure false := by rfl) :
    S1 X T W Γx Γ (.Expr (.Call (.Attribute (.Name x p1) "append" p2) [e] [] p3) pos) (tDrop (tBM K "list" rAppend (tVar i) (tCons te tNil))) mn (fun zs => .nx ((Γ.set jj none).set i (some (oll c zs)))) :=
  s1_pushG (l := lput (xs.map (ol c)) k (hole (.ref p))) (xs := lput xs k r) (Γ' := fun zs => (Γ.set jj none).set i (some (oll c zs))) he (by rw [lput_len, lput_len, List.length_map]) (fun ys => by
    have hi := (List.getElem?_eq_some_iff.mp h).1
    have z := wk_rowLA (Γ := Γ.set i (some (ols (lput (xs.map (ol c)) k (hole (.ref p)) ++ [ol c ys])))) (n := i) (jj := jj) (c := c) (xs := xs) (ys := ys) (k := k) (r := r) (p := p) (by rw [List.getElem?_set, if_pos rfl, if_pos hi]) (by rw [List.getElem?_set, if_neg hne]; exact hj) hne
    rw [List.set_comm _ _ hne, List.set_set] at z
    exact z) hR hΓo h hN hv hb hK hd hcd hpe hst hs
/-- x.pop(), x an owned list of owned lists -/
theorem ex_popLL (i : Nat) {γ : Type} {c : Cod γ} {xs : List (List γ)} {x : Str} {p1 p2 p3 : Pos} (h : Γ[i]? = some (some (oll c xs)) := by rfl) (hN : X.N[i]? = some x := by rfl) (hv : Vis X.env.scope x := by first | exact Or.inl rfl | exact Or.inr (Or.inl rfl) | exact Or.inr (Or.inr rfl)) (hd : (x == ("__debug__" : Str)) = false := by decide) (hcd : (x == ("__classdict__" : Str)) = false := by decide) (hK : X.K = K := by rfl)
    (hpe : ∀ {to : TE}, PE X (.Name x p1) to → PE X (.Call (.Attribute (.Name x p1) "pop" p2) [] [] p3) (tBM0 X.K "list" rPop to) := by exact fun h1 => pe_bm0 PySem.F.plainAttrs_list PySem.F.slot_list_pop PySem.F.type_list_pop mt_pop h1) :
    EX X T W Γx Γ (.Call (.Attribute (.Name x p1) "pop" p2) [] [] p3) (tBM0 K "list" rPop (tVar i)) (popL xs) (fun r => ol c r.1) (fun r => Γ.set i (some (oll c r.2))) := by
  subst hK
  refine ⟨hpe (pv i hN hv hd hcd), fun Z G0 S σ G H Q k q => ?_⟩
  obtain ⟨v, M, hw, k1, back, _⟩ := Okc.takeS (L := []) (S := S) k h
  obtain ⟨r, e, q2⟩ := wp_cases q popL_ne
  obtain rfl := popL_ok e
  have k1' : Okl Z G0 ((some (ols ((r.2 ++ [r.1]).map (ol c))), some v) :: M) G H := k1
  obtain ⟨p, vs, rfl, h3, hlen, k2⟩ := Okl.lopen k1'
  rw [List.length_map, List.length_append, List.length_singleton] at hlen
  obtain ⟨us, u, rfl⟩ : ∃ us u, vs = us ++ [u] := by
    rcases List.eq_nil_or_concat vs with rfl | ⟨us, u, rfl⟩
    · rw [List.length_nil] at hlen; omega
    · exact ⟨us, u, List.concat_eq_append⟩
  have hl : us.length = (r.2.map (ol c)).length := by rw [List.length_append, List.length_singleton] at hlen; rw [List.length_map]; omega
  refine ⟨.ref p, hw, .inl ⟨rfl, _, SqL.of h3⟩, p, _, u, rfl, rfl, h3, ?_, ?_⟩
  · rw [List.length_append, List.length_singleton, Nat.add_sub_cancel, List.getElem?_append_right (Nat.le_refl _), Nat.sub_self]
    rfl
  · rw [List.dropLast_concat]
    rw [List.map_append] at k2
    have k2' : Okl Z G0 (plz (r.2.map (ol c) ++ [ol c r.1]) (us ++ [u]) ++ (some (lSl (us ++ [u])), some (.ref p)) :: M) G H := k2
    rw [plz_snoc hl, List.append_assoc] at k2'
    have k3 : Okl Z G0 ((some (lSl (us ++ [u])), some (.ref p)) :: (plz (r.2.map (ol c)) us ++ ((some (ol c r.1), some u) :: M))) G H := k2'.perm ((List.Perm.append_left _ (List.Perm.swap _ _ _)).trans mid)
    have k4 := k3.write (p := p) (o := .lst us) (s' := lSl us) (v' := .ref p) (fun v ps e r => by
      obtain ⟨p', e1, e2, _⟩ := r
      cases e
      cases e1
      exact e2) ⟨p, rfl, rfl, upd_same⟩
    have k5 : Okl Z G0 ((some (oll c r.2), some (.ref p)) :: (some (ol c r.1), some u) :: M) G (upd H p (.lst us)) := Okl.lclose hl (k4.perm mid.symm)
    exact q2 u _ _ (back Z G0 (oll c r.2) [(some (ol c r.1), some u)] _ _ k5)
end
end Rt
/-! Rt102: lists that are lent to be changed: what is at a known place stays there. -/
namespace Rt
open PySem L2 R
section
variable {X : Cx} {T : XT} {W : WX} {Γx Γ : Ctx} {K : PySem.W.Frag} {β : Type}
theorem okc_unA {Z G0 G H : Hp} {S : List Pl} {σ : St} {i : Nat} {p : Addr} {s : Sl} (k : Okc Z G0 S Γ σ G H) (h : Γ[i]? = some (some (atP p s))) : Okc Z G0 S (Γ.set i (some s)) σ G H ∧ σ[i]? = some (some (.ref p)) := by
  obtain ⟨v, l, hw, k1, back⟩ := k.take h
  have hv : v = .ref p := by
    obtain ⟨ps, ⟨_, _, _, ⟨v', e, z, _⟩, _⟩, _, _⟩ := k1.own
    cases e
    exact z
  exact ⟨back _ _ _ (k1.re fun ps' r' => r'.2), by rw [hw, hv]⟩
theorem okc_reA {Z G0 G H : Hp} {S : List Pl} {σ : St} {i : Nat} {p : Addr} {s : Sl} (k : Okc Z G0 S Γ σ G H) (h : Γ[i]? = some (some s)) (hv : σ[i]? = some (some (.ref p))) : Okc Z G0 S (Γ.set i (some (atP p s))) σ G H := by
  obtain ⟨v, l, hw, k1, back⟩ := k.take h
  rw [hv] at hw
  cases hw
  exact back _ _ _ (k1.re fun ps' r' => ⟨rfl, r'⟩)
theorem ex_pinned {e : Expr} {te : TE} {α : Type} {m : Res α} {R : α → Sl} {Γo : α → Ctx} {p : Addr} {s : Sl} {s' : α → Sl} (i : Nat) (h : Γ[i]? = some (some (atP p s))) (hΓ : ∀ a, (Γo a)[i]? = some (some (s' a))) (he : EX X T W Γx (Γ.set i (some s)) e te m R Γo) : EX X T W Γx Γ e te m R (fun a => (Γo a).set i (some (atP p (s' a)))) :=
  ⟨he.pe, fun Z G0 S σ G H Q k q => by
    obtain ⟨k1, hv⟩ := okc_unA k h
    refine he.ev Z G0 S σ G H Q k1 (Res.wp_mono q (fun a q v G' H' k' => q v G' H' ?_) fun _ z => z)
    have k2 : Okc Z G0 ((some (R a), some v) :: S) (Γo a) σ G' H' := k'
    exact okc_reA k2 (hΓ a) hv⟩
theorem Wk.pinned {Δ : Ctx} {p : Addr} {s s' : Sl} (i : Nat) (h : Γ[i]? = some (some (atP p s))) (hd : Δ[i]? = some (some s')) (w : Wk (Γ.set i (some s)) Δ) : Wk Γ (Δ.set i (some (atP p s'))) := fun Z G0 S σ G H k => by
  obtain ⟨k1, hv⟩ := okc_unA k h
  exact okc_reA (w _ _ _ _ _ _ k1) hd hv
/-- x.append(e) as an expression -/
theorem ex_push {i : Nat} {x : Str} {e : Expr} {te : TE} {p1 p2 p3 : Pos} {α γ : Type} {c : Cod γ} {m1 : Res α} {Rm : α → Sl} {Γo : α → Ctx} {a : α → γ} {xs : List γ} {mn : Res (List γ)} (he : EX X T W Γx Γ e te m1 Rm Γo) (hR : ∀ t, Rm t = fz c (a t) := by exact fun _ => rfl) (hΓo : ∀ t, Γo t = Γ := by exact fun _ => rfl)
    (h : Γ[i]? = some (some (ol c xs)) := by rfl) (hN : X.N[i]? = some x := by rfl) (hv : Vis X.env.scope x := by first | exact Or.inl rfl | exact Or.inr (Or.inl rfl) | exact Or.inr (Or.inr rfl)) (hb : Bd mn (m1.bind fun t => (R.push xs (a t)).bind fun ys => .ok (t, ys)) (fun t => .ok t.2) := by intros; repeat (first | ((with_reducible refine Bd.done ?_); exact rfl) | with_reducible refine Bd.okl ?_ | with_reducible refine Bd.assoc ?_ | with_reducible refine Bd.bind fun _ => ?_ | with_reducible refine Bd.eta fun _ => ?_ | with_reducible refine Bd.iteB ?_ ?_ fun _ => ?_ | with_reducible refine Bd.iteE ?_ ?_ fun _ => ?_ | with_reducible refine Bd.ite ?_ ?_ | with_reducible refine Bd.iteL ?_ ?_ | with_reducible refine Bd.assocL ?_ | with_reducible refine Bd.oklL ?_ | with_reducible exact Bd.same | with_reducible exact Bd.at | dsimp only))
    (hK : X.K = K := by rfl) (hd : (x == ("__debug__" : Str)) = false := by decide) (hcd : (x == ("__classdict__" : Str)) = false := by decide)
    (hpe : ∀ {to : TE} {ta : TA}, PE X (.Name x p1) to → PA X [e] ta → PE X (.Call (.Attribute (.Name x p1) "append" p2) [e] [] p3) (tBM X.K "list" rAppend to ta) := by exact fun h1 h2 => pe_bm PySem.F.plainAttrs_list PySem.F.slot_list_append PySem.F.type_list_append mt_append h1 h2)
    (hst : starEach (e :: []) X.env = (false, eval e X.env) :: starEach [] X.env := by rfl) :
    EX X T W Γx Γ (.Call (.Attribute (.Name x p1) "append" p2) [e] [] p3) (tBM K "list" rAppend (tVar i) (tCons te tNil)) mn (fun _ => sN) (fun ys => Γ.set i (some (ol c ys))) := by
  subst hK
  obtain rfl : Rm = fun t => fz c (a t) := funext hR
  obtain rfl : Γo = fun _ => Γ := funext hΓo
  refine ⟨hpe (pv i hN hv hd hcd) (pa_cons he.pe pa_nil hst), fun Z G0 S σ G H Q k q => ?_⟩
  obtain ⟨v, l, hw, k1, _⟩ := k.take h
  obtain ⟨p, vs, rfl, h3, _, _⟩ := ol_own k1
  refine ⟨.ref p, hw, .inl ⟨rfl, _, SqL.of h3⟩, ?_⟩
  refine he.ev Z G0 S σ G H _ k (Res.wp_mono (Res.wp_bind (hb _ _ q)) (fun t q y G' H' k' => ?_) fun ex q => q)
  obtain ⟨us, e2, q3⟩ := wp_cases (Res.wp_bind q) (chk_ne ok_ne)
  obtain ⟨e3, e4⟩ := chk_ok e2
  cases e4
  have hr := k'.tp
  obtain ⟨v', l', hw', k2, back⟩ := k'.drop.take h
  rw [hw] at hw'
  cases hw'
  obtain ⟨p', vs', e5, h6, h7, h8⟩ := ol_own k2
  cases e5
  refine ⟨p, vs', y, rfl, rfl, h6, ?_, q3 .non _ _ ((back _ _ _ (h8 _ _ (Paired.snoc h7 hr))).pushf rfl)⟩
  rw [h7.length, ← line_eq]
  exact of_decide_eq_true e3
/-- x.append(e), e a new list -/
theorem ex_pushG {i : Nat} {l : List Sl} {x : Str} {e : Expr} {te : TE} {p1 p2 p3 : Pos} {α γ : Type} {c : Cod γ} {m1 : Res α} {Rm : α → Sl} {Γo : α → Ctx} {a : α → List γ} {xs : List (List γ)} {Γ' : List (List γ) → Ctx} {mn : Res (List (List γ))} (he : EX X T W Γx Γ e te m1 Rm Γo) (hl : l.length = xs.length) (hW : ∀ ys, Wk (Γ.set i (some (ols (l ++ [ol c ys])))) (Γ' (xs ++ [ys]))) (hR : ∀ t, Rm t = ol c (a t) := by exact fun _ => rfl) (hΓo : ∀ t, Γo t = Γ := by exact fun _ => rfl)
    (h : Γ[i]? = some (some (ols l)) := by rfl) (hN : X.N[i]? = some x := by rfl) (hv : Vis X.env.scope x := by first | exact Or.inl rfl | exact Or.inr (Or.inl rfl) | exact Or.inr (Or.inr rfl)) (hb : Bd mn (m1.bind fun t => (R.push xs (a t)).bind fun ys => .ok (t, ys)) (fun t => .ok t.2) := by intros; repeat (first | ((with_reducible refine Bd.done ?_); exact rfl) | with_reducible refine Bd.okl ?_ | with_reducible refine Bd.assoc ?_ | with_reducible refine Bd.bind fun _ => ?_ | with_reducible refine Bd.eta fun _ => ?_ | with_reducible refine Bd.iteB ?_ ?_ fun _ => ?_ | with_reducible refine Bd.iteE ?_ ?_ fun _ => ?_ | with_reducible refine Bd.ite ?_ ?_ | with_reducible refine Bd.iteL ?_ ?_ | with_reducible refine Bd.assocL ?_ | with_reducible refine Bd.oklL ?_ | with_reducible exact Bd.same | with_reducible exact Bd.at | dsimp only))
    (hK : X.K = K := by rfl) (hd : (x == ("__debug__" : Str)) = false := by decide) (hcd : (x == ("__classdict__" : Str)) = false := by decide)
    (hpe : ∀ {to : TE} {ta : TA}, PE X (.Name x p1) to → PA X [e] ta → PE X (.Call (.Attribute (.Name x p1) "append" p2) [e] [] p3) (tBM X.K "list" rAppend to ta) := by exact fun h1 h2 => pe_bm PySem.F.plainAttrs_list PySem.F.slot_list_append PySem.F.type_list_append mt_append h1 h2)
    (hst : starEach (e :: []) X.env = (false, eval e X.env) :: starEach [] X.env := by rfl) :
    EX X T W Γx Γ (.Call (.Attribute (.Name x p1) "append" p2) [e] [] p3) (tBM K "list" rAppend (tVar i) (tCons te tNil)) mn (fun _ => sN) (fun zs => Γ' zs) := by
  subst hK
  obtain rfl : Rm = fun t => ol c (a t) := funext hR
  obtain rfl : Γo = fun _ => Γ := funext hΓo
  refine ⟨hpe (pv i hN hv hd hcd) (pa_cons he.pe pa_nil hst), fun Z G0 S σ G H Q k q => ?_⟩
  obtain ⟨v, _, hw, k1, _⟩ := k.take h
  obtain ⟨p, vs0, rfl, h3, _, _⟩ := Okl.lopen k1
  refine ⟨.ref p, hw, .inl ⟨rfl, _, SqL.of h3⟩, ?_⟩
  refine he.ev Z G0 S σ G H _ k (Res.wp_mono (Res.wp_bind (hb _ _ q)) (fun t q y G' H' k' => ?_) fun ex q => q)
  obtain ⟨us, e2, q3⟩ := wp_cases (Res.wp_bind q) (chk_ne ok_ne)
  obtain ⟨e3, e4⟩ := chk_ok e2
  cases e4
  obtain ⟨v', M, hw', k2, back, _⟩ := Okc.takeS (L := [(some (ol c (a t)), some y)]) (S := S) k' h
  rw [hw] at hw'
  cases hw'
  have k3 : Okl Z G0 ((some (ol c (a t)), some y) :: (some (ols l), some (.ref p)) :: M) G' H' := (show Okl Z G0 ((some (ols l), some (.ref p)) :: (some (ol c (a t)), some y) :: M) G' H' from k2).perm (List.Perm.swap _ _ _)
  obtain ⟨ws, hp, hlen, k4⟩ := Okl.growO k3
  refine ⟨p, ws, y, rfl, rfl, hp, ?_, q3 .non _ _ ((hW _ _ _ _ _ _ _ (back Z G0 (ols (l ++ [ol c (a t)])) [] _ _ k4)).pushf rfl)⟩
  rw [hlen, hl, ← line_eq]
  exact of_decide_eq_true e3
/-- row = x[k], x at a known place -/
theorem sx_rowLP {D : Addr} {n jj : Nat} {x y : Str} {i : Expr} {ty : TE} {p1 p2 p3 pos : Pos} {c : Cod β} {xs : List (List β)} {α γ : Type} [Nonempty α] {m1 : Res α} {R1 : α → Sl} {Γ1 : α → Ctx} {a : α → Int} {mi : Res Int} {rest : List Stmt} {u : TS} {m2 : Int → List β → Res γ} {I : γ → Out}
    (hi : EX X T W Γx Γ i ty m1 R1 Γ1) (hrest : ∀ k r p, SX X T W Γx ((Γ.set n (some (atP D (ols (lput (xs.map (ol c)) k (hole (.ref p))))))).set jj (some (atP p (ol c r)))) rest u (m2 k r) I)
    (hNd : X.N.Nodup) (hj : X.N[jj]? = some y := by rfl) (hy : Loc X.env.scope y := by first | exact Or.inl rfl | exact Or.inr rfl) (hR : ∀ t, R1 t = sI (a t) := by exact fun _ => rfl) (hΓ : ∀ t, Γ1 t = Γ := by exact fun _ => rfl) (hpi : PlainIx i := by exact fun _ _ => rfl)
    (hb : Bd mi m1 (fun t => .ok (a t)) := by intros; repeat (first | ((with_reducible refine Bd.done ?_); exact rfl) | with_reducible refine Bd.okl ?_ | with_reducible refine Bd.assoc ?_ | with_reducible refine Bd.bind fun _ => ?_ | with_reducible refine Bd.eta fun _ => ?_ | with_reducible refine Bd.iteB ?_ ?_ fun _ => ?_ | with_reducible refine Bd.iteE ?_ ?_ fun _ => ?_ | with_reducible refine Bd.ite ?_ ?_ | with_reducible refine Bd.iteL ?_ ?_ | with_reducible refine Bd.assocL ?_ | with_reducible refine Bd.oklL ?_ | with_reducible exact Bd.same | with_reducible exact Bd.at | dsimp only))
    (h : Γ[n]? = some (some (atP D (oll c xs))) := by rfl) (hlj : Nat.ble (jj + 1) Γ.length = true := by rfl) (hN : X.N[n]? = some x := by rfl) (hv : Vis X.env.scope x := by first | exact Or.inl rfl | exact Or.inr (Or.inl rfl) | exact Or.inr (Or.inr rfl)) (hd : (x == ("__debug__" : Str)) = false := by decide) (hcd : (x == ("__classdict__" : Str)) = false := by decide)
    (hs : swapsWith (.Subscript (.Name x p1) i p2) (some (.Name y p3)) pos.line X.env = pure false := by rfl) (hf : X.fn y = true ∨ X.env.scope.names.lookup y = some .local := by first | exact .inl rfl | exact .inr rfl | assumption) (hK : X.K = K := by rfl) :
    SX X T W Γx Γ (.Assign [.Name y p3] (.Subscript (.Name x p1) i p2) pos :: rest) (tSeq (tAsg (tOp (rIxL K) (tVar n) ty) (gName jj)) u) (mi.bind fun k => (idx xs k).bind fun r => m2 k r) I := by
  subst hK
  obtain rfl : R1 = fun t => sI (a t) := funext hR
  obtain rfl : Γ1 = fun _ => Γ := funext hΓ
  refine ⟨pss_cons (ps_set hNd hj hy (pe_ix L2.ix_list (pv n hN hv hd hcd) hi.pe hpi) hs hf) (hrest 0 [] 0).ps, fun Z G0 S σ G H De k q => ?_⟩
  obtain ⟨w, _, hw, _, _⟩ := k.take h
  refine ⟨w, hw, ?_⟩
  refine hi.ev Z G0 S σ G H _ k (Res.wp_mono (hb _ _ (Res.wp_bind q)) (fun t q y G1 H1 k1 => ?_) fun ex q cls d G' H' k' => q cls d σ G' H' k')
  obtain ⟨r, e, q3⟩ := wp_cases (Res.wp_bind q) idx_ne
  have hy2 : y = .int (a t) := k1.tp
  obtain ⟨w', M, hw', k3, back, _⟩ := Okc.takeS (L := []) (S := S) k1.drop h
  rw [hw] at hw'
  cases hw'
  have k3a : Okl Z G0 ((some (atP D (oll c xs)), some w) :: M) G1 H1 := k3
  have hwD : w = .ref D := by
    obtain ⟨ps, ⟨_, _, _, ⟨v', e, z, _⟩, _⟩, _, _⟩ := k3a.own
    cases e
    exact z
  have k3' : Okl Z G0 ((some (oll c xs), some w) :: M) G1 H1 := k3a.re fun ps hh => hh.2
  obtain ⟨j, ej, er⟩ := atI_ix (idx_ok e)
  obtain ⟨p, vs, u', ew, hp, hlen, hval, k4⟩ := Okl.lfocus (i := j) (s := ol c r) k3' (by rw [List.getElem?_map, er]; rfl)
  rw [ew] at hwD
  cases hwD
  subst ew
  rw [List.length_map] at hlen
  obtain ⟨q', ws, rfl, _, _, _⟩ := ol_own k4
  have k5 := k4.re (s' := atP q' (ol c r)) fun ps hh => ⟨rfl, hh⟩
  refine ⟨D, vs, a t, .ref q', rfl, hy2, SqL.of hp, ?_, ?_⟩
  · unfold L2.atI
    rw [hlen, ixN_lt ej]
    exact hval
  · rw [← lput_at (xs := xs.map (ol c)) (k := a t) (by rw [List.length_map]; exact ej)] at k5
    have k5' : Okl Z G0 ((some (ols (lput (xs.map (ol c)) (a t) (hole (.ref q')))), some (.ref D)) :: (some (atP q' (ol c r)), some (.ref q')) :: M) G1 H1 := k5.perm (List.Perm.swap _ _ _)
    have k6 := back Z G0 (atP D (ols (lput (xs.map (ol c)) (a t) (hole (.ref q'))))) [(some (atP q' (ol c r)), some (.ref q'))] G1 H1 (k5'.re fun ps hh => ⟨rfl, hh⟩)
    exact (hrest (a t) r q').ev Z G0 S _ G1 H1 De (k6.store (by rw [List.length_set]; exact Nat.le_of_ble_eq_true hlj)) q3

/-- the row goes back, x at a known place -/
theorem wk_rowLP {n jj : Nat} {D : Addr} {c : Cod β} {xs : List (List β)} {k : Int} {r : List β} {p : Addr} (h1 : Γ[n]? = some (some (atP D (ols (lput (xs.map (ol c)) k (hole (.ref p))))))) (h2 : Γ[jj]? = some (some (atP p (ol c r)))) (hne : ¬ n = jj) : Wk Γ ((Γ.set jj none).set n (some (atP D (oll c (lput xs k r))))) := by
  have hn := (List.getElem?_eq_some_iff.mp h1).1
  have z := Wk.pinned (Γ := Γ) (p := D) n h1 (Δ := ((Γ.set n (some (ols (lput (xs.map (ol c)) k (hole (.ref p)))))).set jj none).set n (some (oll c (lput xs k r)))) (s' := oll c (lput xs k r)) (by rw [List.getElem?_set, if_pos rfl, if_pos (by rw [List.length_set, List.length_set]; exact hn)]) (wk_rowL (by rw [List.getElem?_set, if_pos rfl, if_pos hn]) (by rw [List.getElem?_set, if_neg hne]; exact h2) hne)
  rw [List.set_set, List.set_comm _ _ hne, List.set_set] at z
  exact z
theorem SX.pinLL {c : Cod β} {xs : List (List β)} {sts : List Stmt} {ts : TS} {α : Type} {m : Res α} {I : α → Out} (i : Nat) (h : Γ[i]? = some (some (oll c xs))) (hs : ∀ p, SX X T W Γx (Γ.set i (some (atP p (oll c xs)))) sts ts m I) : SX X T W Γx Γ sts ts m I :=
  ⟨(hs 0).ps, fun Z G0 S σ G H D k q => by
    obtain ⟨v, l, hw, k1, back⟩ := k.take h
    obtain ⟨p, vs, e, _⟩ := Okl.lopen k1
    subst e
    exact (hs p).ev Z G0 S σ G H D (back _ _ _ (k1.re fun ps' r' => ⟨rfl, r'⟩)) q⟩
end
end Rt
/-! Rt103: while, the test changes something; a field of a new object; the place of what is lent. -/
namespace Rt
open PySem L2 R
section
variable {X : Cx} {T : XT} {W : WX} {Γx Γ : Ctx} {K : PySem.W.Frag}
theorem s1_whileE {c : Expr} {body : List Stmt} {pos : Pos} {tc : TT} {tb : TS} {S' A : Type} [Nonempty S'] {Γn : S' → Ctx} {t : S' → Res (Bool × A)} {g : S' → A → S'} {f : S' → Res S'} {n : Nat} {s0 : S'}
    {Γt : S' → A → Ctx} (ht : ∀ s, ET X T W Γx (Γn s) c tc (t s) (fun r => r.1) (fun r => Γt s r.2)) (hΓt : ∀ s a, Wk (Γt s a) (Γn (g s a))) (hb : ∀ s, SX X T W Γx (Γn s) body tb (f s) (fun s' => .nx (Γn s'))) (h0 : Wk Γ (Γn s0))
    (hp : PassesOwn (model X.prog X.w) X.A X.env X.xe) : S1 X T W Γx Γ (.While c body [] pos) (tWhile tc tb) (R.whilE t g f n s0) (fun s => .nx (Γn s)) := by
  obtain ⟨c0⟩ := ‹Nonempty S'›
  refine ⟨ps_while hp (ht c0).pt (hb c0).ps, fun Z G0 S σ G H D k q => ?_⟩
  refine ⟨fun j σ H => ∃ s G, Okc Z G0 S (Γn s) σ G H ∧ (R.whilE t g f j s).wp (fun s => ∀ σ' G' H', Okc Z G0 S (Γn s) σ' G' H' → D.nx σ' H') (fun ex => ∀ cls d σ' G' H', Okc Z G0 S Γx σ' G' H' → T.rel ex cls d G' → W cls d σ' H'), ⟨n, s0, G, h0 _ _ _ _ _ _ k, q⟩, ?_⟩
  rintro j σ H ⟨s, G, k2, w⟩
  cases j with
  | zero => exact w.elim
  | succ j =>
    refine (ht s).ev Z G0 S σ G H _ k2 (Res.wp_mono (Res.wp_bind w) (fun r w' G' H' k3 => ?_) fun ex q cls d G' H' k' => q cls d σ G' H' k')
    obtain ⟨b, a⟩ := r
    have w2 : (if b = true then (f (g s a)).bind fun s' => R.whilE t g f j s' else Res.ok (g s a)).wp (fun s => ∀ σ' G' H', Okc Z G0 S (Γn s) σ' G' H' → D.nx σ' H') (fun ex => ∀ cls d σ' G' H', Okc Z G0 S Γx σ' G' H' → T.rel ex cls d G' → W cls d σ' H') := w'
    have k4 := hΓt s a _ _ _ _ _ _ k3
    cases b with
    | true =>
      simp only [if_true] at w2
      rw [if_pos rfl]
      exact ⟨_, fun σ' H' z => ⟨j, Nat.lt_succ_self j, z⟩, (hb (g s a)).ev Z G0 S σ G' H' _ k4 (Res.wp_mono (Res.wp_bind w2) (fun s' w3 σ4 G4 H4 k5 => ⟨s', G4, k5, w3⟩) fun _ z => z)⟩
    | false =>
      simp only [Bool.false_eq_true, if_false] at w2
      rw [if_neg Bool.false_ne_true]
      exact w2 σ G' H' k4
/-- a statement of which it is shown that it raises nothing -/
theorem S1.calm {st : Stmt} {ts : TS} {α : Type} {m : Res α} {I : α → Out} {Γe : Ctx} (h : S1 X T (fun _ _ _ _ => False) Γe Γ st ts m I) : S1 X T W Γx Γ st ts m.calm I :=
  ⟨h.ps, fun Z G0 S σ G H D k q => h.ev Z G0 S σ G H D k (Res.wp_mono (Res.wp_calm q) (fun _ z => z) fun _ z => z.elim)⟩
/-- whatever it is -/
def cAny : Cod Unit := ⟨fun _ _ _ => True, fun _ _ => trivial⟩
theorem ex_any (i : Nat) {x : Str} {p1 : Pos} {s : Sl} (h : Γ[i]? = some (some s) := by rfl) (hN : X.N[i]? = some x := by rfl) (hv : Vis X.env.scope x := by first | exact Or.inl rfl | exact Or.inr (Or.inl rfl) | exact Or.inr (Or.inr rfl)) (hd : (x == ("__debug__" : Str)) = false := by decide) (hcd : (x == ("__classdict__" : Str)) = false := by decide) : EX X T W Γx Γ (.Name x p1) (tVar i) (.ok ()) (fun _ => fz cAny ()) (fun _ => Γ) := by
  refine ⟨pv i hN hv hd hcd, fun Z G0 S σ G H Q k q => ?_⟩
  obtain ⟨v, _, hw, _, _⟩ := k.take h
  exact ⟨v, hw, q v G H (k.pushf trivial)⟩
theorem et_openP {e : Expr} {tt : TT} {α : Type} {m : Res α} {b : α → Bool} {Γo : α → Ctx} {C p : Addr} {l : FsS} (i : Nat) (h : Γ[i]? = some (some (atP p (oob C l)))) (hs : ∀ dx fs, ET X T W Γx (Γ.set i (some (oobV C p dx fs l))) e tt m b Γo) : ET X T W Γx Γ e tt m b Γo :=
  ⟨(hs 0 []).pt, fun Z G0 S σ G H Q k q => by
    obtain ⟨dx, fs, k1⟩ := okc_openP k h
    exact (hs dx fs).ev Z G0 S σ G H Q k1 q⟩
theorem ex_calm {e : Expr} {te : TE} {α : Type} {m : Res α} {R : α → Sl} {Γo : α → Ctx} {Γe : Ctx} (h : EX X T (fun _ _ _ _ => False) Γe Γ e te m R Γo) : EX X T W Γx Γ e te m.calm R Γo :=
  ⟨h.pe, fun Z G0 S σ G H Q k q => h.ev Z G0 S σ G H Q k (Res.wp_mono (Res.wp_calm q) (fun _ z => z) fun _ z => z.elim)⟩
end
end Rt
/-! Rt114: slices of lists with a step. -/
namespace Rt
open PySem PySem.Spec PyProof.Rows L2 R
def pickG {α : Type} (xs : List α) (lo hi st : Option Int) : List α := (sliceRange (sliceBounds lo hi st xs.length).1 (sliceBounds lo hi st xs.length).2.1 (sliceBounds lo hi st xs.length).2.2).filterMap (xs[·]?)
def rSlS (K : PySem.W.Frag) (x : V) (lo hi st : Option Int) (H : Hp) (Q : VK) : Prop := ∃ a xs, x = .ref a ∧ SqL K H a xs ∧ st ≠ some 0 ∧ (pickG xs lo hi st).length ≤ xs.length ∧ ∀ p, H p = none → Q (.ref p) (upd H p (.lst (pickG xs lo hi st)))
theorem vals_get {xs : List V} {its : List Value} (r : Paired RelV xs its) : ∀ i : Nat, (xs[i]? = none ∧ its[i]? = none) ∨ ∃ x v, xs[i]? = some x ∧ its[i]? = some v ∧ RelV x v := by
  induction r with
  | nil => exact fun i => .inl ⟨List.getElem?_nil, List.getElem?_nil⟩
  | cons h t ih =>
    intro i
    cases i with
    | zero => exact .inr ⟨_, _, rfl, rfl, h⟩
    | succ i =>
      rw [List.getElem?_cons_succ, List.getElem?_cons_succ]
      exact ih i
theorem vals_pick {xs : List V} {its : List Value} (r : Paired RelV xs its) : ∀ is : List Nat, Paired RelV (is.filterMap (xs[·]?)) (is.filterMap (its[·]?))
  | [] => .nil
  | i :: is => by
    have ih := vals_pick r is
    rcases vals_get r i with ⟨e1, e2⟩ | ⟨x, v, e1, e2, h⟩
    · rw [List.filterMap_cons, List.filterMap_cons, e1, e2]
      exact ih
    · rw [List.filterMap_cons, List.filterMap_cons, e1, e2]
      exact .cons h ih
theorem pe_sliceS {X : Cx} {e st : Expr} {lo hi : Option Expr} {te : TE} {tl th ts : TO} {p2 pos : Pos} (he : PE X e te) (hl : PO X lo tl) (hu : PO X hi th) (hs : PO X (some st) ts) : PE X (.Subscript e (.Slice lo hi (some st) p2) pos) (fun σ H Q => te σ H fun x H1 => tl σ H1 fun l H2 => th σ H2 fun u H3 => ts σ H3 fun z H4 => rSlS X.K x l u z H4 Q) := by
  refine ⟨fun pins s σ H Q I h => ?_⟩
  refine Subscript_ (thn (he.run pins s σ H _ I h) fun v s1 ⟨x, H1, I1, r1, q1⟩ => ?_)
  refine wpAny_Slice (thn (hl.run pins s1 σ H1 _ I1 q1) fun vl s2 ⟨l, H2, I2, pl, q2⟩ => thn (hu.run pins s2 σ H2 _ I2 q2) fun vu s3 ⟨u, H3, I3, pu, q3⟩ => thn (hs.run pins s3 σ H3 _ I3 q3) fun vs s4 ⟨z, H4, I4, ps, q4⟩ => ?_)
  have I5 : Inv X pins σ H4 { s4 with heap := s4.heap.push { cls := .type "slice", data := .fields #[vl, vu, vs] } } := I4.kept (t' := s4.toks) fun b ob q => Heap.get?_push_of_some _ q
  obtain ⟨a, xs, rfl, hx, h0, hsz, q⟩ := q4
  cases r1
  obtain ⟨its, r, ht, hz⟩ := I5.list hx
  have hlen := r.length
  have hS : Heap.IsSliceOf (s4.heap.push { cls := .type "slice", data := .fields #[vl, vu, vs] }) s4.heap.objs.size vl vu vs := Heap.IsSliceOf.new ..
  refine tail_any (ops := [.ref a, .ref s4.heap.objs.size]) ht.isList.typeIs slot_list_getitem.lookup ?_ (by with_unfolding_all rfl)
  refine wpAny_getItem_list_slice ht.isList hS pl pu ps h0 ?_ (by rw [List.size_toArray] <;> omega)
  refine ⟨.ref _, _, I5.laid (t' := s4.toks) (o := .lst (pickG xs l u z)) (fun b ob q => Heap.get?_push_of_some _ q) (Nat.le_refl _) ?_, rfl, q _ (I5.hok.fresh (Nat.le_refl _))⟩
  have e : slicePick its.toArray l u z = ((sliceRange (sliceBounds l u z xs.length).1 (sliceBounds l u z xs.length).2.1 (sliceBounds l u z xs.length).2.2).filterMap (its[·]?)).toArray := by
    unfold slicePick
    rw [List.size_toArray, ← hlen]
    refine congrArg List.toArray (congrArg (fun f => List.filterMap f _) (funext fun i => ?_))
    exact List.getElem?_toArray
  rw [e]
  exact ⟨Nat.le_trans hsz hz, _, 0, vals_pick r _, Heap.get?_push_size _ rfl⟩
section
variable {X : Cx} {T : XT} {W : WX} {Γx Γ : Ctx} {K : PySem.W.Frag}
theorem pick_pair {α : Type} {F : V → α → Prop} {vs : List V} {xs : List α} (h : Paired F vs xs) : ∀ is : List Nat, Paired F (is.filterMap (vs[·]?)) (is.filterMap (xs[·]?))
  | [] => .nil
  | i :: is => by
    have ih := pick_pair h is
    have g : ∀ {vs : List V} {xs : List α}, Paired F vs xs → ∀ i : Nat, (vs[i]? = none ∧ xs[i]? = none) ∨ ∃ x v, vs[i]? = some x ∧ xs[i]? = some v ∧ F x v := fun h => by
      induction h with
      | nil => exact fun i => .inl ⟨List.getElem?_nil, List.getElem?_nil⟩
      | cons h t ih =>
        intro i
        cases i with
        | zero => exact .inr ⟨_, _, rfl, rfl, h⟩
        | succ i =>
          rw [List.getElem?_cons_succ, List.getElem?_cons_succ]
          exact ih i
    rcases g h i with ⟨e1, e2⟩ | ⟨x, v, e1, e2, h⟩
    · rw [List.filterMap_cons, List.filterMap_cons, e1, e2]
      exact ih
    · rw [List.filterMap_cons, List.filterMap_cons, e1, e2]
      exact .cons h ih
/-- every k-th from a on -/
theorem pick_step {α : Type} (xs : List α) {a k : Int} (h0 : 0 ≤ a) (h1 : 0 < k) : pickG xs (some a) none (some k) = (List.range ((xs.length - a.toNat + k.toNat - 1) / k.toNat)).filterMap fun i => xs[a.toNat + k.toNat * i]? := by
  obtain ⟨a, rfl⟩ : ∃ n : Nat, a = (n : Int) := ⟨a.toNat, by omega⟩
  obtain ⟨k, rfl⟩ : ∃ n : Nat, k = (n : Int) := ⟨k.toNat, by omega⟩
  have hk : 0 < k := by omega
  have hb : sliceBounds (some (a : Int)) none (some (k : Int)) xs.length = (max 0 (min (a : Int) xs.length), (xs.length : Int), (k : Int)) := by
    unfold sliceBounds
    simp only [Option.getD_some]
    rw [if_neg (show ¬ ((a : Int) < 0) by omega), if_pos (show (k : Int) > 0 by omega), if_pos (show (k : Int) > 0 by omega)]
  unfold pickG
  rw [hb]
  unfold sliceRange
  dsimp only
  rw [if_pos (show (k : Int) > 0 by omega), Int.toNat_natCast, Int.toNat_natCast, List.filterMap_map]
  by_cases q : a < xs.length
  · have e1 : max 0 (min (a : Int) xs.length) = (a : Int) := by omega
    rw [e1, if_pos (by omega), show (xs.length : Int) - (a : Int) + (k : Int) - 1 = ((xs.length - a + k - 1 : Nat) : Int) by omega, show (((xs.length - a + k - 1 : Nat) : Int) / (k : Int)).toNat = (xs.length - a + k - 1) / k from rfl]
    rfl
  · have e1 : max 0 (min (a : Int) xs.length) = (xs.length : Int) := by omega
    rw [e1, if_neg (by omega), show (xs.length - a + k - 1) / k = 0 from Nat.div_eq_of_lt (by omega)]
    rfl
theorem pick_len {α : Type} (xs : List α) {a k : Int} (h0 : 0 ≤ a) (h1 : 0 < k) : (pickG xs (some a) none (some k)).length ≤ xs.length := by
  rw [pick_step xs h0 h1]
  refine Nat.le_trans (List.length_filterMap_le _ _) ?_
  rw [List.length_range]
  obtain ⟨m, em⟩ : ∃ m, m = xs.length - a.toNat := ⟨_, rfl⟩
  obtain ⟨k', ek⟩ : ∃ k', k.toNat = k' + 1 := ⟨k.toNat - 1, by omega⟩
  rw [← em, ek]
  have hm : m ≤ xs.length := by omega
  refine Nat.le_trans ?_ hm
  rcases m with _ | m
  · rw [Nat.div_eq_of_lt (by omega)]
    exact Nat.le_refl 0
  · refine Nat.div_le_of_le_mul ?_
    rw [Nat.mul_add, Nat.add_mul]
    omega
def tSlS (K : PySem.W.Frag) (te tl ts : TE) : TE := fun σ H Q => te σ H fun x H1 => tPart tl σ H1 fun l H2 => tNoPart σ H2 fun u H3 => tPart ts σ H3 fun z H4 => rSlS K x l u z H4 Q
theorem ex_sliceS {K0 : PySem.W.Frag} {e st lo : Expr} {te tl ts : TE} {p2 pos : Pos} {α β γ δ : Type} [Nonempty α] [Nonempty β] {c : Cod δ} {m1 : Res α} {xs : α → List δ} {Γ1 : α → Ctx} {m2 : α → Res β} {a : α → β → Int} {Γ2 : α → β → Ctx} {m3 : α → β → Res γ} {k : α → β → γ → Int} {Γ3 : α → β → γ → Ctx}
    (he : EX X T W Γx Γ e te m1 (fun x => fz (cList c) (xs x)) Γ1) (hl : ∀ x, EX X T W Γx (Γ1 x) lo tl (m2 x) (fun y => sI (a x y)) (Γ2 x)) (hs : ∀ x y, EX X T W Γx (Γ2 x y) st ts (m3 x y) (fun z => sI (k x y z)) (Γ3 x y)) (hK : X.K = K0 := by rfl) :
    EX X T W Γx Γ (.Subscript e (.Slice (some lo) none (some st) p2) pos) (tSlS K0 te tl ts)
      (m1.bind fun x => (m2 x).bind fun y => (m3 x y).bind fun z => (chk (decide (0 ≤ a x y) && decide (0 < k x y z)) (.ok ())).bind fun _ => .ok (x, y, z)) (fun t => ol c ((List.range (((xs t.1).length - (a t.1 t.2.1).toNat + (k t.1 t.2.1 t.2.2).toNat - 1) / (k t.1 t.2.1 t.2.2).toNat)).filterMap fun i => (xs t.1)[(a t.1 t.2.1).toNat + (k t.1 t.2.1 t.2.2).toNat * i]?)) (fun t => Γ3 t.1 t.2.1 t.2.2) := by
  subst hK
  obtain ⟨x⟩ := ‹Nonempty α›
  obtain ⟨y⟩ := ‹Nonempty β›
  refine ⟨pe_sliceS he.pe (po_some (hl x).pe) po_none (po_some (hs x y).pe), fun Z G0 S σ G H Q q0 q => he.ev Z G0 S σ G H _ q0 (Res.wp_mono (Res.wp_bind q) (fun x q v1 G1 H1 k1 => ?_) fun _ z => z)⟩
  refine (eo_some (hl x)).ev Z G0 _ σ G1 H1 _ k1 (Res.wp_mono (Res.wp_bind q) (fun y q G2 H2 k2 => ?_) fun ex q cls d G' H' k' => q cls d G' H' k'.drop)
  show tPart ts σ H2 fun z H4 => rSlS X.K v1 (some (a x y)) none z H4 Q
  refine (eo_some (hs x y)).ev Z G0 _ σ G2 H2 _ k2 (Res.wp_mono (Res.wp_bind q) (fun z q G3 H3 k3 => ?_) fun ex q cls d G' H' k' => q cls d G' H' k'.drop)
  by_cases g : 0 ≤ a x y ∧ 0 < k x y z
  · have q' : (∀ v G' H', Okc Z G0 ((some (ol c (pickG (xs x) (some (a x y)) none (some (k x y z)))), some v) :: S) (Γ3 x y z) σ G' H' → Q v H') := by
      have := q
      rw [decide_eq_true g.1, decide_eq_true g.2] at this
      rw [pick_step _ g.1 g.2]
      exact this
    obtain ⟨p, vs, rfl, hs', hp⟩ := k3.ok.rel1
    refine ⟨p, vs, rfl, cl_sq k3.ok.gh hs', fun z0 => by injection z0 with z0; omega, ?_, fun b hb => ?_⟩
    · exact pick_len vs g.1 g.2
    · refine q' _ _ _ ⟨k3.len, k3.ok.drop.layOwn (s := ol c (pickG (xs x) (some (a x y)) none (some (k x y z)))) hb ⟨b, _, rfl, rfl, upd_same, ?_⟩⟩
      unfold pickG
      rw [hp.length]
      exact pick_pair hp _
  · have : (chk (decide (0 ≤ a x y) && decide (0 < k x y z)) (.ok ()) : Res Unit) = .stuck := by
      by_cases g1 : 0 ≤ a x y
      · rw [decide_eq_true g1, decide_eq_false fun g2 => g ⟨g1, g2⟩]
        rfl
      · rw [decide_eq_false g1]
        rfl
    rw [this] at q
    exact q.elim
end
end Rt
/-! Rt120: for one expression owned things are taken as frozen (they are read only, and what comes out holds nothing of them). -/
namespace Rt
open PySem L2 R
/-- owns nothing -/
def Fzn (o : Option Sl) : Prop := ∀ G H w ps, plOk G H o w ps → ps = []
theorem fzn_none : Fzn none := fun _ _ _ _ h => h
theorem fzn_fz {α : Type} {c : Cod α} {a : α} : Fzn (some (fz c a)) := fun _ _ _ _ ⟨_, _, h⟩ => h.2
/-- holds whatever is frozen -/
def Gfr (s : Sl) : Prop := ∀ G G' H v ps, s.rel G H v ps → s.rel G' H v ps
theorem all_nilz {G H : Hp} : ∀ {l : List Pl} {ps : List Addr}, (∀ x ∈ l, Fzn x.1) → All G H l ps → ps = []
  | [], _, _, h => h
  | x :: l, _, hz, ⟨p1, p2, e, h1, h2⟩ => by
    have e1 := hz x List.mem_cons_self _ _ _ _ h1
    have e2 := all_nilz (fun y hy => hz y (List.mem_cons_of_mem _ hy)) h2
    rw [e, e1, e2]
    rfl
theorem all_gfr {G G' H : Hp} : ∀ {l : List Pl} {ps : List Addr}, (∀ x ∈ l, ∀ s, x.1 = some s → Gfr s) → All G H l ps → All G' H l ps
  | [], _, _, h => h
  | x :: l, _, hz, ⟨p1, p2, e, h1, h2⟩ => by
    refine ⟨p1, p2, e, ?_, all_gfr (fun y hy => hz y (List.mem_cons_of_mem _ hy)) h2⟩
    obtain ⟨o, w⟩ := x
    cases o with
    | none => exact h1
    | some s =>
      obtain ⟨v, e1, r⟩ := h1
      exact ⟨v, e1, hz _ List.mem_cons_self s rfl _ _ _ _ _ r⟩
section
variable {Z G0 G H : Hp} {A Az B C : List Pl}
theorem Okl.bor (k : Okl Z G0 (A ++ (B ++ C)) G H) (ha : ∀ Z G0 G H M, Okl Z G0 (A ++ M) G H → ∃ G', Okl Z G0 (Az ++ M) G' H) (hz : ∀ x ∈ Az, Fzn x.1) :
    ∃ Z' G1 : Hp, Okl Z' G1 (Az ++ C) G1 H ∧ ∀ (D : List Pl) (G2 H2 : Hp), (∀ x ∈ D, ∀ s, x.1 = some s → Gfr s) → Okl Z' G1 D G2 H2 → Okl Z G0 (D ++ (A ++ B)) G H2 := by
  obtain ⟨ps, hall, nd, h3⟩ := k.own
  obtain ⟨pa, pbc, rfl, aA, aBC⟩ := All.append.mp hall
  obtain ⟨pb, pc, rfl, aB, aC⟩ := All.append.mp aBC
  have nd1 := List.nodup_append.mp nd
  have nd2 := List.nodup_append.mp nd1.2.1
  have oA : ∀ p ∈ pa, Z p = none ∧ G p = none ∧ ∃ o, H p = some o := fun p hp => h3 p (List.mem_append_left _ hp)
  have oB : ∀ p ∈ pb, Z p = none ∧ G p = none ∧ ∃ o, H p = some o := fun p hp => h3 p (List.mem_append_right _ (List.mem_append_left _ hp))
  have oC : ∀ p ∈ pc, Z p = none ∧ G p = none ∧ ∃ o, H p = some o := fun p hp => h3 p (List.mem_append_right _ (List.mem_append_right _ hp))
  have nAC : ∀ p ∈ pa, p ∉ pc := fun p hp hq => nd1.2.2 p hp p (List.mem_append_right _ hq) rfl
  have nBC : ∀ p ∈ pb, p ∉ pc := fun p hp hq => nd2.2.2 p hp p hq rfl
  -- what is read is frozen by itself
  have kA : Okl (wo H pa) G (A ++ []) G H := ⟨wo_ex, Evl.Ex.refl G, k.gh, fun _ _ _ _ e => e, pa, by rw [List.append_nil]; exact aA, nd1.1, fun p hp => ⟨wo_in hp, (oA p hp).2⟩⟩
  obtain ⟨G1, k1⟩ := ha _ _ _ _ _ kA
  have gA : Ex G G1 := k1.gg
  have gC : ∀ p ∈ pc, G1 p = none := fun p hp => by
    cases e : G1 p with
    | none => rfl
    | some u =>
      obtain ⟨_, g, o, ho⟩ := oC p hp
      have z := k1.fr p o u (by rw [wo_out (fun hq => nAC p hq hp)]; exact ho) e
      rw [g] at z
      cases z
  obtain ⟨pz, az, _, _⟩ := k1.own
  rw [List.append_nil] at az
  obtain rfl := all_nilz hz az
  refine ⟨wo H pc, G1, ⟨wo_ex, Evl.Ex.refl G1, k1.gh, fun _ _ _ _ e => e, pc, All.append.mpr ⟨[], pc, rfl, az, aC.mono gA fun _ _ => rfl⟩, nd2.2.1, fun p hp => ⟨wo_in hp, gC p hp, (oC p hp).2.2⟩⟩, fun D G2 H2 hD j => ?_⟩
  have keep : ∀ q o, q ∉ pc → H q = some o → H2 q = some o := fun q o hq ho => j.zh q o (by rw [wo_out hq]; exact ho)
  obtain ⟨pd, aD, ndD, oD⟩ := j.own
  have out : ∀ p ∈ pd, ∀ o, H p = some o → p ∈ pc := fun p hp o ho => by
    by_cases q : p ∈ pc
    · exact q
    · have z := (oD p hp).1
      rw [wo_out q, ho] at z
      cases z
  refine ⟨fun q o e => keep q o (fun hq => ?_) (k.zh q o e), k.gg, fun q o e => keep q o (fun hq => ?_) (k.gh q o e), k.fr, pd ++ (pa ++ pb), ?_, ?_, fun p hp => ?_⟩
  · have z := (oC q hq).1
    rw [e] at z
    cases z
  · have z := (oC q hq).2.1
    rw [e] at z
    cases z
  · refine All.append.mpr ⟨pd, pa ++ pb, rfl, all_gfr hD aD, All.append.mpr ⟨pa, pb, rfl, aA.mono (Evl.Ex.refl G) fun p hp => ?_, aB.mono (Evl.Ex.refl G) fun p hp => ?_⟩⟩
    · obtain ⟨_, _, o, ho⟩ := oA p hp
      rw [keep p o (nAC p hp) ho, ho]
    · obtain ⟨_, _, o, ho⟩ := oB p hp
      rw [keep p o (nBC p hp) ho, ho]
  · refine List.nodup_append.mpr ⟨ndD, List.nodup_append.mpr ⟨nd1.1, nd2.1, fun x hx y hy => nd1.2.2 x hx y (List.mem_append_left _ hy)⟩, fun x hx y hy e => ?_⟩
    subst e
    rcases List.mem_append.mp hy with hy | hy
    · obtain ⟨_, _, o, ho⟩ := oA x hy
      exact nAC x hy (out x hx o ho)
    · obtain ⟨_, _, o, ho⟩ := oB x hy
      exact nBC x hy (out x hx o ho)
  · rcases List.mem_append.mp hp with hp | hp
    · refine ⟨?_, ?_, (oD p hp).2.2⟩
      · cases e : Z p with
        | none => rfl
        | some o =>
          have z := (oC p (out p hp o (k.zh p o e))).1
          rw [e] at z
          cases z
      · cases e : G p with
        | none => rfl
        | some o =>
          have z := (oC p (out p hp o (k.gh p o e))).2.1
          rw [e] at z
          cases z
    · rcases List.mem_append.mp hp with hp | hp
      · obtain ⟨z1, z2, o, ho⟩ := oA p hp
        exact ⟨z1, z2, o, keep p o (nAC p hp) ho⟩
      · obtain ⟨z1, z2, o, ho⟩ := oB p hp
        exact ⟨z1, z2, o, keep p o (nBC p hp) ho⟩
end
/-- what becomes of the context: as it is, as it is read, behind it, as it is read behind it -/
inductive BR : Ctx → Ctx → Ctx → Ctx → Prop where
  | nil : BR [] [] [] []
  | keep {o : Option Sl} {a b c d : Ctx} : Fzn o → BR a b c d → BR (o :: a) (o :: b) (o :: c) (o :: d)
  | ice {s z : Sl} {a b c d : Ctx} : Icy s z → Fzn (some z) → BR a b c d → BR (some s :: a) (some z :: b) (some s :: c) (some z :: d)
  | out {o : Option Sl} {a b c d : Ctx} : BR a b c d → BR (o :: a) (none :: b) (o :: c) (none :: d)
  | chg {s s' : Sl} {a b c d : Ctx} : Gfr s' → BR a b c d → BR (some s :: a) (some s :: b) (some s' :: c) (some s' :: d)
theorem okl_none {Z G0 G H : Hp} {l : List Pl} {w : Option V} (k : Okl Z G0 l G H) : Okl Z G0 ((none, w) :: l) G H := by
  obtain ⟨ps, h1, h2, h3⟩ := k.own
  exact ⟨k.zh, k.gg, k.gh, k.fr, ps, ⟨[], ps, rfl, rfl, h1⟩, h2, h3⟩
theorem BR.split {a b c d : Ctx} (h : BR a b c d) : ∀ σ : St, a.length = σ.length → ∃ A Az B C C' : List Pl,
    (a.zip σ).Perm (A ++ (B ++ C)) ∧ (b.zip σ).Perm (Az ++ C) ∧ (c.zip σ).Perm (A ++ (B ++ C')) ∧ (d.zip σ).Perm (Az ++ C') ∧ b.length = σ.length ∧ c.length = σ.length
      ∧ (∀ Z G0 G H M, Okl Z G0 (A ++ M) G H → ∃ G', Okl Z G0 (Az ++ M) G' H) ∧ (∀ x ∈ Az, Fzn x.1) ∧ (∀ x ∈ C', ∀ s, x.1 = some s → Gfr s) := by
  induction h with
  | nil => exact fun σ _ => ⟨[], [], [], [], [], .refl _, .refl _, .refl _, .refl _, by assumption, by assumption, fun _ _ G _ _ k => ⟨G, k⟩, fun _ h => by (cases h), fun _ h => by (cases h)⟩
  | @keep o a b c d hf _ ih =>
    intro σ hl
    cases σ with
    | nil => exact absurd hl (by simp)
    | cons w σ =>
      obtain ⟨A, Az, B, C, C', h1, h2, h3, h4, l1, l2, h5, h6, h7⟩ := ih σ (Nat.succ.inj hl)
      refine ⟨(o, w) :: A, (o, w) :: Az, B, C, C', h1.cons _, h2.cons _, h3.cons _, h4.cons _, congrArg Nat.succ l1, congrArg Nat.succ l2, fun Z G0 G H M k => ?_, fun x hx => ?_, h7⟩
      · have k1 : Okl Z G0 (A ++ ((o, w) :: M)) G H := k.perm mid.symm
        obtain ⟨G', k2⟩ := h5 _ _ _ _ _ k1
        exact ⟨G', k2.perm mid⟩
      · rcases List.mem_cons.mp hx with rfl | hx
        · exact hf
        · exact h6 x hx
  | @ice s z a b c d hi hf _ ih =>
    intro σ hl
    cases σ with
    | nil => exact absurd hl (by simp)
    | cons w σ =>
      obtain ⟨A, Az, B, C, C', h1, h2, h3, h4, l1, l2, h5, h6, h7⟩ := ih σ (Nat.succ.inj hl)
      refine ⟨(some s, w) :: A, (some z, w) :: Az, B, C, C', h1.cons _, h2.cons _, h3.cons _, h4.cons _, congrArg Nat.succ l1, congrArg Nat.succ l2, fun Z G0 G H M k => ?_, fun x hx => ?_, h7⟩
      · have hw : ∃ v, w = some v := by
          obtain ⟨ps, ⟨p1, p2, _, ⟨v, e, _⟩, _⟩, _⟩ := k.own
          exact ⟨v, e⟩
        obtain ⟨v, rfl⟩ := hw
        obtain ⟨Ga, ka⟩ := hi _ _ _ _ _ _ k
        have k1 : Okl Z G0 (A ++ ((some z, some v) :: M)) Ga H := ka.perm mid.symm
        obtain ⟨G', k2⟩ := h5 _ _ _ _ _ k1
        exact ⟨G', k2.perm mid⟩
      · rcases List.mem_cons.mp hx with rfl | hx
        · exact hf
        · exact h6 x hx
  | @out o a b c d _ ih =>
    intro σ hl
    cases σ with
    | nil => exact absurd hl (by simp)
    | cons w σ =>
      obtain ⟨A, Az, B, C, C', h1, h2, h3, h4, l1, l2, h5, h6, h7⟩ := ih σ (Nat.succ.inj hl)
      refine ⟨A, (none, w) :: Az, (o, w) :: B, C, C', (h1.cons _).trans mid.symm, h2.cons _, (h3.cons _).trans mid.symm, h4.cons _, congrArg Nat.succ l1, congrArg Nat.succ l2, fun Z G0 G H M k => ?_, fun x hx => ?_, h7⟩
      · obtain ⟨G', k2⟩ := h5 _ _ _ _ _ k
        exact ⟨G', okl_none k2⟩
      · rcases List.mem_cons.mp hx with rfl | hx
        · exact fzn_none
        · exact h6 x hx
  | @chg s s' a b c d hg _ ih =>
    intro σ hl
    cases σ with
    | nil => exact absurd hl (by simp)
    | cons w σ =>
      obtain ⟨A, Az, B, C, C', h1, h2, h3, h4, l1, l2, h5, h6, h7⟩ := ih σ (Nat.succ.inj hl)
      refine ⟨A, Az, B, (some s, w) :: C, (some s', w) :: C', ?_, (h2.cons _).trans mid.symm, ?_, (h4.cons _).trans mid.symm, congrArg Nat.succ l1, congrArg Nat.succ l2, h5, h6, fun x hx => ?_⟩
      · exact (h1.cons _).trans (mid.symm.trans (List.Perm.append_left A mid.symm))
      · exact (h3.cons _).trans (mid.symm.trans (List.Perm.append_left A mid.symm))
      · rcases List.mem_cons.mp hx with rfl | hx
        · intro s e
          cases e
          exact hg
        · exact h7 x hx
section
variable {X : Cx} {T : XT} {W : WX} {Γx Γy Γ Γz : Ctx} {K : PySem.W.Frag}
/-- an expression that only reads what is owned here -/
theorem ex_bor {e : Expr} {te : TE} {α : Type} {m : Res α} {R : α → Sl} {Γo Γzo : α → Ctx} (hb : ∀ a, BR Γ Γz (Γo a) (Γzo a)) (h : EX X T (fun _ _ _ _ => False) Γy Γz e te m R Γzo) (hR : ∀ a, Gfr (R a)) [Nonempty α] : EX X T W Γx Γ e te m.calm R Γo := by
  obtain ⟨a0⟩ := ‹Nonempty α›
  refine ⟨h.pe, fun Z G0 S σ G H Q k q => ?_⟩
  have hh : ∀ a, ∃ A Az B C C' : List Pl,
      (Γ.zip σ).Perm (A ++ (B ++ C)) ∧ (Γz.zip σ).Perm (Az ++ C) ∧ ((Γo a).zip σ).Perm (A ++ (B ++ C')) ∧ ((Γzo a).zip σ).Perm (Az ++ C') ∧ Γz.length = σ.length ∧ (Γo a).length = σ.length
      ∧ (∀ Z G0 G H M, Okl Z G0 (A ++ M) G H → ∃ G', Okl Z G0 (Az ++ M) G' H) ∧ (∀ x ∈ Az, Fzn x.1) ∧ (∀ x ∈ C', ∀ s, x.1 = some s → Gfr s) := fun a => (hb a).split σ k.len
  cases m with
  | exn ex => exact absurd q (fun z => z)
  | stuck => exact absurd q (fun z => z)
  | ok a =>
    obtain ⟨A, Az, B, C, C', h1, h2, h3, h4, l1, l2, h5, h6, h7⟩ := hh a
    have k1 : Okl Z G0 (A ++ ((B ++ S) ++ C)) G H := k.ok.perm (by
      refine (List.Perm.append_left S h1).trans ?_
      refine List.perm_append_comm.trans ?_
      rw [List.append_assoc, List.append_assoc, List.append_assoc]
      refine List.Perm.append_left A (List.Perm.append_left B ?_)
      exact List.perm_append_comm)
    obtain ⟨Z', G1, k2, back⟩ := k1.bor h5 h6
    refine h.ev Z' G1 [] σ G1 H Q ⟨l1, by rw [List.nil_append]; exact k2.perm h2.symm⟩ ?_
    intro v G2 H2 k3
    have k4 : Okl Z' G1 ((some (R a), some v) :: (Az ++ C')) G2 H2 := by
      have : Okl Z' G1 ((some (R a), some v) :: ([] ++ (Γzo a).zip σ)) G2 H2 := k3.of
      rw [List.nil_append] at this
      exact this.perm (h4.cons _)
    have k5 : Okl Z' G1 ((some (R a), some v) :: C') G2 H2 := by
      have p : ((some (R a), some v) :: (Az ++ C')).Perm (Az ++ ((some (R a), some v) :: C')) := mid.symm
      exact (k4.perm p).sub
    have k6 := back _ _ _ (fun x hx => by
      rcases List.mem_cons.mp hx with rfl | hx
      · intro s e
        cases e
        exact hR a
      · exact h7 x hx) k5
    have q' : ∀ v G' H', Okc Z G0 ((some (R a), some v) :: S) (Γo a) σ G' H' → Q v H' := q
    refine q' v G H2 ⟨l2, k6.perm ?_⟩
    show (((some (R a), some v) :: C') ++ (A ++ (B ++ S))).Perm ((some (R a), some v) :: (S ++ (Γo a).zip σ))
    rw [List.cons_append]
    refine List.Perm.cons _ ?_
    refine List.Perm.trans ?_ (List.Perm.append_left S h3).symm
    refine List.Perm.trans ?_ List.perm_append_comm
    rw [List.append_assoc, List.append_assoc]
    refine (List.perm_append_comm).trans ?_
    rw [List.append_assoc]
    refine List.Perm.append_left A ?_
    rw [List.append_assoc]
    exact List.Perm.append_left B List.perm_append_comm
end
end Rt
/-! Rt121: what holds whatever is frozen; lists of lists at a known place. -/
namespace Rt
open PySem L2 R
section
variable {K : PySem.W.Frag}
theorem icy_oll {γ : Type} {c : Cod γ} {xs : List (List γ)} : Icy (oll c xs) (fz (cList (cList c)) xs) := fun _ _ _ _ _ _ k => k.icyL
theorem gfr_int {i : Int} : Gfr (fz cInt i) := fun _ _ _ _ _ h => h
theorem gfr_bool {b : Bool} : Gfr (fz cBool b) := fun _ _ _ _ _ h => h
theorem gfr_tx {t : Tx} : Gfr (fz cTx t) := fun _ _ _ _ _ h => h
theorem gfr_non {u : Unit} : Gfr (fz cNon u) := fun _ _ _ _ _ h => h
theorem gfr_ol {xs : List Int} : Gfr (ol cInt xs) := fun _ _ _ _ _ h => h
theorem gfr_at {p : Addr} {s : Sl} (h : Gfr s) : Gfr (atP p s) := fun G G' H v ps r => ⟨r.1, h G G' H v ps r.2⟩
theorem gfr_all {G G' H : Hp} : ∀ {l : List Sl} {vs : List V} {ps : List Addr}, (∀ s ∈ l, Gfr s) → All G H (plz l vs) ps → All G' H (plz l vs) ps
  | [], _, _, _, h => h
  | s :: l, [], _, _, h => h
  | s :: l, v :: vs, _, hs, ⟨p1, p2, e, ⟨w, e1, r⟩, h2⟩ => ⟨p1, p2, e, ⟨w, e1, hs s List.mem_cons_self _ _ _ _ _ r⟩, gfr_all (fun x hx => hs x (List.mem_cons_of_mem _ hx)) h2⟩
theorem gfr_ols {l : List Sl} (h : ∀ s ∈ l, Gfr s) : Gfr (ols l) := fun G G' H v ps ⟨p, vs, qs, h1, h2, h3, h4, h5⟩ => ⟨p, vs, qs, h1, h2, h3, h4, gfr_all h h5⟩
theorem gfr_oll {xs : List (List Int)} : Gfr (oll cInt xs) := gfr_ols fun s hs => by
  obtain ⟨x, _, rfl⟩ := List.mem_map.mp hs
  exact gfr_ol
end
end Rt
/-! Rt122: x.append(e) for a new list e where x is at a known place and a row of it is at hand, which goes back. -/
namespace Rt
open PySem L2 R
section
variable {X : Cx} {T : XT} {W : WX} {Γx Γ : Ctx} {K : PySem.W.Frag}
theorem ex_pushLP {i jj : Nat} {D : Addr} {x : Str} {e : Expr} {te : TE} {p1 p2 p3 : Pos} {α γ : Type} {c : Cod γ} {k : Int} {p : Addr} {r : List γ} {m1 : Res α} {Rm : α → Sl} {Γo : α → Ctx} {a : α → List γ} {xs : List (List γ)} {mn : Res (List (List γ))} (h : Γ[i]? = some (some (atP D (ols (lput (xs.map (ol c)) k (hole (.ref p))))))) (hj : Γ[jj]? = some (some (atP p (ol c r)))) (hne : ¬ i = jj)
    (he : EX X T W Γx (Γ.set i (some (ols (lput (xs.map (ol c)) k (hole (.ref p)))))) e te m1 Rm Γo) (hR : ∀ t, Rm t = ol c (a t) := by exact fun _ => rfl) (hΓo : ∀ t, Γo t = Γ.set i (some (ols (lput (xs.map (ol c)) k (hole (.ref p))))) := by exact fun _ => rfl)
    (hN : X.N[i]? = some x := by rfl) (hv : Vis X.env.scope x := by first | exact Or.inl rfl | exact Or.inr (Or.inl rfl) | exact Or.inr (Or.inr rfl)) (hb : Bd mn (m1.bind fun t => (R.push (lput xs k r) (a t)).bind fun ys => .ok (t, ys)) (fun t => .ok t.2) := by intros; repeat (first | ((with_reducible refine Bd.done ?_); exact rfl) | with_reducible refine Bd.okl ?_ | with_reducible refine Bd.assoc ?_ | with_reducible refine Bd.bind fun _ => ?_ | with_reducible refine Bd.eta fun _ => ?_ | with_reducible refine Bd.iteB ?_ ?_ fun _ => ?_ | with_reducible refine Bd.iteE ?_ ?_ fun _ => ?_ | with_reducible refine Bd.ite ?_ ?_ | with_reducible refine Bd.iteL ?_ ?_ | with_reducible refine Bd.assocL ?_ | with_reducible refine Bd.oklL ?_ | with_reducible exact Bd.same | with_reducible exact Bd.at | dsimp only))
    (hK : X.K = K := by rfl) (hd : (x == ("__debug__" : Str)) = false := by decide) (hcd : (x == ("__classdict__" : Str)) = false := by decide)
    (hpe : ∀ {to : TE} {ta : TA}, PE X (.Name x p1) to → PA X [e] ta → PE X (.Call (.Attribute (.Name x p1) "append" p2) [e] [] p3) (tBM X.K "list" rAppend to ta) := by exact fun h1 h2 => pe_bm PySem.F.plainAttrs_list PySem.F.slot_list_append PySem.F.type_list_append mt_append h1 h2)
    (hst : starEach (e :: []) X.env = (false, eval e X.env) :: starEach [] X.env := by rfl) :
    EX X T W Γx Γ (.Call (.Attribute (.Name x p1) "append" p2) [e] [] p3) (tBM K "list" rAppend (tVar i) (tCons te tNil)) mn (fun _ => sN) (fun zs => (Γ.set jj none).set i (some (atP D (oll c zs)))) := by
  have hi := (List.getElem?_eq_some_iff.mp h).1
  have E := ex_pushG (Γ := Γ.set i (some (ols (lput (xs.map (ol c)) k (hole (.ref p)))))) (i := i) (l := lput (xs.map (ol c)) k (hole (.ref p))) (xs := lput xs k r) (Γ' := fun zs => (Γ.set jj none).set i (some (oll c zs))) (x := x) (mn := mn) he (by rw [lput_len, lput_len, List.length_map]) (fun ys => by
    have z := wk_rowLA (Γ := Γ.set i (some (ols (lput (xs.map (ol c)) k (hole (.ref p)) ++ [ol c ys])))) (n := i) (jj := jj) (c := c) (xs := xs) (ys := ys) (k := k) (r := r) (p := p) (by rw [List.getElem?_set, if_pos rfl, if_pos hi]) (by rw [List.getElem?_set, if_neg hne]; exact hj) hne
    rw [List.set_comm _ _ hne, List.set_set] at z
    rw [List.set_set]
    exact z) hR hΓo (by rw [List.getElem?_set, if_pos rfl, if_pos hi]) hN hv hb hK hd hcd hpe hst
  have F := ex_pinned i h (s' := fun zs => oll c zs) (fun zs => by rw [List.getElem?_set, if_pos rfl, if_pos (by rw [List.length_set]; exact hi)]) E
  have G : (fun zs : List (List γ) => ((Γ.set jj none).set i (some (oll c zs))).set i (some (atP D (oll c zs)))) = fun zs => (Γ.set jj none).set i (some (atP D (oll c zs))) := funext fun zs => List.set_set _
  rw [G] at F
  exact F
end
end Rt
/-! PB: plain lemmas about the mirror's words. -/
namespace R
theorem line_val : line = 16777216 := rfl
/-! ### walks -/
theorem mapK_ok {α β : Type} {f : α → Res β} {g : α → β} : ∀ {xs : List α}, (∀ x ∈ xs, f x = .ok (g x)) → mapK f xs = .ok (xs.map g)
  | [], _ => rfl
  | x :: r, h => by
    rw [mapK, h x List.mem_cons_self, Res.ok_calm, Res.ok_bind, mapK_ok fun y hy => h y (List.mem_cons_of_mem _ hy)]
    rfl
theorem mapC_ok {α β : Type} {f : α → Res β} {g : α → β} {xs : List α} (h : ∀ x ∈ xs, f x = .ok (g x)) (hl : xs.length ≤ line) : mapC f xs = .ok (xs.map g) := by
  rw [mapC, mapK_ok h, decide_eq_true hl]
  rfl
theorem fold_cons {α S : Type} {f : α → S → Res S} {x : α} {r : List α} {s : S} : fold f (x :: r) s = (f x s).bind fun s' => fold f r s' := rfl
/-- an invariant by the number of turns -/
theorem fold_n {α S : Type} {f : α → S → Res S} {xs : List α} {s0 : S} (I : Nat → S → Prop) (h0 : I 0 s0) (hs : ∀ i (hi : i < xs.length) s, I i s → ∃ s', f xs[i] s = .ok s' ∧ I (i + 1) s') : ∃ s, fold f xs s0 = .ok s ∧ I xs.length s := by
  have go : ∀ (ys : List α) (i : Nat) (s : S), xs.drop i = ys → I i s → i ≤ xs.length → ∃ s', fold f ys s = .ok s' ∧ I xs.length s' := by
    intro ys
    induction ys with
    | nil =>
      intro i s hd hi hl
      have : i = xs.length := by
        have := congrArg List.length hd
        rw [List.length_drop] at this
        simp at this
        omega
      exact ⟨s, rfl, this ▸ hi⟩
    | cons y r ih =>
      intro i s hd hi hl
      have hlt : i < xs.length := by
        have := congrArg List.length hd
        rw [List.length_drop] at this
        simp at this
        omega
      rw [List.drop_eq_getElem_cons hlt] at hd
      cases hd
      obtain ⟨s1, e1, h1⟩ := hs i hlt s hi
      obtain ⟨s2, e2, h2⟩ := ih (i + 1) s1 rfl h1 hlt
      exact ⟨s2, by rw [fold_cons, e1, Res.ok_bind, e2], h2⟩
  obtain ⟨s, e, h⟩ := go xs 0 s0 (by rw [List.drop_zero]) h0 (Nat.zero_le _)
  exact ⟨s, e, h⟩
/-! ### ranges -/
theorem range_nat (n : Nat) : range 0 n = (List.range n).map fun i : Nat => (i : Int) := by
  unfold range
  have : ((n : Int) - 0).toNat = n := by omega
  rw [this]
  congr 1
  funext i
  omega
theorem rng_nat {n : Nat} (h : n < 2 ^ 62) : rng 0 n = .ok ((List.range n).map fun i : Nat => (i : Int)) := by
  unfold rng
  rw [range_nat, chk_of]
  have h' : (n : Int) < 2 ^ 62 := by exact_mod_cast h
  simp only [Bool.and_eq_true, decide_eq_true_eq]
  refine ⟨by decide, by decide, by omega, h'⟩
/-! ### places -/
theorem idx_nat {α : Type} {xs : List α} {i : Nat} (h : i < xs.length) : idx xs (i : Int) = .ok xs[i] := by
  unfold idx atI ixN
  rw [if_pos (by omega), if_pos (by exact_mod_cast h)]
  simp [h]
theorem push_ok {α : Type} {xs : List α} {v : α} (h : xs.length < line) : push xs v = .ok (xs ++ [v]) := by
  unfold push
  rw [decide_eq_true h]
  rfl
/-! ### whole numbers -/
theorem fmod_ok {a b : Int} (h : 0 < b) : fmod a b = .ok (a % b) := by
  unfold fmod
  rw [decide_eq_true h]
  rfl
theorem fdiv_ok {a b : Int} (h : 0 < b) (h2 : b.natAbs.log2 < 9000) : fdiv a b = .ok (a / b) := by
  unfold fdiv
  rw [chk_of]
  simp only [Bool.and_eq_true, decide_eq_true_eq]
  exact ⟨h, h2⟩
theorem log2_small {b : Int} (h : 0 < b) (h2 : b < 2 ^ 64) : b.natAbs.log2 < 9000 := Nat.lt_of_lt_of_le ((Nat.log2_lt (by omega)).mpr (by omega : b.natAbs < 2 ^ 64)) (by decide)
theorem nbits_le {i : Int} {n : Nat} (h : i.natAbs < 2 ^ n) : nbits i ≤ n := by
  unfold nbits
  split
  · exact Nat.zero_le _
  · next h0 => exact (Nat.log2_lt (by omega)).mpr h
theorem mul_ok {a b : Int} (n m : Nat) (ha : a.natAbs < 2 ^ n) (hb : b.natAbs < 2 ^ m) (h : n + m ≤ 134217728) : mul a b = .ok (a * b) := by
  unfold mul
  rw [decide_eq_true (Nat.le_trans (Nat.add_le_add (nbits_le ha) (nbits_le hb)) h)]
  rfl
theorem shl_one {n : Nat} (h : n < 1000000) : shl 1 (n : Int) = .ok (2 ^ n) := by
  unfold shl
  rw [chk_of]
  · rw [Int.toNat_natCast, Int.one_mul]
  · simp only [Bool.and_eq_true, decide_eq_true_eq]
    have : nbits 1 = 1 := by decide
    omega
end R
/-! ### what all laws' own defs give -/
namespace C
open R
def l_cell (script : (List Int)) (k : Int) : Res Int :=
  if decide (k < (script.length : Int)) then idx script k else Res.ok (0 : Int)
def cell (script : List Int) (k : Nat) : Int := script.getD k 0
theorem l_cell_ok (script : List Int) (k : Nat) : l_cell script (k : Int) = .ok (cell script k) := by
  unfold l_cell cell
  by_cases h : k < script.length
  · rw [decide_eq_true (by exact_mod_cast h), if_pos rfl, idx_nat h]
    simp [h]
  · rw [decide_eq_false (by exact_mod_cast h), if_neg Bool.false_ne_true]
    rw [List.getD_eq_getElem?_getD, List.getElem?_eq_none (by omega)]
    rfl
def l_mixed (number : Int) (k : Int) (limit : Int) : Res Int :=
  (Res.ok ((((number + ((7 : Int) * k)) + (1 : Int)) * (48271 : Int)) % (2147483647 : Int))).bind fun one => ((mul one one).bind fun v1 => Res.ok ((v1 + ((69621 : Int) * k)) % (2147483399 : Int))).bind fun two => fmod (((two * (40692 : Int)) + one) % (1000000007 : Int)) limit
theorem l_mixed_ok (n k : Int) {limit : Int} (h : 0 < limit) : ∃ r, l_mixed n k limit = .ok r ∧ 0 ≤ r ∧ r < limit := by
  unfold l_mixed
  simp only [Res.ok_bind]
  rw [mul_ok 31 31 (by have := Int.emod_nonneg ((n + 7 * k + 1) * 48271) (by decide : (2147483647 : Int) ≠ 0); have := Int.emod_lt_of_pos ((n + 7 * k + 1) * 48271) (by decide : (0 : Int) < 2147483647); omega) (by have := Int.emod_nonneg ((n + 7 * k + 1) * 48271) (by decide : (2147483647 : Int) ≠ 0); have := Int.emod_lt_of_pos ((n + 7 * k + 1) * 48271) (by decide : (0 : Int) < 2147483647); omega) (by decide), Res.ok_bind, Res.ok_bind, fmod_ok h]
  exact ⟨_, rfl, Int.emod_nonneg _ (by omega), Int.emod_lt_of_pos _ h⟩
def l_numbers (cell_here : Int) (count : Int) (limit : Int) : Res (List Int) :=
  (Res.ok (R.abs cell_here)).bind fun rest => (Res.ok (decide (((10 : Int) ^ ((18 : Int)).toNat) ≤ rest))).bind fun large => (Res.ok ([] : List Int)).bind fun numbers_here => ((rng 0 count).bind fun xs1 => fold (fun (x2 : Int) (s3 : Int × (List Int)) => (if (large && (decide ((0 : Int) < s3.1))) then ((fmod s3.1 limit).bind fun v4 => push s3.2 v4).bind fun numbers_here => (fdiv s3.1 limit).bind fun rest => Res.ok (numbers_here, rest) else ((l_mixed (R.abs cell_here) x2 limit).bind fun v6 => push s3.2 v6).bind fun numbers_here => Res.ok (numbers_here, s3.1) : Res ((List Int) × Int)).bind fun s7 => Res.ok (s7.2, s7.1)) xs1 (rest, numbers_here) : Res (Int × (List Int))).bind fun s3 => Res.ok s3.2
/-- so many numbers from 0 to below the limit -/
theorem l_numbers_ok (c : Int) (count : Nat) {limit : Int} (h : 0 < limit) (h2 : limit < 2 ^ 64) (hc : count ≤ line) : ∃ ns, l_numbers c count limit = .ok ns ∧ ns.length = count ∧ ∀ x ∈ ns, 0 ≤ x ∧ x < limit := by
  unfold l_numbers
  simp only [Res.ok_bind]
  rw [rng_nat (by rw [line_val] at hc; omega), Res.ok_bind]
  generalize decide ((10 : Int) ^ ((18 : Int)).toNat ≤ R.abs c) = large
  obtain ⟨s, e, h1, h3⟩ := fold_n (xs := (List.range count).map fun i : Nat => (i : Int)) (s0 := (R.abs c, ([] : List Int))) (f := fun (x2 : Int) (s3 : Int × (List Int)) => (if (large && (decide ((0 : Int) < s3.1))) then ((fmod s3.1 limit).bind fun v4 => push s3.2 v4).bind fun numbers_here => (fdiv s3.1 limit).bind fun rest => Res.ok (numbers_here, rest) else ((l_mixed (R.abs c) x2 limit).bind fun v6 => push s3.2 v6).bind fun numbers_here => Res.ok (numbers_here, s3.1) : Res ((List Int) × Int)).bind fun s7 => Res.ok (s7.2, s7.1))
    (fun i s => s.2.length = i ∧ ∀ x ∈ s.2, 0 ≤ x ∧ x < limit) ⟨rfl, fun x hx => by cases hx⟩ (by
      intro i hi s ⟨h1, h3⟩
      have hi' : i < count := by simpa using hi
      have hp : s.2.length < line := by omega
      by_cases q : (large && decide ((0 : Int) < s.1)) = true
      · refine ⟨(s.1 / limit, s.2 ++ [s.1 % limit]), ?_, by simp [h1], fun x hx => ?_⟩
        · rw [if_pos q, fmod_ok h, Res.ok_bind, push_ok hp, Res.ok_bind, fdiv_ok h (log2_small h h2), Res.ok_bind, Res.ok_bind]
        · rcases List.mem_append.mp hx with hx | hx
          · exact h3 x hx
          · rw [List.mem_singleton.mp hx]
            exact ⟨Int.emod_nonneg _ (by omega), Int.emod_lt_of_pos _ h⟩
      · obtain ⟨r, er, r1, r2⟩ := l_mixed_ok (R.abs c) (((List.range count).map fun i : Nat => (i : Int))[i]) h
        refine ⟨(s.1, s.2 ++ [r]), ?_, by simp [h1], fun x hx => ?_⟩
        · rw [if_neg q, er, Res.ok_bind, push_ok hp, Res.ok_bind, Res.ok_bind]
        · rcases List.mem_append.mp hx with hx | hx
          · exact h3 x hx
          · rw [List.mem_singleton.mp hx]
            exact ⟨r1, r2⟩)
  rw [e, Res.ok_bind]
  exact ⟨_, rfl, by simpa using h1, h3⟩
end C
/-! PL: words for the mirror whose instances are told. -/
namespace C
open R
end C
/-! PX: what the laws' own drawing gives. -/
namespace R
end R
namespace C
open R
def isBit (c : Nat) : Prop := c = 48 ∨ c = 49
end C
/-! PY: texts of binary digits. -/
namespace R
end R
namespace C
open R
/-- a binary digit -/
def bd (n : Nat) : Nat := if n % 2 = 0 then 48 else 49
/-- the digits of v, m of them, the greatest first -/
def dg (v m : Nat) : Tx := (List.range m).reverse.map fun p => bd (v / 2 ^ p)
/-- what digits tell -/
def vl (t : Tx) : Nat := t.foldl (fun n c => 2 * n + if c = 49 then 1 else 0) 0
def p_digits_value (digits : Tx) : Res Int :=
  (Res.ok (0 : Int)).bind fun number => (fold (fun (x1 : Nat) (s2 : Int) => (Res.ok (((2 : Int) * s2) + (if decide ([x1] = (tx "1")) then (1 : Int) else (0 : Int)))).bind fun number => Res.ok number) digits number : Res (Int)).bind fun s2 => Res.ok s2
def p_digits_text (number : Int) (many : Int) : Res Tx :=
  (rng 0 many).bind fun xs1 => (mapC (fun x2 => (shr number x2).bind fun v3 => Res.ok (if (!decide ((v3 % 2 ^ 1) = 0)) then (tx "1") else (tx "0"))) xs1.reverse).bind fun v4 => joinS (tx "") v4
end C
/-! PZ: sizes and values as the laws draw them; checks of frames and pictures. -/
namespace C
open R
def l_sizes (cell_here : Int) (most : Int) : Res (List Int) :=
  (l_numbers cell_here (5 : Int) (960 : Int)).bind fun row => ((idx row (3 : Int)).bind fun v2 => Res.ok ((1 : Int) + ((2 : Int) * (v2 % (2 : Int))))).bind fun channels => ((idx row (0 : Int)).bind fun v3 => (fmod v3 most).bind fun v4 => Res.ok ((1 : Int) + v4)).bind fun width => ((idx row (1 : Int)).bind fun v5 => (fmod v5 most).bind fun v6 => (mul width channels).bind fun v7 => (fdiv (3072 : Int) v7).bind fun v8 => Res.ok (min2 ((1 : Int) + v6) v8)).bind fun height => (idx row (2 : Int)).bind fun v9 => (idx row (4 : Int)).bind fun v10 => Res.ok ([width, height, ((1 : Int) + (v9 % (8 : Int))), channels, ((1 : Int) + (v10 % (16 : Int)))] : List Int)
theorem list5 {xs : List Int} (h : xs.length = 5) : ∃ a b c d e, xs = [a, b, c, d, e] := by
  match xs, h with
  | [a, b, c, d, e], _ => exact ⟨a, b, c, d, e, rfl⟩
theorem l_sizes_ok (cell : Int) {most : Nat} (h0 : 0 < most) (h1 : most ≤ 64) : ∃ w h d ch t : Nat, l_sizes cell (most : Int) = .ok [(w : Int), (h : Int), (d : Int), (ch : Int), (t : Int)] ∧ 1 ≤ w ∧ w ≤ most ∧ 1 ≤ h ∧ h ≤ most ∧ 1 ≤ d ∧ d ≤ 8 ∧ (ch = 1 ∨ ch = 3) ∧ 1 ≤ t ∧ t ≤ 16 ∧ w * h * ch ≤ 3072 := by
  unfold l_sizes
  obtain ⟨row, er, hl, hb⟩ := l_numbers_ok cell 5 (limit := 960) (by decide) (by decide) (by decide)
  have er' : l_numbers cell 5 960 = .ok row := er
  obtain ⟨a, b, c, d, e, rfl⟩ := list5 hl
  have ha := hb a (by simp)
  have hbb := hb b (by simp)
  have hc := hb c (by simp)
  have hd := hb d (by simp)
  have he := hb e (by simp)
  have i0 : idx [a, b, c, d, e] 0 = .ok a := rfl
  have i1 : idx [a, b, c, d, e] 1 = .ok b := rfl
  have i2 : idx [a, b, c, d, e] 2 = .ok c := rfl
  have i3 : idx [a, b, c, d, e] 3 = .ok d := rfl
  have i4 : idx [a, b, c, d, e] 4 = .ok e := rfl
  have hm : (0 : Int) < (most : Int) := by omega
  have hw1 := Int.emod_nonneg a (by omega : (most : Int) ≠ 0)
  have hw2 := Int.emod_lt_of_pos a hm
  have hh1 := Int.emod_nonneg b (by omega : (most : Int) ≠ 0)
  have hh2 := Int.emod_lt_of_pos b hm
  rw [er', Res.ok_bind, i3, Res.ok_bind, Res.ok_bind, i0, Res.ok_bind, fmod_ok hm, Res.ok_bind, Res.ok_bind, i1, Res.ok_bind, fmod_ok hm, Res.ok_bind]
  generalize hw : (1 + a % (most : Int)) = w at *
  generalize hh : (1 + b % (most : Int)) = h at *
  obtain ⟨ch, hch, ech⟩ : ∃ ch : Nat, (ch = 1 ∨ ch = 3) ∧ (1 + 2 * (d % 2)) = (ch : Int) := by
    rcases Int.emod_two_eq d with z | z
    · exact ⟨1, .inl rfl, by rw [z]; rfl⟩
    · exact ⟨3, .inr rfl, by rw [z]; rfl⟩
  rw [ech]
  obtain ⟨wn, rfl⟩ : ∃ n : Nat, w = (n : Int) := ⟨w.toNat, by omega⟩
  obtain ⟨hn, rfl⟩ : ∃ n : Nat, h = (n : Int) := ⟨h.toNat, by omega⟩
  have hw3 : 1 ≤ wn ∧ wn ≤ most := by omega
  have hh3 : 1 ≤ hn ∧ hn ≤ most := by omega
  have hp : 0 < wn * ch := Nat.mul_pos (by omega) (by omega)
  have hp2 : wn * ch ≤ 192 := by
    have := Nat.mul_le_mul (show wn ≤ 64 by omega) (show ch ≤ 3 by omega)
    omega
  rw [mul_ok 7 2 (by omega) (by omega) (by decide), Res.ok_bind]
  have ec : ((wn : Int) * (ch : Int)) = ((wn * ch : Nat) : Int) := (Int.natCast_mul wn ch).symm
  rw [ec, fdiv_ok (by omega) (log2_small (by omega) (by omega)), Res.ok_bind, Res.ok_bind, i2, Res.ok_bind, i4, Res.ok_bind]
  have hq : ((3072 : Int) / ((wn * ch : Nat) : Int)) = ((3072 / (wn * ch) : Nat) : Int) := by rw [Int.natCast_ediv]; rfl
  have hge : 1 ≤ 3072 / (wn * ch) := (Nat.le_div_iff_mul_le hp).mpr (by omega)
  rw [hq]
  have em : min2 (hn : Int) ((3072 / (wn * ch) : Nat) : Int) = ((min hn (3072 / (wn * ch)) : Nat) : Int) := by
    unfold min2
    split <;> omega
  rw [em]
  refine ⟨wn, min hn (3072 / (wn * ch)), (1 + c % 8).toNat, ch, (1 + e % 16).toNat, ?_, hw3.1, hw3.2, by omega, by omega, by omega, by omega, hch, by omega, by omega, ?_⟩
  · rw [Int.toNat_of_nonneg (by omega), Int.toNat_of_nonneg (by omega)]
  · have h5 : min hn (3072 / (wn * ch)) * (wn * ch) ≤ 3072 := Nat.le_trans (Nat.mul_le_mul_right _ (Nat.min_le_right _ _)) (Nat.div_mul_le_self _ _)
    have : wn * min hn (3072 / (wn * ch)) * ch = min hn (3072 / (wn * ch)) * (wn * ch) := by
      rw [Nat.mul_comm wn, Nat.mul_assoc]
    omega
def l_values (cell_here : Int) (sizes_here : (List Int)) : Res (List (List Int)) :=
  ((idx sizes_here (0 : Int)).bind fun v1 => (idx sizes_here (1 : Int)).bind fun v2 => mul v1 v2).bind fun pixels => ((idx sizes_here (3 : Int)).bind fun v4 => (mul pixels v4).bind fun v5 => (idx sizes_here (2 : Int)).bind fun v6 => (shl (1 : Int) v6).bind fun v7 => l_numbers cell_here v5 v7).bind fun row => (idx sizes_here (3 : Int)).bind fun v9 => (rng 0 v9).bind fun xs10 => mapC (fun x11 => (mul pixels x11).bind fun v12 => (mul pixels x11).bind fun v13 => Res.ok (cut row (some v12) (some (v13 + pixels)))) xs10
theorem cut_nat {α : Type} {xs : List α} {a b : Nat} (h : a + b ≤ xs.length) : cut xs (some (a : Int)) (some ((a + b : Nat) : Int)) = (xs.drop a).take b := by
  unfold cut sIx
  dsimp only
  rw [if_neg (by omega), if_neg (by omega), Int.toNat_natCast, Int.toNat_natCast, Nat.min_eq_left h, Nat.min_eq_left (by omega : a ≤ xs.length)]
  congr 1
  omega
/-- rows of values -/
def Rows (p d ch : Nat) (rows : List (List Int)) : Prop := rows.length = ch ∧ ∀ r ∈ rows, r.length = p ∧ ∀ x ∈ r, 0 ≤ x ∧ x < 2 ^ d
theorem l_values_ok (cell : Int) {w h d ch : Nat} {t : Int} (hp : w * h * ch ≤ 3072) (hw : 0 < w) (hh : 0 < h) (hc : ch = 1 ∨ ch = 3) (hd : d ≤ 8) : ∃ rows, l_values cell [(w : Int), (h : Int), (d : Int), (ch : Int), t] = .ok rows ∧ Rows (w * h) d ch rows := by
  unfold l_values
  have i0 : idx [(w : Int), (h : Int), (d : Int), (ch : Int), t] 0 = .ok (w : Int) := rfl
  have i1 : idx [(w : Int), (h : Int), (d : Int), (ch : Int), t] 1 = .ok (h : Int) := rfl
  have i2 : idx [(w : Int), (h : Int), (d : Int), (ch : Int), t] 2 = .ok (d : Int) := rfl
  have i3 : idx [(w : Int), (h : Int), (d : Int), (ch : Int), t] 3 = .ok (ch : Int) := rfl
  have hpos : 0 < w * h := Nat.mul_pos hw hh
  have hwb : w ≤ 3072 := Nat.le_trans (Nat.le_trans (Nat.le_mul_of_pos_right w hh) (Nat.le_mul_of_pos_right _ (by omega))) hp
  have hhb : h ≤ 3072 := Nat.le_trans (Nat.le_trans (Nat.le_mul_of_pos_left h hw) (Nat.le_mul_of_pos_right _ (by omega))) hp
  have hpb : w * h ≤ 3072 := Nat.le_trans (Nat.le_mul_of_pos_right _ (by omega)) hp
  have e1 : ((w : Int) * (h : Int)) = ((w * h : Nat) : Int) := (Int.natCast_mul w h).symm
  rw [i0, Res.ok_bind, i1, Res.ok_bind, mul_ok 12 12 (by omega) (by omega) (by decide), Res.ok_bind, i3, Res.ok_bind, e1]
  generalize hpx : w * h = px at *
  have e2 : ((px : Int) * (ch : Int)) = ((px * ch : Nat) : Int) := (Int.natCast_mul px ch).symm
  rw [mul_ok 12 2 (by omega) (by omega) (by decide), Res.ok_bind, i2, Res.ok_bind, shl_one (by omega), Res.ok_bind, e2]
  have h2d : (2 : Int) ^ d < 2 ^ 64 := by
    have : (2 : Nat) ^ d ≤ 2 ^ 8 := Nat.pow_le_pow_right (by decide) hd
    have e : ((2 ^ d : Nat) : Int) = (2 : Int) ^ d := by rw [Int.natCast_pow]; rfl
    rw [← e]
    omega
  obtain ⟨ns, en, hl, hb⟩ := l_numbers_ok cell (px * ch) (limit := 2 ^ d) (Int.pow_pos (by decide)) h2d (by rw [line_val]; omega)
  rw [en, Res.ok_bind, Res.ok_bind, rng_nat (by omega), Res.ok_bind]
  rw [mapC_ok (g := fun k : Int => (ns.drop (px * k.toNat)).take px)]
  · refine ⟨_, rfl, by simp, fun r hr => ?_⟩
    obtain ⟨k', hk, rfl⟩ := List.mem_map.mp hr
    obtain ⟨k, hk2, rfl⟩ := List.mem_map.mp hk
    have hkc : k < ch := List.mem_range.mp hk2
    have h5 : px * (k + 1) ≤ px * ch := Nat.mul_le_mul_left _ hkc
    rw [Nat.mul_succ] at h5
    refine ⟨?_, fun x hx => hb x (List.mem_of_mem_drop (List.mem_of_mem_take hx))⟩
    rw [List.length_take, List.length_drop, hl, Int.toNat_natCast]
    omega
  · intro x hx
    obtain ⟨k, hk2, rfl⟩ := List.mem_map.mp hx
    have hkc : k < ch := List.mem_range.mp hk2
    have h5 : px * (k + 1) ≤ px * ch := Nat.mul_le_mul_left _ hkc
    rw [Nat.mul_succ] at h5
    have e3 : ((px : Int) * (k : Int)) = ((px * k : Nat) : Int) := (Int.natCast_mul px k).symm
    have e4 : (((px * k : Nat) : Int) + (px : Int)) = ((px * k + px : Nat) : Int) := (Int.natCast_add (px * k) px).symm
    rw [mul_ok 12 2 (by omega) (by omega) (by decide), Res.ok_bind, Res.ok_bind, e3, e4, cut_nat (by omega), Int.toNat_natCast]
  · rw [line_val]
    simp
    omega
end C
/-! PF: frames (shared mirror defs and what they give). -/
namespace C
open R
abbrev Frame := Int × Int × Int × Int × Int

def p_check_shape (width : Int) (height : Int) (depth : Int) (channels : Int) : Res Unit :=
  if (!(decide ((1 : Int) ≤ width) && decide (width ≤ (64 : Int)))) then Res.exn (.oor (tx "width")) else if (!(decide ((1 : Int) ≤ height) && decide (height ≤ (64 : Int)))) then Res.exn (.oor (tx "height")) else if (!(decide ((1 : Int) ≤ depth) && decide (depth ≤ (8 : Int)))) then Res.exn (.oor (tx "depth")) else if ((!decide (channels = (1 : Int))) && (!decide (channels = (3 : Int)))) then Res.exn (.oor (tx "channels")) else Res.ok ()

def p_check_size (width : Int) (height : Int) (channels : Int) : Res Unit :=
  ((mul width height).bind fun v1 => (mul v1 channels).bind fun v2 => Res.ok (decide ((3072 : Int) < v2))).bind fun b3 => if b3 then Res.exn (.oor (tx "size")) else Res.ok ()

def p_Frame_across (self : C.Frame) : Res Int :=
  fdiv ((self.1 + self.2.2.2.2) - (1 : Int)) self.2.2.2.2

def p_Frame_down (self : C.Frame) : Res Int :=
  fdiv ((self.2.1 + self.2.2.2.2) - (1 : Int)) self.2.2.2.2

def p_Frame_tiles (self : C.Frame) : Res Int :=
  (p_Frame_across self).bind fun v1 => (p_Frame_down self).bind fun v2 => mul v1 v2

def l_is_int (actual : Int) : Res Bool :=
  Res.ok (true && (!false))

def p_tile_corner (frame : C.Frame) (tile : Int) : Res (Int × Int) :=
  ((p_Frame_across frame).bind fun v1 => dvm tile v1).bind fun t3 => (mul t3.2 frame.2.2.2.2).bind fun v4 => (mul t3.1 frame.2.2.2.2).bind fun v5 => Res.ok (v4, v5)

def p_tile_size (frame : C.Frame) (tile : Int) : Res (Int × Int) :=
  (p_tile_corner frame tile).bind fun t2 => Res.ok ((min2 frame.2.2.2.2 (frame.1 - t2.1)), (min2 frame.2.2.2.2 (frame.2.1 - t2.2)))

def p_check_key (frame : C.Frame) (key : (Int × Int × Int)) : Res Unit :=
  (Res.ok key).bind fun t1 => if (!(decide ((0 : Int) ≤ t1.1) && decide (t1.1 < frame.2.2.2.1))) then Res.exn (.oor (tx "channel")) else ((if decide ((0 : Int) ≤ t1.2.1) then (p_Frame_tiles frame).bind fun v2 => Res.ok (decide (t1.2.1 < v2)) else Res.ok false).bind fun v3 => Res.ok (!v3)).bind fun b4 => if b4 then Res.exn (.oor (tx "tile")) else if (!(decide ((0 : Int) ≤ t1.2.2) && decide (t1.2.2 < frame.2.2.1))) then Res.exn (.oor (tx "plane")) else Res.ok ()

theorem shape_ok {w h d ch : Nat} (hw : 1 ≤ w) (hw2 : w ≤ 64) (hh : 1 ≤ h) (hh2 : h ≤ 64) (hd : 1 ≤ d) (hd2 : d ≤ 8) (hc : ch = 1 ∨ ch = 3) : p_check_shape (w : Int) (h : Int) (d : Int) (ch : Int) = .ok () := by
  unfold p_check_shape
  rw [if_neg (by simp; omega), if_neg (by simp; omega), if_neg (by simp; omega), if_neg (by rcases hc with rfl | rfl <;> simp)]
theorem size_ok {w h ch : Nat} (hp : w * h * ch ≤ 3072) (hw2 : w ≤ 64) (hh2 : h ≤ 64) (hc : ch = 1 ∨ ch = 3) : p_check_size (w : Int) (h : Int) (ch : Int) = .ok () := by
  unfold p_check_size
  have e1 : ((w : Int) * (h : Int)) = ((w * h : Nat) : Int) := (Int.natCast_mul w h).symm
  have e2 : (((w * h : Nat) : Int) * (ch : Int)) = ((w * h * ch : Nat) : Int) := (Int.natCast_mul (w * h) ch).symm
  have hb : w * h ≤ 64 * 64 := Nat.mul_le_mul hw2 hh2
  rw [mul_ok 7 7 (by omega) (by omega) (by decide), Res.ok_bind, e1, mul_ok 13 2 (by omega) (by omega) (by decide), Res.ok_bind, Res.ok_bind, e2, if_neg (by rw [decide_eq_true_eq]; omega)]
section
variable {w h d ch t : Nat}
end
theorem is_int (x : Int) : l_is_int x = .ok true := rfl
end C
namespace C
open R
section
variable {w h d ch t : Nat}
end
end C
/-! PG: walks that give lists; keys. -/
namespace R
theorem loop_nx {α S B : Type} {f : α → S → Res (Ctl S B)} {s : S} : ∀ {xs : List α}, (∀ x ∈ xs, f x s = .ok (.nx s)) → loop f xs s = .ok (.nx s)
  | [], _ => rfl
  | x :: r, h => by
    rw [loop, h x List.mem_cons_self, Res.ok_bind]
    exact loop_nx fun y hy => h y (List.mem_cons_of_mem _ hy)
end R
namespace C
open R
/-- the keys in order: p planes below, c channels, t tiles -/
def keyOf (d c n : Nat) (i : Nat) : Int × Int × Int := (((i / n % c : Nat) : Int), ((i % n : Nat) : Int), ((d - 1 - i / n / c : Nat) : Int))
def keys (d c n : Nat) : List (Int × Int × Int) := (List.range (d * c * n)).map (keyOf d c n)
section
variable {w h d ch t : Nat}
end
end C
/-! PT: tiles and their pixels. -/
namespace R
end R
namespace C
open R
def l_are_ints (row : (List Int)) : Res Bool :=
  if true then (mapC (fun x1 => l_is_int x1) row).bind fun v3 => Res.ok (v3.all id) else Res.ok false

/-- tiles in a row; the corner and the extent of a tile; a pixel of a tile; the tile of a pixel, its place -/
def tA (w t : Nat) : Nat := (w + t - 1) / t
def tX (w t k : Nat) : Nat := k % tA w t * t
def tY (w t k : Nat) : Nat := k / tA w t * t
def tW (w t k : Nat) : Nat := min t (w - tX w t k)
def tH (w h t k : Nat) : Nat := min t (h - tY w t k)
def pix (w t k j : Nat) : Nat := (tY w t k + j / tW w t k) * w + tX w t k + j % tW w t k
section
variable {w h t k : Nat}
variable {j : Nat}
variable {p : Nat}
/-! ### the program's -/
variable {d ch : Nat}
end
end C
/-! PC: contexts and intervals. -/
namespace R
end R
namespace C
open R
def p_context (width : Int) (bits : Tx) (place : Int) : Res Int :=
  (Res.ok (0 : Int)).bind fun total => (fmod place width).bind fun column => ((if decide ((0 : Int) < column) then (idx bits (place - (1 : Int))).bind fun v2 => Res.ok (decide ([v2] = (tx "1"))) else Res.ok false).bind fun b5 => if b5 then (Res.ok (total + (1 : Int))).bind fun total => Res.ok total else Res.ok total : Res (Int)).bind fun s4 => if decide (place < width) then Res.ok s4 else ((if decide ((0 : Int) < column) then (idx bits ((place - width) - (1 : Int))).bind fun v6 => Res.ok (decide ([v6] = (tx "1"))) else Res.ok false).bind fun b9 => if b9 then (Res.ok (s4 + (2 : Int))).bind fun total => Res.ok total else Res.ok s4 : Res (Int)).bind fun s8 => (((idx bits (place - width)).bind fun v10 => Res.ok (decide ([v10] = (tx "1")))).bind fun b12 => if b12 then (Res.ok (s8 + (4 : Int))).bind fun total => Res.ok total else Res.ok s8 : Res (Int)).bind fun s11 => ((if decide ((column + (1 : Int)) < width) then (idx bits ((place - width) + (1 : Int))).bind fun v13 => Res.ok (decide ([v13] = (tx "1"))) else Res.ok false).bind fun b16 => if b16 then (Res.ok (s11 + (8 : Int))).bind fun total => Res.ok total else Res.ok s11 : Res (Int)).bind fun s15 => Res.ok s15

def p_interval (width : Int) (bits : Tx) : Res (Int × Int × Int) :=
  (Res.ok ((0 : Int), (1 : Int), (1 : Int))).bind fun t1 => (rep ([(1 : Int)] : List Int) (16 : Int)).bind fun zeros => (rep ([(1 : Int)] : List Int) (16 : Int)).bind fun ones => (fold (fun (x4 : (Int × Tx)) (s5 : Int × Int × Int × (List Int) × (List Int)) => (p_context width bits x4.1).bind fun here => ((idx s5.2.2.2.2 here).bind fun v7 => (idx s5.2.2.2.1 here).bind fun v8 => Res.ok (v7 + v8)).bind fun total => (mul s5.1 total).bind fun low => (mul s5.2.1 total).bind fun whole => (if decide (x4.2 = (tx "1")) then ((idx s5.2.2.2.2 here).bind fun v11 => (mul s5.2.2.1 v11).bind fun v12 => Res.ok (low + v12)).bind fun low => ((idx s5.2.2.2.1 here).bind fun v13 => mul s5.2.2.1 v13).bind fun size => ((idx s5.2.2.2.1 here).bind fun v15 => setI s5.2.2.2.1 here (v15 + (1 : Int))).bind fun ones => Res.ok (low, size, ones, s5.2.2.2.2) else ((idx s5.2.2.2.2 here).bind fun v16 => mul s5.2.2.1 v16).bind fun size => ((idx s5.2.2.2.2 here).bind fun v18 => setI s5.2.2.2.2 here (v18 + (1 : Int))).bind fun zeros => Res.ok (low, size, s5.2.2.2.1, zeros) : Res (Int × Int × (List Int) × (List Int))).bind fun s19 => Res.ok (s19.1, whole, s19.2.1, s19.2.2.1, s19.2.2.2)) (enumL (bits.map fun c => [c])) (t1.1, t1.2.2, t1.2.1, ones, zeros) : Res (Int × Int × Int × (List Int) × (List Int))).bind fun s5 => Res.ok (s5.1, s5.2.2.1, s5.2.1)

end C
/-! PD: codes. -/
namespace R
end R
namespace C
open R
def p_check_width (width : Int) : Res Unit :=
  if (!(decide ((1 : Int) ≤ width) && decide (width ≤ (16 : Int)))) then Res.exn (.oor (tx "width")) else Res.ok ()

def p_code_ (width : Int) (bits : Tx) : Res Tx :=
  (p_interval width bits).bind fun t2 => ((fdiv t2.2.2 t2.2.1).bind fun v3 => Res.ok ((nbits v3 : Int) - (1 : Int))).bind fun many => withCtl (whil (B := Tx) (fun (s4 : Int) => Res.ok true) (fun (s4 : Int) => ((shl (-t2.1) s4).bind fun v5 => (fdiv v5 t2.2.2).bind fun v6 => Res.ok (-v6)).bind fun first => ((mul (first + (1 : Int)) t2.2.2).bind fun v7 => (shl (t2.1 + t2.2.1) s4).bind fun v8 => Res.ok (decide (v7 ≤ v8))).bind fun b10 => if b10 then (p_digits_text first s4).bind fun a => Res.ok (.ret a) else (Res.ok (s4 + (1 : Int))).bind fun many => Res.ok (.nx many)) 1000 many : Res (Ctl (Int) Tx)) fun s4 => .stuck

/-- what codes are of -/
structure Good (s : Nat × Nat × Nat) (M : Nat) : Prop where
  pos : 0 < s.2.1
  le : s.1 + s.2.1 ≤ s.2.2
  lt : s.2.2 < 2 ^ M
  small : M ≤ 3800
section
variable {s : Nat × Nat × Nat} {M : Nat}
end
end C
/-! PE: what an interval's size and whole are, by counts. -/
namespace C
open R
section
variable (w : Nat) (r : Nat → Bool)
end
end C
/-! PH: codes are told apart. -/
namespace R
end R
namespace C
open R
end C
/-! PK: bits and bytes. -/
namespace C
open R
/-- eight bits from a place on, 0 behind the end -/
def pc (t : Tx) (i : Nat) : Tx := (List.range 8).map fun k => t.getD (8 * i + k) 48
/-- the bytes of bits -/
def bytes (t : Tx) : List Int := (List.range ((t.length + 7) / 8)).map fun i => (vl (pc t i) : Int)
def sgn (row : List Int) : Tx := row.flatMap fun x => dg x.toNat 8
end C
/-! PN: codes that begin with given digits. -/
namespace C
open R
/-- the code of a row of bits -/
def kd (w : Nat) (t : Tx) : Tx := match p_code_ (w : Int) t with
  | .ok c => c
  | _ => []
section
variable {w : Nat} {b g t : Tx}
end
end C
/-! PQ: the next bit that is known. -/
namespace C
open R
def p_shares (width : Int) (bits : Tx) (place : Int) : Res (Int × Int) :=
  (p_context width bits place).bind fun here => (Res.ok (1 : Int)).bind fun zeros => (Res.ok (1 : Int)).bind fun ones => ((rng 0 place).bind fun xs2 => fold (fun (x3 : Int) (s4 : Int × Int) => (((p_context width bits x3).bind fun v5 => Res.ok (decide (v5 = here))).bind fun b10 => if b10 then (((idx bits x3).bind fun v6 => Res.ok (decide ([v6] = (tx "1")))).bind fun b8 => if b8 then (Res.ok (s4.1 + (1 : Int))).bind fun ones => Res.ok (ones, s4.2) else (Res.ok (s4.2 + (1 : Int))).bind fun zeros => Res.ok (s4.1, zeros) : Res (Int × Int)).bind fun s7 => Res.ok (s7.1, s7.2) else Res.ok (s4.1, s4.2) : Res (Int × Int)).bind fun s9 => Res.ok (s9.1, s9.2)) xs2 (ones, zeros) : Res (Int × Int)).bind fun s4 => Res.ok (s4.2, s4.1)

def p_opens (width : Int) (code : Tx) (bits : Tx) : Res Bool :=
  (p_code_ width bits).bind fun v1 => Res.ok (starts v1 code)

def p_last_with_zero (bits : Tx) (more : Int) : Res Tx :=
  (cat bits (tx "0")).bind fun v1 => (rep (tx "1") more).bind fun v2 => cat v1 v2

def p_first_with_one (bits : Tx) (more : Int) : Res Tx :=
  (cat bits (tx "1")).bind fun v1 => (rep (tx "0") more).bind fun v2 => cat v1 v2

def p_next_bit_ (width : Int) (count : Int) (code : Tx) (bits : Tx) : Res Tx :=
  (p_interval width bits).bind fun t2 => (p_shares width bits (bits.length : Int)).bind fun t4 => ((mul t2.1 (t4.1 + t4.2)).bind fun v5 => (mul t2.2.1 t4.1).bind fun v6 => Res.ok (v5 + v6)).bind fun border => (mul t2.2.2 (t4.1 + t4.2)).bind fun whole => (p_digits_value code).bind fun number => ((mul (number + (1 : Int)) whole).bind fun v9 => (shl border (code.length : Int)).bind fun v10 => Res.ok (decide (v9 ≤ v10))).bind fun b18 => if b18 then Res.ok (tx "0") else ((shl border (code.length : Int)).bind fun v11 => (mul number whole).bind fun v12 => Res.ok (decide (v11 ≤ v12))).bind fun b17 => if b17 then Res.ok (tx "1") else (Res.ok ((count - (bits.length : Int)) - (1 : Int))).bind fun more => ((p_last_with_zero bits more).bind fun v13 => p_opens width code v13).bind fun low_is_possible => ((p_first_with_one bits more).bind fun v15 => p_opens width code v15).bind fun high_is_possible => if (low_is_possible && high_is_possible) then Res.ok (tx "?") else if low_is_possible then Res.ok (tx "0") else Res.ok (if high_is_possible then (tx "1") else (tx ""))

def p_find_prefix (width : Int) (count : Int) (code : Tx) : Res (Option Tx) :=
  if decide ((((17 : Int) * count) + (848 : Int)) ≤ ((16 : Int) * (code.length : Int))) then Res.ok none else (Res.ok (tx "")).bind fun bits => withCtl ((rng 0 count).bind fun xs1 => loop (B := (Option Tx)) (fun (x2 : Int) (s3 : Tx) => (p_next_bit_ width count code s3).bind fun bit => if decide (bit = (tx "?")) then (Res.ok (some s3)).bind fun a => Res.ok (.ret a) else if decide (bit = (tx "")) then (Res.ok none).bind fun a => Res.ok (.ret a) else (cat s3 bit).bind fun bits => Res.ok (.nx bits)) xs1 bits : Res (Ctl (Tx) (Option Tx))) fun s3 => (p_opens width code s3).bind fun v6 => Res.ok (if v6 then (some s3) else none)

def p_check_count (count : Int) : Res Unit :=
  if (!(decide ((0 : Int) ≤ count) && decide (count ≤ (256 : Int)))) then Res.exn (.oor (tx "count")) else Res.ok ()

def p_check_code (code : Tx) : Res Unit :=
  if decide ((400 : Int) < (code.length : Int)) then Res.exn (.oor (tx "code")) else Res.ok ()

def p_known_prefix (width : Int) (count : Int) (code : Tx) : Res (Option Tx) :=
  (p_check_width width).bind fun _ => (p_check_count count).bind fun _ => (p_check_code code).bind fun _ => p_find_prefix width count code


end C
/-! PS: find_prefix. -/
namespace C
open R
end C
/-! PU: rows in order; those whose codes begin so lie together. -/
namespace C
open R
/-- a row of n bits -/
def Row (n : Nat) (t : Tx) : Prop := t.length = n ∧ ∀ c ∈ t, isBit c
section
variable {w n : Nat} {t u v g : Tx}
end
/-! ### numbers of rows -/
end C
/-! PV: how many rows have a code that begins so. -/
namespace C
open R
def p_many_low_ (width : Int) (code : Tx) (bits : Tx) (more : Int) : Res Int :=
  (Res.ok (1 : Int)).bind fun total => ((rng 0 more).bind fun xs1 => fold (fun (x2 : Int) (s3 : Int × Tx) => (((p_last_with_zero s3.2 x2).bind fun v4 => p_opens width code v4).bind fun b10 => if b10 then ((shl (1 : Int) x2).bind fun v6 => Res.ok (s3.1 + v6)).bind fun total => (cat s3.2 (tx "0")).bind fun bits => Res.ok (total, bits) else (cat s3.2 (tx "1")).bind fun bits => Res.ok (s3.1, bits) : Res (Int × Tx)).bind fun s9 => Res.ok (s9.1, s9.2)) xs1.reverse (total, bits) : Res (Int × Tx)).bind fun s3 => Res.ok s3.1

def p_many_high_ (width : Int) (code : Tx) (bits : Tx) (more : Int) : Res Int :=
  (Res.ok (1 : Int)).bind fun total => ((rng 0 more).bind fun xs1 => fold (fun (x2 : Int) (s3 : Int × Tx) => (((p_first_with_one s3.2 x2).bind fun v4 => p_opens width code v4).bind fun b10 => if b10 then ((shl (1 : Int) x2).bind fun v6 => Res.ok (s3.1 + v6)).bind fun total => (cat s3.2 (tx "1")).bind fun bits => Res.ok (total, bits) else (cat s3.2 (tx "0")).bind fun bits => Res.ok (s3.1, bits) : Res (Int × Tx)).bind fun s9 => Res.ok (s9.1, s9.2)) xs1.reverse (total, bits) : Res (Int × Tx)).bind fun s3 => Res.ok s3.1

section
variable {w n : Nat} {g : Tx}
end
end C
/-! PR: count_possible. -/
namespace C
open R
def p_count_possible (width : Int) (count : Int) (code : Tx) : Res Int :=
  (p_known_prefix width count code).bind fun bits => if bits.isNone then Res.ok (0 : Int) else ((unopt bits).bind fun v2 => Res.ok (decide ((v2.length : Int) = count))).bind fun b10 => if b10 then Res.ok (1 : Int) else ((unopt bits).bind fun v3 => Res.ok ((count - (v3.length : Int)) - (1 : Int))).bind fun more => (unopt bits).bind fun v4 => (cat v4 (tx "0")).bind fun v5 => (p_many_low_ width code v5 more).bind fun v6 => (unopt bits).bind fun v7 => (cat v7 (tx "1")).bind fun v8 => (p_many_high_ width code v8 more).bind fun v9 => Res.ok (v6 + v9)

section
variable {w n : Nat} {g : Tx}
end
end C
/-! PO: first_possible. -/
namespace C
open R
def p_first_possible (width : Int) (count : Int) (code : Tx) : Res (Option Tx) :=
  (p_known_prefix width count code).bind fun bits => (if bits.isNone then Res.ok true else (unopt bits).bind fun v2 => Res.ok (decide ((v2.length : Int) = count))).bind fun b15 => if b15 then Res.ok bits else ((unopt bits).bind fun v4 => (cat v4 (tx "0")).bind fun v5 => Res.ok (some v5)).bind fun bits => ((unopt bits).bind fun v6 => (rng 0 (count - (v6.length : Int))).bind fun xs7 => fold (fun (x8 : Int) (s9 : (Option Tx)) => ((unopt s9).bind fun v10 => (unopt s9).bind fun v11 => (p_last_with_zero v11 x8).bind fun v12 => (p_opens width code v12).bind fun v13 => (cat v10 (if v13 then (tx "0") else (tx "1"))).bind fun v14 => Res.ok (some v14)).bind fun bits => Res.ok bits) xs7.reverse bits : Res ((Option Tx))).bind fun s9 => Res.ok s9

section
variable {w n : Nat} {g : Tx}
end
end C
/-! PI: no code begins another; the code itself tells its row. -/
namespace C
open R
end C
/-! PA: the rows whose codes begin so, in order; their number, the first one. -/
namespace C
open R
def p_rank_among (width : Int) (code : Tx) (bits : Tx) : Res Int :=
  (p_digits_value bits).bind fun v1 => (p_first_possible width (bits.length : Int) code).bind fun v2 => (unopt v2).bind fun v3 => (p_digits_value v3).bind fun v4 => Res.ok (v1 - v4)

def p_possible_at (width : Int) (count : Int) (code : Tx) (number : Int) : Res Tx :=
  (p_first_possible width count code).bind fun v1 => (unopt v1).bind fun v2 => (p_digits_value v2).bind fun v3 => p_digits_text (v3 + number) count

/-- all rows whose codes begin so, in order -/
def poss (w n : Nat) (g : Tx) : List Tx := ((List.range (2 ^ n)).map fun v => dg v n).filter fun t => starts (kd w t) g
section
variable {w n : Nat} {g : Tx}
end
end C
/-! PJ: the common beginning of rows; known, pick, sample. -/
namespace C
open R
section
variable {w n : Nat} {g : Tx}
end
end C
/-! P1: shapes, rows of values, keys, tiles, packets, as the laws with a box draw and make them. -/
namespace C
open R
/-- five numbers that are those of a frame -/
structure Shp (w h d ch t : Nat) : Prop where
  w1 : 1 ≤ w
  w2 : w ≤ 64
  h1 : 1 ≤ h
  h2 : h ≤ 64
  d1 : 1 ≤ d
  d2 : d ≤ 8
  c : ch = 1 ∨ ch = 3
  t1 : 1 ≤ t
  t2 : t ≤ 16
  p : w * h * ch ≤ 3072
abbrev shp (w h d ch t : Nat) : List Int := [(w : Int), (h : Int), (d : Int), (ch : Int), (t : Int)]
abbrev frm (w h d ch t : Nat) : Frame := ((w : Int), (h : Int), (d : Int), (ch : Int), (t : Int))
section
variable {w h d ch t k : Nat}
end
/-! ### tiles -/
section
variable {w h d ch t k : Nat}
end
end C
/-! P2: rows of values that are drawn; gray bits, stored bits, the bits of a packet and its code. -/
namespace C
open R
namespace Gets
variable {α β S : Type}
end Gets
/-! ### gray and stored bits -/
def gb (v p : Nat) : Nat := (v / 2 ^ p + v / 2 ^ (p + 1)) % 2
def vat (rows : List (List Int)) (c x : Nat) : Nat := ((rows.getD c []).getD x 0).toNat
/-- the stored bit of a pixel -/
def sbit (rows : List (List Int)) (ch c x q : Nat) : Nat := if ch = 1 then gb (vat rows 0 x) q else if c = 0 then gb (vat rows 1 x) q else if c = 1 then (gb (vat rows 1 x) q + gb (vat rows 0 x) q) % 2 else (gb (vat rows 1 x) q + gb (vat rows 2 x) q) % 2
/-- the bits of a packet -/
def pkt (w h ch t : Nat) (rows : List (List Int)) (c k q : Nat) : Tx := (List.range (tW w t k * tH w h t k)).map fun j => 48 + sbit rows ch c (pix w t k j) q
section
variable {w h d ch t k c x q : Nat} {rows : List (List Int)}
end
end C
/-! P3: what has arrived. -/
namespace C
open R
abbrev Arrived := C.Frame × (List ((Int × Int × Int) × Tx))
def p_Arrived_digits (self : C.Arrived) (key : (Int × Int × Int)) : Res Tx :=
  (p_check_key self.1 key).bind fun _ => Res.ok (dgetD self.2 key (tx ""))

/-! ### tables -/
section
variable {κ β : Type} [DecidableEq κ] {xs : List (κ × β)} {k k' : κ} {b : β}
end

/-! ### cuts -/
/-! ### the packets of a picture -/
section
variable {w h d ch t k c q : Nat} {rows : List (List Int)}
/-- the code of a packet -/
def pcode (w h ch t : Nat) (rows : List (List Int)) (c k q : Nat) : Tx := kd (tW w t k) (pkt w h ch t rows c k q)
/-- a place of a frame -/
structure KeyIn (w h d ch t c k q : Nat) : Prop where
  c : c < ch
  k : k < tA w t * tA h t
  q : q < d
/-- what has arrived is of the picture -/
structure Fed (w h d ch t : Nat) (rows : List (List Int)) (A : Arrived) : Prop where
  f : A.1 = frm w h d ch t
  p : ∀ c k q, KeyIn w h d ch t c k q → dgetD A.2 ((c : Int), (k : Int), (q : Int)) [] <+: pcode w h ch t rows c k q
end
section
variable {w n : Nat} {g : Tx}
end
end C
/-! P4: what is known of the gray bits of a pixel. -/
namespace C
open R
section
variable {w h d ch t k c q p : Nat} {rows : List (List Int)}
end
end C
/-! P5: pictures; the values that a pixel can have, as far as it is known. -/
namespace C
open R
abbrev Picture := Int × Int × Int × Int × (List (List Int))
def p_are_values_ (pixels : Int) (depth : Int) (channels : Int) (values : (List (List Int))) : Res Bool :=
  if (!decide ((values.length : Int) = channels)) then Res.ok false else (shl (1 : Int) depth).bind fun beyond => withCtl (loop (B := Bool) (fun (x2 : (List Int)) (s3 : Unit) => if (!decide ((x2.length : Int) = pixels)) then (Res.ok false).bind fun a => Res.ok (.ret a) else thenCtl (loop (B := Bool) (fun (x4 : Int) (s5 : Unit) => if (!(decide ((0 : Int) ≤ x4) && decide (x4 < beyond))) then (Res.ok false).bind fun a => Res.ok (.ret a) else Res.ok (.nx ())) x2 () : Res (Ctl (Unit) Bool)) fun s5 => Res.ok (.nx ())) values () : Res (Ctl (Unit) Bool)) fun s3 => Res.ok true

def p_Picture_rows (self : C.Picture) : Res (List (List Int)) :=
  mapC (fun x1 => Res.ok x1) self.2.2.2.2

section
variable {w h d ch t k c q p : Nat} {rows : List (List Int)}
theorem are_ok {p d ch : Nat} {rows : List (List Int)} (hr : Rows p d ch rows) (hd : d ≤ 8) : p_are_values_ (p : Int) (d : Int) (ch : Int) rows = .ok true := by
  unfold p_are_values_
  rw [if_neg (by rw [hr.1]; simp), shl_one (by omega), Res.ok_bind, loop_nx]
  · rfl
  · intro r hm
    obtain ⟨h1, h2⟩ := hr.2 r hm
    rw [if_neg (by rw [h1]; simp), loop_nx]
    · rfl
    · intro x hx
      obtain ⟨h3, h4⟩ := h2 x hx
      rw [if_neg (by simp [h3, h4])]
abbrev pic (w h d ch : Nat) (rows : List (List Int)) : Picture := ((w : Int), (h : Int), (d : Int), (ch : Int), rows)
theorem rows_of (P : Picture) (hl : P.2.2.2.2.length ≤ 1000) : p_Picture_rows P = .ok P.2.2.2.2 := by
  unfold p_Picture_rows
  rw [mapC_ok (g := fun x => x) (fun _ _ => rfl) (by rw [line_val]; omega), List.map_id']
theorem setI_nat {α : Type} {xs : List α} {i : Nat} (h : i < xs.length) (v : α) : setI xs (i : Int) v = .ok (xs.set i v) := by
  unfold setI ixN
  rw [if_pos (by omega), if_pos (by omega)]
  rfl
end
end C
/-! P6: every value that the known grays allow is that of a picture that agrees. -/
namespace C
open R
/-! ### grays and values -/
/-! ### rows of given stored bits -/
section
variable {w h d ch t k c q p : Nat} {rows : List (List Int)}
end
end C
/-! P7: tiny shapes, all their pictures, those that agree. -/
namespace C
open R
/-! ### all pictures -/
section
variable {w h d ch t : Nat}
theorem loop_all {α B : Type} {f : α → Unit → Res (Ctl Unit B)} {r : B} {P : α → Bool} : ∀ {xs : List α}, (∀ x ∈ xs, f x () = .ok (if P x = true then .nx () else .ret r)) → loop f xs () = .ok (if xs.all P = true then .nx () else .ret r)
  | [], _ => rfl
  | x :: xs, h => by
    rw [loop, h x List.mem_cons_self, Res.ok_bind, List.all_cons]
    cases P x with
    | true => exact loop_all fun y hy => h y (List.mem_cons_of_mem _ hy)
    | false => rfl
end
end C
/-! P8: the values of a pixel in the pictures that agree. -/
namespace C
open R
section
variable {w h d ch t c p : Nat} {rows : List (List Int)}
end
end C
/-! P9: records of blocks. -/
namespace C
open R
def rc (n s : Nat) (t : Tx) : List Int := ([75, (n : Int) / 256, (n : Int) % 2 ^ 8, (s : Int) / 256, (s : Int) % 2 ^ 8, (t.length : Int)] ++ bytes t) ++ List.replicate (25 - (bytes t).length) 0 ++ [75]
end C
/-! PM: the picture of whole packets. -/
namespace C
open R
section
variable {w h d ch t : Nat}
end
end C
/-! PW: the witness: a picture that agrees, with a value at an end. -/
namespace C
open R
section
variable {w h d ch t k c q p : Nat} {rows : List (List Int)}
end
end C
/-! P0: regions, boosts, and the order of all keys by their scores. -/
namespace C
open R
section
variable {w h d ch t k : Nat}
/-- a region whose numbers are in bounds -/
def InR (r : Int × Int × Int × Int × Int) : Prop := (0 ≤ r.1 ∧ r.1 < 64) ∧ (0 ≤ r.2.1 ∧ r.2.1 < 64) ∧ (1 ≤ r.2.2.1 ∧ r.2.2.1 ≤ 64) ∧ (1 ≤ r.2.2.2.1 ∧ r.2.2.2.1 ≤ 64) ∧ (0 ≤ r.2.2.2.2 ∧ r.2.2.2.2 ≤ 16)
instance (r : Int × Int × Int × Int × Int) : Decidable (InR r) := by unfold InR; exact inferInstance
/-! ### keys by their scores -/
end
end C
/-! Pa: the bits and the code of a packet, as the program makes them of a picture; plans and bounds. -/
namespace C
open R
def p_Picture_value (self : C.Picture) (channel : Int) (pixel : Int) : Res Int :=
  (idx self.2.2.2.2 channel).bind fun v1 => idx v1 pixel

section
variable {w h d ch t c k q x : Nat} {rows : List (List Int)}
end
section
variable {w h d ch t : Nat}
end
end C
/-! Pb: how far apart the ends of a value are; whole and empty packets; the order of a plan. -/
namespace C
open R
/-! ### runs of grays -/
/-! ### whole and empty packets -/
section
variable {w h d ch t c k q p : Nat} {rows : List (List Int)}
/-! ### the order of a plan -/
end
end C
/-! Pc: pictures that agree, their count and their numbers. -/
namespace C
open R
def p_choices_ (arrived : C.Arrived) (key : (Int × Int × Int)) : Res Int :=
  (p_tile_size arrived.1 key.2.1).bind fun t2 => (mul t2.1 t2.2).bind fun v3 => (p_Arrived_digits arrived key).bind fun v4 => p_count_possible t2.1 v3 v4

section
variable {w h d ch t c k q : Nat} {rows : List (List Int)}
/-! ### the choices of a packet -/
def gOf (A : Arrived) (c k q : Nat) : Tx := dgetD A.2 ((c : Int), (k : Int), (q : Int)) []
def frN (w h t : Nat) (A : Arrived) (c k q : Nat) : Nat := vl ((poss (tW w t k) (tW w t k * tH w h t k) (gOf A c k q)).headD [])
def cnN (w h t : Nat) (A : Arrived) (c k q : Nat) : Nat := (poss (tW w t k) (tW w t k * tH w h t k) (gOf A c k q)).length
structure KeyF (w h t : Nat) (A : Arrived) (c k q : Nat) : Prop where
  pos : 1 ≤ cnN w h t A c k q
  top : frN w h t A c k q + cnN w h t A c k q ≤ 2 ^ (tW w t k * tH w h t k)
  choices : p_choices_ A ((c : Int), (k : Int), (q : Int)) = .ok (cnN w h t A c k q : Int)
  rank : ∀ B : Tx, B.length = tW w t k * tH w h t k → p_rank_among (tW w t k : Int) (gOf A c k q) B = .ok ((vl B : Int) - (frN w h t A c k q : Int))
  at_ : ∀ r : Nat, p_possible_at (tW w t k : Int) ((tW w t k * tH w h t k : Nat) : Int) (gOf A c k q) (r : Int) = .ok (dg (frN w h t A c k q + r) (tW w t k * tH w h t k))
  iff : ∀ B, Row (tW w t k * tH w h t k) B → (gOf A c k q <+: kd (tW w t k) B ↔ frN w h t A c k q ≤ vl B ∧ vl B < frN w h t A c k q + cnN w h t A c k q)
/-! ### numbers over several bases -/
section
variable {κ : Type} [DecidableEq κ]
end
/-! ### count, number, picture of a number -/
end
end C
/-! Pd: packets that are open, what is missing (tiny frames). -/
namespace C
open R
section
variable {w h d ch t c k q : Nat} {rows : List (List Int)}
end
end C
/-! Pe: requests that are checked, the requests of the open packets, how many bits the rest needs. -/
namespace C
open R
/-! ### how many bits a number needs -/
/-! ### sums -/
section
variable {w h d ch t c k q : Nat} {rows : List (List Int)}
end
end C
/-! Pf: files of packets, as they are written. -/
namespace C
open R
/-! ### check sums -/
/-! ### files -/
section
variable {w h d ch t : Nat}
/-- the number of a key -/
def kn (w h d ch t : Nat) (x : Int × Int × Int) : Int := (((d : Int) - 1 - x.2.2) * (ch : Int) + x.1) * ((tA w t * tA h t : Nat) : Int) + x.2.1
end
section
variable {w h d ch t : Nat}
/-- a packet that can be written -/
structure FineW (w h d ch t : Nat) (e : (Int × Int × Int) × Tx) : Prop where
  key : e.1 ∈ keys d ch (tA w t * tA h t)
  len : e.2.length ≤ 65535
/-! ### .. and by the law -/
end
end C
/-! Pg: answers to requests, the digits that are there in all. -/
namespace C
open R
end C
namespace R
open C
abbrev Ent := (Int × Int × Int) × Int
abbrev Pce := (Int × Int × Int) × Int × Tx
/-! ### pieces -/
section
variable {w h d ch t c k q : Nat} {rows : List (List Int)}
/-- entries that are fine -/
structure AskOk (w h d ch t : Nat) (es : List Ent) : Prop where
  nd : (es.map (·.1)).Nodup
  mem : ∀ e ∈ es, e.1 ∈ keys d ch (tA w t * tA h t) ∧ 0 ≤ e.2 ∧ e.2 ≤ 65535
  len : es.length ≤ 144
end
end R
namespace R
open C
/-! ### what a call that ends has done -/
/-! ### the digits that are there -/
end R
namespace R
open C
section
variable {w h d ch t c k q p : Nat} {rows : List (List Int)}
end
end R
/-! Ph: copies of what has arrived; what more digits bring. -/
namespace C
open R
section
variable {w h d ch t c k q p : Nat} {rows : List (List Int)}
end
/-! ### more digits -/
section
variable {w h d ch t c k q p : Nat} {rows : List (List Int)}
end
end C
/-! Pi: files of packets, as they are read. -/
namespace C
open R
abbrev Reader := C.Frame × (List Int) × Int × (List ((Int × Int × Int) × Tx)) × (List (Int × Bool)) × (Option (Int × Tx))
/-! ### the reading by plain words -/
abbrev Pkt := (Int × Int × Int) × Tx
inductive Out where
  | fin (p : Option Pkt) (f : Option (Int × Tx))
  | nx (p : Pkt) (size : Nat) (number : Int)
/-! ### cuts -/
section
variable {w h d ch t : Nat}
end
/-! ### a whole file -/
/-! ### check sums tell damage -/
def Dmg (r r' : List Int) (i : Nat) : Prop := ∃ (p : List Int) (x x' : Int) (q q' : List Int), r = p ++ x :: q ∧ r' = p ++ x' :: q' ∧ p.length = i ∧ (x' - x) % 256 ≠ 0 ∧ q.length = q'.length ∧ q.tail = q'.tail
theorem Dmg.part {r r' : List Int} {i a n : Nat} (d : Dmg r r' i) (h1 : a ≤ i) (h2 : i < a + n) : Dmg ((r.drop a).take n) ((r'.drop a).take n) (i - a) := by
  obtain ⟨p, x, x', q, q', rfl, rfl, rfl, hx, hl, ht⟩ := d
  have e : ∀ (y : Int) (z : List Int), ((p ++ y :: z).drop a).take n = p.drop a ++ y :: z.take (n - (p.length - a) - 1) := fun y z => by
    rw [List.drop_append_of_le_length h1, List.take_append, List.take_of_length_le (by rw [List.length_drop]; omega), List.length_drop]
    congr 1
    rw [show n - (p.length - a) = (n - (p.length - a) - 1) + 1 by omega, List.take_succ_cons]
    rfl
  refine ⟨p.drop a, x, x', _, _, e x q, e x' q', List.length_drop, hx, by rw [List.length_take, List.length_take, hl], ?_⟩
  cases q with
  | nil =>
    cases q' with
    | cons y z => simp at hl
    | nil => rfl
  | cons y z =>
    cases q' with
    | nil => simp at hl
    | cons y' z' =>
      have hz : z = z' := ht
      subst hz
      cases n - (p.length - a) - 1 <;> rfl
/-! ### whole sections -/
section
variable {w h d ch t : Nat}
/-- a packet that stands there whole -/
structure FineR (w h d ch t : Nat) (e : Pkt) : Prop where
  fine : FineW w h d ch t e
  bit : ∀ c ∈ e.2, isBit c
end
/-! ### whole files and their beginnings -/
section
variable {w h d ch t : Nat}
/-- packets of a file -/
structure FileE (w h d ch t : Nat) (es : List Pkt) : Prop where
  nd : (es.map (·.1)).Nodup
  mem : ∀ e ∈ es, e.1 ∈ keys d ch (tA w t * tA h t)
  bit : ∀ e ∈ es, ∀ c ∈ e.2, isBit c
  len : ∀ e ∈ es, e.2.length ≤ 300
  few : es.length ≤ 12
end
/-! ### read whole, damaged, cut -/
section
variable {w h d ch t : Nat}
end
/-! ### packets that are drawn -/
section
variable {w h d ch t : Nat}
end
end C
namespace C
open R
end C
namespace Pj
open R C
/-! ### a part of a picture, pixel by pixel -/
section
variable {w h a b m n j q : Nat}
structure Part (w h a b m n : Nat) : Prop where
  m1 : 1 ≤ m
  n1 : 1 ≤ n
  am : a + m ≤ w
  bn : b + n ≤ h
def inP (w a b m n q : Nat) : Prop := a ≤ q % w ∧ q % w < a + m ∧ b ≤ q / w ∧ q / w < b + n
instance : Decidable (inP w a b m n q) := by unfold inP; infer_instance
end
section
variable {w h d ch t c k q x : Nat} {rows : List (List Int)}
/-! ### the part of a rectangle of tiles -/
variable {l tp rw_ rh : Nat}
structure RectIn (w h t l tp rw_ rh : Nat) : Prop where
  x : l + rw_ ≤ tA w t
  y : tp + rh ≤ tA h t
  rw1 : 1 ≤ rw_
  rh1 : 1 ≤ rh
/-! ### paste and crop -/
section
variable {a b m n : Nat} {vals : List (List Int)}
end
/-! ### a value that is stored -/
/-! ### the packets that differ -/
variable {r1 r2 : List (List Int)}
end
end Pj
namespace C
open R
end C
namespace R
open C
/-! ### what has arrived of any picture: pieces are taken or refused, and nothing else -/
section
variable {w h d ch t c k q n : Nat} {rows : List (List Int)}
abbrev Ky := Int × Int × Int
structure AOk (w h d ch t n : Nat) (A : C.Arrived) : Prop where
  f : A.1 = frm w h d ch t
  b : ∀ x : Ky, (∀ c ∈ dgetD A.2 x [], isBit c) ∧ (dgetD A.2 x []).length ≤ 400
  nd : (A.2.map (·.1)).Nodup
  n : A.2.length ≤ n
def cK (w h ch t : Nat) (rows : List (List Int)) (x : Ky) : Tx := pcode w h ch t rows x.1.toNat x.2.1.toNat x.2.2.toNat
end
end R
namespace C
open R
abbrev Disk := (List (List Int)) × (List (Int × (List Int))) × Int × (Option Int) × (List Int)
end C
namespace Pl
open R C
/-- the numbers of a frame -/
def IsF (a b c d e : Int) : Prop := (1 ≤ a ∧ a ≤ 64) ∧ (1 ≤ b ∧ b ≤ 64) ∧ (1 ≤ c ∧ c ≤ 8) ∧ (d = 1 ∨ d = 3) ∧ (1 ≤ e ∧ e ≤ 16) ∧ a * b * d ≤ 3072
instance (a b c d e : Int) : Decidable (IsF a b c d e) := by unfold IsF; exact inferInstance
/-- a header that is one -/
def Hd (row : List Int) : Prop := row.getD 0 0 = 72 ∧ row.getD 31 0 = 72 ∧ IsF (row.getD 2 0) (row.getD 3 0) (row.getD 4 0) (row.getD 5 0) (row.getD 6 0)
instance (row : List Int) : Decidable (Hd row) := by unfold Hd; exact inferInstance
abbrev Pnd := List (Int × List Int)
def Blk (b : List Int) : Prop := b.length = 32 ∧ ∀ x ∈ b, 0 ≤ x ∧ x < 256
def Bks (n : Nat) (B : List (List Int)) : Prop := B.length = n ∧ ∀ b ∈ B, Blk b
def Pds (n : Nat) (p : Pnd) : Prop := ∀ e ∈ p, (0 ≤ e.1 ∧ e.1 < (n : Int)) ∧ Blk e.2
theorem Bks.set {n : Nat} {B : List (List Int)} (h : Bks n B) (i : Nat) {b : List Int} (hb : Blk b) : Bks n (B.set i b) := ⟨by rw [List.length_set]; exact h.1, fun x hx => by
  rcases List.mem_or_eq_of_mem_set hx with z | z
  · exact h.2 x z
  · rw [z]; exact hb⟩
theorem setI_int {α : Type} {B : List α} {at_ : Int} {v : α} (h0 : 0 ≤ at_) (h1 : at_.toNat < B.length) : setI B at_ v = .ok (B.set at_.toNat v) := by
  unfold setI ixN
  rw [if_pos h0, if_pos (by omega)]
/-! ### a disk -/
structure DOk (n : Nat) (D : C.Disk) : Prop where
  bk : Bks n D.1
  pd : Pds n D.2.1
  s4 : 4 ≤ n
  s400 : n ≤ 400
/-- the block that is read at i -/
def sel (i : Int) (p : Pnd) (f : List Int) : List Int := p.foldl (fun f e => if e.1 = i then e.2 else f) f
def vw (D : C.Disk) (i : Nat) : List Int := sel (i : Int) D.2.1 (D.1.getD i [])
section
variable {n : Nat} {D : C.Disk}
def asz (n : Nat) : Nat := (n - 2) / 2
/-! ### headers -/
end
/-! ### a header is made -/
def hdr (g : Int) (w h d ch t : Nat) : List Int := [72, g, (w : Int), (h : Int), (d : Int), (ch : Int), (t : Int)] ++ List.replicate 24 0 ++ [72]
section
variable {w h d ch t : Nat}
/-! ### a record is taken -/
def recOf (b : List Int) : Option (Nat × Nat × Tx) := if b.getD 0 0 = 75 ∧ b.getD 31 0 = 75 ∧ 1 ≤ b.getD 5 0 ∧ b.getD 5 0 ≤ 160 then some ((b.getD 1 0 * 256 + b.getD 2 0).toNat, (b.getD 3 0 * 256 + b.getD 4 0).toNat, (sgn ((b.drop 6).take 20)).take (b.getD 5 0).toNat) else none
end
end Pl
/-! Pm: disks that change, keepers, rows of records (no cut is scheduled). -/
namespace C
open R
noncomputable section
abbrev Keeper := C.Frame × C.Disk × Int × C.Arrived × Int × Int
end
end C
namespace Pl
open R C
/-! ### a disk changes -/
section
variable {n : Nat} {D : C.Disk}
def wr (D : C.Disk) (i : Nat) (b : List Int) : C.Disk := (D.1, D.2.1 ++ [((i : Int), b)], D.2.2)
theorem DOk.wr (o : DOk n D) {i : Nat} (hi : i < n) {b : List Int} (hb : Blk b) : DOk n (wr D i b) := ⟨o.bk, fun e he => by
  rcases List.mem_append.mp he with m | m
  · exact o.pd e m
  · rw [List.mem_singleton.mp m]
    exact ⟨⟨by show (0 : Int) ≤ (i : Int); omega, by show (i : Int) < (n : Int); omega⟩, hb⟩, o.s4, o.s400⟩
def fl (D : C.Disk) : C.Disk := (D.2.1.foldl (fun B e => B.set e.1.toNat e.2) D.1, [], D.2.2)
theorem flush_all : ∀ {p : Pnd} {B : List (List Int)}, Pds n p → Bks n B → fold (fun (x : Int × List Int) (B : List (List Int)) => setI B x.1 x.2) p B = .ok (p.foldl (fun B e => B.set e.1.toNat e.2) B) ∧ Bks n (p.foldl (fun B e => B.set e.1.toNat e.2) B)
  | [], B, hp, hB => ⟨rfl, hB⟩
  | e :: r, B, hp, hB => by
    have h := hp e List.mem_cons_self
    have hl := hB.1
    unfold fold
    rw [setI_int h.1.1 (by omega), Res.ok_bind]
    exact flush_all (fun x hx => hp x (List.mem_cons_of_mem _ hx)) (hB.set _ h.2)
theorem DOk.fl (o : DOk n D) : DOk n (fl D) := ⟨(flush_all o.pd o.bk).2, (fun e he => by cases he), o.s4, o.s400⟩
/-! ### blocks are cleared -/
def zro : List Int := List.replicate 32 0
def clr (D : C.Disk) (a : Nat) : Nat → C.Disk
  | 0 => D
  | m + 1 => wr (clr D a m) (a + m) zro
/-! ### a keeper is opened -/
variable {w h d ch t : Nat}
/-! ### what is opened -/
end
section
variable {n : Nat} {D : C.Disk} {w h d ch t : Nat}
end
/-! ### rows of records -/
abbrev LEnt := Ky × Int × Tx
inductive Lg (X : List Ky) (cd : Ky → Tx) : List LEnt → (Ky → Tx) → Prop where
  | nil : Lg X cd [] fun _ => []
  | snoc {L : List LEnt} {f : Ky → Tx} {x : Ky} {t : Tx} (h : Lg X cd L f) (hx : x ∈ X) (h1 : 1 ≤ t.length) (h2 : t.length ≤ 160) (hp : f x ++ t <+: cd x) : Lg X cd (L ++ [(x, ((f x).length : Int), t)]) fun y => if y = x then f x ++ t else f y
def npt (t : Tx) : Nat := (t.length + 159) / 160
def part (x : Ky) (a : Nat) (t : Tx) (i : Nat) : LEnt := (x, ((a + 160 * i : Nat) : Int), (t.drop (160 * i)).take 160)
def parts (x : Ky) (a : Nat) (t : Tx) : List LEnt := (List.range (npt t)).map (part x a t)
def logOf (X : List Ky) (f : Ky → Tx) : List LEnt := X.flatMap fun x => parts x 0 (f x)
section
variable {X : List Ky} {cd : Ky → Tx} {L : List LEnt} {f : Ky → Tx}
end
/-! ### what has arrived, by what each packet has -/
section
variable {w h d ch t m n : Nat} {rows : List (List Int)} {f : Ky → Tx} {A : C.Arrived}
structure AL (w h d ch t m : Nat) (f : Ky → Tx) (A : C.Arrived) : Prop where
  fr : A.1 = frm w h d ch t
  g : ∀ y, dget A.2 y = if f y = [] then none else some (f y)
  nd : (A.2.map (·.1)).Nodup
  n : A.2.length ≤ m
/-! ### records on a disk -/
def rcE (w h d ch t : Nat) (e : LEnt) : List Int := rc (kn w h d ch t e.1).toNat e.2.1.toNat e.2.2
abbrev KY (w h d ch t : Nat) : List Ky := keys d ch (tA w t * tA h t)
end
/-! ### several blocks are written -/
section
variable {n : Nat}
def wrs (D : C.Disk) (a : Nat) : List (List Int) → C.Disk
  | [] => D
  | b :: r => wrs (wr D a b) (a + 1) r
/-- a numbered row from a number on -/
def enF {α : Type} (k : Nat) : List α → List (Int × α)
  | [] => []
  | x :: r => ((k : Int), x) :: enF (k + 1) r
end
section
variable {w h d ch t m n p G : Nat} {rows : List (List Int)} {f : Ky → Tx} {A : C.Arrived} {D : C.Disk} {L : List LEnt} {c : Int}
/-! ### a keeper -/
structure KOk (w h d ch t n : Nat) (rows : List (List Int)) (c : Int) (p m G : Nat) (L : List LEnt) (f : Ky → Tx) (D : C.Disk) (A : C.Arrived) : Prop where
  o : DOk n D
  left : D.2.2.2.1 = none
  cut : D.2.2.1 = c
  pend : D.2.1.length ≤ p
  al : AL w h d ch t m f A
  lg : Lg (KY w h d ch t) (cK w h ch t rows) L f
  le : L.length ≤ asz n
  h0 : vw D (G % 2) = hdr ((G % 256 : Nat) : Int) w h d ch t
  h1 : vw D (1 - G % 2) = hdr (((G + 255) % 256 : Nat) : Int) w h d ch t
  ar : ∀ j, j < asz n → vw D (2 + G % 2 * asz n + j) = (L.map (rcE w h d ch t)).getD j zro
end
section
variable {w h d ch t n p m G : Nat} {rows : List (List Int)} {f : Ky → Tx} {A : C.Arrived} {D : C.Disk} {L : List LEnt} {c : Int}
end
section
variable {w h d ch t n p m G : Nat} {rows : List (List Int)} {f : Ky → Tx} {A : C.Arrived} {D : C.Disk} {L : List LEnt} {c : Int}
end
end Pl
/-! Pn: cuts of the power, writes and flushes that may be cut. -/
namespace C
open R
noncomputable section
end
end C
namespace Pl
open R C
/-! ### a cut -/
def Trn (t : List Int) : Prop := ∀ x ∈ t, 0 ≤ x ∧ x ≤ 32
/-! ### a disk after a cut -/
section
variable {n : Nat} {D : C.Disk} {torn : List Int}
/-! ### writes and flushes that may be cut -/
inductive Op where
  | w (i : Nat) (b : List Int)
  | f
/-- what is so of a disk under a clock -/
structure Cl (n : Nat) (D : C.Disk) : Prop where
  o : DOk n D
  tr : Trn D.2.2.2.2
  lf : ∀ k, D.2.2.2.1 = some k → 0 ≤ k
def Sim (D E : C.Disk) : Prop := D.1 = E.1 ∧ D.2.1 = E.2.1 ∧ D.2.2.1 = E.2.2.1
theorem Sim.vw {E : C.Disk} (s : Sim D E) (j : Nat) : vw D j = vw E j := by
  unfold Pl.vw
  rw [s.1, s.2.1]
/-! ### the program's writes and flushes -/
end
section
variable {n : Nat} {D : C.Disk}
/-! ### a keeper's writes -/
end
/-! ### what a disk holds after a cut -/
section
variable {w h d ch t n p m G s : Nat} {rows : List (List Int)} {f : Ky → Tx} {A : C.Arrived} {D E : C.Disk} {L : List LEnt} {c : Int} {torn : List Int}
/-- a log, and behind it nothing that is read -/
structure Ct (w h d ch t n : Nat) (rows : List (List Int)) (G : Nat) (L : List LEnt) (f : Ky → Tx) (D : C.Disk) : Prop where
  o : DOk n D
  lg : Lg (KY w h d ch t) (cK w h ch t rows) L f
  le : L.length ≤ asz n
  h0 : vw D (G % 2) = hdr ((G % 256 : Nat) : Int) w h d ch t
  h1 : vw D (1 - G % 2) = hdr (((G + 255) % 256 : Nat) : Int) w h d ch t
  ar : ∀ j e, L[j]? = some e → vw D (2 + G % 2 * asz n + j) = rcE w h d ch t e
  st : L.length < asz n → recOf (vw D (2 + G % 2 * asz n + L.length)) = none
/-! ### a keeper of which some records are not flushed -/
def un (D : C.Disk) : C.Disk := (D.1, D.2.1, D.2.2.1, none, [])
structure KS (w h d ch t n : Nat) (rows : List (List Int)) (c : Int) (m G : Nat) (L : List LEnt) (f : Ky → Tx) (s : Nat) (D : C.Disk) (A : C.Arrived) : Prop where
  k : KOk w h d ch t n rows c (L.length - s) m G L f (un D) A
  cl : Cl n D
  sy : s ≤ L.length
  pd : D.2.1 = enF (2 + G % 2 * asz n + s) ((L.drop s).map (rcE w h d ch t))
  bs : ∀ j, j < asz n → D.1.getD (2 + G % 2 * asz n + j) [] = ((L.take s).map (rcE w h d ch t)).getD j zro
end
section
variable {w h d ch t n p m G s : Nat} {rows : List (List Int)} {f : Ky → Tx} {A : C.Arrived} {D E : C.Disk} {L : List LEnt} {c : Int} {torn : List Int}
/-! ### compaction -/
def cpD (w h d ch t n G : Nat) (f : Ky → Tx) (D : C.Disk) : C.Disk := fl (wr (fl (wrs (fl (clr D (2 + (G + 1) % 2 * asz n) (asz n))) (2 + (G + 1) % 2 * asz n) ((logOf (KY w h d ch t) f).map (rcE w h d ch t)))) ((G + 1) % 2) (hdr (((G + 1) % 256 : Nat) : Int) w h d ch t))
/-- the disk behind it -/
structure CpOk (w h d ch t n : Nat) (rows : List (List Int)) (m G : Nat) (L : List LEnt) (f : Ky → Tx) (c : Int) (D : C.Disk) (A : C.Arrived) : Prop where
  o1 : DOk n (clr D (2 + (G + 1) % 2 * asz n) (asz n))
  o2 : DOk n (fl (clr D (2 + (G + 1) % 2 * asz n) (asz n)))
  v2 : ∀ i, i < n → vw (fl (clr D (2 + (G + 1) % 2 * asz n) (asz n))) i = if 2 + (G + 1) % 2 * asz n ≤ i ∧ i < 2 + (G + 1) % 2 * asz n + asz n then zro else vw D i
  eb : ∀ b ∈ (logOf (KY w h d ch t) f).map (rcE w h d ch t), Blk b
  lg : Lg (KY w h d ch t) (cK w h ch t rows) (logOf (KY w h d ch t) f) f
  ll : (logOf (KY w h d ch t) f).length ≤ L.length
  o3 : DOk n (wrs (fl (clr D (2 + (G + 1) % 2 * asz n) (asz n))) (2 + (G + 1) % 2 * asz n) ((logOf (KY w h d ch t) f).map (rcE w h d ch t)))
  o4 : DOk n (fl (wrs (fl (clr D (2 + (G + 1) % 2 * asz n) (asz n))) (2 + (G + 1) % 2 * asz n) ((logOf (KY w h d ch t) f).map (rcE w h d ch t))))
  v4 : ∀ i, i < n → vw (fl (wrs (fl (clr D (2 + (G + 1) % 2 * asz n) (asz n))) (2 + (G + 1) % 2 * asz n) ((logOf (KY w h d ch t) f).map (rcE w h d ch t)))) i = if 2 + (G + 1) % 2 * asz n ≤ i ∧ i < 2 + (G + 1) % 2 * asz n + ((logOf (KY w h d ch t) f).map (rcE w h d ch t)).length then ((logOf (KY w h d ch t) f).map (rcE w h d ch t)).getD (i - (2 + (G + 1) % 2 * asz n)) [] else vw (fl (clr D (2 + (G + 1) % 2 * asz n) (asz n))) i
  hb : Blk (hdr (((G + 1) % 256 : Nat) : Int) w h d ch t)
  o5 : DOk n (wr (fl (wrs (fl (clr D (2 + (G + 1) % 2 * asz n) (asz n))) (2 + (G + 1) % 2 * asz n) ((logOf (KY w h d ch t) f).map (rcE w h d ch t)))) ((G + 1) % 2) (hdr (((G + 1) % 256 : Nat) : Int) w h d ch t))
  k1 : KOk w h d ch t n rows c 0 m G L f (un (fl (clr D (2 + (G + 1) % 2 * asz n) (asz n)))) A
  k3 : KOk w h d ch t n rows c 0 m G L f (un (fl (wrs (fl (clr D (2 + (G + 1) % 2 * asz n) (asz n))) (2 + (G + 1) % 2 * asz n) ((logOf (KY w h d ch t) f).map (rcE w h d ch t))))) A
  k6 : KOk w h d ch t n rows c 0 m (G + 1) (logOf (KY w h d ch t) f) f (un (cpD w h d ch t n G f D)) A
end
section
variable {w h d ch t n p m G s : Nat} {rows : List (List Int)} {f : Ky → Tx} {A : C.Arrived} {D E : C.Disk} {L : List LEnt} {c : Int} {torn : List Int}
/-! ### without a clock -/
end
end Pl
/-! Po: texts of pictures that are read without a fault. -/
namespace C
open R
abbrev Scan := (List Int) × Tx × Int
end C
namespace Po
open R C
/-! ### numbers as texts -/
/-! ### one sign -/
/-! ### digits -/
/-! ### the numbers of a picture -/
/-- what the words of a picture tell: kind, width, height, greatest value, values -/
structure Pic (w h d ch : Nat) (rows : List (List Int)) : Prop where
  w1 : 1 ≤ w
  w2 : w ≤ 64
  h1 : 1 ≤ h
  h2 : h ≤ 64
  d1 : 1 ≤ d
  d2 : d ≤ 8
  c : ch = 1 ∨ ch = 3
  p : w * h * ch ≤ 3072
  r : Rows (w * h) d ch rows
/-- the value at a place of the values as they are written -/
def vaw (ch : Nat) (rows : List (List Int)) (j : Nat) : Int := (rows.getD (j % ch) []).getD (j / ch) 0
def vls (p ch : Nat) (rows : List (List Int)) : List Int := (List.range (p * ch)).map fun j => vaw ch rows j
def top (d : Nat) : Int := 2 ^ d - 1
def wds (w h d ch : Nat) (rows : List (List Int)) : List Int := (w : Int) :: (h : Int) :: top d :: vls (w * h) ch rows
section
variable {w h d ch : Nat} {rows : List (List Int)}
abbrev all (w h d ch : Nat) (rows : List (List Int)) : List Int := (ch : Int) :: wds w h d ch rows
end
end Po
namespace K06
open R C
def l_spoilt (kind : Int) (at_ : Int) (sizes_here : (List Int)) (values_here : (List (List Int))) : Res (Tx × (List Int) × (List (List Int))) :=
  (((Res.ok (values_here.length : Int) : Res Int).calm).bind fun v1 => fmod at_ v1 : Res Int).bind fun k4 => (idx values_here k4).bind fun row => (if decide (kind = (1 : Int)) then ((idx ([(0 : Int), (65 : Int), (-(1 : Int))] : List Int) (at_ % (3 : Int))).bind fun v5 => setI sizes_here (0 : Int) v5).bind fun sizes_here => Res.ok sizes_here else Res.ok sizes_here : Res ((List Int))).bind fun s6 => (if decide (kind = (2 : Int)) then ((idx ([(0 : Int), (9 : Int), (-(1 : Int))] : List Int) (at_ % (3 : Int))).bind fun v7 => setI s6 (2 : Int) v7).bind fun sizes_here => Res.ok sizes_here else Res.ok s6 : Res ((List Int))).bind fun s8 => (if decide (kind = (3 : Int)) then ((idx ([(0 : Int), (2 : Int), (4 : Int)] : List Int) (at_ % (3 : Int))).bind fun v9 => setI s8 (3 : Int) v9).bind fun sizes_here => Res.ok sizes_here else Res.ok s8 : Res ((List Int))).bind fun s10 => (if decide (kind = (4 : Int)) then ((idx s10 (2 : Int)).bind fun v11 => (shl (1 : Int) v11).bind fun v12 => (idx ([(-(1 : Int)), v12] : List Int) (at_ % (2 : Int))).bind fun v13 => (fmod at_ (row.length : Int)).bind fun v14 => setI row v14 v13).bind fun row => Res.ok row else Res.ok row : Res ((List Int))).bind fun s15 => (if decide (kind = (5 : Int)) then (push s15 (0 : Int) : Res (List Int)).bind fun row => Res.ok row else Res.ok s15 : Res ((List Int))).bind fun s16 => (if decide (kind = (6 : Int)) then ((popL s16).bind fun r17 => Res.ok r17.2).bind fun row => Res.ok row else Res.ok s16 : Res ((List Int))).bind fun s18 => (if decide (kind = (7 : Int)) then (push (lput values_here k4 s18) s18 : Res (List (List Int))).bind fun values_here => Res.ok values_here else Res.ok (lput values_here k4 s18) : Res ((List (List Int)))).bind fun s19 => (if decide (kind = (8 : Int)) then ((idx ([(0 : Int), (65 : Int), (-(3 : Int))] : List Int) (at_ % (3 : Int))).bind fun v20 => setI s10 (1 : Int) v20).bind fun sizes_here => Res.ok sizes_here else Res.ok s10 : Res ((List Int))).bind fun s21 => (if decide (kind = (9 : Int)) then ((popL s19).bind fun r22 => Res.ok r22.2).bind fun values_here => Res.ok values_here else Res.ok s19 : Res ((List (List Int)))).bind fun s23 => (idx ([(tx ""), (tx "width"), (tx "depth"), (tx "channels"), (tx "values"), (tx "values"), (tx "values"), (tx "values"), (tx "height"), (tx "values")] : List Tx) kind).bind fun v24 => Res.ok (v24, s21, s23)

def p_Picture___init__ (width : Int) (height : Int) (depth : Int) (channels : Int) (values : (List (List Int))) : Res C.Picture :=
  (p_check_shape width height depth channels).bind fun _ => (p_check_size width height channels).bind fun _ => ((((mul width height).bind fun v3 => p_are_values_ v3 depth channels values : Res Bool).calm).bind fun v5 => Res.ok (!v5)).bind fun b22 => if b22 then Res.exn (.oor (tx "values")) else (Res.ok width).bind fun f6 => (Res.ok height).bind fun f9 => (Res.ok depth).bind fun f12 => (Res.ok channels).bind fun f15 => ((mapC (fun (x18 : (List Int)) => Res.ok x18) values : Res (List (List Int))).calm).bind fun f21 => Res.ok (f6, f9, f12, f15, f21)

def p_Picture_row (self : C.Picture) (channel : Int) : Res (List Int) :=
  idx self.2.2.2.2 channel

def l_holds (picture : C.Picture) (sizes_here : (List Int)) (values_here : (List (List Int))) : Res Bool :=
  ((l_are_ints ([picture.1, picture.2.1, picture.2.2.1, picture.2.2.2.1] : List Int)).bind fun v1 => Res.ok (!v1)).bind fun b28 => if b28 then Res.ok false else if (!decide (([picture.1, picture.2.1, picture.2.2.1, picture.2.2.2.1] : List Int) = (cut sizes_here none (some (4 : Int))))) then Res.ok false else (p_Picture_rows picture).bind fun rows => (if (!true) then Res.ok true else (mapC (fun (x3 : (List Int)) => l_are_ints x3) rows).bind fun v5 => Res.ok ((!(v5.all id)) || (!decide (rows = values_here)))).bind fun b27 => if b27 then Res.ok false else withCtl ((idx sizes_here (3 : Int)).bind fun v7 => (rng 0 v7).bind fun xs8 => loop (B := Bool) (fun (x9 : Int) (s10 : Unit) => ((p_Picture_row picture x9).bind fun v11 => (l_are_ints v11).bind fun v12 => if (!v12) then Res.ok true else (p_Picture_row picture x9).bind fun v13 => (idx values_here x9).bind fun v14 => Res.ok (!decide (v13 = v14))).bind fun b26 => if b26 then (Res.ok false).bind fun a => Res.ok (.ret a) else thenCtl ((idx values_here x9).bind fun v16 => (idx values_here x9).bind fun v17 => loop (B := Bool) (fun (x18 : Int) (s19 : Unit) => (p_Picture_value picture x9 x18).bind fun told => ((l_is_int told).bind fun v21 => if (!v21) then Res.ok true else (idx values_here x9).bind fun v22 => (idx v22 x18).bind fun v23 => Res.ok (!decide (told = v23))).bind fun b25 => if b25 then (Res.ok false).bind fun a => Res.ok (.ret a) else Res.ok (.nx ())) ([(0 : Int), ((v16.length : Int) / (2 : Int)), ((v17.length : Int) - (1 : Int))] : List Int) () : Res (Ctl (Unit) Bool)) fun s19 => Res.ok (.nx ())) xs8 () : Res (Ctl (Unit) Bool)) fun s10 => Res.ok true

def law (script : (List Int)) : Res Bool :=
  ((l_cell script (0 : Int)).bind fun v1 => (l_cell script (1 : Int)).bind fun v2 => l_sizes v1 (if decide ((v2 % (4 : Int)) = (1 : Int)) then (64 : Int) else (5 : Int))).bind fun sizes_here => ((l_cell script (2 : Int)).bind fun v4 => l_values v4 sizes_here).bind fun values_here => (mapC (fun (x6 : (List Int)) => Res.ok x6) values_here).bind fun passed => (Res.ok sizes_here).bind fun numbers_here => ((l_cell script (3 : Int)).bind fun v8 => l_numbers v8 (2 : Int) (14000 : Int)).bind fun pick => ((idx pick (0 : Int)).bind fun v10 => Res.ok (max2 (0 : Int) ((v10 % (14 : Int)) - (4 : Int)))).bind fun kind => ((idx pick (1 : Int)).bind fun v13 => (l_spoilt kind v13 numbers_here passed).bind fun v14 => Res.ok (v14.1, v14.2.2, v14.2.1)).bind fun r15 => (Res.ok (tx "")).bind fun name => (Res.ok none).bind fun picture => (tryR (((idx r15.2.2 (0 : Int)).bind fun v17 => (idx r15.2.2 (1 : Int)).bind fun v18 => (idx r15.2.2 (2 : Int)).bind fun v19 => (idx r15.2.2 (3 : Int)).bind fun v20 => (p_Picture___init__ v17 v18 v19 v20 r15.2.1).bind fun v21 => Res.ok (some v21)).bind fun picture => Res.ok (picture, name) : Res ((Option C.Picture) × Tx)) fun ex => if Exn.isO ex then some (((exName ex).bind fun v22 => if (true && (!((Exn.isC 3) ex))) then exName ex else Res.ok (tx "odd")).bind fun name => Res.ok (picture, name)) else none : Res ((Option C.Picture) × Tx)).bind fun s25 => if decide ((0 : Int) < kind) then Res.ok (s25.1.isNone && (decide (s25.2 = r15.1))) else (if s25.1.isNone then Res.ok true else (unopt s25.1).bind fun v26 => (l_holds v26 sizes_here values_here).bind fun v27 => Res.ok (!v27)).bind fun b40 => if b40 then Res.ok false else ((idx r15.2.1 (0 : Int)).bind fun r29 => ((Res.ok (0 : Int) : Res Int).calm).bind fun j30 => (setI r29 j30 (-(5 : Int))).bind fun r31 => Res.ok (lput r15.2.1 (0 : Int) r31)).bind fun passed => (push passed ([] : List Int)).bind fun passed => ((unopt s25.1).bind fun v32 => p_Picture_row v32 (0 : Int)).bind fun told => (setI told (0 : Int) (-(5 : Int))).bind fun told => ((unopt s25.1).bind fun v34 => p_Picture_rows v34).bind fun told__2 => (Res.ok (0 : Int) : Res Int).bind fun k37 => (idx told__2 k37).bind fun first => (setI first (0 : Int) (-(5 : Int))).bind fun first => (push (lput told__2 k37 first) ([] : List Int) : Res (List (List Int))).bind fun told__2 => (unopt s25.1).bind fun v38 => l_holds v38 sizes_here values_here
end K06
namespace K06
open R C Po
section
variable {w h d ch t : Nat} {rows : List (List Int)}
/-! ### which lists are values -/
def rowOk (p d : Nat) (row : List Int) : Bool := decide ((row.length : Int) = p) && row.all fun x => decide (0 ≤ x) && decide (x < 2 ^ d)
theorem are_val (p d ch : Nat) (values : List (List Int)) (hd : d ≤ 8) : p_are_values_ (p : Int) (d : Int) (ch : Int) values = .ok (decide ((values.length : Int) = ch) && values.all (rowOk p d)) := by
  unfold p_are_values_
  by_cases q : (values.length : Int) = ch
  · rw [decide_eq_true q, if_neg (by decide), shl_one (by omega), Res.ok_bind, loop_all (P := rowOk p d) (r := false)]
    · cases e : values.all (rowOk p d)
      · rfl
      · rfl
    · intro r hr
      unfold rowOk
      by_cases q1 : (r.length : Int) = p
      · rw [decide_eq_true q1, if_neg (by decide), loop_all (P := fun x => decide (0 ≤ x) && decide (x < 2 ^ d)) (r := false)]
        · cases e : r.all fun x => decide (0 ≤ x) && decide (x < 2 ^ d)
          · rfl
          · rfl
        · intro x hx
          cases e : (decide ((0 : Int) ≤ x) && decide (x < 2 ^ d))
          · rfl
          · rfl
      · rw [decide_eq_false q1]
        rfl
  · rw [decide_eq_false q]
    rfl
theorem init_good (P : Pic w h d ch rows) : K06.p_Picture___init__ (w : Int) (h : Int) (d : Int) (ch : Int) rows = .ok (C.pic w h d ch rows) := by
  unfold K06.p_Picture___init__
  have e1 : ((w : Int) * (h : Int)) = ((w * h : Nat) : Int) := (Int.natCast_mul w h).symm
  have hc : ch ≤ 3 := by rcases P.c with z | z <;> omega
  have := P.w2
  have := P.h2
  rw [shape_ok P.w1 P.w2 P.h1 P.h2 P.d1 P.d2 P.c, Res.ok_bind, size_ok P.p P.w2 P.h2 P.c, Res.ok_bind, mul_ok 7 7 (by omega) (by omega) (by decide), Res.ok_bind, e1, are_ok P.r P.d2, Res.ok_calm, Res.ok_bind, Res.ok_bind, if_neg (by decide)]
  simp only [Res.ok_bind]
  rw [mapC_ok (f := fun x => Res.ok x) (g := fun x => x) (fun x _ => rfl) (by rw [P.r.1, line_val]; omega), List.map_id', Res.ok_calm, Res.ok_bind]
theorem init_bad (P : Pic w h d ch rows) {values : List (List Int)} (hv : (decide ((values.length : Int) = ch) && values.all (rowOk (w * h) d)) = false) : K06.p_Picture___init__ (w : Int) (h : Int) (d : Int) (ch : Int) values = .exn (.oor (tx "values")) := by
  unfold K06.p_Picture___init__
  have e1 : ((w : Int) * (h : Int)) = ((w * h : Nat) : Int) := (Int.natCast_mul w h).symm
  have := P.w2
  have := P.h2
  rw [shape_ok P.w1 P.w2 P.h1 P.h2 P.d1 P.d2 P.c, Res.ok_bind, size_ok P.p P.w2 P.h2 P.c, Res.ok_bind, mul_ok 7 7 (by omega) (by omega) (by decide), Res.ok_bind, e1, are_val _ _ _ _ P.d2, hv]
  rfl
theorem init_width (a b c e : Int) (vs : List (List Int)) (ha : a < 1 ∨ 64 < a) : K06.p_Picture___init__ a b c e vs = .exn (.oor (tx "width")) := by
  unfold K06.p_Picture___init__ p_check_shape
  rw [if_pos (by simp; omega)]
  rfl
theorem init_height (a b c e : Int) (vs : List (List Int)) (ha : 1 ≤ a ∧ a ≤ 64) (hb : b < 1 ∨ 64 < b) : K06.p_Picture___init__ a b c e vs = .exn (.oor (tx "height")) := by
  unfold K06.p_Picture___init__ p_check_shape
  rw [if_neg (by simp; omega), if_pos (by simp; omega)]
  rfl
theorem init_depth (a b c e : Int) (vs : List (List Int)) (ha : 1 ≤ a ∧ a ≤ 64) (hb : 1 ≤ b ∧ b ≤ 64) (hc : c < 1 ∨ 8 < c) : K06.p_Picture___init__ a b c e vs = .exn (.oor (tx "depth")) := by
  unfold K06.p_Picture___init__ p_check_shape
  rw [if_neg (by simp; omega), if_neg (by simp; omega), if_pos (by simp; omega)]
  rfl
theorem init_channels (a b c e : Int) (vs : List (List Int)) (ha : 1 ≤ a ∧ a ≤ 64) (hb : 1 ≤ b ∧ b ≤ 64) (hc : 1 ≤ c ∧ c ≤ 8) (he : e ≠ 1 ∧ e ≠ 3) : K06.p_Picture___init__ a b c e vs = .exn (.oor (tx "channels")) := by
  unfold K06.p_Picture___init__ p_check_shape
  rw [if_neg (by simp; omega), if_neg (by simp; omega), if_neg (by simp; omega), if_pos (by simp; omega)]
  rfl
/-! ### what is made wrong -/
theorem idx3 (a b c : Int) (x : Int) : ∃ v, idx ([a, b, c] : List Int) (x % (3 : Int)) = .ok v ∧ (v = a ∨ v = b ∨ v = c) := by
  have h0 : 0 ≤ x % 3 := Int.emod_nonneg _ (by decide)
  have h1 : x % 3 < 3 := Int.emod_lt_of_pos _ (by decide)
  have : x % 3 = 0 ∨ x % 3 = 1 ∨ x % 3 = 2 := by omega
  rcases this with e | e | e <;> rw [e]
  · exact ⟨a, rfl, .inl rfl⟩
  · exact ⟨b, rfl, .inr (.inl rfl)⟩
  · exact ⟨c, rfl, .inr (.inr rfl)⟩
theorem idx2 (a b : Int) (x : Int) : ∃ v, idx ([a, b] : List Int) (x % (2 : Int)) = .ok v ∧ (v = a ∨ v = b) := by
  have h0 : 0 ≤ x % 2 := Int.emod_nonneg _ (by decide)
  have h1 : x % 2 < 2 := Int.emod_lt_of_pos _ (by decide)
  have : x % 2 = 0 ∨ x % 2 = 1 := by omega
  rcases this with e | e <;> rw [e]
  · exact ⟨a, rfl, .inl rfl⟩
  · exact ⟨b, rfl, .inr rfl⟩
theorem popL_some {α : Type} {xs : List α} (hx : xs ≠ []) : ∃ a, popL xs = .ok (a, xs.dropLast) := by
  unfold popL
  cases q : xs.getLast? with
  | none => exact absurd (List.getLast?_eq_none_iff.mp q) hx
  | some a => exact ⟨a, rfl⟩
theorem all_false {α : Type} {f : α → Bool} {xs : List α} {a : α} (ha : a ∈ xs) (hf : f a = false) : xs.all f = false := by
  cases e : xs.all f with
  | false => rfl
  | true =>
    have := List.all_eq_true.mp e a ha
    rw [hf] at this
    cases this
theorem lput_nat {α : Type} {xs : List α} {k : Nat} (hk : k < xs.length) (a : α) : lput xs (k : Int) a = xs.set k a := by
  unfold lput ixN
  rw [if_pos (by omega), if_pos (by omega)]
  rfl
theorem setI_ok {α : Type} {xs : List α} {k : Nat} (hk : k < xs.length) (a : α) : setI xs (k : Int) a = .ok (xs.set k a) := setI_nat hk a
theorem lput_length {α : Type} (xs : List α) (k : Int) (a : α) : (lput xs k a).length = xs.length := by
  unfold lput
  cases R.ixN xs.length k with
  | none => rfl
  | some j => exact List.length_set
theorem spoilt_ok (P : Pic w h d ch rows) (kind : Int) (h0 : 0 ≤ kind) (h9 : kind ≤ 9) (at_ : Nat) : ∃ name a b c e vs, l_spoilt kind (at_ : Int) [(w : Int), (h : Int), (d : Int), (ch : Int), (t : Int)] rows = .ok (name, [a, b, c, e, (t : Int)], vs) ∧ ((kind = 0 ∧ name = tx "" ∧ a = w ∧ b = h ∧ c = d ∧ e = ch ∧ vs = rows) ∨ (0 < kind ∧ K06.p_Picture___init__ a b c e vs = .exn (.oor name))) := by
  have hc : ch ≤ 3 := by rcases P.c with z | z <;> omega
  have hc0 : 0 < ch := by rcases P.c with z | z <;> omega
  have w1 := P.w1
  have w2 := P.w2
  have h1 := P.h1
  have h2 := P.h2
  have d1 := P.d1
  have d2 := P.d2
  have hw : 1 ≤ w * h := Nat.mul_pos w1 h1
  have hp : w * h ≤ 3072 := Nat.le_trans (Nat.le_mul_of_pos_right _ hc0) P.p
  obtain ⟨k, ek, hk⟩ : ∃ k : Nat, (at_ : Int) % (rows.length : Int) = k ∧ k < rows.length := ⟨at_ % rows.length, by omega, Nat.mod_lt _ (by rw [P.r.1]; exact hc0)⟩
  obtain ⟨r1, r2⟩ := P.r.2 _ (List.getElem_mem hk)
  have pre : ((((Res.ok (rows.length : Int) : Res Int).calm).bind fun v1 => fmod (at_ : Int) v1 : Res Int)) = .ok (k : Int) := by
    rw [Res.ok_calm, Res.ok_bind, fmod_ok (by rw [P.r.1]; omega), ek]
  have back : ∀ row : List Int, lput rows (k : Int) row = rows.set k row := fun row => lput_nat hk row
  have same : rows.set k rows[k] = rows := List.set_getElem_self hk
  have hset : ∀ row : List Int, rowOk (w * h) d row = false → (decide (((rows.set k row).length : Int) = ch) && (rows.set k row).all (rowOk (w * h) d)) = false := fun row hr => by
    rw [all_false (List.mem_set hk row) hr, Bool.and_false]
  unfold l_spoilt
  rw [pre, Res.ok_bind, idx_nat hk, Res.ok_bind]
  simp only [back]
  have : kind = 0 ∨ kind = 1 ∨ kind = 2 ∨ kind = 3 ∨ kind = 4 ∨ kind = 5 ∨ kind = 6 ∨ kind = 7 ∨ kind = 8 ∨ kind = 9 := by omega
  have cs : ∀ i j : Int, (i == j) = decide (i = j) := fun _ _ => rfl
  rcases this with rfl | rfl | rfl | rfl | rfl | rfl | rfl | rfl | rfl | rfl
  · refine ⟨tx "", w, h, d, ch, rows, ?_, .inl ⟨rfl, rfl, rfl, rfl, rfl, rfl, rfl⟩⟩
    simp only [Int.reduceEq, decide_false, decide_true, Bool.false_eq_true, ↓reduceIte, Res.ok_bind, same]
    rfl
  · obtain ⟨v, ev, hv⟩ := idx3 0 65 (-1) (at_ : Int)
    refine ⟨tx "width", v, h, d, ch, rows, ?_, .inr ⟨by decide, init_width _ _ _ _ _ (by omega)⟩⟩
    simp only [Int.reduceEq, decide_false, decide_true, Bool.false_eq_true, ↓reduceIte, Res.ok_bind, same, ev, show setI [(w : Int), (h : Int), (d : Int), (ch : Int), (t : Int)] (0 : Int) v = .ok [v, (h : Int), (d : Int), (ch : Int), (t : Int)] from rfl]
    rfl
  · obtain ⟨v, ev, hv⟩ := idx3 0 9 (-1) (at_ : Int)
    refine ⟨tx "depth", w, h, v, ch, rows, ?_, .inr ⟨by decide, init_depth _ _ _ _ _ (by omega) (by omega) (by omega)⟩⟩
    simp only [Int.reduceEq, decide_false, decide_true, Bool.false_eq_true, ↓reduceIte, Res.ok_bind, same, ev, show setI [(w : Int), (h : Int), (d : Int), (ch : Int), (t : Int)] (2 : Int) v = .ok [(w : Int), (h : Int), v, (ch : Int), (t : Int)] from rfl]
    rfl
  · obtain ⟨v, ev, hv⟩ := idx3 0 2 4 (at_ : Int)
    refine ⟨tx "channels", w, h, d, v, rows, ?_, .inr ⟨by decide, init_channels _ _ _ _ _ (by omega) (by omega) (by omega) (by omega)⟩⟩
    simp only [Int.reduceEq, decide_false, decide_true, Bool.false_eq_true, ↓reduceIte, Res.ok_bind, same, ev, show setI [(w : Int), (h : Int), (d : Int), (ch : Int), (t : Int)] (3 : Int) v = .ok [(w : Int), (h : Int), (d : Int), v, (t : Int)] from rfl]
    rfl
  · obtain ⟨v, ev, hv⟩ := idx2 (-1) (2 ^ d) (at_ : Int)
    obtain ⟨j, ej, hj⟩ : ∃ j : Nat, (at_ : Int) % ((rows[k]).length : Int) = j ∧ j < (rows[k]).length := ⟨at_ % (rows[k]).length, by omega, Nat.mod_lt _ (by omega)⟩
    have hbad : rowOk (w * h) d ((rows[k]).set j v) = false := by
      unfold rowOk
      rw [all_false (a := v) (List.mem_set hj v), Bool.and_false]
      rcases hv with rfl | rfl
      · rfl
      · rw [decide_eq_false (p := (2 : Int) ^ d < 2 ^ d) (by omega), Bool.and_false]
    refine ⟨tx "values", w, h, d, ch, rows.set k ((rows[k]).set j v), ?_, .inr ⟨by decide, init_bad P (hset _ hbad)⟩⟩
    simp only [Int.reduceEq, decide_false, decide_true, Bool.false_eq_true, ↓reduceIte, Res.ok_bind, show idx [(w : Int), (h : Int), (d : Int), (ch : Int), (t : Int)] (2 : Int) = .ok (d : Int) from rfl, shl_one (show d < 1000000 by omega), ev]
    rw [fmod_ok (by omega), Res.ok_bind, ej, setI_ok hj]
    simp only [Res.ok_bind]
    rfl
  · have hbad : rowOk (w * h) d (rows[k] ++ [0]) = false := by
      unfold rowOk
      rw [decide_eq_false (by rw [List.length_append, r1]; simp only [List.length_cons, List.length_nil]; omega), Bool.false_and]
    refine ⟨tx "values", w, h, d, ch, rows.set k (rows[k] ++ [0]), ?_, .inr ⟨by decide, init_bad P (hset _ hbad)⟩⟩
    simp only [Int.reduceEq, decide_false, decide_true, Bool.false_eq_true, ↓reduceIte, Res.ok_bind]
    rw [push_ok (by rw [r1, line_val]; omega)]
    simp only [Res.ok_bind]
    rfl
  · obtain ⟨a, ea⟩ := popL_some (xs := rows[k]) (fun e => by rw [e] at r1; simp at r1; omega)
    have hbad : rowOk (w * h) d (rows[k]).dropLast = false := by
      unfold rowOk
      rw [decide_eq_false (by rw [List.length_dropLast, r1]; omega), Bool.false_and]
    refine ⟨tx "values", w, h, d, ch, rows.set k (rows[k]).dropLast, ?_, .inr ⟨by decide, init_bad P (hset _ hbad)⟩⟩
    simp only [Int.reduceEq, decide_false, decide_true, Bool.false_eq_true, ↓reduceIte, Res.ok_bind, ea]
    rfl
  · refine ⟨tx "values", w, h, d, ch, rows ++ [rows[k]], ?_, .inr ⟨by decide, init_bad P ?_⟩⟩
    · simp only [Int.reduceEq, decide_false, decide_true, Bool.false_eq_true, ↓reduceIte, Res.ok_bind, same]
      rw [push_ok (by rw [P.r.1, line_val]; omega)]
      simp only [Res.ok_bind]
      rfl
    · rw [decide_eq_false (by rw [List.length_append, P.r.1]; simp only [List.length_cons, List.length_nil]; omega), Bool.false_and]
  · obtain ⟨v, ev, hv⟩ := idx3 0 65 (-3) (at_ : Int)
    refine ⟨tx "height", w, v, d, ch, rows, ?_, .inr ⟨by decide, init_height _ _ _ _ _ (by omega) (by omega)⟩⟩
    simp only [Int.reduceEq, decide_false, decide_true, Bool.false_eq_true, ↓reduceIte, Res.ok_bind, same, ev, show setI [(w : Int), (h : Int), (d : Int), (ch : Int), (t : Int)] (1 : Int) v = .ok [(w : Int), v, (d : Int), (ch : Int), (t : Int)] from rfl]
    rfl
  · obtain ⟨a, ea⟩ := popL_some (xs := rows) (fun e => by rw [e] at hk; simp at hk)
    refine ⟨tx "values", w, h, d, ch, rows.dropLast, ?_, .inr ⟨by decide, init_bad P ?_⟩⟩
    · simp only [Int.reduceEq, decide_false, decide_true, Bool.false_eq_true, ↓reduceIte, Res.ok_bind, same, ea]
      rfl
    · rw [decide_eq_false (by rw [List.length_dropLast, P.r.1]; omega), Bool.false_and]
/-! ### the picture holds what was passed -/
theorem are_ints (xs : List Int) (hl : xs.length ≤ 5000) : l_are_ints xs = .ok true := by
  unfold l_are_ints
  rw [if_pos rfl, mapC_ok (f := fun x1 => l_is_int x1) (g := fun _ => true) (fun x _ => is_int x) (by rw [line_val]; omega), Res.ok_bind]
  congr 1
  rw [List.all_map]
  exact List.all_eq_true.mpr fun _ _ => rfl
theorem row_at (P : Pic w h d ch rows) {c : Nat} (hc : c < ch) : ∃ hr : c < rows.length, (rows[c]).length = w * h := by
  have hr : c < rows.length := by rw [P.r.1]; exact hc
  exact ⟨hr, (P.r.2 _ (List.getElem_mem hr)).1⟩
theorem holds_ok (P : Pic w h d ch rows) : l_holds (C.pic w h d ch rows) [(w : Int), (h : Int), (d : Int), (ch : Int), (t : Int)] rows = .ok true := by
  have hc : ch ≤ 3 := by rcases P.c with z | z <;> omega
  have hc0 : 0 < ch := by rcases P.c with z | z <;> omega
  have hw : 1 ≤ w * h := Nat.mul_pos P.w1 P.h1
  have hp : w * h ≤ 3072 := Nat.le_trans (Nat.le_mul_of_pos_right _ hc0) P.p
  unfold l_holds
  dsimp only
  rw [are_ints _ (by simp), Res.ok_bind, Res.ok_bind, if_neg (by decide)]
  rw [show cut [(w : Int), (h : Int), (d : Int), (ch : Int), (t : Int)] none (some (4 : Int)) = [(w : Int), (h : Int), (d : Int), (ch : Int)] from rfl, decide_eq_true rfl, if_neg (by decide), rows_of _ (by show rows.length ≤ 1000; rw [P.r.1]; omega), Res.ok_bind, if_neg (by decide)]
  dsimp only
  rw [mapC_ok (g := fun _ => true) (fun r hr => are_ints r (by rw [(P.r.2 r hr).1]; omega)) (by rw [P.r.1, line_val]; omega), Res.ok_bind]
  have ea : ((rows.map fun _ => true).all id) = true := by
    rw [List.all_map]
    exact List.all_eq_true.mpr fun _ _ => rfl
  rw [ea, decide_eq_true rfl, Res.ok_bind, if_neg (by decide)]
  rw [show idx [(w : Int), (h : Int), (d : Int), (ch : Int), (t : Int)] (3 : Int) = .ok (ch : Int) from rfl, Res.ok_bind, rng_nat (n := ch) (by omega), Res.ok_bind, loop_nx]
  · rfl
  · intro x hx
    obtain ⟨c, hc, rfl⟩ := List.mem_map.mp hx
    obtain ⟨hr, hl⟩ := row_at P (List.mem_range.mp hc)
    have er : p_Picture_row (C.pic w h d ch rows) (c : Int) = .ok rows[c] := idx_nat hr
    rw [er, Res.ok_bind, are_ints _ (by omega), Res.ok_bind, if_neg (by decide), Res.ok_bind, idx_nat hr, Res.ok_bind, decide_eq_true rfl, Res.ok_bind, if_neg (by decide), Res.ok_bind, Res.ok_bind, loop_nx]
    · rfl
    · intro y hy
      have hy' : ∃ p : Nat, y = (p : Int) ∧ p < (rows[c]).length := by
        simp only [List.mem_cons, List.not_mem_nil, or_false] at hy
        rcases hy with rfl | rfl | rfl
        · exact ⟨0, rfl, by omega⟩
        · exact ⟨(rows[c]).length / 2, by omega, by omega⟩
        · exact ⟨(rows[c]).length - 1, by omega, by omega⟩
      obtain ⟨p, rfl, hp⟩ := hy'
      have ev : p_Picture_value (C.pic w h d ch rows) (c : Int) (p : Int) = .ok (rows[c])[p] := by
        unfold p_Picture_value
        rw [show idx (C.pic w h d ch rows).2.2.2.2 (c : Int) = .ok rows[c] from idx_nat hr, Res.ok_bind, idx_nat hp]
      rw [ev, Res.ok_bind, is_int, Res.ok_bind, if_neg (by decide), Res.ok_bind, idx_nat hp, Res.ok_bind, decide_eq_true rfl, Res.ok_bind, if_neg (by decide)]
end
theorem law_true (ns : List Int) (hns : ns.length ≤ 63) : law ns = .ok true := by
  unfold law
  have hcell : ∀ k : Nat, C.l_cell ns (k : Int) = .ok (C.cell ns k) := C.l_cell_ok ns
  have c0 : C.l_cell ns 0 = .ok (C.cell ns 0) := hcell 0
  have c1 : C.l_cell ns 1 = .ok (C.cell ns 1) := hcell 1
  have c2 : C.l_cell ns 2 = .ok (C.cell ns 2) := hcell 2
  have c3 : C.l_cell ns 3 = .ok (C.cell ns 3) := hcell 3
  obtain ⟨most, h0, h1, em⟩ : ∃ most : Nat, 0 < most ∧ most ≤ 64 ∧ (if decide (C.cell ns 1 % 4 = 1) = true then (64 : Int) else 5) = most := by
    split
    · exact ⟨64, by decide, by decide, rfl⟩
    · exact ⟨5, by decide, by decide, rfl⟩
  rw [c0, Res.ok_bind, c1, Res.ok_bind, em]
  obtain ⟨w, h, d, ch, t, es, hw, hw2, hh, hh2, hd, hd2, hc, ht, ht2, hp⟩ := l_sizes_ok (C.cell ns 0) h0 h1
  have w2 : w ≤ 64 := by omega
  have h2 : h ≤ 64 := by omega
  rw [es, Res.ok_bind, c2, Res.ok_bind]
  obtain ⟨rows, er, hr⟩ := l_values_ok (C.cell ns 2) (t := (t : Int)) hp (by omega) (by omega) hc hd2
  have P : Pic w h d ch rows := ⟨hw, w2, hh, h2, hd, hd2, hc, hp, hr⟩
  have hch : 1 ≤ ch ∧ ch ≤ 3 := by rcases hc with z | z <;> omega
  have hwh : 1 ≤ w * h := Nat.mul_pos hw hh
  rw [er, Res.ok_bind, mapC_ok (g := fun x => x) (fun _ _ => rfl) (by rw [hr.1, line_val]; omega), List.map_id', Res.ok_bind, Res.ok_bind, c3, Res.ok_bind]
  obtain ⟨picks, ep, hpl, hpb⟩ := C.l_numbers_ok (C.cell ns 3) 2 (limit := 14000) (by decide) (by decide) (by decide)
  have ep' : C.l_numbers (C.cell ns 3) 2 14000 = .ok picks := ep
  rw [ep', Res.ok_bind]
  have p0 : idx picks (0 : Int) = .ok picks[0] := idx_nat (i := 0) (by omega)
  have p1 : idx picks (1 : Int) = .ok picks[1] := idx_nat (i := 1) (by omega)
  rw [p0, Res.ok_bind, Res.ok_bind, p1, Res.ok_bind]
  obtain ⟨at_, ea⟩ : ∃ n : Nat, picks[1] = n := ⟨(picks[1]).toNat, by have := hpb _ (List.getElem_mem (show 1 < picks.length by omega)); omega⟩
  obtain ⟨kind, ek, k0, k9⟩ : ∃ k : Int, max2 (0 : Int) ((picks[0] % (14 : Int)) - (4 : Int)) = k ∧ 0 ≤ k ∧ k ≤ 9 := by
    refine ⟨_, rfl, ?_, ?_⟩
    · unfold max2; split <;> omega
    · have : picks[0] % 14 < 14 := Int.emod_lt_of_pos _ (by decide)
      unfold max2; split <;> omega
  rw [ea, ek]
  obtain ⟨name, a, b, c, e, vs, esp, hsp⟩ := spoilt_ok (t := t) P kind k0 k9 at_
  rw [esp, Res.ok_bind, Res.ok_bind, Res.ok_bind, Res.ok_bind]
  dsimp only
  have j0 : idx [a, b, c, e, (t : Int)] 0 = .ok a := rfl
  have j1 : idx [a, b, c, e, (t : Int)] 1 = .ok b := rfl
  have j2 : idx [a, b, c, e, (t : Int)] 2 = .ok c := rfl
  have j3 : idx [a, b, c, e, (t : Int)] 3 = .ok e := rfl
  rw [j0, Res.ok_bind, j1, Res.ok_bind, j2, Res.ok_bind, j3, Res.ok_bind]
  rcases hsp with ⟨rfl, rfl, rfl, rfl, rfl, rfl, rfl⟩ | ⟨hk, ex⟩
  · rw [init_good P, Res.ok_bind, Res.ok_bind, tryR_ok, Res.ok_bind, if_neg (by decide)]
    dsimp only
    rw [show (Option.isNone (some (C.pic w h d ch vs))) = false from rfl, if_neg Bool.false_ne_true]
    rw [show unopt (some (C.pic w h d ch vs)) = .ok (C.pic w h d ch vs) from rfl, Res.ok_bind, holds_ok P, Res.ok_bind, Res.ok_bind, if_neg (by decide)]
    obtain ⟨hr0, hl0⟩ := row_at P (c := 0) (by omega)
    have i0 : idx vs (0 : Int) = .ok vs[0] := idx_nat (i := 0) hr0
    have s0 : setI vs[0] (0 : Int) (-5) = .ok ((vs[0]).set 0 (-5)) := setI_nat (i := 0) (by omega) _
    rw [i0, Res.ok_bind, Res.ok_calm, Res.ok_bind, s0, Res.ok_bind, Res.ok_bind, push_ok (by rw [show (lput vs (0 : Int) ((vs[0]).set 0 (-5))).length = vs.length from lput_length _ _ _, hr.1, line_val]; omega), Res.ok_bind, Res.ok_bind]
    have er0 : p_Picture_row (C.pic w h d ch vs) (0 : Int) = .ok vs[0] := i0
    rw [er0, Res.ok_bind, s0, Res.ok_bind, Res.ok_bind, rows_of _ (by show vs.length ≤ 1000; rw [hr.1]; omega), Res.ok_bind, Res.ok_bind]
    dsimp only
    rw [i0, Res.ok_bind, s0, Res.ok_bind, push_ok (by rw [show (lput vs (0 : Int) ((vs[0]).set 0 (-5))).length = vs.length from lput_length _ _ _, hr.1, line_val]; omega), Res.ok_bind, Res.ok_bind]
    exact holds_ok P
  · rw [ex]
    show (tryR (Res.exn (.oor name)) _).bind _ = _
    show (if decide ((0 : Int) < kind) = true then Res.ok (true && decide (name = name)) else _) = _
    rw [if_pos (decide_eq_true hk), decide_eq_true rfl]
    rfl
end K06
namespace K06
open PySem L2 R Rt C
def topS (i : Nat) : Stmt := PySem.Challenge.pw_packetpicture_k06_picture_bounds_and_cop.main.body.getD i (.Pass ⟨0, 0, 0, 0⟩)
structure ClsA where
  c_Picture : Addr
  c_OutOfRange : Addr
  c_NoFrame : Addr
def fl_Picture (K : PySem.W.Frag) (CO : ClsA) (b : C.Picture) : FsS := [("width", fz cInt b.1), ("height", fz cInt b.2.1), ("depth", fz cInt b.2.2.1), ("channels", fz cInt b.2.2.2.1), ("_rows", fz (cList (cList cInt)) b.2.2.2.2)]
def rp_Picture (K : PySem.W.Frag) (CO : ClsA) (b : C.Picture) : FsP := [("width", rpF cInt b.1), ("height", rpF cInt b.2.1), ("depth", rpF cInt b.2.2.1), ("channels", rpF cInt b.2.2.2.1), ("_rows", rpF (cList (cList cInt)) b.2.2.2.2)]
theorem rd_Picture {K : PySem.W.Frag} {CO : ClsA} {b : C.Picture} : FsRd (fl_Picture K CO b) (rp_Picture K CO b) := fr_cons rds_fz (fr_cons rds_fz (fr_cons rds_fz (fr_cons rds_fz (fr_cons rds_fz (fr_nil)))))
def flZ_Picture (K : PySem.W.Frag) (CO : ClsA) (b : C.Picture) : Fs := [("width", fzv cInt b.1), ("height", fzv cInt b.2.1), ("depth", fzv cInt b.2.2.1), ("channels", fzv cInt b.2.2.2.1), ("_rows", fzv (cList (cList cInt)) b.2.2.2.2)]
theorem zc_Picture {K : PySem.W.Frag} {CO : ClsA} {b : C.Picture} {p dx : Addr} {fs : List (Str × V)} : Icy (oobV CO.c_Picture p dx fs (fl_Picture K CO b)) (fz (cobj CO.c_Picture (flZ_Picture K CO)) b) := icy_obV (f := flZ_Picture K CO) (fz_cons (fz_cons (fz_cons (fz_cons (fz_cons (fz_nil))))))
theorem ft_Picture {K : PySem.W.Frag} {CO : ClsA} {b : C.Picture} : FsT (flZ_Picture K CO b) (rp_Picture K CO b) := ft_cons rds_fz (ft_cons rds_fz (ft_cons rds_fz (ft_cons rds_fz (ft_cons rds_fz (ft_nil)))))
structure Txt (K : PySem.W.Frag) (CO : ClsA) (T : XT) (mg : Str → Option Value) : Prop where
  b_abs : mg "abs" = none
  b_all : mg "all" = none
  b_bool : mg "bool" = none
  b_int : mg "int" = none
  b_isinstance : mg "isinstance" = none
  b_len : mg "len" = none
  b_list : mg "list" = none
  b_max : mg "max" = none
  b_min : mg "min" = none
  b_range : mg "range" = none
  b_str : mg "str" = none
  g_SIDE_MOST : ∃ u, mg "SIDE_MOST" = some u ∧ RelV (.int 64) u
  g_DEPTH_MOST : ∃ u, mg "DEPTH_MOST" = some u ∧ RelV (.int 8) u
  g_VALUES_MOST : ∃ u, mg "VALUES_MOST" = some u ∧ RelV (.int 3072) u
  cl_Picture : Cls K CO.c_Picture
  na_Picture_width : NoAttr K CO.c_Picture "width"
  na_Picture_height : NoAttr K CO.c_Picture "height"
  na_Picture_depth : NoAttr K CO.c_Picture "depth"
  na_Picture_channels : NoAttr K CO.c_Picture "channels"
  na_Picture__rows : NoAttr K CO.c_Picture "_rows"
  n_OutOfRange : mg "OutOfRange" = some (.ref CO.c_OutOfRange)
  n_NoFrame : mg "NoFrame" = some (.ref CO.c_NoFrame)
  tl_OutOfRange : Tells K T (.ref CO.c_OutOfRange) Exn.isO
  is_NoFrame : IsX K T (.ref CO.c_NoFrame) (Exn.isC 3)
  xf_oor : XfC K T.oor
  nx_name : PySem.W.findIn K (.ref T.oor) "name" = some none
abbrev s_oor : Stmt := inClass (topS 3) 0
theorem sc_oor : FnScope ["self", "name"] ["self", "name"] (defScope s_oor) := ⟨rfl, rfl, rfl, by decide +kernel, rfl, by decide +kernel, by decide +kernel⟩
section
variable {P : Program} {w : World} {K : PySem.W.Frag} {CO : ClsA} {mg : Str → Option Value} {base : Heap} {T : XT}
abbrev s_l_cell : Stmt := topS 15
abbrev N_l_cell : List Str := ["_law_script", "_law_k"]
theorem sc_l_cell : FnScope N_l_cell ["_law_script", "_law_k"] (defScope s_l_cell) := ⟨rfl, rfl, rfl, by decide +kernel, rfl, by decide +kernel, by decide +kernel⟩
theorem fn_l_cell {f : Addr} {fd : FuncData} (F : Fun K "_law_cell" "_law_cell" s_l_cell f fd) (B : Txt K CO T mg)   : FnOk P w K mg base (L2.CX P w) 1 f fd ["_law_script", "_law_k"] (spM 2 T (aCons (fz (cSq K cInt)) (aCons (fz cInt) aNil)) (fun x => l_cell x.1 x.2.1) (fz cInt)) := by
  refine fn_mk F sc_l_cell rfl fun cdv Ar outer s H E hr tk hp a ha => ?_
  obtain ⟨script, k, _⟩ := a
  have nd := sc_l_cell.nd
  show ∃ ts, SX _ _ _ _ _ _ ts (α := Int) (if decide (k < (script.length : Int)) then idx script k else Res.ok (0 : Int)) _
  exact ⟨_, sx_ifret (et_cmp op_lt (ex_var 1) (fun _ => (ex_callB call_len_seq B.b_len PySem.boot_len (ax_cons (ex_var 0) fun _ => ax_nil) fun _ => b_lenQ)) (fun _ _ => o_lt) (nomark _)) (sx_ret (ex_ix L2.ix_list (ex_var 0) (fun _ => (ex_var 1)) fun _ _ => o_ixQ) (fun _ => rfl)) (sx_ret (ex_int) (fun _ => rfl))⟩

abbrev s_l_mixed : Stmt := topS 16
abbrev N_l_mixed : List Str := ["_law_number", "_law_k", "_law_limit", "_law_one", "_law_two"]
theorem sc_l_mixed : FnScope N_l_mixed ["_law_number", "_law_k", "_law_limit"] (defScope s_l_mixed) := ⟨rfl, rfl, rfl, by decide +kernel, rfl, by decide +kernel, by decide +kernel⟩
theorem fn_l_mixed {f : Addr} {fd : FuncData} (F : Fun K "_law_mixed" "_law_mixed" s_l_mixed f fd) (B : Txt K CO T mg)   : FnOk P w K mg base (L2.CX P w) 1 f fd ["_law_number", "_law_k", "_law_limit"] (spM 3 T (aCons (fz cInt) (aCons (fz cInt) (aCons (fz cInt) aNil))) (fun x => l_mixed x.1 x.2.1 x.2.2.1) (fz cInt)) := by
  refine fn_mk F sc_l_mixed rfl fun cdv Ar outer s H E hr tk hp a ha => ?_
  obtain ⟨number, k, limit, _⟩ := a
  have nd := sc_l_mixed.nd
  show ∃ ts, SX _ _ _ _ _ _ ts (α := Int) ((Res.ok ((((number + ((7 : Int) * k)) + (1 : Int)) * (48271 : Int)) % (2147483647 : Int))).bind fun one => ((mul one one).bind fun v1 => Res.ok ((v1 + ((69621 : Int) * k)) % (2147483399 : Int))).bind fun two => fmod (((two * (40692 : Int)) + one) % (1000000007 : Int)) limit) _
  exact ⟨_, sx_cons (s1_set (i := 3) (R' := fz cInt) (ex_op op_mod (ex_callTy call_int1 B.b_int PyProof.Rows.boot_int (ax_cons (ex_op op_mul (ex_op op_add (ex_op op_add (ex_var 0) (fun _ => (ex_op op_mul (ex_int) (fun _ => (ex_var 1)) fun _ _ => o_mulL)) fun _ _ => o_add) (fun _ => ex_int) fun _ _ => o_add) (fun _ => ex_int) fun _ _ => o_mulR) fun _ => ax_nil) fun _ => b_int) (fun _ => ex_int) fun _ _ => o_modR) (hN := nd)) fun one => sx_cons (s1_set (i := 4) (R' := fz cInt) (ex_op op_mod (ex_callTy call_int1 B.b_int PyProof.Rows.boot_int (ax_cons (ex_op op_add (ex_op op_mulX (ex_var 3) (fun _ => (ex_var 3)) fun _ _ => o_mul) (fun _ => (ex_op op_mul (ex_int) (fun _ => (ex_var 1)) fun _ _ => o_mulL)) fun _ _ => o_add) fun _ => ax_nil) fun _ => b_int) (fun _ => ex_int) fun _ _ => o_modR) (hN := nd)) fun two => sx_ret (ex_op op_mod (ex_op op_mod (ex_callTy call_int1 B.b_int PyProof.Rows.boot_int (ax_cons (ex_op op_add (ex_op op_mul (ex_var 4) (fun _ => ex_int) fun _ _ => o_mulR) (fun _ => (ex_var 3)) fun _ _ => o_add) fun _ => ax_nil) fun _ => b_int) (fun _ => ex_int) fun _ _ => o_modR) (fun _ => (ex_var 2)) fun _ _ => o_mod) (fun _ => rfl)⟩

abbrev s_l_numbers : Stmt := topS 17
abbrev N_l_numbers : List Str := ["_law_cell_here", "_law_count", "_law_limit", "_law_rest", "_law_large", "_law_numbers_here", "_law_k"]
theorem sc_l_numbers : FnScope N_l_numbers ["_law_cell_here", "_law_count", "_law_limit"] (defScope s_l_numbers) := ⟨rfl, rfl, rfl, by decide +kernel, rfl, by decide +kernel, by decide +kernel⟩
theorem fn_l_numbers {f : Addr} {fd : FuncData} (F : Fun K "_law_numbers" "_law_numbers" s_l_numbers f fd) (B : Txt K CO T mg) (k_l_mixed : Kn P w K mg base 1 "_law_mixed" ["_law_number", "_law_k", "_law_limit"] (spM 3 T (aCons (fz cInt) (aCons (fz cInt) (aCons (fz cInt) aNil))) (fun x => l_mixed x.1 x.2.1 x.2.2.1) (fz cInt)))  : FnOk P w K mg base (L2.CX P w) 2 f fd ["_law_cell_here", "_law_count", "_law_limit"] (spM 3 T (aCons (fz cInt) (aCons (fz cInt) (aCons (fz cInt) aNil))) (fun x => l_numbers x.1 x.2.1 x.2.2.1) (ol cInt)) := by
  refine fn_mk F sc_l_numbers rfl fun cdv Ar outer s H E hr tk hp a ha => ?_
  obtain ⟨cell_here, count, limit, _⟩ := a
  have nd := sc_l_numbers.nd
  show ∃ ts, SX _ _ _ _ _ _ ts (α := (List Int)) ((Res.ok (R.abs cell_here)).bind fun rest => (Res.ok (decide (((10 : Int) ^ ((18 : Int)).toNat) ≤ rest))).bind fun large => (Res.ok ([] : List Int)).bind fun numbers_here => ((rng 0 count).bind fun xs1 => fold (fun (x2 : Int) (s3 : Int × (List Int)) => (if (large && (decide ((0 : Int) < s3.1))) then ((fmod s3.1 limit).bind fun v4 => push s3.2 v4).bind fun numbers_here => (fdiv s3.1 limit).bind fun rest => Res.ok (numbers_here, rest) else ((l_mixed (R.abs cell_here) x2 limit).bind fun v6 => push s3.2 v6).bind fun numbers_here => Res.ok (numbers_here, s3.1) : Res ((List Int) × Int)).bind fun s7 => Res.ok (s7.2, s7.1)) xs1 (rest, numbers_here) : Res (Int × (List Int))).bind fun s3 => Res.ok s3.2) _
  exact ⟨_, sx_cons (s1_set (i := 3) (R' := fz cInt) (ex_callB call_abs B.b_abs PyProof.Rows.boot_abs (ax_cons (ex_var 0) fun _ => ax_nil) fun _ => b_abs) (hN := nd)) fun rest => sx_cons (s1_set (i := 4) (R' := fz cBool) (ex_cmp op_ge (ex_var 3) (fun _ => (ex_op op_pow (ex_int) (fun _ => ex_int) fun _ _ => o_pow)) (fun _ _ => o_ge) (nomark _)) (hN := nd)) fun large => sx_cons (s1_set (i := 5) (R' := ol cInt) (ex_lst (c := cInt) (lx_nil)) (hN := nd)) fun numbers_here => sx_cons (s1_for (s0 := fun _ => (rest, numbers_here)) (f := fun (x2 : Int) (s3 : Int × (List Int)) => (if (large && (decide ((0 : Int) < s3.1))) then ((fmod s3.1 limit).bind fun v4 => push s3.2 v4).bind fun numbers_here => (fdiv s3.1 limit).bind fun rest => Res.ok (numbers_here, rest) else ((l_mixed (R.abs cell_here) x2 limit).bind fun v6 => push s3.2 v6).bind fun numbers_here => Res.ok (numbers_here, s3.1) : Res ((List Int) × Int)).bind fun s7 => Res.ok (s7.2, s7.1)) (Γn := fun (s3 : Int × (List Int)) => [some (fz cInt cell_here), some (fz cInt count), some (fz cInt limit), some (fz cInt s3.1), some (fz cBool large), some (ol cInt s3.2), none]) (ix_range1 (AX.as (ax_cons (ex_var 1) fun _ => ax_nil)) B.b_range) (fun s3 x2 => gx_name (i := 6) nd) (fun x2 s3 => sx_cons (s1_if (I := fun (s7 : (List Int) × Int) => .nx [some (fz cInt cell_here), some (fz cInt count), some (fz cInt limit), some (fz cInt s7.2), some (fz cBool large), some (ol cInt s7.1), some (fz cInt x2)]) (et_ew (ew_and (et_val (ex_var 4)) (fun _ => (ew_and1 (et_cmp op_gt (ex_var 3) (fun _ => ex_int) (fun _ _ => o_gt) (nomark _)))))) (sx_cons (s1_push (i := 5) (c := cInt) (ex_op op_mod (ex_callTy call_int1 B.b_int PyProof.Rows.boot_int (ax_cons (ex_var 3) fun _ => ax_nil) fun _ => b_int) (fun _ => (ex_var 2)) fun _ _ => o_mod)) fun numbers_here => sx_cons (s1_set (i := 3) (R' := fz cInt) (ex_op op_fdivW (ex_var 3) (fun _ => (ex_var 2)) fun _ _ => o_fdiv) (hN := nd)) fun rest => sx_nil ((wkm [true, true, true, true, true, true, true]))) (sx_cons (s1_push (i := 5) (c := cInt) (ex_callK k_l_mixed hr tk (fun _ => rfl) (ax_cons (ex_callB call_abs B.b_abs PyProof.Rows.boot_abs (ax_cons (ex_var 0) fun _ => ax_nil) fun _ => b_abs) fun _ => ax_cons (ex_var 6) fun _ => ax_cons (ex_var 2) fun _ => ax_nil) (fun _ => arg_cons (arg_cons (arg_cons (arg_nil)))) (fun _ => wk_rep rfl))) fun numbers_here => sx_nil ((wkm [true, true, true, true, true, true, true])))) fun s7 => sx_nil ((wkm [true, true, true, true, true, true, false]))) (fun _ => (wkm [true, true, true, true, true, true, false])) hp) fun s3 => sx_ret (ex_mv 5) (fun _ => rfl)⟩

abbrev s_l_sizes : Stmt := topS 18
abbrev N_l_sizes : List Str := ["_law_cell_here", "_law_most", "_law_row", "_law_channels", "_law_width", "_law_height"]
theorem sc_l_sizes : FnScope N_l_sizes ["_law_cell_here", "_law_most"] (defScope s_l_sizes) := ⟨rfl, rfl, rfl, by decide +kernel, rfl, by decide +kernel, by decide +kernel⟩
theorem fn_l_sizes {f : Addr} {fd : FuncData} (F : Fun K "_law_sizes" "_law_sizes" s_l_sizes f fd) (B : Txt K CO T mg) (k_l_numbers : Kn P w K mg base 2 "_law_numbers" ["_law_cell_here", "_law_count", "_law_limit"] (spM 3 T (aCons (fz cInt) (aCons (fz cInt) (aCons (fz cInt) aNil))) (fun x => l_numbers x.1 x.2.1 x.2.2.1) (ol cInt)))  : FnOk P w K mg base (L2.CX P w) 3 f fd ["_law_cell_here", "_law_most"] (spM 2 T (aCons (fz cInt) (aCons (fz cInt) aNil)) (fun x => l_sizes x.1 x.2.1) (ol cInt)) := by
  refine fn_mk F sc_l_sizes rfl fun cdv Ar outer s H E hr tk hp a ha => ?_
  obtain ⟨cell_here, most, _⟩ := a
  have nd := sc_l_sizes.nd
  show ∃ ts, SX _ _ _ _ _ _ ts (α := (List Int)) ((l_numbers cell_here (5 : Int) (960 : Int)).bind fun row => ((idx row (3 : Int)).bind fun v2 => Res.ok ((1 : Int) + ((2 : Int) * (v2 % (2 : Int))))).bind fun channels => ((idx row (0 : Int)).bind fun v3 => (fmod v3 most).bind fun v4 => Res.ok ((1 : Int) + v4)).bind fun width => ((idx row (1 : Int)).bind fun v5 => (fmod v5 most).bind fun v6 => (mul width channels).bind fun v7 => (fdiv (3072 : Int) v7).bind fun v8 => Res.ok (min2 ((1 : Int) + v6) v8)).bind fun height => (idx row (2 : Int)).bind fun v9 => (idx row (4 : Int)).bind fun v10 => Res.ok ([width, height, ((1 : Int) + (v9 % (8 : Int))), channels, ((1 : Int) + (v10 % (16 : Int)))] : List Int)) _
  exact ⟨_, sx_cons (s1_set (i := 2) (R' := fz (cList cInt)) (EX.icy (EX.as (ex_callK k_l_numbers hr tk (fun _ => rfl) (ax_cons (ex_var 0) fun _ => ax_cons (ex_int) fun _ => ax_cons (ex_int) fun _ => ax_nil) (fun _ => arg_cons (arg_cons (arg_cons (arg_nil)))) (fun _ => wk_rep rfl)))) (hN := nd)) fun row => sx_cons (s1_set (i := 3) (R' := fz cInt) (ex_op op_add (ex_int) (fun _ => (ex_op op_mul (ex_int) (fun _ => (ex_op op_mod (ex_ix L2.ix_list (ex_var 2) (fun _ => ex_int) fun _ _ => o_ixL) (fun _ => ex_int) fun _ _ => o_modR)) fun _ _ => o_mulL)) fun _ _ => o_add) (hN := nd)) fun channels => sx_cons (s1_set (i := 4) (R' := fz cInt) (ex_op op_add (ex_int) (fun _ => (ex_op op_mod (ex_ix L2.ix_list (ex_var 2) (fun _ => ex_int) fun _ _ => o_ixL) (fun _ => (ex_var 1)) fun _ _ => o_mod)) fun _ _ => o_add) (hN := nd)) fun width => sx_cons (s1_set (i := 5) (R' := fz cInt) (ex_callB (call_min2 rfl) B.b_min PyProof.Rows.boot_min (ax_cons (ex_op op_add (ex_int) (fun _ => (ex_op op_mod (ex_ix L2.ix_list (ex_var 2) (fun _ => ex_int) fun _ _ => o_ixL) (fun _ => (ex_var 1)) fun _ _ => o_mod)) fun _ _ => o_add) fun _ => ax_cons (ex_op op_fdivW (ex_int) (fun _ => (ex_op op_mulX (ex_var 4) (fun _ => (ex_var 3)) fun _ _ => o_mul)) fun _ _ => o_fdiv) fun _ => ax_nil) fun _ => b_min) (hN := nd)) fun height => sx_ret (ex_lst (c := cInt) (lx_cons (ex_var 4) fun _ => lx_cons (ex_var 5) fun _ => lx_cons (EX.as (ex_op op_add (ex_int) (fun _ => (ex_op op_mod (ex_ix L2.ix_list (ex_var 2) (fun _ => ex_int) fun _ _ => o_ixL) (fun _ => ex_int) fun _ _ => o_modR)) fun _ _ => o_add)) fun _ => lx_cons (ex_var 3) fun _ => lx_cons (EX.as (ex_op op_add (ex_int) (fun _ => (ex_op op_mod (ex_ix L2.ix_list (ex_var 2) (fun _ => ex_int) fun _ _ => o_ixL) (fun _ => ex_int) fun _ _ => o_modR)) fun _ _ => o_add)) fun _ => lx_nil)) (fun _ => rfl)⟩

abbrev s_l_values : Stmt := topS 19
abbrev N_l_values : List Str := ["_law_cell_here", "_law_sizes_here", "_law_pixels", "_law_row", "_law_k"]
theorem sc_l_values : FnScope N_l_values ["_law_cell_here", "_law_sizes_here"] (defScope s_l_values) := ⟨rfl, rfl, rfl, by decide +kernel, rfl, by decide +kernel, by decide +kernel⟩
theorem fn_l_values {f : Addr} {fd : FuncData} (F : Fun K "_law_values" "_law_values" s_l_values f fd) (B : Txt K CO T mg) (k_l_numbers : Kn P w K mg base 2 "_law_numbers" ["_law_cell_here", "_law_count", "_law_limit"] (spM 3 T (aCons (fz cInt) (aCons (fz cInt) (aCons (fz cInt) aNil))) (fun x => l_numbers x.1 x.2.1 x.2.2.1) (ol cInt)))  : FnOk P w K mg base (L2.CX P w) 3 f fd ["_law_cell_here", "_law_sizes_here"] (spM 2 T (aCons (fz cInt) (aCons (fz (cList cInt)) aNil)) (fun x => l_values x.1 x.2.1) (ol (cList cInt))) := by
  refine fn_mk F sc_l_values rfl fun cdv Ar outer s H E hr tk hp a ha => ?_
  obtain ⟨cell_here, sizes_here, _⟩ := a
  have nd := sc_l_values.nd
  show ∃ ts, SX _ _ _ _ _ _ ts (α := (List (List Int))) (((idx sizes_here (0 : Int)).bind fun v1 => (idx sizes_here (1 : Int)).bind fun v2 => mul v1 v2).bind fun pixels => ((idx sizes_here (3 : Int)).bind fun v4 => (mul pixels v4).bind fun v5 => (idx sizes_here (2 : Int)).bind fun v6 => (shl (1 : Int) v6).bind fun v7 => l_numbers cell_here v5 v7).bind fun row => (idx sizes_here (3 : Int)).bind fun v9 => (rng 0 v9).bind fun xs10 => mapC (fun (x11 : Int) => (mul pixels x11).bind fun v12 => (mul pixels x11).bind fun v13 => Res.ok (cut row (some v12) (some (v13 + pixels)))) xs10) _
  exact ⟨_, sx_cons (s1_set (i := 2) (R' := fz cInt) (ex_op op_mulX (ex_ix L2.ix_list (ex_var 1) (fun _ => ex_int) fun _ _ => o_ixL) (fun _ => (ex_ix L2.ix_list (ex_var 1) (fun _ => ex_int) fun _ _ => o_ixL)) fun _ _ => o_mul) (hN := nd)) fun pixels => sx_cons (s1_set (i := 3) (R' := fz (cList cInt)) (EX.icy (EX.as (ex_callK k_l_numbers hr tk (fun _ => rfl) (ax_cons (ex_var 0) fun _ => ax_cons (ex_op op_mulX (ex_var 2) (fun _ => (ex_ix L2.ix_list (ex_var 1) (fun _ => ex_int) fun _ _ => o_ixL)) fun _ _ => o_mul) fun _ => ax_cons (ex_op op_shlW (ex_int) (fun _ => (ex_ix L2.ix_list (ex_var 1) (fun _ => ex_int) fun _ _ => o_ixL)) fun _ _ => o_shl) fun _ => ax_nil) (fun _ => arg_cons (arg_cons (arg_cons (arg_nil)))) (fun _ => wk_rep rfl)))) (hN := nd)) fun row => sx_ret (ex_lc (f := fun _ (x11 : Int) => (mul pixels x11).bind fun v12 => (mul pixels x11).bind fun v13 => Res.ok (cut row (some v12) (some (v13 + pixels)))) (own := [("_law_k", 4)]) (c := (cList cInt)) (Γe := List.replicate 5 none) nd (ix_range1 (AX.as (ax_cons (ex_ix L2.ix_list (ex_var 1) (fun _ => ex_int) fun _ _ => o_ixL) fun _ => ax_nil)) B.b_range) (blkOk_by (N := N_l_values) (sc := defScope s_l_values) (by decide +kernel)) (fun _ _ _ _ _ _ _ => gx_name (i := 4) nd) (fun _ _ _ _ _ _ x11 => (EX.icy (EX.as (ex_slice L2.sl_list (ex_var 3) (fun _ => (eo_some (EX.as (ex_op op_mulX (ex_var 2) (fun _ => (ex_var 4)) fun _ _ => o_mul)))) (fun _ _ => (eo_some (EX.as (ex_op op_add (ex_op op_mulX (ex_var 2) (fun _ => (ex_var 4)) fun _ _ => o_mul) (fun _ => (ex_var 2)) fun _ _ => o_add)))) (fun _ _ _ => sl_l (c := cInt)))))) (hd := fun _ _ => (wkm [true, true, true, true, false]))) (fun _ => rfl)⟩

abbrev s_l_spoilt : Stmt := topS 22
abbrev N_l_spoilt : List Str := ["_law_kind", "_law_at", "_law_sizes_here", "_law_values_here", "_law_row"]
theorem sc_l_spoilt : FnScope N_l_spoilt ["_law_kind", "_law_at", "_law_sizes_here", "_law_values_here"] (defScope s_l_spoilt) := ⟨rfl, rfl, rfl, by decide +kernel, rfl, by decide +kernel, by decide +kernel⟩
theorem fn_l_spoilt {f : Addr} {fd : FuncData} (F : Fun K "_law_spoilt" "_law_spoilt" s_l_spoilt f fd) (B : Txt K CO T mg)   : FnOk P w K mg base (L2.CX P w) 1 f fd ["_law_kind", "_law_at", "_law_sizes_here", "_law_values_here"] (spX fun (ob2p : Addr) => spX fun (ob3p : Addr) => spB 4 T (aCons (fz cInt) (aCons (fz cInt) (aCons (fun b => atP ob2p (ol cInt b)) (aCons (fun b => atP ob3p (oll cInt b)) (aNil))))) (fun x => [none, none, some ob2p, some ob3p]) (fun _ => True) (fun x => l_spoilt x.1 x.2.1 x.2.2.1 x.2.2.2.1) (fun _ (rq : (Tx × (List Int) × (List (List Int)))) => fz cTx rq.1) (fun x (rq : (Tx × (List Int) × (List (List Int)))) => [none, none, some (atP ob2p (ol cInt rq.2.1)), some (atP ob3p (oll cInt rq.2.2))]) (fun x => [none, none, some (hole (.ref ob2p)), some (hole (.ref ob3p))])) := by
  refine fnOk_ex fun ob2p => fnOk_ex fun ob3p => fn_mkB F sc_l_spoilt rfl (fun _ => ⟨pin_hole, pin_hole, trivial⟩) fun cdv Ar outer s H E hr tk hp a ha _ => ?_
  obtain ⟨kind, at_, sizes_here, values_here, _⟩ := a
  have nd := sc_l_spoilt.nd
  show ∃ ts, SX _ _ _ _ _ _ ts (α := (Tx × (List Int) × (List (List Int)))) ((((Res.ok (values_here.length : Int) : Res Int).calm).bind fun v1 => fmod at_ v1 : Res Int).bind fun k4 => (idx values_here k4).bind fun row => (if decide (kind = (1 : Int)) then ((idx ([(0 : Int), (65 : Int), (-(1 : Int))] : List Int) (at_ % (3 : Int))).bind fun v5 => setI sizes_here (0 : Int) v5).bind fun sizes_here => Res.ok sizes_here else Res.ok sizes_here : Res ((List Int))).bind fun s6 => (if decide (kind = (2 : Int)) then ((idx ([(0 : Int), (9 : Int), (-(1 : Int))] : List Int) (at_ % (3 : Int))).bind fun v7 => setI s6 (2 : Int) v7).bind fun sizes_here => Res.ok sizes_here else Res.ok s6 : Res ((List Int))).bind fun s8 => (if decide (kind = (3 : Int)) then ((idx ([(0 : Int), (2 : Int), (4 : Int)] : List Int) (at_ % (3 : Int))).bind fun v9 => setI s8 (3 : Int) v9).bind fun sizes_here => Res.ok sizes_here else Res.ok s8 : Res ((List Int))).bind fun s10 => (if decide (kind = (4 : Int)) then ((idx s10 (2 : Int)).bind fun v11 => (shl (1 : Int) v11).bind fun v12 => (idx ([(-(1 : Int)), v12] : List Int) (at_ % (2 : Int))).bind fun v13 => (fmod at_ (row.length : Int)).bind fun v14 => setI row v14 v13).bind fun row => Res.ok row else Res.ok row : Res ((List Int))).bind fun s15 => (if decide (kind = (5 : Int)) then (push s15 (0 : Int) : Res (List Int)).bind fun row => Res.ok row else Res.ok s15 : Res ((List Int))).bind fun s16 => (if decide (kind = (6 : Int)) then ((popL s16).bind fun r17 => Res.ok r17.2).bind fun row => Res.ok row else Res.ok s16 : Res ((List Int))).bind fun s18 => (if decide (kind = (7 : Int)) then (push (lput values_here k4 s18) s18 : Res (List (List Int))).bind fun values_here => Res.ok values_here else Res.ok (lput values_here k4 s18) : Res ((List (List Int)))).bind fun s19 => (if decide (kind = (8 : Int)) then ((idx ([(0 : Int), (65 : Int), (-(3 : Int))] : List Int) (at_ % (3 : Int))).bind fun v20 => setI s10 (1 : Int) v20).bind fun sizes_here => Res.ok sizes_here else Res.ok s10 : Res ((List Int))).bind fun s21 => (if decide (kind = (9 : Int)) then ((popL s19).bind fun r22 => Res.ok r22.2).bind fun values_here => Res.ok values_here else Res.ok s19 : Res ((List (List Int)))).bind fun s23 => (idx ([(tx ""), (tx "width"), (tx "depth"), (tx "channels"), (tx "values"), (tx "values"), (tx "values"), (tx "values"), (tx "height"), (tx "values")] : List Tx) kind).bind fun v24 => Res.ok (v24, s21, s23)) _
  exact ⟨_, sx_rowLP (D := ob3p) (n := 3) (jj := 4) (c := cInt) (ex_op op_mod (ex_var 1) (fun _ => (ex_bor (Γy := List.replicate 5 none) (Γo := fun _ => [some (fz cInt kind), some (fz cInt at_), some (atP ob2p (ol cInt sizes_here)), some (atP ob3p (oll cInt values_here)), none]) (Γzo := fun _ => [none, none, none, some (fz (cList (cList cInt)) values_here), none]) (fun _ => BR.out (BR.out (BR.out (BR.ice (icy_at icy_oll) fzn_fz (BR.out (BR.nil)))))) (EX.nfv (mn := (Res.ok (values_here.length : Int) : Res Int)) (R' := fz cInt) (Γs := [none, none, none, some (fz (cList (cList cInt)) values_here), none]) (ex_callB call_len_seq B.b_len PySem.boot_len (ax_cons (ex_var 3) fun _ => ax_nil) fun _ => b_len)) (fun _ => gfr_int))) fun _ _ => o_mod) (fun k4 row p3 => sx_cons (s1_if (I := fun (s6 : (List Int)) => .nx [some (fz cInt kind), some (fz cInt at_), some (atP ob2p (ol cInt s6)), some (atP ob3p (ols (lput (values_here.map (ol cInt)) k4 (hole (.ref p3))))), some (atP p3 (ol cInt row))]) (et_cmp op_eq (ex_var 0) (fun _ => ex_int) (fun _ _ => o_eq eqs_int) (nomark _)) (sx_cons (s1_setIP (pp := ob2p) (i := 2) (c := cInt) (ex_ix L2.ix_list (EX.icy (EX.as (ex_lst (c := cInt) (lx_cons (ex_int) fun _ => lx_cons (ex_int) fun _ => lx_cons (EX.as (ex_un un_neg (ex_int) fun _ => o_neg)) fun _ => lx_nil)))) (fun _ => (ex_op op_mod (ex_var 1) (fun _ => ex_int) fun _ _ => o_modR)) fun _ _ => o_ixL) (fun _ => ex_int)) fun sizes_here => sx_nil ((wkm [true, true, true, true, true]))) (sx_nil ((wkm [true, true, true, true, true])))) fun s6 => sx_cons (s1_if (I := fun (s8 : (List Int)) => .nx [some (fz cInt kind), some (fz cInt at_), some (atP ob2p (ol cInt s8)), some (atP ob3p (ols (lput (values_here.map (ol cInt)) k4 (hole (.ref p3))))), some (atP p3 (ol cInt row))]) (et_cmp op_eq (ex_var 0) (fun _ => ex_int) (fun _ _ => o_eq eqs_int) (nomark _)) (sx_cons (s1_setIP (pp := ob2p) (i := 2) (c := cInt) (ex_ix L2.ix_list (EX.icy (EX.as (ex_lst (c := cInt) (lx_cons (ex_int) fun _ => lx_cons (ex_int) fun _ => lx_cons (EX.as (ex_un un_neg (ex_int) fun _ => o_neg)) fun _ => lx_nil)))) (fun _ => (ex_op op_mod (ex_var 1) (fun _ => ex_int) fun _ _ => o_modR)) fun _ _ => o_ixL) (fun _ => ex_int)) fun sizes_here => sx_nil ((wkm [true, true, true, true, true]))) (sx_nil ((wkm [true, true, true, true, true])))) fun s8 => sx_cons (s1_if (I := fun (s10 : (List Int)) => .nx [some (fz cInt kind), some (fz cInt at_), some (atP ob2p (ol cInt s10)), some (atP ob3p (ols (lput (values_here.map (ol cInt)) k4 (hole (.ref p3))))), some (atP p3 (ol cInt row))]) (et_cmp op_eq (ex_var 0) (fun _ => ex_int) (fun _ _ => o_eq eqs_int) (nomark _)) (sx_cons (s1_setIP (pp := ob2p) (i := 2) (c := cInt) (ex_ix L2.ix_list (EX.icy (EX.as (ex_lst (c := cInt) (lx_cons (ex_int) fun _ => lx_cons (ex_int) fun _ => lx_cons (ex_int) fun _ => lx_nil)))) (fun _ => (ex_op op_mod (ex_var 1) (fun _ => ex_int) fun _ _ => o_modR)) fun _ _ => o_ixL) (fun _ => ex_int)) fun sizes_here => sx_nil ((wkm [true, true, true, true, true]))) (sx_nil ((wkm [true, true, true, true, true])))) fun s10 => sx_cons (s1_if (I := fun (s15 : (List Int)) => .nx [some (fz cInt kind), some (fz cInt at_), some (atP ob2p (ol cInt s10)), some (atP ob3p (ols (lput (values_here.map (ol cInt)) k4 (hole (.ref p3))))), some (atP p3 (ol cInt s15))]) (et_cmp op_eq (ex_var 0) (fun _ => ex_int) (fun _ _ => o_eq eqs_int) (nomark _)) (sx_cons (s1_setIP (pp := p3) (i := 4) (c := cInt) (ex_ix L2.ix_list (EX.icy (EX.as (ex_lst (c := cInt) (lx_cons (EX.as (ex_un un_neg (ex_int) fun _ => o_neg)) fun _ => lx_cons (EX.as (ex_op op_shlW (ex_int) (fun _ => (ex_ixB (c := cInt) (bx_slot 2 (rds_lp rds_atL)) (ex_int))) fun _ _ => o_shl)) fun _ => lx_nil)))) (fun _ => (ex_op op_mod (ex_var 1) (fun _ => ex_int) fun _ _ => o_modR)) fun _ _ => o_ixL) (fun _ => (ex_op op_mod (ex_var 1) (fun _ => (ex_lenB (c := cInt) (bx_slot 4 rds_atP) B.b_len)) fun _ _ => o_mod))) fun row => sx_nil ((wkm [true, true, true, true, true]))) (sx_nil ((wkm [true, true, true, true, true])))) fun s15 => sx_cons (s1_if (I := fun (s16 : (List Int)) => .nx [some (fz cInt kind), some (fz cInt at_), some (atP ob2p (ol cInt s10)), some (atP ob3p (ols (lput (values_here.map (ol cInt)) k4 (hole (.ref p3))))), some (atP p3 (ol cInt s16))]) (et_cmp op_eq (ex_var 0) (fun _ => ex_int) (fun _ _ => o_eq eqs_int) (nomark _)) (sx_cons (s1_exprV (mn := (push s15 (0 : Int) : Res (List Int))) (Γ' := fun (bq : (List Int)) => [some (fz cInt kind), some (fz cInt at_), some (atP ob2p (ol cInt s10)), some (atP ob3p (ols (lput (values_here.map (ol cInt)) k4 (hole (.ref p3))))), some (atP p3 (ol cInt bq))]) (ex_pinned 4 rfl (by exact fun _ => rfl) (ex_push (i := 4) (c := cInt) (ex_int)))) fun row => sx_nil ((wkm [true, true, true, true, true]))) (sx_nil ((wkm [true, true, true, true, true])))) fun s16 => sx_cons (s1_if (I := fun (s18 : (List Int)) => .nx [some (fz cInt kind), some (fz cInt at_), some (atP ob2p (ol cInt s10)), some (atP ob3p (ols (lput (values_here.map (ol cInt)) k4 (hole (.ref p3))))), some (atP p3 (ol cInt s18))]) (et_cmp op_eq (ex_var 0) (fun _ => ex_int) (fun _ _ => o_eq eqs_int) (nomark _)) (sx_cons (s1_exprV (mn := ((popL s16).bind fun r17 => Res.ok r17.2 : Res (List Int))) (Γ' := fun (bq : (List Int)) => [some (fz cInt kind), some (fz cInt at_), some (atP ob2p (ol cInt s10)), some (atP ob3p (ols (lput (values_here.map (ol cInt)) k4 (hole (.ref p3))))), some (atP p3 (ol cInt bq))]) (ex_pinned 4 rfl (by exact fun _ => rfl) (ex_popO 4 (c := cInt)))) fun row => sx_nil ((wkm [true, true, true, true, true]))) (sx_nil ((wkm [true, true, true, true, true])))) fun s18 => sx_cons (s1_if (I := fun (s19 : (List (List Int))) => .nx [some (fz cInt kind), some (fz cInt at_), some (atP ob2p (ol cInt s10)), some (atP ob3p (oll cInt s19)), none]) (et_cmp op_eq (ex_var 0) (fun _ => ex_int) (fun _ _ => o_eq eqs_int) (nomark _)) (sx_cons (s1_exprV (mn := (push (lput values_here k4 s18) s18 : Res (List (List Int)))) (Γ' := fun (values_here : (List (List Int))) => [some (fz cInt kind), some (fz cInt at_), some (atP ob2p (ol cInt s10)), some (atP ob3p (oll cInt values_here)), none]) (ex_pushLP (i := 3) (jj := 4) (D := ob3p) (c := cInt) (xs := values_here) (k := k4) (p := p3) (r := s18) (mn := (push (lput values_here k4 s18) s18 : Res (List (List Int)))) rfl rfl (by decide) (ex_listB (c := cInt) (bx_slot 4 rds_atP) B.b_list))) fun values_here => sx_nil ((wkm [true, true, true, true, false]))) (sx_nil (Wk.trans (wk_rowLP (n := 3) (jj := 4) rfl rfl (by decide)) ((wkm [true, true, true, true, false]))))) fun s19 => sx_cons (s1_if (I := fun (s21 : (List Int)) => .nx [some (fz cInt kind), some (fz cInt at_), some (atP ob2p (ol cInt s21)), some (atP ob3p (oll cInt s19)), none]) (et_cmp op_eq (ex_var 0) (fun _ => ex_int) (fun _ _ => o_eq eqs_int) (nomark _)) (sx_cons (s1_setIP (pp := ob2p) (i := 2) (c := cInt) (ex_ix L2.ix_list (EX.icy (EX.as (ex_lst (c := cInt) (lx_cons (ex_int) fun _ => lx_cons (ex_int) fun _ => lx_cons (EX.as (ex_un un_neg (ex_int) fun _ => o_neg)) fun _ => lx_nil)))) (fun _ => (ex_op op_mod (ex_var 1) (fun _ => ex_int) fun _ _ => o_modR)) fun _ _ => o_ixL) (fun _ => ex_int)) fun sizes_here => sx_nil ((wkm [true, true, true, true, false]))) (sx_nil ((wkm [true, true, true, true, false])))) fun s21 => sx_cons (s1_if (I := fun (s23 : (List (List Int))) => .nx [some (fz cInt kind), some (fz cInt at_), some (atP ob2p (ol cInt s21)), some (atP ob3p (oll cInt s23)), none]) (et_cmp op_eq (ex_var 0) (fun _ => ex_int) (fun _ _ => o_eq eqs_int) (nomark _)) (sx_cons (s1_exprV (mn := ((popL s19).bind fun r22 => Res.ok r22.2 : Res (List (List Int)))) (Γ' := fun (bq : (List (List Int))) => [some (fz cInt kind), some (fz cInt at_), some (atP ob2p (ol cInt s21)), some (atP ob3p (oll cInt bq)), none]) (ex_pinned 3 rfl (by exact fun _ => rfl) (ex_popLL 3 (c := cInt)))) fun values_here => sx_nil ((wkm [true, true, true, true, false]))) (sx_nil ((wkm [true, true, true, true, false])))) fun s23 => sx_retB (R' := fun (rq : (Tx × (List Int) × (List (List Int)))) => fz cTx rq.1) (P := [none, none, some ob2p, some ob3p]) (B := fun (rq : (Tx × (List Int) × (List (List Int)))) => [none, none, some (atP ob2p (ol cInt rq.2.1)), some (atP ob3p (oll cInt rq.2.2))]) (Γr := List.replicate 1 none) (g := fun r => r) (hb := Bd.at') (EX.nf2 (mn := ((idx ([(tx ""), (tx "width"), (tx "depth"), (tx "channels"), (tx "values"), (tx "values"), (tx "values"), (tx "values"), (tx "height"), (tx "values")] : List Tx) kind).bind fun v24 => Res.ok (v24, s21, s23) : Res (Tx × (List Int) × (List (List Int))))) (R' := fz cTx) (Γs := fun (bq1 : (List Int)) (bq2 : (List (List Int))) => [some (fz cInt kind), some (fz cInt at_), some (atP ob2p (ol cInt bq1)), some (atP ob3p (oll cInt bq2)), none]) (ex_ix L2.ix_list (EX.icy (EX.as (ex_lst (c := cTx) (lx_cons (ex_str) fun _ => lx_cons (ex_str) fun _ => lx_cons (ex_str) fun _ => lx_cons (ex_str) fun _ => lx_cons (ex_str) fun _ => lx_cons (ex_str) fun _ => lx_cons (ex_str) fun _ => lx_cons (ex_str) fun _ => lx_cons (ex_str) fun _ => lx_cons (ex_str) fun _ => lx_nil)))) (fun _ => (ex_var 0)) fun _ _ => o_ixL)) (fun _ => (wkm [false, false, true, true, false])) (fun _ => ⟨pin_at, pin_at, trivial⟩)) nd⟩

abbrev s_p_check_shape : Stmt := topS 9
abbrev N_p_check_shape : List Str := ["width", "height", "depth", "channels"]
theorem sc_p_check_shape : FnScope N_p_check_shape ["width", "height", "depth", "channels"] (defScope s_p_check_shape) := ⟨rfl, rfl, rfl, by decide +kernel, rfl, by decide +kernel, by decide +kernel⟩
theorem fn_p_check_shape {f : Addr} {fd : FuncData} (F : Fun K "check_shape" "check_shape" s_p_check_shape f fd) (B : Txt K CO T mg)  (k_oor : KnO P w K mg base "OutOfRange" T.oor (spOor T.oor))  : FnOk P w K mg base (L2.CX P w) 3 f fd ["width", "height", "depth", "channels"] (spM 4 T (aCons (fz cInt) (aCons (fz cInt) (aCons (fz cInt) (aCons (fz cInt) aNil)))) (fun x => p_check_shape x.1 x.2.1 x.2.2.1 x.2.2.2.1) (fun _ => sN)) := by
  refine fn_mkN F sc_p_check_shape rfl fun cdv Ar outer s H E hr tk hp a ha => ?_
  obtain ⟨width, height, depth, channels, _⟩ := a
  have nd := sc_p_check_shape.nd
  show ∃ ts, SX _ _ _ _ _ _ ts (α := Unit) (if (!(decide ((1 : Int) ≤ width) && decide (width ≤ (64 : Int)))) then Res.exn (.oor (tx "width")) else if (!(decide ((1 : Int) ≤ height) && decide (height ≤ (64 : Int)))) then Res.exn (.oor (tx "height")) else if (!(decide ((1 : Int) ≤ depth) && decide (depth ≤ (8 : Int)))) then Res.exn (.oor (tx "depth")) else if ((!decide (channels = (1 : Int))) && (!decide (channels = (3 : Int)))) then Res.exn (.oor (tx "channels")) else Res.ok ()) _
  exact ⟨_, sx_ifraise (mA := Res.exn (.oor (tx "width"))) (IA := fun e => e.elim) (et_not (et_chain op_le op_le (ex_int) (fun _ => (ex_var 0)) (fun _ _ => (EX.as (ex_globE (c := cInt) B.g_SIDE_MOST (fun _ => rfl)))))) (sx_oor k_oor hr tk (AX.as (ax_cons (ex_str) fun _ => ax_nil)) (fun _ => wk_rep rfl)) (sx_ifraise (mA := Res.exn (.oor (tx "height"))) (IA := fun e => e.elim) (et_not (et_chain op_le op_le (ex_int) (fun _ => (ex_var 1)) (fun _ _ => (EX.as (ex_globE (c := cInt) B.g_SIDE_MOST (fun _ => rfl)))))) (sx_oor k_oor hr tk (AX.as (ax_cons (ex_str) fun _ => ax_nil)) (fun _ => wk_rep rfl)) (sx_ifraise (mA := Res.exn (.oor (tx "depth"))) (IA := fun e => e.elim) (et_not (et_chain op_le op_le (ex_int) (fun _ => (ex_var 2)) (fun _ _ => (EX.as (ex_globE (c := cInt) B.g_DEPTH_MOST (fun _ => rfl)))))) (sx_oor k_oor hr tk (AX.as (ax_cons (ex_str) fun _ => ax_nil)) (fun _ => wk_rep rfl)) (sx_ifraise (mA := Res.exn (.oor (tx "channels"))) (IA := fun e => e.elim) (et_ew (ew_and (et_cmp op_ne (ex_var 3) (fun _ => ex_int) (fun _ _ => o_ne eqs_int) (nomark _)) (fun _ => (ew_and1 (et_cmp op_ne (ex_var 3) (fun _ => ex_int) (fun _ _ => o_ne eqs_int) (nomark _)))))) (sx_oor k_oor hr tk (AX.as (ax_cons (ex_str) fun _ => ax_nil)) (fun _ => wk_rep rfl)) (sx_nil (wkm [false, false, false, false])))))⟩

abbrev s_p_check_size : Stmt := topS 10
abbrev N_p_check_size : List Str := ["width", "height", "channels"]
theorem sc_p_check_size : FnScope N_p_check_size ["width", "height", "channels"] (defScope s_p_check_size) := ⟨rfl, rfl, rfl, by decide +kernel, rfl, by decide +kernel, by decide +kernel⟩
theorem fn_p_check_size {f : Addr} {fd : FuncData} (F : Fun K "check_size" "check_size" s_p_check_size f fd) (B : Txt K CO T mg)  (k_oor : KnO P w K mg base "OutOfRange" T.oor (spOor T.oor))  : FnOk P w K mg base (L2.CX P w) 3 f fd ["width", "height", "channels"] (spM 3 T (aCons (fz cInt) (aCons (fz cInt) (aCons (fz cInt) aNil))) (fun x => p_check_size x.1 x.2.1 x.2.2.1) (fun _ => sN)) := by
  refine fn_mkN F sc_p_check_size rfl fun cdv Ar outer s H E hr tk hp a ha => ?_
  obtain ⟨width, height, channels, _⟩ := a
  have nd := sc_p_check_size.nd
  show ∃ ts, SX _ _ _ _ _ _ ts (α := Unit) (((mul width height).bind fun v1 => (mul v1 channels).bind fun v2 => Res.ok (decide ((3072 : Int) < v2))).bind fun b3 => if b3 then Res.exn (.oor (tx "size")) else Res.ok ()) _
  exact ⟨_, sx_ifraiseM (mA := Res.exn (.oor (tx "size"))) (IA := fun e => e.elim) (et_cmp op_gt (ex_op op_mulX (ex_op op_mulX (ex_var 0) (fun _ => (ex_var 1)) fun _ _ => o_mul) (fun _ => (ex_var 2)) fun _ _ => o_mul) (fun _ => (ex_globE (c := cInt) B.g_VALUES_MOST (fun _ => rfl))) (fun _ _ => o_gt) (nomark _)) (sx_oor k_oor hr tk (AX.as (ax_cons (ex_str) fun _ => ax_nil)) (fun _ => wk_rep rfl)) (sx_nil (wkm [false, false, false]))⟩

abbrev s_p_are_values_ : Stmt := topS 12
abbrev N_p_are_values_ : List Str := ["pixels", "depth", "channels", "values", "beyond", "row", "value"]
theorem sc_p_are_values_ : FnScope N_p_are_values_ ["pixels", "depth", "channels", "values"] (defScope s_p_are_values_) := ⟨rfl, rfl, rfl, by decide +kernel, rfl, by decide +kernel, by decide +kernel⟩
theorem fn_p_are_values_ {f : Addr} {fd : FuncData} (F : Fun K "_are_values" "_are_values" s_p_are_values_ f fd) (B : Txt K CO T mg)   : FnOk P w K mg base (L2.CX P w) 1 f fd ["pixels", "depth", "channels", "values"] (spM 4 T (aCons (fz cInt) (aCons (fz cInt) (aCons (fz cInt) (aCons (fz (cList (cList cInt))) aNil)))) (fun x => p_are_values_ x.1 x.2.1 x.2.2.1 x.2.2.2.1) (fz cBool)) := by
  refine fn_mk F sc_p_are_values_ rfl fun cdv Ar outer s H E hr tk hp a ha => ?_
  obtain ⟨pixels, depth, channels, values, _⟩ := a
  have nd := sc_p_are_values_.nd
  show ∃ ts, SX _ _ _ _ _ _ ts (α := Bool) (if (!decide ((values.length : Int) = channels)) then Res.ok false else (shl (1 : Int) depth).bind fun beyond => withCtl (loop (B := Bool) (fun (x2 : (List Int)) (s3 : Unit) => if (!decide ((x2.length : Int) = pixels)) then (Res.ok false).bind fun a => Res.ok (.ret a) else thenCtl (loop (B := Bool) (fun (x4 : Int) (s5 : Unit) => if (!(decide ((0 : Int) ≤ x4) && decide (x4 < beyond))) then (Res.ok false).bind fun a => Res.ok (.ret a) else Res.ok (.nx ())) x2 () : Res (Ctl (Unit) Bool)) fun s5 => Res.ok (.nx ())) values () : Res (Ctl (Unit) Bool)) fun s3 => Res.ok true) _
  exact ⟨_, sx_ifret (et_cmp op_ne (ex_callB call_len_seq B.b_len PySem.boot_len (ax_cons (ex_var 3) fun _ => ax_nil) fun _ => b_len) (fun _ => (ex_var 2)) (fun _ _ => o_ne eqs_int) (nomark _)) (sx_ret (ex_bl) (fun _ => rfl)) (sx_cons (s1_set (i := 4) (R' := fz cInt) (ex_op op_shlW (ex_int) (fun _ => (ex_var 1)) fun _ _ => o_shl) (hN := nd)) fun beyond => sx_with (s1_forC (s0 := fun _ => ()) (f := fun (x2 : (List Int)) (s3 : Unit) => if (!decide ((x2.length : Int) = pixels)) then (Res.ok false).bind fun a => Res.ok (.ret a) else thenCtl (loop (B := Bool) (fun (x4 : Int) (s5 : Unit) => if (!(decide ((0 : Int) ≤ x4) && decide (x4 < beyond))) then (Res.ok false).bind fun a => Res.ok (.ret a) else Res.ok (.nx ())) x2 () : Res (Ctl (Unit) Bool)) fun s5 => Res.ok (.nx ())) (Γn := fun (s3 : Unit) => [some (fz cInt pixels), some (fz cInt depth), some (fz cInt channels), some (fz (cList (cList cInt)) values), some (fz cInt beyond), none, none]) (RB := fz cBool) (LB := fun _ => []) (ix_list (c := (cList cInt)) (ex_var 3)) (fun s3 x2 => gx_name (i := 5) nd) (fun x2 s3 => sx_ifretCp (j := Ctl.ret) (et_cmp op_ne (ex_callB call_len_seq B.b_len PySem.boot_len (ax_cons (ex_var 5) fun _ => ax_nil) fun _ => b_len) (fun _ => (ex_var 0)) (fun _ _ => o_ne eqs_int) (nomark _)) (sx_ret (ex_bl) (fun _ => rfl)) (sx_then (s1_forC (s0 := fun _ => ()) (f := fun (x4 : Int) (s5 : Unit) => if (!(decide ((0 : Int) ≤ x4) && decide (x4 < beyond))) then (Res.ok false).bind fun a => Res.ok (.ret a) else Res.ok (.nx ())) (Γn := fun (s5 : Unit) => [some (fz cInt pixels), some (fz cInt depth), some (fz cInt channels), some (fz (cList (cList cInt)) values), some (fz cInt beyond), some (fz (cList cInt) x2), none]) (RB := fz cBool) (LB := fun _ => []) (ix_list (c := cInt) (ex_var 5)) (fun s5 x4 => gx_name (i := 6) nd) (fun x4 s5 => sx_ifretCp (j := Ctl.ret) (et_not (et_chain op_le op_lt (ex_int) (fun _ => (ex_var 6)) (fun _ _ => (ex_var 4)))) (sx_ret (ex_bl) (fun _ => rfl)) (sx_nilC ((wkm [true, true, true, true, true, true, false])))) (fun _ => (wkm [true, true, true, true, true, true, false])) hp) fun s5 => sx_nilC ((wkm [true, true, true, true, true, false, false])))) (fun _ => (wkm [true, true, true, true, true, false, false])) hp) fun s3 => sx_ret (ex_bl) (fun _ => rfl))⟩

abbrev s_p_Picture___init__ : Stmt := inClass (topS 13) 0
abbrev N_p_Picture___init__ : List Str := ["self", "width", "height", "depth", "channels", "values", "row"]
theorem sc_p_Picture___init__ : FnScope N_p_Picture___init__ ["self", "width", "height", "depth", "channels", "values"] (defScope s_p_Picture___init__) := ⟨rfl, rfl, rfl, by decide +kernel, rfl, by decide +kernel, by decide +kernel⟩
theorem fn_p_Picture___init__ {f : Addr} {fd : FuncData} (F : Fun K "__init__" "Picture.__init__" s_p_Picture___init__ f fd) (B : Txt K CO T mg) (k_p_check_shape : Kn P w K mg base 3 "check_shape" ["width", "height", "depth", "channels"] (spM 4 T (aCons (fz cInt) (aCons (fz cInt) (aCons (fz cInt) (aCons (fz cInt) aNil)))) (fun x => p_check_shape x.1 x.2.1 x.2.2.1 x.2.2.2.1) (fun _ => sN))) (k_p_check_size : Kn P w K mg base 3 "check_size" ["width", "height", "channels"] (spM 3 T (aCons (fz cInt) (aCons (fz cInt) (aCons (fz cInt) aNil))) (fun x => p_check_size x.1 x.2.1 x.2.2.1) (fun _ => sN))) (k_p_are_values_ : Kn P w K mg base 1 "_are_values" ["pixels", "depth", "channels", "values"] (spM 4 T (aCons (fz cInt) (aCons (fz cInt) (aCons (fz cInt) (aCons (fz (cList (cList cInt))) aNil)))) (fun x => p_are_values_ x.1 x.2.1 x.2.2.1 x.2.2.2.1) (fz cBool))) (k_oor : KnO P w K mg base "OutOfRange" T.oor (spOor T.oor))  : FnOk P w K mg base (L2.CX P w) 4 f fd ["self", "width", "height", "depth", "channels", "values"] (spX fun (ob5p : Addr) => spX fun (values : (List (List Int))) => spB 6 T (aMk CO.c_Picture (aCons (fz cInt) (aCons (fz cInt) (aCons (fz cInt) (aCons (fz cInt) (aConsR (atP ob5p (oll cInt values)) (aNil))))))) (fun x => [some x.1, none, none, none, none, some ob5p]) (fun _ => True) (fun x => p_Picture___init__ x.2.2.1 x.2.2.2.1 x.2.2.2.2.1 x.2.2.2.2.2.1 values) (fun _ _ => sN) (fun x (rq : C.Picture) => [some (atP x.1 (oob CO.c_Picture (fl_Picture K CO rq))), none, none, none, none, some (atP ob5p (oll cInt values))]) (fun x => [some (hole (.ref x.1)), none, none, none, none, some (atP ob5p (oll cInt values))])) := by
  refine fnOk_ex fun ob5p => fnOk_ex fun values => fn_mkBN F sc_p_Picture___init__ rfl (fun _ => ⟨pin_hole, pin_at, trivial⟩) (fun _ _ => ⟨pin_at, pin_at, trivial⟩) fun cdv Ar outer s H E hr tk hp a ha _ => ?_
  obtain ⟨ob0p, ob0d, width, height, depth, channels, _⟩ := a
  have nd := sc_p_Picture___init__.nd
  show ∃ ts, SX _ _ _ _ _ _ ts (α := C.Picture) ((p_check_shape width height depth channels).bind fun _ => (p_check_size width height channels).bind fun _ => ((((mul width height).bind fun v3 => p_are_values_ v3 depth channels values : Res Bool).calm).bind fun v5 => Res.ok (!v5)).bind fun b22 => if b22 then Res.exn (.oor (tx "values")) else (Res.ok width).bind fun f6 => (Res.ok height).bind fun f9 => (Res.ok depth).bind fun f12 => (Res.ok channels).bind fun f15 => ((mapC (fun (x18 : (List Int)) => Res.ok x18) values : Res (List (List Int))).calm).bind fun f21 => Res.ok (f6, f9, f12, f15, f21)) _
  exact ⟨_, sx_cons (s1_expr (f := fun _ => ()) (Γ' := fun _ => _) (ex_callK k_p_check_shape hr tk (fun _ => rfl) (ax_cons (ex_var 1) fun _ => ax_cons (ex_var 2) fun _ => ax_cons (ex_var 3) fun _ => ax_cons (ex_var 4) fun _ => ax_nil) (fun _ => arg_cons (arg_cons (arg_cons (arg_cons (arg_nil))))) (fun _ => (wkh (wkd (wkd (wkd (wkd (wkk (wkd wkn))))))))) (fun _ => rfl)) fun _ => sx_cons (s1_expr (f := fun _ => ()) (Γ' := fun _ => _) (ex_callK k_p_check_size hr tk (fun _ => rfl) (ax_cons (ex_var 1) fun _ => ax_cons (ex_var 2) fun _ => ax_cons (ex_var 4) fun _ => ax_nil) (fun _ => arg_cons (arg_cons (arg_cons (arg_nil)))) (fun _ => (wkh (wkd (wkd (wkd (wkd (wkk (wkd wkn))))))))) (fun _ => rfl)) fun _ => sx_ifraiseM (mA := Res.exn (.oor (tx "values"))) (IA := fun e => e.elim) (et_not (et_val (EX.as (ex_bor (Γy := List.replicate 7 none) (Γo := fun _ => [some (oobV CO.c_Picture ob0p ob0d [] []), some (fz cInt width), some (fz cInt height), some (fz cInt depth), some (fz cInt channels), some (atP ob5p (oll cInt values)), none]) (Γzo := fun _ => [none, some (fz cInt width), some (fz cInt height), some (fz cInt depth), some (fz cInt channels), some (fz (cList (cList cInt)) values), none]) (fun _ => BR.out (BR.keep fzn_fz (BR.keep fzn_fz (BR.keep fzn_fz (BR.keep fzn_fz (BR.ice (icy_at icy_oll) fzn_fz (BR.out (BR.nil)))))))) (EX.nfv (mn := ((mul width height).bind fun v3 => p_are_values_ v3 depth channels values : Res Bool)) (R' := fz cBool) (Γs := [none, some (fz cInt width), some (fz cInt height), some (fz cInt depth), some (fz cInt channels), some (fz (cList (cList cInt)) values), none]) (ex_callK k_p_are_values_ hr takes0 (fun _ => rfl) (ax_cons (ex_op op_mulX (ex_var 1) (fun _ => (ex_var 2)) fun _ _ => o_mul) fun _ => ax_cons (ex_var 3) fun _ => ax_cons (ex_var 4) fun _ => ax_cons (ex_var 5) fun _ => ax_nil) (fun _ => arg_cons (arg_cons (arg_cons (arg_cons (arg_nil))))) (fun _ => wk_rep rfl))) (fun _ => gfr_bool))))) (sx_oor k_oor hr tk (AX.as (ax_cons (ex_str) fun _ => ax_nil)) (fun _ => (wkh (wkd (wkd (wkd (wkd (wkk (wkd wkn))))))))) (sx_cons (s1_fldS (i := 0) (s := fz cInt) (Γn := fun (f6 : Int) => [some (atP ob0p (oob CO.c_Picture [("width", fz cInt f6)])), some (fz cInt width), some (fz cInt height), some (fz cInt depth), some (fz cInt channels), some (atP ob5p (oll cInt values)), none]) B.cl_Picture B.na_Picture_width (ex_var 1) (by exact fun _ => rfl) (by exact fun _ => rfl) (by exact fun _ => rfl)) fun f6 => SX.openP 0 rfl (fun d7 h8 => sx_cons (s1_fldS (i := 0) (s := fz cInt) (Γn := fun (f9 : Int) => [some (atP ob0p (oob CO.c_Picture [("width", fz cInt f6), ("height", fz cInt f9)])), some (fz cInt width), some (fz cInt height), some (fz cInt depth), some (fz cInt channels), some (atP ob5p (oll cInt values)), none]) B.cl_Picture B.na_Picture_height (ex_var 2) (by exact fun _ => rfl) (by exact fun _ => rfl) (by exact fun _ => rfl)) fun f9 => SX.openP 0 rfl (fun d10 h11 => sx_cons (s1_fldS (i := 0) (s := fz cInt) (Γn := fun (f12 : Int) => [some (atP ob0p (oob CO.c_Picture [("width", fz cInt f6), ("height", fz cInt f9), ("depth", fz cInt f12)])), some (fz cInt width), some (fz cInt height), some (fz cInt depth), some (fz cInt channels), some (atP ob5p (oll cInt values)), none]) B.cl_Picture B.na_Picture_depth (ex_var 3) (by exact fun _ => rfl) (by exact fun _ => rfl) (by exact fun _ => rfl)) fun f12 => SX.openP 0 rfl (fun d13 h14 => sx_cons (s1_fldS (i := 0) (s := fz cInt) (Γn := fun (f15 : Int) => [some (atP ob0p (oob CO.c_Picture [("width", fz cInt f6), ("height", fz cInt f9), ("depth", fz cInt f12), ("channels", fz cInt f15)])), some (fz cInt width), some (fz cInt height), some (fz cInt depth), some (fz cInt channels), some (atP ob5p (oll cInt values)), none]) B.cl_Picture B.na_Picture_channels (ex_var 4) (by exact fun _ => rfl) (by exact fun _ => rfl) (by exact fun _ => rfl)) fun f15 => SX.openP 0 rfl (fun d16 h17 => sx_cons (s1_fldS (i := 0) (s := fz (cList (cList cInt))) (f := fun (r : (List (List Int))) => r) (Γn := fun (f21 : (List (List Int))) => [some (atP ob0p (oob CO.c_Picture [("width", fz cInt f6), ("height", fz cInt f9), ("depth", fz cInt f12), ("channels", fz cInt f15), ("_rows", fz (cList (cList cInt)) f21)])), some (fz cInt width), some (fz cInt height), some (fz cInt depth), some (fz cInt channels), some (atP ob5p (oll cInt values)), none]) B.cl_Picture B.na_Picture__rows (EX.nfv (mn := ((mapC (fun (x18 : (List Int)) => Res.ok x18) values : Res (List (List Int))).calm : Res (List (List Int)))) (R' := fz (cList (cList cInt))) (Γs := [some (oobV CO.c_Picture ob0p d16 h17 [("width", fz cInt f6), ("height", fz cInt f9), ("depth", fz cInt f12), ("channels", fz cInt f15)]), some (fz cInt width), some (fz cInt height), some (fz cInt depth), some (fz cInt channels), some (atP ob5p (oll cInt values)), none]) (by exact EX.icyL (c := cInt) (ex_bor (Γy := List.replicate 7 none) (Γo := fun _ => [some (oobV CO.c_Picture ob0p d16 h17 [("width", fz cInt f6), ("height", fz cInt f9), ("depth", fz cInt f12), ("channels", fz cInt f15)]), some (fz cInt width), some (fz cInt height), some (fz cInt depth), some (fz cInt channels), some (atP ob5p (oll cInt values)), none]) (Γzo := fun _ => [none, none, none, none, none, some (fz (cList (cList cInt)) values), none]) (fun _ => BR.out (BR.out (BR.out (BR.out (BR.out (BR.ice (icy_at icy_oll) fzn_fz (BR.out (BR.nil)))))))) (EX.nfv (mn := (mapC (fun (x18 : (List Int)) => Res.ok x18) values : Res (List (List Int)))) (R' := oll cInt) (Γs := [none, none, none, none, none, some (fz (cList (cList cInt)) values), none]) (ex_lcF (f := fun _ (x18 : (List Int)) => Res.ok x18) (own := [("row", 6)]) (F := ol cInt) (Γe := List.replicate 7 none) nd (ix_list (c := (cList cInt)) (ex_var 5)) (blkOk_by (N := N_p_Picture___init__) (sc := defScope s_p_Picture___init__) (by decide +kernel)) (fun _ _ _ _ _ _ _ => gx_name (i := 6) nd) (fun _ _ _ _ _ _ x18 => (ex_callTy call_list_of B.b_list PyProof.Rows.boot_list (ax_cons (ex_var 6) fun _ => ax_nil) fun _ => b_list)) (hd := fun _ _ => (wkm [true, true, true, true, true, true, false])))) (fun _ => gfr_oll)))) (by exact fun _ => rfl) (by exact fun _ => rfl) (by exact fun _ => rfl) (hb := Bd.at')) fun f21 => sx_nil (wkm [true, false, false, false, false, true, false]))))))⟩

abbrev s_l_is_int : Stmt := topS 20
abbrev N_l_is_int : List Str := ["_law_actual"]
theorem sc_l_is_int : FnScope N_l_is_int ["_law_actual"] (defScope s_l_is_int) := ⟨rfl, rfl, rfl, by decide +kernel, rfl, by decide +kernel, by decide +kernel⟩
theorem fn_l_is_int {f : Addr} {fd : FuncData} (F : Fun K "_law_is_int" "_law_is_int" s_l_is_int f fd) (B : Txt K CO T mg)   : FnOk P w K mg base (L2.CX P w) 1 f fd ["_law_actual"] (spM 1 T (aCons (fz cInt) aNil) (fun x => l_is_int x.1) (fz cBool)) := by
  refine fn_mk F sc_l_is_int rfl fun cdv Ar outer s H E hr tk hp a ha => ?_
  obtain ⟨actual, _⟩ := a
  have nd := sc_l_is_int.nd
  show ∃ ts, SX _ _ _ _ _ _ ts (α := Bool) (Res.ok (true && (!false))) _
  exact ⟨_, sx_ret (ex_and (EX.as (ex_callB call_isi B.b_isinstance PyProof.Rows.boot_isinstance (ax_cons (ex_var 0) fun _ => ax_cons (ex_ty B.b_int PyProof.Rows.boot_int) fun _ => ax_nil) fun _ => b_isi (isOf_int (b := true) (by decide +kernel)))) (fun _ => (ex_one (EX.as (ex_not (EX.as (ex_callB call_isi B.b_isinstance PyProof.Rows.boot_isinstance (ax_cons (ex_var 0) fun _ => ax_cons (ex_ty B.b_bool PyProof.Rows.boot_bool) fun _ => ax_nil) fun _ => b_isi (isOf_int (b := false) (by decide +kernel))))))))) (fun _ => rfl)⟩

abbrev s_l_are_ints : Stmt := topS 21
abbrev N_l_are_ints : List Str := ["_law_row", "_law_number"]
theorem sc_l_are_ints : FnScope N_l_are_ints ["_law_row"] (defScope s_l_are_ints) := ⟨rfl, rfl, rfl, by decide +kernel, rfl, by decide +kernel, by decide +kernel⟩
theorem fn_l_are_ints {f : Addr} {fd : FuncData} (F : Fun K "_law_are_ints" "_law_are_ints" s_l_are_ints f fd) (B : Txt K CO T mg) (k_l_is_int : Kn P w K mg base 1 "_law_is_int" ["_law_actual"] (spM 1 T (aCons (fz cInt) aNil) (fun x => l_is_int x.1) (fz cBool)))  : FnOk P w K mg base (L2.CX P w) 2 f fd ["_law_row"] (spM 1 T (aCons (fz (cList cInt)) aNil) (fun x => l_are_ints x.1) (fz cBool)) := by
  refine fn_mk F sc_l_are_ints rfl fun cdv Ar outer s H E hr tk hp a ha => ?_
  obtain ⟨row, _⟩ := a
  have nd := sc_l_are_ints.nd
  show ∃ ts, SX _ _ _ _ _ _ ts (α := Bool) (if true then (mapC (fun (x1 : Int) => l_is_int x1) row).bind fun v3 => Res.ok (v3.all id) else Res.ok false) _
  exact ⟨_, sx_ret (ex_andM (EX.as (ex_callB call_isi B.b_isinstance PyProof.Rows.boot_isinstance (ax_cons (ex_var 0) fun _ => ax_cons (ex_ty B.b_list PyProof.Rows.boot_list) fun _ => ax_nil) fun _ => b_isi (isOf_list (b := true) (by decide +kernel)))) (fun _ => (ex_one (EX.as (ex_callB (cr_all rfl) B.b_all PyProof.Rows.boot_all (ax_cons (EX.icy (EX.as (ex_lc (f := fun _ (x1 : Int) => l_is_int x1) (own := [("_law_number", 1)]) (c := cBool) (Γe := List.replicate 2 none) nd (ix_list (c := cInt) (ex_var 0)) (blkOk_by (N := N_l_are_ints) (sc := defScope s_l_are_ints) (by decide +kernel)) (fun _ _ _ _ _ _ _ => gx_name (i := 1) nd) (fun _ _ _ _ _ _ x1 => (ex_callK k_l_is_int hr takes0 (fun _ => rfl) (ax_cons (ex_var 1) fun _ => ax_nil) (fun _ => arg_cons (arg_nil)) (fun _ => wk_rep rfl))) (hd := fun _ _ => (wkm [true, false]))))) fun _ => ax_nil) fun _ => b_all))))) (fun _ => rfl)⟩

abbrev s_p_Picture_rows : Stmt := inClass (topS 13) 3
abbrev N_p_Picture_rows : List Str := ["self", "row"]
theorem sc_p_Picture_rows : FnScope N_p_Picture_rows ["self"] (defScope s_p_Picture_rows) := ⟨rfl, rfl, rfl, by decide +kernel, rfl, by decide +kernel, by decide +kernel⟩
theorem fn_p_Picture_rows {f : Addr} {fd : FuncData} (F : Fun K "rows" "Picture.rows" s_p_Picture_rows f fd) (B : Txt K CO T mg)   : FnOk P w K mg base (L2.CX P w) 1 f fd ["self"] (spX fun (ob0s : Sl) => spX fun (ob0p : Addr) => spX fun (ob0d : Addr) => spX fun (ob0f : List (Str × V)) => spX fun (self : C.Picture) => spX fun (ob0r : Rds ob0s (rpV CO.c_Picture ob0p ob0d ob0f (rp_Picture K CO self))) => spB 1 T (aConsR ob0s (aNil)) (fun x => [some ob0p]) (fun _ => True) (fun x => p_Picture_rows self) (fun _ => oll cInt) (fun x (rq : (List (List Int))) => [some ob0s]) (fun x => [some ob0s])) := by
  refine fnOk_ex fun ob0s => fnOk_ex fun ob0p => fnOk_ex fun ob0d => fnOk_ex fun ob0f => fnOk_ex fun self => fnOk_ex fun ob0r => fn_mkB F sc_p_Picture_rows rfl (fun _ => ⟨pin_ro ob0r, trivial⟩) fun cdv Ar outer s H E hr tk hp a ha _ => ?_
  obtain ⟨_⟩ := a
  have nd := sc_p_Picture_rows.nd
  show ∃ ts, SX _ _ _ _ _ _ ts (α := (List (List Int))) (mapC (fun (x1 : (List Int)) => Res.ok x1) self.2.2.2.2) _
  exact ⟨_, sx_retB (R' := oll cInt) (P := [some ob0p]) (B := fun (rq : (List (List Int))) => [some ob0s]) (Γr := List.replicate 1 none) (ex_lcF (f := fun _ (x1 : (List Int)) => Res.ok x1) (own := [("row", 1)]) (F := ol cInt) (Γe := List.replicate 2 none) nd (ix_list (c := (cList cInt)) (EX.as (ex_bx (c := (cList (cList cInt))) (bx_fld (bx_slot 0 ob0r) B.cl_Picture B.na_Picture__rows)))) (blkOk_by (N := N_p_Picture_rows) (sc := defScope s_p_Picture_rows) (by decide +kernel)) (fun _ _ _ _ _ _ _ => gx_name (i := 1) nd) (fun _ _ _ _ _ _ x1 => (ex_callTy call_list_of B.b_list PyProof.Rows.boot_list (ax_cons (ex_var 1) fun _ => ax_nil) fun _ => b_list)) (hd := fun _ _ => (wkm [true, false]))) (fun _ => (wkm [true, false])) (fun _ => ⟨pin_ro ob0r, trivial⟩)⟩

abbrev s_p_Picture_row : Stmt := inClass (topS 13) 2
abbrev N_p_Picture_row : List Str := ["self", "channel"]
theorem sc_p_Picture_row : FnScope N_p_Picture_row ["self", "channel"] (defScope s_p_Picture_row) := ⟨rfl, rfl, rfl, by decide +kernel, rfl, by decide +kernel, by decide +kernel⟩
theorem fn_p_Picture_row {f : Addr} {fd : FuncData} (F : Fun K "row" "Picture.row" s_p_Picture_row f fd) (B : Txt K CO T mg)   : FnOk P w K mg base (L2.CX P w) 1 f fd ["self", "channel"] (spX fun (ob0s : Sl) => spX fun (ob0p : Addr) => spX fun (ob0d : Addr) => spX fun (ob0f : List (Str × V)) => spX fun (self : C.Picture) => spX fun (ob0r : Rds ob0s (rpV CO.c_Picture ob0p ob0d ob0f (rp_Picture K CO self))) => spB 2 T (aConsR ob0s (aCons (fz cInt) (aNil))) (fun x => [some ob0p, none]) (fun _ => True) (fun x => p_Picture_row self x.1) (fun _ => ol cInt) (fun x (rq : (List Int)) => [some ob0s, none]) (fun x => [some ob0s, none])) := by
  refine fnOk_ex fun ob0s => fnOk_ex fun ob0p => fnOk_ex fun ob0d => fnOk_ex fun ob0f => fnOk_ex fun self => fnOk_ex fun ob0r => fn_mkB F sc_p_Picture_row rfl (fun _ => ⟨pin_ro ob0r, trivial⟩) fun cdv Ar outer s H E hr tk hp a ha _ => ?_
  obtain ⟨channel, _⟩ := a
  have nd := sc_p_Picture_row.nd
  show ∃ ts, SX _ _ _ _ _ _ ts (α := (List Int)) (idx self.2.2.2.2 channel) _
  exact ⟨_, sx_retB (R' := ol cInt) (P := [some ob0p, none]) (B := fun (rq : (List Int)) => [some ob0s, none]) (Γr := List.replicate 0 none) (ex_callTy call_list_of B.b_list PyProof.Rows.boot_list (ax_cons (ex_ix L2.ix_list (ex_bx (c := (cList (cList cInt))) (bx_fld (bx_slot 0 ob0r) B.cl_Picture B.na_Picture__rows)) (fun _ => (ex_var 1)) fun _ _ => o_ixL) fun _ => ax_nil) fun _ => b_list) (fun _ => (wkm [true, false])) (fun _ => ⟨pin_ro ob0r, trivial⟩)⟩

abbrev s_p_Picture_value : Stmt := inClass (topS 13) 1
abbrev N_p_Picture_value : List Str := ["self", "channel", "pixel"]
theorem sc_p_Picture_value : FnScope N_p_Picture_value ["self", "channel", "pixel"] (defScope s_p_Picture_value) := ⟨rfl, rfl, rfl, by decide +kernel, rfl, by decide +kernel, by decide +kernel⟩
theorem fn_p_Picture_value {f : Addr} {fd : FuncData} (F : Fun K "value" "Picture.value" s_p_Picture_value f fd) (B : Txt K CO T mg)   : FnOk P w K mg base (L2.CX P w) 1 f fd ["self", "channel", "pixel"] (spX fun (ob0s : Sl) => spX fun (ob0p : Addr) => spX fun (ob0d : Addr) => spX fun (ob0f : List (Str × V)) => spX fun (self : C.Picture) => spX fun (ob0r : Rds ob0s (rpV CO.c_Picture ob0p ob0d ob0f (rp_Picture K CO self))) => spB 3 T (aConsR ob0s (aCons (fz cInt) (aCons (fz cInt) (aNil)))) (fun x => [some ob0p, none, none]) (fun _ => True) (fun x => p_Picture_value self x.1 x.2.1) (fun _ => fz cInt) (fun x (rq : Int) => [some ob0s, none, none]) (fun x => [some ob0s, none, none])) := by
  refine fnOk_ex fun ob0s => fnOk_ex fun ob0p => fnOk_ex fun ob0d => fnOk_ex fun ob0f => fnOk_ex fun self => fnOk_ex fun ob0r => fn_mkB F sc_p_Picture_value rfl (fun _ => ⟨pin_ro ob0r, trivial⟩) fun cdv Ar outer s H E hr tk hp a ha _ => ?_
  obtain ⟨channel, pixel, _⟩ := a
  have nd := sc_p_Picture_value.nd
  show ∃ ts, SX _ _ _ _ _ _ ts (α := Int) ((idx self.2.2.2.2 channel).bind fun v1 => idx v1 pixel) _
  exact ⟨_, sx_retB (R' := fz cInt) (P := [some ob0p, none, none]) (B := fun (rq : Int) => [some ob0s, none, none]) (Γr := List.replicate 0 none) (ex_ix L2.ix_list (ex_ix L2.ix_list (ex_bx (c := (cList (cList cInt))) (bx_fld (bx_slot 0 ob0r) B.cl_Picture B.na_Picture__rows)) (fun _ => (ex_var 1)) fun _ _ => o_ixL) (fun _ => (ex_var 2)) fun _ _ => o_ixL) (fun _ => (wkm [true, false, false])) (fun _ => ⟨pin_ro ob0r, trivial⟩)⟩

abbrev s_l_holds : Stmt := topS 23
abbrev N_l_holds : List Str := ["_law_picture", "_law_sizes_here", "_law_values_here", "_law_rows", "_law_channel", "_law_pixel", "_law_told", "_law_row"]
theorem sc_l_holds : FnScope N_l_holds ["_law_picture", "_law_sizes_here", "_law_values_here"] (defScope s_l_holds) := ⟨rfl, rfl, rfl, by decide +kernel, rfl, by decide +kernel, by decide +kernel⟩
theorem fn_l_holds {f : Addr} {fd : FuncData} (F : Fun K "_law_holds" "_law_holds" s_l_holds f fd) (B : Txt K CO T mg) (k_l_are_ints : Kn P w K mg base 2 "_law_are_ints" ["_law_row"] (spM 1 T (aCons (fz (cList cInt)) aNil) (fun x => l_are_ints x.1) (fz cBool))) (k_p_Picture_rows : KnM P w K mg base 1 CO.c_Picture "rows" ["self"] (spX fun (ob0s : Sl) => spX fun (ob0p : Addr) => spX fun (ob0d : Addr) => spX fun (ob0f : List (Str × V)) => spX fun (self : C.Picture) => spX fun (ob0r : Rds ob0s (rpV CO.c_Picture ob0p ob0d ob0f (rp_Picture K CO self))) => spB 1 T (aConsR ob0s (aNil)) (fun x => [some ob0p]) (fun _ => True) (fun x => p_Picture_rows self) (fun _ => oll cInt) (fun x (rq : (List (List Int))) => [some ob0s]) (fun x => [some ob0s]))) (k_p_Picture_row : KnM P w K mg base 1 CO.c_Picture "row" ["self", "channel"] (spX fun (ob0s : Sl) => spX fun (ob0p : Addr) => spX fun (ob0d : Addr) => spX fun (ob0f : List (Str × V)) => spX fun (self : C.Picture) => spX fun (ob0r : Rds ob0s (rpV CO.c_Picture ob0p ob0d ob0f (rp_Picture K CO self))) => spB 2 T (aConsR ob0s (aCons (fz cInt) (aNil))) (fun x => [some ob0p, none]) (fun _ => True) (fun x => p_Picture_row self x.1) (fun _ => ol cInt) (fun x (rq : (List Int)) => [some ob0s, none]) (fun x => [some ob0s, none]))) (k_p_Picture_value : KnM P w K mg base 1 CO.c_Picture "value" ["self", "channel", "pixel"] (spX fun (ob0s : Sl) => spX fun (ob0p : Addr) => spX fun (ob0d : Addr) => spX fun (ob0f : List (Str × V)) => spX fun (self : C.Picture) => spX fun (ob0r : Rds ob0s (rpV CO.c_Picture ob0p ob0d ob0f (rp_Picture K CO self))) => spB 3 T (aConsR ob0s (aCons (fz cInt) (aCons (fz cInt) (aNil)))) (fun x => [some ob0p, none, none]) (fun _ => True) (fun x => p_Picture_value self x.1 x.2.1) (fun _ => fz cInt) (fun x (rq : Int) => [some ob0s, none, none]) (fun x => [some ob0s, none, none]))) (k_l_is_int : Kn P w K mg base 1 "_law_is_int" ["_law_actual"] (spM 1 T (aCons (fz cInt) aNil) (fun x => l_is_int x.1) (fz cBool)))  : FnOk P w K mg base (L2.CX P w) 3 f fd ["_law_picture", "_law_sizes_here", "_law_values_here"] (spX fun (ob0s : Sl) => spX fun (ob0p : Addr) => spX fun (ob0d : Addr) => spX fun (ob0f : List (Str × V)) => spX fun (picture : C.Picture) => spX fun (ob0r : Rds ob0s (rpV CO.c_Picture ob0p ob0d ob0f (rp_Picture K CO picture))) => spB 3 T (aConsR ob0s (aCons (fz (cList cInt)) (aCons (fz (cList (cList cInt))) (aNil)))) (fun x => [some ob0p, none, none]) (fun _ => True) (fun x => l_holds picture x.1 x.2.1) (fun _ => fz cBool) (fun x (rq : Bool) => [some ob0s, none, none]) (fun x => [some ob0s, none, none])) := by
  refine fnOk_ex fun ob0s => fnOk_ex fun ob0p => fnOk_ex fun ob0d => fnOk_ex fun ob0f => fnOk_ex fun picture => fnOk_ex fun ob0r => fn_mkB F sc_l_holds rfl (fun _ => ⟨pin_ro ob0r, trivial⟩) fun cdv Ar outer s H E hr tk hp a ha _ => ?_
  obtain ⟨sizes_here, values_here, _⟩ := a
  have nd := sc_l_holds.nd
  show ∃ ts, SX _ _ _ _ _ _ ts (α := Bool) (((l_are_ints ([picture.1, picture.2.1, picture.2.2.1, picture.2.2.2.1] : List Int)).bind fun v1 => Res.ok (!v1)).bind fun b28 => if b28 then Res.ok false else if (!decide (([picture.1, picture.2.1, picture.2.2.1, picture.2.2.2.1] : List Int) = (cut sizes_here none (some (4 : Int))))) then Res.ok false else (p_Picture_rows picture).bind fun rows => (if (!true) then Res.ok true else (mapC (fun (x3 : (List Int)) => l_are_ints x3) rows).bind fun v5 => Res.ok ((!(v5.all id)) || (!decide (rows = values_here)))).bind fun b27 => if b27 then Res.ok false else withCtl ((idx sizes_here (3 : Int)).bind fun v7 => (rng 0 v7).bind fun xs8 => loop (B := Bool) (fun (x9 : Int) (s10 : Unit) => ((p_Picture_row picture x9).bind fun v11 => (l_are_ints v11).bind fun v12 => if (!v12) then Res.ok true else (p_Picture_row picture x9).bind fun v13 => (idx values_here x9).bind fun v14 => Res.ok (!decide (v13 = v14))).bind fun b26 => if b26 then (Res.ok false).bind fun a => Res.ok (.ret a) else thenCtl ((idx values_here x9).bind fun v16 => (idx values_here x9).bind fun v17 => loop (B := Bool) (fun (x18 : Int) (s19 : Unit) => (p_Picture_value picture x9 x18).bind fun told => ((l_is_int told).bind fun v21 => if (!v21) then Res.ok true else (idx values_here x9).bind fun v22 => (idx v22 x18).bind fun v23 => Res.ok (!decide (told = v23))).bind fun b25 => if b25 then (Res.ok false).bind fun a => Res.ok (.ret a) else Res.ok (.nx ())) ([(0 : Int), ((v16.length : Int) / (2 : Int)), ((v17.length : Int) - (1 : Int))] : List Int) () : Res (Ctl (Unit) Bool)) fun s19 => Res.ok (.nx ())) xs8 () : Res (Ctl (Unit) Bool)) fun s10 => Res.ok true) _
  exact ⟨_, sx_ifretM (et_not (et_val (EX.as (ex_callK k_l_are_ints hr tk (fun _ => rfl) (ax_cons (EX.icy (EX.as (ex_lst (c := cInt) (lx_cons (EX.as (ex_bx (c := cInt) (bx_fld (bx_slot 0 ob0r) B.cl_Picture B.na_Picture_width))) fun _ => lx_cons (EX.as (ex_bx (c := cInt) (bx_fld (bx_slot 0 ob0r) B.cl_Picture B.na_Picture_height))) fun _ => lx_cons (EX.as (ex_bx (c := cInt) (bx_fld (bx_slot 0 ob0r) B.cl_Picture B.na_Picture_depth))) fun _ => lx_cons (EX.as (ex_bx (c := cInt) (bx_fld (bx_slot 0 ob0r) B.cl_Picture B.na_Picture_channels))) fun _ => lx_nil)))) fun _ => ax_nil) (fun _ => arg_cons (arg_nil)) (fun _ => (wkm [true, false, false, false, false, false, false, false])))))) (sx_retB (R' := fz cBool) (P := [some ob0p, none, none]) (B := fun (rq : Bool) => [some ob0s, none, none]) (Γr := List.replicate 5 none) (ex_bl) (fun _ => (wkm [true, false, false, false, false, false, false, false])) (fun _ => ⟨pin_ro ob0r, trivial⟩)) (sx_ifret (et_cmp (op_neP hr.units) (EX.icy (EX.as (ex_lst (c := cInt) (lx_cons (EX.as (ex_bx (c := cInt) (bx_fld (bx_slot 0 ob0r) B.cl_Picture B.na_Picture_width))) fun _ => lx_cons (EX.as (ex_bx (c := cInt) (bx_fld (bx_slot 0 ob0r) B.cl_Picture B.na_Picture_height))) fun _ => lx_cons (EX.as (ex_bx (c := cInt) (bx_fld (bx_slot 0 ob0r) B.cl_Picture B.na_Picture_depth))) fun _ => lx_cons (EX.as (ex_bx (c := cInt) (bx_fld (bx_slot 0 ob0r) B.cl_Picture B.na_Picture_channels))) fun _ => lx_nil)))) (fun _ => (EX.icy (EX.as (ex_slice L2.sl_list (ex_var 1) (fun _ => eo_none) (fun _ _ => (eo_some (ex_int))) (fun _ _ _ => sl_l (c := cInt)))))) (fun _ _ => o_neP (eqd_list eqd_int) (eqd_list eqd_int) (datp_list datp_int)) (nomark _)) (sx_retB (R' := fz cBool) (P := [some ob0p, none, none]) (B := fun (rq : Bool) => [some ob0s, none, none]) (Γr := List.replicate 5 none) (ex_bl) (fun _ => (wkm [true, false, false, false, false, false, false, false])) (fun _ => ⟨pin_ro ob0r, trivial⟩)) (sx_cons (s1_set (i := 3) (R' := fz (cList (cList cInt))) (EX.icy (EX.icyI (c := cInt) (EX.as (ex_methG0 0 _ k_p_Picture_rows (spi_ex ob0s (spi_ex ob0p (spi_ex ob0d (spi_ex ob0f (spi_ex picture (spi_ex ob0r (spi_rf))))))) B.cl_Picture hr tk ob0r ⟨pin_ro ob0r, trivial⟩ trivial ((wkm [true, false, false, false, false, false, false, false])) (hA := ag_ro (ag_nil)))))) (hN := nd)) fun rows => sx_ifretM (et_ew (ew_orM (et_not (et_val (EX.as (ex_callB call_isi B.b_isinstance PyProof.Rows.boot_isinstance (ax_cons (ex_var 3) fun _ => ax_cons (ex_ty B.b_list PyProof.Rows.boot_list) fun _ => ax_nil) fun _ => b_isi (isOf_list (b := true) (by decide +kernel)))))) (fun _ => (ew_or (et_not (et_val (EX.as (ex_callB (cr_all rfl) B.b_all PyProof.Rows.boot_all (ax_cons (EX.icy (EX.as (ex_lc (f := fun _ (x3 : (List Int)) => l_are_ints x3) (own := [("_law_row", 7)]) (c := cBool) (Γe := List.replicate 8 none) nd (ix_list (c := (cList cInt)) (ex_var 3)) (blkOk_by (N := N_l_holds) (sc := defScope s_l_holds) (by decide +kernel)) (fun _ _ _ _ _ _ _ => gx_name (i := 7) nd) (fun _ _ _ _ _ _ x3 => (ex_callK k_l_are_ints hr takes0 (fun _ => rfl) (ax_cons (ex_var 7) fun _ => ax_nil) (fun _ => arg_cons (arg_nil)) (fun _ => wk_rep rfl))) (hd := fun _ _ => (wkm [true, true, true, true, true, true, true, false]))))) fun _ => ax_nil) fun _ => b_all)))) (fun _ => (ew_or1 (et_cmp (op_neP hr.units) (ex_var 3) (fun _ => (ex_var 2)) (fun _ _ => o_neP (eqd_list (eqd_list eqd_int)) (eqd_list (eqd_list eqd_int)) (datp_list (datp_list datp_int))) (nomark _)))))))) (sx_retB (R' := fz cBool) (P := [some ob0p, none, none]) (B := fun (rq : Bool) => [some ob0s, none, none]) (Γr := List.replicate 5 none) (ex_bl) (fun _ => (wkm [true, false, false, false, false, false, false, false])) (fun _ => ⟨pin_ro ob0r, trivial⟩)) (sx_with (s1_forC (s0 := fun _ => ()) (f := fun (x9 : Int) (s10 : Unit) => ((p_Picture_row picture x9).bind fun v11 => (l_are_ints v11).bind fun v12 => if (!v12) then Res.ok true else (p_Picture_row picture x9).bind fun v13 => (idx values_here x9).bind fun v14 => Res.ok (!decide (v13 = v14))).bind fun b26 => if b26 then (Res.ok false).bind fun a => Res.ok (.ret a) else thenCtl ((idx values_here x9).bind fun v16 => (idx values_here x9).bind fun v17 => loop (B := Bool) (fun (x18 : Int) (s19 : Unit) => (p_Picture_value picture x9 x18).bind fun told => ((l_is_int told).bind fun v21 => if (!v21) then Res.ok true else (idx values_here x9).bind fun v22 => (idx v22 x18).bind fun v23 => Res.ok (!decide (told = v23))).bind fun b25 => if b25 then (Res.ok false).bind fun a => Res.ok (.ret a) else Res.ok (.nx ())) ([(0 : Int), ((v16.length : Int) / (2 : Int)), ((v17.length : Int) - (1 : Int))] : List Int) () : Res (Ctl (Unit) Bool)) fun s19 => Res.ok (.nx ())) (Γn := fun (s10 : Unit) => [some ob0s, some (fz (cList cInt) sizes_here), some (fz (cList (cList cInt)) values_here), some (fz (cList (cList cInt)) rows), none, none, none, none]) (RB := fz cBool) (LB := fun (rq : Bool) => bk [some ob0p, none, none] [some ob0s, none, none]) (ix_range1 (AX.as (ax_cons (ex_ix L2.ix_list (ex_var 1) (fun _ => ex_int) fun _ _ => o_ixL) fun _ => ax_nil)) B.b_range) (fun s10 x9 => gx_name (i := 4) nd) (fun x9 s10 => sx_ifretC (j := Ctl.ret) (et_ew (ew_orM (et_not (et_val (EX.as (ex_callK k_l_are_ints hr tk (fun _ => rfl) (ax_cons (EX.icy (EX.as (ex_methG 0 _ k_p_Picture_row (spi_ex ob0s (spi_ex ob0p (spi_ex ob0d (spi_ex ob0f (spi_ex picture (spi_ex ob0r (spi_rf))))))) B.cl_Picture hr tk ob0r (lg_cons (ex_var 4) fun _ => lg_nil) (fun _ => ⟨pin_ro ob0r, trivial⟩) (fun _ => trivial) (by exact fun _ => (wkm [true, false, false, false, false, false, false, false])) (hA := fun _ => ag_ro (ag_cons (ag_nil)))))) fun _ => ax_nil) (fun _ => arg_cons (arg_nil)) (fun _ => (wkm [true, false, false, false, false, false, false, false])))))) (fun _ => (ew_or1 (et_cmp (op_neP hr.units) (EX.icy (EX.as (ex_methG 0 _ k_p_Picture_row (spi_ex ob0s (spi_ex ob0p (spi_ex ob0d (spi_ex ob0f (spi_ex picture (spi_ex ob0r (spi_rf))))))) B.cl_Picture hr tk ob0r (lg_cons (ex_var 4) fun _ => lg_nil) (fun _ => ⟨pin_ro ob0r, trivial⟩) (fun _ => trivial) (by exact fun _ => (wkm [true, false, false, false, false, false, false, false])) (hA := fun _ => ag_ro (ag_cons (ag_nil)))))) (fun _ => (ex_ix L2.ix_list (ex_var 2) (fun _ => (ex_var 4)) fun _ _ => o_ixL)) (fun _ _ => o_neP (eqd_list eqd_int) (eqd_list eqd_int) (datp_list datp_int)) (nomark _)))))) (sx_retB (R' := fz cBool) (P := [some ob0p, none, none]) (B := fun (rq : Bool) => [some ob0s, none, none]) (Γr := List.replicate 5 none) (ex_bl) (fun _ => (wkm [true, false, false, false, false, false, false, false])) (fun _ => ⟨pin_ro ob0r, trivial⟩)) (sx_then (s1_forC (s0 := fun _ => ()) (f := fun (x18 : Int) (s19 : Unit) => (p_Picture_value picture x9 x18).bind fun told => ((l_is_int told).bind fun v21 => if (!v21) then Res.ok true else (idx values_here x9).bind fun v22 => (idx v22 x18).bind fun v23 => Res.ok (!decide (told = v23))).bind fun b25 => if b25 then (Res.ok false).bind fun a => Res.ok (.ret a) else Res.ok (.nx ())) (Γn := fun (s19 : Unit) => [some ob0s, some (fz (cList cInt) sizes_here), some (fz (cList (cList cInt)) values_here), some (fz (cList (cList cInt)) rows), some (fz cInt x9), none, none, none]) (RB := fz cBool) (LB := fun (rq : Bool) => bk [some ob0p, none, none] [some ob0s, none, none]) (ix_list (c := cInt) (EX.icy (EX.as (ex_lst (c := cInt) (lx_cons (ex_int) fun _ => lx_cons (EX.as (ex_op op_fdiv (ex_callB call_len_seq B.b_len PySem.boot_len (ax_cons (ex_ix L2.ix_list (ex_var 2) (fun _ => (ex_var 4)) fun _ _ => o_ixL) fun _ => ax_nil) fun _ => b_len) (fun _ => ex_int) fun _ _ => o_fdivR)) fun _ => lx_cons (EX.as (ex_op op_sub (ex_callB call_len_seq B.b_len PySem.boot_len (ax_cons (ex_ix L2.ix_list (ex_var 2) (fun _ => (ex_var 4)) fun _ _ => o_ixL) fun _ => ax_nil) fun _ => b_len) (fun _ => ex_int) fun _ _ => o_sub)) fun _ => lx_nil))))) (fun s19 x18 => gx_name (i := 5) nd) (fun x18 s19 => sx_cons (s1_set (i := 6) (R' := fz cInt) (ex_methG 0 _ k_p_Picture_value (spi_ex ob0s (spi_ex ob0p (spi_ex ob0d (spi_ex ob0f (spi_ex picture (spi_ex ob0r (spi_rf))))))) B.cl_Picture hr tk ob0r (lg_cons (ex_var 4) fun _ => lg_cons (ex_var 5) fun _ => lg_nil) (fun _ => ⟨pin_ro ob0r, trivial⟩) (fun _ => trivial) (by exact fun _ => (wkm [true, false, false, false, false, false, false, false])) (hA := fun _ => ag_ro (ag_cons (ag_cons (ag_nil))))) (hN := nd)) fun told => sx_ifretC (j := Ctl.ret) (et_ew (ew_orM (et_not (et_val (EX.as (ex_callK k_l_is_int hr tk (fun _ => rfl) (ax_cons (ex_var 6) fun _ => ax_nil) (fun _ => arg_cons (arg_nil)) (fun _ => (wkm [true, false, false, false, false, false, false, false])))))) (fun _ => (ew_or1 (et_cmp op_ne (ex_var 6) (fun _ => (ex_ix L2.ix_list (ex_ix L2.ix_list (ex_var 2) (fun _ => (ex_var 4)) fun _ _ => o_ixL) (fun _ => (ex_var 5)) fun _ _ => o_ixL)) (fun _ _ => o_ne eqs_int) (nomark _)))))) (sx_retB (R' := fz cBool) (P := [some ob0p, none, none]) (B := fun (rq : Bool) => [some ob0s, none, none]) (Γr := List.replicate 5 none) (ex_bl) (fun _ => (wkm [true, false, false, false, false, false, false, false])) (fun _ => ⟨pin_ro ob0r, trivial⟩)) (sx_nilC ((wkm [true, true, true, true, true, false, false, false])))) (fun _ => (wkm [true, true, true, true, true, false, false, false])) hp) fun s19 => sx_nilC ((wkm [true, true, true, true, false, false, false, false])))) (fun _ => (wkm [true, true, true, true, false, false, false, false])) hp) fun s10 => sx_retB (R' := fz cBool) (P := [some ob0p, none, none]) (B := fun (rq : Bool) => [some ob0s, none, none]) (Γr := List.replicate 5 none) (ex_bl) (fun _ => (wkm [true, false, false, false, false, false, false, false])) (fun _ => ⟨pin_ro ob0r, trivial⟩))))⟩

abbrev s_law : Stmt := topS 24
abbrev N_law : List Str := ["_law_script", "_law_sizes_here", "_law_values_here", "_law_passed", "_law_numbers_here", "_law_pick", "_law_kind", "_law_expected", "_law_name", "_law_picture", "e", "_law_told", "_law_first", "_law_row"]
theorem sc_law : FnScope N_law ["_law_script"] (defScope s_law) := ⟨rfl, rfl, rfl, by decide +kernel, rfl, by decide +kernel, by decide +kernel⟩
theorem fn_law {f : Addr} {fd : FuncData} (F : Fun K "law" "law" s_law f fd) (B : Txt K CO T mg) (k_l_cell : Kn P w K mg base 1 "_law_cell" ["_law_script", "_law_k"] (spM 2 T (aCons (fz (cSq K cInt)) (aCons (fz cInt) aNil)) (fun x => l_cell x.1 x.2.1) (fz cInt))) (k_l_sizes : Kn P w K mg base 3 "_law_sizes" ["_law_cell_here", "_law_most"] (spM 2 T (aCons (fz cInt) (aCons (fz cInt) aNil)) (fun x => l_sizes x.1 x.2.1) (ol cInt))) (k_l_values : Kn P w K mg base 3 "_law_values" ["_law_cell_here", "_law_sizes_here"] (spM 2 T (aCons (fz cInt) (aCons (fz (cList cInt)) aNil)) (fun x => l_values x.1 x.2.1) (ol (cList cInt)))) (k_l_numbers : Kn P w K mg base 2 "_law_numbers" ["_law_cell_here", "_law_count", "_law_limit"] (spM 3 T (aCons (fz cInt) (aCons (fz cInt) (aCons (fz cInt) aNil))) (fun x => l_numbers x.1 x.2.1 x.2.2.1) (ol cInt))) (k_l_spoilt : Kn P w K mg base 1 "_law_spoilt" ["_law_kind", "_law_at", "_law_sizes_here", "_law_values_here"] (spX fun (ob2p : Addr) => spX fun (ob3p : Addr) => spB 4 T (aCons (fz cInt) (aCons (fz cInt) (aCons (fun b => atP ob2p (ol cInt b)) (aCons (fun b => atP ob3p (oll cInt b)) (aNil))))) (fun x => [none, none, some ob2p, some ob3p]) (fun _ => True) (fun x => l_spoilt x.1 x.2.1 x.2.2.1 x.2.2.2.1) (fun _ (rq : (Tx × (List Int) × (List (List Int)))) => fz cTx rq.1) (fun x (rq : (Tx × (List Int) × (List (List Int)))) => [none, none, some (atP ob2p (ol cInt rq.2.1)), some (atP ob3p (oll cInt rq.2.2))]) (fun x => [none, none, some (hole (.ref ob2p)), some (hole (.ref ob3p))]))) (k_p_Picture___init__ : KnC P w K mg base 4 "Picture" CO.c_Picture ["self", "width", "height", "depth", "channels", "values"] (spX fun (ob5p : Addr) => spX fun (values : (List (List Int))) => spB 6 T (aMk CO.c_Picture (aCons (fz cInt) (aCons (fz cInt) (aCons (fz cInt) (aCons (fz cInt) (aConsR (atP ob5p (oll cInt values)) (aNil))))))) (fun x => [some x.1, none, none, none, none, some ob5p]) (fun _ => True) (fun x => p_Picture___init__ x.2.2.1 x.2.2.2.1 x.2.2.2.2.1 x.2.2.2.2.2.1 values) (fun _ _ => sN) (fun x (rq : C.Picture) => [some (atP x.1 (oob CO.c_Picture (fl_Picture K CO rq))), none, none, none, none, some (atP ob5p (oll cInt values))]) (fun x => [some (hole (.ref x.1)), none, none, none, none, some (atP ob5p (oll cInt values))]))) (k_l_holds : Kn P w K mg base 3 "_law_holds" ["_law_picture", "_law_sizes_here", "_law_values_here"] (spX fun (ob0s : Sl) => spX fun (ob0p : Addr) => spX fun (ob0d : Addr) => spX fun (ob0f : List (Str × V)) => spX fun (picture : C.Picture) => spX fun (ob0r : Rds ob0s (rpV CO.c_Picture ob0p ob0d ob0f (rp_Picture K CO picture))) => spB 3 T (aConsR ob0s (aCons (fz (cList cInt)) (aCons (fz (cList (cList cInt))) (aNil)))) (fun x => [some ob0p, none, none]) (fun _ => True) (fun x => l_holds picture x.1 x.2.1) (fun _ => fz cBool) (fun x (rq : Bool) => [some ob0s, none, none]) (fun x => [some ob0s, none, none]))) (k_p_Picture_row : KnM P w K mg base 1 CO.c_Picture "row" ["self", "channel"] (spX fun (ob0s : Sl) => spX fun (ob0p : Addr) => spX fun (ob0d : Addr) => spX fun (ob0f : List (Str × V)) => spX fun (self : C.Picture) => spX fun (ob0r : Rds ob0s (rpV CO.c_Picture ob0p ob0d ob0f (rp_Picture K CO self))) => spB 2 T (aConsR ob0s (aCons (fz cInt) (aNil))) (fun x => [some ob0p, none]) (fun _ => True) (fun x => p_Picture_row self x.1) (fun _ => ol cInt) (fun x (rq : (List Int)) => [some ob0s, none]) (fun x => [some ob0s, none]))) (k_p_Picture_rows : KnM P w K mg base 1 CO.c_Picture "rows" ["self"] (spX fun (ob0s : Sl) => spX fun (ob0p : Addr) => spX fun (ob0d : Addr) => spX fun (ob0f : List (Str × V)) => spX fun (self : C.Picture) => spX fun (ob0r : Rds ob0s (rpV CO.c_Picture ob0p ob0d ob0f (rp_Picture K CO self))) => spB 1 T (aConsR ob0s (aNil)) (fun x => [some ob0p]) (fun _ => True) (fun x => p_Picture_rows self) (fun _ => oll cInt) (fun x (rq : (List (List Int))) => [some ob0s]) (fun x => [some ob0s])))  : FnOk P w K mg base (L2.CX P w) 6 f fd ["_law_script"] (spM 1 T (aCons (fz (cSq K cInt)) aNil) (fun x => law x.1) (fz cBool)) := by
  refine fn_mk F sc_law rfl fun cdv Ar outer s H E hr tk hp a ha => ?_
  obtain ⟨script, _⟩ := a
  have nd := sc_law.nd
  show ∃ ts, SX _ _ _ _ _ _ ts (α := Bool) (((l_cell script (0 : Int)).bind fun v1 => (l_cell script (1 : Int)).bind fun v2 => l_sizes v1 (if decide ((v2 % (4 : Int)) = (1 : Int)) then (64 : Int) else (5 : Int))).bind fun sizes_here => ((l_cell script (2 : Int)).bind fun v4 => l_values v4 sizes_here).bind fun values_here => (mapC (fun (x6 : (List Int)) => Res.ok x6) values_here).bind fun passed => (Res.ok sizes_here).bind fun numbers_here => ((l_cell script (3 : Int)).bind fun v8 => l_numbers v8 (2 : Int) (14000 : Int)).bind fun pick => ((idx pick (0 : Int)).bind fun v10 => Res.ok (max2 (0 : Int) ((v10 % (14 : Int)) - (4 : Int)))).bind fun kind => ((idx pick (1 : Int)).bind fun v13 => (l_spoilt kind v13 numbers_here passed).bind fun v14 => Res.ok (v14.1, v14.2.2, v14.2.1)).bind fun r15 => (Res.ok (tx "")).bind fun name => (Res.ok none).bind fun picture => (tryR (((idx r15.2.2 (0 : Int)).bind fun v17 => (idx r15.2.2 (1 : Int)).bind fun v18 => (idx r15.2.2 (2 : Int)).bind fun v19 => (idx r15.2.2 (3 : Int)).bind fun v20 => (p_Picture___init__ v17 v18 v19 v20 r15.2.1).bind fun v21 => Res.ok (some v21)).bind fun picture => Res.ok (picture, name) : Res ((Option C.Picture) × Tx)) fun ex => if Exn.isO ex then some (((exName ex).bind fun v22 => if (true && (!((Exn.isC 3) ex))) then exName ex else Res.ok (tx "odd")).bind fun name => Res.ok (picture, name)) else none : Res ((Option C.Picture) × Tx)).bind fun s25 => if decide ((0 : Int) < kind) then Res.ok (s25.1.isNone && (decide (s25.2 = r15.1))) else (if s25.1.isNone then Res.ok true else (unopt s25.1).bind fun v26 => (l_holds v26 sizes_here values_here).bind fun v27 => Res.ok (!v27)).bind fun b40 => if b40 then Res.ok false else ((idx r15.2.1 (0 : Int)).bind fun r29 => ((Res.ok (0 : Int) : Res Int).calm).bind fun j30 => (setI r29 j30 (-(5 : Int))).bind fun r31 => Res.ok (lput r15.2.1 (0 : Int) r31)).bind fun passed => (push passed ([] : List Int)).bind fun passed => ((unopt s25.1).bind fun v32 => p_Picture_row v32 (0 : Int)).bind fun told => (setI told (0 : Int) (-(5 : Int))).bind fun told => ((unopt s25.1).bind fun v34 => p_Picture_rows v34).bind fun told__2 => (Res.ok (0 : Int) : Res Int).bind fun k37 => (idx told__2 k37).bind fun first => (setI first (0 : Int) (-(5 : Int))).bind fun first => (push (lput told__2 k37 first) ([] : List Int) : Res (List (List Int))).bind fun told__2 => (unopt s25.1).bind fun v38 => l_holds v38 sizes_here values_here) _
  exact ⟨_, sx_cons (s1_set (i := 1) (R' := fz (cList cInt)) (EX.icy (EX.as (ex_callK k_l_sizes hr tk (fun _ => rfl) (ax_cons (ex_callK k_l_cell hr tk (fun _ => rfl) (ax_cons (ex_var 0) fun _ => ax_cons (ex_int) fun _ => ax_nil) (fun _ => arg_cons (arg_cons (arg_nil))) (fun _ => wk_rep rfl)) fun _ => ax_cons (ex_if (r := fz cInt) (et_cmp op_eq (ex_op op_mod (ex_callK k_l_cell hr tk (fun _ => rfl) (ax_cons (ex_var 0) fun _ => ax_cons (ex_int) fun _ => ax_nil) (fun _ => arg_cons (arg_cons (arg_nil))) (fun _ => wk_rep rfl)) (fun _ => ex_int) fun _ _ => o_modR) (fun _ => ex_int) (fun _ _ => o_eq eqs_int) (nomark _)) (fun _ => ex_int) (fun _ => ex_int)) fun _ => ax_nil) (fun _ => arg_cons (arg_cons (arg_nil))) (fun _ => wk_rep rfl)))) (hN := nd)) fun sizes_here => sx_cons (s1_set (i := 2) (R' := fz (cList (cList cInt))) (EX.icy (EX.as (ex_callK k_l_values hr tk (fun _ => rfl) (ax_cons (ex_callK k_l_cell hr tk (fun _ => rfl) (ax_cons (ex_var 0) fun _ => ax_cons (ex_int) fun _ => ax_nil) (fun _ => arg_cons (arg_cons (arg_nil))) (fun _ => wk_rep rfl)) fun _ => ax_cons (ex_var 1) fun _ => ax_nil) (fun _ => arg_cons (arg_cons (arg_nil))) (fun _ => wk_rep rfl)))) (hN := nd)) fun values_here => sx_cons (s1_asgLcF (i := 3) (f := fun _ (x6 : (List Int)) => Res.ok x6) (own := [("_law_row", 13)]) (F := ol cInt) (Γe := List.replicate 14 none) nd rfl rfl (sw_true rfl rfl rfl (by decide +kernel)) (ix_list (c := (cList cInt)) (ex_var 2)) (blkOk_by (N := N_law) (sc := defScope s_law) (by decide +kernel)) (fun _ _ _ _ _ _ _ => gx_name (i := 13) nd) (fun _ _ _ _ _ _ x6 => (ex_callTy call_list_of B.b_list PyProof.Rows.boot_list (ax_cons (ex_var 13) fun _ => ax_nil) fun _ => b_list)) (hd := fun _ _ => (wkm [true, true, true, true, true, true, true, true, true, true, true, true, true, false]))) fun passed => SX.re (Γ' := [some (fz (cSq K cInt) script), some (fz (cList cInt) sizes_here), some (fz (cList (cList cInt)) values_here), some (oll cInt passed), none, none, none, none, none, none, none, none, none, none]) rfl (sx_cons (s1_set (i := 4) (R' := ol cInt) (ex_callTy call_list_of B.b_list PyProof.Rows.boot_list (ax_cons (ex_var 1) fun _ => ax_nil) fun _ => b_list) (hN := nd)) fun numbers_here => sx_cons (s1_set (i := 5) (R' := fz (cList cInt)) (EX.icy (EX.as (ex_callK k_l_numbers hr tk (fun _ => rfl) (ax_cons (ex_callK k_l_cell hr tk (fun _ => rfl) (ax_cons (ex_var 0) fun _ => ax_cons (ex_int) fun _ => ax_nil) (fun _ => arg_cons (arg_cons (arg_nil))) (fun _ => wk_rep rfl)) fun _ => ax_cons (ex_int) fun _ => ax_cons (ex_int) fun _ => ax_nil) (fun _ => arg_cons (arg_cons (arg_cons (arg_nil)))) (fun _ => wk_rep rfl)))) (hN := nd)) fun pick => sx_cons (s1_set (i := 6) (R' := fz cInt) (ex_callB (call_max2 rfl) B.b_max PyProof.Rows.boot_max (ax_cons (ex_int) fun _ => ax_cons (ex_op op_sub (ex_op op_mod (ex_ix L2.ix_list (ex_var 5) (fun _ => ex_int) fun _ _ => o_ixL) (fun _ => ex_int) fun _ _ => o_modR) (fun _ => ex_int) fun _ _ => o_sub) fun _ => ax_nil) fun _ => b_max) (hN := nd)) fun kind => SX.re (Γ' := [some (fz (cSq K cInt) script), some (fz (cList cInt) sizes_here), some (fz (cList (cList cInt)) values_here), some (oll cInt passed), some (ol cInt numbers_here), some (fz (cList cInt) pick), some (fz cInt kind), none, none, none, none, none, none, none]) rfl (SX.pinL 4 rfl (fun p11 => SX.pinLL 3 rfl (fun p12 => sx_cons (s1_asg (i := 7) (f := fun (r : Tx × ((List (List Int)) × (List Int))) => r) (R' := fun (rq : Tx × ((List (List Int)) × (List Int))) => fz cTx rq.1) (Γ' := fun (rq : Tx × ((List (List Int)) × (List Int))) => [some (fz (cSq K cInt) script), some (fz (cList cInt) sizes_here), some (fz (cList (cList cInt)) values_here), some (atP p12 (oll cInt rq.2.1)), some (atP p11 (ol cInt rq.2.2)), some (fz (cList cInt) pick), some (fz cInt kind), none, none, none, none, none, none, none]) (EX.nf2 (mn := ((idx pick (1 : Int)).bind fun v13 => (l_spoilt kind v13 numbers_here passed).bind fun v14 => Res.ok (v14.1, v14.2.2, v14.2.1) : Res (Tx × ((List (List Int)) × (List Int))))) (R' := fz cTx) (Γs := fun (bq0 : (List (List Int))) (bq1 : (List Int)) => [some (fz (cSq K cInt) script), some (fz (cList cInt) sizes_here), some (fz (cList (cList cInt)) values_here), some (atP p12 (oll cInt bq0)), some (atP p11 (ol cInt bq1)), some (fz (cList cInt) pick), some (fz cInt kind), none, none, none, none, none, none, none]) (ex_callG _ k_l_spoilt (spi_ex p11 (spi_ex p12 (spi_rf))) hr tk (lg_cons (ex_var 6) fun _ => lg_cons (ex_ix L2.ix_list (ex_var 5) (fun _ => ex_int) fun _ _ => o_ixL) fun _ => lg_lent 4 (lg_lent 3 (lg_nil))) (fun _ => ⟨pin_at, pin_at, trivial⟩) (fun _ => trivial) (by exact fun _ => wk_rep rfl) (hA := fun _ => ag_cons (ag_cons (ag_cons (s := fun b => atP p11 (ol cInt b)) (ag_cons (s := fun b => atP p12 (oll cInt b)) (ag_nil))))))) (fun _ => rfl) (fun _ => rfl) (fun _ => rfl) nd rfl (by first | exact Or.inl rfl | exact Or.inr rfl) (hb := Bd.at')) fun r15 => SX.unpA 3 rfl (SX.unpA 4 rfl (sx_cons (s1_set (i := 8) (R' := fz cTx) (ex_str) (hN := nd)) fun name => sx_cons (s1_set (i := 9) (R' := fz (cOpt (cobj CO.c_Picture (flZ_Picture K CO)))) (EX.none (ex_non)) (hN := nd)) fun picture => SX.re (Γ' := [some (fz (cSq K cInt) script), some (fz (cList cInt) sizes_here), some (fz (cList (cList cInt)) values_here), some (oll cInt r15.2.1), some (ol cInt r15.2.2), some (fz (cList cInt) pick), some (fz cInt kind), some (fz cTx r15.1), some (fz cTx name), some (fz (cOpt (cobj CO.c_Picture (flZ_Picture K CO))) picture), none, none, none, none]) rfl (sx_cons (s1_try (I := fun (s25 : (Option C.Picture) × Tx) => .nx [some (fz (cSq K cInt) script), some (fz (cList cInt) sizes_here), some (fz (cList (cList cInt)) values_here), some (oll cInt r15.2.1), some (ol cInt r15.2.2), some (fz (cList cInt) pick), some (fz cInt kind), some (fz cTx r15.1), some (fz cTx s25.2), some (fz (cOpt (cobj CO.c_Picture (flZ_Picture K CO))) s25.1), none, none, none, none]) [some (fz (cSq K cInt) script), some (fz (cList cInt) sizes_here), some (fz (cList (cList cInt)) values_here), some (oll cInt r15.2.1), some (ol cInt r15.2.2), some (fz (cList cInt) pick), some (fz cInt kind), some (fz cTx r15.1), some (fz cTx name), some (fz (cOpt (cobj CO.c_Picture (flZ_Picture K CO))) picture), none, none, none, none] tk (fun W pn xe tk hp => ⟨_, SX.pinLL 3 rfl (fun p16 => sx_cons (s1_set (i := 9) (R' := fz (cOpt (cobj CO.c_Picture (flZ_Picture K CO)))) (EX.some (EX.icyM (EX.as (ex_makeG (fl := fl_Picture K CO) _ k_p_Picture___init__ (spi_ex p16 (spi_ex r15.2.1 (spi_rf))) hr tk (lg_cons (ex_ixO 4 (c := cInt) (ex_int)) fun _ => lg_cons (ex_ixO 4 (c := cInt) (ex_int)) fun _ => lg_cons (ex_ixO 4 (c := cInt) (ex_int)) fun _ => lg_cons (ex_ixO 4 (c := cInt) (ex_int)) fun _ => lg_lent 3 (lg_nil)) (fun _ _ _ => ⟨pin_ob, pin_at, trivial⟩) (fun _ _ _ => trivial) (fun _ _ _ => (by exact (wkk (wkk (wkk (wka (wkk (wkk (wkk (wkk (wkk (wkk (wkd (wkd (wkd (wkd wkn)))))))))))))))) (hA := fun _ _ _ => ag_mk (ag_cons (ag_cons (ag_cons (ag_cons (ag_ro (ag_nil))))))))) (by exact fun _ => icy_oob fun _ _ _ => zc_Picture)) nn_obj) (hN := nd)) fun picture => SX.unpA 3 rfl (sx_nil ((wkm [true, true, true, true, true, true, true, true, true, true, false, false, false, false]))))⟩) (hx_as (i := 10) ⟨by rfl, by decide, Or.inl B.n_OutOfRange⟩ B.tl_OutOfRange nd (fun a oe cls d pn hz hf ex => sx_cons (s1_set (i := 8) (R' := fz cTx) (ex_ifM (r := fz cTx) (et_ew (ew_and (et_val (EX.as (ex_callB call_isi B.b_isinstance PyProof.Rows.boot_isinstance (ax_cons (ex_exf B.xf_oor B.nx_name hz hf exn_name exf_name (ex_var 10)) fun _ => ax_cons (ex_ty B.b_str PyProof.Rows.boot_str) fun _ => ax_nil) fun _ => b_isi (isOf_tx (b := true) (by decide +kernel))))) (fun _ => (ew_and1 (et_not (et_val (EX.as (ex_isE 10 B.is_NoFrame hz hf B.b_isinstance (pe_glob (v := .ref CO.c_NoFrame) (by rfl) B.n_NoFrame rfl) (fun w h => by cases h; rfl) PyProof.Rows.boot_isinstance)))))))) (fun _ => (EX.as (ex_exf B.xf_oor B.nx_name hz hf exn_name exf_name (ex_var 10)))) (fun _ => ex_str)) (hN := nd)) fun name => sx_nil ((wkm [true, true, true, true, true, true, true, true, true, true, false, false, false, false]))) (hx_nil)) (wk_rep rfl)) fun s25 => sx_ifret (et_cmp op_gt (ex_var 6) (fun _ => ex_int) (fun _ _ => o_gt) (nomark _)) (sx_ret (ex_and (EX.as (ex_cmp op_isN (ex_var 9) (fun _ => ex_non) (fun _ _ => o_isN) (nomark _))) (fun _ => (ex_one (EX.as (ex_cmp op_eq (ex_var 8) (fun _ => (ex_var 7)) (fun _ _ => o_eq eqs_tx) (nomark _)))))) (fun _ => rfl)) (sx_ifretM (et_ew (ew_orM (et_cmp op_isN (ex_var 9) (fun _ => ex_non) (fun _ _ => o_isN) (nomark _)) (fun _ => (ew_or1 (et_not (et_val (EX.as (ex_callK (Kn.sp (s := spM 3 T (aCons (fz (cobj CO.c_Picture (flZ_Picture K CO))) (aCons (fz (cList cInt)) (aCons (fz (cList (cList cInt))) aNil))) (fun x => l_holds x.1 x.2.1 x.2.2.1) (fz cBool)) (spiM (spi_fz 0 (fun x => x.1) (fun _ => rfl) (fun _ => rfl) (fun _ _ => rfl) (fun _ => rfl) fun x p0 d0 f0 => spi_ex (fzV CO.c_Picture p0 d0 f0 (flZ_Picture K CO) x.1) (spi_ex p0 (spi_ex d0 (spi_ex f0 (spi_ex x.1 (spi_ex (rds_fzV (ft_Picture (K := K) (CO := CO) (b := x.1))) (spi_at (x.2.1, x.2.2.1, ()) (by rfl) (by rfl) (by rfl) (by rfl) (by rfl) (by rfl))))))))) k_l_holds) hr tk (fun _ => rfl) (ax_cons (EX.unopt (ex_var 9)) fun _ => ax_cons (ex_var 1) fun _ => ax_cons (ex_var 2) fun _ => ax_nil) (fun _ => arg_cons (arg_cons (arg_cons (arg_nil)))) (fun _ => wk_rep rfl))))))))) (sx_ret (ex_bl) (fun _ => rfl)) (sx_cons (s1_setLL (n := 3) (c := cInt) (Γe := List.replicate 14 none) (ex_un un_neg (ex_int) fun _ => o_neg) (fun _ => ex_int) (fun _ _ _ _ => ex_int)) fun passed => SX.re (Γ' := [some (fz (cSq K cInt) script), some (fz (cList cInt) sizes_here), some (fz (cList (cList cInt)) values_here), some (oll cInt passed), some (ol cInt r15.2.2), some (fz (cList cInt) pick), some (fz cInt kind), some (fz cTx r15.1), some (fz cTx s25.2), some (fz (cOpt (cobj CO.c_Picture (flZ_Picture K CO))) s25.1), none, none, none, none]) rfl (sx_cons (s1_pushN (i := 3) (c := cInt) (ex_lst (c := cInt) (lx_nil))) fun passed => sx_cons (s1_set (i := 11) (R' := ol cInt) (ex_meth (KnM.sp (s := spM 2 T (aCons (fz (cobj CO.c_Picture (flZ_Picture K CO))) (aCons (fz cInt) aNil)) (fun x => p_Picture_row x.1 x.2.1) (ol cInt)) (spiM (spi_fz 0 (fun x => x.1) (fun _ => rfl) (fun _ => rfl) (fun _ _ => rfl) (fun _ => rfl) fun x p0 d0 f0 => spi_ex (fzV CO.c_Picture p0 d0 f0 (flZ_Picture K CO) x.1) (spi_ex p0 (spi_ex d0 (spi_ex f0 (spi_ex x.1 (spi_ex (rds_fzV (ft_Picture (K := K) (CO := CO) (b := x.1))) (spi_at (x.2.1, ()) (by rfl) (by rfl) (by rfl) (by rfl) (by rfl) (by rfl))))))))) k_p_Picture_row) B.cl_Picture hr tk (fun _ => rfl) (EX.as (EX.unopt (ex_var 9))) (fun _ => (ax_cons (ex_int) fun _ => ax_nil)) (fun _ _ => arg_cons (arg_cons (arg_nil))) (fun _ _ => wk_rep rfl)) (hN := nd)) fun told => sx_cons (s1_setI (i := 11) (c := cInt) (ex_un un_neg (ex_int) fun _ => o_neg) (fun _ => ex_int)) fun told => sx_cons (s1_set (i := 11) (R' := oll cInt) (ex_meth0 (KnM.sp (s := spM 1 T (aCons (fz (cobj CO.c_Picture (flZ_Picture K CO))) aNil) (fun x => p_Picture_rows x.1) (oll cInt)) (spiM (spi_fz 0 (fun x => x.1) (fun _ => rfl) (fun _ => rfl) (fun _ _ => rfl) (fun _ => rfl) fun x p0 d0 f0 => spi_ex (fzV CO.c_Picture p0 d0 f0 (flZ_Picture K CO) x.1) (spi_ex p0 (spi_ex d0 (spi_ex f0 (spi_ex x.1 (spi_ex (rds_fzV (ft_Picture (K := K) (CO := CO) (b := x.1))) (spi_at (()) (by rfl) (by rfl) (by rfl) (by rfl) (by rfl) (by rfl))))))))) k_p_Picture_rows) B.cl_Picture hr tk (fun _ => rfl) (EX.as (EX.unopt (ex_var 9))) (fun _ => arg_cons (arg_nil)) (fun _ => wk_rep rfl)) (hN := nd)) fun told__2 => SX.re (Γ' := [some (fz (cSq K cInt) script), some (fz (cList cInt) sizes_here), some (fz (cList (cList cInt)) values_here), some (oll cInt passed), some (ol cInt r15.2.2), some (fz (cList cInt) pick), some (fz cInt kind), some (fz cTx r15.1), some (fz cTx s25.2), some (fz (cOpt (cobj CO.c_Picture (flZ_Picture K CO))) s25.1), none, some (oll cInt told__2), none, none]) rfl (sx_rowL (n := 11) (jj := 12) (c := cInt) (ex_int) (fun k37 first p36 => sx_cons (s1_setIP (pp := p36) (i := 12) (c := cInt) (ex_un un_neg (ex_int) fun _ => o_neg) (fun _ => ex_int)) fun first => sx_cons (s1_pushB (i := 11) (jj := 12) (c := cInt) (xs := told__2) (k := k37) (p := p36) (r := first) (ex_lst (c := cInt) (lx_nil))) fun told__2 => sx_ret (ex_callK (Kn.sp (s := spM 3 T (aCons (fz (cobj CO.c_Picture (flZ_Picture K CO))) (aCons (fz (cList cInt)) (aCons (fz (cList (cList cInt))) aNil))) (fun x => l_holds x.1 x.2.1 x.2.2.1) (fz cBool)) (spiM (spi_fz 0 (fun x => x.1) (fun _ => rfl) (fun _ => rfl) (fun _ _ => rfl) (fun _ => rfl) fun x p0 d0 f0 => spi_ex (fzV CO.c_Picture p0 d0 f0 (flZ_Picture K CO) x.1) (spi_ex p0 (spi_ex d0 (spi_ex f0 (spi_ex x.1 (spi_ex (rds_fzV (ft_Picture (K := K) (CO := CO) (b := x.1))) (spi_at (x.2.1, x.2.2.1, ()) (by rfl) (by rfl) (by rfl) (by rfl) (by rfl) (by rfl))))))))) k_l_holds) hr tk (fun _ => rfl) (ax_cons (EX.unopt (ex_var 9)) fun _ => ax_cons (ex_var 1) fun _ => ax_cons (ex_var 2) fun _ => ax_nil) (fun _ => arg_cons (arg_cons (arg_cons (arg_nil)))) (fun _ => wk_rep rfl)) (fun _ => rfl)) nd)))))))))))⟩
end
end K06
def PySem.W.Fast.tw13830850029824655097 : Unit := ()
def PySem.W.Fast.tw6296238171339290273 : Unit := ()
def PySem.W.Fast.tw13643124462068438267 : Unit := ()
def PySem.W.Fast.tw9260654333153305876 : Unit := ()
def PySem.W.Fast.tw7464844742046066100 : Unit := ()
def PySem.W.Fast.tw17539172744179710463 : Unit := ()
def PySem.W.Fast.tw4935634266699984866 : Unit := ()
def PySem.W.Fast.tw11345976877065487091 : Unit := ()
def PySem.W.Fast.tw11967766441263250015 : Unit := ()
def PySem.W.Fast.tw3563628753740362523 : Unit := ()
def PySem.W.Fast.tw9682345838272073515 : Unit := ()
namespace K06
open PySem L2 R Rt C
section
theorem all_mk {l : PySem.W.OpenLaw} {w : World} {K : PySem.W.Frag} {h : Heap} {mg : Str → Option Value} {fa : Addr} (X : K.In h) (G : h.Ns mainGlobals mg) (hfa : mg "law" = some (.ref fa))
    {C_Picture : Addr} (a_Picture : PySem.W.nsIn K mainGlobals "Picture" = some (some (.ref C_Picture))) (pg_Picture : PySem.W.plainGet K C_Picture Str.empty = true) (hd_Picture : PySem.W.hasDictIn K C_Picture = true) (po_Picture : PySem.W.plainOver K C_Picture = true) (sa_Picture : PySem.W.findIn K (.ref C_Picture) "__setattr__" = some (some (.builtin "object.__setattr__"))) (mk_Picture : PySem.W.makesIn K C_Picture = true) (kc_Picture : PySem.W.keepIn K (.ref C_Picture) = true)
    (na_Picture_width : PySem.W.findIn K (.ref C_Picture) "width" = some none)
    (na_Picture_height : PySem.W.findIn K (.ref C_Picture) "height" = some none)
    (na_Picture_depth : PySem.W.findIn K (.ref C_Picture) "depth" = some none)
    (na_Picture_channels : PySem.W.findIn K (.ref C_Picture) "channels" = some none)
    (na_Picture__rows : PySem.W.findIn K (.ref C_Picture) "_rows" = some none)
    {t_SIDE_MOST : Tok} (g_SIDE_MOST : PySem.W.nsIn K mainGlobals "SIDE_MOST" = some (some (.int 64 t_SIDE_MOST)))
    {t_DEPTH_MOST : Tok} (g_DEPTH_MOST : PySem.W.nsIn K mainGlobals "DEPTH_MOST" = some (some (.int 8 t_DEPTH_MOST)))
    {t_VALUES_MOST : Tok} (g_VALUES_MOST : PySem.W.nsIn K mainGlobals "VALUES_MOST" = some (some (.int 3072 t_VALUES_MOST)))
    {CX NX fX : Addr} {nmX qX : Str} {bsX bmX : List Value} {snX : List Str} {subX : List Value} {abX : Bool} {colX : Option Bool} {ddX : Option Addr} {k0X k1X k2X k3X k5X : Option Value} {odX anX : Option Addr} {slX : Array (Option Value)} {ocX kVX dcX pmX cdX ctX : Value} (aX : PySem.W.nsIn K mainGlobals "OutOfRange" = some (some (.ref CX))) (clX : K.lookup CX = some (excClassObj nmX qX CX NX bsX bmX true snX subX abX colX ddX k0X k1X k2X k3X k5X "ValueError.__new__")) (rvX : PySem.HandSPX.refsVE bmX = true) (saX : PySem.W.findIn K (.ref CX) "__setattr__" = some (some (.builtin "object.__setattr__"))) (exX : PySem.W.subIn K (.ref CX) (.type "BaseException") = some true) (tyX : PySem.W.typeIn K (.ref CX) = some (.type "type")) (kcX : PySem.W.keepIn K (.ref CX) = true) (iX : PySem.W.findIn K (.ref CX) "__init__" = some (some (.ref fX))) (tX : PySem.W.typeIn K (.ref fX) = some (.type "function")) (naX : PySem.W.findIn K (.ref CX) "name" = some none) (lX : K.lookup fX = some ⟨ocX, odX, .func (PySem.W.fnOf "__init__" "OutOfRange.__init__" (defArgs s_oor) (defBody s_oor) (defScope s_oor) .none kVX dcX pmX anX cdX ctX), slX⟩) (cX : PySem.W.codeIn K cdX "OutOfRange.__init__" = true) (kX : PySem.W.keepIn K (.ref fX) = true)
    {f0 : Addr} {oc0 kV0 dc0 pm0 cd0 ct0 : Value} {od0 an0 : Option Addr} {sl0 : Array (Option Value)} (a0 : PySem.W.nsIn K mainGlobals "_law_cell" = some (some (.ref f0))) (l0 : K.lookup f0 = some ⟨oc0, od0, .func (PySem.W.fnOf "_law_cell" "_law_cell" (defArgs s_l_cell) (defBody s_l_cell) (defScope s_l_cell) .none kV0 dc0 pm0 an0 cd0 ct0), sl0⟩) (c0 : PySem.W.codeIn K cd0 "_law_cell" = true) (k0 : PySem.W.keepIn K (.ref f0) = true)
    {f1 : Addr} {oc1 kV1 dc1 pm1 cd1 ct1 : Value} {od1 an1 : Option Addr} {sl1 : Array (Option Value)} (a1 : PySem.W.nsIn K mainGlobals "_law_mixed" = some (some (.ref f1))) (l1 : K.lookup f1 = some ⟨oc1, od1, .func (PySem.W.fnOf "_law_mixed" "_law_mixed" (defArgs s_l_mixed) (defBody s_l_mixed) (defScope s_l_mixed) .none kV1 dc1 pm1 an1 cd1 ct1), sl1⟩) (c1 : PySem.W.codeIn K cd1 "_law_mixed" = true) (k1 : PySem.W.keepIn K (.ref f1) = true)
    {f2 : Addr} {oc2 kV2 dc2 pm2 cd2 ct2 : Value} {od2 an2 : Option Addr} {sl2 : Array (Option Value)} (a2 : PySem.W.nsIn K mainGlobals "_law_numbers" = some (some (.ref f2))) (l2 : K.lookup f2 = some ⟨oc2, od2, .func (PySem.W.fnOf "_law_numbers" "_law_numbers" (defArgs s_l_numbers) (defBody s_l_numbers) (defScope s_l_numbers) .none kV2 dc2 pm2 an2 cd2 ct2), sl2⟩) (c2 : PySem.W.codeIn K cd2 "_law_numbers" = true) (k2 : PySem.W.keepIn K (.ref f2) = true)
    {f3 : Addr} {oc3 kV3 dc3 pm3 cd3 ct3 : Value} {od3 an3 : Option Addr} {sl3 : Array (Option Value)} (a3 : PySem.W.nsIn K mainGlobals "_law_sizes" = some (some (.ref f3))) (l3 : K.lookup f3 = some ⟨oc3, od3, .func (PySem.W.fnOf "_law_sizes" "_law_sizes" (defArgs s_l_sizes) (defBody s_l_sizes) (defScope s_l_sizes) .none kV3 dc3 pm3 an3 cd3 ct3), sl3⟩) (c3 : PySem.W.codeIn K cd3 "_law_sizes" = true) (k3 : PySem.W.keepIn K (.ref f3) = true)
    {f4 : Addr} {oc4 kV4 dc4 pm4 cd4 ct4 : Value} {od4 an4 : Option Addr} {sl4 : Array (Option Value)} (a4 : PySem.W.nsIn K mainGlobals "_law_values" = some (some (.ref f4))) (l4 : K.lookup f4 = some ⟨oc4, od4, .func (PySem.W.fnOf "_law_values" "_law_values" (defArgs s_l_values) (defBody s_l_values) (defScope s_l_values) .none kV4 dc4 pm4 an4 cd4 ct4), sl4⟩) (c4 : PySem.W.codeIn K cd4 "_law_values" = true) (k4 : PySem.W.keepIn K (.ref f4) = true)
    {f5 : Addr} {oc5 kV5 dc5 pm5 cd5 ct5 : Value} {od5 an5 : Option Addr} {sl5 : Array (Option Value)} (a5 : PySem.W.nsIn K mainGlobals "_law_spoilt" = some (some (.ref f5))) (l5 : K.lookup f5 = some ⟨oc5, od5, .func (PySem.W.fnOf "_law_spoilt" "_law_spoilt" (defArgs s_l_spoilt) (defBody s_l_spoilt) (defScope s_l_spoilt) .none kV5 dc5 pm5 an5 cd5 ct5), sl5⟩) (c5 : PySem.W.codeIn K cd5 "_law_spoilt" = true) (k5 : PySem.W.keepIn K (.ref f5) = true)
    {f6 : Addr} {oc6 kV6 dc6 pm6 cd6 ct6 : Value} {od6 an6 : Option Addr} {sl6 : Array (Option Value)} (a6 : PySem.W.nsIn K mainGlobals "check_shape" = some (some (.ref f6))) (l6 : K.lookup f6 = some ⟨oc6, od6, .func (PySem.W.fnOf "check_shape" "check_shape" (defArgs s_p_check_shape) (defBody s_p_check_shape) (defScope s_p_check_shape) .none kV6 dc6 pm6 an6 cd6 ct6), sl6⟩) (c6 : PySem.W.codeIn K cd6 "check_shape" = true) (k6 : PySem.W.keepIn K (.ref f6) = true)
    {f7 : Addr} {oc7 kV7 dc7 pm7 cd7 ct7 : Value} {od7 an7 : Option Addr} {sl7 : Array (Option Value)} (a7 : PySem.W.nsIn K mainGlobals "check_size" = some (some (.ref f7))) (l7 : K.lookup f7 = some ⟨oc7, od7, .func (PySem.W.fnOf "check_size" "check_size" (defArgs s_p_check_size) (defBody s_p_check_size) (defScope s_p_check_size) .none kV7 dc7 pm7 an7 cd7 ct7), sl7⟩) (c7 : PySem.W.codeIn K cd7 "check_size" = true) (k7 : PySem.W.keepIn K (.ref f7) = true)
    {f8 : Addr} {oc8 kV8 dc8 pm8 cd8 ct8 : Value} {od8 an8 : Option Addr} {sl8 : Array (Option Value)} (a8 : PySem.W.nsIn K mainGlobals "_are_values" = some (some (.ref f8))) (l8 : K.lookup f8 = some ⟨oc8, od8, .func (PySem.W.fnOf "_are_values" "_are_values" (defArgs s_p_are_values_) (defBody s_p_are_values_) (defScope s_p_are_values_) .none kV8 dc8 pm8 an8 cd8 ct8), sl8⟩) (c8 : PySem.W.codeIn K cd8 "_are_values" = true) (k8 : PySem.W.keepIn K (.ref f8) = true)
    {f9 : Addr} {oc9 kV9 dc9 pm9 cd9 ct9 : Value} {od9 an9 : Option Addr} {sl9 : Array (Option Value)} (a9 : PySem.W.findIn K (.ref C_Picture) "__init__" = some (some (.ref f9))) (i9 : PySem.W.isFn K (.ref f9) = true) (l9 : K.lookup f9 = some ⟨oc9, od9, .func (PySem.W.fnOf "__init__" "Picture.__init__" (defArgs s_p_Picture___init__) (defBody s_p_Picture___init__) (defScope s_p_Picture___init__) .none kV9 dc9 pm9 an9 cd9 ct9), sl9⟩) (c9 : PySem.W.codeIn K cd9 "Picture.__init__" = true) (k9 : PySem.W.keepIn K (.ref f9) = true)
    {f10 : Addr} {oc10 kV10 dc10 pm10 cd10 ct10 : Value} {od10 an10 : Option Addr} {sl10 : Array (Option Value)} (a10 : PySem.W.nsIn K mainGlobals "_law_is_int" = some (some (.ref f10))) (l10 : K.lookup f10 = some ⟨oc10, od10, .func (PySem.W.fnOf "_law_is_int" "_law_is_int" (defArgs s_l_is_int) (defBody s_l_is_int) (defScope s_l_is_int) .none kV10 dc10 pm10 an10 cd10 ct10), sl10⟩) (c10 : PySem.W.codeIn K cd10 "_law_is_int" = true) (k10 : PySem.W.keepIn K (.ref f10) = true)
    {f11 : Addr} {oc11 kV11 dc11 pm11 cd11 ct11 : Value} {od11 an11 : Option Addr} {sl11 : Array (Option Value)} (a11 : PySem.W.nsIn K mainGlobals "_law_are_ints" = some (some (.ref f11))) (l11 : K.lookup f11 = some ⟨oc11, od11, .func (PySem.W.fnOf "_law_are_ints" "_law_are_ints" (defArgs s_l_are_ints) (defBody s_l_are_ints) (defScope s_l_are_ints) .none kV11 dc11 pm11 an11 cd11 ct11), sl11⟩) (c11 : PySem.W.codeIn K cd11 "_law_are_ints" = true) (k11 : PySem.W.keepIn K (.ref f11) = true)
    {f12 : Addr} {oc12 kV12 dc12 pm12 cd12 ct12 : Value} {od12 an12 : Option Addr} {sl12 : Array (Option Value)} (a12 : PySem.W.findIn K (.ref C_Picture) "rows" = some (some (.ref f12))) (i12 : PySem.W.isFn K (.ref f12) = true) (l12 : K.lookup f12 = some ⟨oc12, od12, .func (PySem.W.fnOf "rows" "Picture.rows" (defArgs s_p_Picture_rows) (defBody s_p_Picture_rows) (defScope s_p_Picture_rows) .none kV12 dc12 pm12 an12 cd12 ct12), sl12⟩) (c12 : PySem.W.codeIn K cd12 "Picture.rows" = true) (k12 : PySem.W.keepIn K (.ref f12) = true)
    {f13 : Addr} {oc13 kV13 dc13 pm13 cd13 ct13 : Value} {od13 an13 : Option Addr} {sl13 : Array (Option Value)} (a13 : PySem.W.findIn K (.ref C_Picture) "row" = some (some (.ref f13))) (i13 : PySem.W.isFn K (.ref f13) = true) (l13 : K.lookup f13 = some ⟨oc13, od13, .func (PySem.W.fnOf "row" "Picture.row" (defArgs s_p_Picture_row) (defBody s_p_Picture_row) (defScope s_p_Picture_row) .none kV13 dc13 pm13 an13 cd13 ct13), sl13⟩) (c13 : PySem.W.codeIn K cd13 "Picture.row" = true) (k13 : PySem.W.keepIn K (.ref f13) = true)
    {f14 : Addr} {oc14 kV14 dc14 pm14 cd14 ct14 : Value} {od14 an14 : Option Addr} {sl14 : Array (Option Value)} (a14 : PySem.W.findIn K (.ref C_Picture) "value" = some (some (.ref f14))) (i14 : PySem.W.isFn K (.ref f14) = true) (l14 : K.lookup f14 = some ⟨oc14, od14, .func (PySem.W.fnOf "value" "Picture.value" (defArgs s_p_Picture_value) (defBody s_p_Picture_value) (defScope s_p_Picture_value) .none kV14 dc14 pm14 an14 cd14 ct14), sl14⟩) (c14 : PySem.W.codeIn K cd14 "Picture.value" = true) (k14 : PySem.W.keepIn K (.ref f14) = true)
    {f15 : Addr} {oc15 kV15 dc15 pm15 cd15 ct15 : Value} {od15 an15 : Option Addr} {sl15 : Array (Option Value)} (a15 : PySem.W.nsIn K mainGlobals "_law_holds" = some (some (.ref f15))) (l15 : K.lookup f15 = some ⟨oc15, od15, .func (PySem.W.fnOf "_law_holds" "_law_holds" (defArgs s_l_holds) (defBody s_l_holds) (defScope s_l_holds) .none kV15 dc15 pm15 an15 cd15 ct15), sl15⟩) (c15 : PySem.W.codeIn K cd15 "_law_holds" = true) (k15 : PySem.W.keepIn K (.ref f15) = true)
    {f16 : Addr} {oc16 kV16 dc16 pm16 cd16 ct16 : Value} {od16 an16 : Option Addr} {sl16 : Array (Option Value)} (a16 : PySem.W.nsIn K mainGlobals "law" = some (some (.ref f16))) (l16 : K.lookup f16 = some ⟨oc16, od16, .func (PySem.W.fnOf "law" "law" (defArgs s_law) (defBody s_law) (defScope s_law) .none kV16 dc16 pm16 an16 cd16 ct16), sl16⟩) (c16 : PySem.W.codeIn K cd16 "law" = true) (k16 : PySem.W.keepIn K (.ref f16) = true)
    {C_NoFrame : Addr}
    (a_NoFrame : PySem.W.nsIn K mainGlobals "NoFrame" = some (some (.ref C_NoFrame)))
    (xd_OutOfRange : PySem.W.hasDictIn K CX = true)
    (xs_OutOfRange_OutOfRange : PySem.W.subIn K (.ref CX) (.ref CX) = some true)
    (xd_NoFrame : PySem.W.hasDictIn K C_NoFrame = true)
    (xt_NoFrame : PySem.W.typeIn K (.ref C_NoFrame) = some (.type "type"))
    (xs_OutOfRange_NoFrame : PySem.W.subIn K (.ref CX) (.ref C_NoFrame) = some false)
    (xs_NoFrame_NoFrame : PySem.W.subIn K (.ref C_NoFrame) (.ref C_NoFrame) = some true)
    (xga_OutOfRange : PySem.W.findIn K (.ref CX) "__getattribute__" = some (some (.builtin "BaseException.__getattribute__")))
    (xgg_OutOfRange : PySem.W.findIn K (.ref CX) "__getattr__" = some none)
    (xha_OutOfRange : PySem.W.findIn K (.ref CX) "__class__" = some (some (.builtin "object.__class__")))
    (xhn : PySem.W.specialIn K (.builtin "object.__class__") "__get__" = some (some (.builtin "getset_descriptor.__get__")))
    (xht : PySem.W.takesIn K (.builtin "object.__class__") = some true)
    (xhm_OutOfRange : PySem.W.mroIn K CX (.type "object") = some true)
    (z_abs : PySem.W.nsIn K mainGlobals "abs" = some none)
    (z_all : PySem.W.nsIn K mainGlobals "all" = some none)
    (z_bool : PySem.W.nsIn K mainGlobals "bool" = some none)
    (z_int : PySem.W.nsIn K mainGlobals "int" = some none)
    (z_isinstance : PySem.W.nsIn K mainGlobals "isinstance" = some none)
    (z_len : PySem.W.nsIn K mainGlobals "len" = some none)
    (z_list : PySem.W.nsIn K mainGlobals "list" = some none)
    (z_max : PySem.W.nsIn K mainGlobals "max" = some none)
    (z_min : PySem.W.nsIn K mainGlobals "min" = some none)
    (z_range : PySem.W.nsIn K mainGlobals "range" = some none)
    (z_str : PySem.W.nsIn K mainGlobals "str" = some none) :
    ∃ fd : FuncData, (∀ (s : Shared) (u : Value), BindsTo s fd ⟨[u], []⟩ [("_law_script", u)]) ∧ ∀ base : Heap, K.In base → base.Ns mainGlobals mg → FnOk l.prog w K mg base (L2.CX l.prog w) 6 fa fd ["_law_script"] (spTrue K) := by
  have e := hfa.symm.trans (PySem.W.mg_of X G a16)
  cases e
  let CO : ClsA := ⟨C_Picture, CX, C_NoFrame⟩
  let T : XT := ⟨CX, 0, fun k => 0, [], false⟩
  have B : Txt K CO T mg := ⟨PySem.W.mg_none_of X G z_abs, PySem.W.mg_none_of X G z_all, PySem.W.mg_none_of X G z_bool, PySem.W.mg_none_of X G z_int, PySem.W.mg_none_of X G z_isinstance, PySem.W.mg_none_of X G z_len, PySem.W.mg_none_of X G z_list, PySem.W.mg_none_of X G z_max, PySem.W.mg_none_of X G z_min, PySem.W.mg_none_of X G z_range, PySem.W.mg_none_of X G z_str, ⟨_, PySem.W.mg_of X G g_SIDE_MOST, ⟨_, rfl⟩⟩, ⟨_, PySem.W.mg_of X G g_DEPTH_MOST, ⟨_, rfl⟩⟩, ⟨_, PySem.W.mg_of X G g_VALUES_MOST, ⟨_, rfl⟩⟩, ⟨pg_Picture, hd_Picture, po_Picture, sa_Picture⟩, na_Picture_width, na_Picture_height, na_Picture_depth, na_Picture_channels, na_Picture__rows, PySem.W.mg_of X G aX, PySem.W.mg_of X G a_NoFrame, tells_of (T := T) true (fun _ => rfl) (PySem.W.exm_ref exX xd_OutOfRange tyX xs_OutOfRange_OutOfRange) rfl (all_nil), isx_of (T := T) false (fun _ => rfl) (⟨⟨xga_OutOfRange, xgg_OutOfRange, exX, xd_OutOfRange, xha_OutOfRange, xhn, xht, xhm_OutOfRange⟩, PySem.W.rt_kitN xd_NoFrame xt_NoFrame xs_OutOfRange_NoFrame xs_NoFrame_NoFrame⟩) rfl (all_nil), ⟨xga_OutOfRange, xgg_OutOfRange, exX, xd_OutOfRange⟩, naX⟩
  have F0 := fun_mk (st := s_l_cell) l0 c0 k0
  have D0 := F0.binds (ps := ["_law_script", "_law_k"]) fun _ _ _ _ _ _ us hl => match us, hl with | [_, _], _ => rfl
  have F1 := fun_mk (st := s_l_mixed) l1 c1 k1
  have D1 := F1.binds (ps := ["_law_number", "_law_k", "_law_limit"]) fun _ _ _ _ _ _ us hl => match us, hl with | [_, _, _], _ => rfl
  have F2 := fun_mk (st := s_l_numbers) l2 c2 k2
  have D2 := F2.binds (ps := ["_law_cell_here", "_law_count", "_law_limit"]) fun _ _ _ _ _ _ us hl => match us, hl with | [_, _, _], _ => rfl
  have F3 := fun_mk (st := s_l_sizes) l3 c3 k3
  have D3 := F3.binds (ps := ["_law_cell_here", "_law_most"]) fun _ _ _ _ _ _ us hl => match us, hl with | [_, _], _ => rfl
  have F4 := fun_mk (st := s_l_values) l4 c4 k4
  have D4 := F4.binds (ps := ["_law_cell_here", "_law_sizes_here"]) fun _ _ _ _ _ _ us hl => match us, hl with | [_, _], _ => rfl
  have F5 := fun_mk (st := s_l_spoilt) l5 c5 k5
  have D5 := F5.binds (ps := ["_law_kind", "_law_at", "_law_sizes_here", "_law_values_here"]) fun _ _ _ _ _ _ us hl => match us, hl with | [_, _, _, _], _ => rfl
  have F6 := fun_mk (st := s_p_check_shape) l6 c6 k6
  have D6 := F6.binds (ps := ["width", "height", "depth", "channels"]) fun _ _ _ _ _ _ us hl => match us, hl with | [_, _, _, _], _ => rfl
  have F7 := fun_mk (st := s_p_check_size) l7 c7 k7
  have D7 := F7.binds (ps := ["width", "height", "channels"]) fun _ _ _ _ _ _ us hl => match us, hl with | [_, _, _], _ => rfl
  have F8 := fun_mk (st := s_p_are_values_) l8 c8 k8
  have D8 := F8.binds (ps := ["pixels", "depth", "channels", "values"]) fun _ _ _ _ _ _ us hl => match us, hl with | [_, _, _, _], _ => rfl
  have F9 := fun_mk (st := s_p_Picture___init__) l9 c9 k9
  have D9 := F9.binds (ps := ["self", "width", "height", "depth", "channels", "values"]) fun _ _ _ _ _ _ us hl => match us, hl with | [_, _, _, _, _, _], _ => rfl
  have F10 := fun_mk (st := s_l_is_int) l10 c10 k10
  have D10 := F10.binds (ps := ["_law_actual"]) fun _ _ _ _ _ _ us hl => match us, hl with | [_], _ => rfl
  have F11 := fun_mk (st := s_l_are_ints) l11 c11 k11
  have D11 := F11.binds (ps := ["_law_row"]) fun _ _ _ _ _ _ us hl => match us, hl with | [_], _ => rfl
  have F12 := fun_mk (st := s_p_Picture_rows) l12 c12 k12
  have D12 := F12.binds (ps := ["self"]) fun _ _ _ _ _ _ us hl => match us, hl with | [_], _ => rfl
  have F13 := fun_mk (st := s_p_Picture_row) l13 c13 k13
  have D13 := F13.binds (ps := ["self", "channel"]) fun _ _ _ _ _ _ us hl => match us, hl with | [_, _], _ => rfl
  have F14 := fun_mk (st := s_p_Picture_value) l14 c14 k14
  have D14 := F14.binds (ps := ["self", "channel", "pixel"]) fun _ _ _ _ _ _ us hl => match us, hl with | [_, _, _], _ => rfl
  have F15 := fun_mk (st := s_l_holds) l15 c15 k15
  have D15 := F15.binds (ps := ["_law_picture", "_law_sizes_here", "_law_values_here"]) fun _ _ _ _ _ _ us hl => match us, hl with | [_, _, _], _ => rfl
  have F16 := fun_mk (st := s_law) l16 c16 k16
  have D16 := F16.binds (ps := ["_law_script"]) fun _ _ _ _ _ _ us hl => match us, hl with | [_], _ => rfl
  refine ⟨PySem.W.fnOf "law" "law" (defArgs s_law) (defBody s_law) (defScope s_law) .none kV16 dc16 pm16 an16 cd16 ct16, fun s u => .of_eq rfl, fun base _ _ => ?_⟩
  have oxX : OexC K CX := ⟨⟨nmX, qX, NX, bsX, bmX, snX, subX, abX, colX, ddX, k0X, k1X, k2X, k3X, k5X, clX, rvX⟩, saX, exX, tyX, kcX⟩
  have FX := fun_mk (st := s_oor) lX cX kX
  have k_oor : KnO l.prog w K mg base "OutOfRange" T.oor (spOor T.oor) := ⟨PySem.W.mg_of X G aX, oxX, fX, _, iX, tX, FX.binds fun _ _ _ _ _ _ us hl => match us, hl with | [_, _], _ => rfl, fn_oor FX sc_oor rfl oxX naX (fun _ => rfl) rfl rfl⟩
  have k_l_cell : Kn l.prog w K mg base 1 "_law_cell" ["_law_script", "_law_k"] (spM 2 T (aCons (fz (cSq K cInt)) (aCons (fz cInt) aNil)) (fun x => l_cell x.1 x.2.1) (fz cInt)) := ⟨f0, _, PySem.W.mg_of X G a0, F0.kp, D0, fn_l_cell (CO := CO) (T := T) F0 B  ⟩
  have k_l_mixed : Kn l.prog w K mg base 1 "_law_mixed" ["_law_number", "_law_k", "_law_limit"] (spM 3 T (aCons (fz cInt) (aCons (fz cInt) (aCons (fz cInt) aNil))) (fun x => l_mixed x.1 x.2.1 x.2.2.1) (fz cInt)) := ⟨f1, _, PySem.W.mg_of X G a1, F1.kp, D1, fn_l_mixed (CO := CO) (T := T) F1 B  ⟩
  have k_l_numbers : Kn l.prog w K mg base 2 "_law_numbers" ["_law_cell_here", "_law_count", "_law_limit"] (spM 3 T (aCons (fz cInt) (aCons (fz cInt) (aCons (fz cInt) aNil))) (fun x => l_numbers x.1 x.2.1 x.2.2.1) (ol cInt)) := ⟨f2, _, PySem.W.mg_of X G a2, F2.kp, D2, fn_l_numbers (CO := CO) (T := T) F2 B k_l_mixed ⟩
  have k_l_sizes : Kn l.prog w K mg base 3 "_law_sizes" ["_law_cell_here", "_law_most"] (spM 2 T (aCons (fz cInt) (aCons (fz cInt) aNil)) (fun x => l_sizes x.1 x.2.1) (ol cInt)) := ⟨f3, _, PySem.W.mg_of X G a3, F3.kp, D3, fn_l_sizes (CO := CO) (T := T) F3 B k_l_numbers ⟩
  have k_l_values : Kn l.prog w K mg base 3 "_law_values" ["_law_cell_here", "_law_sizes_here"] (spM 2 T (aCons (fz cInt) (aCons (fz (cList cInt)) aNil)) (fun x => l_values x.1 x.2.1) (ol (cList cInt))) := ⟨f4, _, PySem.W.mg_of X G a4, F4.kp, D4, fn_l_values (CO := CO) (T := T) F4 B k_l_numbers ⟩
  have k_l_spoilt : Kn l.prog w K mg base 1 "_law_spoilt" ["_law_kind", "_law_at", "_law_sizes_here", "_law_values_here"] (spX fun (ob2p : Addr) => spX fun (ob3p : Addr) => spB 4 T (aCons (fz cInt) (aCons (fz cInt) (aCons (fun b => atP ob2p (ol cInt b)) (aCons (fun b => atP ob3p (oll cInt b)) (aNil))))) (fun x => [none, none, some ob2p, some ob3p]) (fun _ => True) (fun x => l_spoilt x.1 x.2.1 x.2.2.1 x.2.2.2.1) (fun _ (rq : (Tx × (List Int) × (List (List Int)))) => fz cTx rq.1) (fun x (rq : (Tx × (List Int) × (List (List Int)))) => [none, none, some (atP ob2p (ol cInt rq.2.1)), some (atP ob3p (oll cInt rq.2.2))]) (fun x => [none, none, some (hole (.ref ob2p)), some (hole (.ref ob3p))])) := ⟨f5, _, PySem.W.mg_of X G a5, F5.kp, D5, fn_l_spoilt (CO := CO) (T := T) F5 B  ⟩
  have k_p_check_shape : Kn l.prog w K mg base 3 "check_shape" ["width", "height", "depth", "channels"] (spM 4 T (aCons (fz cInt) (aCons (fz cInt) (aCons (fz cInt) (aCons (fz cInt) aNil)))) (fun x => p_check_shape x.1 x.2.1 x.2.2.1 x.2.2.2.1) (fun _ => sN)) := ⟨f6, _, PySem.W.mg_of X G a6, F6.kp, D6, fn_p_check_shape (CO := CO) (T := T) F6 B k_oor ⟩
  have k_p_check_size : Kn l.prog w K mg base 3 "check_size" ["width", "height", "channels"] (spM 3 T (aCons (fz cInt) (aCons (fz cInt) (aCons (fz cInt) aNil))) (fun x => p_check_size x.1 x.2.1 x.2.2.1) (fun _ => sN)) := ⟨f7, _, PySem.W.mg_of X G a7, F7.kp, D7, fn_p_check_size (CO := CO) (T := T) F7 B k_oor ⟩
  have k_p_are_values_ : Kn l.prog w K mg base 1 "_are_values" ["pixels", "depth", "channels", "values"] (spM 4 T (aCons (fz cInt) (aCons (fz cInt) (aCons (fz cInt) (aCons (fz (cList (cList cInt))) aNil)))) (fun x => p_are_values_ x.1 x.2.1 x.2.2.1 x.2.2.2.1) (fz cBool)) := ⟨f8, _, PySem.W.mg_of X G a8, F8.kp, D8, fn_p_are_values_ (CO := CO) (T := T) F8 B  ⟩
  have k_p_Picture___init__ : KnC l.prog w K mg base 4 "Picture" CO.c_Picture ["self", "width", "height", "depth", "channels", "values"] (spX fun (ob5p : Addr) => spX fun (values : (List (List Int))) => spB 6 T (aMk CO.c_Picture (aCons (fz cInt) (aCons (fz cInt) (aCons (fz cInt) (aCons (fz cInt) (aConsR (atP ob5p (oll cInt values)) (aNil))))))) (fun x => [some x.1, none, none, none, none, some ob5p]) (fun _ => True) (fun x => p_Picture___init__ x.2.2.1 x.2.2.2.1 x.2.2.2.2.1 x.2.2.2.2.2.1 values) (fun _ _ => sN) (fun x (rq : C.Picture) => [some (atP x.1 (oob CO.c_Picture (fl_Picture K CO rq))), none, none, none, none, some (atP ob5p (oll cInt values))]) (fun x => [some (hole (.ref x.1)), none, none, none, none, some (atP ob5p (oll cInt values))])) := ⟨f9, _, PySem.W.mg_of X G a_Picture, ⟨mk_Picture, a9, i9, kc_Picture⟩, D9, fn_p_Picture___init__ (CO := CO) (T := T) F9 B k_p_check_shape k_p_check_size k_p_are_values_ k_oor ⟩
  have k_l_is_int : Kn l.prog w K mg base 1 "_law_is_int" ["_law_actual"] (spM 1 T (aCons (fz cInt) aNil) (fun x => l_is_int x.1) (fz cBool)) := ⟨f10, _, PySem.W.mg_of X G a10, F10.kp, D10, fn_l_is_int (CO := CO) (T := T) F10 B  ⟩
  have k_l_are_ints : Kn l.prog w K mg base 2 "_law_are_ints" ["_law_row"] (spM 1 T (aCons (fz (cList cInt)) aNil) (fun x => l_are_ints x.1) (fz cBool)) := ⟨f11, _, PySem.W.mg_of X G a11, F11.kp, D11, fn_l_are_ints (CO := CO) (T := T) F11 B k_l_is_int ⟩
  have k_p_Picture_rows : KnM l.prog w K mg base 1 CO.c_Picture "rows" ["self"] (spX fun (ob0s : Sl) => spX fun (ob0p : Addr) => spX fun (ob0d : Addr) => spX fun (ob0f : List (Str × V)) => spX fun (self : C.Picture) => spX fun (ob0r : Rds ob0s (rpV CO.c_Picture ob0p ob0d ob0f (rp_Picture K CO self))) => spB 1 T (aConsR ob0s (aNil)) (fun x => [some ob0p]) (fun _ => True) (fun x => p_Picture_rows self) (fun _ => oll cInt) (fun x (rq : (List (List Int))) => [some ob0s]) (fun x => [some ob0s])) := ⟨f12, _, ⟨a12, i12, k12⟩, D12, fn_p_Picture_rows (CO := CO) (T := T) F12 B  ⟩
  have k_p_Picture_row : KnM l.prog w K mg base 1 CO.c_Picture "row" ["self", "channel"] (spX fun (ob0s : Sl) => spX fun (ob0p : Addr) => spX fun (ob0d : Addr) => spX fun (ob0f : List (Str × V)) => spX fun (self : C.Picture) => spX fun (ob0r : Rds ob0s (rpV CO.c_Picture ob0p ob0d ob0f (rp_Picture K CO self))) => spB 2 T (aConsR ob0s (aCons (fz cInt) (aNil))) (fun x => [some ob0p, none]) (fun _ => True) (fun x => p_Picture_row self x.1) (fun _ => ol cInt) (fun x (rq : (List Int)) => [some ob0s, none]) (fun x => [some ob0s, none])) := ⟨f13, _, ⟨a13, i13, k13⟩, D13, fn_p_Picture_row (CO := CO) (T := T) F13 B  ⟩
  have k_p_Picture_value : KnM l.prog w K mg base 1 CO.c_Picture "value" ["self", "channel", "pixel"] (spX fun (ob0s : Sl) => spX fun (ob0p : Addr) => spX fun (ob0d : Addr) => spX fun (ob0f : List (Str × V)) => spX fun (self : C.Picture) => spX fun (ob0r : Rds ob0s (rpV CO.c_Picture ob0p ob0d ob0f (rp_Picture K CO self))) => spB 3 T (aConsR ob0s (aCons (fz cInt) (aCons (fz cInt) (aNil)))) (fun x => [some ob0p, none, none]) (fun _ => True) (fun x => p_Picture_value self x.1 x.2.1) (fun _ => fz cInt) (fun x (rq : Int) => [some ob0s, none, none]) (fun x => [some ob0s, none, none])) := ⟨f14, _, ⟨a14, i14, k14⟩, D14, fn_p_Picture_value (CO := CO) (T := T) F14 B  ⟩
  have k_l_holds : Kn l.prog w K mg base 3 "_law_holds" ["_law_picture", "_law_sizes_here", "_law_values_here"] (spX fun (ob0s : Sl) => spX fun (ob0p : Addr) => spX fun (ob0d : Addr) => spX fun (ob0f : List (Str × V)) => spX fun (picture : C.Picture) => spX fun (ob0r : Rds ob0s (rpV CO.c_Picture ob0p ob0d ob0f (rp_Picture K CO picture))) => spB 3 T (aConsR ob0s (aCons (fz (cList cInt)) (aCons (fz (cList (cList cInt))) (aNil)))) (fun x => [some ob0p, none, none]) (fun _ => True) (fun x => l_holds picture x.1 x.2.1) (fun _ => fz cBool) (fun x (rq : Bool) => [some ob0s, none, none]) (fun x => [some ob0s, none, none])) := ⟨f15, _, PySem.W.mg_of X G a15, F15.kp, D15, fn_l_holds (CO := CO) (T := T) F15 B k_l_are_ints k_p_Picture_rows k_p_Picture_row k_p_Picture_value k_l_is_int ⟩
  exact (fn_law F16 B k_l_cell k_l_sizes k_l_values k_l_numbers k_l_spoilt k_p_Picture___init__ k_l_holds k_p_Picture_row k_p_Picture_rows).imp (law_spQ (T := T) law_true)
theorem no_cx {P : Program} {w : World} {H : Hp} {s : Shared} {e : Value} {s' : Shared} (h : L2.CX P w [] H s (fun _ _ _ => False) e s') : False := by
  obtain ⟨_, _, _, _, _, _, _, _, _, _, _, _, z⟩ := h
  exact z
theorem walk {l : PySem.W.OpenLaw} {q : Program} {loose : List Str} {XP : (Str → Option Value) → Heap → Prop} {YP : World → Heap → Prop} {d : DefRec} {K : Params → PySem.W.Frag} (hn : l.most = some 63) (hdf : d.params.defaults = [])
    (hY : ∀ (w : World) (h : Heap), YP w h → (K w.params).In h)
    (F : ∀ (w : World) (mg : Str → Option Value) (fa : Addr) (h : Heap), (K w.params).In h → h.Ns mainGlobals mg → mg d.name = some (.ref fa) →
      ∃ fd : FuncData, (∀ (s : Shared) (u : Value), BindsTo s fd ⟨[u], []⟩ [("_law_script", u)]) ∧ ∀ base : Heap, (K w.params).In base → base.Ns mainGlobals mg → FnOk l.prog w (K w.params) mg base (L2.CX l.prog w) 6 fa fd ["_law_script"] (spTrue (K w.params))) :
    PySem.W.WalkO q loose XP YP l.row.toRowW d [] (fun f vs => PySem.call f vs) :=
  L2.walk_of (n := 63) (k := 6) (x := "_law_script") (CX := fun w => L2.CX l.prog w) (sp := fun w => spTrue (K w.params)) hn (by decide) hdf ⟨rfl, by decide, by decide⟩ hY F (fun _ _ _ ns hl _ hS => sp_true hS hl) fun _ _ _ _ _ z => no_cx z
end
end K06
open PySem PySem.W PyProof.Rows
set_option maxRecDepth 100000 in
set_option maxHeartbeats 0 in
theorem PySem.Challenge.cw_packetpicture_k06_picture_bounds_and_cop_holds : PySem.Challenge.rw_packetpicture_k06_picture_bounds_and_cop.Holds := by
  w_on; o_law; k_head; (case hw => w_witness2)
  k_fill
  refine K06.walk (l := PySem.Challenge.rw_packetpicture_k06_picture_bounds_and_cop) rfl rfl (fun w h Y => PySem.W.kIn_of Y) ?F
  case F =>
    intro w mg fa h KX G hmg
    refine' K06.all_mk KX G hmg ?a_Picture ?pg_Picture ?hd_Picture ?po_Picture ?sa_Picture ?mk_Picture ?kc_Picture ?na_Picture_width ?na_Picture_height ?na_Picture_depth ?na_Picture_channels ?na_Picture__rows ?g_SIDE_MOST ?g_DEPTH_MOST ?g_VALUES_MOST ?aX ?clX ?rvX ?saX ?exX ?tyX ?kcX ?iX ?tX ?naX ?lX ?cX ?kX ?a0 ?l0 ?c0 ?k0 ?a1 ?l1 ?c1 ?k1 ?a2 ?l2 ?c2 ?k2 ?a3 ?l3 ?c3 ?k3 ?a4 ?l4 ?c4 ?k4 ?a5 ?l5 ?c5 ?k5 ?a6 ?l6 ?c6 ?k6 ?a7 ?l7 ?c7 ?k7 ?a8 ?l8 ?c8 ?k8 ?a9 ?i9 ?l9 ?c9 ?k9 ?a10 ?l10 ?c10 ?k10 ?a11 ?l11 ?c11 ?k11 ?a12 ?i12 ?l12 ?c12 ?k12 ?a13 ?i13 ?l13 ?c13 ?k13 ?a14 ?i14 ?l14 ?c14 ?k14 ?a15 ?l15 ?c15 ?k15 ?a16 ?l16 ?c16 ?k16 ?a_NoFrame ?xd_OutOfRange ?xs_OutOfRange_OutOfRange ?xd_NoFrame ?xt_NoFrame ?xs_OutOfRange_NoFrame ?xs_NoFrame_NoFrame ?xga_OutOfRange ?xgg_OutOfRange ?xha_OutOfRange ?xhn ?xht ?xhm_OutOfRange ?z_abs ?z_all ?z_bool ?z_int ?z_isinstance ?z_len ?z_list ?z_max ?z_min ?z_range ?z_str
    (case a_Picture => k_is)
    (case pg_Picture => k_is)
    (case hd_Picture => k_is)
    (case po_Picture => k_is)
    (case sa_Picture => k_is)
    (case mk_Picture => k_is)
    (case kc_Picture => k_is)
    (case na_Picture_width => k_is)
    (case na_Picture_height => k_is)
    (case na_Picture_depth => k_is)
    (case na_Picture_channels => k_is)
    (case na_Picture__rows => k_is)
    (case g_SIDE_MOST => k_is)
    (case g_DEPTH_MOST => k_is)
    (case g_VALUES_MOST => k_is)
    (case aX => k_is)
    (case clX => k_is)
    (case rvX => rfl)
    (case saX => k_is)
    (case exX => k_is)
    (case tyX => k_is)
    (case kcX => k_is)
    (case iX => k_is)
    (case tX => k_is)
    (case naX => k_is)
    (case lX => k_is)
    (case cX => k_is)
    (case kX => k_is)
    (case a0 => k_is)
    (case l0 => k_is)
    (case c0 => k_is)
    (case k0 => k_is)
    (case a1 => k_is)
    (case l1 => k_is)
    (case c1 => k_is)
    (case k1 => k_is)
    (case a2 => k_is)
    (case l2 => k_is)
    (case c2 => k_is)
    (case k2 => k_is)
    (case a3 => k_is)
    (case l3 => k_is)
    (case c3 => k_is)
    (case k3 => k_is)
    (case a4 => k_is)
    (case l4 => k_is)
    (case c4 => k_is)
    (case k4 => k_is)
    (case a5 => k_is)
    (case l5 => k_is)
    (case c5 => k_is)
    (case k5 => k_is)
    (case a6 => k_is)
    (case l6 => k_is)
    (case c6 => k_is)
    (case k6 => k_is)
    (case a7 => k_is)
    (case l7 => k_is)
    (case c7 => k_is)
    (case k7 => k_is)
    (case a8 => k_is)
    (case l8 => k_is)
    (case c8 => k_is)
    (case k8 => k_is)
    (case a9 => k_is)
    (case i9 => k_is)
    (case l9 => k_is)
    (case c9 => k_is)
    (case k9 => k_is)
    (case a10 => k_is)
    (case l10 => k_is)
    (case c10 => k_is)
    (case k10 => k_is)
    (case a11 => k_is)
    (case l11 => k_is)
    (case c11 => k_is)
    (case k11 => k_is)
    (case a12 => k_is)
    (case i12 => k_is)
    (case l12 => k_is)
    (case c12 => k_is)
    (case k12 => k_is)
    (case a13 => k_is)
    (case i13 => k_is)
    (case l13 => k_is)
    (case c13 => k_is)
    (case k13 => k_is)
    (case a14 => k_is)
    (case i14 => k_is)
    (case l14 => k_is)
    (case c14 => k_is)
    (case k14 => k_is)
    (case a15 => k_is)
    (case l15 => k_is)
    (case c15 => k_is)
    (case k15 => k_is)
    (case a16 => k_is)
    (case l16 => k_is)
    (case c16 => k_is)
    (case k16 => k_is)
    (case a_NoFrame => k_is)
    (case xd_OutOfRange => k_is)
    (case xs_OutOfRange_OutOfRange => k_is)
    (case xd_NoFrame => k_is)
    (case xt_NoFrame => k_is)
    (case xs_OutOfRange_NoFrame => k_is)
    (case xs_NoFrame_NoFrame => k_is)
    (case xga_OutOfRange => k_is)
    (case xgg_OutOfRange => k_is)
    (case xha_OutOfRange => k_is)
    (case xhn => k_is)
    (case xht => k_is)
    (case xhm_OutOfRange => k_is)
    (case z_abs => k_is)
    (case z_all => k_is)
    (case z_bool => k_is)
    (case z_int => k_is)
    (case z_isinstance => k_is)
    (case z_len => k_is)
    (case z_list => k_is)
    (case z_max => k_is)
    (case z_min => k_is)
    (case z_range => k_is)
    (case z_str => k_is)
