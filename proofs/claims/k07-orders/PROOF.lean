import PyProof.Rows.All
import Wide.All
import OpenK.AllK
import Wide.FinOn
import HandS.ForMost
import HandS.Exc
import HandS.ExcOwn
import HandS.TryOnly
import HandS.WordsExc
import HandS.Wide
import HandS.Flow
import HandS.IsInst
import HandS.Deep
import HandS.Style
import HandS.SortInts
import HandS.SortRule
import HandS.TupMul
import HandS.Conv
import HandS.Defaults
import KE.KStateDown
import HandS.Head0
import HandS.Head1
import HandS.Head2
import HandS.HeadEnd
import HandS.HeadHook1
import HandS.HeadHook2
import HandS.HeadHook3
import HandS.HeadHook4
import HandS.CallSlots
import HandS.ExcIs
import HandS.ExcValue
import HandS.ExcBuiltin
import HandS.SetFor
import HandS.Zip
import HandS.FStr
import HandS.Text
import PySem.Challenge.RW_boundstats_k07_whole_orders
set_option Elab.async false
set_option linter.all false
set_option maxRecDepth 100000
set_option maxHeartbeats 4000000

/-! The data layer, part 1: the monad of denotations, data in the heap, the judgement of expressions. -/
namespace Dt
open PySem L2

/-! ### computations -/
inductive Err where
  | bounds | number | order | text | missing
  deriving DecidableEq
/-- objects that change: the draws, a memo of counted orders, a teller -/
inductive AObj where
  | dr
  | memo (bs : List (Int × Int))
  | tel (now : List (Int × Int)) (past : List (List (Int × Int)))
abbrev Wd := List AObj
inductive M (α : Type) : Type where
  | ret (a : α)
  | raise (e : Err)
  | draw (i : Nat) (l : Int) (k : Int → M α)
  | onew (o : AObj) (k : Nat → M α)
  | oget (i : Nat) (k : AObj → M α)
  | oset (i : Nat) (o : AObj) (k : M α)
  | stuck
def M.bind {α β : Type} : M α → (α → M β) → M β
  | .ret a, f => f a
  | .raise e, _ => .raise e
  | .draw i l k, f => .draw i l fun r => (k r).bind f
  | .onew o k, f => .onew o fun n => (k n).bind f
  | .oget i k, f => .oget i fun o => (k o).bind f
  | .oset i o k, f => .oset i o (k.bind f)
  | .stuck, _ => .stuck
@[simp] theorem ret_bind {α β : Type} (a : α) (f : α → M β) : (M.ret a).bind f = f a := rfl
@[simp] theorem raise_bind {α β : Type} (e : Err) (f : α → M β) : (M.raise e).bind f = .raise e := rfl
@[simp] theorem stuck_bind {α β : Type} (f : α → M β) : (M.stuck).bind f = .stuck := rfl
/-- what follows is looked at when the first part is done -/
theorem bind_assoc {α β γ : Type} : ∀ (m : M α) (f : α → M β) (g : β → M γ), (m.bind f).bind g = m.bind fun a => (f a).bind g
  | .ret _, _, _ => rfl
  | .raise _, _, _ => rfl
  | .draw i l k, f, g => by simp only [M.bind]; congr 1; funext r; exact bind_assoc (k r) f g
  | .onew o k, f, g => by simp only [M.bind]; congr 1; funext r; exact bind_assoc (k r) f g
  | .oget i k, f, g => by simp only [M.bind]; congr 1; funext r; exact bind_assoc (k r) f g
  | .oset i o k, f, g => by simp only [M.bind]; congr 1; exact bind_assoc k f g
  | .stuck, _, _ => rfl
theorem bind_ret {α : Type} : ∀ (m : M α), (m.bind fun a => .ret a) = m
  | .ret _ => rfl
  | .raise _ => rfl
  | .draw i l k => by simp only [M.bind]; congr 1; funext r; exact bind_ret (k r)
  | .onew o k => by simp only [M.bind]; congr 1; funext r; exact bind_ret (k r)
  | .oget i k => by simp only [M.bind]; congr 1; funext r; exact bind_ret (k r)
  | .oset i o k => by simp only [M.bind]; congr 1; exact bind_ret k
  | .stuck => rfl
def wp {α : Type} : M α → Wd → (α → Wd → Prop) → (Err → Wd → Prop) → Prop
  | .ret a, W, Q, _ => Q a W
  | .raise e, W, _, E => E e W
  | .draw i l k, W, Q, E => W[i]? = some .dr ∧ 0 < l ∧ l < 1073741824 ∧ ∀ r, 0 ≤ r → r < l → wp (k r) W Q E
  | .onew o k, W, Q, E => wp (k W.length) (W ++ [o]) Q E
  | .oget i k, W, Q, E => ∃ o, W[i]? = some o ∧ wp (k o) W Q E
  | .oset i o k, W, Q, E => i < W.length ∧ wp k (W.set i o) Q E
  | .stuck, _, _, _ => False
theorem wp_bind {α β : Type} : ∀ (m : M α) (f : α → M β) (W : Wd) (Q : β → Wd → Prop) (E : Err → Wd → Prop), wp (m.bind f) W Q E ↔ wp m W (fun a W' => wp (f a) W' Q E) E
  | .ret _, _, _, _, _ => Iff.rfl
  | .raise _, _, _, _, _ => Iff.rfl
  | .draw i l k, f, W, Q, E => by
    simp only [M.bind, wp]
    exact ⟨fun ⟨h0, h1, h2, h3⟩ => ⟨h0, h1, h2, fun r a b => (wp_bind (k r) f W Q E).mp (h3 r a b)⟩, fun ⟨h0, h1, h2, h3⟩ => ⟨h0, h1, h2, fun r a b => (wp_bind (k r) f W Q E).mpr (h3 r a b)⟩⟩
  | .onew o k, f, W, Q, E => by simp only [M.bind, wp]; exact wp_bind (k W.length) f _ Q E
  | .oget i k, f, W, Q, E => by
    simp only [M.bind, wp]
    exact ⟨fun ⟨o, h0, h1⟩ => ⟨o, h0, (wp_bind (k o) f W Q E).mp h1⟩, fun ⟨o, h0, h1⟩ => ⟨o, h0, (wp_bind (k o) f W Q E).mpr h1⟩⟩
  | .oset i o k, f, W, Q, E => by
    simp only [M.bind, wp]
    exact ⟨fun ⟨h0, h1⟩ => ⟨h0, (wp_bind k f _ Q E).mp h1⟩, fun ⟨h0, h1⟩ => ⟨h0, (wp_bind k f _ Q E).mpr h1⟩⟩
  | .stuck, _, _, _, _ => Iff.rfl
theorem wp_mono {α : Type} : ∀ {m : M α} {W : Wd} {Q Q' : α → Wd → Prop} {E E' : Err → Wd → Prop}, wp m W Q E → (∀ a W', Q a W' → Q' a W') → (∀ e W', E e W' → E' e W') → wp m W Q' E'
  | .ret _, _, _, _, _, _, h, hq, _ => hq _ _ h
  | .raise _, _, _, _, _, _, h, _, he => he _ _ h
  | .draw i l k, W, Q, Q', E, E', h, hq, he => by
    obtain ⟨h0, h1, h2, h3⟩ := h
    exact ⟨h0, h1, h2, fun r a b => wp_mono (m := k r) (h3 r a b) hq he⟩
  | .onew o k, W, Q, Q', E, E', h, hq, he => wp_mono (m := k W.length) (W := W ++ [o]) h hq he
  | .oget i k, W, Q, Q', E, E', h, hq, he => by
    obtain ⟨o, h0, h1⟩ := h
    exact ⟨o, h0, wp_mono (m := k o) h1 hq he⟩
  | .oset i o k, W, Q, Q', E, E', h, hq, he => by
    obtain ⟨h0, h1⟩ := h
    exact ⟨h0, wp_mono (m := k) h1 hq he⟩
  | .stuck, _, _, _, _, _, h, _, _ => h.elim

/-! ### abstract values, slots -/
inductive AV where
  | d (p : PyData)
  | ob (i : Nat)
  | exc (e : Err)
  | scr (ns : List Int)
  | tl (xs : List PyData)
/-- a value and whether it is a list made anew -/
abbrev RV := AV × Bool
inductive Slot where
  | v (a : AV)
  | own (xs : List PyData)
abbrev En := List (Option Slot)

/-! ### parts of a heap -/
open Classical in
noncomputable def cut (H : Hp) (S : Addr → Prop) : Hp := fun a => if S a then none else H a
theorem cut_some {H : Hp} {S : Addr → Prop} {a : Addr} {o : HO} : cut H S a = some o ↔ H a = some o ∧ ¬ S a := by
  unfold cut
  by_cases h : S a
  · rw [if_pos h]; exact ⟨fun q => (by cases q), fun ⟨_, q⟩ => absurd h q⟩
  · rw [if_neg h]; exact ⟨fun q => ⟨q, h⟩, fun q => q.1⟩
theorem cut_sub {H : Hp} {S : Addr → Prop} : Same (cut H S) H := fun _ _ e => (cut_some.mp e).1
theorem cut_mono {H H' : Hp} {S S' : Addr → Prop} (h : ∀ a o, H a = some o → ¬ S a → H' a = some o ∧ ¬ S' a) : Same (cut H S) (cut H' S') := fun a o e => by
  obtain ⟨e1, e2⟩ := cut_some.mp e
  exact cut_some.mpr (h a o e1 e2)

theorem Same.seqT {K : PySem.W.Frag} {H H' : Hp} {a : Addr} {xs : List V} (e : Same H H') (h : SqT K H a xs) : SqT K H' a xs := by
  rcases h with (h | ⟨o, h⟩) | h
  · exact .inl (.inl (e _ _ h))
  · exact .inl (.inr ⟨o, e _ _ h⟩)
  · exact .inr h

/-! ### data in a heap: lists are tracked, tuples may be written -/
mutual
inductive Rp (K : PySem.W.Frag) (H : Hp) : V → PyData → Prop
  | non : Rp K H .non .none
  | bl (b : Bool) : Rp K H (.bl b) (.bool b)
  | int (i : Int) : Rp K H (.int i) (.int i)
  | str (x : Str) : Rp K H (.str x) (.str x)
  | lst {a : Addr} {xs : List V} {ds : List PyData} : H a = some (.lst xs) → RpAll K H xs ds → Rp K H (.ref a) (.list ds)
  | tup {a : Addr} {xs : List V} {ds : List PyData} : SqT K H a xs → RpAll K H xs ds → Rp K H (.ref a) (.tuple ds)
inductive RpAll (K : PySem.W.Frag) (H : Hp) : List V → List PyData → Prop
  | nil : RpAll K H [] []
  | cons {v : V} {vs : List V} {d : PyData} {ds : List PyData} : Rp K H v d → RpAll K H vs ds → RpAll K H (v :: vs) (d :: ds)
end
section
variable {K : PySem.W.Frag} {H H' : Hp}
mutual
theorem Rp.mono (e : Same H H') : ∀ {v : V} {d : PyData}, Rp K H v d → Rp K H' v d
  | _, _, .non => .non
  | _, _, .bl b => .bl b
  | _, _, .int b => .int b
  | _, _, .str b => .str b
  | _, _, .lst h1 h2 => .lst (e _ _ h1) (RpAll.mono e h2)
  | _, _, .tup h1 h2 => .tup (Same.seqT e h1) (RpAll.mono e h2)
theorem RpAll.mono (e : Same H H') : ∀ {v : List V} {d : List PyData}, RpAll K H v d → RpAll K H' v d
  | _, _, .nil => .nil
  | _, _, .cons h1 h2 => .cons (Rp.mono e h1) (RpAll.mono e h2)
end
mutual
theorem Rp.dp : ∀ {v : V} {d : PyData}, Rp K H v d → Dp K H v d
  | _, _, .non => .non
  | _, _, .bl b => .bl b
  | _, _, .int b => .int b
  | _, _, .str b => .str b
  | _, _, .lst h1 h2 => .lst (SqL.of h1) (RpAll.dp h2)
  | _, _, .tup h1 h2 => .tup h1 (RpAll.dp h2)
theorem RpAll.dp : ∀ {v : List V} {d : List PyData}, RpAll K H v d → DpAll K H v d
  | _, _, .nil => .nil
  | _, _, .cons h1 h2 => .cons (Rp.dp h1) (RpAll.dp h2)
end
theorem RpAll.length : ∀ {vs : List V} {ds : List PyData}, RpAll K H vs ds → vs.length = ds.length
  | _, _, .nil => rfl
  | _, _, .cons _ h => by simp [RpAll.length h]
theorem RpAll.get : ∀ {vs : List V} {ds : List PyData} {i : Nat} {d : PyData}, RpAll K H vs ds → ds[i]? = some d → ∃ v, vs[i]? = some v ∧ Rp K H v d
  | _, _, _, _, .nil, e => by simp at e
  | _, _, 0, _, .cons h _, e => by simp at e; subst e; exact ⟨_, rfl, h⟩
  | _, _, i + 1, d, .cons _ t, e => by
    obtain ⟨u, h1, h2⟩ := RpAll.get (i := i) (d := d) t (by simpa using e)
    exact ⟨u, by simpa using h1, h2⟩
theorem RpAll.append : ∀ {vs vs' : List V} {ds ds' : List PyData}, RpAll K H vs ds → RpAll K H vs' ds' → RpAll K H (vs ++ vs') (ds ++ ds')
  | _, _, _, _, .nil, h => h
  | _, _, _, _, .cons h t, h' => .cons h (RpAll.append t h')
theorem RpAll.set {v : V} {d : PyData} (r : Rp K H v d) : ∀ {vs : List V} {ds : List PyData} (i : Nat), RpAll K H vs ds → RpAll K H (vs.set i v) (ds.set i d)
  | _, _, _, .nil => .nil
  | _, _, 0, .cons _ t => .cons r t
  | _, _, i + 1, .cons q t => .cons q (RpAll.set r i t)
theorem RpAll.drop : ∀ {vs : List V} {ds : List PyData} (n : Nat), RpAll K H vs ds → RpAll K H (vs.drop n) (ds.drop n)
  | _, _, 0, r => r
  | _, _, _ + 1, .nil => .nil
  | _, _, n + 1, .cons _ t => RpAll.drop n t
theorem RpAll.take : ∀ {vs : List V} {ds : List PyData} (n : Nat), RpAll K H vs ds → RpAll K H (vs.take n) (ds.take n)
  | _, _, 0, _ => .nil
  | _, _, _ + 1, .nil => .nil
  | _, _, n + 1, .cons r t => .cons r (RpAll.take n t)
theorem RpAll.rep {vs : List V} {ds : List PyData} (h : RpAll K H vs ds) : ∀ k : Nat, RpAll K H (List.replicate k vs).flatten (List.replicate k ds).flatten
  | 0 => .nil
  | k + 1 => by simp only [List.replicate_succ, List.flatten_cons]; exact h.append (RpAll.rep h k)
theorem RpAll.one {v : V} {d : PyData} (h : Rp K H v d) : RpAll K H [v] [d] := .cons h .nil
theorem RpAll.snoc {vs : List V} {ds : List PyData} {v : V} {d : PyData} (h : RpAll K H vs ds) (h' : Rp K H v d) : RpAll K H (vs ++ [v]) (ds ++ [d]) := h.append (.one h')
theorem RpAll.reverse : ∀ {vs : List V} {ds : List PyData}, RpAll K H vs ds → RpAll K H vs.reverse ds.reverse
  | _, _, .nil => .nil
  | _, _, .cons h t => by simp only [List.reverse_cons]; exact (RpAll.reverse t).snoc h
/-- inversions -/
theorem Rp.int_inv {v : V} {i : Int} (h : Rp K H v (.int i)) : v = .int i := by cases h; rfl
theorem Rp.bl_inv {v : V} {b : Bool} (h : Rp K H v (.bool b)) : v = .bl b := by cases h; rfl
theorem Rp.str_inv {v : V} {x : Str} (h : Rp K H v (.str x)) : v = .str x := by cases h; rfl
theorem Rp.non_inv {v : V} (h : Rp K H v .none) : v = .non := by cases h; rfl
theorem Rp.lst_inv {v : V} {ds : List PyData} (h : Rp K H v (.list ds)) : ∃ a xs, v = .ref a ∧ H a = some (.lst xs) ∧ RpAll K H xs ds := by cases h with | lst h1 h2 => exact ⟨_, _, rfl, h1, h2⟩
theorem Rp.tup_inv {v : V} {ds : List PyData} (h : Rp K H v (.tuple ds)) : ∃ a xs, v = .ref a ∧ SqT K H a xs ∧ RpAll K H xs ds := by cases h with | tup h1 h2 => exact ⟨_, _, rfl, h1, h2⟩
theorem RpAll.ints : ∀ {vs : List V} {ns : List Int}, RpAll K H vs (ns.map PyData.int) → vs = ns.map V.int
  | _, [], h => by cases h; rfl
  | _, n :: ns, h => by
    cases h with
    | cons h1 h2 => rw [h1.int_inv, RpAll.ints h2]; rfl
theorem rpAll_ints : ∀ {ns : List Int}, RpAll K H (ns.map V.int) (ns.map PyData.int)
  | [] => .nil
  | n :: ns => .cons (.int n) rpAll_ints
theorem RpAll.strs : ∀ {vs : List V} {ns : List Str}, RpAll K H vs (ns.map PyData.str) → vs = ns.map V.str
  | _, [], h => by cases h; rfl
  | _, n :: ns, h => by
    cases h with
    | cons h1 h2 => rw [h1.str_inv, RpAll.strs h2]; rfl
theorem rpAll_strs : ∀ {ns : List Str}, RpAll K H (ns.map V.str) (ns.map PyData.str)
  | [] => .nil
  | n :: ns => .cons (.str n) rpAll_strs
theorem RpAll.bls : ∀ {vs : List V} {ns : List Bool}, RpAll K H vs (ns.map PyData.bool) → vs = ns.map V.bl
  | _, [], h => by cases h; rfl
  | _, n :: ns, h => by
    cases h with
    | cons h1 h2 => rw [h1.bl_inv, RpAll.bls h2]; rfl
end
/-- lists of ints, of bools, of texts, out of data -/
def intsOf : List PyData → Option (List Int)
  | [] => some []
  | .int i :: r => (intsOf r).map (i :: ·)
  | _ :: _ => none
theorem intsOf_some : ∀ {ds : List PyData} {ns : List Int}, intsOf ds = some ns → ds = ns.map PyData.int
  | [], ns, h => by
    simp only [intsOf, Option.some.injEq] at h
    subst h; rfl
  | .int i :: r, ns, h => by
    simp only [intsOf, Option.map_eq_some_iff] at h
    obtain ⟨m, h1, h2⟩ := h
    subst h2
    rw [intsOf_some h1]; rfl
  | .none :: _, _, h => by simp [intsOf] at h
  | .bool _ :: _, _, h => by simp [intsOf] at h
  | .str _ :: _, _, h => by simp [intsOf] at h
  | .list _ :: _, _, h => by simp [intsOf] at h
  | .tuple _ :: _, _, h => by simp [intsOf] at h
  | .dict _ :: _, _, h => by simp [intsOf] at h
theorem intsOf_map (ns : List Int) : intsOf (ns.map PyData.int) = some ns := by
  induction ns with
  | nil => rfl
  | cons n ns ih => simp [intsOf, ih]
def boolsOf : List PyData → Option (List Bool)
  | [] => some []
  | .bool i :: r => (boolsOf r).map (i :: ·)
  | _ :: _ => none
theorem boolsOf_some : ∀ {ds : List PyData} {ns : List Bool}, boolsOf ds = some ns → ds = ns.map PyData.bool
  | [], ns, h => by
    simp only [boolsOf, Option.some.injEq] at h
    subst h; rfl
  | .bool i :: r, ns, h => by
    simp only [boolsOf, Option.map_eq_some_iff] at h
    obtain ⟨m, h1, h2⟩ := h
    subst h2
    rw [boolsOf_some h1]; rfl
  | .none :: _, _, h => by simp [boolsOf] at h
  | .int _ :: _, _, h => by simp [boolsOf] at h
  | .str _ :: _, _, h => by simp [boolsOf] at h
  | .list _ :: _, _, h => by simp [boolsOf] at h
  | .tuple _ :: _, _, h => by simp [boolsOf] at h
  | .dict _ :: _, _, h => by simp [boolsOf] at h
theorem boolsOf_map (ns : List Bool) : boolsOf (ns.map PyData.bool) = some ns := by
  induction ns with
  | nil => rfl
  | cons n ns ih => simp [boolsOf, ih]
def strsOf : List PyData → Option (List Str)
  | [] => some []
  | .str i :: r => (strsOf r).map (i :: ·)
  | _ :: _ => none
theorem strsOf_some : ∀ {ds : List PyData} {ns : List Str}, strsOf ds = some ns → ds = ns.map PyData.str
  | [], ns, h => by
    simp only [strsOf, Option.some.injEq] at h
    subst h; rfl
  | .str i :: r, ns, h => by
    simp only [strsOf, Option.map_eq_some_iff] at h
    obtain ⟨m, h1, h2⟩ := h
    subst h2
    rw [strsOf_some h1]; rfl
  | .none :: _, _, h => by simp [strsOf] at h
  | .int _ :: _, _, h => by simp [strsOf] at h
  | .bool _ :: _, _, h => by simp [strsOf] at h
  | .list _ :: _, _, h => by simp [strsOf] at h
  | .tuple _ :: _, _, h => by simp [strsOf] at h
  | .dict _ :: _, _, h => by simp [strsOf] at h
theorem strsOf_map (ns : List Str) : strsOf (ns.map PyData.str) = some ns := by
  induction ns with
  | nil => rfl
  | cons n ns ih => simp [strsOf, ih]

/-! ### the counts that the memo holds -/
def inN (n : Int) (ds : List Int) : Bool := ds.any fun y => decide (y = n)
def leftP (bs : List (Int × Int)) (ds : List Int) : List Int := ((List.range bs.length).map fun k : Nat => (k : Int)).filter fun k => !inN k ds
def lowAt (bs : List (Int × Int)) (k : Int) : Int := (bs.getD k.toNat (0, 0)).1
def highAt (bs : List (Int × Int)) (k : Int) : Int := (bs.getD k.toNat (0, 0)).2
def nextP (bs : List (Int × Int)) (ds : List Int) : List Int := (leftP bs ds).filter fun k => (leftP bs ds).all fun j => decide (lowAt bs k ≤ highAt bs j)
def cntF (bs : List (Int × Int)) : Nat → List Int → Int
  | 0, _ => 1
  | k + 1, ds => ((nextP bs ds).map fun j => cntF bs k (ds ++ [j])).sum
def cnt (bs : List (Int × Int)) (ds : List Int) : Int := cntF bs (bs.length - ds.length) ds
/-- the parts of a list -/
def subs : List Int → List (List Int)
  | [] => [[]]
  | x :: xs => subs xs ++ (subs xs).map (x :: ·)
def upTo (n : Nat) : List Int := (List.range n).map fun k : Nat => (k : Int)

/-! ### objects that change -/
structure Mo where
  tc : Addr
  ec : Err → Addr
structure Gh where
  adr : List Addr
  fp : Nat → Addr → Prop
def Gh.R (g : Gh) (a : Addr) : Prop := ∃ i, g.fp i a
def telF (n q : Addr) : List (Str × V) := putF "past" (.ref q) (putF "now" (.ref n) [])
/-- a list of pairs of ints (tuples) -/
def RpT (K : PySem.W.Frag) (C : Hp) : List V → List (Int × Int) → Prop := Paired fun v b => ∃ t, v = .ref t ∧ SqT K C t [.int b.1, .int b.2]
def ORep (mo : Mo) (K : PySem.W.Frag) (C H : Hp) (f : Addr → Prop) (a : Addr) : AObj → Prop
  | .dr => ∃ (q : Addr) (c : Int) (ns : List Int), H a = some (.lst [.ref q, .int c]) ∧ H q = some (.lst (ns.map V.int)) ∧ a ≠ q ∧ f a ∧ f q ∧ 0 < ns.length ∧ ns.length ≤ 63 ∧ 0 ≤ c
  | .memo bs => ∃ kvs : List (List Key × V), H a = some (.dT kvs) ∧ f a ∧ (kvs.map (·.1)).Nodup ∧ ∀ p ∈ kvs, ∃ ks : List Int, ks ∈ subs (upTo bs.length) ∧ p.1 = ks.map Sum.inl ∧ p.2 = .int (cnt bs ks)
  | .tel now past => ∃ (dx n q : Addr) (ps : List Addr) (vn : List V), H a = some (.ins mo.tc dx (telF n q)) ∧ H n = some (.lst vn) ∧ H q = some (.lst (ps.map V.ref)) ∧ RpT K C vn now ∧
      Paired (fun p xs => ∃ vs, H p = some (.lst vs) ∧ RpT K C vs xs ∧ f p) ps past ∧ f a ∧ f dx ∧ f n ∧ f q ∧ n ≠ q ∧ n ∉ ps ∧ q ∉ ps ∧ ps.Nodup ∧ H dx ≠ none
structure WOk (mo : Mo) (K : PySem.W.Frag) (S : Addr → Prop) (g : Gh) (W : Wd) (H : Hp) : Prop where
  len : g.adr.length = W.length
  dom : ∀ i a, g.fp i a → i < W.length ∧ H a ≠ none
  dis : ∀ i j a, g.fp i a → g.fp j a → i = j
  rep : ∀ (i : Nat) (a : Addr) (o : AObj), g.adr[i]? = some a → W[i]? = some o → ORep mo K (cut H g.R) H (g.fp i) a o
theorem Paired.imp {α β : Type} {F G : α → β → Prop} (f : ∀ a b, F a b → G a b) : ∀ {l₁ : List α} {l₂ : List β}, Paired F l₁ l₂ → Paired G l₁ l₂
  | _, _, .nil => .nil
  | _, _, .cons r t => .cons (f _ _ r) (Paired.imp f t)
theorem ORep.mono {mo : Mo} {K : PySem.W.Frag} {C C' H H' : Hp} {f : Addr → Prop} {a : Addr} (hC : ∀ t xs, SqT K C t xs → SqT K C' t xs) (hH : ∀ a o, f a → H a = some o → H' a = some o) : ∀ {o : AObj}, ORep mo K C H f a o → ORep mo K C' H' f a o
  | .dr, ⟨q, c, ns, h1, h2, h3, h4, h5, h6⟩ => ⟨q, c, ns, hH _ _ h4 h1, hH _ _ h5 h2, h3, h4, h5, h6⟩
  | .memo _, ⟨kvs, h1, h2, h3⟩ => ⟨kvs, hH _ _ h2 h1, h2, h3⟩
  | .tel _ _, ⟨dx, n, q, ps, vn, h1, h2, h3, h4, h5, fa, fdx, fn, fq, h6, h7, h8, h9, h10⟩ => ⟨dx, n, q, ps, vn, hH _ _ fa h1, hH _ _ fn h2, hH _ _ fq h3, Paired.imp (fun v b ⟨t, e, z⟩ => ⟨t, e, hC _ _ z⟩) h4,
      Paired.imp (fun p xs ⟨vs, k1, k2, k3⟩ => ⟨vs, hH _ _ k3 k1, Paired.imp (fun v b ⟨t, e, z⟩ => ⟨t, e, hC _ _ z⟩) k2, k3⟩) h5, fa, fdx, fn, fq, h6, h7, h8, h9, fun z => by
        cases e : H dx with
        | none => exact h10 e
        | some o => rw [hH _ _ fdx e] at z; cases z⟩

structure Step (g : Gh) (H : Hp) (g' : Gh) (H' : Hp) : Prop where
  keep : ∀ a o, ¬ g.R a → H a = some o → H' a = some o ∧ ¬ g'.R a
  dom : ∀ a, H a ≠ none → H' a ≠ none
  adr : ∀ (i : Nat) (a : Addr), g.adr[i]? = some a → g'.adr[i]? = some a
/-- a list that is no object's -/
def OL (g : Gh) (H : Hp) (a : Addr) : Prop := (∃ vs, H a = some (.lst vs)) ∧ ¬ g.R a
theorem OL.ne {g : Gh} {H : Hp} {a : Addr} (h : OL g H a) : H a ≠ none := by
  obtain ⟨⟨vs, e⟩, _⟩ := h
  rw [e]
  exact fun z => by cases z
theorem Step.own {g g' : Gh} {H H' : Hp} (s : Step g H g' H') (a : Addr) (h : OL g H a) : OL g' H' a :=
  let ⟨⟨vs, e⟩, n⟩ := h; let ⟨e1, n1⟩ := s.keep a _ n e; ⟨⟨vs, e1⟩, n1⟩
theorem OL.same {g : Gh} {H H' : Hp} {a : Addr} (h : OL g H a) (s : Same H H') : OL g H' a := let ⟨⟨vs, e⟩, n⟩ := h; ⟨⟨vs, s _ _ e⟩, n⟩
theorem Step.refl (g : Gh) (H : Hp) : Step g H g H := ⟨fun _ _ h e => ⟨e, h⟩, fun _ h => h, fun _ _ h => h⟩
theorem Step.trans {g g1 g2 : Gh} {H H1 H2 : Hp} (a : Step g H g1 H1) (b : Step g1 H1 g2 H2) : Step g H g2 H2 :=
  ⟨fun x o h e => let ⟨e1, h1⟩ := a.keep x o h e; b.keep x o h1 e1, fun x h => b.dom x (a.dom x h), fun i x h => b.adr i x (a.adr i x h)⟩
theorem Step.back {g g' : Gh} {H H' : Hp} (a : Step g H g' H') {p : Addr} (h : H' p = none) : H p = none := by
  cases e : H p with
  | none => rfl
  | some o => exact absurd h (a.dom p (by rw [e]; exact fun z => by cases z))
theorem same_ne {H H' : Hp} (h : Same H H') {a : Addr} (e : H a ≠ none) : H' a ≠ none := by
  cases q : H a with
  | none => exact absurd q e
  | some o => rw [h a o q]; exact fun z => by cases z
theorem Step.of_same {g : Gh} {H H' : Hp} (h : Same H H') : Step g H g H' := ⟨fun a o hn e => ⟨h a o e, hn⟩, fun _ e => same_ne h e, fun _ _ e => e⟩
theorem same_new {H : Hp} {p : Addr} {o : HO} (h : H p = none) : Same H (upd H p o) := fun a u e => by
  rw [upd_ne (ne_of_none e h)]
  exact e
theorem WOk.same {mo : Mo} {K : PySem.W.Frag} {S : Addr → Prop} {g : Gh} {W : Wd} {H H' : Hp} (w : WOk mo K S g W H) (h : Same H H') : WOk mo K S g W H' where
  len := w.len
  dom := fun i a f => ⟨(w.dom i a f).1, same_ne h (w.dom i a f).2⟩
  dis := w.dis
  rep := fun i a o e1 e2 => (w.rep i a o e1 e2).mono (fun t xs z => Same.seqT (cut_mono fun b u q n => ⟨h b u q, n⟩) z) fun b u _ q => h b u q
theorem WOk.rdom {mo : Mo} {K : PySem.W.Frag} {S : Addr → Prop} {g : Gh} {W : Wd} {H : Hp} (w : WOk mo K S g W H) {a : Addr} (h : g.R a) : H a ≠ none := let ⟨i, f⟩ := h; (w.dom i a f).2

theorem WOk.any {mo : Mo} {K : PySem.W.Frag} {S S' : Addr → Prop} {g : Gh} {W : Wd} {H : Hp} (w : WOk mo K S g W H) : WOk mo K S' g W H := ⟨w.len, w.dom, w.dis, w.rep⟩
theorem WOk.new {mo : Mo} {K : PySem.W.Frag} {S S' : Addr → Prop} {g : Gh} {W : Wd} {H : Hp} {p : Addr} {u : HO} (w : WOk mo K S g W H) (h : H p = none) : WOk mo K S' g W (upd H p u) := (w.same (same_new h)).any
theorem WOk.less {mo : Mo} {K : PySem.W.Frag} {S S' : Addr → Prop} {g : Gh} {W : Wd} {H : Hp} (w : WOk mo K S g W H) (h : ∀ a, S' a → S a) : WOk mo K S' g W H := w.any
/-- a list that is no object's is changed -/
theorem WOk.put {mo : Mo} {K : PySem.W.Frag} {S S' : Addr → Prop} {g : Gh} {W : Wd} {H : Hp} {p : Addr} {vs : List V} {u : HO} (w : WOk mo K S g W H) (n : ¬ g.R p) (hp : H p = some (.lst vs)) : WOk mo K S' g W (upd H p u) where
  len := w.len
  dom := fun i a f => ⟨(w.dom i a f).1, by rw [upd_ne (show _ ≠ p from fun z => by subst z; exact n ⟨i, f⟩)]; exact (w.dom i a f).2⟩
  dis := w.dis
  rep := fun i a o e1 e2 => (w.rep i a o e1 e2).mono (fun t xs z => by
    rcases z with (z | ⟨o, z⟩) | z
    · obtain ⟨z1, z2⟩ := cut_some.mp z
      refine .inl (.inl (cut_some.mpr ⟨?_, z2⟩))
      rw [upd_ne (ne_of z1 hp (by intro q; cases q))]
      exact z1
    · obtain ⟨z1, z2⟩ := cut_some.mp z
      refine .inl (.inr ⟨o, cut_some.mpr ⟨?_, z2⟩⟩)
      rw [upd_ne (ne_of z1 hp (by intro q; cases q))]
      exact z1
    · exact .inr z) fun b v f q => by rw [upd_ne (show _ ≠ p from fun z => by subst z; exact n ⟨i, f⟩)]; exact q

/-! ### abstract values in a heap -/
def excP (c a : Addr) : Heap → Prop := fun h => ∃ oe : Obj, h.get? a = some oe ∧ Zc (.ref c) none oe ∧ ∃ vs, oe.data = .fields vs
def RepA (mo : Mo) (K : PySem.W.Frag) (S : Addr → Prop) (g : Gh) (H : Hp) (v : V) : AV → Prop
  | .d p => Rp K (cut H fun a => S a ∨ g.R a) v p
  | .ob i => ∃ a, g.adr[i]? = some a ∧ v = .ref a
  | .exc e => ∃ a, v = .ref a ∧ H a = some (.ext (excP (mo.ec e) a)) ∧ ¬ S a ∧ ¬ g.R a
  | .scr ns => ∃ a, v = .ref a ∧ SqL K (cut H fun a => S a ∨ g.R a) a (ns.map V.int)
  | .tl xs => ∃ a dx n q, v = .ref a ∧ cut H (fun a => S a ∨ g.R a) a = some (.ins mo.tc dx (telF n q)) ∧ Rp K (cut H fun a => S a ∨ g.R a) (.ref n) (.list xs)
theorem cut_step {S : Addr → Prop} {g g' : Gh} {H H' : Hp} (h : Step g H g' H') : Same (cut H fun a => S a ∨ g.R a) (cut H' fun a => S a ∨ g'.R a) :=
  cut_mono fun a o e n => let ⟨e1, h1⟩ := h.keep a o (fun z => n (.inr z)) e; ⟨e1, fun z => z.elim (fun q => n (.inl q)) h1⟩
theorem RepA.step {mo : Mo} {K : PySem.W.Frag} {S : Addr → Prop} {g g' : Gh} {H H' : Hp} {v : V} (h : Step g H g' H') : ∀ {a : AV}, RepA mo K S g H v a → RepA mo K S g' H' v a
  | .d _, r => Rp.mono (cut_step h) r
  | .ob i, ⟨a, e, q⟩ => ⟨a, h.adr i a e, q⟩
  | .exc _, ⟨a, q, e, n1, n2⟩ => let ⟨e1, h1⟩ := h.keep a _ n2 e; ⟨a, q, e1, n1, h1⟩
  | .scr _, ⟨a, q, e⟩ => ⟨a, q, (cut_step h).seq e⟩
  | .tl _, ⟨a, dx, n, q, e1, e2, e3⟩ => ⟨a, dx, n, q, e1, cut_step h _ _ e2, Rp.mono (cut_step h) e3⟩
theorem RepA.less {mo : Mo} {K : PySem.W.Frag} {S S' : Addr → Prop} {g : Gh} {H : Hp} {v : V} (h : ∀ a, S' a → S a) : ∀ {a : AV}, RepA mo K S g H v a → RepA mo K S' g H v a
  | .d _, r => Rp.mono (cut_mono fun a o e n => ⟨e, fun z => n (z.imp_left (h a))⟩) r
  | .ob i, r => r
  | .exc _, ⟨a, q, e, n1, n2⟩ => ⟨a, q, e, fun z => n1 (h a z), n2⟩
  | .scr _, ⟨a, q, e⟩ => ⟨a, q, Same.seq (cut_mono fun a o e n => ⟨e, fun z => n (z.imp_left (h a))⟩) e⟩
  | .tl _, ⟨a, dx, n, q, e1, e2, e3⟩ => ⟨a, dx, n, q, e1, cut_mono (fun a o e n => ⟨e, fun z => n (z.imp_left (h a))⟩) _ _ e2, Rp.mono (cut_mono fun a o e n => ⟨e, fun z => n (z.imp_left (h a))⟩) e3⟩
/-- a list made since H₀ -/
def Fresh (mo : Mo) (K : PySem.W.Frag) (S : Addr → Prop) (g' : Gh) (W' : Wd) (H₀ H' : Hp) (v : V) (a : AV) : Prop :=
  ∃ (p : Addr) (vs : List V) (xs : List PyData), v = .ref p ∧ a = .d (.list xs) ∧ H₀ p = none ∧ H' p = some (.lst vs) ∧ ¬ S p ∧ ¬ g'.R p ∧ RpAll K (cut H' fun b => (S b ∨ g'.R b) ∨ b = p) vs xs ∧ WOk mo K (fun b => S b ∨ b = p) g' W' H'
def RepR (mo : Mo) (K : PySem.W.Frag) (S : Addr → Prop) (g' : Gh) (W' : Wd) (H₀ H' : Hp) (v : V) (r : RV) : Prop :=
  RepA mo K S g' H' v r.1 ∧ (r.2 = true → Fresh mo K S g' W' H₀ H' v r.1)
structure RepE (mo : Mo) (K : PySem.W.Frag) (S : Addr → Prop) (g : Gh) (W : Wd) (σ : St) (H : Hp) (en : En) : Prop where
  sl : ∀ (i : Nat) (a : AV), en[i]? = some (some (.v a)) → ∃ v, σ[i]? = some (some v) ∧ RepA mo K S g H v a
  len : en.length = σ.length
  wok : WOk mo K S g W H
  sd : ∀ a, S a → OL g H a
theorem RepE.step {mo : Mo} {K : PySem.W.Frag} {S : Addr → Prop} {g g' : Gh} {W W' : Wd} {σ : St} {H H' : Hp} {en : En} (r : RepE mo K S g W σ H en) (h : Step g H g' H') (w : WOk mo K S g' W' H') : RepE mo K S g' W' σ H' en where
  sl := fun i a e => let ⟨v, e1, q⟩ := r.sl i a e; ⟨v, e1, q.step h⟩
  len := r.len
  wok := w
  sd := fun a s => h.own a (r.sd a s)

/-! ### the judgements -/
/-- what is wanted of a value -/
def QE (mo : Mo) (K : PySem.W.Frag) (S : Addr → Prop) (g : Gh) (H : Hp) (Q : VK) : RV → Wd → Prop := fun r W' => ∀ g' v H', Step g H g' H' → WOk mo K S g' W' H' → RepR mo K S g' W' H H' v r → Q v H'
def QT (mo : Mo) (K : PySem.W.Frag) (S : Addr → Prop) (g : Gh) (H : Hp) (Q : Bool → Hp → Prop) : Bool → Wd → Prop := fun b W' => ∀ g' H', Step g H g' H' → WOk mo K S g' W' H' → Q b H'
def RepAs (mo : Mo) (K : PySem.W.Frag) (S : Addr → Prop) (g : Gh) (H : Hp) : List V → List AV → Prop := Paired (RepA mo K S g H)
def QA (mo : Mo) (K : PySem.W.Frag) (n : Nat) (S : Addr → Prop) (g : Gh) (H : Hp) (Q : List V → Hp → Prop) : List AV → Wd → Prop := fun as W' => ∀ g' vs H', Step g H g' H' → WOk mo K S g' W' H' → RepAs mo K S g' H' vs as → vs.length = n → Q vs H'
def EE (mo : Mo) (K : PySem.W.Frag) (S : Addr → Prop) (g : Gh) (H : Hp) (E : XK) : Err → Wd → Prop := fun er W' => ∀ g' H', Step g H g' H' → WOk mo K S g' W' H' → E (.ref (mo.ec er)) none H'
def DE (X : Cx) (mo : Mo) (E : XK) (e : Expr) (f : En → M RV) : Prop :=
  ∃ t : TE, PE X e t ∧ ∀ (S : Addr → Prop) (g : Gh) (W : Wd) (σ : St) (H : Hp) (en : En) (Q : VK), RepE mo X.K S g W σ H en → wp (f en) W (QE mo X.K S g H Q) (EE mo X.K S g H E) → t σ H Q
def DT (X : Cx) (mo : Mo) (E : XK) (e : Expr) (f : En → M Bool) : Prop :=
  ∃ t : TT, PT X e t ∧ ∀ (S : Addr → Prop) (g : Gh) (W : Wd) (σ : St) (H : Hp) (en : En) (Q : Bool → Hp → Prop), RepE mo X.K S g W σ H en → wp (f en) W (QT mo X.K S g H Q) (EE mo X.K S g H E) → t σ H Q
def DA (X : Cx) (mo : Mo) (E : XK) (es : List Expr) (f : En → M (List AV)) : Prop :=
  ∃ t : TA, PA X es t ∧ ∀ (S : Addr → Prop) (g : Gh) (W : Wd) (σ : St) (H : Hp) (en : En) (Q : List V → Hp → Prop), RepE mo X.K S g W σ H en → wp (f en) W (QA mo X.K es.length S g H Q) (EE mo X.K S g H E) → t σ H Q
section
variable {mo : Mo} {K : PySem.W.Frag} {S : Addr → Prop} {g g' : Gh} {H H' : Hp} {E : XK}
theorem QE.step {Q : VK} {r : RV} {W' : Wd} (h : Step g H g' H') (q : QE mo K S g H Q r W') : QE mo K S g' H' Q r W' := fun g2 v H2 s w ⟨r1, r2⟩ => q g2 v H2 (h.trans s) w ⟨r1, fun e =>
  let ⟨p, vs, xs, a1, a2, a3, a4⟩ := r2 e
  ⟨p, vs, xs, a1, a2, h.back a3, a4⟩⟩
theorem QT.step {Q : Bool → Hp → Prop} {r : Bool} {W' : Wd} (h : Step g H g' H') (q : QT mo K S g H Q r W') : QT mo K S g' H' Q r W' := fun g2 H2 s w => q g2 H2 (h.trans s) w
theorem QA.step {n : Nat} {Q : List V → Hp → Prop} {r : List AV} {W' : Wd} (h : Step g H g' H') (q : QA mo K n S g H Q r W') : QA mo K n S g' H' Q r W' := fun g2 vs H2 s w => q g2 vs H2 (h.trans s) w
theorem EE.step {er : Err} {W' : Wd} (h : Step g H g' H') (q : EE mo K S g H E er W') : EE mo K S g' H' E er W' := fun g2 H2 s w => q g2 H2 (h.trans s) w
theorem RepAs.step {vs : List V} {as : List AV} (h : Step g H g' H') (r : RepAs mo K S g H vs as) : RepAs mo K S g' H' vs as := Paired.imp (fun _ _ q => q.step h) r
/-- a value that is no list made anew -/
theorem QE.ret {Q : VK} {a : AV} {W' : Wd} {v : V} (q : QE mo K S g H Q (a, false) W') (w : WOk mo K S g W' H) (r : RepA mo K S g H v a) : Q v H := q g v H (.refl g H) w ⟨r, fun z => by cases z⟩
/-- a new tracked object -/
theorem QE.new {Q : VK} {W' : Wd} {p : Addr} {vs : List V} {xs : List PyData} (q : QE mo K S g H Q (.d (.list xs), true) W') (w : WOk mo K S g W' H) (sd : ∀ a, S a → OL g H a) (hp : H p = none) (r : RpAll K (cut H fun a => S a ∨ g.R a) vs xs) : Q (.ref p) (upd H p (.lst vs)) := by
  have nS : ¬ S p := fun z => (sd p z).ne hp
  have nR : ¬ g.R p := fun z => w.rdom z hp
  have s1 : Same (cut H fun a => S a ∨ g.R a) (cut (upd H p (.lst vs)) fun a => S a ∨ g.R a) := cut_mono fun a o e n => ⟨same_new hp a o e, n⟩
  refine q g (.ref p) _ (.of_same (same_new hp)) (w.same (same_new hp)) ⟨.lst (cut_some.mpr ⟨upd_same, fun z => z.elim nS nR⟩) (r.mono s1), fun _ => ⟨p, vs, xs, rfl, rfl, hp, upd_same, nS, nR, r.mono (cut_mono fun a o e n => ⟨same_new hp a o e, fun z => z.elim n fun z => ?_⟩), w.new hp⟩⟩
  subst z
  rw [hp] at e
  cases e
theorem QE.newT {Q : VK} {W' : Wd} {p : Addr} {vs : List V} {xs : List PyData} (q : QE mo K S g H Q (.d (.tuple xs), false) W') (w : WOk mo K S g W' H) (sd : ∀ a, S a → OL g H a) (hp : H p = none) (r : RpAll K (cut H fun a => S a ∨ g.R a) vs xs) : Q (.ref p) (upd H p (.tup vs)) := by
  have nS : ¬ S p := fun z => (sd p z).ne hp
  have nR : ¬ g.R p := fun z => w.rdom z hp
  have s1 : Same (cut H fun a => S a ∨ g.R a) (cut (upd H p (.tup vs)) fun a => S a ∨ g.R a) := cut_mono fun a o e n => ⟨same_new hp a o e, n⟩
  exact q g (.ref p) _ (.of_same (same_new hp)) (w.same (same_new hp)) ⟨.tup (SqT.of (cut_some.mpr ⟨upd_same, fun z => z.elim nS nR⟩)) (r.mono s1), fun z => by cases z⟩
end
end Dt

/-! The data layer, part 2: rules for expressions. -/
namespace Dt
open PySem L2

def big : Nat := 2 ^ 1000
def lim : Nat := 1000000
theorem lim_line {n : Nat} (h : n ≤ lim) : n ≤ sizeLine := Nat.le_trans h (by decide)
theorem lim_lt {n : Nat} (h : n ≤ lim) : n < sizeLine := Nat.lt_of_le_of_lt h (by decide)
abbrev rI' (i : Int) : M RV := .ret (.d (.int i), false)
abbrev rB (b : Bool) : M RV := .ret (.d (.bool b), false)

/-! ### names and constants -/
def dVar (i : Nat) : En → M RV := fun en => match en[i]? with
  | some (some (.v a)) => .ret (a, false)
  | _ => .stuck
def dC (p : PyData) : En → M RV := fun _ => .ret (.d p, false)
section
variable {X : Cx} {mo : Mo} {E : XK} {pos : Pos} {a b c : Expr} {fa fb fc : En → M RV}
theorem de_var (i : Nat) {x : Str} (hN : X.N[i]? = some x := by rfl) (hv : Vis X.env.scope x := by first | exact Or.inl rfl | exact Or.inr (Or.inl rfl) | exact Or.inr (Or.inr rfl)) (hd : (x == ("__debug__" : Str)) = false := by decide)
    (hcd : (x == ("__classdict__" : Str)) = false := by decide) : DE X mo E (.Name x pos) (dVar i) := by
  refine ⟨tVar i, pe_var hN hv hd hcd, fun S g W σ H en Q hR h => ?_⟩
  unfold dVar at h
  split at h
  · rename_i a e
    obtain ⟨v, e1, r⟩ := hR.sl i a e
    exact ⟨v, e1, QE.ret h hR.wok r⟩
  · exact h.elim
theorem de_c {v : V} {p : PyData} (hp : PE X a (tC v)) (hr : ∀ H, Rp X.K H v p) : DE X mo E a (dC p) :=
  ⟨tC v, hp, fun S g W σ H en Q hR h => QE.ret h hR.wok (hr _)⟩
theorem de_int {i : Int} {j : Nat} : DE X mo E (.Constant (.int i) j pos) (dC (.int i)) := de_c pe_int fun _ => .int i
theorem de_bl {i : Bool} {j : Nat} : DE X mo E (.Constant (.bool i) j pos) (dC (.bool i)) := de_c pe_bl fun _ => .bl i
theorem de_non {j : Nat} : DE X mo E (.Constant .none j pos) (dC .none) := de_c pe_non fun _ => .non
theorem de_str {x : Str} {j : Nat} : DE X mo E (.Constant (.str x) j pos) (dC (.str x)) := de_c pe_str fun _ => .str x
theorem de_gint {x : Str} {i : Int} (hm : ∃ t, X.mg x = some (.int i t)) (hg : Gl X x := by rfl) (hd : (x == ("__debug__" : Str)) = false := by decide) : DE X mo E (.Name x pos) (dC (.int i)) := by
  obtain ⟨t, hm⟩ := hm
  exact de_c (pe_glob (v := .int i) hg hm ⟨t, rfl⟩ hd) fun _ => .int i
theorem de_gstr {x z : Str} (hm : ∃ t, X.mg x = some (.str z t)) (hg : Gl X x := by rfl) (hd : (x == ("__debug__" : Str)) = false := by decide) : DE X mo E (.Name x pos) (dC (.str z)) := by
  obtain ⟨t, hm⟩ := hm
  exact de_c (pe_glob (v := .str z) hg hm ⟨t, rfl⟩ hd) fun _ => .str z
theorem de_gtup {x : Str} {f : Addr} {vs : List V} {ds : List PyData} (hm : X.mg x = some (.ref f)) (ht : ∀ H, SqT X.K H f vs) (ha : ∀ H, RpAll X.K H vs ds) (hg : Gl X x := by rfl) (hd : (x == ("__debug__" : Str)) = false := by decide) : DE X mo E (.Name x pos) (dC (.tuple ds)) :=
  de_c (pe_glob (v := .ref f) hg hm rfl hd) fun H => .tup (ht H) (ha H)

/-! ### two operands -/
def OpD (mo : Mo) (K : PySem.W.Frag) (r : R2) (f : AV → AV → M RV) : Prop :=
  ∀ (S : Addr → Prop) (g : Gh) (W : Wd) (H : Hp) (x y : V) (a b : AV) (Q : VK) (E' : Err → Wd → Prop), WOk mo K S g W H → (∀ a, S a → OL g H a) → RepA mo K S g H x a → RepA mo K S g H y b → wp (f a b) W (QE mo K S g H Q) E' → r x y H Q
def dBin (f : AV → AV → M RV) (fa fb : En → M RV) : En → M RV := fun en => (fa en).bind fun x => (fb en).bind fun y => f x.1 y.1
theorem op_run {r : R2} {f : AV → AV → M RV} {ta tb : TE} (hd : OpD mo X.K r f)
    (wa : ∀ (S : Addr → Prop) (g : Gh) (W : Wd) (σ : St) (H : Hp) (en : En) (Q : VK), RepE mo X.K S g W σ H en → wp (fa en) W (QE mo X.K S g H Q) (EE mo X.K S g H E) → ta σ H Q)
    (wb : ∀ (S : Addr → Prop) (g : Gh) (W : Wd) (σ : St) (H : Hp) (en : En) (Q : VK), RepE mo X.K S g W σ H en → wp (fb en) W (QE mo X.K S g H Q) (EE mo X.K S g H E) → tb σ H Q)
    (S : Addr → Prop) (g : Gh) (W : Wd) (σ : St) (H : Hp) (en : En) (Q : VK) (hR : RepE mo X.K S g W σ H en) (h : wp (dBin f fa fb en) W (QE mo X.K S g H Q) (EE mo X.K S g H E)) : tOp r ta tb σ H Q := by
  unfold dBin at h
  rw [wp_bind] at h
  refine wa S g W σ H en _ hR (wp_mono h (fun r1 W1 q g1 v1 H1 s1 w1 rr1 => ?_) fun _ _ q => q)
  rw [wp_bind] at q
  refine wb S g1 W1 σ H1 en _ (hR.step s1 w1) (wp_mono q (fun r2 W2 q2 g2 v2 H2 s2 w2 rr2 => ?_) fun _ _ q => q.step s1)
  exact hd S g2 W2 H2 v1 v2 r1.1 r2.1 Q _ w2 (fun a s => s2.own a (s1.own a (hR.sd a s))) (rr1.1.step s2) rr2.1 (wp_mono q2 (fun _ _ q => q.step (s1.trans s2)) fun _ _ q => q)
theorem de_bin {op : Operator} {r : R2} {f : AV → AV → M RV} (ho : OpR X (binaryOp op) r) (hd : OpD mo X.K r f) (ha : DE X mo E a fa) (hb : DE X mo E b fb) : DE X mo E (.BinOp a op b pos) (dBin f fa fb) := by
  obtain ⟨ta, pa, wa⟩ := ha
  obtain ⟨tb, pb, wb⟩ := hb
  exact ⟨tOp r ta tb, pe_op ho pa pb, op_run hd wa wb⟩
theorem de_cmp {op : CmpOp} {r : R2} {f : AV → AV → M RV} (ho : OpR X (compareOp op) r) (hd : OpD mo X.K r f) (ha : DE X mo E a fa) (hb : DE X mo E b fb) (hm : behindInMarks op b = false) : DE X mo E (.Compare a [op] [b] pos) (dBin f fa fb) := by
  obtain ⟨ta, pa, wa⟩ := ha
  obtain ⟨tb, pb, wb⟩ := hb
  exact ⟨tOp r ta tb, pe_cmpR ho pa pb hm, op_run hd wa wb⟩
theorem OpD.or {r r' : R2} {f : AV → AV → M RV} {K : PySem.W.Frag} (h : OpD mo K r f) : OpD mo K (fun x y H Q => r x y H Q ∨ r' x y H Q) f := fun S g W H x y a b Q E' w sd ra rb hw => .inl (h S g W H x y a b Q E' w sd ra rb hw)

/-! ### the operations on data -/
def oAdd : AV → AV → M RV
  | .d (.int i), .d (.int j) => rI' (i + j)
  | .d (.list xs), .d (.list ys) => if xs.length + ys.length ≤ lim then .ret (.d (.list (xs ++ ys)), true) else .stuck
  | .d (.str x), .d (.str y) => if x.length + y.length ≤ lim then .ret (.d (.str (x ++ y)), false) else .stuck
  | _, _ => .stuck
abbrev RAdd : R2 := fun x y H Q => rI0 (fun i j => .int (i + j)) x y H Q ∨ rCat x y H Q ∨ (∃ i j, x = .str i ∧ y = .str j ∧ i.length + j.length ≤ sizeLine ∧ Q (.str (i ++ j)) H)
theorem opr_add : OpR X (binaryOp .Add) RAdd := op_add.or (op_cat.or op_add_str)
theorem cutS {S : Addr → Prop} {H : Hp} {a : Addr} {o : HO} (h : cut H S a = some o) : H a = some o := (cut_some.mp h).1
theorem opd_add {K : PySem.W.Frag} : OpD mo K RAdd oAdd := by
  intro S g W H x y a b Q E' w sd ra rb h
  unfold oAdd at h
  split at h
  · rw [Rp.int_inv ra, Rp.int_inv rb]
    exact .inl ⟨_, _, rfl, rfl, QE.ret h w (Rp.int _)⟩
  · split at h
    · rename_i hl
      obtain ⟨p, vs, rfl, hp, ap⟩ := Rp.lst_inv ra
      obtain ⟨q, us, rfl, hq, aq⟩ := Rp.lst_inv rb
      refine .inr (.inl ⟨p, q, vs, us, rfl, rfl, cutS hp, cutS hq, lim_line (by rw [ap.length, aq.length]; exact hl), fun t ht => QE.new h w sd ht (ap.append aq)⟩)
    · exact h.elim
  · split at h
    · rename_i hl
      rw [Rp.str_inv ra, Rp.str_inv rb]
      exact .inr (.inr ⟨_, _, rfl, rfl, lim_line hl, QE.ret h w (Rp.str _)⟩)
    · exact h.elim
  · exact h.elim
theorem de_add (ha : DE X mo E a fa) (hb : DE X mo E b fb) : DE X mo E (.BinOp a .Add b pos) (dBin oAdd fa fb) := de_bin opr_add opd_add ha hb
/-- of two ints -/
def oInt (f : Int → Int → PyData) : AV → AV → M RV
  | .d (.int i), .d (.int j) => .ret (.d (f i j), false)
  | _, _ => .stuck
theorem opd_int {K : PySem.W.Frag} {f : Int → Int → V} {f' : Int → Int → PyData} (hf : ∀ i j H, Rp K H (f i j) (f' i j)) : OpD mo K (rI0 f) (oInt f') := by
  intro S g W H x y a b Q E' w sd ra rb h
  unfold oInt at h
  split at h
  · rw [Rp.int_inv ra, Rp.int_inv rb]
    exact ⟨_, _, rfl, rfl, QE.ret h w (hf _ _ _)⟩
  · exact h.elim
def oSub := oInt fun i j => .int (i - j)
theorem de_sub (ha : DE X mo E a fa) (hb : DE X mo E b fb) : DE X mo E (.BinOp a .Sub b pos) (dBin oSub fa fb) := de_bin op_sub (opd_int fun _ _ _ => .int _) ha hb
def oMul : AV → AV → M RV
  | .d (.int i), .d (.int j) => if i.natAbs < big ∧ j.natAbs < big then rI' (i * j) else .stuck
  | .d (.list xs), .d (.int k) => if 0 ≤ k ∧ k ≤ 1000 ∧ xs.length * k.toNat ≤ lim then .ret (.d (.list (List.replicate k.toNat xs).flatten), true) else .stuck
  | .d (.tuple xs), .d (.int k) => if xs ≠ [] ∧ 2 ≤ k ∧ k ≤ 1000 ∧ xs.length ≤ 1000 then .ret (.d (.tuple (List.replicate k.toNat xs).flatten), false) else .stuck
  | _, _ => .stuck
abbrev RMul (K : PySem.W.Frag) : R2 := fun x y H Q => rI CMulW (fun i j => .int (i * j)) x y H Q ∨ rRep x y H Q ∨ rRepT K x y H Q
theorem opr_mul : OpR X (binaryOp .Mult) (RMul X.K) := op_mulW.or (op_rep.or op_repT)
theorem mulW_big {i j : Int} (h : i.natAbs < big ∧ j.natAbs < big) : CMulW i j := wide_mul (a := 1000) (b := 1000) h.1 h.2 (by decide) (by decide) (by decide)
theorem opd_mul {K : PySem.W.Frag} : OpD mo K (RMul K) oMul := by
  intro S g W H x y a b Q E' w sd ra rb h
  unfold oMul at h
  split at h
  · split at h
    · rename_i hl
      rw [Rp.int_inv ra, Rp.int_inv rb]
      exact .inl ⟨_, _, rfl, rfl, mulW_big hl, QE.ret h w (Rp.int _)⟩
    · exact h.elim
  · split at h
    · rename_i hl
      obtain ⟨p, vs, rfl, hp, ap⟩ := Rp.lst_inv ra
      rw [Rp.int_inv rb]
      obtain ⟨h1, h2, h3⟩ := hl
      exact .inr (.inl ⟨p, _, vs, rfl, rfl, cutS hp, by omega, by omega, lim_line (by rw [ap.length]; exact h3), fun t ht => QE.new h w sd ht (ap.rep _)⟩)
    · exact h.elim
  · split at h
    · rename_i hl
      obtain ⟨p, vs, rfl, hp, ap⟩ := Rp.tup_inv ra
      rw [Rp.int_inv rb]
      obtain ⟨h0, h1, h2, h3⟩ := hl
      exact .inr (.inr ⟨p, _, vs, rfl, rfl, Same.seqT cut_sub hp, fun z => h0 (by subst z; cases ap; rfl), h1, h2, by rw [ap.length]; exact h3, fun t ht => QE.newT h w sd ht (ap.rep _)⟩)
    · exact h.elim
  · exact h.elim
theorem de_mul (ha : DE X mo E a fa) (hb : DE X mo E b fb) : DE X mo E (.BinOp a .Mult b pos) (dBin oMul fa fb) := de_bin opr_mul opd_mul ha hb
def oDiv : AV → AV → M RV
  | .d (.int i), .d (.int j) => if 0 < j ∧ j.natAbs < big then rI' (i / j) else .stuck
  | _, _ => .stuck
theorem opd_div {K : PySem.W.Frag} : OpD mo K (rI CDivW fun i j => .int (i / j)) oDiv := by
  intro S g W H x y a b Q E' w sd ra rb h
  unfold oDiv at h
  split at h
  · split at h
    · rename_i hl
      rw [Rp.int_inv ra, Rp.int_inv rb]
      exact ⟨_, _, rfl, rfl, wide_div hl.1 (b := 1000) hl.2 (by decide) (by decide), QE.ret h w (Rp.int _)⟩
    · exact h.elim
  · exact h.elim
theorem de_div (ha : DE X mo E a fa) (hb : DE X mo E b fb) : DE X mo E (.BinOp a .FloorDiv b pos) (dBin oDiv fa fb) := de_bin op_fdivW opd_div ha hb
def oMod : AV → AV → M RV
  | .d (.int i), .d (.int j) => if 0 < j then rI' (i % j) else .stuck
  | _, _ => .stuck
theorem opd_mod {K : PySem.W.Frag} : OpD mo K (rI (fun _ j => 0 < j) fun i j => .int (i % j)) oMod := by
  intro S g W H x y a b Q E' w sd ra rb h
  unfold oMod at h
  split at h
  · split at h
    · rename_i hl
      rw [Rp.int_inv ra, Rp.int_inv rb]
      exact ⟨_, _, rfl, rfl, hl, QE.ret h w (Rp.int _)⟩
    · exact h.elim
  · exact h.elim
theorem de_mod (ha : DE X mo E a fa) (hb : DE X mo E b fb) : DE X mo E (.BinOp a .Mod b pos) (dBin oMod fa fb) := de_bin op_mod opd_mod ha hb

/-! ### comparisons -/
def oLt := oInt fun i j => .bool (decide (i < j))
def oLe := oInt fun i j => .bool (decide (i ≤ j))
def oGt := oInt fun i j => .bool (decide (j < i))
def oGe := oInt fun i j => .bool (decide (j ≤ i))
theorem opd_lt {K : PySem.W.Frag} : OpD mo K (rI0 fun i j => .bl (decide (i < j))) oLt := opd_int fun _ _ _ => .bl _
theorem opd_le {K : PySem.W.Frag} : OpD mo K (rI0 fun i j => .bl (decide (i ≤ j))) oLe := opd_int fun _ _ _ => .bl _
theorem opd_gt {K : PySem.W.Frag} : OpD mo K (rI0 fun i j => .bl (decide (j < i))) oGt := opd_int fun _ _ _ => .bl _
theorem opd_ge {K : PySem.W.Frag} : OpD mo K (rI0 fun i j => .bl (decide (j ≤ i))) oGe := opd_int fun _ _ _ => .bl _
theorem de_lt (ha : DE X mo E a fa) (hb : DE X mo E b fb) : DE X mo E (.Compare a [.Lt] [b] pos) (dBin oLt fa fb) := de_cmp op_lt opd_lt ha hb (nomark _)
theorem de_le (ha : DE X mo E a fa) (hb : DE X mo E b fb) : DE X mo E (.Compare a [.LtE] [b] pos) (dBin oLe fa fb) := de_cmp op_le opd_le ha hb (nomark _)
theorem de_gt (ha : DE X mo E a fa) (hb : DE X mo E b fb) : DE X mo E (.Compare a [.Gt] [b] pos) (dBin oGt fa fb) := de_cmp op_gt opd_gt ha hb (nomark _)
theorem de_ge (ha : DE X mo E a fa) (hb : DE X mo E b fb) : DE X mo E (.Compare a [.GtE] [b] pos) (dBin oGe fa fb) := de_cmp op_ge opd_ge ha hb (nomark _)
def oEq : AV → AV → M RV
  | .d p, .d q => if SeqAt.shaped p = true ∧ SeqAt.shaped q = true then rB (PyData.eqv p q) else .stuck
  | _, _ => .stuck
def oNe : AV → AV → M RV
  | .d p, .d q => if SeqAt.shaped p = true ∧ SeqAt.shaped q = true then rB (!PyData.eqv p q) else .stuck
  | _, _ => .stuck
theorem RepA.dp {K : PySem.W.Frag} {S : Addr → Prop} {g : Gh} {H : Hp} {v : V} {p : PyData} (h : RepA mo K S g H v (.d p)) : Dp K H v p := (Rp.mono cut_sub h).dp
theorem opd_eq {K : PySem.W.Frag} : OpD mo K (rEqD K) oEq := by
  intro S g W H x y a b Q E' w sd ra rb h
  unfold oEq at h
  split at h
  · split at h
    · rename_i hl
      exact ⟨_, _, ra.dp, rb.dp, hl.1, hl.2, QE.ret h w (Rp.bl _)⟩
    · exact h.elim
  · exact h.elim
theorem opd_ne {K : PySem.W.Frag} : OpD mo K (rNeD K) oNe := by
  intro S g W H x y a b Q E' w sd ra rb h
  unfold oNe at h
  split at h
  · split at h
    · rename_i hl
      exact ⟨_, _, ra.dp, rb.dp, hl.1, hl.2, QE.ret h w (Rp.bl _)⟩
    · exact h.elim
  · exact h.elim
theorem de_eq {k : Nat} (hr : Room k X.A) (ha : DE X mo E a fa) (hb : DE X mo E b fb) : DE X mo E (.Compare a [.Eq] [b] pos) (dBin oEq fa fb) := de_cmp (op_eqD hr.units) opd_eq ha hb (nomark _)
theorem de_ne {k : Nat} (hr : Room k X.A) (ha : DE X mo E a fa) (hb : DE X mo E b fb) : DE X mo E (.Compare a [.NotEq] [b] pos) (dBin oNe fa fb) := de_cmp (op_neD hr.units) opd_ne ha hb (nomark _)
/-- in a list (data), in a tuple of flat things, a sign in a text -/
def flatP : PyData → Bool
  | .none | .bool _ | .int _ | .str _ => true
  | _ => false
def eqP : PyData → PyData → Bool := PyData.eqv
def oIn (neg : Bool) : AV → AV → M RV
  | .d p, .d (.list qs) => if SeqAt.shaped p = true ∧ SeqAt.shaped (.list qs) = true then rB (neg != qs.any fun z => PyData.eqv z p) else .stuck
  | .d p, .d (.tuple qs) => if flatP p = true ∧ qs.all flatP = true then rB (neg != qs.any fun z => PyData.eqv z p) else .stuck
  | .d (.str x), .d (.str y) => if x.cps.size = 1 then rB (neg != decide (x.cps.getD 0 0 ∈ y.cps.toList)) else .stuck
  | _, _ => .stuck
end
end Dt

/-! The data layer, part 3: more rules for expressions. -/
namespace Dt
open PySem L2

/-! ### sorting ints -/
def ins1 (x : Int) : List Int → List Int
  | [] => [x]
  | y :: ys => if x ≤ y then x :: y :: ys else y :: ins1 x ys
def isort : List Int → List Int
  | [] => []
  | x :: xs => ins1 x (isort xs)
theorem ins1_perm (x : Int) : ∀ ys : List Int, (ins1 x ys).Perm (x :: ys)
  | [] => .refl _
  | y :: ys => by
    unfold ins1
    split
    · exact .refl _
    · exact ((ins1_perm x ys).cons y).trans (.swap x y ys)
theorem isort_perm : ∀ xs : List Int, (isort xs).Perm xs
  | [] => .refl _
  | x :: xs => (ins1_perm x (isort xs)).trans ((isort_perm xs).cons x)
theorem ins1_sorted (x : Int) : ∀ {ys : List Int}, ys.Pairwise (· ≤ ·) → (ins1 x ys).Pairwise (· ≤ ·)
  | [], _ => by simp [ins1]
  | y :: ys, h => by
    rw [List.pairwise_cons] at h
    unfold ins1
    split
    · rename_i hxy
      rw [List.pairwise_cons, List.pairwise_cons]
      refine ⟨fun z hz => ?_, h.1, h.2⟩
      rcases List.mem_cons.mp hz with rfl | hz
      · exact hxy
      · exact Int.le_trans hxy (h.1 z hz)
    · rename_i hxy
      rw [List.pairwise_cons]
      refine ⟨fun z hz => ?_, ins1_sorted x h.2⟩
      have hz' := (ins1_perm x ys).mem_iff.mp hz
      rcases List.mem_cons.mp hz' with rfl | hz'
      · omega
      · exact h.1 z hz'
theorem isort_sorted : ∀ xs : List Int, (isort xs).Pairwise (· ≤ ·)
  | [] => List.Pairwise.nil
  | x :: xs => ins1_sorted x (isort_sorted xs)
theorem sorted_uniq : ∀ {xs ys : List Int}, xs.Pairwise (· ≤ ·) → ys.Pairwise (· ≤ ·) → xs.Perm ys → xs = ys
  | [], ys, _, _, h => (List.nil_perm.mp h).symm
  | x :: xs, ys, hx, hy, h => by
    cases ys with
    | nil => exact absurd h.length_eq (by simp)
    | cons y ys =>
      rw [List.pairwise_cons] at hx hy
      have hxm : x ∈ y :: ys := h.mem_iff.mp List.mem_cons_self
      have hym : y ∈ x :: xs := h.mem_iff.mpr List.mem_cons_self
      have e : x = y := by
        rcases List.mem_cons.mp hxm with q | q
        · exact q
        · rcases List.mem_cons.mp hym with r | r
          · exact r.symm
          · have := hx.1 y r
            have := hy.1 x q
            omega
      subst e
      rw [sorted_uniq hx.2 hy.2 (List.perm_cons x |>.mp h)]
theorem isort_eq {xs ys : List Int} (h : ys.Perm xs) (hs : ys.Pairwise (· ≤ ·)) : ys = isort xs := sorted_uniq hs (isort_sorted xs) (h.trans (isort_perm xs).symm)
def maxL : List Int → Int
  | [] => 0
  | [x] => x
  | x :: y :: r => let m := maxL (y :: r); if m > x then m else x
def minL : List Int → Int
  | [] => 0
  | [x] => x
  | x :: y :: r => let m := minL (y :: r); if m < x then m else x
theorem maxL_mem : ∀ {xs : List Int}, xs ≠ [] → maxL xs ∈ xs
  | [], h => absurd rfl h
  | [x], _ => by simp [maxL]
  | x :: y :: r, _ => by
    have ih := maxL_mem (xs := y :: r) (by simp)
    simp only [maxL]
    split
    · exact List.mem_cons_of_mem _ ih
    · exact List.mem_cons_self
theorem maxL_ge : ∀ {xs : List Int} {z : Int}, z ∈ xs → z ≤ maxL xs
  | [], _, h => by cases h
  | [x], z, h => by simp at h; subst h; simp [maxL]
  | x :: y :: r, z, h => by
    simp only [maxL]
    rcases List.mem_cons.mp h with rfl | h
    · split <;> omega
    · have ih := maxL_ge h
      split <;> omega
theorem minL_mem : ∀ {xs : List Int}, xs ≠ [] → minL xs ∈ xs
  | [], h => absurd rfl h
  | [x], _ => by simp [minL]
  | x :: y :: r, _ => by
    have ih := minL_mem (xs := y :: r) (by simp)
    simp only [minL]
    split
    · exact List.mem_cons_of_mem _ ih
    · exact List.mem_cons_self
theorem minL_le : ∀ {xs : List Int} {z : Int}, z ∈ xs → minL xs ≤ z
  | [], _, h => by cases h
  | [x], z, h => by simp at h; subst h; simp [minL]
  | x :: y :: r, z, h => by
    simp only [minL]
    rcases List.mem_cons.mp h with rfl | h
    · split <;> omega
    · have ih := minL_le h
      split <;> omega
theorem maxL_uniq {xs : List Int} {m : Int} (h1 : m ∈ xs) (h2 : ∀ y ∈ xs, y ≤ m) : maxL xs = m := Int.le_antisymm (h2 _ (maxL_mem (List.ne_nil_of_mem h1))) (maxL_ge h1)
theorem minL_uniq {xs : List Int} {m : Int} (h1 : m ∈ xs) (h2 : ∀ y ∈ xs, m ≤ y) : minL xs = m := Int.le_antisymm (minL_le h1) (h2 _ (minL_mem (List.ne_nil_of_mem h1)))

section
variable {X : Cx} {mo : Mo} {E : XK} {pos : Pos} {a b c : Expr} {fa fb fc : En → M RV} {ga gb : En → M Bool}

/-! ### is -/
theorem RepR.at {K : PySem.W.Frag} {S : Addr → Prop} {g : Gh} {W : Wd} {H₀ H : Hp} {v : V} {r : RV} {a : AV} (h : RepR mo K S g W H₀ H v r) (e : r.1 = a) : RepA mo K S g H v a ∧ True := by subst e; exact ⟨h.1, trivial⟩
def nonP : PyData → Bool
  | .none => true
  | _ => false
def oIsN : AV → AV → M RV
  | .d p, .d .none => rB (nonP p)
  | .exc _, .d .none => rB false
  | .ob _, .d .none => rB false
  | _, _ => .stuck
def oNotN : AV → AV → M RV
  | .d p, .d .none => rB (!nonP p)
  | .exc _, .d .none => rB true
  | .ob _, .d .none => rB true
  | _, _ => .stuck
theorem isN_of {K : PySem.W.Frag} {H : Hp} {x : V} {p : PyData} (h : Rp K H x p) : decide (x = .non) = nonP p := by cases h <;> rfl
abbrev RIs : R2 := fun x y H Q => y = .non ∧ Q (.bl (decide (x = .non))) H
abbrev RNis : R2 := fun x y H Q => y = .non ∧ Q (.bl (!decide (x = .non))) H
theorem opd_isN {K : PySem.W.Frag} : OpD mo K RIs oIsN := by
  intro S g W H x y a b Q E' w sd ra rb h
  unfold oIsN at h
  split at h
  · rw [Rp.non_inv rb]
    refine ⟨rfl, ?_⟩
    rw [isN_of ra]
    exact QE.ret h w (Rp.bl _)
  · obtain ⟨p, rfl, _⟩ := ra
    rw [Rp.non_inv rb]
    exact ⟨rfl, QE.ret h w (Rp.bl _)⟩
  · obtain ⟨p, _, rfl⟩ := ra
    rw [Rp.non_inv rb]
    exact ⟨rfl, QE.ret h w (Rp.bl _)⟩
  · exact h.elim
theorem opd_notN {K : PySem.W.Frag} : OpD mo K RNis oNotN := by
  intro S g W H x y a b Q E' w sd ra rb h
  unfold oNotN at h
  split at h
  · rw [Rp.non_inv rb]
    refine ⟨rfl, ?_⟩
    rw [isN_of ra]
    exact QE.ret h w (Rp.bl _)
  · obtain ⟨p, rfl, _⟩ := ra
    rw [Rp.non_inv rb]
    exact ⟨rfl, QE.ret h w (Rp.bl _)⟩
  · obtain ⟨p, _, rfl⟩ := ra
    rw [Rp.non_inv rb]
    exact ⟨rfl, QE.ret h w (Rp.bl _)⟩
  · exact h.elim
theorem de_isN (ha : DE X mo E a fa) (hb : DE X mo E b fb) : DE X mo E (.Compare a [.Is] [b] pos) (dBin oIsN fa fb) := de_cmp op_isN opd_isN ha hb (nomark _)
theorem de_notN (ha : DE X mo E a fa) (hb : DE X mo E b fb) : DE X mo E (.Compare a [.IsNot] [b] pos) (dBin oNotN fa fb) := de_cmp op_notN opd_notN ha hb (nomark _)
def oIsB : AV → AV → M RV
  | .d (.bool x), .d (.bool y) => rB (decide (x = y))
  | _, _ => .stuck
def oNotB : AV → AV → M RV
  | .d (.bool x), .d (.bool y) => rB (!decide (x = y))
  | _, _ => .stuck
theorem opd_isB {K : PySem.W.Frag} : OpD mo K rIsB oIsB := by
  intro S g W H x y a b Q E' w sd ra rb h
  unfold oIsB at h
  split at h
  · rw [Rp.bl_inv ra, Rp.bl_inv rb]
    exact ⟨_, _, rfl, rfl, QE.ret h w (Rp.bl _)⟩
  · exact h.elim
theorem opd_notB {K : PySem.W.Frag} : OpD mo K rNotB oNotB := by
  intro S g W H x y a b Q E' w sd ra rb h
  unfold oNotB at h
  split at h
  · rw [Rp.bl_inv ra, Rp.bl_inv rb]
    exact ⟨_, _, rfl, rfl, QE.ret h w (Rp.bl _)⟩
  · exact h.elim
theorem de_isB (ha : DE X mo E a fa) (hb : DE X mo E b fb) : DE X mo E (.Compare a [.Is] [b] pos) (dBin oIsB fa fb) := de_cmp op_isBl opd_isB ha hb (nomark _)
theorem de_notB (ha : DE X mo E a fa) (hb : DE X mo E b fb) : DE X mo E (.Compare a [.IsNot] [b] pos) (dBin oNotB fa fb) := de_cmp op_notBl opd_notB ha hb (nomark _)

/-! ### in -/
theorem eqV_of {K : PySem.W.Frag} {H : Hp} {x y : V} {p q : PyData} (hx : Rp K H x p) (hy : Rp K H y q) (fp : flatP p = true) (fq : flatP q = true) : eqV x y = PyData.eqv p q ∧ flatV x = true ∧ flatV y = true := by
  cases hx <;> cases hy <;> first | exact ⟨rfl, rfl, rfl⟩ | (simp [flatP] at fp; done) | (simp [flatP] at fq; done)
theorem inV_of {K : PySem.W.Frag} {H : Hp} {x : V} {p : PyData} (hx : Rp K H x p) (fp : flatP p = true) : ∀ {vs : List V} {qs : List PyData}, RpAll K H vs qs → qs.all flatP = true → (inV x vs = qs.any fun z => PyData.eqv z p) ∧ vs.all flatV = true
  | _, [], h, _ => by cases h; exact ⟨rfl, rfl⟩
  | _, q :: qs, h, f => by
    cases h with
    | cons h1 h2 =>
      rw [List.all_cons, Bool.and_eq_true] at f
      obtain ⟨e1, e2⟩ := inV_of hx fp h2 f.2
      obtain ⟨k1, k2, k3⟩ := eqV_of h1 hx f.1 fp
      unfold inV at e1 ⊢
      rw [List.any_cons, List.any_cons, List.all_cons, e1, e2, k1, k2]
      exact ⟨rfl, rfl⟩
abbrev RIn (K : PySem.W.Frag) : R2 := fun x y H Q => rInD K x y H Q ∨ rIn K false x y H Q ∨ (∃ (c : Nat) (z : Str), x = .str ⟨#[c]⟩ ∧ y = .str z ∧ Q (.bl (decide (c ∈ z.cps.toList))) H)
abbrev RNin (K : PySem.W.Frag) : R2 := fun x y H Q => rNotInD K x y H Q ∨ rIn K true x y H Q ∨ (∃ (c : Nat) (z : Str), x = .str ⟨#[c]⟩ ∧ y = .str z ∧ Q (.bl (!decide (c ∈ z.cps.toList))) H)
theorem str1 {x : Str} (h : x.cps.size = 1) : x = ⟨#[x.cps.getD 0 0]⟩ := by
  obtain ⟨⟨l⟩⟩ := x
  match l, h with
  | [c], _ => rfl
theorem opd_in {K : PySem.W.Frag} : OpD mo K (RIn K) (oIn false) := by
  intro S g W H x y a b Q E' w sd ra rb h
  unfold oIn at h
  split at h
  · split at h
    · rename_i hl
      exact .inl ⟨_, _, ra.dp, rb.dp, hl.1, hl.2, QE.ret h w (by simp only [Bool.false_bne]; exact Rp.bl _)⟩
    · exact h.elim
  · split at h
    · rename_i hl
      obtain ⟨p, vs, rfl, hp, ap⟩ := Rp.tup_inv rb
      obtain ⟨e1, e2⟩ := inV_of ra hl.1 ap hl.2
      refine .inr (.inl ⟨p, vs, rfl, .inr (Same.seqT cut_sub hp), (eqV_of ra ra hl.1 hl.1).2.1, e2, ?_⟩)
      rw [if_neg Bool.false_ne_true, e1]
      exact QE.ret h w (by simp only [Bool.false_bne]; exact Rp.bl _)
    · exact h.elim
  · split at h
    · rename_i hl
      rw [Rp.str_inv ra, Rp.str_inv rb]
      exact .inr (.inr ⟨_, _, congrArg V.str (str1 hl), rfl, QE.ret h w (by simp only [Bool.false_bne]; exact Rp.bl _)⟩)
    · exact h.elim
  · exact h.elim
theorem opd_notIn {K : PySem.W.Frag} : OpD mo K (RNin K) (oIn true) := by
  intro S g W H x y a b Q E' w sd ra rb h
  unfold oIn at h
  split at h
  · split at h
    · rename_i hl
      exact .inl ⟨_, _, ra.dp, rb.dp, hl.1, hl.2, QE.ret h w (by simp only [Bool.true_bne]; exact Rp.bl _)⟩
    · exact h.elim
  · split at h
    · rename_i hl
      obtain ⟨p, vs, rfl, hp, ap⟩ := Rp.tup_inv rb
      obtain ⟨e1, e2⟩ := inV_of ra hl.1 ap hl.2
      refine .inr (.inl ⟨p, vs, rfl, .inr (Same.seqT cut_sub hp), (eqV_of ra ra hl.1 hl.1).2.1, e2, ?_⟩)
      rw [if_pos rfl, e1]
      exact QE.ret h w (by simp only [Bool.true_bne]; exact Rp.bl _)
    · exact h.elim
  · split at h
    · rename_i hl
      rw [Rp.str_inv ra, Rp.str_inv rb]
      exact .inr (.inr ⟨_, _, congrArg V.str (str1 hl), rfl, QE.ret h w (by simp only [Bool.true_bne]; exact Rp.bl _)⟩)
    · exact h.elim
  · exact h.elim
theorem room65 {k : Nat} {A : Around} (r : Room (k + 1) A) : A.units + 65 < cLine := by have := r.un; omega
theorem de_in {k : Nat} (hr : Room (k + 1) X.A) (ha : DE X mo E a fa) (hb : DE X mo E b fb) (hm : behindInMarks .In b = false := by rfl) : DE X mo E (.Compare a [.In] [b] pos) (dBin (oIn false) fa fb) :=
  de_cmp ((op_inD (room65 hr)).or (op_in_seq.or op_in_sign)) opd_in ha hb hm
theorem de_notIn {k : Nat} (hr : Room (k + 1) X.A) (ha : DE X mo E a fa) (hb : DE X mo E b fb) (hm : behindInMarks .NotIn b = false := by rfl) : DE X mo E (.Compare a [.NotIn] [b] pos) (dBin (oIn true) fa fb) :=
  de_cmp ((op_notInD (room65 hr)).or (op_notIn_seq.or op_notIn_sign)) opd_notIn ha hb hm

/-! ### a <= b <= c -/
def dChain (f f' : AV → AV → M RV) (fa fb fc : En → M RV) : En → M RV := fun en => (fa en).bind fun x => (fb en).bind fun y => (f x.1 y.1).bind fun z => match z.1 with
  | .d (.bool true) => (fc en).bind fun u => f' y.1 u.1
  | .d (.bool false) => rB false
  | _ => .stuck
theorem de_chain {op op' : CmpOp} {r r' : R2} {f f' : AV → AV → M RV} (ho : OpR X (compareOp op) r) (hd : OpD mo X.K r f) (ho' : OpR X (compareOp op') r') (hd' : OpD mo X.K r' f') (ha : DE X mo E a fa) (hb : DE X mo E b fb) (hc : DE X mo E c fc)
    (hm : lastMarks [op, op'] [b, c] = false := by with_unfolding_all rfl) : DE X mo E (.Compare a [op, op'] [b, c] pos) (dChain f f' fa fb fc) := by
  obtain ⟨ta, pa, wa⟩ := ha
  obtain ⟨tb, pb, wb⟩ := hb
  obtain ⟨tc, pc, wc⟩ := hc
  refine ⟨tChain r r' ta tb tc, pe_chain ho ho' pa pb pc hm, fun S g W σ H en Q hR h => ?_⟩
  unfold dChain at h
  rw [wp_bind] at h
  refine wa S g W σ H en _ hR (wp_mono h (fun r1 W1 q g1 v1 H1 s1 w1 rr1 => ?_) fun _ _ q => q)
  rw [wp_bind] at q
  refine wb S g1 W1 σ H1 en _ (hR.step s1 w1) (wp_mono q (fun r2 W2 q2 g2 v2 H2 s2 w2 rr2 => ?_) fun _ _ q => q.step s1)
  rw [wp_bind] at q2
  have sd2 : ∀ a, S a → OL g2 H2 a := fun a s => s2.own a (s1.own a (hR.sd a s))
  refine hd S g2 W2 H2 v1 v2 r1.1 r2.1 _ (EE mo X.K S g H E) w2 sd2 (rr1.1.step s2) rr2.1 (wp_mono q2 (fun r3 W3 q3 g3 v3 H3 s3 w3 rr3 => ?_) fun _ _ q => q)
  try dsimp only at q3
  split at q3
  · rename_i e3
    replace rr3 := RepR.at rr3 e3
    refine ⟨true, Rp.bl_inv rr3.1, ?_⟩
    rw [if_pos rfl]
    rw [wp_bind] at q3
    refine wc S g3 W3 σ H3 en _ (hR.step ((s1.trans s2).trans s3) w3) (wp_mono q3 (fun r4 W4 q4 g4 v4 H4 s4 w4 rr4 => ?_) fun _ _ q => q.step ((s1.trans s2).trans s3))
    exact hd' S g4 W4 H4 v2 v4 r2.1 r4.1 Q _ w4 (fun a s => s4.own a (s3.own a (sd2 a s))) (rr2.1.step (s3.trans s4)) rr4.1 (wp_mono q4 (fun _ _ q => q.step (((s1.trans s2).trans s3).trans s4)) fun _ _ q => q)
  · rename_i e3
    replace rr3 := RepR.at rr3 e3
    refine ⟨false, Rp.bl_inv rr3.1, ?_⟩
    rw [if_neg Bool.false_ne_true]
    exact QE.ret (QE.step ((s1.trans s2).trans s3) q3) w3 (Rp.bl _)
  · exact q3.elim
theorem de_lele (ha : DE X mo E a fa) (hb : DE X mo E b fb) (hc : DE X mo E c fc) (hm : lastMarks [.LtE, .LtE] [b, c] = false := by with_unfolding_all rfl) : DE X mo E (.Compare a [.LtE, .LtE] [b, c] pos) (dChain oLe oLe fa fb fc) :=
  de_chain op_le opd_le op_le opd_le ha hb hc hm

/-! ### bools: as values, as tests -/
def asB (r : RV) : M Bool := match r.1 with
  | .d (.bool b) => .ret b
  | _ => .stuck
def dTest (fa : En → M RV) : En → M Bool := fun en => (fa en).bind asB
theorem tst_run {ta : TE} (wa : ∀ (S : Addr → Prop) (g : Gh) (W : Wd) (σ : St) (H : Hp) (en : En) (Q : VK), RepE mo X.K S g W σ H en → wp (fa en) W (QE mo X.K S g H Q) (EE mo X.K S g H E) → ta σ H Q)
    (S : Addr → Prop) (g : Gh) (W : Wd) (σ : St) (H : Hp) (en : En) (Q : Bool → Hp → Prop) (hR : RepE mo X.K S g W σ H en) (h : wp (dTest fa en) W (QT mo X.K S g H Q) (EE mo X.K S g H E)) : ta σ H fun x H1 => ∃ c, x = .bl c ∧ Q c H1 := by
  unfold dTest at h
  rw [wp_bind] at h
  refine wa S g W σ H en _ hR (wp_mono h (fun r1 W1 q g1 v1 H1 s1 w1 rr1 => ?_) fun _ _ q => q)
  unfold asB at q
  split at q
  · rename_i b e
    replace rr1 := RepR.at rr1 e
    exact ⟨b, Rp.bl_inv rr1.1, q g1 H1 s1 w1⟩
  · exact q.elim
/-- an expression that gives a bool, as a test -/
theorem dt_val (ha : DE X mo E a fa) (he : ∀ whole, isTrue a X.env whole = (do let v ← whole; standAt a.pos; holding [v] (truthy v)) := by intro _; rfl) : DT X mo E a (dTest fa) := by
  obtain ⟨ta, pa, wa⟩ := ha
  exact ⟨tB ta, pt_val pa he, tst_run wa⟩
theorem dt_cmp {op : CmpOp} {r : R2} {f : AV → AV → M RV} (ho : OpR X (compareOp op) r) (hd : OpD mo X.K r f) (ha : DE X mo E a fa) (hb : DE X mo E b fb) (hm : behindInMarks op b = false) : DT X mo E (.Compare a [op] [b] pos) (dTest (dBin f fa fb)) := by
  obtain ⟨ta, pa, wa⟩ := ha
  obtain ⟨tb, pb, wb⟩ := hb
  exact ⟨tTest (tOp r ta tb), pt_cmpR ho pa pb hm, tst_run (op_run hd wa wb)⟩
theorem dt_lt (ha : DE X mo E a fa) (hb : DE X mo E b fb) : DT X mo E (.Compare a [.Lt] [b] pos) (dTest (dBin oLt fa fb)) := dt_cmp op_lt opd_lt ha hb (nomark _)
theorem dt_le (ha : DE X mo E a fa) (hb : DE X mo E b fb) : DT X mo E (.Compare a [.LtE] [b] pos) (dTest (dBin oLe fa fb)) := dt_cmp op_le opd_le ha hb (nomark _)
theorem dt_gt (ha : DE X mo E a fa) (hb : DE X mo E b fb) : DT X mo E (.Compare a [.Gt] [b] pos) (dTest (dBin oGt fa fb)) := dt_cmp op_gt opd_gt ha hb (nomark _)
theorem dt_ge (ha : DE X mo E a fa) (hb : DE X mo E b fb) : DT X mo E (.Compare a [.GtE] [b] pos) (dTest (dBin oGe fa fb)) := dt_cmp op_ge opd_ge ha hb (nomark _)
theorem dt_eq {k : Nat} (hr : Room k X.A) (ha : DE X mo E a fa) (hb : DE X mo E b fb) : DT X mo E (.Compare a [.Eq] [b] pos) (dTest (dBin oEq fa fb)) := dt_cmp (op_eqD hr.units) opd_eq ha hb (nomark _)
theorem dt_ne {k : Nat} (hr : Room k X.A) (ha : DE X mo E a fa) (hb : DE X mo E b fb) : DT X mo E (.Compare a [.NotEq] [b] pos) (dTest (dBin oNe fa fb)) := dt_cmp (op_neD hr.units) opd_ne ha hb (nomark _)
theorem dt_isN (ha : DE X mo E a fa) (hb : DE X mo E b fb) : DT X mo E (.Compare a [.Is] [b] pos) (dTest (dBin oIsN fa fb)) := dt_cmp op_isN opd_isN ha hb (nomark _)
theorem dt_notN (ha : DE X mo E a fa) (hb : DE X mo E b fb) : DT X mo E (.Compare a [.IsNot] [b] pos) (dTest (dBin oNotN fa fb)) := dt_cmp op_notN opd_notN ha hb (nomark _)
theorem dt_isB (ha : DE X mo E a fa) (hb : DE X mo E b fb) : DT X mo E (.Compare a [.Is] [b] pos) (dTest (dBin oIsB fa fb)) := dt_cmp op_isBl opd_isB ha hb (nomark _)
theorem dt_notB (ha : DE X mo E a fa) (hb : DE X mo E b fb) : DT X mo E (.Compare a [.IsNot] [b] pos) (dTest (dBin oNotB fa fb)) := dt_cmp op_notBl opd_notB ha hb (nomark _)
theorem dt_in {k : Nat} (hr : Room (k + 1) X.A) (ha : DE X mo E a fa) (hb : DE X mo E b fb) (hm : behindInMarks .In b = false := by rfl) : DT X mo E (.Compare a [.In] [b] pos) (dTest (dBin (oIn false) fa fb)) :=
  dt_cmp ((op_inD (room65 hr)).or (op_in_seq.or op_in_sign)) opd_in ha hb hm
theorem dt_notIn {k : Nat} (hr : Room (k + 1) X.A) (ha : DE X mo E a fa) (hb : DE X mo E b fb) (hm : behindInMarks .NotIn b = false := by rfl) : DT X mo E (.Compare a [.NotIn] [b] pos) (dTest (dBin (oIn true) fa fb)) :=
  dt_cmp ((op_notInD (room65 hr)).or (op_notIn_seq.or op_notIn_sign)) opd_notIn ha hb hm
theorem dt_lele (ha : DE X mo E a fa) (hb : DE X mo E b fb) (hc : DE X mo E c fc) (hm : lastMarks [.LtE, .LtE] [b, c] = false := by with_unfolding_all rfl) : DT X mo E (.Compare a [.LtE, .LtE] [b, c] pos) (dTest (dChain oLe oLe fa fb fc)) := by
  obtain ⟨ta, pa, wa⟩ := ha
  obtain ⟨tb, pb, wb⟩ := hb
  obtain ⟨tc, pc, wc⟩ := hc
  have hE : DE X mo E (.Compare a [.LtE, .LtE] [b, c] pos) (dChain oLe oLe fa fb fc) := de_lele ⟨ta, pa, wa⟩ ⟨tb, pb, wb⟩ ⟨tc, pc, wc⟩ hm
  refine ⟨_, pt_chain op_le op_le pa pb pc hm, fun S g W σ H en Q hR h => ?_⟩
  unfold dTest dChain at h
  rw [wp_bind, wp_bind] at h
  refine wa S g W σ H en _ hR (wp_mono h (fun r1 W1 q g1 v1 H1 s1 w1 rr1 => ?_) fun _ _ q => q)
  rw [wp_bind] at q
  refine wb S g1 W1 σ H1 en _ (hR.step s1 w1) (wp_mono q (fun r2 W2 q2 g2 v2 H2 s2 w2 rr2 => ?_) fun _ _ q => q.step s1)
  rw [wp_bind] at q2
  have sd2 : ∀ a, S a → OL g2 H2 a := fun a s => s2.own a (s1.own a (hR.sd a s))
  refine opd_le S g2 W2 H2 v1 v2 r1.1 r2.1 _ (EE mo X.K S g H E) w2 sd2 (rr1.1.step s2) rr2.1 (wp_mono q2 (fun r3 W3 q3 g3 v3 H3 s3 w3 rr3 => ?_) fun _ _ q => q)
  try dsimp only at q3
  split at q3
  · rename_i e3
    replace rr3 := RepR.at rr3 e3
    refine ⟨true, Rp.bl_inv rr3.1, ?_⟩
    rw [if_pos rfl]
    rw [wp_bind] at q3
    refine wc S g3 W3 σ H3 en _ (hR.step ((s1.trans s2).trans s3) w3) (wp_mono q3 (fun r4 W4 q4 g4 v4 H4 s4 w4 rr4 => ?_) fun _ _ q => q.step ((s1.trans s2).trans s3))
    refine opd_le S g4 W4 H4 v2 v4 r2.1 r4.1 _ _ w4 (fun a s => s4.own a (s3.own a (sd2 a s))) (rr2.1.step (s3.trans s4)) rr4.1 (wp_mono q4 (fun r5 W5 q5 g5 v5 H5 s5 w5 rr5 => ?_) fun _ _ q => q)
    unfold asB at q5
    split at q5
    · rename_i b e
      replace rr5 := RepR.at rr5 e
      exact ⟨b, Rp.bl_inv rr5.1, q5 g5 H5 ((((s1.trans s2).trans s3).trans s4).trans s5) w5⟩
    · exact q5.elim
  · rename_i e3
    replace rr3 := RepR.at rr3 e3
    refine ⟨false, Rp.bl_inv rr3.1, ?_⟩
    rw [if_neg Bool.false_ne_true]
    exact ⟨false, rfl, q3 g3 H3 ((s1.trans s2).trans s3) w3⟩
  · exact q3.elim
def dAnd (ga gb : En → M Bool) : En → M Bool := fun en => (ga en).bind fun b => if b = true then gb en else .ret false
def dOr (ga gb : En → M Bool) : En → M Bool := fun en => (ga en).bind fun b => if b = true then .ret true else gb en
def dNot (ga : En → M Bool) : En → M Bool := fun en => (ga en).bind fun b => .ret (!b)
/-- and, or: chains of tests -/
def DW (X : Cx) (mo : Mo) (E : XK) (e : Expr) (f : En → M Bool) : Prop :=
  ∃ t : TT, PW X e t ∧ ∀ (S : Addr → Prop) (g : Gh) (W : Wd) (σ : St) (H : Hp) (en : En) (Q : Bool → Hp → Prop), RepE mo X.K S g W σ H en → wp (f en) W (QT mo X.K S g H Q) (EE mo X.K S g H E) → t σ H Q
theorem DW.dt (h : DW X mo E a ga) : DT X mo E a ga := let ⟨t, p, w⟩ := h; ⟨t, p.pt, w⟩
variable {rest : List Expr}
theorem dw_and1 (ha : DT X mo E a ga) : DW X mo E (.BoolOp .And [a] pos) ga := let ⟨t, p, w⟩ := ha; ⟨t, pw_and1 p, w⟩
theorem dw_or1 (ha : DT X mo E a ga) : DW X mo E (.BoolOp .Or [a] pos) ga := let ⟨t, p, w⟩ := ha; ⟨t, pw_or1 p, w⟩
theorem dw_and (ha : DT X mo E a ga) (hb : DW X mo E (.BoolOp .And (b :: rest) pos) gb) : DW X mo E (.BoolOp .And (a :: b :: rest) pos) (dAnd ga gb) := by
  obtain ⟨ta, pa, wa⟩ := ha
  obtain ⟨tb, pb, wb⟩ := hb
  refine ⟨tAnd ta tb, pw_and pa pb, fun S g W σ H en Q hR h => ?_⟩
  unfold dAnd at h
  rw [wp_bind] at h
  refine wa S g W σ H en _ hR (wp_mono h (fun b1 W1 q g1 H1 s1 w1 => ?_) fun _ _ q => q)
  cases b1 with
  | true =>
    rw [if_pos rfl] at q ⊢
    exact wb S g1 W1 σ H1 en _ (hR.step s1 w1) (wp_mono q (fun _ _ q => q.step s1) fun _ _ q => q.step s1)
  | false =>
    rw [if_neg Bool.false_ne_true] at q ⊢
    exact q g1 H1 s1 w1
theorem dw_or (ha : DT X mo E a ga) (hb : DW X mo E (.BoolOp .Or (b :: rest) pos) gb) : DW X mo E (.BoolOp .Or (a :: b :: rest) pos) (dOr ga gb) := by
  obtain ⟨ta, pa, wa⟩ := ha
  obtain ⟨tb, pb, wb⟩ := hb
  refine ⟨tOr ta tb, pw_or pa pb, fun S g W σ H en Q hR h => ?_⟩
  unfold dOr at h
  rw [wp_bind] at h
  refine wa S g W σ H en _ hR (wp_mono h (fun b1 W1 q g1 H1 s1 w1 => ?_) fun _ _ q => q)
  cases b1 with
  | true =>
    rw [if_pos rfl] at q ⊢
    exact q g1 H1 s1 w1
  | false =>
    rw [if_neg Bool.false_ne_true] at q ⊢
    exact wb S g1 W1 σ H1 en _ (hR.step s1 w1) (wp_mono q (fun _ _ q => q.step s1) fun _ _ q => q.step s1)
theorem dt_not (ha : DT X mo E a ga) : DT X mo E (.UnaryOp .Not a pos) (dNot ga) := by
  obtain ⟨ta, pa, wa⟩ := ha
  refine ⟨tNot ta, pt_not pa, fun S g W σ H en Q hR h => ?_⟩
  unfold dNot at h
  rw [wp_bind] at h
  exact wa S g W σ H en _ hR (wp_mono h (fun b1 W1 q g1 H1 s1 w1 => q g1 H1 s1 w1) fun _ _ q => q)
def dAndV (fa fb : En → M RV) : En → M RV := fun en => (fa en).bind fun r => (asB r).bind fun b => if b = true then fb en else rB false
def dOrV (fa fb : En → M RV) : En → M RV := fun en => (fa en).bind fun r => (asB r).bind fun b => if b = true then rB true else fb en
def dNotV (fa : En → M RV) : En → M RV := fun en => (fa en).bind fun r => (asB r).bind fun b => rB (!b)
theorem de_one {op : BoolOp} (ha : DE X mo E a fa) : DE X mo E (.BoolOp op [a] pos) fa := let ⟨t, p, w⟩ := ha; ⟨t, pe_one p, w⟩
theorem de_and (ha : DE X mo E a fa) (hb : DE X mo E (.BoolOp .And (b :: rest) pos) fb) : DE X mo E (.BoolOp .And (a :: b :: rest) pos) (dAndV fa fb) := by
  obtain ⟨ta, pa, wa⟩ := ha
  obtain ⟨tb, pb, wb⟩ := hb
  refine ⟨tAndV ta tb, pe_and pa pb, fun S g W σ H en Q hR h => ?_⟩
  unfold dAndV at h
  rw [wp_bind] at h
  refine wa S g W σ H en _ hR (wp_mono h (fun r1 W1 q g1 v1 H1 s1 w1 rr1 => ?_) fun _ _ q => q)
  unfold asB at q
  split at q
  · rename_i b e
    replace rr1 := RepR.at rr1 e
    refine ⟨b, Rp.bl_inv rr1.1, ?_⟩
    rw [ret_bind] at q
    cases b with
    | true =>
      rw [if_pos rfl] at q ⊢
      exact wb S g1 W1 σ H1 en _ (hR.step s1 w1) (wp_mono q (fun _ _ q => q.step s1) fun _ _ q => q.step s1)
    | false =>
      rw [if_neg Bool.false_ne_true] at q ⊢
      exact QE.ret (QE.step s1 q) w1 (Rp.bl _)
  · exact q.elim
theorem de_or (ha : DE X mo E a fa) (hb : DE X mo E (.BoolOp .Or (b :: rest) pos) fb) : DE X mo E (.BoolOp .Or (a :: b :: rest) pos) (dOrV fa fb) := by
  obtain ⟨ta, pa, wa⟩ := ha
  obtain ⟨tb, pb, wb⟩ := hb
  refine ⟨tOrV ta tb, pe_or pa pb, fun S g W σ H en Q hR h => ?_⟩
  unfold dOrV at h
  rw [wp_bind] at h
  refine wa S g W σ H en _ hR (wp_mono h (fun r1 W1 q g1 v1 H1 s1 w1 rr1 => ?_) fun _ _ q => q)
  unfold asB at q
  split at q
  · rename_i b e
    replace rr1 := RepR.at rr1 e
    refine ⟨b, Rp.bl_inv rr1.1, ?_⟩
    rw [ret_bind] at q
    cases b with
    | true =>
      rw [if_pos rfl] at q ⊢
      exact QE.ret (QE.step s1 q) w1 (Rp.bl _)
    | false =>
      rw [if_neg Bool.false_ne_true] at q ⊢
      exact wb S g1 W1 σ H1 en _ (hR.step s1 w1) (wp_mono q (fun _ _ q => q.step s1) fun _ _ q => q.step s1)
  · exact q.elim
theorem de_not (ha : DE X mo E a fa) : DE X mo E (.UnaryOp .Not a pos) (dNotV fa) := by
  obtain ⟨ta, pa, wa⟩ := ha
  refine ⟨tNotV ta, pe_not pa, fun S g W σ H en Q hR h => ?_⟩
  unfold dNotV at h
  rw [wp_bind] at h
  refine wa S g W σ H en _ hR (wp_mono h (fun r1 W1 q g1 v1 H1 s1 w1 rr1 => ?_) fun _ _ q => q)
  unfold asB at q
  split at q
  · rename_i b e
    replace rr1 := RepR.at rr1 e
    exact ⟨b, Rp.bl_inv rr1.1, QE.ret (QE.step s1 q) w1 (Rp.bl _)⟩
  · exact q.elim
def dNeg (fa : En → M RV) : En → M RV := fun en => (fa en).bind fun r => match r.1 with
  | .d (.int i) => rI' (-i)
  | _ => .stuck
theorem de_neg (ha : DE X mo E a fa) : DE X mo E (.UnaryOp .USub a pos) (dNeg fa) := by
  obtain ⟨ta, pa, wa⟩ := ha
  refine ⟨_, pe_un un_neg pa, fun S g W σ H en Q hR h => ?_⟩
  unfold dNeg at h
  rw [wp_bind] at h
  refine wa S g W σ H en _ hR (wp_mono h (fun r1 W1 q g1 v1 H1 s1 w1 rr1 => ?_) fun _ _ q => q)
  try dsimp only at q
  split at q
  · rename_i i e
    replace rr1 := RepR.at rr1 e
    exact ⟨i, Rp.int_inv rr1.1, QE.ret (QE.step s1 q) w1 (Rp.int _)⟩
  · exact q.elim
def dIf (ga : En → M Bool) (fa fb : En → M RV) : En → M RV := fun en => (ga en).bind fun b => if b = true then fa en else fb en
theorem de_if (hc : DT X mo E c ga) (ha : DE X mo E a fa) (hb : DE X mo E b fb) : DE X mo E (.IfExp c a b pos) (dIf ga fa fb) := by
  obtain ⟨tc, pc, wc⟩ := hc
  obtain ⟨ta, pa, wa⟩ := ha
  obtain ⟨tb, pb, wb⟩ := hb
  refine ⟨tIf tc ta tb, pe_ifExp pc pa pb, fun S g W σ H en Q hR h => ?_⟩
  unfold dIf at h
  rw [wp_bind] at h
  refine wc S g W σ H en _ hR (wp_mono h (fun b1 W1 q g1 H1 s1 w1 => ?_) fun _ _ q => q)
  cases b1 with
  | true =>
    rw [if_pos rfl] at q ⊢
    exact wa S g1 W1 σ H1 en _ (hR.step s1 w1) (wp_mono q (fun _ _ q => q.step s1) fun _ _ q => q.step s1)
  | false =>
    rw [if_neg Bool.false_ne_true] at q ⊢
    exact wb S g1 W1 σ H1 en _ (hR.step s1 w1) (wp_mono q (fun _ _ q => q.step s1) fun _ _ q => q.step s1)
end
end Dt

/-! The data layer, part 4: arguments, calls, displays, items, slices. -/
namespace Dt
open PySem L2
section
variable {X : Cx} {mo : Mo} {E : XK} {pos p : Pos} {a b c e : Expr} {es : List Expr} {fa fb fc : En → M RV} {fs : En → M (List AV)}

/-! ### arguments -/
def aNil : En → M (List AV) := fun _ => .ret []
def aCons (fa : En → M RV) (fs : En → M (List AV)) : En → M (List AV) := fun en => (fa en).bind fun r => (fs en).bind fun as => .ret (r.1 :: as)
theorem da_nil : DA X mo E [] aNil := ⟨tNil, pa_nil, fun S g W σ H en Q hR h => h g [] H (.refl g H) hR.wok .nil rfl⟩
theorem da_cons (ha : DE X mo E a fa) (hs : DA X mo E es fs) (hst : starEach (a :: es) X.env = (false, eval a X.env) :: starEach es X.env := by rfl) : DA X mo E (a :: es) (aCons fa fs) := by
  obtain ⟨ta, pa, wa⟩ := ha
  obtain ⟨ts, ps, ws⟩ := hs
  refine ⟨tCons ta ts, pa_cons pa ps hst, fun S g W σ H en Q hR h => ?_⟩
  unfold aCons at h
  rw [wp_bind] at h
  refine wa S g W σ H en _ hR (wp_mono h (fun r1 W1 q g1 v1 H1 s1 w1 rr1 => ?_) fun _ _ q => q)
  rw [wp_bind] at q
  refine ws S g1 W1 σ H1 en _ (hR.step s1 w1) (wp_mono q (fun as W2 q2 g2 vs H2 s2 w2 rr2 hl => ?_) fun _ _ q => q.step s1)
  exact q2 g2 (v1 :: vs) H2 (s1.trans s2) w2 (.cons (rr1.1.step s2) rr2) (by simp [hl])

/-! ### calls of defs -/
/-- the promise «computes F» -/
def spD (mo : Mo) (K : PySem.W.Frag) (F : List AV → M RV) : Sp := fun vs H Q E => ∃ (S : Addr → Prop) (g : Gh) (W : Wd) (as : List AV), RepAs mo K S g H vs as ∧ WOk mo K S g W H ∧ (∀ a, S a → OL g H a) ∧ wp (F as) W (QE mo K S g H Q) (EE mo K S g H E)
structure FnD (P : Program) (w : World) (K : PySem.W.Frag) (mg : Str → Option Value) (base : Heap) (mo : Mo) (x : Str) (k : Nat) (F : List AV → M RV) : Prop where
  ex : ∃ (f : Addr) (fd : FuncData) (ps : List Str), FnOk P w K mg base (L2.CX P w) k f fd ps (spD mo K F) ∧ mg x = some (.ref f) ∧ PySem.W.keepIn K (.ref f) = true ∧ Binds K fd ps []
theorem FnD.mono {P : Program} {w : World} {K : PySem.W.Frag} {mg : Str → Option Value} {base : Heap} {x : Str} {j k : Nat} {F : List AV → M RV} (h : FnD P w K mg base mo x j F) (hk : j ≤ k) : FnD P w K mg base mo x k F :=
  let ⟨f, fd, ps, F, r⟩ := h.ex; ⟨f, fd, ps, F.mono hk, r⟩
def dCall (F : List AV → M RV) (fs : En → M (List AV)) : En → M RV := fun en => (fs en).bind F
theorem de_call {x : Str} {k : Nat} {F : List AV → M RV} (h : FnD X.prog X.w X.K X.mg X.base mo x k F) (hr : Room k X.A) (hx : Passes (L2.CX X.prog X.w) X E) (hs : DA X mo E (e :: es) fs) (hg : Gl X x := by rfl)
    (hdb : (x == ("__debug__" : Str)) = false := by decide) (he : starEach (e :: es) X.env = (false, eval e X.env) :: starEach es X.env := by rfl) (hpl : (backTo pos (starEach es X.env)).any (·.1) = false := by rfl) :
    DE X mo E (.Call (.Name x p) (e :: es) [] pos) (dCall F fs) := by
  obtain ⟨f, fd, ps, F', hm, hk, hb⟩ := h.ex
  obtain ⟨ts, pss, ws⟩ := hs
  refine ⟨_, pe_call F' hr hg hm hk hb .nil hx pss hdb he hpl, fun S g W σ H en Q hR hw => ?_⟩
  unfold dCall at hw
  rw [wp_bind] at hw
  refine ws S g W σ H en _ hR (wp_mono hw (fun as W1 q g1 vs H1 s1 w1 rr1 hl => ?_) fun _ _ q => q)
  show spD mo X.K F (vs ++ []) H1 Q E
  rw [List.append_nil]
  exact ⟨S, g1, W1, as, rr1, w1, fun a s => s1.own a (hR.sd a s), wp_mono q (fun _ _ q => q.step s1) fun _ _ q => q.step s1⟩
theorem de_call0 {x : Str} {k : Nat} {F : List AV → M RV} (h : FnD X.prog X.w X.K X.mg X.base mo x k F) (hr : Room k X.A) (hx : Passes (L2.CX X.prog X.w) X E) (hg : Gl X x := by rfl)
    (hdb : (x == ("__debug__" : Str)) = false := by decide) : DE X mo E (.Call (.Name x p) [] [] pos) (dCall F aNil) := by
  obtain ⟨f, fd, ps, F', hm, hk, hb⟩ := h.ex
  refine ⟨_, pe_call0 F' hr hg hm hk hb .nil hx hdb, fun S g W σ H en Q hR hw => ?_⟩
  exact ⟨S, g, W, [], .nil, hR.wok, hR.sd, hw⟩

/-! ### calls of built-ins, by values -/
def CallD (mo : Mo) (K : PySem.W.Frag) (n : Nat) (r : List V → Hp → VK → Prop) (f : List AV → M RV) : Prop :=
  ∀ (S : Addr → Prop) (g : Gh) (W : Wd) (H : Hp) (vs : List V) (as : List AV) (Q : VK) (E' : Err → Wd → Prop), WOk mo K S g W H → (∀ a, S a → OL g H a) → RepAs mo K S g H vs as → vs.length = n → wp (f as) W (QE mo K S g H Q) E' → r vs H Q
theorem cb_run {r : List V → Hp → VK → Prop} {f : List AV → M RV} {ts : TA} {n : Nat} (hd : CallD mo X.K n r f)
    (ws : ∀ (S : Addr → Prop) (g : Gh) (W : Wd) (σ : St) (H : Hp) (en : En) (Q : List V → Hp → Prop), RepE mo X.K S g W σ H en → wp (fs en) W (QA mo X.K n S g H Q) (EE mo X.K S g H E) → ts σ H Q)
    (S : Addr → Prop) (g : Gh) (W : Wd) (σ : St) (H : Hp) (en : En) (Q : VK) (hR : RepE mo X.K S g W σ H en) (hw : wp (dCall f fs en) W (QE mo X.K S g H Q) (EE mo X.K S g H E)) : tCB r ts σ H Q := by
  unfold dCall at hw
  rw [wp_bind] at hw
  refine ws S g W σ H en _ hR (wp_mono hw (fun as W1 q g1 vs H1 s1 w1 rr1 hl => ?_) fun _ _ q => q)
  exact hd S g1 W1 H1 vs as Q _ w1 (fun a s => s1.own a (hR.sd a s)) rr1 hl (wp_mono q (fun _ _ q => q.step s1) fun _ _ q => q)
theorem de_callB {x : Str} {id : String} {r : List V → Hp → VK → Prop} {f : List AV → M RV} (hc : CallR X (.builtin id) r) (hd : CallD mo X.K (e :: es).length r f) (hm : X.mg x = none) (hv : bootBuiltins x = some (.builtin id)) (hs : DA X mo E (e :: es) fs) (hg : Gl X x := by rfl)
    (hn : x ≠ "__name__" := by decide) (hdb : (x == ("__debug__" : Str)) = false := by decide) (he : starEach (e :: es) X.env = (false, eval e X.env) :: starEach es X.env := by rfl) (hpl : (backTo pos (starEach es X.env)).any (·.1) = false := by rfl) :
    DE X mo E (.Call (.Name x p) (e :: es) [] pos) (dCall f fs) := by
  obtain ⟨ts, pss, ws⟩ := hs
  exact ⟨tCB r ts, pe_callB hc hg hm hv pss hn hdb he hpl, cb_run hd ws⟩
theorem de_callTy {x : Str} {T : String} {r : List V → Hp → VK → Prop} {f : List AV → M RV} (hc : CallR X (.type T) r) (hd : CallD mo X.K (e :: es).length r f) (hm : X.mg x = none) (hv : bootBuiltins x = some (.type T)) (hs : DA X mo E (e :: es) fs) (hg : Gl X x := by rfl)
    (hn : x ≠ "__name__" := by decide) (hdb : (x == ("__debug__" : Str)) = false := by decide) (he : starEach (e :: es) X.env = (false, eval e X.env) :: starEach es X.env := by rfl) (hpl : (backTo pos (starEach es X.env)).any (·.1) = false := by rfl) :
    DE X mo E (.Call (.Name x p) (e :: es) [] pos) (dCall f fs) := by
  obtain ⟨ts, pss, ws⟩ := hs
  exact ⟨tCB r ts, pe_callTy hc hg hm hv pss hn hdb he hpl, cb_run hd ws⟩
theorem reps1 {K : PySem.W.Frag} {S : Addr → Prop} {g : Gh} {H : Hp} {vs : List V} {a : AV} (h : RepAs mo K S g H vs [a]) : ∃ v, vs = [v] ∧ RepA mo K S g H v a := by
  cases h with | cons h1 h2 => cases h2; exact ⟨_, rfl, h1⟩
theorem reps2 {K : PySem.W.Frag} {S : Addr → Prop} {g : Gh} {H : Hp} {vs : List V} {a b : AV} (h : RepAs mo K S g H vs [a, b]) : ∃ v u, vs = [v, u] ∧ RepA mo K S g H v a ∧ RepA mo K S g H u b := by
  cases h with | cons h1 h2 => cases h2 with | cons h2 h3 => cases h3; exact ⟨_, _, rfl, h1, h2⟩
def bLen : List AV → M RV
  | [.d (.list xs)] => rI' xs.length
  | [.d (.tuple xs)] => rI' xs.length
  | [.d (.str x)] => if x.length ≤ lim then rI' x.length else .stuck
  | _ => .stuck
theorem cd_len {K : PySem.W.Frag} {n : Nat} : CallD mo K n (fun xs H Q => ∃ x n, xs = [x] ∧ LenV K x H n ∧ Q (.int n) H) bLen := by
  intro S g W H vs as Q E' w sd rs hl h
  unfold bLen at h
  split at h
  · obtain ⟨v, rfl, r⟩ := reps1 rs
    obtain ⟨p, us, rfl, hp, ap⟩ := Rp.lst_inv r
    exact ⟨_, us.length, rfl, .inl ⟨us, SqL.of (cutS hp), rfl⟩, by rw [ap.length]; exact QE.ret h w (Rp.int _)⟩
  · obtain ⟨v, rfl, r⟩ := reps1 rs
    obtain ⟨p, us, rfl, hp, ap⟩ := Rp.tup_inv r
    exact ⟨_, us.length, rfl, .inr ⟨us, Same.seqT cut_sub hp, rfl⟩, by rw [ap.length]; exact QE.ret h w (Rp.int _)⟩
  · split at h
    · rename_i hs
      obtain ⟨v, rfl, r⟩ := reps1 rs
      rw [Rp.str_inv r]
      exact ⟨_, _, rfl, ⟨lim_line hs, rfl⟩, QE.ret h w (Rp.int _)⟩
    · exact h.elim
  · exact h.elim
theorem de_len (hm : X.mg "len" = none) (hs : DA X mo E [a] fs) (hg : Gl X "len" := by rfl) (he : starEach [a] X.env = [(false, eval a X.env)] := by rfl) : DE X mo E (.Call (.Name "len" p) [a] [] pos) (dCall bLen fs) :=
  de_callB call_len cd_len hm boot_len hs hg (by decide) (by decide) he rfl
def bSum : List AV → M RV
  | [.d (.list xs)] => match intsOf xs with
    | some ns => rI' ns.sum
    | none => .stuck
  | _ => .stuck
theorem lst_ints {K : PySem.W.Frag} {S : Addr → Prop} {g : Gh} {H : Hp} {v : V} {xs : List PyData} {ns : List Int} (r : RepA mo K S g H v (.d (.list xs))) (e : intsOf xs = some ns) : ∃ p, v = .ref p ∧ H p = some (.lst (ns.map V.int)) := by
  obtain ⟨p, us, rfl, hp, ap⟩ := Rp.lst_inv r
  rw [intsOf_some e] at ap
  rw [ap.ints] at hp
  exact ⟨p, rfl, cutS hp⟩
theorem lst_bools {K : PySem.W.Frag} {S : Addr → Prop} {g : Gh} {H : Hp} {v : V} {xs : List PyData} {ns : List Bool} (r : RepA mo K S g H v (.d (.list xs))) (e : boolsOf xs = some ns) : ∃ p, v = .ref p ∧ H p = some (.lst (ns.map V.bl)) := by
  obtain ⟨p, us, rfl, hp, ap⟩ := Rp.lst_inv r
  rw [boolsOf_some e] at ap
  rw [ap.bls] at hp
  exact ⟨p, rfl, cutS hp⟩
theorem cd_sum {K : PySem.W.Frag} {n : Nat} : CallD mo K n (rSum K) bSum := by
  intro S g W H vs as Q E' w sd rs hl h
  unfold bSum at h
  split at h
  · split at h
    · rename_i e
      obtain ⟨v, rfl, r⟩ := reps1 rs
      obtain ⟨p, rfl, hp⟩ := lst_ints r e
      exact ⟨p, _, rfl, SqL.of hp, QE.ret h w (Rp.int _)⟩
    · exact h.elim
  · exact h.elim
theorem de_sum (hc : X.calm = true) (hm : X.mg "sum" = none) (hs : DA X mo E [a] fs) (hg : Gl X "sum" := by rfl) (he : starEach [a] X.env = [(false, eval a X.env)] := by rfl) : DE X mo E (.Call (.Name "sum" p) [a] [] pos) (dCall bSum fs) :=
  de_callB (cr_sum hc) cd_sum hm PyProof.Rows.boot_sum hs hg (by decide) (by decide) he rfl
def bMax1 : List AV → M RV
  | [.d (.list xs)] => match intsOf xs with
    | some (n :: ns) => rI' (maxL (n :: ns))
    | _ => .stuck
  | _ => .stuck
def bMin1 : List AV → M RV
  | [.d (.list xs)] => match intsOf xs with
    | some (n :: ns) => rI' (minL (n :: ns))
    | _ => .stuck
  | _ => .stuck
theorem cd_max1 {K : PySem.W.Frag} {n : Nat} : CallD mo K n (rMax K) bMax1 := by
  intro S g W H vs as Q E' w sd rs hl h
  unfold bMax1 at h
  split at h
  · split at h
    · rename_i e
      obtain ⟨v, rfl, r⟩ := reps1 rs
      obtain ⟨p, rfl, hp⟩ := lst_ints r e
      refine ⟨p, _, rfl, SqL.of hp, by simp, fun m h1 h2 => ?_⟩
      rw [← maxL_uniq h1 h2]
      exact QE.ret h w (Rp.int _)
    · exact h.elim
  · exact h.elim
theorem cd_min1 {K : PySem.W.Frag} {n : Nat} : CallD mo K n (rMin K) bMin1 := by
  intro S g W H vs as Q E' w sd rs hl h
  unfold bMin1 at h
  split at h
  · split at h
    · rename_i e
      obtain ⟨v, rfl, r⟩ := reps1 rs
      obtain ⟨p, rfl, hp⟩ := lst_ints r e
      refine ⟨p, _, rfl, SqL.of hp, by simp, fun m h1 h2 => ?_⟩
      rw [← minL_uniq h1 h2]
      exact QE.ret h w (Rp.int _)
    · exact h.elim
  · exact h.elim
theorem de_max1 (hc : X.calm = true) (hm : X.mg "max" = none) (hs : DA X mo E [a] fs) (hg : Gl X "max" := by rfl) (he : starEach [a] X.env = [(false, eval a X.env)] := by rfl) : DE X mo E (.Call (.Name "max" p) [a] [] pos) (dCall bMax1 fs) :=
  de_callB (cr_max hc) cd_max1 hm PyProof.Rows.boot_max hs hg (by decide) (by decide) he rfl
theorem de_min1 (hc : X.calm = true) (hm : X.mg "min" = none) (hs : DA X mo E [a] fs) (hg : Gl X "min" := by rfl) (he : starEach [a] X.env = [(false, eval a X.env)] := by rfl) : DE X mo E (.Call (.Name "min" p) [a] [] pos) (dCall bMin1 fs) :=
  de_callB (cr_min hc) cd_min1 hm PyProof.Rows.boot_min hs hg (by decide) (by decide) he rfl
def bMax2 : List AV → M RV
  | [.d (.int i), .d (.int j)] => rI' (if j > i then j else i)
  | _ => .stuck
def bMin2 : List AV → M RV
  | [.d (.int i), .d (.int j)] => rI' (if j < i then j else i)
  | _ => .stuck
theorem cd_max2 {K : PySem.W.Frag} {n : Nat} : CallD mo K n (fun xs H Q => ∃ i j, xs = [.int i, .int j] ∧ Q (.int (if j > i then j else i)) H) bMax2 := by
  intro S g W H vs as Q E' w sd rs hl h
  unfold bMax2 at h
  split at h
  · obtain ⟨v, u, rfl, r1, r2⟩ := reps2 rs
    rw [Rp.int_inv r1, Rp.int_inv r2]
    exact ⟨_, _, rfl, QE.ret h w (Rp.int _)⟩
  · exact h.elim
theorem cd_min2 {K : PySem.W.Frag} {n : Nat} : CallD mo K n (fun xs H Q => ∃ i j, xs = [.int i, .int j] ∧ Q (.int (if j < i then j else i)) H) bMin2 := by
  intro S g W H vs as Q E' w sd rs hl h
  unfold bMin2 at h
  split at h
  · obtain ⟨v, u, rfl, r1, r2⟩ := reps2 rs
    rw [Rp.int_inv r1, Rp.int_inv r2]
    exact ⟨_, _, rfl, QE.ret h w (Rp.int _)⟩
  · exact h.elim
theorem de_max2 (hc : X.calm = true) (hm : X.mg "max" = none) (hs : DA X mo E [a, b] fs) (hg : Gl X "max" := by rfl) (he : starEach [a, b] X.env = (false, eval a X.env) :: starEach [b] X.env := by rfl) (hpl : (backTo pos (starEach [b] X.env)).any (·.1) = false := by rfl) :
    DE X mo E (.Call (.Name "max" p) [a, b] [] pos) (dCall bMax2 fs) := de_callB (call_max2 hc) cd_max2 hm PyProof.Rows.boot_max hs hg (by decide) (by decide) he hpl
theorem de_min2 (hc : X.calm = true) (hm : X.mg "min" = none) (hs : DA X mo E [a, b] fs) (hg : Gl X "min" := by rfl) (he : starEach [a, b] X.env = (false, eval a X.env) :: starEach [b] X.env := by rfl) (hpl : (backTo pos (starEach [b] X.env)).any (·.1) = false := by rfl) :
    DE X mo E (.Call (.Name "min" p) [a, b] [] pos) (dCall bMin2 fs) := de_callB (call_min2 hc) cd_min2 hm PyProof.Rows.boot_min hs hg (by decide) (by decide) he hpl
def bAbs : List AV → M RV
  | [.d (.int i)] => rI' (if i < 0 then -i else i)
  | _ => .stuck
theorem cd_abs {K : PySem.W.Frag} {n : Nat} : CallD mo K n (fun xs H Q => ∃ i, xs = [.int i] ∧ Q (.int (if i < 0 then -i else i)) H) bAbs := by
  intro S g W H vs as Q E' w sd rs hl h
  unfold bAbs at h
  split at h
  · obtain ⟨v, rfl, r1⟩ := reps1 rs
    rw [Rp.int_inv r1]
    exact ⟨_, rfl, QE.ret h w (Rp.int _)⟩
  · exact h.elim
theorem de_abs (hm : X.mg "abs" = none) (hs : DA X mo E [a] fs) (hg : Gl X "abs" := by rfl) (he : starEach [a] X.env = [(false, eval a X.env)] := by rfl) : DE X mo E (.Call (.Name "abs" p) [a] [] pos) (dCall bAbs fs) :=
  de_callB call_abs cd_abs hm PyProof.Rows.boot_abs hs hg (by decide) (by decide) he rfl
def bSorted : List AV → M RV
  | [.d (.list xs)] => match intsOf xs with
    | some ns => .ret (.d (.list ((isort ns).map PyData.int)), true)
    | none => .stuck
  | _ => .stuck
theorem cd_sorted {K : PySem.W.Frag} {n : Nat} : CallD mo K n (rSortedI K) bSorted := by
  intro S g W H vs as Q E' w sd rs hl h
  unfold bSorted at h
  split at h
  · split at h
    · rename_i e
      obtain ⟨v, rfl, r⟩ := reps1 rs
      obtain ⟨p, rfl, hp⟩ := lst_ints r e
      refine ⟨p, _, rfl, SqL.of hp, fun ns' q h1 h2 hq => ?_⟩
      rw [isort_eq h1 h2]
      exact QE.new h w sd hq rpAll_ints
    · exact h.elim
  · exact h.elim
theorem de_sorted (hm : X.mg "sorted" = none) (hs : DA X mo E [a] fs) (hg : Gl X "sorted" := by rfl) (he : starEach [a] X.env = [(false, eval a X.env)] := by rfl) : DE X mo E (.Call (.Name "sorted" p) [a] [] pos) (dCall bSorted fs) :=
  de_callB cr_sortedI cd_sorted hm PyProof.Rows.boot_sorted hs hg (by decide) (by decide) he rfl
def bList : List AV → M RV
  | [.d (.list xs)] => .ret (.d (.list xs), true)
  | [.d (.tuple xs)] => .ret (.d (.list xs), true)
  | _ => .stuck
theorem cd_list {K : PySem.W.Frag} {n : Nat} : CallD mo K n (fun xs H Q => ∃ p ys, xs = [.ref p] ∧ (SqL K H p ys ∨ SqT K H p ys) ∧ ∀ l, H l = none → Q (.ref l) (upd H l (.lst ys))) bList := by
  intro S g W H vs as Q E' w sd rs hl h
  unfold bList at h
  split at h
  · obtain ⟨v, rfl, r⟩ := reps1 rs
    obtain ⟨p, us, rfl, hp, ap⟩ := Rp.lst_inv r
    exact ⟨p, us, rfl, .inl (SqL.of (cutS hp)), fun l hq => QE.new h w sd hq ap⟩
  · obtain ⟨v, rfl, r⟩ := reps1 rs
    obtain ⟨p, us, rfl, hp, ap⟩ := Rp.tup_inv r
    exact ⟨p, us, rfl, .inr (Same.seqT cut_sub hp), fun l hq => QE.new h w sd hq ap⟩
  · exact h.elim
theorem de_list (hm : X.mg "list" = none) (hs : DA X mo E [a] fs) (hg : Gl X "list" := by rfl) (he : starEach [a] X.env = [(false, eval a X.env)] := by rfl) : DE X mo E (.Call (.Name "list" p) [a] [] pos) (dCall bList fs) :=
  de_callTy call_list_of cd_list hm PyProof.Rows.boot_list hs hg (by decide) (by decide) he rfl
def bTuple : List AV → M RV
  | [.d (.list xs)] => .ret (.d (.tuple xs), false)
  | [.d (.tuple xs)] => .ret (.d (.tuple xs), false)
  | _ => .stuck
theorem cd_tuple {K : PySem.W.Frag} {n : Nat} : CallD mo K n (fun xs H Q => ∃ p ys, xs = [.ref p] ∧ ((SqL K H p ys ∧ ∀ l, H l = none → Q (.ref l) (upd H l (.tup ys))) ∨ (SqT K H p ys ∧ Q (.ref p) H))) bTuple := by
  intro S g W H vs as Q E' w sd rs hl h
  unfold bTuple at h
  split at h
  · obtain ⟨v, rfl, r⟩ := reps1 rs
    obtain ⟨p, us, rfl, hp, ap⟩ := Rp.lst_inv r
    exact ⟨p, us, rfl, .inl ⟨SqL.of (cutS hp), fun l hq => QE.newT h w sd hq ap⟩⟩
  · obtain ⟨v, rfl, r⟩ := reps1 rs
    obtain ⟨p, us, rfl, hp, ap⟩ := Rp.tup_inv r
    exact ⟨p, us, rfl, .inr ⟨Same.seqT cut_sub hp, QE.ret h w r⟩⟩
  · exact h.elim
theorem de_tuple (hm : X.mg "tuple" = none) (hs : DA X mo E [a] fs) (hg : Gl X "tuple" := by rfl) (he : starEach [a] X.env = [(false, eval a X.env)] := by rfl) : DE X mo E (.Call (.Name "tuple" p) [a] [] pos) (dCall bTuple fs) :=
  de_callTy call_tuple_of cd_tuple hm PyProof.Rows.boot_tuple hs hg (by decide) (by decide) he rfl
def bAll : List AV → M RV
  | [.d (.list xs)] => match boolsOf xs with
    | some ns => rB (ns.all id)
    | none => .stuck
  | _ => .stuck
def bAny : List AV → M RV
  | [.d (.list xs)] => match boolsOf xs with
    | some ns => rB (ns.any id)
    | none => .stuck
  | _ => .stuck
theorem cd_all {K : PySem.W.Frag} {n : Nat} : CallD mo K n (rAll K) bAll := by
  intro S g W H vs as Q E' w sd rs hl h
  unfold bAll at h
  split at h
  · split at h
    · rename_i e
      obtain ⟨v, rfl, r⟩ := reps1 rs
      obtain ⟨p, rfl, hp⟩ := lst_bools r e
      exact ⟨p, _, rfl, SqL.of hp, QE.ret h w (Rp.bl _)⟩
    · exact h.elim
  · exact h.elim
theorem cd_any {K : PySem.W.Frag} {n : Nat} : CallD mo K n (rAny K) bAny := by
  intro S g W H vs as Q E' w sd rs hl h
  unfold bAny at h
  split at h
  · split at h
    · rename_i e
      obtain ⟨v, rfl, r⟩ := reps1 rs
      obtain ⟨p, rfl, hp⟩ := lst_bools r e
      exact ⟨p, _, rfl, SqL.of hp, QE.ret h w (Rp.bl _)⟩
    · exact h.elim
  · exact h.elim
theorem de_all (hc : X.calm = true) (hm : X.mg "all" = none) (hs : DA X mo E [a] fs) (hg : Gl X "all" := by rfl) (he : starEach [a] X.env = [(false, eval a X.env)] := by rfl) : DE X mo E (.Call (.Name "all" p) [a] [] pos) (dCall bAll fs) :=
  de_callB (cr_all hc) cd_all hm PyProof.Rows.boot_all hs hg (by decide) (by decide) he rfl
theorem de_any (hc : X.calm = true) (hm : X.mg "any" = none) (hs : DA X mo E [a] fs) (hg : Gl X "any" := by rfl) (he : starEach [a] X.env = [(false, eval a X.env)] := by rfl) : DE X mo E (.Call (.Name "any" p) [a] [] pos) (dCall bAny fs) :=
  de_callB (cr_any hc) cd_any hm PyProof.Rows.boot_any hs hg (by decide) (by decide) he rfl

/-! ### isinstance(x, T), T a built-in type -/
inductive Ty5 where
  | int | bool | str | list | tuple
def Ty5.nm : Ty5 → Str
  | .int => "int" | .bool => "bool" | .str => "str" | .list => "list" | .tuple => "tuple"
def Ty5.id : Ty5 → String
  | .int => "int" | .bool => "bool" | .str => "str" | .list => "list" | .tuple => "tuple"
def isTy : Ty5 → PyData → Bool
  | .int, .int _ => true
  | .int, .bool _ => true
  | .bool, .bool _ => true
  | .str, .str _ => true
  | .list, .list _ => true
  | .tuple, .tuple _ => true
  | _, _ => false
def tyName : PyData → String
  | .none => "NoneType" | .bool _ => "bool" | .int _ => "int" | .str _ => "str" | .list _ => "list" | .tuple _ => "tuple" | .dict _ => "dict"
def kitT (t : Ty5) (n : String) : Bool := match t with
  | .int => n == "int" || n == "bool" | .bool => n == "bool" | .str => n == "str" | .list => n == "list" | .tuple => n == "tuple"
theorem kit5 : ∀ (t : Ty5), ∀ n ∈ ["NoneType", "bool", "int", "str", "list", "tuple"], kitB n t.id = some (kitT t n) := by
  intro t
  cases t <;> decide +kernel
theorem tyX_of {K : PySem.W.Frag} {H : Hp} {v : V} {p : PyData} (h : Rp K H v p) : TyX K H v (.type (tyName p)) ∧ tyName p ∈ ["NoneType", "bool", "int", "str", "list", "tuple"] := by
  cases h with
  | non => exact ⟨.base .non, by decide⟩
  | bl b => exact ⟨.base (.bl b), by simp [tyName]⟩
  | int b => exact ⟨.base (.int b), by simp [tyName]⟩
  | str b => exact ⟨.base (.str b), by simp [tyName]⟩
  | lst h1 h2 => exact ⟨.base (.lst h1), by simp [tyName]⟩
  | tup h1 h2 =>
    refine ⟨?_, by simp [tyName]⟩
    rcases h1 with (h1 | ⟨o, h1⟩) | ⟨o, its, n, h1, h2, _⟩
    · exact .base (.tup h1)
    · exact .fTuple h1
    · exact .kTuple h1 h2
theorem kitT_eq (t : Ty5) (p : PyData) : kitT t (tyName p) = isTy t p := by
  cases t <;> cases p <;> simp [kitT, tyName, isTy]
def dIsi (t : Ty5) (fa : En → M RV) : En → M RV := fun en => (fa en).bind fun r => match r.1 with
  | .d p => rB (isTy t p)
  | _ => .stuck
theorem boot5 : ∀ t : Ty5, bootBuiltins t.nm = some (.type t.id) := by intro t; cases t <;> decide +kernel
theorem nm5 : ∀ t : Ty5, t.nm ≠ "__name__" ∧ (t.nm == ("__debug__" : Str)) = false := by intro t; cases t <;> decide +kernel
theorem de_isi (t : Ty5) {q : Pos} (hm : X.mg "isinstance" = none) (hm2 : X.mg t.nm = none) (ha : DE X mo E a fa) (hg : Gl X "isinstance" := by rfl) (hg2 : Gl X t.nm := by rfl) (he : starEach [a, .Name t.nm q] X.env = (false, eval a X.env) :: starEach [.Name t.nm q] X.env := by rfl)
    (he2 : starEach [.Name t.nm q] X.env = [(false, eval (.Name t.nm q) X.env)] := by rfl) (hpl : (backTo pos (starEach [.Name t.nm q] X.env)).any (·.1) = false := by rfl) : DE X mo E (.Call (.Name "isinstance" p) [a, .Name t.nm q] [] pos) (dIsi t fa) := by
  obtain ⟨ta, pa, wa⟩ := ha
  have pt : PE X (.Name t.nm q) (tC (.ty t.id)) := pe_bltn hg2 hm2 (boot5 t) rfl (nm5 t).1 (nm5 t).2
  refine ⟨_, pe_callB call_isi hg hm PyProof.Rows.boot_isinstance (pa_cons pa (pa_cons pt pa_nil he2) he) (by decide) (by decide) he hpl, fun S g W σ H en Q hR h => ?_⟩
  unfold dIsi at h
  rw [wp_bind] at h
  refine wa S g W σ H en _ hR (wp_mono h (fun r1 W1 q g1 v1 H1 s1 w1 rr1 => ?_) fun _ _ q => q)
  try dsimp only at q
  split at q
  · rename_i p e
    replace rr1 := RepR.at rr1 e
    obtain ⟨h1, h2⟩ := tyX_of (Rp.mono cut_sub rr1.1)
    refine ⟨v1, _, _, _, _, rfl, .ty t.id, h1, kit_ty (kit5 t _ h2), ?_⟩
    rw [kitT_eq]
    exact QE.ret (QE.step s1 q) w1 (Rp.bl _)
  · exact q.elim

/-! ### displays -/
def datas : List AV → Option (List PyData)
  | [] => some []
  | .d p :: r => (datas r).map (p :: ·)
  | _ :: _ => none
theorem datas_rep {K : PySem.W.Frag} {S : Addr → Prop} {g : Gh} {H : Hp} : ∀ {as : List AV} {ds : List PyData} {vs : List V}, datas as = some ds → RepAs mo K S g H vs as → RpAll K (cut H fun a => S a ∨ g.R a) vs ds
  | [], ds, vs, e, r => by
    simp only [datas, Option.some.injEq] at e
    subst e
    cases r
    exact .nil
  | .d p :: as, ds, vs, e, r => by
    simp only [datas, Option.map_eq_some_iff] at e
    obtain ⟨ds', e1, rfl⟩ := e
    cases r with
    | cons r1 r2 => exact .cons r1 (datas_rep e1 r2)
  | .ob _ :: _, _, _, e, _ => by simp [datas] at e
  | .exc _ :: _, _, _, e, _ => by simp [datas] at e
  | .scr _ :: _, _, _, e, _ => by simp [datas] at e
  | .tl _ :: _, _, _, e, _ => by simp [datas] at e
def dTup (fs : En → M (List AV)) : En → M RV := fun en => (fs en).bind fun as => match datas as with
  | some ds => .ret (.d (.tuple ds), false)
  | none => .stuck
def dLst (fs : En → M (List AV)) : En → M RV := fun en => (fs en).bind fun as => match datas as with
  | some ds => .ret (.d (.list ds), true)
  | none => .stuck
theorem de_tup {k : Nat} (hs : DA X mo E es fs) (hl : es.length ≤ lim := by decide) : DE X mo E (.Tuple es k pos) (dTup fs) := by
  obtain ⟨ts, pss, ws⟩ := hs
  refine ⟨tTup ts, pe_tup pss, fun S g W σ H en Q hR hw => ?_⟩
  unfold dTup at hw
  rw [wp_bind] at hw
  refine ws S g W σ H en _ hR (wp_mono hw (fun as W1 q g1 vs H1 s1 w1 rr1 hl1 => ?_) fun _ _ q => q)
  try dsimp only at q
  split at q
  · rename_i ds e
    exact ⟨by rw [hl1]; exact lim_line hl, fun p hp => QE.newT (QE.step s1 q) w1 (fun a s => s1.own a (hR.sd a s)) hp (datas_rep e rr1)⟩
  · exact q.elim
theorem de_lst (hs : DA X mo E es fs) (hl : es.length ≤ lim := by decide) : DE X mo E (.List es pos) (dLst fs) := by
  obtain ⟨ts, pss, ws⟩ := hs
  refine ⟨tLst ts, pe_lst pss, fun S g W σ H en Q hR hw => ?_⟩
  unfold dLst at hw
  rw [wp_bind] at hw
  refine ws S g W σ H en _ hR (wp_mono hw (fun as W1 q g1 vs H1 s1 w1 rr1 hl1 => ?_) fun _ _ q => q)
  try dsimp only at q
  split at q
  · rename_i ds e
    exact ⟨by rw [hl1]; exact lim_line hl, fun p hp => QE.new (QE.step s1 q) w1 (fun a s => s1.own a (hR.sd a s)) hp (datas_rep e rr1)⟩
  · exact q.elim

/-! ### items -/
def oIx : AV → AV → M RV
  | .d (.list xs), .d (.int i) => match atI xs i with
    | some p => .ret (.d p, false)
    | none => .stuck
  | .d (.tuple xs), .d (.int i) => match atI xs i with
    | some p => .ret (.d p, false)
    | none => .stuck
  | .d (.str z), .d (.int i) => if z.length ≤ lim then (match atI z.cps.toList i with
    | some c => .ret (.d (.str ⟨#[c]⟩), false)
    | none => .stuck) else .stuck
  | _, _ => .stuck
theorem atI_rep {K : PySem.W.Frag} {H : Hp} {vs : List V} {ds : List PyData} {i : Int} {d : PyData} (r : RpAll K H vs ds) (e : atI ds i = some d) : ∃ v, atI vs i = some v ∧ Rp K H v d := by
  unfold atI at e ⊢
  rw [r.length]
  cases q : ixN ds.length i with
  | none => rw [q] at e; cases e
  | some j =>
    rw [q] at e
    exact r.get e
theorem opd_ix {K : PySem.W.Frag} : OpD mo K (rIx K) oIx := by
  intro S g W H x y a b Q E' w sd ra rb h
  unfold oIx at h
  split at h
  · split at h
    · rename_i e
      obtain ⟨p, us, rfl, hp, ap⟩ := Rp.lst_inv ra
      obtain ⟨v, e1, r⟩ := atI_rep ap e
      rw [Rp.int_inv rb]
      exact .inl ⟨p, us, _, v, rfl, rfl, SqL.of (cutS hp), e1, QE.ret h w r⟩
    · exact h.elim
  · split at h
    · rename_i e
      obtain ⟨p, us, rfl, hp, ap⟩ := Rp.tup_inv ra
      obtain ⟨v, e1, r⟩ := atI_rep ap e
      rw [Rp.int_inv rb]
      exact .inr (.inl ⟨p, us, _, v, rfl, rfl, Same.seqT cut_sub hp, e1, QE.ret h w r⟩)
    · exact h.elim
  · split at h
    · rename_i hl
      split at h
      · rename_i e
        rw [Rp.str_inv ra, Rp.int_inv rb]
        exact .inr (.inr ⟨_, _, _, rfl, rfl, lim_line hl, e, QE.ret h w (Rp.str _)⟩)
      · exact h.elim
    · exact h.elim
  · exact h.elim
theorem de_ix (ha : DE X mo E a fa) (hb : DE X mo E b fb) (hs : PlainIx b := by intro _ _; rfl) : DE X mo E (.Subscript a b pos) (dBin oIx fa fb) := by
  obtain ⟨ta, pa, wa⟩ := ha
  obtain ⟨tb, pb, wb⟩ := hb
  exact ⟨tOp (rIx X.K) ta tb, pe_ix ix_seq pa pb hs, op_run opd_ix wa wb⟩

/-! ### slices -/
def DO (X : Cx) (mo : Mo) (E : XK) (e : Option Expr) (f : En → M (Option Int)) : Prop :=
  ∃ t : TO, PO X e t ∧ ∀ (S : Addr → Prop) (g : Gh) (W : Wd) (σ : St) (H : Hp) (en : En) (Q : Option Int → Hp → Prop), RepE mo X.K S g W σ H en → wp (f en) W (fun o W' => ∀ g' H', Step g H g' H' → WOk mo X.K S g' W' H' → Q o H') (EE mo X.K S g H E) → t σ H Q
def oNone : En → M (Option Int) := fun _ => .ret none
def oSome (fa : En → M RV) : En → M (Option Int) := fun en => (fa en).bind fun r => match r.1 with
  | .d (.int i) => .ret (some i)
  | _ => .stuck
theorem do_none : DO X mo E none oNone := ⟨tNoPart, po_none, fun S g W σ H en Q hR h => h g H (.refl g H) hR.wok⟩
theorem do_some (ha : DE X mo E a fa) : DO X mo E (some a) (oSome fa) := by
  obtain ⟨ta, pa, wa⟩ := ha
  refine ⟨tPart ta, po_some pa, fun S g W σ H en Q hR h => ?_⟩
  unfold oSome at h
  rw [wp_bind] at h
  refine wa S g W σ H en _ hR (wp_mono h (fun r1 W1 q g1 v1 H1 s1 w1 rr1 => ?_) fun _ _ q => q)
  try dsimp only at q
  split at q
  · rename_i i e
    replace rr1 := RepR.at rr1 e
    exact ⟨i, Rp.int_inv rr1.1, q g1 H1 s1 w1⟩
  · exact q.elim
def cutP (xs : List PyData) (lo hi : Option Int) : List PyData := (xs.drop (HT.sIx xs.length 0 lo)).take (HT.sIx xs.length xs.length hi - HT.sIx xs.length 0 lo)
def dSl (fa : En → M RV) (fl fh : En → M (Option Int)) : En → M RV := fun en => (fa en).bind fun r => (fl en).bind fun lo => (fh en).bind fun hi => match r.1 with
  | .d (.list xs) => .ret (.d (.list (cutP xs lo hi)), true)
  | .d (.str z) => if z.length ≤ lim then .ret (.d (.str (L2.cutS z lo hi)), false) else .stuck
  | _ => .stuck
theorem de_sl {lo hi : Option Expr} {fl fh : En → M (Option Int)} {p2 : Pos} (ha : DE X mo E a fa) (hl : DO X mo E lo fl) (hh : DO X mo E hi fh) : DE X mo E (.Subscript a (.Slice lo hi none p2) pos) (dSl fa fl fh) := by
  obtain ⟨ta, pa, wa⟩ := ha
  obtain ⟨tl, pl, wl⟩ := hl
  obtain ⟨th, ph, wh⟩ := hh
  refine ⟨_, pe_slice (sl_list.or sl_str) pa pl ph, fun S g W σ H en Q hR h => ?_⟩
  unfold dSl at h
  rw [wp_bind] at h
  refine wa S g W σ H en _ hR (wp_mono h (fun r1 W1 q g1 v1 H1 s1 w1 rr1 => ?_) fun _ _ q => q)
  rw [wp_bind] at q
  refine wl S g1 W1 σ H1 en _ (hR.step s1 w1) (wp_mono q (fun o2 W2 q2 g2 H2 s2 w2 => ?_) fun _ _ q => q.step s1)
  rw [wp_bind] at q2
  refine wh S g2 W2 σ H2 en _ (hR.step (s1.trans s2) w2) (wp_mono q2 (fun o3 W3 q3 g3 H3 s3 w3 => ?_) fun _ _ q => q.step (s1.trans s2))
  try dsimp only at q3
  have s13 := (s1.trans s2).trans s3
  split at q3
  · rename_i xs e
    replace rr1 := RepR.at rr1 e
    obtain ⟨p, us, rfl, hp, ap⟩ := Rp.lst_inv (RepA.step (s2.trans s3) rr1.1)
    refine .inl ⟨p, us, rfl, SqL.of (cutS hp), fun q hq => QE.new (QE.step s13 q3) w3 (fun a s => s13.own a (hR.sd a s)) hq ?_⟩
    unfold cutV cutP
    rw [ap.length]
    exact (ap.drop _).take _
  · rename_i z e
    replace rr1 := RepR.at rr1 e
    split at q3
    · rename_i hz
      exact .inr ⟨z, Rp.str_inv rr1.1, lim_line hz, QE.ret (QE.step s13 q3) w3 (Rp.str _)⟩
    · exact q3.elim
  · exact q3.elim
def dRev (fa : En → M RV) : En → M RV := fun en => (fa en).bind fun r => match r.1 with
  | .d (.list xs) => .ret (.d (.list xs.reverse), true)
  | _ => .stuck
theorem de_rev {k : Nat} {p1 p2 p3 : Pos} (ha : DE X mo E a fa) : DE X mo E (.Subscript a (.Slice none none (some (.UnaryOp .USub (.Constant (.int 1) k p1) p2)) p3) pos) (dRev fa) := by
  obtain ⟨ta, pa, wa⟩ := ha
  refine ⟨_, pe_revL pa, fun S g W σ H en Q hR h => ?_⟩
  unfold dRev at h
  rw [wp_bind] at h
  refine wa S g W σ H en _ hR (wp_mono h (fun r1 W1 q g1 v1 H1 s1 w1 rr1 => ?_) fun _ _ q => q)
  try dsimp only at q
  split at q
  · rename_i xs e
    replace rr1 := RepR.at rr1 e
    obtain ⟨p, us, rfl, hp, ap⟩ := Rp.lst_inv rr1.1
    exact ⟨p, us, rfl, SqL.of (cutS hp), fun q' hq => QE.new (QE.step s1 q) w1 (fun a s => s1.own a (hR.sd a s)) hq ap.reverse⟩
  · exact q.elim
end
end Dt

/-! The data layer, part 5: what is walked, targets, comprehensions. -/
namespace Dt
open PySem L2

/-! ### what is walked -/
def mixC (C H' H'' : Hp) : Hp := fun a => match H' a with
  | none => H'' a
  | some _ => C a
theorem mixC_self {C H' : Hp} (h : Same C H') {a : Addr} {o : HO} (e : C a = some o) (H'' : Hp) : mixC C H' H'' a = some o := by
  unfold mixC
  rw [h a o e]
  exact e
theorem mixC_new {C H' H'' : Hp} {a : Addr} {o : HO} (e : H' a = none) (e' : H'' a = some o) : mixC C H' H'' a = some o := by
  unfold mixC
  rw [e]
  exact e'
structure ItOk (K : PySem.W.Frag) (C : Hp) (J : It) (items : List PyData) : Prop where
  go : ∀ (i : Nat) (H' : Hp) (d : PyData), items[i]? = some d → Same C H' → J.go i H' ∧ ∀ x H'', J.yld i H' x H'' → Same H' H'' ∧ Rp K (mixC C H' H'') x d
  stop : ∀ (i : Nat) (H' : Hp), items.length ≤ i → Same C H' → J.stop i H'
def DI (X : Cx) (mo : Mo) (E : XK) (tg e : Expr) (f : En → M (List PyData)) : Prop :=
  ∃ wi : TI, PI X tg e wi ∧ ∀ (S : Addr → Prop) (g : Gh) (W : Wd) (σ : St) (H : Hp) (en : En) (R : It → Hp → Prop), RepE mo X.K S g W σ H en →
    wp (f en) W (fun items W' => ∀ g' H' J, Step g H g' H' → WOk mo X.K S g' W' H' → ItOk X.K (cut H' fun a => S a ∨ g'.R a) J items → R J H') (EE mo X.K S g H E) → wi σ H R
section
variable {X : Cx} {mo : Mo} {E : XK} {pos p : Pos} {a b c e tg : Expr} {es : List Expr} {fa fb fc : En → M RV} {fs : En → M (List AV)}
/-- a list or a tuple, as it comes -/
def iSeq (K : PySem.W.Frag) (tl : TE) : TI := fun σ H R => tl σ H fun x H1 => (∃ a, x = .ref a ∧ (∃ xs, SqL K H1 a xs) ∧ R (Itl K a) H1) ∨ (∃ a, x = .ref a ∧ (∃ xs, SqT K H1 a xs) ∧ R (Itt K a) H1)
theorem pi_seq {l : Expr} {tl : TE} (hl : PE X l tl) : PI X tg l (iSeq X.K tl) := by
  refine ⟨fun pins s σ H R I h => ?_⟩
  refine thn (hl.run pins s σ H _ I h) fun v s1 ⟨x, H1, I1, r1, q1⟩ => ?_
  rcases q1 with ⟨a, e, ⟨xs, hq⟩, q⟩ | ⟨a, e, ⟨xs, hq⟩, q⟩
  · subst e
    cases r1
    obtain ⟨its, rv, p, hz⟩ := I1.list hq
    refine wpAny_pyIter_list p.isList ?_
    refine ⟨s1.heap.objs.size, [s1.heap.objs.size], _, _, H1, rfl, I1.kept (t' := s1.toks) fun b o e => Heap.get?_push_of_some _ e, turn_list a _, ⟨_, Heap.get?_push_size _ rfl, rfl, rfl⟩, fun b hb => ?_, q⟩
    have e : b = s1.heap.objs.size := by simpa using hb
    subst e
    exact I1.fpOk (Nat.le_refl _) (I1.hok.fresh (Nat.le_refl _))
  · subst e
    cases r1
    obtain ⟨its, rv, p, hz⟩ := I1.tuple hq
    refine wpAny_pyIter_tuple (show s1.heap.IsTuple a its.toArray from p) ?_
    refine ⟨s1.heap.objs.size, [s1.heap.objs.size], _, _, H1, rfl, I1.kept (t' := s1.toks) fun b o e => Heap.get?_push_of_some _ e, turn_tuple a _, ⟨_, Heap.get?_push_size _ rfl, rfl, rfl⟩, fun b hb => ?_, q⟩
    have e : b = s1.heap.objs.size := by simpa using hb
    subst e
    exact I1.fpOk (Nat.le_refl _) (I1.hok.fresh (Nat.le_refl _))

def asSeq (r : RV) : M (List PyData) := match r.1 with
  | .d (.list xs) => .ret xs
  | .d (.tuple xs) => .ret xs
  | _ => .stuck
def iSeqD (fa : En → M RV) : En → M (List PyData) := fun en => (fa en).bind asSeq
theorem itok_list {K : PySem.W.Frag} {C : Hp} {q : Addr} {vs : List V} {xs : List PyData} (h : C q = some (.lst vs)) (ap : RpAll K C vs xs) : ItOk K C (Itl K q) xs where
  go := fun i H' d hd hs => by
    obtain ⟨v, e, r⟩ := ap.get hd
    refine ⟨⟨vs, v, SqL.of (hs _ _ h), e⟩, fun x H'' y => ?_⟩
    obtain ⟨e1, y⟩ := y
    subst e1
    have e2 := y vs (SqL.of (hs _ _ h))
    rw [e] at e2
    cases e2
    exact ⟨Same.refl _, r.mono fun b o eb => mixC_self hs eb _⟩
  stop := fun i H' hi hs => ⟨vs, SqL.of (hs _ _ h), by rw [ap.length]; exact hi⟩
theorem itok_tup {K : PySem.W.Frag} {C : Hp} {q : Addr} {vs : List V} {xs : List PyData} (h : SqT K C q vs) (ap : RpAll K C vs xs) : ItOk K C (Itt K q) xs where
  go := fun i H' d hd hs => by
    obtain ⟨v, e, r⟩ := ap.get hd
    refine ⟨⟨vs, v, Same.seqT hs h, e⟩, fun x H'' y => ?_⟩
    obtain ⟨e1, y⟩ := y
    subst e1
    have e2 := y vs (Same.seqT hs h)
    rw [e] at e2
    cases e2
    exact ⟨Same.refl _, r.mono fun b o eb => mixC_self hs eb _⟩
  stop := fun i H' hi hs => ⟨vs, Same.seqT hs h, by rw [ap.length]; exact hi⟩
theorem di_seq (ha : DE X mo E a fa) : DI X mo E tg a (iSeqD fa) := by
  obtain ⟨ta, pa, wa⟩ := ha
  refine ⟨_, pi_seq pa, fun S g W σ H en R hR h => ?_⟩
  unfold iSeqD at h
  rw [wp_bind] at h
  refine wa S g W σ H en _ hR (wp_mono h (fun r1 W1 q g1 v1 H1 s1 w1 rr1 => ?_) fun _ _ q => q)
  unfold asSeq at q
  split at q
  · rename_i xs e
    replace rr1 := RepR.at rr1 e
    obtain ⟨p, us, rfl, hp, ap⟩ := Rp.lst_inv rr1.1
    exact .inl ⟨p, rfl, ⟨us, SqL.of (cutS hp)⟩, q g1 H1 _ s1 w1 (itok_list hp ap)⟩
  · rename_i xs e
    replace rr1 := RepR.at rr1 e
    obtain ⟨p, us, rfl, hp, ap⟩ := Rp.tup_inv rr1.1
    exact .inr ⟨p, rfl, ⟨us, Same.seqT cut_sub hp⟩, q g1 H1 _ s1 w1 (itok_tup hp ap)⟩
  · exact q.elim
def rangeP (lo : Int) (n : Nat) : List PyData := (List.range n).map fun i : Nat => .int (lo + i)
theorem rangeP_length (lo : Int) (n : Nat) : (rangeP lo n).length = n := by simp [rangeP]
theorem itok_range {K : PySem.W.Frag} {C : Hp} (lo : Int) (n : Nat) : ItOk K C (Itr lo n) (rangeP lo n) where
  go := fun i H' d hd hs => by
    unfold rangeP at hd
    rw [List.getElem?_map, Option.map_eq_some_iff] at hd
    obtain ⟨j, hj, rfl⟩ := hd
    obtain ⟨h1, h2⟩ := List.getElem?_eq_some_iff.mp hj
    have hi : i < n := by simpa using h1
    have ej : j = i := by simpa using h2.symm
    subst ej
    refine ⟨hi, fun x H'' y => ?_⟩
    obtain ⟨e1, e2⟩ := y
    subst e1 e2
    exact ⟨Same.refl _, .int _⟩
  stop := fun i H' hi hs => by
    rw [rangeP_length] at hi
    exact hi
def iRangeD1 (fs : En → M (List AV)) : En → M (List PyData) := fun en => (fs en).bind fun as => match as with
  | [.d (.int n)] => if n ≤ 1000000 ∧ -1000000 ≤ n then .ret (rangeP 0 n.toNat) else .stuck
  | _ => .stuck
def iRangeD2 (fs : En → M (List AV)) : En → M (List PyData) := fun en => (fs en).bind fun as => match as with
  | [.d (.int m), .d (.int n)] => if (n ≤ 1000000 ∧ -1000000 ≤ n) ∧ (m ≤ 1000000 ∧ -1000000 ≤ m) then .ret (rangeP m (n - m).toNat) else .stuck
  | _ => .stuck
theorem di_range1 (hm : X.mg "range" = none) (hs : DA X mo E [a] fs) (hg : Gl X "range" := by rfl) (he : starEach [a] X.env = [(false, eval a X.env)] := by rfl) : DI X mo E tg (.Call (.Name "range" p) [a] [] pos) (iRangeD1 fs) := by
  obtain ⟨ts, pss, ws⟩ := hs
  refine ⟨_, pi_range1 hg hm pss he, fun S g W σ H en R hR h => ?_⟩
  unfold iRangeD1 at h
  rw [wp_bind] at h
  refine ws S g W σ H en _ hR (wp_mono h (fun as W1 q g1 vs H1 s1 w1 rr1 hl1 => ?_) fun _ _ q => q)
  try dsimp only at q
  split at q
  · rename_i n
    split at q
    · rename_i hn
      obtain ⟨v, rfl, r⟩ := reps1 rr1
      rw [Rp.int_inv r]
      exact ⟨n, rfl, by omega, by omega, q g1 H1 _ s1 w1 (itok_range 0 _)⟩
    · exact q.elim
  · exact q.elim
theorem di_range2 (hm : X.mg "range" = none) (hs : DA X mo E [a, b] fs) (hg : Gl X "range" := by rfl) (he : starEach [a, b] X.env = [(false, eval a X.env), (false, eval b X.env)] := by rfl) (he2 : starEach [b] X.env = [(false, eval b X.env)] := by rfl) :
    DI X mo E tg (.Call (.Name "range" p) [a, b] [] pos) (iRangeD2 fs) := by
  obtain ⟨ts, pss, ws⟩ := hs
  refine ⟨_, pi_range2 hg hm pss he he2, fun S g W σ H en R hR h => ?_⟩
  unfold iRangeD2 at h
  rw [wp_bind] at h
  refine ws S g W σ H en _ hR (wp_mono h (fun as W1 q g1 vs H1 s1 w1 rr1 hl1 => ?_) fun _ _ q => q)
  try dsimp only at q
  split at q
  · rename_i m n
    split at q
    · rename_i hn
      obtain ⟨v, u, rfl, r1, r2⟩ := reps2 rr1
      rw [Rp.int_inv r1, Rp.int_inv r2]
      exact ⟨m, n, rfl, ⟨by omega, by omega, by omega, by omega⟩, q g1 H1 _ s1 w1 (itok_range m _)⟩
    · exact q.elim
  · exact q.elim
/-- enumerate -/
def enumP (n : Nat) : List PyData → List PyData
  | [] => []
  | x :: xs => .tuple [.int n, x] :: enumP (n + 1) xs
theorem enumP_get : ∀ (xs : List PyData) (n i : Nat) {d : PyData}, (enumP n xs)[i]? = some d → ∃ x, xs[i]? = some x ∧ d = .tuple [.int ((n + i : Nat) : Int), x]
  | [], _, _, _, h => by simp [enumP] at h
  | x :: xs, n, 0, d, h => by
    simp [enumP] at h
    exact ⟨x, rfl, by rw [← h]; rfl⟩
  | x :: xs, n, i + 1, d, h => by
    simp only [enumP, List.getElem?_cons_succ] at h
    obtain ⟨y, h1, h2⟩ := enumP_get xs (n + 1) i h
    refine ⟨y, by simpa using h1, ?_⟩
    rw [h2]
    have e : n + 1 + i = n + (i + 1) := by omega
    rw [e]
theorem enumP_length : ∀ (xs : List PyData) (n : Nat), (enumP n xs).length = xs.length
  | [], _ => rfl
  | _ :: xs, n => by simp [enumP, enumP_length xs]
theorem pair_rep {K : PySem.W.Frag} {C H' : Hp} {T : Addr} {x y : V} {d d' : PyData} (hs : Same C H') (hT : H' T = none) (r : Rp K C x d) (r' : Rp K C y d') : Same H' (upd H' T (.tup [x, y])) ∧ Rp K (mixC C H' (upd H' T (.tup [x, y]))) (.ref T) (.tuple [d, d']) :=
  ⟨same_new hT, .tup (SqT.of (mixC_new hT upd_same)) (.cons (r.mono fun b o eb => mixC_self hs eb _) (.cons (r'.mono fun b o eb => mixC_self hs eb _) .nil))⟩
theorem itok_enum {K : PySem.W.Frag} {C : Hp} {q : Addr} {vs : List V} {xs : List PyData} (h : C q = some (.lst vs)) (ap : RpAll K C vs xs) : ItOk K C (Ite K q) (enumP 0 xs) where
  go := fun i H' d hd hs => by
    obtain ⟨z, hz, rfl⟩ := enumP_get xs 0 i hd
    obtain ⟨v, e, r⟩ := ap.get hz
    refine ⟨⟨vs, v, SqL.of (hs _ _ h), e⟩, fun x H'' y => ?_⟩
    obtain ⟨T, w, rfl, hT, rfl, y⟩ := y
    have e2 := y vs (SqL.of (hs _ _ h))
    rw [e] at e2
    cases e2
    rw [Nat.zero_add]
    exact pair_rep hs hT (.int _) r
  stop := fun i H' hi hs => ⟨vs, SqL.of (hs _ _ h), by rw [ap.length]; rw [enumP_length] at hi; exact hi⟩
def iEnumD (fs : En → M (List AV)) : En → M (List PyData) := fun en => (fs en).bind fun as => match as with
  | [.d (.list xs)] => .ret (enumP 0 xs)
  | _ => .stuck
theorem di_enum {elts : List Expr} {kk : Nat} {tpos : Pos} (hm : X.mg "enumerate" = none) (hs : DA X mo E [a] fs) (hg : Gl X "enumerate" := by rfl) (he : starEach [a] X.env = [(false, eval a X.env)] := by rfl) :
    DI X mo E (.Tuple elts kk tpos) (.Call (.Name "enumerate" p) [a] [] pos) (iEnumD fs) := by
  obtain ⟨ts, pss, ws⟩ := hs
  refine ⟨_, pi_enum hg hm pss he, fun S g W σ H en R hR h => ?_⟩
  unfold iEnumD at h
  rw [wp_bind] at h
  refine ws S g W σ H en _ hR (wp_mono h (fun as W1 q g1 vs H1 s1 w1 rr1 hl1 => ?_) fun _ _ q => q)
  try dsimp only at q
  split at q
  · obtain ⟨v, rfl, r⟩ := reps1 rr1
    obtain ⟨p, us, rfl, hp, ap⟩ := Rp.lst_inv r
    exact ⟨p, us, rfl, SqL.of (cutS hp), q g1 H1 _ s1 w1 (itok_enum hp ap)⟩
  · exact q.elim
/-- zip -/
def zipP : List PyData → List PyData → List PyData
  | x :: xs, y :: ys => .tuple [x, y] :: zipP xs ys
  | _, _ => []
theorem zipP_get : ∀ (xs ys : List PyData) (i : Nat) {d : PyData}, (zipP xs ys)[i]? = some d → ∃ x y, xs[i]? = some x ∧ ys[i]? = some y ∧ d = .tuple [x, y]
  | [], _, _, _, h => by simp [zipP] at h
  | _ :: _, [], _, _, h => by simp [zipP] at h
  | x :: xs, y :: ys, 0, d, h => by
    simp [zipP] at h
    exact ⟨x, y, rfl, rfl, h.symm⟩
  | x :: xs, y :: ys, i + 1, d, h => by
    simp only [zipP, List.getElem?_cons_succ] at h
    obtain ⟨u, v, h1, h2, h3⟩ := zipP_get xs ys i h
    exact ⟨u, v, by simpa using h1, by simpa using h2, h3⟩
theorem zipP_length : ∀ (xs ys : List PyData), (zipP xs ys).length = min xs.length ys.length
  | [], _ => by simp [zipP]
  | _ :: _, [] => by simp [zipP]
  | _ :: xs, _ :: ys => by
    simp [zipP, zipP_length xs ys]
theorem itok_zip {K : PySem.W.Frag} {C : Hp} {q q' : Addr} {vs us : List V} {xs ys : List PyData} (h : C q = some (.lst vs)) (ap : RpAll K C vs xs) (h' : C q' = some (.lst us)) (ap' : RpAll K C us ys) : ItOk K C (Itz K q q') (zipP xs ys) where
  go := fun i H' d hd hs => by
    obtain ⟨z, z', hz, hz', rfl⟩ := zipP_get xs ys i hd
    obtain ⟨v, e, r⟩ := ap.get hz
    obtain ⟨u, e', r'⟩ := ap'.get hz'
    refine ⟨⟨vs, us, v, u, SqL.of (hs _ _ h), SqL.of (hs _ _ h'), e, e'⟩, fun x H'' y => ?_⟩
    obtain ⟨T, w, w', rfl, hT, rfl, y, y'⟩ := y
    have e2 := y vs (SqL.of (hs _ _ h))
    rw [e] at e2
    cases e2
    have e3 := y' us (SqL.of (hs _ _ h'))
    rw [e'] at e3
    cases e3
    exact pair_rep hs hT r r'
  stop := fun i H' hi hs => ⟨vs, us, SqL.of (hs _ _ h), SqL.of (hs _ _ h'), by rw [ap.length, ap'.length]; rw [zipP_length] at hi; omega⟩
def iZipD (fs : En → M (List AV)) : En → M (List PyData) := fun en => (fs en).bind fun as => match as with
  | [.d (.list xs), .d (.list ys)] => .ret (zipP xs ys)
  | _ => .stuck
theorem di_zip {elts : List Expr} {kk : Nat} {tpos : Pos} (hm : X.mg "zip" = none) (hs : DA X mo E [a, b] fs) (hg : Gl X "zip" := by rfl) (he : starEach [a, b] X.env = (false, eval a X.env) :: starEach [b] X.env := by rfl) (hpl : (backTo pos (starEach [b] X.env)).any (·.1) = false := by rfl) :
    DI X mo E (.Tuple elts kk tpos) (.Call (.Name "zip" p) [a, b] [] pos) (iZipD fs) := by
  obtain ⟨ts, pss, ws⟩ := hs
  refine ⟨_, pi_zip hg hm pss he hpl, fun S g W σ H en R hR h => ?_⟩
  unfold iZipD at h
  rw [wp_bind] at h
  refine ws S g W σ H en _ hR (wp_mono h (fun as W1 q g1 vs H1 s1 w1 rr1 hl1 => ?_) fun _ _ q => q)
  try dsimp only at q
  split at q
  · obtain ⟨v, u, rfl, r, r'⟩ := reps2 rr1
    obtain ⟨p, us, rfl, hp, ap⟩ := Rp.lst_inv r
    obtain ⟨p', us', rfl, hp', ap'⟩ := Rp.lst_inv r'
    exact ⟨p, p', us, us', rfl, SqL.of (cutS hp), SqL.of (cutS hp'), q g1 H1 _ s1 w1 (itok_zip hp ap hp' ap')⟩
  · exact q.elim

/-! ### targets -/
def setS (σ : St) : List Nat → List V → St
  | i :: is, v :: vs => setS (σ.set i (some v)) is vs
  | _, _ => σ
def setE (en : En) : List Nat → List PyData → En
  | i :: is, v :: vs => setE (en.set i (some (.v (.d v)))) is vs
  | _, _ => en
/-- a name; a tuple of names -/
def bdN : PyData → Option (List PyData) := fun p => some [p]
def bdT (n : Nat) : PyData → Option (List PyData)
  | .tuple xs => if xs.length = n then some xs else none
  | .list xs => if xs.length = n then some xs else none
  | _ => none
theorem pg_or {X : Cx} {e : Expr} {t1 t2 : TG} (h1 : PG X e t1) (h2 : PG X e t2) : PG X e (fun v σ H Q => t1 v σ H Q ∨ t2 v σ H Q) :=
  ⟨fun pins s σ H v u Q I r hw => hw.elim (fun z => h1.run pins s σ H v u Q I r z) fun z => h2.run pins s σ H v u Q I r z⟩
def DG (X : Cx) (tg : Expr) (sl : List Nat) (bd : PyData → Option (List PyData)) : Prop :=
  ∃ gt : TG, PG X tg gt ∧ ∀ (C : Hp) (v : V) (d : PyData) (ds : List PyData) (σ : St) (H : Hp) (Q : St → Hp → Prop), Rp X.K C v d → Same C H → bd d = some ds → (∀ vs, RpAll X.K C vs ds → Q (setS σ sl vs) H) → gt v σ H Q
theorem dg_name {i : Nat} {x : Str} (hN : X.N.Nodup) (hi : X.N[i]? = some x := by rfl) (hx : Loc X.env.scope x := by first | exact Or.inl rfl | exact Or.inr rfl) (hf : X.fn x = true ∨ X.env.scope.names.lookup x = some .local := by first | exact .inl rfl | exact .inr rfl) : DG X (.Name x pos) [i] bdN := by
  refine ⟨gName i, pg_name hN hi hx hf, fun C v d ds σ H Q r hs e q => ?_⟩
  simp only [bdN, Option.some.injEq] at e
  subst e
  exact q [v] (.one r)
structure DGs (X : Cx) (ts : List Expr) (sl : List Nat) : Prop where
  ex : ∃ gt : TGs, PGs X ts gt ∧ sl.length = ts.length ∧ ∀ (vs : List V) (σ : St) (H : Hp) (Q : St → Hp → Prop), vs.length = ts.length → Q (setS σ sl vs) H → gt vs σ H Q
theorem dgs_nil : DGs X [] [] := ⟨gNil, pgs_nil, rfl, fun vs σ H Q hl q => by
  cases vs with
  | nil => exact ⟨rfl, q⟩
  | cons _ _ => cases hl⟩
theorem dgs_cons {i : Nat} {x : Str} {ts : List Expr} {sl : List Nat} (hN : X.N.Nodup) (h : DGs X ts sl) (hi : X.N[i]? = some x := by rfl) (hx : Loc X.env.scope x := by first | exact Or.inl rfl | exact Or.inr rfl) (hf : X.fn x = true ∨ X.env.scope.names.lookup x = some .local := by first | exact .inl rfl | exact .inr rfl)
    (hs : (assignEach (.Name x pos :: ts) X.env).map (·.2) = assign (.Name x pos) X.env :: (assignEach ts X.env).map (·.2) := by rfl) : DGs X (.Name x pos :: ts) (i :: sl) := by
  obtain ⟨gt, pg, hl, w⟩ := h.ex
  refine ⟨_, pgs_cons (pg_name hN hi hx hf) pg hs, by simp [hl], fun vs σ H Q hlen q => ?_⟩
  cases vs with
  | nil => cases hlen
  | cons v vs => exact ⟨v, vs, rfl, w vs _ H Q (by simpa using hlen) q⟩
theorem dg_tup {ts : List Expr} {sl : List Nat} {k n : Nat} (hc : X.calm = true) (h : DGs X ts sl) (hn : (assignEach ts X.env).length = n := by rfl) (hst : (assignEach ts X.env).findIdx? (·.1) = none := by rfl) (hn2 : ts.length = n := by rfl) : DG X (.Tuple ts k pos) sl (bdT n) := by
  obtain ⟨gt, pg, hl, w⟩ := h.ex
  refine ⟨_, pg_or (pg_tup hc pg hn hst) (pg_lst hc pg hn hst), fun C v d ds σ H Q r hs e q => ?_⟩
  unfold bdT at e
  split at e
  · split at e
    · rename_i hx
      cases e
      obtain ⟨p, us, rfl, hp, ap⟩ := Rp.tup_inv r
      exact .inl ⟨p, us, rfl, Same.seqT hs hp, by rw [ap.length]; exact hx, w us σ H Q (by rw [ap.length, hx, hn2]) (q us ap)⟩
    · cases e
  · split at e
    · rename_i hx
      cases e
      obtain ⟨p, us, rfl, hp, ap⟩ := Rp.lst_inv r
      exact .inr ⟨p, us, rfl, SqL.of (hs p _ hp), by rw [ap.length]; exact hx, w us σ H Q (by rw [ap.length, hx, hn2]) (q us ap)⟩
    · cases e
  · cases e

/-! ### comprehensions -/
def tDE (mo : Mo) (K : PySem.W.Frag) (E : XK) (f : En → M RV) : TE := fun σ H Q => ∃ (S : Addr → Prop) (g : Gh) (W : Wd) (en : En), RepE mo K S g W σ H en ∧ wp (f en) W (QE mo K S g H Q) (EE mo K S g H E)
theorem DE.can (h : DE X mo E e fa) : PE X e (tDE mo X.K E fa) := by
  obtain ⟨t, p, w⟩ := h
  exact ⟨fun pins s σ H Q I ⟨S, g, W, en, hR, hw⟩ => p.run pins s σ H Q I (w S g W σ H en Q hR hw)⟩
def tDT (mo : Mo) (K : PySem.W.Frag) (E : XK) (f : En → M Bool) : TT := fun σ H Q => ∃ (S : Addr → Prop) (g : Gh) (W : Wd) (en : En), RepE mo K S g W σ H en ∧ wp (f en) W (QT mo K S g H Q) (EE mo K S g H E)
theorem DT.can {f : En → M Bool} (h : DT X mo E e f) : PT X e (tDT mo X.K E f) := by
  obtain ⟨t, p, w⟩ := h
  exact ⟨fun pins s σ H Q I ⟨S, g, W, en, hR, hw⟩ => p.run pins s σ H Q I (w S g W σ H en Q hR hw)⟩
def tDG (K : PySem.W.Frag) (sl : List Nat) (bd : PyData → Option (List PyData)) : TG := fun v σ H Q => ∃ (C : Hp) (d : PyData) (ds : List PyData), Rp K C v d ∧ Same C H ∧ bd d = some ds ∧ ∀ vs, RpAll K C vs ds → Q (setS σ sl vs) H
theorem DG.can {sl : List Nat} {bd : PyData → Option (List PyData)} (h : DG X tg sl bd) : PG X tg (tDG X.K sl bd) := by
  obtain ⟨t, p, w⟩ := h
  exact ⟨fun pins s σ H v u Q I r ⟨C, d, ds, r1, hs, e, q⟩ => p.run pins s σ H v u Q I r (w C v d ds σ H Q r1 hs e q)⟩
def DTs (X : Cx) (mo : Mo) (E : XK) (ifs : List Expr) (f : En → M Bool) : Prop := PTs X ifs (tDT mo X.K E f)
def yes : En → M Bool := fun _ => .ret true
theorem dts_nil : DTs X mo E [] yes := ⟨fun pins s σ H Q I ⟨S, g, W, en, hR, hw⟩ => pts_nil.run pins s σ H Q I (hw g H (.refl g H) hR.wok)⟩
theorem dts_one {f : En → M Bool} (h : DT X mo E c f) : DTs X mo E [c] f := pts_one h.can
/-- where nothing may be raised -/
def nox {α : Type} : M α → M α
  | .ret a => .ret a
  | .raise _ => .stuck
  | .draw i l k => .draw i l fun r => nox (k r)
  | .onew o k => .onew o fun n => nox (k n)
  | .oget i k => .oget i fun o => nox (k o)
  | .oset i o k => .oset i o (nox k)
  | .stuck => .stuck
@[simp] theorem nox_ret {α : Type} (a : α) : nox (M.ret a) = .ret a := rfl
theorem wp_nox {α : Type} : ∀ {m : M α} {W : Wd} {Q : α → Wd → Prop} {E' E'' : Err → Wd → Prop}, wp (nox m) W Q E' → wp m W Q E''
  | .ret _, _, _, _, _, h => h
  | .raise _, _, _, _, _, h => h.elim
  | .draw i l k, W, Q, E', E'', h => by
    obtain ⟨h0, h1, h2, h3⟩ := h
    exact ⟨h0, h1, h2, fun r a b => wp_nox (m := k r) (h3 r a b)⟩
  | .onew o k, W, Q, E', E'', h => wp_nox (m := k W.length) (W := W ++ [o]) h
  | .oget i k, W, Q, E', E'', h => by
    obtain ⟨o, h0, h1⟩ := h
    exact ⟨o, h0, wp_nox (m := k o) h1⟩
  | .oset i o k, W, Q, E', E'', h => by
    obtain ⟨h0, h1⟩ := h
    exact ⟨h0, wp_nox (m := k) h1⟩
  | .stuck, _, _, _, _, h => h.elim
def wipeE (en : En) : List Nat → En
  | [] => en
  | v :: vs => (wipeE en vs).set v none
def compL (own sl : List Nat) (bd : PyData → Option (List PyData)) (tt : En → M Bool) (el : En → M RV) (en : En) : List PyData → M (List PyData)
  | [] => .ret []
  | x :: xs => match bd x with
    | none => .stuck
    | some ds => (nox (tt (setE (wipeE en own) sl ds))).bind fun b => if b = true then (nox (el (setE (wipeE en own) sl ds))).bind fun r => match r.1 with
        | .d y => (compL own sl bd tt el en xs).bind fun ys => .ret (y :: ys)
        | _ => .stuck
      else compL own sl bd tt el en xs
def dComp (own sl : List Nat) (bd : PyData → Option (List PyData)) (it : En → M (List PyData)) (tt : En → M Bool) (el : En → M RV) : En → M RV := fun en => (it en).bind fun items =>
  if items.length ≤ lim then (compL own sl bd tt el en items).bind fun ys => .ret (.d (.list ys), true) else .stuck
theorem wipeE_some : ∀ {vs : List Nat} {en : En} {i : Nat} {s : Slot}, (wipeE en vs)[i]? = some (some s) → en[i]? = some (some s) ∧ i ∉ vs
  | [], _, _, _, h => ⟨h, by simp⟩
  | v :: vs, en, i, s, h => by
    unfold wipeE at h
    by_cases hi : v = i
    · subst hi
      by_cases hv : v < (wipeE en vs).length
      · rw [List.getElem?_set_self hv] at h; cases h
      · rw [List.getElem?_eq_none (by simpa using hv)] at h; cases h
    · rw [List.getElem?_set_ne hi] at h
      obtain ⟨h1, h2⟩ := wipeE_some h
      exact ⟨h1, by simp only [List.mem_cons, not_or]; exact ⟨fun e => hi e.symm, h2⟩⟩
theorem wipe_get {σ : St} {i : Nat} : ∀ {vs : List Nat}, i ∉ vs → (wipe σ vs)[i]? = σ[i]?
  | [], _ => rfl
  | v :: vs, h => by
    simp only [List.mem_cons, not_or] at h
    unfold wipe
    rw [List.getElem?_set_ne (fun z => h.1 z.symm)]
    exact wipe_get h.2
theorem wipe_ext {σ τ : St} {vs : List Nat} (hl : σ.length = τ.length) (h : ∀ i, i ∉ vs → σ[i]? = τ[i]?) : wipe σ vs = wipe τ vs := by
  apply List.ext_getElem?
  intro i
  by_cases hi : i ∈ vs
  · have none_at : ∀ (ρ : St) (ws : List Nat), i ∈ ws → (wipe ρ ws)[i]? = if i < ρ.length then some none else none := by
      intro ρ ws
      induction ws with
      | nil => intro h; cases h
      | cons w ws ih =>
        intro h
        unfold wipe
        by_cases e : w = i
        · subst e
          by_cases hv : w < (wipe ρ ws).length
          · rw [List.getElem?_set_self hv, if_pos (by rw [wipe_length] at hv; exact hv)]
          · rw [List.getElem?_eq_none (by simpa using hv), if_neg (by rw [wipe_length] at hv; exact hv)]
        · rw [List.getElem?_set_ne e]
          exact ih ((List.mem_cons.mp h).resolve_left fun z => e z.symm)
    rw [none_at σ vs hi, none_at τ vs hi, hl]
  · rw [wipe_get hi, wipe_get hi]
    exact h i hi
theorem setS_length : ∀ (sl : List Nat) (vs : List V) (σ : St), (setS σ sl vs).length = σ.length
  | [], _, _ => rfl
  | _ :: _, [], _ => rfl
  | i :: is, v :: vs, σ => by unfold setS; rw [setS_length is vs, List.length_set]
theorem setS_get : ∀ (sl : List Nat) (vs : List V) (σ : St) {i : Nat}, i ∉ sl → (setS σ sl vs)[i]? = σ[i]?
  | [], _, _, _, _ => rfl
  | _ :: _, [], _, _, _ => rfl
  | j :: is, v :: vs, σ, i, h => by
    simp only [List.mem_cons, not_or] at h
    unfold setS
    rw [setS_get is vs _ h.2, List.getElem?_set_ne (fun z => h.1 z.symm)]
theorem wipe_setS {σ : St} {own sl : List Nat} {vs : List V} (h : ∀ i ∈ sl, i ∈ own) : wipe (setS (wipe σ own) sl vs) own = wipe σ own := by
  refine wipe_ext (by rw [setS_length, wipe_length]) fun i hi => ?_
  rw [setS_get _ _ _ fun z => hi (h i z), wipe_get hi]
/-- slots set to data -/
theorem RepE.setE {K : PySem.W.Frag} {S : Addr → Prop} {g : Gh} {W : Wd} {H : Hp} : ∀ {sl : List Nat} {vs : List V} {ds : List PyData} {σ : St} {en : En}, RepE mo K S g W σ H en → RpAll K (cut H fun a => S a ∨ g.R a) vs ds → RepE mo K S g W (setS σ sl vs) H (setE en sl ds)
  | [], _, _, _, _, h, _ => h
  | _ :: _, [], _, _, _, h, r => by cases r; exact h
  | i :: is, v :: vs, _, σ, en, h, r => by
    cases r with
    | cons r1 r2 =>
      unfold setS Dt.setE
      have hl := h.len
      refine RepE.setE (sl := is) ⟨fun j a e => ?_, by rw [List.length_set, List.length_set]; exact hl, h.wok, h.sd⟩ r2
      by_cases hj : i = j
      · subst hj
        by_cases hi : i < en.length
        · rw [List.getElem?_set_self hi] at e
          cases e
          exact ⟨v, List.getElem?_set_self (by omega), r1⟩
        · rw [List.getElem?_eq_none (by simpa using hi)] at e
          cases e
      · rw [List.getElem?_set_ne hj] at e
        obtain ⟨u, e1, r⟩ := h.sl j a e
        exact ⟨u, by rw [List.getElem?_set_ne hj]; exact e1, r⟩
theorem wipeE_length (en : En) : ∀ vs : List Nat, (wipeE en vs).length = en.length
  | [] => rfl
  | v :: vs => by unfold wipeE; rw [List.length_set, wipeE_length en vs]
theorem RepE.wipe {K : PySem.W.Frag} {S : Addr → Prop} {g : Gh} {W : Wd} {H : Hp} {σ : St} {en : En} {vs : List Nat} (h : RepE mo K S g W σ H en) : RepE mo K S g W (wipe σ vs) H (wipeE en vs) :=
  ⟨fun i a e => let ⟨e1, n⟩ := wipeE_some e; let ⟨v, e2, r⟩ := h.sl i a e1; ⟨v, by rw [wipe_get n]; exact e2, r⟩, by rw [wipeE_length, wipe_length]; exact h.len, h.wok, h.sd⟩

theorem comp_run {sl vs' : List Nat} {bd : PyData → Option (List PyData)} {it : En → M (List PyData)} {tt : En → M Bool} {el : En → M RV} {wi : TI} (hsub : ∀ i ∈ sl, i ∈ vs')
    (wi' : ∀ (S : Addr → Prop) (g : Gh) (W : Wd) (σ : St) (H : Hp) (en : En) (R : It → Hp → Prop), RepE mo X.K S g W σ H en → wp (it en) W (fun items W' => ∀ g' H' J, Step g H g' H' → WOk mo X.K S g' W' H' → ItOk X.K (cut H' fun a => S a ∨ g'.R a) J items → R J H') (EE mo X.K S g H E) → wi σ H R)
    (S : Addr → Prop) (g : Gh) (W : Wd) (σ : St) (H : Hp) (en : En) (Q : VK) (hR : RepE mo X.K S g W σ H en) (h : wp (dComp vs' sl bd it tt el en) W (QE mo X.K S g H Q) (EE mo X.K S g H E)) :
    tLc wi (tDG X.K sl bd) (tDT mo X.K E0 tt) (tDE mo X.K E0 el) vs' σ H Q := by
  unfold dComp at h
  rw [wp_bind] at h
  refine wi' S g W σ H en _ hR (wp_mono h (fun items W1 q g1 H1 J s1 w1 ito => ?_) fun _ _ q => q)
  intro D hD
  split at q
  · rename_i hlen
    rw [wp_bind] at q
    have nSD : ¬ S D := fun z => (s1.own D (hR.sd D z)).ne hD
    have nRD : ¬ g1.R D := fun z => w1.rdom z hD
    refine ⟨fun i m H' => m = items.length - i ∧ i ≤ items.length ∧ ∃ (g' : Gh) (W' : Wd) (acc : List PyData) (accV : List V), Step g1 H1 g' H' ∧ WOk mo X.K (fun b => S b ∨ b = D) g' W' H' ∧ H' D = some (.lst accV) ∧ ¬ g'.R D ∧
      RpAll X.K (cut H' fun a => (S a ∨ g'.R a) ∨ a = D) accV acc ∧ acc.length ≤ i ∧ wp (compL vs' sl bd tt el en (items.drop i)) W' (fun ys W'' => QE mo X.K S g H Q (.d (.list (acc ++ ys)), true) W'') (EE mo X.K S g H E),
      ⟨items.length, by simp, Nat.zero_le _, g1, W1, [], [], .of_same (same_new hD), w1.new hD, upd_same, nRD, .nil, Nat.zero_le _, by rw [List.drop_zero]; exact q⟩, ?_⟩
    rintro i m H' ⟨rfl, hi, g', W', acc, accV, s', w', hD', nR', ra, hacc, hw⟩
    have hC : Same (cut H1 fun a => S a ∨ g1.R a) H' := fun a o eo => (s'.keep a o (fun z => (cut_some.mp eo).2 (.inr z)) (cut_some.mp eo).1).1
    by_cases hlt : i < items.length
    · right
      have hd : items[i]? = some items[i] := List.getElem?_eq_getElem hlt
      obtain ⟨go, yl⟩ := ito.go i H' _ hd hC
      rw [List.drop_eq_getElem_cons hlt] at hw
      unfold compL at hw
      split at hw
      · exact hw.elim
      · rename_i ds hbd
        rw [wp_bind] at hw
        refine ⟨go, fun H2 => ∃ m', m' < items.length - i ∧ (m' = items.length - (i + 1) ∧ i + 1 ≤ items.length ∧ ∃ (g' : Gh) (W' : Wd) (acc : List PyData) (accV : List V), Step g1 H1 g' H2 ∧ WOk mo X.K (fun b => S b ∨ b = D) g' W' H2 ∧ H2 D = some (.lst accV) ∧ ¬ g'.R D ∧
          RpAll X.K (cut H2 fun a => (S a ∨ g'.R a) ∨ a = D) accV acc ∧ acc.length ≤ i + 1 ∧ wp (compL vs' sl bd tt el en (items.drop (i + 1))) W' (fun ys W'' => QE mo X.K S g H Q (.d (.list (acc ++ ys)), true) W'') (EE mo X.K S g H E)),
          fun _ z => z, fun x H'' y => ?_⟩
        obtain ⟨sm, rx⟩ := yl x H'' y
        have w2 : WOk mo X.K (fun b => S b ∨ b = D) g' W' H'' := w'.same sm
        have hD2 : H'' D = some (.lst accV) := sm _ _ hD'
        -- the item, apart from the list that is made
        refine ⟨cut H'' fun a => (S a ∨ a = D) ∨ g'.R a, items[i], ds, rx.mono fun a o eo => ?_, cut_sub, hbd, fun vs rvs => ⟨wipe_setS hsub, ?_⟩⟩
        · unfold mixC at eo
          split at eo
          · rename_i e0
            refine cut_some.mpr ⟨eo, fun z => z.elim (fun z => z.elim (fun z => ?_) fun z => ?_) fun z => ?_⟩
            · exact (s'.own a (s1.own a (hR.sd a z))).ne e0
            · subst z; rw [hD'] at e0; cases e0
            · exact w'.rdom z e0
          · obtain ⟨e1, n1⟩ := cut_some.mp eo
            obtain ⟨e2, n2⟩ := s'.keep a o (fun z => n1 (.inr z)) e1
            refine cut_some.mpr ⟨sm a o e2, fun z => z.elim (fun z => z.elim (fun z => n1 (.inl z)) fun z => ?_) n2⟩
            subst z; rw [hD] at e1; cases e1
        · have hRS : RepE mo X.K (fun b => S b ∨ b = D) g' W' σ H'' en := by
            refine ⟨fun j a ej => ?_, hR.len, w2, fun a z => z.elim (fun z => ?_) fun z => ?_⟩
            · obtain ⟨v, e1, r⟩ := hR.sl j a ej
              refine ⟨v, e1, ?_⟩
              have r1 := r.step s1
              cases a with
              | d p =>
                refine Rp.mono (cut_mono fun b o eb nb => ?_) r1
                obtain ⟨e2, n2⟩ := s'.keep b o (fun z => nb (.inr z)) eb
                refine ⟨sm b o e2, fun z => z.elim (fun z => z.elim (fun z => nb (.inl z)) fun z => ?_) n2⟩
                subst z; rw [hD] at eb; cases eb
              | ob k =>
                obtain ⟨a, e2, e3⟩ := r1
                exact ⟨a, s'.adr k a e2, e3⟩
              | tl xs =>
                obtain ⟨a, dx, n, q, e2, e3, e4⟩ := r1
                have km : Same (cut H1 fun a => S a ∨ g1.R a) (cut H'' fun a => (S a ∨ a = D) ∨ g'.R a) := cut_mono fun b o eb nb => by
                  obtain ⟨k1, k2⟩ := s'.keep b o (fun z => nb (.inr z)) eb
                  refine ⟨sm b o k1, fun z => z.elim (fun z => z.elim (fun z => nb (.inl z)) fun z => ?_) k2⟩
                  subst z; rw [hD] at eb; cases eb
                exact ⟨a, dx, n, q, e2, km _ _ e3, Rp.mono km e4⟩
              | scr ns =>
                obtain ⟨a, e2, e3⟩ := r1
                refine ⟨a, e2, Same.seq (cut_mono fun b o eb nb => ?_) e3⟩
                obtain ⟨e2, n2⟩ := s'.keep b o (fun z => nb (.inr z)) eb
                refine ⟨sm b o e2, fun z => z.elim (fun z => z.elim (fun z => nb (.inl z)) fun z => ?_) n2⟩
                subst z; rw [hD] at eb; cases eb
              | exc er =>
                obtain ⟨a, e2, e3, n3, n4⟩ := r1
                obtain ⟨e4, n5⟩ := s'.keep a _ n4 e3
                refine ⟨a, e2, sm _ _ e4, fun z => z.elim n3 fun z => ?_, n5⟩
                subst z; rw [hD] at e3; cases e3
            · exact (s'.own a (s1.own a (hR.sd a z))).same sm
            · subst z; exact ⟨⟨_, hD2⟩, nR'⟩
          have hRE := (hRS.wipe (vs := vs')).setE (sl := sl) rvs
          refine ⟨fun b => S b ∨ b = D, g', W', _, hRE, wp_mono (wp_nox (E'' := EE mo X.K (fun b => S b ∨ b = D) g' H'' E0) hw) (fun b W3 q3 g3 H3 s3 w3 => ?_) fun _ _ q => q⟩
          have s13 : Step g1 H1 g3 H3 := (s'.trans (.of_same sm)).trans s3
          obtain ⟨hD3, nR3⟩ := s3.keep D _ nR' hD2
          have ra3 : RpAll X.K (cut H3 fun a => (S a ∨ g3.R a) ∨ a = D) accV acc := ra.mono (cut_mono fun a o ea na => by
            obtain ⟨e1, n1⟩ := (Step.of_same (g := g') sm).trans s3 |>.keep a o (fun z => na (.inl (.inr z))) ea
            exact ⟨e1, fun z => z.elim (fun z => z.elim (fun z => na (.inl (.inl z))) n1) fun z => na (.inr z)⟩)
          cases b with
          | true =>
            rw [if_pos rfl] at q3
            refine iteT ?_
            rw [wp_bind] at q3
            refine ⟨fun b => S b ∨ b = D, g3, W3, _, hRE.step s3 w3, wp_mono (wp_nox (E'' := EE mo X.K (fun b => S b ∨ b = D) g3 H3 E0) q3) (fun r W4 q4 g4 v4 H4 s4 w4 rr4 => ?_) fun _ _ q => q⟩
            try dsimp only at q4
            split at q4
            · rename_i y' ey
              replace rr4 := RepR.at rr4 ey
              rw [wp_bind] at q4
              obtain ⟨hD4, nR4⟩ := s4.keep D _ nR3 hD3
              have s14 := s13.trans s4
              refine ⟨accV, hD4, lim_lt (Nat.le_trans (by rw [ra.length]; exact hacc) (Nat.le_trans hi hlen)), items.length - (i + 1), by omega, rfl, hlt, g4, W4, acc ++ [y'], accV ++ [v4], ?_, w4.put nR4 hD4, upd_same, nR4, ?_, by simp; exact hacc, ?_⟩
              · refine ⟨fun a o na ea => ?_, fun a ha => ?_, s14.adr⟩
                · obtain ⟨e1, n1⟩ := s14.keep a o na ea
                  refine ⟨?_, n1⟩
                  rw [upd_ne (fun z => by subst z; rw [hD] at ea; cases ea)]
                  exact e1
                · by_cases z : a = D
                  · subst z; rw [upd_same]; exact fun z => by cases z
                  · rw [upd_ne z]; exact s14.dom a ha
              · refine RpAll.snoc (ra3.mono (cut_mono fun a o ea na => ?_)) (Rp.mono (cut_mono fun a o ea na => ?_) rr4.1)
                · obtain ⟨e1, n1⟩ := s4.keep a o (fun z => na (.inl (.inr z))) ea
                  refine ⟨by rw [upd_ne (fun z => na (.inr z))]; exact e1, fun z => z.elim (fun z => z.elim (fun z => na (.inl (.inl z))) n1) fun z => na (.inr z)⟩
                · refine ⟨by rw [upd_ne (fun z => na (.inl (.inr z)))]; exact ea, fun z => z.elim (fun z => z.elim (fun z => na (.inl (.inl z))) fun z => na (.inr z)) fun z => na (.inl (.inr z))⟩
              · refine wp_mono q4 (fun ys W5 q5 => ?_) fun _ _ q => q
                rw [List.append_assoc]
                exact q5
            · exact q4.elim
          | false =>
            rw [if_neg Bool.false_ne_true] at q3
            refine iteF ?_
            exact ⟨items.length - (i + 1), by omega, rfl, hlt, g3, W3, acc, accV, s13, w3, hD3, nR3, ra3, by omega, q3⟩
    · left
      have ei : i = items.length := by omega
      subst ei
      refine ⟨ito.stop _ H' (Nat.le_refl _) hC, ?_⟩
      rw [List.drop_length] at hw
      have hw' : QE mo X.K S g H Q (.d (.list (acc ++ [])), true) W' := hw
      rw [List.append_nil] at hw'
      refine hw' g' (.ref D) H' (s1.trans s') (w'.less fun a z => .inl z) ⟨.lst (cut_some.mpr ⟨hD', fun z => z.elim nSD nR'⟩) (ra.mono (cut_mono fun a o ea na => ⟨ea, fun z => na (.inl z)⟩)), fun _ => ⟨D, accV, acc, rfl, rfl, s1.back hD, hD', nSD, nR', ra, w'⟩⟩
  · exact q.elim
theorem de_comp {iter : Expr} {ifs : List Expr} {scope : Scope} {own : List (Str × Nat)} {sl : List Nat} {bd : PyData → Option (List PyData)} {it : En → M (List PyData)} {tt : En → M Bool} {el : En → M RV} (hc : X.calm = true) (hN : X.N.Nodup) (hi : DI X mo E tg iter it) (ok : BlkOk X.N X.env.scope scope own)
    (hg : ∀ (s : Shared) (H : Hp) (C : Addr) (cl : List (Str × Addr)) (fp : List Addr), DG (X.blk s H scope (compEnvC scope cl C X.env) fp) tg sl bd) (ht : ∀ (s : Shared) (H : Hp) (C : Addr) (cl : List (Str × Addr)) (fp : List Addr), DTs (X.blk s H scope (compEnvC scope cl C X.env) fp) mo E0 ifs tt)
    (he : ∀ (s : Shared) (H : Hp) (C : Addr) (cl : List (Str × Addr)) (fp : List Addr), DE (X.blk s H scope (compEnvC scope cl C X.env) fp) mo E0 e el) (hsub : ∀ i ∈ sl, i ∈ own.map (·.2) := by decide) (hs : ∀ x, foldedSetIterable iter X.env x = pure x := by intro _; rfl) :
    DE X mo E (.ListComp e [⟨tg, iter, ifs, 0⟩] scope pos) (dComp (own.map (·.2)) sl bd it tt el) := by
  obtain ⟨wi, pi, wi'⟩ := hi
  exact ⟨tLc wi (tDG X.K sl bd) (tDT mo X.K E0 tt) (tDE mo X.K E0 el) (own.map (·.2)), pe_lc hc hN pi ok (fun s H C cl fp => (hg s H C cl fp).can) (fun s H C cl fp => (show PTs _ ifs (tDT mo X.K E0 tt) from ht s H C cl fp)) (fun s H C cl fp => (he s H C cl fp).can) hs, comp_run hsub wi'⟩
end
end Dt

/-! The data layer, part 6: statements. -/
namespace Dt
open PySem L2

inductive Out where
  | nx (en : En)
  | rt (r : RV)
  | bk (en : En)
  | ct (en : En)
/-- the lists that the frame's own slots hold alone -/
def Ow (σ : St) (en : En) (a : Addr) : Prop := ∃ (i : Nat) (xs : List PyData), en[i]? = some (some (.own xs)) ∧ σ[i]? = some (some (.ref a))
def hideS : Option Slot → Option Slot
  | some (.own _) => none
  | s => s
def expoS : Option Slot → Option Slot
  | some (.own xs) => some (.v (.d (.list xs)))
  | s => s
def hide (en : En) : En := en.map hideS
def expo (en : En) : En := en.map expoS
structure RepS (mo : Mo) (K : PySem.W.Frag) (S₀ : Addr → Prop) (g₀ : Gh) (H₀ Fr : Hp) (g : Gh) (W : Wd) (σ : St) (H : Hp) (en : En) : Prop where
  len : en.length = σ.length
  base : Step g₀ H₀ g H
  frm : ∀ a o, Fr a = some o → H a = some o ∧ ¬ Ow σ en a ∧ ¬ g.R a
  val : ∀ (i : Nat) (a : AV), en[i]? = some (some (.v a)) → ∃ v, σ[i]? = some (some v) ∧ RepA mo K (fun b => S₀ b ∨ Ow σ en b) g H v a
  own : ∀ (i : Nat) (xs : List PyData), en[i]? = some (some (.own xs)) → ∃ p vs, σ[i]? = some (some (.ref p)) ∧ H p = some (.lst vs) ∧ H₀ p = none ∧ ¬ g.R p ∧ RpAll K (cut H fun b => (S₀ b ∨ Ow σ en b) ∨ g.R b) vs xs
  inj : ∀ (i j : Nat) (xs ys : List PyData) (p : Addr), en[i]? = some (some (.own xs)) → en[j]? = some (some (.own ys)) → σ[i]? = some (some (.ref p)) → σ[j]? = some (some (.ref p)) → i = j
  wok : WOk mo K S₀ g W H
  sd : ∀ a, S₀ a → OL g₀ H₀ a
def QS (mo : Mo) (K : PySem.W.Frag) (S₀ : Addr → Prop) (g₀ : Gh) (H₀ Fr : Hp) (D : Ends) : Out → Wd → Prop := fun o W' => match o with
  | .nx en' => ∀ g' σ' H', RepS mo K S₀ g₀ H₀ Fr g' W' σ' H' en' → D.nx σ' H'
  | .bk en' => ∀ g' σ' H', RepS mo K S₀ g₀ H₀ Fr g' W' σ' H' en' → D.bk σ' H'
  | .ct en' => ∀ g' σ' H', RepS mo K S₀ g₀ H₀ Fr g' W' σ' H' en' → D.ct σ' H'
  | .rt r => ∀ g' v H', Step g₀ H₀ g' H' → WOk mo K S₀ g' W' H' → RepR mo K S₀ g' W' H₀ H' v r → D.rt v H'
def DS (X : Cx) (mo : Mo) (E : XK) (st : Stmt) (s : En → M Out) : Prop :=
  ∃ t : TS, PS X st t ∧ ∀ (S₀ : Addr → Prop) (g₀ : Gh) (H₀ Fr : Hp) (g : Gh) (W : Wd) (σ : St) (H : Hp) (en : En) (D : Ends), RepS mo X.K S₀ g₀ H₀ Fr g W σ H en → wp (s en) W (QS mo X.K S₀ g₀ H₀ Fr D) (EE mo X.K S₀ g₀ H₀ E) → t D σ H
def DSs (X : Cx) (mo : Mo) (E : XK) (st : List Stmt) (s : En → M Out) : Prop :=
  ∃ t : TS, PSs X st t ∧ ∀ (S₀ : Addr → Prop) (g₀ : Gh) (H₀ Fr : Hp) (g : Gh) (W : Wd) (σ : St) (H : Hp) (en : En) (D : Ends), RepS mo X.K S₀ g₀ H₀ Fr g W σ H en → wp (s en) W (QS mo X.K S₀ g₀ H₀ Fr D) (EE mo X.K S₀ g₀ H₀ E) → t D σ H
section
variable {mo : Mo} {K : PySem.W.Frag} {S₀ : Addr → Prop} {g₀ g g' : Gh} {H₀ Fr H H' : Hp} {W W' : Wd} {σ : St} {en : En} {E : XK}
theorem get_hide {i : Nat} {s : Slot} (h : (hide en)[i]? = some (some s)) : en[i]? = some (some s) ∧ ∀ xs, s ≠ .own xs := by
  unfold hide at h
  rw [List.getElem?_map, Option.map_eq_some_iff] at h
  obtain ⟨o, e1, e2⟩ := h
  cases o with
  | none => cases e2
  | some u =>
    cases u with
    | own xs => cases e2
    | v a => cases e2; exact ⟨e1, fun xs z => by cases z⟩
theorem get_expo {i : Nat} {a : AV} (h : (expo en)[i]? = some (some (.v a))) : en[i]? = some (some (.v a)) ∨ ∃ xs, a = .d (.list xs) ∧ en[i]? = some (some (.own xs)) := by
  unfold expo at h
  rw [List.getElem?_map, Option.map_eq_some_iff] at h
  obtain ⟨o, e1, e2⟩ := h
  cases o with
  | none => cases e2
  | some u =>
    cases u with
    | own xs => cases e2; exact .inr ⟨xs, rfl, e1⟩
    | v a => cases e2; exact .inl e1
theorem RepS.ows (r : RepS mo K S₀ g₀ H₀ Fr g W σ H en) {a : Addr} (h : Ow σ en a) : (∃ vs, H a = some (.lst vs)) ∧ H₀ a = none ∧ ¬ g.R a := by
  obtain ⟨i, xs, e1, e2⟩ := h
  obtain ⟨p, vs, e3, h1, h2, h3, _⟩ := r.own i xs e1
  rw [e2] at e3
  cases e3
  exact ⟨⟨vs, h1⟩, h2, h3⟩
theorem RepS.nS (r : RepS mo K S₀ g₀ H₀ Fr g W σ H en) {a : Addr} (h : Ow σ en a) : ¬ S₀ a := fun z => (r.sd a z).ne (r.ows h).2.1
theorem RepS.sdH (r : RepS mo K S₀ g₀ H₀ Fr g W σ H en) {a : Addr} (h : S₀ a) : OL g H a := r.base.own a (r.sd a h)
theorem RepS.hideE (r : RepS mo K S₀ g₀ H₀ Fr g W σ H en) : RepE mo K (fun b => S₀ b ∨ Ow σ en b) g W σ H (hide en) where
  sl := fun i a e => r.val i a (get_hide e).1
  len := by unfold hide; rw [List.length_map]; exact r.len
  wok := r.wok.any
  sd := fun a z => z.elim (fun z => r.sdH z) fun z => by
    obtain ⟨⟨vs, e⟩, _, n⟩ := r.ows z
    exact ⟨⟨vs, e⟩, n⟩
theorem RepS.expoE (r : RepS mo K S₀ g₀ H₀ Fr g W σ H en) : RepE mo K S₀ g W σ H (expo en) where
  sl := fun i a e => by
    rcases get_expo e with e' | ⟨xs, rfl, e'⟩
    · obtain ⟨v, e1, q⟩ := r.val i a e'
      exact ⟨v, e1, q.less fun a z => .inl z⟩
    · obtain ⟨p, vs, e1, h1, h2, h3, h4⟩ := r.own i xs e'
      refine ⟨_, e1, .lst (cut_some.mpr ⟨h1, fun z => z.elim (fun z => (r.sd p z).ne h2) h3⟩) (h4.mono (cut_mono fun b o eb nb => ⟨eb, fun z => nb (z.imp_left .inl)⟩))⟩
  len := by unfold expo; rw [List.length_map]; exact r.len
  wok := r.wok
  sd := fun a z => r.sdH z
theorem RepS.step (r : RepS mo K S₀ g₀ H₀ Fr g W σ H en) {T : Addr → Prop} (h : Step g H g' H') (w : WOk mo K T g' W' H') : RepS mo K S₀ g₀ H₀ Fr g' W' σ H' en where
  len := r.len
  base := r.base.trans h
  frm := fun a o e => let ⟨e1, n1, n2⟩ := r.frm a o e; let ⟨e2, n3⟩ := h.keep a o n2 e1; ⟨e2, n1, n3⟩
  val := fun i a e => let ⟨v, e1, q⟩ := r.val i a e; ⟨v, e1, q.step h⟩
  own := fun i xs e => by
    obtain ⟨p, vs, e1, h1, h2, h3, h4⟩ := r.own i xs e
    obtain ⟨e2, n2⟩ := h.keep p _ h3 h1
    exact ⟨p, vs, e1, e2, h2, n2, h4.mono (cut_step h)⟩
  inj := r.inj
  wok := w.any
  sd := r.sd
theorem ES.of (r : RepS mo K S₀ g₀ H₀ Fr g W σ H en) {T : Addr → Prop} {er : Err} {W' : Wd} (q : EE mo K S₀ g₀ H₀ E er W') : EE mo K T g H E er W' := fun g' H' s w => q g' H' (r.base.trans s) w.any
theorem set_cases {α : Type} {l : List (Option α)} {i j : Nat} {x y : α} (h : (l.set i (some x))[j]? = some (some y)) : (i = j ∧ x = y ∧ i < l.length) ∨ (i ≠ j ∧ l[j]? = some (some y)) := by
  by_cases hj : i = j
  · subst hj
    by_cases hi : i < l.length
    · rw [List.getElem?_set_self hi] at h
      cases h
      exact .inl ⟨rfl, rfl, hi⟩
    · rw [List.getElem?_eq_none (by simpa using hi)] at h
      cases h
  · rw [List.getElem?_set_ne hj] at h
    exact .inr ⟨hj, h⟩
theorem ow_set {i : Nat} {v : V} {a : AV} {b : Addr} (h : Ow (σ.set i (some v)) (en.set i (some (.v a))) b) : Ow σ en b := by
  obtain ⟨j, xs, e1, e2⟩ := h
  rcases set_cases e1 with ⟨_, z, _⟩ | ⟨n, e1⟩
  · cases z
  · rw [List.getElem?_set_ne n] at e2
    exact ⟨j, xs, e1, e2⟩
/-- a slot is set to a value -/
theorem RepS.set (r : RepS mo K S₀ g₀ H₀ Fr g W σ H en) {i : Nat} {v : V} {a : AV} (q : RepA mo K (fun b => S₀ b ∨ Ow σ en b) g H v a) : RepS mo K S₀ g₀ H₀ Fr g W (σ.set i (some v)) H (en.set i (some (.v a))) where
  len := by rw [List.length_set, List.length_set]; exact r.len
  base := r.base
  frm := fun b o e => let ⟨e1, n1, n2⟩ := r.frm b o e; ⟨e1, fun z => n1 (ow_set z), n2⟩
  val := fun j c e => by
    rcases set_cases e with ⟨rfl, z, hi⟩ | ⟨n, e⟩
    · cases z
      exact ⟨v, List.getElem?_set_self (by rw [← r.len]; exact hi), q.less fun b z => z.imp_right ow_set⟩
    · obtain ⟨u, e1, q'⟩ := r.val j c e
      exact ⟨u, by rw [List.getElem?_set_ne n]; exact e1, q'.less fun b z => z.imp_right ow_set⟩
  own := fun j xs e => by
    rcases set_cases e with ⟨_, z, _⟩ | ⟨n, e⟩
    · cases z
    · obtain ⟨p, vs, e1, h1, h2, h3, h4⟩ := r.own j xs e
      exact ⟨p, vs, by rw [List.getElem?_set_ne n]; exact e1, h1, h2, h3, h4.mono (cut_mono fun b o eb nb => ⟨eb, fun z => nb (z.imp_left fun z => z.imp_right ow_set)⟩)⟩
  inj := fun j k xs ys p e1 e2 e3 e4 => by
    rcases set_cases e1 with ⟨_, z, _⟩ | ⟨n, e1⟩
    · cases z
    rcases set_cases e2 with ⟨_, z, _⟩ | ⟨m, e2⟩
    · cases z
    rw [List.getElem?_set_ne n] at e3
    rw [List.getElem?_set_ne m] at e4
    exact r.inj j k xs ys p e1 e2 e3 e4
  wok := r.wok
  sd := r.sd
theorem ow_setO {i : Nat} {p b : Addr} {xs : List PyData} (h : Ow (σ.set i (some (.ref p))) (en.set i (some (.own xs))) b) : Ow σ en b ∨ b = p := by
  obtain ⟨j, ys, e1, e2⟩ := h
  by_cases hj : i = j
  · subst hj
    rcases set_cases e2 with ⟨_, z, _⟩ | ⟨n, _⟩
    · cases z; exact .inr rfl
    · exact absurd rfl n
  · rw [List.getElem?_set_ne hj] at e1 e2
    exact .inl ⟨j, ys, e1, e2⟩
/-- a slot is set to a new list of its own -/
theorem RepS.setO (r : RepS mo K S₀ g₀ H₀ Fr g W σ H en) (h : Step g H g' H') {T : Addr → Prop} (w : WOk mo K T g' W' H') {i : Nat} {p : Addr} {vs : List V} {xs : List PyData} (hp : H p = none) (hp' : H' p = some (.lst vs)) (nR : ¬ g'.R p)
    (q : RpAll K (cut H' fun b => ((S₀ b ∨ Ow σ en b) ∨ g'.R b) ∨ b = p) vs xs) : RepS mo K S₀ g₀ H₀ Fr g' W' (σ.set i (some (.ref p))) H' (en.set i (some (.own xs))) := by
  have key : ∀ b o, H b = some o → ¬ ((S₀ b ∨ Ow σ en b) ∨ g.R b) → H' b = some o ∧ ¬ ((S₀ b ∨ Ow (σ.set i (some (.ref p))) (en.set i (some (.own xs))) b) ∨ g'.R b) := fun b o eb nb => by
    obtain ⟨e2, n2⟩ := h.keep b o (fun z => nb (.inr z)) eb
    refine ⟨e2, fun z => z.elim (fun z => z.elim (fun z => nb (.inl (.inl z))) fun z => ?_) n2⟩
    rcases ow_setO z with z | rfl
    · exact nb (.inl (.inr z))
    · rw [hp] at eb; cases eb
  refine ⟨by rw [List.length_set, List.length_set]; exact r.len, r.base.trans h, fun b o e => ?_, fun j c e => ?_, fun j ys e => ?_, fun j k ys zs c e1 e2 e3 e4 => ?_, w.any, r.sd⟩
  · obtain ⟨e1, n1, n2⟩ := r.frm b o e
    obtain ⟨e2, n3⟩ := h.keep b o n2 e1
    refine ⟨e2, fun z => ?_, n3⟩
    rcases ow_setO z with z | rfl
    · exact n1 z
    · rw [hp] at e1; cases e1
  · rcases set_cases e with ⟨_, z, _⟩ | ⟨n, e⟩
    · cases z
    · obtain ⟨u, e1, q'⟩ := r.val j c e
      refine ⟨u, by rw [List.getElem?_set_ne n]; exact e1, ?_⟩
      cases c with
      | d x => exact Rp.mono (cut_mono key) q'
      | scr ns => exact let ⟨a, f1, f2⟩ := q'; ⟨a, f1, Same.seq (cut_mono key) f2⟩
      | tl xs => exact let ⟨a, dx, n, qq, f1, f2, f3⟩ := q'; ⟨a, dx, n, qq, f1, cut_mono key _ _ f2, Rp.mono (cut_mono key) f3⟩
      | ob k => exact let ⟨a, f1, f2⟩ := q'; ⟨a, h.adr k a f1, f2⟩
      | exc er =>
        obtain ⟨a, f1, f2, f3, f4⟩ := q'
        obtain ⟨k1, k2⟩ := key a _ f2 (fun z => z.elim f3 f4)
        exact ⟨a, f1, k1, fun z => k2 (.inl z), fun z => k2 (.inr z)⟩
  · rcases set_cases e with ⟨rfl, z, hi⟩ | ⟨n, e⟩
    · cases z
      refine ⟨p, vs, List.getElem?_set_self (by rw [← r.len]; exact hi), hp', r.base.back hp, nR, q.mono (cut_mono fun b o eb nb => ⟨eb, fun z => z.elim (fun z => z.elim (fun z => nb (.inl (.inl (.inl z)))) fun z => ?_) fun z => nb (.inl (.inr z))⟩)⟩
      rcases ow_setO z with z | z
      · exact nb (.inl (.inl (.inr z)))
      · exact nb (.inr z)
    · obtain ⟨p', us, e1, h1, h2, h3, h4⟩ := r.own j ys e
      obtain ⟨e2, n2⟩ := h.keep p' _ h3 h1
      exact ⟨p', us, by rw [List.getElem?_set_ne n]; exact e1, e2, h2, n2, h4.mono (cut_mono key)⟩
  · have notp : ∀ {m : Nat} {ys : List PyData}, i ≠ m → en[m]? = some (some (.own ys)) → σ[m]? = some (some (.ref p)) → False := fun {m ys} n f1 f2 => by
      obtain ⟨p', us, e1, h1, _⟩ := r.own m ys f1
      rw [f2] at e1
      cases e1
      rw [hp] at h1; cases h1
    rcases set_cases e1 with ⟨rfl, _, _⟩ | ⟨n, e1⟩
    · rcases set_cases e2 with ⟨rfl, _, _⟩ | ⟨m, e2⟩
      · rfl
      · rcases set_cases e3 with ⟨_, z, _⟩ | ⟨n, _⟩
        · cases z
          rw [List.getElem?_set_ne m] at e4
          exact (notp m e2 e4).elim
        · exact absurd rfl n
    · rcases set_cases e2 with ⟨rfl, _, _⟩ | ⟨m, e2⟩
      · rcases set_cases e4 with ⟨_, z, _⟩ | ⟨m, _⟩
        · cases z
          rw [List.getElem?_set_ne n] at e3
          exact (notp n e1 e3).elim
        · exact absurd rfl m
      · rw [List.getElem?_set_ne n] at e3
        rw [List.getElem?_set_ne m] at e4
        exact r.inj j k ys zs c e1 e2 e3 e4
/-- the list of an own slot is changed -/
theorem RepS.putO (r : RepS mo K S₀ g₀ H₀ Fr g W σ H en) {i : Nat} {p : Addr} {us vs : List V} {ys xs : List PyData} (ei : en[i]? = some (some (.own ys))) (es : σ[i]? = some (some (.ref p))) (hp : H p = some (.lst us))
    (q : RpAll K (cut H fun b => (S₀ b ∨ Ow σ en b) ∨ g.R b) vs xs) : RepS mo K S₀ g₀ H₀ Fr g W σ (upd H p (.lst vs)) (en.set i (some (.own xs))) := by
  have op : Ow σ en p := ⟨i, ys, ei, es⟩
  have hi : i < en.length := (List.getElem?_eq_some_iff.mp ei).1
  have oeq : ∀ b, Ow σ (en.set i (some (.own xs))) b ↔ Ow σ en b := fun b => by
    constructor
    · rintro ⟨j, zs, e1, e2⟩
      rcases set_cases e1 with ⟨rfl, _, _⟩ | ⟨n, e1⟩
      · exact ⟨i, ys, ei, e2⟩
      · exact ⟨j, zs, e1, e2⟩
    · rintro ⟨j, zs, e1, e2⟩
      by_cases hj : i = j
      · subst hj
        exact ⟨i, xs, List.getElem?_set_self hi, e2⟩
      · exact ⟨j, zs, by rw [List.getElem?_set_ne hj]; exact e1, e2⟩
  have nR := (r.ows op).2.2
  have h0 := (r.ows op).2.1
  have key : ∀ b o, H b = some o → ¬ ((S₀ b ∨ Ow σ en b) ∨ g.R b) → upd H p (.lst vs) b = some o ∧ ¬ ((S₀ b ∨ Ow σ (en.set i (some (.own xs))) b) ∨ g.R b) := fun b o eb nb =>
    ⟨by rw [upd_ne (show b ≠ p from fun z => by subst z; exact nb (.inl (.inr op)))]; exact eb, fun z => nb (z.imp_left fun z => z.imp_right (oeq b).mp)⟩
  refine ⟨by rw [List.length_set]; exact r.len, ⟨fun b o nb eb => ?_, fun b hb => ?_, r.base.adr⟩, fun b o e => ?_, fun j c e => ?_, fun j zs e => ?_, fun j k zs ws c e1 e2 e3 e4 => ?_, r.wok.put nR hp, r.sd⟩
  · obtain ⟨e1, n1⟩ := r.base.keep b o nb eb
    exact ⟨by rw [upd_ne (show b ≠ p from fun z => by subst z; rw [h0] at eb; cases eb)]; exact e1, n1⟩
  · by_cases z : b = p
    · subst z; rw [upd_same]; exact fun z => by cases z
    · rw [upd_ne z]; exact r.base.dom b hb
  · obtain ⟨e1, n1, n2⟩ := r.frm b o e
    exact ⟨by rw [upd_ne (show b ≠ p from fun z => by subst z; exact n1 op)]; exact e1, fun z => n1 ((oeq b).mp z), n2⟩
  · rcases set_cases e with ⟨_, z, _⟩ | ⟨n, e⟩
    · cases z
    · obtain ⟨u, e1, q'⟩ := r.val j c e
      refine ⟨u, e1, ?_⟩
      cases c with
      | d x => exact Rp.mono (cut_mono key) q'
      | scr ns => exact let ⟨a, f1, f2⟩ := q'; ⟨a, f1, Same.seq (cut_mono key) f2⟩
      | tl xs => exact let ⟨a, dx, n, qq, f1, f2, f3⟩ := q'; ⟨a, dx, n, qq, f1, cut_mono key _ _ f2, Rp.mono (cut_mono key) f3⟩
      | ob k => exact q'
      | exc er =>
        obtain ⟨a, f1, f2, f3, f4⟩ := q'
        obtain ⟨k1, k2⟩ := key a _ f2 (fun z => z.elim f3 f4)
        exact ⟨a, f1, k1, fun z => k2 (.inl z), fun z => k2 (.inr z)⟩
  · rcases set_cases e with ⟨rfl, z, _⟩ | ⟨n, e⟩
    · cases z
      exact ⟨p, vs, es, upd_same, h0, nR, q.mono (cut_mono key)⟩
    · obtain ⟨p', us', e1, h1, h2, h3, h4⟩ := r.own j zs e
      refine ⟨p', us', e1, ?_, h2, h3, h4.mono (cut_mono key)⟩
      rw [upd_ne (show p' ≠ p from fun z => by subst z; exact n (r.inj i j ys zs p' ei e es e1))]
      exact h1
  · have back : ∀ {m : Nat} {us : List PyData}, (en.set i (some (.own xs)))[m]? = some (some (.own us)) → ∃ us', en[m]? = some (some (.own us')) := fun {m us} f => by
      rcases set_cases f with ⟨rfl, _, _⟩ | ⟨n, f⟩
      · exact ⟨ys, ei⟩
      · exact ⟨us, f⟩
    obtain ⟨z1, f1⟩ := back e1
    obtain ⟨z2, f2⟩ := back e2
    exact r.inj j k z1 z2 c f1 f2 e3 e4
/-- a list is no more changed -/
def frz (i : Nat) (en : En) : En := match en[i]? with
  | some (some (.own xs)) => en.set i (some (.v (.d (.list xs))))
  | _ => en
theorem RepS.frz (r : RepS mo K S₀ g₀ H₀ Fr g W σ H en) (i : Nat) : RepS mo K S₀ g₀ H₀ Fr g W σ H (frz i en) := by
  unfold Dt.frz
  split
  · rename_i xs ei
    obtain ⟨p, vs, es, h1, h2, h3, h4⟩ := r.own i xs ei
    have hi : i < en.length := (List.getElem?_eq_some_iff.mp ei).1
    have oeq : ∀ b, Ow σ (en.set i (some (.v (.d (.list xs))))) b → Ow σ en b ∧ b ≠ p := fun b z => by
      obtain ⟨j, zs, e1, e2⟩ := z
      rcases set_cases e1 with ⟨_, z, _⟩ | ⟨n, e1⟩
      · cases z
      · refine ⟨⟨j, zs, e1, e2⟩, fun z => ?_⟩
        subst z
        exact n (r.inj i j xs zs b ei e1 es e2)
    refine ⟨by rw [List.length_set]; exact r.len, r.base, fun b o e => ?_, fun j c e => ?_, fun j zs e => ?_, fun j k zs ws c e1 e2 e3 e4 => ?_, r.wok, r.sd⟩
    · obtain ⟨e1, n1, n2⟩ := r.frm b o e
      exact ⟨e1, fun z => n1 (oeq b z).1, n2⟩
    · rcases set_cases e with ⟨rfl, z, _⟩ | ⟨n, e⟩
      · cases z
        exact ⟨_, es, .lst (cut_some.mpr ⟨h1, fun z => z.elim (fun z => z.elim (fun z => (r.sd p z).ne h2) fun z => (oeq p z).2 rfl) h3⟩) (h4.mono (cut_mono fun b o eb nb => ⟨eb, fun z => nb (z.imp_left fun z => z.imp_right fun z => (oeq b z).1)⟩))⟩
      · obtain ⟨u, e1, q'⟩ := r.val j c e
        exact ⟨u, e1, q'.less fun b z => z.imp_right fun z => (oeq b z).1⟩
    · rcases set_cases e with ⟨_, z, _⟩ | ⟨n, e⟩
      · cases z
      · obtain ⟨p', us, e1, k1, k2, k3, k4⟩ := r.own j zs e
        exact ⟨p', us, e1, k1, k2, k3, k4.mono (cut_mono fun b o eb nb => ⟨eb, fun z => nb (z.imp_left fun z => z.imp_right fun z => (oeq b z).1)⟩)⟩
    · rcases set_cases e1 with ⟨_, z, _⟩ | ⟨n, e1⟩
      · cases z
      rcases set_cases e2 with ⟨_, z, _⟩ | ⟨m, e2⟩
      · cases z
      exact r.inj j k zs ws c e1 e2 e3 e4
  · exact r
theorem RepS.setE : ∀ {sl : List Nat} {vs : List V} {ds : List PyData} {σ : St} {en : En}, RepS mo K S₀ g₀ H₀ Fr g W σ H en → RpAll K (cut H fun b => (S₀ b ∨ Ow σ en b) ∨ g.R b) vs ds → RepS mo K S₀ g₀ H₀ Fr g W (setS σ sl vs) H (setE en sl ds)
  | [], _, _, _, _, r, _ => r
  | _ :: _, [], _, _, _, r, q => by cases q; exact r
  | i :: is, v :: vs, _, σ, en, r, q => by
    cases q with
    | cons q1 q2 =>
      unfold setS Dt.setE
      exact RepS.setE (sl := is) (r.set (i := i) (a := .d _) q1) (q2.mono (cut_mono fun b o eb nb => ⟨eb, fun z => nb (z.imp_left fun z => z.imp_right ow_set)⟩))
/-- scalars are the same in every heap -/
def scalP : PyData → Bool
  | .none | .bool _ | .int _ | .str _ => true
  | _ => false
theorem Rp.scal {H H' : Hp} {v : V} {p : PyData} (h : Rp K H v p) (hs : scalP p = true) : Rp K H' v p := by
  cases h with
  | non => exact .non
  | bl b => exact .bl b
  | int b => exact .int b
  | str b => exact .str b
  | lst _ _ => simp [scalP] at hs
  | tup _ _ => simp [scalP] at hs
/-- .. tuples of scalars are no own lists -/
def safeP : PyData → Bool
  | .tuple xs => xs.all scalP
  | p => scalP p
theorem RpAll.scal {H H' : Hp} : ∀ {vs : List V} {ps : List PyData}, RpAll K H vs ps → ps.all scalP = true → RpAll K H' vs ps
  | _, _, .nil, _ => .nil
  | _, _, .cons h t, e => by
    rw [List.all_cons, Bool.and_eq_true] at e
    exact .cons (h.scal e.1) (RpAll.scal t e.2)
theorem RepS.safe (r : RepS mo K S₀ g₀ H₀ Fr g W σ H en) {v : V} {p : PyData} (h : Rp K (cut H fun b => S₀ b ∨ g.R b) v p) (hs : safeP p = true) : Rp K (cut H fun b => (S₀ b ∨ Ow σ en b) ∨ g.R b) v p := by
  cases h with
  | non => exact .non
  | bl b => exact .bl b
  | int b => exact .int b
  | str b => exact .str b
  | lst _ _ => simp [safeP, scalP] at hs
  | tup h1 h2 =>
    refine .tup ?_ (h2.scal (by simpa [safeP] using hs))
    have key : ∀ {a : Addr} {o : HO}, H a = some o → (∀ vs, o ≠ .lst vs) → ¬ (S₀ a ∨ g.R a) → ¬ ((S₀ a ∨ Ow σ en a) ∨ g.R a) := fun {a o} e k n z => z.elim (fun z => z.elim (fun z => n (.inl z)) fun z => by
      obtain ⟨⟨vs, e'⟩, _⟩ := r.ows z
      rw [e] at e'
      exact k vs (Option.some.inj e')) fun z => n (.inr z)
    rcases h1 with (h1 | ⟨o, h1⟩) | h1
    · obtain ⟨e, n⟩ := cut_some.mp h1
      exact .inl (.inl (cut_some.mpr ⟨e, key e (by intro vs q; cases q) n⟩))
    · obtain ⟨e, n⟩ := cut_some.mp h1
      exact .inl (.inr ⟨o, cut_some.mpr ⟨e, key e (by intro vs q; cases q) n⟩⟩)
    · exact .inr h1
end

section
variable {X : Cx} {mo : Mo} {E : XK} {pos p : Pos} {a b c e tg : Expr} {es : List Expr} {fa fb fc : En → M RV} {fs : En → M (List AV)} {ga : En → M Bool} {st : Stmt} {sts : List Stmt} {s1 s2 : En → M Out}

/-! ### blocks -/
def sNil : En → M Out := fun en => .ret (.nx en)
def sSeq (s1 s2 : En → M Out) : En → M Out := fun en => (s1 en).bind fun o => match o with
  | .nx en' => s2 en'
  | o => .ret o
theorem dss_nil : DSs X mo E [] sNil := ⟨tNext, pss_nil, fun S₀ g₀ H₀ Fr g W σ H en D r h => h g σ H r⟩
theorem dss_one (h : DS X mo E st s1) : DSs X mo E [st] s1 := let ⟨t, p, w⟩ := h; ⟨t, pss_one p, w⟩
theorem dss_cons (h1 : DS X mo E st s1) (h2 : DSs X mo E sts s2) : DSs X mo E (st :: sts) (sSeq s1 s2) := by
  obtain ⟨t1, p1, w1⟩ := h1
  obtain ⟨t2, p2, w2⟩ := h2
  refine ⟨tSeq t1 t2, pss_cons p1 p2, fun S₀ g₀ H₀ Fr g W σ H en D r h => ?_⟩
  unfold sSeq at h
  rw [wp_bind] at h
  refine w1 S₀ g₀ H₀ Fr g W σ H en { D with nx := t2 D } r (wp_mono h (fun o W1 q => ?_) fun _ _ q => q)
  cases o with
  | nx en' => exact fun g' σ' H' r' => w2 S₀ g₀ H₀ Fr g' W1 σ' H' en' D r' q
  | rt r => exact q
  | bk en' => exact q
  | ct en' => exact q

/-! ### small statements -/
def sPass : En → M Out := fun en => .ret (.nx en)
def sBreak : En → M Out := fun en => .ret (.bk en)
theorem ds_pass : DS X mo E (.Pass pos) sPass := ⟨tNext, ps_pass, fun S₀ g₀ H₀ Fr g W σ H en D r h => h g σ H r⟩
theorem ds_break : DS X mo E (.Break pos) sBreak := ⟨tBreak, ps_break, fun S₀ g₀ H₀ Fr g W σ H en D r h => h g σ H r⟩
def sExpr (fa : En → M RV) : En → M Out := fun en => (fa (expo en)).bind fun _ => .ret (.nx en)
theorem ds_expr (ha : DE X mo E a fa) (hs : swapsWith a none pos.line X.env = pure false := by rfl) : DS X mo E (.Expr a pos) (sExpr fa) := by
  obtain ⟨ta, pa, wa⟩ := ha
  refine ⟨tDrop ta, ps_expr pa hs, fun S₀ g₀ H₀ Fr g W σ H en D r h => ?_⟩
  unfold sExpr at h
  rw [wp_bind] at h
  exact wa S₀ g W σ H (expo en) _ r.expoE (wp_mono h (fun r1 W1 q g1 v1 H1 s1 w1 rr1 => q g1 σ H1 (r.step s1 w1)) fun _ _ q => ES.of r q)
def sRet (fa : En → M RV) : En → M Out := fun en => (fa (expo en)).bind fun r => .ret (.rt r)
theorem ds_ret (ha : DE X mo E a fa) : DS X mo E (.Return (some a) pos) (sRet fa) := by
  obtain ⟨ta, pa, wa⟩ := ha
  refine ⟨tRet ta, ps_ret pa, fun S₀ g₀ H₀ Fr g W σ H en D r h => ?_⟩
  unfold sRet at h
  rw [wp_bind] at h
  refine wa S₀ g W σ H (expo en) _ r.expoE (wp_mono h (fun r1 W1 q g1 v1 H1 s1 w1 rr1 => ?_) fun _ _ q => ES.of r q)
  exact q g1 v1 H1 (r.base.trans s1) w1 ⟨rr1.1, fun z => let ⟨p, vs, xs, a1, a2, a3, a4⟩ := rr1.2 z; ⟨p, vs, xs, a1, a2, r.base.back a3, a4⟩⟩
/-- return of a name: a list of its own is new for the caller -/
def sRetV (i : Nat) : En → M Out := fun en => match en[i]? with
  | some (some (.own xs)) => .ret (.rt (.d (.list xs), true))
  | some (some (.v a)) => .ret (.rt (a, false))
  | _ => .stuck
theorem ds_retV (i : Nat) {x : Str} {q : Pos} (hN : X.N[i]? = some x := by rfl) (hv : Vis X.env.scope x := by first | exact Or.inl rfl | exact Or.inr (Or.inl rfl) | exact Or.inr (Or.inr rfl)) (hd : (x == ("__debug__" : Str)) = false := by decide)
    (hcd : (x == ("__classdict__" : Str)) = false := by decide) : DS X mo E (.Return (some (.Name x q)) pos) (sRetV i) := by
  refine ⟨tRet (tVar i), ps_ret (pe_var hN hv hd hcd), fun S₀ g₀ H₀ Fr g W σ H en D r h => ?_⟩
  unfold sRetV at h
  split at h
  · rename_i xs ei
    obtain ⟨p, vs, es, h1, h2, h3, h4⟩ := r.own i xs ei
    have op : Ow σ en p := ⟨i, xs, ei, es⟩
    refine ⟨_, es, h g (.ref p) H r.base r.wok ⟨.lst (cut_some.mpr ⟨h1, fun z => z.elim (r.nS op) h3⟩) (h4.mono (cut_mono fun b o eb nb => ⟨eb, fun z => nb (z.imp_left .inl)⟩)), fun _ => ⟨p, vs, xs, rfl, rfl, h2, h1, r.nS op, h3, h4.mono (cut_mono fun b o eb nb => ⟨eb, fun z => nb (z.elim (fun z => z.imp_left .inl) fun z => .inl (.inr (z ▸ op)))⟩), r.wok.any⟩⟩⟩
  · rename_i a ei
    obtain ⟨v, es, q⟩ := r.val i a ei
    exact ⟨v, es, h g v H r.base r.wok ⟨q.less fun b z => .inl z, fun z => by cases z⟩⟩
  · exact h.elim
def sIf (ga : En → M Bool) (s1 s2 : En → M Out) : En → M Out := fun en => (ga (expo en)).bind fun b => if b = true then s1 en else s2 en
theorem ds_if {ss1 ss2 : List Stmt} (hc : DT X mo E c ga) (h1 : DSs X mo E ss1 s1) (h2 : DSs X mo E ss2 s2) : DS X mo E (.If c ss1 ss2 pos) (sIf ga s1 s2) := by
  obtain ⟨tc, pc, wc⟩ := hc
  obtain ⟨t1, p1, w1⟩ := h1
  obtain ⟨t2, p2, w2⟩ := h2
  refine ⟨tIfS tc t1 t2, ps_if pc p1 p2, fun S₀ g₀ H₀ Fr g W σ H en D r h => ?_⟩
  unfold sIf at h
  rw [wp_bind] at h
  refine wc S₀ g W σ H (expo en) _ r.expoE (wp_mono h (fun b W1 q g1 H1 s w => ?_) fun _ _ q => ES.of r q)
  cases b with
  | true =>
    rw [if_pos rfl] at q
    exact iteT (w1 S₀ g₀ H₀ Fr g1 W1 σ H1 en D (r.step s w) q)
  | false =>
    rw [if_neg Bool.false_ne_true] at q
    exact iteF (w2 S₀ g₀ H₀ Fr g1 W1 σ H1 en D (r.step s w) q)

/-! ### assignments -/
/-- x = e -/
def sSet (i : Nat) (fa : En → M RV) : En → M Out := fun en => (fa (hide en)).bind fun r => .ret (.nx (en.set i (some (.v r.1))))
/-- x = e, e a new list that x changes later -/
def sSetO (i : Nat) (fa : En → M RV) : En → M Out := fun en => (fa (hide en)).bind fun r => match r with
  | (.d (.list xs), true) => .ret (.nx (en.set i (some (.own xs))))
  | _ => .stuck
/-- x = e, e a scalar that may be read off the own lists -/
def sSetX (i : Nat) (fa : En → M RV) : En → M Out := fun en => (fa (expo en)).bind fun r => match r.1 with
  | .d p => if safeP p = true then .ret (.nx (en.set i (some (.v (.d p))))) else .stuck
  | _ => .stuck
def AsgI (X : Cx) (st : Stmt) (i : Nat) (te : TE) : Prop := PS X st (tAsg te (gName i))
theorem set_run {te : TE} {i : Nat} (wa : ∀ (S : Addr → Prop) (g : Gh) (W : Wd) (σ : St) (H : Hp) (en : En) (Q : VK), RepE mo X.K S g W σ H en → wp (fa en) W (QE mo X.K S g H Q) (EE mo X.K S g H E) → te σ H Q)
    (S₀ : Addr → Prop) (g₀ : Gh) (H₀ Fr : Hp) (g : Gh) (W : Wd) (σ : St) (H : Hp) (en : En) (D : Ends) (r : RepS mo X.K S₀ g₀ H₀ Fr g W σ H en) (h : wp (sSet i fa en) W (QS mo X.K S₀ g₀ H₀ Fr D) (EE mo X.K S₀ g₀ H₀ E)) : tAsg te (gName i) D σ H := by
  unfold sSet at h
  rw [wp_bind] at h
  exact wa _ g W σ H (hide en) _ r.hideE (wp_mono h (fun r1 W1 q g1 v1 H1 s1 w1 rr1 => q g1 _ H1 ((r.step s1 w1).set rr1.1)) fun _ _ q => ES.of r q)
theorem setO_run {te : TE} {i : Nat} (wa : ∀ (S : Addr → Prop) (g : Gh) (W : Wd) (σ : St) (H : Hp) (en : En) (Q : VK), RepE mo X.K S g W σ H en → wp (fa en) W (QE mo X.K S g H Q) (EE mo X.K S g H E) → te σ H Q)
    (S₀ : Addr → Prop) (g₀ : Gh) (H₀ Fr : Hp) (g : Gh) (W : Wd) (σ : St) (H : Hp) (en : En) (D : Ends) (r : RepS mo X.K S₀ g₀ H₀ Fr g W σ H en) (h : wp (sSetO i fa en) W (QS mo X.K S₀ g₀ H₀ Fr D) (EE mo X.K S₀ g₀ H₀ E)) : tAsg te (gName i) D σ H := by
  unfold sSetO at h
  rw [wp_bind] at h
  refine wa _ g W σ H (hide en) _ r.hideE (wp_mono h (fun r1 W1 q g1 v1 H1 s1 w1 rr1 => ?_) fun _ _ q => ES.of r q)
  try dsimp only at q
  split at q
  · rename_i xs
    obtain ⟨p, vs, xs', rfl, a2, a3, a4, a5, a6, a7, a8⟩ := rr1.2 rfl
    cases a2
    exact q g1 _ H1 (r.setO s1 w1 a3 a4 a6 a7)
  · exact q.elim
theorem setX_run {te : TE} {i : Nat} (wa : ∀ (S : Addr → Prop) (g : Gh) (W : Wd) (σ : St) (H : Hp) (en : En) (Q : VK), RepE mo X.K S g W σ H en → wp (fa en) W (QE mo X.K S g H Q) (EE mo X.K S g H E) → te σ H Q)
    (S₀ : Addr → Prop) (g₀ : Gh) (H₀ Fr : Hp) (g : Gh) (W : Wd) (σ : St) (H : Hp) (en : En) (D : Ends) (r : RepS mo X.K S₀ g₀ H₀ Fr g W σ H en) (h : wp (sSetX i fa en) W (QS mo X.K S₀ g₀ H₀ Fr D) (EE mo X.K S₀ g₀ H₀ E)) : tAsg te (gName i) D σ H := by
  unfold sSetX at h
  rw [wp_bind] at h
  refine wa _ g W σ H (expo en) _ r.expoE (wp_mono h (fun r1 W1 q g1 v1 H1 s1 w1 rr1 => ?_) fun _ _ q => ES.of r q)
  try dsimp only at q
  split at q
  · rename_i p ep
    split at q
    · rename_i hs
      replace rr1 := RepR.at rr1 ep
      exact q g1 _ H1 ((r.step s1 w1).set (a := .d p) ((r.step s1 w1).safe rr1.1 hs))
    · exact q.elim
  · exact q.elim
section
variable {i : Nat} {x : Str} {p' : Pos}
theorem ds_set (hN : X.N.Nodup) (ha : DE X mo E a fa) (hi : X.N[i]? = some x := by rfl) (hx : Loc X.env.scope x := by first | exact Or.inl rfl | exact Or.inr rfl) (hs : swapsWith a (some (.Name x p')) pos.line X.env = pure false := by rfl) (hf : X.fn x = true ∨ X.env.scope.names.lookup x = some .local := by first | exact .inl rfl | exact .inr rfl) :
    DS X mo E (.Assign [.Name x p'] a pos) (sSet i fa) := by
  obtain ⟨ta, pa, wa⟩ := ha
  exact ⟨_, ps_set hN hi hx pa hs hf, set_run wa⟩
theorem ds_setO (hN : X.N.Nodup) (ha : DE X mo E a fa) (hi : X.N[i]? = some x := by rfl) (hx : Loc X.env.scope x := by first | exact Or.inl rfl | exact Or.inr rfl) (hs : swapsWith a (some (.Name x p')) pos.line X.env = pure false := by rfl) (hf : X.fn x = true ∨ X.env.scope.names.lookup x = some .local := by first | exact .inl rfl | exact .inr rfl) :
    DS X mo E (.Assign [.Name x p'] a pos) (sSetO i fa) := by
  obtain ⟨ta, pa, wa⟩ := ha
  exact ⟨_, ps_set hN hi hx pa hs hf, setO_run wa⟩
theorem ds_setX (hN : X.N.Nodup) (ha : DE X mo E a fa) (hi : X.N[i]? = some x := by rfl) (hx : Loc X.env.scope x := by first | exact Or.inl rfl | exact Or.inr rfl) (hs : swapsWith a (some (.Name x p')) pos.line X.env = pure false := by rfl) (hf : X.fn x = true ∨ X.env.scope.names.lookup x = some .local := by first | exact .inl rfl | exact .inr rfl) :
    DS X mo E (.Assign [.Name x p'] a pos) (sSetX i fa) := by
  obtain ⟨ta, pa, wa⟩ := ha
  exact ⟨_, ps_set hN hi hx pa hs hf, setX_run wa⟩
/-- x = [.. for ..], x a plain local -/
theorem ds_setLc {iter : Expr} {ifs : List Expr} {scope : Scope} {own : List (Str × Nat)} {sl : List Nat} {bd : PyData → Option (List PyData)} {it : En → M (List PyData)} {tt : En → M Bool} {el : En → M RV} {cpos : Pos} (hc : X.calm = true) (hN : X.N.Nodup) (hi : DI X mo E tg iter it) (ok : BlkOk X.N X.env.scope scope own)
    (hg : ∀ (s : Shared) (H : Hp) (C : Addr) (cl : List (Str × Addr)) (fp : List Addr), DG (X.blk s H scope (compEnvC scope cl C X.env) fp) tg sl bd) (ht : ∀ (s : Shared) (H : Hp) (C : Addr) (cl : List (Str × Addr)) (fp : List Addr), DTs (X.blk s H scope (compEnvC scope cl C X.env) fp) mo E0 ifs tt)
    (he : ∀ (s : Shared) (H : Hp) (C : Addr) (cl : List (Str × Addr)) (fp : List Addr), DE (X.blk s H scope (compEnvC scope cl C X.env) fp) mo E0 e el) (hy : X.N[i]? = some x := by rfl) (hyl : X.env.scope.names.lookup x = some .local := by rfl)
    (hsw : swapsWith (.ListComp e [⟨tg, iter, ifs, 0⟩] scope cpos) (some (.Name x p')) pos.line X.env = pure true := by exact sw_true rfl rfl rfl (by decide +kernel)) (hsub : ∀ i ∈ sl, i ∈ own.map (·.2) := by decide) (hs : ∀ x, foldedSetIterable iter X.env x = pure x := by intro _; rfl) :
    DS X mo E (.Assign [.Name x p'] (.ListComp e [⟨tg, iter, ifs, 0⟩] scope cpos) pos) (sSet i (dComp (own.map (·.2)) sl bd it tt el)) := by
  obtain ⟨wi, pi, wi'⟩ := hi
  exact ⟨_, ps_setLc hc hN hy hyl hsw pi ok (fun s H C cl fp => (hg s H C cl fp).can) (fun s H C cl fp => (show PTs _ ifs (tDT mo X.K E0 tt) from ht s H C cl fp)) (fun s H C cl fp => (he s H C cl fp).can) hs, set_run (comp_run hsub wi')⟩
end
/-- a, b = e -/
def sAsgT (sl : List Nat) (bd : PyData → Option (List PyData)) (fa : En → M RV) : En → M Out := fun en => (fa (hide en)).bind fun r => match r.1 with
  | .d p => match bd p with
    | some ds => .ret (.nx (setE en sl ds))
    | none => .stuck
  | _ => .stuck
theorem ds_asgT {sl : List Nat} {bd : PyData → Option (List PyData)} (ha : DE X mo E a fa) (hg : DG X tg sl bd) (hs : swapsWithSole [tg] a pos.line X.env = pure false := by rfl) (hw : swappedStores [tg] a X.env = pure none := by rfl)
    (h1 : (assignEach [tg] X.env).map (·.2) = [assign tg X.env] := by rfl) : DS X mo E (.Assign [tg] a pos) (sAsgT sl bd fa) := by
  obtain ⟨ta, pa, wa⟩ := ha
  obtain ⟨gt, pg, wg⟩ := hg
  refine ⟨tAsg ta gt, ps_asg pa pg hs hw h1, fun S₀ g₀ H₀ Fr g W σ H en D r h => ?_⟩
  unfold sAsgT at h
  rw [wp_bind] at h
  refine wa _ g W σ H (hide en) _ r.hideE (wp_mono h (fun r1 W1 q g1 v1 H1 s1 w1 rr1 => ?_) fun _ _ q => ES.of r q)
  try dsimp only at q
  split at q
  · rename_i p ep
    split at q
    · rename_i ds hb
      replace rr1 := RepR.at rr1 ep
      exact wg _ v1 p ds σ H1 D.nx rr1.1 cut_sub hb fun vs rv => q g1 _ H1 ((r.step s1 w1).setE rv)
    · exact q.elim
  · exact q.elim
/-- a, b = x, y -/
def sPar (i j : Nat) (fs : En → M (List AV)) : En → M Out := fun en => (fs (hide en)).bind fun as => match as with
  | [x, y] => .ret (.nx ((en.set i (some (.v x))).set j (some (.v y))))
  | _ => .stuck
theorem ds_par {i j : Nat} {x y : Str} {px py pt : Pos} {kt k2 : Nat} {pt2 : Pos} (hc : X.calm = true) (hN : X.N.Nodup) (hs : DA X mo E [a, b] fs)
    (hi : X.N[i]? = some x := by rfl) (hj : X.N[j]? = some y := by rfl) (hij : i ≠ j := by decide) (hx : X.env.scope.names.lookup x = some .local := by rfl) (hy : X.env.scope.names.lookup y = some .local := by rfl)
    (hw : swappedStores [.Tuple [.Name x px, .Name y py] kt pt] (.Tuple [a, b] k2 pt2) X.env = pure (some [x, y]) := by rfl)
    (hsw : swapsWithSole [.Tuple [.Name x px, .Name y py] kt pt] (.Tuple [a, b] k2 pt2) pos.line X.env = pure false := by rfl) :
    DS X mo E (.Assign [.Tuple [.Name x px, .Name y py] kt pt] (.Tuple [a, b] k2 pt2) pos) (sPar i j fs) := by
  obtain ⟨ts, pss, ws⟩ := hs
  refine ⟨_, ps_par hc hN hi hj hij hx hy pss hw hsw, fun S₀ g₀ H₀ Fr g W σ H en D r h => ?_⟩
  unfold sPar at h
  rw [wp_bind] at h
  refine ws _ g W σ H (hide en) _ r.hideE (wp_mono h (fun as W1 q g1 vs H1 s1 w1 rr1 hl => ?_) fun _ _ q => ES.of r q)
  try dsimp only at q
  split at q
  · obtain ⟨v, u, rfl, r1, r2⟩ := reps2 rr1
    exact ⟨v, u, rfl, q g1 _ H1 (((r.step s1 w1).set r1).set (r2.less fun b z => z.imp_right ow_set))⟩
  · exact q.elim
/-- x op= e, ints -/
def sAug (i : Nat) (f : Int → Int → Int) (fa : En → M RV) : En → M Out := fun en => match en[i]? with
  | some (some (.v (.d (.int m)))) => (fa (expo en)).bind fun r => match r.1 with
    | .d (.int n) => .ret (.nx (en.set i (some (.v (.d (.int (f m n)))))))
    | _ => .stuck
  | _ => .stuck
theorem ds_aug {i : Nat} {x : Str} {p' : Pos} {op : Operator} {f : Int → Int → Int} (ho : PIp X op (ipI f)) (hN : X.N.Nodup) (ha : DE X mo E a fa) (hi : X.N[i]? = some x := by rfl) (hx : Loc X.env.scope x := by first | exact Or.inl rfl | exact Or.inr rfl) (hf : X.fn x = true ∨ X.env.scope.names.lookup x = some .local := by first | exact .inl rfl | exact .inr rfl) :
    DS X mo E (.AugAssign (.Name x p') op a pos) (sAug i f fa) := by
  obtain ⟨ta, pa, wa⟩ := ha
  refine ⟨_, ps_aug hN hi hx pa ho hf, fun S₀ g₀ H₀ Fr g W σ H en D r h => ?_⟩
  unfold sAug at h
  split at h
  · rename_i m ei
    obtain ⟨v, es, qv⟩ := r.val i _ ei
    rw [Rp.int_inv qv] at es
    refine ⟨_, es, ?_⟩
    rw [wp_bind] at h
    refine wa _ g W σ H (expo en) _ r.expoE (wp_mono h (fun r1 W1 q g1 v1 H1 s1 w1 rr1 => ?_) fun _ _ q => ES.of r q)
    try dsimp only at q
    split at q
    · rename_i n en'
      replace rr1 := RepR.at rr1 en'
      exact ⟨m, n, rfl, Rp.int_inv rr1.1, q g1 _ H1 ((r.step s1 w1).set (a := .d _) (Rp.int _))⟩
    · exact q.elim
  · exact h.elim
theorem ds_augAdd {i : Nat} {x : Str} {p' : Pos} (hN : X.N.Nodup) (ha : DE X mo E a fa) (hi : X.N[i]? = some x := by rfl) (hx : Loc X.env.scope x := by first | exact Or.inl rfl | exact Or.inr rfl) (hf : X.fn x = true ∨ X.env.scope.names.lookup x = some .local := by first | exact .inl rfl | exact .inr rfl) :
    DS X mo E (.AugAssign (.Name x p') .Add a pos) (sAug i (fun m n => m + n) fa) := ds_aug ip_add hN ha hi hx hf
theorem ds_augSub {i : Nat} {x : Str} {p' : Pos} (hN : X.N.Nodup) (ha : DE X mo E a fa) (hi : X.N[i]? = some x := by rfl) (hx : Loc X.env.scope x := by first | exact Or.inl rfl | exact Or.inr rfl) (hf : X.fn x = true ∨ X.env.scope.names.lookup x = some .local := by first | exact .inl rfl | exact .inr rfl) :
    DS X mo E (.AugAssign (.Name x p') .Sub a pos) (sAug i (fun m n => m - n) fa) := ds_aug ip_sub hN ha hi hx hf
/-- the slots of is are changed no more -/
def sFrz (i : Nat) (s : En → M Out) : En → M Out := fun en => s (frz i en)
theorem ds_frz (i : Nat) (h : DS X mo E st s1) : DS X mo E st (sFrz i s1) := by
  obtain ⟨t, p, w⟩ := h
  exact ⟨t, p, fun S₀ g₀ H₀ Fr g W σ H en D r hw => w S₀ g₀ H₀ Fr g W σ H _ D (r.frz i) hw⟩
end
end Dt

/-! The data layer, part 7: loops, lists that change, raise, defs. -/
namespace Dt
open PySem L2
section
variable {mo : Mo} {K : PySem.W.Frag} {S₀ : Addr → Prop} {g₀ g g' : Gh} {H₀ Fr Fr' H H' : Hp} {W W' : Wd} {σ : St} {en : En} {E : XK}
theorem RepS.frLess (r : RepS mo K S₀ g₀ H₀ Fr' g W σ H en) (h : ∀ a o, Fr a = some o → Fr' a = some o) : RepS mo K S₀ g₀ H₀ Fr g W σ H en := ⟨r.len, r.base, fun a o e => r.frm a o (h a o e), r.val, r.own, r.inj, r.wok, r.sd⟩
theorem RepS.frMore (r : RepS mo K S₀ g₀ H₀ Fr g W σ H en) : RepS mo K S₀ g₀ H₀ (cut H fun b => Ow σ en b ∨ g.R b) g W σ H en := ⟨r.len, r.base, fun a o e => let ⟨e1, n⟩ := cut_some.mp e; ⟨e1, fun z => n (.inl z), fun z => n (.inr z)⟩, r.val, r.own, r.inj, r.wok, r.sd⟩
end
section
variable {X : Cx} {mo : Mo} {E : XK} {pos p : Pos} {a b c e tg : Expr} {es : List Expr} {fa fb fc : En → M RV} {fs : En → M (List AV)} {ga : En → M Bool} {st : Stmt} {sts : List Stmt} {s1 s2 body : En → M Out}

/-! ### for -/
def forL (sl : List Nat) (bd : PyData → Option (List PyData)) (body : En → M Out) : List PyData → En → M Out
  | [], en => .ret (.nx en)
  | x :: xs, en => match bd x with
    | none => .stuck
    | some ds => (body (setE en sl ds)).bind fun o => match o with
      | .nx en' => forL sl bd body xs en'
      | .ct en' => forL sl bd body xs en'
      | .bk en' => .ret (.nx en')
      | .rt r => .ret (.rt r)
def sFor (sl : List Nat) (bd : PyData → Option (List PyData)) (it : En → M (List PyData)) (body : En → M Out) : En → M Out := fun en => (it (hide en)).bind fun items => forL sl bd body items en
theorem ds_for {iter : Expr} {sl : List Nat} {bd : PyData → Option (List PyData)} {it : En → M (List PyData)} (hp : PassesOwn (model X.prog X.w) X.A X.env X.xe) (hc : X.calm = true) (hi : DI X mo E tg iter it) (hg : DG X tg sl bd) (hb : DSs X mo E sts body)
    (hs : ∀ x, foldedSetIterable iter X.env x = pure x := by intro _; rfl) : DS X mo E (.For tg iter sts [] pos) (sFor sl bd it body) := by
  obtain ⟨wi, pi, wi'⟩ := hi
  obtain ⟨gt, pg, wg⟩ := hg
  obtain ⟨tb, pb, wb⟩ := hb
  refine ⟨tFor wi gt tb, ps_for hp hc pi pg pb hs, fun S₀ g₀ H₀ Fr g W σ H en D r h => ?_⟩
  unfold sFor at h
  rw [wp_bind] at h
  refine wi' _ g W σ H (hide en) _ r.hideE (wp_mono h (fun items W1 q g1 H1 J s1 w1 ito => ?_) fun _ _ q => ES.of r q)
  have r1 := r.step s1 w1
  have r1' := r1.frMore
  refine ⟨fun i m σ' H' => m = items.length - i ∧ i ≤ items.length ∧ ∃ (g' : Gh) (W' : Wd) (en' : En), RepS mo X.K S₀ g₀ H₀ (cut H1 fun b => Ow σ en b ∨ g1.R b) g' W' σ' H' en' ∧ wp (forL sl bd body (items.drop i) en') W' (QS mo X.K S₀ g₀ H₀ Fr D) (EE mo X.K S₀ g₀ H₀ E),
    ⟨items.length, by simp, Nat.zero_le _, g1, W1, en, r1', by rw [List.drop_zero]; exact q⟩, ?_⟩
  have frIn : ∀ a o, Fr a = some o → cut H1 (fun b => Ow σ en b ∨ g1.R b) a = some o := fun a o ea => let ⟨e1, n1, n2⟩ := r1.frm a o ea; cut_some.mpr ⟨e1, fun z => z.elim n1 n2⟩
  rintro i m σ' H' ⟨rfl, hi, g', W', en', r', hw⟩
  have hC : Same (cut H1 fun a => (S₀ a ∨ Ow σ en a) ∨ g1.R a) H' := fun a o eo => (r'.frm a o (let ⟨e1, n⟩ := cut_some.mp eo; cut_some.mpr ⟨e1, fun z => n (z.imp_left .inr)⟩)).1
  by_cases hlt : i < items.length
  · right
    have hd : items[i]? = some items[i] := List.getElem?_eq_getElem hlt
    obtain ⟨go, yl⟩ := ito.go i H' _ hd hC
    rw [List.drop_eq_getElem_cons hlt] at hw
    unfold forL at hw
    split at hw
    · exact hw.elim
    · rename_i ds hbd
      rw [wp_bind] at hw
      refine ⟨go, _, fun σ2 H2 z => ⟨items.length - (i + 1), by omega, rfl, hlt, z⟩, fun x H'' y => ?_⟩
      obtain ⟨sm, rx⟩ := yl x H'' y
      have r2 := r'.step (.of_same sm) (r'.wok.same sm)
      refine wg (cut H'' fun b => (S₀ b ∨ Ow σ' en' b) ∨ g'.R b) x items[i] ds σ' H'' _ (rx.mono fun a o eo => ?_) cut_sub hbd fun vs rv => ?_
      · unfold mixC at eo
        split at eo
        · rename_i e0
          refine cut_some.mpr ⟨eo, fun z => z.elim (fun z => z.elim (fun z => (r'.sdH z).ne e0) fun z => ?_) fun z => r'.wok.rdom z e0⟩
          obtain ⟨⟨vs, e'⟩, _⟩ := r'.ows z
          rw [e0] at e'; cases e'
        · obtain ⟨e1, n1⟩ := cut_some.mp eo
          obtain ⟨e2, n2, n3⟩ := r2.frm a o (cut_some.mpr ⟨e1, fun z => n1 (z.imp_left .inr)⟩)
          exact cut_some.mpr ⟨e2, fun z => z.elim (fun z => z.elim (fun z => n1 (.inl (.inl z))) n2) n3⟩
      · refine wb S₀ g₀ H₀ _ g' W' _ H'' _ _ (r2.setE (sl := sl) rv) (wp_mono hw (fun o W3 q3 => ?_) fun _ _ q => q)
        cases o with
        | nx en3 => exact fun g3 σ3 H3 r3 => ⟨g3, W3, en3, r3, q3⟩
        | ct en3 => exact fun g3 σ3 H3 r3 => ⟨g3, W3, en3, r3, q3⟩
        | bk en3 => exact fun g3 σ3 H3 r3 => q3 g3 σ3 H3 (r3.frLess frIn)
        | rt rr => exact q3
  · left
    have ei : i = items.length := by omega
    subst ei
    rw [List.drop_length] at hw
    exact ⟨ito.stop _ H' (Nat.le_refl _) hC, hw g' σ' H' (r'.frLess frIn)⟩

/-! ### while -/
def whileL (ga : En → M Bool) (body : En → M Out) : Nat → En → M Out
  | 0, _ => .stuck
  | n + 1, en => (ga (expo en)).bind fun b => if b = true then (body en).bind fun o => match o with
      | .nx en' => whileL ga body n en'
      | .ct en' => whileL ga body n en'
      | .bk en' => .ret (.nx en')
      | .rt r => .ret (.rt r)
    else .ret (.nx en)
def sWhile (n : Nat) (ga : En → M Bool) (body : En → M Out) : En → M Out := whileL ga body n
theorem ds_while (n : Nat) (hp : PassesOwn (model X.prog X.w) X.A X.env X.xe) (hc : DT X mo E c ga) (hb : DSs X mo E sts body) : DS X mo E (.While c sts [] pos) (sWhile n ga body) := by
  obtain ⟨tc, pc, wc⟩ := hc
  obtain ⟨tb, pb, wb⟩ := hb
  refine ⟨tWhile tc tb, ps_while hp pc pb, fun S₀ g₀ H₀ Fr g W σ H en D r h => ?_⟩
  refine ⟨fun m σ' H' => ∃ (g' : Gh) (W' : Wd) (en' : En), RepS mo X.K S₀ g₀ H₀ Fr g' W' σ' H' en' ∧ wp (whileL ga body m en') W' (QS mo X.K S₀ g₀ H₀ Fr D) (EE mo X.K S₀ g₀ H₀ E), ⟨n, g, W, en, r, h⟩, ?_⟩
  rintro m σ' H' ⟨g', W', en', r', hw⟩
  cases m with
  | zero => exact hw.elim
  | succ m =>
    unfold whileL at hw
    rw [wp_bind] at hw
    refine wc _ g' W' σ' H' (expo en') _ r'.expoE (wp_mono hw (fun b W1 q g1 H1 s1 w1 => ?_) fun _ _ q => ES.of r' q)
    have r1 := r'.step s1 w1
    cases b with
    | true =>
      rw [if_pos rfl] at q
      refine iteT ⟨_, fun σ2 H2 z => ⟨m, Nat.lt_succ_self m, z⟩, ?_⟩
      rw [wp_bind] at q
      refine wb S₀ g₀ H₀ Fr g1 W1 σ' H1 en' _ r1 (wp_mono q (fun o W3 q3 => ?_) fun _ _ q => q)
      cases o with
      | nx en3 => exact fun g3 σ3 H3 r3 => ⟨g3, W3, en3, r3, q3⟩
      | ct en3 => exact fun g3 σ3 H3 r3 => ⟨g3, W3, en3, r3, q3⟩
      | bk en3 => exact fun g3 σ3 H3 r3 => q3 g3 σ3 H3 r3
      | rt rr => exact q3
    | false =>
      rw [if_neg Bool.false_ne_true] at q
      exact iteF (q g1 σ' H1 r1)

/-! ### lists that change -/
def sApp (i : Nat) (fa : En → M RV) : En → M Out := fun en => match en[i]? with
  | some (some (.own xs)) => (fa (hide en)).bind fun r => match r.1 with
    | .d q => if xs.length < lim then .ret (.nx (en.set i (some (.own (xs ++ [q]))))) else .stuck
    | _ => .stuck
  | _ => .stuck
def sAppX (i : Nat) (fa : En → M RV) : En → M Out := fun en => match en[i]? with
  | some (some (.own xs)) => (fa (expo en)).bind fun r => match r.1 with
    | .d q => if xs.length < lim ∧ safeP q = true then .ret (.nx (en.set i (some (.own (xs ++ [q]))))) else .stuck
    | _ => .stuck
  | _ => .stuck
section
variable {i : Nat} {x : Str} {q' : Pos} {apos : Pos}
theorem ds_app (ha : DE X mo E a fa) (hN : X.N[i]? = some x := by rfl) (hv : Vis X.env.scope x := by first | exact Or.inl rfl | exact Or.inr (Or.inl rfl) | exact Or.inr (Or.inr rfl)) (hd : (x == ("__debug__" : Str)) = false := by decide) (hcd : (x == ("__classdict__" : Str)) = false := by decide)
    (hbase : attributeBase (.Name x q') "append" X.env (eval (.Name x q') X.env) = eval (.Name x q') X.env := by rfl)
    (hfew : ((backTo p (starEach [a] X.env)).all (fun x => !x.1) && (backToKw p (keywordEach [] X.env)).all (fun x => x.1.isSome) && decide ([a].length + ([] : List Keyword).length + (if ([] : List Keyword).isEmpty then 0 else 1) < 30)) = true := by rfl)
    (hline : (apos.endLine == p.line) = true := by rfl) (hst : starEach [a] X.env = [(false, eval a X.env)] := by rfl) (hs : swapsWith (.Call (.Attribute (.Name x q') "append" apos) [a] [] p) none pos.line X.env = pure false := by rfl) :
    DS X mo E (.Expr (.Call (.Attribute (.Name x q') "append" apos) [a] [] p) pos) (sApp i fa) := by
  obtain ⟨ta, pa, wa⟩ := ha
  refine ⟨_, ps_expr (pe_bm PySem.F.plainAttrs_list PySem.F.slot_list_append PySem.F.type_list_append mt_append (pe_var hN hv hd hcd) (pa_cons pa pa_nil hst) hbase hfew hline hst rfl) hs, fun S₀ g₀ H₀ Fr g W σ H en D r h => ?_⟩
  unfold sApp at h
  split at h
  · rename_i xs ei
    obtain ⟨l, vs, es, h1, h2, h3, h4⟩ := r.own i xs ei
    rw [wp_bind] at h
    refine ⟨_, es, .inl ⟨rfl, vs, SqL.of h1⟩, wa _ g W σ H (hide en) _ r.hideE (wp_mono h (fun r1 W1 q g1 v1 H1 s1 w1 rr1 => ?_) fun _ _ q => ES.of r q)⟩
    try dsimp only at q
    split at q
    · rename_i y ey
      split at q
      · rename_i hl
        replace rr1 := RepR.at rr1 ey
        have r1 := r.step s1 w1
        obtain ⟨l', vs', es', h1', h2', h3', h4'⟩ := r1.own i xs ei
        rw [es] at es'
        cases es'
        exact ⟨l, vs', v1, rfl, rfl, h1', lim_lt (by rw [h4'.length]; omega), q g1 σ _ (r1.putO ei es h1' (h4'.snoc rr1.1))⟩
      · exact q.elim
    · exact q.elim
  · exact h.elim
theorem ds_appX (ha : DE X mo E a fa) (hN : X.N[i]? = some x := by rfl) (hv : Vis X.env.scope x := by first | exact Or.inl rfl | exact Or.inr (Or.inl rfl) | exact Or.inr (Or.inr rfl)) (hd : (x == ("__debug__" : Str)) = false := by decide) (hcd : (x == ("__classdict__" : Str)) = false := by decide)
    (hbase : attributeBase (.Name x q') "append" X.env (eval (.Name x q') X.env) = eval (.Name x q') X.env := by rfl)
    (hfew : ((backTo p (starEach [a] X.env)).all (fun x => !x.1) && (backToKw p (keywordEach [] X.env)).all (fun x => x.1.isSome) && decide ([a].length + ([] : List Keyword).length + (if ([] : List Keyword).isEmpty then 0 else 1) < 30)) = true := by rfl)
    (hline : (apos.endLine == p.line) = true := by rfl) (hst : starEach [a] X.env = [(false, eval a X.env)] := by rfl) (hs : swapsWith (.Call (.Attribute (.Name x q') "append" apos) [a] [] p) none pos.line X.env = pure false := by rfl) :
    DS X mo E (.Expr (.Call (.Attribute (.Name x q') "append" apos) [a] [] p) pos) (sAppX i fa) := by
  obtain ⟨ta, pa, wa⟩ := ha
  refine ⟨_, ps_expr (pe_bm PySem.F.plainAttrs_list PySem.F.slot_list_append PySem.F.type_list_append mt_append (pe_var hN hv hd hcd) (pa_cons pa pa_nil hst) hbase hfew hline hst rfl) hs, fun S₀ g₀ H₀ Fr g W σ H en D r h => ?_⟩
  unfold sAppX at h
  split at h
  · rename_i xs ei
    obtain ⟨l, vs, es, h1, h2, h3, h4⟩ := r.own i xs ei
    rw [wp_bind] at h
    refine ⟨_, es, .inl ⟨rfl, vs, SqL.of h1⟩, wa _ g W σ H (expo en) _ r.expoE (wp_mono h (fun r1 W1 q g1 v1 H1 s1 w1 rr1 => ?_) fun _ _ q => ES.of r q)⟩
    try dsimp only at q
    split at q
    · rename_i y ey
      split at q
      · rename_i hl
        replace rr1 := RepR.at rr1 ey
        have r1 := r.step s1 w1
        obtain ⟨l', vs', es', h1', h2', h3', h4'⟩ := r1.own i xs ei
        rw [es] at es'
        cases es'
        exact ⟨l, vs', v1, rfl, rfl, h1', lim_lt (by rw [h4'.length]; omega), q g1 σ _ (r1.putO ei es h1' (h4'.snoc (r1.safe rr1.1 hl.2)))⟩
      · exact q.elim
    · exact q.elim
  · exact h.elim
/-- x[k] = e; the value may be read off the own lists (a scalar, or a tuple of them) -/
def sPut (i : Nat) (fk fa : En → M RV) : En → M Out := fun en => match en[i]? with
  | some (some (.own xs)) => (fa (expo en)).bind fun r => (fk (expo en)).bind fun rk => match r.1, rk.1 with
    | .d q, .d (.int k) => (match ixN xs.length k with
      | some j => if safeP q = true then .ret (.nx (en.set i (some (.own (xs.set j q))))) else .stuck
      | none => .stuck)
    | _, _ => .stuck
  | _ => .stuck
theorem ds_put {fk : En → M RV} {k : Expr} (ha : DE X mo E a fa) (hk : DE X mo E k fk) (hN : X.N[i]? = some x := by rfl) (hv : Vis X.env.scope x := by first | exact Or.inl rfl | exact Or.inr (Or.inl rfl) | exact Or.inr (Or.inr rfl)) (hd : (x == ("__debug__" : Str)) = false := by decide) (hcd : (x == ("__classdict__" : Str)) = false := by decide)
    (hsub : ∀ v, assign (.Subscript (.Name x q') k apos) X.env v = (do
      let ov ← holding [v] (eval (.Name x q') X.env)
      let iv ← holding [v, ov] (eval k X.env)
      standAt apos
      holding [v, ov, iv] (setItem ov iv v)
      release [v, ov, iv] []) := by intro _; rfl) (hs : swapsWithSole [.Subscript (.Name x q') k apos] a pos.line X.env = pure false := by rfl) (hw : swappedStores [.Subscript (.Name x q') k apos] a X.env = pure none := by rfl)
    (h1 : (assignEach [.Subscript (.Name x q') k apos] X.env).map (·.2) = [assign (.Subscript (.Name x q') k apos) X.env] := by rfl) : DS X mo E (.Assign [.Subscript (.Name x q') k apos] a pos) (sPut i fk fa) := by
  obtain ⟨ta, pa, wa⟩ := ha
  obtain ⟨tk, pk, wk⟩ := hk
  refine ⟨_, ps_asg pa (pg_sub (pe_var hN hv hd hcd) pk set_list hsub) hs hw h1, fun S₀ g₀ H₀ Fr g W σ H en D r h => ?_⟩
  unfold sPut at h
  split at h
  · rename_i xs ei
    rw [wp_bind] at h
    refine wa _ g W σ H (expo en) _ r.expoE (wp_mono h (fun r1 W1 q g1 v1 H1 s1 w1 rr1 => ?_) fun _ _ q => ES.of r q)
    rw [wp_bind] at q
    have ra := r.step s1 w1
    obtain ⟨l, vs, es, _⟩ := ra.own i xs ei
    refine ⟨_, es, ?_⟩
    refine wk _ g1 W1 σ H1 (expo en) _ ra.expoE (wp_mono q (fun r2 W2 q2 g2 v2 H2 s2 w2 rr2 => ?_) fun _ _ q => ES.of ra q)
    try dsimp only at q2
    split at q2
    · rename_i y k ey ek
      split at q2
      · rename_i j hj
        split at q2
        · rename_i hq
          replace rr1 := RepR.at rr1 ey
          replace rr2 := RepR.at rr2 ek
          have rb := ra.step s2 w2
          obtain ⟨l', vs', es', h1', h2', h3', h4'⟩ := rb.own i xs ei
          rw [es] at es'
          cases es'
          have ry : Rp X.K (cut H2 fun b => S₀ b ∨ g2.R b) v1 y := RepA.step (a := .d y) s2 rr1.1
          exact ⟨l, vs', k, j, rfl, Rp.int_inv rr2.1, h1', by rw [h4'.length]; exact hj, q2 g2 σ _ (rb.putO ei es h1' (h4'.set (rb.safe ry hq) j))⟩
        · exact q2.elim
      · exact q2.elim
    · exact q2.elim
  · exact h.elim
end

/-! ### raise -/
/-- the class of an error, as the head tells it -/
structure ExD (K : PySem.W.Frag) (mg : Str → Option Value) (mo : Mo) (x : Str) (er : Err) : Prop where
  q : PySem.W.excIn K (mo.ec er) [.type "ValueError", .type "Exception", .type "BaseException", .type "object"] "ValueError.__new__" = true
  g : mg x = some (.ref (mo.ec er))
  k : PySem.W.keepIn K (.ref (mo.ec er)) = true
  b : PySem.W.subIn K (.ref (mo.ec er)) (.type "BaseException") = some true
  t : PySem.W.typeIn K (.ref (mo.ec er)) = some (.type "type")
def sRaise (er : Err) : En → M Out := fun _ => .raise er
theorem ds_raise {x m : Str} {j : Nat} {er : Err} {p1 p2 p3 : Pos} (hx : ExD X.K X.mg mo x er) (hc : X.calm = true) (tk : Takes X (fun cls d _ H => E cls d H)) (hg : Gl X x := by rfl) (hdb : (x == ("__debug__" : Str)) = false := by decide) :
    DS X mo E (.Raise (some (.Call (.Name x p1) [.Constant (.str m) j p2] [] p3)) none pos) (sRaise er) := by
  refine ⟨_, ps_raise hc tk (pmk_own PySem.F.excBase_ValueError hx.q hx.g hx.k (raises_own hx.b hx.t) hg hdb), fun S₀ g₀ H₀ Fr g W σ H en D r h => ?_⟩
  exact h g H r.base r.wok

/-! ### defs -/
def enOf (m : Nat) (as : List AV) : En := as.map (fun a => some (.v a)) ++ List.replicate (m - as.length) none
def outR : Out → M RV
  | .nx _ => .ret (.d .none, false)
  | .rt r => .ret r
  | _ => .stuck
def runF (n m : Nat) (b : En → M Out) : List AV → M RV := fun as => if as.length = n then (b (enOf m as)).bind outR else .stuck
theorem reps_get {K : PySem.W.Frag} {S : Addr → Prop} {g : Gh} {H : Hp} : ∀ {vs : List V} {as : List AV} {i : Nat} {a : AV}, RepAs mo K S g H vs as → as[i]? = some a → ∃ v, vs[i]? = some v ∧ RepA mo K S g H v a
  | _, _, _, _, .nil, e => by simp at e
  | _, _, 0, _, .cons h _, e => by simp at e; subst e; exact ⟨_, rfl, h⟩
  | _, _, i + 1, a, .cons _ t, e => by
    obtain ⟨u, h1, h2⟩ := reps_get (i := i) (a := a) t (by simpa using e)
    exact ⟨u, by simpa using h1, h2⟩
theorem reps_length {K : PySem.W.Frag} {S : Addr → Prop} {g : Gh} {H : Hp} {vs : List V} {as : List AV} (h : RepAs mo K S g H vs as) : vs.length = as.length := Paired.length h
theorem enOf_get {m : Nat} {as : List AV} {i : Nat} {s : Slot} (h : (enOf m as)[i]? = some (some s)) : ∃ a, as[i]? = some a ∧ s = .v a ∧ i < as.length := by
  unfold enOf at h
  by_cases hi : i < as.length
  · rw [List.getElem?_append_left (by simpa using hi), List.getElem?_map, List.getElem?_eq_getElem hi] at h
    simp only [Option.map_some, Option.some.injEq] at h
    exact ⟨as[i], List.getElem?_eq_getElem hi, h.symm, hi⟩
  · rw [List.getElem?_append_right (by simpa using hi), List.getElem?_replicate] at h
    split at h
    · cases h
    · cases h
theorem start_get {N : List Str} {vs : List V} {i : Nat} {v : V} (h : vs[i]? = some v) : (start N vs)[i]? = some (some v) := by
  unfold L2.start
  have hi : i < vs.length := (List.getElem?_eq_some_iff.mp h).1
  rw [List.getElem?_append_left (by simpa using hi), List.getElem?_map, h]
  rfl
theorem repS_start {K : PySem.W.Frag} {S : Addr → Prop} {g : Gh} {W : Wd} {H : Hp} {vs : List V} {as : List AV} {N : List Str} (h : RepAs mo K S g H vs as) (w : WOk mo K S g W H) (sd : ∀ a, S a → OL g H a) : RepS mo K S g H (fun _ => none) g W (start N vs) H (enOf N.length as) := by
  have noO : ∀ a, ¬ Ow (start N vs) (enOf N.length as) a := fun a ⟨i, xs, e, _⟩ => by
    obtain ⟨b, _, z, _⟩ := enOf_get e
    cases z
  refine ⟨?_, .refl _ _, fun a o e => (by cases e), fun i a e => ?_, fun i xs e => ?_, fun i j xs ys p e => ?_, w, sd⟩
  · unfold enOf L2.start
    simp [reps_length h]
  · obtain ⟨b, e1, z, _⟩ := enOf_get e
    cases z
    obtain ⟨v, e2, r⟩ := reps_get h e1
    exact ⟨v, start_get e2, r.less fun b z => z.elim id fun z => (noO b z).elim⟩
  · obtain ⟨b, _, z, _⟩ := enOf_get e
    cases z
  · obtain ⟨b, _, z, _⟩ := enOf_get e
    cases z
end
section
variable {P : Program} {w : World} {K : PySem.W.Frag} {mg : Str → Option Value} {base : Heap} {mo : Mo}
theorem fn_d {x qual : Str} {params : Arguments} {body : List Stmt} {scope : Scope} {f : Addr} {fd : FuncData} {N ps : List Str} {k n m : Nat} {b : En → M Out} (F : FunD K x qual params body scope [] [] f fd) (S : FnScope N ps scope) (hn : ps.length = n) (hm : N.length = m)
    (hb : ∀ (cdv : Value) (A : Around) (outer : List Env) (s : Shared) (H : Hp) (E : XK), Room k (A.deeper (PyProof.Rows.envOfC qual scope s.heap.objs.size f cdv)) → DSs (cxOf (L2.CX P w) P w K mg base N qual scope f cdv A outer s H E) mo E body b) :
    FnOk P w K mg base (L2.CX P w) (k + 1) f fd ps (spD mo K (runF n m b)) := by
  subst hn hm
  refine F.ok S (fun vs H Q E h => ?_) (fun cdv A outer s H vs Q E hr h => ?_)
  · obtain ⟨S, g, W, as, ra, w, sd, hw⟩ := h
    unfold runF at hw
    split at hw
    · rename_i hl
      rw [reps_length ra]
      exact hl
    · exact hw.elim
  · obtain ⟨S, g, W, as, ra, w, sd, hw⟩ := h
    unfold runF at hw
    split at hw
    · obtain ⟨t, p, wt⟩ := hb cdv A outer s H E hr
      refine ⟨t, p, wt S g H (fun _ => none) g W (start N vs) H (enOf N.length as) _ (repS_start ra w sd) ?_⟩
      rw [wp_bind] at hw
      refine wp_mono hw (fun o W1 q => ?_) fun _ _ q => q
      cases o with
      | nx en' => exact fun g' σ' H' r' => q g' .non H' r'.base r'.wok ⟨.non, fun z => by cases z⟩
      | rt r => exact q
      | bk en' => exact q.elim
      | ct en' => exact q.elim
    · exact hw.elim
end
/-- an exception of a callee leaves the body -/
theorem pass_cx {P : Program} {w : World} {K : PySem.W.Frag} {mg : Str → Option Value} {base : Heap} {N : List Str} {qual : Str} {scope : Scope} {f : Addr} {cdv : Value} {A : Around} {outer : List Env} {s : Shared} {H : Hp} {E : XK} :
    Takes (cxOf (L2.CX P w) P w K mg base N qual scope f cdv A outer s H E) (fun cls d _ H => E cls d H) ∧ Passes (L2.CX P w) (cxOf (L2.CX P w) P w K mg base N qual scope f cdv A outer s H E) E ∧ PassesOwn (model P w) (cxOf (L2.CX P w) P w K mg base N qual scope f cdv A outer s H E).A (cxOf (L2.CX P w) P w K mg base N qual scope f cdv A outer s H E).env (cxOf (L2.CX P w) P w K mg base N qual scope f cdv A outer s H E).xe := by
  have tk : Takes (cxOf (L2.CX P w) P w K mg base N qual scope f cdv A outer s H E) (fun cls d _ H => E cls d H) := takes_of rfl rfl rfl rfl
  exact ⟨tk, passes_call tk (fun _ _ _ _ h => h), passes_of rfl⟩
end Dt

/-! The data layer, part 8: objects change; the draws. -/
namespace Dt
open PySem L2
section
variable {mo : Mo} {K : PySem.W.Frag} {S S' : Addr → Prop} {g g' : Gh} {H H' : Hp} {W : Wd}
/-- one object changes within its own addresses -/
theorem WOk.at {i : Nat} {a : Addr} {o : AObj} (w : WOk mo K S g W H) (hi : i < W.length) (ha : g.adr[i]? = some a) (hk : ∀ b, ¬ g.fp i b → H' b = H b) (hd : ∀ b, g.fp i b → H' b ≠ none) (hr : ORep mo K (cut H' g.R) H' (g.fp i) a o) : WOk mo K S' g (W.set i o) H' where
  len := by rw [List.length_set]; exact w.len
  dom := fun j b f => by
    rw [List.length_set]
    refine ⟨(w.dom j b f).1, ?_⟩
    by_cases e : g.fp i b
    · exact hd b e
    · rw [hk b e]; exact (w.dom j b f).2
  dis := w.dis
  rep := fun j b o' e1 e2 => by
    by_cases e : i = j
    · subst e
      rw [List.getElem?_set_self hi] at e2
      cases e2
      rw [ha] at e1
      cases e1
      exact hr
    · rw [List.getElem?_set_ne e] at e2
      refine (w.rep j b o' e1 e2).mono (fun t xs z => Same.seqT (cut_mono fun c u q n => ⟨?_, n⟩) z) fun c u f q => ?_
      · rw [hk c (fun z => n ⟨i, z⟩)]; exact q
      · rw [hk c (fun z => e (w.dis i j c z f))]; exact q
theorem step_at {i : Nat} (hk : ∀ b, ¬ g.fp i b → H' b = H b) (hd : ∀ b, g.fp i b → H' b ≠ none) : Step g H g H' where
  keep := fun b o n e => ⟨by rw [hk b (fun z => n ⟨i, z⟩)]; exact e, n⟩
  dom := fun b h => by
    by_cases e : g.fp i b
    · exact hd b e
    · rw [hk b e]; exact h
  adr := fun _ _ h => h
/-- a new object -/
def Gh.add (g : Gh) (a : Addr) (f : Addr → Prop) (n : Nat) : Gh := ⟨g.adr ++ [a], fun i b => if i = n then f b else g.fp i b⟩
theorem add_R {a : Addr} {f : Addr → Prop} {b : Addr} (w : WOk mo K S g W H) : (g.add a f W.length).R b ↔ g.R b ∨ f b := by
  unfold Gh.R Gh.add
  constructor
  · rintro ⟨i, h⟩
    dsimp only at h
    by_cases e : i = W.length
    · rw [if_pos e] at h; exact .inr h
    · rw [if_neg e] at h; exact .inl ⟨i, h⟩
  · rintro (⟨i, h⟩ | h)
    · refine ⟨i, ?_⟩
      have := (w.dom i b h).1
      dsimp only
      rw [if_neg (by omega)]; exact h
    · refine ⟨W.length, ?_⟩
      dsimp only
      rw [if_pos rfl]; exact h
theorem WOk.add {a : Addr} {f : Addr → Prop} {o : AObj} (w : WOk mo K S g W H) (hs : Same H H') (hf : ∀ b, f b → H b = none ∧ H' b ≠ none) (hr : ORep mo K (cut H' (g.add a f W.length).R) H' f a o) : WOk mo K S' (g.add a f W.length) (W ++ [o]) H' ∧ Step g H (g.add a f W.length) H' := by
  refine ⟨⟨?_, fun i b h => ?_, fun i j b h1 h2 => ?_, fun i b o' e1 e2 => ?_⟩, ⟨fun b u n e => ⟨hs b u e, fun z => ?_⟩, fun b h => same_ne hs h, fun i b h => ?_⟩⟩
  · unfold Gh.add; simp [w.len]
  · unfold Gh.add at h
    dsimp only at h
    rw [List.length_append, List.length_singleton]
    by_cases e : i = W.length
    · rw [if_pos e] at h; exact ⟨by omega, (hf b h).2⟩
    · rw [if_neg e] at h
      exact ⟨by have := (w.dom i b h).1; omega, same_ne hs (w.dom i b h).2⟩
  · unfold Gh.add at h1 h2
    dsimp only at h1 h2
    by_cases e1 : i = W.length
    · by_cases e2 : j = W.length
      · omega
      · rw [if_pos e1] at h1; rw [if_neg e2] at h2
        exact absurd (hf b h1).1 (w.dom j b h2).2
    · by_cases e2 : j = W.length
      · rw [if_neg e1] at h1; rw [if_pos e2] at h2
        exact absurd (hf b h2).1 (w.dom i b h1).2
      · rw [if_neg e1] at h1; rw [if_neg e2] at h2
        exact w.dis i j b h1 h2
  · by_cases e : i = W.length
    · subst e
      have ea : b = a := by
        unfold Gh.add at e1
        dsimp only at e1
        rw [← w.len, List.getElem?_concat_length] at e1
        exact (Option.some.inj e1).symm
      have eo : o' = o := by
        rw [List.getElem?_concat_length] at e2
        exact (Option.some.inj e2).symm
      subst ea eo
      have ef : (g.add b f W.length).fp W.length = f := by
        funext c
        unfold Gh.add
        dsimp only
        rw [if_pos rfl]
      rw [ef]
      exact hr
    · have hi : i < W.length := by
        have := (List.getElem?_eq_some_iff.mp e2).1
        rw [List.length_append, List.length_singleton] at this
        omega
      have e1' : g.adr[i]? = some b := by
        unfold Gh.add at e1
        dsimp only at e1
        rw [List.getElem?_append_left (by rw [w.len]; exact hi)] at e1
        exact e1
      rw [List.getElem?_append_left hi] at e2
      have ef : (g.add a f W.length).fp i = g.fp i := by
        funext c
        unfold Gh.add
        dsimp only
        rw [if_neg e]
      rw [ef]
      refine (w.rep i b o' e1' e2).mono (fun t xs z => Same.seqT (cut_mono fun c u q n => ⟨hs c u q, fun z => ?_⟩) z) fun c u _ q => hs c u q
      rcases (add_R w).mp z with z | z
      · exact n z
      · rw [(hf c z).1] at q; cases q
  · rcases (add_R w).mp z with z | z
    · exact n z
    · rw [(hf b z).1] at e; cases e
  · unfold Gh.add
    dsimp only
    rw [List.getElem?_append_left (by exact (List.getElem?_eq_some_iff.mp h).1)]
    exact h
end
/-! ### the draws -/
def fDraw : List AV → M RV
  | [.ob i, .d (.int l)] => .draw i l fun r => .ret (.d (.int r), false)
  | _ => .stuck
def fStart : List AV → M RV
  | [.scr ns] => if ns.length ≤ 63 then .onew .dr fun i => .ret (.ob i, false) else .stuck
  | _ => .stuck
end Dt
namespace Dt
open PySem L2
theorem FnOk.no {P : Program} {w : World} {K : PySem.W.Frag} {mg : Str → Option Value} {base : Heap} {k : Nat} {f : Addr} {fd : FuncData} {ps : List Str} {sp : Sp} (F : FnOk P w K mg base (L2.CX P w) k f fd ps sp) : FnOk P w K mg base CX0 k f fd ps (fun vs H Q _ => sp vs H Q E0) :=
  ⟨fun vs H Q E h => F.len vs H Q E0 h, fun A outer s H args us vs Q E hr he hb hv hs => codeAny_mono (F.run A outer s H args us vs Q E0 hr he hb hv hs) fun r s' q => by
    cases r with
    | error e =>
      obtain ⟨_, _, _, _, _, _, _, _, _, _, _, _, z⟩ := q
      exact z.elim
    | ok fl => cases fl <;> exact q⟩
/-- what is left of a law: its computation ends with True -/
def LawTrue (F : List AV → M RV) : Prop := ∀ ns : List Int, ns.length ≤ 63 → wp (F [.scr ns]) [] (fun r _ => r.1 = .d (.bool true)) (fun _ _ => False)
theorem law_sp {mo : Mo} {K : PySem.W.Frag} {F : List AV → M RV} (h : LawTrue F) (H : Hp) (a : Addr) (ns : List Int) (hl : ns.length ≤ 63) (hS : SqL K H a (ns.map V.int)) : spD mo K F [.ref a] H (fun v _ => v = .bl true) E0 := by
  refine ⟨fun _ => False, ⟨[], fun _ _ => False⟩, [], [.scr ns], .cons ⟨a, rfl, Same.seq (fun b o e => cut_some.mpr ⟨e, fun z => z.elim id fun ⟨_, z⟩ => z⟩) hS⟩ .nil, ⟨rfl, fun _ _ f => f.elim, fun _ _ _ f => f.elim, fun i b o e => by simp at e⟩, fun _ z => z.elim, ?_⟩
  refine wp_mono (h ns hl) (fun r W' e g' v H' s w rr => ?_) fun _ _ z => z.elim
  obtain ⟨r1, r2⟩ := r
  cases e
  exact Rp.bl_inv rr.1
theorem reads_exc {K : PySem.W.Frag} {h : Heap} {mg : Str → Option Value} {mo : Mo} {x : Str} {er : Err} (X : K.In h) (G : h.Ns mainGlobals mg) (e : mo.ec er = He.ga K x) (c : (He.Fa.exc x).ok K = true) (g : (He.Fa.glo x).ok K = true) : ExD K mg mo x er := by
  obtain ⟨h1, h2, h3, h4⟩ := He.exc_ok c
  have h5 := He.glo_ok X G g
  exact ⟨by rw [e]; exact h1, by rw [e]; exact h5, by rw [e]; exact h2, by rw [e]; exact h3, by rw [e]; exact h4⟩
end Dt

namespace Dt
open PySem L2
section
variable {X : Cx} {mo : Mo} {E : XK} {pos : Pos}
/-- x, y = [], [], both changed later -/
def sNil2 (i j : Nat) : En → M Out := fun en => .ret (.nx ((en.set i (some (.own []))).set j (some (.own []))))
theorem ds_nil2 {i j : Nat} {x y : Str} {px py pt p1 p2 : Pos} {kt k2 : Nat} {pt2 : Pos} (hc : X.calm = true) (hN : X.N.Nodup)
    (hi : X.N[i]? = some x := by rfl) (hj : X.N[j]? = some y := by rfl) (hij : i ≠ j := by decide) (hx : X.env.scope.names.lookup x = some .local := by rfl) (hy : X.env.scope.names.lookup y = some .local := by rfl)
    (hw : swappedStores [.Tuple [.Name x px, .Name y py] kt pt] (.Tuple [.List [] p1, .List [] p2] k2 pt2) X.env = pure (some [x, y]) := by rfl)
    (hsw : swapsWithSole [.Tuple [.Name x px, .Name y py] kt pt] (.Tuple [.List [] p1, .List [] p2] k2 pt2) pos.line X.env = pure false := by rfl) :
    DS X mo E (.Assign [.Tuple [.Name x px, .Name y py] kt pt] (.Tuple [.List [] p1, .List [] p2] k2 pt2) pos) (sNil2 i j) := by
  refine ⟨_, ps_par hc hN hi hj hij hx hy (pa_cons (pe_lst pa_nil) (pa_cons (pe_lst pa_nil) pa_nil)) hw hsw, fun S₀ g₀ H₀ Fr g W σ H en D r h => ?_⟩
  refine ⟨Nat.zero_le _, fun p hp => ⟨Nat.zero_le _, fun p2 hp2 => ⟨_, _, rfl, ?_⟩⟩⟩
  have w := r.wok
  have w1 := w.same (same_new (o := .lst []) hp)
  have r1 := r.setO (i := i) (.of_same (same_new (o := .lst []) hp)) w1 hp upd_same (fun z => w.rdom z hp) .nil
  have r2 := r1.setO (i := j) (.of_same (same_new (o := .lst []) hp2)) (w1.same (same_new hp2)) hp2 upd_same (fun z => w1.rdom z hp2) .nil
  exact h g _ _ r2
/-- the same, where a block captures the names -/
theorem ds_nil2c {i j : Nat} {x y : Str} {px py pt p1 p2 : Pos} {kt k2 : Nat} {pt2 : Pos} (hc : X.calm = true) (hN : X.N.Nodup)
    (hi : X.N[i]? = some x := by rfl) (hj : X.N[j]? = some y := by rfl) (hx : Loc X.env.scope x := by first | exact Or.inl rfl | exact Or.inr rfl) (hy : Loc X.env.scope y := by first | exact Or.inl rfl | exact Or.inr rfl) (hfx : X.fn x = true ∨ X.env.scope.names.lookup x = some .local := by first | exact .inl rfl | exact .inr rfl) (hfy : X.fn y = true ∨ X.env.scope.names.lookup y = some .local := by first | exact .inl rfl | exact .inr rfl)
    (hs1 : (assignEach [.Name y py] X.env).map (·.2) = [assign (.Name y py) X.env] := by rfl) (hs2 : (assignEach [.Name x px, .Name y py] X.env).map (·.2) = assign (.Name x px) X.env :: (assignEach [.Name y py] X.env).map (·.2) := by rfl)
    (hn : (assignEach [.Name x px, .Name y py] X.env).length = 2 := by rfl) (hst : (assignEach [.Name x px, .Name y py] X.env).findIdx? (·.1) = none := by rfl)
    (hsw : swapsWithSole [.Tuple [.Name x px, .Name y py] kt pt] (.Tuple [.List [] p1, .List [] p2] k2 pt2) pos.line X.env = pure false := by rfl) (hw : swappedStores [.Tuple [.Name x px, .Name y py] kt pt] (.Tuple [.List [] p1, .List [] p2] k2 pt2) X.env = pure none := by rfl)
    (h1 : (assignEach [.Tuple [.Name x px, .Name y py] kt pt] X.env).map (·.2) = [assign (.Tuple [.Name x px, .Name y py] kt pt) X.env] := by rfl) :
    DS X mo E (.Assign [.Tuple [.Name x px, .Name y py] kt pt] (.Tuple [.List [] p1, .List [] p2] k2 pt2) pos) (sNil2 i j) := by
  refine ⟨_, ps_asg (pe_tup (pa_cons (pe_lst pa_nil) (pa_cons (pe_lst pa_nil) pa_nil))) (pg_tup hc (pgs_cons (pg_name hN hi hx hfx) (pgs_cons (pg_name hN hj hy hfy) pgs_nil hs1) hs2) hn hst) hsw hw h1, fun S₀ g₀ H₀ Fr g W σ H en D r h => ?_⟩
  refine ⟨Nat.zero_le _, fun p hp => ⟨Nat.zero_le _, fun p2 hp2 => ⟨lim_line (by decide : 2 ≤ lim), fun p3 hp3 => ?_⟩⟩⟩
  refine ⟨p3, _, rfl, SqT.of upd_same, rfl, _, _, rfl, _, _, rfl, rfl, ?_⟩
  have w := r.wok
  have w1 := w.same (same_new (o := .lst []) hp)
  have r1 := r.setO (i := i) (.of_same (same_new (o := .lst []) hp)) w1 hp upd_same (fun z => w.rdom z hp) .nil
  have w2 := w1.same (same_new (o := .lst []) hp2)
  have r2 := r1.setO (i := j) (.of_same (same_new (o := .lst []) hp2)) w2 hp2 upd_same (fun z => w1.rdom z hp2) .nil
  exact h g _ _ (r2.step (.of_same (same_new hp3)) (w2.same (same_new hp3)))
end
theorem rp_strs {K : PySem.W.Frag} {H : Hp} : ∀ xs : List Str, RpAll K H (xs.map V.str) (xs.map PyData.str)
  | [] => .nil
  | x :: xs => .cons (.str x) (rp_strs xs)
end Dt

namespace Dt
open PySem L2
section
variable {X : Cx} {mo : Mo} {E : XK} {pos : Pos} {a b c d : Expr} {ta tb tc td : TE} {fa fb fc fd : En → M RV}
open PyProof.Rows PySem.Spec in
/-- a <= b <= c <= d, a test -/
theorem pt_chain3 {op1 op2 op3 : CmpOp} {r1 r2 r3 : R2} (h1 : OpR X (compareOp op1) r1) (h2 : OpR X (compareOp op2) r2) (h3 : OpR X (compareOp op3) r3) (ha : PE X a ta) (hb : PE X b tb) (hc : PE X c tc) (hd : PE X d td)
    (hm : lastMarks [op1, op2, op3] [b, c, d] = false := by with_unfolding_all rfl) : PT X (.Compare a [op1, op2, op3] [b, c, d] pos) (fun σ H Q => ta σ H fun x H1 => tb σ H1 fun y H2 => r1 x y H2 fun z H3 => ∃ k, z = .bl k ∧ (if k = true then (tc σ H3 fun w H4 => r2 y w H4 fun z2 H5 => ∃ k2, z2 = .bl k2 ∧ (if k2 = true then (td σ H5 fun v H6 => r3 w v H6 fun z3 H7 => ∃ k3, z3 = .bl k3 ∧ Q k3 H7) else Q false H5)) else Q false H3)) := by
  refine ⟨fun pins s σ H Q I h => ?_⟩
  refine isTrue_chain (thn (ha.run pins s σ H _ I h) fun v s1 ⟨x, H1, I1, e1, q1⟩ => test_link (thn (hb.run pins s1 σ H1 _ I1 q1) fun u s2 ⟨y, H2, I2, e2, q2⟩ =>
    thn (h1 pins s2 σ H2 x y v u _ I2 e1 e2 q2) fun d s3 ⟨z, H3, I3, e3, k, e, q3⟩ => ?_)) hm
  subst e
  cases e3
  refine wpAny_truthy_bool ?_
  cases k with
  | false => exact ite_ff ⟨H3, I3, q3⟩
  | true =>
    refine ite_tt (test_link (thn (hc.run pins s3 σ H3 _ I3 q3) fun w' s4 ⟨z', H4, I4, e4, q4⟩ => thn (h2 pins s4 σ H4 y z' u w' _ I4 e2 e4 q4) fun d' s5 ⟨z2, H5, I5, e5, k2, e6, q5⟩ => ?_))
    subst e6
    cases e5
    refine wpAny_truthy_bool ?_
    cases k2 with
    | false => exact ite_ff ⟨H5, I5, q5⟩
    | true =>
      refine ite_tt (test_last (thn (hd.run pins s5 σ H5 _ I5 q5) fun w2 s6 ⟨z3, H6, I6, e7, q6⟩ => thn (h3 pins s6 σ H6 z' z3 w' w2 _ I6 e4 e7 q6) fun d2 s7 ⟨z4, H7, I7, e8, k3, e9, q7⟩ => ?_))
      subst e9
      cases e8
      exact wpAny_truthy_bool ⟨H7, I7, q7⟩
def dChain3 (fa fb fc fd : En → M RV) : En → M Bool := fun en => (fa en).bind fun x => (fb en).bind fun y => (oLe x.1 y.1).bind fun z => match z.1 with
  | .d (.bool true) => (fc en).bind fun u => (oLe y.1 u.1).bind fun z2 => match z2.1 with
    | .d (.bool true) => (fd en).bind fun v => (oLe u.1 v.1).bind asB
    | .d (.bool false) => .ret false
    | _ => .stuck
  | .d (.bool false) => .ret false
  | _ => .stuck
theorem dt_le3 (ha : DE X mo E a fa) (hb : DE X mo E b fb) (hc : DE X mo E c fc) (hd : DE X mo E d fd) (hm : lastMarks [.LtE, .LtE, .LtE] [b, c, d] = false := by with_unfolding_all rfl) : DT X mo E (.Compare a [.LtE, .LtE, .LtE] [b, c, d] pos) (dChain3 fa fb fc fd) := by
  obtain ⟨ta, pa, wa⟩ := ha
  obtain ⟨tb, pb, wb⟩ := hb
  obtain ⟨tc, pc, wc⟩ := hc
  obtain ⟨td, pd, wd⟩ := hd
  refine ⟨_, pt_chain3 op_le op_le op_le pa pb pc pd hm, fun S g W σ H en Q hR h => ?_⟩
  unfold dChain3 at h
  rw [wp_bind] at h
  refine wa S g W σ H en _ hR (wp_mono h (fun r1 W1 q g1 v1 H1 s1 w1 rr1 => ?_) fun _ _ q => q)
  rw [wp_bind] at q
  refine wb S g1 W1 σ H1 en _ (hR.step s1 w1) (wp_mono q (fun r2 W2 q2 g2 v2 H2 s2 w2 rr2 => ?_) fun _ _ q => q.step s1)
  rw [wp_bind] at q2
  have sd2 : ∀ a, S a → OL g2 H2 a := fun a s => s2.own a (s1.own a (hR.sd a s))
  refine opd_le S g2 W2 H2 v1 v2 r1.1 r2.1 _ (EE mo X.K S g H E) w2 sd2 (rr1.1.step s2) rr2.1 (wp_mono q2 (fun r3 W3 q3 g3 v3 H3 s3 w3 rr3 => ?_) fun _ _ q => q)
  try dsimp only at q3
  have S3 := (s1.trans s2).trans s3
  split at q3
  · rename_i e3
    replace rr3 := RepR.at rr3 e3
    refine ⟨true, Rp.bl_inv rr3.1, ?_⟩
    rw [if_pos rfl]
    rw [wp_bind] at q3
    refine wc S g3 W3 σ H3 en _ (hR.step S3 w3) (wp_mono q3 (fun r4 W4 q4 g4 v4 H4 s4 w4 rr4 => ?_) fun _ _ q => q.step S3)
    rw [wp_bind] at q4
    refine opd_le S g4 W4 H4 v2 v4 r2.1 r4.1 _ (EE mo X.K S g H E) w4 (fun a s => s4.own a (s3.own a (sd2 a s))) (rr2.1.step (s3.trans s4)) rr4.1 (wp_mono q4 (fun r5 W5 q5 g5 v5 H5 s5 w5 rr5 => ?_) fun _ _ q => q)
    try dsimp only at q5
    have S5 := (S3.trans s4).trans s5
    split at q5
    · rename_i e5
      replace rr5 := RepR.at rr5 e5
      refine ⟨true, Rp.bl_inv rr5.1, ?_⟩
      rw [if_pos rfl]
      rw [wp_bind] at q5
      refine wd S g5 W5 σ H5 en _ (hR.step S5 w5) (wp_mono q5 (fun r6 W6 q6 g6 v6 H6 s6 w6 rr6 => ?_) fun _ _ q => q.step S5)
      rw [wp_bind] at q6
      refine opd_le S g6 W6 H6 v4 v6 r4.1 r6.1 _ (EE mo X.K S g H E) w6 (fun a s => s6.own a (S5.own a (hR.sd a s))) (rr4.1.step (s5.trans s6)) rr6.1 (wp_mono q6 (fun r7 W7 q7 g7 v7 H7 s7 w7 rr7 => ?_) fun _ _ q => q)
      unfold asB at q7
      split at q7
      · rename_i b e
        replace rr7 := RepR.at rr7 e
        exact ⟨b, Rp.bl_inv rr7.1, q7 g7 H7 ((S5.trans s6).trans s7) w7⟩
      · exact q7.elim
    · rename_i e5
      replace rr5 := RepR.at rr5 e5
      refine ⟨false, Rp.bl_inv rr5.1, ?_⟩
      rw [if_neg Bool.false_ne_true]
      exact q5 g5 H5 S5 w5
    · exact q5.elim
  · rename_i e3
    replace rr3 := RepR.at rr3 e3
    refine ⟨false, Rp.bl_inv rr3.1, ?_⟩
    rw [if_neg Bool.false_ne_true]
    exact q3 g3 H3 S3 w3
  · exact q3.elim
end
end Dt

namespace Dt
open PySem L2
section
variable {X : Cx} {mo : Mo} {E : XK} {pos : Pos} {a : Expr} {fa : En → M RV}
/-- ints, times -/
theorem ip_mul : PIp X .Mult (rI CMulW fun i j => .int (i * j)) := by
  intro pins s σ H x y v u Q I rx ry h
  obtain ⟨i, j, rfl, rfl, hc, q⟩ := h
  obtain ⟨t, rfl⟩ := rx
  obtain ⟨t', rfl⟩ := ry
  exact PySem.AutoIntOps.imul_0 ⟨.int _, H, I.tok _, ⟨_, rfl⟩, q⟩ hc.ok
def sAugMul (i : Nat) (fa : En → M RV) : En → M Out := fun en => match en[i]? with
  | some (some (.v (.d (.int m)))) => (fa (expo en)).bind fun r => match r.1 with
    | .d (.int n) => if m.natAbs < big ∧ n.natAbs < big then .ret (.nx (en.set i (some (.v (.d (.int (m * n))))))) else .stuck
    | _ => .stuck
  | _ => .stuck
theorem ds_augMul {i : Nat} {x : Str} {p' : Pos} (hN : X.N.Nodup) (ha : DE X mo E a fa) (hi : X.N[i]? = some x := by rfl) (hx : Loc X.env.scope x := by first | exact Or.inl rfl | exact Or.inr rfl) (hf : X.fn x = true ∨ X.env.scope.names.lookup x = some .local := by first | exact .inl rfl | exact .inr rfl) :
    DS X mo E (.AugAssign (.Name x p') .Mult a pos) (sAugMul i fa) := by
  obtain ⟨ta, pa, wa⟩ := ha
  refine ⟨_, ps_aug hN hi hx pa ip_mul hf, fun S₀ g₀ H₀ Fr g W σ H en D r h => ?_⟩
  unfold sAugMul at h
  split at h
  · rename_i m ei
    obtain ⟨v, es, qv⟩ := r.val i _ ei
    rw [Rp.int_inv qv] at es
    refine ⟨_, es, ?_⟩
    rw [wp_bind] at h
    refine wa _ g W σ H (expo en) _ r.expoE (wp_mono h (fun r1 W1 q g1 v1 H1 s1 w1 rr1 => ?_) fun _ _ q => ES.of r q)
    try dsimp only at q
    split at q
    · rename_i n en'
      split at q
      · rename_i hb
        replace rr1 := RepR.at rr1 en'
        exact ⟨m, n, rfl, Rp.int_inv rr1.1, mulW_big hb, q g1 _ H1 ((r.step s1 w1).set (a := .d _) (Rp.int _))⟩
      · exact q.elim
    · exact q.elim
  · exact h.elim
end
end Dt

/-! The data layer, part 12: try .. except X as n: y = n. -/
namespace Dt
open PySem L2 PySem.Spec PyProof.Rows
/-- exceptions are caught -/
def catchM {α : Type} : M α → (Err → M α) → M α
  | .ret a, _ => .ret a
  | .raise e, f => f e
  | .draw i l k, f => .draw i l fun r => catchM (k r) f
  | .onew o k, f => .onew o fun n => catchM (k n) f
  | .oget i k, f => .oget i fun o => catchM (k o) f
  | .oset i o k, f => .oset i o (catchM k f)
  | .stuck, _ => .stuck
theorem wp_catch {α : Type} : ∀ (m : M α) (f : Err → M α) (W : Wd) (Q : α → Wd → Prop) (E : Err → Wd → Prop), wp (catchM m f) W Q E ↔ wp m W Q (fun e W' => wp (f e) W' Q E)
  | .ret _, _, _, _, _ => Iff.rfl
  | .raise _, _, _, _, _ => Iff.rfl
  | .draw i l k, f, W, Q, E => by
    simp only [catchM, wp]
    exact ⟨fun ⟨h0, h1, h2, h3⟩ => ⟨h0, h1, h2, fun r a b => (wp_catch (k r) f W Q E).mp (h3 r a b)⟩, fun ⟨h0, h1, h2, h3⟩ => ⟨h0, h1, h2, fun r a b => (wp_catch (k r) f W Q E).mpr (h3 r a b)⟩⟩
  | .onew o k, f, W, Q, E => by simp only [catchM, wp]; exact wp_catch (k W.length) f _ Q E
  | .oget i k, f, W, Q, E => by
    simp only [catchM, wp]
    exact ⟨fun ⟨o, h0, h1⟩ => ⟨o, h0, (wp_catch (k o) f W Q E).mp h1⟩, fun ⟨o, h0, h1⟩ => ⟨o, h0, (wp_catch (k o) f W Q E).mpr h1⟩⟩
  | .oset i o k, f, W, Q, E => by
    simp only [catchM, wp]
    exact ⟨fun ⟨h0, h1⟩ => ⟨h0, (wp_catch k f _ Q E).mp h1⟩, fun ⟨h0, h1⟩ => ⟨h0, (wp_catch k f _ Q E).mpr h1⟩⟩
  | .stuck, _, _, _, _ => Iff.rfl
theorem excP_ok {P : Program} {w : World} {H : Hp} {h : Heap} {a C : Addr} {oe : Obj} (e : h.get? a = some oe) (z : Zc (.ref C) none oe) (d : ∃ vs, oe.data = .fields vs) : ObjOk P w H h a (.ext (excP C a)) :=
  ⟨⟨oe, e, z, d⟩, ⟨oe, e⟩, fun _ _ ⟨o, q, r⟩ k => ⟨o, k o q, r⟩⟩
section
variable {X : Cx} {pins : List (Addr × Obj)} {σ : L2.St} {H : Hp} {s : Shared}
/-- behind the suite: the exception's object is told from now on -/
theorem keep_inv {a C : Addr} {oe : Obj} (ok : X.Ok) (hex : X.ex = []) (J : Inv (X.suite a ((a, oe) :: (X.pn ++ pins))) [] σ H s) (z : Zc (.ref C) none oe) (d : ∃ vs, oe.data = .fields vs) (n0 : X.s_0.heap.get? a = none) (np : ∀ p ∈ X.pn ++ pins, p.1 ≠ a) :
    Inv X pins σ (upd H a (.ext (excP C a))) s := by
  obtain ⟨pa, na, nl, nf, nc⟩ := J.pin (a, oe) (List.mem_append.mpr (.inl List.mem_cons_self))
  dsimp only at pa na nl nf nc
  have ne0 : ∀ b o, X.s_0.heap.get? b = some o → b ≠ a := fun b o e q => by
    rw [q, n0] at e
    cases e
  refine ⟨ok, J.os, J.bare, ⟨J.base.keep, J.base.slot, fun b o e n hx => ?_, J.base.there, fun b xs e => ?_, fun b o u e => ?_, fun b ps e => ?_⟩, J.loc, J.cell, ?_, fun x c e => ?_, fun p hp => ?_, J.hok.laidN (fun _ _ q => q) na (excP_ok pa z d), J.len⟩
  · rw [upd_ne (ne0 b o e)]
    exact J.base.free b o e n hx
  · have q := J.base.tups b xs e
    rw [upd_ne (ne_of_none q na)]
    exact q
  · have q := J.base.frzs b o u e
    rw [upd_ne (ne_of_none q na)]
    exact q
  · obtain ⟨m, q⟩ := J.base.tbls b ps e
    exact ⟨m, by rw [upd_ne (ne_of_none q na)]; exact q⟩
  · rw [upd_ne (fun q => nl q.symm)]
    exact J.free
  · have q := J.freeC x c e
    rw [upd_ne ?_]
    · exact q
    · intro q'
      obtain ⟨v, o, ho, hd⟩ := J.cell x c e
      rw [q', pa] at ho
      cases ho
      exact nc v hd
  · obtain ⟨k1, k2, k3, k4, k5⟩ := J.pin p (List.mem_append.mpr (.inl (List.mem_cons_of_mem _ hp)))
    exact ⟨k1, by rw [upd_ne (np p hp)]; exact k2, k3, k4, k5⟩
end
/-- what is wished of an exception that a suite keeps -/
def wKeep (K : PySem.W.Frag) (c : Value) (i : Nat) (ts : TS) (D : Ends) : WX := fun cls d σ H =>
  ∃ C, cls = .ref C ∧ d = none ∧ PySem.W.exmOne K cls c = some true ∧ ∀ a, H a = none →
    ts { nx := fun σ1 H1 => D.nx (σ1.set i none) (upd H1 a (.ext (excP C a))), rt := fun _ _ => False } (σ.set i (some (.ref a))) H
section
variable {X : Cx} {x n : Str} {c : Value} {i : Nat} {body su : List Stmt} {s₀ : Stmt} {np pos pos' : Pos} {tb : WX → TS} {ts : TS}
theorem ps_tryKeep (hst : X.stack = X.env :: X.outer) (hfm : X.env.frame = some X.env.locals) (hex : X.ex = []) (hN : X.N.Nodup) (hi : X.N[i]? = some n) (hln : X.env.kindOf n = some .local) (hc : Names X x c)
    (hb : ∀ (W : WX) (pn : List (Addr × Obj)) (xe : Value → Shared → Prop), Takes (X.tr pn xe) W → PSs (X.tr pn xe) body (tb W))
    (hsu : ∀ (a : Addr) (oe : Obj) (pn : List (Addr × Obj)), PSs (X.suite a ((a, oe) :: pn)) (s₀ :: su) ts) :
    PS X (.Try body [.ExceptHandler (some (.Name x np)) (some n) (s₀ :: su) pos'] [] [] pos) (fun D σ H => tb (wKeep X.K c i ts D) D σ H) := by
  constructor
  intro pins st σ H D I hw
  have ok := I.ok
  have hfr : X.A.frames = some (X.env :: X.outer) := by rw [ok.frames, hst]
  apply wpAny_Try_except
  have run := fun xe tk => (hb (wKeep X.K c i ts D) (X.pn ++ pins) xe tk).run [] st σ H D (I.toTry _) hw
  refine wpAny_mono (run _ ?tk) ?fin fun _ _ z => z
  case fin =>
    intro f s1 hsp
    cases f with
    | next => exact let ⟨_, _, K1, q⟩ := hsp; wpAny_execs_nil ⟨_, _, K1.ofTry ok, q⟩
    | brk => exact let ⟨_, _, K1, q⟩ := hsp; ⟨_, _, K1.ofTry ok, q⟩
    | cont => exact let ⟨_, _, K1, q⟩ := hsp; ⟨_, _, K1.ofTry ok, q⟩
    | ret u => exact let ⟨_, _, _, K1, r, q⟩ := hsp; ⟨_, _, _, K1.ofTry ok, r, q⟩
  case tk =>
    rintro u sx ⟨a, B, sI, pins1, σ1, H1, cls, d, rfl, K1, nb, up, sky, na, os, ag, C, rfl, rfl, hyes, go⟩
    have J : Inv X pins σ1 H1 sI := K1.ofTry ok
    rw [show (X.tr (X.pn ++ pins) _).stack = X.env :: X.outer from hst] at sky
    refine Sky.land Zc.steady hfr hfm sky fun h2 fly up2 => ?_
    have J2 : Inv X pins σ1 H1 { sx with heap := h2 } := J.landed nb fly.1 (up.trans up2) os ag
    obtain ⟨o2, v2, g2, z2, d2⟩ := fly.there
    have nfr : a ∉ frs (X.env :: X.outer) := fun hm => by
      obtain ⟨_, o', e', hnf⟩ := fly.2.2.1.mem hm
      rw [g2] at e'
      cases e'
      exact hnf _ d2
    have nL : a ≠ X.env.locals := fun z => nfr (List.mem_filterMap.mpr ⟨X.env, List.mem_cons_self, by rw [hfm, z]⟩)
    have nF : a ∉ X.fs := fun hm => by
      obtain ⟨e, he, q⟩ := List.mem_filterMap.mp hm
      exact nfr (List.mem_filterMap.mpr ⟨e, List.mem_cons_of_mem _ he, q⟩)
    have newI : sI.heap.get? a = none := by
      cases e : sI.heap.get? a with
      | none => rfl
      | some o =>
        have q := nb a o e (by rw [show (X.tr (X.pn ++ pins) _).stack = X.env :: X.outer from hst]; exact nfr)
        rw [fly.2.1] at q
        cases q
    have new0 : X.s_0.heap.get? a = none := by
      cases e : X.s_0.heap.get? a with
      | none => rfl
      | some o =>
        obtain ⟨o', q⟩ := J.base.there a o e (by rw [hex]; exact fun z => nomatch z)
        rw [newI] at q
        cases q
    have newP : ∀ p ∈ X.pn ++ pins, p.1 ≠ a := fun p hp q => by
      obtain ⟨e, _⟩ := J.pin p hp
      rw [q, newI] at e
      cases e
    have T2 := J2.suite g2 d2 na nL nF
    refine wpAny_handleBy_cons (codeAny_handlers_test ?_) (by intro q; cases q)
    have isT : PySem.W.Looks (model X.prog X.w) h2 (typeOf (.ref a)) (.ref C) := fun A Q E s k q => wpAny_typeOf_ref (k _ _ g2) (by rw [z2.1]; exact q)
    have fits := PySem.W.exm_one (M := model X.prog X.w) J2.kIn isT hyes
    have named : ∀ {Q : Value → Shared → Prop} {E : Value → Shared → Prop}, Q c { sx with heap := h2 } → wpAny (model X.prog X.w) (X.A.mark (some (.ref a))) (eval (.Name x np) X.env) Q E { sx with heap := h2 } := by
      intro Q E q
      obtain ⟨hg, hdb, hm | ⟨hm, hv, hnn⟩⟩ := hc
      · exact ld_glob (X := X.suite a ((a, o2) :: (X.pn ++ pins))) T2 hg hm q hdb
      · exact ld_blt (X := X.suite a ((a, o2) :: (X.pn ++ pins))) T2 hg hm hv q hnn hdb
    refine named (fits.here (codeAny_handlers_suite_as (HandSPX.lands_againZ fly fun h3 fly3 up3 => ?_)))
    have J3 : Inv X pins σ1 H1 { sx with heap := h3 } := J.landed nb fly3.1 ((up.trans up2).trans up3) os ag
    obtain ⟨o3, v3, g3, z3, d3⟩ := fly3.there
    have T3 := J3.suite g3 d3 na nL nF
    refine store_ok (X := X.suite a ((a, o3) :: (X.pn ++ pins))) (v := .ref a) T3 hN hi (.inl hln) rfl (fun s4 T4 => ?_) (.inr hln)
    refine wpAny_mono ((hsu a o3 (X.pn ++ pins)).run [] s4 _ H1 _ T4 (go a na)) (fun f s5 hsp => ?_) (fun _ _ z => False.elim z)
    cases f with
    | next =>
      obtain ⟨σ5, H5, T5, q5⟩ := hsp
      exact gone_ok (X := X.suite a ((a, o3) :: (X.pn ++ pins))) T5 hN hi hln fun s6 T6 => ⟨_, _, keep_inv ok hex T6 z3 ⟨_, d3⟩ new0 newP, q5⟩
    | brk => exact let ⟨_, _, _, q⟩ := hsp; q.elim
    | cont => exact let ⟨_, _, _, q⟩ := hsp; q.elim
    | ret u => exact let ⟨_, _, _, _, _, q⟩ := hsp; q.elim
end
end Dt

/-! The data layer, part 13: what may raise inside a try; isinstance of own errors; count, index. -/
namespace Dt
open PySem L2
section
variable {X : Cx} {mo : Mo} {Wx : WX} {pos p : Pos} {a b c e : Expr} {es : List Expr} {fa fb : En → M RV} {fs : En → M (List AV)} {ga : En → M Bool} {st : Stmt} {sts : List Stmt} {s1 s2 : En → M Out}
/-- an expression in a try: what it raises is told at the slots -/
def DX (X : Cx) (mo : Mo) (Wx : WX) (e : Expr) (f : En → M RV) : Prop :=
  ∃ t : TE, PE X e t ∧ ∀ (S : Addr → Prop) (g : Gh) (W : Wd) (σ : St) (H : Hp) (en : En) (Q : VK), RepE mo X.K S g W σ H en → wp (f en) W (QE mo X.K S g H Q) (EE mo X.K S g H fun cls d H' => Wx cls d σ H') → t σ H Q
def xCall (F : List AV → M RV) (fs : En → M (List AV)) : En → M RV := fun en => (nox (fs en)).bind F
theorem dx_call {x : Str} {k : Nat} {F : List AV → M RV} (h : FnD X.prog X.w X.K X.mg X.base mo x k F) (hr : Room k X.A) (tk : Takes X Wx) (hs : DA X mo E0 (e :: es) fs) (hg : Gl X x := by rfl)
    (hdb : (x == ("__debug__" : Str)) = false := by decide) (he : starEach (e :: es) X.env = (false, eval e X.env) :: starEach es X.env := by rfl) (hpl : (backTo pos (starEach es X.env)).any (·.1) = false := by rfl) :
    DX X mo Wx (.Call (.Name x p) (e :: es) [] pos) (xCall F fs) := by
  obtain ⟨f, fd, ps, F', hm, hk, hb⟩ := h.ex
  obtain ⟨ts, pss, ws⟩ := hs
  refine ⟨_, pe_callSD F' hr hg hm hk hb .nil (fun σ => passAt tk σ) pss hdb he hpl, fun S g W σ H en Q hR hw => ?_⟩
  unfold xCall at hw
  rw [wp_bind] at hw
  refine ws S g W σ H en _ hR (wp_mono (wp_nox (E'' := EE mo X.K S g H E0) hw) (fun as W1 q g1 vs H1 s1 w1 rr1 hl => ?_) fun _ _ q => q)
  show spD mo X.K F (vs ++ []) H1 Q (WE Wx σ)
  rw [List.append_nil]
  exact ⟨S, g1, W1, as, rr1, w1, fun a s => s1.own a (hR.sd a s), wp_mono q (fun _ _ q => q.step s1) fun _ _ q => EE.step (E := fun cls d H' => Wx cls d σ H') s1 q⟩
def xIf (ga : En → M Bool) (fa fb : En → M RV) : En → M RV := fun en => (nox (ga en)).bind fun b => if b = true then fa en else fb en
theorem dx_if (hc : DT X mo E0 c ga) (ha : DX X mo Wx a fa) (hb : DX X mo Wx b fb) : DX X mo Wx (.IfExp c a b pos) (xIf ga fa fb) := by
  obtain ⟨tc, pc, wc⟩ := hc
  obtain ⟨ta, pa, wa⟩ := ha
  obtain ⟨tb, pb, wb⟩ := hb
  refine ⟨tIf tc ta tb, pe_ifExp pc pa pb, fun S g W σ H en Q hR h => ?_⟩
  unfold xIf at h
  rw [wp_bind] at h
  refine wc S g W σ H en _ hR (wp_mono (wp_nox (E'' := EE mo X.K S g H E0) h) (fun b1 W1 q g1 H1 s1 w1 => ?_) fun _ _ q => q)
  cases b1 with
  | true =>
    rw [if_pos rfl] at q ⊢
    exact wa S g1 W1 σ H1 en _ (hR.step s1 w1) (wp_mono q (fun _ _ q => q.step s1) fun _ _ q => EE.step (E := fun cls d H' => Wx cls d σ H') s1 q)
  | false =>
    rw [if_neg Bool.false_ne_true] at q ⊢
    exact wb S g1 W1 σ H1 en _ (hR.step s1 w1) (wp_mono q (fun _ _ q => q.step s1) fun _ _ q => EE.step (E := fun cls d H' => Wx cls d σ H') s1 q)
/-- statements in a try: nothing is stored before it may raise -/
def DXS (X : Cx) (mo : Mo) (Wx : WX) (st : Stmt) (s : En → M Out) : Prop :=
  ∃ t : TS, PS X st t ∧ ∀ (S₀ : Addr → Prop) (g₀ : Gh) (H₀ Fr : Hp) (g : Gh) (W : Wd) (σ : St) (H : Hp) (en : En) (D : Ends), RepS mo X.K S₀ g₀ H₀ Fr g W σ H en → wp (s en) W (QS mo X.K S₀ g₀ H₀ Fr D) (EE mo X.K S₀ g H fun cls d H' => Wx cls d σ H') → t D σ H
theorem dxs_expr (ha : DX X mo Wx a fa) (hs : swapsWith a none pos.line X.env = pure false := by rfl) : DXS X mo Wx (.Expr a pos) (sExpr fa) := by
  obtain ⟨ta, pa, wa⟩ := ha
  refine ⟨tDrop ta, ps_expr pa hs, fun S₀ g₀ H₀ Fr g W σ H en D r h => ?_⟩
  unfold sExpr at h
  rw [wp_bind] at h
  exact wa S₀ g W σ H (expo en) _ r.expoE (wp_mono h (fun r1 W1 q g1 v1 H1 s1 w1 rr1 => q g1 σ H1 (r.step s1 w1)) fun _ _ q => q)
theorem dxs_set {i : Nat} {x : Str} {p' : Pos} (hN : X.N.Nodup) (ha : DX X mo Wx a fa) (hi : X.N[i]? = some x := by rfl) (hx : Loc X.env.scope x := by first | exact Or.inl rfl | exact Or.inr rfl) (hs : swapsWith a (some (.Name x p')) pos.line X.env = pure false := by rfl) (hf : X.fn x = true ∨ X.env.scope.names.lookup x = some .local := by first | exact .inl rfl | exact .inr rfl) :
    DXS X mo Wx (.Assign [.Name x p'] a pos) (sSet i fa) := by
  obtain ⟨ta, pa, wa⟩ := ha
  refine ⟨_, ps_set hN hi hx pa hs hf, fun S₀ g₀ H₀ Fr g W σ H en D r h => ?_⟩
  unfold sSet at h
  rw [wp_bind] at h
  exact wa _ g W σ H (hide en) _ r.hideE (wp_mono h (fun r1 W1 q g1 v1 H1 s1 w1 rr1 => q g1 _ H1 ((r.step s1 w1).set rr1.1)) fun _ _ q g' H' s w => q g' H' s w.any)
def DXSs (X : Cx) (mo : Mo) (Wx : WX) (st : List Stmt) (s : En → M Out) : Prop :=
  ∃ t : TS, PSs X st t ∧ ∀ (S₀ : Addr → Prop) (g₀ : Gh) (H₀ Fr : Hp) (g : Gh) (W : Wd) (σ : St) (H : Hp) (en : En) (D : Ends), RepS mo X.K S₀ g₀ H₀ Fr g W σ H en → wp (s en) W (QS mo X.K S₀ g₀ H₀ Fr D) (EE mo X.K S₀ g H fun cls d H' => Wx cls d σ H') → t D σ H
theorem dxss_one (h : DXS X mo Wx st s1) : DXSs X mo Wx [st] s1 := let ⟨t, p, w⟩ := h; ⟨t, pss_one p, w⟩
def xIfS (ga : En → M Bool) (s1 s2 : En → M Out) : En → M Out := fun en => (nox (ga (expo en))).bind fun b => if b = true then s1 en else s2 en
theorem dxs_if {ss1 ss2 : List Stmt} (hc : DT X mo E0 c ga) (h1 : DXSs X mo Wx ss1 s1) (h2 : DXSs X mo Wx ss2 s2) : DXS X mo Wx (.If c ss1 ss2 pos) (xIfS ga s1 s2) := by
  obtain ⟨tc, pc, wc⟩ := hc
  obtain ⟨t1, p1, w1⟩ := h1
  obtain ⟨t2, p2, w2⟩ := h2
  refine ⟨tIfS tc t1 t2, ps_if pc p1 p2, fun S₀ g₀ H₀ Fr g W σ H en D r h => ?_⟩
  unfold xIfS at h
  rw [wp_bind] at h
  refine wc S₀ g W σ H (expo en) _ r.expoE (wp_mono (wp_nox (E'' := EE mo X.K S₀ g H E0) h) (fun b W1 q g1 H1 s w => ?_) fun _ _ q => q)
  cases b with
  | true =>
    rw [if_pos rfl] at q
    exact iteT (w1 S₀ g₀ H₀ Fr g1 W1 σ H1 en D (r.step s w) (wp_mono q (fun _ _ q => q) fun _ _ q => EE.step (E := fun cls d H' => Wx cls d σ H') s q))
  | false =>
    rw [if_neg Bool.false_ne_true] at q
    exact iteF (w2 S₀ g₀ H₀ Fr g1 W1 σ H1 en D (r.step s w) (wp_mono q (fun _ _ q => q) fun _ _ q => EE.step (E := fun cls d H' => Wx cls d σ H') s q))
end
section
variable {mo : Mo} {K : PySem.W.Frag} {S₀ : Addr → Prop} {g₀ g : Gh} {H₀ Fr H : Hp} {W : Wd} {σ : St} {en : En}
/-- a slot of which nothing is said -/
theorem RepS.junk (r : RepS mo K S₀ g₀ H₀ Fr g W σ H en) {i : Nat} {o : Option V} (h : en[i]? = some none) : RepS mo K S₀ g₀ H₀ Fr g W (σ.set i o) H en := by
  have ne : ∀ {j : Nat} {s : Slot}, en[j]? = some (some s) → i ≠ j := fun {j s} e z => by
    subst z
    rw [h] at e
    cases e
  have back : ∀ {b : Addr}, Ow (σ.set i o) en b → Ow σ en b := fun {b} ⟨j, xs, e1, e2⟩ => ⟨j, xs, e1, by rw [List.getElem?_set_ne (ne e1)] at e2; exact e2⟩
  refine ⟨by rw [List.length_set]; exact r.len, r.base, fun a u e => ?_, fun j a e => ?_, fun j xs e => ?_, fun j k xs ys q e1 e2 e3 e4 => ?_, r.wok, r.sd⟩
  · obtain ⟨e1, n1, n2⟩ := r.frm a u e
    exact ⟨e1, fun z => n1 (back z), n2⟩
  · obtain ⟨v, e1, q⟩ := r.val j a e
    exact ⟨v, by rw [List.getElem?_set_ne (ne e)]; exact e1, q.less fun b z => z.imp_right back⟩
  · obtain ⟨p, vs, e1, h1, h2, h3, h4⟩ := r.own j xs e
    exact ⟨p, vs, by rw [List.getElem?_set_ne (ne e)]; exact e1, h1, h2, h3, h4.mono (cut_mono fun b o eb nb => ⟨eb, fun z => nb (z.imp_left fun z => z.imp_right back)⟩)⟩
  · rw [List.getElem?_set_ne (ne e1)] at e3
    rw [List.getElem?_set_ne (ne e2)] at e4
    exact r.inj j k xs ys q e1 e2 e3 e4
end
section
variable {X : Cx} {mo : Mo} {E : XK} {pos pos' np np2 yp ap p : Pos} {a b : Expr} {fa fb : En → M RV} {body : List Stmt} {bb : En → M Out}
/-- try: .. except X as n: y = n; n in slot i, y in slot j -/
def sTry (i j : Nat) (bb : En → M Out) : En → M Out := fun en => match en[i]? with
  | some none => catchM (bb en) fun er => .ret (.nx (en.set j (some (.v (.exc er)))))
  | _ => .stuck
theorem ds_try {x n y : Str} {i j : Nat} {CB : Addr} (hN : X.N.Nodup) (hx : X.mg x = some (.ref CB)) (hm : ∀ er, PySem.W.exmOne X.K (.ref (mo.ec er)) (.ref CB) = some true)
    (hb : ∀ (W : WX) (pn : List (Addr × Obj)) (xe : Value → Shared → Prop), Takes (X.tr pn xe) W → DXSs (X.tr pn xe) mo W body bb)
    (hst : X.stack = X.env :: X.outer := by rfl) (hfm : X.env.frame = some X.env.locals := by rfl) (hex : X.ex = [] := by rfl) (hi : X.N[i]? = some n := by rfl) (hj : X.N[j]? = some y := by rfl) (hij : i ≠ j := by decide) (hln : X.env.kindOf n = some .local := by rfl)
    (hly : Loc X.env.scope y := by first | exact Or.inl rfl | exact Or.inr rfl) (hvn : Vis X.env.scope n := by first | exact Or.inl rfl | exact Or.inr (Or.inl rfl) | exact Or.inr (Or.inr rfl)) (hg : Gl X x := by rfl) (hdx : (x == ("__debug__" : Str)) = false := by decide) (hdn : (n == ("__debug__" : Str)) = false := by decide) (hcn : (n == ("__classdict__" : Str)) = false := by decide)
    (hsw : swapsWith (.Name n np2) (some (.Name y yp)) ap.line X.env = pure false := by rfl) (hfy : X.fn y = true ∨ X.env.scope.names.lookup y = some .local := by first | exact .inl rfl | exact .inr rfl) :
    DS X mo E (.Try body [.ExceptHandler (some (.Name x np)) (some n) [.Assign [.Name y yp] (.Name n np2) ap] pos'] [] [] pos) (sTry i j bb) := by
  refine ⟨_, ps_tryKeep (tb := fun W D σ H => ∃ (S₀ : Addr → Prop) (g₀ : Gh) (H₀ Fr : Hp) (g : Gh) (W' : Wd) (en : En), RepS mo X.K S₀ g₀ H₀ Fr g W' σ H en ∧ wp (bb en) W' (QS mo X.K S₀ g₀ H₀ Fr D) (EE mo X.K S₀ g H fun cls d H' => W cls d σ H')) (ts := tAsg (tVar i) (gName j)) hst hfm hex hN hi hln ⟨hg, hdx, .inl hx⟩
    (fun W pn xe tk => ?_) (fun a oe pn => pss_one (ps_set hN hj hly (pe_var hi hvn hdn hcn) hsw hfy)), fun S₀ g₀ H₀ Fr g W σ H en D r h => ?_⟩
  · obtain ⟨t, ps, w⟩ := hb W pn xe tk
    exact ⟨fun pins s σ H D I ⟨S₀, g₀, H₀, Fr, g, W', en, r, hw⟩ => ps.run pins s σ H D I (w S₀ g₀ H₀ Fr g W' σ H en D r hw)⟩
  · unfold sTry at h
    split at h
    · rename_i hn
      rw [wp_catch] at h
      refine ⟨S₀, g₀, H₀, Fr, g, W, en, r, wp_mono h (fun _ _ q => q) fun er W1 q g1 H1 s1 w1 => ⟨mo.ec er, rfl, rfl, hm er, fun a ha => ⟨.ref a, ?_, ?_⟩⟩⟩
      · have hl : i < σ.length := by rw [← r.len]; exact (List.getElem?_eq_some_iff.mp hn).1
        exact List.getElem?_set_self hl
      · have r1 : RepS mo X.K S₀ g₀ H₀ Fr g1 W1 σ H1 en := r.step s1 w1
        have r2 := r1.step (g' := g1) (W' := W1) (H' := upd H1 a (.ext (excP (mo.ec er) a))) (.of_same (same_new ha)) (w1.same (same_new ha))
        have r3 := (r2.junk (o := some (.ref a)) hn).set (i := j) (v := .ref a) (a := .exc er) ⟨a, rfl, upd_same, fun z => z.elim (fun z => (r1.sdH z).ne ha) fun z => ?_, fun z => w1.rdom z ha⟩
        · refine q g1 _ _ (r3.junk ?_)
          rw [List.getElem?_set_ne hij.symm]
          exact hn
        · obtain ⟨⟨vs, e'⟩, _⟩ := r1.ows (a := a) (by
            obtain ⟨k, xs, e1, e2⟩ := z
            refine ⟨k, xs, e1, ?_⟩
            rw [List.getElem?_set_ne (fun z => by subst z; rw [hn] at e1; cases e1)] at e2
            exact e2)
          rw [ha] at e'
          cases e'
    · exact h.elim
end
end Dt

/-! The data layer, part 14: isinstance of own errors; count, index; list(range), tuple(range). -/
namespace Dt
open PySem L2
/-- what the head tells of the error classes -/
structure ErrF (K : PySem.W.Frag) (mg : Str → Option Value) (mo : Mo) : Prop where
  cls : ∀ er, ExcC K (mo.ec er)
  one : ∀ er er', PySem.W.kitOne K (.ref (mo.ec er)) (.ref (mo.ec er')) = some (decide (er = er'))
  base : ∃ C, mg "BoundError" = some (.ref C) ∧ (∀ er, PySem.W.kitOne K (.ref (mo.ec er)) (.ref C) = some true) ∧ ∀ er, PySem.W.exmOne K (.ref (mo.ec er)) (.ref C) = some true
  val : ∀ er, PySem.W.kitOne K (.ref (mo.ec er)) (.type "ValueError") = some true
section
variable {X : Cx} {mo : Mo} {E : XK} {pos p q apos : Pos} {a b e : Expr} {es : List Expr} {fa fb : En → M RV} {fs : En → M (List AV)}
/-- isinstance of an exception object -/
theorem call_isX : CallR X (.builtin "isinstance") (fun xs H Q => ∃ (z D : Addr) (c : V) (cv : Value) (k : Bool), xs = [.ref z, c] ∧ ExcC X.K D ∧ H z = some (.ext (excP D z)) ∧ (∀ u, RelV c u → u = cv) ∧ PySem.W.kitOne X.K (.ref D) cv = some k ∧ Q (.bl k) H) := by
  intro pins s σ H xs us Q I r h
  obtain ⟨z, D, c, cv, k, rfl, hC, hz, hcv, hk, hq⟩ := h
  cases r with
  | cons rx rr =>
    cases rr with
    | cons rt rr =>
      cases rr
      cases rx
      cases hcv _ rt
      obtain ⟨⟨oe, hg, ⟨h1, h2⟩, vs, hd⟩, _⟩ := I.hok z _ hz
      have J : PySem.W.InstAt s.heap z oe D none := by
        obtain ⟨oc, od, oda, osl⟩ := oe
        dsimp only at h1 h2 hd
        subst h1 h2 hd
        exact ⟨hg, rfl, rfl, trivial⟩
      exact PySem.W.kia_one (PySem.W.handS_kitx_exc hC.hg hC.hk hC.hs hC.hd hC.ha hC.hn hC.ht hC.hm) I.kIn J hk (fun z => nomatch z) fun tk => ⟨.bl k, H, I.kept (t' := tk) fun _ _ z => z, rfl, hq⟩
def dIsE (t : Err → Bool) (fa : En → M RV) : En → M RV := fun en => (fa en).bind fun r => match r.1 with
  | .exc er => rB (t er)
  | _ => .stuck
theorem isE_run {t : Err → Bool} {ta : TE} {c : V} {cv : Value} (F : ErrF X.K X.mg mo) (hc : ∀ u, RelV c u → u = cv) (hk : ∀ er, PySem.W.kitOne X.K (.ref (mo.ec er)) cv = some (t er))
    (wa : ∀ (S : Addr → Prop) (g : Gh) (W : Wd) (σ : St) (H : Hp) (en : En) (Q : VK), RepE mo X.K S g W σ H en → wp (fa en) W (QE mo X.K S g H Q) (EE mo X.K S g H E) → ta σ H Q)
    (S : Addr → Prop) (g : Gh) (W : Wd) (σ : St) (H : Hp) (en : En) (Q : VK) (hR : RepE mo X.K S g W σ H en) (h : wp (dIsE t fa en) W (QE mo X.K S g H Q) (EE mo X.K S g H E)) :
    tCB (fun xs H Q => ∃ (z D : Addr) (c : V) (cv : Value) (k : Bool), xs = [.ref z, c] ∧ ExcC X.K D ∧ H z = some (.ext (excP D z)) ∧ (∀ u, RelV c u → u = cv) ∧ PySem.W.kitOne X.K (.ref D) cv = some k ∧ Q (.bl k) H) (tCons ta (tCons (tC c) tNil)) σ H Q := by
  unfold dIsE at h
  rw [wp_bind] at h
  refine wa S g W σ H en _ hR (wp_mono h (fun r1 W1 q g1 v1 H1 s1 w1 rr1 => ?_) fun _ _ q => q)
  try dsimp only at q
  split at q
  · rename_i er e
    replace rr1 := RepR.at rr1 e
    obtain ⟨z, rfl, hz, _⟩ := rr1.1
    exact ⟨z, mo.ec er, c, cv, _, rfl, F.cls er, hz, hc, hk er, QE.ret (QE.step s1 q) w1 (Rp.bl _)⟩
  · exact q.elim
theorem de_isE {x : Str} {C : Addr} {t : Err → Bool} (F : ErrF X.K X.mg mo) (hm : X.mg "isinstance" = none) (hx : X.mg x = some (.ref C)) (hk : ∀ er, PySem.W.kitOne X.K (.ref (mo.ec er)) (.ref C) = some (t er)) (ha : DE X mo E a fa)
    (hg : Gl X "isinstance" := by rfl) (hg2 : Gl X x := by rfl) (hdb : (x == ("__debug__" : Str)) = false := by decide) (he : starEach [a, .Name x q] X.env = (false, eval a X.env) :: starEach [.Name x q] X.env := by rfl)
    (he2 : starEach [.Name x q] X.env = [(false, eval (.Name x q) X.env)] := by rfl) (hpl : (backTo pos (starEach [.Name x q] X.env)).any (·.1) = false := by rfl) : DE X mo E (.Call (.Name "isinstance" p) [a, .Name x q] [] pos) (dIsE t fa) := by
  obtain ⟨ta, pa, wa⟩ := ha
  have pt : PE X (.Name x q) (tC (.ref C)) := pe_glob (v := .ref C) hg2 hx rfl hdb
  exact ⟨_, pe_callB call_isX hg hm PyProof.Rows.boot_isinstance (pa_cons pa (pa_cons pt pa_nil he2) he) (by decide) (by decide) he hpl, isE_run F (c := .ref C) (fun u r => by cases r; rfl) hk wa⟩
theorem de_isErr {x : Str} {er' : Err} (F : ErrF X.K X.mg mo) (hm : X.mg "isinstance" = none) (hx : ExD X.K X.mg mo x er') (ha : DE X mo E a fa)
    (hg : Gl X "isinstance" := by rfl) (hg2 : Gl X x := by rfl) (hdb : (x == ("__debug__" : Str)) = false := by decide) (he : starEach [a, .Name x q] X.env = (false, eval a X.env) :: starEach [.Name x q] X.env := by rfl)
    (he2 : starEach [.Name x q] X.env = [(false, eval (.Name x q) X.env)] := by rfl) (hpl : (backTo pos (starEach [.Name x q] X.env)).any (·.1) = false := by rfl) : DE X mo E (.Call (.Name "isinstance" p) [a, .Name x q] [] pos) (dIsE (fun er => decide (er = er')) fa) :=
  de_isE F hm hx.g (fun er => F.one er er') ha hg hg2 hdb he he2 hpl
theorem de_isBase (F : ErrF X.K X.mg mo) (hm : X.mg "isinstance" = none) (ha : DE X mo E a fa)
    (hg : Gl X "isinstance" := by rfl) (hg2 : Gl X "BoundError" := by rfl) (he : starEach [a, .Name "BoundError" q] X.env = (false, eval a X.env) :: starEach [.Name "BoundError" q] X.env := by rfl)
    (he2 : starEach [.Name "BoundError" q] X.env = [(false, eval (.Name "BoundError" q) X.env)] := by rfl) (hpl : (backTo pos (starEach [.Name "BoundError" q] X.env)).any (·.1) = false := by rfl) : DE X mo E (.Call (.Name "isinstance" p) [a, .Name "BoundError" q] [] pos) (dIsE (fun _ => true) fa) := by
  obtain ⟨C, h1, h2, _⟩ := F.base
  exact de_isE F hm h1 h2 ha hg hg2 (by decide) he he2 hpl
theorem de_isVal (F : ErrF X.K X.mg mo) (hm : X.mg "isinstance" = none) (hm2 : X.mg "ValueError" = none) (ha : DE X mo E a fa)
    (hg : Gl X "isinstance" := by rfl) (hg2 : Gl X "ValueError" := by rfl) (he : starEach [a, .Name "ValueError" q] X.env = (false, eval a X.env) :: starEach [.Name "ValueError" q] X.env := by rfl)
    (he2 : starEach [.Name "ValueError" q] X.env = [(false, eval (.Name "ValueError" q) X.env)] := by rfl) (hpl : (backTo pos (starEach [.Name "ValueError" q] X.env)).any (·.1) = false := by rfl) : DE X mo E (.Call (.Name "isinstance" p) [a, .Name "ValueError" q] [] pos) (dIsE (fun _ => true) fa) := by
  obtain ⟨ta, pa, wa⟩ := ha
  have pt : PE X (.Name "ValueError" q) (tC (.ty "ValueError")) := pe_bltn hg2 hm2 boot_ValueError rfl (by decide) (by decide)
  exact ⟨_, pe_callB call_isX hg hm PyProof.Rows.boot_isinstance (pa_cons pa (pa_cons pt pa_nil he2) he) (by decide) (by decide) he hpl, isE_run F (c := .ty "ValueError") (cv := .type "ValueError") (fun u r => r) F.val wa⟩

/-! ### l.index(x), l.count(x) -/
def oIndex : AV → AV → M RV
  | .d (.list ds), .d d => if SeqAt.shaped (.list ds) = true ∧ SeqAt.shaped d = true then (match ds.findIdx? (fun z => PyData.eqv z d) with
    | some j => rI' (j : Nat)
    | none => .stuck) else .stuck
  | _, _ => .stuck
def oCount : AV → AV → M RV
  | .d (.list ds), .d d => if SeqAt.shaped (.list ds) = true ∧ SeqAt.shaped d = true then rI' (ds.countP (fun z => PyData.eqv z d) : Nat) else .stuck
  | _, _ => .stuck
def rCountD (K : PySem.W.Frag) : V → List V → Hp → VK → Prop := fun x xs H Q => ∃ (l : Addr) (y : V) (d : PyData) (ds : List PyData), x = V.ref l ∧ xs = [y] ∧ Dp K H (V.ref l) (.list ds) ∧ Dp K H y d ∧
  SeqAt.shaped (.list ds) = true ∧ SeqAt.shaped d = true ∧ Q (.int (ds.countP fun z => PyData.eqv z d : Nat)) H
theorem mt_countD (hu : X.A.units + 65 < cLine) : MtR X "list.count" (rCountD X.K) := by
  intro pins s σ H x xs v us Q I rx rxs h
  obtain ⟨l, y, d, ds, rfl, rfl, hl, hy, sl, sd, hq⟩ := h
  cases rx
  cases rxs with
  | cons ry rt =>
    rename_i uy ut
    cases rt
    obtain ⟨bs, rd⟩ := Dp.reads I d y uy hy ry
    have lay : PyData.canLayAll0 ds = true := SeqAt.canLay_of_shaped sl
    have room : X.A.units + 1 + min (PyData.depthAll ds) d.depth < cLine := PyProof.Rows.room_in_shaped sd hu
    cases hl with
    | lst hs hall =>
      obtain ⟨its, rv, ⟨⟨cls, dd, data, sls⟩, n, ho, hc, hdn, hdt⟩, hlen⟩ := I.list hs
      simp only at hc hdt
      subst hc hdt
      obtain ⟨as, ra⟩ := Dp.readsAll I ds _ its hall rv
      have em : its.map (SeqAt.readOf s.heap) = ds := SeqAt.readsAll_map ds its as lay ra
      refine call_meets PySem.F.slot_list_count ⟨_, ho, rfl⟩ PySem.F.entry_list_count (PySem.F.args_list_count_2 _ _)
        (SeqAt.list_countAt l its.toArray n dd sls uy fun u => PyData.eqv (SeqAt.readOf s.heap u) d) ⟨ho, SeqAt.items_eqAt (vs := its.toArray) (show ReadsAll s.heap its.toArray.toList ds as from ra) rd lay (SeqAt.canLay_of_shaped sd) room, ?_⟩
      have ec : its.toArray.toList.countP (fun u => PyData.eqv (SeqAt.readOf s.heap u) d) = ds.countP fun z => PyData.eqv z d := by
        rw [← em, List.countP_map]
        rfl
      exact ⟨.int (ds.countP fun z => PyData.eqv z d : Nat), H, I.tok _, ⟨s.toks, congrArg (fun m : Nat => Value.int (m : Int) s.toks) ec⟩, hq⟩
def dMeth (f : AV → AV → M RV) (fa fb : En → M RV) : En → M RV := fun en => (fa en).bind fun x => match x.1 with
  | .d (.list _) => (fb en).bind fun y => f x.1 y.1
  | _ => .stuck
def MethD (mo : Mo) (K : PySem.W.Frag) (r : V → List V → Hp → VK → Prop) (f : AV → AV → M RV) : Prop :=
  ∀ (S : Addr → Prop) (g : Gh) (W : Wd) (H : Hp) (x y : V) (a b : AV) (Q : VK) (E' : Err → Wd → Prop), WOk mo K S g W H → (∀ a, S a → OL g H a) → RepA mo K S g H x a → RepA mo K S g H y b → wp (f a b) W (QE mo K S g H Q) E' → r x [y] H Q
theorem meth_run {r : V → List V → Hp → VK → Prop} {f : AV → AV → M RV} {ta tb : TE} (hd : MethD mo X.K r f)
    (wa : ∀ (S : Addr → Prop) (g : Gh) (W : Wd) (σ : St) (H : Hp) (en : En) (Q : VK), RepE mo X.K S g W σ H en → wp (fa en) W (QE mo X.K S g H Q) (EE mo X.K S g H E) → ta σ H Q)
    (wb : ∀ (S : Addr → Prop) (g : Gh) (W : Wd) (σ : St) (H : Hp) (en : En) (Q : VK), RepE mo X.K S g W σ H en → wp (fb en) W (QE mo X.K S g H Q) (EE mo X.K S g H E) → tb σ H Q)
    (S : Addr → Prop) (g : Gh) (W : Wd) (σ : St) (H : Hp) (en : En) (Q : VK) (hR : RepE mo X.K S g W σ H en) (h : wp (dMeth f fa fb en) W (QE mo X.K S g H Q) (EE mo X.K S g H E)) : tBM X.K "list" r ta (tCons tb tNil) σ H Q := by
  unfold dMeth at h
  rw [wp_bind] at h
  refine wa S g W σ H en _ hR (wp_mono h (fun r1 W1 q g1 v1 H1 s1 w1 rr1 => ?_) fun _ _ q => q)
  try dsimp only at q
  split at q
  · rename_i xs e
    have rr1' := RepR.at rr1 e
    obtain ⟨l, us, rfl, hl, al⟩ := Rp.lst_inv rr1'.1
    refine ⟨.inl ⟨rfl, us, SqL.of (cutS hl)⟩, ?_⟩
    rw [wp_bind] at q
    refine wb S g1 W1 σ H1 en _ (hR.step s1 w1) (wp_mono q (fun r2 W2 q2 g2 v2 H2 s2 w2 rr2 => ?_) fun _ _ q => q.step s1)
    exact hd S g2 W2 H2 _ v2 r1.1 r2.1 Q _ w2 (fun a s => s2.own a (s1.own a (hR.sd a s))) (rr1.1.step s2) rr2.1 (wp_mono q2 (fun _ _ q => q.step (s1.trans s2)) fun _ _ q => q)
  · exact q.elim
theorem md_index {K : PySem.W.Frag} : MethD mo K (rIndexD K) oIndex := by
  intro S g W H x y a b Q E' w sd ra rb h
  unfold oIndex at h
  split at h
  · split at h
    · rename_i hl
      split at h
      · rename_i j hj
        obtain ⟨l, us, rfl, hp, ap⟩ := Rp.lst_inv ra
        obtain ⟨h1, h2, h3⟩ := List.findIdx?_eq_some_iff_getElem.mp hj
        refine ⟨l, y, _, _, j, _, rfl, rfl, ra.dp, rb.dp, hl.1, hl.2, List.getElem?_eq_getElem h1, h2, fun m z hm hz => ?_, QE.ret h w (Rp.int _)⟩
        obtain ⟨hm', rfl⟩ := List.getElem?_eq_some_iff.mp hz
        simpa using h3 m hm
      · exact h.elim
    · exact h.elim
  · exact h.elim
theorem md_count {K : PySem.W.Frag} : MethD mo K (rCountD K) oCount := by
  intro S g W H x y a b Q E' w sd ra rb h
  unfold oCount at h
  split at h
  · split at h
    · rename_i hl
      obtain ⟨l, us, rfl, hp, ap⟩ := Rp.lst_inv ra
      exact ⟨l, y, _, _, rfl, rfl, ra.dp, rb.dp, hl.1, hl.2, QE.ret h w (Rp.int _)⟩
    · exact h.elim
  · exact h.elim
theorem de_index {k : Nat} (hr : Room (k + 1) X.A) (ha : DE X mo E a fa) (hb : DE X mo E b fb)
    (hbase : attributeBase a "index" X.env (eval a X.env) = eval a X.env := by rfl)
    (hfew : ((backTo p (starEach [b] X.env)).all (fun x => !x.1) && (backToKw p (keywordEach [] X.env)).all (fun x => x.1.isSome) && decide ([b].length + ([] : List Keyword).length + (if ([] : List Keyword).isEmpty then 0 else 1) < 30)) = true := by rfl)
    (hline : (apos.endLine == p.line) = true := by rfl) (hst : starEach [b] X.env = [(false, eval b X.env)] := by rfl) : DE X mo E (.Call (.Attribute a "index" apos) [b] [] p) (dMeth oIndex fa fb) := by
  obtain ⟨ta, pa, wa⟩ := ha
  obtain ⟨tb, pb, wb⟩ := hb
  exact ⟨_, pe_bm PySem.F.plainAttrs_list PySem.F.slot_list_index PySem.F.type_list_index (mt_indexD (room65 hr)) pa (pa_cons pb pa_nil hst) hbase hfew hline hst rfl, meth_run md_index wa wb⟩
theorem de_count {k : Nat} (hr : Room (k + 1) X.A) (ha : DE X mo E a fa) (hb : DE X mo E b fb)
    (hbase : attributeBase a "count" X.env (eval a X.env) = eval a X.env := by rfl)
    (hfew : ((backTo p (starEach [b] X.env)).all (fun x => !x.1) && (backToKw p (keywordEach [] X.env)).all (fun x => x.1.isSome) && decide ([b].length + ([] : List Keyword).length + (if ([] : List Keyword).isEmpty then 0 else 1) < 30)) = true := by rfl)
    (hline : (apos.endLine == p.line) = true := by rfl) (hst : starEach [b] X.env = [(false, eval b X.env)] := by rfl) : DE X mo E (.Call (.Attribute a "count" apos) [b] [] p) (dMeth oCount fa fb) := by
  obtain ⟨ta, pa, wa⟩ := ha
  obtain ⟨tb, pb, wb⟩ := hb
  exact ⟨_, pe_bm PySem.F.plainAttrs_list PySem.F.slot_list_count PySem.F.type_list_count (mt_countD (room65 hr)) pa (pa_cons pb pa_nil hst) hbase hfew hline hst rfl, meth_run md_count wa wb⟩

/-! ### list(range(n)), tuple(range(n)) -/
theorem rangeP_rep {K : PySem.W.Frag} {H : Hp} (n : Int) : RpAll K H (rgV 0 n) (rangeP 0 n.toNat) := by
  unfold rgV rangeP
  rw [Int.sub_zero]
  generalize List.range n.toNat = l
  induction l with
  | nil => exact .nil
  | cons i l ih => exact .cons (.int _) ih
def dListR (tup : Bool) (fa : En → M RV) : En → M RV := fun en => (fa en).bind fun r => match r.1 with
  | .d (.int n) => if 0 ≤ n ∧ n ≤ 1000000 then (if tup = true then .ret (.d (.tuple (rangeP 0 n.toNat)), false) else .ret (.d (.list (rangeP 0 n.toNat)), true)) else .stuck
  | _ => .stuck
theorem de_listR {p2 pos2 : Pos} (hc : X.calm = true) (hm : X.mg "list" = none) (hm2 : X.mg "range" = none) (ha : DE X mo E a fa) (hg : Gl X "list" := by rfl) (hg2 : Gl X "range" := by rfl) (he : starEach [a] X.env = [(false, eval a X.env)] := by rfl)
    (he2 : starEach [.Call (.Name "range" p2) [a] [] pos2] X.env = [(false, eval (.Call (.Name "range" p2) [a] [] pos2) X.env)] := by rfl) : DE X mo E (.Call (.Name "list" p) [.Call (.Name "range" p2) [a] [] pos2] [] pos) (dListR false fa) := by
  obtain ⟨ta, pa, wa⟩ := ha
  refine ⟨_, pe_listRg hc hg hm (prg_1 hg2 hm2 pa he) he2, fun S g W σ H en Q hR h => ?_⟩
  unfold dListR at h
  rw [wp_bind] at h
  refine wa S g W σ H en _ hR (wp_mono h (fun r1 W1 q g1 v1 H1 s1 w1 rr1 => ?_) fun _ _ q => q)
  try dsimp only at q
  split at q
  · rename_i n e
    replace rr1 := RepR.at rr1 e
    split at q
    · rename_i hn
      rw [if_neg Bool.false_ne_true] at q
      exact ⟨n, Rp.int_inv rr1.1, .of_le (Int.le_refl 0) (by omega) (by omega) hn.1, fun l hl => QE.new (QE.step s1 q) w1 (fun a s => s1.own a (hR.sd a s)) hl (rangeP_rep n)⟩
    · exact q.elim
  · exact q.elim
theorem de_tupR {p2 pos2 : Pos} (hc : X.calm = true) (hm : X.mg "tuple" = none) (hm2 : X.mg "range" = none) (ha : DE X mo E a fa) (hg : Gl X "tuple" := by rfl) (hg2 : Gl X "range" := by rfl) (he : starEach [a] X.env = [(false, eval a X.env)] := by rfl)
    (he2 : starEach [.Call (.Name "range" p2) [a] [] pos2] X.env = [(false, eval (.Call (.Name "range" p2) [a] [] pos2) X.env)] := by rfl) : DE X mo E (.Call (.Name "tuple" p) [.Call (.Name "range" p2) [a] [] pos2] [] pos) (dListR true fa) := by
  obtain ⟨ta, pa, wa⟩ := ha
  refine ⟨_, pe_tupRg hc hg hm (prg_1 hg2 hm2 pa he) he2, fun S g W σ H en Q hR h => ?_⟩
  unfold dListR at h
  rw [wp_bind] at h
  refine wa S g W σ H en _ hR (wp_mono h (fun r1 W1 q g1 v1 H1 s1 w1 rr1 => ?_) fun _ _ q => q)
  try dsimp only at q
  split at q
  · rename_i n e
    replace rr1 := RepR.at rr1 e
    split at q
    · rename_i hn
      rw [if_pos rfl] at q
      exact ⟨n, Rp.int_inv rr1.1, .of_le (Int.le_refl 0) (by omega) (by omega) hn.1, fun l hl => QE.newT (QE.step s1 q) w1 (fun a s => s1.own a (hR.sd a s)) hl (rangeP_rep n)⟩
    · exact q.elim
  · exact q.elim
/-! ### list(range(a, b)) -/
def dListR2 (fs : En → M (List AV)) : En → M RV := fun en => (fs en).bind fun as => match as with
  | [.d (.int m), .d (.int n)] => if (0 ≤ m ∧ m ≤ 1000000) ∧ (0 ≤ n ∧ n ≤ 1000000) then .ret (.d (.list (rangeP m (n - m).toNat)), true) else .stuck
  | _ => .stuck
theorem rangeP_rep2 {K : PySem.W.Frag} {H : Hp} (m n : Int) : RpAll K H (rgV m n) (rangeP m (n - m).toNat) := by
  unfold rgV rangeP
  generalize List.range (n - m).toNat = l
  induction l with
  | nil => exact .nil
  | cons i l ih => exact .cons (.int _) ih
def dListR2' (fa fb : En → M RV) : En → M RV := fun en => (fa en).bind fun r => (fb en).bind fun r2 => match r.1, r2.1 with
  | .d (.int m), .d (.int n) => if (0 ≤ m ∧ m ≤ 1000000) ∧ (0 ≤ n ∧ n ≤ 1000000) then .ret (.d (.list (rangeP m (n - m).toNat)), true) else .stuck
  | _, _ => .stuck
theorem de_listR2 {p2 pos2 : Pos} (hc : X.calm = true) (hm : X.mg "list" = none) (hm2 : X.mg "range" = none) (ha : DE X mo E a fa) (hb : DE X mo E b fb) (hg : Gl X "list" := by rfl) (hg2 : Gl X "range" := by rfl) (he : starEach [a, b] X.env = (false, eval a X.env) :: starEach [b] X.env := by rfl)
    (hb1 : starEach [b] X.env = (false, eval b X.env) :: starEach [] X.env := by rfl) (hpl : (backTo pos2 (starEach [b] X.env)).any (·.1) = false := by rfl)
    (he2 : starEach [.Call (.Name "range" p2) [a, b] [] pos2] X.env = [(false, eval (.Call (.Name "range" p2) [a, b] [] pos2) X.env)] := by rfl) : DE X mo E (.Call (.Name "list" p) [.Call (.Name "range" p2) [a, b] [] pos2] [] pos) (dListR2' fa fb) := by
  obtain ⟨ta, pa, wa⟩ := ha
  obtain ⟨tb, pb, wb⟩ := hb
  refine ⟨_, pe_listRg hc hg hm (prg_2 hg2 hm2 pa pb he hb1 hpl) he2, fun S g W σ H en Q hR h => ?_⟩
  unfold dListR2' at h
  rw [wp_bind] at h
  refine wa S g W σ H en _ hR (wp_mono h (fun r1 W1 q g1 v1 H1 s1 w1 rr1 => ?_) fun _ _ q => q)
  rw [wp_bind] at q
  refine wb S g1 W1 σ H1 en _ (hR.step s1 w1) (wp_mono q (fun r2 W2 q2 g2 v2 H2 s2 w2 rr2 => ?_) fun _ _ q => q.step s1)
  try dsimp only at q2
  split at q2
  · rename_i m n e e'
    replace rr1 := RepR.at rr1 e
    replace rr2 := RepR.at rr2 e'
    split at q2
    · rename_i hn
      exact ⟨m, n, Rp.int_inv rr1.1, Rp.int_inv rr2.1, .of_le hn.1.1 (by omega) (by omega) hn.2.1, fun l hl => QE.new (QE.step (s1.trans s2) q2) w2 (fun a s => s2.own a (s1.own a (hR.sd a s))) hl (rangeP_rep2 m n)⟩
    · exact q2.elim
  · exact q2.elim
end
end Dt

/-! The data layer, part 15: the head's facts of the error classes. -/
namespace Dt
open PySem L2
def errN : Err → Str
  | .bounds => "BadBounds" | .number => "BadNumber" | .order => "BadOrder" | .text => "BadText" | .missing => "NotFound"
def allE : List Err := [.bounds, .number, .order, .text, .missing]
theorem mem_allE (er : Err) : er ∈ allE := by cases er <;> decide
def excCB (K : PySem.W.Frag) (D : Addr) : Bool :=
  (PySem.W.findIn K (.ref D) "__getattribute__" == some (some (.builtin "BaseException.__getattribute__"))) && ((PySem.W.findIn K (.ref D) "__getattr__" == some none) && ((PySem.W.subIn K (.ref D) (.type "BaseException") == some true) && (PySem.W.hasDictIn K D &&
  ((PySem.W.findIn K (.ref D) "__class__" == some (some (.builtin "object.__class__"))) && ((PySem.W.specialIn K (.builtin "object.__class__") "__get__" == some (some (.builtin "getset_descriptor.__get__"))) && ((PySem.W.takesIn K (.builtin "object.__class__") == some true) && (PySem.W.mroIn K D (.type "object") == some true)))))))
theorem excC_of {K : PySem.W.Frag} {D : Addr} (h : excCB K D = true) : ExcC K D := by
  unfold excCB at h
  simp only [Bool.and_eq_true, beq_iff_eq] at h
  obtain ⟨h1, h2, h3, h4, h5, h6, h7, h8⟩ := h
  exact ⟨h1, h2, h3, h4, h5, h6, h7, h8⟩
def errB (K : PySem.W.Frag) : Bool := allE.all fun er => excCB K (He.ga K (errN er)) && ((allE.all fun er' => PySem.W.kitOne K (.ref (He.ga K (errN er))) (.ref (He.ga K (errN er'))) == some (decide (er = er'))) &&
  ((PySem.W.kitOne K (.ref (He.ga K (errN er))) (.ref (He.ga K "BoundError")) == some true) && ((PySem.W.exmOne K (.ref (He.ga K (errN er))) (.ref (He.ga K "BoundError")) == some true) && (PySem.W.kitOne K (.ref (He.ga K (errN er))) (.type "ValueError") == some true))))
theorem errF_of {K : PySem.W.Frag} {mg : Str → Option Value} {mo : Mo} (h : errB K = true) (hec : ∀ er, mo.ec er = He.ga K (errN er)) (hb : mg "BoundError" = some (.ref (He.ga K "BoundError"))) : ErrF K mg mo := by
  have k : ∀ er, excCB K (He.ga K (errN er)) = true ∧ (∀ er', PySem.W.kitOne K (.ref (He.ga K (errN er))) (.ref (He.ga K (errN er'))) = some (decide (er = er'))) ∧ PySem.W.kitOne K (.ref (He.ga K (errN er))) (.ref (He.ga K "BoundError")) = some true ∧ PySem.W.exmOne K (.ref (He.ga K (errN er))) (.ref (He.ga K "BoundError")) = some true ∧ PySem.W.kitOne K (.ref (He.ga K (errN er))) (.type "ValueError") = some true := by
    intro er
    have h1 := List.all_eq_true.mp h er (mem_allE er)
    simp only [Bool.and_eq_true, beq_iff_eq] at h1
    obtain ⟨h1, h2, h3, h4, h5⟩ := h1
    exact ⟨h1, fun er' => by have := List.all_eq_true.mp h2 er' (mem_allE er'); simpa using this, h3, h4, h5⟩
  refine ⟨fun er => ?_, fun er er' => ?_, ⟨_, hb, fun er => ?_, fun er => ?_⟩, fun er => ?_⟩
  · rw [hec]; exact excC_of (k er).1
  · rw [hec, hec]; exact (k er).2.1 er'
  · rw [hec]; exact (k er).2.2.1
  · rw [hec]; exact (k er).2.2.2.1
  · rw [hec]; exact (k er).2.2.2.2
end Dt

/-! The data layer, part 16: the memo of counted orders. -/
namespace Dt
open PySem L2
/-! ### the counts -/
theorem inN_iff {n : Int} {ds : List Int} : inN n ds = true ↔ n ∈ ds := by
  unfold inN
  rw [List.any_eq_true]
  exact ⟨fun ⟨y, h, e⟩ => by rw [← of_decide_eq_true e]; exact h, fun h => ⟨n, h, by simp⟩⟩
theorem inN_eq {n : Int} {ds ds' : List Int} (h : ∀ x, x ∈ ds ↔ x ∈ ds') : inN n ds = inN n ds' := by
  rw [Bool.eq_iff_iff, inN_iff, inN_iff]
  exact h n
theorem leftP_eq {bs : List (Int × Int)} {ds ds' : List Int} (h : ∀ x, x ∈ ds ↔ x ∈ ds') : leftP bs ds = leftP bs ds' := by
  unfold leftP
  congr 1
  funext k
  rw [inN_eq h]
theorem nextP_eq {bs : List (Int × Int)} {ds ds' : List Int} (h : ∀ x, x ∈ ds ↔ x ∈ ds') : nextP bs ds = nextP bs ds' := by
  unfold nextP
  rw [leftP_eq h]
theorem cntF_eq {bs : List (Int × Int)} : ∀ (k : Nat) {ds ds' : List Int}, (∀ x, x ∈ ds ↔ x ∈ ds') → cntF bs k ds = cntF bs k ds'
  | 0, _, _, _ => rfl
  | k + 1, ds, ds', h => by
    unfold cntF
    rw [nextP_eq h]
    congr 1
    apply List.map_congr_left
    intro j _
    exact cntF_eq k fun x => by simp [h x]
theorem cnt_perm {bs : List (Int × Int)} {ds ds' : List Int} (h : ds.Perm ds') : cnt bs ds = cnt bs ds' := by
  unfold cnt
  rw [h.length_eq]
  exact cntF_eq _ fun x => h.mem_iff
theorem cnt_full {bs : List (Int × Int)} {ds : List Int} (h : ds.length = bs.length) : cnt bs ds = 1 := by
  unfold cnt
  rw [h, Nat.sub_self]
  rfl
theorem cnt_step {bs : List (Int × Int)} {ds : List Int} (h : ds.length < bs.length) : cnt bs ds = ((nextP bs ds).map fun j => cnt bs (ds ++ [j])).sum := by
  have e : bs.length - ds.length = (bs.length - (ds.length + 1)) + 1 := by omega
  have e2 : ∀ m, cntF bs (m + 1) ds = ((nextP bs ds).map fun j => cntF bs m (ds ++ [j])).sum := fun _ => rfl
  unfold cnt
  rw [e, e2]
  congr 1
  apply List.map_congr_left
  intro j _
  rw [List.length_append, List.length_singleton]
theorem mem_leftP {bs : List (Int × Int)} {ds : List Int} {k : Int} : k ∈ leftP bs ds ↔ (0 ≤ k ∧ k < bs.length) ∧ k ∉ ds := by
  unfold leftP
  rw [List.mem_filter, List.mem_map]
  simp only [Bool.not_eq_true', List.mem_range]
  constructor
  · rintro ⟨⟨n, h, rfl⟩, h2⟩
    refine ⟨by omega, fun z => ?_⟩
    rw [inN_iff.mpr z] at h2
    cases h2
  · rintro ⟨h1, h2⟩
    refine ⟨⟨k.toNat, by omega, by omega⟩, ?_⟩
    cases e : inN k ds with
    | false => rfl
    | true => exact absurd (inN_iff.mp e) h2
theorem nextP_sub {bs : List (Int × Int)} {ds : List Int} {k : Int} (h : k ∈ nextP bs ds) : k ∈ leftP bs ds := (List.mem_filter.mp h).1
/-- done: places, none twice -/
def PlOk (n : Nat) (ds : List Int) : Prop := ds.Nodup ∧ ∀ x ∈ ds, 0 ≤ x ∧ x < n
instance (n : Nat) (ds : List Int) : Decidable (PlOk n ds) := by unfold PlOk; infer_instance
theorem PlOk.more {bs : List (Int × Int)} {ds : List Int} {k : Int} (h : PlOk bs.length ds) (hk : k ∈ leftP bs ds) : PlOk bs.length (ds ++ [k]) := by
  obtain ⟨h1, h2⟩ := mem_leftP.mp hk
  refine ⟨List.nodup_append.mpr ⟨h.1, by simp, fun a ha b hb => ?_⟩, fun x hx => ?_⟩
  · rw [List.mem_singleton] at hb
    subst hb
    exact fun z => h2 (z ▸ ha)
  · rcases List.mem_append.mp hx with hx | hx
    · exact h.2 x hx
    · rw [List.mem_singleton] at hx
      subst hx
      exact h1
theorem nodup_le {α : Type} [DecidableEq α] : ∀ {l m : List α}, l.Nodup → (∀ x ∈ l, x ∈ m) → l.length ≤ m.length
  | [], _, _, _ => Nat.zero_le _
  | x :: l, m, h, hs => by
    rw [List.nodup_cons] at h
    have hx := hs x List.mem_cons_self
    have ih := nodup_le (m := m.erase x) h.2 fun y hy => (List.mem_erase_of_ne (fun z => h.1 (by rw [← z]; exact hy))).mpr (hs y (List.mem_cons_of_mem _ hy))
    rw [List.length_erase_of_mem hx] at ih
    have := List.length_pos_of_mem hx
    rw [List.length_cons]
    omega
theorem subs_len : ∀ l : List Int, (subs l).length = 2 ^ l.length
  | [] => rfl
  | x :: l => by
    unfold subs
    rw [List.length_append, List.length_map, subs_len l, List.length_cons, Nat.pow_succ]
    omega
theorem upTo_len (n : Nat) : (upTo n).length = n := by simp [upTo]
theorem mem_upTo {n : Nat} {k : Int} : k ∈ upTo n ↔ 0 ≤ k ∧ k < n := by
  unfold upTo
  rw [List.mem_map]
  constructor
  · rintro ⟨m, h, rfl⟩
    rw [List.mem_range] at h
    omega
  · intro h
    exact ⟨k.toNat, by rw [List.mem_range]; omega, by omega⟩
theorem upTo_lt (n : Nat) : (upTo n).Pairwise (· < ·) := by
  unfold upTo
  rw [List.pairwise_map]
  exact List.Pairwise.imp (fun h => by omega) List.pairwise_lt_range
theorem mem_subs : ∀ {L l : List Int}, L.Pairwise (· < ·) → l.Pairwise (· < ·) → (∀ x ∈ l, x ∈ L) → l ∈ subs L
  | [], l, _, _, h => by
    cases l with
    | nil => simp [subs]
    | cons x l => exact absurd (h x List.mem_cons_self) (by simp)
  | y :: L, l, hL, hl, h => by
    rw [List.pairwise_cons] at hL
    unfold subs
    rw [List.mem_append]
    cases l with
    | nil => exact .inl (mem_subs hL.2 .nil (by simp))
    | cons x l =>
      rw [List.pairwise_cons] at hl
      have tail : ∀ z ∈ l, z ≠ y → z ∈ L := fun z hz n => (List.mem_cons.mp (h z (List.mem_cons_of_mem _ hz))).resolve_left n
      rcases List.mem_cons.mp (h x List.mem_cons_self) with e | hx
      · subst e
        refine .inr (List.mem_map.mpr ⟨l, mem_subs hL.2 hl.2 fun z hz => tail z hz ?_, rfl⟩)
        have := hl.1 z hz
        omega
      · have := hL.1 x hx
        refine .inl (mem_subs hL.2 (List.pairwise_cons.mpr hl) fun z hz => ?_)
        rcases List.mem_cons.mp hz with e | hz
        · rw [e]; exact hx
        · have := hl.1 z hz
          exact tail z hz (by omega)
theorem isort_sub {n : Nat} {ds : List Int} (h : PlOk n ds) : isort ds ∈ subs (upTo n) := by
  refine mem_subs (upTo_lt n) ?_ fun x hx => mem_upTo.mpr (h.2 x ((isort_perm ds).mem_iff.mp hx))
  have h1 := isort_sorted ds
  have h2 : (isort ds).Nodup := (isort_perm ds).nodup_iff.mpr h.1
  have h3 := h1.and h2
  exact h3.imp fun ⟨a, b⟩ => by omega
theorem memo_len {n : Nat} {kvs : List (List Key × V)} (h7 : n ≤ 7) (nd : (kvs.map (·.1)).Nodup) (h : ∀ p ∈ kvs, ∃ ks : List Int, ks ∈ subs (upTo n) ∧ p.1 = ks.map Sum.inl) : kvs.length ≤ 128 := by
  have h1 := nodup_le (m := (subs (upTo n)).map fun ks => ks.map Sum.inl) nd fun x hx => by
    obtain ⟨p, hp, rfl⟩ := List.mem_map.mp hx
    obtain ⟨ks, h1, h2⟩ := h p hp
    exact List.mem_map.mpr ⟨ks, h1, h2.symm⟩
  rw [List.length_map, List.length_map, subs_len, upTo_len] at h1
  exact Nat.le_trans h1 (Nat.le_trans (Nat.pow_le_pow_right (by decide) h7) (by decide))
/-! ### the denotations -/
def pairsOf : List PyData → Option (List (Int × Int))
  | [] => some []
  | .tuple [.int a, .int b] :: r => (pairsOf r).map ((a, b) :: ·)
  | _ => none
/-- the counts, where at most d places are left -/
def fWaysD (d : Nat) : List AV → M RV
  | [.d (.list bsd), .d (.list dsd), .ob i] => match pairsOf bsd, intsOf dsd with
    | some b, some ds => if b.length ≤ 7 ∧ PlOk b.length ds ∧ b.length ≤ ds.length + d then .oget i fun o => (match o with
        | .memo b' => if b' = b then .ret (.d (.int (cnt b ds)), false) else .stuck
        | _ => .stuck)
      else .stuck
    | _, _ => .stuck
  | _ => .stuck
def dMemo (j : Nat) : En → M RV := fun en => match en[j]? with
  | some (some (.v (.d (.list bsd)))) => (match pairsOf bsd with
    | some b => .onew (.memo b) fun i => .ret (.ob i, false)
    | none => .stuck)
  | _ => .stuck
section
variable {X : Cx} {mo : Mo} {E : XK} {pos : Pos}
theorem de_memo (j : Nat) : DE X mo E (.Dict [] [] pos) (dMemo j) := by
  refine ⟨_, pe_dnewT, fun S g W σ H en Q hR h => ?_⟩
  unfold dMemo at h
  split at h
  · split at h
    · rename_i b hb
      intro p hp
      have hr : ORep mo X.K (cut (upd H p (.dT [])) (g.add p (fun c => c = p) W.length).R) (upd H p (.dT [])) (fun c => c = p) p (.memo b) := ⟨[], upd_same, rfl, List.nodup_nil, fun q hq => by cases hq⟩
      obtain ⟨w', s'⟩ := hR.wok.add (S' := S) (a := p) (f := fun c => c = p) (o := .memo b) (same_new hp) (fun c hc => by subst hc; exact ⟨hp, by rw [upd_same]; exact fun z => by cases z⟩) hr
      refine h _ (.ref p) _ s' w' ⟨⟨p, ?_, rfl⟩, fun z => by cases z⟩
      unfold Gh.add
      dsimp only
      rw [← hR.wok.len, List.getElem?_concat_length]
    · exact h.elim
  · exact h.elim
/-- key = tuple(sorted(done)); if key not in known: known[key] = e; return known[key] -/
def sWays (d : Nat) : En → M Out := fun en => match en with
  | [some (.v (.d (.list bsd))), some (.v (.d (.list dsd))), some (.v (.ob i)), none, _] => (match pairsOf bsd, intsOf dsd with
    | some b, some ds => if b.length ≤ 7 ∧ PlOk b.length ds ∧ ds.length < b.length ∧ b.length ≤ ds.length + d then .oget i fun o => (match o with
        | .memo b' => if b' = b then .ret (.rt (.d (.int (cnt b ds)), false)) else .stuck
        | _ => .stuck)
      else .stuck
    | _, _ => .stuck)
  | _ => .stuck
theorem kV_ints (ks : List Int) : (ks.map (Sum.inl : Int → Key)).map kV = ks.map V.int := by
  rw [List.map_map]
  rfl
theorem val_put {κ : Type} [DecidableEq κ] (kvs : List (κ × V)) (k : κ) (v : V) : valV (putK kvs k v) k = some v := by
  unfold putK
  by_cases h : (kvs.any fun kv => decide (kv.1 = k)) = true
  · rw [if_pos h, valV_map]
    rw [valV_any] at h
    cases e : valV kvs k with
    | none => rw [e] at h; cases h
    | some x => simp
  · rw [if_neg h]
    unfold valV
    rw [List.find?_append]
    have e : kvs.find? (fun kv => decide (kv.1 = k)) = none := by
      rw [List.find?_eq_none]
      intro x hx z
      exact h (List.any_eq_true.mpr ⟨x, hx, z⟩)
    rw [e]
    simp
theorem put_keys {κ : Type} [DecidableEq κ] (kvs : List (κ × V)) (k : κ) (v : V) : (putK kvs k v).map (·.1) = if k ∈ kvs.map (·.1) then kvs.map (·.1) else kvs.map (·.1) ++ [k] := by
  have hk : (kvs.any fun kv => decide (kv.1 = k)) = true ↔ k ∈ kvs.map (·.1) := by
    rw [List.any_eq_true, List.mem_map]
    exact ⟨fun ⟨x, h1, h2⟩ => ⟨x, h1, of_decide_eq_true h2⟩, fun ⟨x, h1, h2⟩ => ⟨x, h1, decide_eq_true h2⟩⟩
  unfold putK
  by_cases h : (kvs.any fun kv => decide (kv.1 = k)) = true
  · rw [if_pos h, if_pos (hk.mp h), List.map_map]
    apply List.map_congr_left
    intro x _
    dsimp only [Function.comp]
    split <;> rfl
  · rw [if_neg h, if_neg fun z => h (hk.mpr z), List.map_append]
    rfl
theorem put_nodup {κ : Type} [DecidableEq κ] {kvs : List (κ × V)} {k : κ} {v : V} (h : (kvs.map (·.1)).Nodup) : ((putK kvs k v).map (·.1)).Nodup := by
  rw [put_keys]
  split
  · exact h
  · rename_i n
    exact List.nodup_append.mpr ⟨h, by simp, fun a ha b hb => by
      rw [List.mem_singleton] at hb
      subst hb
      exact fun z => n (z ▸ ha)⟩
theorem put_mem {κ : Type} [DecidableEq κ] {kvs : List (κ × V)} {k : κ} {v : V} {p : κ × V} (h : p ∈ putK kvs k v) : p ∈ kvs ∨ p = (k, v) := by
  unfold putK at h
  split at h
  · obtain ⟨x, hx, rfl⟩ := List.mem_map.mp h
    split
    · rename_i e
      exact .inr (by rw [e])
    · exact .inl hx
  · rcases List.mem_append.mp h with h | h
    · exact .inl h
    · exact .inr (List.mem_singleton.mp h)
theorem dss_ways {e : Expr} {fv : En → M RV} {k : Nat} (d : Nat) {p1 p2 p3 p4 p5 p6 p7 p8 p9 p10 p11 p12 p13 p14 p15 p16 p17 p18 p19 : Pos} (hN : X.N.Nodup) (hr : Room k X.A) (mT : X.mg "tuple" = none) (mS : X.mg "sorted" = none) (he : DE X mo E e fv)
    (hsem : ∀ (b : List (Int × Int)) (ds : List Int) (i : Nat) (W : Wd) (bsd dsd : List PyData) (u : Option Slot), pairsOf bsd = some b → intsOf dsd = some ds → b.length ≤ 7 → PlOk b.length ds → ds.length < b.length → b.length ≤ ds.length + d →
      W[i]? = some (.memo b) → wp (fv (expo [some (.v (.d (.list bsd))), some (.v (.d (.list dsd))), some (.v (.ob i)), none, u])) W (fun r W' => W' = W ∧ r.1 = .d (.int (cnt b ds))) (fun _ _ => False))
    (hk3 : X.N[3]? = some ("key" : Str) := by rfl) (hlk : Loc X.env.scope "key" := by first | exact Or.inl rfl | exact Or.inr rfl) (hgT : Gl X "tuple" := by rfl) (hgS : Gl X "sorted" := by rfl)
    (h4 : PE X (.Name "done" p4) (tVar 1) := by exact pv 1) (h8 : PE X (.Name "key" p8) (tVar 3) := by exact pv 3) (h9 : PE X (.Name "known" p9) (tVar 2) := by exact pv 2) (h11 : PE X (.Name "known" p11) (tVar 2) := by exact pv 2) (h12 : PE X (.Name "key" p12) (tVar 3) := by exact pv 3)
    (h16 : PE X (.Name "known" p16) (tVar 2) := by exact pv 2) (h17 : PE X (.Name "key" p17) (tVar 3) := by exact pv 3)
    (e1 : starEach [.Name "done" p4] X.env = [(false, eval (.Name "done" p4) X.env)] := by rfl) (e2 : starEach [.Call (.Name "sorted" p3) [.Name "done" p4] [] p5] X.env = [(false, eval (.Call (.Name "sorted" p3) [.Name "done" p4] [] p5) X.env)] := by rfl)
    (e3 : swapsWith (.Call (.Name "tuple" p2) [.Call (.Name "sorted" p3) [.Name "done" p4] [] p5] [] p6) (some (.Name "key" p1)) p7.line X.env = pure false := by rfl) (e4 : X.fn "key" = true ∨ X.env.scope.names.lookup ("key" : Str) = some .local := by first | exact .inl rfl | exact .inr rfl)
    (e5 : behindInMarks .NotIn (.Name "known" p9) = false := by rfl) (e6 : swapsWith e (some (.Subscript (.Name "known" p11) (.Name "key" p12) p13)) p14.line X.env = pure false := by rfl) (e7 : NoSl (.Name "key" p17) := by exact fun _ _ => rfl) :
    DSs X mo E [.Assign [.Name "key" p1] (.Call (.Name "tuple" p2) [.Call (.Name "sorted" p3) [.Name "done" p4] [] p5] [] p6) p7,
      .If (.Compare (.Name "key" p8) [.NotIn] [.Name "known" p9] p10) [.Assign [.Subscript (.Name "known" p11) (.Name "key" p12) p13] e p14] [] p15,
      .Return (some (.Subscript (.Name "known" p16) (.Name "key" p17) p18)) p19] (sWays d) := by
  obtain ⟨te, pe, we⟩ := he
  have hu := hu_of hr
  refine ⟨_, pss_cons (ps_set (i := 3) hN hk3 hlk (pe_callTy call_tuple_of hgT mT PyProof.Rows.boot_tuple (pa_cons (pe_callB cr_sortedI hgS mS PyProof.Rows.boot_sorted (pa_cons h4 pa_nil e1) (by decide) (by decide) e1 rfl) pa_nil e2) (by decide) (by decide) e2 rfl) e3 e4)
    (pss_cons (ps_if (pt_cmp (pc_dnotin hu h8 h9) e5) (pss_one (ps_dput hu h11 h12 pe e6)) pss_nil) (pss_one (ps_ret (pe_dget hu h16 h17 e7)))), fun S₀ g₀ H₀ Fr g W σ H en D r h => ?_⟩
  unfold sWays at h
  split at h
  · rename_i bsd dsd i u
    split at h
    · rename_i b ds hb hd
      split at h
      · rename_i hc
        obtain ⟨h7, hpl, hlt, hld⟩ := hc
        obtain ⟨o, hWi, h⟩ := h
        dsimp only at h
        split at h
        · rename_i b'
          split at h
          · rename_i eb
            subst eb
            obtain ⟨v1, s1, r1⟩ := r.val 1 _ rfl
            obtain ⟨v2, s2, a, hadr, rfl⟩ := r.val 2 _ rfl
            obtain ⟨l, rfl, hl⟩ := lst_ints r1 hd
            refine ⟨_, s1, l, ds, rfl, SqL.of hl, fun ks l1 hp1 hp2 hl1 => ?_⟩
            cases isort_eq hp1 hp2
            refine ⟨l1, _, rfl, .inl ⟨SqL.of upd_same, fun l2 hl2 => ?_⟩⟩
            -- the key is made
            have w0 := r.wok
            have w1 := w0.same (same_new (o := .lst ((isort ds).map V.int)) hl1)
            have w2 := w1.same (same_new (o := .tup ((isort ds).map V.int)) hl2)
            have ra := (r.step (.of_same (same_new (o := .lst ((isort ds).map V.int)) hl1)) w1).step (.of_same (same_new (o := .tup ((isort ds).map V.int)) hl2)) w2
            have rb := ra.junk (i := 3) (o := some (.ref l2)) rfl
            have l2R : ¬ g.R l2 := fun z => w1.rdom z hl2
            generalize hH2 : upd (upd H l1 (.lst ((isort ds).map V.int))) l2 (.tup ((isort ds).map V.int)) = H2 at rb ra w2
            have t2 : H2 l2 = some (.tup (((isort ds).map (Sum.inl : Int → Key)).map kV)) := by rw [← hH2, kV_ints]; exact upd_same
            have g3 : (σ.set 3 (some (.ref l2)))[3]? = some (some (.ref l2)) := List.getElem?_set_self (by rw [← r.len]; show 3 < 5; decide)
            have g2 : (σ.set 3 (some (.ref l2)))[2]? = some (some (.ref a)) := by rw [List.getElem?_set_ne (by decide)]; exact s2
            -- what is told of the table
            have tells : ∀ {g' : Gh} {W' : Wd} {H' : Hp} {kvs : List (List Key × V)} {v : V}, WOk mo X.K S₀ g' W' H' → g'.adr[i]? = some a → W'[i]? = some (.memo b') → H' a = some (.dT kvs) → valV kvs ((isort ds).map Sum.inl) = some v → v = .int (cnt b' ds) := fun {g' W' H' kvs v} w ha hW hk hv => by
              obtain ⟨kvs', k1, k2, k3, k4⟩ := w.rep i a (.memo b') ha hW
              rw [hk] at k1
              cases k1
              unfold valV at hv
              rw [Option.map_eq_some_iff] at hv
              obtain ⟨p, hp, rfl⟩ := hv
              obtain ⟨ks, z1, z2, z3⟩ := k4 p (List.mem_of_find?_eq_some hp)
              have ek : p.1 = (isort ds).map Sum.inl := by
                have := List.find?_some hp
                simpa using this
              rw [z2] at ek
              have ek' : ks = isort ds := List.map_inj_right (fun _ _ e => Sum.inl.inj e) |>.mp ek
              rw [z3, ek', cnt_perm (isort_perm ds)]
            -- the end
            have fin : ∀ {g' : Gh} {H' : Hp} {kvs : List (List Key × V)} {v : V}, RepS mo X.K S₀ g₀ H₀ Fr g' W (σ.set 3 (some (.ref l2))) H' [some (.v (.d (.list bsd))), some (.v (.d (.list dsd))), some (.v (.ob i)), none, u] → g'.adr[i]? = some a → H' a = some (.dT kvs) → valV kvs ((isort ds).map Sum.inl) = some v → H' l2 = some (.tup (((isort ds).map (Sum.inl : Int → Key)).map kV)) → tRet (tDGet (tVar 2) (tVar 3)) D (σ.set 3 (some (.ref l2))) H' := fun {g' H' kvs v} rr ha hk hv ht => by
              refine ⟨_, g2, _, g3, a, v, rfl, ?_, ?_⟩
              · rw [← hv]
                exact DGet.t hk ht
              · rw [tells rr.wok ha hWi hk hv]
                exact h g' _ H' rr.base rr.wok ⟨.int _, fun z => by cases z⟩
            obtain ⟨kvs, hk1, hk2, hk3, hk4⟩ := w2.rep i a (.memo b') hadr hWi
            refine ⟨_, g3, _, g2, a, valV kvs ((isort ds).map Sum.inl), rfl, DGet.t hk1 t2, _, rfl, ?_⟩
            cases ev : valV kvs ((isort ds).map (Sum.inl : Int → Key)) with
            | some v => exact iteF (fin rb hadr hk1 ev t2)
            | none =>
              refine iteT ?_
              refine we S₀ g W (σ.set 3 (some (.ref l2))) H2 (expo [some (.v (.d (.list bsd))), some (.v (.d (.list dsd))), some (.v (.ob i)), none, u]) _ rb.expoE (wp_mono (hsem b' ds i W bsd dsd u hb hd h7 hpl hlt hld hWi) (fun r5 W5 q5 g5 v5 H5 s5 w5 rr5 => ?_) fun _ _ z => z.elim)
              obtain ⟨rfl, e5⟩ := q5
              replace rr5 := RepR.at rr5 e5
              cases Rp.int_inv rr5.1
              obtain ⟨t5, n5⟩ := s5.keep l2 _ l2R t2
              have rc := rb.step s5 w5
              have ha5 := s5.adr i a hadr
              obtain ⟨kvs5, k1, k2, k3, k4⟩ := w5.rep i a (.memo b') ha5 hWi
              have hlen : kvs5.length ≤ 128 := memo_len h7 k3 fun p hp => let ⟨ks, z1, z2, _⟩ := k4 p hp; ⟨ks, z1, z2⟩
              have hsz : kvs5.length < sizeLine := Nat.lt_of_le_of_lt hlen (by decide)
              refine ⟨_, g2, _, g3, a, _, rfl, DPut.t k1 t5 hsz, ?_⟩
              -- the table with one more
              have hiW : i < W5.length := (List.getElem?_eq_some_iff.mp hWi).1
              have hset : W5.set i (.memo b') = W5 := by
                apply List.ext_getElem?
                intro j
                by_cases e : i = j
                · subst e; rw [List.getElem?_set_self hiW, hWi]
                · rw [List.getElem?_set_ne e]
              have hke : ∀ c, ¬ g5.fp i c → upd H5 a (.dT (putK kvs5 ((isort ds).map Sum.inl) (.int (cnt b' ds)))) c = H5 c := fun c n => upd_ne (fun z => n (z ▸ k2))
              have hdo : ∀ c, g5.fp i c → upd H5 a (.dT (putK kvs5 ((isort ds).map Sum.inl) (.int (cnt b' ds)))) c ≠ none := fun c f => by
                by_cases z : c = a
                · subst z; rw [upd_same]; exact fun z => by cases z
                · rw [upd_ne z]; exact (w5.dom i c f).2
              have wn := w5.at (S' := S₀) (o := .memo b') hiW ha5 hke hdo ⟨_, upd_same, k2, put_nodup k3, fun p hp => by
                rcases put_mem hp with hp | rfl
                · exact k4 p hp
                · exact ⟨isort ds, isort_sub hpl, rfl, by rw [cnt_perm (isort_perm ds)]⟩⟩
              rw [hset] at wn
              have rd := rc.step (step_at hke hdo) wn
              exact fin rd ha5 upd_same (val_put _ _ _) (by rw [upd_ne (show l2 ≠ a from fun z => n5 ⟨i, by rw [z]; exact k2⟩)]; exact t5)
          · exact h.elim
        · exact h.elim
      · exact h.elim
    · exact h.elim
  · exact h.elim
end
theorem spD_weak {P : Program} {w : World} {K : PySem.W.Frag} {mg : Str → Option Value} {base : Heap} {mo : Mo} {k : Nat} {f : Addr} {fd : FuncData} {ps : List Str} {F F' : List AV → M RV} (h : ∀ (as : List AV) (W : Wd) (Q : RV → Wd → Prop) (E : Err → Wd → Prop), wp (F' as) W Q E → wp (F as) W Q E)
    (G : FnOk P w K mg base (L2.CX P w) k f fd ps (spD mo K F)) : FnOk P w K mg base (L2.CX P w) k f fd ps (spD mo K F') := by
  have cv : ∀ {vs : List V} {H : Hp} {Q : VK} {E : XK}, spD mo K F' vs H Q E → spD mo K F vs H Q E := fun ⟨S, g, W, as, r, wk, sd, hw⟩ => ⟨S, g, W, as, r, wk, sd, h as W _ _ hw⟩
  exact ⟨fun vs H Q E z => G.len vs H Q E (cv z), fun A outer s H args us vs Q E hr he hb hv hs => G.run A outer s H args us vs Q E hr he hb hv (cv hs)⟩
theorem dss_stuck {X : Cx} {mo : Mo} {E : XK} {sts : List Stmt} : DSs X mo E sts fun _ => .stuck := ⟨tNever, pss_never, fun _ _ _ _ _ _ _ _ _ _ _ h => h.elim⟩
end Dt

/-! The data layer, part 17: xs += ys, xs.remove(k), len(set(xs)), sorted of pairs. -/
namespace Dt
open PySem L2
section
variable {X : Cx} {mo : Mo} {E : XK} {pos p apos : Pos} {a e : Expr} {fa : En → M RV} {i : Nat} {x : Str} {p' : Pos}
/-- x += e, x a list of its own -/
def sExt (i : Nat) (fa : En → M RV) : En → M Out := fun en => match en[i]? with
  | some (some (.own xs)) => (fa (hide en)).bind fun r => match r.1 with
    | .d (.list ys) => if xs.length + ys.length ≤ lim then .ret (.nx (en.set i (some (.own (xs ++ ys))))) else .stuck
    | _ => .stuck
  | _ => .stuck
theorem ds_ext (hN : X.N.Nodup) (ha : DE X mo E a fa) (hi : X.N[i]? = some x := by rfl) (hx : Loc X.env.scope x := by first | exact Or.inl rfl | exact Or.inr rfl) (hf : X.fn x = true ∨ X.env.scope.names.lookup x = some .local := by first | exact .inl rfl | exact .inr rfl) :
    DS X mo E (.AugAssign (.Name x p') .Add a pos) (sExt i fa) := by
  obtain ⟨ta, pa, wa⟩ := ha
  refine ⟨_, ps_aug hN hi hx pa iop_ext hf, fun S₀ g₀ H₀ Fr g W σ H en D r h => ?_⟩
  unfold sExt at h
  split at h
  · rename_i xs ei
    obtain ⟨l, vs, es, h1, h2, h3, h4⟩ := r.own i xs ei
    rw [wp_bind] at h
    refine ⟨_, es, wa _ g W σ H (hide en) _ r.hideE (wp_mono h (fun r1 W1 q g1 v1 H1 s1 w1 rr1 => ?_) fun _ _ q => ES.of r q)⟩
    try dsimp only at q
    split at q
    · rename_i ys ey
      split at q
      · rename_i hl
        replace rr1 := RepR.at rr1 ey
        have r1 := r.step s1 w1
        obtain ⟨l', vs', es', k1, k2, k3, k4⟩ := r1.own i xs ei
        rw [es] at es'
        cases es'
        obtain ⟨b, us, rfl, hb, ab⟩ := Rp.lst_inv rr1.1
        refine ⟨l, b, vs', us, rfl, rfl, k1, cutS hb, lim_line (by rw [k4.length, ab.length]; exact hl), ?_⟩
        have hs : σ.set i (some (.ref l)) = σ := by
          apply List.ext_getElem?
          intro j
          by_cases e : i = j
          · subst e
            rw [List.getElem?_set_self (List.getElem?_eq_some_iff.mp es).1, es]
          · rw [List.getElem?_set_ne e]
        show D.nx (σ.set i (some (.ref l))) _
        rw [hs]
        exact q g1 σ _ (r1.putO ei es k1 (k4.append ab))
      · exact q.elim
    · exact q.elim
  · exact h.elim
/-- x.remove(e), ints -/
def sRem (i : Nat) (fa : En → M RV) : En → M Out := fun en => match en[i]? with
  | some (some (.own xs)) => (fa (expo en)).bind fun r => match r.1, intsOf xs with
    | .d (.int k), some ns => (match ns.findIdx? (fun z => decide (z = k)) with
      | some j => .ret (.nx (en.set i (some (.own (xs.eraseIdx j)))))
      | none => .stuck)
    | _, _ => .stuck
  | _ => .stuck
theorem erase_map {α β : Type} (f : α → β) : ∀ (l : List α) (j : Nat), (l.map f).eraseIdx j = (l.eraseIdx j).map f
  | [], _ => by simp
  | _ :: _, 0 => by simp
  | _ :: l, j + 1 => by simp [erase_map f l j]
theorem ds_rem {q' : Pos} (ha : DE X mo E a fa) (hN : X.N[i]? = some x := by rfl) (hv : Vis X.env.scope x := by first | exact Or.inl rfl | exact Or.inr (Or.inl rfl) | exact Or.inr (Or.inr rfl)) (hd : (x == ("__debug__" : Str)) = false := by decide) (hcd : (x == ("__classdict__" : Str)) = false := by decide)
    (hbase : attributeBase (.Name x q') "remove" X.env (eval (.Name x q') X.env) = eval (.Name x q') X.env := by rfl)
    (hfew : ((backTo p (starEach [a] X.env)).all (fun x => !x.1) && (backToKw p (keywordEach [] X.env)).all (fun x => x.1.isSome) && decide ([a].length + ([] : List Keyword).length + (if ([] : List Keyword).isEmpty then 0 else 1) < 30)) = true := by rfl)
    (hline : (apos.endLine == p.line) = true := by rfl) (hst : starEach [a] X.env = [(false, eval a X.env)] := by rfl) (hs : swapsWith (.Call (.Attribute (.Name x q') "remove" apos) [a] [] p) none pos.line X.env = pure false := by rfl) :
    DS X mo E (.Expr (.Call (.Attribute (.Name x q') "remove" apos) [a] [] p) pos) (sRem i fa) := by
  obtain ⟨ta, pa, wa⟩ := ha
  refine ⟨_, ps_expr (pe_bm PySem.F.plainAttrs_list PySem.F.slot_list_remove PySem.F.type_list_remove mt_remove (pe_var hN hv hd hcd) (pa_cons pa pa_nil hst) hbase hfew hline hst rfl) hs, fun S₀ g₀ H₀ Fr g W σ H en D r h => ?_⟩
  unfold sRem at h
  split at h
  · rename_i xs ei
    obtain ⟨l, vs, es, h1, h2, h3, h4⟩ := r.own i xs ei
    rw [wp_bind] at h
    refine ⟨_, es, .inl ⟨rfl, vs, SqL.of h1⟩, wa _ g W σ H (expo en) _ r.expoE (wp_mono h (fun r1 W1 q g1 v1 H1 s1 w1 rr1 => ?_) fun _ _ q => ES.of r q)⟩
    try dsimp only at q
    split at q
    · rename_i k ns ey eo
      split at q
      · rename_i j hj
        replace rr1 := RepR.at rr1 ey
        have r1 := r.step s1 w1
        obtain ⟨l', vs', es', k1, k2, k3, k4⟩ := r1.own i xs ei
        rw [es] at es'
        cases es'
        have ex := intsOf_some eo
        have k4' := k4
        rw [ex] at k4'
        have ev := k4'.ints
        rw [ev] at k1
        obtain ⟨m1, m2, m3⟩ := List.findIdx?_eq_some_iff_getElem.mp hj
        have m2' : ns[j] = k := by simpa using m2
        refine ⟨l, ns, k, j, rfl, by rw [Rp.int_inv rr1.1], k1, by rw [List.getElem?_eq_getElem m1, m2'], fun m hm hz => ?_, q g1 σ _ (r1.putO ei es k1 ?_)⟩
        · obtain ⟨z1, z2⟩ := List.getElem?_eq_some_iff.mp hz
          have := m3 m hm
          rw [z2] at this
          simp at this
        · rw [ex, erase_map]
          exact rpAll_ints
      · exact q.elim
    · exact q.elim
  · exact h.elim
/-- len(set(xs)), ints, none twice -/
def dLenSet (fa : En → M RV) : En → M RV := fun en => (fa en).bind fun r => match r.1 with
  | .d (.list xs) => (match intsOf xs with
    | some ns => if ns.Nodup ∧ ns.length ≤ 4000 then rI' (ns.length : Nat) else .stuck
    | none => .stuck)
  | _ => .stuck
theorem de_lenSet {p2 q : Pos} (hm : X.mg "len" = none) (hm2 : X.mg "set" = none) (ha : DE X mo E a fa) (hc : X.calm = true := by rfl) (hg : Gl X "len" := by rfl) (hg2 : Gl X "set" := by rfl) (na : starEach [a] X.env = (false, eval a X.env) :: starEach [] X.env := by rfl) :
    DE X mo E (.Call (.Name "len" p) [.Call (.Name "set" p2) [a] [] q] [] pos) (dLenSet fa) := by
  obtain ⟨ta, pa, wa⟩ := ha
  refine ⟨_, RZ.pe_lenSetI hg hm hg2 hm2 pa hc na, fun S g W σ H en Q hR h => ?_⟩
  unfold dLenSet at h
  rw [wp_bind] at h
  refine wa S g W σ H en _ hR (wp_mono h (fun r1 W1 q g1 v1 H1 s1 w1 rr1 => ?_) fun _ _ q => q)
  try dsimp only at q
  split at q
  · rename_i xs e
    replace rr1 := RepR.at rr1 e
    split at q
    · rename_i ns eo
      split at q
      · rename_i hn
        obtain ⟨l, rfl, hl⟩ := lst_ints rr1.1 eo
        exact ⟨l, ns, rfl, SqL.of hl, hn.1, hn.2, QE.ret (QE.step s1 q) w1 (Rp.int _)⟩
      · exact q.elim
    · exact q.elim
  · exact q.elim
end
/-! ### sorted of pairs of ints -/
def pLe (p q : Int × Int) : Bool := decide (p.1 < q.1) || (decide (p.1 = q.1) && decide (p.2 ≤ q.2))
theorem pLe_iff {p q : Int × Int} : pLe p q = true ↔ p.1 < q.1 ∨ (p.1 = q.1 ∧ p.2 ≤ q.2) := by simp [pLe]
def pins1 (x : Int × Int) : List (Int × Int) → List (Int × Int)
  | [] => [x]
  | y :: ys => if pLe x y = true then x :: y :: ys else y :: pins1 x ys
def psort : List (Int × Int) → List (Int × Int)
  | [] => []
  | x :: xs => pins1 x (psort xs)
theorem pins1_perm (x : Int × Int) : ∀ ys : List (Int × Int), (pins1 x ys).Perm (x :: ys)
  | [] => .refl _
  | y :: ys => by
    unfold pins1
    split
    · exact .refl _
    · exact ((pins1_perm x ys).cons y).trans (.swap x y ys)
theorem psort_perm : ∀ xs : List (Int × Int), (psort xs).Perm xs
  | [] => .refl _
  | x :: xs => (pins1_perm x (psort xs)).trans ((psort_perm xs).cons x)
theorem pins1_sorted (x : Int × Int) : ∀ {ys : List (Int × Int)}, ys.Pairwise (fun a b => pLe a b = true) → (pins1 x ys).Pairwise (fun a b => pLe a b = true)
  | [], _ => by simp [pins1]
  | y :: ys, h => by
    rw [List.pairwise_cons] at h
    unfold pins1
    split
    · rename_i hxy
      rw [List.pairwise_cons, List.pairwise_cons]
      refine ⟨fun z hz => ?_, h.1, h.2⟩
      rcases List.mem_cons.mp hz with rfl | hz
      · exact hxy
      · have := pLe_iff.mp hxy
        have := pLe_iff.mp (h.1 z hz)
        exact pLe_iff.mpr (by omega)
    · rename_i hxy
      rw [List.pairwise_cons]
      refine ⟨fun z hz => ?_, pins1_sorted x h.2⟩
      have hz' := (pins1_perm x ys).mem_iff.mp hz
      rcases List.mem_cons.mp hz' with rfl | hz'
      · rw [pLe_iff] at hxy
        exact pLe_iff.mpr (by omega)
      · exact h.1 z hz'
theorem psort_sorted : ∀ xs : List (Int × Int), (psort xs).Pairwise (fun a b => pLe a b = true)
  | [] => List.Pairwise.nil
  | x :: xs => pins1_sorted x (psort_sorted xs)
theorem psorted_uniq : ∀ {xs ys : List (Int × Int)}, xs.Pairwise (fun a b => pLe a b = true) → ys.Pairwise (fun a b => pLe a b = true) → xs.Perm ys → xs = ys
  | [], ys, _, _, h => (List.nil_perm.mp h).symm
  | x :: xs, ys, hx, hy, h => by
    cases ys with
    | nil => exact absurd h.length_eq (by simp)
    | cons y ys =>
      rw [List.pairwise_cons] at hx hy
      have hxm : x ∈ y :: ys := h.mem_iff.mp List.mem_cons_self
      have hym : y ∈ x :: xs := h.mem_iff.mpr List.mem_cons_self
      have e : x = y := by
        rcases List.mem_cons.mp hxm with q | q
        · exact q
        · rcases List.mem_cons.mp hym with r | r
          · exact r.symm
          · have a := pLe_iff.mp (hx.1 y r)
            have b := pLe_iff.mp (hy.1 x q)
            exact Prod.ext (by omega) (by omega)
      subst e
      rw [psorted_uniq hx.2 hy.2 (List.perm_cons x |>.mp h)]
section
variable {X : Cx} {mo : Mo} {E : XK} {pos p : Pos} {a : Expr} {fs : En → M (List AV)}
def PrV (K : PySem.W.Frag) (H : Hp) (v : V) (q : Int × Int) : Prop := ∃ t, v = .ref t ∧ SqT K H t [.int q.1, .int q.2]
def rSortPr (K : PySem.W.Frag) : List V → Hp → VK → Prop := fun vs H Q => ∃ (l : Addr) (xs : List V) (qs : List (Int × Int)) (PR : V → Int × Int → Prop), vs = [.ref l] ∧ SqL K H l xs ∧ (∀ v q, PR v q → PrV K H v q) ∧ Paired PR xs qs ∧ ∀ ys d, Paired PR ys (psort qs) → H d = none → Q (.ref d) (upd H d (.lst ys))
theorem paired_get {α β : Type} {R : α → β → Prop} : ∀ {xs : List α} {ys : List β}, Paired R xs ys → ∀ x ∈ xs, ∃ y, y ∈ ys ∧ R x y
  | _, _, .nil, _, h => by cases h
  | _, _, .cons r t, x, h => by
    rcases List.mem_cons.mp h with rfl | h
    · exact ⟨_, List.mem_cons_self, r⟩
    · obtain ⟨y, h1, h2⟩ := paired_get t x h
      exact ⟨y, List.mem_cons_of_mem _ h1, h2⟩
theorem paired_map {α β : Type} {R : α → β → Prop} {f : α → β} (hu : ∀ x y, R x y → y = f x) : ∀ {xs : List α} {ys : List β}, Paired R xs ys → ys = xs.map f
  | _, _, .nil => rfl
  | _, _, .cons r t => by rw [List.map_cons, ← hu _ _ r, ← paired_map hu t]
theorem paired_of {α β : Type} {R : α → β → Prop} {f : α → β} : ∀ {xs : List α}, (∀ x ∈ xs, R x (f x)) → Paired R xs (xs.map f)
  | [], _ => .nil
  | x :: xs, h => .cons (h x List.mem_cons_self) (paired_of fun y hy => h y (List.mem_cons_of_mem _ hy))
open Classical in
theorem cr_sortPr : CallR X (.builtin "sorted") (rSortPr X.K) := by
  intro pins s σ H vs us Q I r h
  obtain ⟨l, xs, qs, PR, rfl, hs, hpr, hq, hk⟩ := h
  have fn : ∀ v q q', PrV X.K H v q → PrV X.K H v q' → q = q' := fun v q q' ⟨t, e, z⟩ ⟨t', e', z'⟩ => by
    subst e
    cases e'
    have w := I.tuple_inj z z'
    simp only [List.cons.injEq, V.int.injEq, and_true] at w
    exact Prod.ext w.1 w.2
  let k : V → Int × Int := fun v => if h : ∃ q, PrV X.K H v q then h.choose else (0, 0)
  have hkf : ∀ v q, PrV X.K H v q → q = k v := fun v q z => by
    have hex : ∃ q, PrV X.K H v q := ⟨q, z⟩
    show q = if h : ∃ q, PrV X.K H v q then h.choose else (0, 0)
    rw [dif_pos hex]
    exact fn v q _ z hex.choose_spec
  have eq : qs = xs.map k := paired_map (fun v q z => hkf v q (hpr v q z)) hq
  obtain ⟨its, rv, hl, hz⟩ := I.list hs
  obtain ⟨u, rfl, ru⟩ := vals1 r
  obtain rfl : u = Value.ref l := ru
  have hx0 : ∀ x ∈ xs, PR x (k x) := fun x hm => by
    obtain ⟨q, _, z⟩ := paired_get hq x hm
    rw [← hkf x q (hpr x q z)]
    exact z
  have hx : ∀ x ∈ xs, ∃ t, x = V.ref t ∧ SqT X.K H t [.int (k x).1, .int (k x).2] := fun x hm => hpr x _ (hx0 x hm)
  obtain ⟨e1, e2⟩ := refs_back rv fun x m => let ⟨t, e, _⟩ := hx x m; ⟨t, e⟩
  refine SrtO.sorted_pairsO (k := fun u => k (backV u)) hl.isList (by rw [← rv.length]; exact hz) (fun v hv => ?_) fun h' d out h1 h2 kp hd hn => ?_
  · obtain ⟨t, rfl⟩ := e2 v hv
    have hm : V.ref t ∈ xs := by rw [e1]; exact List.mem_map.mpr ⟨_, hv, rfl⟩
    obtain ⟨t', e, ht⟩ := hx _ hm
    cases e
    obtain ⟨its2, r2, ⟨o, ho, hc, n, hd⟩, _⟩ := I.tuple ht
    obtain ⟨u1, u2, rfl, ri, rj⟩ := vals2 r2
    obtain ⟨t1, rfl⟩ := ri
    obtain ⟨t2, rfl⟩ := rj
    exact ⟨t, o, t1, t2, n, rfl, ho, hc, hd⟩
  · have h3 : ∀ u ∈ out, ∃ a, u = Value.ref a := fun u hu => e2 u (h2.perm.mem_iff.mp hu)
    obtain ⟨n, hn⟩ := hn
    have hp : (out.map backV).Perm xs := by rw [e1]; exact h2.perm.map backV
    have hsr : ((out.map backV).map k).Pairwise (fun a b => pLe a b = true) := by
      rw [List.pairwise_map, List.pairwise_map]
      refine h1.imp fun {x y} z => ?_
      have z' := SrtO.lexB_no.mp z
      exact pLe_iff.mpr (by omega)
    have eo : (out.map backV).map k = psort qs := by
      rw [eq]
      exact psorted_uniq hsr (psort_sorted _) ((hp.map k).trans (psort_perm _).symm)
    refine ⟨.ref d, upd H d (.lst (out.map backV)), I.laid (t' := s.toks) kp hd ⟨?_, out, n, vals_back h3, hn⟩, rfl, hk _ d ?_ (I.hok.fresh hd)⟩
    · rw [hp.length_eq]
      exact hz
    · rw [← eo]
      exact paired_of fun y hy => hx0 y (hp.mem_iff.mp hy)
def bSortPr : List AV → M RV
  | [.d (.list xs)] => match pairsOf xs with
    | some qs => .ret (.d (.list ((psort qs).map fun q => .tuple [.int q.1, .int q.2])), true)
    | none => .stuck
  | _ => .stuck
theorem pairsOf_eq : ∀ {xs : List PyData} {qs : List (Int × Int)}, pairsOf xs = some qs → xs = qs.map fun q => .tuple [.int q.1, .int q.2]
  | [], qs, h => by
    simp only [pairsOf, Option.some.injEq] at h
    subst h; rfl
  | d :: r, qs, h => by
    unfold pairsOf at h
    split at h
    · rename_i e; cases e
    · rename_i x y r' e
      cases e
      rw [Option.map_eq_some_iff] at h
      obtain ⟨b', h1, rfl⟩ := h
      rw [pairsOf_eq h1]; rfl
    · cases h
theorem prV_of {K : PySem.W.Frag} {C : Hp} : ∀ {vs : List V} {qs : List (Int × Int)}, RpAll K C vs (qs.map fun q => .tuple [.int q.1, .int q.2]) → Paired (PrV K C) vs qs
  | _, [], h => by cases h; exact .nil
  | _, q :: qs, h => by
    cases h with
    | cons h1 h2 =>
      obtain ⟨t, us, rfl, hs, hu⟩ := Rp.tup_inv h1
      cases hu with
      | cons u1 u2 =>
        cases u2 with
        | cons u2 u3 =>
          cases u3
          rw [u1.int_inv, u2.int_inv] at hs
          exact .cons ⟨t, rfl, hs⟩ (prV_of h2)
theorem of_prV {K : PySem.W.Frag} {C : Hp} : ∀ {vs : List V} {qs : List (Int × Int)}, Paired (PrV K C) vs qs → RpAll K C vs (qs.map fun q => .tuple [.int q.1, .int q.2])
  | _, _, .nil => .nil
  | _, _, .cons ⟨t, e, z⟩ h => by
    subst e
    exact .cons (.tup z (.cons (.int _) (.cons (.int _) .nil))) (of_prV h)
theorem cd_sortPr {K : PySem.W.Frag} {n : Nat} : CallD mo K n (rSortPr K) bSortPr := by
  intro S g W H vs as Q E' w sd rs hl h
  unfold bSortPr at h
  split at h
  · split at h
    · rename_i qs e
      obtain ⟨v, rfl, r⟩ := reps1 rs
      obtain ⟨l, us, rfl, hp, ap⟩ := Rp.lst_inv r
      rw [pairsOf_eq e] at ap
      have pr := prV_of ap
      exact ⟨l, us, qs, _, rfl, SqL.of (cutS hp), fun v q ⟨t, e, z⟩ => ⟨t, e, Same.seqT cut_sub z⟩, pr, fun ys d hy hd => QE.new h w sd hd (of_prV hy)⟩
    · exact h.elim
  · exact h.elim
theorem de_sortPr (hm : X.mg "sorted" = none) (hs : DA X mo E [a] fs) (hg : Gl X "sorted" := by rfl) (he : starEach [a] X.env = [(false, eval a X.env)] := by rfl) : DE X mo E (.Call (.Name "sorted" p) [a] [] pos) (dCall bSortPr fs) :=
  de_callB cr_sortPr cd_sortPr hm PyProof.Rows.boot_sorted hs hg (by decide) (by decide) he rfl
end
end Dt

/-! The data layer, part 18: texts. -/
namespace Dt
open PySem L2
section
variable {X : Cx} {mo : Mo} {E : XK} {pos p apos : Pos} {a b e tg : Expr} {es : List Expr} {fa fb : En → M RV} {fs : En → M (List AV)}
def bStr : List AV → M RV
  | [.d (.int i)] => if i.natAbs.log2 < 1920 then .ret (.d (.str (toString i)), false) else .stuck
  | _ => .stuck
theorem cd_str {K : PySem.W.Frag} {n : Nat} : CallD mo K n (fun xs H Q => ∃ i, xs = [.int i] ∧ i.natAbs.log2 < 1920 ∧ Q (.str (toString i)) H) bStr := by
  intro S g W H vs as Q E' w sd rs hl h
  unfold bStr at h
  split at h
  · split at h
    · rename_i hi
      obtain ⟨v, rfl, r⟩ := reps1 rs
      rw [Rp.int_inv r]
      exact ⟨_, rfl, hi, QE.ret h w (Rp.str _)⟩
    · exact h.elim
  · exact h.elim
theorem de_str1 (hm : X.mg "str" = none) (hs : DA X mo E [a] fs) (hg : Gl X "str" := by rfl) (he : starEach [a] X.env = [(false, eval a X.env)] := by rfl) : DE X mo E (.Call (.Name "str" p) [a] [] pos) (dCall bStr fs) :=
  de_callTy call_str_int cd_str hm PyProof.Rows.boot_str hs hg (by decide) (by decide) he rfl
def bInt : List AV → M RV
  | [.d (.str a)] => if a.length ≤ 640 then (match PySem.intText? a with
    | some n => rI' n
    | none => .stuck) else .stuck
  | _ => .stuck
theorem cd_int {K : PySem.W.Frag} {n : Nat} : CallD mo K n (fun xs H Q => ∃ a n, xs = [.str a] ∧ PySem.intText? a = some n ∧ a.length ≤ 640 ∧ Q (.int n) H) bInt := by
  intro S g W H vs as Q E' w sd rs hl h
  unfold bInt at h
  split at h
  · split at h
    · rename_i hi
      split at h
      · rename_i k hk
        obtain ⟨v, rfl, r⟩ := reps1 rs
        rw [Rp.str_inv r]
        exact ⟨_, _, rfl, hk, hi, QE.ret h w (Rp.int _)⟩
      · exact h.elim
    · exact h.elim
  · exact h.elim
theorem de_int1 (hm : X.mg "int" = none) (hs : DA X mo E [a] fs) (hg : Gl X "int" := by rfl) (he : starEach [a] X.env = [(false, eval a X.env)] := by rfl) : DE X mo E (.Call (.Name "int" p) [a] [] pos) (dCall bInt fs) :=
  de_callTy call_int_str cd_int hm PyProof.Rows.boot_int hs hg (by decide) (by decide) he rfl
/-! ### methods of texts -/
def oJoin : AV → AV → M RV
  | .d (.str a), .d (.list xs) => (match strsOf xs with
    | some ys => if (ys.map (·.length)).sum + ys.length * a.length ≤ lim then .ret (.d (.str (Txt.join a ys)), false) else .stuck
    | none => .stuck)
  | _, _ => .stuck
def oSplit : AV → AV → M RV
  | .d (.str a), .d (.str b) => if (b.length == 0) = false ∧ a.length + 2 ≤ lim then .ret (.d (.list ((Txt.split a b).map PyData.str)), true) else .stuck
  | _, _ => .stuck
def dMethS (f : AV → AV → M RV) (fa fb : En → M RV) : En → M RV := fun en => (fa en).bind fun x => match x.1 with
  | .d (.str _) => (fb en).bind fun y => f x.1 y.1
  | _ => .stuck
theorem methS_run {r : V → List V → Hp → VK → Prop} {f : AV → AV → M RV} {ta tb : TE} (hd : MethD mo X.K r f)
    (wa : ∀ (S : Addr → Prop) (g : Gh) (W : Wd) (σ : St) (H : Hp) (en : En) (Q : VK), RepE mo X.K S g W σ H en → wp (fa en) W (QE mo X.K S g H Q) (EE mo X.K S g H E) → ta σ H Q)
    (wb : ∀ (S : Addr → Prop) (g : Gh) (W : Wd) (σ : St) (H : Hp) (en : En) (Q : VK), RepE mo X.K S g W σ H en → wp (fb en) W (QE mo X.K S g H Q) (EE mo X.K S g H E) → tb σ H Q)
    (S : Addr → Prop) (g : Gh) (W : Wd) (σ : St) (H : Hp) (en : En) (Q : VK) (hR : RepE mo X.K S g W σ H en) (h : wp (dMethS f fa fb en) W (QE mo X.K S g H Q) (EE mo X.K S g H E)) : tM1 r ta tb σ H Q := by
  unfold dMethS at h
  rw [wp_bind] at h
  refine wa S g W σ H en _ hR (wp_mono h (fun r1 W1 q g1 v1 H1 s1 w1 rr1 => ?_) fun _ _ q => q)
  try dsimp only at q
  split at q
  · rename_i z e
    have rr1' := RepR.at rr1 e
    refine ⟨⟨z, Rp.str_inv rr1'.1⟩, ?_⟩
    rw [wp_bind] at q
    refine wb S g1 W1 σ H1 en _ (hR.step s1 w1) (wp_mono q (fun r2 W2 q2 g2 v2 H2 s2 w2 rr2 => ?_) fun _ _ q => q.step s1)
    exact hd S g2 W2 H2 _ v2 r1.1 r2.1 Q _ w2 (fun a s => s2.own a (s1.own a (hR.sd a s))) (rr1.1.step s2) rr2.1 (wp_mono q2 (fun _ _ q => q.step (s1.trans s2)) fun _ _ q => q)
  · exact q.elim
theorem md_join {K : PySem.W.Frag} : MethD mo K (fun x xs H Q => ∃ a p, ∃ ys : List Str, x = .str a ∧ xs = [.ref p] ∧ (SqL K H p (ys.map V.str) ∨ SqT K H p (ys.map V.str)) ∧ (ys.map (·.length)).sum + ys.length * a.length ≤ 16777216 ∧ Q (.str (Txt.join a ys)) H) oJoin := by
  intro S g W H x y a b Q E' w sd ra rb h
  unfold oJoin at h
  split at h
  · split at h
    · rename_i ys e
      split at h
      · rename_i hl
        obtain ⟨p, us, rfl, hp, ap⟩ := Rp.lst_inv rb
        rw [strsOf_some e] at ap
        rw [ap.strs] at hp
        rw [Rp.str_inv ra]
        exact ⟨_, p, ys, rfl, rfl, .inl (SqL.of (cutS hp)), Nat.le_trans hl (by decide), QE.ret h w (Rp.str _)⟩
      · exact h.elim
    · exact h.elim
  · exact h.elim
theorem md_split {K : PySem.W.Frag} : MethD mo K (fun x xs H Q => ∃ a b, x = .str a ∧ xs = [.str b] ∧ (b.length == 0) = false ∧ a.length + 2 ≤ sizeLine ∧ rNewStrs (Txt.split a b) H Q) oSplit := by
  intro S g W H x y a b Q E' w sd ra rb h
  unfold oSplit at h
  split at h
  · split at h
    · rename_i hl
      rw [Rp.str_inv ra, Rp.str_inv rb]
      exact ⟨_, _, rfl, rfl, hl.1, lim_line hl.2, fun p hp => QE.new h w sd hp rpAll_strs⟩
    · exact h.elim
  · exact h.elim
theorem de_join (ha : DE X mo E a fa) (hb : DE X mo E b fb) (hs : starEach [b] X.env = [(false, eval b X.env)] := by rfl) (hbase : attributeBase a "join" X.env (eval a X.env) = eval a X.env := by rfl) (hline : (apos.endLine == pos.line) = true := by rfl) :
    DE X mo E (.Call (.Attribute a "join" apos) [b] [] pos) (dMethS oJoin fa fb) := by
  obtain ⟨ta, pa, wa⟩ := ha
  obtain ⟨tb, pb, wb⟩ := hb
  exact ⟨_, pe_join pa pb hs hbase hline, methS_run md_join wa wb⟩
theorem de_split (ha : DE X mo E a fa) (hb : DE X mo E b fb) (hs : starEach [b] X.env = [(false, eval b X.env)] := by rfl) (hbase : attributeBase a "split" X.env (eval a X.env) = eval a X.env := by rfl) (hline : (apos.endLine == pos.line) = true := by rfl) :
    DE X mo E (.Call (.Attribute a "split" apos) [b] [] pos) (dMethS oSplit fa fb) := by
  obtain ⟨ta, pa, wa⟩ := ha
  obtain ⟨tb, pb, wb⟩ := hb
  exact ⟨_, pe_split pa pb hs hbase hline, methS_run md_split wa wb⟩
/-! ### f'..' -/
def dFmt (fa : En → M RV) : En → M RV := fun en => (fa en).bind fun r => match r.1 with
  | .d (.int i) => if i.natAbs.log2 < 1920 then .ret (.d (.str (toString i)), false) else .stuck
  | _ => .stuck
theorem de_fmt (ha : DE X mo E a fa) : DE X mo E (.FormattedValue a (-1) none pos) (dFmt fa) := by
  obtain ⟨ta, pa, wa⟩ := ha
  refine ⟨_, pe_fmt pa, fun S g W σ H en Q hR h => ?_⟩
  unfold dFmt at h
  rw [wp_bind] at h
  refine wa S g W σ H en _ hR (wp_mono h (fun r1 W1 q g1 v1 H1 s1 w1 rr1 => ?_) fun _ _ q => q)
  try dsimp only at q
  split at q
  · rename_i i e
    replace rr1 := RepR.at rr1 e
    split at q
    · rename_i hi
      exact .inr ⟨i, Rp.int_inv rr1.1, hi, QE.ret (QE.step s1 q) w1 (Rp.str _)⟩
    · exact q.elim
  · exact q.elim
/-- f'{a}..{b}' -/
def dF3 (fa : En → M RV) (z : Str) (fb : En → M RV) : En → M RV := fun en => (dFmt fa en).bind fun x => match x.1 with
  | .d (.str u) => if (Str.empty ++ u).length ≤ lim ∧ ((Str.empty ++ u) ++ z).length ≤ lim then (dFmt fb en).bind fun y => (match y.1 with
      | .d (.str v) => if (((Str.empty ++ u) ++ z) ++ v).length ≤ lim then .ret (.d (.str (((Str.empty ++ u) ++ z) ++ v)), false) else .stuck
      | _ => .stuck)
    else .stuck
  | _ => .stuck
theorem de_f3 {z : Str} {k : Nat} {p1 p2 p3 : Pos} (ha : DE X mo E a fa) (hb : DE X mo E b fb) : DE X mo E (.JoinedStr [.FormattedValue a (-1) none p1, .Constant (.str z) k p2, .FormattedValue b (-1) none p3] pos) (dF3 fa z fb) := by
  obtain ⟨ta, pa, wa⟩ := de_fmt (pos := p1) ha
  obtain ⟨tb, pb, wb⟩ := de_fmt (pos := p3) hb
  refine ⟨_, pe_joined (.cons pa (.cons pe_str (.cons pb .nil))), fun S g W σ H en Q hR h => ?_⟩
  unfold dF3 at h
  rw [wp_bind] at h
  refine wa S g W σ H en _ hR (wp_mono h (fun r1 W1 q g1 v1 H1 s1 w1 rr1 => ?_) fun _ _ q => q)
  try dsimp only at q
  split at q
  · rename_i u e
    replace rr1 := RepR.at rr1 e
    split at q
    · rename_i hu
      refine ⟨u, Rp.str_inv rr1.1, lim_line hu.1, z, rfl, lim_line hu.2, ?_⟩
      rw [wp_bind] at q
      refine wb S g1 W1 σ H1 en _ (hR.step s1 w1) (wp_mono q (fun r2 W2 q2 g2 v2 H2 s2 w2 rr2 => ?_) fun _ _ q => q.step s1)
      try dsimp only at q2
      split at q2
      · rename_i v e2
        replace rr2 := RepR.at rr2 e2
        split at q2
        · rename_i hl
          exact ⟨v, Rp.str_inv rr2.1, lim_line hl, QE.ret (QE.step (s1.trans s2) q2) w2 (Rp.str _)⟩
        · exact q2.elim
      · exact q2.elim
    · exact q.elim
  · exact q.elim
/-! ### the signs of a text -/
def signs (z : Str) : List PyData := z.cps.toList.map fun c => .str ⟨#[c]⟩
theorem itok_str {K : PySem.W.Frag} {C : Hp} (z : Str) : ItOk K C (Its z) (signs z) where
  go := fun i H' d hd hs => by
    unfold signs at hd
    rw [List.getElem?_map, Option.map_eq_some_iff] at hd
    obtain ⟨c, hc, rfl⟩ := hd
    have hc' : z.cps[i]? = some c := by rw [← Array.getElem?_toList]; exact hc
    have hi : i < z.cps.size := (Array.getElem?_eq_some_iff.mp hc').1
    refine ⟨hi, fun x H'' y => ?_⟩
    obtain ⟨e1, c', e2, e3⟩ := y
    rw [hc'] at e2
    cases e2
    subst e1 e3
    exact ⟨Same.refl _, .str _⟩
  stop := fun i H' hi hs => by
    unfold signs at hi
    rw [List.length_map, Array.length_toList] at hi
    exact hi
def iStrD (fa : En → M RV) : En → M (List PyData) := fun en => (fa en).bind fun r => match r.1 with
  | .d (.str z) => .ret (signs z)
  | _ => .stuck
theorem di_str (ha : DE X mo E a fa) : DI X mo E tg a (iStrD fa) := by
  obtain ⟨ta, pa, wa⟩ := ha
  refine ⟨_, pi_str pa, fun S g W σ H en R hR h => ?_⟩
  unfold iStrD at h
  rw [wp_bind] at h
  refine wa S g W σ H en _ hR (wp_mono h (fun r1 W1 q g1 v1 H1 s1 w1 rr1 => ?_) fun _ _ q => q)
  try dsimp only at q
  split at q
  · rename_i z e
    replace rr1 := RepR.at rr1 e
    exact ⟨z, Rp.str_inv rr1.1, q g1 H1 _ s1 w1 (itok_str z)⟩
  · exact q.elim
end
end Dt

/-! The data layer, part 19: tellers. -/
namespace Dt
open PySem L2
structure TelF (K : PySem.W.Frag) (mg : Str → Option Value) (mo : Mo) : Prop where
  cl : Cls K mo.tc
  nNow : NoAttr K mo.tc "now"
  nPast : NoAttr K mo.tc "past"
  g : mg "Teller" = some (.ref mo.tc)
/-! ### what a teller does -/
def prP (q : Int × Int) : PyData := .tuple [.int q.1, .int q.2]
def isIn (lo hi : Int) : PyData → Bool
  | .int v => decide (lo ≤ v) && decide (v ≤ hi)
  | _ => false
def bndOf : PyData → Option (Int × Int)
  | .tuple [.int a, .int b] => if ((decide (-50 ≤ a) && decide (a ≤ 50)) && (decide (a ≤ b) && decide (b ≤ 50))) = true then some (a, b) else none
  | _ => none
def bndsOf : List PyData → Option (List (Int × Int))
  | [] => some []
  | d :: r => match bndOf d, bndsOf r with
    | some q, some qs => some (q :: qs)
    | _, _ => none
def boundsOf : PyData → Option (List (Int × Int))
  | .list xs => if (decide (1 ≤ xs.length) && decide (xs.length ≤ 7)) = true then bndsOf xs else none
  | _ => none
def fTelNew : List AV → M RV
  | [.d p] => (match boundsOf p with
    | some b => .onew (.tel b []) fun i => .ret (.ob i, false)
    | none => .raise .bounds)
  | _ => .stuck
def onTel (i : Nat) (f : List (Int × Int) → List (List (Int × Int)) → M RV) : M RV := .oget i fun o => match o with
  | .tel now past => f now past
  | _ => .stuck
def fTelBounds : List AV → M RV
  | [.ob i] => onTel i fun now _ => .ret (.d (.list (now.map prP)), true)
  | _ => .stuck
def fTelWidth : List AV → M RV
  | [.ob i] => onTel i fun now _ => if now.length ≤ 7 then rI' (now.map fun q => q.2 - q.1).sum else .stuck
  | _ => .stuck
def knownL (k : Nat) : List (Int × Int) → List Int
  | [] => []
  | q :: r => if q.1 = q.2 then (k : Int) :: knownL (k + 1) r else knownL (k + 1) r
def fTelKnown : List AV → M RV
  | [.ob i] => onTel i fun now _ => if now.length ≤ 7 then .ret (.d (.list ((knownL 0 now).map PyData.int)), true) else .stuck
  | _ => .stuck
def fTelLen : List AV → M RV
  | [.ob i] => onTel i fun _ past => rI' (past.length : Nat)
  | _ => .stuck
def fTelUndo : List AV → M RV
  | [.ob i] => onTel i fun _ past => match past.getLast? with
    | none => .raise .missing
    | some p => .oset i (.tel p past.dropLast) (.ret (.d (.list (p.map prP)), true))
  | _ => .stuck
def tellOne (now : List (Int × Int)) (k l h : Int) : Int × Int := (if (now.getD k.toNat (0, 0)).1 > l then (now.getD k.toNat (0, 0)).1 else l, if (now.getD k.toNat (0, 0)).2 < h then (now.getD k.toNat (0, 0)).2 else h)
def telPre (now : List (Int × Int)) (pl lo hi : PyData) : M (Int × Int × Int) := match pl, lo, hi with
  | .int k, .int l, .int h => if (decide (0 ≤ k) && decide (k ≤ (now.length : Int) - 1)) = true ∧ (decide (-50 ≤ l) && decide (l ≤ 50)) = true ∧ (decide (l ≤ h) && decide (h ≤ 50)) = true then .ret (k, l, h) else .raise .number
  | _, _, _ => .raise .number
theorem telPre_cases (now : List (Int × Int)) (pl lo hi : PyData) : telPre now pl lo hi = .raise .number ∨ ∃ k l h, pl = .int k ∧ lo = .int l ∧ hi = .int h ∧ (0 ≤ k ∧ k < now.length) ∧ telPre now pl lo hi = .ret (k, l, h) := by
  unfold telPre
  split
  · rename_i k l h
    split
    · rename_i hc
      refine .inr ⟨k, l, h, rfl, rfl, rfl, ?_, rfl⟩
      have := hc.1
      simp at this
      omega
    · exact .inl rfl
  · exact .inl rfl
def fTelTell : List AV → M RV
  | [.ob i, .d pl, .d lo, .d hi] => onTel i fun now past => if past.length < lim ∧ now.length ≤ 7 then (telPre now pl lo hi).bind fun x =>
      (if (tellOne now x.1 x.2.1 x.2.2).1 > (tellOne now x.1 x.2.1 x.2.2).2 then .raise .missing
        else .oset i (.tel (now.set x.1.toNat (tellOne now x.1 x.2.1 x.2.2)) (past ++ [now])) (.ret (.d (prP (tellOne now x.1 x.2.1 x.2.2)), false))) else .stuck
  | _ => .stuck
/-! ### statements ahead of a part walked by hand -/
def DP (X : Cx) (mo : Mo) (E : XK) (pre : List Stmt) (s : En → M Out) : Prop :=
  ∃ T : TS → TS, (∀ post tp, PSs X post tp → PSs X (pre ++ post) (T tp)) ∧ ∀ (tp : TS) (S₀ : Addr → Prop) (g₀ : Gh) (H₀ Fr : Hp) (g : Gh) (W : Wd) (σ : St) (H : Hp) (en : En) (D : Ends), RepS mo X.K S₀ g₀ H₀ Fr g W σ H en → wp (s en) W (QS mo X.K S₀ g₀ H₀ Fr { D with nx := tp D }) (EE mo X.K S₀ g₀ H₀ E) → T tp D σ H
section
variable {X : Cx} {mo : Mo} {E : XK} {pos p apos : Pos} {a e o : Expr} {es : List Expr} {fa fo : En → M RV} {fs : En → M (List AV)} {st : Stmt} {pre : List Stmt} {s1 s2 : En → M Out}
theorem dp_nil : DP X mo E [] sNil := ⟨fun t => t, fun _ _ h => h, fun tp S₀ g₀ H₀ Fr g W σ H en D r h => h g σ H r⟩
theorem dp_cons (h1 : DS X mo E st s1) (h2 : DP X mo E pre s2) : DP X mo E (st :: pre) (sSeq s1 s2) := by
  obtain ⟨t1, p1, w1⟩ := h1
  obtain ⟨T, pT, wT⟩ := h2
  refine ⟨fun tp => tSeq t1 (T tp), fun post tp h => pss_cons p1 (pT post tp h), fun tp S₀ g₀ H₀ Fr g W σ H en D r h => ?_⟩
  unfold sSeq at h
  rw [wp_bind] at h
  refine w1 S₀ g₀ H₀ Fr g W σ H en { D with nx := T tp D } r (wp_mono h (fun o W1 q => ?_) fun _ _ q => q)
  cases o with
  | nx en' => exact fun g' σ' H' r' => wT tp S₀ g₀ H₀ Fr g' W1 σ' H' en' D r' q
  | rt r => exact q
  | bk en' => exact q
  | ct en' => exact q
/-- self.now, self told by its bounds -/
def dNow (i : Nat) : En → M RV := fun en => match en[i]? with
  | some (some (.v (.tl xs))) => .ret (.d (.list xs), false)
  | _ => .stuck
theorem tel_now (n q : Addr) : (telF n q).lookup ("now" : Str) = some (.ref n) := by
  unfold telF
  rw [lookup_putF, if_neg (by decide), lookup_putF, if_pos rfl]
theorem tel_past (n q : Addr) : (telF n q).lookup ("past" : Str) = some (.ref q) := by
  unfold telF
  rw [lookup_putF, if_pos rfl]
theorem de_now (i : Nat) {x : Str} {q : Pos} (T : TelF X.K X.mg mo) (hN : X.N[i]? = some x := by rfl) (hv : Vis X.env.scope x := by first | exact Or.inl rfl | exact Or.inr (Or.inl rfl) | exact Or.inr (Or.inr rfl)) (hd : (x == ("__debug__" : Str)) = false := by decide)
    (hcd : (x == ("__classdict__" : Str)) = false := by decide) (hb : attributeBase (.Name x q) "now" X.env (eval (.Name x q) X.env) = eval (.Name x q) X.env := by rfl) : DE X mo E (.Attribute (.Name x q) "now" pos) (dNow i) := by
  refine ⟨_, pe_fld (pe_var hN hv hd hcd) hb, fun S g W σ H en Q hR h => ?_⟩
  unfold dNow at h
  split at h
  · rename_i xs ei
    obtain ⟨v, e1, z, dx, n, q, rfl, h2, h3⟩ := hR.sl i _ ei
    exact ⟨_, e1, z, mo.tc, dx, _, .ref n, rfl, cutS h2, T.cl, T.nNow, tel_now n q, QE.ret h hR.wok h3⟩
  · exact h.elim
/-! ### o.m(..) of a teller -/
structure MtD (P : Program) (w : World) (K : PySem.W.Frag) (mg : Str → Option Value) (base : Heap) (mo : Mo) (m : Str) (k : Nat) (F : List AV → M RV) : Prop where
  ex : ∃ (f : Addr) (fd : FuncData) (ps : List Str), FnOk P w K mg base (L2.CX P w) k f fd ps (spD mo K F) ∧ Meth K mo.tc m f ∧ Binds K fd ps []
def dMethO (F : List AV → M RV) (fo : En → M RV) (fs : En → M (List AV)) : En → M RV := fun en => (fo en).bind fun r => match r.1 with
  | .ob i => .oget i fun ob => (match ob with
    | .tel _ _ => (fs en).bind fun as => F (.ob i :: as)
    | _ => .stuck)
  | _ => .stuck
theorem tel_no {m : Str} (h1 : m ≠ "now") (h2 : m ≠ "past") (n q : Addr) : (telF n q).lookup m = none := by
  unfold telF
  rw [lookup_putF, if_neg h2, lookup_putF, if_neg h1]
  rfl
theorem methO_run {m : Str} {F : List AV → M RV} {ta : TE} {ts : TA} {n : Nat} {EX : XK} (h1 : m ≠ "now") (h2 : m ≠ "past")
    (wa : ∀ (S : Addr → Prop) (g : Gh) (W : Wd) (σ : St) (H : Hp) (en : En) (Q : VK), RepE mo X.K S g W σ H en → wp (fo en) W (QE mo X.K S g H Q) (EE mo X.K S g H EX) → ta σ H Q)
    (ws : ∀ (S : Addr → Prop) (g : Gh) (W : Wd) (σ : St) (H : Hp) (en : En) (Q : List V → Hp → Prop), RepE mo X.K S g W σ H en → wp (fs en) W (QA mo X.K n S g H Q) (EE mo X.K S g H EX) → ts σ H Q)
    (S : Addr → Prop) (g : Gh) (W : Wd) (σ : St) (H : Hp) (en : En) (Q : VK) (hR : RepE mo X.K S g W σ H en) (h : wp (dMethO F fo fs en) W (QE mo X.K S g H Q) (EE mo X.K S g H EX)) : tMeth mo.tc m (spD mo X.K F) [] EX ta ts σ H Q := by
  unfold dMethO at h
  rw [wp_bind] at h
  refine wa S g W σ H en _ hR (wp_mono h (fun r1 W1 q g1 v1 H1 s1 w1 rr1 => ?_) fun _ _ q => q)
  try dsimp only at q
  split at q
  · rename_i i e
    replace rr1 := RepR.at rr1 e
    obtain ⟨z, hadr, rfl⟩ := rr1.1
    obtain ⟨ob, hW, q⟩ := q
    dsimp only at q
    split at q
    · rename_i now past
      obtain ⟨dx, n', q', ps, vn, k1, _⟩ := w1.rep i z _ hadr hW
      refine ⟨z, dx, _, rfl, k1, tel_no h1 h2 _ _, ?_⟩
      rw [wp_bind] at q
      refine ws S g1 W1 σ H1 en _ (hR.step s1 w1) (wp_mono q (fun as W2 q2 g2 vs H2 s2 w2 rr2 hl => ?_) fun _ _ q => q.step s1)
      show spD mo X.K F (.ref z :: (vs ++ [])) H2 Q EX
      rw [List.append_nil]
      exact ⟨S, g2, W2, .ob i :: as, .cons ⟨z, s2.adr i z hadr, rfl⟩ rr2, w2, fun a s => s2.own a (s1.own a (hR.sd a s)), wp_mono q2 (fun _ _ q => q.step (s1.trans s2)) fun _ _ q => q.step (s1.trans s2)⟩
    · exact q.elim
  · exact q.elim
theorem de_meth {m : Str} {k : Nat} {F : List AV → M RV} {pl : Sem Bool} (T : TelF X.K X.mg mo) (h : MtD X.prog X.w X.K X.mg X.base mo m k F) (hr : Room k X.A) (hx : Passes (L2.CX X.prog X.w) X E) (ho : DE X mo E o fo) (hs : DA X mo E (e :: es) fs)
    (h1 : m ≠ "now" := by decide) (h2 : m ≠ "past" := by decide) (hst : starEach (e :: es) X.env = (false, eval e X.env) :: starEach es X.env := by rfl) (hpl : (backTo pos (starEach es X.env)).any (·.1) = false := by rfl)
    (ht : eval (.Call (.Attribute o m apos) (e :: es) [] pos) X.env = (do
      let ov ← eval o X.env
      standAt apos.atName
      let (f, first) ← holding [ov] (getMethod ov m pl)
      callWith pos f first (backTo pos (starEach (e :: es) X.env)) (backToKw pos (keywordEach [] X.env))) := by rfl) : DE X mo E (.Call (.Attribute o m apos) (e :: es) [] pos) (dMethO F fo fs) := by
  obtain ⟨f, fd, ps, G, hm, hb⟩ := h.ex
  obtain ⟨ta, pa, wa⟩ := ho
  obtain ⟨ts, pss, ws⟩ := hs
  exact ⟨_, pe_meth pa T.cl hm G hr hb .nil hx pss hst hpl ht, methO_run h1 h2 wa ws⟩
theorem de_meth0 {m : Str} {k : Nat} {F : List AV → M RV} {pl : Sem Bool} (T : TelF X.K X.mg mo) (h : MtD X.prog X.w X.K X.mg X.base mo m k F) (hr : Room k X.A) (hx : Passes (L2.CX X.prog X.w) X E) (ho : DE X mo E o fo)
    (h1 : m ≠ "now" := by decide) (h2 : m ≠ "past" := by decide)
    (ht : eval (.Call (.Attribute o m apos) [] [] pos) X.env = (do
      let ov ← eval o X.env
      standAt apos.atName
      let (f, first) ← holding [ov] (getMethod ov m pl)
      callWith pos f first (backTo pos (starEach [] X.env)) (backToKw pos (keywordEach [] X.env))) := by rfl) : DE X mo E (.Call (.Attribute o m apos) [] [] pos) (dMethO F fo aNil) := by
  obtain ⟨f, fd, ps, G, hm, hb⟩ := h.ex
  obtain ⟨ta, pa, wa⟩ := ho
  obtain ⟨ts, pss, ws⟩ := da_nil (X := X) (mo := mo) (E := E)
  exact ⟨_, pe_meth0 pa T.cl hm G hr hb .nil hx ht, methO_run (n := 0) h1 h2 wa fun S g W σ H en Q hR hw => hw g [] H (.refl g H) hR.wok .nil rfl⟩
/-- the same in a try: what is raised is told at the slots -/
theorem pe_methAt {CX : CXT} {k : Nat} {C f : Addr} {fd : FuncData} {ps : List Str} {sp : Sp} {EE' : St → XK} {ta : TE} {t : TA} {m : Str} {pl : Sem Bool} (he : PE X o ta) (c : Cls X.K C) (hm : Meth X.K C m f) (F : FnOk X.prog X.w X.K X.mg X.base CX k f fd ps sp) (hr : Room k X.A) (hb : Binds X.K fd ps []) (hx : ∀ σ, PassesAt CX X σ (EE' σ)) (ha : PA X (e :: es) t)
    (hst : starEach (e :: es) X.env = (false, eval e X.env) :: starEach es X.env) (hpl : (backTo pos (starEach es X.env)).any (·.1) = false)
    (ht : eval (.Call (.Attribute o m apos) (e :: es) [] pos) X.env = (do
      let ov ← eval o X.env
      standAt apos.atName
      let (f, first) ← holding [ov] (getMethod ov m pl)
      callWith pos f first (backTo pos (starEach (e :: es) X.env)) (backToKw pos (keywordEach [] X.env)))) :
    PE X (.Call (.Attribute o m apos) (e :: es) [] pos) (fun σ H Q => tMeth C m sp [] (EE' σ) ta t σ H Q) := by
  constructor
  intro pins s σ H Q I h
  refine PySem.W.methodCall_KW (pl := pl) (thn (he.run pins s σ H _ I h) fun u s1 hu => ?_) ht
  obtain ⟨x, H1, I1, rx, z, dx, fs, rfl, ez, l, q⟩ := hu
  cases rx
  refine getmeth_ok I1 ez c hm l (PySem.W.callWith_K (first := [.ref z]) (h₀ := X.base) I.ok.mod.kin hm.kp (thn (ha.run pos pins s1 σ H1 _ I1 q) fun us s2 h2 => ?_) hst hpl)
  obtain ⟨vs, H2, I2, r, q2⟩ := h2
  exact ⟨I2.kIn, run_fnSD (E := EE') (us := .ref z :: us) (vs := .ref z :: vs) F hr hb .nil (hx σ) I2 (.cons rfl r) q2⟩
theorem pe_methAt0 {CX : CXT} {k : Nat} {C f : Addr} {fd : FuncData} {ps : List Str} {sp : Sp} {EE' : St → XK} {ta : TE} {m : Str} {pl : Sem Bool} (he : PE X o ta) (c : Cls X.K C) (hm : Meth X.K C m f) (F : FnOk X.prog X.w X.K X.mg X.base CX k f fd ps sp) (hr : Room k X.A) (hb : Binds X.K fd ps []) (hx : ∀ σ, PassesAt CX X σ (EE' σ))
    (ht : eval (.Call (.Attribute o m apos) [] [] pos) X.env = (do
      let ov ← eval o X.env
      standAt apos.atName
      let (f, first) ← holding [ov] (getMethod ov m pl)
      callWith pos f first (backTo pos (starEach [] X.env)) (backToKw pos (keywordEach [] X.env)))) :
    PE X (.Call (.Attribute o m apos) [] [] pos) (fun σ H Q => tMeth C m sp [] (EE' σ) ta tNil σ H Q) := by
  constructor
  intro pins s σ H Q I h
  refine PySem.W.methodCall_KW (pl := pl) (thn (he.run pins s σ H _ I h) fun u s1 hu => ?_) ht
  obtain ⟨x, H1, I1, rx, z, dx, fs, rfl, ez, l, q⟩ := hu
  cases rx
  exact getmeth_ok I1 ez c hm l (PySem.W.callWith_K0 (first := [.ref z]) I1.kIn hm.kp (run_fnSD (E := EE') (us := [.ref z]) (vs := [.ref z]) F hr hb .nil (hx σ) I1 (.cons rfl .nil) q))
def xMethO (F : List AV → M RV) (fo : En → M RV) (fs : En → M (List AV)) : En → M RV := dMethO F (fun en => nox (fo en)) fun en => nox (fs en)
theorem dx_meth {Wx : WX} {m : Str} {k : Nat} {F : List AV → M RV} {pl : Sem Bool} (T : TelF X.K X.mg mo) (h : MtD X.prog X.w X.K X.mg X.base mo m k F) (hr : Room k X.A) (tk : Takes X Wx) (ho : DE X mo E0 o fo) (hs : DA X mo E0 (e :: es) fs)
    (h1 : m ≠ "now" := by decide) (h2 : m ≠ "past" := by decide) (hst : starEach (e :: es) X.env = (false, eval e X.env) :: starEach es X.env := by rfl) (hpl : (backTo pos (starEach es X.env)).any (·.1) = false := by rfl)
    (ht : eval (.Call (.Attribute o m apos) (e :: es) [] pos) X.env = (do
      let ov ← eval o X.env
      standAt apos.atName
      let (f, first) ← holding [ov] (getMethod ov m pl)
      callWith pos f first (backTo pos (starEach (e :: es) X.env)) (backToKw pos (keywordEach [] X.env))) := by rfl) : DX X mo Wx (.Call (.Attribute o m apos) (e :: es) [] pos) (xMethO F fo fs) := by
  obtain ⟨f, fd, ps, G, hm, hb⟩ := h.ex
  obtain ⟨ta, pa, wa⟩ := ho
  obtain ⟨ts, pss, ws⟩ := hs
  refine ⟨_, pe_methAt pa T.cl hm G hr hb (fun σ => passAt tk σ) pss hst hpl ht, fun S g W σ H en Q hR hw => ?_⟩
  exact methO_run (EX := WE Wx σ) (fo := fun en => nox (fo en)) (fs := fun en => nox (fs en)) h1 h2 (fun S g W σ' H en Q hR hw => wa S g W σ' H en Q hR (wp_nox hw)) (fun S g W σ' H en Q hR hw => ws S g W σ' H en Q hR (wp_nox hw)) S g W σ H en Q hR hw
theorem dx_meth0 {Wx : WX} {m : Str} {k : Nat} {F : List AV → M RV} {pl : Sem Bool} (T : TelF X.K X.mg mo) (h : MtD X.prog X.w X.K X.mg X.base mo m k F) (hr : Room k X.A) (tk : Takes X Wx) (ho : DE X mo E0 o fo)
    (h1 : m ≠ "now" := by decide) (h2 : m ≠ "past" := by decide)
    (ht : eval (.Call (.Attribute o m apos) [] [] pos) X.env = (do
      let ov ← eval o X.env
      standAt apos.atName
      let (f, first) ← holding [ov] (getMethod ov m pl)
      callWith pos f first (backTo pos (starEach [] X.env)) (backToKw pos (keywordEach [] X.env))) := by rfl) : DX X mo Wx (.Call (.Attribute o m apos) [] [] pos) (xMethO F fo aNil) := by
  obtain ⟨f, fd, ps, G, hm, hb⟩ := h.ex
  obtain ⟨ta, pa, wa⟩ := ho
  refine ⟨_, pe_methAt0 pa T.cl hm G hr hb (fun σ => passAt tk σ) ht, fun S g W σ H en Q hR hw => ?_⟩
  exact methO_run (EX := WE Wx σ) (n := 0) (fo := fun en => nox (fo en)) (fs := fun en => nox (aNil en)) h1 h2 (fun S g W σ' H en Q hR hw => wa S g W σ' H en Q hR (wp_nox hw)) (fun S g W σ' H en Q hR hw => hw g [] H (.refl g H) hR.wok .nil rfl) S g W σ H en Q hR hw
end
end Dt

/-! The data layer, part 20: the methods of a teller. -/
namespace Dt
open PySem L2
section
variable {mo : Mo} {K : PySem.W.Frag} {S : Addr → Prop} {g : Gh} {H H' : Hp} {W : Wd}
/-- tuples are no own lists -/
theorem sqT_in (sd : ∀ a, S a → OL g H a) {t : Addr} {xs : List V} (h : SqT K (cut H g.R) t xs) : SqT K (cut H fun a => S a ∨ g.R a) t xs := by
  rcases h with (h | ⟨o, h⟩) | h
  · obtain ⟨e, n⟩ := cut_some.mp h
    refine .inl (.inl (cut_some.mpr ⟨e, fun z => z.elim (fun z => ?_) n⟩))
    obtain ⟨⟨vs, e'⟩, _⟩ := sd t z
    rw [e] at e'
    cases e'
  · obtain ⟨e, n⟩ := cut_some.mp h
    refine .inl (.inr ⟨o, cut_some.mpr ⟨e, fun z => z.elim (fun z => ?_) n⟩⟩)
    obtain ⟨⟨vs, e'⟩, _⟩ := sd t z
    rw [e] at e'
    cases e'
  · exact .inr h
theorem rpT_all (sd : ∀ a, S a → OL g H a) : ∀ {vs : List V} {now : List (Int × Int)}, RpT K (cut H g.R) vs now → RpAll K (cut H fun a => S a ∨ g.R a) vs (now.map prP)
  | _, _, .nil => .nil
  | _, _, .cons ⟨t, e, z⟩ r => by
    subst e
    exact .cons (.tup (sqT_in sd z) (.cons (.int _) (.cons (.int _) .nil))) (rpT_all sd r)
theorem rpT_mono {C C' : Hp} (h : Same C C') : ∀ {vs : List V} {now : List (Int × Int)}, RpT K C vs now → RpT K C' vs now
  | _, _, .nil => .nil
  | _, _, .cons ⟨t, e, z⟩ r => .cons ⟨t, e, Same.seqT h z⟩ (rpT_mono h r)
theorem rpT_len {C : Hp} {vs : List V} {now : List (Int × Int)} (h : RpT K C vs now) : vs.length = now.length := Paired.length h
/-- the world in which all is plain -/
def g0 : Gh := ⟨[], fun _ _ => False⟩
theorem g0_R {a : Addr} : ¬ g0.R a := fun ⟨_, z⟩ => z
theorem wok0 : WOk mo K (fun _ => False) g0 [] H := ⟨rfl, fun _ _ f => f.elim, fun _ _ _ f => f.elim, fun i b o e => by simp [g0] at e⟩
theorem same0 : Same H (cut H fun a => False ∨ g0.R a) := fun b o e => cut_some.mpr ⟨e, fun z => z.elim id g0_R⟩
theorem step0 {g' : Gh} (s : Step g0 H g' H') : Same H H' := fun b o e => (s.keep b o g0_R e).1
theorem rpT_all0 : ∀ {C : Hp} {vs : List V} {now : List (Int × Int)}, RpT K C vs now → RpAll K C vs (now.map prP)
  | _, _, _, .nil => .nil
  | _, _, _, .cons ⟨t, e, z⟩ r => by
    subst e
    exact .cons (.tup z (.cons (.int _) (.cons (.int _) .nil))) (rpT_all0 r)
/-- a teller, in the plain world -/
theorem tl_of {i : Nat} {a : Addr} {now : List (Int × Int)} {past : List (List (Int × Int))} (w : WOk mo K S g W H) (ha : g.adr[i]? = some a) (hW : W[i]? = some (.tel now past)) : RepA mo K (fun _ => False) g0 H (.ref a) (.tl (now.map prP)) := by
  obtain ⟨dx, n, q, ps, vn, k1, k2, k3, k4, _⟩ := w.rep i a _ ha hW
  exact ⟨a, dx, n, q, rfl, same0 _ _ k1, .lst (same0 _ _ k2) ((rpT_all0 k4).mono fun b o e => same0 _ _ (cutS e))⟩
/-- an answer of the plain world that is no object -/
def flatA : AV → Bool
  | .d p => flatP p
  | _ => false
end
section
variable {K : PySem.W.Frag} {mo : Mo} {E : XK}
/-- what a call in the plain world gives -/
theorem plain_back {S : Addr → Prop} {g : Gh} {W : Wd} {H : Hp} {Q : VK} {p : PyData} (w : WOk mo K S g W H) (hp : flatP p = true) (q : QE mo K S g H Q (.d p, false) W) : QE mo K (fun _ => False) g0 H Q (.d p, false) [] := fun g' v H' s w' rr => by
  have sm := step0 s
  refine q g v H' (.of_same sm) (w.same sm) ⟨?_, fun z => by cases z⟩
  have r1 := rr.1
  cases p with
  | none => cases r1; exact .non
  | bool b => cases r1; exact .bl _
  | int b => cases r1; exact .int _
  | str b => cases r1; exact .str _
  | _ => simp [flatP] at hp
theorem plain_err {S : Addr → Prop} {g : Gh} {W : Wd} {H : Hp} {er : Err} (w : WOk mo K S g W H) (q : EE mo K S g H E er W) : EE mo K (fun _ => False) g0 H E er [] := fun g' H' s w' => q g H' (.of_same (step0 s)) (w.same (step0 s))
/-- a new list of ints -/
theorem plain_ints {S : Addr → Prop} {g : Gh} {W : Wd} {H : Hp} {Q : VK} {ns : List Int} (w : WOk mo K S g W H) (sd : ∀ a, S a → OL g H a) (q : QE mo K S g H Q (.d (.list (ns.map PyData.int)), true) W) : QE mo K (fun _ => False) g0 H Q (.d (.list (ns.map PyData.int)), true) [] := fun g' v H' s w' rr => by
  have sm := step0 s
  obtain ⟨p, vs, xs, rfl, a2, a3, a4, a5, a6, a7, a8⟩ := rr.2 rfl
  cases a2
  have ev := a7.ints
  subst ev
  have nS : ¬ S p := fun z => (sd p z).ne a3
  have nR : ¬ g.R p := fun z => w.rdom z a3
  refine q g (.ref p) H' (.of_same sm) (w.same sm) ⟨.lst (cut_some.mpr ⟨a4, fun z => z.elim nS nR⟩) rpAll_ints, fun _ => ⟨p, _, _, rfl, rfl, a3, a4, nS, nR, rpAll_ints, (w.same sm).any⟩⟩
end
/-! ### readings -/
abbrev rListOf (K : PySem.W.Frag) : List V → Hp → VK → Prop := fun xs H Q => ∃ p ys, xs = [.ref p] ∧ (SqL K H p ys ∨ SqT K H p ys) ∧ ∀ l, H l = none → Q (.ref l) (upd H l (.lst ys))
section
variable {K : PySem.W.Frag} {mg : Str → Option Value} {mo : Mo} {E : XK}
theorem tel_boundsR (T : TelF K mg mo) {vs : List V} {H : Hp} {Q : VK} {D : Ends} {σ : St} (h : spD mo K fTelBounds vs H Q E) (hσ : ∀ v, vs[0]? = some v → σ[0]? = some (some v)) (hD : ∀ v H', Q v H' → D.rt v H') :
    tRet (tCB (rListOf K) (tCons (tFld K (tVar 0) "now") tNil)) D σ H := by
  obtain ⟨S, g, W, as, ra, w, sd, hw⟩ := h
  unfold fTelBounds at hw
  split at hw
  · rename_i i
    obtain ⟨v, rfl, a, hadr, rfl⟩ := reps1 ra
    obtain ⟨o, hW, hw⟩ := hw
    dsimp only at hw
    split at hw
    · obtain ⟨dx, n, q, ps, vn, k1, k2, k3, k4, _⟩ := w.rep i a _ hadr hW
      exact ⟨_, hσ _ rfl, a, mo.tc, dx, _, .ref n, rfl, k1, T.cl, T.nNow, tel_now n q, n, vn, rfl, .inl (SqL.of k2), fun l hl => hD _ _ (QE.new hw w sd hl (rpT_all sd k4))⟩
    · exact hw.elim
  · exact hw.elim
theorem tel_lenR (T : TelF K mg mo) {vs : List V} {H : Hp} {Q : VK} {D : Ends} {σ : St} (h : spD mo K fTelLen vs H Q E) (hσ : ∀ v, vs[0]? = some v → σ[0]? = some (some v)) (hD : ∀ v H', Q v H' → D.rt v H') :
    tRet (tCB (fun xs H Q => ∃ x n, xs = [x] ∧ LenV K x H n ∧ Q (.int n) H) (tCons (tFld K (tVar 0) "past") tNil)) D σ H := by
  obtain ⟨S, g, W, as, ra, w, sd, hw⟩ := h
  unfold fTelLen at hw
  split at hw
  · rename_i i
    obtain ⟨v, rfl, a, hadr, rfl⟩ := reps1 ra
    obtain ⟨o, hW, hw⟩ := hw
    dsimp only at hw
    split at hw
    · obtain ⟨dx, n, q, ps, vn, k1, k2, k3, k4, k5, _⟩ := w.rep i a _ hadr hW
      refine ⟨_, hσ _ rfl, a, mo.tc, dx, _, .ref q, rfl, k1, T.cl, T.nPast, tel_past n q, _, (ps.map V.ref).length, rfl, .inl ⟨_, SqL.of k3, rfl⟩, hD _ _ ?_⟩
      rw [List.length_map, Paired.length k5]
      exact QE.ret hw w (Rp.int _)
    · exact hw.elim
  · exact hw.elim
/-! ### past is data -/
theorem shaped_past (past : List (List (Int × Int))) : SeqAt.shaped (.list (past.map fun xs => .list (xs.map prP))) = true := by
  have h1 : ∀ l : List (Int × Int), PyData.canLayAll0 (l.map prP) = true ∧ PyData.depthAll (l.map prP) ≤ 1 := by
    intro l
    induction l with
    | nil => exact ⟨rfl, by simp [PyData.depthAll]⟩
    | cons a l ih =>
      refine ⟨by simp [prP, PyData.canLayAll0, PyData.canLay0] at ih ⊢; exact ih.1, ?_⟩
      have := ih.2
      simp only [List.map_cons, prP, PyData.depthAll, PyData.depth] at this ⊢
      omega
  have h2 : PyData.canLayAll0 (past.map fun xs => .list (xs.map prP)) = true ∧ PyData.depthAll (past.map fun xs => .list (xs.map prP)) ≤ 2 := by
    induction past with
    | nil => exact ⟨rfl, by simp [PyData.depthAll]⟩
    | cons a l ih =>
      obtain ⟨a1, a2⟩ := h1 a
      refine ⟨by simp [PyData.canLayAll0, PyData.canLay0, a1, ih.1], ?_⟩
      have := ih.2
      simp only [List.map_cons, PyData.depthAll, PyData.depth]
      omega
  unfold SeqAt.shaped
  rw [Bool.and_eq_true]
  refine ⟨by simp only [PyData.canLay0]; exact h2.1, decide_eq_true ?_⟩
  simp only [PyData.depth]
  have := h2.2
  omega
theorem dp_past {C H H1 : Hp} {f : Addr → Prop} (hs : Same H H1) (hC : Same C H1) : ∀ {ps : List Addr} {past : List (List (Int × Int))}, Paired (fun p xs => ∃ vs, H p = some (.lst vs) ∧ RpT K C vs xs ∧ f p) ps past → DpAll K H1 (ps.map V.ref) (past.map fun xs => .list (xs.map prP))
  | _, _, .nil => .nil
  | _, _, .cons ⟨vs, h1, h2, _⟩ r => .cons (.lst (SqL.of (hs _ _ h1)) (((rpT_all0 h2).mono hC).dp)) (dp_past hs hC r)
theorem put_now (n n' q : Addr) : putF "now" (.ref n') (telF n q) = telF n' q := by
  unfold telF
  have e1 : putF ("now" : Str) (V.ref n) [] = [(("now" : Str), V.ref n)] := rfl
  have e2 : putF ("now" : Str) (V.ref n') [] = [(("now" : Str), V.ref n')] := rfl
  have hne : ¬ (("now" : Str) = "past") := by decide
  rw [e1, e2]
  simp only [putF, if_neg hne, if_true]
theorem paired_snoc {α β : Type} {R : α → β → Prop} : ∀ {xs : List α} {ys : List β} {y : β}, Paired R xs (ys ++ [y]) → ∃ xs' x, xs = xs' ++ [x] ∧ Paired R xs' ys ∧ R x y
  | _, [], _, .cons r .nil => ⟨[], _, rfl, .nil, r⟩
  | _, z :: zs, _, .cons r t => by
    obtain ⟨xs', x, rfl, h1, h2⟩ := paired_snoc t
    exact ⟨_ :: xs', x, rfl, .cons r h1, h2⟩
theorem paired_app {α β : Type} {R : α → β → Prop} : ∀ {xs : List α} {ys : List β} {x : α} {y : β}, Paired R xs ys → R x y → Paired R (xs ++ [x]) (ys ++ [y])
  | _, _, _, _, .nil, h => .cons h .nil
  | _, _, _, _, .cons r t, h => .cons r (paired_app t h)
theorem paired_imp {α β : Type} {F G : α → β → Prop} : ∀ {l₁ : List α} {l₂ : List β}, (∀ a ∈ l₁, ∀ b, F a b → G a b) → Paired F l₁ l₂ → Paired G l₁ l₂
  | _, _, _, .nil => .nil
  | _, _, f, .cons r t => .cons (f _ List.mem_cons_self _ r) (paired_imp (fun a ha => f a (List.mem_cons_of_mem _ ha)) t)
/-- self.past == [] / self.now = self.past.pop(); return list(self.now) -/
theorem tel_undoR (T : TelF K mg mo) {vs : List V} {H : Hp} {Q : VK} {D : Ends} {σ : St} (h : spD mo K fTelUndo vs H Q E) (hσ : ∀ v, vs[0]? = some v → σ[0]? = some (some v)) (hD : ∀ v H', Q v H' → D.rt v H') :
    tSeq (tIfS (tTest (tOp (rEqD K) (tFld K (tVar 0) "past") (tLst tNil))) (fun _ _ H => E (.ref (mo.ec .missing)) none H) tNext) (tSeq (sFld K (tVar 0) (tBM0 K "list" rPop (tFld K (tVar 0) "past")) "now") (tRet (tCB (rListOf K) (tCons (tFld K (tVar 0) "now") tNil)))) D σ H := by
  obtain ⟨S, g, W, as, ra, w, sd, hw⟩ := h
  unfold fTelUndo at hw
  split at hw
  · rename_i i
    obtain ⟨v, rfl, a, hadr, rfl⟩ := reps1 ra
    obtain ⟨o, hW, hw⟩ := hw
    dsimp only at hw
    split at hw
    · rename_i now past
      have s0 := hσ _ rfl
      obtain ⟨dx, n, q, ps, vn, k1, k2, k3, k4, k5, fa, fdx, fn, fq, nq, nps, qps, nd, hdx⟩ := w.rep i a _ hadr hW
      refine ⟨_, s0, a, mo.tc, dx, _, .ref q, rfl, k1, T.cl, T.nPast, tel_past n q, Nat.zero_le _, fun l0 hl0 => ?_⟩
      have sm : Same H (upd H l0 (.lst [])) := same_new hl0
      refine ⟨.list (past.map fun xs => .list (xs.map prP)), .list [], .lst (SqL.of (sm _ _ k3)) (dp_past sm (fun b o e => sm _ _ (cutS e)) k5), .lst (SqL.of upd_same) .nil, shaped_past past, by decide +kernel, _, rfl, ?_⟩
      have w1 := w.same sm
      cases hp : past.getLast? with
      | none =>
        rw [hp] at hw
        rw [List.getLast?_eq_none_iff] at hp
        subst hp
        refine iteT ?_
        exact hw g _ (.of_same sm) w1
      | some p =>
        rw [hp] at hw
        obtain ⟨past', rfl⟩ : ∃ past', past = past' ++ [p] := List.getLast?_eq_some_iff.mp hp
        have ne : PyData.eqv (.list ((past' ++ [p]).map fun xs => .list (xs.map prP))) (.list []) = false := by
          cases past' <;> rfl
        rw [ne]
        refine iteF ?_
        obtain ⟨ps', pl, rfl, m5, vs5, m6, m7, m8⟩ := paired_snoc k5
        rw [List.dropLast_concat] at hw
        obtain ⟨hi, hw⟩ := hw
        have hnd := List.nodup_append.mp nd
        have plps : pl ∉ ps' := fun z => hnd.2.2 pl z pl (by simp) rfl
        have plq : pl ≠ q := fun z => qps (by rw [← z]; simp)
        have pln : pl ≠ n := fun z => nps (by rw [← z]; simp)
        have aq : a ≠ q := ne_of k1 k3 (by intro z; cases z)
        have k3' : upd H l0 (.lst []) q = some (.lst ((ps' ++ [pl]).map V.ref)) := sm _ _ k3
        have k1' : upd H l0 (.lst []) a = some (.ins mo.tc dx (telF n q)) := sm _ _ k1
        refine ⟨_, s0, a, mo.tc, dx, _, .ref q, rfl, k1', T.cl, T.nPast, tel_past n q, .inl ⟨rfl, _, SqL.of k3'⟩, q, _, .ref pl, rfl, rfl, k3', by simp, ?_⟩
        have k1'' : upd (upd H l0 (.lst [])) q (.lst ((ps' ++ [pl]).map V.ref).dropLast) a = some (.ins mo.tc dx (telF n q)) := by rw [upd_ne aq]; exact k1'
        refine ⟨_, s0, a, mo.tc, dx, _, rfl, k1'', T.cl, T.nNow, by show (telF n q).length < 1000; exact Nat.lt_of_le_of_lt (by decide : (2 : Nat) ≤ 2) (by decide), ?_⟩
        rw [put_now]
        have hdl : ((ps' ++ [pl]).map V.ref).dropLast = ps'.map V.ref := by rw [List.map_append, List.map_singleton, List.dropLast_concat]
        rw [hdl]
        generalize hH3 : upd (upd (upd H l0 (.lst [])) q (.lst (ps'.map V.ref))) a (.ins mo.tc dx (telF pl q)) = H3
        have at3 : ∀ b, b ≠ a → b ≠ q → H3 b = upd H l0 (.lst []) b := fun b h1 h2 => by rw [← hH3, upd_ne h1, upd_ne h2]
        have a3 : H3 a = some (.ins mo.tc dx (telF pl q)) := by rw [← hH3]; exact upd_same
        have q3 : H3 q = some (.lst (ps'.map V.ref)) := by rw [← hH3, upd_ne aq.symm]; exact upd_same
        have hk : ∀ b, ¬ g.fp i b → H3 b = upd H l0 (.lst []) b := fun b z => at3 b (fun e => z (e ▸ fa)) (fun e => z (e ▸ fq))
        have hdm : ∀ b, g.fp i b → H3 b ≠ none := fun b f => by
          by_cases e1 : b = a
          · subst e1; rw [a3]; exact fun z => by cases z
          · by_cases e2 : b = q
            · subst e2; rw [q3]; exact fun z => by cases z
            · rw [at3 b e1 e2]; exact (w1.dom i b f).2
        have keepL : ∀ {b : Addr} {us : List V}, b ≠ q → H b = some (.lst us) → H3 b = some (.lst us) := fun {b us} hb e => by
          rw [at3 b (fun z => by subst z; rw [k1] at e; cases e) hb]; exact sm _ _ e
        have hCC : Same (cut H g.R) (cut H3 g.R) := cut_mono fun b o e z => ⟨by rw [at3 b (fun e => z ⟨i, e ▸ fa⟩) (fun e => z ⟨i, e ▸ fq⟩)]; exact sm _ _ e, z⟩
        have w3 := w1.at (S' := S) (o := .tel p past') hi hadr hk hdm ⟨dx, pl, q, ps', vs5, a3, keepL plq m6, q3, rpT_mono hCC m7,
          paired_imp (fun b hb xs ⟨us, z1, z2, z3⟩ => ⟨us, keepL (fun e => qps (by rw [← e]; simp [hb])) z1, rpT_mono hCC z2, z3⟩) m5, fa, fdx, m8, fq, plq, plps, fun z => qps (by simp [z]), hnd.1, hdm dx fdx⟩
        have st : Step g H g H3 := (Step.of_same sm).trans (step_at hk hdm)
        have sd3 : ∀ a, S a → OL g H3 a := fun a s => st.own a (sd a s)
        refine ⟨_, s0, a, mo.tc, dx, _, .ref pl, rfl, a3, T.cl, T.nNow, tel_now pl q, pl, vs5, rfl, .inl (SqL.of (keepL plq m6)), fun l hl => hD _ _ (QE.new (QE.step st hw) w3 sd3 hl (rpT_all sd3 (rpT_mono hCC m7)))⟩
    · exact hw.elim
  · exact hw.elim
end
end Dt

/-! The data layer, part 21: tell; a new teller; len(teller). -/
namespace Dt
open PySem L2
section
variable {mo : Mo} {K : PySem.W.Frag} {S S' : Addr → Prop} {g : Gh} {H H' : Hp} {W : Wd}
/-- an object gets one address more -/
def Gh.grow (g : Gh) (i : Nat) (l : Addr) : Gh := ⟨g.adr, fun j b => g.fp j b ∨ (j = i ∧ b = l)⟩
theorem grow_R {i : Nat} {l b : Addr} : (g.grow i l).R b ↔ g.R b ∨ b = l := by
  unfold Gh.R Gh.grow
  constructor
  · rintro ⟨j, h | ⟨_, h⟩⟩
    · exact .inl ⟨j, h⟩
    · exact .inr h
  · rintro (⟨j, h⟩ | h)
    · exact ⟨j, .inl h⟩
    · exact ⟨i, .inr ⟨rfl, h⟩⟩
theorem WOk.grow {i : Nat} {a l : Addr} {o : AObj} (w : WOk mo K S g W H) (hi : i < W.length) (ha : g.adr[i]? = some a) (hl : H l = none) (hl' : H' l ≠ none) (hk : ∀ b u, ¬ g.fp i b → H b = some u → H' b = some u) (hd : ∀ b, g.fp i b → H' b ≠ none)
    (hr : ORep mo K (cut H' (g.grow i l).R) H' ((g.grow i l).fp i) a o) : WOk mo K S' (g.grow i l) (W.set i o) H' ∧ Step g H (g.grow i l) H' := by
  have nl : ∀ j, ¬ g.fp j l := fun j f => (w.dom j l f).2 hl
  refine ⟨⟨by rw [List.length_set]; exact w.len, fun j b f => ?_, fun j k b f1 f2 => ?_, fun j b o' e1 e2 => ?_⟩, ⟨fun b u n e => ⟨hk b u (fun z => n ⟨i, z⟩) e, fun z => (grow_R.mp z).elim n fun z => by subst z; rw [hl] at e; cases e⟩, fun b h => ?_, fun j b h => h⟩⟩
  · rw [List.length_set]
    rcases f with f | ⟨rfl, rfl⟩
    · refine ⟨(w.dom j b f).1, ?_⟩
      by_cases e : g.fp i b
      · exact hd b e
      · cases q : H b with
        | none => exact absurd q (w.dom j b f).2
        | some u => rw [hk b u e q]; exact fun z => by cases z
    · exact ⟨hi, hl'⟩
  · rcases f1 with f1 | ⟨rfl, rfl⟩
    · rcases f2 with f2 | ⟨rfl, rfl⟩
      · exact w.dis j k b f1 f2
      · exact absurd f1 (nl j)
    · rcases f2 with f2 | ⟨rfl, _⟩
      · exact absurd f2 (nl k)
      · rfl
  · by_cases e : i = j
    · subst e
      rw [List.getElem?_set_self hi] at e2
      cases e2
      have : b = a := by
        have e1' : g.adr[i]? = some b := e1
        rw [ha] at e1'
        exact (Option.some.inj e1').symm
      subst this
      exact hr
    · rw [List.getElem?_set_ne e] at e2
      have ef : (g.grow i l).fp j = g.fp j := by
        funext c
        exact propext ⟨fun z => z.elim id fun z => absurd z.1.symm e, .inl⟩
      rw [ef]
      refine (w.rep j b o' e1 e2).mono (fun t xs z => Same.seqT (cut_mono fun c u q n => ⟨hk c u (fun z => n ⟨i, z⟩) q, fun z => (grow_R.mp z).elim n fun z => by subst z; rw [hl] at q; cases q⟩) z) fun c u f q => hk c u (fun z => e (w.dis i j c z f)) q
  · by_cases e : g.fp i b
    · exact hd b e
    · cases q : H b with
      | none => exact absurd q h
      | some u => rw [hk b u e q]; exact fun z => by cases z
end
section
variable {mo : Mo} {K : PySem.W.Frag}
theorem rpT_set {C : Hp} {v : V} {o : Int × Int} (h : ∃ t, v = .ref t ∧ SqT K C t [.int o.1, .int o.2]) : ∀ {vs : List V} {now : List (Int × Int)} (j : Nat), RpT K C vs now → RpT K C (vs.set j v) (now.set j o)
  | _, _, _, .nil => .nil
  | _, _, 0, .cons _ t => .cons h t
  | _, _, j + 1, .cons r t => .cons r (rpT_set h j t)
/-- behind tell -/
theorem tell_fin {S : Addr → Prop} {g : Gh} {W : Wd} {H H' : Hp} {i j : Nat} {a dx n q t1 l : Addr} {ps : List Addr} {vn : List V} {now : List (Int × Int)} {past : List (List (Int × Int))} {one : Int × Int} {Q : VK} {E' : Err → Wd → Prop} (w : WOk mo K S g W H) (sd : ∀ a, S a → OL g H a) (hadr : g.adr[i]? = some a)
    (k1 : H a = some (.ins mo.tc dx (telF n q))) (k2 : H n = some (.lst vn)) (k3 : H q = some (.lst (ps.map V.ref))) (k4 : RpT K (cut H g.R) vn now) (k5 : Paired (fun p xs => ∃ vs, H p = some (.lst vs) ∧ RpT K (cut H g.R) vs xs ∧ g.fp i p) ps past)
    (fa : g.fp i a) (fdx : g.fp i dx) (fn : g.fp i n) (fq : g.fp i q) (nq : n ≠ q) (nps : n ∉ ps) (qps : q ∉ ps) (nd : ps.Nodup) (sm : Same H H') (ht : H' t1 = none) (hl : upd H' t1 (.tup [.int one.1, .int one.2]) l = none)
    (hw : wp (.oset i (.tel (now.set j one) (past ++ [now])) (.ret (.d (prP one), false))) W (QE mo K S g H Q) E') :
    Q (.ref t1) (upd (upd (upd (upd H' t1 (.tup [.int one.1, .int one.2])) l (.lst vn)) q (.lst (ps.map V.ref ++ [.ref l]))) n (.lst (vn.set j (.ref t1)))) := by
  obtain ⟨hi, hw⟩ := hw
  have hlt : l ≠ t1 := fun z => by subst z; rw [upd_same] at hl; cases hl
  have hl' : H' l = none := by rw [upd_ne hlt] at hl; exact hl
  have hl0 : H l = none := sm.free hl'
  have ht0 : H t1 = none := sm.free ht
  have ne0 : ∀ {b : Addr} {o : HO}, H b = some o → b ≠ t1 ∧ b ≠ l := fun {b o} e => ⟨ne_of_none e ht0, ne_of_none e hl0⟩
  generalize hH4 : upd (upd (upd (upd H' t1 (.tup [.int one.1, .int one.2])) l (.lst vn)) q (.lst (ps.map V.ref ++ [.ref l]))) n (.lst (vn.set j (.ref t1))) = H4
  have at4 : ∀ b, b ≠ n → b ≠ q → b ≠ l → b ≠ t1 → H4 b = H' b := fun b h1 h2 h3 h4 => by rw [← hH4, upd_ne h1, upd_ne h2, upd_ne h3, upd_ne h4]
  have n4 : H4 n = some (.lst (vn.set j (.ref t1))) := by rw [← hH4]; exact upd_same
  have q4 : H4 q = some (.lst ((ps ++ [l]).map V.ref)) := by rw [← hH4, upd_ne nq.symm, upd_same]; simp
  have l4 : H4 l = some (.lst vn) := by rw [← hH4, upd_ne (ne0 k2).2.symm, upd_ne (ne0 k3).2.symm]; exact upd_same
  have t4 : H4 t1 = some (.tup [.int one.1, .int one.2]) := by rw [← hH4, upd_ne (ne0 k2).1.symm, upd_ne (ne0 k3).1.symm, upd_ne hlt.symm]; exact upd_same
  have hk : ∀ b u, ¬ g.fp i b → H b = some u → H4 b = some u := fun b u z e => by
    rw [at4 b (fun e => z (e ▸ fn)) (fun e => z (e ▸ fq)) (ne0 e).2 (ne0 e).1]
    exact sm _ _ e
  have keepA : ∀ {b : Addr} {o : HO}, b ≠ n → b ≠ q → H b = some o → H4 b = some o := fun {b o} h1 h2 e => by
    rw [at4 b h1 h2 (ne0 e).2 (ne0 e).1]
    exact sm _ _ e
  have hd : ∀ b, g.fp i b → H4 b ≠ none := fun b f => by
    by_cases e1 : b = n
    · subst e1; rw [n4]; exact fun z => by cases z
    · by_cases e2 : b = q
      · subst e2; rw [q4]; exact fun z => by cases z
      · cases e : H b with
        | none => exact absurd e (w.dom i b f).2
        | some u => rw [keepA e1 e2 e]; exact fun z => by cases z
  have nRt : ¬ (g.grow i l).R t1 := fun z => (grow_R.mp z).elim (fun z => w.rdom z ht0) fun z => hlt z.symm
  have hCC : Same (cut H g.R) (cut H4 (g.grow i l).R) := cut_mono fun b o e z => ⟨hk b o (fun f => z ⟨i, f⟩) e, fun y => (grow_R.mp y).elim z fun y => by subst y; rw [hl0] at e; cases e⟩
  have an : a ≠ n := ne_of k1 k2 (by intro z; cases z)
  have aq : a ≠ q := ne_of k1 k3 (by intro z; cases z)
  have lps : l ∉ ps := fun z => by
    obtain ⟨xs, _, vs, e, _⟩ := paired_get k5 l z
    rw [hl0] at e
    cases e
  have sq1 : SqT K (cut H4 (g.grow i l).R) t1 [.int one.1, .int one.2] := SqT.of (cut_some.mpr ⟨t4, nRt⟩)
  obtain ⟨w4, s4⟩ := w.grow (S' := S) (o := .tel (now.set j one) (past ++ [now])) hi hadr hl0 (by rw [l4]; exact fun z => by cases z) hk hd
    ⟨dx, n, q, ps ++ [l], vn.set j (.ref t1), keepA an aq k1, n4, q4, rpT_set ⟨t1, rfl, sq1⟩ j (rpT_mono hCC k4),
      paired_app (paired_imp (fun b hb xs ⟨us, z1, z2, z3⟩ => ⟨us, keepA (fun e => nps (by rw [← e]; exact hb)) (fun e => qps (by rw [← e]; exact hb)) z1, rpT_mono hCC z2, .inl z3⟩) k5) ⟨vn, l4, rpT_mono hCC k4, .inr ⟨rfl, rfl⟩⟩,
      .inl fa, .inl fdx, .inl fn, .inl fq, nq, fun z => by
        rcases List.mem_append.mp z with z | z
        · exact nps z
        · rw [List.mem_singleton] at z; exact (ne0 k2).2 z, fun z => by
        rcases List.mem_append.mp z with z | z
        · exact qps z
        · rw [List.mem_singleton] at z; exact (ne0 k3).2 z, List.nodup_append.mpr ⟨nd, by simp, fun x hx y hy => by
          rw [List.mem_singleton] at hy
          subst hy
          exact fun z => lps (z ▸ hx)⟩, hd dx fdx⟩
  refine hw (g.grow i l) (.ref t1) H4 s4 w4 ⟨.tup (sqT_in (fun a s => s4.own a (sd a s)) sq1) (.cons (.int _) (.cons (.int _) .nil)), fun z => by cases z⟩
end
end Dt

/-! The data layer, part 22: a new teller; len(teller). -/
namespace Dt
open PySem L2
theorem bndOf_eq {d : PyData} {q : Int × Int} (h : bndOf d = some q) : d = prP q := by
  unfold bndOf at h
  split at h
  · split at h
    · cases h; rfl
    · cases h
  · cases h
theorem bndsOf_eq : ∀ {xs : List PyData} {b : List (Int × Int)}, bndsOf xs = some b → xs = b.map prP
  | [], b, h => by
    simp only [bndsOf, Option.some.injEq] at h
    subst h; rfl
  | d :: r, b, h => by
    unfold bndsOf at h
    split at h
    · rename_i q qs e1 e2
      cases h
      rw [bndOf_eq e1, bndsOf_eq e2]; rfl
    · cases h
theorem boundsOf_eq {p : PyData} {b : List (Int × Int)} (h : boundsOf p = some b) : p = .list (b.map prP) := by
  unfold boundsOf at h
  split at h
  · split at h
    · rw [bndsOf_eq h]
    · cases h
  · cases h
theorem rpT_of {K : PySem.W.Frag} {C : Hp} : ∀ {vs : List V} {b : List (Int × Int)}, RpAll K C vs (b.map prP) → RpT K C vs b
  | _, [], h => by cases h; exact .nil
  | _, q :: qs, h => by
    cases h with
    | cons h1 h2 =>
      obtain ⟨t, us, rfl, hs, hu⟩ := Rp.tup_inv h1
      cases hu with
      | cons u1 u2 =>
        cases u2 with
        | cons u2 u3 =>
          cases u3
          rw [u1.int_inv, u2.int_inv] at hs
          exact .cons ⟨t, rfl, hs⟩ (rpT_of h2)
/-- the promise of __init__ -/
def spInit (mo : Mo) (K : PySem.W.Frag) : Sp := fun vs H Q E => ∃ (x dx : Addr) (v : V) (p : PyData) (C : Hp), vs = [.ref x, v] ∧ H x = some (.ins mo.tc dx []) ∧ Same C H ∧ Rp K C v p ∧ (match boundsOf p with
  | none => ∀ H1, Same H H1 → E (.ref (mo.ec .bounds)) none H1
  | some b => ∀ H1 n q vn, Same H H1 → H1 n = none → upd (upd H1 n (.lst vn)) x (.ins mo.tc dx (putF "now" (.ref n) [])) q = none → RpT K C vn b →
      Q .non (upd (upd (upd (upd H1 n (.lst vn)) x (.ins mo.tc dx (putF "now" (.ref n) []))) q (.lst [])) x (.ins mo.tc dx (telF n q))))
section
variable {X : Cx} {mo : Mo} {E : XK} {pos p : Pos} {a : Expr} {fs : En → M (List AV)}
theorem tel_initR {K : PySem.W.Frag} {mg : Str → Option Value} (T : TelF K mg mo) {F : List AV → M RV} (hF : ∀ p, F [.d p] = if (boundsOf p).isSome = true then .ret (.d .none, false) else .raise .bounds) {vs : List V} {H : Hp} {Q : VK} {D : Ends} {σ : St} (h : spInit mo K vs H Q E) (h0 : ∀ v, vs[0]? = some v → σ[0]? = some (some v)) (h1 : ∀ v, vs[1]? = some v → σ[1]? = some (some v)) (hD : ∀ σ H', Q .non H' → D.nx σ H') :
    tSeq (tDrop (tCall (spD mo K F) [] E (tCons (tVar 1) tNil))) (tSeq (sFld K (tVar 0) (tCB (rListOf K) (tCons (tVar 1) tNil)) "now") (sFld K (tVar 0) (tLst tNil) "past")) D σ H := by
  obtain ⟨x, dx, v, p, C, rfl, hx, sC, rp, hw⟩ := h
  have s0 := h0 _ rfl
  have s1 := h1 _ rfl
  refine ⟨_, s1, (fun _ => False), g0, [], [.d p], .cons (Rp.mono (fun b o e => same0 _ _ (sC _ _ e)) rp) .nil, wok0, fun _ z => z.elim, ?_⟩
  rw [hF]
  cases hb : boundsOf p with
  | none =>
    rw [hb] at hw
    exact fun g' H' s w' => hw H' (step0 s)
  | some b =>
    rw [hb] at hw
    dsimp only at hw
    intro g' v' H1 s w' _
    have sm := step0 s
    rw [boundsOf_eq hb] at rp
    obtain ⟨lv, vn, rfl, hlv, al⟩ := Rp.lst_inv rp
    have hx1 : H1 x = some (.ins mo.tc dx []) := sm _ _ hx
    refine ⟨_, s1, lv, vn, rfl, .inl (SqL.of (sm _ _ (sC _ _ hlv))), fun n hn => ?_⟩
    have hxn : x ≠ n := ne_of_none hx1 hn
    refine ⟨_, s0, x, mo.tc, dx, _, rfl, by rw [upd_ne hxn]; exact hx1, T.cl, T.nNow, by decide, Nat.zero_le _, fun q hq => ?_⟩
    have hxq : x ≠ q := fun z => by subst z; rw [upd_same] at hq; cases hq
    refine ⟨_, s0, x, mo.tc, dx, _, rfl, by rw [upd_ne hxq]; exact upd_same, T.cl, T.nPast, by show (putF ("now" : Str) (V.ref n) []).length < 1000; exact (by decide : (1 : Nat) < 1000), hD _ _ (hw H1 n q vn sm hn hq (rpT_of al))⟩
/-- Teller(bounds) -/
structure MkD (P : Program) (w : World) (K : PySem.W.Frag) (mg : Str → Option Value) (base : Heap) (mo : Mo) (k : Nat) : Prop where
  ex : ∃ (f : Addr) (fd : FuncData) (ps : List Str), FnOk P w K mg base (L2.CX P w) k f fd ps (spInit mo K) ∧ Mk K mo.tc f ∧ Binds K fd ps []
theorem de_telNew {k : Nat} (T : TelF X.K X.mg mo) (h : MkD X.prog X.w X.K X.mg X.base mo k) (hr : Room (k + 1) X.A) (hx : Passes (L2.CX X.prog X.w) X E) (hs : DA X mo E [a] fs) (hg : Gl X "Teller" := by rfl) (he : starEach [a] X.env = [(false, eval a X.env)] := by rfl) :
    DE X mo E (.Call (.Name "Teller" p) [a] [] pos) (dCall fTelNew fs) := by
  obtain ⟨f, fd, ps, G, hmk, hb⟩ := h.ex
  obtain ⟨ts, pss, ws⟩ := hs
  refine ⟨_, pe_make hmk G hr hg T.g hb .nil hx pss (by decide) he rfl, fun S g W σ H en Q hR hw => ?_⟩
  unfold dCall at hw
  rw [wp_bind] at hw
  refine ws S g W σ H en _ hR (wp_mono hw (fun as W1 q g1 vs H1 s1 w1 rr1 hl => ?_) fun _ _ q => q)
  intro x dx hx0 hdx0 hne
  unfold fTelNew at q
  split at q
  · rename_i p
    obtain ⟨v, rfl, r⟩ := reps1 rr1
    have smx : Same H1 (upd (upd H1 dx (.own x)) x (.ins mo.tc dx [])) := (same_new hdx0).trans (same_new (by rw [upd_ne hne.symm]; exact hx0))
    have xat : upd (upd H1 dx (.own x)) x (.ins mo.tc dx []) x = some (.ins mo.tc dx []) := upd_same
    refine ⟨x, dx, v, p, cut H1 fun a => S a ∨ g1.R a, rfl, xat, fun b o e => smx _ _ (cutS e), r, ?_⟩
    cases hb : boundsOf p with
    | none =>
      rw [hb] at q
      exact fun H2 s2 => q g1 H2 (s1.trans (.of_same (smx.trans s2))) (w1.same (smx.trans s2))
    | some b =>
      rw [hb] at q
      intro H2 n qq vn s2 hn hq hr2
      refine ⟨rfl, ?_⟩
      have x2 : H2 x = some (.ins mo.tc dx []) := s2 _ _ xat
      have d2 : H2 dx = some (.own x) := s2 _ _ (by rw [upd_ne hne]; exact upd_same)
      have hxn : x ≠ n := ne_of_none x2 hn
      have hdn : dx ≠ n := ne_of_none d2 hn
      have hxq : x ≠ qq := fun z => by subst z; rw [upd_same] at hq; cases hq
      rw [upd_ne hxq.symm] at hq
      have hnq : n ≠ qq := fun z => by subst z; rw [upd_same] at hq; cases hq
      have hq2 : H2 qq = none := by rw [upd_ne hnq.symm] at hq; exact hq
      have hdq : dx ≠ qq := ne_of_none d2 hq2
      have sm12 := smx.trans s2
      generalize hH3 : upd (upd (upd (upd H2 n (.lst vn)) x (.ins mo.tc dx (putF "now" (.ref n) []))) qq (.lst [])) x (.ins mo.tc dx (telF n qq)) = H3
      have a3 : H3 x = some (.ins mo.tc dx (telF n qq)) := by rw [← hH3]; exact upd_same
      have q3 : H3 qq = some (.lst []) := by rw [← hH3, upd_ne hxq.symm]; exact upd_same
      have n3 : H3 n = some (.lst vn) := by rw [← hH3, upd_ne hxn.symm, upd_ne hnq, upd_ne hxn.symm]; exact upd_same
      have at3 : ∀ b, b ≠ x → b ≠ qq → b ≠ n → H3 b = H2 b := fun b h1 h2 h3 => by rw [← hH3, upd_ne h1, upd_ne h2, upd_ne h1, upd_ne h3]
      have d3 : H3 dx = some (.own x) := by rw [at3 dx hne hdq hdn]; exact d2
      have fr : ∀ {b : Addr} {o : HO}, H1 b = some o → b ≠ x ∧ b ≠ dx ∧ b ≠ n ∧ b ≠ qq := fun {b o} e => ⟨ne_of_none e hx0, ne_of_none e hdx0, ne_of_none (sm12 _ _ e) hn, ne_of_none (sm12 _ _ e) hq2⟩
      have sm3 : Same H1 H3 := fun b o e => by rw [at3 b (fr e).1 (fr e).2.2.2 (fr e).2.2.1]; exact sm12 _ _ e
      have hn1 : H1 n = none := sm12.free hn
      have hq1 : H1 qq = none := sm12.free hq2
      have ff : ∀ c, (c = x ∨ c = dx ∨ c = n ∨ c = qq) → H1 c = none ∧ H3 c ≠ none := fun c hc => by
        rcases hc with rfl | rfl | rfl | rfl
        · exact ⟨hx0, by rw [a3]; exact fun z => by cases z⟩
        · exact ⟨hdx0, by rw [d3]; exact fun z => by cases z⟩
        · exact ⟨hn1, by rw [n3]; exact fun z => by cases z⟩
        · exact ⟨hq1, by rw [q3]; exact fun z => by cases z⟩
      obtain ⟨w3, s3⟩ := w1.add (S' := S) (a := x) (f := fun c => c = x ∨ c = dx ∨ c = n ∨ c = qq) (o := .tel b []) sm3 ff
        ⟨dx, n, qq, [], vn, a3, n3, q3, rpT_mono (cut_mono fun c o e z => ⟨sm3 _ _ e, fun y => by
          rcases (add_R w1).mp y with y | y
          · exact z (.inr y)
          · rw [(ff c y).1] at e; cases e⟩) hr2, .nil, .inl rfl, .inr (.inl rfl), .inr (.inr (.inl rfl)), .inr (.inr (.inr rfl)), hnq, by simp, by simp, List.nodup_nil, by rw [d3]; exact fun z => by cases z⟩
      refine q _ (.ref x) H3 (s1.trans s3) w3 ⟨⟨x, ?_, rfl⟩, fun z => by cases z⟩
      unfold Gh.add
      dsimp only
      rw [← w1.len, List.getElem?_concat_length]
  · exact q.elim
/-- len(teller) -/
theorem call_lenTel {k : Nat} {f : Addr} {fd : FuncData} {ps : List Str} {sp : Sp} (hl : PySem.W.findIn X.K (.ref mo.tc) "__len__" = some (some (.ref f))) (hf : PySem.W.isFn X.K (.ref f) = true) (G : FnOk X.prog X.w X.K X.mg X.base (L2.CX X.prog X.w) k f fd ps sp) (hr : Room (k + 1) X.A) (hb : Binds X.K fd ps []) (hx : Passes (L2.CX X.prog X.w) X E) :
    CallR X (.builtin "len") (fun xs H Q => ∃ z dx fs, xs = [.ref z] ∧ H z = some (.ins mo.tc dx fs) ∧ sp [.ref z] H (fun v H' => ∃ m : Nat, v = .int m ∧ (m : Int) < 2 ^ 63 ∧ Q (.int m) H') E) := by
  intro pins s σ H xs us Q I r h
  obtain ⟨z, dx, fs, rfl, hz, hs⟩ := h
  obtain ⟨u, rfl, ru⟩ := vals1 r
  cases ru
  obtain ⟨mA, O, _⟩ := ins_get I.hok hz
  obtain ⟨m, F⟩ := I.fr
  have J : PySem.W.InstAt s.heap z (PySem.W.instObj mo.tc dx) mo.tc (s.heap.get? dx) := by
    obtain ⟨od, ho, _⟩ := lookIn_ns O.ns
    exact ⟨O.obj, rfl, rfl, by rw [ho]; exact ho⟩
  have hlen : ([Value.ref z] : List Value).length = ps.length := G.len [.ref z] _ _ _ hs
  refine PySem.W.len_K F I.ok.mod.kin J hl hf (wpAny_call (codeAny_mono (G.run X.A.in1 X.stack s H ⟨[.ref z], []⟩ [.ref z] [.ref z] _ E hr.in1 I.env0.in1 (by have := hb s [.ref z] I.kIn (by simpa using hlen); simpa using this) (.cons rfl .nil) hs) fun r s' hq => ?_))
  cases r with
  | error e => exact hx pins σ H s e s' I hq
  | ok fl =>
    cases fl with
    | ret u =>
      obtain ⟨v, H', I', rv, n, rfl, hn, q⟩ := I.after hq
      obtain ⟨t, rfl⟩ := rv
      exact ⟨⟨by omega, hn⟩, ⟨.int n, H', I'.tok _, ⟨_, rfl⟩, q⟩⟩
    | next => exact False.elim hq
    | brk => exact False.elim hq
    | cont => exact False.elim hq
structure LnD (P : Program) (w : World) (K : PySem.W.Frag) (mg : Str → Option Value) (base : Heap) (mo : Mo) (k : Nat) : Prop where
  ex : ∃ (f : Addr) (fd : FuncData) (ps : List Str), FnOk P w K mg base (L2.CX P w) k f fd ps (spD mo K fTelLen) ∧ Meth K mo.tc "__len__" f ∧ Binds K fd ps []
def dLenTel (fa : En → M RV) : En → M RV := fun en => (fa en).bind fun r => match r.1 with
  | .ob i => onTel i fun _ past => if past.length ≤ lim then rI' (past.length : Nat) else .stuck
  | _ => .stuck
theorem de_lenTel {k : Nat} {fa : En → M RV} (h : LnD X.prog X.w X.K X.mg X.base mo k) (hr : Room (k + 1) X.A) (hx : Passes (L2.CX X.prog X.w) X E) (hm : X.mg "len" = none) (ha : DE X mo E a fa) (hg : Gl X "len" := by rfl) (he : starEach [a] X.env = [(false, eval a X.env)] := by rfl) :
    DE X mo E (.Call (.Name "len" p) [a] [] pos) (dLenTel fa) := by
  obtain ⟨f, fd, ps, G, hmt, hb⟩ := h.ex
  obtain ⟨ta, pa, wa⟩ := ha
  refine ⟨_, pe_callB (call_lenTel (mo := mo) hmt.at_ hmt.fn G hr hb hx) hg hm boot_len (pa_cons pa pa_nil he) (by decide) (by decide) he rfl, fun S g W σ H en Q hR hw => ?_⟩
  unfold dLenTel at hw
  rw [wp_bind] at hw
  refine wa S g W σ H en _ hR (wp_mono hw (fun r1 W1 q g1 v1 H1 s1 w1 rr1 => ?_) fun _ _ q => q)
  try dsimp only at q
  split at q
  · rename_i i e
    replace rr1 := RepR.at rr1 e
    obtain ⟨z, hadr, rfl⟩ := rr1.1
    obtain ⟨o, hW, q⟩ := q
    dsimp only at q
    split at q
    · rename_i now past
      split at q
      · rename_i hl
        obtain ⟨dx, n, qq, ps', vn, k1, _⟩ := w1.rep i z _ hadr hW
        refine ⟨z, dx, _, rfl, k1, S, g1, W1, [.ob i], .cons ⟨z, hadr, rfl⟩ .nil, w1, fun a s => s1.own a (hR.sd a s), ⟨_, hW, ?_⟩⟩
        intro g2 v2 H2 s2 w2 rr2
        refine ⟨past.length, Rp.int_inv rr2.1, ?_, ?_⟩
        · have : lim = 1000000 := rfl
          omega
        · exact QE.ret (QE.step (s1.trans s2) q) w2 (Rp.int _)
      · exact q.elim
    · exact q.elim
  · exact q.elim
end
end Dt

/-! The data layer, part 23: sorted of a tuple of ints. -/
namespace Dt
open PySem PyProof.Rows in
/-- the items of a tuple are gathered in a new list -/
theorem gather_tuple {prog : Program} {w : World} {A : Around} {E : Value → Shared → Prop} {s : Shared} {t : Addr} {vs : List Value} {Q : List Value → Shared → Prop} (ht : s.heap.IsTuple t vs.toArray) (hz : vs.length ≤ sizeLine)
    (hq : Q vs { s with heap := (s.heap.push (seqObj "list" #[] 0)).update s.heap.objs.size (Obj.mapSeq (· ++ vs.toArray)) }) : wpAny (model prog w) A (collect (.ref t)) Q E s := by
  obtain ⟨ob, hob, hcl, m, hdt⟩ := ht
  unfold collect
  refine wpAny_bind (wpAny_runValue (codeAny_builtin entry_proto_collect' ?_))
  refine wpAny_bind (m := newList []) (wpAny_newList (wpAny_pure ⟨Code.quiet_builtin _ (by decide +kernel), codeAny_builtin entry_list_iadd' ?_⟩))
  have hob' : (s.heap.push (seqObj "list" #[] 0)).get? t = some ob := Heap.get?_push_of_some _ hob
  have hnew : (s.heap.push (seqObj "list" #[] 0)).get? s.heap.objs.size = some (seqObj "list" #[] 0) := Heap.get?_push_size _ rfl
  show wpAny _ _ (Builtin.List.listExtendWith (.ref s.heap.objs.size) (.ref t) (.ref s.heap.objs.size)) _ _ { s with heap := s.heap.push (seqObj "list" #[] 0) }
  unfold Builtin.List.listExtendWith
  refine wpAny_bind (wpAny_typeOf (T := "tuple") ⟨ob, hob', hcl⟩ ?_)
  rw [if_pos (by rw [show (Value.type "tuple" == Value.type "tuple") = true from rfl]; simp)]
  refine wpAny_bind (listItems_at hob' hdt (wpAny_bind (listItems_at (xs := #[]) (n := 0) hnew rfl ?_)))
  rw [if_neg (by simp)]
  refine wpAny_bind (listUpdate_at (xs := #[]) (n := 0) hnew rfl ?_ (Nat.zero_le _) (by simp; omega))
  refine wpAny_pure ?_
  refine wpAny_bind (m := load s.heap.objs.size) (wpAny_load (get?_update_seq hnew _) ?_)
  show wpAny _ _ (pure ((#[] : Array Value) ++ vs.toArray).toList) Q E _
  rw [show ((#[] : Array Value) ++ vs.toArray).toList = vs by simp]
  exact wpAny_pure hq
open PySem PyProof.Rows in
theorem sorted_tup {prog : Program} {w : World} {A : Around} {E : Value → Shared → Prop} {s : Shared} {t : Addr} {vs : List Value} {ns : List Int} {Q : Value → Shared → Prop} (ht : s.heap.IsTuple t vs.toArray) (hz : vs.length ≤ sizeLine) (hi : IntsAre vs ns)
    (hq : ∀ out : List Value, SrtO.Srtd SrtO.ltIv out → SrtO.Stb SrtO.ltIv out vs → Q (.ref (s.heap.objs.size + 1)) { s with heap := sortedAll s.heap vs out.toArray }) : wpAny (model prog w) A (call (.builtin "sorted") [.ref t]) Q E s := by
  refine Calls.call_function_entry kind_sorted plain_sorted entry_sorted (args_sorted1 _) ?_
  unfold Builtin.«sorted»
  refine wpAny_bind (m := checkCount "sorted" 1 1 _) (wpAny_pure (wpAny_bind (gather_tuple ht hz (wpAny_bind (wpAny_newList ?_ hz)))))
  generalize hG : (s.heap.push (seqObj "list" #[] 0)).update s.heap.objs.size (Obj.mapSeq (· ++ vs.toArray)) = G
  have hsz : G.objs.size = s.heap.objs.size + 1 := by rw [← hG, Heap.size_update, size_push']
  have hat : (G.push (seqObj "list" vs.toArray 0)).get? (s.heap.objs.size + 1) = some (seqObj "list" vs.toArray 0) := by
    rw [← hsz]
    exact Heap.get?_push_size _ rfl
  show wpAny _ _ _ _ _ { s with heap := G.push (seqObj "list" vs.toArray 0) }
  rw [hsz]
  refine wpAny_bind (wpAny_holding (wpAny_call_entry slot_list_sort ⟨_, hat, rfl⟩ entry_list_sort (SrtO.list_sort_ord SrtO.swo_int hat hz (fun h2 => SrtO.ints_sortable hi h2) fun out h1 h2 => ⟨_, rfl, ?_⟩) (args_list_sort _)))
  refine wpAny_pure ⟨_, rfl, ?_⟩
  have := hq out h1 h2
  unfold sortedAll at this
  rw [hG] at this
  exact this
open PySem L2
def rSortTI (K : PySem.W.Frag) : List V → Hp → VK → Prop := fun vs H Q => ∃ (t : Addr) (ns : List Int), vs = [.ref t] ∧ SqT K H t (ns.map V.int) ∧ ∀ (ns' : List Int) (p : Addr), ns'.Perm ns → ns'.Pairwise (· ≤ ·) → H p = none → Q (.ref p) (upd H p (.lst (ns'.map V.int)))
section
variable {X : Cx} {mo : Mo} {E : XK} {pos p : Pos} {a : Expr} {fs : En → M (List AV)}
theorem cr_sortTI : CallR X (.builtin "sorted") (rSortTI X.K) := by
  intro pins s σ H vs us Q I r h
  obtain ⟨t, ns, rfl, ht, hk⟩ := h
  obtain ⟨its, rv, hp, hz⟩ := I.tuple ht
  rw [Vals.ref1 r]
  have hi := rv.ints
  refine sorted_tup (show s.heap.IsTuple t its.toArray from hp) (by rw [← rv.length]; exact hz) hi fun out h1 h2 => ?_
  obtain ⟨k1, k2, k3⟩ := SrtO.ints_out hi h1 h2
  obtain ⟨ep, hat⟩ := PyProof.Rows.sortedAll_at s.heap its out.toArray
  refine ⟨.ref _, upd H (s.heap.objs.size + 1) (.lst ((out.map SrtO.iv).map V.int)), I.laid (t' := s.toks) (fun _ _ => PyProof.Rows.sortedAll_old) (Nat.le_succ _) ⟨?_, out, ep, vals_of_ints k1, hat⟩, rfl, hk _ _ k2 k3 (I.hok.fresh (Nat.le_succ _))⟩
  rw [List.length_map, k2.length_eq]
  rw [List.length_map] at hz
  exact hz
def bSortTI : List AV → M RV
  | [.d (.tuple xs)] => match intsOf xs with
    | some ns => .ret (.d (.list ((isort ns).map PyData.int)), true)
    | none => .stuck
  | _ => .stuck
theorem cd_sortTI {K : PySem.W.Frag} {n : Nat} : CallD mo K n (rSortTI K) bSortTI := by
  intro S g W H vs as Q E' w sd rs hl h
  unfold bSortTI at h
  split at h
  · split at h
    · rename_i e
      obtain ⟨v, rfl, r⟩ := reps1 rs
      obtain ⟨t, us, rfl, ht, au⟩ := Rp.tup_inv r
      rw [intsOf_some e] at au
      rw [au.ints] at ht
      refine ⟨t, _, rfl, Same.seqT cut_sub ht, fun ns' q h1 h2 hq => ?_⟩
      rw [isort_eq h1 h2]
      exact QE.new h w sd hq rpAll_ints
    · exact h.elim
  · exact h.elim
theorem de_sortTI (hm : X.mg "sorted" = none) (hs : DA X mo E [a] fs) (hg : Gl X "sorted" := by rfl) (he : starEach [a] X.env = [(false, eval a X.env)] := by rfl) : DE X mo E (.Call (.Name "sorted" p) [a] [] pos) (dCall bSortTI fs) :=
  de_callB cr_sortTI cd_sortTI hm PyProof.Rows.boot_sorted hs hg (by decide) (by decide) he rfl
end
end Dt

/-! The data layer, part 24: tables of ints (count_with_sum). -/
namespace Dt
open PySem L2
abbrev Tb := List (Int × Int)
def tGet (l : Tb) (k : Int) : Int := match l.find? (fun p => decide (p.1 = k)) with
  | some p => p.2
  | none => 0
def tPut (l : Tb) (k v : Int) : Tb := if (l.any fun p => decide (p.1 = k)) = true then l.map (fun p => if p.1 = k then (p.1, v) else p) else l ++ [(k, v)]
def tInc (f lg : Tb) (s v : Int) : Tb := tPut lg (s + v) (tGet lg (s + v) + tGet f s)
def tVals (f : Tb) (s lo : Int) (n : Nat) (lg : Tb) : Tb := (List.range n).foldl (fun lg (i : Nat) => tInc f lg s (lo + i)) lg
def tKeys (f : Tb) (lo : Int) (n : Nat) (ks : Tb) (lg : Tb) : Tb := ks.foldl (fun lg p => tVals f p.1 lo n lg) lg
def tStep (f : Tb) (q : Int × Int) : Tb := tKeys f q.1 (q.2 + 1 - q.1).toNat f []
def tRun : Tb → List (Int × Int) → Option Tb
  | f, [] => some f
  | f, q :: r => if (tStep f q).length ≤ 1000 ∧ (-1000 ≤ q.1 ∧ q.1 ≤ 1000) ∧ (-1000 ≤ q.2 ∧ q.2 ≤ 1000) then tRun (tStep f q) r else none
def eT (l : Tb) : List (Key × V) := l.map fun p => (Sum.inl p.1, .int p.2)
theorem find_eT (l : Tb) (k : Int) : valV (eT l) (Sum.inl k) = (l.find? (fun p => decide (p.1 = k))).map fun p => V.int p.2 := by
  unfold valV eT
  rw [List.find?_map, Option.map_map]
  have e : ((fun kv : Key × V => decide (kv.1 = Sum.inl k)) ∘ fun p : Int × Int => ((Sum.inl p.1 : Key), V.int p.2)) = fun p => decide (p.1 = k) := by
    funext p
    simp
  rw [e]
  rfl
theorem val_eT (l : Tb) (k : Int) : (valV (eT l) (Sum.inl k)).getD (.int 0) = .int (tGet l k) := by
  rw [find_eT]
  unfold tGet
  cases l.find? (fun p => decide (p.1 = k)) <;> rfl
theorem put_eT (l : Tb) (k v : Int) : putK (eT l) (Sum.inl k) (.int v) = eT (tPut l k v) := by
  unfold putK tPut
  have e : ((eT l).any fun kv => decide (kv.1 = Sum.inl k)) = l.any fun p => decide (p.1 = k) := by
    unfold eT
    rw [List.any_map]
    congr 1
    funext p
    simp
  rw [e]
  split
  · unfold eT
    rw [List.map_map, List.map_map]
    apply List.map_congr_left
    intro p _
    dsimp only [Function.comp]
    by_cases h : p.1 = k
    · rw [if_pos (by rw [h]), if_pos h]
    · rw [if_neg (fun z => h (Sum.inl.inj z)), if_neg h]
  · unfold eT
    rw [List.map_append]
    rfl
theorem put_len (l : Tb) (k v : Int) : l.length ≤ (tPut l k v).length := by
  unfold tPut
  split
  · rw [List.length_map]; omega
  · rw [List.length_append]; omega
theorem foldl_len {α : Type} {f : Tb → α → Tb} (h : ∀ l x, l.length ≤ (f l x).length) : ∀ (xs : List α) (l : Tb), l.length ≤ (xs.foldl f l).length
  | [], _ => Nat.le_refl _
  | x :: xs, l => Nat.le_trans (h l x) (foldl_len h xs (f l x))
theorem vals_len (f : Tb) (s lo : Int) (n : Nat) (lg : Tb) : lg.length ≤ (tVals f s lo n lg).length := foldl_len (fun l x => put_len _ _ _) _ _
theorem keys_len (f : Tb) (lo : Int) (n : Nat) (ks lg : Tb) : lg.length ≤ (tKeys f lo n ks lg).length := foldl_len (fun l x => vals_len _ _ _ _ _) _ _
theorem tVals_succ (f : Tb) (s lo : Int) (n : Nat) (lg : Tb) : tVals f s lo (n + 1) lg = tInc f (tVals f s lo n lg) s (lo + n) := by
  unfold tVals
  rw [List.range_succ, List.foldl_append]
  rfl
theorem vals_mono (f : Tb) (s lo : Int) (lg : Tb) {i n : Nat} (h : i ≤ n) : (tVals f s lo i lg).length ≤ (tVals f s lo n lg).length := by
  induction n with
  | zero => rw [Nat.le_zero.mp h]; exact Nat.le_refl _
  | succ n ih =>
    by_cases e : i = n + 1
    · rw [e]; exact Nat.le_refl _
    · rw [tVals_succ]
      exact Nat.le_trans (ih (by omega)) (put_len _ _ _)
theorem tKeys_take (f : Tb) (lo : Int) (n : Nat) (ks lg : Tb) {i : Nat} {p : Int × Int} (h : ks[i]? = some p) : tKeys f lo n (ks.take (i + 1)) lg = tVals f p.1 lo n (tKeys f lo n (ks.take i) lg) := by
  unfold tKeys
  rw [List.take_add_one, h, List.foldl_append]
  rfl
theorem keys_mono (f : Tb) (lo : Int) (n : Nat) (ks lg : Tb) (i : Nat) : (tKeys f lo n (ks.take i) lg).length ≤ (tKeys f lo n ks lg).length := by
  have e : ks = ks.take i ++ ks.drop i := (List.take_append_drop i ks).symm
  conv => rhs; rw [e]
  unfold tKeys
  rw [List.foldl_append]
  exact keys_len f lo n _ _
/-- a walk over the keys of a table -/
theorem for_tab {d : Addr} {od : Obj} {kvs : List (Key × V)} {g : TG} {tb : TS} {D : Ends} {σ : St} {H : Hp} (Pv : Nat → St → Hp → Prop) (h0 : Pv 0 σ H) (hl : ∀ i σ H, Pv i σ H → H d = some (.frz od (.dK kvs)))
    (hs : ∀ i k v σ H, kvs[i]? = some (k, v) → Pv i σ H → g (kV k) σ H fun σ2 H2 => tb { D with nx := Pv (i + 1), ct := Pv (i + 1), bk := D.nx } σ2 H2) (hd : ∀ σ H, Pv kvs.length σ H → D.nx σ H) :
    ∃ W : Nat → Nat → St → Hp → Prop, (∃ m, W 0 m σ H) ∧ ∀ i m σ H, W i m σ H → ((Itk d od kvs).stop i H ∧ D.nx σ H) ∨ ((Itk d od kvs).go i H ∧ ∃ N : St → Hp → Prop, (∀ σ' H', N σ' H' → ∃ m', m' < m ∧ W (i + 1) m' σ' H') ∧ ∀ x H', (Itk d od kvs).yld i H x H' → g x σ H' fun σ2 H2 => tb { D with nx := N, ct := N, bk := D.nx } σ2 H2) := by
  refine ⟨fun i m σ H => m = kvs.length - i ∧ i ≤ kvs.length ∧ Pv i σ H, ⟨_, rfl, Nat.zero_le _, h0⟩, ?_⟩
  rintro i m σ H ⟨rfl, hi, p⟩
  by_cases hlt : i < kvs.length
  · refine .inr ⟨⟨hl i σ H p, hlt⟩, Pv (i + 1), fun σ' H' q => ⟨_, by omega, rfl, hlt, q⟩, ?_⟩
    rintro x H' ⟨rfl, k, v, e, rfl⟩
    exact hs i k v σ H' e p
  · have e : i = kvs.length := by omega
    subst e
    exact .inl ⟨⟨hl _ σ H p, Nat.le_refl _⟩, hd σ H p⟩
def sCount : En → M Out
  | [some (.v (.d (.list bsd))), some (.v (.d (.int t))), _, _, _, _, _, _] => (match pairsOf bsd with
    | some b => (match tRun [(0, 1)] b with
      | some f => .ret (.rt (.d (.int (tGet f t)), false))
      | none => .stuck)
    | none => .stuck)
  | _ => .stuck
end Dt

/-! The data layer, part 25: what count_with_sum computes. -/
namespace Dt
open PySem L2
def tCount (K : PySem.W.Frag) : TS := tSeq (tAsg (tDisp [(tC (.int 0), tC (.int 1))]) (gName 2)) (tSeq (tFor (iList K (tVar 0)) (gTup K 2 (gCons (gName 3) (gCons (gName 4) gNil)))
  (tSeq (tAsg tDNewK (gName 5)) (tSeq (tLock (tFor (iKeys (tVar 2)) (gName 6) (tFor (iRng2 (tCons (tVar 3) (tCons (tAdd (tVar 4) (tC (.int 1))) tNil))) (gName 7)
    (sDPut (tVar 5) (tAdd (tVar 6) (tVar 7)) (tAdd (tDGet2 (tVar 5) (tAdd (tVar 6) (tVar 7)) (tC (.int 0))) (tDGet (tVar 2) (tVar 6))))))) (tAsg (tVar 5) (gName 2)))))
  (tRet (tDGet2 (tVar 2) (tVar 1) (tC (.int 0)))))
theorem len8 {α : Type} : ∀ {l : List α}, l.length = 8 → ∃ a b c d e f g h, l = [a, b, c, d, e, f, g, h]
  | [a, b, c, d, e, f, g, h], _ => ⟨a, b, c, d, e, f, g, h, rfl⟩
theorem same_upd {H H' : Hp} {d : Addr} {o : HO} (h : Same H H') (n : H d = none) : Same H (upd H' d o) := fun a u e => by
  rw [upd_ne (fun z => by rw [z, n] at e; cases e)]
  exact h a u e
theorem tRun_cons {f F : Tb} {q : Int × Int} {r : List (Int × Int)} (h : tRun f (q :: r) = some F) : (tStep f q).length ≤ 1000 ∧ (-1000 ≤ q.1 ∧ q.1 ≤ 1000) ∧ (-1000 ≤ q.2 ∧ q.2 ≤ 1000) ∧ tRun (tStep f q) r = some F := by
  unfold tRun at h
  split at h
  · rename_i c
    exact ⟨c.1, c.2.1, c.2.2, h⟩
  · cases h
theorem tCount_body {D : Ends} {H Hc : Hp} {f : Tb} {d l : Addr} {q : Int × Int} {p : V} {t : V} {o6 o7 : Option V} (sm : Same H Hc) (nd : H d = none) (nl : H l = none) (hd : Hc d = some (.dK (eT f))) (hl : Hc l = some (.dK (eT []))) (dl : d ≠ l)
    (c1 : (tStep f q).length ≤ 1000) (c2 : -1000 ≤ q.1 ∧ q.1 ≤ 1000) (c3 : -1000 ≤ q.2 ∧ q.2 ≤ 1000)
    (fin : ∀ o6 o7 H', Same H H' → H' l = some (.dK (eT (tStep f q))) → D.nx [some p, some t, some (.ref d), some (.int q.1), some (.int q.2), some (.ref l), o6, o7] H') :
    tLock (tFor (iKeys (tVar 2)) (gName 6) (tFor (iRng2 (tCons (tVar 3) (tCons (tAdd (tVar 4) (tC (.int 1))) tNil))) (gName 7)
    (sDPut (tVar 5) (tAdd (tVar 6) (tVar 7)) (tAdd (tDGet2 (tVar 5) (tAdd (tVar 6) (tVar 7)) (tC (.int 0))) (tDGet (tVar 2) (tVar 6)))))) D [some p, some t, some (.ref d), some (.int q.1), some (.int q.2), some (.ref l), o6, o7] Hc := by
  obtain ⟨lo, hi⟩ := q
  dsimp only at c2 c3 fin ⊢
  refine ⟨d, .dK (eT f), hd, True.intro, fun od => ?_⟩
  refine ⟨_, rfl, d, od, rfl, .inl ⟨eT f, upd_same, ?_⟩⟩
  refine for_tab (fun j σ H' => ∃ o6 o7, σ = [some p, some t, some (.ref d), some (.int lo), some (.int hi), some (.ref l), o6, o7] ∧ Same H H' ∧ H' d = some (.frz od (.dK (eT f))) ∧ H' l = some (.dK (eT (tKeys f lo (hi + 1 - lo).toNat (f.take j) []))))
    ⟨o6, o7, rfl, same_upd sm nd, upd_same, by rw [upd_ne (Ne.symm dl)]; exact hl⟩ (fun i σ H' ⟨_, _, _, _, h, _⟩ => h) ?_ ?_
  · rintro j k v σ H' hj ⟨o6, o7, rfl, s', hd', hl'⟩
    unfold eT at hj
    rw [List.getElem?_map] at hj
    obtain ⟨s, hs, es⟩ := Option.map_eq_some_iff.mp hj
    cases es
    have hf : ∃ x, f.find? (fun p => decide (p.1 = s.1)) = some x := by
      cases e : f.find? (fun p => decide (p.1 = s.1)) with
      | some x => exact ⟨x, rfl⟩
      | none =>
        have := List.find?_eq_none.mp e s (List.mem_of_getElem? hs)
        simp at this
    obtain ⟨x, hx⟩ := hf
    have hv : valV (eT f) (Sum.inl s.1) = some (.int (tGet f s.1)) := by
      rw [find_eT, hx]
      unfold tGet
      rw [hx]
      rfl
    refine ⟨_, rfl, _, rfl, hi, 1, rfl, rfl, lo, hi + 1, rfl, ⟨by omega, by omega, by omega, by omega⟩, ?_⟩
    refine for_range (fun i σ H' => ∃ o7, σ = [some p, some t, some (.ref d), some (.int lo), some (.int hi), some (.ref l), some (.int s.1), o7] ∧ Same H H' ∧ H' d = some (.frz od (.dK (eT f))) ∧ H' l = some (.dK (eT (tVals f s.1 lo i (tKeys f lo (hi + 1 - lo).toNat (f.take j) [])))))
      ⟨o7, rfl, s', hd', hl'⟩ ?_ ?_
    · rintro i σ H2 hi' ⟨o7, rfl, s2, hd2, hl2⟩
      have small : (tVals f s.1 lo i (tKeys f lo (hi + 1 - lo).toNat (f.take j) [])).length ≤ 1000 := by
        refine Nat.le_trans (vals_mono f s.1 lo _ (Nat.le_of_lt hi')) ?_
        rw [← tKeys_take f lo _ f [] hs]
        exact Nat.le_trans (keys_mono f lo _ f [] (j + 1)) c1
      refine ⟨_, rfl, l, rfl, .inl ⟨_, .inl hl2⟩, _, rfl, _, rfl, s.1, lo + i, rfl, rfl, _, .inl ⟨_, Sum.inl (s.1 + (lo + i)), .inl hl2, rfl, rfl⟩, ?_⟩
      refine ⟨_, rfl, _, rfl, d, _, rfl, .inl ⟨_, Sum.inl s.1, .inr ⟨od, hd2⟩, rfl, hv.symm⟩, _, _, (val_eT _ _), rfl, ?_⟩
      refine ⟨_, rfl, _, rfl, _, rfl, s.1, lo + i, rfl, rfl, l, _, rfl, .inl ⟨_, Sum.inl (s.1 + (lo + i)), hl2, rfl, ?_, rfl⟩, ?_⟩
      · unfold eT
        rw [List.length_map, sizeLine_eq]
        omega
      · refine ⟨_, rfl, same_upd s2 nl, by rw [upd_ne dl]; exact hd2, ?_⟩
        rw [upd_same, put_eT, tVals_succ]
        rfl
    · rintro σ H2 ⟨o7, rfl, s2, hd2, hl2⟩
      refine ⟨_, _, rfl, s2, hd2, ?_⟩
      rw [tKeys_take f lo _ f [] hs]
      exact hl2
  · rintro σ H' ⟨o6, o7, rfl, s', hd', hl'⟩
    refine ⟨hd', fin o6 o7 _ (same_upd s' nd) ?_⟩
    rw [upd_ne (Ne.symm dl), hl']
    unfold eT
    rw [List.length_map, List.take_length]
    rfl
theorem prGet {K : PySem.W.Frag} {C : Hp} : ∀ {vs : List V} {qs : List (Int × Int)} {i : Nat} {x : V}, Paired (PrV K C) vs qs → vs[i]? = some x → ∃ q, qs[i]? = some q ∧ PrV K C x q
  | _, _, 0, _, .cons h _, e => by cases e; exact ⟨_, rfl, h⟩
  | _, _, i + 1, _, .cons _ h, e => prGet (i := i) h e
theorem tCount_run {K : PySem.W.Frag} {C : Hp} {D : Ends} {H : Hp} {vs : List V} {b : List (Int × Int)} {F : Tb} {p : Addr} {t : Int} {o2 o3 o4 o5 o6 o7 : Option V} (hp : H p = some (.lst vs)) (hv : Paired (PrV K C) vs b) (hC : Same C H) (hF : tRun [(0, 1)] b = some F)
    (fin : ∀ H', Same H H' → D.rt (.int (tGet F t)) H') : tCount K D [some (.ref p), some (.int t), o2, o3, o4, o5, o6, o7] H := by
  intro d hd
  refine ⟨upd_same, [(Sum.inl 0, .int 1)], rfl, by decide, ?_⟩
  refine ⟨_, rfl, p, rfl, ⟨vs, .inl (.inl (same_upd (same_upd (Same.refl H) hd) hd _ _ hp))⟩, ?_⟩
  have hl := Paired.length hv
  refine for_list (K := K) (a := p) (xs := vs) (fun i σ H' => ∃ d f o3 o4 o5 o6 o7, σ = [some (.ref p), some (.int t), some (.ref d), o3, o4, o5, o6, o7] ∧ Same H H' ∧ H d = none ∧ H' d = some (.dK (eT f)) ∧ tRun f (b.drop i) = some F)
    ⟨d, [(0, 1)], o3, o4, o5, o6, o7, rfl, same_upd (same_upd (Same.refl H) hd) hd, hd, upd_same, hF⟩ (fun i σ H' _ ⟨_, _, _, _, _, _, _, _, s, _⟩ => .inl (.inl (s _ _ hp))) ?_ ?_
  · rintro i x σ H' hx ⟨d, f, o3, o4, o5, o6, o7, rfl, s', nd, hd', hr⟩
    obtain ⟨q, hq, a, rfl, hsq⟩ := prGet hv hx
    have hdr : b.drop i = q :: b.drop (i + 1) := (List.drop_eq_getElem?_toList_append ..).trans (by rw [hq]; rfl)
    rw [hdr] at hr
    obtain ⟨c1, c2, c3, hr'⟩ := tRun_cons hr
    refine ⟨a, _, rfl, Same.seqT (hC.trans s') hsq, rfl, _, _, rfl, _, _, rfl, rfl, ?_⟩
    intro l hl2
    have dl : d ≠ l := fun z => by rw [z, hl2] at hd'; cases hd'
    have nl : H l = none := Same.free s' hl2
    exact tCount_body (same_upd s' nl) nd nl (by rw [upd_ne dl]; exact hd') upd_same dl c1 c2 c3 fun o6 o7 H2 s2 h2 => ⟨_, rfl, l, _, _, _, _, _, _, rfl, s2, nl, h2, hr'⟩
  · rintro σ H' ⟨d, f, o3, o4, o5, o6, o7, rfl, s', nd, hd', hr⟩
    rw [hl, List.drop_length] at hr
    cases hr
    refine ⟨_, rfl, d, rfl, .inl ⟨_, .inl hd'⟩, _, rfl, _, .inl ⟨_, Sum.inl t, .inl hd', rfl, rfl⟩, ?_⟩
    rw [val_eT]
    exact fin _ s'
theorem dss_count {X : Cx} {mo : Mo} {E : XK} {sts : List Stmt} (h : PSs X sts (tCount X.K)) : DSs X mo E sts sCount := by
  refine ⟨_, h, fun S₀ g₀ H₀ Fr g W σ H en D r h => ?_⟩
  unfold sCount at h
  split at h
  · rename_i bsd t e2 e3 e4 e5 e6 e7
    split at h
    · rename_i b hb
      split at h
      · rename_i F hF
        obtain ⟨a0, a1, a2, a3, a4, a5, a6, a7, rfl⟩ := len8 r.len.symm
        obtain ⟨v0, s0, r0⟩ := r.val 0 _ rfl
        obtain ⟨v1, s1, r1⟩ := r.val 1 _ rfl
        cases s0
        cases s1
        cases Rp.int_inv r1
        obtain ⟨p, us, rfl, hp, ap⟩ := Rp.lst_inv r0
        rw [pairsOf_eq hb] at ap
        refine tCount_run (cutS hp) (prV_of ap) cut_sub hF fun H' s' => ?_
        have rr := r.step (.of_same s') (r.wok.same s')
        exact h g _ H' rr.base rr.wok ⟨.int _, fun z => by cases z⟩
      · exact h.elim
    · exact h.elim
  · exact h.elim
end Dt

/-! The data layer, part 26: a, b, c = x, y, z. -/
namespace Dt
open PySem L2
theorem reps3 {mo : Mo} {K : PySem.W.Frag} {S : Addr → Prop} {g : Gh} {H : Hp} {vs : List V} {a b c : AV} (h : RepAs mo K S g H vs [a, b, c]) : ∃ v u w, vs = [v, u, w] ∧ RepA mo K S g H v a ∧ RepA mo K S g H u b ∧ RepA mo K S g H w c := by
  cases h with | cons h1 h2 => cases h2 with | cons h2 h3 => cases h3 with | cons h3 h4 => cases h4; exact ⟨_, _, _, rfl, h1, h2, h3⟩
def sPar3 (i j l : Nat) (fs : En → M (List AV)) : En → M Out := fun en => (fs (hide en)).bind fun as => match as with
  | [x, y, z] => .ret (.nx (((en.set i (some (.v x))).set j (some (.v y))).set l (some (.v z))))
  | _ => .stuck
section
variable {X : Cx} {mo : Mo} {E : XK} {a b c : Expr} {fs : En → M (List AV)} {pos : Pos}
theorem ds_par3 {i j l : Nat} {x y z : Str} {px py pz pt : Pos} {kt k2 : Nat} {pt2 : Pos} (hc : X.calm = true) (hN : X.N.Nodup) (hs : DA X mo E [a, b, c] fs)
    (hi : X.N[i]? = some x := by rfl) (hj : X.N[j]? = some y := by rfl) (hl : X.N[l]? = some z := by rfl) (hij : i ≠ j := by decide) (hil : i ≠ l := by decide) (hjl : j ≠ l := by decide)
    (hx : X.env.scope.names.lookup x = some .local := by rfl) (hy : X.env.scope.names.lookup y = some .local := by rfl) (hz : X.env.scope.names.lookup z = some .local := by rfl)
    (hw : swappedStores [.Tuple [.Name x px, .Name y py, .Name z pz] kt pt] (.Tuple [a, b, c] k2 pt2) X.env = pure (some [x, y, z]) := by rfl)
    (hsw : swapsWithSole [.Tuple [.Name x px, .Name y py, .Name z pz] kt pt] (.Tuple [a, b, c] k2 pt2) pos.line X.env = pure false := by rfl) :
    DS X mo E (.Assign [.Tuple [.Name x px, .Name y py, .Name z pz] kt pt] (.Tuple [a, b, c] k2 pt2) pos) (sPar3 i j l fs) := by
  obtain ⟨ts, pss, ws⟩ := hs
  refine ⟨_, ps_par3 hc hN hi hj hl hij hil hjl hx hy hz pss hw hsw, fun S₀ g₀ H₀ Fr g W σ H en D r h => ?_⟩
  unfold sPar3 at h
  rw [wp_bind] at h
  refine ws _ g W σ H (hide en) _ r.hideE (wp_mono h (fun as W1 q g1 vs H1 s1 w1 rr1 hl => ?_) fun _ _ q => ES.of r q)
  try dsimp only at q
  split at q
  · obtain ⟨v, u, w, rfl, r1, r2, r3⟩ := reps3 rr1
    exact ⟨v, u, w, rfl, q g1 _ H1 ((((r.step s1 w1).set r1).set (r2.less fun b z => z.imp_right ow_set)).set (r3.less fun b z => z.imp_right fun h => ow_set (ow_set h)))⟩
  · exact q.elim
end
end Dt

/-! The data layer, part 27: a, b, c = (x, y, z) through a tuple (names that blocks read). -/
namespace Dt
open PySem L2
section
variable {X : Cx} {mo : Mo} {E : XK} {a b c : Expr} {fs : En → M (List AV)} {pos : Pos}
theorem ds_par3c {i j l : Nat} {x y z : Str} {px py pz pt : Pos} {kt k2 : Nat} {pt2 : Pos} (hc : X.calm = true) (hN : X.N.Nodup) (hs : DA X mo E [a, b, c] fs)
    (hi : X.N[i]? = some x := by rfl) (hj : X.N[j]? = some y := by rfl) (hl : X.N[l]? = some z := by rfl)
    (hx : Loc X.env.scope x := by first | exact Or.inl rfl | exact Or.inr rfl) (hy : Loc X.env.scope y := by first | exact Or.inl rfl | exact Or.inr rfl) (hz : Loc X.env.scope z := by first | exact Or.inl rfl | exact Or.inr rfl)
    (hfx : X.fn x = true ∨ X.env.scope.names.lookup x = some .local := by first | exact Or.inl rfl | exact Or.inr rfl) (hfy : X.fn y = true ∨ X.env.scope.names.lookup y = some .local := by first | exact Or.inl rfl | exact Or.inr rfl) (hfz : X.fn z = true ∨ X.env.scope.names.lookup z = some .local := by first | exact Or.inl rfl | exact Or.inr rfl)
    (hs0 : (assignEach [.Name z pz] X.env).map (·.2) = [assign (.Name z pz) X.env] := by rfl) (hs1 : (assignEach [.Name y py, .Name z pz] X.env).map (·.2) = assign (.Name y py) X.env :: (assignEach [.Name z pz] X.env).map (·.2) := by rfl) (hs2 : (assignEach [.Name x px, .Name y py, .Name z pz] X.env).map (·.2) = assign (.Name x px) X.env :: (assignEach [.Name y py, .Name z pz] X.env).map (·.2) := by rfl)
    (hn : (assignEach [.Name x px, .Name y py, .Name z pz] X.env).length = 3 := by rfl) (hst : (assignEach [.Name x px, .Name y py, .Name z pz] X.env).findIdx? (·.1) = none := by rfl)
    (hsw : swapsWithSole [.Tuple [.Name x px, .Name y py, .Name z pz] kt pt] (.Tuple [a, b, c] k2 pt2) pos.line X.env = pure false := by rfl) (hw : swappedStores [.Tuple [.Name x px, .Name y py, .Name z pz] kt pt] (.Tuple [a, b, c] k2 pt2) X.env = pure none := by rfl)
    (h1 : (assignEach [.Tuple [.Name x px, .Name y py, .Name z pz] kt pt] X.env).map (·.2) = [assign (.Tuple [.Name x px, .Name y py, .Name z pz] kt pt) X.env] := by rfl) :
    DS X mo E (.Assign [.Tuple [.Name x px, .Name y py, .Name z pz] kt pt] (.Tuple [a, b, c] k2 pt2) pos) (sPar3 i j l fs) := by
  obtain ⟨ts, pss, ws⟩ := hs
  refine ⟨_, ps_asg (pe_tup pss) (pg_tup hc (pgs_cons (pg_name hN hi hx hfx) (pgs_cons (pg_name hN hj hy hfy) (pgs_cons (pg_name hN hl hz hfz) pgs_nil hs0) hs1) hs2) hn hst) hsw hw h1, fun S₀ g₀ H₀ Fr g W σ H en D r h => ?_⟩
  unfold sPar3 at h
  rw [wp_bind] at h
  refine ws _ g W σ H (hide en) _ r.hideE (wp_mono h (fun as W1 q g1 vs H1 s1 w1 rr1 hl => ?_) fun _ _ q => ES.of r q)
  try dsimp only at q
  split at q
  · obtain ⟨v, u, w, rfl, r1, r2, r3⟩ := reps3 rr1
    refine ⟨lim_line (by decide : 3 ≤ lim), fun p hp => ?_⟩
    refine ⟨p, _, rfl, SqT.of upd_same, rfl, _, _, rfl, _, _, rfl, _, _, rfl, rfl, ?_⟩
    have r0 := (((r.step s1 w1).set (i := i) r1).set (i := j) (r2.less fun b z => z.imp_right ow_set)).set (i := l) (r3.less fun b z => z.imp_right fun h => ow_set (ow_set h))
    exact q g1 _ _ (r0.step (.of_same (same_new hp)) (w1.same (same_new hp)))
  · exact q.elim
end
end Dt

namespace Pg
open PySem L2 Dt
def fuel : Nat := 1000000000000
def tup_FIGURES : List PyData := [.str "sum", .str "mean", .str "median", .str "least", .str "greatest"]
abbrev F__law_draw : List AV → M RV := fDraw
abbrev F__law_start : List AV → M RV := fStart
abbrev F_ways_from : List AV → M RV := fWaysD 7
def b_is_int : En → M Out := (sRet (dAndV (dIsi .int (dVar 0)) (dAndV (dNotV (dIsi .bool (dVar 0))) (dChain oLe oLe (dVar 1) (dVar 0) (dVar 2)))))
def F_is_int : List AV → M RV := runF 3 3 b_is_int
def b_is_bound : En → M Out := (sSeq (sIf (dOr (dNot (dTest (dIsi .tuple (dVar 0)))) (dTest (dBin oNe (dCall bLen (aCons (dVar 0) aNil)) (dC (.int 2)))))
    (sRet (dC (.bool false)))
    sNil)
    (sRet (dAndV (dCall F_is_int (aCons (dBin oIx (dVar 0) (dC (.int 0))) (aCons (dNeg (dC (.int 50))) (aCons (dC (.int 50)) aNil)))) (dCall F_is_int (aCons (dBin oIx (dVar 0) (dC (.int 1))) (aCons (dBin oIx (dVar 0) (dC (.int 0))) (aCons (dC (.int 50)) aNil)))))))
def F_is_bound : List AV → M RV := runF 1 1 b_is_bound
def b_is_bounds : En → M Out := (sSeq (sIf (dOr (dNot (dTest (dIsi .list (dVar 0)))) (dNot (dTest (dChain oLe oLe (dC (.int 1)) (dCall bLen (aCons (dVar 0) aNil)) (dC (.int 7))))))
    (sRet (dC (.bool false)))
    sNil)
    (sRet (dCall bAll (aCons (dComp [1] [1] bdN (iSeqD (dVar 0)) yes (dCall F_is_bound (aCons (dVar 1) aNil))) aNil))))
def F_is_bounds : List AV → M RV := runF 1 2 b_is_bounds
def b_check_bounds : En → M Out := (sIf (dNot (dTest (dCall F_is_bounds (aCons (dVar 0) aNil))))
    (sRaise .bounds)
    sNil)
def F_check_bounds : List AV → M RV := runF 1 1 b_check_bounds
def b_common_divisor : En → M Out := (sSeq (sPar 0 1 (aCons (dCall bAbs (aCons (dVar 0) aNil)) (aCons (dCall bAbs (aCons (dVar 1) aNil)) aNil)))
    (sSeq (sWhile fuel (dTest (dBin oNe (dVar 1) (dC (.int 0))))
    (sPar 0 1 (aCons (dVar 1) (aCons (dBin oMod (dVar 0) (dVar 1)) aNil))))
    (sRetV 0)))
def F_common_divisor : List AV → M RV := runF 2 2 b_common_divisor
def b_lowest : En → M Out := (sSeq (sSet 2 (dCall F_common_divisor (aCons (dVar 0) (aCons (dVar 1) aNil))))
    (sRet (dTup (aCons (dBin oDiv (dVar 0) (dVar 2)) (aCons (dBin oDiv (dVar 1) (dVar 2)) aNil)))))
def F_lowest : List AV → M RV := runF 2 3 b_lowest
def b_lows : En → M Out := (sRet (dComp [1, 2] [1, 2] (bdT 2) (iSeqD (dVar 0)) yes (dVar 1)))
def F_lows : List AV → M RV := runF 1 3 b_lows
def b_highs : En → M Out := (sRet (dComp [1, 2] [1, 2] (bdT 2) (iSeqD (dVar 0)) yes (dVar 2)))
def F_highs : List AV → M RV := runF 1 3 b_highs
def b_sum_range : En → M Out := (sSeq (sExpr (dCall F_check_bounds (aCons (dVar 0) aNil)))
    (sRet (dTup (aCons (dCall bSum (aCons (dCall F_lows (aCons (dVar 0) aNil)) aNil)) (aCons (dCall bSum (aCons (dCall F_highs (aCons (dVar 0) aNil)) aNil)) aNil)))))
def F_sum_range : List AV → M RV := runF 1 1 b_sum_range
def b_mean_range : En → M Out := (sSeq (sExpr (dCall F_check_bounds (aCons (dVar 0) aNil)))
    (sRet (dTup (aCons (dCall F_lowest (aCons (dCall bSum (aCons (dCall F_lows (aCons (dVar 0) aNil)) aNil)) (aCons (dCall bLen (aCons (dVar 0) aNil)) aNil))) (aCons (dCall F_lowest (aCons (dCall bSum (aCons (dCall F_highs (aCons (dVar 0) aNil)) aNil)) (aCons (dCall bLen (aCons (dVar 0) aNil)) aNil))) aNil)))))
def F_mean_range : List AV → M RV := runF 1 1 b_mean_range
def b_kth_range : En → M Out := (sSeq (sExpr (dCall F_check_bounds (aCons (dVar 0) aNil)))
    (sSeq (sIf (dNot (dTest (dCall F_is_int (aCons (dVar 1) (aCons (dC (.int 1)) (aCons (dCall bLen (aCons (dVar 0) aNil)) aNil))))))
    (sRaise .number)
    sNil)
    (sRet (dTup (aCons (dBin oIx (dCall bSorted (aCons (dCall F_lows (aCons (dVar 0) aNil)) aNil)) (dBin oSub (dVar 1) (dC (.int 1)))) (aCons (dBin oIx (dCall bSorted (aCons (dCall F_highs (aCons (dVar 0) aNil)) aNil)) (dBin oSub (dVar 1) (dC (.int 1)))) aNil))))))
def F_kth_range : List AV → M RV := runF 2 2 b_kth_range
def b_middle : En → M Out := (sSeq (sSet 1 (dCall bSorted (aCons (dVar 0) aNil)))
    (sSeq (sSet 2 (dCall bLen (aCons (dVar 1) aNil)))
    (sRet (dCall F_lowest (aCons (dBin oAdd (dBin oIx (dVar 1) (dBin oDiv (dBin oSub (dVar 2) (dC (.int 1))) (dC (.int 2)))) (dBin oIx (dVar 1) (dBin oDiv (dVar 2) (dC (.int 2))))) (aCons (dC (.int 2)) aNil))))))
def F_middle : List AV → M RV := runF 1 3 b_middle
def b_median_range : En → M Out := (sSeq (sExpr (dCall F_check_bounds (aCons (dVar 0) aNil)))
    (sRet (dTup (aCons (dCall F_middle (aCons (dCall F_lows (aCons (dVar 0) aNil)) aNil)) (aCons (dCall F_middle (aCons (dCall F_highs (aCons (dVar 0) aNil)) aNil)) aNil)))))
def F_median_range : List AV → M RV := runF 1 1 b_median_range
def b_least_range : En → M Out := (sSeq (sExpr (dCall F_check_bounds (aCons (dVar 0) aNil)))
    (sRet (dTup (aCons (dCall bMin1 (aCons (dCall F_lows (aCons (dVar 0) aNil)) aNil)) (aCons (dCall bMin1 (aCons (dCall F_highs (aCons (dVar 0) aNil)) aNil)) aNil)))))
def F_least_range : List AV → M RV := runF 1 1 b_least_range
def b_greatest_range : En → M Out := (sSeq (sExpr (dCall F_check_bounds (aCons (dVar 0) aNil)))
    (sRet (dTup (aCons (dCall bMax1 (aCons (dCall F_lows (aCons (dVar 0) aNil)) aNil)) (aCons (dCall bMax1 (aCons (dCall F_highs (aCons (dVar 0) aNil)) aNil)) aNil)))))
def F_greatest_range : List AV → M RV := runF 1 1 b_greatest_range
def b_above_range : En → M Out := (sSeq (sExpr (dCall F_check_bounds (aCons (dVar 0) aNil)))
    (sSeq (sIf (dNot (dTest (dCall F_is_int (aCons (dVar 1) (aCons (dNeg (dC (.int 50))) (aCons (dC (.int 50)) aNil))))))
    (sRaise .number)
    sNil)
    (sRet (dTup (aCons (dCall bLen (aCons (dComp [2, 3] [2, 3] (bdT 2) (iSeqD (dVar 0)) (dTest (dBin oGt (dVar 2) (dVar 1))) (dC (.int 1))) aNil)) (aCons (dCall bLen (aCons (dComp [2, 3] [2, 3] (bdT 2) (iSeqD (dVar 0)) (dTest (dBin oGt (dVar 3) (dVar 1))) (dC (.int 1))) aNil)) aNil))))))
def F_above_range : List AV → M RV := runF 2 4 b_above_range
def b__law_choices : En → M Out := (sSeq (sSet 1 (dLst (aCons (dLst aNil) aNil)))
    (sSeq (sFor [2, 3] (bdT 2) (iSeqD (dVar 0))
    (sSeq (sSet 4 (dLst aNil))
    (sSeq (sFor [5] bdN (iSeqD (dVar 1))
    (sSet 4 (dBin oAdd (dVar 4) (dComp [6] [6] bdN (iRangeD2 (aCons (dVar 2) (aCons (dBin oAdd (dVar 3) (dC (.int 1))) aNil))) yes (dBin oAdd (dVar 5) (dLst (aCons (dVar 6) aNil)))))))
    (sSet 1 (dVar 4)))))
    (sRetV 1)))
def F__law_choices : List AV → M RV := runF 1 7 b__law_choices
def b__law_small : En → M Out := (sSeq (sSetO 2 (dLst aNil))
    (sSeq (sFor [3] bdN (iRangeD1 (aCons (dBin oAdd (dC (.int 1)) (dCall F__law_draw (aCons (dVar 0) (aCons (dVar 1) aNil)))) aNil))
    (sSeq (sSet 4 (dBin oSub (dCall F__law_draw (aCons (dVar 0) (aCons (dC (.int 8)) aNil))) (dC (.int 4))))
    (sApp 2 (dTup (aCons (dVar 4) (aCons (dBin oAdd (dVar 4) (dCall F__law_draw (aCons (dVar 0) (aCons (dC (.int 4)) aNil)))) aNil))))))
    (sRetV 2)))
def F__law_small : List AV → M RV := runF 2 5 b__law_small
def b__law_low : En → M Out := (sSeq (sPar 2 3 (aCons (dCall bAbs (aCons (dVar 0) aNil)) (aCons (dVar 1) aNil)))
    (sSeq (sWhile fuel (dTest (dBin oNe (dVar 3) (dC (.int 0))))
    (sPar 2 3 (aCons (dVar 3) (aCons (dBin oMod (dVar 2) (dVar 3)) aNil))))
    (sRet (dTup (aCons (dBin oDiv (dVar 0) (dVar 2)) (aCons (dBin oDiv (dVar 1) (dVar 2)) aNil))))))
def F__law_low : List AV → M RV := runF 2 4 b__law_low
def b__law_below : En → M Out := (sRet (dBin oLt (dBin oMul (dBin oIx (dVar 0) (dC (.int 0))) (dBin oIx (dVar 1) (dC (.int 1)))) (dBin oMul (dBin oIx (dVar 1) (dC (.int 0))) (dBin oIx (dVar 0) (dC (.int 1))))))
def F__law_below : List AV → M RV := runF 2 2 b__law_below
def b__law_middle : En → M Out := (sSeq (sSet 1 (dCall bSorted (aCons (dVar 0) aNil)))
    (sSeq (sSet 2 (dCall bLen (aCons (dVar 1) aNil)))
    (sRet (dCall F__law_low (aCons (dBin oAdd (dBin oIx (dVar 1) (dBin oDiv (dBin oSub (dVar 2) (dC (.int 1))) (dC (.int 2)))) (dBin oIx (dVar 1) (dBin oDiv (dVar 2) (dC (.int 2))))) (aCons (dC (.int 2)) aNil))))))
def F__law_middle : List AV → M RV := runF 1 3 b__law_middle
def b_choice_with_sum : En → M Out := (sSeq (sExpr (dCall F_check_bounds (aCons (dVar 0) aNil)))
    (sSeq (sIf (dNot (dTest (dCall F_is_int (aCons (dVar 1) (aCons (dCall bSum (aCons (dCall F_lows (aCons (dVar 0) aNil)) aNil)) (aCons (dCall bSum (aCons (dCall F_highs (aCons (dVar 0) aNil)) aNil)) aNil))))))
    (sRaise .number)
    sNil)
    (sSeq (sSet 2 (dBin oSub (dVar 1) (dCall bSum (aCons (dCall F_lows (aCons (dVar 0) aNil)) aNil))))
    (sSeq (sSetO 3 (dLst aNil))
    (sSeq (sFor [4, 5] (bdT 2) (iSeqD (dVar 0))
    (sSeq (sSet 6 (dCall bMin2 (aCons (dVar 2) (aCons (dBin oSub (dVar 5) (dVar 4)) aNil))))
    (sSeq (sApp 3 (dBin oAdd (dVar 4) (dVar 6)))
    (sAug 2 (fun m n => m - n) (dVar 6)))))
    (sRetV 3))))))
def F_choice_with_sum : List AV → M RV := runF 2 7 b_choice_with_sum
def b_count_with_sum : En → M Out := (sSeq (sExpr (dCall F_check_bounds (aCons (dVar 0) aNil)))
    (sSeq (sIf (dNot (dTest (dCall F_is_int (aCons (dVar 1) (aCons (dNeg (dC (.int 400))) (aCons (dC (.int 400)) aNil))))))
    (sRaise .number)
    sNil)
    sCount))
def F_count_with_sum : List AV → M RV := runF 2 8 b_count_with_sum
def b_count_choices : En → M Out := (sSeq (sExpr (dCall F_check_bounds (aCons (dVar 0) aNil)))
    (sSeq (sSet 1 (dC (.int 1)))
    (sSeq (sFor [2, 3] (bdT 2) (iSeqD (dVar 0))
    (sAugMul 1 (dBin oAdd (dBin oSub (dVar 3) (dVar 2)) (dC (.int 1)))))
    (sRetV 1))))
def F_count_choices : List AV → M RV := runF 1 4 b_count_choices
def b__law_pick : En → M Out := (sRet (dBin oIx (dVar 1) (dCall F__law_draw (aCons (dVar 0) (aCons (dCall bLen (aCons (dVar 1) aNil)) aNil)))))
def F__law_pick : List AV → M RV := runF 2 2 b__law_pick
def b__law_bounds : En → M Out := (sSeq (sPar 4 5 (aCons (dCall F__law_pick (aCons (dVar 0) (aCons (dLst (aCons (dC (.int 3)) (aCons (dC (.int 8)) (aCons (dC (.int 30)) aNil)))) aNil))) (aCons (dCall F__law_pick (aCons (dVar 0) (aCons (dLst (aCons (dC (.int 2)) (aCons (dC (.int 4)) (aCons (dC (.int 20)) aNil)))) aNil))) aNil)))
    (sSeq (sSetO 2 (dLst aNil))
    (sSeq (sFor [3] bdN (iRangeD1 (aCons (dBin oAdd (dC (.int 1)) (dCall F__law_draw (aCons (dVar 0) (aCons (dVar 1) aNil)))) aNil))
    (sSeq (sSet 6 (dBin oSub (dCall F__law_draw (aCons (dVar 0) (aCons (dBin oMul (dC (.int 2)) (dVar 4)) aNil))) (dVar 4)))
    (sApp 2 (dTup (aCons (dVar 6) (aCons (dBin oAdd (dVar 6) (dCall F__law_draw (aCons (dVar 0) (aCons (dVar 5) aNil)))) aNil))))))
    (sRetV 2))))
def F__law_bounds : List AV → M RV := runF 2 7 b__law_bounds
def b__law_inside : En → M Out := (sRet (dAndV (dBin oEq (dCall bLen (aCons (dVar 1) aNil)) (dCall bLen (aCons (dVar 0) aNil))) (dBin oEq (dComp [2] [2] bdN (iRangeD1 (aCons (dCall bLen (aCons (dVar 1) aNil)) aNil)) (dNot (dTest (dChain oLe oLe (dBin oIx (dBin oIx (dVar 0) (dVar 2)) (dC (.int 0))) (dBin oIx (dVar 1) (dVar 2)) (dBin oIx (dBin oIx (dVar 0) (dVar 2)) (dC (.int 1)))))) (dVar 2)) (dLst aNil))))
def F__law_inside : List AV → M RV := runF 2 3 b__law_inside
def b_shared : En → M Out := (sSeq (sExpr (dCall F_check_bounds (aCons (dVar 0) aNil)))
    (sSeq (sIf (dTest (dBin oGt (dCall bMax1 (aCons (dCall F_lows (aCons (dVar 0) aNil)) aNil)) (dCall bMin1 (aCons (dCall F_highs (aCons (dVar 0) aNil)) aNil))))
    (sRaise .missing)
    sNil)
    (sRet (dTup (aCons (dCall bMax1 (aCons (dCall F_lows (aCons (dVar 0) aNil)) aNil)) (aCons (dCall bMin1 (aCons (dCall F_highs (aCons (dVar 0) aNil)) aNil)) aNil))))))
def F_shared : List AV → M RV := runF 1 1 b_shared
def b_pair_gap : En → M Out := (sSeq (sSet 1 (dC .none))
    (sSeq (sFor [2] bdN (iRangeD1 (aCons (dCall bLen (aCons (dVar 0) aNil)) aNil))
    (sFor [3] bdN (iRangeD1 (aCons (dCall bLen (aCons (dVar 0) aNil)) aNil))
    (sSeq (sSet 4 (dBin oSub (dBin oIx (dBin oIx (dVar 0) (dVar 2)) (dC (.int 1))) (dBin oIx (dBin oIx (dVar 0) (dVar 3)) (dC (.int 0)))))
    (sIf (dAnd (dTest (dBin oNe (dVar 2) (dVar 3))) (dOr (dTest (dBin oIsN (dVar 1) (dC .none))) (dTest (dBin oGt (dVar 4) (dBin oIx (dVar 1) (dC (.int 0)))))))
    (sSet 1 (dTup (aCons (dVar 4) (aCons (dVar 2) (aCons (dVar 3) aNil)))))
    sNil))))
    (sRetV 1)))
def F_pair_gap : List AV → M RV := runF 1 5 b_pair_gap
def b_spread_range : En → M Out := (sSeq (sExpr (dCall F_check_bounds (aCons (dVar 0) aNil)))
    (sSeq (sSet 1 (dCall F_pair_gap (aCons (dVar 0) aNil)))
    (sSeq (sSet 2 (dCall bMax2 (aCons (dC (.int 0)) (aCons (dBin oSub (dCall bMax1 (aCons (dCall F_lows (aCons (dVar 0) aNil)) aNil)) (dCall bMin1 (aCons (dCall F_highs (aCons (dVar 0) aNil)) aNil))) aNil))))
    (sRet (dTup (aCons (dVar 2) (aCons (dIf (dTest (dBin oNotN (dVar 1) (dC .none))) (dBin oIx (dVar 1) (dC (.int 0))) (dC (.int 0))) aNil)))))))
def F_spread_range : List AV → M RV := runF 1 3 b_spread_range
def b_widest_choice : En → M Out := (sSeq (sExpr (dCall F_check_bounds (aCons (dVar 0) aNil)))
    (sSeq (sSet 1 (dCall F_pair_gap (aCons (dVar 0) aNil)))
    (sSeq (sSetO 2 (dCall F_lows (aCons (dVar 0) aNil)))
    (sSeq (sIf (dTest (dBin oNotN (dVar 1) (dC .none)))
    (sPut 2 (dBin oIx (dVar 1) (dC (.int 1))) (dBin oIx (dBin oIx (dVar 0) (dBin oIx (dVar 1) (dC (.int 1)))) (dC (.int 1))))
    sNil)
    (sRetV 2)))))
def F_widest_choice : List AV → M RV := runF 1 3 b_widest_choice
def b_narrowest_choice : En → M Out := (sSeq (sExpr (dCall F_check_bounds (aCons (dVar 0) aNil)))
    (sSeq (sSet 1 (dCall bMin2 (aCons (dCall bMax1 (aCons (dCall F_lows (aCons (dVar 0) aNil)) aNil)) (aCons (dCall bMin1 (aCons (dCall F_highs (aCons (dVar 0) aNil)) aNil)) aNil))))
    (sRet (dComp [2, 3] [2, 3] (bdT 2) (iSeqD (dVar 0)) yes (dCall bMin2 (aCons (dVar 3) (aCons (dCall bMax2 (aCons (dVar 2) (aCons (dVar 1) aNil))) aNil)))))))
def F_narrowest_choice : List AV → M RV := runF 1 4 b_narrowest_choice
def b_surely_apart : En → M Out := (sSeq (sExpr (dCall F_check_bounds (aCons (dVar 0) aNil)))
    (sSeq (sSetO 1 (dLst aNil))
    (sSeq (sFor [2] bdN (iRangeD1 (aCons (dCall bLen (aCons (dVar 0) aNil)) aNil))
    (sFor [3] bdN (iRangeD2 (aCons (dBin oAdd (dVar 2) (dC (.int 1))) (aCons (dCall bLen (aCons (dVar 0) aNil)) aNil)))
    (sIf (dOr (dTest (dBin oGt (dBin oIx (dBin oIx (dVar 0) (dVar 2)) (dC (.int 0))) (dBin oIx (dBin oIx (dVar 0) (dVar 3)) (dC (.int 1))))) (dTest (dBin oGt (dBin oIx (dBin oIx (dVar 0) (dVar 3)) (dC (.int 0))) (dBin oIx (dBin oIx (dVar 0) (dVar 2)) (dC (.int 1))))))
    (sApp 1 (dTup (aCons (dVar 2) (aCons (dVar 3) aNil))))
    sNil)))
    (sRetV 1))))
def F_surely_apart : List AV → M RV := runF 1 4 b_surely_apart
def b_most_shared : En → M Out := (sSeq (sExpr (dCall F_check_bounds (aCons (dVar 0) aNil)))
    (sSeq (sSet 1 (dTup (aCons (dC (.int 0)) (aCons (dC (.int 0)) aNil))))
    (sSeq (sFor [2] bdN (iSeqD (dCall bSorted (aCons (dCall F_lows (aCons (dVar 0) aNil)) aNil)))
    (sSeq (sSet 3 (dCall bLen (aCons (dComp [4, 5] [4, 5] (bdT 2) (iSeqD (dVar 0)) (dTest (dChain oLe oLe (dVar 4) (dVar 2) (dVar 5))) (dC (.int 1))) aNil)))
    (sSet 1 (dIf (dTest (dBin oGt (dVar 3) (dBin oIx (dVar 1) (dC (.int 0))))) (dTup (aCons (dVar 3) (aCons (dVar 2) aNil))) (dVar 1)))))
    (sRetV 1))))
def F_most_shared : List AV → M RV := runF 1 6 b_most_shared
def b__law_error : En → M Out := (sSeq (sSet 1 (dLst (aCons (dIsE (fun er => decide (er = .bounds)) (dVar 0)) (aCons (dIsE (fun er => decide (er = .number)) (dVar 0)) (aCons (dIsE (fun er => decide (er = .order)) (dVar 0)) aNil)))))
    (sSeq (sSet 1 (dBin oAdd (dVar 1) (dLst (aCons (dIsE (fun er => decide (er = .text)) (dVar 0)) (aCons (dIsE (fun er => decide (er = .missing)) (dVar 0)) aNil)))))
    (sSeq (sIf (dOr (dTest (dBin oNe (dMeth oCount (dVar 1) (dC (.bool true))) (dC (.int 1)))) (dOr (dNot (dTest (dIsE (fun _ => true) (dVar 0)))) (dNot (dTest (dIsE (fun _ => true) (dVar 0))))))
    (sRet (dC (.str "odd")))
    sNil)
    (sRet (dBin oIx (dLst (aCons (dC (.str "bounds")) (aCons (dC (.str "number")) (aCons (dC (.str "order")) (aCons (dC (.str "text")) (aCons (dC (.str "none")) aNil)))))) (dMeth oIndex (dVar 1) (dC (.bool true))))))))
def F__law_error : List AV → M RV := runF 1 2 b__law_error
def b__law_shared : En → M Out := (sSeq (sSet 1 (dC .none))
    (sSeq (sSet 2 (dC .none))
    (sSeq (sTry 3 2 (sSet 1 (xCall F_shared (aCons (dVar 0) aNil))))
    (sRet (dIf (dTest (dBin oIsN (dVar 2) (dC .none))) (dVar 1) (dCall F__law_error (aCons (dVar 2) aNil)))))))
def F__law_shared : List AV → M RV := runF 1 4 b__law_shared
def b_plus : En → M Out := (sRet (dCall F_lowest (aCons (dBin oAdd (dBin oMul (dBin oIx (dVar 0) (dC (.int 0))) (dBin oIx (dVar 1) (dC (.int 1)))) (dBin oMul (dBin oIx (dVar 1) (dC (.int 0))) (dBin oIx (dVar 0) (dC (.int 1))))) (aCons (dBin oMul (dBin oIx (dVar 0) (dC (.int 1))) (dBin oIx (dVar 1) (dC (.int 1)))) aNil))))
def F_plus : List AV → M RV := runF 2 2 b_plus
def b_minus : En → M Out := (sRet (dCall F_plus (aCons (dVar 0) (aCons (dTup (aCons (dNeg (dBin oIx (dVar 1) (dC (.int 0)))) (aCons (dBin oIx (dVar 1) (dC (.int 1))) aNil))) aNil))))
def F_minus : List AV → M RV := runF 2 2 b_minus
def b_times : En → M Out := (sRet (dCall F_lowest (aCons (dBin oMul (dBin oIx (dVar 0) (dC (.int 0))) (dBin oIx (dVar 1) (dC (.int 0)))) (aCons (dBin oMul (dBin oIx (dVar 0) (dC (.int 1))) (dBin oIx (dVar 1) (dC (.int 1)))) aNil))))
def F_times : List AV → M RV := runF 2 2 b_times
def b_less : En → M Out := (sRet (dBin oLt (dBin oMul (dBin oIx (dVar 0) (dC (.int 0))) (dBin oIx (dVar 1) (dC (.int 1)))) (dBin oMul (dBin oIx (dVar 1) (dC (.int 0))) (dBin oIx (dVar 0) (dC (.int 1))))))
def F_less : List AV → M RV := runF 2 2 b_less
def b_total : En → M Out := (sSeq (sSet 1 (dTup (aCons (dC (.int 0)) (aCons (dC (.int 1)) aNil))))
    (sSeq (sFor [2] bdN (iSeqD (dVar 0))
    (sSet 1 (dCall F_plus (aCons (dVar 1) (aCons (dVar 2) aNil)))))
    (sRetV 1)))
def F_total : List AV → M RV := runF 1 3 b_total
def b_squares_about_mean : En → M Out := (sSeq (sSet 1 (dCall F_total (aCons (dVar 0) aNil)))
    (sSeq (sSet 2 (dTup (aCons (dC (.int 0)) (aCons (dC (.int 1)) aNil))))
    (sSeq (sFor [3] bdN (iSeqD (dVar 0))
    (sSet 2 (dCall F_plus (aCons (dVar 2) (aCons (dCall F_times (aCons (dVar 3) (aCons (dVar 3) aNil))) aNil)))))
    (sRet (dCall F_minus (aCons (dVar 2) (aCons (dCall F_times (aCons (dCall F_times (aCons (dVar 1) (aCons (dVar 1) aNil))) (aCons (dTup (aCons (dC (.int 1)) (aCons (dCall bLen (aCons (dVar 0) aNil)) aNil))) aNil))) aNil)))))))
def F_squares_about_mean : List AV → M RV := runF 1 4 b_squares_about_mean
def b_corner_choices : En → M Out := (sSeq (sSet 1 (dLst (aCons (dLst aNil) aNil)))
    (sSeq (sFor [2, 3] (bdT 2) (iSeqD (dVar 0))
    (sSet 1 (dBin oAdd (dComp [4] [4] bdN (iSeqD (dVar 1)) yes (dBin oAdd (dVar 4) (dLst (aCons (dVar 2) aNil)))) (dComp [4] [4] bdN (iSeqD (dVar 1)) (dTest (dBin oGt (dVar 3) (dVar 2))) (dBin oAdd (dVar 4) (dLst (aCons (dVar 3) aNil)))))))
    (sRetV 1)))
def F_corner_choices : List AV → M RV := runF 1 5 b_corner_choices
def b_widest : En → M Out := (sSeq (sAsgT [2, 3] (bdT 2) (dTup (aCons (dC .none) (aCons (dTup (aCons (dNeg (dC (.int 1))) (aCons (dC (.int 1)) aNil))) aNil))))
    (sSeq (sFor [1] bdN (iSeqD (dCall F_corner_choices (aCons (dVar 0) aNil)))
    (sSeq (sSet 4 (dCall F_squares_about_mean (aCons (dComp [5] [5] bdN (iSeqD (dVar 1)) yes (dTup (aCons (dVar 5) (aCons (dC (.int 1)) aNil)))) aNil)))
    (sIf (dTest (dCall F_less (aCons (dVar 3) (aCons (dVar 4) aNil))))
    (sPar 2 3 (aCons (dVar 1) (aCons (dVar 4) aNil)))
    sNil)))
    (sRetV 2)))
def F_widest : List AV → M RV := runF 1 6 b_widest
def b_greatest_squares : En → M Out := (sSeq (sExpr (dCall F_check_bounds (aCons (dVar 0) aNil)))
    (sRet (dCall F_squares_about_mean (aCons (dComp [1] [1] bdN (iSeqD (dCall F_widest (aCons (dVar 0) aNil))) yes (dTup (aCons (dVar 1) (aCons (dC (.int 1)) aNil)))) aNil))))
def F_greatest_squares : List AV → M RV := runF 1 2 b_greatest_squares
def b_widest_squares_choice : En → M Out := (sSeq (sExpr (dCall F_check_bounds (aCons (dVar 0) aNil)))
    (sRet (dCall F_widest (aCons (dVar 0) aNil))))
def F_widest_squares_choice : List AV → M RV := runF 1 1 b_widest_squares_choice
def b_clipped : En → M Out := (sSeq (sSetO 2 (dLst aNil))
    (sSeq (sFor [3, 4] (bdT 2) (iSeqD (dVar 0))
    (sIf (dTest (dCall F_less (aCons (dVar 1) (aCons (dTup (aCons (dVar 3) (aCons (dC (.int 1)) aNil))) aNil))))
    (sApp 2 (dTup (aCons (dVar 3) (aCons (dC (.int 1)) aNil))))
    (sApp 2 (dIf (dTest (dCall F_less (aCons (dTup (aCons (dVar 4) (aCons (dC (.int 1)) aNil))) (aCons (dVar 1) aNil)))) (dTup (aCons (dVar 4) (aCons (dC (.int 1)) aNil))) (dVar 1)))))
    (sRetV 2)))
def F_clipped : List AV → M RV := runF 2 5 b_clipped
def b_centre_of : En → M Out := (sSeq (sPar 2 3 (aCons (dCall bMax1 (aCons (dCall F_lows (aCons (dVar 0) aNil)) aNil)) (aCons (dCall bMin1 (aCons (dCall F_highs (aCons (dVar 0) aNil)) aNil)) aNil)))
    (sSeq (sIf (dTest (dBin oLe (dVar 2) (dVar 3)))
    (sRet (dTup (aCons (dVar 2) (aCons (dC (.int 1)) aNil))))
    sNil)
    (sSeq (sSet 1 (dCall bSorted (aCons (dBin oAdd (dCall F_lows (aCons (dVar 0) aNil)) (dCall F_highs (aCons (dVar 0) aNil))) aNil)))
    (sSeq (sFor [4, 5] (bdT 2) (iZipD (aCons (dVar 1) (aCons (dSl (dVar 1) (oSome (dC (.int 1))) oNone) aNil)))
    (sSeq (sSet 6 (dBin oAdd (dComp [8, 9] [8, 9] (bdT 2) (iSeqD (dVar 0)) (dTest (dBin oGe (dVar 8) (dVar 5))) (dVar 8)) (dComp [8, 9] [8, 9] (bdT 2) (iSeqD (dVar 0)) (dTest (dBin oLe (dVar 9) (dVar 4))) (dVar 9))))
    (sSeq (sSet 7 (dCall F_lowest (aCons (dCall bSum (aCons (dVar 6) aNil)) (aCons (dCall bLen (aCons (dVar 6) aNil)) aNil))))
    (sIf (dAnd (dNot (dTest (dCall F_less (aCons (dVar 7) (aCons (dTup (aCons (dVar 4) (aCons (dC (.int 1)) aNil))) aNil))))) (dNot (dTest (dCall F_less (aCons (dTup (aCons (dVar 5) (aCons (dC (.int 1)) aNil))) (aCons (dVar 7) aNil))))))
    (sRetV 7)
    sNil))))
    (sRet (dTup (aCons (dVar 2) (aCons (dC (.int 1)) aNil))))))))
def F_centre_of : List AV → M RV := runF 1 10 b_centre_of
def b_centre : En → M Out := (sSeq (sExpr (dCall F_check_bounds (aCons (dVar 0) aNil)))
    (sRet (dCall F_centre_of (aCons (dVar 0) aNil))))
def F_centre : List AV → M RV := runF 1 1 b_centre
def b_nearest_choice : En → M Out := (sSeq (sExpr (dCall F_check_bounds (aCons (dVar 0) aNil)))
    (sRet (dCall F_clipped (aCons (dVar 0) (aCons (dCall F_centre_of (aCons (dVar 0) aNil)) aNil)))))
def F_nearest_choice : List AV → M RV := runF 1 1 b_nearest_choice
def b_least_squares : En → M Out := (sSeq (sExpr (dCall F_check_bounds (aCons (dVar 0) aNil)))
    (sRet (dCall F_squares_about_mean (aCons (dCall F_clipped (aCons (dVar 0) (aCons (dCall F_centre_of (aCons (dVar 0) aNil)) aNil))) aNil))))
def F_least_squares : List AV → M RV := runF 1 1 b_least_squares
def b__law_add : En → M Out := (sRet (dCall F__law_low (aCons (dBin oAdd (dBin oMul (dBin oIx (dVar 0) (dC (.int 0))) (dBin oIx (dVar 1) (dC (.int 1)))) (dBin oMul (dBin oIx (dVar 1) (dC (.int 0))) (dBin oIx (dVar 0) (dC (.int 1))))) (aCons (dBin oMul (dBin oIx (dVar 0) (dC (.int 1))) (dBin oIx (dVar 1) (dC (.int 1)))) aNil))))
def F__law_add : List AV → M RV := runF 2 2 b__law_add
def b__law_squares : En → M Out := (sSeq (sAsgT [3, 4] (bdT 2) (dTup (aCons (dTup (aCons (dC (.int 0)) (aCons (dC (.int 1)) aNil))) (aCons (dTup (aCons (dC (.int 0)) (aCons (dC (.int 1)) aNil))) aNil))))
    (sSeq (sFor [1] bdN (iSeqD (dVar 0))
    (sSet 3 (dCall F__law_add (aCons (dVar 3) (aCons (dVar 1) aNil)))))
    (sSeq (sSet 2 (dCall F__law_low (aCons (dBin oIx (dVar 3) (dC (.int 0))) (aCons (dBin oMul (dBin oIx (dVar 3) (dC (.int 1))) (dCall bLen (aCons (dVar 0) aNil))) aNil))))
    (sSeq (sFor [1] bdN (iSeqD (dVar 0))
    (sSeq (sSet 5 (dCall F__law_add (aCons (dVar 1) (aCons (dTup (aCons (dBin oSub (dC (.int 0)) (dBin oIx (dVar 2) (dC (.int 0)))) (aCons (dBin oIx (dVar 2) (dC (.int 1))) aNil))) aNil))))
    (sSet 4 (dCall F__law_add (aCons (dVar 4) (aCons (dCall F__law_low (aCons (dBin oMul (dBin oIx (dVar 5) (dC (.int 0))) (dBin oIx (dVar 5) (dC (.int 0)))) (aCons (dBin oMul (dBin oIx (dVar 5) (dC (.int 1))) (dBin oIx (dVar 5) (dC (.int 1)))) aNil))) aNil))))))
    (sRetV 4)))))
def F__law_squares : List AV → M RV := runF 1 6 b__law_squares
def b__law_least : En → M Out := (sSeq (sSet 4 (dCall F_centre (aCons (dVar 1) aNil)))
    (sSeq (sSetO 5 (dLst aNil))
    (sSeq (sFor [10, 11] (bdT 2) (iSeqD (dVar 1))
    (sApp 5 (dIf (dTest (dCall F__law_below (aCons (dVar 4) (aCons (dTup (aCons (dVar 10) (aCons (dC (.int 1)) aNil))) aNil)))) (dTup (aCons (dVar 10) (aCons (dC (.int 1)) aNil))) (dIf (dTest (dCall F__law_below (aCons (dTup (aCons (dVar 11) (aCons (dC (.int 1)) aNil))) (aCons (dVar 4) aNil)))) (dTup (aCons (dVar 11) (aCons (dC (.int 1)) aNil))) (dVar 4)))))
    (sSeq (sSet 6 (dTup (aCons (dC (.int 0)) (aCons (dC (.int 1)) aNil))))
    (sSeq (sFrz 5 (sFor [7] bdN (iSeqD (dVar 5))
    (sSet 6 (dCall F__law_add (aCons (dVar 6) (aCons (dVar 7) aNil))))))
    (sSeq (sIf (dOr (dTest (dBin oNe (dCall F_nearest_choice (aCons (dVar 1) aNil)) (dVar 5))) (dTest (dBin oNe (dCall F__law_low (aCons (dBin oIx (dVar 6) (dC (.int 0))) (aCons (dBin oMul (dBin oIx (dVar 6) (dC (.int 1))) (dVar 2)) aNil))) (dVar 4))))
    (sRet (dC (.bool false)))
    sNil)
    (sSeq (sPar 10 11 (aCons (dCall bMax1 (aCons (dComp [7] [7] bdN (iSeqD (dVar 1)) yes (dBin oIx (dVar 7) (dC (.int 0)))) aNil)) (aCons (dCall bMin1 (aCons (dComp [7] [7] bdN (iSeqD (dVar 1)) yes (dBin oIx (dVar 7) (dC (.int 1)))) aNil)) aNil)))
    (sSeq (sSet 8 (dCall F_least_squares (aCons (dVar 1) aNil)))
    (sSeq (sIf (dOr (dTest (dBin oNe (dVar 8) (dCall F__law_squares (aCons (dVar 5) aNil)))) (dOr (dTest (dBin oNe (dBin oEq (dVar 8) (dTup (aCons (dC (.int 0)) (aCons (dC (.int 1)) aNil)))) (dBin oLe (dVar 10) (dVar 11)))) (dAnd (dTest (dBin oLe (dVar 10) (dVar 11))) (dTest (dBin oNe (dVar 4) (dTup (aCons (dVar 10) (aCons (dC (.int 1)) aNil))))))))
    (sRet (dC (.bool false)))
    sNil)
    (sSeq (sFor [9] bdN (iRangeD1 (aCons (dC (.int 6)) aNil))
    (sSeq (sSet 12 (dComp [7] [7] bdN (iSeqD (dVar 1)) yes (dTup (aCons (dBin oAdd (dBin oMul (dBin oIx (dVar 7) (dC (.int 0))) (dC (.int 12))) (dCall F__law_draw (aCons (dVar 0) (aCons (dBin oAdd (dBin oMul (dC (.int 12)) (dBin oSub (dBin oIx (dVar 7) (dC (.int 1))) (dBin oIx (dVar 7) (dC (.int 0))))) (dC (.int 1))) aNil)))) (aCons (dC (.int 12)) aNil)))))
    (sSeq (sSet 13 (dCall F__law_squares (aCons (dComp [14, 15] [14, 15] (bdT 2) (iSeqD (dVar 12)) yes (dCall F__law_low (aCons (dVar 14) (aCons (dVar 15) aNil)))) aNil)))
    (sIf (dOr (dTest (dCall F__law_below (aCons (dVar 13) (aCons (dVar 8) aNil)))) (dTest (dCall F__law_below (aCons (dVar 3) (aCons (dVar 13) aNil)))))
    (sRet (dC (.bool false)))
    sNil))))
    (sRet (dC (.bool true)))))))))))))
def F__law_least : List AV → M RV := runF 4 16 b__law_least
def b_check_place : En → M Out := (sIf (dNot (dTest (dCall F_is_int (aCons (dVar 1) (aCons (dC (.int 0)) (aCons (dBin oSub (dCall bLen (aCons (dVar 0) aNil)) (dC (.int 1))) aNil))))))
    (sRaise .number)
    sNil)
def F_check_place : List AV → M RV := runF 2 2 b_check_place
def b_ranks_of : En → M Out := (sSeq (sAsgT [4, 5] (bdT 2) (dBin oIx (dVar 0) (dVar 1)))
    (sSeq (sSet 2 (dCall bLen (aCons (dComp [6, 7] [6, 7] (bdT 2) (iEnumD (aCons (dVar 0) aNil)) (dAnd (dTest (dBin oNe (dVar 6) (dVar 1))) (dTest (dBin oLt (dBin oIx (dVar 7) (dC (.int 1))) (dVar 4)))) (dC (.int 1))) aNil)))
    (sSeq (sSet 3 (dCall bLen (aCons (dComp [6, 7] [6, 7] (bdT 2) (iEnumD (aCons (dVar 0) aNil)) (dAnd (dTest (dBin oNe (dVar 6) (dVar 1))) (dTest (dBin oGt (dBin oIx (dVar 7) (dC (.int 0))) (dVar 5)))) (dC (.int 1))) aNil)))
    (sRet (dTup (aCons (dBin oAdd (dC (.int 1)) (dVar 2)) (aCons (dBin oSub (dCall bLen (aCons (dVar 0) aNil)) (dVar 3)) aNil)))))))
def F_ranks_of : List AV → M RV := runF 2 8 b_ranks_of
def b_rank_range : En → M Out := (sSeq (sExpr (dCall F_check_bounds (aCons (dVar 0) aNil)))
    (sSeq (sExpr (dCall F_check_place (aCons (dVar 0) (aCons (dVar 1) aNil))))
    (sRet (dCall F_ranks_of (aCons (dVar 0) (aCons (dVar 1) aNil))))))
def F_rank_range : List AV → M RV := runF 2 2 b_rank_range
def b_can_be_greatest : En → M Out := (sSeq (sExpr (dCall F_check_bounds (aCons (dVar 0) aNil)))
    (sRet (dComp [1] [1] bdN (iRangeD1 (aCons (dCall bLen (aCons (dVar 0) aNil)) aNil)) (dTest (dBin oEq (dBin oIx (dCall F_ranks_of (aCons (dVar 0) (aCons (dVar 1) aNil))) (dC (.int 1))) (dCall bLen (aCons (dVar 0) aNil)))) (dVar 1))))
def F_can_be_greatest : List AV → M RV := runF 1 2 b_can_be_greatest
def b_surely_greatest : En → M Out := (sSeq (sExpr (dCall F_check_bounds (aCons (dVar 0) aNil)))
    (sSeq (sSetO 1 (dLst aNil))
    (sSeq (sFor [2, 3] (bdT 2) (iEnumD (aCons (dVar 0) aNil))
    (sIf (dTest (dCall bAll (aCons (dComp [4, 5] [4, 5] (bdT 2) (iEnumD (aCons (dVar 0) aNil)) (dTest (dBin oNe (dVar 4) (dVar 2))) (dBin oGe (dBin oIx (dVar 3) (dC (.int 0))) (dBin oIx (dVar 5) (dC (.int 1))))) aNil)))
    (sApp 1 (dVar 2))
    sNil))
    (sRetV 1))))
def F_surely_greatest : List AV → M RV := runF 1 6 b_surely_greatest
def b_in_first : En → M Out := (sSeq (sExpr (dCall F_check_bounds (aCons (dVar 0) aNil)))
    (sSeq (sExpr (dCall F_check_place (aCons (dVar 0) (aCons (dVar 1) aNil))))
    (sSeq (sIf (dNot (dTest (dCall F_is_int (aCons (dVar 2) (aCons (dC (.int 0)) (aCons (dCall bLen (aCons (dVar 0) aNil)) aNil))))))
    (sRaise .number)
    sNil)
    (sSeq (sAsgT [3, 4] (bdT 2) (dCall F_ranks_of (aCons (dVar 0) (aCons (dVar 1) aNil))))
    (sSeq (sIf (dTest (dBin oLe (dVar 4) (dVar 2)))
    (sRet (dC (.str "sure")))
    sNil)
    (sRet (dIf (dTest (dBin oLe (dVar 3) (dVar 2))) (dC (.str "possible")) (dC (.str "never")))))))))
def F_in_first : List AV → M RV := runF 3 5 b_in_first
def b_rank_table : En → M Out := (sSeq (sExpr (dCall F_check_bounds (aCons (dVar 0) aNil)))
    (sRet (dComp [1] [1] bdN (iRangeD1 (aCons (dCall bLen (aCons (dVar 0) aNil)) aNil)) yes (dCall F_ranks_of (aCons (dVar 0) (aCons (dVar 1) aNil))))))
def F_rank_table : List AV → M RV := runF 1 2 b_rank_table
def b__law_orders : En → M Out := (sSeq (sSet 1 (dLst (aCons (dLst aNil) aNil)))
    (sSeq (sFor [2] bdN (iRangeD1 (aCons (dCall bLen (aCons (dVar 0) aNil)) aNil))
    (sSeq (sSetO 3 (dLst aNil))
    (sSeq (sFor [4] bdN (iSeqD (dVar 1))
    (sFor [5] bdN (iRangeD1 (aCons (dCall bLen (aCons (dVar 0) aNil)) aNil))
    (sSeq (sSet 6 (dComp [7] [7] bdN (iSeqD (dVar 4)) (dTest (dBin oGt (dBin oIx (dBin oIx (dVar 0) (dVar 7)) (dC (.int 0))) (dBin oIx (dBin oIx (dVar 0) (dVar 5)) (dC (.int 1))))) (dVar 7)))
    (sIf (dAnd (dTest (dBin (oIn true) (dVar 5) (dVar 4))) (dTest (dBin oEq (dVar 6) (dLst aNil))))
    (sApp 3 (dBin oAdd (dVar 4) (dLst (aCons (dVar 5) aNil))))
    sNil))))
    (sFrz 3 (sSet 1 (dVar 3))))))
    (sRetV 1)))
def F__law_orders : List AV → M RV := runF 1 8 b__law_orders
def b_sure_pairs : En → M Out := (sSeq (sExpr (dCall F_check_bounds (aCons (dVar 0) aNil)))
    (sSeq (sSetO 1 (dLst aNil))
    (sSeq (sFor [2] bdN (iRangeD1 (aCons (dCall bLen (aCons (dVar 0) aNil)) aNil))
    (sExt 1 (dComp [3] [3] bdN (iRangeD1 (aCons (dCall bLen (aCons (dVar 0) aNil)) aNil)) (dTest (dBin oLt (dBin oIx (dBin oIx (dVar 0) (dVar 2)) (dC (.int 1))) (dBin oIx (dBin oIx (dVar 0) (dVar 3)) (dC (.int 0))))) (dTup (aCons (dVar 2) (aCons (dVar 3) aNil))))))
    (sRetV 1))))
def F_sure_pairs : List AV → M RV := runF 1 4 b_sure_pairs
def b_longest_chain : En → M Out := (sSeq (sExpr (dCall F_check_bounds (aCons (dVar 0) aNil)))
    (sSeq (sSet 1 (dCall bSortPr (aCons (dComp [4, 5] [4, 5] (bdT 2) (iEnumD (aCons (dVar 0) aNil)) yes (dTup (aCons (dBin oIx (dVar 5) (dC (.int 1))) (aCons (dVar 4) aNil)))) aNil)))
    (sSeq (sSetO 2 (dLst aNil))
    (sSeq (sFor [3, 4] (bdT 2) (iSeqD (dVar 1))
    (sIf (dOr (dTest (dBin oEq (dVar 2) (dLst aNil))) (dTest (dBin oLt (dBin oIx (dBin oIx (dVar 0) (dBin oIx (dVar 2) (dNeg (dC (.int 1))))) (dC (.int 1))) (dBin oIx (dBin oIx (dVar 0) (dVar 4)) (dC (.int 0))))))
    (sApp 2 (dVar 4))
    sNil))
    (sRetV 2)))))
def F_longest_chain : List AV → M RV := runF 1 6 b_longest_chain
def b_verdict : En → M Out := (sSeq (sIf (dTest (dCall F_less (aCons (dVar 3) (aCons (dVar 0) aNil))))
    (sRet (dC (.str "sure")))
    sNil)
    (sRet (dIf (dTest (dCall F_less (aCons (dVar 2) (aCons (dVar 1) aNil)))) (dC (.str "possible")) (dC (.str "never")))))
def F_verdict : List AV → M RV := runF 4 4 b_verdict
def b_value_is_more : En → M Out := (sSeq (sExpr (dCall F_check_bounds (aCons (dVar 0) aNil)))
    (sSeq (sExpr (dCall F_check_place (aCons (dVar 0) (aCons (dVar 1) aNil))))
    (sSeq (sExpr (dCall F_check_place (aCons (dVar 0) (aCons (dVar 2) aNil))))
    (sSeq (sIf (dTest (dBin oEq (dVar 1) (dVar 2)))
    (sRet (dC (.str "never")))
    sNil)
    (sSeq (sAsgT [3, 4] (bdT 2) (dBin oIx (dVar 0) (dVar 1)))
    (sRet (dCall F_verdict (aCons (dTup (aCons (dVar 3) (aCons (dC (.int 1)) aNil))) (aCons (dTup (aCons (dVar 4) (aCons (dC (.int 1)) aNil))) (aCons (dTup (aCons (dBin oIx (dBin oIx (dVar 0) (dVar 2)) (dC (.int 0))) (aCons (dC (.int 1)) aNil))) (aCons (dTup (aCons (dBin oIx (dBin oIx (dVar 0) (dVar 2)) (dC (.int 1))) (aCons (dC (.int 1)) aNil))) aNil)))))))))))
def F_value_is_more : List AV → M RV := runF 3 5 b_value_is_more
def b_check_order : En → M Out := (sSeq (sIf (dOr (dNot (dTest (dIsi .list (dVar 1)))) (dNot (dTest (dCall bAll (aCons (dComp [2] [2] bdN (iSeqD (dVar 1)) yes (dCall F_is_int (aCons (dVar 2) (aCons (dC (.int 0)) (aCons (dBin oSub (dCall bLen (aCons (dVar 0) aNil)) (dC (.int 1))) aNil))))) aNil)))))
    (sRaise .order)
    sNil)
    (sIf (dTest (dBin oNe (dCall bSorted (aCons (dVar 1) aNil)) (dListR false (dCall bLen (aCons (dVar 0) aNil)))))
    (sRaise .order)
    sNil))
def F_check_order : List AV → M RV := runF 2 3 b_check_order
def b_is_possible : En → M Out := (sSeq (sFor [2] bdN (iRangeD1 (aCons (dCall bLen (aCons (dVar 1) aNil)) aNil))
    (sFor [3] bdN (iRangeD1 (aCons (dVar 2) aNil))
    (sIf (dTest (dBin oGt (dBin oIx (dBin oIx (dVar 0) (dBin oIx (dVar 1) (dVar 3))) (dC (.int 0))) (dBin oIx (dBin oIx (dVar 0) (dBin oIx (dVar 1) (dVar 2))) (dC (.int 1)))))
    (sRet (dC (.bool false)))
    sNil)))
    (sRet (dC (.bool true))))
def F_is_possible : List AV → M RV := runF 2 4 b_is_possible
def b_can_be_order : En → M Out := (sSeq (sExpr (dCall F_check_bounds (aCons (dVar 0) aNil)))
    (sSeq (sExpr (dCall F_check_order (aCons (dVar 0) (aCons (dVar 1) aNil))))
    (sRet (dCall F_is_possible (aCons (dVar 0) (aCons (dVar 1) aNil))))))
def F_can_be_order : List AV → M RV := runF 2 2 b_can_be_order
def b_choice_for : En → M Out := (sSeq (sExpr (dCall F_check_bounds (aCons (dVar 0) aNil)))
    (sSeq (sExpr (dCall F_check_order (aCons (dVar 0) (aCons (dVar 1) aNil))))
    (sSeq (sIf (dNot (dTest (dCall F_is_possible (aCons (dVar 0) (aCons (dVar 1) aNil)))))
    (sRaise .missing)
    sNil)
    (sSeq (sSetO 2 (dBin oMul (dLst (aCons (dC (.int 0)) aNil)) (dCall bLen (aCons (dVar 0) aNil))))
    (sSeq (sSet 3 (dNeg (dC (.int 51))))
    (sSeq (sFor [4] bdN (iSeqD (dVar 1))
    (sSeq (sSet 3 (dCall bMax2 (aCons (dVar 3) (aCons (dBin oIx (dBin oIx (dVar 0) (dVar 4)) (dC (.int 0))) aNil))))
    (sPut 2 (dVar 4) (dVar 3))))
    (sRetV 2)))))))
def F_choice_for : List AV → M RV := runF 2 5 b_choice_for
def b_next_places : En → M Out := (sSeq (sSet 2 (dComp [3] [3] bdN (iRangeD1 (aCons (dCall bLen (aCons (dVar 0) aNil)) aNil)) (dTest (dBin (oIn true) (dVar 3) (dVar 1))) (dVar 3)))
    (sRet (dComp [3] [3] bdN (iSeqD (dVar 2)) (dTest (dCall bAll (aCons (dComp [4] [4] bdN (iSeqD (dVar 2)) yes (dBin oLe (dBin oIx (dBin oIx (dVar 0) (dVar 3)) (dC (.int 0))) (dBin oIx (dBin oIx (dVar 0) (dVar 4)) (dC (.int 1))))) aNil))) (dVar 3))))
def F_next_places : List AV → M RV := runF 2 5 b_next_places
def b_count_orders : En → M Out := (sSeq (sExpr (dCall F_check_bounds (aCons (dVar 0) aNil)))
    (sRet (dCall F_ways_from (aCons (dVar 0) (aCons (dLst aNil) (aCons (dMemo 0) aNil))))))
def F_count_orders : List AV → M RV := runF 1 1 b_count_orders
def b_order_at : En → M Out := (sSeq (sExpr (dCall F_check_bounds (aCons (dVar 0) aNil)))
    (sSeq (sSet 2 (dMemo 0))
    (sSeq (sIf (dNot (dTest (dCall F_is_int (aCons (dVar 1) (aCons (dC (.int 0)) (aCons (dBin oSub (dCall F_ways_from (aCons (dVar 0) (aCons (dLst aNil) (aCons (dVar 2) aNil)))) (dC (.int 1))) aNil))))))
    (sRaise .number)
    sNil)
    (sSeq (sSet 3 (dLst aNil))
    (sSeq (sWhile fuel (dTest (dBin oLt (dCall bLen (aCons (dVar 3) aNil)) (dCall bLen (aCons (dVar 0) aNil))))
    (sFor [4] bdN (iSeqD (dCall F_next_places (aCons (dVar 0) (aCons (dVar 3) aNil))))
    (sSeq (sSet 5 (dCall F_ways_from (aCons (dVar 0) (aCons (dBin oAdd (dVar 3) (dLst (aCons (dVar 4) aNil))) (aCons (dVar 2) aNil)))))
    (sSeq (sIf (dTest (dBin oLt (dVar 1) (dVar 5)))
    (sSeq (sSet 3 (dBin oAdd (dVar 3) (dLst (aCons (dVar 4) aNil))))
    sBreak)
    sNil)
    (sAug 1 (fun m n => m - n) (dVar 5))))))
    (sRetV 3))))))
def F_order_at : List AV → M RV := runF 2 6 b_order_at
def b_rank_of_order : En → M Out := (sSeq (sExpr (dCall F_check_bounds (aCons (dVar 0) aNil)))
    (sSeq (sExpr (dCall F_check_order (aCons (dVar 0) (aCons (dVar 1) aNil))))
    (sSeq (sIf (dNot (dTest (dCall F_is_possible (aCons (dVar 0) (aCons (dVar 1) aNil)))))
    (sRaise .missing)
    sNil)
    (sSeq (sPar 2 3 (aCons (dC (.int 0)) (aCons (dMemo 0) aNil)))
    (sSeq (sFor [4, 5] (bdT 2) (iEnumD (aCons (dVar 1) aNil))
    (sFor [6] bdN (iSeqD (dCall F_next_places (aCons (dVar 0) (aCons (dSl (dVar 1) oNone (oSome (dVar 4))) aNil))))
    (sIf (dTest (dBin oLt (dVar 6) (dVar 5)))
    (sAug 2 (fun m n => m + n) (dCall F_ways_from (aCons (dVar 0) (aCons (dBin oAdd (dSl (dVar 1) oNone (oSome (dVar 4))) (dLst (aCons (dVar 6) aNil))) (aCons (dVar 3) aNil)))))
    sNil)))
    (sRetV 2))))))
def F_rank_of_order : List AV → M RV := runF 2 7 b_rank_of_order
def b_checked_changing : En → M Out := (sSeq (sIf (dNot (dTest (dCall F_is_bounds (aCons (dVar 0) aNil))))
    (sRaise .bounds)
    sNil)
    (sRetV 0))
def F_checked_changing : List AV → M RV := runF 1 1 b_checked_changing
def b_widened : En → M Out := (sSeq (sExpr (dCall F_check_bounds (aCons (dVar 0) aNil)))
    (sSeq (sIf (dNot (dTest (dCall F_is_int (aCons (dVar 1) (aCons (dC (.int 0)) (aCons (dC (.int 50)) aNil))))))
    (sRaise .number)
    sNil)
    (sRet (dCall F_checked_changing (aCons (dComp [2, 3] [2, 3] (bdT 2) (iSeqD (dVar 0)) yes (dTup (aCons (dBin oSub (dVar 2) (dVar 1)) (aCons (dBin oAdd (dVar 3) (dVar 1)) aNil)))) aNil)))))
def F_widened : List AV → M RV := runF 2 4 b_widened
def b__law_true : En → M Out := (sRet (dAndV (dIsi .bool (dVar 0)) (dBin oEq (dVar 0) (dVar 1))))
def F__law_true : List AV → M RV := runF 2 2 b__law_true
def b__law_all_orders : En → M Out := (sSeq (sSet 1 (dLst (aCons (dLst aNil) aNil)))
    (sSeq (sFor [2] bdN (iRangeD1 (aCons (dVar 0) aNil))
    (sSeq (sSet 3 (dLst aNil))
    (sSeq (sFor [4] bdN (iSeqD (dVar 1))
    (sSet 3 (dBin oAdd (dVar 3) (dComp [5] [5] bdN (iRangeD1 (aCons (dVar 0) aNil)) (dTest (dBin (oIn true) (dVar 5) (dVar 4))) (dBin oAdd (dVar 4) (dLst (aCons (dVar 5) aNil)))))))
    (sSet 1 (dVar 3)))))
    (sRetV 1)))
def F__law_all_orders : List AV → M RV := runF 1 6 b__law_all_orders
def b_check_pairs : En → M Out := (sSeq (sIf (dOr (dNot (dTest (dIsi .list (dVar 1)))) (dTest (dBin oGt (dCall bLen (aCons (dVar 1) aNil)) (dC (.int 42)))))
    (sRaise .order)
    sNil)
    (sFor [2] bdN (iSeqD (dVar 1))
    (sSeq (sIf (dOr (dNot (dTest (dIsi .tuple (dVar 2)))) (dOr (dTest (dBin oNe (dCall bLen (aCons (dVar 2) aNil)) (dC (.int 2)))) (dNot (dTest (dCall bAll (aCons (dComp [3] [3] bdN (iSeqD (dVar 2)) yes (dCall F_is_int (aCons (dVar 3) (aCons (dC (.int 0)) (aCons (dBin oSub (dCall bLen (aCons (dVar 0) aNil)) (dC (.int 1))) aNil))))) aNil))))))
    (sRaise .order)
    sNil)
    (sIf (dTest (dBin oEq (dBin oIx (dVar 2) (dC (.int 0))) (dBin oIx (dVar 2) (dC (.int 1)))))
    (sRaise .order)
    sNil))))
def F_check_pairs : List AV → M RV := runF 2 4 b_check_pairs
def b_checked_facts : En → M Out := (sSeq (sIf (dTest (dCall bAny (aCons (dComp [1, 2] [1, 2] (bdT 2) (iSeqD (dVar 0)) yes (dBin oGt (dVar 1) (dVar 2))) aNil)))
    (sRaise .missing)
    sNil)
    (sRetV 0))
def F_checked_facts : List AV → M RV := runF 1 3 b_checked_facts
def b_with_sum : En → M Out := (sSeq (sExpr (dCall F_check_bounds (aCons (dVar 0) aNil)))
    (sSeq (sIf (dOr (dNot (dTest (dCall F_is_int (aCons (dVar 1) (aCons (dNeg (dC (.int 400))) (aCons (dC (.int 400)) aNil)))))) (dNot (dTest (dCall F_is_int (aCons (dVar 2) (aCons (dVar 1) (aCons (dC (.int 400)) aNil)))))))
    (sRaise .number)
    sNil)
    (sSeq (sAsgT [3, 4] (bdT 2) (dTup (aCons (dCall bSum (aCons (dComp [5, 6] [5, 6] (bdT 2) (iSeqD (dVar 0)) yes (dVar 5)) aNil)) (aCons (dCall bSum (aCons (dComp [5, 6] [5, 6] (bdT 2) (iSeqD (dVar 0)) yes (dVar 6)) aNil)) aNil))))
    (sSeq (sIf (dOr (dTest (dBin oGt (dVar 3) (dVar 2))) (dTest (dBin oLt (dVar 4) (dVar 1))))
    (sRaise .missing)
    sNil)
    (sRet (dComp [5, 6] [5, 6] (bdT 2) (iSeqD (dVar 0)) yes (dTup (aCons (dCall bMax2 (aCons (dVar 5) (aCons (dBin oSub (dVar 1) (dBin oSub (dVar 4) (dVar 6))) aNil))) (aCons (dCall bMin2 (aCons (dVar 6) (aCons (dBin oSub (dVar 2) (dBin oSub (dVar 3) (dVar 5))) aNil))) aNil)))))))))
def F_with_sum : List AV → M RV := runF 3 7 b_with_sum
def b_narrowed : En → M Out := (sSeq (sSetO 2 (dCall bList (aCons (dVar 0) aNil)))
    (sSeq (sFor [3] bdN (iRangeD1 (aCons (dCall bLen (aCons (dVar 0) aNil)) aNil))
    (sFor [4, 5] (bdT 2) (iSeqD (dVar 1))
    (sSeq (sPut 2 (dVar 4) (dTup (aCons (dBin oIx (dBin oIx (dVar 2) (dVar 4)) (dC (.int 0))) (aCons (dCall bMin2 (aCons (dBin oIx (dBin oIx (dVar 2) (dVar 4)) (dC (.int 1))) (aCons (dBin oIx (dBin oIx (dVar 2) (dVar 5)) (dC (.int 1))) aNil))) aNil))))
    (sPut 2 (dVar 5) (dTup (aCons (dCall bMax2 (aCons (dBin oIx (dBin oIx (dVar 2) (dVar 5)) (dC (.int 0))) (aCons (dBin oIx (dBin oIx (dVar 2) (dVar 4)) (dC (.int 0))) aNil))) (aCons (dBin oIx (dBin oIx (dVar 2) (dVar 5)) (dC (.int 1))) aNil)))))))
    (sRetV 2)))
def F_narrowed : List AV → M RV := runF 2 6 b_narrowed
def b_with_pairs : En → M Out := (sSeq (sExpr (dCall F_check_bounds (aCons (dVar 0) aNil)))
    (sSeq (sExpr (dCall F_check_pairs (aCons (dVar 0) (aCons (dVar 1) aNil))))
    (sRet (dCall F_checked_facts (aCons (dCall F_narrowed (aCons (dVar 0) (aCons (dVar 1) aNil))) aNil)))))
def F_with_pairs : List AV → M RV := runF 2 2 b_with_pairs
def b_can_be_pairs : En → M Out := (sSeq (sExpr (dCall F_check_bounds (aCons (dVar 0) aNil)))
    (sSeq (sExpr (dCall F_check_pairs (aCons (dVar 0) (aCons (dVar 1) aNil))))
    (sRet (dCall bAll (aCons (dComp [2, 3] [2, 3] (bdT 2) (iSeqD (dCall F_narrowed (aCons (dVar 0) (aCons (dVar 1) aNil)))) yes (dBin oLe (dVar 2) (dVar 3))) aNil)))))
def F_can_be_pairs : List AV → M RV := runF 2 4 b_can_be_pairs
def b_with_value : En → M Out := (sSeq (sExpr (dCall F_check_bounds (aCons (dVar 0) aNil)))
    (sSeq (sExpr (dCall F_check_place (aCons (dVar 0) (aCons (dVar 1) aNil))))
    (sSeq (sIf (dOr (dNot (dTest (dCall F_is_int (aCons (dVar 2) (aCons (dNeg (dC (.int 50))) (aCons (dC (.int 50)) aNil)))))) (dNot (dTest (dCall F_is_int (aCons (dVar 3) (aCons (dVar 2) (aCons (dC (.int 50)) aNil)))))))
    (sRaise .number)
    sNil)
    (sSeq (sSetO 4 (dCall bList (aCons (dVar 0) aNil)))
    (sSeq (sPut 4 (dVar 1) (dTup (aCons (dCall bMax2 (aCons (dVar 2) (aCons (dBin oIx (dBin oIx (dVar 0) (dVar 1)) (dC (.int 0))) aNil))) (aCons (dCall bMin2 (aCons (dVar 3) (aCons (dBin oIx (dBin oIx (dVar 0) (dVar 1)) (dC (.int 1))) aNil))) aNil))))
    (sRet (dCall F_checked_facts (aCons (dVar 4) aNil))))))))
def F_with_value : List AV → M RV := runF 4 5 b_with_value
def b_met : En → M Out := (sSeq (sExpr (dCall F_check_bounds (aCons (dVar 0) aNil)))
    (sSeq (sExpr (dCall F_check_bounds (aCons (dVar 1) aNil)))
    (sSeq (sIf (dTest (dBin oNe (dCall bLen (aCons (dVar 0) aNil)) (dCall bLen (aCons (dVar 1) aNil))))
    (sRaise .number)
    sNil)
    (sRet (dCall F_checked_facts (aCons (dComp [2, 3] [2, 3] (bdT 2) (iZipD (aCons (dVar 0) (aCons (dVar 1) aNil))) yes (dTup (aCons (dCall bMax2 (aCons (dBin oIx (dVar 2) (dC (.int 0))) (aCons (dBin oIx (dVar 3) (dC (.int 0))) aNil))) (aCons (dCall bMin2 (aCons (dBin oIx (dVar 2) (dC (.int 1))) (aCons (dBin oIx (dVar 3) (dC (.int 1))) aNil))) aNil)))) aNil))))))
def F_met : List AV → M RV := runF 2 4 b_met
def b__law_due : En → M Out := (sSeq (sIf (dTest (dBin oEq (dVar 0) (dLst aNil)))
    (sRet (dC (.str "none")))
    sNil)
    (sRet (dComp [2] [2] bdN (iRangeD1 (aCons (dVar 1) aNil)) yes (dTup (aCons (dCall bMin1 (aCons (dComp [3] [3] bdN (iSeqD (dVar 0)) yes (dBin oIx (dVar 3) (dVar 2))) aNil)) (aCons (dCall bMax1 (aCons (dComp [3] [3] bdN (iSeqD (dVar 0)) yes (dBin oIx (dVar 3) (dVar 2))) aNil)) aNil))))))
def F__law_due : List AV → M RV := runF 2 4 b__law_due
def b_as_fractions : En → M Out := (sRet (dComp [1] [1] bdN (iSeqD (dVar 0)) yes (dIf (dTest (dIsi .tuple (dVar 1))) (dVar 1) (dTup (aCons (dVar 1) (aCons (dC (.int 1)) aNil))))))
def F_as_fractions : List AV → M RV := runF 1 2 b_as_fractions
def b_figure_range : En → M Out := (sSeq (sIf (dTest (dBin oEq (dVar 1) (dC (.str "sum"))))
    (sRet (dCall F_as_fractions (aCons (dCall F_sum_range (aCons (dVar 0) aNil)) aNil)))
    sNil)
    (sSeq (sIf (dTest (dBin oEq (dVar 1) (dC (.str "mean"))))
    (sRet (dCall F_as_fractions (aCons (dCall F_mean_range (aCons (dVar 0) aNil)) aNil)))
    sNil)
    (sSeq (sIf (dTest (dBin oEq (dVar 1) (dC (.str "median"))))
    (sRet (dCall F_as_fractions (aCons (dCall F_median_range (aCons (dVar 0) aNil)) aNil)))
    sNil)
    (sRet (dCall F_as_fractions (aCons (dIf (dTest (dBin oEq (dVar 1) (dC (.str "least")))) (dCall F_least_range (aCons (dVar 0) aNil)) (dCall F_greatest_range (aCons (dVar 0) aNil))) aNil))))))
def F_figure_range : List AV → M RV := runF 2 2 b_figure_range
def b_check_figure : En → M Out := (sIf (dOr (dNot (dTest (dIsi .str (dVar 0)))) (dTest (dBin (oIn true) (dVar 0) (dC (.tuple tup_FIGURES)))))
    (sRaise .number)
    sNil)
def F_check_figure : List AV → M RV := runF 1 1 b_check_figure
def b_is_more : En → M Out := (sSeq (sExpr (dCall F_check_bounds (aCons (dVar 0) aNil)))
    (sSeq (sExpr (dCall F_check_bounds (aCons (dVar 1) aNil)))
    (sSeq (sExpr (dCall F_check_figure (aCons (dVar 2) aNil)))
    (sSeq (sPar 3 4 (aCons (dCall F_figure_range (aCons (dVar 0) (aCons (dVar 2) aNil))) (aCons (dCall F_figure_range (aCons (dVar 1) (aCons (dVar 2) aNil))) aNil)))
    (sRet (dCall F_verdict (aCons (dBin oIx (dVar 3) (dC (.int 0))) (aCons (dBin oIx (dVar 3) (dC (.int 1))) (aCons (dBin oIx (dVar 4) (dC (.int 0))) (aCons (dBin oIx (dVar 4) (dC (.int 1))) aNil))))))))))
def F_is_more : List AV → M RV := runF 3 5 b_is_more
def b_can_reach : En → M Out := (sSeq (sExpr (dCall F_check_bounds (aCons (dVar 0) aNil)))
    (sSeq (sExpr (dCall F_check_figure (aCons (dVar 1) aNil)))
    (sSeq (sIf (dOr (dNot (dTest (dIsi .tuple (dVar 2)))) (dOr (dTest (dBin oNe (dCall bLen (aCons (dVar 2) aNil)) (dC (.int 2)))) (dNot (dTest (dCall bAll (aCons (dComp [5] [5] bdN (iSeqD (dVar 2)) yes (dIsi .int (dVar 5))) aNil))))))
    (sRaise .number)
    sNil)
    (sSeq (sIf (dOr (dTest (dBin (oIn false) (dC (.bool true)) (dComp [5] [5] bdN (iSeqD (dVar 2)) yes (dIsi .bool (dVar 5))))) (dTest (dBin oLt (dBin oIx (dVar 2) (dC (.int 1))) (dC (.int 1)))))
    (sRaise .number)
    sNil)
    (sSeq (sAsgT [3, 4] (bdT 2) (dCall F_figure_range (aCons (dVar 0) (aCons (dVar 1) aNil))))
    (sRet (dAndV (dNotV (dCall F_less (aCons (dVar 2) (aCons (dVar 3) aNil)))) (dNotV (dCall F_less (aCons (dVar 4) (aCons (dVar 2) aNil)))))))))))
def F_can_reach : List AV → M RV := runF 3 6 b_can_reach
def b_best_figures : En → M Out := (sSeq (sIf (dOr (dNot (dTest (dIsi .list (dVar 0)))) (dNot (dTest (dChain oLe oLe (dC (.int 1)) (dCall bLen (aCons (dVar 0) aNil)) (dC (.int 5))))))
    (sRaise .number)
    sNil)
    (sSeq (sFor [2] bdN (iSeqD (dVar 0))
    (sExpr (dCall F_check_bounds (aCons (dVar 2) aNil))))
    (sSeq (sExpr (dCall F_check_figure (aCons (dVar 1) aNil)))
    (sSeq (sSet 3 (dComp [2] [2] bdN (iSeqD (dVar 0)) yes (dCall F_figure_range (aCons (dVar 2) (aCons (dVar 1) aNil)))))
    (sRet (dComp [4, 5] [4, 5] (bdT 2) (iEnumD (aCons (dVar 3) aNil)) (dNot (dTest (dCall bAny (aCons (dComp [6] [6] bdN (iSeqD (dVar 3)) yes (dCall F_less (aCons (dBin oIx (dVar 5) (dC (.int 1))) (aCons (dBin oIx (dVar 6) (dC (.int 0))) aNil)))) aNil)))) (dVar 4)))))))
def F_best_figures : List AV → M RV := runF 2 7 b_best_figures
def b__law_figure : En → M Out := (sSeq (sIf (dTest (dBin oEq (dVar 1) (dC (.str "median"))))
    (sRet (dCall F__law_middle (aCons (dVar 0) aNil)))
    sNil)
    (sSeq (sIf (dTest (dBin oEq (dVar 1) (dC (.str "mean"))))
    (sRet (dCall F__law_low (aCons (dCall bSum (aCons (dVar 0) aNil)) (aCons (dCall bLen (aCons (dVar 0) aNil)) aNil))))
    sNil)
    (sRet (dTup (aCons (dIf (dTest (dBin oEq (dVar 1) (dC (.str "sum")))) (dCall bSum (aCons (dVar 0) aNil)) (dIf (dTest (dBin oEq (dVar 1) (dC (.str "least")))) (dCall bMin1 (aCons (dVar 0) aNil)) (dCall bMax1 (aCons (dVar 0) aNil)))) (aCons (dC (.int 1)) aNil))))))
def F__law_figure : List AV → M RV := runF 2 2 b__law_figure
def b_moved : En → M Out := (sSeq (sExpr (dCall F_check_bounds (aCons (dVar 0) aNil)))
    (sSeq (sIf (dNot (dTest (dCall F_is_int (aCons (dVar 1) (aCons (dNeg (dC (.int 100))) (aCons (dC (.int 100)) aNil))))))
    (sRaise .number)
    sNil)
    (sRet (dCall F_checked_changing (aCons (dComp [2, 3] [2, 3] (bdT 2) (iSeqD (dVar 0)) yes (dTup (aCons (dBin oAdd (dVar 2) (dVar 1)) (aCons (dBin oAdd (dVar 3) (dVar 1)) aNil)))) aNil)))))
def F_moved : List AV → M RV := runF 2 4 b_moved
def b_scaled : En → M Out := (sSeq (sExpr (dCall F_check_bounds (aCons (dVar 0) aNil)))
    (sSeq (sIf (dNot (dTest (dCall F_is_int (aCons (dVar 1) (aCons (dNeg (dC (.int 50))) (aCons (dC (.int 50)) aNil))))))
    (sRaise .number)
    sNil)
    (sRet (dCall F_checked_changing (aCons (dComp [2, 3] [2, 3] (bdT 2) (iSeqD (dVar 0)) yes (dTup (aCons (dCall bMin2 (aCons (dBin oMul (dVar 2) (dVar 1)) (aCons (dBin oMul (dVar 3) (dVar 1)) aNil))) (aCons (dCall bMax2 (aCons (dBin oMul (dVar 2) (dVar 1)) (aCons (dBin oMul (dVar 3) (dVar 1)) aNil))) aNil)))) aNil)))))
def F_scaled : List AV → M RV := runF 2 4 b_scaled
def b_added : En → M Out := (sSeq (sExpr (dCall F_check_bounds (aCons (dVar 0) aNil)))
    (sSeq (sExpr (dCall F_check_bounds (aCons (dVar 1) aNil)))
    (sSeq (sIf (dTest (dBin oNe (dCall bLen (aCons (dVar 0) aNil)) (dCall bLen (aCons (dVar 1) aNil))))
    (sRaise .number)
    sNil)
    (sRet (dCall F_checked_changing (aCons (dComp [2, 3] [2, 3] (bdT 2) (iZipD (aCons (dVar 0) (aCons (dVar 1) aNil))) yes (dTup (aCons (dBin oAdd (dBin oIx (dVar 2) (dC (.int 0))) (dBin oIx (dVar 3) (dC (.int 0)))) (aCons (dBin oAdd (dBin oIx (dVar 2) (dC (.int 1))) (dBin oIx (dVar 3) (dC (.int 1)))) aNil)))) aNil))))))
def F_added : List AV → M RV := runF 2 4 b_added
def b_with_bound : En → M Out := (sSeq (sExpr (dCall F_check_bounds (aCons (dVar 0) aNil)))
    (sSeq (sIf (dNot (dTest (dCall F_is_bound (aCons (dVar 1) aNil))))
    (sRaise .bounds)
    sNil)
    (sRet (dCall F_checked_changing (aCons (dBin oAdd (dVar 0) (dLst (aCons (dVar 1) aNil))) aNil)))))
def F_with_bound : List AV → M RV := runF 2 2 b_with_bound
def b_without_value : En → M Out := (sSeq (sExpr (dCall F_check_bounds (aCons (dVar 0) aNil)))
    (sSeq (sExpr (dCall F_check_place (aCons (dVar 0) (aCons (dVar 1) aNil))))
    (sSeq (sIf (dTest (dBin oEq (dCall bLen (aCons (dVar 0) aNil)) (dC (.int 1))))
    (sRaise .number)
    sNil)
    (sRet (dBin oAdd (dSl (dVar 0) oNone (oSome (dVar 1))) (dSl (dVar 0) (oSome (dBin oAdd (dVar 1) (dC (.int 1)))) oNone))))))
def F_without_value : List AV → M RV := runF 2 2 b_without_value
def b_renamed : En → M Out := (sSeq (sExpr (dCall F_check_bounds (aCons (dVar 0) aNil)))
    (sSeq (sIf (dOr (dNot (dTest (dIsi .tuple (dVar 1)))) (dNot (dTest (dCall bAll (aCons (dComp [2] [2] bdN (iSeqD (dVar 1)) yes (dCall F_is_int (aCons (dVar 2) (aCons (dC (.int 0)) (aCons (dBin oSub (dCall bLen (aCons (dVar 0) aNil)) (dC (.int 1))) aNil))))) aNil)))))
    (sRaise .number)
    sNil)
    (sSeq (sIf (dTest (dBin oNe (dCall bSortTI (aCons (dVar 1) aNil)) (dListR false (dCall bLen (aCons (dVar 0) aNil)))))
    (sRaise .number)
    sNil)
    (sRet (dComp [2] [2] bdN (iSeqD (dVar 1)) yes (dBin oIx (dVar 0) (dVar 2)))))))
def F_renamed : List AV → M RV := runF 2 3 b_renamed
def b_parse_number : En → M Out := (sSeq (sSet 1 (dIf (dTest (dBin oEq (dSl (dVar 0) oNone (oSome (dC (.int 1)))) (dC (.str "-")))) (dSl (dVar 0) (oSome (dC (.int 1))) oNone) (dVar 0)))
    (sSeq (sIf (dOr (dNot (dTest (dChain oLe oLe (dC (.int 1)) (dCall bLen (aCons (dVar 1) aNil)) (dC (.int 2))))) (dOr (dNot (dTest (dCall bAll (aCons (dComp [2] [2] bdN (iStrD (dVar 1)) yes (dBin (oIn false) (dVar 2) (dC (.str "0123456789")))) aNil)))) (dTest (dBin oNe (dCall bStr (aCons (dCall bInt (aCons (dVar 0) aNil)) aNil)) (dVar 0)))))
    (sRaise .text)
    sNil)
    (sRet (dCall bInt (aCons (dVar 0) aNil)))))
def F_parse_number : List AV → M RV := runF 1 3 b_parse_number
def b_format_bounds : En → M Out := (sSeq (sExpr (dCall F_check_bounds (aCons (dVar 0) aNil)))
    (sRet (dMethS oJoin (dC (.str " ")) (dComp [1, 2] [1, 2] (bdT 2) (iSeqD (dVar 0)) yes (dIf (dTest (dBin oEq (dVar 1) (dVar 2))) (dCall bStr (aCons (dVar 1) aNil)) (dF3 (dVar 1) ".." (dVar 2)))))))
def F_format_bounds : List AV → M RV := runF 1 3 b_format_bounds
def b_parse_bounds : En → M Out := (sSeq (sIf (dNot (dTest (dIsi .str (dVar 0))))
    (sRaise .text)
    sNil)
    (sSeq (sSetO 1 (dLst aNil))
    (sSeq (sFor [2] bdN (iSeqD (dMethS oSplit (dVar 0) (dC (.str " "))))
    (sSeq (sSet 3 (dMethS oSplit (dVar 2) (dC (.str ".."))))
    (sSeq (sIf (dTest (dBin oGt (dCall bLen (aCons (dVar 3) aNil)) (dC (.int 2))))
    (sRaise .text)
    sNil)
    (sSeq (sSet 4 (dComp [5] [5] bdN (iSeqD (dVar 3)) yes (dCall F_parse_number (aCons (dVar 5) aNil))))
    (sSeq (sIf (dAnd (dTest (dBin oEq (dCall bLen (aCons (dVar 4) aNil)) (dC (.int 2)))) (dTest (dBin oEq (dBin oIx (dVar 4) (dC (.int 0))) (dBin oIx (dVar 4) (dC (.int 1))))))
    (sRaise .text)
    sNil)
    (sApp 1 (dTup (aCons (dBin oIx (dVar 4) (dC (.int 0))) (aCons (dBin oIx (dVar 4) (dNeg (dC (.int 1)))) aNil)))))))))
    (sSeq (sIf (dNot (dTest (dCall F_is_bounds (aCons (dVar 1) aNil))))
    (sRaise .text)
    sNil)
    (sRetV 1)))))
def F_parse_bounds : List AV → M RV := runF 1 6 b_parse_bounds
def b_format_fraction : En → M Out := (sSeq (sIf (dOr (dNot (dTest (dIsi .tuple (dVar 0)))) (dOr (dTest (dBin oNe (dCall bLen (aCons (dVar 0) aNil)) (dC (.int 2)))) (dNot (dTest (dCall bAll (aCons (dComp [1] [1] bdN (iSeqD (dVar 0)) yes (dIsi .int (dVar 1))) aNil))))))
    (sRaise .text)
    sNil)
    (sSeq (sIf (dOr (dTest (dBin oLt (dBin oIx (dVar 0) (dC (.int 1))) (dC (.int 1)))) (dOr (dTest (dBin oNe (dCall F_common_divisor (aCons (dBin oIx (dVar 0) (dC (.int 0))) (aCons (dBin oIx (dVar 0) (dC (.int 1))) aNil))) (dC (.int 1)))) (dTest (dBin (oIn false) (dC (.bool true)) (dComp [1] [1] bdN (iSeqD (dVar 0)) yes (dIsi .bool (dVar 1)))))))
    (sRaise .text)
    sNil)
    (sRet (dIf (dTest (dBin oEq (dBin oIx (dVar 0) (dC (.int 1))) (dC (.int 1)))) (dCall bStr (aCons (dBin oIx (dVar 0) (dC (.int 0))) aNil)) (dF3 (dBin oIx (dVar 0) (dC (.int 0))) "/" (dBin oIx (dVar 0) (dC (.int 1))))))))
def F_format_fraction : List AV → M RV := runF 1 2 b_format_fraction
def b__law_written : En → M Out := (sRet (dMethS oJoin (dC (.str " ")) (dComp [1, 2] [1, 2] (bdT 2) (iSeqD (dVar 0)) yes (dIf (dTest (dBin oEq (dVar 1) (dVar 2))) (dCall bStr (aCons (dVar 1) aNil)) (dBin oAdd (dBin oAdd (dCall bStr (aCons (dVar 1) aNil)) (dC (.str ".."))) (dCall bStr (aCons (dVar 2) aNil)))))))
def F__law_written : List AV → M RV := runF 1 3 b__law_written
def b__law_parsed : En → M Out := (sSeq (sSet 2 (dC .none))
    (sSeq (sSet 3 (dC .none))
    (sSeq (sTry 4 3 (sSet 2 (xIf (dTest (dBin oEq (dVar 0) (dC (.int 0)))) (xCall F_parse_bounds (aCons (dVar 1) aNil)) (xCall F_format_fraction (aCons (dVar 1) aNil)))))
    (sRet (dIf (dTest (dBin oIsN (dVar 3) (dC .none))) (dVar 2) (dLst (aCons (dCall F__law_error (aCons (dVar 3) aNil)) aNil)))))))
def F__law_parsed : List AV → M RV := runF 2 5 b__law_parsed
def b__law_rejected : En → M Out := (sSeq (sSet 0 (dLst (aCons (dC .none) (aCons (dC (.int 5)) (aCons (dC (.str "")) (aCons (dC (.str " ")) (aCons (dC (.str "1 ")) (aCons (dC (.str " 1")) (aCons (dC (.str "1  2")) (aCons (dC (.str "01")) (aCons (dC (.str "+1")) (aCons (dC (.str "-0")) (aCons (dC (.str "--1")) (aCons (dC (.str "a")) (aCons (dC (.str "1,2")) (aCons (dC (.str "51")) (aCons (dC (.str "-51")) (aCons (dC (.str "1..")) (aCons (dC (.str "..1")) (aCons (dC (.str "1..1")) (aCons (dC (.str "2..1")) (aCons (dC (.str "1...2")) (aCons (dC (.str "1..2..3")) (aCons (dC (.str "1. .2")) (aCons (dMethS oJoin (dC (.str " ")) (dBin oMul (dLst (aCons (dC (.str "0")) aNil)) (dC (.int 8)))) (aCons (dC (.str "100")) aNil))))))))))))))))))))))))))
    (sSeq (sIf (dOr (dTest (dBin oNe (dComp [1] [1] bdN (iSeqD (dVar 0)) yes (dCall F__law_parsed (aCons (dC (.int 0)) (aCons (dVar 1) aNil)))) (dBin oMul (dLst (aCons (dLst (aCons (dC (.str "text")) aNil)) aNil)) (dC (.int 24))))) (dTest (dBin oNe (dCall F__law_parsed (aCons (dC (.int 0)) (aCons (dC (.str "-50..50 -3 0")) aNil))) (dLst (aCons (dTup (aCons (dBin oSub (dC (.int 0)) (dC (.int 50))) (aCons (dC (.int 50)) aNil))) (aCons (dTup (aCons (dBin oSub (dC (.int 0)) (dC (.int 3))) (aCons (dBin oSub (dC (.int 0)) (dC (.int 3))) aNil))) (aCons (dTup (aCons (dC (.int 0)) (aCons (dC (.int 0)) aNil))) aNil)))))))
    (sRet (dC (.bool false)))
    sNil)
    (sSeq (sSet 0 (dLst (aCons (dC .none) (aCons (dC (.int 5)) (aCons (dTup (aCons (dC (.int 1)) aNil)) (aCons (dLst (aCons (dC (.int 1)) (aCons (dC (.int 2)) aNil))) (aCons (dTup (aCons (dC (.int 1)) (aCons (dC (.int 0)) aNil))) (aCons (dTup (aCons (dC (.int 2)) (aCons (dC (.int 4)) aNil))) (aCons (dTup (aCons (dC (.int 1)) (aCons (dBin oSub (dC (.int 0)) (dC (.int 1))) aNil))) (aCons (dTup (aCons (dC (.bool true)) (aCons (dC (.int 1)) aNil))) (aCons (dTup (aCons (dC (.int 1)) (aCons (dC (.bool true)) aNil))) (aCons (dTup (aCons (dC (.int 1)) (aCons (dC .none) aNil))) (aCons (dTup (aCons (dC (.str "1")) (aCons (dC (.int 2)) aNil))) (aCons (dTup (aCons (dC (.int 0)) (aCons (dC (.int 2)) aNil))) aNil))))))))))))))
    (sRet (dAndV (dBin oEq (dComp [1] [1] bdN (iSeqD (dVar 0)) yes (dCall F__law_parsed (aCons (dC (.int 1)) (aCons (dVar 1) aNil)))) (dBin oMul (dLst (aCons (dLst (aCons (dC (.str "text")) aNil)) aNil)) (dC (.int 12)))) (dAndV (dBin oEq (dCall F__law_parsed (aCons (dC (.int 1)) (aCons (dTup (aCons (dBin oSub (dC (.int 0)) (dC (.int 3))) (aCons (dC (.int 2)) aNil))) aNil))) (dC (.str "-3/2"))) (dBin oEq (dCall F__law_parsed (aCons (dC (.int 1)) (aCons (dTup (aCons (dC (.int 0)) (aCons (dC (.int 1)) aNil))) aNil))) (dC (.str "0")))))))))
def F__law_rejected : List AV → M RV := runF 0 2 b__law_rejected
def b__wall : En → M Out := (sWhile fuel (dTest (dC (.bool true)))
    sPass)
def F__wall : List AV → M RV := runF 1 1 b__wall
def b__law_two : En → M Out := (sSeq (sIf (dTest (dBin oEq (dVar 0) (dC (.int 0))))
    (sRet (dCall F_kth_range (aCons (dVar 1) (aCons (dVar 2) aNil))))
    sNil)
    (sSeq (sIf (dTest (dBin oEq (dVar 0) (dC (.int 1))))
    (sRet (dCall F_above_range (aCons (dVar 1) (aCons (dVar 2) aNil))))
    sNil)
    (sSeq (sIf (dTest (dBin oEq (dVar 0) (dC (.int 2))))
    (sRet (dCall F_count_with_sum (aCons (dVar 1) (aCons (dVar 2) aNil))))
    sNil)
    (sSeq (sIf (dTest (dBin oEq (dVar 0) (dC (.int 3))))
    (sRet (dCall F_rank_range (aCons (dVar 1) (aCons (dVar 2) aNil))))
    sNil)
    (sSeq (sIf (dTest (dBin oEq (dVar 0) (dC (.int 4))))
    (sRet (dCall F_in_first (aCons (dVar 1) (aCons (dC (.int 0)) (aCons (dVar 2) aNil)))))
    sNil)
    (sSeq (sIf (dTest (dBin oEq (dVar 0) (dC (.int 5))))
    (sRet (dCall F_moved (aCons (dVar 1) (aCons (dVar 2) aNil))))
    sNil)
    (sSeq (sIf (dTest (dBin oEq (dVar 0) (dC (.int 6))))
    (sRet (dCall F_scaled (aCons (dVar 1) (aCons (dVar 2) aNil))))
    sNil)
    (sSeq (sIf (dTest (dBin oEq (dVar 0) (dC (.int 7))))
    (sRet (dCall F_widened (aCons (dVar 1) (aCons (dVar 2) aNil))))
    sNil)
    (sSeq (sIf (dTest (dBin oEq (dVar 0) (dC (.int 8))))
    (sRet (dCall F_without_value (aCons (dVar 1) (aCons (dVar 2) aNil))))
    sNil)
    (sSeq (sIf (dTest (dBin oEq (dVar 0) (dC (.int 9))))
    (sRet (dCall F_with_sum (aCons (dVar 1) (aCons (dVar 2) (aCons (dC (.int 400)) aNil)))))
    sNil)
    (sSeq (sIf (dTest (dBin oEq (dVar 0) (dC (.int 10))))
    (sRet (dCall F_with_value (aCons (dVar 1) (aCons (dVar 2) (aCons (dC (.int 0)) (aCons (dC (.int 0)) aNil))))))
    sNil)
    (sSeq (sIf (dTest (dBin oEq (dVar 0) (dC (.int 11))))
    (sRet (dCall F_value_is_more (aCons (dVar 1) (aCons (dC (.int 0)) (aCons (dVar 2) aNil)))))
    sNil)
    (sSeq (sIf (dTest (dBin oEq (dVar 0) (dC (.int 12))))
    (sRet (dCall F_in_first (aCons (dVar 1) (aCons (dVar 2) (aCons (dC (.int 1)) aNil)))))
    sNil)
    (sSeq (sIf (dTest (dBin oEq (dVar 0) (dC (.int 13))))
    (sRet (dCall F_choice_with_sum (aCons (dVar 1) (aCons (dVar 2) aNil))))
    sNil)
    (sRet (dIf (dTest (dBin oEq (dVar 0) (dC (.int 14)))) (dCall F_order_at (aCons (dVar 1) (aCons (dVar 2) aNil))) (dCall F_with_value (aCons (dVar 1) (aCons (dC (.int 0)) (aCons (dVar 2) (aCons (dC (.int 50)) aNil)))))))))))))))))))))
def F__law_two : List AV → M RV := runF 3 3 b__law_two
def b__law_told : En → M Out := (sSeq (sSet 4 (dC .none))
    (sSeq (sTry 5 4 (xIfS (dTest (dBin oEq (dVar 1) (dC (.str "undo"))))
    (sExpr (xMethO fTelUndo (dVar 0) aNil))
    (sExpr (xMethO fTelTell (dVar 0) (aCons (dVar 1) (aCons (dVar 2) (aCons (dVar 3) aNil)))))))
    (sRet (dIf (dTest (dBin oIsN (dVar 4) (dC .none))) (dC (.str "done")) (dCall F__law_error (aCons (dVar 4) aNil))))))
def F__law_told : List AV → M RV := runF 4 6 b__law_told
def b__law_teller : En → M Out := (sSeq (sSet 0 (dCall fTelNew (aCons (dLst (aCons (dTup (aCons (dC (.int 0)) (aCons (dC (.int 2)) aNil))) (aCons (dTup (aCons (dC (.int 1)) (aCons (dC (.int 3)) aNil))) aNil))) aNil)))
    (sSeq (sIf (dTest (dBin oNe (dComp [3] [3] bdN (iSeqD (dTup (aCons (dC .none) (aCons (dC (.int 2)) (aCons (dBin oSub (dC (.int 0)) (dC (.int 1))) (aCons (dC (.bool true)) (aCons (dC (.str "0")) aNil))))))) yes (dCall F__law_told (aCons (dVar 0) (aCons (dVar 3) (aCons (dC (.int 0)) (aCons (dC (.int 1)) aNil)))))) (dBin oMul (dLst (aCons (dC (.str "number")) aNil)) (dC (.int 5)))))
    (sRet (dC (.bool false)))
    sNil)
    (sSeq (sFor [1, 2] (bdT 2) (iSeqD (dLst (aCons (dTup (aCons (dC .none) (aCons (dC (.int 1)) aNil))) (aCons (dTup (aCons (dC (.int 0)) (aCons (dC .none) aNil))) (aCons (dTup (aCons (dC (.int 1)) (aCons (dC (.int 0)) aNil))) (aCons (dTup (aCons (dBin oSub (dC (.int 0)) (dC (.int 51))) (aCons (dC (.int 0)) aNil))) (aCons (dTup (aCons (dC (.int 0)) (aCons (dC (.int 51)) aNil))) (aCons (dTup (aCons (dC (.bool true)) (aCons (dC (.int 1)) aNil))) (aCons (dTup (aCons (dC (.int 0)) (aCons (dC (.bool true)) aNil))) (aCons (dTup (aCons (dC (.str "0")) (aCons (dC (.int 1)) aNil))) aNil))))))))))
    (sIf (dTest (dBin oNe (dCall F__law_told (aCons (dVar 0) (aCons (dC (.int 0)) (aCons (dVar 1) (aCons (dVar 2) aNil))))) (dC (.str "number"))))
    (sRet (dC (.bool false)))
    sNil))
    (sSeq (sIf (dOr (dTest (dBin oNe (dCall F__law_told (aCons (dVar 0) (aCons (dC (.int 0)) (aCons (dC (.int 3)) (aCons (dC (.int 9)) aNil))))) (dC (.str "none")))) (dOr (dTest (dBin oNe (dCall F__law_told (aCons (dVar 0) (aCons (dC (.str "undo")) (aCons (dC (.int 0)) (aCons (dC (.int 0)) aNil))))) (dC (.str "none")))) (dOr (dTest (dBin oNe (dMethO fTelBounds (dVar 0) aNil) (dLst (aCons (dTup (aCons (dC (.int 0)) (aCons (dC (.int 2)) aNil))) (aCons (dTup (aCons (dC (.int 1)) (aCons (dC (.int 3)) aNil))) aNil))))) (dTest (dBin oNe (dLenTel (dVar 0)) (dC (.int 0)))))))
    (sRet (dC (.bool false)))
    sNil)
    (sSeq (sIf (dOr (dTest (dBin oNe (dMethO fTelTell (dVar 0) (aCons (dC (.int 1)) (aCons (dBin oSub (dC (.int 0)) (dC (.int 50))) (aCons (dC (.int 50)) aNil)))) (dTup (aCons (dC (.int 1)) (aCons (dC (.int 3)) aNil))))) (dOr (dTest (dBin oNe (dMethO fTelTell (dVar 0) (aCons (dC (.int 1)) (aCons (dC (.int 3)) (aCons (dC (.int 3)) aNil)))) (dTup (aCons (dC (.int 3)) (aCons (dC (.int 3)) aNil))))) (dOr (dTest (dBin oNe (dMethO fTelKnown (dVar 0) aNil) (dLst (aCons (dC (.int 1)) aNil)))) (dTest (dBin oNe (dMethO fTelWidth (dVar 0) aNil) (dC (.int 2)))))))
    (sRet (dC (.bool false)))
    sNil)
    (sSeq (sIf (dOr (dTest (dBin oNe (dMethO fTelTell (dCall fTelNew (aCons (dLst (aCons (dTup (aCons (dC (.int 0)) (aCons (dC (.int 50)) aNil))) aNil)) aNil)) (aCons (dC (.int 0)) (aCons (dC (.int 50)) (aCons (dC (.int 50)) aNil)))) (dTup (aCons (dC (.int 50)) (aCons (dC (.int 50)) aNil))))) (dTest (dBin oNe (dCall F__law_told (aCons (dCall fTelNew (aCons (dLst (aCons (dTup (aCons (dC (.int 0)) (aCons (dC (.int 50)) aNil))) aNil)) aNil)) (aCons (dC (.int 0)) (aCons (dC (.int 51)) (aCons (dC (.int 51)) aNil))))) (dC (.str "number")))))
    (sRet (dC (.bool false)))
    sNil)
    (sRet (dAndV (dBin oEq (dMethO fTelUndo (dVar 0) aNil) (dLst (aCons (dTup (aCons (dC (.int 0)) (aCons (dC (.int 2)) aNil))) (aCons (dTup (aCons (dC (.int 1)) (aCons (dC (.int 3)) aNil))) aNil)))) (dAndV (dBin oEq (dLenTel (dVar 0)) (dC (.int 1))) (dAndV (dBin oEq (dMethO fTelUndo (dVar 0) aNil) (dLst (aCons (dTup (aCons (dC (.int 0)) (aCons (dC (.int 2)) aNil))) (aCons (dTup (aCons (dC (.int 1)) (aCons (dC (.int 3)) aNil))) aNil)))) (dBin oEq (dLenTel (dVar 0)) (dC (.int 0)))))))))))))
def F__law_teller : List AV → M RV := runF 0 4 b__law_teller
def b__law_first : En → M Out := (sSeq (sIf (dOr (dTest (dBin oNe (dCall F_kth_range (aCons (dVar 0) (aCons (dC (.int 2)) aNil))) (dTup (aCons (dC (.int 2)) (aCons (dC (.int 4)) aNil))))) (dOr (dTest (dBin oNe (dCall F_choice_with_sum (aCons (dVar 0) (aCons (dC (.int 8)) aNil))) (dLst (aCons (dC (.int 3)) (aCons (dC (.int 3)) (aCons (dC (.int 2)) aNil)))))) (dOr (dTest (dBin oNe (dCall F_spread_range (aCons (dVar 0) aNil)) (dTup (aCons (dC (.int 0)) (aCons (dC (.int 5)) aNil))))) (dTest (dBin oNe (dCall F_most_shared (aCons (dVar 0) aNil)) (dTup (aCons (dC (.int 3)) (aCons (dC (.int 3)) aNil))))))))
    (sRet (dC (.bool false)))
    sNil)
    (sSeq (sSet 1 (dLst (aCons (dTup (aCons (dC (.int 0)) (aCons (dC (.int 1)) aNil))) (aCons (dTup (aCons (dC (.int 3)) (aCons (dC (.int 5)) aNil))) (aCons (dTup (aCons (dC (.int 2)) (aCons (dC (.int 2)) aNil))) aNil)))))
    (sSeq (sIf (dOr (dTest (dBin oNe (dCall F_centre (aCons (dVar 1) aNil)) (dTup (aCons (dC (.int 2)) (aCons (dC (.int 1)) aNil))))) (dOr (dTest (dBin oNe (dCall F_least_squares (aCons (dVar 1) aNil)) (dTup (aCons (dC (.int 2)) (aCons (dC (.int 1)) aNil))))) (dTest (dBin oNe (dCall F_rank_range (aCons (dVar 0) (aCons (dC (.int 1)) aNil))) (dTup (aCons (dC (.int 1)) (aCons (dC (.int 3)) aNil)))))))
    (sRet (dC (.bool false)))
    sNil)
    (sRet (dAndV (dBin oEq (dCall F_sure_pairs (aCons (dLst (aCons (dTup (aCons (dC (.int 1)) (aCons (dC (.int 2)) aNil))) (aCons (dTup (aCons (dC (.int 3)) (aCons (dC (.int 4)) aNil))) aNil))) aNil)) (dLst (aCons (dTup (aCons (dC (.int 0)) (aCons (dC (.int 1)) aNil))) aNil))) (dBin oEq (dCall F_count_orders (aCons (dLst (aCons (dTup (aCons (dC (.int 1)) (aCons (dC (.int 2)) aNil))) (aCons (dTup (aCons (dC (.int 3)) (aCons (dC (.int 4)) aNil))) (aCons (dTup (aCons (dC (.int 2)) (aCons (dC (.int 3)) aNil))) aNil)))) aNil)) (dC (.int 3))))))))
def F__law_first : List AV → M RV := runF 1 2 b__law_first
def b__law_second : En → M Out := (sSeq (sIf (dOr (dTest (dBin oNe (dCall F_with_sum (aCons (dVar 0) (aCons (dC (.int 12)) (aCons (dC (.int 20)) aNil)))) (dLst (aCons (dTup (aCons (dC (.int 3)) (aCons (dC (.int 4)) aNil))) (aCons (dTup (aCons (dC (.int 3)) (aCons (dC (.int 3)) aNil))) (aCons (dTup (aCons (dC (.int 5)) (aCons (dC (.int 6)) aNil))) aNil)))))) (dTest (dBin oNe (dCall F_is_more (aCons (dLst (aCons (dTup (aCons (dC (.int 1)) (aCons (dC (.int 2)) aNil))) aNil)) (aCons (dLst (aCons (dTup (aCons (dC (.int 2)) (aCons (dC (.int 3)) aNil))) aNil)) (aCons (dC (.str "sum")) aNil)))) (dC (.str "never")))))
    (sRet (dC (.bool false)))
    sNil)
    (sRet (dAndV (dBin oEq (dCall F_scaled (aCons (dLst (aCons (dTup (aCons (dC (.int 1)) (aCons (dC (.int 2)) aNil))) aNil)) (aCons (dBin oSub (dC (.int 0)) (dC (.int 1))) aNil))) (dLst (aCons (dTup (aCons (dBin oSub (dC (.int 0)) (dC (.int 2))) (aCons (dBin oSub (dC (.int 0)) (dC (.int 1))) aNil))) aNil))) (dBin oEq (dCall F_format_bounds (aCons (dVar 0) aNil)) (dC (.str "1..4 3 2..6"))))))
def F__law_second : List AV → M RV := runF 1 1 b__law_second
def b__law_both : En → M Out := (sSeq (sIf (dTest (dBin oGt (dVar 2) (dC (.int 1))))
    (sSeq (sPar 4 5 (aCons (dBin oIx (dVar 1) (dC (.int 0))) (aCons (dBin oIx (dVar 1) (dC (.int 1))) aNil)))
    (sSeq (sSet 3 (dLst (aCons (dTup (aCons (dVar 4) (aCons (dVar 5) aNil))) (aCons (dTup (aCons (dVar 5) (aCons (dVar 4) aNil))) aNil))))
    (sSeq (sPar 6 7 (aCons (dCall bMax2 (aCons (dBin oIx (dBin oIx (dVar 0) (dVar 4)) (dC (.int 0))) (aCons (dBin oIx (dBin oIx (dVar 0) (dVar 5)) (dC (.int 0))) aNil))) (aCons (dCall bMin2 (aCons (dBin oIx (dBin oIx (dVar 0) (dVar 4)) (dC (.int 1))) (aCons (dBin oIx (dBin oIx (dVar 0) (dVar 5)) (dC (.int 1))) aNil))) aNil)))
    (sSeq (sIf (dTest (dBin oNe (dCall F_can_be_pairs (aCons (dVar 0) (aCons (dVar 3) aNil))) (dBin oLe (dVar 6) (dVar 7))))
    (sRet (dC (.bool false)))
    sNil)
    (sIf (dTest (dBin oLe (dVar 6) (dVar 7)))
    (sSeq (sSet 8 (dCall F_with_pairs (aCons (dVar 0) (aCons (dVar 3) aNil))))
    (sIf (dOr (dTest (dBin oNe (dBin oIx (dVar 8) (dVar 4)) (dTup (aCons (dVar 6) (aCons (dVar 7) aNil))))) (dTest (dBin oNe (dBin oIx (dVar 8) (dVar 5)) (dTup (aCons (dVar 6) (aCons (dVar 7) aNil))))))
    (sRet (dC (.bool false)))
    sNil))
    sNil)))))
    sNil)
    (sRet (dBin oEq (dCall F_with_pairs (aCons (dVar 0) (aCons (dLst aNil) aNil))) (dVar 0))))
def F__law_both : List AV → M RV := runF 3 9 b__law_both
def b__law_near : En → M Out := (sSeq (sSetO 2 (dLst aNil))
    (sSeq (sFor [3, 4] (bdT 2) (iSeqD (dVar 0))
    (sApp 2 (dIf (dTest (dCall F__law_below (aCons (dVar 1) (aCons (dTup (aCons (dVar 3) (aCons (dC (.int 1)) aNil))) aNil)))) (dTup (aCons (dVar 3) (aCons (dC (.int 1)) aNil))) (dIf (dTest (dCall F__law_below (aCons (dTup (aCons (dVar 4) (aCons (dC (.int 1)) aNil))) (aCons (dVar 1) aNil)))) (dTup (aCons (dVar 4) (aCons (dC (.int 1)) aNil))) (dVar 1)))))
    (sRetV 2)))
def F__law_near : List AV → M RV := runF 2 5 b__law_near
end Pg

/-! Evaluation of denotations: rules «X en = ret ..», tried in turn. -/
namespace Pg
open PySem L2 Dt
section
variable {en en' : En} {fa fb fc : En → M RV} {fs : En → M (List AV)} {ga gb : En → M Bool} {i j : Nat} {a b x y z : AV} {p q : PyData} {u v w : Bool} {as : List AV} {ds : List PyData} {f f' : AV → AV → M RV} {F : List AV → M RV}
theorem ev_var (h : en[i]? = some (some (.v a))) : dVar i en = .ret (a, false) := by unfold dVar; rw [h]
theorem ev_c : dC p en = .ret (.d p, false) := rfl
theorem ev_bin (ha : fa en = .ret (x, u)) (hb : fb en = .ret (y, v)) (h : f x y = .ret (z, w)) : dBin f fa fb en = .ret (z, w) := by unfold dBin; rw [ha, ret_bind, hb, ret_bind]; exact h
theorem ev_call (hs : fs en = .ret as) (h : F as = .ret (z, w)) : dCall F fs en = .ret (z, w) := by unfold dCall; rw [hs, ret_bind]; exact h
theorem ea_nil : aNil en = .ret [] := rfl
theorem ea_cons (ha : fa en = .ret (x, u)) (hs : fs en = .ret as) : aCons fa fs en = .ret (x :: as) := by unfold aCons; rw [ha, ret_bind, hs, ret_bind]
theorem ev_tup (hs : fs en = .ret as) (h : datas as = some ds) : dTup fs en = .ret (.d (.tuple ds), false) := by unfold dTup; rw [hs, ret_bind, h]
theorem ev_lst (hs : fs en = .ret as) (h : datas as = some ds) : dLst fs en = .ret (.d (.list ds), true) := by unfold dLst; rw [hs, ret_bind, h]
theorem ev_neg {k : Int} (ha : fa en = .ret (.d (.int k), u)) : dNeg fa en = .ret (.d (.int (-k)), false) := by unfold dNeg; rw [ha, ret_bind]
theorem ev_isi {t : Ty5} (ha : fa en = .ret (.d p, u)) : dIsi t fa en = .ret (.d (.bool (isTy t p)), false) := by unfold dIsi; rw [ha, ret_bind]
theorem ev_not {k : Bool} (ha : fa en = .ret (.d (.bool k), u)) : dNotV fa en = .ret (.d (.bool (!k)), false) := by unfold dNotV; rw [ha, ret_bind]; rfl
theorem ev_and {k l : Bool} (ha : fa en = .ret (.d (.bool k), u)) (hb : k = true → fb en = .ret (.d (.bool l), v)) : ∃ w, dAndV fa fb en = .ret (.d (.bool (k && l)), w) := by
  unfold dAndV
  rw [ha, ret_bind]
  cases k with
  | true => exact ⟨v, by simp [asB]; exact hb rfl⟩
  | false => exact ⟨false, rfl⟩
theorem ev_and' {k l : Bool} (ha : fa en = .ret (.d (.bool k), u)) (hb : k = true → fb en = .ret (.d (.bool l), false)) : dAndV fa fb en = .ret (.d (.bool (k && l)), false) := by
  unfold dAndV
  rw [ha, ret_bind]
  cases k with
  | true => simp [asB]; exact hb rfl
  | false => rfl
theorem ev_or' {k l : Bool} (ha : fa en = .ret (.d (.bool k), u)) (hb : k = false → fb en = .ret (.d (.bool l), false)) : dOrV fa fb en = .ret (.d (.bool (k || l)), false) := by
  unfold dOrV
  rw [ha, ret_bind]
  cases k with
  | true => rfl
  | false => simp [asB]; exact hb rfl
theorem ev_chain {k l : Bool} (ha : fa en = .ret (x, u)) (hb : fb en = .ret (y, v)) (hc : fc en = .ret (z, w)) (h : f x y = .ret (.d (.bool k), false)) (h' : f' y z = .ret (.d (.bool l), false)) : dChain f f' fa fb fc en = .ret (.d (.bool (k && l)), false) := by
  unfold dChain
  rw [ha, ret_bind, hb, ret_bind, h, ret_bind]
  cases k with
  | true => dsimp only; rw [hc, ret_bind]; simpa using h'
  | false => rfl
theorem ev_if {k : Bool} (hg : ga en = .ret k) (h1 : k = true → fa en = .ret (z, w)) (h2 : k = false → fb en = .ret (z, w)) : dIf ga fa fb en = .ret (z, w) := by
  unfold dIf
  rw [hg, ret_bind]
  cases k with
  | true => rw [if_pos rfl]; exact h1 rfl
  | false => rw [if_neg Bool.false_ne_true]; exact h2 rfl
theorem ev_ifT (hg : ga en = .ret true) (h1 : fa en = .ret (z, w)) : dIf ga fa fb en = .ret (z, w) := ev_if hg (fun _ => h1) fun e => by cases e
theorem ev_ifF (hg : ga en = .ret false) (h1 : fb en = .ret (z, w)) : dIf ga fa fb en = .ret (z, w) := ev_if hg (fun e => by cases e) fun _ => h1
theorem et_val {k : Bool} (ha : fa en = .ret (.d (.bool k), u)) : dTest fa en = .ret k := by unfold dTest; rw [ha, ret_bind]; rfl
theorem et_and {k l : Bool} (ha : ga en = .ret k) (hb : k = true → gb en = .ret l) : dAnd ga gb en = .ret (k && l) := by
  unfold dAnd
  rw [ha, ret_bind]
  cases k with
  | true => rw [if_pos rfl]; simpa using hb rfl
  | false => rfl
theorem et_or {k l : Bool} (ha : ga en = .ret k) (hb : k = false → gb en = .ret l) : dOr ga gb en = .ret (k || l) := by
  unfold dOr
  rw [ha, ret_bind]
  cases k with
  | true => rfl
  | false => rw [if_neg Bool.false_ne_true]; simpa using hb rfl
theorem et_not {k : Bool} (ha : ga en = .ret k) : dNot ga en = .ret (!k) := by unfold dNot; rw [ha, ret_bind]
theorem ev_is {k l : Bool} (h : ga en = .ret k) (e : k = l) : ga en = .ret l := by rw [← e]; exact h
theorem ev_is' {r : RV} {z' : AV} (h : fa en = .ret (z, w)) (e : z = z') : fa en = .ret (z', w) := by rw [← e]; exact h
theorem eo_none : oNone en = .ret none := rfl
theorem eo_some {k : Int} (ha : fa en = .ret (.d (.int k), u)) : oSome fa en = .ret (some k) := by unfold oSome; rw [ha, ret_bind]
theorem ev_sl {xs : List PyData} {fl fh : En → M (Option Int)} {lo hi : Option Int} (ha : fa en = .ret (.d (.list xs), u)) (hl : fl en = .ret lo) (hh : fh en = .ret hi) : dSl fa fl fh en = .ret (.d (.list (cutP xs lo hi)), true) := by unfold dSl; rw [ha, ret_bind, hl, ret_bind, hh, ret_bind]
theorem ev_rev {xs : List PyData} (ha : fa en = .ret (.d (.list xs), u)) : dRev fa en = .ret (.d (.list xs.reverse), true) := by unfold dRev; rw [ha, ret_bind]
theorem ei_list {xs : List PyData} (ha : fa en = .ret (.d (.list xs), u)) : iSeqD fa en = .ret xs := by unfold iSeqD; rw [ha, ret_bind]; rfl
theorem ei_tup {xs : List PyData} (ha : fa en = .ret (.d (.tuple xs), u)) : iSeqD fa en = .ret xs := by unfold iSeqD; rw [ha, ret_bind]; rfl
theorem ei_range1 {n : Int} (ha : fs en = .ret [.d (.int n)]) (h : n ≤ 1000000 ∧ -1000000 ≤ n) : iRangeD1 fs en = .ret (rangeP 0 n.toNat) := by unfold iRangeD1; rw [ha, ret_bind]; dsimp only; rw [if_pos h]
theorem ei_range2 {m n : Int} (ha : fs en = .ret [.d (.int m), .d (.int n)]) (h : (n ≤ 1000000 ∧ -1000000 ≤ n) ∧ (m ≤ 1000000 ∧ -1000000 ≤ m)) : iRangeD2 fs en = .ret (rangeP m (n - m).toNat) := by unfold iRangeD2; rw [ha, ret_bind]; dsimp only; rw [if_pos h]
theorem ei_enum {xs : List PyData} (ha : fs en = .ret [.d (.list xs)]) : iEnumD fs en = .ret (enumP 0 xs) := by unfold iEnumD; rw [ha, ret_bind]
theorem ei_zip {xs ys : List PyData} (ha : fs en = .ret [.d (.list xs), .d (.list ys)]) : iZipD fs en = .ret (zipP xs ys) := by unfold iZipD; rw [ha, ret_bind]
/-! operations -/
theorem op_add_i (k l : Int) : oAdd (.d (.int k)) (.d (.int l)) = .ret (.d (.int (k + l)), false) := rfl
theorem op_sub_i (k l : Int) : oSub (.d (.int k)) (.d (.int l)) = .ret (.d (.int (k - l)), false) := rfl
theorem op_lt_i (k l : Int) : oLt (.d (.int k)) (.d (.int l)) = .ret (.d (.bool (decide (k < l))), false) := rfl
theorem op_le_i (k l : Int) : oLe (.d (.int k)) (.d (.int l)) = .ret (.d (.bool (decide (k ≤ l))), false) := rfl
theorem op_gt_i (k l : Int) : oGt (.d (.int k)) (.d (.int l)) = .ret (.d (.bool (decide (l < k))), false) := rfl
theorem op_ge_i (k l : Int) : oGe (.d (.int k)) (.d (.int l)) = .ret (.d (.bool (decide (l ≤ k))), false) := rfl
theorem op_ix_0 (d : PyData) (xs : List PyData) : oIx (.d (.tuple (d :: xs))) (.d (.int 0)) = .ret (.d d, false) := by
  have h : atI (d :: xs) 0 = some d := atI_nat (j := 0) rfl
  unfold oIx; dsimp only; rw [h]
theorem op_ix_1 (d e : PyData) (xs : List PyData) : oIx (.d (.tuple (d :: e :: xs))) (.d (.int 1)) = .ret (.d e, false) := by
  have h : atI (d :: e :: xs) 1 = some e := atI_nat (j := 1) rfl
  unfold oIx; dsimp only; rw [h]
theorem op_isN_d : oIsN (.d p) (.d .none) = .ret (.d (.bool (nonP p)), false) := rfl
theorem op_notN_d : oNotN (.d p) (.d .none) = .ret (.d (.bool (!nonP p)), false) := rfl
theorem op_isB_d (k l : Bool) : oIsB (.d (.bool k)) (.d (.bool l)) = .ret (.d (.bool (decide (k = l))), false) := rfl
theorem op_notB_d (k l : Bool) : oNotB (.d (.bool k)) (.d (.bool l)) = .ret (.d (.bool (!decide (k = l))), false) := rfl
theorem b_abs (k : Int) : bAbs [.d (.int k)] = .ret (.d (.int (if k < 0 then -k else k)), false) := rfl
theorem b_max2 (k l : Int) : bMax2 [.d (.int k), .d (.int l)] = .ret (.d (.int (if l > k then l else k)), false) := rfl
theorem b_min2 (k l : Int) : bMin2 [.d (.int k), .d (.int l)] = .ret (.d (.int (if l < k then l else k)), false) := rfl
theorem op_add_l {xs ys : List PyData} (h : xs.length + ys.length ≤ lim) : oAdd (.d (.list xs)) (.d (.list ys)) = .ret (.d (.list (xs ++ ys)), true) := by unfold oAdd; dsimp only; rw [if_pos h]
theorem op_mul_i {k l : Int} (h : k.natAbs < big ∧ l.natAbs < big) : oMul (.d (.int k)) (.d (.int l)) = .ret (.d (.int (k * l)), false) := by unfold oMul; dsimp only; rw [if_pos h]
theorem op_div_i {k l : Int} (h : 0 < l ∧ l.natAbs < big) : oDiv (.d (.int k)) (.d (.int l)) = .ret (.d (.int (k / l)), false) := by unfold oDiv; dsimp only; rw [if_pos h]
theorem op_mod_i {k l : Int} (h : 0 < l) : oMod (.d (.int k)) (.d (.int l)) = .ret (.d (.int (k % l)), false) := by unfold oMod; dsimp only; rw [if_pos h]
theorem op_eq_d (h1 : SeqAt.shaped p = true) (h2 : SeqAt.shaped q = true) : oEq (.d p) (.d q) = .ret (.d (.bool (PyData.eqv p q)), false) := by unfold oEq; dsimp only; rw [if_pos ⟨h1, h2⟩]
theorem op_ne_d (h1 : SeqAt.shaped p = true) (h2 : SeqAt.shaped q = true) : oNe (.d p) (.d q) = .ret (.d (.bool (!PyData.eqv p q)), false) := by unfold oNe; dsimp only; rw [if_pos ⟨h1, h2⟩]
theorem eqv_int (i j : Int) : PyData.eqv (.int i) (.int j) = decide (i = j) := by
  simp [PyData.eqv]; by_cases h : i = j <;> simp [h]
theorem op_eq_i (k l : Int) : oEq (.d (.int k)) (.d (.int l)) = .ret (.d (.bool (decide (k = l))), false) := by rw [op_eq_d rfl rfl, eqv_int]
theorem op_ne_i (k l : Int) : oNe (.d (.int k)) (.d (.int l)) = .ret (.d (.bool (!decide (k = l))), false) := by rw [op_ne_d rfl rfl, eqv_int]
theorem op_ix_l {xs : List PyData} {k : Int} (h : atI xs k = some p) : oIx (.d (.list xs)) (.d (.int k)) = .ret (.d p, false) := by unfold oIx; dsimp only; rw [h]
theorem op_ix_t {xs : List PyData} {k : Int} (h : atI xs k = some p) : oIx (.d (.tuple xs)) (.d (.int k)) = .ret (.d p, false) := by unfold oIx; dsimp only; rw [h]
theorem b_len_l (xs : List PyData) : bLen [.d (.list xs)] = .ret (.d (.int xs.length), false) := rfl
theorem b_len_t (xs : List PyData) : bLen [.d (.tuple xs)] = .ret (.d (.int xs.length), false) := rfl
theorem b_sum (ns : List Int) : bSum [.d (.list (ns.map PyData.int))] = .ret (.d (.int ns.sum), false) := by unfold bSum; dsimp only; rw [intsOf_map]
theorem b_sorted (ns : List Int) : bSorted [.d (.list (ns.map PyData.int))] = .ret (.d (.list ((isort ns).map PyData.int)), true) := by unfold bSorted; dsimp only; rw [intsOf_map]
theorem b_max {ns : List Int} (h : ns ≠ []) : bMax1 [.d (.list (ns.map PyData.int))] = .ret (.d (.int (maxL ns)), false) := by
  cases ns with
  | nil => exact absurd rfl h
  | cons n ns => unfold bMax1; dsimp only; rw [intsOf_map]
theorem b_min {ns : List Int} (h : ns ≠ []) : bMin1 [.d (.list (ns.map PyData.int))] = .ret (.d (.int (minL ns)), false) := by
  cases ns with
  | nil => exact absurd rfl h
  | cons n ns => unfold bMin1; dsimp only; rw [intsOf_map]
theorem b_all (ns : List Bool) : bAll [.d (.list (ns.map PyData.bool))] = .ret (.d (.bool (ns.all id)), false) := by unfold bAll; dsimp only; rw [boolsOf_map]
theorem b_any (ns : List Bool) : bAny [.d (.list (ns.map PyData.bool))] = .ret (.d (.bool (ns.any id)), false) := by unfold bAny; dsimp only; rw [boolsOf_map]
/-! statements -/
variable {s1 s2 : En → M Out} {o : Out} {r : RV}
theorem es_nil : sNil en = .ret (.nx en) := rfl
theorem es_seq (h1 : s1 en = .ret (.nx en')) (h2 : s2 en' = .ret o) : sSeq s1 s2 en = .ret o := by unfold sSeq; rw [h1, ret_bind]; exact h2
theorem es_seqR (h1 : s1 en = .ret (.rt (z, w))) : sSeq s1 s2 en = .ret (.rt (z, w)) := by unfold sSeq; rw [h1, ret_bind]
theorem es_expr (h : fa (expo en) = .ret (z, w)) : sExpr fa en = .ret (.nx en) := by unfold sExpr; rw [h, ret_bind]
theorem es_ret (h : fa (expo en) = .ret (z, w)) : sRet fa en = .ret (.rt (z, w)) := by unfold sRet; rw [h, ret_bind]
theorem es_retO {xs : List PyData} (h : en[i]? = some (some (.own xs))) : sRetV i en = .ret (.rt (.d (.list xs), true)) := by unfold sRetV; rw [h]
theorem es_retV (h : en[i]? = some (some (.v a))) : sRetV i en = .ret (.rt (a, false)) := by unfold sRetV; rw [h]
theorem es_if {k : Bool} (hg : ga (expo en) = .ret k) (h1 : k = true → s1 en = .ret o) (h2 : k = false → s2 en = .ret o) : sIf ga s1 s2 en = .ret o := by
  unfold sIf
  rw [hg, ret_bind]
  cases k with
  | true => rw [if_pos rfl]; exact h1 rfl
  | false => rw [if_neg Bool.false_ne_true]; exact h2 rfl
theorem es_ifT (hg : ga (expo en) = .ret true) (h1 : s1 en = .ret o) : sIf ga s1 s2 en = .ret o := es_if hg (fun _ => h1) fun e => by cases e
theorem es_ifF (hg : ga (expo en) = .ret false) (h1 : s2 en = .ret o) : sIf ga s1 s2 en = .ret o := es_if hg (fun e => by cases e) fun _ => h1
theorem es_set (h : fa (hide en) = .ret (z, w)) : sSet i fa en = .ret (.nx (en.set i (some (.v z)))) := by unfold sSet; rw [h, ret_bind]
theorem es_setO {xs : List PyData} (h : fa (hide en) = .ret (.d (.list xs), true)) : sSetO i fa en = .ret (.nx (en.set i (some (.own xs)))) := by unfold sSetO; rw [h, ret_bind]
theorem es_asgT {sl : List Nat} {bd : PyData → Option (List PyData)} (h : fa (hide en) = .ret (.d p, w)) (hb : bd p = some ds) : sAsgT sl bd fa en = .ret (.nx (setE en sl ds)) := by unfold sAsgT; rw [h, ret_bind]; dsimp only; rw [hb]
theorem es_par (h : fs (hide en) = .ret [x, y]) : sPar i j fs en = .ret (.nx ((en.set i (some (.v x))).set j (some (.v y)))) := by unfold sPar; rw [h, ret_bind]
theorem es_aug {g : Int → Int → Int} {m n : Int} (h1 : en[i]? = some (some (.v (.d (.int m))))) (h : fa (expo en) = .ret (.d (.int n), w)) : sAug i g fa en = .ret (.nx (en.set i (some (.v (.d (.int (g m n))))))) := by unfold sAug; rw [h1]; dsimp only; rw [h, ret_bind]
theorem es_frz {xs : List PyData} (h : en[i]? = some (some (.own xs))) (h2 : s1 (en.set i (some (.v (.d (.list xs))))) = .ret o) : sFrz i s1 en = .ret o := by unfold sFrz Dt.frz; rw [h]; exact h2
theorem es_app {xs : List PyData} (h1 : en[i]? = some (some (.own xs))) (h : fa (hide en) = .ret (.d p, w)) (hl : xs.length < lim) : sApp i fa en = .ret (.nx (en.set i (some (.own (xs ++ [p]))))) := by unfold sApp; rw [h1]; dsimp only; rw [h, ret_bind]; dsimp only; rw [if_pos hl]
theorem es_for {sl : List Nat} {bd : PyData → Option (List PyData)} {it : En → M (List PyData)} {xs : List PyData} (h : it (hide en) = .ret xs) (h2 : forL sl bd s1 xs en = .ret o) : sFor sl bd it s1 en = .ret o := by unfold sFor; rw [h, ret_bind]; exact h2
theorem run_rt {n m : Nat} {bb : En → M Out} (hl : as.length = n) (h : bb (enOf m as) = .ret (.rt (z, w))) : runF n m bb as = .ret (z, w) := by unfold runF; rw [if_pos hl, h, ret_bind]; rfl
theorem run_nx {n m : Nat} {bb : En → M Out} (hl : as.length = n) (h : bb (enOf m as) = .ret (.nx en')) : runF n m bb as = .ret (.d .none, false) := by unfold runF; rw [if_pos hl, h, ret_bind]; rfl
end
end Pg
namespace Pg
open PySem L2 Dt
/-! ### data -/
abbrev dI (i : Int) : AV := .d (.int i)
def dP (p : Int × Int) : PyData := .tuple [.int p.1, .int p.2]
theorem b_len_p (p : Int × Int) : bLen [.d (dP p)] = .ret (.d (.int 2), false) := rfl
theorem op_ix_p0 (p : Int × Int) : oIx (.d (dP p)) (.d (.int 0)) = .ret (.d (.int p.1), false) := op_ix_0 _ _
theorem op_ix_p1 (p : Int × Int) : oIx (.d (dP p)) (.d (.int 1)) = .ret (.d (.int p.2), false) := op_ix_1 _ _ _
abbrev dBs (bs : List (Int × Int)) : PyData := .list (bs.map dP)
abbrev dNs (ns : List Int) : PyData := .list (ns.map PyData.int)
/-! ### comprehensions -/
theorem compL_map {α : Type} {own sl : List Nat} {bd : PyData → Option (List PyData)} {tt : En → M Bool} {el : En → M RV} {en : En} {emb : α → PyData} (p : α → Bool) (f : α → PyData) :
    ∀ {xs : List α}, (∀ x ∈ xs, ∃ ds, bd (emb x) = some ds ∧ tt (setE (wipeE en own) sl ds) = .ret (p x) ∧ (p x = true → ∃ b, el (setE (wipeE en own) sl ds) = .ret (.d (f x), b))) → compL own sl bd tt el en (xs.map emb) = .ret ((xs.filter p).map f)
  | [], _ => rfl
  | x :: xs, h => by
    obtain ⟨ds, h1, h2, h3⟩ := h x List.mem_cons_self
    have ih := compL_map p f (xs := xs) fun y hy => h y (List.mem_cons_of_mem _ hy)
    rw [List.map_cons]
    unfold compL
    rw [h1]
    dsimp only
    rw [h2, nox_ret, ret_bind]
    cases e : p x with
    | true =>
      obtain ⟨b, h4⟩ := h3 e
      rw [if_pos rfl, h4, nox_ret, ret_bind]
      dsimp only
      rw [ih, ret_bind, List.filter_cons_of_pos e, List.map_cons]
    | false =>
      rw [if_neg Bool.false_ne_true, ih, List.filter_cons_of_neg (by rw [e]; exact Bool.false_ne_true)]
section
variable {α : Type} {own sl : List Nat} {it : En → M (List PyData)} {tt : En → M Bool} {el : En → M RV} {en : En} {emb : α → PyData} {f : α → PyData} {g : α → Bool} {xs : List α} {b : Bool}
theorem dComp_map {bd : PyData → Option (List PyData)} (hi : it en = .ret (xs.map emb)) (hl : xs.length ≤ lim)
    (h : ∀ x ∈ xs, ∃ ds, bd (emb x) = some ds ∧ tt (setE (wipeE en own) sl ds) = .ret (g x) ∧ (g x = true → ∃ b, el (setE (wipeE en own) sl ds) = .ret (.d (f x), b))) : dComp own sl bd it tt el en = .ret (.d (.list ((xs.filter g).map f)), true) := by
  unfold dComp
  rw [hi, ret_bind, if_pos (by rw [List.length_map]; exact hl), compL_map g f h, ret_bind]
theorem filter_tt (xs : List α) : xs.filter (fun _ => true) = xs := List.filter_eq_self.mpr fun _ _ => rfl
/-- [e for x in xs], [e for x in xs if t], the target a name -/
theorem ev_compN (hi : it en = .ret (xs.map emb)) (hl : xs.length ≤ lim) (h : ∀ x, x ∈ xs → el (setE (wipeE en own) sl [emb x]) = .ret (.d (f x), b)) : dComp own sl bdN it yes el en = .ret (.d (.list (xs.map f)), true) := by
  rw [dComp_map (g := fun _ => true) hi hl fun x hx => ⟨_, rfl, rfl, fun _ => ⟨b, h x hx⟩⟩, filter_tt]
theorem ev_compNF (hi : it en = .ret (xs.map emb)) (hl : xs.length ≤ lim) (ht : ∀ x, x ∈ xs → tt (setE (wipeE en own) sl [emb x]) = .ret (g x)) (h : ∀ x, x ∈ xs → g x = true → el (setE (wipeE en own) sl [emb x]) = .ret (.d (f x), b)) : dComp own sl bdN it tt el en = .ret (.d (.list ((xs.filter g).map f)), true) :=
  dComp_map hi hl fun x hx => ⟨_, rfl, ht x hx, fun e => ⟨b, h x hx e⟩⟩
/-- the target a pair -/
theorem ev_compT {d1 d2 : α → PyData} (hi : it en = .ret (xs.map emb)) (he : ∀ x, emb x = .tuple [d1 x, d2 x]) (hl : xs.length ≤ lim) (h : ∀ x, x ∈ xs → el (setE (wipeE en own) sl [d1 x, d2 x]) = .ret (.d (f x), b)) : dComp own sl (bdT 2) it yes el en = .ret (.d (.list (xs.map f)), true) := by
  rw [dComp_map (g := fun _ => true) hi hl fun x hx => ⟨_, by rw [he]; rfl, rfl, fun _ => ⟨b, h x hx⟩⟩, filter_tt]
theorem ev_compTF {d1 d2 : α → PyData} (hi : it en = .ret (xs.map emb)) (he : ∀ x, emb x = .tuple [d1 x, d2 x]) (hl : xs.length ≤ lim) (ht : ∀ x, x ∈ xs → tt (setE (wipeE en own) sl [d1 x, d2 x]) = .ret (g x)) (h : ∀ x, x ∈ xs → g x = true → el (setE (wipeE en own) sl [d1 x, d2 x]) = .ret (.d (f x), b)) : dComp own sl (bdT 2) it tt el en = .ret (.d (.list ((xs.filter g).map f)), true) :=
  dComp_map hi hl fun x hx => ⟨_, by rw [he]; rfl, ht x hx, fun e => ⟨b, h x hx e⟩⟩
end
/-- over bounds -/
theorem ev_compB {own sl : List Nat} {it : En → M (List PyData)} {el : En → M RV} {en : En} {f : Int × Int → PyData} {bs : List (Int × Int)} {b : Bool} (hi : it en = .ret (bs.map dP)) (hl : bs.length ≤ lim) (h : ∀ p, p ∈ bs → el (setE (wipeE en own) sl [.int p.1, .int p.2]) = .ret (.d (f p), b)) : dComp own sl (bdT 2) it yes el en = .ret (.d (.list (bs.map f)), true) := ev_compT hi (fun _ => rfl) hl h
theorem ev_compBF {own sl : List Nat} {it : En → M (List PyData)} {tt : En → M Bool} {el : En → M RV} {en : En} {f : Int × Int → PyData} {g : Int × Int → Bool} {bs : List (Int × Int)} {b : Bool} (hi : it en = .ret (bs.map dP)) (hl : bs.length ≤ lim) (ht : ∀ p, p ∈ bs → tt (setE (wipeE en own) sl [.int p.1, .int p.2]) = .ret (g p)) (h : ∀ p, p ∈ bs → g p = true → el (setE (wipeE en own) sl [.int p.1, .int p.2]) = .ret (.d (f p), b)) : dComp own sl (bdT 2) it tt el en = .ret (.d (.list ((bs.filter g).map f)), true) := ev_compTF hi (fun _ => rfl) hl ht h
theorem list_of {fa : En → M RV} {en : En} {xs ys : List PyData} {b : Bool} (h : fa en = .ret (.d (.list xs), b)) (e : xs = ys) : fa en = .ret (.d (.list ys), b) := by rw [h, e]
/-! ### while -/
theorem whileL_step {ga : En → M Bool} {body : En → M Out} {n : Nat} {en en' : En} (hg : ga (expo en) = .ret true) (hb : body en = .ret (.nx en')) : whileL ga body (n + 1) en = whileL ga body n en' := by
  conv => lhs; unfold whileL
  rw [hg, ret_bind, if_pos rfl, hb, ret_bind]
theorem whileL_end {ga : En → M Bool} {body : En → M Out} {n : Nat} {en : En} (hg : ga (expo en) = .ret false) : whileL ga body (n + 1) en = .ret (.nx en) := by
  unfold whileL
  rw [hg, ret_bind, if_neg Bool.false_ne_true]
end Pg

/-! What the defs compute, part 1: checks, figures, fractions. -/
namespace Pg
open PySem L2 Dt
local macro_rules | `(tactic| walk_at "op") => `(tactic| first | (with_reducible exact op_add_i _ _) | (with_reducible exact op_sub_i _ _) | (with_reducible exact op_lt_i _ _) | (with_reducible exact op_le_i _ _) | (with_reducible exact op_gt_i _ _) | (with_reducible exact op_ge_i _ _) | (with_reducible exact op_eq_i _ _) | (with_reducible exact op_ne_i _ _) | (with_reducible exact op_ix_p0 _) | (with_reducible exact op_ix_p1 _) | (with_reducible exact op_ix_0 _ _) | (with_reducible exact op_ix_1 _ _ _) | (with_reducible exact op_isN_d) | (with_reducible exact op_notN_d) | (with_reducible exact op_isB_d _ _) | (with_reducible exact op_notB_d _ _) | (with_reducible exact b_len_p _) | (with_reducible exact b_len_l _) | (with_reducible exact b_len_t _) | (with_reducible exact b_sum _) | (with_reducible exact b_sorted _) | (with_reducible exact b_abs _) | (with_reducible exact b_max2 _ _) | (with_reducible exact b_min2 _ _) | ((with_reducible apply op_mod_i); with_reducible assumption) | ((with_reducible apply op_div_i); with_reducible assumption) | ((with_reducible apply op_mul_i); with_reducible assumption))
local macro_rules | `(tactic| walk_at "F") => `(tactic| walk_at "op")
local macro_rules | `(tactic| walk_at "A") => `(tactic| first | (with_reducible exact ea_nil) | ((with_reducible apply ea_cons); walk_at "E"; walk_at "A"))
local macro_rules | `(tactic| walk_at "T") => `(tactic| first | ((with_reducible apply et_val); walk_at "E") | ((with_reducible apply et_not); walk_at "T") | ((with_reducible apply et_or); walk_at "T"; (intro _; walk_at "T")) | ((with_reducible apply et_and); walk_at "T"; (intro _; walk_at "T")))
local macro_rules | `(tactic| walk_at "O") => `(tactic| first | (with_reducible exact eo_none) | ((with_reducible apply eo_some); walk_at "E"))
local macro_rules | `(tactic| walk_at "E") => `(tactic| first
  | (with_reducible exact ev_c)
  | ((with_reducible apply ev_var); rfl)
  | ((with_reducible apply ev_bin); walk_at "E"; walk_at "E"; walk_at "op")
  | ((with_reducible apply ev_call); walk_at "A"; walk_at "F")
  | ((with_reducible apply ev_tup); walk_at "A"; rfl)
  | ((with_reducible apply ev_lst); walk_at "A"; rfl)
  | ((with_reducible apply ev_neg); walk_at "E")
  | ((with_reducible apply ev_isi); walk_at "E")
  | ((with_reducible apply ev_not); walk_at "E")
  | ((with_reducible apply ev_and'); walk_at "E"; (intro _; walk_at "E"))
  | ((with_reducible apply ev_or'); walk_at "E"; (intro _; walk_at "E"))
  | ((with_reducible apply ev_chain); walk_at "E"; walk_at "E"; walk_at "E"; walk_at "op"; walk_at "op")
  | ((with_reducible apply ev_sl); walk_at "E"; walk_at "O"; walk_at "O")
  | ((with_reducible apply ev_rev); walk_at "E")
  | ((with_reducible apply ev_ifT); ((with_reducible apply ev_is); walk_at "T"; rfl); walk_at "E")
  | ((with_reducible apply ev_ifF); ((with_reducible apply ev_is); walk_at "T"; rfl); walk_at "E"))
local macro_rules | `(tactic| walk_at "I") => `(tactic| first | ((with_reducible apply ei_list); walk_at "E"; done) | ((with_reducible apply ei_tup); walk_at "E") | ((with_reducible apply ei_enum); walk_at "A") | ((with_reducible apply ei_zip); walk_at "A"))
local macro_rules | `(tactic| walk_at "S") => `(tactic| first
  | (with_reducible exact es_nil)
  | ((with_reducible apply es_retV); rfl)
  | ((with_reducible apply es_retO); rfl)
  | ((with_reducible apply es_ret); walk_at "E")
  | ((with_reducible apply es_seq); walk_at "S"; walk_at "S")
  | ((with_reducible apply es_expr); walk_at "E")
  | ((with_reducible apply es_set); walk_at "E")
  | ((with_reducible apply es_setO); walk_at "E")
  | ((with_reducible apply es_par); walk_at "A")
  | ((with_reducible apply es_asgT); walk_at "E"; rfl)
  | ((with_reducible apply es_ifF); ((with_reducible apply ev_is); walk_at "T"; (first | rfl | with_reducible assumption)); walk_at "S")
  | ((with_reducible apply es_ifT); ((with_reducible apply ev_is); walk_at "T"; (first | rfl | with_reducible assumption)); walk_at "S"))
/-! ### the checks -/
theorem is_int_eq (v lo hi : Int) : F_is_int [dI v, dI lo, dI hi] = rB (decide (lo ≤ v) && decide (v ≤ hi)) := by
  unfold F_is_int b_is_int
  refine Eq.trans (by apply run_rt rfl; walk_at "S") ?_
  simp [isTy]
local macro_rules | `(tactic| walk_at "F") => `(tactic| with_reducible exact is_int_eq _ _ _)
def okP (p : Int × Int) : Bool := (decide (-50 ≤ p.1) && decide (p.1 ≤ 50)) && (decide (p.1 ≤ p.2) && decide (p.2 ≤ 50))
def okB (bs : List (Int × Int)) : Bool := (decide (1 ≤ bs.length) && decide (bs.length ≤ 7)) && bs.all okP
theorem okB_iff {bs : List (Int × Int)} : okB bs = true ↔ (1 ≤ bs.length ∧ bs.length ≤ 7) ∧ ∀ p ∈ bs, (-50 ≤ p.1 ∧ p.1 ≤ 50) ∧ p.1 ≤ p.2 ∧ p.2 ≤ 50 := by
  simp [okB, okP]
theorem is_bound_eq (p : Int × Int) : F_is_bound [.d (dP p)] = rB (okP p) := by
  unfold F_is_bound b_is_bound
  refine Eq.trans (by apply run_rt rfl; walk_at "S") ?_
  rfl
local macro_rules | `(tactic| walk_at "F") => `(tactic| with_reducible exact is_bound_eq _)
theorem is_bounds_eq {bs : List (Int × Int)} (hl : bs.length ≤ lim) : F_is_bounds [.d (dBs bs)] = rB (okB bs) := by
  unfold F_is_bounds b_is_bounds
  by_cases h : (decide (1 ≤ bs.length) && decide (bs.length ≤ 7)) = true
  · have h' : (decide ((1 : Int) ≤ ((bs.map dP).length : Int)) && decide (((bs.map dP).length : Int) ≤ 7)) = true := by
      rw [List.length_map]; simp at h ⊢; omega
    refine Eq.trans (by
      apply run_rt rfl
      apply es_seq
      · with_reducible apply es_ifF
        · apply ev_is
          · walk_at "T"
          · simp only [isTy]; rw [h']; rfl
        · walk_at "S"
      · apply es_ret
        apply ev_call
        · apply ea_cons
          · refine list_of (ys := (bs.map okP).map PyData.bool) (ev_compN (f := fun p => .bool (okP p)) (xs := bs) (emb := dP) (b := false) ?_ hl fun p hp => ?_) (by rw [List.map_map]; rfl)
            · walk_at "I"
            · walk_at "E"
          · exact ea_nil
        · exact b_all _) ?_
    unfold okB
    rw [h]
    simp
  · have h' : (decide ((1 : Int) ≤ ((bs.map dP).length : Int)) && decide (((bs.map dP).length : Int) ≤ 7)) = false := by
      rw [List.length_map]; simp at h ⊢; omega
    refine Eq.trans (by
      apply run_rt rfl
      apply es_seqR
      with_reducible apply es_ifT
      · apply ev_is
        · walk_at "T"
        · simp only [isTy]; rw [h']; rfl
      · walk_at "S") ?_
    unfold okB
    rw [Bool.not_eq_true] at h
    rw [h]
    rfl
theorem okB_len {bs : List (Int × Int)} (h : okB bs = true) : bs.length ≤ lim := Nat.le_trans (okB_iff.mp h).1.2 (by decide)
theorem check_ok {bs : List (Int × Int)} (h : okB bs = true) : F_check_bounds [.d (dBs bs)] = .ret (.d .none, false) := by
  unfold F_check_bounds b_check_bounds
  apply run_nx rfl
  with_reducible apply es_ifF
  · apply ev_is
    · apply et_not
      apply et_val
      apply ev_call
      · walk_at "A"
      · exact is_bounds_eq (okB_len h)
    · rw [h]; rfl
  · walk_at "S"
local macro_rules | `(tactic| walk_at "F") => `(tactic| ((with_reducible apply check_ok); assumption))
/-! ### lows, highs -/
abbrev los (bs : List (Int × Int)) : List Int := bs.map (·.1)
abbrev his (bs : List (Int × Int)) : List Int := bs.map (·.2)
theorem lows_eq {bs : List (Int × Int)} (hl : bs.length ≤ lim) : F_lows [.d (dBs bs)] = .ret (.d (dNs (los bs)), true) := by
  unfold F_lows b_lows
  apply run_rt rfl
  apply es_ret
  refine list_of (ev_compB (f := fun p => .int p.1) (b := false) (by walk_at "I") hl fun p hp => by walk_at "E") (by rw [List.map_map]; rfl)
theorem highs_eq {bs : List (Int × Int)} (hl : bs.length ≤ lim) : F_highs [.d (dBs bs)] = .ret (.d (dNs (his bs)), true) := by
  unfold F_highs b_highs
  apply run_rt rfl
  apply es_ret
  refine list_of (ev_compB (f := fun p => .int p.2) (b := false) (by walk_at "I") hl fun p hp => by walk_at "E") (by rw [List.map_map]; rfl)
local macro_rules | `(tactic| walk_at "F") => `(tactic| ((with_reducible apply lows_eq); exact okB_len (by assumption)))
local macro_rules | `(tactic| walk_at "F") => `(tactic| ((with_reducible apply highs_eq); exact okB_len (by assumption)))
theorem sum_range_eq {bs : List (Int × Int)} (h : okB bs = true) : F_sum_range [.d (dBs bs)] = .ret (.d (dP ((los bs).sum, (his bs).sum)), false) := by
  unfold F_sum_range b_sum_range
  refine Eq.trans (by apply run_rt rfl; walk_at "S") ?_
  rfl
/-! ### fractions -/
theorem gcd_mod {a b : Int} (ha : 0 ≤ a) (hb : 0 ≤ b) : Int.gcd b (a % b) = Int.gcd a b := by
  obtain ⟨x, rfl⟩ := Int.eq_ofNat_of_zero_le ha
  obtain ⟨y, rfl⟩ := Int.eq_ofNat_of_zero_le hb
  rw [← Int.natCast_emod]
  show Nat.gcd y (x % y) = Nat.gcd x y
  rw [Nat.gcd_comm x y, Nat.gcd_rec y x, Nat.gcd_comm]
theorem gcd_loop {u v : Option Slot} : ∀ (n : Nat) (a b : Int) (m : Nat), 0 ≤ a → 0 ≤ b → b < m → m ≤ n → ∃ c, whileL (dTest (dBin oNe (dVar 1) (dC (.int 0)))) (sPar 0 1 (aCons (dVar 1) (aCons (dBin oMod (dVar 0) (dVar 1)) aNil))) n [some (.v (dI a)), some (.v (dI b))] = .ret (.nx [some (.v (dI (Int.gcd a b : Int))), some (.v (dI c))])
  | 0, a, b, m, _, _, h1, h2 => by omega
  | n + 1, a, b, m, ha, hb, hm, hn => by
    by_cases h0 : b = 0
    · subst h0
      refine ⟨0, ?_⟩
      rw [whileL_end (by apply ev_is; walk_at "T"; rfl)]
      simp [Int.gcd, Int.natAbs_of_nonneg ha]
    · have hb' : 0 < b := by omega
      obtain ⟨c, ih⟩ := gcd_loop (u := u) (v := v) n b (a % b) (m - 1) hb (Int.emod_nonneg _ h0) (by have := Int.emod_lt_of_pos a hb'; omega) (by omega)
      refine ⟨c, ?_⟩
      refine Eq.trans (whileL_step (by apply ev_is; walk_at "T"; simp [h0]) (by walk_at "S")) ?_
      rw [← gcd_mod ha hb]
      exact ih
theorem gcd_loop2 {u v : Option Slot} : ∀ (n : Nat) (a b : Int) (m : Nat), 0 ≤ a → 0 ≤ b → b < m → m ≤ n → ∃ c, whileL (dTest (dBin oNe (dVar 3) (dC (.int 0)))) (sPar 2 3 (aCons (dVar 3) (aCons (dBin oMod (dVar 2) (dVar 3)) aNil))) n [u, v, some (.v (dI a)), some (.v (dI b))] = .ret (.nx [u, v, some (.v (dI (Int.gcd a b : Int))), some (.v (dI c))])
  | 0, a, b, m, _, _, h1, h2 => by omega
  | n + 1, a, b, m, ha, hb, hm, hn => by
    by_cases h0 : b = 0
    · subst h0
      refine ⟨0, ?_⟩
      rw [whileL_end (by apply ev_is; walk_at "T"; rfl)]
      simp [Int.gcd, Int.natAbs_of_nonneg ha]
    · have hb' : 0 < b := by omega
      obtain ⟨c, ih⟩ := gcd_loop2 (u := u) (v := v) n b (a % b) (m - 1) hb (Int.emod_nonneg _ h0) (by have := Int.emod_lt_of_pos a hb'; omega) (by omega)
      refine ⟨c, ?_⟩
      refine Eq.trans (whileL_step (by apply ev_is; walk_at "T"; simp [h0]) (by walk_at "S")) ?_
      rw [← gcd_mod ha hb]
      exact ih
theorem abs_nn (k : Int) : 0 ≤ (if k < 0 then -k else k) ∧ (if k < 0 then -k else k) = (k.natAbs : Int) := by
  split <;> omega
theorem common_divisor_eq {a b : Int} (hb : b.natAbs < fuel) : F_common_divisor [dI a, dI b] = .ret (dI (Int.gcd a b : Int), false) := by
  obtain ⟨c, h⟩ := gcd_loop (u := none) (v := none) fuel (a.natAbs : Int) (b.natAbs : Int) fuel (by omega) (by omega) (by omega) (Nat.le_refl _)
  have e : Int.gcd (a.natAbs : Int) (b.natAbs : Int) = Int.gcd a b := by simp [Int.gcd]
  rw [e, ← (abs_nn a).2, ← (abs_nn b).2] at h
  unfold F_common_divisor b_common_divisor
  apply run_rt rfl
  apply es_seq
  · walk_at "S"
  · apply es_seq
    · exact h
    · walk_at "S"
/-- a fraction in lowest terms -/
def lowP (t b : Int) : Int × Int := (t / (Int.gcd t b : Int), b / (Int.gcd t b : Int))
theorem fuel_big : fuel < big := by unfold fuel big; decide +kernel
theorem gcd_pos_le {t b : Int} (h : 0 < b) : 0 < (Int.gcd t b : Int) ∧ (Int.gcd t b : Int) ≤ b := by
  have h1 : 0 < Int.gcd t b := Int.gcd_pos_of_ne_zero_right t (by omega)
  have h2 : (Int.gcd t b : Int) ≤ b := Int.le_of_dvd h (Int.gcd_dvd_right t b)
  omega
theorem lowest_eq {t b : Int} (h : 0 < b) (hb : b.natAbs < fuel) : F_lowest [dI t, dI b] = .ret (.d (dP (lowP t b)), false) := by
  have hg := gcd_pos_le (t := t) h
  have hd : 0 < (Int.gcd t b : Int) ∧ ((Int.gcd t b : Int)).natAbs < big := ⟨hg.1, by have := fuel_big; omega⟩
  unfold F_lowest b_lowest
  refine Eq.trans (by
    apply run_rt rfl
    apply es_seq
    · apply es_set
      apply ev_call
      · walk_at "A"
      · exact common_divisor_eq hb
    · walk_at "S") ?_
  rfl
theorem law_low_eq {t b : Int} (h : 0 < b) (hb : b.natAbs < fuel) : F__law_low [dI t, dI b] = .ret (.d (dP (lowP t b)), false) := by
  have hg := gcd_pos_le (t := t) h
  have hd : 0 < (Int.gcd t b : Int) ∧ ((Int.gcd t b : Int)).natAbs < big := ⟨hg.1, by have := fuel_big; omega⟩
  obtain ⟨c, hw⟩ := gcd_loop2 (u := some (.v (dI t))) (v := some (.v (dI b))) fuel (t.natAbs : Int) b fuel (by omega) (by omega) (by omega) (Nat.le_refl _)
  have eg : Int.gcd (t.natAbs : Int) b = Int.gcd t b := by simp [Int.gcd]
  rw [eg, ← (abs_nn t).2] at hw
  unfold F__law_low b__law_low
  refine Eq.trans (by
    apply run_rt rfl
    apply es_seq
    · walk_at "S"
    · apply es_seq
      · exact hw
      · walk_at "S") ?_
  rfl
end Pg

/-! Draws: DW m S says that m only draws from object 0 and ends in S. -/
namespace Pg
open PySem L2 Dt
structure DW {α : Type} (m : M α) (S : α → Prop) : Prop where
  go : ∀ W : Wd, W[0]? = some .dr → wp m W (fun a W' => W' = W ∧ S a) (fun _ _ => False)
theorem DW.mono {α : Type} {m : M α} {S T : α → Prop} (h : DW m S) (i : ∀ a, S a → T a) : DW m T := ⟨fun W h0 => wp_mono (h.go W h0) (fun a W' e => ⟨e.1, i a e.2⟩) fun _ _ z => z⟩
theorem DW.ret {α : Type} {a : α} {S : α → Prop} (h : S a) : DW (.ret a) S := ⟨fun W _ => ⟨rfl, h⟩⟩
theorem DW.of {α : Type} {m : M α} {a : α} {S : α → Prop} (e : m = .ret a) (h : S a) : DW m S := by rw [e]; exact DW.ret h
theorem DW.bind {α β : Type} {m : M α} {f : α → M β} {S : β → Prop} (h : DW m fun a => DW (f a) S) : DW (m.bind f) S := by
  constructor
  intro W h0
  rw [wp_bind]
  refine wp_mono (h.go W h0) (fun a W' e => ?_) fun _ _ z => z
  rw [e.1]
  exact e.2.go W h0
theorem DW.draw {l : Int} {S : RV → Prop} (h0 : 0 < l) (h1 : l < 1073741824) (h : ∀ r, 0 ≤ r → r < l → S (dI r, false)) : DW (F__law_draw [.ob 0, dI l]) S := ⟨fun W hd => ⟨hd, h0, h1, fun r a b => ⟨rfl, h r a b⟩⟩⟩
section
variable {en : En} {fa fb : En → M RV} {fs : En → M (List AV)} {i j : Nat} {f : AV → AV → M RV} {F : List AV → M RV} {S : RV → Prop} {SA : List AV → Prop} {SO : Out → Prop} {s1 s2 : En → M Out}
theorem dwe_bin (h : DW (fa en) fun r => DW (fb en) fun r' => DW (f r.1 r'.1) S) : DW (dBin f fa fb en) S := DW.bind (h.mono fun _ h => DW.bind h)
theorem dwe_call (h : DW (fs en) fun as => DW (F as) S) : DW (dCall F fs en) S := DW.bind h
theorem dwa_cons (h : DW (fa en) fun r => DW (fs en) fun as => SA (r.1 :: as)) : DW (aCons fa fs en) SA := DW.bind (h.mono fun _ h => DW.bind (h.mono fun _ h => DW.ret h))
theorem dwe_tup (h : DW (fs en) fun as => ∃ ds, datas as = some ds ∧ S (.d (.tuple ds), false)) : DW (dTup fs en) S := DW.bind (h.mono fun as h => by obtain ⟨ds, e, h⟩ := h; rw [e]; exact DW.ret h)
theorem dwe_lst (h : DW (fs en) fun as => ∃ ds, datas as = some ds ∧ S (.d (.list ds), true)) : DW (dLst fs en) S := DW.bind (h.mono fun as h => by obtain ⟨ds, e, h⟩ := h; rw [e]; exact DW.ret h)
theorem dws_seq (h : DW (s1 en) fun o => ∃ en', o = .nx en' ∧ DW (s2 en') SO) : DW (sSeq s1 s2 en) SO := DW.bind (h.mono fun o h => by obtain ⟨en', rfl, h⟩ := h; exact h)
theorem dws_pure {en' : En} (h1 : s1 en = .ret (.nx en')) (h2 : DW (s2 en') SO) : DW (sSeq s1 s2 en) SO := by
  unfold sSeq
  rw [h1]
  exact h2
theorem dws_set (h : DW (fa (hide en)) fun r => SO (.nx (en.set i (some (.v r.1))))) : DW (sSet i fa en) SO := DW.bind (h.mono fun r h => DW.ret h)
theorem dws_setO (h : DW (fa (hide en)) fun r => ∃ xs, r = (.d (.list xs), true) ∧ SO (.nx (en.set i (some (.own xs))))) : DW (sSetO i fa en) SO := DW.bind (h.mono fun r h => by obtain ⟨xs, rfl, h⟩ := h; exact DW.ret h)
theorem dws_par (h : DW (fs (hide en)) fun as => ∃ x y, as = [x, y] ∧ SO (.nx ((en.set i (some (.v x))).set j (some (.v y))))) : DW (sPar i j fs en) SO := DW.bind (h.mono fun r h => by obtain ⟨x, y, rfl, h⟩ := h; exact DW.ret h)
theorem dws_ret (h : DW (fa (expo en)) fun r => SO (.rt r)) : DW (sRet fa en) SO := DW.bind (h.mono fun r h => DW.ret h)
theorem dws_app {xs : List PyData} (h1 : en[i]? = some (some (.own xs))) (hl : xs.length < lim) (h : DW (fa (hide en)) fun r => ∃ p, r.1 = .d p ∧ SO (.nx (en.set i (some (.own (xs ++ [p])))))) : DW (sApp i fa en) SO := by
  unfold sApp
  rw [h1]
  refine DW.bind (h.mono fun r h => ?_)
  obtain ⟨p, e, h⟩ := h
  rw [e]
  dsimp only
  rw [if_pos hl]
  exact DW.ret h
theorem dws_for {sl : List Nat} {bd : PyData → Option (List PyData)} {it : En → M (List PyData)} (h : DW (it (hide en)) fun xs => DW (forL sl bd s1 xs en) SO) : DW (sFor sl bd it s1 en) SO := DW.bind h
theorem dwi_range1 (h : DW (fs en) fun as => ∃ n : Int, as = [dI n] ∧ (n ≤ 1000000 ∧ -1000000 ≤ n) ∧ DW (.ret (rangeP 0 n.toNat)) SX) : DW (iRangeD1 fs en) SX := DW.bind (h.mono fun as h => by obtain ⟨n, rfl, e, h⟩ := h; dsimp only; rw [if_pos e]; exact h)
theorem dw_run {n m : Nat} {as : List AV} {b : En → M Out} (hl : as.length = n) (h : DW (b (enOf m as)) fun o => ∃ r, o = .rt r ∧ S r) : DW (runF n m b as) S := by
  unfold runF
  rw [if_pos hl]
  exact DW.bind (h.mono fun o h => by obtain ⟨r, rfl, h⟩ := h; exact DW.ret h)
theorem dw_forL {β : Type} {emb : β → PyData} {sl : List Nat} {bd : PyData → Option (List PyData)} {I : Nat → En → Prop} :
    ∀ {xs : List β} {k : Nat} {en : En} {SO : Out → Prop}, I k en → (∀ (n : Nat) (x : β) (en : En), x ∈ xs → n < k + xs.length → I n en → ∃ ds, bd (emb x) = some ds ∧ DW (s1 (setE en sl ds)) fun o => ∃ en', o = .nx en' ∧ I (n + 1) en') → (∀ en', I (k + xs.length) en' → SO (.nx en')) → DW (forL sl bd s1 (xs.map emb) en) SO
  | [], k, en, SO, h0, _, h2 => DW.ret (h2 en h0)
  | x :: xs, k, en, SO, h0, h1, h2 => by
    obtain ⟨ds, e, h⟩ := h1 k x en List.mem_cons_self (by simp) h0
    rw [List.map_cons]
    unfold forL
    rw [e]
    refine DW.bind (h.mono fun o h => ?_)
    obtain ⟨en', rfl, hI⟩ := h
    exact dw_forL (k := k + 1) hI (fun n x en hx hn => h1 n x en (List.mem_cons_of_mem _ hx) (by simp; omega)) fun en' h => h2 en' (by simpa [Nat.add_assoc, Nat.add_comm 1] using h)
end
/-- a loop without draws, its state told by a relation -/
theorem es_forL {α β : Type} {emb : α → PyData} {sl : List Nat} {bd : PyData → Option (List PyData)} {s1 : En → M Out} {R : β → En → Prop} (g : β → α → β) :
    ∀ {xs : List α} {b : β} {en : En}, R b en → (∀ b x en, x ∈ xs → R b en → ∃ ds, bd (emb x) = some ds ∧ ∃ en', s1 (setE en sl ds) = .ret (.nx en') ∧ R (g b x) en') → ∃ en', forL sl bd s1 (xs.map emb) en = .ret (.nx en') ∧ R (xs.foldl g b) en'
  | [], b, en, h0, _ => ⟨en, rfl, h0⟩
  | x :: xs, b, en, h0, h1 => by
    obtain ⟨ds, e, en', h, hR⟩ := h1 b x en List.mem_cons_self h0
    obtain ⟨en'', h', hR'⟩ := es_forL g (xs := xs) hR fun b x en hx => h1 b x en (List.mem_cons_of_mem _ hx)
    refine ⟨en'', ?_, hR'⟩
    rw [List.map_cons]
    unfold forL
    rw [e]
    dsimp only
    rw [h, ret_bind]
    exact h'
/-- the same, the state told by the part done -/
theorem es_forP' {α : Type} {emb : α → PyData} {sl : List Nat} {bd : PyData → Option (List PyData)} {s1 : En → M Out} {R : List α → En → Prop} :
    ∀ {xs pre0 : List α} {en : En}, R pre0 en → (∀ pre x post en, pre0 ++ xs = pre ++ x :: post → R pre en → ∃ ds, bd (emb x) = some ds ∧ ∃ en', s1 (setE en sl ds) = .ret (.nx en') ∧ R (pre ++ [x]) en') → ∃ en', forL sl bd s1 (xs.map emb) en = .ret (.nx en') ∧ R (pre0 ++ xs) en'
  | [], pre0, en, h0, _ => ⟨en, rfl, by simpa using h0⟩
  | x :: xs, pre0, en, h0, h1 => by
    obtain ⟨ds, e, en', h, hR⟩ := h1 pre0 x xs en rfl h0
    obtain ⟨en'', h', hR'⟩ := es_forP' (xs := xs) hR fun pre x post en hx => h1 pre x post en (by rw [← hx]; simp)
    refine ⟨en'', ?_, by simpa using hR'⟩
    rw [List.map_cons]
    unfold forL
    rw [e]
    dsimp only
    rw [h, ret_bind]
    exact h'
theorem es_forP {α : Type} {emb : α → PyData} {sl : List Nat} {bd : PyData → Option (List PyData)} {s1 : En → M Out} {R : List α → En → Prop} {xs : List α} {en : En} (h0 : R [] en) (h1 : ∀ pre x post en, xs = pre ++ x :: post → R pre en → ∃ ds, bd (emb x) = some ds ∧ ∃ en', s1 (setE en sl ds) = .ret (.nx en') ∧ R (pre ++ [x]) en') : ∃ en', forL sl bd s1 (xs.map emb) en = .ret (.nx en') ∧ R xs en' := es_forP' (pre0 := []) h0 h1
/-- the start of a law -/
theorem law_of {m : Nat} {b : En → M Out} {s : En → M Out} (e : b = sSeq (sSet 1 (dCall F__law_start (aCons (dVar 0) aNil))) s)
    (h : ∀ ns : List Int, ns.length ≤ 63 → DW (s (some (.v (.scr ns)) :: some (.v (.ob 0)) :: List.replicate m none)) fun o => o = .rt (.d (.bool true), false)) : LawTrue (runF 1 (m + 2) b) := by
  intro ns hl
  unfold runF
  rw [if_pos (show [AV.scr ns].length = 1 from rfl), e]
  rw [wp_bind]
  have e1 : sSeq (sSet 1 (dCall F__law_start (aCons (dVar 0) aNil))) s (enOf (m + 2) [.scr ns]) = .onew .dr fun i => s ((enOf (m + 2) [.scr ns]).set 1 (some (.v (.ob i)))) := by
    unfold sSeq sSet dCall
    show (((aCons (dVar 0) aNil (hide (enOf (m + 2) [AV.scr ns]))).bind F__law_start).bind _).bind _ = _
    have : aCons (dVar 0) aNil (hide (enOf (m + 2) [AV.scr ns])) = .ret [.scr ns] := rfl
    rw [this, ret_bind]
    show (Dt.M.bind (Dt.M.bind (fStart [.scr ns]) _) _) = _
    unfold fStart
    dsimp only
    rw [if_pos hl]
    rfl
  rw [e1]
  show wp (s _) _ _ _
  refine wp_mono ((h ns hl).go [.dr] rfl) (fun o W e => ?_) fun _ _ z => z
  rw [e.2]
  rfl
end Pg

/-! Plain laws: order statistics, choices. -/
namespace Pg
open PySem L2 Dt
/-- pointwise at most -/
inductive Pw : List Int → List Int → Prop
  | nil : Pw [] []
  | cons {x y : Int} {xs ys : List Int} : x ≤ y → Pw xs ys → Pw (x :: xs) (y :: ys)
theorem Pw.len {xs ys : List Int} (h : Pw xs ys) : xs.length = ys.length := by induction h <;> simp_all
theorem Pw.rfl' : ∀ xs : List Int, Pw xs xs
  | [] => .nil
  | x :: xs => .cons (Int.le_refl _) (rfl' xs)
theorem Pw.sum {xs ys : List Int} (h : Pw xs ys) : xs.sum ≤ ys.sum := by
  induction h with
  | nil => exact Int.le_refl _
  | cons a _ ih => simp only [List.sum_cons]; omega
theorem Pw.count {xs ys : List Int} (h : Pw xs ys) (v : Int) : ys.countP (fun z => decide (z ≤ v)) ≤ xs.countP (fun z => decide (z ≤ v)) := by
  induction h with
  | nil => exact Nat.le_refl _
  | cons a _ ih => simp only [List.countP_cons]; split <;> split <;> simp_all <;> omega
theorem Pw.above {xs ys : List Int} (h : Pw xs ys) (v : Int) : (xs.filter (fun z => decide (v < z))).length ≤ (ys.filter (fun z => decide (v < z))).length := by
  rw [← List.countP_eq_length_filter, ← List.countP_eq_length_filter]
  induction h with
  | nil => exact Nat.le_refl _
  | cons a _ ih => simp only [List.countP_cons]; split <;> split <;> simp_all <;> omega
/-- the k-th value is at most v as soon as more than k values are -/
theorem sorted_kth {xs : List Int} (hs : xs.Pairwise (· ≤ ·)) (v : Int) : ∀ (k : Nat) (h : k < xs.length), xs[k] ≤ v ↔ k < xs.countP (fun z => decide (z ≤ v)) := by
  induction xs with
  | nil => intro k h; simp at h
  | cons x xs ih =>
    rw [List.pairwise_cons] at hs
    intro k h
    cases k with
    | zero =>
      simp only [List.getElem_cons_zero, List.countP_cons]
      by_cases hx : x ≤ v
      · simp [hx]
      · have : xs.countP (fun z => decide (z ≤ v)) = 0 := List.countP_eq_zero.mpr fun a ha => by have := hs.1 a ha; simp; omega
        simp [hx, this]
    | succ k =>
      simp only [List.length_cons] at h
      simp only [List.getElem_cons_succ, List.countP_cons]
      have i := ih hs.2 k (by omega)
      by_cases hx : x ≤ v
      · rw [i]; simp [hx]
      · have : xs.countP (fun z => decide (z ≤ v)) = 0 := List.countP_eq_zero.mpr fun a ha => by have := hs.1 a ha; simp; omega
        rw [i]
        simp [hx, this]
theorem isort_len (xs : List Int) : (isort xs).length = xs.length := (isort_perm xs).length_eq
theorem kth_iff {xs : List Int} {k : Nat} (h : k < (isort xs).length) (v : Int) : (isort xs)[k] ≤ v ↔ k < xs.countP (fun z => decide (z ≤ v)) := by
  rw [sorted_kth (isort_sorted xs) v k h, (isort_perm xs).countP_eq]
theorem Pw.isort {xs ys : List Int} (h : Pw xs ys) (k : Nat) (h1 : k < (isort xs).length) (h2 : k < (isort ys).length) : (isort xs)[k] ≤ (isort ys)[k] := by
  rw [kth_iff]
  exact Nat.lt_of_lt_of_le ((kth_iff h2 _).mp (Int.le_refl _)) (h.count _)
/-- the k-th smallest -/
def kth (xs : List Int) (k : Nat) : Int := (isort xs).getD k 0
theorem Pw.kth {xs ys : List Int} (h : Pw xs ys) (k : Nat) : kth xs k ≤ kth ys k := by
  have hl := h.len
  unfold Pg.kth
  by_cases hk : k < xs.length
  · have h1 : k < (Dt.isort xs).length := by rw [isort_len]; exact hk
    have h2 : k < (Dt.isort ys).length := by rw [isort_len]; omega
    rw [List.getD_eq_getElem?_getD, List.getD_eq_getElem?_getD, List.getElem?_eq_getElem h1, List.getElem?_eq_getElem h2]
    exact h.isort k h1 h2
  · rw [List.getD_eq_getElem?_getD, List.getD_eq_getElem?_getD, List.getElem?_eq_none (by rw [isort_len]; omega), List.getElem?_eq_none (by rw [isort_len]; omega)]
    exact Int.le_refl _
theorem sorted_min {xs : List Int} (h : 0 < xs.length) : minL xs = kth xs 0 := by
  have h1 : 0 < (isort xs).length := by rw [isort_len]; exact h
  have e : kth xs 0 = (isort xs)[0] := by unfold kth; rw [List.getD_eq_getElem?_getD, List.getElem?_eq_getElem h1]; rfl
  rw [e]
  refine minL_uniq ((isort_perm xs).mem_iff.mp (List.getElem_mem h1)) fun y hy => ?_
  rw [kth_iff h1]
  exact List.countP_pos_iff.mpr ⟨y, hy, by simp⟩
theorem sorted_max {xs : List Int} (h : 0 < xs.length) : maxL xs = kth xs (xs.length - 1) := by
  have h1 : xs.length - 1 < (isort xs).length := by rw [isort_len]; omega
  have e : kth xs (xs.length - 1) = (isort xs)[xs.length - 1] := by unfold kth; rw [List.getD_eq_getElem?_getD, List.getElem?_eq_getElem h1]; rfl
  rw [e]
  refine maxL_uniq ((isort_perm xs).mem_iff.mp (List.getElem_mem h1)) fun y hy => ?_
  have h2 := (kth_iff h1 ((isort xs)[xs.length - 1])).mp (Int.le_refl _)
  have h3 := List.countP_le_length (p := fun z => decide (z ≤ (isort xs)[xs.length - 1])) (l := xs)
  have h4 : xs.countP (fun z => decide (z ≤ (isort xs)[xs.length - 1])) = xs.length := by omega
  simpa using List.countP_eq_length.mp h4 y hy
/-! ### choices -/
abbrev vals (p : Int × Int) : List Int := (List.range (p.2 + 1 - p.1).toNat).map fun i : Nat => p.1 + (i : Int)
def more (rows : List (List Int)) (p : Int × Int) : List (List Int) := rows.foldl (fun l r => l ++ (vals p).map fun v => r ++ [v]) []
def chs (bs : List (Int × Int)) : List (List Int) := bs.foldl more [[]]
theorem foldl_flat {α β : Type} (f : α → List β) : ∀ (xs : List α) (l : List β), xs.foldl (fun l r => l ++ f r) l = l ++ xs.flatMap f
  | [], l => by simp
  | x :: xs, l => by rw [List.foldl_cons, foldl_flat f xs, List.flatMap_cons, List.append_assoc]
theorem more_eq (rows : List (List Int)) (p : Int × Int) : more rows p = rows.flatMap fun r => (vals p).map fun v => r ++ [v] := by
  unfold more
  rw [foldl_flat (f := fun r : List Int => (vals p).map fun v => r ++ [v])]
  rfl
theorem mem_vals {p : Int × Int} {v : Int} : v ∈ vals p ↔ p.1 ≤ v ∧ v ≤ p.2 := by
  simp only [List.mem_map, List.mem_range]
  constructor
  · rintro ⟨i, h, rfl⟩; omega
  · intro h; exact ⟨(v - p.1).toNat, by omega, by omega⟩
/-- a choice within bounds -/
inductive Ch : List (Int × Int) → List Int → Prop
  | nil : Ch [] []
  | cons {p : Int × Int} {v : Int} {bs : List (Int × Int)} {c : List Int} : p.1 ≤ v → v ≤ p.2 → Ch bs c → Ch (p :: bs) (v :: c)
theorem Ch.len {bs : List (Int × Int)} {c : List Int} (h : Ch bs c) : c.length = bs.length := by induction h <;> simp_all
theorem Ch.lo {bs : List (Int × Int)} {c : List Int} (h : Ch bs c) : Pw (los bs) c := by
  induction h with
  | nil => exact .nil
  | cons a b _ ih => exact .cons a ih
theorem Ch.hi {bs : List (Int × Int)} {c : List Int} (h : Ch bs c) : Pw c (his bs) := by
  induction h with
  | nil => exact .nil
  | cons a b _ ih => exact .cons b ih
theorem Ch.low : ∀ {bs : List (Int × Int)}, (∀ p ∈ bs, p.1 ≤ p.2) → Ch bs (los bs)
  | [], _ => .nil
  | p :: bs, h => .cons (Int.le_refl _) (h p List.mem_cons_self) (Ch.low fun q hq => h q (List.mem_cons_of_mem _ hq))
theorem Ch.high : ∀ {bs : List (Int × Int)}, (∀ p ∈ bs, p.1 ≤ p.2) → Ch bs (his bs)
  | [], _ => .nil
  | p :: bs, h => .cons (h p List.mem_cons_self) (Int.le_refl _) (Ch.high fun q hq => h q (List.mem_cons_of_mem _ hq))
theorem mem_fold {bs : List (Int × Int)} : ∀ {rows : List (List Int)} {c : List Int}, c ∈ bs.foldl more rows ↔ ∃ r d, r ∈ rows ∧ Ch bs d ∧ c = r ++ d := by
  induction bs with
  | nil =>
    intro rows c
    constructor
    · intro h; exact ⟨c, [], h, .nil, by simp⟩
    · rintro ⟨r, d, h, hd, rfl⟩; cases hd; simpa using h
  | cons p bs ih =>
    intro rows c
    rw [List.foldl_cons, ih]
    constructor
    · rintro ⟨r, d, h, hd, rfl⟩
      rw [more_eq] at h
      obtain ⟨r', hr', h⟩ := List.mem_flatMap.mp h
      obtain ⟨v, hv, rfl⟩ := List.mem_map.mp h
      have hv := mem_vals.mp hv
      exact ⟨r', v :: d, hr', .cons hv.1 hv.2 hd, by simp⟩
    · rintro ⟨r, d, h, hd, rfl⟩
      cases hd with
      | cons h1 h2 hd =>
        rename_i v d
        refine ⟨r ++ [v], d, ?_, hd, by simp⟩
        rw [more_eq]
        exact List.mem_flatMap.mpr ⟨r, h, List.mem_map.mpr ⟨v, mem_vals.mpr ⟨h1, h2⟩, rfl⟩⟩
theorem mem_chs {bs : List (Int × Int)} {c : List Int} : c ∈ chs bs ↔ Ch bs c := by
  unfold chs
  rw [mem_fold]
  constructor
  · rintro ⟨r, d, h, hd, rfl⟩
    simp at h
    subst h
    exact hd
  · intro h; exact ⟨[], c, by simp, h, rfl⟩
theorem more_len (rows : List (List Int)) (p : Int × Int) : (more rows p).length = rows.length * (p.2 + 1 - p.1).toNat := by
  rw [more_eq]
  induction rows with
  | nil => simp
  | cons r rows ih => rw [List.flatMap_cons, List.length_append, ih, List.length_map, List.length_map, List.length_range, List.length_cons, Nat.add_mul, Nat.one_mul, Nat.add_comm]
/-- a figure that grows with the values is least at the lows and greatest at the highs -/
theorem min_chs {bs : List (Int × Int)} (hb : ∀ p ∈ bs, p.1 ≤ p.2) (f : List Int → Int) (hf : ∀ x y, Pw x y → f x ≤ f y) : minL ((chs bs).map f) = f (los bs) :=
  minL_uniq (List.mem_map.mpr ⟨_, mem_chs.mpr (Ch.low hb), rfl⟩) fun y hy => by obtain ⟨c, hc, rfl⟩ := List.mem_map.mp hy; exact hf _ _ (mem_chs.mp hc).lo
theorem max_chs {bs : List (Int × Int)} (hb : ∀ p ∈ bs, p.1 ≤ p.2) (f : List Int → Int) (hf : ∀ x y, Pw x y → f x ≤ f y) : maxL ((chs bs).map f) = f (his bs) :=
  maxL_uniq (List.mem_map.mpr ⟨_, mem_chs.mpr (Ch.high hb), rfl⟩) fun y hy => by obtain ⟨c, hc, rfl⟩ := List.mem_map.mp hy; exact hf _ _ (mem_chs.mp hc).hi
theorem chs_ne {bs : List (Int × Int)} (hb : ∀ p ∈ bs, p.1 ≤ p.2) : chs bs ≠ [] := List.ne_nil_of_mem (mem_chs.mpr (Ch.low hb))
/-! ### fractions in lowest terms, compared across -/
theorem low_cross {t b t' b' : Int} (hb : 0 < b) (hb' : 0 < b') : (lowP t b).1 * (lowP t' b').2 < (lowP t' b').1 * (lowP t b).2 ↔ t * b' < t' * b := by
  have g := gcd_pos_le (t := t) hb
  have g' := gcd_pos_le (t := t') hb'
  obtain ⟨u, hu⟩ := Int.gcd_dvd_left t b
  obtain ⟨v, hv⟩ := Int.gcd_dvd_right t b
  obtain ⟨u', hu'⟩ := Int.gcd_dvd_left t' b'
  obtain ⟨v', hv'⟩ := Int.gcd_dvd_right t' b'
  have e1 : (lowP t b).1 = u := Int.ediv_eq_of_eq_mul_right (by omega) hu
  have e2 : (lowP t b).2 = v := Int.ediv_eq_of_eq_mul_right (by omega) hv
  have e3 : (lowP t' b').1 = u' := Int.ediv_eq_of_eq_mul_right (by omega) hu'
  have e4 : (lowP t' b').2 = v' := Int.ediv_eq_of_eq_mul_right (by omega) hv'
  rw [e1, e2, e3, e4]
  generalize (Int.gcd t b : Int) = G at *
  generalize (Int.gcd t' b' : Int) = G' at *
  have hp : 0 < G * G' := Int.mul_pos g.1 g'.1
  have k1 : t * b' = (G * G') * (u * v') := by rw [hu, hv']; ac_rfl
  have k2 : t' * b = (G * G') * (u' * v) := by rw [hu', hv]; ac_rfl
  rw [k1, k2]
  constructor
  · intro h; exact Int.mul_lt_mul_of_pos_left h hp
  · intro h; exact Int.lt_of_mul_lt_mul_left h (Int.le_of_lt hp)
theorem low_pos {t b : Int} (hb : 0 < b) : 0 < (lowP t b).2 ∧ (lowP t b).2 ≤ b := by
  have g := gcd_pos_le (t := t) hb
  obtain ⟨v, hv⟩ := Int.gcd_dvd_right t b
  have e2 : (lowP t b).2 = v := Int.ediv_eq_of_eq_mul_right (by omega) hv
  rw [e2]
  generalize (Int.gcd t b : Int) = G at *
  have : 0 < v := by
    rcases Int.lt_or_le 0 v with h | h
    · exact h
    · have := Int.mul_le_mul_of_nonneg_left h (Int.le_of_lt g.1)
      omega
  refine ⟨this, ?_⟩
  rw [hv]
  have := Int.mul_le_mul_of_nonneg_right (show (1 : Int) ≤ G by omega) (Int.le_of_lt this)
  omega
end Pg

/-! What the defs compute, part 2: figures, and the laws' own helpers. -/
namespace Pg
open PySem L2 Dt
local macro_rules | `(tactic| walk_at "op") => `(tactic| first | (with_reducible exact op_add_i _ _) | (with_reducible exact op_sub_i _ _) | (with_reducible exact op_lt_i _ _) | (with_reducible exact op_le_i _ _) | (with_reducible exact op_gt_i _ _) | (with_reducible exact op_ge_i _ _) | (with_reducible exact op_eq_i _ _) | (with_reducible exact op_ne_i _ _) | (with_reducible exact op_ix_p0 _) | (with_reducible exact op_ix_p1 _) | (with_reducible exact op_ix_0 _ _) | (with_reducible exact op_ix_1 _ _ _) | (with_reducible exact op_isN_d) | (with_reducible exact op_notN_d) | (with_reducible exact op_isB_d _ _) | (with_reducible exact op_notB_d _ _) | (with_reducible exact b_len_p _) | (with_reducible exact b_len_l _) | (with_reducible exact b_len_t _) | (with_reducible exact b_sum _) | (with_reducible exact b_sorted _) | (with_reducible exact b_abs _) | (with_reducible exact b_max2 _ _) | (with_reducible exact b_min2 _ _) | ((with_reducible apply op_mod_i); with_reducible assumption) | ((with_reducible apply op_div_i); with_reducible assumption) | ((with_reducible apply op_mul_i); with_reducible assumption))
local macro_rules | `(tactic| walk_at "F") => `(tactic| walk_at "op")
local macro_rules | `(tactic| walk_at "A") => `(tactic| first | (with_reducible exact ea_nil) | ((with_reducible apply ea_cons); walk_at "E"; walk_at "A"))
local macro_rules | `(tactic| walk_at "T") => `(tactic| first | ((with_reducible apply et_val); walk_at "E") | ((with_reducible apply et_not); walk_at "T") | ((with_reducible apply et_or); walk_at "T"; (intro _; walk_at "T")) | ((with_reducible apply et_and); walk_at "T"; (intro _; walk_at "T")))
local macro_rules | `(tactic| walk_at "O") => `(tactic| first | (with_reducible exact eo_none) | ((with_reducible apply eo_some); walk_at "E"))
local macro_rules | `(tactic| walk_at "E") => `(tactic| first
  | (with_reducible exact ev_c)
  | ((with_reducible apply ev_var); rfl)
  | ((with_reducible apply ev_bin); walk_at "E"; walk_at "E"; walk_at "op")
  | ((with_reducible apply ev_call); walk_at "A"; walk_at "F")
  | ((with_reducible apply ev_tup); walk_at "A"; rfl)
  | ((with_reducible apply ev_lst); walk_at "A"; rfl)
  | ((with_reducible apply ev_neg); walk_at "E")
  | ((with_reducible apply ev_isi); walk_at "E")
  | ((with_reducible apply ev_not); walk_at "E")
  | ((with_reducible apply ev_and'); walk_at "E"; (intro _; walk_at "E"))
  | ((with_reducible apply ev_or'); walk_at "E"; (intro _; walk_at "E"))
  | ((with_reducible apply ev_chain); walk_at "E"; walk_at "E"; walk_at "E"; walk_at "op"; walk_at "op")
  | ((with_reducible apply ev_sl); walk_at "E"; walk_at "O"; walk_at "O")
  | ((with_reducible apply ev_rev); walk_at "E")
  | ((with_reducible apply ev_ifT); ((with_reducible apply ev_is); walk_at "T"; rfl); walk_at "E")
  | ((with_reducible apply ev_ifF); ((with_reducible apply ev_is); walk_at "T"; rfl); walk_at "E"))
local macro_rules | `(tactic| walk_at "I") => `(tactic| first | ((with_reducible apply ei_list); walk_at "E"; done) | ((with_reducible apply ei_tup); walk_at "E") | ((with_reducible apply ei_enum); walk_at "A") | ((with_reducible apply ei_zip); walk_at "A"))
local macro_rules | `(tactic| walk_at "S") => `(tactic| first
  | (with_reducible exact es_nil)
  | ((with_reducible apply es_retV); rfl)
  | ((with_reducible apply es_retO); rfl)
  | ((with_reducible apply es_ret); walk_at "E")
  | ((with_reducible apply es_seq); walk_at "S"; walk_at "S")
  | ((with_reducible apply es_expr); walk_at "E")
  | ((with_reducible apply es_set); walk_at "E")
  | ((with_reducible apply es_setO); walk_at "E")
  | ((with_reducible apply es_par); walk_at "A")
  | ((with_reducible apply es_asgT); walk_at "E"; rfl)
  | ((with_reducible apply es_ifF); ((with_reducible apply ev_is); walk_at "T"; (first | rfl | with_reducible assumption)); walk_at "S")
  | ((with_reducible apply es_ifT); ((with_reducible apply ev_is); walk_at "T"; (first | rfl | with_reducible assumption)); walk_at "S"))
local macro_rules | `(tactic| walk_at "F") => `(tactic| with_reducible exact is_int_eq _ _ _)
local macro_rules | `(tactic| walk_at "F") => `(tactic| with_reducible exact is_bound_eq _)
local macro_rules | `(tactic| walk_at "F") => `(tactic| ((with_reducible apply is_bounds_eq); exact okB_len (by with_reducible assumption)))
local macro_rules | `(tactic| walk_at "F") => `(tactic| ((with_reducible apply check_ok); with_reducible assumption))
local macro_rules | `(tactic| walk_at "F") => `(tactic| ((with_reducible apply lows_eq); exact okB_len (by with_reducible assumption)))
local macro_rules | `(tactic| walk_at "F") => `(tactic| ((with_reducible apply highs_eq); exact okB_len (by with_reducible assumption)))
local macro_rules | `(tactic| walk_at "F") => `(tactic| ((with_reducible apply sum_range_eq); with_reducible assumption))
theorem okB_pos {bs : List (Int × Int)} (h : okB bs = true) : (1 ≤ bs.length ∧ bs.length ≤ 7) ∧ ∀ p ∈ bs, p.1 ≤ p.2 := ⟨(okB_iff.mp h).1, fun p hp => ((okB_iff.mp h).2 p hp).2.1⟩
theorem fuel_v : fuel = 1000000000000 := rfl
/-- F_lowest, F__law_low at a length -/
theorem mean_range_eq {bs : List (Int × Int)} (h : okB bs = true) : F_mean_range [.d (dBs bs)] = .ret (.d (.tuple [dP (lowP (los bs).sum bs.length), dP (lowP (his bs).sum bs.length)]), false) := by
  have hp := okB_pos h
  have hl : ((bs.map dP).length : Int) = bs.length := by rw [List.length_map]
  have k1 : (0 : Int) < ((bs.map dP).length : Int) := by omega
  have k2 : ((bs.map dP).length : Int).natAbs < fuel := by rw [fuel_v]; omega
  unfold F_mean_range b_mean_range
  refine Eq.trans (by
    apply run_rt rfl
    apply es_seq
    · walk_at "S"
    · apply es_ret
      apply ev_tup
      · apply ea_cons
        · apply ev_call
          · walk_at "A"
          · exact lowest_eq k1 k2
        · apply ea_cons
          · apply ev_call
            · walk_at "A"
            · exact lowest_eq k1 k2
          · walk_at "A"
      · rfl) ?_
  rw [hl]
theorem atI_kth {xs : List Int} {k : Nat} (h : k < xs.length) : atI ((isort xs).map PyData.int) (k : Int) = some (.int (kth xs k)) := by
  have h1 : k < (isort xs).length := by rw [isort_len]; exact h
  refine atI_nat (j := k) ?_
  unfold kth
  rw [List.getElem?_map, List.getElem?_eq_getElem h1, List.getD_eq_getElem?_getD, List.getElem?_eq_getElem h1]
  rfl
theorem kth_range_eq {bs : List (Int × Int)} (h : okB bs = true) {k : Int} (h1 : 1 ≤ k) (h2 : k ≤ bs.length) : F_kth_range [.d (dBs bs), dI k] = .ret (.d (dP (kth (los bs) (k.toNat - 1), kth (his bs) (k.toNat - 1))), false) := by
  have hp := okB_pos h
  have hl : ((bs.map dP).length : Int) = bs.length := by rw [List.length_map]
  have a1 : atI ((isort (los bs)).map PyData.int) (k - 1) = some (.int (kth (los bs) (k.toNat - 1))) := by
    have := atI_kth (xs := los bs) (k := k.toNat - 1) (by rw [List.length_map]; omega)
    rw [← this]; congr 1; omega
  have a2 : atI ((isort (his bs)).map PyData.int) (k - 1) = some (.int (kth (his bs) (k.toNat - 1))) := by
    have := atI_kth (xs := his bs) (k := k.toNat - 1) (by rw [List.length_map]; omega)
    rw [← this]; congr 1; omega
  unfold F_kth_range b_kth_range
  refine Eq.trans (by
    apply run_rt rfl
    apply es_seq
    · walk_at "S"
    · apply es_seq
      · with_reducible apply es_ifF
        · apply ev_is
          · walk_at "T"
          · simp; omega
        · walk_at "S"
      · apply es_ret
        apply ev_tup
        · apply ea_cons
          · apply ev_bin
            · walk_at "E"
            · walk_at "E"
            · exact op_ix_l a1
          · apply ea_cons
            · apply ev_bin
              · walk_at "E"
              · walk_at "E"
              · exact op_ix_l a2
            · walk_at "A"
        · rfl) ?_
  rfl
/-- the median, doubled -/
def mid2 (xs : List Int) : Int := kth xs ((xs.length - 1) / 2) + kth xs (xs.length / 2)
abbrev medP (xs : List Int) : Int × Int := lowP (mid2 xs) 2
theorem Pw.mid2 {xs ys : List Int} (h : Pw xs ys) : mid2 xs ≤ mid2 ys := by
  unfold Pg.mid2
  rw [h.len]
  have h1 := h.kth ((ys.length - 1) / 2)
  have h2 := h.kth (ys.length / 2)
  omega
theorem middle_at {xs : List Int} (h : 0 < xs.length) : atI ((isort xs).map PyData.int) (((((isort xs).map PyData.int).length : Int) - 1) / 2) = some (.int (kth xs ((xs.length - 1) / 2))) ∧ atI ((isort xs).map PyData.int) ((((isort xs).map PyData.int).length : Int) / 2) = some (.int (kth xs (xs.length / 2))) := by
  rw [List.length_map, isort_len]
  constructor
  · rw [← atI_kth (by omega)]; congr 1; omega
  · rw [← atI_kth (by omega)]; congr 1
theorem two_ok : (0 : Int) < 2 ∧ (2 : Int).natAbs < big := ⟨by decide, by unfold big; decide +kernel⟩
theorem middle_eq {xs : List Int} (h : 0 < xs.length) : F_middle [.d (dNs xs)] = .ret (.d (dP (medP xs)), false) := by
  have ha := middle_at h
  have h2 := two_ok
  unfold F_middle b_middle
  apply run_rt rfl
  apply es_seq
  · walk_at "S"
  · apply es_seq
    · walk_at "S"
    · apply es_ret
      apply ev_call
      · apply ea_cons
        · apply ev_bin
          · apply ev_bin
            · walk_at "E"
            · walk_at "E"
            · exact op_ix_l ha.1
          · apply ev_bin
            · walk_at "E"
            · walk_at "E"
            · exact op_ix_l ha.2
          · walk_at "op"
        · walk_at "A"
      · exact lowest_eq (by decide) (by decide)
theorem law_middle_eq {xs : List Int} (h : 0 < xs.length) : F__law_middle [.d (dNs xs)] = .ret (.d (dP (medP xs)), false) := by
  have ha := middle_at h
  have h2 := two_ok
  unfold F__law_middle b__law_middle
  apply run_rt rfl
  apply es_seq
  · walk_at "S"
  · apply es_seq
    · walk_at "S"
    · apply es_ret
      apply ev_call
      · apply ea_cons
        · apply ev_bin
          · apply ev_bin
            · walk_at "E"
            · walk_at "E"
            · exact op_ix_l ha.1
          · apply ev_bin
            · walk_at "E"
            · walk_at "E"
            · exact op_ix_l ha.2
          · walk_at "op"
        · walk_at "A"
      · exact law_low_eq (by decide) (by decide)
theorem los_pos {bs : List (Int × Int)} (h : okB bs = true) : 0 < (los bs).length := by rw [List.length_map]; exact (okB_pos h).1.1
theorem his_pos {bs : List (Int × Int)} (h : okB bs = true) : 0 < (his bs).length := by rw [List.length_map]; exact (okB_pos h).1.1
local macro_rules | `(tactic| walk_at "F") => `(tactic| ((with_reducible apply middle_eq); first | exact los_pos (by assumption) | exact his_pos (by assumption)))
local macro_rules | `(tactic| walk_at "F") => `(tactic| ((with_reducible apply b_min); first | exact List.ne_nil_of_length_pos (los_pos (by assumption)) | exact List.ne_nil_of_length_pos (his_pos (by assumption))))
local macro_rules | `(tactic| walk_at "F") => `(tactic| ((with_reducible apply b_max); first | exact List.ne_nil_of_length_pos (los_pos (by assumption)) | exact List.ne_nil_of_length_pos (his_pos (by assumption))))
theorem median_range_eq {bs : List (Int × Int)} (h : okB bs = true) : F_median_range [.d (dBs bs)] = .ret (.d (.tuple [dP (medP (los bs)), dP (medP (his bs))]), false) := by
  unfold F_median_range b_median_range
  apply run_rt rfl
  walk_at "S"
theorem least_range_eq {bs : List (Int × Int)} (h : okB bs = true) : F_least_range [.d (dBs bs)] = .ret (.d (dP (minL (los bs), minL (his bs))), false) := by
  unfold F_least_range b_least_range
  refine Eq.trans (by apply run_rt rfl; walk_at "S") ?_
  rfl
theorem greatest_range_eq {bs : List (Int × Int)} (h : okB bs = true) : F_greatest_range [.d (dBs bs)] = .ret (.d (dP (maxL (los bs), maxL (his bs))), false) := by
  unfold F_greatest_range b_greatest_range
  refine Eq.trans (by apply run_rt rfl; walk_at "S") ?_
  rfl
def aboveC (v : Int) (xs : List Int) : Int := (xs.filter (fun z => decide (v < z))).length
theorem above_range_eq {bs : List (Int × Int)} (h : okB bs = true) {v : Int} (h1 : -50 ≤ v) (h2 : v ≤ 50) : F_above_range [.d (dBs bs), dI v] = .ret (.d (dP (aboveC v (los bs), aboveC v (his bs))), false) := by
  have hl := okB_len h
  unfold F_above_range b_above_range
  refine Eq.trans (by
    apply run_rt rfl
    apply es_seq
    · walk_at "S"
    · apply es_seq
      · with_reducible apply es_ifF
        · apply ev_is
          · walk_at "T"
          · simp; omega
        · walk_at "S"
      · apply es_ret
        apply ev_tup
        · apply ea_cons
          · apply ev_call
            · apply ea_cons
              · exact ev_compBF (f := fun p => .int 1) (g := fun p => decide (v < p.1)) (b := false) (by walk_at "I") hl (fun p hp => by walk_at "T") fun p hp _ => by walk_at "E"
              · walk_at "A"
            · walk_at "F"
          · apply ea_cons
            · apply ev_call
              · apply ea_cons
                · exact ev_compBF (f := fun p => .int 1) (g := fun p => decide (v < p.2)) (b := false) (by walk_at "I") hl (fun p hp => by walk_at "T") fun p hp _ => by walk_at "E"
                · walk_at "A"
              · walk_at "F"
            · walk_at "A"
        · rfl) ?_
  rw [List.length_map, List.length_map]
  unfold aboveC los his
  rw [List.filter_map, List.length_map, List.filter_map, List.length_map]
  rfl
end Pg

/-! The laws' helpers: choices, small bounds. -/
namespace Pg
open PySem L2 Dt
local macro_rules | `(tactic| walk_at "op") => `(tactic| first | (with_reducible exact op_add_i _ _) | (with_reducible exact op_sub_i _ _) | (with_reducible exact op_lt_i _ _) | (with_reducible exact op_le_i _ _) | (with_reducible exact op_gt_i _ _) | (with_reducible exact op_ge_i _ _) | (with_reducible exact op_eq_i _ _) | (with_reducible exact op_ne_i _ _) | (with_reducible exact op_ix_p0 _) | (with_reducible exact op_ix_p1 _) | (with_reducible exact op_ix_0 _ _) | (with_reducible exact op_ix_1 _ _ _) | (with_reducible exact op_isN_d) | (with_reducible exact op_notN_d) | (with_reducible exact op_isB_d _ _) | (with_reducible exact op_notB_d _ _) | (with_reducible exact b_len_p _) | (with_reducible exact b_len_l _) | (with_reducible exact b_len_t _) | (with_reducible exact b_sum _) | (with_reducible exact b_sorted _) | (with_reducible exact b_abs _) | (with_reducible exact b_max2 _ _) | (with_reducible exact b_min2 _ _) | ((with_reducible apply op_mod_i); with_reducible assumption) | ((with_reducible apply op_div_i); with_reducible assumption) | ((with_reducible apply op_mul_i); with_reducible assumption))
local macro_rules | `(tactic| walk_at "F") => `(tactic| walk_at "op")
local macro_rules | `(tactic| walk_at "A") => `(tactic| first | (with_reducible exact ea_nil) | ((with_reducible apply ea_cons); walk_at "E"; walk_at "A"))
local macro_rules | `(tactic| walk_at "T") => `(tactic| first | ((with_reducible apply et_val); walk_at "E") | ((with_reducible apply et_not); walk_at "T") | ((with_reducible apply et_or); walk_at "T"; (intro _; walk_at "T")) | ((with_reducible apply et_and); walk_at "T"; (intro _; walk_at "T")))
local macro_rules | `(tactic| walk_at "O") => `(tactic| first | (with_reducible exact eo_none) | ((with_reducible apply eo_some); walk_at "E"))
local macro_rules | `(tactic| walk_at "E") => `(tactic| first
  | (with_reducible exact ev_c)
  | ((with_reducible apply ev_var); rfl)
  | ((with_reducible apply ev_bin); walk_at "E"; walk_at "E"; walk_at "op")
  | ((with_reducible apply ev_call); walk_at "A"; walk_at "F")
  | ((with_reducible apply ev_tup); walk_at "A"; rfl)
  | ((with_reducible apply ev_lst); walk_at "A"; rfl)
  | ((with_reducible apply ev_neg); walk_at "E")
  | ((with_reducible apply ev_isi); walk_at "E")
  | ((with_reducible apply ev_not); walk_at "E")
  | ((with_reducible apply ev_and'); walk_at "E"; (intro _; walk_at "E"))
  | ((with_reducible apply ev_or'); walk_at "E"; (intro _; walk_at "E"))
  | ((with_reducible apply ev_chain); walk_at "E"; walk_at "E"; walk_at "E"; walk_at "op"; walk_at "op")
  | ((with_reducible apply ev_sl); walk_at "E"; walk_at "O"; walk_at "O")
  | ((with_reducible apply ev_rev); walk_at "E")
  | ((with_reducible apply ev_ifT); ((with_reducible apply ev_is); walk_at "T"; rfl); walk_at "E")
  | ((with_reducible apply ev_ifF); ((with_reducible apply ev_is); walk_at "T"; rfl); walk_at "E"))
local macro_rules | `(tactic| walk_at "I") => `(tactic| first | ((with_reducible apply ei_list); walk_at "E"; done) | ((with_reducible apply ei_tup); walk_at "E") | ((with_reducible apply ei_enum); walk_at "A") | ((with_reducible apply ei_zip); walk_at "A"))
local macro_rules | `(tactic| walk_at "S") => `(tactic| first
  | (with_reducible exact es_nil)
  | ((with_reducible apply es_retV); rfl)
  | ((with_reducible apply es_retO); rfl)
  | ((with_reducible apply es_ret); walk_at "E")
  | ((with_reducible apply es_seq); walk_at "S"; walk_at "S")
  | ((with_reducible apply es_expr); walk_at "E")
  | ((with_reducible apply es_set); walk_at "E")
  | ((with_reducible apply es_setO); walk_at "E")
  | ((with_reducible apply es_par); walk_at "A")
  | ((with_reducible apply es_asgT); walk_at "E"; rfl)
  | ((with_reducible apply es_ifF); ((with_reducible apply ev_is); walk_at "T"; (first | rfl | with_reducible assumption)); walk_at "S")
  | ((with_reducible apply es_ifT); ((with_reducible apply ev_is); walk_at "T"; (first | rfl | with_reducible assumption)); walk_at "S"))
local macro_rules | `(tactic| walk_at "F") => `(tactic| with_reducible exact is_int_eq _ _ _)
local macro_rules | `(tactic| walk_at "F") => `(tactic| with_reducible exact is_bound_eq _)
local macro_rules | `(tactic| walk_at "F") => `(tactic| ((with_reducible apply is_bounds_eq); exact okB_len (by with_reducible assumption)))
local macro_rules | `(tactic| walk_at "F") => `(tactic| ((with_reducible apply check_ok); with_reducible assumption))
local macro_rules | `(tactic| walk_at "F") => `(tactic| ((with_reducible apply lows_eq); exact okB_len (by with_reducible assumption)))
local macro_rules | `(tactic| walk_at "F") => `(tactic| ((with_reducible apply highs_eq); exact okB_len (by with_reducible assumption)))
local macro_rules | `(tactic| walk_at "F") => `(tactic| ((with_reducible apply sum_range_eq); with_reducible assumption))
def dNsF (ns : List Int) : PyData := dNs ns
abbrev dRows (rows : List (List Int)) : PyData := .list (rows.map fun r => dNs r)
theorem range2_eq (p : Int × Int) : rangeP p.1 (p.2 + 1 - p.1).toNat = (vals p).map PyData.int := by
  unfold rangeP vals
  rw [List.map_map]
  rfl
theorem more_app (pre : List (List Int)) (r : List Int) (p : Int × Int) : more (pre ++ [r]) p = more pre p ++ (vals p).map fun v => r ++ [v] := by
  rw [more_eq, more_eq, List.flatMap_append]; simp
theorem more_mono (pre post : List (List Int)) (p : Int × Int) : (more pre p).length ≤ (more (pre ++ post) p).length := by
  rw [more_len, more_len]; exact Nat.mul_le_mul_right _ (by simp)
theorem op_add_app {xs ys : List Int} {r : PyData} (h : xs.length + 1 ≤ lim) (v : Int) : oAdd (.d (dNs xs)) (.d (.list [.int v])) = .ret (.d (dNs (xs ++ [v])), true) := by
  rw [op_add_l (by rw [List.length_map]; exact h)]
  simp
/-- the loop over rows -/
theorem choices_in {p : Int × Int} {w : Option Slot} {w1 : Option Slot} (hv : (-1000 ≤ p.1 ∧ p.1 ≤ 1000) ∧ (-1000 ≤ p.2 ∧ p.2 ≤ 1000)) {u : Option Slot} {rows : List (List Int)} (hl : (more rows p).length ≤ lim) (hr : ∀ r ∈ rows, r.length < 100) :
    ∃ en', forL [5] bdN (sSet 4 (dBin oAdd (dVar 4) (dComp [6] [6] bdN (iRangeD2 (aCons (dVar 2) (aCons (dBin oAdd (dVar 3) (dC (.int 1))) aNil))) yes (dBin oAdd (dVar 5) (dLst (aCons (dVar 6) aNil)))))) (rows.map fun r => dNs r)
      [w, w1, some (.v (dI p.1)), some (.v (dI p.2)), some (.v (.d (dRows (more [] p)))), u, none] = .ret (.nx en') ∧ ∃ u5 : Option Slot, en' = [w, w1, some (.v (dI p.1)), some (.v (dI p.2)), some (.v (.d (dRows (more rows p)))), u5, none] := by
  refine es_forP (R := fun pre en => ∃ u5, en = [w, w1, some (.v (dI p.1)), some (.v (dI p.2)), some (.v (.d (dRows (more pre p)))), u5, none]) ⟨u, rfl⟩ ?_
  rintro pre x post en hx ⟨u5, rfl⟩
  refine ⟨_, rfl, _, ?_, ⟨some (.v (.d (dNs x))), rfl⟩⟩
  have hlx : (more (pre ++ [x]) p).length ≤ lim := by
    have h := more_mono (pre ++ [x]) post p
    rw [List.append_assoc, List.singleton_append, ← hx] at h
    exact Nat.le_trans h hl
  have hrx : x.length + 1 ≤ lim := by
    have h : x.length < 100 := hr x (by rw [hx]; simp)
    have : lim = 1000000 := rfl
    omega
  have hvl : (vals p).length ≤ lim := by
    rw [more_app, List.length_append, List.length_map] at hlx; omega
  refine Eq.trans (by
    apply es_set
    apply ev_bin
    · walk_at "E"
    · refine ev_compN (xs := vals p) (emb := PyData.int) (f := fun v => dNs (x ++ [v])) (b := true) ?_ hvl fun v hv => ?_
      · rw [← range2_eq]
        apply ei_range2
        · walk_at "A"
        · omega
      · apply ev_bin
        · walk_at "E"
        · walk_at "E"
        · exact op_add_app (ys := []) (r := .none) hrx v
    · apply op_add_l
      rw [more_app, List.length_append] at hlx
      simpa using hlx) ?_
  rw [more_app]
  simp [dRows, hide, hideS, setE]
theorem chs_app (pre : List (Int × Int)) (p : Int × Int) : chs (pre ++ [p]) = more (chs pre) p := by unfold chs; rw [List.foldl_append]; rfl
theorem fold_len {w : Nat} : ∀ {bs : List (Int × Int)} {rows : List (List Int)}, (∀ p ∈ bs, p.2 + 1 - p.1 ≤ w) → (bs.foldl more rows).length ≤ rows.length * w ^ bs.length
  | [], rows, _ => by simp
  | p :: bs, rows, h => by
    have h1 := fold_len (bs := bs) (rows := more rows p) fun q hq => h q (List.mem_cons_of_mem _ hq)
    have h2 := h p List.mem_cons_self
    rw [more_len] at h1
    rw [List.foldl_cons, List.length_cons, Nat.pow_succ, Nat.mul_comm (w ^ bs.length), ← Nat.mul_assoc]
    exact Nat.le_trans h1 (Nat.mul_le_mul_right _ (Nat.mul_le_mul_left _ (by omega)))
theorem chs_len {w : Nat} {bs : List (Int × Int)} (h : ∀ p ∈ bs, p.2 + 1 - p.1 ≤ w) : (chs bs).length ≤ w ^ bs.length := by
  have := fold_len (rows := [[]]) h
  simpa [chs] using this
theorem choices_eq {bs : List (Int × Int)} (h : okB bs = true) (hw : ∀ p ∈ bs, p.2 + 1 - p.1 ≤ 7) : F__law_choices [.d (dBs bs)] = .ret (.d (dRows (chs bs)), false) := by
  have hk := okB_iff.mp h
  have hlen : ∀ pre post, bs = pre ++ post → (chs pre).length ≤ lim := by
    intro pre post e
    have h1 := chs_len (w := 7) (bs := pre) fun p hp => hw p (by rw [e]; simp [hp])
    have h2 : pre.length ≤ 7 := by have := hk.1.2; rw [e, List.length_append] at this; omega
    exact Nat.le_trans h1 (Nat.le_trans (Nat.pow_le_pow_right (by decide) h2) (by decide))
  unfold F__law_choices b__law_choices
  apply run_rt rfl
  apply es_seq
  · walk_at "S"
  have key := es_forP (emb := dP) (sl := [2, 3]) (bd := bdT 2) (xs := bs) (s1 := sSeq (sSet 4 (dLst aNil))
    (sSeq (sFor [5] bdN (iSeqD (dVar 1))
    (sSet 4 (dBin oAdd (dVar 4) (dComp [6] [6] bdN (iRangeD2 (aCons (dVar 2) (aCons (dBin oAdd (dVar 3) (dC (.int 1))) aNil))) yes (dBin oAdd (dVar 5) (dLst (aCons (dVar 6) aNil)))))))
    (sSet 1 (dVar 4))))
    (R := fun pre en => ∃ u2 u3 u4 u5, en = [some (.v (.d (dBs bs))), some (.v (.d (dRows (chs pre)))), u2, u3, u4, u5, none])
    (en := [some (.v (.d (dBs bs))), some (.v (.d (dRows (chs [])))), none, none, none, none, none])
    ⟨_, _, _, _, rfl⟩ (by
      rintro pre p post en hx ⟨u2, u3, u4, u5, rfl⟩
      have hp := hk.2 p (by rw [hx]; simp)
      obtain ⟨en', h1, u, h2⟩ := choices_in (p := p) (w := some (.v (.d (dBs bs)))) (w1 := some (.v (.d (dRows (chs pre))))) (by omega) (u := u5) (rows := chs pre) (by rw [← chs_app]; exact hlen _ post (by rw [hx]; simp)) (fun r hr => by
        rw [(mem_chs.mp hr).len]
        have := hk.1.2
        rw [hx] at this
        simp at this
        omega)
      refine ⟨_, rfl, _, by
        apply es_seq
        · walk_at "S"
        · apply es_seq
          · apply es_for
            · walk_at "I"
            · exact h1
          · rw [h2]
            walk_at "S", ?_⟩
      rw [chs_app]
      exact ⟨_, _, _, _, rfl⟩)
  obtain ⟨en', h1, u2, u3, u4, u5, rfl⟩ := key
  apply es_seq
  · apply es_for
    · walk_at "I"
    · exact h1
  · walk_at "S"
/-- bounds that _law_small draws -/
def Small (n : Nat) (bs : List (Int × Int)) : Prop := (1 ≤ bs.length ∧ bs.length ≤ n) ∧ ∀ p ∈ bs, (-4 ≤ p.1 ∧ p.1 < 4) ∧ p.1 ≤ p.2 ∧ p.2 < p.1 + 4
theorem Small.ok {n : Nat} {bs : List (Int × Int)} (h : Small n bs) (hn : n ≤ 7) : okB bs = true := okB_iff.mpr ⟨by have := h.1; omega, fun p hp => by have := h.2 p hp; omega⟩
theorem Small.wide {n : Nat} {bs : List (Int × Int)} (h : Small n bs) : ∀ p ∈ bs, p.2 + 1 - p.1 ≤ 7 := fun p hp => by have := h.2 p hp; omega
theorem small_dw {n : Nat} (h1 : 1 ≤ n) (h7 : n ≤ 7) : DW (F__law_small [.ob 0, dI n]) fun r => ∃ bs, Small n bs ∧ r = (.d (dBs bs), true) := by
  unfold F__law_small b__law_small
  apply dw_run rfl
  apply dws_seq
  refine DW.of (by walk_at "S") ⟨_, rfl, ?_⟩
  apply dws_seq
  apply dws_for
  apply dwi_range1
  apply dwa_cons
  apply dwe_bin
  refine DW.of (by walk_at "E") ?_
  apply dwe_call
  refine DW.of (by walk_at "A") ?_
  refine DW.draw (by omega) (by omega) fun r hr0 hr1 => ?_
  refine DW.of (op_add_i _ _) (DW.of ea_nil ⟨_, rfl, by omega, DW.ret ?_⟩)
  have e : rangeP 0 (1 + r).toNat = (List.range (1 + r).toNat).map fun i : Nat => PyData.int (0 + i) := rfl
  rw [e]
  refine dw_forL (k := 0) (I := fun k en => ∃ bs u3 u4, bs.length = k ∧ (∀ p ∈ bs, (-4 ≤ p.1 ∧ p.1 < 4) ∧ p.1 ≤ p.2 ∧ p.2 < p.1 + 4) ∧ en = [some (.v (.ob 0)), some (.v (dI n)), some (.own (bs.map dP)), u3, u4]) ⟨[], none, none, rfl, by simp, rfl⟩ ?_ ?_
  · rintro k x en _ hk ⟨bs, u3, u4, hb, hp, rfl⟩
    refine ⟨_, rfl, ?_⟩
    apply dws_seq
    apply dws_set
    apply dwe_bin
    apply dwe_call
    refine DW.of (by walk_at "A") ?_
    refine DW.draw (by decide) (by decide) fun a ha0 ha1 => ?_
    refine DW.of (by walk_at "E") (DW.of (op_sub_i _ _) ⟨_, rfl, ?_⟩)
    refine dws_app rfl (by
      rw [List.length_map, hb]
      rw [List.length_range] at hk
      have : lim = 1000000 := rfl
      omega) ?_
    apply dwe_tup
    apply dwa_cons
    refine DW.of (by walk_at "E") ?_
    apply dwa_cons
    apply dwe_bin
    refine DW.of (by walk_at "E") ?_
    apply dwe_call
    refine DW.of (by walk_at "A") ?_
    refine DW.draw (by decide) (by decide) fun c hc0 hc1 => ?_
    refine DW.of (op_add_i _ _) (DW.of ea_nil ⟨_, rfl, _, rfl, _, rfl, bs ++ [(a - 4, a - 4 + c)], some (.v (dI (0 + x))), some (.v (dI (a - 4))), by simp [hb], ?_, ?_⟩)
    · intro p hp'
      rcases List.mem_append.mp hp' with h | h
      · exact hp p h
      · rw [List.mem_singleton] at h
        subst h
        dsimp only
        omega
    · rw [List.map_append]; rfl
  · rintro en' ⟨bs, u3, u4, hb, hp, rfl⟩
    refine ⟨_, rfl, DW.of (by walk_at "S") ⟨_, rfl, bs, ⟨?_, hp⟩, rfl⟩⟩
    rw [List.length_range] at hb
    omega
theorem law_below_eq {p q : Int × Int} (h : (p.1.natAbs < big ∧ q.2.natAbs < big) ∧ (q.1.natAbs < big ∧ p.2.natAbs < big)) : F__law_below [.d (dP p), .d (dP q)] = rB (decide (p.1 * q.2 < q.1 * p.2)) := by
  have h1 := h.1
  have h2 := h.2
  unfold F__law_below b__law_below
  refine Eq.trans (by apply run_rt rfl; walk_at "S") ?_
  rfl
end Pg

/-! Data of ints, tuples and lists: == is equality. -/
namespace Pg
open PySem L2 Dt
inductive Nc : Nat → PyData → Prop
  | int {n : Nat} (i : Int) : Nc n (.int i)
  | tup {n : Nat} {xs : List PyData} : (∀ d ∈ xs, Nc n d) → Nc (n + 1) (.tuple xs)
  | lst {n : Nat} {xs : List PyData} : (∀ d ∈ xs, Nc n d) → Nc (n + 1) (.list xs)
theorem canAll {xs : List PyData} (h : ∀ d ∈ xs, d.canLay0 = true) : PyData.canLayAll0 xs = true := by
  induction xs with
  | nil => rfl
  | cons x xs ih => rw [PyData.canLayAll0, h x List.mem_cons_self, ih fun d hd => h d (List.mem_cons_of_mem _ hd)]; rfl
theorem depAll {n : Nat} {xs : List PyData} (h : ∀ d ∈ xs, d.depth ≤ n) : PyData.depthAll xs ≤ n := by
  induction xs with
  | nil => rw [PyData.depthAll]; omega
  | cons x xs ih =>
    rw [PyData.depthAll]
    have h1 := h x List.mem_cons_self
    have h2 := ih fun d hd => h d (List.mem_cons_of_mem _ hd)
    omega
theorem Nc.can {n : Nat} {d : PyData} (h : Nc n d) : d.canLay0 = true ∧ d.depth ≤ n := by
  induction h with
  | int i => exact ⟨rfl, by rw [PyData.depth]; omega⟩
  | tup _ ih =>
    constructor
    · rw [PyData.canLay0]; exact canAll fun d hd => (ih d hd).1
    · rw [PyData.depth]; have := depAll fun d hd => (ih d hd).2; omega
  | lst _ ih =>
    constructor
    · rw [PyData.canLay0]; exact canAll fun d hd => (ih d hd).1
    · rw [PyData.depth]; have := depAll fun d hd => (ih d hd).2; omega
theorem Nc.shaped {n : Nat} {d : PyData} (h : Nc n d) (hn : n ≤ 64) : SeqAt.shaped d = true := by
  unfold SeqAt.shaped
  rw [h.can.1]
  have := h.can.2
  simp; omega
theorem eqvAll_iff {P : PyData → Prop} : ∀ {xs ys : List PyData}, (∀ d ∈ xs, ∀ e, P e → (PyData.eqv d e = true ↔ d = e)) → (∀ e ∈ ys, P e) → (PyData.eqvAll xs ys = true ↔ xs = ys)
  | [], [], _, _ => by simp [PyData.eqvAll]
  | [], y :: ys, _, _ => by simp [PyData.eqvAll]
  | x :: xs, [], _, _ => by simp [PyData.eqvAll]
  | x :: xs, y :: ys, h1, h2 => by
    rw [PyData.eqvAll, Bool.and_eq_true, h1 x List.mem_cons_self y (h2 y List.mem_cons_self), eqvAll_iff (fun d hd => h1 d (List.mem_cons_of_mem _ hd)) fun e he => h2 e (List.mem_cons_of_mem _ he)]
    simp
theorem Nc.eqv {n : Nat} {d : PyData} (h : Nc n d) : ∀ {m : Nat} {e : PyData}, Nc m e → (PyData.eqv d e = true ↔ d = e) := by
  induction h with
  | int i =>
    intro m e he
    cases he with
    | int j => simp [PyData.eqv]
    | tup _ => simp [PyData.eqv]
    | lst _ => simp [PyData.eqv]
  | tup _ ih =>
    intro m e he
    cases he with
    | int j => simp [PyData.eqv]
    | tup h2 =>
      rw [PyData.eqv, eqvAll_iff (P := fun e => ∃ m, Nc m e) (fun d hd e ⟨m, he⟩ => ih d hd he) fun e he => ⟨_, h2 e he⟩]
      simp
    | lst _ => simp [PyData.eqv]
  | lst _ ih =>
    intro m e he
    cases he with
    | int j => simp [PyData.eqv]
    | tup _ => simp [PyData.eqv]
    | lst h2 =>
      rw [PyData.eqv, eqvAll_iff (P := fun e => ∃ m, Nc m e) (fun d hd e ⟨m, he⟩ => ih d hd he) fun e he => ⟨_, h2 e he⟩]
      simp
theorem Nc.dP (p : Int × Int) : Nc 1 (Pg.dP p) := .tup fun d hd => by simp at hd; rcases hd with rfl | rfl <;> exact .int _
theorem Nc.pair {n : Nat} {d e : PyData} (h1 : Nc n d) (h2 : Nc n e) : Nc (n + 1) (.tuple [d, e]) := .tup fun x hx => by simp at hx; rcases hx with rfl | rfl <;> assumption
theorem Nc.map {α : Type} {n : Nat} {f : α → PyData} {xs : List α} (h : ∀ x ∈ xs, Nc n (f x)) : Nc (n + 1) (.list (xs.map f)) := .lst fun d hd => by obtain ⟨x, hx, rfl⟩ := List.mem_map.mp hd; exact h x hx
theorem Nc.ns (xs : List Int) : Nc 1 (dNs xs) := Nc.map fun _ _ => .int _
theorem Nc.bs (bs : List (Int × Int)) : Nc 2 (dBs bs) := Nc.map fun _ _ => Nc.dP _
theorem ne_same {n : Nat} {p q : PyData} (h : Nc n p) (e : p = q) (hn : n ≤ 64) : oNe (.d p) (.d q) = rB false := by
  subst e
  rw [op_ne_d (h.shaped hn) (h.shaped hn), (h.eqv h).mpr rfl]
  first | done | rfl
theorem eq_same {n : Nat} {p q : PyData} (h : Nc n p) (e : p = q) (hn : n ≤ 64) : oEq (.d p) (.d q) = rB true := by
  subst e
  rw [op_eq_d (h.shaped hn) (h.shaped hn), (h.eqv h).mpr rfl]
  first | done | rfl
theorem eq_nc {n m : Nat} {p q : PyData} {b : Bool} (h : Nc n p) (h' : Nc m q) (hn : n ≤ 64) (hm : m ≤ 64) (e : p = q ↔ b = true) : oEq (.d p) (.d q) = rB b := by
  rw [op_eq_d (h.shaped hn) (h'.shaped hm)]
  have := h.eqv h'
  rw [e] at this
  rw [Bool.eq_iff_iff.mpr this]
  first | done | rfl
theorem ne_nc {n m : Nat} {p q : PyData} {b : Bool} (h : Nc n p) (h' : Nc m q) (hn : n ≤ 64) (hm : m ≤ 64) (e : p = q ↔ b = true) : oNe (.d p) (.d q) = rB (!b) := by
  rw [op_ne_d (h.shaped hn) (h'.shaped hm)]
  have := h.eqv h'
  rw [e] at this
  rw [Bool.eq_iff_iff.mpr this]
  first | done | rfl
theorem dP_inj {p q : Int × Int} : dP p = dP q ↔ p = q := by
  unfold dP; simp [Prod.ext_iff]
theorem map_inj {α : Type} {f : α → PyData} (hf : ∀ a b, f a = f b → a = b) : ∀ {xs ys : List α}, xs.map f = ys.map f ↔ xs = ys
  | [], [] => by simp
  | [], _ :: _ => by simp
  | _ :: _, [] => by simp
  | x :: xs, y :: ys => by simp only [List.map_cons, List.cons.injEq, map_inj hf (xs := xs)]; exact ⟨fun h => ⟨hf _ _ h.1, h.2⟩, fun h => ⟨by rw [h.1], h.2⟩⟩
theorem ns_inj {xs ys : List Int} : dNs xs = dNs ys ↔ xs = ys := by simp only [PyData.list.injEq]; exact map_inj fun a b h => by injection h
theorem bs_inj {xs ys : List (Int × Int)} : dBs xs = dBs ys ↔ xs = ys := by simp only [PyData.list.injEq]; exact map_inj fun a b h => dP_inj.mp h
end Pg

/-! More evaluation: ranges, comprehensions as they come; next_places. -/
namespace Pg
open PySem L2 Dt
/-! ### ranges as lists of ints -/
def irange (lo : Int) (n : Nat) : List Int := (List.range n).map fun i : Nat => lo + i
theorem irange_len (lo : Int) (n : Nat) : (irange lo n).length = n := by simp [irange]
theorem rangeP_ir (lo : Int) (n : Nat) : rangeP lo n = (irange lo n).map PyData.int := by
  unfold rangeP irange
  rw [List.map_map]
  rfl
theorem mem_irange {lo : Int} {n : Nat} {k : Int} : k ∈ irange lo n ↔ lo ≤ k ∧ k < lo + n := by
  unfold irange
  rw [List.mem_map]
  constructor
  · rintro ⟨m, h, rfl⟩
    rw [List.mem_range] at h
    omega
  · intro h
    exact ⟨(k - lo).toNat, by rw [List.mem_range]; omega, by omega⟩
theorem irange_zero (n : Nat) : irange 0 n = Dt.upTo n := by
  unfold irange Dt.upTo
  apply List.map_congr_left
  intro i _
  omega
section
variable {en : En} {fs : En → M (List AV)} {fa : En → M RV} {u : Bool}
theorem ei_rng1 {n : Int} (ha : fs en = .ret [.d (.int n)]) (h : n ≤ 1000000 ∧ -1000000 ≤ n) : iRangeD1 fs en = .ret ((irange 0 n.toNat).map PyData.int) := by rw [← rangeP_ir]; exact ei_range1 ha h
theorem ei_rng2 {m n : Int} (ha : fs en = .ret [.d (.int m), .d (.int n)]) (h : (n ≤ 1000000 ∧ -1000000 ≤ n) ∧ (m ≤ 1000000 ∧ -1000000 ≤ m)) : iRangeD2 fs en = .ret ((irange m (n - m).toNat).map PyData.int) := by rw [← rangeP_ir]; exact ei_range2 ha h
theorem ev_listR {n : Int} (ha : fa en = .ret (.d (.int n), u)) (h : 0 ≤ n ∧ n ≤ 1000000) : dListR false fa en = .ret (.d (dNs (irange 0 n.toNat)), true) := by
  unfold dListR; rw [ha, ret_bind]; dsimp only; rw [if_pos h, if_neg Bool.false_ne_true, rangeP_ir]
theorem ev_tupR {n : Int} (ha : fa en = .ret (.d (.int n), u)) (h : 0 ≤ n ∧ n ≤ 1000000) : dListR true fa en = .ret (.d (.tuple ((irange 0 n.toNat).map PyData.int)), false) := by
  unfold dListR; rw [ha, ret_bind]; dsimp only; rw [if_pos h, if_pos rfl, rangeP_ir]
theorem ev_listR2 {fb : En → M RV} {m n : Int} {v : Bool} (ha : fa en = .ret (.d (.int m), u)) (hb : fb en = .ret (.d (.int n), v)) (h : (0 ≤ m ∧ m ≤ 1000000) ∧ (0 ≤ n ∧ n ≤ 1000000)) : dListR2' fa fb en = .ret (.d (dNs (irange m (n - m).toNat)), true) := by
  unfold dListR2'; rw [ha, ret_bind, hb, ret_bind]; dsimp only; rw [if_pos h, rangeP_ir]
end
/-! ### built-ins upon lists as they come -/
section
variable {α : Type}
theorem intsOf_map' (g : α → Int) (xs : List α) : intsOf (xs.map fun x => .int (g x)) = some (xs.map g) := by
  have e : (xs.map fun x => PyData.int (g x)) = (xs.map g).map PyData.int := by rw [List.map_map]; rfl
  rw [e, intsOf_map]
theorem boolsOf_map' (g : α → Bool) (xs : List α) : boolsOf (xs.map fun x => .bool (g x)) = some (xs.map g) := by
  have e : (xs.map fun x => PyData.bool (g x)) = (xs.map g).map PyData.bool := by rw [List.map_map]; rfl
  rw [e, boolsOf_map]
theorem b_sum' (g : α → Int) (xs : List α) : bSum [.d (.list (xs.map fun x => .int (g x)))] = .ret (.d (.int (xs.map g).sum), false) := by unfold bSum; dsimp only; rw [intsOf_map']
theorem b_sorted' (g : α → Int) (xs : List α) : bSorted [.d (.list (xs.map fun x => .int (g x)))] = .ret (.d (.list ((isort (xs.map g)).map PyData.int)), true) := by unfold bSorted; dsimp only; rw [intsOf_map']
theorem b_max' {g : α → Int} {xs : List α} (h : xs ≠ []) : bMax1 [.d (.list (xs.map fun x => .int (g x)))] = .ret (.d (.int (maxL (xs.map g))), false) := by
  cases xs with
  | nil => exact absurd rfl h
  | cons n ns => unfold bMax1; dsimp only; rw [intsOf_map', List.map_cons]
theorem b_min' {g : α → Int} {xs : List α} (h : xs ≠ []) : bMin1 [.d (.list (xs.map fun x => .int (g x)))] = .ret (.d (.int (minL (xs.map g))), false) := by
  cases xs with
  | nil => exact absurd rfl h
  | cons n ns => unfold bMin1; dsimp only; rw [intsOf_map', List.map_cons]
theorem b_all' (g : α → Bool) (xs : List α) : bAll [.d (.list (xs.map fun x => .bool (g x)))] = .ret (.d (.bool (xs.all g)), false) := by unfold bAll; dsimp only; rw [boolsOf_map']; dsimp only; rw [List.all_map]; rfl
theorem b_any' (g : α → Bool) (xs : List α) : bAny [.d (.list (xs.map fun x => .bool (g x)))] = .ret (.d (.bool (xs.any g)), false) := by unfold bAny; dsimp only; rw [boolsOf_map']; dsimp only; rw [List.any_map]; rfl
end
theorem shaped_ns (ns : List Int) : SeqAt.shaped (dNs ns) = true := (Nc.ns ns).shaped (by decide)
theorem eqv_i (a b : Int) : PyData.eqv (.int a) (.int b) = decide (a = b) := eqv_int a b
theorem any_eqv (k : Int) (ns : List Int) : ((ns.map PyData.int).any fun z => PyData.eqv z (.int k)) = decide (k ∈ ns) := by
  rw [List.any_map, Bool.eq_iff_iff, List.any_eq_true, decide_eq_true_eq]
  constructor
  · rintro ⟨x, h, e⟩
    have e' : decide (x = k) = true := by rw [← eqv_i]; exact e
    rw [← of_decide_eq_true e']; exact h
  · intro h
    exact ⟨k, h, by show PyData.eqv (.int k) (.int k) = true; rw [eqv_i]; simp⟩
theorem op_in_ns (k : Int) (ns : List Int) : oIn false (.d (.int k)) (.d (dNs ns)) = .ret (.d (.bool (decide (k ∈ ns))), false) := by
  unfold oIn; dsimp only; rw [if_pos ⟨rfl, shaped_ns ns⟩, any_eqv]; simp
theorem op_notIn_ns (k : Int) (ns : List Int) : oIn true (.d (.int k)) (.d (dNs ns)) = .ret (.d (.bool (!decide (k ∈ ns))), false) := by
  unfold oIn; dsimp only; rw [if_pos ⟨rfl, shaped_ns ns⟩, any_eqv]; simp
/-- an item of bounds -/
theorem op_ix_bs {bs : List (Int × Int)} {k : Int} (h0 : 0 ≤ k) (h1 : k < bs.length) : oIx (.d (dBs bs)) (.d (.int k)) = .ret (.d (dP (lowAt bs k, highAt bs k)), false) := by
  have hk : k.toNat < bs.length := by omega
  have e : (bs.map dP)[k.toNat]? = some (dP (lowAt bs k, highAt bs k)) := by
    rw [List.getElem?_map, List.getElem?_eq_getElem hk]
    unfold lowAt highAt
    rw [List.getD_eq_getElem?_getD, List.getElem?_eq_getElem hk]
    rfl
  have e2 := atI_nat e
  rw [show ((k.toNat : Nat) : Int) = k by omega] at e2
  exact op_ix_l e2
theorem op_ix_ns {ns : List Int} {k : Int} (h0 : 0 ≤ k) (h1 : k < ns.length) : oIx (.d (dNs ns)) (.d (.int k)) = .ret (.d (.int (ns.getD k.toNat 0)), false) := by
  have hk : k.toNat < ns.length := by omega
  have e : (ns.map PyData.int)[k.toNat]? = some (.int (ns.getD k.toNat 0)) := by
    rw [List.getElem?_map, List.getElem?_eq_getElem hk, List.getD_eq_getElem?_getD, List.getElem?_eq_getElem hk]
    rfl
  have e2 := atI_nat e
  rw [show ((k.toNat : Nat) : Int) = k by omega] at e2
  exact op_ix_l e2
theorem pairsOf_some : ∀ {bsd : List PyData} {b : List (Int × Int)}, pairsOf bsd = some b → bsd = b.map dP
  | [], b, h => by
    simp only [pairsOf, Option.some.injEq] at h
    subst h; rfl
  | d :: r, b, h => by
    unfold pairsOf at h
    split at h
    · rename_i e; cases e
    · rename_i x y r' e
      cases e
      rw [Option.map_eq_some_iff] at h
      obtain ⟨b', h1, rfl⟩ := h
      rw [pairsOf_some h1]; rfl
    · cases h
theorem pairsOf_map (b : List (Int × Int)) : pairsOf (b.map dP) = some b := by
  induction b with
  | nil => rfl
  | cons p b ih => rw [List.map_cons]; show (pairsOf (b.map dP)).map _ = _; rw [ih]; rfl
local macro_rules | `(tactic| walk_at "op") => `(tactic| first | (with_reducible exact op_add_i _ _) | (with_reducible exact op_sub_i _ _) | (with_reducible exact op_lt_i _ _) | (with_reducible exact op_le_i _ _) | (with_reducible exact op_gt_i _ _) | (with_reducible exact op_ge_i _ _) | (with_reducible exact op_eq_i _ _) | (with_reducible exact op_ne_i _ _) | (with_reducible exact op_ix_p0 _) | (with_reducible exact op_ix_p1 _) | (with_reducible exact op_ix_0 _ _) | (with_reducible exact op_ix_1 _ _ _) | (with_reducible exact op_isN_d) | (with_reducible exact op_notN_d) | (with_reducible exact op_isB_d _ _) | (with_reducible exact op_notB_d _ _) | (with_reducible exact b_len_p _) | (with_reducible exact b_len_l _) | (with_reducible exact b_len_t _) | (with_reducible exact b_sum _) | (with_reducible exact b_sorted _) | (with_reducible exact b_abs _) | (with_reducible exact b_max2 _ _) | (with_reducible exact b_min2 _ _) | ((with_reducible apply op_mod_i); with_reducible assumption) | ((with_reducible apply op_div_i); with_reducible assumption) | ((with_reducible apply op_mul_i); with_reducible assumption))
local macro_rules | `(tactic| walk_at "F") => `(tactic| walk_at "op")
local macro_rules | `(tactic| walk_at "A") => `(tactic| first | (with_reducible exact ea_nil) | ((with_reducible apply ea_cons); walk_at "E"; walk_at "A"))
local macro_rules | `(tactic| walk_at "T") => `(tactic| first | ((with_reducible apply et_val); walk_at "E") | ((with_reducible apply et_not); walk_at "T") | ((with_reducible apply et_or); walk_at "T"; (intro _; walk_at "T")) | ((with_reducible apply et_and); walk_at "T"; (intro _; walk_at "T")))
local macro_rules | `(tactic| walk_at "O") => `(tactic| first | (with_reducible exact eo_none) | ((with_reducible apply eo_some); walk_at "E"))
local macro_rules | `(tactic| walk_at "E") => `(tactic| first
  | (with_reducible exact ev_c)
  | ((with_reducible apply ev_var); rfl)
  | ((with_reducible apply ev_bin); walk_at "E"; walk_at "E"; walk_at "op")
  | ((with_reducible apply ev_call); walk_at "A"; walk_at "F")
  | ((with_reducible apply ev_tup); walk_at "A"; rfl)
  | ((with_reducible apply ev_lst); walk_at "A"; rfl)
  | ((with_reducible apply ev_neg); walk_at "E")
  | ((with_reducible apply ev_isi); walk_at "E")
  | ((with_reducible apply ev_not); walk_at "E")
  | ((with_reducible apply ev_and'); walk_at "E"; (intro _; walk_at "E"))
  | ((with_reducible apply ev_or'); walk_at "E"; (intro _; walk_at "E"))
  | ((with_reducible apply ev_chain); walk_at "E"; walk_at "E"; walk_at "E"; walk_at "op"; walk_at "op")
  | ((with_reducible apply ev_sl); walk_at "E"; walk_at "O"; walk_at "O")
  | ((with_reducible apply ev_rev); walk_at "E")
  | ((with_reducible apply ev_ifT); ((with_reducible apply ev_is); walk_at "T"; rfl); walk_at "E")
  | ((with_reducible apply ev_ifF); ((with_reducible apply ev_is); walk_at "T"; rfl); walk_at "E"))
local macro_rules | `(tactic| walk_at "I") => `(tactic| first | ((with_reducible apply ei_list); walk_at "E"; done) | ((with_reducible apply ei_tup); walk_at "E") | ((with_reducible apply ei_enum); walk_at "A") | ((with_reducible apply ei_zip); walk_at "A"))
local macro_rules | `(tactic| walk_at "S") => `(tactic| first
  | (with_reducible exact es_nil)
  | ((with_reducible apply es_retV); rfl)
  | ((with_reducible apply es_retO); rfl)
  | ((with_reducible apply es_ret); walk_at "E")
  | ((with_reducible apply es_seq); walk_at "S"; walk_at "S")
  | ((with_reducible apply es_expr); walk_at "E")
  | ((with_reducible apply es_set); walk_at "E")
  | ((with_reducible apply es_setO); walk_at "E")
  | ((with_reducible apply es_par); walk_at "A")
  | ((with_reducible apply es_asgT); walk_at "E"; rfl)
  | ((with_reducible apply es_ifF); ((with_reducible apply ev_is); walk_at "T"; (first | rfl | with_reducible assumption)); walk_at "S")
  | ((with_reducible apply es_ifT); ((with_reducible apply ev_is); walk_at "T"; (first | rfl | with_reducible assumption)); walk_at "S"))
local macro_rules | `(tactic| walk_at "L") => `(tactic| first | with_reducible assumption | exact okB_len (by with_reducible assumption) | (simp only [List.length_map, irange_len, List.length_range]; omega))
local macro_rules | `(tactic| walk_at "I") => `(tactic| (first | ((with_reducible apply ei_rng1); walk_at "A"; omega) | ((with_reducible apply ei_rng2); walk_at "A"; omega)))
local macro_rules | `(tactic| walk_at "E") => `(tactic| first
  | ((with_reducible apply ev_compB); walk_at "I"; walk_at "L"; (intro _ _; walk_at "E"))
  | ((with_reducible apply ev_compBF); walk_at "I"; walk_at "L"; (intro _ _; walk_at "T"); (intro _ _ _; walk_at "E"))
  | ((with_reducible apply ev_compN); walk_at "I"; walk_at "L"; (intro _ _; walk_at "E"))
  | ((with_reducible apply ev_compNF); walk_at "I"; walk_at "L"; (intro _ _; walk_at "T"); (intro _ _ _; walk_at "E")))
local macro_rules | `(tactic| walk_at "F") => `(tactic| first | (with_reducible exact b_sum' _ _) | (with_reducible exact b_all' _ _) | (with_reducible exact b_any' _ _) | (with_reducible exact b_sorted' _ _))
theorem leftP_ir (b : List (Int × Int)) (ds : List Int) : leftP b ds = (irange 0 b.length).filter fun k => !decide (k ∈ ds) := by
  unfold leftP
  rw [irange_zero]
  unfold Dt.upTo
  congr 1
  funext k
  congr 1
  rw [Bool.eq_iff_iff, inN_iff, decide_eq_true_eq]
theorem next_places_eq {b : List (Int × Int)} {ds : List Int} (h : b.length ≤ 1000) : F_next_places [.d (dBs b), .d (dNs ds)] = .ret (.d (dNs (nextP b ds)), true) := by
  have hl : (leftP b ds).length ≤ lim := by
    unfold leftP
    refine Nat.le_trans (List.length_filter_le _ _) ?_
    simp [lim]; omega
  have hb : ∀ k ∈ leftP b ds, 0 ≤ k ∧ k < b.length := fun k hk => (mem_leftP.mp hk).1
  unfold F_next_places b_next_places
  apply run_rt rfl
  with_reducible apply es_seq
  · with_reducible apply es_set
    refine list_of (ys := (leftP b ds).map PyData.int) (ev_compNF (xs := irange 0 b.length) (emb := PyData.int) (f := PyData.int) (g := fun k => !decide (k ∈ ds)) (b := false) ?_ (by rw [irange_len]; simp [lim]; omega) (fun k _ => ?_) (fun k _ _ => ?_)) (by rw [leftP_ir])
    · have e := ei_rng1 (en := hide (enOf 5 [.d (dBs b), .d (dNs ds)])) (fs := aCons (dCall bLen (aCons (dVar 0) aNil)) aNil) (n := ((b.map dP).length : Nat)) (by walk_at "A") (by rw [List.length_map]; omega)
      rw [e, List.length_map]
      rfl
    · with_reducible apply et_val
      with_reducible apply ev_bin
      · walk_at "E"
      · walk_at "E"
      · exact op_notIn_ns k ds
    · walk_at "E"
  · with_reducible apply es_ret
    refine list_of (ys := (nextP b ds).map PyData.int) (ev_compNF (xs := leftP b ds) (emb := PyData.int) (f := PyData.int) (g := fun k => (leftP b ds).all fun j => decide (lowAt b k ≤ highAt b j)) (b := false) (by walk_at "I") hl (fun k hk => ?_) (fun k _ _ => ?_)) rfl
    · with_reducible apply et_val
      with_reducible apply ev_call
      · with_reducible apply ea_cons
        · refine ev_compN (xs := leftP b ds) (emb := PyData.int) (f := fun j => .bool (decide (lowAt b k ≤ highAt b j))) (b := false) (by walk_at "I") hl fun j hj => ?_
          have ek := op_ix_bs (hb k hk).1 (hb k hk).2
          have ej := op_ix_bs (hb j hj).1 (hb j hj).2
          with_reducible apply ev_bin
          · with_reducible apply ev_bin
            · with_reducible apply ev_bin
              · walk_at "E"
              · walk_at "E"
              · exact ek
            · walk_at "E"
            · exact op_ix_p0 _
          · with_reducible apply ev_bin
            · with_reducible apply ev_bin
              · walk_at "E"
              · walk_at "E"
              · exact ej
            · walk_at "E"
            · exact op_ix_p1 _
          · exact op_le_i _ _
        · walk_at "A"
      · exact b_all' _ _
    · walk_at "E"
end Pg

/-! ways_from: what its body computes. -/
namespace Pg
open PySem L2 Dt
local macro_rules | `(tactic| walk_at "op") => `(tactic| first | (with_reducible exact op_add_i _ _) | (with_reducible exact op_sub_i _ _) | (with_reducible exact op_lt_i _ _) | (with_reducible exact op_le_i _ _) | (with_reducible exact op_gt_i _ _) | (with_reducible exact op_ge_i _ _) | (with_reducible exact op_eq_i _ _) | (with_reducible exact op_ne_i _ _) | (with_reducible exact op_ix_p0 _) | (with_reducible exact op_ix_p1 _) | (with_reducible exact op_ix_0 _ _) | (with_reducible exact op_ix_1 _ _ _) | (with_reducible exact op_isN_d) | (with_reducible exact op_notN_d) | (with_reducible exact op_isB_d _ _) | (with_reducible exact op_notB_d _ _) | (with_reducible exact b_len_p _) | (with_reducible exact b_len_l _) | (with_reducible exact b_len_t _) | (with_reducible exact b_sum _) | (with_reducible exact b_sorted _) | (with_reducible exact b_abs _) | (with_reducible exact b_max2 _ _) | (with_reducible exact b_min2 _ _) | ((with_reducible apply op_mod_i); with_reducible assumption) | ((with_reducible apply op_div_i); with_reducible assumption) | ((with_reducible apply op_mul_i); with_reducible assumption))
local macro_rules | `(tactic| walk_at "F") => `(tactic| walk_at "op")
local macro_rules | `(tactic| walk_at "A") => `(tactic| first | (with_reducible exact ea_nil) | ((with_reducible apply ea_cons); walk_at "E"; walk_at "A"))
local macro_rules | `(tactic| walk_at "T") => `(tactic| first | ((with_reducible apply et_val); walk_at "E") | ((with_reducible apply et_not); walk_at "T") | ((with_reducible apply et_or); walk_at "T"; (intro _; walk_at "T")) | ((with_reducible apply et_and); walk_at "T"; (intro _; walk_at "T")))
local macro_rules | `(tactic| walk_at "O") => `(tactic| first | (with_reducible exact eo_none) | ((with_reducible apply eo_some); walk_at "E"))
local macro_rules | `(tactic| walk_at "E") => `(tactic| first
  | (with_reducible exact ev_c)
  | ((with_reducible apply ev_var); rfl)
  | ((with_reducible apply ev_bin); walk_at "E"; walk_at "E"; walk_at "op")
  | ((with_reducible apply ev_call); walk_at "A"; walk_at "F")
  | ((with_reducible apply ev_tup); walk_at "A"; rfl)
  | ((with_reducible apply ev_lst); walk_at "A"; rfl)
  | ((with_reducible apply ev_neg); walk_at "E")
  | ((with_reducible apply ev_isi); walk_at "E")
  | ((with_reducible apply ev_not); walk_at "E")
  | ((with_reducible apply ev_and'); walk_at "E"; (intro _; walk_at "E"))
  | ((with_reducible apply ev_or'); walk_at "E"; (intro _; walk_at "E"))
  | ((with_reducible apply ev_chain); walk_at "E"; walk_at "E"; walk_at "E"; walk_at "op"; walk_at "op")
  | ((with_reducible apply ev_sl); walk_at "E"; walk_at "O"; walk_at "O")
  | ((with_reducible apply ev_rev); walk_at "E")
  | ((with_reducible apply ev_ifT); ((with_reducible apply ev_is); walk_at "T"; rfl); walk_at "E")
  | ((with_reducible apply ev_ifF); ((with_reducible apply ev_is); walk_at "T"; rfl); walk_at "E"))
local macro_rules | `(tactic| walk_at "I") => `(tactic| first | ((with_reducible apply ei_list); walk_at "E"; done) | ((with_reducible apply ei_tup); walk_at "E") | ((with_reducible apply ei_enum); walk_at "A") | ((with_reducible apply ei_zip); walk_at "A"))
local macro_rules | `(tactic| walk_at "S") => `(tactic| first
  | (with_reducible exact es_nil)
  | ((with_reducible apply es_retV); rfl)
  | ((with_reducible apply es_retO); rfl)
  | ((with_reducible apply es_ret); walk_at "E")
  | ((with_reducible apply es_seq); walk_at "S"; walk_at "S")
  | ((with_reducible apply es_expr); walk_at "E")
  | ((with_reducible apply es_set); walk_at "E")
  | ((with_reducible apply es_setO); walk_at "E")
  | ((with_reducible apply es_par); walk_at "A")
  | ((with_reducible apply es_asgT); walk_at "E"; rfl)
  | ((with_reducible apply es_ifF); ((with_reducible apply ev_is); walk_at "T"; (first | rfl | with_reducible assumption)); walk_at "S")
  | ((with_reducible apply es_ifT); ((with_reducible apply ev_is); walk_at "T"; (first | rfl | with_reducible assumption)); walk_at "S"))
local macro_rules | `(tactic| walk_at "L") => `(tactic| first | with_reducible assumption | exact okB_len (by with_reducible assumption) | (simp only [List.length_map, irange_len, List.length_range]; omega))
local macro_rules | `(tactic| walk_at "I") => `(tactic| (first | ((with_reducible apply ei_rng1); walk_at "A"; omega) | ((with_reducible apply ei_rng2); walk_at "A"; omega)))
local macro_rules | `(tactic| walk_at "E") => `(tactic| first
  | ((with_reducible apply ev_compB); walk_at "I"; walk_at "L"; (intro _ _; walk_at "E"))
  | ((with_reducible apply ev_compBF); walk_at "I"; walk_at "L"; (intro _ _; walk_at "T"); (intro _ _ _; walk_at "E"))
  | ((with_reducible apply ev_compN); walk_at "I"; walk_at "L"; (intro _ _; walk_at "E"))
  | ((with_reducible apply ev_compNF); walk_at "I"; walk_at "L"; (intro _ _; walk_at "T"); (intro _ _ _; walk_at "E")))
local macro_rules | `(tactic| walk_at "F") => `(tactic| first | (with_reducible exact b_sum' _ _) | (with_reducible exact b_all' _ _) | (with_reducible exact b_any' _ _) | (with_reducible exact b_sorted' _ _))
theorem compL_wp {α : Type} {own sl : List Nat} {bd : PyData → Option (List PyData)} {tt : En → M Bool} {el : En → M RV} {en : En} {emb : α → PyData} {f : α → PyData} {W : Wd} {E : Err → Wd → Prop} :
    ∀ {xs : List α}, (∀ x ∈ xs, ∃ ds, bd (emb x) = some ds ∧ tt (setE (wipeE en own) sl ds) = .ret true ∧ wp (nox (el (setE (wipeE en own) sl ds))) W (fun r W' => W' = W ∧ r.1 = .d (f x)) E) → wp (compL own sl bd tt el en (xs.map emb)) W (fun ys W' => W' = W ∧ ys = xs.map f) E
  | [], _ => ⟨rfl, rfl⟩
  | x :: xs, h => by
    obtain ⟨ds, h1, h2, h3⟩ := h x List.mem_cons_self
    have ih := compL_wp (f := f) (xs := xs) fun y hy => h y (List.mem_cons_of_mem _ hy)
    rw [List.map_cons]
    unfold compL
    rw [h1]
    dsimp only
    rw [h2, nox_ret, ret_bind, if_pos rfl, wp_bind]
    refine wp_mono h3 (fun r W' q => ?_) fun _ _ q => q
    obtain ⟨rfl, e⟩ := q
    rw [e]
    dsimp only
    rw [wp_bind]
    refine wp_mono ih (fun ys W' q => ?_) fun _ _ q => q
    obtain ⟨rfl, rfl⟩ := q
    exact ⟨rfl, rfl⟩
theorem wp_call {F : List AV → M RV} {fs : En → M (List AV)} {en : En} {W : Wd} {Q : RV → Wd → Prop} {E : Err → Wd → Prop} (h : wp (fs en) W (fun as W' => wp (F as) W' Q E) E) : wp (dCall F fs en) W Q E := (wp_bind _ _ _ _ _).mpr h
theorem wp_acons {fa : En → M RV} {fs : En → M (List AV)} {en : En} {W : Wd} {Q : List AV → Wd → Prop} {E : Err → Wd → Prop} (h : wp (fa en) W (fun r W' => wp ((fs en).bind fun as => .ret (r.1 :: as)) W' Q E) E) : wp (aCons fa fs en) W Q E := (wp_bind _ _ _ _ _).mpr h
theorem wp_comp {own sl : List Nat} {bd : PyData → Option (List PyData)} {it : En → M (List PyData)} {tt : En → M Bool} {el : En → M RV} {en : En} {xs : List PyData} {W : Wd} {Q : RV → Wd → Prop} {E : Err → Wd → Prop} (hi : it en = .ret xs) (hl : xs.length ≤ lim) (h : wp (compL own sl bd tt el en xs) W (fun ys W' => Q (.d (.list ys), true) W') E) : wp (dComp own sl bd it tt el en) W Q E := by
  unfold dComp
  rw [hi, ret_bind, if_pos hl, wp_bind]
  exact h
theorem ways_at {b : List (Int × Int)} {ds : List Int} {i d : Nat} (h7 : b.length ≤ 7) (hpl : PlOk b.length ds) (hn : b.length ≤ ds.length + d) : fWaysD d [.d (dBs b), .d (dNs ds), .ob i] = .oget i fun o => (match o with
        | .memo b' => if b' = b then .ret (.d (.int (cnt b ds)), false) else .stuck
        | _ => .stuck) := by
  unfold fWaysD
  dsimp only
  rw [pairsOf_map, intsOf_map]
  dsimp only
  rw [if_pos ⟨h7, hpl, hn⟩]
  first | done | rfl
/-- the sum that is laid down -/
abbrev fvWays (d : Nat) : En → M RV := dCall bSum (aCons (dComp [4] [4] bdN (iSeqD (dCall F_next_places (aCons (dVar 0) (aCons (dVar 1) aNil)))) yes (dCall (fWaysD d) (aCons (dVar 0) (aCons (dBin oAdd (dVar 1) (dLst (aCons (dVar 4) aNil))) (aCons (dVar 2) aNil))))) aNil)
theorem ways_hsem (d : Nat) (b : List (Int × Int)) (ds : List Int) (i : Nat) (W : Wd) (bsd dsd : List PyData) (u : Option Slot) (hb : pairsOf bsd = some b) (hd : intsOf dsd = some ds) (h7 : b.length ≤ 7) (hpl : PlOk b.length ds) (hlt : ds.length < b.length) (hn : b.length ≤ ds.length + (d + 1))
    (hW : W[i]? = some (.memo b)) : wp (fvWays d (expo [some (.v (.d (.list bsd))), some (.v (.d (.list dsd))), some (.v (.ob i)), none, u])) W (fun r W' => W' = W ∧ r.1 = .d (.int (cnt b ds))) (fun _ _ => False) := by
  rw [pairsOf_some hb, intsOf_some hd]
  have hl : (nextP b ds).length ≤ lim := by
    have h1 : (nextP b ds).length ≤ (leftP b ds).length := List.length_filter_le _ _
    have h2 : (leftP b ds).length ≤ ((List.range b.length).map fun k : Nat => (k : Int)).length := List.length_filter_le _ _
    rw [List.length_map, List.length_range] at h2
    have : lim = 1000000 := rfl
    omega
  have hdl : ds.length + 1 ≤ lim := by
    have : lim = 1000000 := rfl
    omega
  have hi : iSeqD (dCall F_next_places (aCons (dVar 0) (aCons (dVar 1) aNil))) (expo [some (.v (.d (dBs b))), some (.v (.d (dNs ds))), some (.v (.ob i)), none, u]) = .ret ((nextP b ds).map PyData.int) := by
    with_reducible apply ei_list
    with_reducible apply ev_call
    · exact ea_cons (ev_var rfl) (ea_cons (ev_var rfl) ea_nil)
    · exact next_places_eq (by omega)
  refine wp_call (wp_acons (wp_comp hi (by rw [List.length_map]; exact hl) ?_))
  refine wp_mono (compL_wp (f := fun j => .int (cnt b (ds ++ [j]))) fun j hj => ⟨_, rfl, rfl, ?_⟩) (fun ys W' q => ?_) fun _ _ q => q
  · have hm := hpl.more (nextP_sub hj)
    have hargs : aCons (dVar 0) (aCons (dBin oAdd (dVar 1) (dLst (aCons (dVar 4) aNil))) (aCons (dVar 2) aNil)) (setE (wipeE (expo [some (.v (.d (dBs b))), some (.v (.d (dNs ds))), some (.v (.ob i)), none, u]) [4]) [4] [PyData.int j]) = .ret [.d (dBs b), .d (dNs (ds ++ [j])), .ob i] :=
      ea_cons (ev_var rfl) (ea_cons (ev_bin (ev_var rfl) (ev_lst (ea_cons (ev_var rfl) ea_nil) rfl) (op_add_app (ys := []) (r := .none) hdl j)) (ea_cons (ev_var rfl) ea_nil))
    have he : dCall (fWaysD d) (aCons (dVar 0) (aCons (dBin oAdd (dVar 1) (dLst (aCons (dVar 4) aNil))) (aCons (dVar 2) aNil))) (setE (wipeE (expo [some (.v (.d (dBs b))), some (.v (.d (dNs ds))), some (.v (.ob i)), none, u]) [4]) [4] [PyData.int j]) = fWaysD d [.d (dBs b), .d (dNs (ds ++ [j])), .ob i] := by
      unfold dCall
      rw [hargs, ret_bind]
    rw [he, ways_at h7 hm (by rw [List.length_append, List.length_singleton]; omega)]
    refine ⟨_, hW, ?_⟩
    dsimp only
    rw [if_pos rfl]
    exact ⟨rfl, rfl⟩
  · obtain ⟨rfl, rfl⟩ := q
    show wp (bSum [.d (.list ((nextP b ds).map fun j => .int (cnt b (ds ++ [j]))))]) _ _ _
    rw [b_sum' (fun j => cnt b (ds ++ [j])), ← cnt_step hlt]
    exact ⟨rfl, rfl⟩
/-- the body, the answer told at once -/
abbrev bWays0 : En → M Out := sSeq (sIf (dTest (dBin oEq (dCall bLen (aCons (dVar 1) aNil)) (dCall bLen (aCons (dVar 0) aNil)))) (sRet (dC (.int 1))) sNil) fun _ => .stuck
abbrev bWays (d : Nat) : En → M Out := sSeq (sIf (dTest (dBin oEq (dCall bLen (aCons (dVar 1) aNil)) (dCall bLen (aCons (dVar 0) aNil)))) (sRet (dC (.int 1))) sNil) (sWays (d + 1))
theorem ways_test (b : List (Int × Int)) (ds : List Int) (i : Nat) : dTest (dBin oEq (dCall bLen (aCons (dVar 1) aNil)) (dCall bLen (aCons (dVar 0) aNil))) (expo (enOf 5 [.d (dBs b), .d (dNs ds), .ob i])) = .ret (decide (ds.length = b.length)) := by
  refine Eq.trans (by walk_at "T") ?_
  rw [List.length_map, List.length_map]
  congr 1
  rw [decide_eq_decide]
  omega
theorem pl_len {b : List (Int × Int)} {ds : List Int} (h : PlOk b.length ds) : ds.length ≤ b.length := by
  have := nodup_le (m := Dt.upTo b.length) h.1 fun x hx => Dt.mem_upTo.mpr (h.2 x hx)
  rw [upTo_len] at this
  exact this
theorem ways_inv {d : Nat} {as : List AV} {W : Wd} {Q : RV → Wd → Prop} {E : Err → Wd → Prop} (h : wp (fWaysD d as) W Q E) : ∃ b ds i, as = [.d (dBs b), .d (dNs ds), .ob i] ∧ b.length ≤ 7 ∧ PlOk b.length ds ∧ b.length ≤ ds.length + d ∧ W[i]? = some (.memo b) ∧ Q (.d (.int (cnt b ds)), false) W := by
  unfold fWaysD at h
  split at h
  · split at h
    · rename_i b ds hb hd
      split at h
      · rename_i hc
        obtain ⟨o, hW, h⟩ := h
        dsimp only at h
        split at h
        · split at h
          · rename_i e
            subst e
            exact ⟨_, ds, _, by rw [pairsOf_some hb, intsOf_some hd], hc.1, hc.2.1, hc.2.2, hW, h⟩
          · exact h.elim
        · exact h.elim
      · exact h.elim
    · exact h.elim
  · exact h.elim
theorem ways_sem0 {as : List AV} {W : Wd} {Q : RV → Wd → Prop} {E : Err → Wd → Prop} (h : wp (fWaysD 0 as) W Q E) : wp (runF 3 5 bWays0 as) W Q E := by
  obtain ⟨b, ds, i, rfl, h7, hpl, hl, hW, hQ⟩ := ways_inv h
  have e : ds.length = b.length := by have := pl_len hpl; omega
  have : runF 3 5 bWays0 [.d (dBs b), .d (dNs ds), .ob i] = .ret (.d (.int 1), false) := by
    apply run_rt rfl
    with_reducible apply es_seqR
    with_reducible apply es_ifT
    · rw [ways_test, decide_eq_true e]
    · walk_at "S"
  rw [this]
  rw [cnt_full e] at hQ
  exact hQ
theorem ways_sem {d : Nat} {as : List AV} {W : Wd} {Q : RV → Wd → Prop} {E : Err → Wd → Prop} (h : wp (fWaysD (d + 1) as) W Q E) : wp (runF 3 5 (bWays d) as) W Q E := by
  obtain ⟨b, ds, i, rfl, h7, hpl, hl, hW, hQ⟩ := ways_inv h
  by_cases e : ds.length = b.length
  · have : runF 3 5 (bWays d) [.d (dBs b), .d (dNs ds), .ob i] = .ret (.d (.int 1), false) := by
      apply run_rt rfl
      with_reducible apply es_seqR
      with_reducible apply es_ifT
      · rw [ways_test, decide_eq_true e]
      · walk_at "S"
    rw [this]
    rw [cnt_full e] at hQ
    exact hQ
  · have hlt : ds.length < b.length := by have := pl_len hpl; omega
    have : runF 3 5 (bWays d) [.d (dBs b), .d (dNs ds), .ob i] = (sWays (d + 1) [some (.v (.d (dBs b))), some (.v (.d (dNs ds))), some (.v (.ob i)), none, none]).bind outR := by
      unfold runF
      rw [if_pos (show [AV.d (dBs b), AV.d (dNs ds), AV.ob i].length = 3 from rfl)]
      have h1 : sIf (dTest (dBin oEq (dCall bLen (aCons (dVar 1) aNil)) (dCall bLen (aCons (dVar 0) aNil)))) (sRet (dC (.int 1))) sNil (enOf 5 [.d (dBs b), .d (dNs ds), .ob i]) = .ret (.nx (enOf 5 [.d (dBs b), .d (dNs ds), .ob i])) := by
        with_reducible apply es_ifF
        · rw [ways_test, decide_eq_false e]
        · walk_at "S"
      unfold bWays sSeq
      rw [h1, ret_bind]
      rfl
    rw [this, wp_bind]
    unfold sWays
    dsimp only
    rw [pairsOf_map, intsOf_map]
    dsimp only
    rw [if_pos ⟨h7, hpl, hlt, hl⟩]
    refine ⟨_, hW, ?_⟩
    dsimp only
    rw [if_pos rfl]
    exact hQ
end Pg

/-! Figures told by name; fractions as figures of 5040. -/
namespace Pg
open PySem L2 Dt
local macro_rules | `(tactic| walk_at "op") => `(tactic| first | (with_reducible exact op_add_i _ _) | (with_reducible exact op_sub_i _ _) | (with_reducible exact op_lt_i _ _) | (with_reducible exact op_le_i _ _) | (with_reducible exact op_gt_i _ _) | (with_reducible exact op_ge_i _ _) | (with_reducible exact op_eq_i _ _) | (with_reducible exact op_ne_i _ _) | (with_reducible exact op_ix_p0 _) | (with_reducible exact op_ix_p1 _) | (with_reducible exact op_ix_0 _ _) | (with_reducible exact op_ix_1 _ _ _) | (with_reducible exact op_isN_d) | (with_reducible exact op_notN_d) | (with_reducible exact op_isB_d _ _) | (with_reducible exact op_notB_d _ _) | (with_reducible exact b_len_p _) | (with_reducible exact b_len_l _) | (with_reducible exact b_len_t _) | (with_reducible exact b_sum _) | (with_reducible exact b_sorted _) | (with_reducible exact b_abs _) | (with_reducible exact b_max2 _ _) | (with_reducible exact b_min2 _ _) | ((with_reducible apply op_mod_i); with_reducible assumption) | ((with_reducible apply op_div_i); with_reducible assumption) | ((with_reducible apply op_mul_i); with_reducible assumption))
local macro_rules | `(tactic| walk_at "F") => `(tactic| walk_at "op")
local macro_rules | `(tactic| walk_at "A") => `(tactic| first | (with_reducible exact ea_nil) | ((with_reducible apply ea_cons); walk_at "E"; walk_at "A"))
local macro_rules | `(tactic| walk_at "T") => `(tactic| first | ((with_reducible apply et_val); walk_at "E") | ((with_reducible apply et_not); walk_at "T") | ((with_reducible apply et_or); walk_at "T"; (intro _; walk_at "T")) | ((with_reducible apply et_and); walk_at "T"; (intro _; walk_at "T")))
local macro_rules | `(tactic| walk_at "O") => `(tactic| first | (with_reducible exact eo_none) | ((with_reducible apply eo_some); walk_at "E"))
local macro_rules | `(tactic| walk_at "E") => `(tactic| first
  | (with_reducible exact ev_c)
  | ((with_reducible apply ev_var); rfl)
  | ((with_reducible apply ev_bin); walk_at "E"; walk_at "E"; walk_at "op")
  | ((with_reducible apply ev_call); walk_at "A"; walk_at "F")
  | ((with_reducible apply ev_tup); walk_at "A"; rfl)
  | ((with_reducible apply ev_lst); walk_at "A"; rfl)
  | ((with_reducible apply ev_neg); walk_at "E")
  | ((with_reducible apply ev_isi); walk_at "E")
  | ((with_reducible apply ev_not); walk_at "E")
  | ((with_reducible apply ev_and'); walk_at "E"; (intro _; walk_at "E"))
  | ((with_reducible apply ev_or'); walk_at "E"; (intro _; walk_at "E"))
  | ((with_reducible apply ev_chain); walk_at "E"; walk_at "E"; walk_at "E"; walk_at "op"; walk_at "op")
  | ((with_reducible apply ev_sl); walk_at "E"; walk_at "O"; walk_at "O")
  | ((with_reducible apply ev_rev); walk_at "E")
  | ((with_reducible apply ev_ifT); ((with_reducible apply ev_is); walk_at "T"; rfl); walk_at "E")
  | ((with_reducible apply ev_ifF); ((with_reducible apply ev_is); walk_at "T"; rfl); walk_at "E"))
local macro_rules | `(tactic| walk_at "I") => `(tactic| first | ((with_reducible apply ei_list); walk_at "E"; done) | ((with_reducible apply ei_tup); walk_at "E") | ((with_reducible apply ei_enum); walk_at "A") | ((with_reducible apply ei_zip); walk_at "A"))
local macro_rules | `(tactic| walk_at "S") => `(tactic| first
  | (with_reducible exact es_nil)
  | ((with_reducible apply es_retV); rfl)
  | ((with_reducible apply es_retO); rfl)
  | ((with_reducible apply es_ret); walk_at "E")
  | ((with_reducible apply es_seq); walk_at "S"; walk_at "S")
  | ((with_reducible apply es_expr); walk_at "E")
  | ((with_reducible apply es_set); walk_at "E")
  | ((with_reducible apply es_setO); walk_at "E")
  | ((with_reducible apply es_par); walk_at "A")
  | ((with_reducible apply es_asgT); walk_at "E"; rfl)
  | ((with_reducible apply es_ifF); ((with_reducible apply ev_is); walk_at "T"; (first | rfl | with_reducible assumption)); walk_at "S")
  | ((with_reducible apply es_ifT); ((with_reducible apply ev_is); walk_at "T"; (first | rfl | with_reducible assumption)); walk_at "S"))
local macro_rules | `(tactic| walk_at "F") => `(tactic| with_reducible exact is_int_eq _ _ _)
local macro_rules | `(tactic| walk_at "F") => `(tactic| with_reducible exact is_bound_eq _)
local macro_rules | `(tactic| walk_at "F") => `(tactic| ((with_reducible apply is_bounds_eq); exact okB_len (by with_reducible assumption)))
local macro_rules | `(tactic| walk_at "F") => `(tactic| ((with_reducible apply check_ok); with_reducible assumption))
local macro_rules | `(tactic| walk_at "F") => `(tactic| ((with_reducible apply lows_eq); exact okB_len (by with_reducible assumption)))
local macro_rules | `(tactic| walk_at "F") => `(tactic| ((with_reducible apply highs_eq); exact okB_len (by with_reducible assumption)))
local macro_rules | `(tactic| walk_at "F") => `(tactic| ((with_reducible apply sum_range_eq); with_reducible assumption))
local macro_rules | `(tactic| walk_at "F") => `(tactic| ((with_reducible apply mean_range_eq); with_reducible assumption))
local macro_rules | `(tactic| walk_at "F") => `(tactic| ((with_reducible apply median_range_eq); with_reducible assumption))
local macro_rules | `(tactic| walk_at "F") => `(tactic| ((with_reducible apply least_range_eq); with_reducible assumption))
local macro_rules | `(tactic| walk_at "F") => `(tactic| ((with_reducible apply greatest_range_eq); with_reducible assumption))
local macro_rules | `(tactic| walk_at "F") => `(tactic| ((with_reducible apply choices_eq) <;> with_reducible assumption))
local macro_rules | `(tactic| walk_at "F") => `(tactic| ((with_reducible apply b_min); with_reducible assumption))
local macro_rules | `(tactic| walk_at "F") => `(tactic| ((with_reducible apply b_max); with_reducible assumption))
theorem natAbs_big {k : Int} (h : k.natAbs < 1000000) : k.natAbs < big := Nat.lt_trans h (by unfold big; decide +kernel)
inductive Fg
  | sum | mean | median | least | greatest
def Fg.s : Fg → Str
  | .sum => "sum" | .mean => "mean" | .median => "median" | .least => "least" | .greatest => "greatest"
def figP : Fg → List Int → Int × Int
  | .sum, r => (r.sum, 1)
  | .mean, r => lowP r.sum r.length
  | .median, r => medP r
  | .least, r => (minL r, 1)
  | .greatest, r => (maxL r, 1)
theorem frac_int (a b : Int) : F_as_fractions [.d (dP (a, b))] = .ret (.d (.list [dP (a, 1), dP (b, 1)]), true) := by
  unfold F_as_fractions b_as_fractions
  rfl
theorem frac_pair (p q : Int × Int) : F_as_fractions [.d (.tuple [dP p, dP q])] = .ret (.d (.list [dP p, dP q]), true) := by
  unfold F_as_fractions b_as_fractions
  rfl
theorem op_eq_s {a b : Str} {r : Bool} (h1 : SeqAt.shaped (.str a) = true) (h2 : SeqAt.shaped (.str b) = true) (e : PyData.eqv (.str a) (.str b) = r) : oEq (.d (.str a)) (.d (.str b)) = .ret (.d (.bool r), false) := by
  rw [op_eq_d h1 h2, e]
def Fg.is_sum : Fg → Bool
  | .sum => true
  | _ => false
theorem fg_sum (f : Fg) : oEq (.d (.str f.s)) (.d (.str "sum")) = .ret (.d (.bool f.is_sum), false) := by
  cases f <;> exact op_eq_s (by decide +kernel) (by decide +kernel) (by decide +kernel)
local macro_rules | `(tactic| walk_at "op") => `(tactic| with_reducible exact fg_sum _)
def Fg.is_mean : Fg → Bool
  | .mean => true
  | _ => false
theorem fg_mean (f : Fg) : oEq (.d (.str f.s)) (.d (.str "mean")) = .ret (.d (.bool f.is_mean), false) := by
  cases f <;> exact op_eq_s (by decide +kernel) (by decide +kernel) (by decide +kernel)
local macro_rules | `(tactic| walk_at "op") => `(tactic| with_reducible exact fg_mean _)
def Fg.is_median : Fg → Bool
  | .median => true
  | _ => false
theorem fg_median (f : Fg) : oEq (.d (.str f.s)) (.d (.str "median")) = .ret (.d (.bool f.is_median), false) := by
  cases f <;> exact op_eq_s (by decide +kernel) (by decide +kernel) (by decide +kernel)
local macro_rules | `(tactic| walk_at "op") => `(tactic| with_reducible exact fg_median _)
def Fg.is_least : Fg → Bool
  | .least => true
  | _ => false
theorem fg_least (f : Fg) : oEq (.d (.str f.s)) (.d (.str "least")) = .ret (.d (.bool f.is_least), false) := by
  cases f <;> exact op_eq_s (by decide +kernel) (by decide +kernel) (by decide +kernel)
local macro_rules | `(tactic| walk_at "op") => `(tactic| with_reducible exact fg_least _)
def Fg.is_greatest : Fg → Bool
  | .greatest => true
  | _ => false
theorem fg_greatest (f : Fg) : oEq (.d (.str f.s)) (.d (.str "greatest")) = .ret (.d (.bool f.is_greatest), false) := by
  cases f <;> exact op_eq_s (by decide +kernel) (by decide +kernel) (by decide +kernel)
local macro_rules | `(tactic| walk_at "op") => `(tactic| with_reducible exact fg_greatest _)
local macro_rules | `(tactic| walk_at "F") => `(tactic| with_reducible exact frac_int _ _)
local macro_rules | `(tactic| walk_at "F") => `(tactic| with_reducible exact frac_pair _ _)
theorem figure_range_eq (f : Fg) {bs : List (Int × Int)} (h : okB bs = true) : F_figure_range [.d (dBs bs), .d (.str f.s)] = .ret (.d (.list [dP (figP f (los bs)), dP (figP f (his bs))]), true) := by
  unfold F_figure_range b_figure_range
  cases f
  · refine Eq.trans (by
      apply run_rt rfl
      with_reducible apply es_seqR
      walk_at "S") ?_
    rfl
  · refine Eq.trans (by
      apply run_rt rfl
      with_reducible apply es_seq
      · walk_at "S"
      · with_reducible apply es_seqR
        walk_at "S") ?_
    show _ = M.ret (AV.d (.list [dP (lowP (los bs).sum (los bs).length), dP (lowP (his bs).sum (his bs).length)]), true)
    rw [List.length_map, List.length_map]
  · refine Eq.trans (by
      apply run_rt rfl
      with_reducible apply es_seq
      · walk_at "S"
      · with_reducible apply es_seq
        · walk_at "S"
        · with_reducible apply es_seqR
          walk_at "S") ?_
    rfl
  · refine Eq.trans (by
      apply run_rt rfl
      walk_at "S") ?_
    rfl
  · refine Eq.trans (by
      apply run_rt rfl
      walk_at "S") ?_
    rfl
theorem law_figure_eq (f : Fg) {r : List Int} (h : 0 < r.length) (hl : r.length ≤ 100) : F__law_figure [.d (dNs r), .d (.str f.s)] = .ret (.d (dP (figP f r)), false) := by
  have hne : r ≠ [] := List.ne_nil_of_length_pos h
  have hm : ((r.map PyData.int).length : Int) = r.length := by rw [List.length_map]
  unfold F__law_figure b__law_figure
  cases f
  · refine Eq.trans (by apply run_rt rfl; walk_at "S") ?_
    rfl
  · apply run_rt rfl
    with_reducible apply es_seq
    · walk_at "S"
    · with_reducible apply es_seqR
      with_reducible apply es_ifT
      · with_reducible apply ev_is
        · walk_at "T"
        · rfl
      · with_reducible apply es_ret
        with_reducible apply ev_call
        · walk_at "A"
        · rw [hm]
          exact law_low_eq (by omega) (by rw [fuel_v]; omega)
  · apply run_rt rfl
    with_reducible apply es_seqR
    with_reducible apply es_ifT
    · with_reducible apply ev_is
      · walk_at "T"
      · rfl
    · with_reducible apply es_ret
      with_reducible apply ev_call
      · walk_at "A"
      · exact law_middle_eq h
  · refine Eq.trans (by apply run_rt rfl; walk_at "S") ?_
    rfl
  · refine Eq.trans (by apply run_rt rfl; walk_at "S") ?_
    rfl
theorem check_figure_eq (f : Fg) : F_check_figure [.d (.str f.s)] = .ret (.d .none, false) := by
  unfold F_check_figure b_check_figure
  cases f <;> rfl
end Pg

/-! Comparing figures. -/
namespace Pg
open PySem L2 Dt
local macro_rules | `(tactic| walk_at "op") => `(tactic| first | (with_reducible exact op_add_i _ _) | (with_reducible exact op_sub_i _ _) | (with_reducible exact op_lt_i _ _) | (with_reducible exact op_le_i _ _) | (with_reducible exact op_gt_i _ _) | (with_reducible exact op_ge_i _ _) | (with_reducible exact op_eq_i _ _) | (with_reducible exact op_ne_i _ _) | (with_reducible exact op_ix_p0 _) | (with_reducible exact op_ix_p1 _) | (with_reducible exact op_ix_0 _ _) | (with_reducible exact op_ix_1 _ _ _) | (with_reducible exact op_isN_d) | (with_reducible exact op_notN_d) | (with_reducible exact op_isB_d _ _) | (with_reducible exact op_notB_d _ _) | (with_reducible exact b_len_p _) | (with_reducible exact b_len_l _) | (with_reducible exact b_len_t _) | (with_reducible exact b_sum _) | (with_reducible exact b_sorted _) | (with_reducible exact b_abs _) | (with_reducible exact b_max2 _ _) | (with_reducible exact b_min2 _ _) | ((with_reducible apply op_mod_i); with_reducible assumption) | ((with_reducible apply op_div_i); with_reducible assumption) | ((with_reducible apply op_mul_i); with_reducible assumption))
local macro_rules | `(tactic| walk_at "F") => `(tactic| walk_at "op")
local macro_rules | `(tactic| walk_at "A") => `(tactic| first | (with_reducible exact ea_nil) | ((with_reducible apply ea_cons); walk_at "E"; walk_at "A"))
local macro_rules | `(tactic| walk_at "T") => `(tactic| first | ((with_reducible apply et_val); walk_at "E") | ((with_reducible apply et_not); walk_at "T") | ((with_reducible apply et_or); walk_at "T"; (intro _; walk_at "T")) | ((with_reducible apply et_and); walk_at "T"; (intro _; walk_at "T")))
local macro_rules | `(tactic| walk_at "O") => `(tactic| first | (with_reducible exact eo_none) | ((with_reducible apply eo_some); walk_at "E"))
local macro_rules | `(tactic| walk_at "E") => `(tactic| first
  | (with_reducible exact ev_c)
  | ((with_reducible apply ev_var); rfl)
  | ((with_reducible apply ev_bin); walk_at "E"; walk_at "E"; walk_at "op")
  | ((with_reducible apply ev_call); walk_at "A"; walk_at "F")
  | ((with_reducible apply ev_tup); walk_at "A"; rfl)
  | ((with_reducible apply ev_lst); walk_at "A"; rfl)
  | ((with_reducible apply ev_neg); walk_at "E")
  | ((with_reducible apply ev_isi); walk_at "E")
  | ((with_reducible apply ev_not); walk_at "E")
  | ((with_reducible apply ev_and'); walk_at "E"; (intro _; walk_at "E"))
  | ((with_reducible apply ev_or'); walk_at "E"; (intro _; walk_at "E"))
  | ((with_reducible apply ev_chain); walk_at "E"; walk_at "E"; walk_at "E"; walk_at "op"; walk_at "op")
  | ((with_reducible apply ev_sl); walk_at "E"; walk_at "O"; walk_at "O")
  | ((with_reducible apply ev_rev); walk_at "E")
  | ((with_reducible apply ev_ifT); ((with_reducible apply ev_is); walk_at "T"; rfl); walk_at "E")
  | ((with_reducible apply ev_ifF); ((with_reducible apply ev_is); walk_at "T"; rfl); walk_at "E"))
local macro_rules | `(tactic| walk_at "I") => `(tactic| first | ((with_reducible apply ei_list); walk_at "E"; done) | ((with_reducible apply ei_tup); walk_at "E") | ((with_reducible apply ei_enum); walk_at "A") | ((with_reducible apply ei_zip); walk_at "A"))
local macro_rules | `(tactic| walk_at "S") => `(tactic| first
  | (with_reducible exact es_nil)
  | ((with_reducible apply es_retV); rfl)
  | ((with_reducible apply es_retO); rfl)
  | ((with_reducible apply es_ret); walk_at "E")
  | ((with_reducible apply es_seq); walk_at "S"; walk_at "S")
  | ((with_reducible apply es_expr); walk_at "E")
  | ((with_reducible apply es_set); walk_at "E")
  | ((with_reducible apply es_setO); walk_at "E")
  | ((with_reducible apply es_par); walk_at "A")
  | ((with_reducible apply es_asgT); walk_at "E"; rfl)
  | ((with_reducible apply es_ifF); ((with_reducible apply ev_is); walk_at "T"; (first | rfl | with_reducible assumption)); walk_at "S")
  | ((with_reducible apply es_ifT); ((with_reducible apply ev_is); walk_at "T"; (first | rfl | with_reducible assumption)); walk_at "S"))
local macro_rules | `(tactic| walk_at "F") => `(tactic| with_reducible exact is_int_eq _ _ _)
local macro_rules | `(tactic| walk_at "F") => `(tactic| with_reducible exact is_bound_eq _)
local macro_rules | `(tactic| walk_at "F") => `(tactic| ((with_reducible apply is_bounds_eq); exact okB_len (by with_reducible assumption)))
local macro_rules | `(tactic| walk_at "F") => `(tactic| ((with_reducible apply check_ok); with_reducible assumption))
local macro_rules | `(tactic| walk_at "F") => `(tactic| ((with_reducible apply lows_eq); exact okB_len (by with_reducible assumption)))
local macro_rules | `(tactic| walk_at "F") => `(tactic| ((with_reducible apply highs_eq); exact okB_len (by with_reducible assumption)))
local macro_rules | `(tactic| walk_at "F") => `(tactic| ((with_reducible apply sum_range_eq); with_reducible assumption))
local macro_rules | `(tactic| walk_at "F") => `(tactic| ((with_reducible apply mean_range_eq); with_reducible assumption))
local macro_rules | `(tactic| walk_at "F") => `(tactic| ((with_reducible apply median_range_eq); with_reducible assumption))
local macro_rules | `(tactic| walk_at "F") => `(tactic| ((with_reducible apply least_range_eq); with_reducible assumption))
local macro_rules | `(tactic| walk_at "F") => `(tactic| ((with_reducible apply greatest_range_eq); with_reducible assumption))
local macro_rules | `(tactic| walk_at "F") => `(tactic| ((with_reducible apply choices_eq) <;> with_reducible assumption))
local macro_rules | `(tactic| walk_at "F") => `(tactic| ((with_reducible apply b_min); with_reducible assumption))
local macro_rules | `(tactic| walk_at "F") => `(tactic| ((with_reducible apply b_max); with_reducible assumption))
local macro_rules | `(tactic| walk_at "F") => `(tactic| with_reducible exact frac_int _ _)
local macro_rules | `(tactic| walk_at "F") => `(tactic| with_reducible exact frac_pair _ _)
local macro_rules | `(tactic| walk_at "op") => `(tactic| with_reducible exact fg_sum _)
local macro_rules | `(tactic| walk_at "op") => `(tactic| with_reducible exact fg_mean _)
local macro_rules | `(tactic| walk_at "op") => `(tactic| with_reducible exact fg_median _)
local macro_rules | `(tactic| walk_at "op") => `(tactic| with_reducible exact fg_least _)
local macro_rules | `(tactic| walk_at "F") => `(tactic| ((with_reducible apply figure_range_eq); with_reducible assumption))
local macro_rules | `(tactic| walk_at "F") => `(tactic| with_reducible exact check_figure_eq _)
/-- a small fraction: its denominator divides 5040 -/
def okF (p : Int × Int) : Prop := 0 < p.2 ∧ p.2 ∣ 5040 ∧ p.1.natAbs < 1000000
def val (p : Int × Int) : Int := p.1 * 5040 / p.2
theorem val_mul {p : Int × Int} (h : okF p) : val p * p.2 = p.1 * 5040 := by
  obtain ⟨k, hk⟩ := h.2.1
  unfold val
  rw [hk, Int.mul_comm p.2 k, ← Int.mul_assoc, Int.mul_ediv_cancel _ (by have := h.1; omega)]
theorem less_val {p q : Int × Int} (hp : okF p) (hq : okF q) : p.1 * q.2 < q.1 * p.2 ↔ val p < val q := by
  have e1 := val_mul hp
  have e2 := val_mul hq
  have h0 : 0 < p.2 * q.2 := Int.mul_pos hp.1 hq.1
  have k1 : (p.1 * q.2) * 5040 = val p * (p.2 * q.2) := by
    rw [← Int.mul_assoc, e1]; ac_rfl
  have k2 : (q.1 * p.2) * 5040 = val q * (p.2 * q.2) := by
    rw [Int.mul_comm p.2 q.2, ← Int.mul_assoc, e2]; ac_rfl
  constructor
  · intro h
    have : (p.1 * q.2) * 5040 < (q.1 * p.2) * 5040 := by omega
    rw [k1, k2] at this
    exact Int.lt_of_mul_lt_mul_right this (Int.le_of_lt h0)
  · intro h
    have := Int.mul_lt_mul_of_pos_right h h0
    rw [← k1, ← k2] at this
    omega
theorem okF.big {p : Int × Int} (h : okF p) : p.1.natAbs < big ∧ p.2.natAbs < big := by
  refine ⟨natAbs_big h.2.2, natAbs_big ?_⟩
  have h1 := h.1
  have := Int.le_of_dvd (by decide) h.2.1
  omega
theorem less_eq {p q : Int × Int} (hp : okF p) (hq : okF q) : F_less [.d (dP p), .d (dP q)] = rB (decide (val p < val q)) := by
  have h1 : p.1.natAbs < Dt.big ∧ q.2.natAbs < Dt.big := ⟨hp.big.1, hq.big.2⟩
  have h2 : q.1.natAbs < Dt.big ∧ p.2.natAbs < Dt.big := ⟨hq.big.1, hp.big.2⟩
  unfold F_less b_less
  refine Eq.trans (by apply run_rt rfl; walk_at "S") ?_
  rw [show decide (p.1 * q.2 < q.1 * p.2) = decide (val p < val q) from by rw [decide_eq_decide]; exact less_val hp hq]
theorem dvd5040 {b : Int} (h : 0 < b) (h7 : b ≤ 7) : b ∣ 5040 := by
  have : b = 1 ∨ b = 2 ∨ b = 3 ∨ b = 4 ∨ b = 5 ∨ b = 6 ∨ b = 7 := by omega
  rcases this with rfl | rfl | rfl | rfl | rfl | rfl | rfl <;> decide
theorem okF_low {t b : Int} (h : 0 < b) (h7 : b ≤ 7) (ht : t.natAbs < 1000000) : okF (lowP t b) := by
  have g := gcd_pos_le (t := t) h
  have hl := low_pos (t := t) h
  exact ⟨hl.1, dvd5040 hl.1 (by omega), Nat.lt_of_le_of_lt (Int.natAbs_ediv_le_natAbs _ _) ht⟩
theorem val_low {t b : Int} (h : 0 < b) (h7 : b ≤ 7) (ht : t.natAbs < 1000000) : val (lowP t b) * b = t * 5040 := by
  have ok := okF_low h h7 ht
  have e := val_mul ok
  have g := gcd_pos_le (t := t) h
  obtain ⟨u, hu⟩ := Int.gcd_dvd_left t b
  obtain ⟨v, hv⟩ := Int.gcd_dvd_right t b
  have e1 : (lowP t b).1 = u := Int.ediv_eq_of_eq_mul_right (by omega) hu
  have e2 : (lowP t b).2 = v := Int.ediv_eq_of_eq_mul_right (by omega) hv
  rw [e1, e2] at e
  clear ok e1 e2
  generalize val (lowP t b) = V at *
  generalize (Int.gcd t b : Int) = G at *
  rw [hv, hu, Int.mul_comm G v, ← Int.mul_assoc, e]
  ac_rfl
theorem sum_abs {c : Nat} : ∀ {xs : List Int}, (∀ x ∈ xs, x.natAbs ≤ c) → xs.sum.natAbs ≤ xs.length * c
  | [], _ => by simp
  | x :: xs, h => by
    have h1 := h x List.mem_cons_self
    have h2 := sum_abs (xs := xs) fun y hy => h y (List.mem_cons_of_mem _ hy)
    rw [List.sum_cons, List.length_cons, Nat.add_mul]
    omega
theorem kth_abs {xs : List Int} {k : Nat} {c : Nat} (h : ∀ x ∈ xs, x.natAbs ≤ c) : (kth xs k).natAbs ≤ c := by
  unfold kth
  rw [List.getD_eq_getElem?_getD]
  cases e : (isort xs)[k]? with
  | none => simp
  | some y => exact h y ((isort_perm xs).mem_iff.mp (List.mem_of_getElem? e))
/-- a row of values -/
def okR (r : List Int) : Prop := (0 < r.length ∧ r.length ≤ 7) ∧ ∀ x ∈ r, x.natAbs ≤ 50
theorem okF_fig (f : Fg) {r : List Int} (h : okR r) : okF (figP f r) := by
  have h1 := h.1
  cases f with
  | sum => exact ⟨(by decide : (0 : Int) < 1), (by decide : (1 : Int) ∣ 5040), by have := sum_abs h.2; show r.sum.natAbs < 1000000; have : r.length * 50 ≤ 7 * 50 := Nat.mul_le_mul_right _ h1.2; omega⟩
  | mean => exact okF_low (by omega) (by omega) (by have := sum_abs h.2; have : r.length * 50 ≤ 7 * 50 := Nat.mul_le_mul_right _ h1.2; omega)
  | median => exact okF_low (by decide) (by decide) (by unfold mid2; have h2 := kth_abs (k := (r.length - 1) / 2) h.2; have h3 := kth_abs (k := r.length / 2) h.2; omega)
  | least => exact ⟨(by decide : (0 : Int) < 1), (by decide : (1 : Int) ∣ 5040), by have := h.2 _ (minL_mem (List.ne_nil_of_length_pos h1.1)); show (minL r).natAbs < 1000000; omega⟩
  | greatest => exact ⟨(by decide : (0 : Int) < 1), (by decide : (1 : Int) ∣ 5040), by have := h.2 _ (maxL_mem (List.ne_nil_of_length_pos h1.1)); show (maxL r).natAbs < 1000000; omega⟩
/-- the figure, as a number of 5040 -/
def fv (f : Fg) (r : List Int) : Int := val (figP f r)
theorem val_one (t : Int) : val (t, 1) = t * 5040 := by unfold val; simp
theorem fv_mono (f : Fg) {r s : List Int} (h : Pw r s) (hr : okR r) (hs : okR s) : fv f r ≤ fv f s := by
  have hl := h.len
  have key : ¬ (val (figP f s) < val (figP f r)) → fv f r ≤ fv f s := fun z => by unfold fv; omega
  cases f with
  | sum => unfold fv figP; rw [val_one, val_one]; have := h.sum; omega
  | mean =>
    refine key ?_
    rw [← less_val (okF_fig .mean hs) (okF_fig .mean hr)]
    unfold figP
    rw [low_cross (by have := hs.1; omega) (by have := hr.1; omega), hl]
    have := Int.mul_le_mul_of_nonneg_right h.sum (show (0 : Int) ≤ s.length by omega)
    omega
  | median =>
    refine key ?_
    rw [← less_val (okF_fig .median hs) (okF_fig .median hr)]
    unfold figP
    rw [low_cross (by decide) (by decide)]
    have := h.mid2
    omega
  | least => unfold fv figP; rw [val_one, val_one, sorted_min hr.1.1, sorted_min hs.1.1]; have := h.kth 0; omega
  | greatest => unfold fv figP; rw [val_one, val_one, sorted_max hr.1.1, sorted_max hs.1.1, hl]; have := h.kth (s.length - 1); omega
theorem Ch.abs' {bs : List (Int × Int)} {c : List Int} (h : Ch bs c) : ∀ x ∈ c, ∃ p ∈ bs, p.1 ≤ x ∧ x ≤ p.2 := by
  induction h with
  | nil => simp
  | cons a b _ ih =>
    intro x hx
    rcases List.mem_cons.mp hx with rfl | hx
    · exact ⟨_, List.mem_cons_self, a, b⟩
    · obtain ⟨p, hp, h⟩ := ih x hx
      exact ⟨p, List.mem_cons_of_mem _ hp, h⟩
theorem Ch.okR {bs : List (Int × Int)} (h : okB bs = true) {c : List Int} (hc : Ch bs c) : okR c := by
  have hb := okB_iff.mp h
  refine ⟨by rw [hc.len]; omega, fun x hx => ?_⟩
  obtain ⟨p, hp, h1, h2⟩ := hc.abs' x hx
  have := hb.2 p hp
  omega
theorem okR_los {bs : List (Int × Int)} (h : okB bs = true) : okR (los bs) := (Ch.low (okB_pos h).2).okR h
theorem okR_his {bs : List (Int × Int)} (h : okB bs = true) : okR (his bs) := (Ch.high (okB_pos h).2).okR h
theorem fv_min (f : Fg) {bs : List (Int × Int)} (h : okB bs = true) : minL ((chs bs).map (fv f)) = fv f (los bs) :=
  minL_uniq (List.mem_map.mpr ⟨_, mem_chs.mpr (Ch.low (okB_pos h).2), rfl⟩) fun y hy => by obtain ⟨c, hc, rfl⟩ := List.mem_map.mp hy; exact fv_mono f (mem_chs.mp hc).lo (okR_los h) ((mem_chs.mp hc).okR h)
theorem fv_max (f : Fg) {bs : List (Int × Int)} (h : okB bs = true) : maxL ((chs bs).map (fv f)) = fv f (his bs) :=
  maxL_uniq (List.mem_map.mpr ⟨_, mem_chs.mpr (Ch.high (okB_pos h).2), rfl⟩) fun y hy => by obtain ⟨c, hc, rfl⟩ := List.mem_map.mp hy; exact fv_mono f (mem_chs.mp hc).hi ((mem_chs.mp hc).okR h) (okR_his h)
theorem fv_lh (f : Fg) {bs : List (Int × Int)} (h : okB bs = true) : fv f (los bs) ≤ fv f (his bs) := fv_mono f (Ch.high (okB_pos h).2).lo (okR_los h) (okR_his h)
/-! ### the program's functions -/
def vd (low high low' high' : Int) : Str := if high' < low then "sure" else if low' < high then "possible" else "never"
theorem verdict_eq {a b c d : Int × Int} (ha : okF a) (hb : okF b) (hc : okF c) (hd : okF d) : F_verdict [.d (dP a), .d (dP b), .d (dP c), .d (dP d)] = .ret (.d (.str (vd (val a) (val b) (val c) (val d))), false) := by
  have l1 := less_eq hd ha
  have l2 := less_eq hc hb
  unfold F_verdict b_verdict vd
  by_cases h1 : val d < val a
  · rw [if_pos h1]
    apply run_rt rfl
    with_reducible apply es_seqR
    with_reducible apply es_ifT
    · with_reducible apply et_val
      with_reducible apply ev_call
      · walk_at "A"
      · rw [decide_eq_true h1] at l1; exact l1
    · walk_at "S"
  · rw [if_neg h1]
    apply run_rt rfl
    with_reducible apply es_seq
    · with_reducible apply es_ifF
      · with_reducible apply et_val
        with_reducible apply ev_call
        · walk_at "A"
        · rw [decide_eq_false h1] at l1; exact l1
      · walk_at "S"
    · with_reducible apply es_ret
      by_cases h2 : val c < val b
      · rw [if_pos h2]
        with_reducible apply ev_ifT
        · with_reducible apply et_val
          with_reducible apply ev_call
          · walk_at "A"
          · rw [decide_eq_true h2] at l2; exact l2
        · walk_at "E"
      · rw [if_neg h2]
        with_reducible apply ev_ifF
        · with_reducible apply et_val
          with_reducible apply ev_call
          · walk_at "A"
          · rw [decide_eq_false h2] at l2; exact l2
        · walk_at "E"
theorem op_ix_l0 (d : PyData) (xs : List PyData) : oIx (.d (.list (d :: xs))) (.d (.int 0)) = .ret (.d d, false) := op_ix_l (atI_nat (j := 0) rfl)
theorem op_ix_l1 (d e : PyData) (xs : List PyData) : oIx (.d (.list (d :: e :: xs))) (.d (.int 1)) = .ret (.d e, false) := op_ix_l (atI_nat (j := 1) rfl)
local macro_rules | `(tactic| walk_at "op") => `(tactic| with_reducible exact op_ix_l0 _ _)
local macro_rules | `(tactic| walk_at "op") => `(tactic| with_reducible exact op_ix_l1 _ _ _)
theorem is_more_eq (f : Fg) {bs cs : List (Int × Int)} (hb : okB bs = true) (hc : okB cs = true) : F_is_more [.d (dBs bs), .d (dBs cs), .d (.str f.s)] = .ret (.d (.str (vd (fv f (los bs)) (fv f (his bs)) (fv f (los cs)) (fv f (his cs)))), false) := by
  unfold F_is_more b_is_more
  apply run_rt rfl
  with_reducible apply es_seq
  · walk_at "S"
  with_reducible apply es_seq
  · walk_at "S"
  with_reducible apply es_seq
  · walk_at "S"
  with_reducible apply es_seq
  · walk_at "S"
  with_reducible apply es_ret
  with_reducible apply ev_call
  · walk_at "A"
  · exact verdict_eq (okF_fig f (okR_los hb)) (okF_fig f (okR_his hb)) (okF_fig f (okR_los hc)) (okF_fig f (okR_his hc))
end Pg

/-! Comparing figures, part 2. -/
namespace Pg
open PySem L2 Dt
local macro_rules | `(tactic| walk_at "op") => `(tactic| first | (with_reducible exact op_add_i _ _) | (with_reducible exact op_sub_i _ _) | (with_reducible exact op_lt_i _ _) | (with_reducible exact op_le_i _ _) | (with_reducible exact op_gt_i _ _) | (with_reducible exact op_ge_i _ _) | (with_reducible exact op_eq_i _ _) | (with_reducible exact op_ne_i _ _) | (with_reducible exact op_ix_p0 _) | (with_reducible exact op_ix_p1 _) | (with_reducible exact op_ix_0 _ _) | (with_reducible exact op_ix_1 _ _ _) | (with_reducible exact op_isN_d) | (with_reducible exact op_notN_d) | (with_reducible exact op_isB_d _ _) | (with_reducible exact op_notB_d _ _) | (with_reducible exact b_len_p _) | (with_reducible exact b_len_l _) | (with_reducible exact b_len_t _) | (with_reducible exact b_sum _) | (with_reducible exact b_sorted _) | (with_reducible exact b_abs _) | (with_reducible exact b_max2 _ _) | (with_reducible exact b_min2 _ _) | ((with_reducible apply op_mod_i); with_reducible assumption) | ((with_reducible apply op_div_i); with_reducible assumption) | ((with_reducible apply op_mul_i); with_reducible assumption))
local macro_rules | `(tactic| walk_at "F") => `(tactic| walk_at "op")
local macro_rules | `(tactic| walk_at "A") => `(tactic| first | (with_reducible exact ea_nil) | ((with_reducible apply ea_cons); walk_at "E"; walk_at "A"))
local macro_rules | `(tactic| walk_at "T") => `(tactic| first | ((with_reducible apply et_val); walk_at "E") | ((with_reducible apply et_not); walk_at "T") | ((with_reducible apply et_or); walk_at "T"; (intro _; walk_at "T")) | ((with_reducible apply et_and); walk_at "T"; (intro _; walk_at "T")))
local macro_rules | `(tactic| walk_at "O") => `(tactic| first | (with_reducible exact eo_none) | ((with_reducible apply eo_some); walk_at "E"))
local macro_rules | `(tactic| walk_at "E") => `(tactic| first
  | (with_reducible exact ev_c)
  | ((with_reducible apply ev_var); rfl)
  | ((with_reducible apply ev_bin); walk_at "E"; walk_at "E"; walk_at "op")
  | ((with_reducible apply ev_call); walk_at "A"; walk_at "F")
  | ((with_reducible apply ev_tup); walk_at "A"; rfl)
  | ((with_reducible apply ev_lst); walk_at "A"; rfl)
  | ((with_reducible apply ev_neg); walk_at "E")
  | ((with_reducible apply ev_isi); walk_at "E")
  | ((with_reducible apply ev_not); walk_at "E")
  | ((with_reducible apply ev_and'); walk_at "E"; (intro _; walk_at "E"))
  | ((with_reducible apply ev_or'); walk_at "E"; (intro _; walk_at "E"))
  | ((with_reducible apply ev_chain); walk_at "E"; walk_at "E"; walk_at "E"; walk_at "op"; walk_at "op")
  | ((with_reducible apply ev_sl); walk_at "E"; walk_at "O"; walk_at "O")
  | ((with_reducible apply ev_rev); walk_at "E")
  | ((with_reducible apply ev_ifT); ((with_reducible apply ev_is); walk_at "T"; rfl); walk_at "E")
  | ((with_reducible apply ev_ifF); ((with_reducible apply ev_is); walk_at "T"; rfl); walk_at "E"))
local macro_rules | `(tactic| walk_at "I") => `(tactic| first | ((with_reducible apply ei_list); walk_at "E"; done) | ((with_reducible apply ei_tup); walk_at "E") | ((with_reducible apply ei_enum); walk_at "A") | ((with_reducible apply ei_zip); walk_at "A"))
local macro_rules | `(tactic| walk_at "S") => `(tactic| first
  | (with_reducible exact es_nil)
  | ((with_reducible apply es_retV); rfl)
  | ((with_reducible apply es_retO); rfl)
  | ((with_reducible apply es_ret); walk_at "E")
  | ((with_reducible apply es_seq); walk_at "S"; walk_at "S")
  | ((with_reducible apply es_expr); walk_at "E")
  | ((with_reducible apply es_set); walk_at "E")
  | ((with_reducible apply es_setO); walk_at "E")
  | ((with_reducible apply es_par); walk_at "A")
  | ((with_reducible apply es_asgT); walk_at "E"; rfl)
  | ((with_reducible apply es_ifF); ((with_reducible apply ev_is); walk_at "T"; (first | rfl | with_reducible assumption)); walk_at "S")
  | ((with_reducible apply es_ifT); ((with_reducible apply ev_is); walk_at "T"; (first | rfl | with_reducible assumption)); walk_at "S"))
local macro_rules | `(tactic| walk_at "F") => `(tactic| with_reducible exact is_int_eq _ _ _)
local macro_rules | `(tactic| walk_at "F") => `(tactic| with_reducible exact is_bound_eq _)
local macro_rules | `(tactic| walk_at "F") => `(tactic| ((with_reducible apply is_bounds_eq); exact okB_len (by with_reducible assumption)))
local macro_rules | `(tactic| walk_at "F") => `(tactic| ((with_reducible apply check_ok); with_reducible assumption))
local macro_rules | `(tactic| walk_at "F") => `(tactic| ((with_reducible apply lows_eq); exact okB_len (by with_reducible assumption)))
local macro_rules | `(tactic| walk_at "F") => `(tactic| ((with_reducible apply highs_eq); exact okB_len (by with_reducible assumption)))
local macro_rules | `(tactic| walk_at "F") => `(tactic| ((with_reducible apply sum_range_eq); with_reducible assumption))
local macro_rules | `(tactic| walk_at "F") => `(tactic| ((with_reducible apply mean_range_eq); with_reducible assumption))
local macro_rules | `(tactic| walk_at "F") => `(tactic| ((with_reducible apply median_range_eq); with_reducible assumption))
local macro_rules | `(tactic| walk_at "F") => `(tactic| ((with_reducible apply least_range_eq); with_reducible assumption))
local macro_rules | `(tactic| walk_at "F") => `(tactic| ((with_reducible apply greatest_range_eq); with_reducible assumption))
local macro_rules | `(tactic| walk_at "F") => `(tactic| ((with_reducible apply choices_eq) <;> with_reducible assumption))
local macro_rules | `(tactic| walk_at "F") => `(tactic| ((with_reducible apply b_min); with_reducible assumption))
local macro_rules | `(tactic| walk_at "F") => `(tactic| ((with_reducible apply b_max); with_reducible assumption))
local macro_rules | `(tactic| walk_at "F") => `(tactic| with_reducible exact frac_int _ _)
local macro_rules | `(tactic| walk_at "F") => `(tactic| with_reducible exact frac_pair _ _)
local macro_rules | `(tactic| walk_at "op") => `(tactic| with_reducible exact fg_sum _)
local macro_rules | `(tactic| walk_at "op") => `(tactic| with_reducible exact fg_mean _)
local macro_rules | `(tactic| walk_at "op") => `(tactic| with_reducible exact fg_median _)
local macro_rules | `(tactic| walk_at "op") => `(tactic| with_reducible exact fg_least _)
local macro_rules | `(tactic| walk_at "F") => `(tactic| ((with_reducible apply figure_range_eq); with_reducible assumption))
local macro_rules | `(tactic| walk_at "F") => `(tactic| with_reducible exact check_figure_eq _)
local macro_rules | `(tactic| walk_at "op") => `(tactic| with_reducible exact op_ix_l0 _ _)
local macro_rules | `(tactic| walk_at "op") => `(tactic| with_reducible exact op_ix_l1 _ _ _)
theorem guard1 (en : En) (p : Int × Int) (h : en[2]? = some (some (.v (.d (dP p))))) : True := trivial
theorem can_reach_eq (f : Fg) {bs : List (Int × Int)} (hb : okB bs = true) {p : Int × Int} (hp : okF p) : F_can_reach [.d (dBs bs), .d (.str f.s), .d (dP p)] = rB (!decide (val p < fv f (los bs)) && !decide (fv f (his bs) < val p)) := by
  have l1 := less_eq hp (okF_fig f (okR_los hb))
  have l2 := less_eq (okF_fig f (okR_his hb)) hp
  have h0 : decide (p.2 < 1) = false := decide_eq_false (by have := hp.1; omega)
  unfold F_can_reach b_can_reach
  apply run_rt rfl
  with_reducible apply es_seq
  · walk_at "S"
  with_reducible apply es_seq
  · walk_at "S"
  with_reducible apply es_seq
  · with_reducible apply es_ifF
    · exact rfl
    · walk_at "S"
  with_reducible apply es_seq
  · with_reducible apply es_ifF
    · with_reducible apply ev_is
      · with_reducible apply et_or (k := false)
        · exact rfl
        · intro _
          walk_at "T"
      · rw [h0]; rfl
    · walk_at "S"
  with_reducible apply es_seq
  · with_reducible apply es_asgT
    · walk_at "E"
    · rfl
  with_reducible apply es_ret
  with_reducible apply ev_and'
  · with_reducible apply ev_not
    with_reducible apply ev_call
    · walk_at "A"
    · exact l1
  · intro _
    with_reducible apply ev_not
    with_reducible apply ev_call
    · walk_at "A"
    · exact l2
end Pg

/-! best_figures; the law's values. -/
namespace Pg
open PySem L2 Dt
local macro_rules | `(tactic| walk_at "op") => `(tactic| first | (with_reducible exact op_add_i _ _) | (with_reducible exact op_sub_i _ _) | (with_reducible exact op_lt_i _ _) | (with_reducible exact op_le_i _ _) | (with_reducible exact op_gt_i _ _) | (with_reducible exact op_ge_i _ _) | (with_reducible exact op_eq_i _ _) | (with_reducible exact op_ne_i _ _) | (with_reducible exact op_ix_p0 _) | (with_reducible exact op_ix_p1 _) | (with_reducible exact op_ix_0 _ _) | (with_reducible exact op_ix_1 _ _ _) | (with_reducible exact op_isN_d) | (with_reducible exact op_notN_d) | (with_reducible exact op_isB_d _ _) | (with_reducible exact op_notB_d _ _) | (with_reducible exact b_len_p _) | (with_reducible exact b_len_l _) | (with_reducible exact b_len_t _) | (with_reducible exact b_sum _) | (with_reducible exact b_sorted _) | (with_reducible exact b_abs _) | (with_reducible exact b_max2 _ _) | (with_reducible exact b_min2 _ _) | ((with_reducible apply op_mod_i); with_reducible assumption) | ((with_reducible apply op_div_i); with_reducible assumption) | ((with_reducible apply op_mul_i); with_reducible assumption))
local macro_rules | `(tactic| walk_at "F") => `(tactic| walk_at "op")
local macro_rules | `(tactic| walk_at "A") => `(tactic| first | (with_reducible exact ea_nil) | ((with_reducible apply ea_cons); walk_at "E"; walk_at "A"))
local macro_rules | `(tactic| walk_at "T") => `(tactic| first | ((with_reducible apply et_val); walk_at "E") | ((with_reducible apply et_not); walk_at "T") | ((with_reducible apply et_or); walk_at "T"; (intro _; walk_at "T")) | ((with_reducible apply et_and); walk_at "T"; (intro _; walk_at "T")))
local macro_rules | `(tactic| walk_at "O") => `(tactic| first | (with_reducible exact eo_none) | ((with_reducible apply eo_some); walk_at "E"))
local macro_rules | `(tactic| walk_at "E") => `(tactic| first
  | (with_reducible exact ev_c)
  | ((with_reducible apply ev_var); rfl)
  | ((with_reducible apply ev_bin); walk_at "E"; walk_at "E"; walk_at "op")
  | ((with_reducible apply ev_call); walk_at "A"; walk_at "F")
  | ((with_reducible apply ev_tup); walk_at "A"; rfl)
  | ((with_reducible apply ev_lst); walk_at "A"; rfl)
  | ((with_reducible apply ev_neg); walk_at "E")
  | ((with_reducible apply ev_isi); walk_at "E")
  | ((with_reducible apply ev_not); walk_at "E")
  | ((with_reducible apply ev_and'); walk_at "E"; (intro _; walk_at "E"))
  | ((with_reducible apply ev_or'); walk_at "E"; (intro _; walk_at "E"))
  | ((with_reducible apply ev_chain); walk_at "E"; walk_at "E"; walk_at "E"; walk_at "op"; walk_at "op")
  | ((with_reducible apply ev_sl); walk_at "E"; walk_at "O"; walk_at "O")
  | ((with_reducible apply ev_rev); walk_at "E")
  | ((with_reducible apply ev_ifT); ((with_reducible apply ev_is); walk_at "T"; rfl); walk_at "E")
  | ((with_reducible apply ev_ifF); ((with_reducible apply ev_is); walk_at "T"; rfl); walk_at "E"))
local macro_rules | `(tactic| walk_at "I") => `(tactic| first | ((with_reducible apply ei_list); walk_at "E"; done) | ((with_reducible apply ei_tup); walk_at "E") | ((with_reducible apply ei_enum); walk_at "A") | ((with_reducible apply ei_zip); walk_at "A"))
local macro_rules | `(tactic| walk_at "S") => `(tactic| first
  | (with_reducible exact es_nil)
  | ((with_reducible apply es_retV); rfl)
  | ((with_reducible apply es_retO); rfl)
  | ((with_reducible apply es_ret); walk_at "E")
  | ((with_reducible apply es_seq); walk_at "S"; walk_at "S")
  | ((with_reducible apply es_expr); walk_at "E")
  | ((with_reducible apply es_set); walk_at "E")
  | ((with_reducible apply es_setO); walk_at "E")
  | ((with_reducible apply es_par); walk_at "A")
  | ((with_reducible apply es_asgT); walk_at "E"; rfl)
  | ((with_reducible apply es_ifF); ((with_reducible apply ev_is); walk_at "T"; (first | rfl | with_reducible assumption)); walk_at "S")
  | ((with_reducible apply es_ifT); ((with_reducible apply ev_is); walk_at "T"; (first | rfl | with_reducible assumption)); walk_at "S"))
local macro_rules | `(tactic| walk_at "F") => `(tactic| with_reducible exact is_int_eq _ _ _)
local macro_rules | `(tactic| walk_at "F") => `(tactic| with_reducible exact is_bound_eq _)
local macro_rules | `(tactic| walk_at "F") => `(tactic| ((with_reducible apply is_bounds_eq); exact okB_len (by with_reducible assumption)))
local macro_rules | `(tactic| walk_at "F") => `(tactic| ((with_reducible apply check_ok); with_reducible assumption))
local macro_rules | `(tactic| walk_at "F") => `(tactic| ((with_reducible apply lows_eq); exact okB_len (by with_reducible assumption)))
local macro_rules | `(tactic| walk_at "F") => `(tactic| ((with_reducible apply highs_eq); exact okB_len (by with_reducible assumption)))
local macro_rules | `(tactic| walk_at "F") => `(tactic| ((with_reducible apply sum_range_eq); with_reducible assumption))
local macro_rules | `(tactic| walk_at "F") => `(tactic| ((with_reducible apply mean_range_eq); with_reducible assumption))
local macro_rules | `(tactic| walk_at "F") => `(tactic| ((with_reducible apply median_range_eq); with_reducible assumption))
local macro_rules | `(tactic| walk_at "F") => `(tactic| ((with_reducible apply least_range_eq); with_reducible assumption))
local macro_rules | `(tactic| walk_at "F") => `(tactic| ((with_reducible apply greatest_range_eq); with_reducible assumption))
local macro_rules | `(tactic| walk_at "F") => `(tactic| ((with_reducible apply choices_eq) <;> with_reducible assumption))
local macro_rules | `(tactic| walk_at "F") => `(tactic| ((with_reducible apply b_min); with_reducible assumption))
local macro_rules | `(tactic| walk_at "F") => `(tactic| ((with_reducible apply b_max); with_reducible assumption))
local macro_rules | `(tactic| walk_at "F") => `(tactic| with_reducible exact frac_int _ _)
local macro_rules | `(tactic| walk_at "F") => `(tactic| with_reducible exact frac_pair _ _)
local macro_rules | `(tactic| walk_at "op") => `(tactic| with_reducible exact fg_sum _)
local macro_rules | `(tactic| walk_at "op") => `(tactic| with_reducible exact fg_mean _)
local macro_rules | `(tactic| walk_at "op") => `(tactic| with_reducible exact fg_median _)
local macro_rules | `(tactic| walk_at "op") => `(tactic| with_reducible exact fg_least _)
local macro_rules | `(tactic| walk_at "F") => `(tactic| ((with_reducible apply figure_range_eq); with_reducible assumption))
local macro_rules | `(tactic| walk_at "F") => `(tactic| with_reducible exact check_figure_eq _)
local macro_rules | `(tactic| walk_at "op") => `(tactic| with_reducible exact op_ix_l0 _ _)
local macro_rules | `(tactic| walk_at "op") => `(tactic| with_reducible exact op_ix_l1 _ _ _)
theorem enum_map {α : Type} (g : α → PyData) : ∀ (n : Nat) (xs : List α), enumP n (xs.map g) = (xs.zipIdx n).map fun x => .tuple [.int x.2, g x.1]
  | _, [] => rfl
  | n, x :: xs => by rw [List.map_cons, enumP, List.zipIdx_cons, List.map_cons, enum_map g (n + 1) xs]
abbrev fr (f : Fg) (bs : List (Int × Int)) : PyData := .list [dP (figP f (los bs)), dP (figP f (his bs))]
def best (f : Fg) (ls : List (List (Int × Int))) : List Nat := ((ls.zipIdx 0).filter fun x => !(ls.any fun s => decide (fv f (his x.1) < fv f (los s)))).map (·.2)
theorem zip_mem {α : Type} {x : α} {k n : Nat} : ∀ {xs : List α}, (x, k) ∈ xs.zipIdx n → x ∈ xs := fun h => by
  have := List.mem_zipIdx h
  rw [this.2.2]
  exact List.getElem_mem _
theorem best_figures_eq (f : Fg) {ls : List (List (Int × Int))} (hl : 1 ≤ ls.length ∧ ls.length ≤ 5) (hb : ∀ bs ∈ ls, okB bs = true) : F_best_figures [.d (.list (ls.map fun bs => dBs bs)), .d (.str f.s)] = .ret (.d (dNs ((best f ls).map fun k : Nat => (k : Int))), true) := by
  have hlim : ls.length ≤ lim := Nat.le_trans hl.2 (by decide)
  have hlen : (((ls.map fun bs => dBs bs).length : Nat) : Int) = ls.length := by rw [List.length_map]
  have key := es_forP (emb := fun bs : List (Int × Int) => dBs bs) (sl := [2]) (bd := bdN) (xs := ls) (s1 := sExpr (dCall F_check_bounds (aCons (dVar 2) aNil)))
    (R := fun pre en => ∃ u2, en = [some (.v (.d (.list (ls.map fun bs => dBs bs)))), some (.v (.d (.str f.s))), u2, none, none, none, none])
    (en := [some (.v (.d (.list (ls.map fun bs => dBs bs)))), some (.v (.d (.str f.s))), none, none, none, none, none])
    ⟨_, rfl⟩ (by
      rintro pre bs post en hx ⟨u2, rfl⟩
      have ok := hb bs (by rw [hx]; simp)
      refine ⟨_, rfl, ?_⟩
      apply Exists.intro
      constructor
      · walk_at "S"
      · exact ⟨_, rfl⟩)
  obtain ⟨en', h1, u2, rfl⟩ := key
  unfold F_best_figures b_best_figures
  apply run_rt rfl
  with_reducible apply es_seq
  · with_reducible apply es_ifF
    · with_reducible apply ev_is
      · walk_at "T"
      · rw [hlen]; simp [isTy]; omega
    · walk_at "S"
  with_reducible apply es_seq
  · with_reducible apply es_for
    · walk_at "I"
    · exact h1
  clear h1
  with_reducible apply es_seq
  · walk_at "S"
  with_reducible apply es_seq
  · with_reducible apply es_set
    exact ev_compN (xs := ls) (emb := fun bs => dBs bs) (f := fun bs => fr f bs) (b := true) (by walk_at "I") hlim fun bs h => by
      have ok := hb bs h
      walk_at "E"
  with_reducible apply es_ret
  refine list_of (ev_compTF (xs := ls.zipIdx 0) (emb := fun x => .tuple [.int x.2, fr f x.1]) (d1 := fun x => .int x.2) (d2 := fun x => fr f x.1) (f := fun x => .int x.2) (g := fun x => !(ls.any fun s => decide (fv f (his x.1) < fv f (los s)))) (b := false) ?_ (fun _ => rfl) (by rw [List.length_zipIdx]; exact hlim) (fun x hx => ?_) fun x hx _ => ?_) ?_
  · rw [← enum_map]
    walk_at "I"
  · have okx := hb x.1 (zip_mem (k := x.2) hx)
    with_reducible apply et_not
    with_reducible apply et_val
    with_reducible apply ev_call
    · with_reducible apply ea_cons
      · refine list_of (ys := (ls.map fun s => decide (fv f (his x.1) < fv f (los s))).map PyData.bool) (ev_compN (xs := ls) (emb := fun bs => fr f bs) (f := fun s => .bool (decide (fv f (his x.1) < fv f (los s)))) (b := false) (by walk_at "I") hlim fun s hs => ?_) (by rw [List.map_map]; rfl)
        have oks := hb s hs
        with_reducible apply ev_call
        · walk_at "A"
        · exact less_eq (okF_fig f (okR_his okx)) (okF_fig f (okR_los oks))
      · walk_at "A"
    · rw [b_any, List.any_map]
      rfl
  · walk_at "E"
  · unfold best
    rw [List.map_map, List.map_map]
    rfl
/-- [a * 5040 // b for a, b in [_law_figure(row, figure) for row in _law_choices(bounds)]] -/
theorem values_ev (f : Fg) {en : En} {i : Nat} {bs : List (Int × Int)} (ok : okB bs = true) (hw : ∀ p ∈ bs, p.2 + 1 - p.1 ≤ 7) (hcl : (chs bs).length ≤ lim) (hi : dVar i en = .ret (.d (dBs bs), false))
    (h20 : ∀ d, dVar 20 (setE (wipeE en [20]) [20] [d]) = .ret (.d d, false)) (h2 : ∀ d, dVar 2 (setE (wipeE en [20]) [20] [d]) = .ret (.d (.str f.s), false))
    (h18 : ∀ d e, dVar 18 (setE (wipeE en [18, 19]) [18, 19] [d, e]) = .ret (.d d, false)) (h19 : ∀ d e, dVar 19 (setE (wipeE en [18, 19]) [18, 19] [d, e]) = .ret (.d e, false)) :
    (dComp [18, 19] [18, 19] (bdT 2) (iSeqD (dComp [20] [20] bdN (iSeqD (dCall F__law_choices (aCons (dVar i) aNil))) yes (dCall F__law_figure (aCons (dVar 20) (aCons (dVar 2) aNil))))) yes (dBin oDiv (dBin oMul (dVar 18) (dC (.int 5040))) (dVar 19))) en = .ret (.d (dNs ((chs bs).map (fv f))), true) := by
  refine list_of (ev_compB (bs := (chs bs).map (figP f)) (f := fun p => .int (val p)) (b := false) ?_ (by rw [List.length_map]; exact hcl) fun p hp => ?_) (by rw [List.map_map, List.map_map]; rfl)
  · with_reducible apply ei_list
    refine list_of (ev_compN (xs := chs bs) (emb := fun r => dNs r) (f := fun r => dP (figP f r)) (b := false) ?_ hcl fun r hr => ?_) (by rw [List.map_map]; rfl)
    · with_reducible apply ei_list
      with_reducible apply ev_call
      · exact ea_cons hi ea_nil
      · exact choices_eq ok hw
    · have hr' := (mem_chs.mp hr).okR ok
      with_reducible apply ev_call
      · exact ea_cons (h20 _) (ea_cons (h2 _) ea_nil)
      · exact law_figure_eq f hr'.1.1 (by have := hr'.1.2; omega)
  · obtain ⟨r, hr, rfl⟩ := List.mem_map.mp hp
    have hF := okF_fig f ((mem_chs.mp hr).okR ok)
    have hbig := hF.big
    refine ev_bin (ev_bin (h18 _ _) ev_c (op_mul_i ⟨hbig.1, by unfold Dt.big; decide +kernel⟩)) (h19 _ _) (op_div_i ⟨hF.1, hbig.2⟩)
theorem law_true_eq (a b : Bool) : F__law_true [.d (.bool a), .d (.bool b)] = rB (decide (a = b)) := by
  unfold F__law_true b__law_true
  cases a <;> cases b <;> rfl
end Pg

/-! Facts: with_sum, met, checked; the law's wide bounds. -/
namespace Pg
open PySem L2 Dt
local macro_rules | `(tactic| walk_at "op") => `(tactic| first | (with_reducible exact op_add_i _ _) | (with_reducible exact op_sub_i _ _) | (with_reducible exact op_lt_i _ _) | (with_reducible exact op_le_i _ _) | (with_reducible exact op_gt_i _ _) | (with_reducible exact op_ge_i _ _) | (with_reducible exact op_eq_i _ _) | (with_reducible exact op_ne_i _ _) | (with_reducible exact op_ix_p0 _) | (with_reducible exact op_ix_p1 _) | (with_reducible exact op_ix_0 _ _) | (with_reducible exact op_ix_1 _ _ _) | (with_reducible exact op_isN_d) | (with_reducible exact op_notN_d) | (with_reducible exact op_isB_d _ _) | (with_reducible exact op_notB_d _ _) | (with_reducible exact b_len_p _) | (with_reducible exact b_len_l _) | (with_reducible exact b_len_t _) | (with_reducible exact b_sum _) | (with_reducible exact b_sorted _) | (with_reducible exact b_abs _) | (with_reducible exact b_max2 _ _) | (with_reducible exact b_min2 _ _) | ((with_reducible apply op_mod_i); with_reducible assumption) | ((with_reducible apply op_div_i); with_reducible assumption) | ((with_reducible apply op_mul_i); with_reducible assumption))
local macro_rules | `(tactic| walk_at "F") => `(tactic| walk_at "op")
local macro_rules | `(tactic| walk_at "A") => `(tactic| first | (with_reducible exact ea_nil) | ((with_reducible apply ea_cons); walk_at "E"; walk_at "A"))
local macro_rules | `(tactic| walk_at "T") => `(tactic| first | ((with_reducible apply et_val); walk_at "E") | ((with_reducible apply et_not); walk_at "T") | ((with_reducible apply et_or); walk_at "T"; (intro _; walk_at "T")) | ((with_reducible apply et_and); walk_at "T"; (intro _; walk_at "T")))
local macro_rules | `(tactic| walk_at "O") => `(tactic| first | (with_reducible exact eo_none) | ((with_reducible apply eo_some); walk_at "E"))
local macro_rules | `(tactic| walk_at "E") => `(tactic| first
  | (with_reducible exact ev_c)
  | ((with_reducible apply ev_var); rfl)
  | ((with_reducible apply ev_bin); walk_at "E"; walk_at "E"; walk_at "op")
  | ((with_reducible apply ev_call); walk_at "A"; walk_at "F")
  | ((with_reducible apply ev_tup); walk_at "A"; rfl)
  | ((with_reducible apply ev_lst); walk_at "A"; rfl)
  | ((with_reducible apply ev_neg); walk_at "E")
  | ((with_reducible apply ev_isi); walk_at "E")
  | ((with_reducible apply ev_not); walk_at "E")
  | ((with_reducible apply ev_and'); walk_at "E"; (intro _; walk_at "E"))
  | ((with_reducible apply ev_or'); walk_at "E"; (intro _; walk_at "E"))
  | ((with_reducible apply ev_chain); walk_at "E"; walk_at "E"; walk_at "E"; walk_at "op"; walk_at "op")
  | ((with_reducible apply ev_sl); walk_at "E"; walk_at "O"; walk_at "O")
  | ((with_reducible apply ev_rev); walk_at "E")
  | ((with_reducible apply ev_ifT); ((with_reducible apply ev_is); walk_at "T"; rfl); walk_at "E")
  | ((with_reducible apply ev_ifF); ((with_reducible apply ev_is); walk_at "T"; rfl); walk_at "E"))
local macro_rules | `(tactic| walk_at "I") => `(tactic| first | ((with_reducible apply ei_list); walk_at "E"; done) | ((with_reducible apply ei_tup); walk_at "E") | ((with_reducible apply ei_enum); walk_at "A") | ((with_reducible apply ei_zip); walk_at "A"))
local macro_rules | `(tactic| walk_at "S") => `(tactic| first
  | (with_reducible exact es_nil)
  | ((with_reducible apply es_retV); rfl)
  | ((with_reducible apply es_retO); rfl)
  | ((with_reducible apply es_ret); walk_at "E")
  | ((with_reducible apply es_seq); walk_at "S"; walk_at "S")
  | ((with_reducible apply es_expr); walk_at "E")
  | ((with_reducible apply es_set); walk_at "E")
  | ((with_reducible apply es_setO); walk_at "E")
  | ((with_reducible apply es_par); walk_at "A")
  | ((with_reducible apply es_asgT); walk_at "E"; rfl)
  | ((with_reducible apply es_ifF); ((with_reducible apply ev_is); walk_at "T"; (first | rfl | with_reducible assumption)); walk_at "S")
  | ((with_reducible apply es_ifT); ((with_reducible apply ev_is); walk_at "T"; (first | rfl | with_reducible assumption)); walk_at "S"))
local macro_rules | `(tactic| walk_at "F") => `(tactic| with_reducible exact is_int_eq _ _ _)
local macro_rules | `(tactic| walk_at "F") => `(tactic| with_reducible exact is_bound_eq _)
local macro_rules | `(tactic| walk_at "F") => `(tactic| ((with_reducible apply is_bounds_eq); exact okB_len (by with_reducible assumption)))
local macro_rules | `(tactic| walk_at "F") => `(tactic| ((with_reducible apply check_ok); with_reducible assumption))
local macro_rules | `(tactic| walk_at "F") => `(tactic| ((with_reducible apply lows_eq); exact okB_len (by with_reducible assumption)))
local macro_rules | `(tactic| walk_at "F") => `(tactic| ((with_reducible apply highs_eq); exact okB_len (by with_reducible assumption)))
local macro_rules | `(tactic| walk_at "F") => `(tactic| ((with_reducible apply sum_range_eq); with_reducible assumption))
local macro_rules | `(tactic| walk_at "F") => `(tactic| ((with_reducible apply mean_range_eq); with_reducible assumption))
local macro_rules | `(tactic| walk_at "F") => `(tactic| ((with_reducible apply median_range_eq); with_reducible assumption))
local macro_rules | `(tactic| walk_at "F") => `(tactic| ((with_reducible apply least_range_eq); with_reducible assumption))
local macro_rules | `(tactic| walk_at "F") => `(tactic| ((with_reducible apply greatest_range_eq); with_reducible assumption))
local macro_rules | `(tactic| walk_at "F") => `(tactic| ((with_reducible apply choices_eq) <;> with_reducible assumption))
local macro_rules | `(tactic| walk_at "F") => `(tactic| ((with_reducible apply b_min); with_reducible assumption))
local macro_rules | `(tactic| walk_at "F") => `(tactic| ((with_reducible apply b_max); with_reducible assumption))
local macro_rules | `(tactic| walk_at "F") => `(tactic| with_reducible exact frac_int _ _)
local macro_rules | `(tactic| walk_at "F") => `(tactic| with_reducible exact frac_pair _ _)
local macro_rules | `(tactic| walk_at "op") => `(tactic| with_reducible exact fg_sum _)
local macro_rules | `(tactic| walk_at "op") => `(tactic| with_reducible exact fg_mean _)
local macro_rules | `(tactic| walk_at "op") => `(tactic| with_reducible exact fg_median _)
local macro_rules | `(tactic| walk_at "op") => `(tactic| with_reducible exact fg_least _)
local macro_rules | `(tactic| walk_at "F") => `(tactic| ((with_reducible apply figure_range_eq); with_reducible assumption))
local macro_rules | `(tactic| walk_at "F") => `(tactic| with_reducible exact check_figure_eq _)
/-- bounds that _law_bounds draws -/
def Wide (n : Nat) (bs : List (Int × Int)) : Prop := (1 ≤ bs.length ∧ bs.length ≤ n) ∧ ∀ p ∈ bs, (-30 ≤ p.1 ∧ p.1 < 30) ∧ p.1 ≤ p.2 ∧ p.2 < p.1 + 20
theorem Wide.ok {n : Nat} {bs : List (Int × Int)} (h : Wide n bs) (hn : n ≤ 7) : okB bs = true := okB_iff.mpr ⟨by have := h.1; omega, fun p hp => by have := h.2 p hp; omega⟩
theorem pick_dw {ds : List PyData} {S : RV → Prop} (h0 : 0 < ds.length) (h1 : ds.length < 1073741824) (h : ∀ d ∈ ds, S (.d d, false)) : DW (F__law_pick [.ob 0, .d (.list ds)]) S := by
  unfold F__law_pick b__law_pick
  apply dw_run rfl
  with_reducible apply dws_ret
  with_reducible apply dwe_bin
  refine DW.of (by walk_at "E") ?_
  with_reducible apply dwe_call
  refine DW.of (by walk_at "A") ?_
  refine DW.draw (by omega) (by omega) fun r r0 r1 => ?_
  have hr : r.toNat < ds.length := by omega
  refine DW.of (op_ix_l (p := ds[r.toNat]) ?_) ⟨_, rfl, h _ (List.getElem_mem hr)⟩
  have e := atI_nat (List.getElem?_eq_getElem hr)
  rw [show ((r.toNat : Nat) : Int) = r by omega] at e
  exact e
theorem two_big : (2 : Int).natAbs < big := by unfold big; decide +kernel
theorem bounds_dw {n : Nat} (h1 : 1 ≤ n) (h7 : n ≤ 7) : DW (F__law_bounds [.ob 0, dI n]) fun r => ∃ bs, Wide n bs ∧ r = (.d (dBs bs), true) := by
  unfold F__law_bounds b__law_bounds
  apply dw_run rfl
  with_reducible apply dws_seq
  with_reducible apply dws_par
  with_reducible apply dwa_cons
  with_reducible apply dwe_call
  refine DW.of (by walk_at "A") ?_
  refine pick_dw (by decide) (by decide) fun d hd => ?_
  obtain ⟨far, rfl, hf⟩ : ∃ u : Int, d = .int u ∧ 1 ≤ u ∧ u ≤ 30 := by
    simp at hd
    rcases hd with rfl | rfl | rfl <;> exact ⟨_, rfl, by decide, by decide⟩
  with_reducible apply dwa_cons
  with_reducible apply dwe_call
  refine DW.of (by walk_at "A") ?_
  refine pick_dw (by decide) (by decide) fun d hd => ?_
  obtain ⟨wide, rfl, hw⟩ : ∃ u : Int, d = .int u ∧ 1 ≤ u ∧ u ≤ 20 := by
    simp at hd
    rcases hd with rfl | rfl | rfl <;> exact ⟨_, rfl, by decide, by decide⟩
  refine DW.of ea_nil ⟨_, _, rfl, _, rfl, ?_⟩
  have bf : far.natAbs < big := natAbs_big (by omega)
  with_reducible apply dws_pure
  · walk_at "S"
  with_reducible apply dws_seq
  with_reducible apply dws_for
  with_reducible apply dwi_range1
  with_reducible apply dwa_cons
  with_reducible apply dwe_bin
  refine DW.of (by walk_at "E") ?_
  with_reducible apply dwe_call
  refine DW.of (by walk_at "A") ?_
  refine DW.draw (by omega) (by omega) fun r hr0 hr1 => ?_
  refine DW.of (op_add_i _ _) (DW.of ea_nil ⟨_, rfl, by omega, DW.ret ?_⟩)
  have e : rangeP 0 (1 + r).toNat = (List.range (1 + r).toNat).map fun i : Nat => PyData.int (0 + i) := rfl
  rw [e]
  refine dw_forL (k := 0) (I := fun k en => ∃ bs u3 u6, bs.length = k ∧ (∀ p ∈ bs, (-30 ≤ p.1 ∧ p.1 < 30) ∧ p.1 ≤ p.2 ∧ p.2 < p.1 + 20) ∧ en = [some (.v (.ob 0)), some (.v (dI n)), some (.own (bs.map dP)), u3, some (.v (dI far)), some (.v (dI wide)), u6]) ⟨[], none, none, rfl, by simp, rfl⟩ ?_ ?_
  · rintro k x en _ hk ⟨bs, u3, u6, hb, hp, rfl⟩
    refine ⟨_, rfl, ?_⟩
    with_reducible apply dws_seq
    with_reducible apply dws_set
    with_reducible apply dwe_bin
    with_reducible apply dwe_call
    refine DW.of (a := [.ob 0, dI (2 * far)]) (ea_cons (ev_var rfl) (ea_cons (ev_bin ev_c (ev_var rfl) (op_mul_i ⟨two_big, bf⟩)) ea_nil)) ?_
    refine DW.draw (by omega) (by omega) fun a ha0 ha1 => ?_
    refine DW.of (ev_var rfl) (DW.of (op_sub_i _ _) ⟨_, rfl, ?_⟩)
    refine dws_app rfl (by
      rw [List.length_map, hb]
      rw [List.length_range] at hk
      have : lim = 1000000 := rfl
      omega) ?_
    with_reducible apply dwe_tup
    with_reducible apply dwa_cons
    refine DW.of (by walk_at "E") ?_
    with_reducible apply dwa_cons
    with_reducible apply dwe_bin
    refine DW.of (by walk_at "E") ?_
    with_reducible apply dwe_call
    refine DW.of (by walk_at "A") ?_
    refine DW.draw (by omega) (by omega) fun c hc0 hc1 => ?_
    refine DW.of (op_add_i _ _) (DW.of ea_nil ⟨_, rfl, _, rfl, _, rfl, bs ++ [(a - far, a - far + c)], some (.v (dI (0 + x))), some (.v (dI (a - far))), by simp [hb], ?_, ?_⟩)
    · intro p hp'
      rcases List.mem_append.mp hp' with h | h
      · exact hp p h
      · rw [List.mem_singleton] at h
        subst h
        dsimp only
        omega
    · rw [List.map_append]; rfl
  · rintro en' ⟨bs, u3, u6, hb, hp, rfl⟩
    refine ⟨_, rfl, DW.of (by walk_at "S") ⟨_, rfl, bs, ⟨?_, hp⟩, rfl⟩⟩
    rw [List.length_range] at hb
    omega
end Pg

/-! with_sum, met, checked. -/
namespace Pg
open PySem L2 Dt
local macro_rules | `(tactic| walk_at "op") => `(tactic| first | (with_reducible exact op_add_i _ _) | (with_reducible exact op_sub_i _ _) | (with_reducible exact op_lt_i _ _) | (with_reducible exact op_le_i _ _) | (with_reducible exact op_gt_i _ _) | (with_reducible exact op_ge_i _ _) | (with_reducible exact op_eq_i _ _) | (with_reducible exact op_ne_i _ _) | (with_reducible exact op_ix_p0 _) | (with_reducible exact op_ix_p1 _) | (with_reducible exact op_ix_0 _ _) | (with_reducible exact op_ix_1 _ _ _) | (with_reducible exact op_isN_d) | (with_reducible exact op_notN_d) | (with_reducible exact op_isB_d _ _) | (with_reducible exact op_notB_d _ _) | (with_reducible exact b_len_p _) | (with_reducible exact b_len_l _) | (with_reducible exact b_len_t _) | (with_reducible exact b_sum _) | (with_reducible exact b_sorted _) | (with_reducible exact b_abs _) | (with_reducible exact b_max2 _ _) | (with_reducible exact b_min2 _ _) | ((with_reducible apply op_mod_i); with_reducible assumption) | ((with_reducible apply op_div_i); with_reducible assumption) | ((with_reducible apply op_mul_i); with_reducible assumption))
local macro_rules | `(tactic| walk_at "F") => `(tactic| walk_at "op")
local macro_rules | `(tactic| walk_at "A") => `(tactic| first | (with_reducible exact ea_nil) | ((with_reducible apply ea_cons); walk_at "E"; walk_at "A"))
local macro_rules | `(tactic| walk_at "T") => `(tactic| first | ((with_reducible apply et_val); walk_at "E") | ((with_reducible apply et_not); walk_at "T") | ((with_reducible apply et_or); walk_at "T"; (intro _; walk_at "T")) | ((with_reducible apply et_and); walk_at "T"; (intro _; walk_at "T")))
local macro_rules | `(tactic| walk_at "O") => `(tactic| first | (with_reducible exact eo_none) | ((with_reducible apply eo_some); walk_at "E"))
local macro_rules | `(tactic| walk_at "E") => `(tactic| first
  | (with_reducible exact ev_c)
  | ((with_reducible apply ev_var); rfl)
  | ((with_reducible apply ev_bin); walk_at "E"; walk_at "E"; walk_at "op")
  | ((with_reducible apply ev_call); walk_at "A"; walk_at "F")
  | ((with_reducible apply ev_tup); walk_at "A"; rfl)
  | ((with_reducible apply ev_lst); walk_at "A"; rfl)
  | ((with_reducible apply ev_neg); walk_at "E")
  | ((with_reducible apply ev_isi); walk_at "E")
  | ((with_reducible apply ev_not); walk_at "E")
  | ((with_reducible apply ev_and'); walk_at "E"; (intro _; walk_at "E"))
  | ((with_reducible apply ev_or'); walk_at "E"; (intro _; walk_at "E"))
  | ((with_reducible apply ev_chain); walk_at "E"; walk_at "E"; walk_at "E"; walk_at "op"; walk_at "op")
  | ((with_reducible apply ev_sl); walk_at "E"; walk_at "O"; walk_at "O")
  | ((with_reducible apply ev_rev); walk_at "E")
  | ((with_reducible apply ev_ifT); ((with_reducible apply ev_is); walk_at "T"; rfl); walk_at "E")
  | ((with_reducible apply ev_ifF); ((with_reducible apply ev_is); walk_at "T"; rfl); walk_at "E"))
local macro_rules | `(tactic| walk_at "I") => `(tactic| first | ((with_reducible apply ei_list); walk_at "E"; done) | ((with_reducible apply ei_tup); walk_at "E") | ((with_reducible apply ei_enum); walk_at "A") | ((with_reducible apply ei_zip); walk_at "A"))
local macro_rules | `(tactic| walk_at "S") => `(tactic| first
  | (with_reducible exact es_nil)
  | ((with_reducible apply es_retV); rfl)
  | ((with_reducible apply es_retO); rfl)
  | ((with_reducible apply es_ret); walk_at "E")
  | ((with_reducible apply es_seq); walk_at "S"; walk_at "S")
  | ((with_reducible apply es_expr); walk_at "E")
  | ((with_reducible apply es_set); walk_at "E")
  | ((with_reducible apply es_setO); walk_at "E")
  | ((with_reducible apply es_par); walk_at "A")
  | ((with_reducible apply es_asgT); walk_at "E"; rfl)
  | ((with_reducible apply es_ifF); ((with_reducible apply ev_is); walk_at "T"; (first | rfl | with_reducible assumption)); walk_at "S")
  | ((with_reducible apply es_ifT); ((with_reducible apply ev_is); walk_at "T"; (first | rfl | with_reducible assumption)); walk_at "S"))
local macro_rules | `(tactic| walk_at "F") => `(tactic| with_reducible exact is_int_eq _ _ _)
local macro_rules | `(tactic| walk_at "F") => `(tactic| with_reducible exact is_bound_eq _)
local macro_rules | `(tactic| walk_at "F") => `(tactic| ((with_reducible apply is_bounds_eq); exact okB_len (by with_reducible assumption)))
local macro_rules | `(tactic| walk_at "F") => `(tactic| ((with_reducible apply check_ok); with_reducible assumption))
local macro_rules | `(tactic| walk_at "F") => `(tactic| ((with_reducible apply lows_eq); exact okB_len (by with_reducible assumption)))
local macro_rules | `(tactic| walk_at "F") => `(tactic| ((with_reducible apply highs_eq); exact okB_len (by with_reducible assumption)))
local macro_rules | `(tactic| walk_at "F") => `(tactic| ((with_reducible apply sum_range_eq); with_reducible assumption))
local macro_rules | `(tactic| walk_at "F") => `(tactic| ((with_reducible apply mean_range_eq); with_reducible assumption))
local macro_rules | `(tactic| walk_at "F") => `(tactic| ((with_reducible apply median_range_eq); with_reducible assumption))
local macro_rules | `(tactic| walk_at "F") => `(tactic| ((with_reducible apply least_range_eq); with_reducible assumption))
local macro_rules | `(tactic| walk_at "F") => `(tactic| ((with_reducible apply greatest_range_eq); with_reducible assumption))
local macro_rules | `(tactic| walk_at "F") => `(tactic| ((with_reducible apply choices_eq) <;> with_reducible assumption))
local macro_rules | `(tactic| walk_at "F") => `(tactic| ((with_reducible apply b_min); with_reducible assumption))
local macro_rules | `(tactic| walk_at "F") => `(tactic| ((with_reducible apply b_max); with_reducible assumption))
local macro_rules | `(tactic| walk_at "F") => `(tactic| with_reducible exact frac_int _ _)
local macro_rules | `(tactic| walk_at "F") => `(tactic| with_reducible exact frac_pair _ _)
local macro_rules | `(tactic| walk_at "op") => `(tactic| with_reducible exact fg_sum _)
local macro_rules | `(tactic| walk_at "op") => `(tactic| with_reducible exact fg_mean _)
local macro_rules | `(tactic| walk_at "op") => `(tactic| with_reducible exact fg_median _)
local macro_rules | `(tactic| walk_at "op") => `(tactic| with_reducible exact fg_least _)
local macro_rules | `(tactic| walk_at "F") => `(tactic| ((with_reducible apply figure_range_eq); with_reducible assumption))
local macro_rules | `(tactic| walk_at "F") => `(tactic| with_reducible exact check_figure_eq _)
def mx (k l : Int) : Int := if l > k then l else k
def mn (k l : Int) : Int := if l < k then l else k
theorem mx_le (k l : Int) : k ≤ mx k l ∧ l ≤ mx k l ∧ (mx k l = k ∨ mx k l = l) := by unfold mx; split <;> omega
theorem mn_le (k l : Int) : mn k l ≤ k ∧ mn k l ≤ l ∧ (mn k l = k ∨ mn k l = l) := by unfold mn; split <;> omega
/-- the narrowed bounds -/
def ws (bs : List (Int × Int)) (l g : Int) : List (Int × Int) := bs.map fun p => (mx p.1 (l - ((his bs).sum - p.2)), mn p.2 (g - ((los bs).sum - p.1)))
theorem with_sum_eq {bs : List (Int × Int)} (ok : okB bs = true) {l g : Int} (h1 : -400 ≤ l) (h2 : l ≤ g) (h3 : g ≤ 400) (h4 : (los bs).sum ≤ g) (h5 : l ≤ (his bs).sum) : F_with_sum [.d (dBs bs), dI l, dI g] = .ret (.d (dBs (ws bs l g)), true) := by
  have hl := okB_len ok
  unfold F_with_sum b_with_sum
  apply run_rt rfl
  with_reducible apply es_seq
  · walk_at "S"
  with_reducible apply es_seq
  · with_reducible apply es_ifF
    · with_reducible apply ev_is
      · walk_at "T"
      · simp; omega
    · walk_at "S"
  with_reducible apply es_seq
  · with_reducible apply es_asgT
    · with_reducible apply ev_tup
      · with_reducible apply ea_cons
        · with_reducible apply ev_call
          · with_reducible apply ea_cons
            · exact list_of (ys := (los bs).map PyData.int) (ev_compB (f := fun p => .int p.1) (b := false) (by walk_at "I") hl fun p hp => by walk_at "E") (by rw [List.map_map]; rfl)
            · walk_at "A"
          · exact b_sum _
        · with_reducible apply ea_cons
          · with_reducible apply ev_call
            · with_reducible apply ea_cons
              · exact list_of (ys := (his bs).map PyData.int) (ev_compB (f := fun p => .int p.2) (b := false) (by walk_at "I") hl fun p hp => by walk_at "E") (by rw [List.map_map]; rfl)
              · walk_at "A"
            · exact b_sum _
          · walk_at "A"
      · rfl
    · rfl
  with_reducible apply es_seq
  · with_reducible apply es_ifF
    · with_reducible apply ev_is
      · walk_at "T"
      · simp; omega
    · walk_at "S"
  with_reducible apply es_ret
  refine list_of (ev_compB (f := fun p => dP (mx p.1 (l - ((his bs).sum - p.2)), mn p.2 (g - ((los bs).sum - p.1)))) (b := false) (by walk_at "I") hl fun p hp => ?_) (by unfold ws; rw [List.map_map]; rfl)
  refine Eq.trans (by walk_at "E") ?_
  rfl
theorem checked_eq {bs : List (Int × Int)} (hl : bs.length ≤ lim) (h : ∀ p ∈ bs, p.1 ≤ p.2) : F_checked_facts [.d (dBs bs)] = .ret (.d (dBs bs), false) := by
  unfold F_checked_facts b_checked_facts
  apply run_rt rfl
  with_reducible apply es_seq
  · with_reducible apply es_ifF
    · with_reducible apply ev_is
      · with_reducible apply et_val
        with_reducible apply ev_call
        · with_reducible apply ea_cons
          · exact list_of (ys := (bs.map fun p => decide (p.2 < p.1)).map PyData.bool) (ev_compB (f := fun p => .bool (decide (p.2 < p.1))) (b := false) (by walk_at "I") hl fun p hp => by walk_at "E") (by rw [List.map_map]; rfl)
          · walk_at "A"
        · exact b_any _
      · rw [List.any_map, List.any_eq_false]
        intro p hp
        have := h p hp
        simp; omega
    · walk_at "S"
  · walk_at "S"
/-- the common part -/
def mt : List (Int × Int) → List (Int × Int) → List (Int × Int)
  | p :: ps, q :: qs => (mx p.1 q.1, mn p.2 q.2) :: mt ps qs
  | _, _ => []
theorem zip_dP : ∀ (bs cs : List (Int × Int)), zipP (bs.map dP) (cs.map dP) = (bs.zip cs).map fun x => .tuple [dP x.1, dP x.2]
  | [], _ => by cases ‹List (Int × Int)› <;> rfl
  | _ :: _, [] => rfl
  | p :: bs, q :: cs => by rw [List.map_cons, List.map_cons, zipP, zip_dP bs cs]; rfl
theorem mt_zip : ∀ (bs cs : List (Int × Int)), mt bs cs = (bs.zip cs).map fun x => (mx x.1.1 x.2.1, mn x.1.2 x.2.2)
  | [], _ => rfl
  | _ :: _, [] => rfl
  | p :: bs, q :: cs => by rw [mt, mt_zip bs cs]; rfl
theorem met_eq {bs cs : List (Int × Int)} (ok : okB bs = true) (ok' : okB cs = true) (hl : bs.length = cs.length) (h : ∀ p ∈ mt bs cs, p.1 ≤ p.2) : F_met [.d (dBs bs), .d (dBs cs)] = .ret (.d (dBs (mt bs cs)), false) := by
  have hz : (bs.zip cs).length ≤ lim := by rw [List.length_zip]; have := okB_len ok; omega
  unfold F_met b_met
  apply run_rt rfl
  with_reducible apply es_seq
  · walk_at "S"
  with_reducible apply es_seq
  · walk_at "S"
  with_reducible apply es_seq
  · with_reducible apply es_ifF
    · with_reducible apply ev_is
      · walk_at "T"
      · rw [List.length_map, List.length_map, hl]; simp
    · walk_at "S"
  with_reducible apply es_ret
  with_reducible apply ev_call
  · with_reducible apply ea_cons
    · refine list_of (ys := (mt bs cs).map dP) (ev_compT (xs := bs.zip cs) (emb := fun x => .tuple [dP x.1, dP x.2]) (d1 := fun x => dP x.1) (d2 := fun x => dP x.2) (f := fun x => dP (mx x.1.1 x.2.1, mn x.1.2 x.2.2)) (b := false) (by rw [← zip_dP]; walk_at "I") (fun _ => rfl) hz fun x hx => ?_) (by rw [mt_zip, List.map_map]; rfl)
      refine Eq.trans (by walk_at "E") ?_
      rfl
    · walk_at "A"
  · exact checked_eq (by rw [mt_zip, List.length_map]; exact hz) h
/-! ### sums of narrowed bounds -/
theorem sum_mn {C : Int} (hC : 0 ≤ C) : ∀ {bs : List (Int × Int)}, (∀ p ∈ bs, p.1 ≤ p.2) → (his bs).sum ≤ (bs.map fun p => mn p.2 (C + p.1)).sum ∨ C + (los bs).sum ≤ (bs.map fun p => mn p.2 (C + p.1)).sum
  | [], _ => by left; simp
  | p :: bs, h => by
    have hp := h p List.mem_cons_self
    have ih := sum_mn hC (bs := bs) fun q hq => h q (List.mem_cons_of_mem _ hq)
    have hge : (los bs).sum ≤ (bs.map fun p => mn p.2 (C + p.1)).sum := by
      clear ih
      have h' : ∀ q ∈ bs, q.1 ≤ q.2 := fun q hq => h q (List.mem_cons_of_mem _ hq)
      clear h
      induction bs with
      | nil => simp
      | cons q bs ih =>
        have a := h' q List.mem_cons_self
        have b := ih fun r hr => h' r (List.mem_cons_of_mem _ hr)
        have := mn_le q.2 (C + q.1)
        simp only [los, List.map_cons, List.sum_cons] at b ⊢
        omega
    have := mn_le p.2 (C + p.1)
    simp only [los, his, List.map_cons, List.sum_cons] at ih hge ⊢
    omega
theorem sum_mx {D : Int} (hD : 0 ≤ D) : ∀ {bs : List (Int × Int)}, (∀ p ∈ bs, p.1 ≤ p.2) → (bs.map fun p => mx p.1 (p.2 - D)).sum ≤ (los bs).sum ∨ (bs.map fun p => mx p.1 (p.2 - D)).sum ≤ (his bs).sum - D
  | [], _ => by left; simp
  | p :: bs, h => by
    have hp := h p List.mem_cons_self
    have ih := sum_mx hD (bs := bs) fun q hq => h q (List.mem_cons_of_mem _ hq)
    have hge : (bs.map fun p => mx p.1 (p.2 - D)).sum ≤ (his bs).sum := by
      clear ih
      have h' : ∀ q ∈ bs, q.1 ≤ q.2 := fun q hq => h q (List.mem_cons_of_mem _ hq)
      clear h
      induction bs with
      | nil => simp
      | cons q bs ih =>
        have a := h' q List.mem_cons_self
        have b := ih fun r hr => h' r (List.mem_cons_of_mem _ hr)
        have := mx_le q.1 (q.2 - D)
        simp only [his, List.map_cons, List.sum_cons] at b ⊢
        omega
    have := mx_le p.1 (p.2 - D)
    simp only [los, his, List.map_cons, List.sum_cons] at ih hge ⊢
    omega
end Pg

/-! Narrowing by a sum: plain laws. -/
namespace Pg
open PySem L2 Dt
abbrev Up (bs : List (Int × Int)) : Prop := ∀ p ∈ bs, p.1 ≤ p.2
theorem sum_up : ∀ {bs : List (Int × Int)}, Up bs → (los bs).sum ≤ (his bs).sum
  | [], _ => by simp
  | p :: bs, h => by
    have := h p List.mem_cons_self
    have := sum_up (bs := bs) fun q hq => h q (List.mem_cons_of_mem _ hq)
    simp only [los, his, List.map_cons, List.sum_cons] at this ⊢
    omega
theorem sum_split {f : Int × Int → Int} {pre post : List (Int × Int)} {p : Int × Int} : ((pre ++ p :: post).map f).sum = f p + ((pre ++ post).map f).sum := by
  simp only [List.map_append, List.map_cons, List.sum_append, List.sum_cons]
  omega
theorem mem_split' {α : Type} {x : α} {xs : List α} (h : x ∈ xs) : ∃ pre post, xs = pre ++ x :: post := List.append_of_mem h
theorem width_le {bs : List (Int × Int)} (h : Up bs) {p : Int × Int} (hp : p ∈ bs) : p.2 - p.1 ≤ (his bs).sum - (los bs).sum := by
  obtain ⟨pre, post, rfl⟩ := mem_split' hp
  have := sum_up (bs := pre ++ post) fun q hq => h q (by
    rcases List.mem_append.mp hq with z | z
    · simp [z]
    · simp [z])
  unfold los his at *
  rw [sum_split, sum_split]
  omega
section
variable {bs : List (Int × Int)} {l g : Int}
def tf (bs : List (Int × Int)) (l g : Int) (p : Int × Int) : Int × Int := (mx p.1 (l - ((his bs).sum - p.2)), mn p.2 (g - ((los bs).sum - p.1)))
theorem ws_eq : ws bs l g = bs.map (tf bs l g) := rfl
theorem mx_ge {k m : Int} (h : m ≤ k) : mx k m = k := by unfold mx; split <;> omega
theorem mx_lt {k m : Int} (h : k ≤ m) : mx k m = m := by unfold mx; split <;> omega
theorem mn_ge {k m : Int} (h : k ≤ m) : mn k m = k := by unfold mn; split <;> omega
theorem mn_lt {k m : Int} (h : m ≤ k) : mn k m = m := by unfold mn; split <;> omega
theorem tf_in (h : Up bs) (hl : l ≤ g) (h1 : (los bs).sum ≤ g) (h2 : l ≤ (his bs).sum) {p : Int × Int} (hp : p ∈ bs) : p.1 ≤ (tf bs l g p).1 ∧ (tf bs l g p).1 ≤ (tf bs l g p).2 ∧ (tf bs l g p).2 ≤ p.2 := by
  have w := width_le h hp
  have u := h p hp
  have a := mx_le p.1 (l - ((his bs).sum - p.2))
  have b := mn_le p.2 (g - ((los bs).sum - p.1))
  unfold tf
  dsimp only
  omega
theorem ws_up (h : Up bs) (hl : l ≤ g) (h1 : (los bs).sum ≤ g) (h2 : l ≤ (his bs).sum) : Up (ws bs l g) := by
  intro q hq
  rw [ws_eq] at hq
  obtain ⟨p, hp, rfl⟩ := List.mem_map.mp hq
  exact (tf_in h hl h1 h2 hp).2.1
theorem ws_ok (ok : okB bs = true) (hl : l ≤ g) (h1 : (los bs).sum ≤ g) (h2 : l ≤ (his bs).sum) : okB (ws bs l g) = true := by
  have hk := okB_iff.mp ok
  have hu : Up bs := (okB_pos ok).2
  refine okB_iff.mpr ⟨by rw [ws_eq, List.length_map]; exact hk.1, fun q hq => ?_⟩
  rw [ws_eq] at hq
  obtain ⟨p, hp, rfl⟩ := List.mem_map.mp hq
  have := tf_in hu hl h1 h2 hp
  have := hk.2 p hp
  omega
theorem los_ws (cs : List (Int × Int)) : los (cs.map (tf bs l g)) = cs.map fun p => mx p.1 (p.2 - ((his bs).sum - l)) := by
  unfold los
  rw [List.map_map]
  refine List.map_congr_left fun p _ => ?_
  show mx p.1 (l - ((his bs).sum - p.2)) = _
  congr 1
  omega
theorem his_ws (cs : List (Int × Int)) : his (cs.map (tf bs l g)) = cs.map fun p => mn p.2 ((g - (los bs).sum) + p.1) := by
  unfold his
  rw [List.map_map]
  refine List.map_congr_left fun p _ => ?_
  show mn p.2 (g - ((los bs).sum - p.1)) = _
  congr 1
  omega
theorem ws_low (h : Up bs) (h1 : (los bs).sum ≤ l) (h2 : l ≤ (his bs).sum) : (los (ws bs l g)).sum ≤ l := by
  rw [ws_eq, los_ws]
  have := sum_mx (D := (his bs).sum - l) (by omega) h
  omega
theorem ws_high (h : Up bs) (h1 : (los bs).sum ≤ g) (h2 : g ≤ (his bs).sum) : g ≤ (his (ws bs l g)).sum := by
  rw [ws_eq, his_ws]
  have := sum_mn (C := g - (los bs).sum) (by omega) h
  omega
theorem up_rest {pre post : List (Int × Int)} {p : Int × Int} (h : Up (pre ++ p :: post)) : Up (pre ++ post) := fun q hq => h q (by
  rcases List.mem_append.mp hq with z | z
  · simp [z]
  · simp [z])
theorem ws_idem (h : Up bs) (hl : l ≤ g) (h1 : (los bs).sum ≤ l) (h2 : g ≤ (his bs).sum) : ws (ws bs l g) l g = ws bs l g := by
  show (ws bs l g).map _ = _
  conv => rhs; rw [← List.map_id (ws bs l g)]
  refine List.map_congr_left fun q hq => ?_
  rw [ws_eq] at hq
  obtain ⟨p, hp, rfl⟩ := List.mem_map.mp hq
  have hin := tf_in h hl (by omega) (by omega) hp
  have a := mx_le p.1 (l - ((his bs).sum - p.2))
  have b := mn_le p.2 (g - ((los bs).sum - p.1))
  have e1 : (tf bs l g p).1 = mx p.1 (l - ((his bs).sum - p.2)) := rfl
  have e2 : (tf bs l g p).2 = mn p.2 (g - ((los bs).sum - p.1)) := rfl
  obtain ⟨pre, post, hs⟩ := mem_split' hp
  have hu : Up (pre ++ post) := up_rest (p := p) (by rw [← hs]; exact h)
  have key : ∀ f : Int × Int → Int, (bs.map f).sum = f p + ((pre ++ post).map f).sum := fun f => by rw [hs]; exact sum_split
  have kT : (his (ws bs l g)).sum = (tf bs l g p).2 + ((pre ++ post).map fun p => mn p.2 ((g - (los bs).sum) + p.1)).sum := by
    rw [ws_eq, his_ws, key, e2]
    rw [show g - (los bs).sum + p.1 = g - ((los bs).sum - p.1) by omega]
  have kB : (los (ws bs l g)).sum = (tf bs l g p).1 + ((pre ++ post).map fun p => mx p.1 (p.2 - ((his bs).sum - l))).sum := by
    rw [ws_eq, los_ws, key, e1]
    rw [show p.2 - ((his bs).sum - l) = l - ((his bs).sum - p.2) by omega]
  have s1 := sum_mn (C := g - (los bs).sum) (by omega) hu
  have s2 := sum_mx (D := (his bs).sum - l) (by omega) hu
  have t1 : (his bs).sum = p.2 + (his (pre ++ post)).sum := key _
  have t2 : (los bs).sum = p.1 + (los (pre ++ post)).sum := key _
  rw [kT, kB]
  show (mx (tf bs l g p).1 _, mn (tf bs l g p).2 _) = tf bs l g p
  rw [mx_ge (by omega), mn_ge (by omega)]
theorem ws_full (h : Up bs) : ws bs (los bs).sum (his bs).sum = bs := by
  unfold ws
  conv => rhs; rw [← List.map_id bs]
  refine List.map_congr_left fun p hp => ?_
  have := width_le h hp
  rw [mx_ge (by omega), mn_ge (by omega)]
  rfl
theorem mt_map2 (f k : Int × Int → Int × Int) : ∀ cs : List (Int × Int), mt (cs.map f) (cs.map k) = cs.map fun p => (mx (f p).1 (k p).1, mn (f p).2 (k p).2)
  | [] => rfl
  | p :: cs => by rw [List.map_cons, List.map_cons, mt, mt_map2 f k cs]; rfl
theorem mt_ws (h : Up bs) (hl : l ≤ g) (h1 : (los bs).sum ≤ g) (h2 : l ≤ (his bs).sum) : mt bs (ws bs l g) = ws bs l g := by
  have := mt_map2 id (tf bs l g) bs
  rw [List.map_id] at this
  rw [ws_eq, this]
  refine List.map_congr_left fun p hp => ?_
  have := tf_in h hl h1 h2 hp
  rw [mx_lt (show (id p).1 ≤ _ from this.1), mn_lt (show _ ≤ (id p).2 from this.2.2)]
theorem mt_alone (hl : l ≤ g) : mt (ws bs l g) (ws bs l l) = ws bs l l := by
  rw [ws_eq, ws_eq, mt_map2]
  refine List.map_congr_left fun p hp => ?_
  have b := mn_le p.2 (g - ((los bs).sum - p.1))
  have c := mn_le p.2 (l - ((los bs).sum - p.1))
  have e1 : (tf bs l g p).1 = (tf bs l l p).1 := rfl
  have e2 : (tf bs l g p).2 = mn p.2 (g - ((los bs).sum - p.1)) := rfl
  have e3 : (tf bs l l p).2 = mn p.2 (l - ((los bs).sum - p.1)) := rfl
  rw [mx_ge (by omega), mn_lt (by omega), e1]
end
/-! ### the k-th value and the numbers above a limit -/
theorem kth_above {xs : List Int} {k : Nat} (hk : k < xs.length) (v : Int) : v < kth xs k ↔ (xs.length : Int) - k ≤ aboveC v xs := by
  have h1 : k < (isort xs).length := by rw [isort_len]; exact hk
  have e : kth xs k = (isort xs)[k] := by unfold kth; rw [List.getD_eq_getElem?_getD, List.getElem?_eq_getElem h1]; rfl
  have c := kth_iff h1 v
  have s : xs.countP (fun z => decide (z ≤ v)) + (xs.filter (fun z => decide (v < z))).length = xs.length := by
    clear e c h1 hk
    rw [← List.countP_eq_length_filter]
    induction xs with
    | nil => rfl
    | cons x xs ih =>
      simp only [List.countP_cons, List.length_cons]
      by_cases h : x ≤ v
      · simp [h, show ¬ v < x by omega]; omega
      · simp [h, show v < x by omega]; omega
  unfold aboveC
  rw [e]
  constructor
  · intro h
    have : ¬ k < xs.countP (fun z => decide (z ≤ v)) := fun z => by have := c.mpr z; omega
    omega
  · intro h
    have : ¬ (isort xs)[k] ≤ v := fun z => by have := c.mp z; omega
    omega
theorem perm_sum {xs ys : List Int} (h : xs.Perm ys) : xs.sum = ys.sum := by
  induction h with
  | nil => rfl
  | cons x _ ih => rw [List.sum_cons, List.sum_cons, ih]
  | swap x y l => simp only [List.sum_cons]; omega
  | trans _ _ a b => exact a.trans b
theorem kth_sum (xs : List Int) : ((List.range xs.length).map fun i => kth xs i).sum = xs.sum := by
  have e : ((List.range xs.length).map fun i => kth xs i) = isort xs := by
    refine List.ext_getElem (by simp [isort_len]) fun i h1 h2 => ?_
    rw [List.getElem_map, List.getElem_range]
    unfold kth
    rw [List.getD_eq_getElem?_getD, List.getElem?_eq_getElem h2]
    rfl
  rw [e]
  exact perm_sum (isort_perm xs)
end Pg

/-! What the defs compute, part 13: spreads (k03, k10). -/
namespace Pg
open PySem L2 Dt
local macro_rules | `(tactic| walk_at "op") => `(tactic| first | (with_reducible exact op_add_i _ _) | (with_reducible exact op_sub_i _ _) | (with_reducible exact op_lt_i _ _) | (with_reducible exact op_le_i _ _) | (with_reducible exact op_gt_i _ _) | (with_reducible exact op_ge_i _ _) | (with_reducible exact op_eq_i _ _) | (with_reducible exact op_ne_i _ _) | (with_reducible exact op_ix_p0 _) | (with_reducible exact op_ix_p1 _) | (with_reducible exact op_ix_0 _ _) | (with_reducible exact op_ix_1 _ _ _) | (with_reducible exact op_isN_d) | (with_reducible exact op_notN_d) | (with_reducible exact op_isB_d _ _) | (with_reducible exact op_notB_d _ _) | (with_reducible exact b_len_p _) | (with_reducible exact b_len_l _) | (with_reducible exact b_len_t _) | (with_reducible exact b_sum _) | (with_reducible exact b_sorted _) | (with_reducible exact b_abs _) | (with_reducible exact b_max2 _ _) | (with_reducible exact b_min2 _ _) | ((with_reducible apply op_mod_i); with_reducible assumption) | ((with_reducible apply op_div_i); with_reducible assumption) | ((with_reducible apply op_mul_i); with_reducible assumption))
local macro_rules | `(tactic| walk_at "F") => `(tactic| walk_at "op")
local macro_rules | `(tactic| walk_at "A") => `(tactic| first | (with_reducible exact ea_nil) | ((with_reducible apply ea_cons); walk_at "E"; walk_at "A"))
local macro_rules | `(tactic| walk_at "T") => `(tactic| first | ((with_reducible apply et_val); walk_at "E") | ((with_reducible apply et_not); walk_at "T") | ((with_reducible apply et_or); walk_at "T"; (intro _; walk_at "T")) | ((with_reducible apply et_and); walk_at "T"; (intro _; walk_at "T")))
local macro_rules | `(tactic| walk_at "O") => `(tactic| first | (with_reducible exact eo_none) | ((with_reducible apply eo_some); walk_at "E"))
local macro_rules | `(tactic| walk_at "E") => `(tactic| first
  | (with_reducible exact ev_c)
  | ((with_reducible apply ev_var); rfl)
  | ((with_reducible apply ev_bin); walk_at "E"; walk_at "E"; walk_at "op")
  | ((with_reducible apply ev_call); walk_at "A"; walk_at "F")
  | ((with_reducible apply ev_tup); walk_at "A"; rfl)
  | ((with_reducible apply ev_lst); walk_at "A"; rfl)
  | ((with_reducible apply ev_neg); walk_at "E")
  | ((with_reducible apply ev_isi); walk_at "E")
  | ((with_reducible apply ev_not); walk_at "E")
  | ((with_reducible apply ev_and'); walk_at "E"; (intro _; walk_at "E"))
  | ((with_reducible apply ev_or'); walk_at "E"; (intro _; walk_at "E"))
  | ((with_reducible apply ev_chain); walk_at "E"; walk_at "E"; walk_at "E"; walk_at "op"; walk_at "op")
  | ((with_reducible apply ev_sl); walk_at "E"; walk_at "O"; walk_at "O")
  | ((with_reducible apply ev_rev); walk_at "E")
  | ((with_reducible apply ev_ifT); ((with_reducible apply ev_is); walk_at "T"; rfl); walk_at "E")
  | ((with_reducible apply ev_ifF); ((with_reducible apply ev_is); walk_at "T"; rfl); walk_at "E"))
local macro_rules | `(tactic| walk_at "I") => `(tactic| first | ((with_reducible apply ei_list); walk_at "E"; done) | ((with_reducible apply ei_tup); walk_at "E") | ((with_reducible apply ei_enum); walk_at "A") | ((with_reducible apply ei_zip); walk_at "A"))
local macro_rules | `(tactic| walk_at "S") => `(tactic| first
  | (with_reducible exact es_nil)
  | ((with_reducible apply es_retV); rfl)
  | ((with_reducible apply es_retO); rfl)
  | ((with_reducible apply es_ret); walk_at "E")
  | ((with_reducible apply es_seq); walk_at "S"; walk_at "S")
  | ((with_reducible apply es_expr); walk_at "E")
  | ((with_reducible apply es_set); walk_at "E")
  | ((with_reducible apply es_setO); walk_at "E")
  | ((with_reducible apply es_par); walk_at "A")
  | ((with_reducible apply es_asgT); walk_at "E"; rfl)
  | ((with_reducible apply es_ifF); ((with_reducible apply ev_is); walk_at "T"; (first | rfl | with_reducible assumption)); walk_at "S")
  | ((with_reducible apply es_ifT); ((with_reducible apply ev_is); walk_at "T"; (first | rfl | with_reducible assumption)); walk_at "S"))
local macro_rules | `(tactic| walk_at "F") => `(tactic| with_reducible exact is_int_eq _ _ _)
local macro_rules | `(tactic| walk_at "F") => `(tactic| with_reducible exact is_bound_eq _)
local macro_rules | `(tactic| walk_at "F") => `(tactic| ((with_reducible apply is_bounds_eq); exact okB_len (by with_reducible assumption)))
local macro_rules | `(tactic| walk_at "F") => `(tactic| ((with_reducible apply check_ok); with_reducible assumption))
local macro_rules | `(tactic| walk_at "F") => `(tactic| ((with_reducible apply lows_eq); exact okB_len (by with_reducible assumption)))
local macro_rules | `(tactic| walk_at "F") => `(tactic| ((with_reducible apply highs_eq); exact okB_len (by with_reducible assumption)))
local macro_rules | `(tactic| walk_at "F") => `(tactic| ((with_reducible apply sum_range_eq); with_reducible assumption))
local macro_rules | `(tactic| walk_at "F") => `(tactic| ((with_reducible apply mean_range_eq); with_reducible assumption))
local macro_rules | `(tactic| walk_at "F") => `(tactic| ((with_reducible apply median_range_eq); with_reducible assumption))
local macro_rules | `(tactic| walk_at "F") => `(tactic| ((with_reducible apply least_range_eq); with_reducible assumption))
local macro_rules | `(tactic| walk_at "F") => `(tactic| ((with_reducible apply greatest_range_eq); with_reducible assumption))
local macro_rules | `(tactic| walk_at "F") => `(tactic| ((with_reducible apply choices_eq) <;> with_reducible assumption))
local macro_rules | `(tactic| walk_at "F") => `(tactic| ((with_reducible apply b_min); with_reducible assumption))
local macro_rules | `(tactic| walk_at "F") => `(tactic| ((with_reducible apply b_max); with_reducible assumption))
local macro_rules | `(tactic| walk_at "L") => `(tactic| first | with_reducible assumption | exact okB_len (by with_reducible assumption) | (simp only [List.length_map, irange_len, List.length_range]; omega))
local macro_rules | `(tactic| walk_at "I") => `(tactic| (first | ((with_reducible apply ei_rng1); walk_at "A"; omega) | ((with_reducible apply ei_rng2); walk_at "A"; omega)))
local macro_rules | `(tactic| walk_at "E") => `(tactic| first
  | ((with_reducible apply ev_compB); walk_at "I"; walk_at "L"; (intro _ _; walk_at "E"))
  | ((with_reducible apply ev_compBF); walk_at "I"; walk_at "L"; (intro _ _; walk_at "T"); (intro _ _ _; walk_at "E"))
  | ((with_reducible apply ev_compN); walk_at "I"; walk_at "L"; (intro _ _; walk_at "E"))
  | ((with_reducible apply ev_compNF); walk_at "I"; walk_at "L"; (intro _ _; walk_at "T"); (intro _ _ _; walk_at "E")))
local macro_rules | `(tactic| walk_at "F") => `(tactic| first | (with_reducible exact b_sum' _ _) | (with_reducible exact b_all' _ _) | (with_reducible exact b_any' _ _) | (with_reducible exact b_sorted' _ _))
abbrev Gp := Option (Int × Int × Int)
def encG : Gp → PyData
  | none => .none
  | some (g, k, j) => .tuple [.int g, .int k, .int j]
def gapAt (bs : List (Int × Int)) (k j : Int) : Int := highAt bs k - lowAt bs j
def gStep (bs : List (Int × Int)) (k : Int) (b : Gp) (j : Int) : Gp :=
  if k = j then b else match b with
    | none => some (gapAt bs k j, k, j)
    | some q => if q.1 < gapAt bs k j then some (gapAt bs k j, k, j) else some q
def gRow (bs : List (Int × Int)) (b : Gp) (k : Int) : Gp := (irange 0 bs.length).foldl (gStep bs k) b
def pgap (bs : List (Int × Int)) : Gp := (irange 0 bs.length).foldl (gRow bs) none
theorem mem_ir {m : Int} {n : Nat} {x : Int} (h : x ∈ irange m n) : m ≤ x ∧ x < m + n := by
  unfold irange at h
  obtain ⟨i, hi, rfl⟩ := List.mem_map.mp h
  have := List.mem_range.mp hi
  omega
abbrev gBody : En → M Out := sSeq (sSet 4 (dBin oSub (dBin oIx (dBin oIx (dVar 0) (dVar 2)) (dC (.int 1))) (dBin oIx (dBin oIx (dVar 0) (dVar 3)) (dC (.int 0)))))
  (sIf (dAnd (dTest (dBin oNe (dVar 2) (dVar 3))) (dOr (dTest (dBin oIsN (dVar 1) (dC .none))) (dTest (dBin oGt (dVar 4) (dBin oIx (dVar 1) (dC (.int 0)))))))
  (sSet 1 (dTup (aCons (dVar 4) (aCons (dVar 2) (aCons (dVar 3) aNil)))))
  sNil)
abbrev gEn (bs : List (Int × Int)) (b : Gp) (u2 u3 u4 : Option Dt.Slot) : En := [some (.v (.d (dBs bs))), some (.v (.d (encG b))), u2, u3, u4]
theorem gap_body {bs : List (Int × Int)} {k j : Int} (b : Gp) (u4 : Option Dt.Slot) (hk : 0 ≤ k ∧ k < bs.length) (hj : 0 ≤ j ∧ j < bs.length) :
    gBody (gEn bs b (some (.v (dI k))) (some (.v (dI j))) u4) = .ret (.nx (gEn bs (gStep bs k b j) (some (.v (dI k))) (some (.v (dI j))) (some (.v (dI (gapAt bs k j)))))) := by
  have ek := op_ix_bs (bs := bs) (k := k) hk.1 hk.2
  have ej := op_ix_bs (bs := bs) (k := j) hj.1 hj.2
  refine es_seq (en' := gEn bs b (some (.v (dI k))) (some (.v (dI j))) (some (.v (dI (gapAt bs k j))))) (es_set (z := dI (gapAt bs k j)) (w := false) (ev_bin (ev_bin (ev_bin (ev_var rfl) (ev_var rfl) ek) ev_c rfl) (ev_bin (ev_bin (ev_var rfl) (ev_var rfl) ej) ev_c rfl) rfl)) ?_
  have put : sSet 1 (dTup (aCons (dVar 4) (aCons (dVar 2) (aCons (dVar 3) aNil)))) (gEn bs b (some (.v (dI k))) (some (.v (dI j))) (some (.v (dI (gapAt bs k j))))) = .ret (.nx (gEn bs (some (gapAt bs k j, k, j)) (some (.v (dI k))) (some (.v (dI j))) (some (.v (dI (gapAt bs k j)))))) :=
    es_set (ev_tup (ea_cons (ev_var rfl) (ea_cons (ev_var rfl) (ea_cons (ev_var rfl) ea_nil))) rfl)
  have ne : dTest (dBin oNe (dVar 2) (dVar 3)) (expo (gEn bs b (some (.v (dI k))) (some (.v (dI j))) (some (.v (dI (gapAt bs k j)))))) = .ret (!decide (k = j)) := et_val (ev_bin (ev_var rfl) (ev_var rfl) (op_ne_i k j))
  unfold gStep
  by_cases c : k = j
  · rw [if_pos c]
    refine es_ifF (ev_is (et_and (l := false) ne fun z => by simp [c] at z) (by simp)) es_nil
  · rw [if_neg c]
    cases b with
    | none =>
      exact es_ifT (ev_is (et_and (l := true) ne fun _ => ev_is (et_or (k := true) (l := true) (et_val (ev_bin (ev_var rfl) ev_c rfl)) fun z => by cases z) rfl) (by simp [c])) put
    | some q =>
      obtain ⟨g, a1, a2⟩ := q
      have or : dOr (dTest (dBin oIsN (dVar 1) (dC .none))) (dTest (dBin oGt (dVar 4) (dBin oIx (dVar 1) (dC (.int 0))))) (expo (gEn bs (some (g, a1, a2)) (some (.v (dI k))) (some (.v (dI j))) (some (.v (dI (gapAt bs k j)))))) = .ret (decide (g < gapAt bs k j)) :=
        ev_is (et_or (k := false) (et_val (ev_bin (ev_var rfl) ev_c rfl)) fun _ => et_val (ev_bin (ev_var rfl) (ev_bin (ev_var rfl) ev_c rfl) (op_gt_i _ _))) (by simp)
      dsimp only
      by_cases d : g < gapAt bs k j
      · rw [if_pos d]
        exact es_ifT (ev_is (et_and ne fun _ => or) (by simp [c, d])) put
      · rw [if_neg d]
        exact es_ifF (ev_is (et_and ne fun _ => or) (by simp [d])) es_nil
theorem pair_gap_eq {bs : List (Int × Int)} (h : okB bs = true) : F_pair_gap [.d (dBs bs)] = .ret (.d (encG (pgap bs)), false) := by
  have hp := okB_pos h
  have hl : ((bs.map dP).length : Int) = bs.length := by rw [List.length_map]
  have hl2 : ((bs.map dP).length : Int).toNat = bs.length := by omega
  have key := es_forL (emb := PyData.int) (sl := [2]) (bd := bdN) (xs := irange 0 bs.length)
    (s1 := sFor [3] bdN (iRangeD1 (aCons (dCall bLen (aCons (dVar 0) aNil)) aNil)) gBody)
    (R := fun (b : Gp) en => ∃ u2 u3 u4, en = gEn bs b u2 u3 u4)
    (gRow bs) (b := none) (en := gEn bs none none none none) ⟨_, _, _, rfl⟩ (by
      rintro b k en hk ⟨u2, u3, u4, rfl⟩
      have bk := mem_ir hk
      refine ⟨_, rfl, ?_⟩
      have inner := es_forL (emb := PyData.int) (sl := [3]) (bd := bdN) (xs := irange 0 bs.length) (s1 := gBody)
        (R := fun (b : Gp) en => ∃ u3 u4, en = gEn bs b (some (.v (dI k))) u3 u4)
        (gStep bs k) (b := b) (en := gEn bs b (some (.v (dI k))) u3 u4) ⟨_, _, rfl⟩ (by
          rintro b j en hj ⟨u3, u4, rfl⟩
          have bj := mem_ir hj
          exact ⟨_, rfl, _, gap_body b u4 (by omega) (by omega), _, _, rfl⟩)
      obtain ⟨en', e1, u3', u4', rfl⟩ := inner
      refine ⟨gEn bs (gRow bs b k) (some (.v (dI k))) u3' u4', ?_, _, _, _, rfl⟩
      with_reducible apply es_for
      · with_reducible apply ei_rng1
        · walk_at "A"
        · omega
      · rw [hl2]; exact e1)
  obtain ⟨en', e1, u2, u3, u4, rfl⟩ := key
  unfold F_pair_gap b_pair_gap
  refine run_rt rfl (es_seq (en' := gEn bs none none none none) (es_set ev_c) (es_seq (en' := gEn bs (pgap bs) u2 u3 u4) ?_ (es_retV rfl)))
  with_reducible apply es_for
  · with_reducible apply ei_rng1
    · walk_at "A"
    · omega
  · rw [hl2]; exact e1
/-! what it is -/
structure GapOk (bs : List (Int × Int)) (sn : Int → Int → Prop) (b : Gp) : Prop where
  none_ : b = none → ∀ k j, sn k j → k = j
  some_ : ∀ g k j, b = some (g, k, j) → (k ≠ j ∧ (0 ≤ k ∧ k < bs.length) ∧ (0 ≤ j ∧ j < bs.length) ∧ g = gapAt bs k j) ∧ ∀ k' j', sn k' j' → k' ≠ j' → gapAt bs k' j' ≤ g
theorem GapOk.step {bs : List (Int × Int)} {sn : Int → Int → Prop} {b : Gp} (h : GapOk bs sn b) {k j : Int} (hk : 0 ≤ k ∧ k < bs.length) (hj : 0 ≤ j ∧ j < bs.length) : GapOk bs (fun a c => sn a c ∨ (a = k ∧ c = j)) (gStep bs k b j) := by
  unfold gStep
  by_cases c : k = j
  · rw [if_pos c]
    exact ⟨fun e a d z => z.elim (h.none_ e a d) fun ⟨x, y⟩ => by rw [x, y, c], fun g a d e => ⟨(h.some_ g a d e).1, fun a' d' z n => z.elim (fun z => (h.some_ g a d e).2 a' d' z n) fun ⟨x, y⟩ => absurd (by rw [x, y, c]) n⟩⟩
  · rw [if_neg c]
    cases b with
    | none =>
      refine ⟨fun e => by (cases e), fun g a d e => ?_⟩
      cases e
      exact ⟨⟨c, hk, hj, rfl⟩, fun a' d' z n => z.elim (fun z => absurd (h.none_ rfl a' d' z) n) fun ⟨x, y⟩ => by rw [x, y]; exact Int.le_refl _⟩
    | some q =>
      obtain ⟨g, a1, a2⟩ := q
      dsimp only
      have o := h.some_ g a1 a2 rfl
      by_cases d : g < gapAt bs k j
      · rw [if_pos d]
        refine ⟨fun e => by (cases e), fun g' a b' e => ?_⟩
        cases e
        exact ⟨⟨c, hk, hj, rfl⟩, fun a' d' z n => z.elim (fun z => by have := o.2 a' d' z n; omega) fun ⟨x, y⟩ => by rw [x, y]; exact Int.le_refl _⟩
      · rw [if_neg d]
        refine ⟨fun e => by (cases e), fun g' a b' e => ?_⟩
        cases e
        exact ⟨o.1, fun a' d' z n => z.elim (fun z => o.2 a' d' z n) fun ⟨x, y⟩ => by rw [x, y]; omega⟩
theorem GapOk.imp {bs : List (Int × Int)} {sn sn' : Int → Int → Prop} {b : Gp} (h : GapOk bs sn b) (f : ∀ k j, sn' k j → sn k j) : GapOk bs sn' b := ⟨fun e k j z => h.none_ e k j (f k j z), fun g k j e => ⟨(h.some_ g k j e).1, fun a c z => (h.some_ g k j e).2 a c (f a c z)⟩⟩
theorem GapOk.row {bs : List (Int × Int)} {k : Int} (hk : 0 ≤ k ∧ k < bs.length) : ∀ {js : List Int} {sn : Int → Int → Prop} {b : Gp}, (∀ j ∈ js, 0 ≤ j ∧ j < bs.length) → GapOk bs sn b → GapOk bs (fun a c => sn a c ∨ (a = k ∧ c ∈ js)) (js.foldl (gStep bs k) b)
  | [], _, _, _, h => h.imp fun a c z => z.elim id fun ⟨_, y⟩ => by cases y
  | j :: js, sn, b, hj, h => (GapOk.row hk (js := js) (fun i hi => hj i (List.mem_cons_of_mem _ hi)) (h.step hk (hj j List.mem_cons_self))).imp fun a c z => by
    rcases z with z | ⟨x, y⟩
    · exact .inl (.inl z)
    · rcases List.mem_cons.mp y with y | y
      · exact .inl (.inr ⟨x, y⟩)
      · exact .inr ⟨x, y⟩
theorem GapOk.rows {bs : List (Int × Int)} : ∀ {ks : List Int} {sn : Int → Int → Prop} {b : Gp}, (∀ k ∈ ks, 0 ≤ k ∧ k < bs.length) → GapOk bs sn b → GapOk bs (fun a c => sn a c ∨ (a ∈ ks ∧ c ∈ irange 0 bs.length)) (ks.foldl (gRow bs) b)
  | [], _, _, _, h => h.imp fun a c z => z.elim id fun ⟨y, _⟩ => by cases y
  | k :: ks, sn, b, hk, h => (GapOk.rows (ks := ks) (fun i hi => hk i (List.mem_cons_of_mem _ hi)) (h.row (hk k List.mem_cons_self) (js := irange 0 bs.length) fun j hj => by have := mem_ir hj; omega)).imp fun a c z => by
    rcases z with z | ⟨x, y⟩
    · exact .inl (.inl z)
    · rcases List.mem_cons.mp x with x | x
      · exact .inl (.inr ⟨x, y⟩)
      · exact .inr ⟨x, y⟩
theorem ir_mem {m x : Int} {n : Nat} (h : m ≤ x ∧ x < m + n) : x ∈ irange m n := by
  unfold irange
  exact List.mem_map.mpr ⟨(x - m).toNat, List.mem_range.mpr (by omega), by omega⟩
theorem pgap_ok (bs : List (Int × Int)) : GapOk bs (fun k j => (0 ≤ k ∧ k < bs.length) ∧ (0 ≤ j ∧ j < bs.length)) (pgap bs) := by
  have h0 : GapOk bs (fun _ _ => False) none := ⟨fun _ _ _ z => z.elim, fun _ _ _ e => by cases e⟩
  exact (GapOk.rows (ks := irange 0 bs.length) (fun k hk => by have := mem_ir hk; omega) h0).imp fun a c z => .inr ⟨ir_mem (by omega), ir_mem (by omega)⟩
end Pg

/-! What the defs compute, part 14: spreads (k03, k10). -/
namespace Pg
open PySem L2 Dt
local macro_rules | `(tactic| walk_at "op") => `(tactic| first | (with_reducible exact op_add_i _ _) | (with_reducible exact op_sub_i _ _) | (with_reducible exact op_lt_i _ _) | (with_reducible exact op_le_i _ _) | (with_reducible exact op_gt_i _ _) | (with_reducible exact op_ge_i _ _) | (with_reducible exact op_eq_i _ _) | (with_reducible exact op_ne_i _ _) | (with_reducible exact op_ix_p0 _) | (with_reducible exact op_ix_p1 _) | (with_reducible exact op_ix_0 _ _) | (with_reducible exact op_ix_1 _ _ _) | (with_reducible exact op_isN_d) | (with_reducible exact op_notN_d) | (with_reducible exact op_isB_d _ _) | (with_reducible exact op_notB_d _ _) | (with_reducible exact b_len_p _) | (with_reducible exact b_len_l _) | (with_reducible exact b_len_t _) | (with_reducible exact b_sum _) | (with_reducible exact b_sorted _) | (with_reducible exact b_abs _) | (with_reducible exact b_max2 _ _) | (with_reducible exact b_min2 _ _) | ((with_reducible apply op_mod_i); with_reducible assumption) | ((with_reducible apply op_div_i); with_reducible assumption) | ((with_reducible apply op_mul_i); with_reducible assumption))
local macro_rules | `(tactic| walk_at "F") => `(tactic| walk_at "op")
local macro_rules | `(tactic| walk_at "A") => `(tactic| first | (with_reducible exact ea_nil) | ((with_reducible apply ea_cons); walk_at "E"; walk_at "A"))
local macro_rules | `(tactic| walk_at "T") => `(tactic| first | ((with_reducible apply et_val); walk_at "E") | ((with_reducible apply et_not); walk_at "T") | ((with_reducible apply et_or); walk_at "T"; (intro _; walk_at "T")) | ((with_reducible apply et_and); walk_at "T"; (intro _; walk_at "T")))
local macro_rules | `(tactic| walk_at "O") => `(tactic| first | (with_reducible exact eo_none) | ((with_reducible apply eo_some); walk_at "E"))
local macro_rules | `(tactic| walk_at "E") => `(tactic| first
  | (with_reducible exact ev_c)
  | ((with_reducible apply ev_var); rfl)
  | ((with_reducible apply ev_bin); walk_at "E"; walk_at "E"; walk_at "op")
  | ((with_reducible apply ev_call); walk_at "A"; walk_at "F")
  | ((with_reducible apply ev_tup); walk_at "A"; rfl)
  | ((with_reducible apply ev_lst); walk_at "A"; rfl)
  | ((with_reducible apply ev_neg); walk_at "E")
  | ((with_reducible apply ev_isi); walk_at "E")
  | ((with_reducible apply ev_not); walk_at "E")
  | ((with_reducible apply ev_and'); walk_at "E"; (intro _; walk_at "E"))
  | ((with_reducible apply ev_or'); walk_at "E"; (intro _; walk_at "E"))
  | ((with_reducible apply ev_chain); walk_at "E"; walk_at "E"; walk_at "E"; walk_at "op"; walk_at "op")
  | ((with_reducible apply ev_sl); walk_at "E"; walk_at "O"; walk_at "O")
  | ((with_reducible apply ev_rev); walk_at "E")
  | ((with_reducible apply ev_ifT); ((with_reducible apply ev_is); walk_at "T"; rfl); walk_at "E")
  | ((with_reducible apply ev_ifF); ((with_reducible apply ev_is); walk_at "T"; rfl); walk_at "E"))
local macro_rules | `(tactic| walk_at "I") => `(tactic| first | ((with_reducible apply ei_list); walk_at "E"; done) | ((with_reducible apply ei_tup); walk_at "E") | ((with_reducible apply ei_enum); walk_at "A") | ((with_reducible apply ei_zip); walk_at "A"))
local macro_rules | `(tactic| walk_at "S") => `(tactic| first
  | (with_reducible exact es_nil)
  | ((with_reducible apply es_retV); rfl)
  | ((with_reducible apply es_retO); rfl)
  | ((with_reducible apply es_ret); walk_at "E")
  | ((with_reducible apply es_seq); walk_at "S"; walk_at "S")
  | ((with_reducible apply es_expr); walk_at "E")
  | ((with_reducible apply es_set); walk_at "E")
  | ((with_reducible apply es_setO); walk_at "E")
  | ((with_reducible apply es_par); walk_at "A")
  | ((with_reducible apply es_asgT); walk_at "E"; rfl)
  | ((with_reducible apply es_ifF); ((with_reducible apply ev_is); walk_at "T"; (first | rfl | with_reducible assumption)); walk_at "S")
  | ((with_reducible apply es_ifT); ((with_reducible apply ev_is); walk_at "T"; (first | rfl | with_reducible assumption)); walk_at "S"))
local macro_rules | `(tactic| walk_at "F") => `(tactic| with_reducible exact is_int_eq _ _ _)
local macro_rules | `(tactic| walk_at "F") => `(tactic| with_reducible exact is_bound_eq _)
local macro_rules | `(tactic| walk_at "F") => `(tactic| ((with_reducible apply is_bounds_eq); exact okB_len (by with_reducible assumption)))
local macro_rules | `(tactic| walk_at "F") => `(tactic| ((with_reducible apply check_ok); with_reducible assumption))
local macro_rules | `(tactic| walk_at "F") => `(tactic| ((with_reducible apply lows_eq); exact okB_len (by with_reducible assumption)))
local macro_rules | `(tactic| walk_at "F") => `(tactic| ((with_reducible apply highs_eq); exact okB_len (by with_reducible assumption)))
local macro_rules | `(tactic| walk_at "F") => `(tactic| ((with_reducible apply sum_range_eq); with_reducible assumption))
local macro_rules | `(tactic| walk_at "F") => `(tactic| ((with_reducible apply mean_range_eq); with_reducible assumption))
local macro_rules | `(tactic| walk_at "F") => `(tactic| ((with_reducible apply median_range_eq); with_reducible assumption))
local macro_rules | `(tactic| walk_at "F") => `(tactic| ((with_reducible apply least_range_eq); with_reducible assumption))
local macro_rules | `(tactic| walk_at "F") => `(tactic| ((with_reducible apply greatest_range_eq); with_reducible assumption))
local macro_rules | `(tactic| walk_at "F") => `(tactic| ((with_reducible apply choices_eq) <;> with_reducible assumption))
local macro_rules | `(tactic| walk_at "F") => `(tactic| ((with_reducible apply b_min); with_reducible assumption))
local macro_rules | `(tactic| walk_at "F") => `(tactic| ((with_reducible apply b_max); with_reducible assumption))
local macro_rules | `(tactic| walk_at "L") => `(tactic| first | with_reducible assumption | exact okB_len (by with_reducible assumption) | (simp only [List.length_map, irange_len, List.length_range]; omega))
local macro_rules | `(tactic| walk_at "I") => `(tactic| (first | ((with_reducible apply ei_rng1); walk_at "A"; omega) | ((with_reducible apply ei_rng2); walk_at "A"; omega)))
local macro_rules | `(tactic| walk_at "E") => `(tactic| first
  | ((with_reducible apply ev_compB); walk_at "I"; walk_at "L"; (intro _ _; walk_at "E"))
  | ((with_reducible apply ev_compBF); walk_at "I"; walk_at "L"; (intro _ _; walk_at "T"); (intro _ _ _; walk_at "E"))
  | ((with_reducible apply ev_compN); walk_at "I"; walk_at "L"; (intro _ _; walk_at "E"))
  | ((with_reducible apply ev_compNF); walk_at "I"; walk_at "L"; (intro _ _; walk_at "T"); (intro _ _ _; walk_at "E")))
local macro_rules | `(tactic| walk_at "F") => `(tactic| first | (with_reducible exact b_sum' _ _) | (with_reducible exact b_all' _ _) | (with_reducible exact b_any' _ _) | (with_reducible exact b_sorted' _ _))
theorem bs_ne {bs : List (Int × Int)} (h : okB bs = true) : los bs ≠ [] ∧ his bs ≠ [] := by
  have hp := okB_pos h
  constructor <;> (intro z; rw [List.map_eq_nil_iff] at z; exact absurd hp.1.1 (by rw [z]; decide))
theorem mxlo_ev {bs : List (Int × Int)} (h : okB bs = true) {en : En} {i : Nat} (e : en[i]? = some (some (.v (.d (dBs bs))))) : dCall bMax1 (aCons (dCall F_lows (aCons (dVar i) aNil)) aNil) en = .ret (dI (maxL (los bs)), false) :=
  ev_call (ea_cons (ev_call (ea_cons (ev_var e) ea_nil) (lows_eq (okB_len h))) ea_nil) (b_max (bs_ne h).1)
theorem mnhi_ev {bs : List (Int × Int)} (h : okB bs = true) {en : En} {i : Nat} (e : en[i]? = some (some (.v (.d (dBs bs))))) : dCall bMin1 (aCons (dCall F_highs (aCons (dVar i) aNil)) aNil) en = .ret (dI (minL (his bs)), false) :=
  ev_call (ea_cons (ev_call (ea_cons (ev_var e) ea_nil) (highs_eq (okB_len h))) ea_nil) (b_min (bs_ne h).2)
theorem chk0 {bs : List (Int × Int)} (h : okB bs = true) {en : En} (e : (expo en)[0]? = some (some (.v (.d (dBs bs))))) : sExpr (dCall F_check_bounds (aCons (dVar 0) aNil)) en = .ret (.nx en) := by
  with_reducible apply es_expr
  with_reducible apply ev_call
  · exact ea_cons (ev_var e) ea_nil
  · walk_at "F"
def leastS (bs : List (Int × Int)) : Int := if maxL (los bs) - minL (his bs) > 0 then maxL (los bs) - minL (his bs) else 0
def mostS (bs : List (Int × Int)) : Int := match pgap bs with
  | some q => q.1
  | none => 0
theorem spread_range_eq {bs : List (Int × Int)} (h : okB bs = true) : F_spread_range [.d (dBs bs)] = .ret (.d (dP (leastS bs, mostS bs)), false) := by
  unfold F_spread_range b_spread_range
  refine run_rt rfl (es_seq (en' := [some (.v (.d (dBs bs))), none, none]) (chk0 h rfl) (es_seq (en' := [some (.v (.d (dBs bs))), some (.v (.d (encG (pgap bs)))), none]) (es_set (ev_call (ea_cons (ev_var rfl) ea_nil) (pair_gap_eq h)))
    (es_seq (en' := [some (.v (.d (dBs bs))), some (.v (.d (encG (pgap bs)))), some (.v (dI (leastS bs)))]) (es_set (ev_call (ea_cons ev_c (ea_cons (ev_bin (mxlo_ev h rfl) (mnhi_ev h rfl) rfl) ea_nil)) rfl))
    (es_ret (ev_tup (ea_cons (ev_var rfl) (ea_cons (x := dI (mostS bs)) (u := false) ?_ ea_nil)) rfl)))))
  unfold mostS
  cases pgap bs with
  | none => exact ev_ifF (et_val (ev_bin (ev_var rfl) ev_c rfl)) ev_c
  | some q => exact ev_ifT (et_val (ev_bin (ev_var rfl) ev_c rfl)) (ev_bin (ev_var rfl) ev_c rfl)
def wideC (bs : List (Int × Int)) : List Int := match pgap bs with
  | some q => (los bs).set q.2.1.toNat (highAt bs q.2.1)
  | none => los bs
theorem es_put {i : Nat} {fk fa : En → M RV} {en : En} {xs : List PyData} {q : PyData} {k : Int} {u v : Bool} {j : Nat} (h1 : en[i]? = some (some (.own xs))) (ha : fa (expo en) = .ret (.d q, u)) (hk : fk (expo en) = .ret (.d (.int k), v)) (hj : ixN xs.length k = some j) (hs : safeP q = true) :
    sPut i fk fa en = .ret (.nx (en.set i (some (.own (xs.set j q))))) := by
  unfold sPut
  rw [h1]
  dsimp only
  rw [ha, ret_bind, hk, ret_bind]
  dsimp only
  rw [hj]
  dsimp only
  rw [if_pos hs]
theorem ixN_nat {n : Nat} {k : Int} (h0 : 0 ≤ k) (h1 : k < n) : ixN n k = some k.toNat := by
  unfold ixN
  rw [if_pos h0, if_pos h1]
theorem widest_choice_eq {bs : List (Int × Int)} (h : okB bs = true) : F_widest_choice [.d (dBs bs)] = .ret (.d (dNs (wideC bs)), true) := by
  have hp := okB_pos h
  unfold F_widest_choice b_widest_choice
  refine run_rt rfl (es_seq (en' := [some (.v (.d (dBs bs))), none, none]) (chk0 h rfl) (es_seq (en' := [some (.v (.d (dBs bs))), some (.v (.d (encG (pgap bs)))), none]) (es_set (ev_call (ea_cons (ev_var rfl) ea_nil) (pair_gap_eq h)))
    (es_seq (en' := [some (.v (.d (dBs bs))), some (.v (.d (encG (pgap bs)))), some (.own ((los bs).map PyData.int))]) (es_setO (ev_call (ea_cons (ev_var rfl) ea_nil) (lows_eq (okB_len h))))
    (es_seq (en' := [some (.v (.d (dBs bs))), some (.v (.d (encG (pgap bs)))), some (.own ((wideC bs).map PyData.int))]) ?_ (es_retO rfl)))))
  have ok := pgap_ok bs
  unfold wideC
  cases e : pgap bs with
  | none => exact es_ifF (et_val (ev_bin (ev_var rfl) ev_c rfl)) es_nil
  | some q =>
    obtain ⟨g, k, j⟩ := q
    obtain ⟨⟨_, hk, _, _⟩, _⟩ := ok.some_ g k j e
    have ek := op_ix_bs (bs := bs) (k := k) hk.1 hk.2
    refine es_ifT (et_val (ev_bin (ev_var rfl) ev_c rfl)) ?_
    have := es_put (i := 2) (en := [some (.v (.d (dBs bs))), some (.v (.d (encG (some (g, k, j))))), some (.own ((los bs).map PyData.int))]) (fk := dBin oIx (dVar 1) (dC (.int 1))) (fa := dBin oIx (dBin oIx (dVar 0) (dBin oIx (dVar 1) (dC (.int 1)))) (dC (.int 1))) (q := .int (highAt bs k)) (k := k) (j := k.toNat) rfl
      (ev_bin (ev_bin (ev_var rfl) (ev_bin (ev_var rfl) ev_c rfl) ek) ev_c rfl) (ev_bin (ev_var rfl) ev_c rfl) (by rw [List.length_map, List.length_map]; exact ixN_nat hk.1 hk.2) rfl
    rw [this]
    dsimp only
    rw [List.map_set]
    rfl
def goalN (bs : List (Int × Int)) : Int := if minL (his bs) < maxL (los bs) then minL (his bs) else maxL (los bs)
def narC (bs : List (Int × Int)) : List Int := bs.map fun p => let m := (if goalN bs > p.1 then goalN bs else p.1); if m < p.2 then m else p.2
theorem narrowest_choice_eq {bs : List (Int × Int)} (h : okB bs = true) : F_narrowest_choice [.d (dBs bs)] = .ret (.d (dNs (narC bs)), true) := by
  unfold F_narrowest_choice b_narrowest_choice
  refine run_rt rfl (es_seq (en' := [some (.v (.d (dBs bs))), none, none, none]) (chk0 h rfl) (es_seq (en' := [some (.v (.d (dBs bs))), some (.v (dI (goalN bs))), none, none]) (es_set (ev_call (ea_cons (mxlo_ev h rfl) (ea_cons (mnhi_ev h rfl) ea_nil)) rfl))
    (es_ret ?_)))
  refine list_of (ev_compB (b := false) (f := fun p => .int (let m := (if goalN bs > p.1 then goalN bs else p.1); if m < p.2 then m else p.2)) (ei_list (ev_var rfl)) (okB_len h) fun p hp => ?_) ?_
  · exact ev_call (ea_cons (ev_var rfl) (ea_cons (ev_call (ea_cons (ev_var rfl) (ea_cons (ev_var rfl) ea_nil)) rfl) ea_nil)) rfl
  · unfold narC; rw [List.map_map]; rfl
theorem shared_eq {bs : List (Int × Int)} (h : okB bs = true) : F_shared [.d (dBs bs)] = if maxL (los bs) ≤ minL (his bs) then .ret (.d (dP (maxL (los bs), minL (his bs))), false) else .raise .missing := by
  have hc : sExpr (dCall F_check_bounds (aCons (dVar 0) aNil)) [some (.v (.d (dBs bs)))] = .ret (.nx [some (.v (.d (dBs bs)))]) := by walk_at "S"
  have gt : dTest (dBin oGt (dCall bMax1 (aCons (dCall F_lows (aCons (dVar 0) aNil)) aNil)) (dCall bMin1 (aCons (dCall F_highs (aCons (dVar 0) aNil)) aNil))) (expo [some (.v (.d (dBs bs)))]) = .ret (decide (minL (his bs) < maxL (los bs))) := et_val (ev_bin (mxlo_ev h rfl) (mnhi_ev h rfl) (op_gt_i _ _))
  unfold F_shared b_shared
  by_cases c : maxL (los bs) ≤ minL (his bs)
  · rw [if_pos c]
    refine run_rt rfl (es_seq hc (es_seq (es_ifF (ev_is gt (decide_eq_false (by omega))) es_nil) (es_ret (ev_tup (ea_cons (mxlo_ev h rfl) (ea_cons (mnhi_ev h rfl) ea_nil)) rfl))))
  · rw [if_neg c]
    unfold runF
    rw [if_pos (show [AV.d (dBs bs)].length = 1 from rfl)]
    show M.bind (sSeq _ _ [some (.v (.d (dBs bs)))]) _ = _
    unfold sSeq
    rw [hc, ret_bind]
    dsimp only
    unfold sIf
    rw [gt, decide_eq_true (by omega), ret_bind]
    rfl
end Pg

/-! What the defs compute, part 15: spreads (k03, k06). -/
namespace Pg
open PySem L2 Dt
local macro_rules | `(tactic| walk_at "op") => `(tactic| first | (with_reducible exact op_add_i _ _) | (with_reducible exact op_sub_i _ _) | (with_reducible exact op_lt_i _ _) | (with_reducible exact op_le_i _ _) | (with_reducible exact op_gt_i _ _) | (with_reducible exact op_ge_i _ _) | (with_reducible exact op_eq_i _ _) | (with_reducible exact op_ne_i _ _) | (with_reducible exact op_ix_p0 _) | (with_reducible exact op_ix_p1 _) | (with_reducible exact op_ix_0 _ _) | (with_reducible exact op_ix_1 _ _ _) | (with_reducible exact op_isN_d) | (with_reducible exact op_notN_d) | (with_reducible exact op_isB_d _ _) | (with_reducible exact op_notB_d _ _) | (with_reducible exact b_len_p _) | (with_reducible exact b_len_l _) | (with_reducible exact b_len_t _) | (with_reducible exact b_sum _) | (with_reducible exact b_sorted _) | (with_reducible exact b_abs _) | (with_reducible exact b_max2 _ _) | (with_reducible exact b_min2 _ _) | ((with_reducible apply op_mod_i); with_reducible assumption) | ((with_reducible apply op_div_i); with_reducible assumption) | ((with_reducible apply op_mul_i); with_reducible assumption))
local macro_rules | `(tactic| walk_at "F") => `(tactic| walk_at "op")
local macro_rules | `(tactic| walk_at "A") => `(tactic| first | (with_reducible exact ea_nil) | ((with_reducible apply ea_cons); walk_at "E"; walk_at "A"))
local macro_rules | `(tactic| walk_at "T") => `(tactic| first | ((with_reducible apply et_val); walk_at "E") | ((with_reducible apply et_not); walk_at "T") | ((with_reducible apply et_or); walk_at "T"; (intro _; walk_at "T")) | ((with_reducible apply et_and); walk_at "T"; (intro _; walk_at "T")))
local macro_rules | `(tactic| walk_at "O") => `(tactic| first | (with_reducible exact eo_none) | ((with_reducible apply eo_some); walk_at "E"))
local macro_rules | `(tactic| walk_at "E") => `(tactic| first
  | (with_reducible exact ev_c)
  | ((with_reducible apply ev_var); rfl)
  | ((with_reducible apply ev_bin); walk_at "E"; walk_at "E"; walk_at "op")
  | ((with_reducible apply ev_call); walk_at "A"; walk_at "F")
  | ((with_reducible apply ev_tup); walk_at "A"; rfl)
  | ((with_reducible apply ev_lst); walk_at "A"; rfl)
  | ((with_reducible apply ev_neg); walk_at "E")
  | ((with_reducible apply ev_isi); walk_at "E")
  | ((with_reducible apply ev_not); walk_at "E")
  | ((with_reducible apply ev_and'); walk_at "E"; (intro _; walk_at "E"))
  | ((with_reducible apply ev_or'); walk_at "E"; (intro _; walk_at "E"))
  | ((with_reducible apply ev_chain); walk_at "E"; walk_at "E"; walk_at "E"; walk_at "op"; walk_at "op")
  | ((with_reducible apply ev_sl); walk_at "E"; walk_at "O"; walk_at "O")
  | ((with_reducible apply ev_rev); walk_at "E")
  | ((with_reducible apply ev_ifT); ((with_reducible apply ev_is); walk_at "T"; rfl); walk_at "E")
  | ((with_reducible apply ev_ifF); ((with_reducible apply ev_is); walk_at "T"; rfl); walk_at "E"))
local macro_rules | `(tactic| walk_at "I") => `(tactic| first | ((with_reducible apply ei_list); walk_at "E"; done) | ((with_reducible apply ei_tup); walk_at "E") | ((with_reducible apply ei_enum); walk_at "A") | ((with_reducible apply ei_zip); walk_at "A"))
local macro_rules | `(tactic| walk_at "S") => `(tactic| first
  | (with_reducible exact es_nil)
  | ((with_reducible apply es_retV); rfl)
  | ((with_reducible apply es_retO); rfl)
  | ((with_reducible apply es_ret); walk_at "E")
  | ((with_reducible apply es_seq); walk_at "S"; walk_at "S")
  | ((with_reducible apply es_expr); walk_at "E")
  | ((with_reducible apply es_set); walk_at "E")
  | ((with_reducible apply es_setO); walk_at "E")
  | ((with_reducible apply es_par); walk_at "A")
  | ((with_reducible apply es_asgT); walk_at "E"; rfl)
  | ((with_reducible apply es_ifF); ((with_reducible apply ev_is); walk_at "T"; (first | rfl | with_reducible assumption)); walk_at "S")
  | ((with_reducible apply es_ifT); ((with_reducible apply ev_is); walk_at "T"; (first | rfl | with_reducible assumption)); walk_at "S"))
local macro_rules | `(tactic| walk_at "F") => `(tactic| with_reducible exact is_int_eq _ _ _)
local macro_rules | `(tactic| walk_at "F") => `(tactic| with_reducible exact is_bound_eq _)
local macro_rules | `(tactic| walk_at "F") => `(tactic| ((with_reducible apply is_bounds_eq); exact okB_len (by with_reducible assumption)))
local macro_rules | `(tactic| walk_at "F") => `(tactic| ((with_reducible apply check_ok); with_reducible assumption))
local macro_rules | `(tactic| walk_at "F") => `(tactic| ((with_reducible apply lows_eq); exact okB_len (by with_reducible assumption)))
local macro_rules | `(tactic| walk_at "F") => `(tactic| ((with_reducible apply highs_eq); exact okB_len (by with_reducible assumption)))
local macro_rules | `(tactic| walk_at "F") => `(tactic| ((with_reducible apply sum_range_eq); with_reducible assumption))
local macro_rules | `(tactic| walk_at "F") => `(tactic| ((with_reducible apply mean_range_eq); with_reducible assumption))
local macro_rules | `(tactic| walk_at "F") => `(tactic| ((with_reducible apply median_range_eq); with_reducible assumption))
local macro_rules | `(tactic| walk_at "F") => `(tactic| ((with_reducible apply least_range_eq); with_reducible assumption))
local macro_rules | `(tactic| walk_at "F") => `(tactic| ((with_reducible apply greatest_range_eq); with_reducible assumption))
local macro_rules | `(tactic| walk_at "F") => `(tactic| ((with_reducible apply choices_eq) <;> with_reducible assumption))
local macro_rules | `(tactic| walk_at "F") => `(tactic| ((with_reducible apply b_min); with_reducible assumption))
local macro_rules | `(tactic| walk_at "F") => `(tactic| ((with_reducible apply b_max); with_reducible assumption))
local macro_rules | `(tactic| walk_at "L") => `(tactic| first | with_reducible assumption | exact okB_len (by with_reducible assumption) | (simp only [List.length_map, irange_len, List.length_range]; omega))
local macro_rules | `(tactic| walk_at "I") => `(tactic| (first | ((with_reducible apply ei_rng1); walk_at "A"; omega) | ((with_reducible apply ei_rng2); walk_at "A"; omega)))
local macro_rules | `(tactic| walk_at "E") => `(tactic| first
  | ((with_reducible apply ev_compB); walk_at "I"; walk_at "L"; (intro _ _; walk_at "E"))
  | ((with_reducible apply ev_compBF); walk_at "I"; walk_at "L"; (intro _ _; walk_at "T"); (intro _ _ _; walk_at "E"))
  | ((with_reducible apply ev_compN); walk_at "I"; walk_at "L"; (intro _ _; walk_at "E"))
  | ((with_reducible apply ev_compNF); walk_at "I"; walk_at "L"; (intro _ _; walk_at "T"); (intro _ _ _; walk_at "E")))
local macro_rules | `(tactic| walk_at "F") => `(tactic| first | (with_reducible exact b_sum' _ _) | (with_reducible exact b_all' _ _) | (with_reducible exact b_any' _ _) | (with_reducible exact b_sorted' _ _))
def apT (bs : List (Int × Int)) (k j : Int) : Bool := decide (highAt bs j < lowAt bs k) || decide (highAt bs k < lowAt bs j)
def apRow (bs : List (Int × Int)) (k : Int) : List (Int × Int) := ((irange (k + 1) (bs.length - (k + 1)).toNat).filter (apT bs k)).map fun j => (k, j)
def apart (bs : List (Int × Int)) : List (Int × Int) := (irange 0 bs.length).flatMap (apRow bs)
theorem flat_len {α β : Type} {f : α → List β} {c : Nat} : ∀ {xs : List α}, (∀ x ∈ xs, (f x).length ≤ c) → (xs.flatMap f).length ≤ c * xs.length
  | [], _ => Nat.zero_le _
  | x :: xs, h => by
    rw [List.flatMap_cons, List.length_append, List.length_cons, Nat.mul_succ]
    have h1 := h x List.mem_cons_self
    have h2 := flat_len (f := f) (xs := xs) fun y hy => h y (List.mem_cons_of_mem _ hy)
    omega
theorem apRow_len {bs : List (Int × Int)} {k : Int} (h : 0 ≤ k) (hn : bs.length ≤ 7) : (apRow bs k).length ≤ 7 := by
  unfold apRow
  rw [List.length_map]
  refine Nat.le_trans (List.length_filter_le _ _) ?_
  rw [irange_len]
  omega
theorem lim_big : 1000 < lim := by decide +kernel
abbrev apBody : En → M Out := sIf (dOr (dTest (dBin oGt (dBin oIx (dBin oIx (dVar 0) (dVar 2)) (dC (.int 0))) (dBin oIx (dBin oIx (dVar 0) (dVar 3)) (dC (.int 1))))) (dTest (dBin oGt (dBin oIx (dBin oIx (dVar 0) (dVar 3)) (dC (.int 0))) (dBin oIx (dBin oIx (dVar 0) (dVar 2)) (dC (.int 1))))))
    (sApp 1 (dTup (aCons (dVar 2) (aCons (dVar 3) aNil))))
    sNil
abbrev apEn (bs : List (Int × Int)) (l : List (Int × Int)) (u2 u3 : Option Dt.Slot) : En := [some (.v (.d (dBs bs))), some (.own (l.map dP)), u2, u3]
theorem ap_body {bs l : List (Int × Int)} {k j : Int} (hk : 0 ≤ k ∧ k < bs.length) (hj : 0 ≤ j ∧ j < bs.length) (hl : l.length ≤ 1000) :
    apBody (apEn bs l (some (.v (dI k))) (some (.v (dI j)))) = .ret (.nx (apEn bs (if apT bs k j = true then l ++ [(k, j)] else l) (some (.v (dI k))) (some (.v (dI j))))) := by
  have ek := op_ix_bs (bs := bs) (k := k) hk.1 hk.2
  have ej := op_ix_bs (bs := bs) (k := j) hj.1 hj.2
  have or : dOr (dTest (dBin oGt (dBin oIx (dBin oIx (dVar 0) (dVar 2)) (dC (.int 0))) (dBin oIx (dBin oIx (dVar 0) (dVar 3)) (dC (.int 1))))) (dTest (dBin oGt (dBin oIx (dBin oIx (dVar 0) (dVar 3)) (dC (.int 0))) (dBin oIx (dBin oIx (dVar 0) (dVar 2)) (dC (.int 1))))) (expo (apEn bs l (some (.v (dI k))) (some (.v (dI j))))) = .ret (apT bs k j) :=
    et_or (et_val (ev_bin (ev_bin (ev_bin (ev_var rfl) (ev_var rfl) ek) ev_c rfl) (ev_bin (ev_bin (ev_var rfl) (ev_var rfl) ej) ev_c rfl) (op_gt_i _ _))) fun _ => et_val (ev_bin (ev_bin (ev_bin (ev_var rfl) (ev_var rfl) ej) ev_c rfl) (ev_bin (ev_bin (ev_var rfl) (ev_var rfl) ek) ev_c rfl) (op_gt_i _ _))
  have hlim := lim_big
  cases e : apT bs k j with
  | true =>
    rw [if_pos rfl]
    refine es_ifT (ev_is or e) ?_
    refine Eq.trans (es_app (i := 1) (xs := l.map dP) rfl (ev_tup (ea_cons (ev_var rfl) (ea_cons (ev_var rfl) ea_nil)) rfl) (by rw [List.length_map]; omega)) ?_
    unfold apEn
    rw [List.map_append]
    rfl
  | false =>
    rw [if_neg (by decide)]
    exact es_ifF (ev_is or e) es_nil
theorem surely_apart_eq {bs : List (Int × Int)} (h : okB bs = true) : F_surely_apart [.d (dBs bs)] = .ret (.d (dBs (apart bs)), true) := by
  have hp := okB_pos h
  have hl : ((bs.map dP).length : Int) = bs.length := by rw [List.length_map]
  have hl2 : ((bs.map dP).length : Int).toNat = bs.length := by omega
  have key := es_forP (emb := PyData.int) (sl := [2]) (bd := bdN) (xs := irange 0 bs.length)
    (s1 := sFor [3] bdN (iRangeD2 (aCons (dBin oAdd (dVar 2) (dC (.int 1))) (aCons (dCall bLen (aCons (dVar 0) aNil)) aNil))) apBody)
    (R := fun pre en => ∃ u2 u3, en = apEn bs (pre.flatMap (apRow bs)) u2 u3)
    (en := apEn bs [] none none) ⟨_, _, rfl⟩ (by
      rintro pre k post en hx ⟨u2, u3, rfl⟩
      have bk : 0 ≤ k ∧ k < 0 + bs.length := mem_ir (n := bs.length) (by rw [hx]; simp)
      have hpl : pre.length ≤ 7 := by
        have := congrArg List.length hx
        rw [irange_len, List.length_append, List.length_cons] at this
        omega
      have hpre : (pre.flatMap (apRow bs)).length ≤ 49 := by
        refine Nat.le_trans (flat_len (c := 7) fun y hy => apRow_len ?_ hp.1.2) (by omega)
        exact (mem_ir (n := bs.length) (m := 0) (by rw [hx]; exact List.mem_append_left _ hy)).1
      refine ⟨_, rfl, ?_⟩
      have inner := es_forP (emb := PyData.int) (sl := [3]) (bd := bdN) (xs := irange (k + 1) (bs.length - (k + 1)).toNat) (s1 := apBody)
        (R := fun pre2 en => ∃ u3, en = apEn bs (pre.flatMap (apRow bs) ++ (pre2.filter (apT bs k)).map fun j => (k, j)) (some (.v (dI k))) u3)
        (en := apEn bs (pre.flatMap (apRow bs) ++ []) (some (.v (dI k))) u3) ⟨_, rfl⟩ (by
          rintro pre2 j post2 en hx2 ⟨u3, rfl⟩
          have bj := mem_ir (n := (bs.length - (k + 1)).toNat) (m := k + 1) (x := j) (by rw [hx2]; simp)
          have hp2 : pre2.length ≤ 7 := by
            have := congrArg List.length hx2
            rw [irange_len, List.length_append, List.length_cons] at this
            omega
          refine ⟨_, rfl, _, ap_body (by omega) (by omega) ?_, some (.v (dI j)), ?_⟩
          · rw [List.length_append, List.length_map]
            have := List.length_filter_le (apT bs k) pre2
            omega
          · rw [List.filter_append, List.map_append]
            cases e : apT bs k j with
            | true =>
              rw [if_pos rfl, List.filter_cons_of_pos e, List.append_assoc]
              rfl
            | false =>
              rw [if_neg (by decide), List.filter_cons_of_neg (by rw [e]; decide)]
              simp only [List.filter_nil, List.map_nil, List.append_nil])
      obtain ⟨en', e1, u3', rfl⟩ := inner
      refine ⟨apEn bs ((pre ++ [k]).flatMap (apRow bs)) (some (.v (dI k))) u3', ?_, _, _, rfl⟩
      rw [List.append_nil] at e1
      have ef : (pre ++ [k]).flatMap (apRow bs) = pre.flatMap (apRow bs) ++ ((irange (k + 1) (bs.length - (k + 1)).toNat).filter (apT bs k)).map fun j => (k, j) := by
        rw [List.flatMap_append, List.flatMap_cons, List.flatMap_nil, List.append_nil]
        rfl
      rw [ef]
      with_reducible apply es_for
      · with_reducible apply ei_rng2
        · walk_at "A"
        · omega
      · rw [hl]; exact e1)
  obtain ⟨en', e1, u2, u3, rfl⟩ := key
  unfold F_surely_apart b_surely_apart
  refine run_rt rfl (es_seq (en' := [some (.v (.d (dBs bs))), none, none, none]) (chk0 h rfl) (es_seq (en' := apEn bs [] none none) (es_setO (ev_lst ea_nil rfl)) (es_seq (en' := apEn bs (apart bs) u2 u3) ?_ (es_retO rfl))))
  with_reducible apply es_for
  · with_reducible apply ei_rng1
    · walk_at "A"
    · omega
  · rw [hl2]; exact e1
/-! most together -/
def inAt (x : Int) (p : Int × Int) : Bool := decide (p.1 ≤ x) && decide (x ≤ p.2)
def manyAt (bs : List (Int × Int)) (x : Int) : Int := ((bs.filter (inAt x)).length : Int)
def mStep (bs : List (Int × Int)) (b : Int × Int) (x : Int) : Int × Int := if b.1 < manyAt bs x then (manyAt bs x, x) else b
def mostSh (bs : List (Int × Int)) : Int × Int := (isort (los bs)).foldl (mStep bs) (0, 0)
theorem most_shared_eq {bs : List (Int × Int)} (h : okB bs = true) : F_most_shared [.d (dBs bs)] = .ret (.d (dP (mostSh bs)), false) := by
  have key := es_forL (emb := PyData.int) (sl := [2]) (bd := bdN) (xs := isort (los bs))
    (s1 := sSeq (sSet 3 (dCall bLen (aCons (dComp [4, 5] [4, 5] (bdT 2) (iSeqD (dVar 0)) (dTest (dChain oLe oLe (dVar 4) (dVar 2) (dVar 5))) (dC (.int 1))) aNil)))
      (sSet 1 (dIf (dTest (dBin oGt (dVar 3) (dBin oIx (dVar 1) (dC (.int 0))))) (dTup (aCons (dVar 3) (aCons (dVar 2) aNil))) (dVar 1))))
    (R := fun (b : Int × Int) en => ∃ u2 u3, en = [some (.v (.d (dBs bs))), some (.v (.d (dP b))), u2, u3, none, none])
    (mStep bs) (b := (0, 0)) (en := [some (.v (.d (dBs bs))), some (.v (.d (dP (0, 0)))), none, none, none, none]) ⟨_, _, rfl⟩ (by
      rintro b x en _ ⟨u2, u3, rfl⟩
      refine ⟨_, rfl, [some (.v (.d (dBs bs))), some (.v (.d (dP (mStep bs b x)))), some (.v (dI x)), some (.v (dI (manyAt bs x))), none, none], ?_, _, _, rfl⟩
      have many : sSet 3 (dCall bLen (aCons (dComp [4, 5] [4, 5] (bdT 2) (iSeqD (dVar 0)) (dTest (dChain oLe oLe (dVar 4) (dVar 2) (dVar 5))) (dC (.int 1))) aNil)) [some (.v (.d (dBs bs))), some (.v (.d (dP b))), some (.v (dI x)), u3, none, none] = .ret (.nx [some (.v (.d (dBs bs))), some (.v (.d (dP b))), some (.v (dI x)), some (.v (dI (manyAt bs x))), none, none]) := by
        refine Eq.trans (es_set (ev_call (ea_cons (ev_compBF (f := fun _ => .int 1) (g := inAt x) (b := false) (ei_list (ev_var rfl)) (okB_len h) (fun p _ => et_val (ev_chain (ev_var rfl) (ev_var rfl) (ev_var rfl) rfl rfl)) (fun p _ _ => ev_c)) ea_nil) rfl)) ?_
        rw [List.length_map]
        rfl
      refine es_seq many (es_set (z := .d (dP (mStep bs b x))) (w := false) ?_)
      unfold mStep
      have gt : dTest (dBin oGt (dVar 3) (dBin oIx (dVar 1) (dC (.int 0)))) (hide [some (.v (.d (dBs bs))), some (.v (.d (dP b))), some (.v (dI x)), some (.v (dI (manyAt bs x))), none, none]) = .ret (decide (b.1 < manyAt bs x)) := et_val (ev_bin (ev_var rfl) (ev_bin (ev_var rfl) ev_c rfl) (op_gt_i _ _))
      by_cases c : b.1 < manyAt bs x
      · rw [if_pos c]
        exact ev_ifT (ev_is gt (decide_eq_true c)) (ev_tup (ea_cons (ev_var rfl) (ea_cons (ev_var rfl) ea_nil)) rfl)
      · rw [if_neg c]
        exact ev_ifF (ev_is gt (decide_eq_false c)) (ev_var rfl))
  obtain ⟨en', e1, u2, u3, rfl⟩ := key
  unfold F_most_shared b_most_shared
  refine run_rt rfl (es_seq (en' := [some (.v (.d (dBs bs))), none, none, none, none, none]) (chk0 h rfl) (es_seq (en' := [some (.v (.d (dBs bs))), some (.v (.d (dP (0, 0)))), none, none, none, none]) (es_set (ev_tup (ea_cons ev_c (ea_cons ev_c ea_nil)) rfl)) (es_seq (en' := [some (.v (.d (dBs bs))), some (.v (.d (dP (mostSh bs)))), u2, u3, none, none]) ?_ (es_retV rfl))))
  exact es_for (ei_list (ev_call (ea_cons (ev_call (ea_cons (ev_var rfl) ea_nil) (lows_eq (okB_len h))) ea_nil) (b_sorted (los bs)))) e1
end Pg

/-! Spreads: plain mathematics (k03). -/
namespace Pg
open PySem L2 Dt
theorem low_nat (bs : List (Int × Int)) (k : Nat) : lowAt bs k = (bs.getD k (0, 0)).1 := by unfold lowAt; rfl
theorem high_nat (bs : List (Int × Int)) (k : Nat) : highAt bs k = (bs.getD k (0, 0)).2 := by unfold highAt; rfl
theorem Ch.at {bs : List (Int × Int)} {c : List Int} (h : Ch bs c) : ∀ {k : Nat} (hk : k < c.length), lowAt bs k ≤ c[k] ∧ c[k] ≤ highAt bs k := by
  induction h with
  | nil => intro k hk; exact absurd hk (Nat.not_lt_zero _)
  | @cons p v bs c h1 h2 h3 ih =>
    intro k hk
    rw [low_nat, high_nat]
    cases k with
    | zero => exact ⟨h1, h2⟩
    | succ k =>
      have := ih (k := k) (by simpa using hk)
      rw [low_nat, high_nat] at this
      simpa using this
theorem Ch.map {f : Int × Int → Int} : ∀ {bs : List (Int × Int)}, (∀ p ∈ bs, p.1 ≤ f p ∧ f p ≤ p.2) → Ch bs (bs.map f)
  | [], _ => .nil
  | p :: bs, h => .cons (h p List.mem_cons_self).1 (h p List.mem_cons_self).2 (Ch.map fun q hq => h q (List.mem_cons_of_mem _ hq))
theorem Ch.put {bs : List (Int × Int)} {c : List Int} (h : Ch bs c) : ∀ {k : Nat} {v : Int}, lowAt bs k ≤ v → v ≤ highAt bs k → Ch bs (c.set k v) := by
  induction h with
  | nil => intro k v _ _; exact .nil
  | @cons p w bs c h1 h2 h3 ih =>
    intro k v a b
    rw [low_nat] at a
    rw [high_nat] at b
    cases k with
    | zero => exact .cons a b h3
    | succ k => exact .cons h1 h2 (ih (by rw [low_nat]; simpa using a) (by rw [high_nat]; simpa using b))
theorem los_at {bs : List (Int × Int)} {x : Int} (h : x ∈ los bs) : ∃ k : Nat, k < bs.length ∧ lowAt bs k = x := by
  obtain ⟨p, hp, rfl⟩ := List.mem_map.mp h
  obtain ⟨k, hk, e⟩ := List.getElem_of_mem hp
  exact ⟨k, hk, by rw [low_nat, List.getD_eq_getElem?_getD, List.getElem?_eq_getElem hk, e]; rfl⟩
theorem his_at {bs : List (Int × Int)} {x : Int} (h : x ∈ his bs) : ∃ k : Nat, k < bs.length ∧ highAt bs k = x := by
  obtain ⟨p, hp, rfl⟩ := List.mem_map.mp h
  obtain ⟨k, hk, e⟩ := List.getElem_of_mem hp
  exact ⟨k, hk, by rw [high_nat, List.getD_eq_getElem?_getD, List.getElem?_eq_getElem hk, e]; rfl⟩
theorem at_mem {bs : List (Int × Int)} {k : Nat} (h : k < bs.length) : bs[k] ∈ bs ∧ lowAt bs k = bs[k].1 ∧ highAt bs k = bs[k].2 :=
  ⟨List.getElem_mem h, by rw [low_nat, List.getD_eq_getElem?_getD, List.getElem?_eq_getElem h]; rfl, by rw [high_nat, List.getD_eq_getElem?_getD, List.getElem?_eq_getElem h]; rfl⟩
abbrev spr (c : List Int) : Int := maxL c - minL c
theorem spr_least {bs : List (Int × Int)} {c : List Int} (ok : okB bs = true) (h : Ch bs c) : leastS bs ≤ spr c := by
  have hp := okB_pos ok
  have hl := h.len
  have ne : c ≠ [] := fun z => by rw [z] at hl; simp at hl; omega
  have h0 := minL_le (maxL_mem ne)
  obtain ⟨k, hk, ek⟩ := los_at (maxL_mem (bs_ne ok).1)
  obtain ⟨j, hj, ej⟩ := his_at (minL_mem (bs_ne ok).2)
  have a := (h.at (k := k) (by omega)).1
  have b := (h.at (k := j) (by omega)).2
  have a2 := maxL_ge (List.getElem_mem (l := c) (n := k) (by omega))
  have b2 := minL_le (List.getElem_mem (l := c) (n := j) (by omega))
  unfold leastS spr
  split <;> omega
theorem pgap_none {bs : List (Int × Int)} (h : pgap bs = none) : bs.length ≤ 1 := by
  refine Nat.le_of_not_lt fun z => ?_
  have := (pgap_ok bs).none_ h 0 1 ⟨by omega, by omega⟩
  omega
theorem mostS_ge {bs : List (Int × Int)} (hb : ∀ p ∈ bs, p.1 ≤ p.2) {k j : Nat} (hk : k < bs.length) (hj : j < bs.length) (n : k ≠ j) : gapAt bs k j ≤ mostS bs := by
  unfold mostS
  cases e : pgap bs with
  | none => have := pgap_none e; omega
  | some q =>
    obtain ⟨g, a, b⟩ := q
    exact ((pgap_ok bs).some_ g a b e).2 k j ⟨by omega, by omega⟩ (by omega)
theorem mostS_pos {bs : List (Int × Int)} (hb : ∀ p ∈ bs, p.1 ≤ p.2) : 0 ≤ mostS bs := by
  by_cases c : bs.length ≤ 1
  · unfold mostS
    cases e : pgap bs with
    | none => exact Int.le_refl _
    | some q =>
      obtain ⟨g, a, b⟩ := q
      have := ((pgap_ok bs).some_ g a b e).1
      omega
  · have h1 := mostS_ge hb (k := 0) (j := 1) (by omega) (by omega) (by decide)
    have h2 := mostS_ge hb (k := 1) (j := 0) (by omega) (by omega) (by decide)
    obtain ⟨m0, l0, u0⟩ := at_mem (bs := bs) (k := 0) (by omega)
    obtain ⟨m1, l1, u1⟩ := at_mem (bs := bs) (k := 1) (by omega)
    have a0 := hb _ m0
    have a1 := hb _ m1
    unfold gapAt at h1 h2
    omega
theorem spr_most {bs : List (Int × Int)} {c : List Int} (ok : okB bs = true) (h : Ch bs c) : spr c ≤ mostS bs := by
  have hp := okB_pos ok
  have hl := h.len
  have ne : c ≠ [] := fun z => by rw [z] at hl; simp at hl; omega
  obtain ⟨k, hk, ek⟩ := List.getElem_of_mem (maxL_mem ne)
  obtain ⟨j, hj, ej⟩ := List.getElem_of_mem (minL_mem ne)
  by_cases n : k = j
  · subst n
    have := mostS_pos hp.2
    unfold spr
    omega
  · have g := mostS_ge hp.2 (k := k) (j := j) (by omega) (by omega) n
    have a := (h.at hk).2
    have b := (h.at hj).1
    unfold gapAt at g
    unfold spr
    omega
theorem narC_ch {bs : List (Int × Int)} (ok : okB bs = true) : Ch bs (narC bs) := by
  refine Ch.map fun p hp => ?_
  have := (okB_pos ok).2 p hp
  dsimp only
  split <;> split <;> omega
theorem mid3 {G a b v : Int} (h : (if (if G > a then G else a) < b then (if G > a then G else a) else b) = v) (hab : a ≤ b) : (v = b ∧ b ≤ G) ∨ (v = a ∧ G ≤ a) ∨ (v = G ∧ a ≤ G ∧ G ≤ b) := by
  by_cases c : G > a
  · simp only [if_pos c] at h
    split at h <;> omega
  · simp only [if_neg c] at h
    split at h <;> omega
theorem narC_spr {bs : List (Int × Int)} (ok : okB bs = true) : spr (narC bs) = leastS bs := by
  refine Int.le_antisymm ?_ (spr_least ok (narC_ch ok))
  have hp := okB_pos ok
  have hl := (narC_ch ok).len
  have ne : narC bs ≠ [] := fun z => by rw [z] at hl; simp at hl; omega
  obtain ⟨p, hp1, e1⟩ := List.mem_map.mp (maxL_mem ne)
  obtain ⟨q, hq1, e2⟩ := List.mem_map.mp (minL_mem ne)
  have a1 := hp.2 p hp1
  have a2 := hp.2 q hq1
  have b1 := maxL_ge (xs := los bs) (List.mem_map.mpr ⟨p, hp1, rfl⟩)
  have b2 := maxL_ge (xs := los bs) (List.mem_map.mpr ⟨q, hq1, rfl⟩)
  have c1 := minL_le (xs := his bs) (List.mem_map.mpr ⟨p, hp1, rfl⟩)
  have c2 := minL_le (xs := his bs) (List.mem_map.mpr ⟨q, hq1, rfl⟩)
  replace e1 : (if (if goalN bs > p.1 then goalN bs else p.1) < p.2 then (if goalN bs > p.1 then goalN bs else p.1) else p.2) = maxL (narC bs) := e1
  replace e2 : (if (if goalN bs > q.1 then goalN bs else q.1) < q.2 then (if goalN bs > q.1 then goalN bs else q.1) else q.2) = minL (narC bs) := e2
  have eg : goalN bs = if minL (his bs) < maxL (los bs) then minL (his bs) else maxL (los bs) := rfl
  have f1 := mid3 e1 a1
  have f2 := mid3 e2 a2
  generalize goalN bs = G at *
  unfold spr leastS
  split at eg
  · split <;> omega
  · split <;> omega
theorem wideC_ch {bs : List (Int × Int)} (ok : okB bs = true) : Ch bs (wideC bs) := by
  have hp := okB_pos ok
  unfold wideC
  cases e : pgap bs with
  | none => exact Ch.low hp.2
  | some q =>
    obtain ⟨g, k, j⟩ := q
    obtain ⟨⟨_, hk, _, _⟩, _⟩ := (pgap_ok bs).some_ g k j e
    obtain ⟨m, l, u⟩ := at_mem (bs := bs) (k := k.toNat) (by omega)
    have a := hp.2 _ m
    have ek : ((k.toNat : Nat) : Int) = k := by omega
    rw [ek] at l u
    refine (Ch.low hp.2).put ?_ ?_ <;> rw [ek] <;> dsimp only <;> omega
theorem wideC_spr {bs : List (Int × Int)} (ok : okB bs = true) : spr (wideC bs) = mostS bs := by
  refine Int.le_antisymm (spr_most ok (wideC_ch ok)) ?_
  have hp := okB_pos ok
  have hl := (wideC_ch ok).len
  have ne : wideC bs ≠ [] := fun z => by rw [z] at hl; simp at hl; omega
  cases e : pgap bs with
  | none =>
    have : mostS bs = 0 := by unfold mostS; rw [e]
    rw [this]
    have := minL_le (maxL_mem ne)
    unfold spr
    omega
  | some q =>
    obtain ⟨g, k, j⟩ := q
    obtain ⟨⟨n, hk, hj, eg⟩, _⟩ := (pgap_ok bs).some_ g k j e
    have e1 : mostS bs = g := by unfold mostS; rw [e]
    have e2 : wideC bs = (los bs).set k.toNat (highAt bs k) := by unfold wideC; rw [e]
    have lk : k.toNat < (los bs).length := by rw [List.length_map]; omega
    have lj : j.toNat < bs.length := by omega
    have m1 : highAt bs k ∈ wideC bs := by
      rw [e2]
      exact List.mem_of_getElem? (i := k.toNat) (List.getElem?_set_self lk)
    have m2 : lowAt bs j ∈ wideC bs := by
      rw [e2]
      refine List.mem_of_getElem? (i := j.toNat) ?_
      rw [List.getElem?_set_ne (by omega), List.getElem?_map, List.getElem?_eq_getElem lj]
      obtain ⟨_, l, _⟩ := at_mem lj
      have ej : ((j.toNat : Nat) : Int) = j := by omega
      rw [ej] at l
      rw [l]
      rfl
    have := maxL_ge m1
    have := minL_le m2
    unfold gapAt at eg
    unfold spr
    omega
theorem min_spr {bs : List (Int × Int)} (ok : okB bs = true) : minL ((chs bs).map spr) = leastS bs := minL_uniq (List.mem_map.mpr ⟨_, mem_chs.mpr (narC_ch ok), narC_spr ok⟩) fun y hy => by
  obtain ⟨c, hc, rfl⟩ := List.mem_map.mp hy
  exact spr_least ok (mem_chs.mp hc)
theorem max_spr {bs : List (Int × Int)} (ok : okB bs = true) : maxL ((chs bs).map spr) = mostS bs := maxL_uniq (List.mem_map.mpr ⟨_, mem_chs.mpr (wideC_ch ok), wideC_spr ok⟩) fun y hy => by
  obtain ⟨c, hc, rfl⟩ := List.mem_map.mp hy
  exact spr_most ok (mem_chs.mp hc)
theorem least_zero (bs : List (Int × Int)) : leastS bs = 0 ↔ maxL (los bs) ≤ minL (his bs) := by
  unfold leastS
  split <;> omega
theorem apT_iff {bs : List (Int × Int)} (k j : Int) : apT bs k j = true ↔ highAt bs j < lowAt bs k ∨ highAt bs k < lowAt bs j := by
  unfold apT
  simp
theorem apart_nil {bs : List (Int × Int)} (ok : okB bs = true) : apart bs = [] ↔ maxL (los bs) ≤ minL (his bs) := by
  have hp := okB_pos ok
  constructor
  · intro h
    refine Int.not_lt.mp fun z => ?_
    obtain ⟨k, hk, ek⟩ := los_at (maxL_mem (bs_ne ok).1)
    obtain ⟨j, hj, ej⟩ := his_at (minL_mem (bs_ne ok).2)
    have n : k ≠ j := fun n => by
      subst n
      obtain ⟨m, l, u⟩ := at_mem hk
      have := hp.2 _ m
      omega
    have key : ∀ a b : Nat, a < b → b < bs.length → apT bs a b = true → False := fun a b h1 h2 h3 => by
      have : ((a : Int), (b : Int)) ∈ apart bs := by
        unfold apart
        refine List.mem_flatMap.mpr ⟨a, ir_mem (by omega), ?_⟩
        unfold apRow
        exact List.mem_map.mpr ⟨b, List.mem_filter.mpr ⟨ir_mem (by omega), h3⟩, rfl⟩
      rw [h] at this
      cases this
    rcases Nat.lt_or_gt_of_ne n with c | c
    · exact key k j c hj ((apT_iff _ _).mpr (.inl (by omega)))
    · exact key j k c hk ((apT_iff _ _).mpr (.inr (by omega)))
  · intro h
    unfold apart
    rw [List.flatMap_eq_nil_iff]
    intro k hk
    have bk := mem_ir hk
    unfold apRow
    rw [List.map_eq_nil_iff, List.filter_eq_nil_iff]
    intro j hj z
    have bj := mem_ir hj
    obtain ⟨mk, lk, uk⟩ := at_mem (bs := bs) (k := k.toNat) (by omega)
    obtain ⟨mj, lj, uj⟩ := at_mem (bs := bs) (k := j.toNat) (by omega)
    rw [show ((k.toNat : Nat) : Int) = k by omega] at lk uk
    rw [show ((j.toNat : Nat) : Int) = j by omega] at lj uj
    have h1 := maxL_ge (xs := los bs) (List.mem_map.mpr ⟨_, mk, rfl⟩)
    have h2 := maxL_ge (xs := los bs) (List.mem_map.mpr ⟨_, mj, rfl⟩)
    have h3 := minL_le (xs := his bs) (List.mem_map.mpr ⟨_, mk, rfl⟩)
    have h4 := minL_le (xs := his bs) (List.mem_map.mpr ⟨_, mj, rfl⟩)
    rw [apT_iff] at z
    omega
end Pg

/-! Most together: plain mathematics (k03). -/
namespace Pg
open PySem L2 Dt
theorem many_le {bs : List (Int × Int)} {x l : Int} (h : ∀ p ∈ bs, inAt x p = true → inAt l p = true) : manyAt bs x ≤ manyAt bs l := by
  unfold manyAt
  rw [← List.countP_eq_length_filter, ← List.countP_eq_length_filter]
  exact Int.ofNat_le.mpr (List.countP_mono_left h)
theorem many_pos {bs : List (Int × Int)} (hb : ∀ p ∈ bs, p.1 ≤ p.2) {x : Int} (h : x ∈ los bs) : 0 < manyAt bs x := by
  obtain ⟨p, hp, rfl⟩ := List.mem_map.mp h
  unfold manyAt
  refine Int.ofNat_lt.mpr (List.length_pos_of_mem (a := p) (List.mem_filter.mpr ⟨hp, ?_⟩))
  have := hb p hp
  unfold inAt
  simp
  exact this
theorem many_low {bs : List (Int × Int)} {x : Int} (h : 0 < manyAt bs x) : ∃ l ∈ los bs, l ≤ x ∧ manyAt bs x ≤ manyAt bs l := by
  have ne : (bs.filter (inAt x)).map (·.1) ≠ [] := fun z => by
    unfold manyAt at h
    rw [List.map_eq_nil_iff] at z
    rw [z] at h
    simp at h
  obtain ⟨q, hq, eq⟩ := List.mem_map.mp (maxL_mem ne)
  have hq' := List.mem_filter.mp hq
  have inq : q.1 ≤ x ∧ x ≤ q.2 := by simpa [inAt] using hq'.2
  refine ⟨maxL ((bs.filter (inAt x)).map (·.1)), eq ▸ List.mem_map.mpr ⟨q, hq'.1, rfl⟩, by omega, many_le fun p hp ip => ?_⟩
  have ip' : p.1 ≤ x ∧ x ≤ p.2 := by simpa [inAt] using ip
  have := maxL_ge (xs := (bs.filter (inAt x)).map (·.1)) (List.mem_map.mpr ⟨p, List.mem_filter.mpr ⟨hp, ip⟩, rfl⟩)
  simp only [inAt, Bool.and_eq_true, decide_eq_true_eq]
  omega
def MInv (bs : List (Int × Int)) (pre : List Int) (b : Int × Int) : Prop := (pre = [] ∧ b.1 = 0) ∨ (b.2 ∈ pre ∧ b.1 = manyAt bs b.2 ∧ (∀ l ∈ pre, manyAt bs l ≤ b.1) ∧ ∀ l ∈ pre, l < b.2 → manyAt bs l < b.1)
theorem most_fold {bs : List (Int × Int)} : ∀ {post pre : List Int} {b : Int × Int}, MInv bs pre b → (pre ++ post).Pairwise (· ≤ ·) → (∀ x ∈ post, 0 < manyAt bs x) → MInv bs (pre ++ post) (post.foldl (mStep bs) b)
  | [], pre, b, h, _, _ => by rw [List.append_nil]; exact h
  | x :: post, pre, b, h, hs, hp => by
    have e : pre ++ x :: post = (pre ++ [x]) ++ post := by simp
    rw [e]
    refine most_fold (post := post) (pre := pre ++ [x]) ?_ (e ▸ hs) fun y hy => hp y (List.mem_cons_of_mem _ hy)
    have hx := hp x List.mem_cons_self
    have hle : ∀ l ∈ pre, l ≤ x := fun l hl => (List.pairwise_append.mp hs).2.2 l hl x List.mem_cons_self
    unfold mStep
    rcases h with ⟨rfl, h0⟩ | ⟨h1, h2, h3, h4⟩
    · rw [if_pos (by omega)]
      refine .inr ⟨by simp, rfl, fun l hl => ?_, fun l hl z => ?_⟩
      · obtain rfl : l = x := by simpa using hl
        exact Int.le_refl _
      · obtain rfl : l = x := by simpa using hl
        exact absurd z (Int.lt_irrefl _)
    · by_cases c : b.1 < manyAt bs x
      · rw [if_pos c]
        refine .inr ⟨by simp, rfl, fun l hl => ?_, fun l hl z => ?_⟩
        · rcases List.mem_append.mp hl with hl | hl
          · have := h3 l hl
            dsimp only
            omega
          · obtain rfl : l = x := by simpa using hl
            exact Int.le_refl _
        · rcases List.mem_append.mp hl with hl | hl
          · have := h3 l hl
            dsimp only
            omega
          · obtain rfl : l = x := by simpa using hl
            exact absurd z (Int.lt_irrefl _)
      · rw [if_neg c]
        refine .inr ⟨List.mem_append_left _ h1, h2, fun l hl => ?_, fun l hl z => ?_⟩
        · rcases List.mem_append.mp hl with hl | hl
          · exact h3 l hl
          · obtain rfl : l = x := by simpa using hl
            omega
        · rcases List.mem_append.mp hl with hl | hl
          · exact h4 l hl z
          · obtain rfl : l = x := by simpa using hl
            have := hle _ h1
            omega
theorem mostSh_ok {bs : List (Int × Int)} (ok : okB bs = true) : (mostSh bs).2 ∈ los bs ∧ (mostSh bs).1 = manyAt bs (mostSh bs).2 ∧ (∀ x, manyAt bs x ≤ (mostSh bs).1) ∧ ∀ x, x < (mostSh bs).2 → manyAt bs x < (mostSh bs).1 := by
  have hp := okB_pos ok
  have hm : ∀ {l : Int}, l ∈ los bs ↔ l ∈ isort (los bs) := (isort_perm (los bs)).mem_iff.symm
  have h := most_fold (bs := bs) (post := isort (los bs)) (pre := []) (b := (0, 0)) (.inl ⟨rfl, rfl⟩) (by rw [List.nil_append]; exact isort_sorted _) fun x hx => many_pos hp.2 (hm.mpr hx)
  rw [List.nil_append] at h
  rcases h with ⟨h, _⟩ | ⟨h1, h2, h3, h4⟩
  · have := congrArg List.length h
    rw [isort_len, List.length_map] at this
    simp at this
    rw [this] at hp
    simp at hp
  · have p0 := many_pos hp.2 (hm.mpr h1)
    refine ⟨hm.mpr h1, h2, fun x => ?_, fun x hx => ?_⟩
    · by_cases c : 0 < manyAt bs x
      · obtain ⟨l, hl, _, z⟩ := many_low c
        exact Int.le_trans z (h3 l (hm.mp hl))
      · have : (mostSh bs).1 = manyAt bs (mostSh bs).2 := h2
        have : 0 < manyAt bs (mostSh bs).2 := p0
        omega
    · by_cases c : 0 < manyAt bs x
      · obtain ⟨l, hl, y, z⟩ := many_low c
        exact Int.lt_of_le_of_lt z (h4 l (hm.mp hl) (Int.lt_of_le_of_lt y hx))
      · have : (mostSh bs).1 = manyAt bs (mostSh bs).2 := h2
        have : 0 < manyAt bs (mostSh bs).2 := p0
        omega
abbrev cnts (bs : List (Int × Int)) : List Int := (irange (0 - 50) 101).map (manyAt bs)
theorem cnts_max {bs : List (Int × Int)} (ok : okB bs = true) : maxL (cnts bs) = (mostSh bs).1 := by
  obtain ⟨h1, h2, h3, h4⟩ := mostSh_ok ok
  obtain ⟨p, hp, e⟩ := List.mem_map.mp h1
  have hb := (okB_iff.mp ok).2 p hp
  refine maxL_uniq (List.mem_map.mpr ⟨(mostSh bs).2, ir_mem (by omega), h2.symm⟩) fun y hy => ?_
  obtain ⟨x, _, rfl⟩ := List.mem_map.mp hy
  exact h3 x
theorem cnts_at {bs : List (Int × Int)} (ok : okB bs = true) : (cnts bs).findIdx? (fun z => decide (z = (mostSh bs).1)) = some ((mostSh bs).2 + 50).toNat := by
  obtain ⟨h1, h2, h3, h4⟩ := mostSh_ok ok
  obtain ⟨p, hp, e⟩ := List.mem_map.mp h1
  have hb := (okB_iff.mp ok).2 p hp
  have hl : (cnts bs).length = 101 := by rw [List.length_map, irange_len]
  have hat : ∀ (i : Nat) (hi : i < (cnts bs).length), (cnts bs)[i] = manyAt bs (0 - 50 + i) := fun i hi => by
    unfold cnts irange
    simp
  rw [List.findIdx?_eq_some_iff_getElem]
  refine ⟨by omega, ?_, fun j hj => ?_⟩
  · rw [hat]
    rw [show (0 : Int) - 50 + (((mostSh bs).2 + 50).toNat : Nat) = (mostSh bs).2 by omega]
    exact decide_eq_true h2.symm
  · rw [hat]
    have := h4 (0 - 50 + j) (by omega)
    intro z
    have z := of_decide_eq_true z
    omega
end Pg

/-! The laws' helpers: inside, shared (k03). -/
namespace Pg
open PySem L2 Dt
theorem eqI (k l : Int) (h : k = l) : oEq (.d (.int k)) (.d (.int l)) = .ret (.d (.bool true), false) := eq_same (.int k) (by rw [h]) (Nat.zero_le _)
theorem inside_ch {bs : List (Int × Int)} {c : List Int} (ok : okB bs = true) (h : Ch bs c) : F__law_inside [.d (dBs bs), .d (dNs c)] = .ret (.d (.bool true), false) := by
  have hp := okB_pos ok
  have hl := h.len
  have hl2 : ((c.map PyData.int).length : Int) = c.length := by rw [List.length_map]
  have hl3 : ((c.map PyData.int).length : Int).toNat = c.length := by omega
  unfold F__law_inside b__law_inside
  refine run_rt rfl (es_ret (ev_and' (k := true) (l := true) (ev_bin (ev_call (ea_cons (ev_var rfl) ea_nil) (b_len_l _)) (ev_call (ea_cons (ev_var rfl) ea_nil) (b_len_l _)) (eqI _ _ (by rw [List.length_map, List.length_map, hl]))) fun _ => ?_))
  refine ev_bin (list_of (ys := []) (ev_compNF (xs := irange 0 c.length) (emb := PyData.int) (f := PyData.int) (g := fun _ => false) (b := false) ?_ ?_ ?_ ?_) ?_) (ev_lst ea_nil rfl) (eq_same (Nc.ns []) rfl (by decide))
  · rw [← hl3]
    exact ei_rng1 (ea_cons (ev_call (ea_cons (ev_var rfl) ea_nil) (b_len_l _)) ea_nil) (by omega)
  · rw [irange_len]
    have := lim_big
    omega
  · intro x hx
    have bx := mem_ir hx
    have eb := op_ix_bs (bs := bs) (k := x) (by omega) (by omega)
    have ec := op_ix_ns (ns := c) (k := x) (by omega) (by omega)
    have hk : x.toNat < c.length := by omega
    have hat := h.at hk
    rw [show ((x.toNat : Nat) : Int) = x by omega] at hat
    have eg : c.getD x.toNat 0 = c[x.toNat] := by rw [List.getD_eq_getElem?_getD, List.getElem?_eq_getElem hk]; rfl
    rw [eg] at ec
    refine ev_is (et_not (et_val (ev_chain (k := true) (l := true) (ev_bin (ev_bin (ev_var rfl) (ev_var rfl) eb) ev_c rfl) (ev_bin (ev_var rfl) (ev_var rfl) ec) (ev_bin (ev_bin (ev_var rfl) (ev_var rfl) eb) ev_c rfl) ?_ ?_))) rfl
    · rw [op_le_i, decide_eq_true hat.1]
    · rw [op_le_i, decide_eq_true hat.2]
  · intro x _ z
    cases z
  · rw [List.filter_eq_nil_iff.mpr fun _ _ => by decide]
    rfl
theorem x_call {F : List AV → M RV} {fs : En → M (List AV)} {en : En} {as : List AV} {m : M RV} (hs : fs en = .ret as) (h : F as = m) : xCall F fs en = m := by
  unfold xCall
  rw [hs]
  exact h
theorem es_tryR {i j : Nat} {bb : En → M Out} {en : En} {o : Out} (h0 : en[i]? = some none) (h : bb en = .ret o) : sTry i j bb en = .ret o := by
  unfold sTry
  rw [h0]
  dsimp only
  rw [h]
  rfl
theorem es_tryX {i j : Nat} {bb : En → M Out} {en : En} {er : Err} (h0 : en[i]? = some none) (h : bb en = .raise er) : sTry i j bb en = .ret (.nx (en.set j (some (.v (.exc er))))) := by
  unfold sTry
  rw [h0]
  dsimp only
  rw [h]
  rfl
theorem es_setX {i : Nat} {fa : En → M RV} {en : En} {er : Err} (h : fa (hide en) = .raise er) : sSet i fa en = .raise er := by
  unfold sSet
  rw [h]
  rfl
theorem err_missing : F__law_error [.exc .missing] = .ret (.d (.str "none"), false) := by kernel_rfl
theorem law_shared_eq {bs : List (Int × Int)} (ok : okB bs = true) : F__law_shared [.d (dBs bs)] = .ret (.d (if maxL (los bs) ≤ minL (his bs) then dP (maxL (los bs), minL (his bs)) else .str "none"), false) := by
  have es := shared_eq ok
  unfold F__law_shared b__law_shared
  by_cases c : maxL (los bs) ≤ minL (his bs)
  · rw [if_pos c] at es ⊢
    refine run_rt rfl (es_seq (en' := [some (.v (.d (dBs bs))), some (.v (.d .none)), none, none]) (es_set ev_c) (es_seq (en' := [some (.v (.d (dBs bs))), some (.v (.d .none)), some (.v (.d .none)), none]) (es_set ev_c)
      (es_seq (en' := [some (.v (.d (dBs bs))), some (.v (.d (dP (maxL (los bs), minL (his bs))))), some (.v (.d .none)), none]) ?_ (es_ret (ev_ifT (et_val (ev_bin (ev_var rfl) ev_c rfl)) (ev_var rfl))))))
    exact es_tryR rfl (es_set (x_call (ea_cons (ev_var rfl) ea_nil) es))
  · rw [if_neg c] at es ⊢
    refine run_rt rfl (es_seq (en' := [some (.v (.d (dBs bs))), some (.v (.d .none)), none, none]) (es_set ev_c) (es_seq (en' := [some (.v (.d (dBs bs))), some (.v (.d .none)), some (.v (.d .none)), none]) (es_set ev_c)
      (es_seq (en' := [some (.v (.d (dBs bs))), some (.v (.d .none)), some (.v (.exc .missing)), none]) ?_ (es_ret (ev_ifF (et_val (ev_bin (ev_var rfl) ev_c rfl)) (ev_call (ea_cons (ev_var rfl) ea_nil) err_missing))))))
    exact es_tryX rfl (es_setX (x_call (ea_cons (ev_var rfl) ea_nil) es))
end Pg

/-! Pairs told: lows rise along the pairs until nothing changes (k08, k19). -/
namespace Pg
/-- one pair, the lows -/
def lst (L : Int → Int) (e : Int × Int) : Int → Int := fun i => if i = e.2 then (if L e.1 > L e.2 then L e.1 else L e.2) else L i
def rnd (E : List (Int × Int)) (L : Int → Int) : Int → Int := E.foldl lst L
def rnds (E : List (Int × Int)) : Nat → (Int → Int) → (Int → Int)
  | 0, L => L
  | n + 1, L => rnd E (rnds E n L)
theorem lst_ge (L : Int → Int) (e : Int × Int) (i : Int) : L i ≤ lst L e i := by
  unfold lst
  split
  · rename_i h; subst h; split <;> omega
  · omega
theorem lst_at (L : Int → Int) (e : Int × Int) : L e.1 ≤ lst L e e.2 := by
  unfold lst
  rw [if_pos rfl]; split <;> omega
theorem rnd_ge : ∀ (E : List (Int × Int)) (L : Int → Int) (i : Int), L i ≤ rnd E L i
  | [], L, i => Int.le_refl _
  | e :: E, L, i => Int.le_trans (lst_ge L e i) (rnd_ge E (lst L e) i)
theorem rnd_at : ∀ {E : List (Int × Int)} {L : Int → Int} {e : Int × Int}, e ∈ E → L e.1 ≤ rnd E L e.2
  | f :: E, L, e, h => by
    rcases List.mem_cons.mp h with rfl | h
    · exact Int.le_trans (lst_at L e) (rnd_ge E (lst L e) _)
    · exact Int.le_trans (lst_ge L f e.1) (rnd_at (L := lst L f) h)
theorem rnd_le {x : Int → Int} : ∀ {E : List (Int × Int)} {L : Int → Int}, (∀ e ∈ E, x e.1 ≤ x e.2) → (∀ i, L i ≤ x i) → ∀ i, rnd E L i ≤ x i
  | [], L, _, h, i => h i
  | e :: E, L, hx, h, i => by
    refine rnd_le (E := E) (L := lst L e) (fun f hf => hx f (List.mem_cons_of_mem _ hf)) (fun j => ?_) i
    have h1 := hx e List.mem_cons_self
    have h2 := h e.1
    have h3 := h e.2
    have h4 := h j
    unfold lst
    split
    · rename_i z; subst z; split <;> omega
    · exact h4
theorem rnds_le {x : Int → Int} {E : List (Int × Int)} {L : Int → Int} (hx : ∀ e ∈ E, x e.1 ≤ x e.2) (h : ∀ i, L i ≤ x i) : ∀ n i, rnds E n L i ≤ x i
  | 0, i => h i
  | n + 1, i => rnd_le hx (rnds_le hx h n) i
theorem rnds_ge (E : List (Int × Int)) (L : Int → Int) : ∀ n i, L i ≤ rnds E n L i
  | 0, i => Int.le_refl _
  | n + 1, i => Int.le_trans (rnds_ge E L n i) (rnd_ge E _ i)
/-- a closed set of places stays -/
theorem rnd_closed {v : Int} {P : Int → Prop} : ∀ {E : List (Int × Int)} {M : Int → Int}, (∀ e ∈ E, P e.1 → P e.2) → (∀ i, v ≤ M i → P i) → ∀ i, v ≤ rnd E M i → P i
  | [], M, _, h, i, hv => h i hv
  | e :: E, M, hc, h, i, hv => by
    refine rnd_closed (E := E) (M := lst M e) (fun f hf => hc f (List.mem_cons_of_mem _ hf)) (fun j hj => ?_) i hv
    unfold lst at hj
    split at hj
    · rename_i z; subst z
      split at hj
      · exact hc e List.mem_cons_self (h _ hj)
      · exact h _ hj
    · exact h _ hj
def cntv (n : Nat) (v : Int) (L : Int → Int) : Nat := ((List.range n).filter fun i : Nat => decide (v ≤ L i)).length
theorem filt_le {α : Type} {p q : α → Bool} : ∀ {xs : List α}, (∀ x ∈ xs, p x = true → q x = true) → (xs.filter p).length ≤ (xs.filter q).length ∧ ((xs.filter p).length = (xs.filter q).length → ∀ x ∈ xs, q x = true → p x = true)
  | [], _ => ⟨Nat.le_refl _, by simp⟩
  | x :: xs, h => by
    have ih := filt_le (xs := xs) fun y hy => h y (List.mem_cons_of_mem _ hy)
    have h0 := h x List.mem_cons_self
    cases hp : p x <;> cases hq : q x
    · rw [List.filter_cons_of_neg (by simp [hp]), List.filter_cons_of_neg (by simp [hq])]
      refine ⟨ih.1, fun e y hy => ?_⟩
      rcases List.mem_cons.mp hy with rfl | hy
      · intro z; rw [hq] at z; cases z
      · exact ih.2 e y hy
    · rw [List.filter_cons_of_neg (by simp [hp]), List.filter_cons_of_pos hq, List.length_cons]
      refine ⟨by omega, fun e => by omega⟩
    · rw [h0 hp] at hq; cases hq
    · rw [List.filter_cons_of_pos hp, List.filter_cons_of_pos hq, List.length_cons, List.length_cons]
      refine ⟨by omega, fun e y hy => ?_⟩
      rcases List.mem_cons.mp hy with rfl | hy
      · intro _; exact hp
      · exact ih.2 (by omega) y hy
theorem rnds_add (E : List (Int × Int)) (L : Int → Int) (m : Nat) : ∀ n, rnds E (m + n) L = rnds E n (rnds E m L)
  | 0 => rfl
  | n + 1 => by
    show rnd E (rnds E (m + n) L) = rnd E (rnds E n (rnds E m L))
    rw [rnds_add E L m n]
theorem rnds_closed {v : Int} {P : Int → Prop} {E : List (Int × Int)} {M : Int → Int} (hc : ∀ e ∈ E, P e.1 → P e.2) (h : ∀ i, v ≤ M i → P i) : ∀ n i, v ≤ rnds E n M i → P i
  | 0, i, hv => h i hv
  | n + 1, i, hv => rnd_closed hc (rnds_closed hc h n) i hv
/-- after as many rounds as there are values every pair holds -/
theorem rnds_fix {E : List (Int × Int)} {n : Nat} (hE : ∀ e ∈ E, (0 ≤ e.1 ∧ e.1 < n) ∧ (0 ≤ e.2 ∧ e.2 < n)) (L : Int → Int) : ∀ e ∈ E, rnds E n L e.1 ≤ rnds E n L e.2 := by
  intro e he
  refine Int.not_lt.mp fun hlt => ?_
  have key : ∀ r, r ≤ n → r ≤ cntv n (rnds E n L e.1) (rnds E r L) := by
    intro r
    induction r with
    | zero => intro _; omega
    | succ r ih =>
      intro hr
      have ih := ih (by omega)
      have hmono := filt_le (xs := List.range n) (p := fun i : Nat => decide (rnds E n L e.1 ≤ rnds E r L i)) (q := fun i : Nat => decide (rnds E n L e.1 ≤ rnds E (r + 1) L i)) (fun i _ h => by
        have h1 := of_decide_eq_true h
        have h2 := rnd_ge E (rnds E r L) i
        exact decide_eq_true (Int.le_trans h1 h2))
      have hle : cntv n (rnds E n L e.1) (rnds E r L) ≤ cntv n (rnds E n L e.1) (rnds E (r + 1) L) := hmono.1
      by_cases heq : cntv n (rnds E n L e.1) (rnds E r L) = cntv n (rnds E n L e.1) (rnds E (r + 1) L)
      · exfalso
        have hsame := hmono.2 heq
        have hcl : ∀ f ∈ E, (rnds E n L e.1 ≤ rnds E r L f.1) → (rnds E n L e.1 ≤ rnds E r L f.2) := by
          intro f hf h1
          have h2 : rnds E n L e.1 ≤ rnds E (r + 1) L f.2 := Int.le_trans h1 (rnd_at (L := rnds E r L) hf)
          have hb := (hE f hf).2
          have h3 := hsame f.2.toNat (List.mem_range.mpr (by omega)) (by
            rw [show ((f.2.toNat : Nat) : Int) = f.2 by omega]
            exact decide_eq_true h2)
          rw [show ((f.2.toNat : Nat) : Int) = f.2 by omega] at h3
          exact of_decide_eq_true h3
        have hst := rnds_closed (v := rnds E n L e.1) (P := fun i => rnds E n L e.1 ≤ rnds E r L i) (M := rnds E r L) hcl (fun i h => h) (n - r)
        rw [← rnds_add, show r + (n - r) = n by omega] at hst
        have h5 := hcl e he (hst e.1 (Int.le_refl _))
        have h6 := rnds_ge E (rnds E r L) (n - r) e.2
        rw [← rnds_add, show r + (n - r) = n by omega] at h6
        omega
      · omega
  have hfull := key n (Nat.le_refl _)
  have hle := List.length_filter_le (fun i : Nat => decide (rnds E n L e.1 ≤ rnds E n L i)) (List.range n)
  rw [List.length_range] at hle
  have hall := (filt_le (xs := List.range n) (p := fun i : Nat => decide (rnds E n L e.1 ≤ rnds E n L i)) (q := fun _ => true) fun _ _ _ => rfl).2 (by
    rw [List.filter_eq_self.mpr fun _ _ => rfl, List.length_range]
    unfold cntv at hfull
    omega)
  have hb := (hE e he).2
  have h7 := hall e.2.toNat (List.mem_range.mpr (by omega)) rfl
  rw [show ((e.2.toNat : Nat) : Int) = e.2 by omega] at h7
  have := of_decide_eq_true h7
  omega
/-- the highs, turned over -/
def hst (H : Int → Int) (e : Int × Int) : Int → Int := fun i => if i = e.1 then (if H e.2 < H e.1 then H e.2 else H e.1) else H i
def rndH (E : List (Int × Int)) (H : Int → Int) : Int → Int := E.foldl hst H
def rndsH (E : List (Int × Int)) : Nat → (Int → Int) → (Int → Int)
  | 0, H => H
  | n + 1, H => rndH E (rndsH E n H)
def sw (e : Int × Int) : Int × Int := (e.2, e.1)
theorem hst_neg (H : Int → Int) (e : Int × Int) : (fun i => -(hst H e i)) = lst (fun i => -(H i)) (sw e) := by
  funext i
  unfold hst lst sw
  dsimp only
  split
  · split <;> split <;> omega
  · rfl
theorem rndH_neg : ∀ (E : List (Int × Int)) (H : Int → Int), (fun i => -(rndH E H i)) = rnd (E.map sw) (fun i => -(H i))
  | [], H => rfl
  | e :: E, H => by
    show (fun i => -(rndH E (hst H e) i)) = rnd (E.map sw) (lst (fun i => -(H i)) (sw e))
    rw [rndH_neg E (hst H e), hst_neg]
theorem rndsH_neg (E : List (Int × Int)) (H : Int → Int) : ∀ n, (fun i => -(rndsH E n H i)) = rnds (E.map sw) n (fun i => -(H i))
  | 0 => rfl
  | n + 1 => by
    show (fun i => -(rndH E (rndsH E n H) i)) = rnd (E.map sw) (rnds (E.map sw) n _)
    rw [rndH_neg, rndsH_neg E H n]
theorem rndsH_le (E : List (Int × Int)) (H : Int → Int) (n : Nat) (i : Int) : rndsH E n H i ≤ H i := by
  have h := rnds_ge (E.map sw) (fun i => -(H i)) n i
  rw [← rndsH_neg] at h
  dsimp only at h
  omega
theorem rndsH_ge {x : Int → Int} {E : List (Int × Int)} {H : Int → Int} (hx : ∀ e ∈ E, x e.1 ≤ x e.2) (h : ∀ i, x i ≤ H i) (n : Nat) (i : Int) : x i ≤ rndsH E n H i := by
  have h := rnds_le (x := fun i => -(x i)) (E := E.map sw) (L := fun i => -(H i)) (fun e he => by
    obtain ⟨f, hf, rfl⟩ := List.mem_map.mp he
    have := hx f hf
    show -(x f.2) ≤ -(x f.1)
    omega) (fun i => by have := h i; omega) n i
  rw [← rndsH_neg] at h
  dsimp only at h
  omega
theorem rndsH_fix {E : List (Int × Int)} {n : Nat} (hE : ∀ e ∈ E, (0 ≤ e.1 ∧ e.1 < n) ∧ (0 ≤ e.2 ∧ e.2 < n)) (H : Int → Int) : ∀ e ∈ E, rndsH E n H e.1 ≤ rndsH E n H e.2 := by
  intro e he
  have h := rnds_fix (E := E.map sw) (n := n) (fun f hf => by
    obtain ⟨g, hg, rfl⟩ := List.mem_map.mp hf
    exact ⟨(hE g hg).2, (hE g hg).1⟩) (fun i => -(H i)) (sw e) (List.mem_map.mpr ⟨e, he, rfl⟩)
  rw [← rndsH_neg] at h
  dsimp only [sw] at h
  omega
end Pg

/-! Facts by pairs, values; counts of choices (k08, k19). -/
namespace Pg
open PySem L2 Dt
theorem b_len_bs (bs : List (Int × Int)) : bLen [.d (dBs bs)] = .ret (.d (.int bs.length), false) := by rw [b_len_l, List.length_map]
theorem b_len_ns (ns : List Int) : bLen [.d (dNs ns)] = .ret (.d (.int ns.length), false) := by rw [b_len_l, List.length_map]
theorem ev_isiT {t : Ty5} {en : En} {fa : En → M RV} {p : PyData} {u : Bool} (ha : fa en = .ret (.d p, u)) (h : isTy t p = true) : dIsi t fa en = .ret (.d (.bool true), false) := by rw [ev_isi ha, h]
local macro_rules | `(tactic| walk_at "op") => `(tactic| first | (with_reducible exact op_add_i _ _) | (with_reducible exact op_sub_i _ _) | (with_reducible exact op_lt_i _ _) | (with_reducible exact op_le_i _ _) | (with_reducible exact op_gt_i _ _) | (with_reducible exact op_ge_i _ _) | (with_reducible exact op_eq_i _ _) | (with_reducible exact op_ne_i _ _) | (with_reducible exact op_ix_p0 _) | (with_reducible exact op_ix_p1 _) | (with_reducible exact op_ix_0 _ _) | (with_reducible exact op_ix_1 _ _ _) | (with_reducible exact op_isN_d) | (with_reducible exact op_notN_d) | (with_reducible exact op_isB_d _ _) | (with_reducible exact op_notB_d _ _) | (with_reducible exact b_len_p _) | (with_reducible exact b_len_l _) | (with_reducible exact b_len_t _) | (with_reducible exact b_sum _) | (with_reducible exact b_sorted _) | (with_reducible exact b_abs _) | (with_reducible exact b_max2 _ _) | (with_reducible exact b_min2 _ _) | ((with_reducible apply op_mod_i); with_reducible assumption) | ((with_reducible apply op_div_i); with_reducible assumption) | ((with_reducible apply op_mul_i); with_reducible assumption))
local macro_rules | `(tactic| walk_at "F") => `(tactic| walk_at "op")
local macro_rules | `(tactic| walk_at "A") => `(tactic| first | (with_reducible exact ea_nil) | ((with_reducible apply ea_cons); walk_at "E"; walk_at "A"))
local macro_rules | `(tactic| walk_at "T") => `(tactic| first | ((with_reducible apply et_val); walk_at "E") | ((with_reducible apply et_not); walk_at "T") | ((with_reducible apply et_or); walk_at "T"; (intro _; walk_at "T")) | ((with_reducible apply et_and); walk_at "T"; (intro _; walk_at "T")))
local macro_rules | `(tactic| walk_at "O") => `(tactic| first | (with_reducible exact eo_none) | ((with_reducible apply eo_some); walk_at "E"))
local macro_rules | `(tactic| walk_at "E") => `(tactic| first
  | (with_reducible exact ev_c)
  | ((with_reducible apply ev_var); rfl)
  | ((with_reducible apply ev_bin); walk_at "E"; walk_at "E"; walk_at "op")
  | ((with_reducible apply ev_call); walk_at "A"; walk_at "F")
  | ((with_reducible apply ev_tup); walk_at "A"; rfl)
  | ((with_reducible apply ev_lst); walk_at "A"; rfl)
  | ((with_reducible apply ev_neg); walk_at "E")
  | ((with_reducible apply ev_isi); walk_at "E")
  | ((with_reducible apply ev_not); walk_at "E")
  | ((with_reducible apply ev_and'); walk_at "E"; (intro _; walk_at "E"))
  | ((with_reducible apply ev_or'); walk_at "E"; (intro _; walk_at "E"))
  | ((with_reducible apply ev_chain); walk_at "E"; walk_at "E"; walk_at "E"; walk_at "op"; walk_at "op")
  | ((with_reducible apply ev_sl); walk_at "E"; walk_at "O"; walk_at "O")
  | ((with_reducible apply ev_rev); walk_at "E")
  | ((with_reducible apply ev_ifT); ((with_reducible apply ev_is); walk_at "T"; rfl); walk_at "E")
  | ((with_reducible apply ev_ifF); ((with_reducible apply ev_is); walk_at "T"; rfl); walk_at "E"))
local macro_rules | `(tactic| walk_at "I") => `(tactic| first | ((with_reducible apply ei_list); walk_at "E"; done) | ((with_reducible apply ei_tup); walk_at "E") | ((with_reducible apply ei_enum); walk_at "A") | ((with_reducible apply ei_zip); walk_at "A"))
local macro_rules | `(tactic| walk_at "S") => `(tactic| first
  | (with_reducible exact es_nil)
  | ((with_reducible apply es_retV); rfl)
  | ((with_reducible apply es_retO); rfl)
  | ((with_reducible apply es_ret); walk_at "E")
  | ((with_reducible apply es_seq); walk_at "S"; walk_at "S")
  | ((with_reducible apply es_expr); walk_at "E")
  | ((with_reducible apply es_set); walk_at "E")
  | ((with_reducible apply es_setO); walk_at "E")
  | ((with_reducible apply es_par); walk_at "A")
  | ((with_reducible apply es_asgT); walk_at "E"; rfl)
  | ((with_reducible apply es_ifF); ((with_reducible apply ev_is); walk_at "T"; (first | rfl | with_reducible assumption)); walk_at "S")
  | ((with_reducible apply es_ifT); ((with_reducible apply ev_is); walk_at "T"; (first | rfl | with_reducible assumption)); walk_at "S"))
local macro_rules | `(tactic| walk_at "F") => `(tactic| with_reducible exact is_int_eq _ _ _)
local macro_rules | `(tactic| walk_at "F") => `(tactic| with_reducible exact is_bound_eq _)
local macro_rules | `(tactic| walk_at "F") => `(tactic| ((with_reducible apply is_bounds_eq); exact okB_len (by with_reducible assumption)))
local macro_rules | `(tactic| walk_at "F") => `(tactic| ((with_reducible apply check_ok); with_reducible assumption))
local macro_rules | `(tactic| walk_at "F") => `(tactic| ((with_reducible apply lows_eq); exact okB_len (by with_reducible assumption)))
local macro_rules | `(tactic| walk_at "F") => `(tactic| ((with_reducible apply highs_eq); exact okB_len (by with_reducible assumption)))
local macro_rules | `(tactic| walk_at "F") => `(tactic| ((with_reducible apply sum_range_eq); with_reducible assumption))
local macro_rules | `(tactic| walk_at "F") => `(tactic| ((with_reducible apply mean_range_eq); with_reducible assumption))
local macro_rules | `(tactic| walk_at "F") => `(tactic| ((with_reducible apply median_range_eq); with_reducible assumption))
local macro_rules | `(tactic| walk_at "F") => `(tactic| ((with_reducible apply least_range_eq); with_reducible assumption))
local macro_rules | `(tactic| walk_at "F") => `(tactic| ((with_reducible apply greatest_range_eq); with_reducible assumption))
local macro_rules | `(tactic| walk_at "F") => `(tactic| ((with_reducible apply choices_eq) <;> with_reducible assumption))
local macro_rules | `(tactic| walk_at "F") => `(tactic| ((with_reducible apply b_min); with_reducible assumption))
local macro_rules | `(tactic| walk_at "F") => `(tactic| ((with_reducible apply b_max); with_reducible assumption))
local macro_rules | `(tactic| walk_at "L") => `(tactic| first | with_reducible assumption | exact okB_len (by with_reducible assumption) | (simp only [List.length_map, irange_len, List.length_range]; omega))
local macro_rules | `(tactic| walk_at "I") => `(tactic| (first | ((with_reducible apply ei_rng1); walk_at "A"; omega) | ((with_reducible apply ei_rng2); walk_at "A"; omega)))
local macro_rules | `(tactic| walk_at "E") => `(tactic| first
  | ((with_reducible apply ev_compB); walk_at "I"; walk_at "L"; (intro _ _; walk_at "E"))
  | ((with_reducible apply ev_compBF); walk_at "I"; walk_at "L"; (intro _ _; walk_at "T"); (intro _ _ _; walk_at "E"))
  | ((with_reducible apply ev_compN); walk_at "I"; walk_at "L"; (intro _ _; walk_at "E"))
  | ((with_reducible apply ev_compNF); walk_at "I"; walk_at "L"; (intro _ _; walk_at "T"); (intro _ _ _; walk_at "E")))
local macro_rules | `(tactic| walk_at "F") => `(tactic| first | (with_reducible exact b_sum' _ _) | (with_reducible exact b_all' _ _) | (with_reducible exact b_any' _ _) | (with_reducible exact b_sorted' _ _))
local macro_rules | `(tactic| walk_at "op") => `(tactic| first | (with_reducible exact b_len_bs _) | (with_reducible exact b_len_ns _) | ((with_reducible apply op_ix_bs) <;> omega) | ((with_reducible apply op_ix_ns) <;> omega))
theorem check_place_eq {bs : List (Int × Int)} {k : Int} (h : 0 ≤ k ∧ k < bs.length) : F_check_place [.d (dBs bs), dI k] = .ret (.d .none, false) := by
  unfold F_check_place b_check_place
  apply run_nx rfl
  with_reducible apply es_ifF
  · apply ev_is
    · walk_at "T"
    · simp; omega
  · walk_at "S"
/-! ### pairs -/
def okE (n : Nat) (E : List (Int × Int)) : Prop := E.length ≤ 42 ∧ ∀ e ∈ E, ((0 ≤ e.1 ∧ e.1 < n) ∧ (0 ≤ e.2 ∧ e.2 < n)) ∧ e.1 ≠ e.2
abbrev cpBody : En → M Out := (sSeq (sIf (dOr (dNot (dTest (dIsi .tuple (dVar 2)))) (dOr (dTest (dBin oNe (dCall bLen (aCons (dVar 2) aNil)) (dC (.int 2)))) (dNot (dTest (dCall bAll (aCons (dComp [3] [3] bdN (iSeqD (dVar 2)) yes (dCall F_is_int (aCons (dVar 3) (aCons (dC (.int 0)) (aCons (dBin oSub (dCall bLen (aCons (dVar 0) aNil)) (dC (.int 1))) aNil))))) aNil))))))
    (sRaise .order)
    sNil)
    (sIf (dTest (dBin oEq (dBin oIx (dVar 2) (dC (.int 0))) (dBin oIx (dVar 2) (dC (.int 1)))))
    (sRaise .order)
    sNil))
theorem cp_body {bs E : List (Int × Int)} {e : Int × Int} (h : ((0 ≤ e.1 ∧ e.1 < bs.length) ∧ (0 ≤ e.2 ∧ e.2 < bs.length)) ∧ e.1 ≠ e.2) :
    cpBody [some (.v (.d (dBs bs))), some (.v (.d (dBs E))), some (.v (.d (dP e))), none] = .ret (.nx [some (.v (.d (dBs bs))), some (.v (.d (dBs E))), some (.v (.d (dP e))), none]) := by
  have comp : dComp [3] [3] bdN (iSeqD (dVar 2)) yes (dCall F_is_int (aCons (dVar 3) (aCons (dC (.int 0)) (aCons (dBin oSub (dCall bLen (aCons (dVar 0) aNil)) (dC (.int 1))) aNil)))) (expo [some (.v (.d (dBs bs))), some (.v (.d (dBs E))), some (.v (.d (dP e))), none]) = .ret (.d (.list ([e.1, e.2].map fun k => .bool (decide (0 ≤ k) && decide (k ≤ (bs.length : Int) - 1)))), true) := by
    refine ev_compN (xs := [e.1, e.2]) (emb := PyData.int) (b := false) (ei_tup (u := false) (ev_var rfl)) (by have := lim_big; simp; omega) fun k hk => ?_
    walk_at "E"
  refine es_seq (es_ifF (ev_is (et_or (k := false) (et_not (k := true) (et_val (ev_isiT (ev_var rfl) rfl))) fun _ => et_or (k := false) (et_val (ev_bin (ev_call (ea_cons (ev_var rfl) ea_nil) (b_len_p e)) ev_c (op_ne_i _ _))) fun _ => et_not (k := true) (et_val (ev_is' (r := (.d .none, false)) (ev_call (ea_cons comp ea_nil) (b_all' _ _)) ?_))) rfl) es_nil) (es_ifF (et_val (ev_is' (r := (.d .none, false)) (ev_bin (ev_bin (ev_var rfl) ev_c (op_ix_p0 e)) (ev_bin (ev_var rfl) ev_c (op_ix_p1 e)) (op_eq_i _ _)) ?_)) es_nil)
  · have : ([e.1, e.2].all fun k => decide (0 ≤ k) && decide (k ≤ (bs.length : Int) - 1)) = true := by
      simp; omega
    rw [this]
  · rw [decide_eq_false h.2]
theorem check_pairs_eq {bs E : List (Int × Int)} (h : okE bs.length E) : F_check_pairs [.d (dBs bs), .d (dBs E)] = .ret (.d .none, false) := by
  have key := es_forP (emb := dP) (sl := [2]) (bd := bdN) (xs := E) (s1 := cpBody) (R := fun _ en => ∃ u, en = [some (.v (.d (dBs bs))), some (.v (.d (dBs E))), u, none])
    (en := [some (.v (.d (dBs bs))), some (.v (.d (dBs E))), none, none]) ⟨_, rfl⟩ (by
      rintro pre e post en hx ⟨u, rfl⟩
      refine ⟨_, rfl, _, cp_body (h.2 e (by rw [hx]; simp)), _, rfl⟩)
  obtain ⟨en', h1, u, rfl⟩ := key
  have hl := h.1
  unfold F_check_pairs b_check_pairs
  refine run_nx rfl (es_seq (es_ifF (ev_is (et_or (k := false) (et_not (k := true) (et_val (ev_isiT (ev_var rfl) rfl))) fun _ => et_val (ev_bin (ev_call (ea_cons (ev_var rfl) ea_nil) (b_len_bs _)) ev_c (op_gt_i _ _))) ?_) es_nil) (es_for (ei_list (ev_var rfl)) h1))
  simp; omega
/-! ### narrowed -/
def nSt1 (f : List (Int × Int)) (e : Int × Int) : List (Int × Int) := f.set e.1.toNat (lowAt f e.1, mn (highAt f e.1) (highAt f e.2))
def nSt2 (f : List (Int × Int)) (e : Int × Int) : List (Int × Int) := f.set e.2.toNat (mx (lowAt f e.2) (lowAt f e.1), highAt f e.2)
def nSt (f : List (Int × Int)) (e : Int × Int) : List (Int × Int) := nSt2 (nSt1 f e) e
def nwds (E : List (Int × Int)) : Nat → List (Int × Int) → List (Int × Int)
  | 0, f => f
  | n + 1, f => E.foldl nSt (nwds E n f)
theorem nSt_len (f : List (Int × Int)) (e : Int × Int) : (nSt f e).length = f.length := by simp [nSt, nSt1, nSt2]
theorem nFold_len : ∀ (E : List (Int × Int)) (f : List (Int × Int)), (E.foldl nSt f).length = f.length
  | [], _ => rfl
  | e :: E, f => by rw [List.foldl_cons, nFold_len E, nSt_len]
theorem nwds_len (E f : List (Int × Int)) : ∀ n, (nwds E n f).length = f.length
  | 0 => rfl
  | n + 1 => by rw [nwds, nFold_len, nwds_len E f n]
abbrev naBody : En → M Out := (sSeq (sPut 2 (dVar 4) (dTup (aCons (dBin oIx (dBin oIx (dVar 2) (dVar 4)) (dC (.int 0))) (aCons (dCall bMin2 (aCons (dBin oIx (dBin oIx (dVar 2) (dVar 4)) (dC (.int 1))) (aCons (dBin oIx (dBin oIx (dVar 2) (dVar 5)) (dC (.int 1))) aNil))) aNil))))
    (sPut 2 (dVar 5) (dTup (aCons (dCall bMax2 (aCons (dBin oIx (dBin oIx (dVar 2) (dVar 5)) (dC (.int 0))) (aCons (dBin oIx (dBin oIx (dVar 2) (dVar 4)) (dC (.int 0))) aNil))) (aCons (dBin oIx (dBin oIx (dVar 2) (dVar 5)) (dC (.int 1))) aNil)))))
theorem na_body {f : List (Int × Int)} {e : Int × Int} {u0 u1 u3 : Option Dt.Slot} (h : (0 ≤ e.1 ∧ e.1 < f.length) ∧ (0 ≤ e.2 ∧ e.2 < f.length)) :
    naBody [u0, u1, some (.own (f.map dP)), u3, some (.v (dI e.1)), some (.v (dI e.2))] = .ret (.nx [u0, u1, some (.own ((nSt f e).map dP)), u3, some (.v (dI e.1)), some (.v (dI e.2))]) := by
  have a1 := op_ix_bs (bs := f) (k := e.1) h.1.1 h.1.2
  have a2 := op_ix_bs (bs := f) (k := e.2) h.2.1 h.2.2
  have l1 : (nSt1 f e).length = f.length := by simp [nSt1]
  have b1 := op_ix_bs (bs := nSt1 f e) (k := e.1) h.1.1 (by omega)
  have b2 := op_ix_bs (bs := nSt1 f e) (k := e.2) h.2.1 (by omega)
  refine es_seq (en' := [u0, u1, some (.own ((nSt1 f e).map dP)), u3, some (.v (dI e.1)), some (.v (dI e.2))]) ?_ ?_
  · refine Eq.trans (es_put (i := 2) (xs := f.map dP) (q := dP (lowAt f e.1, mn (highAt f e.1) (highAt f e.2))) (k := e.1) (j := e.1.toNat) rfl (ev_tup (ea_cons (ev_bin (ev_bin (ev_var rfl) (ev_var rfl) a1) ev_c rfl) (ea_cons (ev_call (ea_cons (ev_bin (ev_bin (ev_var rfl) (ev_var rfl) a1) ev_c rfl) (ea_cons (ev_bin (ev_bin (ev_var rfl) (ev_var rfl) a2) ev_c rfl) ea_nil)) rfl) ea_nil)) rfl) (ev_var rfl) (by rw [List.length_map]; exact ixN_nat h.1.1 h.1.2) rfl) ?_
    unfold nSt1
    rw [List.map_set]
    rfl
  · refine Eq.trans (es_put (i := 2) (xs := (nSt1 f e).map dP) (q := dP (mx (lowAt (nSt1 f e) e.2) (lowAt (nSt1 f e) e.1), highAt (nSt1 f e) e.2)) (k := e.2) (j := e.2.toNat) rfl (ev_tup (ea_cons (ev_call (ea_cons (ev_bin (ev_bin (ev_var rfl) (ev_var rfl) b2) ev_c rfl) (ea_cons (ev_bin (ev_bin (ev_var rfl) (ev_var rfl) b1) ev_c rfl) ea_nil)) rfl) (ea_cons (ev_bin (ev_bin (ev_var rfl) (ev_var rfl) b2) ev_c rfl) ea_nil)) rfl) (ev_var rfl) (by rw [List.length_map]; exact ixN_nat h.2.1 (by omega)) rfl) ?_
    unfold nSt nSt2
    rw [List.map_set]
    rfl
theorem narrowed_eq {bs E : List (Int × Int)} (hb : bs.length ≤ 1000) (h : okE bs.length E) : F_narrowed [.d (dBs bs), .d (dBs E)] = .ret (.d (dBs (nwds E bs.length bs)), true) := by
  have inner : ∀ (f : List (Int × Int)) (u3 u4 u5 : Option Dt.Slot), f.length = bs.length → ∃ en', forL [4, 5] (bdT 2) naBody (E.map dP) [some (.v (.d (dBs bs))), some (.v (.d (dBs E))), some (.own (f.map dP)), u3, u4, u5] = .ret (.nx en') ∧ ∃ u4 u5, en' = [some (.v (.d (dBs bs))), some (.v (.d (dBs E))), some (.own ((E.foldl nSt f).map dP)), u3, u4, u5] := by
    intro f u3 u4 u5 hf
    obtain ⟨en', h1, v4, v5, h2⟩ := es_forP (emb := dP) (sl := [4, 5]) (bd := bdT 2) (xs := E) (s1 := naBody) (R := fun pre en => ∃ u4 u5, en = [some (.v (.d (dBs bs))), some (.v (.d (dBs E))), some (.own ((pre.foldl nSt f).map dP)), u3, u4, u5])
      (en := [some (.v (.d (dBs bs))), some (.v (.d (dBs E))), some (.own (f.map dP)), u3, u4, u5]) ⟨_, _, rfl⟩ (by
        rintro pre e post en hx ⟨u4, u5, rfl⟩
        have he := (h.2 e (by rw [hx]; simp)).1
        have hl : (pre.foldl nSt f).length = bs.length := by rw [nFold_len, hf]
        refine ⟨_, rfl, _, na_body (f := pre.foldl nSt f) (e := e) (by rw [hl]; exact he), some (.v (dI e.1)), some (.v (dI e.2)), ?_⟩
        rw [List.foldl_append]
        rfl)
    exact ⟨en', h1, v4, v5, h2⟩
  obtain ⟨en', h1, u3, u4, u5, rfl⟩ := es_forP (emb := PyData.int) (sl := [3]) (bd := bdN) (xs := irange 0 bs.length) (s1 := sFor [4, 5] (bdT 2) (iSeqD (dVar 1)) naBody) (R := fun pre en => ∃ u3 u4 u5, en = [some (.v (.d (dBs bs))), some (.v (.d (dBs E))), some (.own ((nwds E pre.length bs).map dP)), u3, u4, u5])
      (en := [some (.v (.d (dBs bs))), some (.v (.d (dBs E))), some (.own (bs.map dP)), none, none, none]) ⟨_, _, _, rfl⟩ (by
        rintro pre k post en hx ⟨u3, u4, u5, rfl⟩
        obtain ⟨en', h1, v4, v5, rfl⟩ := inner (nwds E pre.length bs) (some (.v (dI k))) u4 u5 (nwds_len _ _ _)
        refine ⟨_, rfl, _, es_for (ei_list (ev_var rfl)) h1, some (.v (dI k)), v4, v5, ?_⟩
        rw [List.length_append]
        rfl)
  rw [irange_len] at h1
  unfold F_narrowed b_narrowed
  refine run_rt rfl (es_seq (es_setO (ev_call (ea_cons (ev_var rfl) ea_nil) rfl)) (es_seq (es_for (ei_rng1 (n := (bs.length : Int)) (ea_cons (ev_call (ea_cons (ev_var rfl) ea_nil) (b_len_bs _)) ea_nil) (by omega)) h1) (es_retO rfl)))
end Pg

/-! What facts leave: the bounds of all choices with a fact (k08, k19). -/
namespace Pg
open PySem L2 Dt
/-! ### items -/
abbrev gi (c : List Int) (i : Int) : Int := c.getD i.toNat 0
theorem gi_nat {c : List Int} {k : Nat} (h : k < c.length) : gi c k = c[k] := by
  show c.getD k 0 = _
  rw [List.getD_eq_getElem?_getD, List.getElem?_eq_getElem h]; rfl
theorem Ch.gi {bs : List (Int × Int)} {c : List Int} (h : Ch bs c) (i : Int) : lowAt bs i ≤ gi c i ∧ gi c i ≤ highAt bs i := by
  by_cases hk : i.toNat < c.length
  · have h1 := h.at hk
    rw [low_nat, high_nat] at h1
    show (bs.getD i.toNat (0, 0)).1 ≤ c.getD i.toNat 0 ∧ c.getD i.toNat 0 ≤ (bs.getD i.toNat (0, 0)).2
    rw [show c.getD i.toNat 0 = c[i.toNat] by rw [List.getD_eq_getElem?_getD, List.getElem?_eq_getElem hk]; rfl]
    exact h1
  · have hl := h.len
    show (bs.getD i.toNat (0, 0)).1 ≤ c.getD i.toNat 0 ∧ c.getD i.toNat 0 ≤ (bs.getD i.toNat (0, 0)).2
    rw [List.getD_eq_getElem?_getD, List.getD_eq_getElem?_getD, List.getElem?_eq_none (by omega), List.getElem?_eq_none (by omega)]
    simp
theorem Ch.of_at : ∀ {bs : List (Int × Int)} {c : List Int}, c.length = bs.length → (∀ k : Nat, k < bs.length → lowAt bs k ≤ Pg.gi c k ∧ Pg.gi c k ≤ highAt bs k) → Ch bs c
  | [], [], _, _ => .nil
  | p :: bs, v :: c, hl, h => by
    have h0 := h 0 (by simp)
    refine .cons h0.1 h0.2 (Ch.of_at (by simpa using hl) fun k hk => ?_)
    exact h (k + 1) (by simp; omega)
theorem gi_los (bs : List (Int × Int)) (i : Int) : gi (los bs) i = lowAt bs i := by
  show (los bs).getD i.toNat 0 = (bs.getD i.toNat (0, 0)).1
  rw [List.getD_eq_getElem?_getD, List.getD_eq_getElem?_getD, List.getElem?_map]
  cases bs[i.toNat]? <;> rfl
theorem gi_his (bs : List (Int × Int)) (i : Int) : gi (his bs) i = highAt bs i := by
  show (his bs).getD i.toNat 0 = (bs.getD i.toNat (0, 0)).2
  rw [List.getD_eq_getElem?_getD, List.getD_eq_getElem?_getD, List.getElem?_map]
  cases bs[i.toNat]? <;> rfl
theorem up_at {bs : List (Int × Int)} (h : Up bs) (i : Int) : lowAt bs i ≤ highAt bs i := by
  show (bs.getD i.toNat (0, 0)).1 ≤ (bs.getD i.toNat (0, 0)).2
  by_cases hk : i.toNat < bs.length
  · rw [List.getD_eq_getElem?_getD, List.getElem?_eq_getElem hk]; exact h _ (List.getElem_mem hk)
  · rw [List.getD_eq_getElem?_getD, List.getElem?_eq_none (by omega)]; simp
theorem up_of_at {bs : List (Int × Int)} (h : ∀ k : Nat, k < bs.length → lowAt bs k ≤ highAt bs k) : Up bs := by
  intro p hp
  obtain ⟨k, hk, e⟩ := List.getElem_of_mem hp
  have h1 := h k hk
  have h2 := at_mem hk
  rw [h2.2.1, h2.2.2, e] at h1
  exact h1
theorem bs_ext {bs cs : List (Int × Int)} (hl : bs.length = cs.length) (h : ∀ k : Nat, k < bs.length → lowAt bs k = lowAt cs k ∧ highAt bs k = highAt cs k) : bs = cs := by
  refine List.ext_getElem hl fun k h1 h2 => ?_
  have e := h k h1
  have a := at_mem h1
  have b := at_mem h2
  rw [a.2.1, a.2.2, b.2.1, b.2.2] at e
  exact Prod.ext e.1 e.2
theorem at_set {f : List (Int × Int)} {k i : Int} {q : Int × Int} (hk : 0 ≤ k ∧ k < f.length) (hi : 0 ≤ i) : lowAt (f.set k.toNat q) i = (if i = k then q.1 else lowAt f i) ∧ highAt (f.set k.toNat q) i = (if i = k then q.2 else highAt f i) := by
  unfold lowAt highAt
  rw [List.getD_eq_getElem?_getD, List.getD_eq_getElem?_getD, List.getElem?_set]
  by_cases h : i = k
  · subst h
    rw [if_pos rfl, if_pos rfl, if_pos rfl, if_pos (by omega)]
    exact ⟨rfl, rfl⟩
  · rw [if_neg (by omega), if_neg h, if_neg h]
    exact ⟨rfl, rfl⟩
/-! ### pairs -/
abbrev PrOk (E : List (Int × Int)) (c : List Int) : Prop := ∀ e ∈ E, gi c e.1 ≤ gi c e.2
def NP (f : List (Int × Int)) (L H : Int → Int) : Prop := ∀ i, 0 ≤ i → lowAt f i = L i ∧ highAt f i = H i
theorem NP.step {f : List (Int × Int)} {L H : Int → Int} (h : NP f L H) {e : Int × Int} (he : ((0 ≤ e.1 ∧ e.1 < f.length) ∧ (0 ≤ e.2 ∧ e.2 < f.length)) ∧ e.1 ≠ e.2) : NP (nSt f e) (lst L e) (hst H e) := by
  intro i hi
  have h1 := h e.1 he.1.1.1
  have h2 := h e.2 he.1.2.1
  have h3 := h i hi
  have l1 : (nSt1 f e).length = f.length := by simp [nSt1]
  unfold nSt nSt2
  have s2 := at_set (f := nSt1 f e) (k := e.2) (q := (mx (lowAt (nSt1 f e) e.2) (lowAt (nSt1 f e) e.1), highAt (nSt1 f e) e.2)) (i := i) (by omega) hi
  have t1 : ∀ j, 0 ≤ j → lowAt (nSt1 f e) j = (if j = e.1 then lowAt f e.1 else lowAt f j) ∧ highAt (nSt1 f e) j = (if j = e.1 then mn (highAt f e.1) (highAt f e.2) else highAt f j) := fun j hj => at_set he.1.1 hj
  rw [s2.1, s2.2]
  have a := t1 e.1 he.1.1.1
  have b := t1 e.2 he.1.2.1
  have c := t1 i hi
  rw [if_pos rfl, if_pos rfl] at a
  rw [if_neg (fun z => he.2 z.symm), if_neg (fun z => he.2 z.symm)] at b
  rw [a.1, b.1, b.2, c.1, c.2, h1.1, h1.2, h2.1, h2.2, h3.1, h3.2]
  unfold lst hst mx mn
  dsimp only
  have hn : ¬ e.2 = e.1 := fun z => he.2 z.symm
  by_cases z : i = e.2
  · subst z
    simp only [if_pos, if_neg hn]
    exact ⟨trivial, trivial⟩
  · by_cases w : i = e.1
    · subst w
      simp only [if_neg z, if_pos]
      exact ⟨trivial, trivial⟩
    · simp only [if_neg z, if_neg w]
      exact ⟨trivial, trivial⟩
theorem NP.fold : ∀ {E f : List (Int × Int)} {L H : Int → Int}, NP f L H → (∀ e ∈ E, ((0 ≤ e.1 ∧ e.1 < f.length) ∧ (0 ≤ e.2 ∧ e.2 < f.length)) ∧ e.1 ≠ e.2) → NP (E.foldl nSt f) (rnd E L) (rndH E H)
  | [], _, _, _, h, _ => h
  | e :: E, f, L, H, h, hE => by
    refine NP.fold (E := E) (h.step (hE e List.mem_cons_self)) fun g hg => ?_
    rw [nSt_len]
    exact hE g (List.mem_cons_of_mem _ hg)
theorem NP.rounds {E bs : List (Int × Int)} (hE : okE bs.length E) : ∀ n, NP (nwds E n bs) (rnds E n (lowAt bs)) (rndsH E n (highAt bs))
  | 0 => fun i _ => ⟨rfl, rfl⟩
  | n + 1 => NP.fold (NP.rounds hE n) fun e he => by rw [nwds_len]; exact hE.2 e he
section
variable {bs E : List (Int × Int)} {c : List Int}
abbrev nw (bs E : List (Int × Int)) : List (Int × Int) := nwds E bs.length bs
theorem nw_len : (nw bs E).length = bs.length := nwds_len _ _ _
theorem nw_within (hE : okE bs.length E) {i : Int} (hi : 0 ≤ i) : lowAt bs i ≤ lowAt (nw bs E) i ∧ highAt (nw bs E) i ≤ highAt bs i := by
  have h := NP.rounds hE bs.length i hi
  rw [h.1, h.2]
  exact ⟨rnds_ge _ _ _ _, rndsH_le _ _ _ _⟩
theorem nw_of (hE : okE bs.length E) (h : Ch bs c) (hp : PrOk E c) : Ch (nw bs E) c := by
  refine Ch.of_at (by rw [nw_len, h.len]) fun k hk => ?_
  have e := NP.rounds hE bs.length k (by omega)
  rw [e.1, e.2]
  exact ⟨rnds_le (x := gi c) hp (fun i => (h.gi i).1) _ _, rndsH_ge (x := gi c) hp (fun i => (h.gi i).2) _ _⟩
theorem nw_ch (hE : okE bs.length E) (h : Ch (nw bs E) c) : Ch bs c := by
  refine Ch.of_at (by rw [h.len, nw_len]) fun k hk => ?_
  have a := h.gi k
  have b := nw_within hE (i := k) (by omega)
  omega
theorem nw_low (hE : okE bs.length E) : PrOk E (los (nw bs E)) := by
  intro e he
  have hb := (hE.2 e he).1
  have a := NP.rounds hE bs.length e.1 hb.1.1
  have b := NP.rounds hE bs.length e.2 hb.2.1
  rw [gi_los, gi_los, a.1, b.1]
  exact rnds_fix (fun f hf => (hE.2 f hf).1) _ e he
theorem nw_high (hE : okE bs.length E) : PrOk E (his (nw bs E)) := by
  intro e he
  have hb := (hE.2 e he).1
  have a := NP.rounds hE bs.length e.1 hb.1.1
  have b := NP.rounds hE bs.length e.2 hb.2.1
  rw [gi_his, gi_his, a.2, b.2]
  exact rndsH_fix (fun f hf => (hE.2 f hf).1) _ e he
theorem Ch.up (h : Ch bs c) : Up bs := by
  refine up_of_at fun k _ => ?_
  have := h.gi k
  omega
end
/-! ### the bounds of some rows -/
def dueL (rows : List (List Int)) (n : Nat) : List (Int × Int) := (irange 0 n).map fun k => (minL (rows.map fun r => gi r k), maxL (rows.map fun r => gi r k))
theorem irange_get {n k : Nat} (h : k < (irange 0 n).length) : (irange 0 n)[k] = (k : Int) := by
  simp [irange]
theorem dueL_get {rows : List (List Int)} {n k : Nat} (h : k < (dueL rows n).length) : (dueL rows n)[k] = (minL (rows.map fun r => gi r k), maxL (rows.map fun r => gi r k)) := by
  simp [dueL, irange]
theorem due_of {rows : List (List Int)} {nb : List (Int × Int)} (h : ∀ r ∈ rows, Ch nb r) (h1 : ∀ k : Nat, k < nb.length → ∃ r ∈ rows, gi r k = lowAt nb k) (h2 : ∀ k : Nat, k < nb.length → ∃ r ∈ rows, gi r k = highAt nb k) : dueL rows nb.length = nb := by
  have hl : (dueL rows nb.length).length = nb.length := by unfold dueL; rw [List.length_map, irange_len]
  refine bs_ext hl fun k hk => ?_
  have a := at_mem hk
  rw [a.2.1, a.2.2]
  rw [dueL_get]
  rw [hl] at hk
  constructor
  · obtain ⟨r, hr, e⟩ := h1 k hk
    exact minL_uniq (List.mem_map.mpr ⟨r, hr, e⟩) fun y hy => by
      obtain ⟨r, hr, rfl⟩ := List.mem_map.mp hy
      exact ((h r hr).gi k).1
  · obtain ⟨r, hr, e⟩ := h2 k hk
    exact maxL_uniq (List.mem_map.mpr ⟨r, hr, e⟩) fun y hy => by
      obtain ⟨r, hr, rfl⟩ := List.mem_map.mp hy
      exact ((h r hr).gi k).2
theorem due_all {rows : List (List Int)} {nb : List (Int × Int)} (h : ∀ r ∈ rows, Ch nb r) (hl : los nb ∈ rows) (hh : his nb ∈ rows) : dueL rows nb.length = nb := due_of h (fun k _ => ⟨_, hl, gi_los _ _⟩) fun k _ => ⟨_, hh, gi_his _ _⟩
/-! ### every sum between is one -/
theorem sum_between : ∀ {bs : List (Int × Int)} {s : Int}, Up bs → (los bs).sum ≤ s → s ≤ (his bs).sum → ∃ c, Ch bs c ∧ c.sum = s
  | [], s, _, h1, h2 => ⟨[], .nil, by simp at h1 h2 ⊢; omega⟩
  | p :: bs, s, hu, h1, h2 => by
    have hp := hu p List.mem_cons_self
    have hu' : Up bs := fun q hq => hu q (List.mem_cons_of_mem _ hq)
    have hs := sum_up hu'
    simp only [los, his, List.map_cons, List.sum_cons] at h1 h2 hs
    by_cases hc : p.1 + (his bs).sum ≤ s
    · obtain ⟨c, h3, h4⟩ := sum_between (bs := bs) (s := (his bs).sum) hu' (sum_up hu') (Int.le_refl _)
      exact ⟨(s - (his bs).sum) :: c, .cons (by omega) (by simp only [his] at hc ⊢; omega) h3, by rw [List.sum_cons, h4]; omega⟩
    · obtain ⟨c, h3, h4⟩ := sum_between (bs := bs) (s := s - p.1) hu' (by simp only [los]; omega) (by omega)
      exact ⟨p.1 :: c, .cons (Int.le_refl _) hp h3, by rw [List.sum_cons, h4]; omega⟩
theorem sum_set : ∀ {xs : List Int} {k : Nat} {v : Int}, k < xs.length → (xs.set k v).sum = xs.sum - xs.getD k 0 + v
  | x :: xs, 0, v, _ => by simp; omega
  | x :: xs, k + 1, v, h => by
    have := sum_set (xs := xs) (k := k) (v := v) (by simpa using h)
    simp only [List.set_cons_succ, List.sum_cons, this]
    rw [List.getD_cons_succ]
    omega
section
variable {bs : List (Int × Int)} {l g : Int}
theorem ws_at {k : Nat} (hk : k < bs.length) : lowAt (ws bs l g) k = mx (lowAt bs k) (l - ((his bs).sum - highAt bs k)) ∧ highAt (ws bs l g) k = mn (highAt bs k) (g - ((los bs).sum - lowAt bs k)) := by
  have a := at_mem hk
  have b := at_mem (bs := ws bs l g) (k := k) (by unfold ws; rw [List.length_map]; exact hk)
  rw [b.2.1, b.2.2, a.2.1, a.2.2]
  unfold ws
  rw [List.getElem_map]
  exact ⟨rfl, rfl⟩
theorem ws_len : (ws bs l g).length = bs.length := by unfold ws; rw [List.length_map]
theorem sum_le_at : ∀ {x y : List Int}, Pw x y → ∀ k, x.sum - x.getD k 0 ≤ y.sum - y.getD k 0
  | [], [], _, k => by simp
  | a :: x, b :: y, h, k => by
    cases h with
    | cons h1 h2 =>
      cases k with
      | zero => have := h2.sum; simp; omega
      | succ k => have := sum_le_at h2 k; rw [List.getD_cons_succ, List.getD_cons_succ, List.sum_cons, List.sum_cons]; omega
/-- a choice with a told sum lies within the narrowed bounds -/
theorem ws_of {c : List Int} (h : Ch bs c) (h1 : l ≤ c.sum) (h2 : c.sum ≤ g) : Ch (ws bs l g) c := by
  refine Ch.of_at (by rw [h.len, ws_len]) fun k hk => ?_
  rw [ws_len] at hk
  have e := ws_at (l := l) (g := g) hk
  have a := h.gi k
  have b1 := sum_le_at h.lo k
  have b2 := sum_le_at h.hi k
  have c1 := gi_los bs k
  have c2 := gi_his bs k
  change (los bs).getD k 0 = _ at c1
  change (his bs).getD k 0 = _ at c2
  rw [e.1, e.2]
  rw [c1] at b1
  rw [c2] at b2
  have d : gi c k = c.getD k 0 := rfl
  have m1 := mx_le (lowAt bs k) (l - ((his bs).sum - highAt bs k))
  have m2 := mn_le (highAt bs k) (g - ((los bs).sum - lowAt bs k))
  omega
theorem los_set (k : Nat) (q : Int × Int) : los (bs.set k q) = (los bs).set k q.1 := by simp [los, List.map_set]
theorem his_set (k : Nat) (q : Int × Int) : his (bs.set k q) = (his bs).set k q.2 := by simp [his, List.map_set]
theorem ws_hit (hu : Up bs) (hl : l ≤ g) {k : Nat} (hk : k < bs.length) {v : Int} (hv : lowAt (ws bs l g) k ≤ v ∧ v ≤ highAt (ws bs l g) k) : ∃ c, Ch bs c ∧ (l ≤ c.sum ∧ c.sum ≤ g) ∧ gi c k = v := by
  rw [(ws_at hk).1, (ws_at hk).2] at hv
  have m1 := mx_le (lowAt bs k) (l - ((his bs).sum - highAt bs k))
  have m2 := mn_le (highAt bs k) (g - ((los bs).sum - lowAt bs k))
  have c1 := gi_los bs k
  have c2 := gi_his bs k
  change (los bs).getD k 0 = _ at c1
  change (his bs).getD k 0 = _ at c2
  have hu' : Up (bs.set k (v, v)) := by
    intro p hp
    rcases List.mem_or_eq_of_mem_set hp with h | h
    · exact hu p h
    · subst h; exact Int.le_refl _
  have s1 : (los (bs.set k (v, v))).sum = (los bs).sum - lowAt bs k + v := by rw [los_set, sum_set (by rw [List.length_map]; exact hk), c1]
  have s2 : (his (bs.set k (v, v))).sum = (his bs).sum - highAt bs k + v := by rw [his_set, sum_set (by rw [List.length_map]; exact hk), c2]
  have s3 := sum_up hu'
  obtain ⟨s, hs⟩ : ∃ s, (los (bs.set k (v, v))).sum ≤ s ∧ s ≤ (his (bs.set k (v, v))).sum ∧ l ≤ s ∧ s ≤ g := by
    by_cases z : l ≤ (los (bs.set k (v, v))).sum
    · exact ⟨_, Int.le_refl _, s3, z, by omega⟩
    · exact ⟨l, by omega, by omega, Int.le_refl _, hl⟩
  obtain ⟨c, h1, h2⟩ := sum_between hu' hs.1 hs.2.1
  have at1 : ∀ i : Nat, lowAt (bs.set k (v, v)) i = (if (i : Int) = k then v else lowAt bs i) ∧ highAt (bs.set k (v, v)) i = (if (i : Int) = k then v else highAt bs i) := fun i => at_set (f := bs) (k := k) (i := i) (q := (v, v)) (by omega) (by omega)
  refine ⟨c, Ch.of_at (by rw [h1.len, List.length_set]) fun i hi => ?_, by omega, ?_⟩
  · have a := h1.gi i
    rw [(at1 i).1, (at1 i).2] at a
    by_cases z : (i : Int) = k
    · rw [if_pos z, if_pos z] at a
      rw [z] at a ⊢
      omega
    · rw [if_neg z, if_neg z] at a
      exact a
  · have a := h1.gi k
    rw [(at1 k).1, (at1 k).2, if_pos rfl, if_pos rfl] at a
    omega
end
/-! ### the common part -/
theorem mt_len : ∀ {bs cs : List (Int × Int)}, bs.length = cs.length → (mt bs cs).length = bs.length
  | [], [], _ => rfl
  | p :: bs, q :: cs, h => by simp [mt, mt_len (bs := bs) (cs := cs) (by simpa using h)]
theorem mt_ch : ∀ {bs cs : List (Int × Int)} {c : List Int}, bs.length = cs.length → (Ch (mt bs cs) c ↔ Ch bs c ∧ Ch cs c)
  | [], [], c, _ => by
    constructor
    · intro h; cases h; exact ⟨.nil, .nil⟩
    · intro h; exact h.1
  | p :: bs, q :: cs, c, h => by
    have ih := fun c => mt_ch (bs := bs) (cs := cs) (c := c) (by simpa using h)
    have m1 := mx_le p.1 q.1
    have m2 := mn_le p.2 q.2
    constructor
    · intro h
      cases h with
      | cons a b d =>
        dsimp only at a b
        have := (ih _).mp d
        exact ⟨.cons (by omega) (by omega) this.1, .cons (by omega) (by omega) this.2⟩
    · rintro ⟨h1, h2⟩
      cases h1 with
      | cons a b d =>
        cases h2 with
        | cons a' b' d' => exact .cons (by dsimp only; omega) (by dsimp only; omega) ((ih _).mpr ⟨d, d'⟩)
/-! ### how many -/
def prodW (bs : List (Int × Int)) : Int := bs.foldl (fun n p => n * (p.2 - p.1 + 1)) 1
theorem fold_count : ∀ {bs : List (Int × Int)} {rows : List (List Int)}, Up bs → ((bs.foldl more rows).length : Int) = bs.foldl (fun n p => n * (p.2 - p.1 + 1)) (rows.length : Int)
  | [], _, _ => rfl
  | p :: bs, rows, h => by
    rw [List.foldl_cons, List.foldl_cons, fold_count (fun q hq => h q (List.mem_cons_of_mem _ hq)), more_len]
    have := h p List.mem_cons_self
    congr 1
    rw [Int.natCast_mul]
    congr 1
    omega
theorem chs_count {bs : List (Int × Int)} (h : Up bs) : ((chs bs).length : Int) = prodW bs := fold_count h
theorem vals_nodup (p : Int × Int) : (vals p).Nodup := by
  unfold vals List.Nodup
  rw [List.pairwise_map]
  exact List.nodup_range.imp fun h z => h (by omega)
theorem more_nodup {rows : List (List Int)} {p : Int × Int} (h : rows.Nodup) (n : Nat) (hl : ∀ r ∈ rows, r.length = n) : (more rows p).Nodup ∧ ∀ r ∈ more rows p, r.length = n + 1 := by
  rw [more_eq]
  constructor
  · clear hl
    induction rows with
    | nil => exact List.Pairwise.nil
    | cons r rows ih =>
      rw [List.flatMap_cons]
      have h' := List.nodup_cons.mp h
      refine List.nodup_append.mpr ⟨?_, ih h'.2, ?_⟩
      · unfold List.Nodup
        rw [List.pairwise_map]
        exact (vals_nodup p).imp fun h z => h (by simpa using z)
      · intro a ha b hb z
        subst z
        obtain ⟨v, _, rfl⟩ := List.mem_map.mp ha
        obtain ⟨s, hs, hb⟩ := List.mem_flatMap.mp hb
        obtain ⟨w, _, e⟩ := List.mem_map.mp hb
        have := (List.append_inj' e (by simp)).1
        subst this
        exact h'.1 hs
  · intro r hr
    obtain ⟨s, hs, hb⟩ := List.mem_flatMap.mp hr
    obtain ⟨w, _, rfl⟩ := List.mem_map.mp hb
    simp [hl s hs]
theorem fold_nodup : ∀ {bs : List (Int × Int)} {rows : List (List Int)} (n : Nat), rows.Nodup → (∀ r ∈ rows, r.length = n) → (bs.foldl more rows).Nodup
  | [], _, _, h, _ => h
  | p :: bs, rows, n, h, hl => fold_nodup (bs := bs) (n + 1) (more_nodup h n hl).1 (more_nodup h n hl).2
theorem chs_nodup (bs : List (Int × Int)) : (chs bs).Nodup := fold_nodup 0 (by simp) (by simp)
theorem same_len {α : Type} [DecidableEq α] {xs ys : List α} (h1 : xs.Nodup) (h2 : ys.Nodup) (h : ∀ x, x ∈ xs ↔ x ∈ ys) : xs.length = ys.length := by
  refine List.Perm.length_eq (List.perm_iff_count.mpr fun a => ?_)
  rw [h1.count, h2.count]
  simp [h a]
end Pg

/-! Facts: what the defs answer, also when they raise (k08, k19). -/
namespace Pg
open PySem L2 Dt
/-! ### raising -/
section
variable {en en' : En} {s1 s2 : En → M Out} {ga : En → M Bool} {fa : En → M RV} {fs : En → M (List AV)} {F : List AV → M RV} {as : List AV} {er : Err} {m : M Out}
theorem es_seqX (h1 : s1 en = .raise er) : sSeq s1 s2 en = .raise er := by unfold sSeq; rw [h1]; rfl
theorem es_seqY (h1 : s1 en = .ret (.nx en')) (h2 : s2 en' = m) : sSeq s1 s2 en = m := by unfold sSeq; rw [h1, ret_bind]; exact h2
theorem es_ifTY (hg : ga (expo en) = .ret true) (h : s1 en = m) : sIf ga s1 s2 en = m := by unfold sIf; rw [hg, ret_bind, if_pos rfl]; exact h
theorem es_ifFY (hg : ga (expo en) = .ret false) (h : s2 en = m) : sIf ga s1 s2 en = m := by unfold sIf; rw [hg, ret_bind, if_neg Bool.false_ne_true]; exact h
theorem es_retX (h : fa (expo en) = .raise er) : sRet fa en = .raise er := by unfold sRet; rw [h]; rfl
theorem ev_callX (hs : fs en = .ret as) (h : F as = .raise er) : dCall F fs en = .raise er := by unfold dCall; rw [hs, ret_bind]; exact h
theorem es_raise : sRaise er en = .raise er := rfl
theorem run_X {n k : Nat} {bb : En → M Out} (hl : as.length = n) (h : bb (enOf k as) = .raise er) : runF n k bb as = .raise er := by unfold runF; rw [if_pos hl, h]; rfl
end
local macro_rules | `(tactic| walk_at "op") => `(tactic| first | (with_reducible exact op_add_i _ _) | (with_reducible exact op_sub_i _ _) | (with_reducible exact op_lt_i _ _) | (with_reducible exact op_le_i _ _) | (with_reducible exact op_gt_i _ _) | (with_reducible exact op_ge_i _ _) | (with_reducible exact op_eq_i _ _) | (with_reducible exact op_ne_i _ _) | (with_reducible exact op_ix_p0 _) | (with_reducible exact op_ix_p1 _) | (with_reducible exact op_ix_0 _ _) | (with_reducible exact op_ix_1 _ _ _) | (with_reducible exact op_isN_d) | (with_reducible exact op_notN_d) | (with_reducible exact op_isB_d _ _) | (with_reducible exact op_notB_d _ _) | (with_reducible exact b_len_p _) | (with_reducible exact b_len_l _) | (with_reducible exact b_len_t _) | (with_reducible exact b_sum _) | (with_reducible exact b_sorted _) | (with_reducible exact b_abs _) | (with_reducible exact b_max2 _ _) | (with_reducible exact b_min2 _ _) | ((with_reducible apply op_mod_i); with_reducible assumption) | ((with_reducible apply op_div_i); with_reducible assumption) | ((with_reducible apply op_mul_i); with_reducible assumption))
local macro_rules | `(tactic| walk_at "F") => `(tactic| walk_at "op")
local macro_rules | `(tactic| walk_at "A") => `(tactic| first | (with_reducible exact ea_nil) | ((with_reducible apply ea_cons); walk_at "E"; walk_at "A"))
local macro_rules | `(tactic| walk_at "T") => `(tactic| first | ((with_reducible apply et_val); walk_at "E") | ((with_reducible apply et_not); walk_at "T") | ((with_reducible apply et_or); walk_at "T"; (intro _; walk_at "T")) | ((with_reducible apply et_and); walk_at "T"; (intro _; walk_at "T")))
local macro_rules | `(tactic| walk_at "O") => `(tactic| first | (with_reducible exact eo_none) | ((with_reducible apply eo_some); walk_at "E"))
local macro_rules | `(tactic| walk_at "E") => `(tactic| first
  | (with_reducible exact ev_c)
  | ((with_reducible apply ev_var); rfl)
  | ((with_reducible apply ev_bin); walk_at "E"; walk_at "E"; walk_at "op")
  | ((with_reducible apply ev_call); walk_at "A"; walk_at "F")
  | ((with_reducible apply ev_tup); walk_at "A"; rfl)
  | ((with_reducible apply ev_lst); walk_at "A"; rfl)
  | ((with_reducible apply ev_neg); walk_at "E")
  | ((with_reducible apply ev_isi); walk_at "E")
  | ((with_reducible apply ev_not); walk_at "E")
  | ((with_reducible apply ev_and'); walk_at "E"; (intro _; walk_at "E"))
  | ((with_reducible apply ev_or'); walk_at "E"; (intro _; walk_at "E"))
  | ((with_reducible apply ev_chain); walk_at "E"; walk_at "E"; walk_at "E"; walk_at "op"; walk_at "op")
  | ((with_reducible apply ev_sl); walk_at "E"; walk_at "O"; walk_at "O")
  | ((with_reducible apply ev_rev); walk_at "E")
  | ((with_reducible apply ev_ifT); ((with_reducible apply ev_is); walk_at "T"; rfl); walk_at "E")
  | ((with_reducible apply ev_ifF); ((with_reducible apply ev_is); walk_at "T"; rfl); walk_at "E"))
local macro_rules | `(tactic| walk_at "I") => `(tactic| first | ((with_reducible apply ei_list); walk_at "E"; done) | ((with_reducible apply ei_tup); walk_at "E") | ((with_reducible apply ei_enum); walk_at "A") | ((with_reducible apply ei_zip); walk_at "A"))
local macro_rules | `(tactic| walk_at "S") => `(tactic| first
  | (with_reducible exact es_nil)
  | ((with_reducible apply es_retV); rfl)
  | ((with_reducible apply es_retO); rfl)
  | ((with_reducible apply es_ret); walk_at "E")
  | ((with_reducible apply es_seq); walk_at "S"; walk_at "S")
  | ((with_reducible apply es_expr); walk_at "E")
  | ((with_reducible apply es_set); walk_at "E")
  | ((with_reducible apply es_setO); walk_at "E")
  | ((with_reducible apply es_par); walk_at "A")
  | ((with_reducible apply es_asgT); walk_at "E"; rfl)
  | ((with_reducible apply es_ifF); ((with_reducible apply ev_is); walk_at "T"; (first | rfl | with_reducible assumption)); walk_at "S")
  | ((with_reducible apply es_ifT); ((with_reducible apply ev_is); walk_at "T"; (first | rfl | with_reducible assumption)); walk_at "S"))
local macro_rules | `(tactic| walk_at "F") => `(tactic| with_reducible exact is_int_eq _ _ _)
local macro_rules | `(tactic| walk_at "F") => `(tactic| with_reducible exact is_bound_eq _)
local macro_rules | `(tactic| walk_at "F") => `(tactic| ((with_reducible apply is_bounds_eq); exact okB_len (by with_reducible assumption)))
local macro_rules | `(tactic| walk_at "F") => `(tactic| ((with_reducible apply check_ok); with_reducible assumption))
local macro_rules | `(tactic| walk_at "F") => `(tactic| ((with_reducible apply lows_eq); exact okB_len (by with_reducible assumption)))
local macro_rules | `(tactic| walk_at "F") => `(tactic| ((with_reducible apply highs_eq); exact okB_len (by with_reducible assumption)))
local macro_rules | `(tactic| walk_at "F") => `(tactic| ((with_reducible apply sum_range_eq); with_reducible assumption))
local macro_rules | `(tactic| walk_at "F") => `(tactic| ((with_reducible apply mean_range_eq); with_reducible assumption))
local macro_rules | `(tactic| walk_at "F") => `(tactic| ((with_reducible apply median_range_eq); with_reducible assumption))
local macro_rules | `(tactic| walk_at "F") => `(tactic| ((with_reducible apply least_range_eq); with_reducible assumption))
local macro_rules | `(tactic| walk_at "F") => `(tactic| ((with_reducible apply greatest_range_eq); with_reducible assumption))
local macro_rules | `(tactic| walk_at "F") => `(tactic| ((with_reducible apply choices_eq) <;> with_reducible assumption))
local macro_rules | `(tactic| walk_at "F") => `(tactic| ((with_reducible apply b_min); with_reducible assumption))
local macro_rules | `(tactic| walk_at "F") => `(tactic| ((with_reducible apply b_max); with_reducible assumption))
local macro_rules | `(tactic| walk_at "L") => `(tactic| first | with_reducible assumption | exact okB_len (by with_reducible assumption) | (simp only [List.length_map, irange_len, List.length_range]; omega))
local macro_rules | `(tactic| walk_at "I") => `(tactic| (first | ((with_reducible apply ei_rng1); walk_at "A"; omega) | ((with_reducible apply ei_rng2); walk_at "A"; omega)))
local macro_rules | `(tactic| walk_at "E") => `(tactic| first
  | ((with_reducible apply ev_compB); walk_at "I"; walk_at "L"; (intro _ _; walk_at "E"))
  | ((with_reducible apply ev_compBF); walk_at "I"; walk_at "L"; (intro _ _; walk_at "T"); (intro _ _ _; walk_at "E"))
  | ((with_reducible apply ev_compN); walk_at "I"; walk_at "L"; (intro _ _; walk_at "E"))
  | ((with_reducible apply ev_compNF); walk_at "I"; walk_at "L"; (intro _ _; walk_at "T"); (intro _ _ _; walk_at "E")))
local macro_rules | `(tactic| walk_at "F") => `(tactic| first | (with_reducible exact b_sum' _ _) | (with_reducible exact b_all' _ _) | (with_reducible exact b_any' _ _) | (with_reducible exact b_sorted' _ _))
local macro_rules | `(tactic| walk_at "op") => `(tactic| first | (with_reducible exact b_len_bs _) | (with_reducible exact b_len_ns _) | ((with_reducible apply op_ix_bs) <;> omega) | ((with_reducible apply op_ix_ns) <;> omega))
abbrev anyDown (bs : List (Int × Int)) : Bool := bs.any fun p => decide (p.2 < p.1)
theorem anyDown_up {bs : List (Int × Int)} (h : Up bs) : anyDown bs = false := by
  rw [List.any_eq_false]; intro p hp; have := h p hp; simp; omega
theorem anyDown_iff {bs : List (Int × Int)} : anyDown bs = false ↔ Up bs := by
  refine ⟨fun h p hp => ?_, anyDown_up⟩
  have := (List.any_eq_false.mp h) p hp
  simp at this
  exact this
theorem checked_no {bs : List (Int × Int)} (hl : bs.length ≤ lim) (h : ¬ Up bs) : F_checked_facts [.d (dBs bs)] = .raise .missing := by
  have hd : anyDown bs = true := by
    rw [← Bool.not_eq_false]; intro z; exact h (anyDown_iff.mp z)
  unfold F_checked_facts b_checked_facts
  refine run_X rfl (es_seqX (es_ifTY (et_val (ev_is' (r := (.d .none, false)) (ev_call (ea_cons (ev_compB (b := false) (f := fun p => .bool (decide (p.2 < p.1))) (by walk_at "I") hl fun p hp => by walk_at "E") ea_nil) (b_any' _ _)) ?_)) es_raise))
  exact congrArg (fun b => AV.d (.bool b)) hd
section
variable {bs E : List (Int × Int)}
theorem with_pairs_yes (ok : okB bs = true) (hE : okE bs.length E) (h : Up (nw bs E)) : F_with_pairs [.d (dBs bs), .d (dBs E)] = .ret (.d (dBs (nw bs E)), false) := by
  have hl := okB_len ok
  have hp := okB_pos ok
  unfold F_with_pairs b_with_pairs
  refine run_rt rfl (es_seq (chk0 ok rfl) (es_seq (es_expr (ev_call (ea_cons (ev_var rfl) (ea_cons (ev_var rfl) ea_nil)) (check_pairs_eq hE))) (es_ret (ev_call (ea_cons (ev_call (ea_cons (ev_var rfl) (ea_cons (ev_var rfl) ea_nil)) (narrowed_eq (by omega) hE)) ea_nil) (checked_eq (by rw [nwds_len]; exact hl) h)))))
theorem with_pairs_no (ok : okB bs = true) (hE : okE bs.length E) (h : ¬ Up (nw bs E)) : F_with_pairs [.d (dBs bs), .d (dBs E)] = .raise .missing := by
  have hl := okB_len ok
  have hp := okB_pos ok
  unfold F_with_pairs b_with_pairs
  refine run_X rfl (es_seqY (chk0 ok rfl) (es_seqY (es_expr (ev_call (ea_cons (ev_var rfl) (ea_cons (ev_var rfl) ea_nil)) (check_pairs_eq hE))) (es_retX (ev_callX (ea_cons (ev_call (ea_cons (ev_var rfl) (ea_cons (ev_var rfl) ea_nil)) (narrowed_eq (by omega) hE)) ea_nil) (checked_no (by rw [nwds_len]; exact hl) h)))))
def upB (bs : List (Int × Int)) : Bool := bs.all fun p => decide (p.1 ≤ p.2)
theorem upB_iff {bs : List (Int × Int)} : upB bs = true ↔ Up bs := by simp [upB, Up]
theorem can_be_pairs_eq (ok : okB bs = true) (hE : okE bs.length E) : F_can_be_pairs [.d (dBs bs), .d (dBs E)] = rB (upB (nw bs E)) := by
  have hl := okB_len ok
  have hp := okB_pos ok
  unfold F_can_be_pairs b_can_be_pairs
  refine run_rt rfl (es_seq (chk0 ok rfl) (es_seq (es_expr (ev_call (ea_cons (ev_var rfl) (ea_cons (ev_var rfl) ea_nil)) (check_pairs_eq hE))) (es_ret (ev_call (ea_cons (ev_compB (b := false) (f := fun p => .bool (decide (p.1 ≤ p.2))) (ei_list (ev_call (ea_cons (ev_var rfl) (ea_cons (ev_var rfl) ea_nil)) (narrowed_eq (by omega) hE))) (by rw [nwds_len]; exact hl) fun p hp => by walk_at "E") ea_nil) (b_all' _ _)))))
/-! ### a value -/
def wv (bs : List (Int × Int)) (k l h : Int) : List (Int × Int) := bs.set k.toNat (mx l (lowAt bs k), mn h (highAt bs k))
theorem with_value_eq (ok : okB bs = true) {k l h : Int} (hk : 0 ≤ k ∧ k < bs.length) (h1 : -50 ≤ l) (h2 : l ≤ h) (h3 : h ≤ 50) (hu : Up (wv bs k l h)) : F_with_value [.d (dBs bs), dI k, dI l, dI h] = .ret (.d (dBs (wv bs k l h)), false) := by
  have hl := okB_len ok
  have ek := op_ix_bs (bs := bs) (k := k) hk.1 hk.2
  have put : sPut 4 (dVar 1) (dTup (aCons (dCall bMax2 (aCons (dVar 2) (aCons (dBin oIx (dBin oIx (dVar 0) (dVar 1)) (dC (.int 0))) aNil))) (aCons (dCall bMin2 (aCons (dVar 3) (aCons (dBin oIx (dBin oIx (dVar 0) (dVar 1)) (dC (.int 1))) aNil))) aNil))) [some (.v (.d (dBs bs))), some (.v (dI k)), some (.v (dI l)), some (.v (dI h)), some (.own (bs.map dP))] = .ret (.nx [some (.v (.d (dBs bs))), some (.v (dI k)), some (.v (dI l)), some (.v (dI h)), some (.own ((wv bs k l h).map dP))]) := by
    refine Eq.trans (es_put (i := 4) (xs := bs.map dP) (q := dP (mx l (lowAt bs k), mn h (highAt bs k))) (k := k) (j := k.toNat) rfl (ev_tup (ea_cons (ev_call (ea_cons (ev_var rfl) (ea_cons (ev_bin (ev_bin (ev_var rfl) (ev_var rfl) ek) ev_c rfl) ea_nil)) rfl) (ea_cons (ev_call (ea_cons (ev_var rfl) (ea_cons (ev_bin (ev_bin (ev_var rfl) (ev_var rfl) ek) ev_c rfl) ea_nil)) rfl) ea_nil)) rfl) (ev_var rfl) (by rw [List.length_map]; exact ixN_nat hk.1 hk.2) rfl) ?_
    unfold wv
    rw [List.map_set]
    rfl
  unfold F_with_value b_with_value
  refine run_rt rfl (es_seq (chk0 ok rfl) (es_seq (es_expr (ev_call (ea_cons (ev_var rfl) (ea_cons (ev_var rfl) ea_nil)) (check_place_eq hk))) (es_seq (es_ifF (ev_is (et_or (k := false) (et_not (k := true) (et_val (ev_is' (r := (.d .none, false)) (ev_call (ea_cons (ev_var rfl) (ea_cons (ev_neg ev_c) (ea_cons ev_c ea_nil))) (is_int_eq _ _ _)) ?_))) fun _ => et_not (k := true) (et_val (ev_is' (r := (.d .none, false)) (ev_call (ea_cons (ev_var rfl) (ea_cons (ev_var rfl) (ea_cons ev_c ea_nil))) (is_int_eq _ _ _)) ?_))) rfl) es_nil) (es_seq (es_setO (ev_call (ea_cons (ev_var rfl) ea_nil) rfl)) (es_seq put (es_ret (ev_call (ea_cons (ev_var rfl) ea_nil) (checked_eq (by unfold wv; rw [List.length_set]; exact hl) hu))))))))
  · rw [show (decide (-50 ≤ l) && decide (l ≤ 50)) = true by simp; omega]
  · rw [show (decide (l ≤ h) && decide (h ≤ 50)) = true by simp; omega]
/-! ### how many -/
theorem prodW_app (pre : List (Int × Int)) (p : Int × Int) : prodW (pre ++ [p]) = prodW pre * (p.2 - p.1 + 1) := by unfold prodW; rw [List.foldl_append]; rfl
theorem prodW_lt : ∀ {pre : List (Int × Int)}, pre.length ≤ 7 → (∀ p ∈ pre, p.1 ≤ p.2 ∧ p.2 - p.1 ≤ 100) → ∀ n : Int, 0 ≤ n → 0 ≤ pre.foldl (fun n p => n * (p.2 - p.1 + 1)) n ∧ pre.foldl (fun n p => n * (p.2 - p.1 + 1)) n ≤ n * 101 ^ pre.length
  | [], _, _, n, hn => by simp; exact hn
  | p :: pre, hl, h, n, hn => by
    have hp := h p List.mem_cons_self
    have h1 : 0 ≤ n * (p.2 - p.1 + 1) := Int.mul_nonneg hn (by omega)
    have ih := prodW_lt (pre := pre) (by simp at hl; omega) (fun q hq => h q (List.mem_cons_of_mem _ hq)) _ h1
    rw [List.foldl_cons, List.length_cons]
    refine ⟨ih.1, Int.le_trans ih.2 ?_⟩
    rw [Int.pow_succ, Int.mul_comm (101 ^ pre.length) 101, ← Int.mul_assoc]
    exact Int.mul_le_mul_of_nonneg_right (Int.mul_le_mul_of_nonneg_left (by omega) hn) (Int.pow_nonneg (by decide))
theorem es_augMul {i : Nat} {m n : Int} {w : Bool} {en : En} {fa : En → M RV} (h1 : en[i]? = some (some (.v (.d (.int m))))) (h : fa (expo en) = .ret (.d (.int n), w)) (hb : m.natAbs < big ∧ n.natAbs < big) : sAugMul i fa en = .ret (.nx (en.set i (some (.v (.d (.int (m * n))))))) := by
  unfold sAugMul; rw [h1]; dsimp only; rw [h, ret_bind]; dsimp only; rw [if_pos hb]
theorem big_ge {m : Int} (h : m.natAbs ≤ 200000000000000) : m.natAbs < big := Nat.lt_of_le_of_lt h (by unfold big; decide +kernel)
theorem count_choices_eq (ok : okB bs = true) : F_count_choices [.d (dBs bs)] = .ret (dI (prodW bs), false) := by
  have hp := okB_iff.mp ok
  obtain ⟨en', h1, u2, u3, rfl⟩ := es_forP (emb := dP) (sl := [2, 3]) (bd := bdT 2) (xs := bs) (s1 := sAugMul 1 (dBin oAdd (dBin oSub (dVar 3) (dVar 2)) (dC (.int 1)))) (R := fun pre en => ∃ u2 u3, en = [some (.v (.d (dBs bs))), some (.v (dI (prodW pre))), u2, u3])
    (en := [some (.v (.d (dBs bs))), some (.v (dI 1)), none, none]) ⟨_, _, rfl⟩ (by
      rintro pre p post en hx ⟨u2, u3, rfl⟩
      have hpp := hp.2 p (by rw [hx]; simp)
      have hlen : pre.length ≤ 7 := by have := hp.1.2; rw [hx] at this; simp at this; omega
      have hb := prodW_lt (pre := pre) hlen (fun q hq => by have := hp.2 q (by rw [hx]; simp [hq]); omega) 1 (by decide)
      have hpw : (101 : Int) ^ pre.length ≤ 101 ^ 7 := by
        have := Nat.pow_le_pow_right (n := 101) (by decide) hlen
        have e1 : ((101 ^ pre.length : Nat) : Int) = 101 ^ pre.length := by simp
        have e2 : ((101 ^ 7 : Nat) : Int) = 101 ^ 7 := by simp
        rw [← e1, ← e2]
        exact Int.ofNat_le.mpr this
      change 0 ≤ prodW pre ∧ prodW pre ≤ 1 * 101 ^ pre.length at hb
      have h7 : (101 : Int) ^ 7 = 107213535210701 := by decide +kernel
      refine ⟨_, rfl, _, es_augMul (m := prodW pre) (n := p.2 - p.1 + 1) rfl (by walk_at "E") ⟨big_ge (by omega), big_ge (by omega)⟩, some (.v (dI p.1)), some (.v (dI p.2)), ?_⟩
      rw [prodW_app]
      rfl)
  unfold F_count_choices b_count_choices
  exact run_rt rfl (es_seq (chk0 ok rfl) (es_seq (es_set ev_c) (es_seq (es_for (ei_list (ev_var rfl)) h1) (es_retV rfl))))
/-! ### the sum cannot be -/
theorem with_sum_no (ok : okB bs = true) {l g : Int} (h1 : -400 ≤ l) (h2 : l ≤ g) (h3 : g ≤ 400) (h4 : g < (los bs).sum ∨ (his bs).sum < l) : F_with_sum [.d (dBs bs), dI l, dI g] = .raise .missing := by
  have hl := okB_len ok
  unfold F_with_sum b_with_sum
  apply run_X rfl
  with_reducible apply es_seqY
  · walk_at "S"
  with_reducible apply es_seqY
  · with_reducible apply es_ifF
    · with_reducible apply ev_is
      · walk_at "T"
      · simp; omega
    · walk_at "S"
  with_reducible apply es_seqY
  · with_reducible apply es_asgT
    · with_reducible apply ev_tup
      · with_reducible apply ea_cons
        · with_reducible apply ev_call
          · with_reducible apply ea_cons
            · exact list_of (ys := (los bs).map PyData.int) (ev_compB (f := fun p => .int p.1) (b := false) (by walk_at "I") hl fun p hp => by walk_at "E") (by rw [List.map_map]; rfl)
            · walk_at "A"
          · exact b_sum _
        · with_reducible apply ea_cons
          · with_reducible apply ev_call
            · with_reducible apply ea_cons
              · exact list_of (ys := (his bs).map PyData.int) (ev_compB (f := fun p => .int p.2) (b := false) (by walk_at "I") hl fun p hp => by walk_at "E") (by rw [List.map_map]; rfl)
              · walk_at "A"
            · exact b_sum _
          · walk_at "A"
      · rfl
    · rfl
  with_reducible apply es_seqX
  with_reducible apply es_ifTY
  · with_reducible apply ev_is
    · walk_at "T"
    · simp; omega
  · exact es_raise
theorem met_no {cs : List (Int × Int)} (ok : okB bs = true) (ok' : okB cs = true) (hl : bs.length = cs.length) (h : ¬ Up (mt bs cs)) : F_met [.d (dBs bs), .d (dBs cs)] = .raise .missing := by
  have hz : (bs.zip cs).length ≤ lim := by rw [List.length_zip]; have := okB_len ok; omega
  have comp : dComp [2, 3] [2, 3] (bdT 2) (iZipD (aCons (dVar 0) (aCons (dVar 1) aNil))) yes (dTup (aCons (dCall bMax2 (aCons (dBin oIx (dVar 2) (dC (.int 0))) (aCons (dBin oIx (dVar 3) (dC (.int 0))) aNil))) (aCons (dCall bMin2 (aCons (dBin oIx (dVar 2) (dC (.int 1))) (aCons (dBin oIx (dVar 3) (dC (.int 1))) aNil))) aNil))) (expo [some (.v (.d (dBs bs))), some (.v (.d (dBs cs))), none, none]) = .ret (.d (dBs (mt bs cs)), true) := by
    refine list_of (ys := (mt bs cs).map dP) (ev_compT (xs := bs.zip cs) (emb := fun x => .tuple [dP x.1, dP x.2]) (d1 := fun x => dP x.1) (d2 := fun x => dP x.2) (f := fun x => dP (mx x.1.1 x.2.1, mn x.1.2 x.2.2)) (b := false) (by rw [← zip_dP]; walk_at "I") (fun _ => rfl) hz fun x hx => ?_) (by rw [mt_zip, List.map_map]; rfl)
    refine Eq.trans (by walk_at "E") ?_
    rfl
  unfold F_met b_met
  refine run_X rfl (es_seqY (chk0 ok rfl) (es_seqY (es_expr (ev_call (ea_cons (ev_var rfl) ea_nil) (check_ok ok'))) (es_seqY (es_ifF (ev_is (et_val (ev_bin (ev_call (ea_cons (ev_var rfl) ea_nil) (b_len_bs _)) (ev_call (ea_cons (ev_var rfl) ea_nil) (b_len_bs _)) (op_ne_i _ _))) ?_) es_nil) (es_retX (ev_callX (ea_cons comp ea_nil) (checked_no ?_ h))))))
  · simp [hl]
  · rw [mt_zip, List.length_map]; exact hz
end
/-! ### the laws' helpers -/
theorem law_due_none (n : Int) : F__law_due [.d (dRows []), dI n] = .ret (.d (.str "none"), false) := by
  unfold F__law_due b__law_due
  exact run_rt rfl (es_seqR (es_ifT (et_val (ev_bin (ev_var rfl) (ev_lst ea_nil rfl) (eq_same (Nc.ns []) rfl (by decide)))) (es_ret ev_c)))
theorem rows_nc (rows : List (List Int)) : Nc 2 (dRows rows) := Nc.map fun r _ => Nc.ns r
theorem rows_nil {rows : List (List Int)} : dRows rows = .list [] ↔ rows = [] := by simp
theorem law_due_some {rows : List (List Int)} {n : Nat} (hr : rows ≠ []) (hl : ∀ r ∈ rows, r.length = n) (hn : n ≤ 1000) (hlim : rows.length ≤ lim) : F__law_due [.d (dRows rows), dI n] = .ret (.d (dBs (dueL rows n)), true) := by
  unfold F__law_due b__law_due
  refine run_rt rfl (es_seq (es_ifF (et_val (ev_bin (ev_var rfl) (ev_lst ea_nil rfl) (eq_nc (b := false) (rows_nc rows) (Nc.ns []) (by decide) (by decide) (by simpa using hr)))) es_nil) (es_ret ?_))
  refine list_of (ev_compN (xs := irange 0 n) (emb := PyData.int) (f := fun k => dP (minL (rows.map fun r => gi r k), maxL (rows.map fun r => gi r k))) (b := false) (ei_rng1 (n := (n : Int)) (ea_cons (ev_var rfl) ea_nil) (by omega)) (by rw [irange_len]; have := lim_big; omega) fun k hk => ?_) (by unfold dueL; rw [List.map_map]; rfl)
  have bk := mem_ir hk
  have comp : dComp [3] [3] bdN (iSeqD (dVar 0)) yes (dBin oIx (dVar 3) (dVar 2)) (setE (wipeE (expo [some (.v (.d (dRows rows))), some (.v (dI n)), none, none]) [2]) [2] [PyData.int k]) = .ret (.d (.list (rows.map fun r => .int (gi r k))), true) :=
    ev_compN (xs := rows) (emb := fun r => dNs r) (b := false) (ei_list (ev_var rfl)) hlim fun r hr => ev_bin (ev_var rfl) (ev_var rfl) (op_ix_ns (by omega) (by have := hl r hr; omega))
  exact ev_tup (ea_cons (ev_call (ea_cons comp ea_nil) (b_min' hr)) (ea_cons (ev_call (ea_cons comp ea_nil) (b_max' hr)) ea_nil)) rfl
def insB (bs : List (Int × Int)) (c : List Int) : Bool := (irange 0 c.length).all fun k => decide (lowAt bs k ≤ gi c k) && decide (gi c k ≤ highAt bs k)
theorem insB_iff {bs : List (Int × Int)} {c : List Int} (hl : c.length = bs.length) : insB bs c = true ↔ Ch bs c := by
  unfold insB
  rw [List.all_eq_true]
  constructor
  · intro h
    refine Ch.of_at hl fun k hk => ?_
    have := h k (ir_mem (by omega))
    simpa using this
  · intro h k _
    have := h.gi k
    simpa using this
theorem filt_nil {α : Type} (p : α → Bool) (xs : List α) : (xs.filter fun x => !p x) = [] ↔ xs.all p = true := by
  rw [List.filter_eq_nil_iff, List.all_eq_true]
  constructor
  · intro h x hx; have := h x hx; simpa using this
  · intro h x hx; simp [h x hx]
theorem law_inside_eq {bs : List (Int × Int)} {c : List Int} (hn : bs.length ≤ 1000) (hl : c.length = bs.length) : F__law_inside [.d (dBs bs), .d (dNs c)] = rB (insB bs c) := by
  unfold F__law_inside b__law_inside
  refine run_rt rfl (es_ret (ev_is' (r := (.d .none, false)) (ev_and' (k := true) (ev_bin (ev_call (ea_cons (ev_var rfl) ea_nil) (b_len_ns _)) (ev_call (ea_cons (ev_var rfl) ea_nil) (b_len_bs _)) (eqI _ _ (by omega))) fun _ => ?_) (by rw [Bool.true_and])))
  refine ev_bin (ev_compNF (xs := irange 0 c.length) (emb := PyData.int) (f := PyData.int) (g := fun k => !(decide (lowAt bs k ≤ gi c k) && decide (gi c k ≤ highAt bs k))) (b := false) (ei_rng1 (n := (c.length : Int)) (ea_cons (ev_call (ea_cons (ev_var rfl) ea_nil) (b_len_ns _)) ea_nil) (by omega)) (by rw [irange_len]; have := lim_big; omega) (fun k hk => ?_) fun k _ _ => ev_var rfl) (ev_lst ea_nil rfl) (eq_nc (b := insB bs c) (Nc.ns _) (Nc.ns []) (by decide) (by decide) ?_)
  · have bk := mem_ir hk
    have eb := op_ix_bs (bs := bs) (k := k) (by omega) (by omega)
    have ec := op_ix_ns (ns := c) (k := k) (by omega) (by omega)
    exact et_not (et_val (ev_chain (ev_bin (ev_bin (ev_var rfl) (ev_var rfl) eb) ev_c rfl) (ev_bin (ev_var rfl) (ev_var rfl) ec) (ev_bin (ev_bin (ev_var rfl) (ev_var rfl) eb) ev_c rfl) (op_le_i _ _) (op_le_i _ _)))
  · refine Iff.trans (ns_inj (ys := [])) ?_
    rw [filt_nil]
    rfl
end Pg

/-! Computations that change objects (DU), slices (k11, k13, k15). -/
namespace Pg
open PySem L2 Dt
structure DU {α : Type} (W : Wd) (m : M α) (S : α → Wd → Prop) : Prop where
  go : wp m W S (fun _ _ => False)
section
variable {α β : Type} {W : Wd}
theorem DU.mono {m : M α} {S T : α → Wd → Prop} (h : DU W m S) (i : ∀ a W', S a W' → T a W') : DU W m T := ⟨wp_mono h.go i fun _ _ z => z⟩
theorem DU.ret {a : α} {S : α → Wd → Prop} (h : S a W) : DU W (.ret a) S := ⟨h⟩
theorem DU.of {m : M α} {a : α} {S : α → Wd → Prop} (e : m = .ret a) (h : S a W) : DU W m S := by rw [e]; exact ⟨h⟩
theorem DU.bind {m : M α} {f : α → M β} {S : β → Wd → Prop} (h : DU W m fun a W' => DU W' (f a) S) : DU W (m.bind f) S :=
  ⟨(wp_bind _ _ _ _ _).mpr (wp_mono h.go (fun a W' e => e.go) fun _ _ z => z)⟩
theorem DU.draw {l : Int} {S : RV → Wd → Prop} (hd : W[0]? = some .dr) (h0 : 0 < l) (h1 : l < 1073741824) (h : ∀ r, 0 ≤ r → r < l → S (dI r, false) W) : DU W (F__law_draw [.ob 0, dI l]) S := ⟨⟨hd, h0, h1, fun r a b => h r a b⟩⟩
end
section
variable {W : Wd} {en : En} {fa fb : En → M RV} {fs : En → M (List AV)} {i j : Nat} {f : AV → AV → M RV} {F : List AV → M RV} {S : RV → Wd → Prop} {SA : List AV → Wd → Prop} {SO : Out → Wd → Prop} {s1 s2 : En → M Out} {ga gb : En → M Bool} {SB : Bool → Wd → Prop}
theorem due_bin (h : DU W (fa en) fun r W1 => DU W1 (fb en) fun r' W2 => DU W2 (f r.1 r'.1) S) : DU W (dBin f fa fb en) S := DU.bind (h.mono fun _ _ h => DU.bind h)
theorem due_call (h : DU W (fs en) fun as W1 => DU W1 (F as) S) : DU W (dCall F fs en) S := DU.bind h
theorem dua_cons (h : DU W (fa en) fun r W1 => DU W1 (fs en) fun as W2 => SA (r.1 :: as) W2) : DU W (aCons fa fs en) SA := DU.bind (h.mono fun _ _ h => DU.bind (h.mono fun _ _ h => DU.ret h))
theorem dut_val {k : Bool} (h : DU W (fa en) fun r W1 => ∃ k, r.1 = .d (.bool k) ∧ SB k W1) : DU W (dTest fa en) SB := DU.bind (h.mono fun r _ h => by obtain ⟨k, e, h⟩ := h; unfold asB; rw [e]; exact DU.ret h)
theorem dut_or (h : DU W (ga en) fun k W1 => if k = true then SB true W1 else DU W1 (gb en) SB) : DU W (dOr ga gb en) SB := DU.bind (h.mono fun k _ h => by
  cases k with
  | true => exact DU.ret h
  | false => exact h)
theorem dus_seq (h : DU W (s1 en) fun o W1 => ∃ en', o = .nx en' ∧ DU W1 (s2 en') SO) : DU W (sSeq s1 s2 en) SO := DU.bind (h.mono fun o _ h => by obtain ⟨en', rfl, h⟩ := h; exact h)
theorem dus_pure {en' : En} (h1 : s1 en = .ret (.nx en')) (h2 : DU W (s2 en') SO) : DU W (sSeq s1 s2 en) SO := by
  unfold sSeq
  rw [h1]
  exact h2
theorem dus_set (h : DU W (fa (hide en)) fun r W1 => SO (.nx (en.set i (some (.v r.1)))) W1) : DU W (sSet i fa en) SO := DU.bind (h.mono fun r _ h => DU.ret h)
theorem dus_ret (h : DU W (fa (expo en)) fun r W1 => SO (.rt r) W1) : DU W (sRet fa en) SO := DU.bind (h.mono fun r _ h => DU.ret h)
theorem dus_expr (h : DU W (fa (expo en)) fun _ W1 => SO (.nx en) W1) : DU W (sExpr fa en) SO := DU.bind (h.mono fun r _ h => DU.ret h)
theorem dus_if (h : DU W (ga (expo en)) fun k W1 => if k = true then DU W1 (s1 en) SO else DU W1 (s2 en) SO) : DU W (sIf ga s1 s2 en) SO := DU.bind (h.mono fun k _ h => by
  cases k with
  | true => exact h
  | false => exact h)
theorem dus_ifP {k : Bool} (hg : ga (expo en) = .ret k) (h1 : k = true → DU W (s1 en) SO) (h2 : k = false → DU W (s2 en) SO) : DU W (sIf ga s1 s2 en) SO := dus_if (DU.of hg (by cases k with
  | true => exact h1 rfl
  | false => exact h2 rfl))
theorem dus_for {sl : List Nat} {bd : PyData → Option (List PyData)} {it : En → M (List PyData)} {xs : List PyData} (hi : it (hide en) = .ret xs) (h : DU W (forL sl bd s1 xs en) SO) : DU W (sFor sl bd it s1 en) SO := DU.bind (DU.of hi h)
theorem du_run {n m : Nat} {as : List AV} {b : En → M Out} (hl : as.length = n) (h : DU W (b (enOf m as)) fun o W1 => ∃ r, o = .rt r ∧ S r W1) : DU W (runF n m b as) S := by
  unfold runF
  rw [if_pos hl]
  exact DU.bind (h.mono fun o _ h => by obtain ⟨r, rfl, h⟩ := h; exact DU.ret h)
theorem du_forL {β : Type} {emb : β → PyData} {sl : List Nat} {bd : PyData → Option (List PyData)} {I : Nat → En → Wd → Prop} :
    ∀ {xs : List β} {k : Nat} {W : Wd} {en : En} {SO : Out → Wd → Prop}, I k en W → (∀ (n : Nat) (x : β) (en : En) (W : Wd), x ∈ xs → n < k + xs.length → I n en W → ∃ ds, bd (emb x) = some ds ∧ DU W (s1 (setE en sl ds)) fun o W1 => ∃ en', o = .nx en' ∧ I (n + 1) en' W1) → (∀ en' W1, I (k + xs.length) en' W1 → SO (.nx en') W1) → DU W (forL sl bd s1 (xs.map emb) en) SO
  | [], k, W, en, SO, h0, _, h2 => DU.ret (h2 en W h0)
  | x :: xs, k, W, en, SO, h0, h1, h2 => by
    obtain ⟨ds, e, h⟩ := h1 k x en W List.mem_cons_self (by simp) h0
    rw [List.map_cons]
    unfold forL
    rw [e]
    refine DU.bind (h.mono fun o W1 h => ?_)
    obtain ⟨en', rfl, hI⟩ := h
    exact du_forL (k := k + 1) hI (fun n x en W hx hn => h1 n x en W (List.mem_cons_of_mem _ hx) (by simp; omega)) fun en' W1 h => h2 en' W1 (by simpa [Nat.add_assoc, Nat.add_comm 1] using h)
theorem dus_try {bb : En → M Out} (h0 : en[i]? = some none) (h : wp (bb en) W SO fun er W1 => SO (.nx (en.set j (some (.v (.exc er))))) W1) : DU W (sTry i j bb en) SO := by
  constructor
  unfold sTry
  rw [h0]
  dsimp only
  rw [wp_catch]
  exact wp_mono h (fun _ _ z => z) fun _ _ z => z
/-- a call of a teller's method -/
theorem wp_meth {now : List (Int × Int)} {past : List (List (Int × Int))} {as : List AV} {u : Bool} {fo : En → M RV} {Q : RV → Wd → Prop} {E : Err → Wd → Prop} {n : Nat} (ho : fo en = .ret (.ob n, u)) (hw : W[n]? = some (.tel now past)) (hs : fs en = .ret as) (h : wp (F (.ob n :: as)) W Q E) : wp (dMethO F fo fs en) W Q E := by
  unfold dMethO
  rw [ho, ret_bind]
  refine ⟨_, hw, ?_⟩
  dsimp only
  rw [hs, ret_bind]
  exact h
theorem wp_tel {now : List (Int × Int)} {past : List (List (Int × Int))} {f : List (Int × Int) → List (List (Int × Int)) → M RV} {Q : RV → Wd → Prop} {E : Err → Wd → Prop} {n : Nat} (hw : W[n]? = some (.tel now past)) (h : wp (f now past) W Q E) : wp (onTel n f) W Q E := ⟨_, hw, h⟩
end
/-- the start of a law, with objects -/
theorem law_ofU {m : Nat} {b : En → M Out} {s : En → M Out} (e : b = sSeq (sSet 1 (dCall F__law_start (aCons (dVar 0) aNil))) s)
    (h : ∀ ns : List Int, ns.length ≤ 63 → DU [.dr] (s (some (.v (.scr ns)) :: some (.v (.ob 0)) :: List.replicate m none)) fun o _ => o = .rt (.d (.bool true), false)) : LawTrue (runF 1 (m + 2) b) := by
  intro ns hl
  unfold runF
  rw [if_pos (show [AV.scr ns].length = 1 from rfl), e]
  rw [wp_bind]
  have e1 : sSeq (sSet 1 (dCall F__law_start (aCons (dVar 0) aNil))) s (enOf (m + 2) [.scr ns]) = .onew .dr fun i => s ((enOf (m + 2) [.scr ns]).set 1 (some (.v (.ob i)))) := by
    unfold sSeq sSet dCall
    show (((aCons (dVar 0) aNil (hide (enOf (m + 2) [AV.scr ns]))).bind F__law_start).bind _).bind _ = _
    have : aCons (dVar 0) aNil (hide (enOf (m + 2) [AV.scr ns])) = .ret [.scr ns] := rfl
    rw [this, ret_bind]
    show (Dt.M.bind (Dt.M.bind (fStart [.scr ns]) _) _) = _
    unfold fStart
    dsimp only
    rw [if_pos hl]
    rfl
  rw [e1]
  show wp (s _) _ _ _
  refine wp_mono (h ns hl).go (fun o W e => ?_) fun _ _ z => z
  rw [e]
  rfl
/-- what only draws from object 0 does so here too -/
theorem wp_dr {α : Type} : ∀ {m : M α} {S : α → Prop} {W : Wd}, wp m [.dr] (fun a W => W = [.dr] ∧ S a) (fun _ _ => False) → True := fun _ => trivial
/-! ### slices -/
theorem cut_to (xs : List PyData) (n : Nat) : cutP xs none (some (n : Int)) = xs.take n := by
  unfold cutP
  rw [HT.sIx_none, HT.sIx_nat, List.drop_zero, Nat.sub_zero]
  by_cases h : n ≤ xs.length
  · rw [Nat.min_eq_left h]
  · rw [Nat.min_eq_right (by omega), List.take_of_length_le (Nat.le_refl _), List.take_of_length_le (by omega)]
theorem cut_from (xs : List PyData) (n : Nat) : cutP xs (some (n : Int)) none = xs.drop n := by
  unfold cutP
  rw [HT.sIx_none, HT.sIx_nat]
  by_cases h : n ≤ xs.length
  · rw [Nat.min_eq_left h, List.take_of_length_le (by rw [List.length_drop]; omega)]
  · rw [Nat.min_eq_right (by omega), List.drop_of_length_le (Nat.le_refl _), List.drop_of_length_le (by omega)]
    simp
theorem cut_last (xs : List PyData) : cutP xs none (some (-1)) = xs.dropLast := by
  unfold cutP
  rw [HT.sIx_none, List.drop_zero, Nat.sub_zero, List.dropLast_eq_take]
  congr 1
  unfold HT.sIx
  dsimp only
  rw [if_pos (by decide)]
  omega
theorem ix_last {xs : List PyData} {d : PyData} (h : xs.getLast? = some d) : atI xs (-1) = some d := by
  cases xs with
  | nil => cases h
  | cons x xs =>
    rw [List.getLast?_eq_getElem?] at h
    unfold atI ixN
    rw [if_neg (by decide), if_pos (by simp; omega)]
    show (x :: xs)[_]? = _
    rw [← h]
    congr 1
    simp
    omega
theorem map_put (now : List (Int × Int)) {k : Nat} (h : k < now.length) (q : Int × Int) : ((now.map dP).take k ++ [dP q]) ++ (now.map dP).drop (k + 1) = (now.set k q).map dP := by
  rw [List.set_eq_take_append_cons_drop, if_pos h, List.map_append, List.map_cons, List.map_take, List.map_drop, List.append_assoc]
  rfl
/-! ### known values -/
theorem known_ir : ∀ (now pre : List (Int × Int)), knownL pre.length now = (irange pre.length now.length).filter fun k => decide (lowAt (pre ++ now) k = highAt (pre ++ now) k)
  | [], pre => rfl
  | q :: now, pre => by
    have ih := known_ir now (pre ++ [q])
    rw [List.append_assoc, List.length_append] at ih
    have e : irange (pre.length : Nat) (q :: now).length = (pre.length : Int) :: irange ((pre.length + [q].length : Nat) : Int) now.length := by
      unfold irange
      rw [List.length_cons, List.range_succ_eq_map, List.map_cons, List.map_map]
      refine congr (congrArg _ (by simp)) ?_
      apply List.map_congr_left
      intro i _
      simp
      omega
    rw [e, knownL]
    have el : lowAt (pre ++ q :: now) (pre.length : Nat) = q.1 ∧ highAt (pre ++ q :: now) (pre.length : Nat) = q.2 := by
      unfold lowAt highAt
      simp
    by_cases c : q.1 = q.2
    · rw [if_pos c, List.filter_cons_of_pos (by rw [el.1, el.2]; simpa using c)]
      exact congrArg _ ih
    · rw [if_neg c, List.filter_cons_of_neg (by rw [el.1, el.2]; simpa using c)]
      exact ih
theorem known_eq (now : List (Int × Int)) : knownL 0 now = (irange 0 now.length).filter fun k => decide (lowAt now k = highAt now k) := known_ir now []
end Pg

/-! Orders: all, the possible ones, their counts and ranks (k07, k10, k13). -/
namespace Pg
open PySem L2 Dt
section
variable {bs : List (Int × Int)}
/-- the possible orders that go on from some places -/
def extF (bs : List (Int × Int)) : Nat → List Int → List (List Int)
  | 0, ds => [ds]
  | n + 1, ds => (nextP bs ds).flatMap fun k => extF bs n (ds ++ [k])
def allF (bs : List (Int × Int)) : Nat → List Int → List (List Int)
  | 0, ds => [ds]
  | n + 1, ds => (leftP bs ds).flatMap fun k => allF bs n (ds ++ [k])
theorem flat_sum {α β : Type} (f : α → List β) : ∀ ks : List α, ((ks.flatMap f).length : Int) = (ks.map fun k => ((f k).length : Int)).sum
  | [] => rfl
  | k :: ks => by rw [List.flatMap_cons, List.length_append, List.map_cons, List.sum_cons, ← flat_sum f ks]; omega
theorem cntF_len : ∀ (n : Nat) (ds : List Int), cntF bs n ds = ((extF bs n ds).length : Int)
  | 0, ds => rfl
  | n + 1, ds => by
    rw [cntF, extF, flat_sum]
    congr 1
    exact List.map_congr_left fun k _ => cntF_len n (ds ++ [k])
/-! ### all orders, level by level -/
def lev (bs : List (Int × Int)) : Nat → List (List Int)
  | 0 => [[]]
  | k + 1 => (lev bs k).flatMap fun row => (leftP bs row).map fun p => row ++ [p]
theorem flat_flat {α β γ : Type} (f : α → List β) (g : β → List γ) : ∀ xs : List α, (xs.flatMap f).flatMap g = xs.flatMap fun x => (f x).flatMap g
  | [] => rfl
  | x :: xs => by rw [List.flatMap_cons, List.flatMap_append, flat_flat f g xs, List.flatMap_cons]
theorem flat_map {α β γ : Type} (f : α → β) (g : β → List γ) : ∀ xs : List α, (xs.map f).flatMap g = xs.flatMap fun x => g (f x)
  | [] => rfl
  | x :: xs => by rw [List.map_cons, List.flatMap_cons, flat_map f g xs, List.flatMap_cons]
theorem lev_all : ∀ (k m : Nat), (lev bs k).flatMap (allF bs m) = allF bs (m + k) []
  | 0, m => by simp [lev]
  | k + 1, m => by
    rw [lev, flat_flat]
    have e : (fun row => ((leftP bs row).map fun p => row ++ [p]).flatMap (allF bs m)) = allF bs (m + 1) := by
      funext row
      rw [flat_map]
      rfl
    rw [e, lev_all k (m + 1)]
    congr 1
    omega
theorem lev_eq (n : Nat) : lev bs n = allF bs n [] := by
  have h := lev_all (bs := bs) n 0
  have e : (lev bs n).flatMap (allF bs 0) = lev bs n := by
    show (lev bs n).flatMap (fun ds => [ds]) = _
    induction lev bs n with
    | nil => rfl
    | cons x xs ih => rw [List.flatMap_cons, ih]; rfl
  rw [e, Nat.zero_add] at h
  exact h
theorem left_ir (ds : List Int) : leftP bs ds = (irange 0 bs.length).filter fun k => !decide (k ∈ ds) := leftP_ir bs ds
theorem irange_lt (m : Int) (n : Nat) : (irange m n).Pairwise (· < ·) := by
  unfold irange
  rw [List.pairwise_map]
  exact List.pairwise_lt_range.imp fun h => by omega
theorem leftP_lt (ds : List Int) : (leftP bs ds).Pairwise (· < ·) := by
  rw [left_ir]
  exact (irange_lt _ _).filter _
theorem nextP_lt (ds : List Int) : (nextP bs ds).Pairwise (· < ·) := (leftP_lt ds).filter _
theorem lt_nodup {xs : List Int} (h : xs.Pairwise (· < ·)) : xs.Nodup := h.imp fun h => by omega
theorem leftP_more (ds : List Int) (k : Int) : leftP bs (ds ++ [k]) = (leftP bs ds).filter fun j => !decide (j = k) := by
  rw [left_ir, left_ir, List.filter_filter]
  congr 1
  funext j
  simp [not_or, Bool.and_comm]
theorem filt_ne : ∀ {xs : List Int} {k : Int}, xs.Nodup → k ∈ xs → (xs.filter fun j => !decide (j = k)).length + 1 = xs.length
  | x :: xs, k, nd, h => by
    have nd' := List.nodup_cons.mp nd
    by_cases e : x = k
    · subst e
      rw [List.filter_cons_of_neg (by simp), List.filter_eq_self.mpr (fun y hy => by
        have : y ≠ x := fun z => nd'.1 (z ▸ hy)
        simp [this]), List.length_cons]
    · have hk : k ∈ xs := by rcases List.mem_cons.mp h with z | z; exact absurd z.symm e; exact z
      rw [List.filter_cons_of_pos (by simp [e]), List.length_cons, filt_ne nd'.2 hk, List.length_cons]
theorem left_len {ds : List Int} {k : Int} (h : k ∈ leftP bs ds) : (leftP bs (ds ++ [k])).length + 1 = (leftP bs ds).length := by
  rw [leftP_more]
  exact filt_ne (lt_nodup (leftP_lt ds)) h
theorem left_len0 : (leftP bs []).length = bs.length := by
  rw [left_ir, List.filter_eq_self.mpr (fun _ _ => by simp), irange_len]
/-! ### the good ones -/
abbrev GoodO (bs : List (Int × Int)) (row : List Int) : Prop := row.Pairwise fun a b => lowAt bs a ≤ highAt bs b
theorem all_mem : ∀ {n : Nat} {ds r : List Int}, (leftP bs ds).length = n → r ∈ allF bs n ds → ∃ rest, r = ds ++ rest ∧ (∀ j, j ∈ leftP bs ds ↔ j ∈ rest) ∧ rest.length = n
  | 0, ds, r, hl, h => by
    rw [allF, List.mem_singleton] at h
    refine ⟨[], by simp [h], fun j => ?_, rfl⟩
    rw [List.length_eq_zero_iff.mp hl]
  | n + 1, ds, r, hl, h => by
    rw [allF] at h
    obtain ⟨k, hk, h⟩ := List.mem_flatMap.mp h
    have hl' := left_len hk
    obtain ⟨rest, e, hm, hlen⟩ := all_mem (by omega) h
    refine ⟨k :: rest, by rw [e]; simp, fun j => ?_, by simp [hlen]⟩
    have := hm j
    rw [leftP_more, List.mem_filter] at this
    rw [List.mem_cons, ← this]
    by_cases z : j = k
    · subst z; simp [hk]
    · simp [z]
theorem good_ext (hu : ∀ i, lowAt bs i ≤ highAt bs i) : ∀ {n : Nat} {ds : List Int}, (leftP bs ds).length = n → GoodO bs ds → (∀ a ∈ ds, ∀ b ∈ leftP bs ds, lowAt bs a ≤ highAt bs b) → (allF bs n ds).filter (fun r => decide (GoodO bs r)) = extF bs n ds
  | 0, ds, hl, hg, _ => by
    rw [allF, extF, List.filter_cons_of_pos (by simpa using hg), List.filter_nil]
  | n + 1, ds, hl, hg, hc => by
    rw [allF, extF, nextP, List.filter_flatMap]
    have key : ∀ ks : List Int, (∀ k ∈ ks, k ∈ leftP bs ds) → (ks.flatMap fun k => (allF bs n (ds ++ [k])).filter fun r => decide (GoodO bs r)) = (ks.filter fun k => (leftP bs ds).all fun j => decide (lowAt bs k ≤ highAt bs j)).flatMap fun k => extF bs n (ds ++ [k]) := by
      intro ks
      induction ks with
      | nil => intro _; rfl
      | cons k ks ih =>
        intro hks
        have hk := hks k List.mem_cons_self
        have hl' := left_len hk
        have ih := ih fun j hj => hks j (List.mem_cons_of_mem _ hj)
        rw [List.flatMap_cons, ih]
        by_cases c : ((leftP bs ds).all fun j => decide (lowAt bs k ≤ highAt bs j)) = true
        · rw [List.filter_cons_of_pos (p := fun k => (leftP bs ds).all fun j => decide (lowAt bs k ≤ highAt bs j)) c, List.flatMap_cons]
          congr 1
          rw [List.all_eq_true] at c
          refine good_ext hu (by omega) ?_ ?_
          · refine List.pairwise_append.mpr ⟨hg, List.pairwise_singleton _ _, fun a ha b hb => ?_⟩
            rw [List.mem_singleton] at hb
            subst hb
            exact hc a ha b hk
          · intro a ha b hb
            rw [leftP_more, List.mem_filter] at hb
            rcases List.mem_append.mp ha with ha | ha
            · exact hc a ha b hb.1
            · rw [List.mem_singleton] at ha
              subst ha
              exact of_decide_eq_true (c b hb.1)
        · rw [List.filter_cons_of_neg (p := fun k => (leftP bs ds).all fun j => decide (lowAt bs k ≤ highAt bs j)) c]
          have hz : ((allF bs n (ds ++ [k])).filter fun r => decide (GoodO bs r)) = [] := by
            rw [List.filter_eq_nil_iff]
            intro r hr hgood
            apply c
            rw [List.all_eq_true]
            intro j hj
            obtain ⟨rest, e, hm, _⟩ := all_mem (by omega) hr
            have hgood := of_decide_eq_true hgood
            by_cases z : j = k
            · subst z; exact decide_eq_true (hu j)
            · have hj' : j ∈ rest := (hm j).mp (by rw [leftP_more, List.mem_filter]; exact ⟨hj, by simp [z]⟩)
              rw [e, List.append_assoc] at hgood
              have h2 := (List.pairwise_append.mp hgood).2.1
              rw [List.singleton_append, List.pairwise_cons] at h2
              exact decide_eq_true (h2.1 j hj')
          rw [hz, List.nil_append]
    exact key _ fun k hk => hk
theorem good_orders (hu : ∀ i, lowAt bs i ≤ highAt bs i) : (lev bs bs.length).filter (fun r => decide (GoodO bs r)) = extF bs bs.length [] := by
  rw [lev_eq]
  exact good_ext hu left_len0 List.Pairwise.nil (by simp)
theorem cnt_ext (ds : List Int) (h : ds.length ≤ bs.length) : cnt bs ds = ((extF bs (bs.length - ds.length) ds).length : Int) := cntF_len _ _
theorem cnt_good (hu : ∀ i, lowAt bs i ≤ highAt bs i) : cnt bs [] = (((lev bs bs.length).filter fun r => decide (GoodO bs r)).length : Int) := by
  rw [good_orders hu]
  exact cntF_len _ _
/-! ### a place in a list of lists -/
theorem flat_at {α β : Type} (f : α → List β) : ∀ {ks : List α} {r : Nat}, r < (ks.flatMap f).length → ∃ pre k post r', ks = pre ++ k :: post ∧ r = (pre.flatMap f).length + r' ∧ r' < (f k).length ∧ (ks.flatMap f)[r]? = (f k)[r']?
  | [], r, h => by simp at h
  | k :: ks, r, h => by
    rw [List.flatMap_cons, List.length_append] at h
    by_cases c : r < (f k).length
    · exact ⟨[], k, ks, r, rfl, by simp, c, by rw [List.flatMap_cons, List.getElem?_append_left c]⟩
    · obtain ⟨pre, k', post, r', e1, e2, e3, e4⟩ := flat_at f (ks := ks) (r := r - (f k).length) (by omega)
      refine ⟨k :: pre, k', post, r', by rw [e1]; rfl, ?_, e3, ?_⟩
      · rw [List.flatMap_cons, List.length_append]; omega
      · rw [List.flatMap_cons, List.getElem?_append_right (by omega), e4]
/-- how many possible orders come before one -/
def rkF (bs : List (Int × Int)) : List Int → List Int → Int
  | _, [] => 0
  | ds, o :: rest => (((nextP bs ds).filter fun k => decide (k < o)).map fun k => cnt bs (ds ++ [k])).sum + rkF bs (ds ++ [o]) rest
theorem filt_lt {pre post : List Int} {k : Int} (h : (pre ++ k :: post).Pairwise (· < ·)) : (pre ++ k :: post).filter (fun j => decide (j < k)) = pre := by
  have h1 := List.pairwise_append.mp h
  have h2 := List.pairwise_cons.mp h1.2.1
  rw [List.filter_append, List.filter_eq_self.mpr fun j hj => decide_eq_true (h1.2.2 j hj k List.mem_cons_self), List.filter_cons_of_neg (by simp), List.filter_eq_nil_iff.mpr fun j hj => by have := h2.1 j hj; simp; omega, List.append_nil]
theorem rank_at : ∀ {n : Nat} {ds : List Int} {r : Nat} {row : List Int}, ds.length + n = bs.length → (extF bs n ds)[r]? = some row → ∃ rest, row = ds ++ rest ∧ rkF bs ds rest = (r : Int)
  | 0, ds, r, row, hn, h => by
    rw [extF] at h
    cases r with
    | zero => exact ⟨[], by simpa using h.symm, rfl⟩
    | succ r => simp at h
  | n + 1, ds, r, row, hn, h => by
    rw [extF] at h
    have hr : r < ((nextP bs ds).flatMap fun k => extF bs n (ds ++ [k])).length := (List.getElem?_eq_some_iff.mp h).1
    obtain ⟨pre, k, post, r', e1, e2, e3, e4⟩ := flat_at _ hr
    rw [e4] at h
    obtain ⟨rest, e5, e6⟩ := rank_at (ds := ds ++ [k]) (by rw [List.length_append]; show ds.length + 1 + n = _; omega) h
    refine ⟨k :: rest, by rw [e5]; simp, ?_⟩
    have hp := nextP_lt (bs := bs) ds
    rw [rkF, e6, e1, filt_lt (by rw [← e1]; exact hp)]
    have e7 : (pre.map fun k => cnt bs (ds ++ [k])) = pre.map fun k => ((extF bs n (ds ++ [k])).length : Int) := by
      apply List.map_congr_left
      intro j _
      rw [cnt_ext (ds ++ [j]) (by rw [List.length_append]; show ds.length + 1 ≤ _; omega)]
      congr 3
      rw [List.length_append]
      show bs.length - (ds.length + 1) = n
      omega
    rw [e7, ← flat_sum, e2]
    omega
end
end Pg

/-! Orders: more bounds, other names; the least choice (k07, k10, k13, k19). -/
namespace Pg
open PySem L2 Dt
section
variable {bs cs : List (Int × Int)}
theorem leftP_same (h : bs.length = cs.length) (ds : List Int) : leftP bs ds = leftP cs ds := by rw [left_ir, left_ir, h]
theorem sum_filt {p q : Int → Bool} {f g : Int → Int} : ∀ {xs : List Int}, (∀ x ∈ xs, p x = true → q x = true) → (∀ x ∈ xs, 0 ≤ f x ∧ f x ≤ g x) → ((xs.filter p).map f).sum ≤ ((xs.filter q).map g).sum
  | [], _, _ => Int.le_refl _
  | x :: xs, h, hf => by
    have ih := sum_filt (xs := xs) (fun y hy => h y (List.mem_cons_of_mem _ hy)) fun y hy => hf y (List.mem_cons_of_mem _ hy)
    have h0 := h x List.mem_cons_self
    have h1 := hf x List.mem_cons_self
    cases hp : p x <;> cases hq : q x
    · rw [List.filter_cons_of_neg (by simp [hp]), List.filter_cons_of_neg (by simp [hq])]; exact ih
    · rw [List.filter_cons_of_neg (by simp [hp]), List.filter_cons_of_pos hq, List.map_cons, List.sum_cons]; omega
    · rw [h0 hp] at hq; cases hq
    · rw [List.filter_cons_of_pos hp, List.filter_cons_of_pos hq, List.map_cons, List.sum_cons, List.map_cons, List.sum_cons]; omega
theorem cntF_pos (n : Nat) (ds : List Int) : 0 ≤ cntF bs n ds := by rw [cntF_len]; omega
theorem cntF_mono (hl : bs.length = cs.length) (h : ∀ k j : Int, (0 ≤ k ∧ k < bs.length) → (0 ≤ j ∧ j < bs.length) → lowAt bs k ≤ highAt bs j → lowAt cs k ≤ highAt cs j) : ∀ (n : Nat) (ds : List Int), cntF bs n ds ≤ cntF cs n ds
  | 0, _ => Int.le_refl _
  | n + 1, ds => by
    rw [cntF, cntF, nextP, nextP, ← leftP_same hl]
    refine sum_filt (fun k hk hp => ?_) fun k _ => ⟨cntF_pos _ _, cntF_mono hl h n _⟩
    rw [List.all_eq_true] at hp ⊢
    intro j hj
    exact decide_eq_true (h k j (mem_leftP.mp hk).1 (mem_leftP.mp hj).1 (of_decide_eq_true (hp j hj)))
theorem cnt_mono (hl : bs.length = cs.length) (h : ∀ k j : Int, (0 ≤ k ∧ k < bs.length) → (0 ≤ j ∧ j < bs.length) → lowAt bs k ≤ highAt bs j → lowAt cs k ≤ highAt cs j) (ds : List Int) : cnt bs ds ≤ cnt cs ds := by
  unfold cnt
  rw [← hl]
  exact cntF_mono hl h _ _
theorem perm_of {α : Type} [DecidableEq α] {xs ys : List α} (h1 : xs.Nodup) (h2 : ys.Nodup) (h : ∀ x, x ∈ xs ↔ x ∈ ys) : xs.Perm ys := by
  refine List.perm_iff_count.mpr fun a => ?_
  rw [h1.count, h2.count]
  simp [h a]
/-- values of other names -/
structure Ren (bs cs : List (Int × Int)) (π : Int → Int) : Prop where
  len : bs.length = cs.length
  into : ∀ i : Int, (0 ≤ i ∧ i < (bs.length : Int)) → 0 ≤ π i ∧ π i < (bs.length : Int)
  inj : ∀ i j : Int, (0 ≤ i ∧ i < (bs.length : Int)) → (0 ≤ j ∧ j < (bs.length : Int)) → π i = π j → i = j
  sur : ∀ x, (0 ≤ x ∧ x < (bs.length : Int)) → ∃ i, (0 ≤ i ∧ i < (bs.length : Int)) ∧ π i = x
  at_ : ∀ i : Int, (0 ≤ i ∧ i < (bs.length : Int)) → lowAt cs i = lowAt bs (π i) ∧ highAt cs i = highAt bs (π i)
theorem Ren.left {π : Int → Int} (r : Ren bs cs π) {ds : List Int} (hd : ∀ x ∈ ds, 0 ≤ x ∧ x < bs.length) (x : Int) : x ∈ leftP bs (ds.map π) ↔ x ∈ (leftP cs ds).map π := by
  rw [mem_leftP]
  refine Iff.trans ?_ List.mem_map.symm
  constructor
  · rintro ⟨h1, h2⟩
    obtain ⟨i, hi, e⟩ := r.sur x h1
    refine ⟨i, mem_leftP.mpr ⟨by rw [← r.len]; exact hi, fun z => h2 (List.mem_map.mpr ⟨i, z, e⟩)⟩, e⟩
  · rintro ⟨i, hi, rfl⟩
    have h := mem_leftP.mp hi
    rw [← r.len] at h
    refine ⟨r.into i h.1, fun z => ?_⟩
    obtain ⟨j, hj, e⟩ := List.mem_map.mp z
    exact h.2 (r.inj j i (hd j hj) h.1 e ▸ hj)
theorem Ren.cntF {π : Int → Int} (r : Ren bs cs π) : ∀ (n : Nat) {ds : List Int}, (∀ x ∈ ds, 0 ≤ x ∧ x < bs.length) → Dt.cntF cs n ds = Dt.cntF bs n (ds.map π)
  | 0, _, _ => rfl
  | n + 1, ds, hd => by
    rw [Dt.cntF, Dt.cntF]
    have e1 : ((nextP cs ds).map fun j => Dt.cntF cs n (ds ++ [j])) = ((nextP cs ds).map π).map fun j => Dt.cntF bs n (ds.map π ++ [j]) := by
      rw [List.map_map]
      apply List.map_congr_left
      intro j hj
      have hj := (mem_leftP.mp (nextP_sub hj)).1
      rw [← r.len] at hj
      rw [r.cntF n (fun x hx => by
        rcases List.mem_append.mp hx with z | z
        · exact hd x z
        · rw [List.mem_singleton] at z; rw [z]; exact hj), List.map_append]
      rfl
    rw [e1]
    refine perm_sum (List.Perm.map _ (perm_of ?_ (lt_nodup (nextP_lt _)) fun x => ?_))
    · unfold List.Nodup
      rw [List.pairwise_map]
      refine (lt_nodup (nextP_lt ds)).imp_of_mem fun {a b} ha hb hab z => hab ?_
      have ha := (mem_leftP.mp (nextP_sub ha)).1
      have hb := (mem_leftP.mp (nextP_sub hb)).1
      rw [← r.len] at ha hb
      exact r.inj a b ha hb z
    · have hL := r.left hd
      constructor
      · intro h
        obtain ⟨j, hj, rfl⟩ := List.mem_map.mp h
        obtain ⟨hj1, hj2⟩ := List.mem_filter.mp hj
        refine List.mem_filter.mpr ⟨(hL _).mpr (List.mem_map.mpr ⟨j, hj1, rfl⟩), ?_⟩
        rw [List.all_eq_true] at hj2 ⊢
        intro y hy
        obtain ⟨i, hi, rfl⟩ := List.mem_map.mp ((hL y).mp hy)
        have a := (mem_leftP.mp hj1).1
        have b := (mem_leftP.mp hi).1
        rw [← r.len] at a b
        have := hj2 i hi
        rw [(r.at_ j a).1, (r.at_ i b).2] at this
        exact this
      · intro h
        obtain ⟨h1, h2⟩ := List.mem_filter.mp h
        obtain ⟨j, hj, rfl⟩ := List.mem_map.mp ((hL x).mp h1)
        refine List.mem_map.mpr ⟨j, List.mem_filter.mpr ⟨hj, ?_⟩, rfl⟩
        rw [List.all_eq_true] at h2 ⊢
        intro i hi
        have a := (mem_leftP.mp hj).1
        have b := (mem_leftP.mp hi).1
        rw [← r.len] at a b
        have := h2 (π i) ((hL _).mpr (List.mem_map.mpr ⟨i, hi, rfl⟩))
        rw [(r.at_ j a).1, (r.at_ i b).2]
        exact this
theorem Ren.cnt {π : Int → Int} (r : Ren bs cs π) : Dt.cnt cs [] = Dt.cnt bs [] := by
  unfold Dt.cnt
  rw [r.cntF _ (by simp), ← r.len]
  rfl
theorem rev_ren (bs : List (Int × Int)) : Ren bs bs.reverse (fun i => (bs.length : Int) - 1 - i) where
  len := by simp
  into := fun i h => by omega
  inj := fun i j _ _ e => by omega
  sur := fun x h => ⟨(bs.length : Int) - 1 - x, by omega, by omega⟩
  at_ := fun i h => by
    have e : bs.reverse.getD i.toNat (0, 0) = bs.getD ((bs.length : Int) - 1 - i).toNat (0, 0) := by
      rw [List.getD_eq_getElem?_getD, List.getD_eq_getElem?_getD, List.getElem?_reverse (by omega)]
      congr 2
      omega
    unfold lowAt highAt
    rw [e]
    exact ⟨rfl, rfl⟩
end
/-! ### sorted -/
theorem ins1_id {x : Int} : ∀ {xs : List Int}, (∀ y ∈ xs, x ≤ y) → ins1 x xs = x :: xs
  | [], _ => rfl
  | y :: ys, h => by
    have := h y List.mem_cons_self
    unfold ins1
    first
      | rw [if_pos (by omega)]
      | rw [if_neg (by omega)]
theorem isort_id : ∀ {xs : List Int}, xs.Pairwise (· ≤ ·) → isort xs = xs
  | [], _ => rfl
  | x :: xs, h => by
    have h' := List.pairwise_cons.mp h
    rw [isort, isort_id h'.2, ins1_id h'.1]
theorem lt_ext : ∀ {xs ys : List Int}, xs.Pairwise (· < ·) → ys.Pairwise (· < ·) → (∀ x, x ∈ xs ↔ x ∈ ys) → xs = ys
  | [], [], _, _, _ => rfl
  | [], y :: ys, _, _, h => by have := (h y).mpr List.mem_cons_self; simp at this
  | x :: xs, [], _, _, h => by have := (h x).mp List.mem_cons_self; simp at this
  | x :: xs, y :: ys, hx, hy, h => by
    have hx' := List.pairwise_cons.mp hx
    have hy' := List.pairwise_cons.mp hy
    have e : x = y := by
      have h1 := (h x).mp List.mem_cons_self
      have h2 := (h y).mpr List.mem_cons_self
      rcases List.mem_cons.mp h1 with z | z
      · exact z
      · rcases List.mem_cons.mp h2 with w | w
        · exact w.symm
        · have := hx'.1 y w
          have := hy'.1 x z
          omega
    subst e
    rw [lt_ext hx'.2 hy'.2 fun z => ?_]
    have hz := h z
    rw [List.mem_cons, List.mem_cons] at hz
    constructor
    · intro w
      rcases hz.mp (.inr w) with q | q
      · have := hx'.1 z w; omega
      · exact q
    · intro w
      rcases hz.mpr (.inr w) with q | q
      · have := hy'.1 z w; omega
      · exact q
theorem isort_full {n : Nat} {ds : List Int} (h : PlOk n ds) (hl : ds.length = n) : isort ds = irange 0 n := by
  have hp := isort_perm ds
  refine lt_ext ?_ (irange_lt _ _) fun x => ?_
  · have h1 := isort_sorted ds
    have h2 : (isort ds).Nodup := hp.nodup_iff.mpr h.1
    exact (h1.and h2).imp fun h => by omega
  · rw [hp.mem_iff]
    constructor
    · intro hx
      have := h.2 x hx
      exact ir_mem (by omega)
    · intro hx
      have hx := mem_ir hx
      refine Decidable.byContradiction fun z => ?_
      have := nodup_le (l := x :: ds) (m := irange 0 n) (List.nodup_cons.mpr ⟨z, h.1⟩) (fun y hy => by
        rcases List.mem_cons.mp hy with w | w
        · rw [w]; exact ir_mem (by omega)
        · have := h.2 y w; exact ir_mem (by omega))
      rw [irange_len, List.length_cons] at this
      omega
/-! ### the least choice -/
section
variable {bs : List (Int × Int)}
theorem all_pl : ∀ {m : Nat} {ds r : List Int}, PlOk bs.length ds → r ∈ allF bs m ds → PlOk bs.length r ∧ r.length = ds.length + m
  | 0, ds, r, h, hr => by
    rw [allF, List.mem_singleton] at hr
    subst hr
    exact ⟨h, rfl⟩
  | m + 1, ds, r, h, hr => by
    rw [allF] at hr
    obtain ⟨k, hk, hr⟩ := List.mem_flatMap.mp hr
    have := all_pl (h.more hk) hr
    refine ⟨this.1, ?_⟩
    rw [this.2, List.length_append]
    show ds.length + 1 + m = _
    omega
theorem pl_nil : PlOk bs.length [] := ⟨List.nodup_nil, by simp⟩
theorem lev_pl {r : List Int} (h : r ∈ lev bs bs.length) : PlOk bs.length r ∧ r.length = bs.length := by
  rw [lev_eq] at h
  have := all_pl pl_nil h
  exact ⟨this.1, by rw [this.2]; simp⟩
theorem pl_lev : ∀ {m : Nat} {ds rest : List Int}, PlOk bs.length (ds ++ rest) → rest.length = m → ds ++ rest ∈ allF bs m ds
  | 0, ds, rest, _, hl => by
    rw [List.length_eq_zero_iff.mp hl, List.append_nil, allF]
    simp
  | m + 1, ds, k :: rest, h, hl => by
    rw [allF]
    refine List.mem_flatMap.mpr ⟨k, mem_leftP.mpr ⟨h.2 k (by simp), fun z => ?_⟩, ?_⟩
    · have := (List.nodup_append.mp h.1).2.2 k z k List.mem_cons_self
      exact this rfl
    · have e : ds ++ k :: rest = (ds ++ [k]) ++ rest := by simp
      rw [e] at h ⊢
      exact pl_lev h (by simpa using hl)
abbrev rmx (bs : List (Int × Int)) (pre : List Int) : Int := pre.foldl (fun l p => mx l (lowAt bs p)) (-51)
theorem rmx_app (pre : List Int) (p : Int) : rmx bs (pre ++ [p]) = mx (rmx bs pre) (lowAt bs p) := by unfold rmx; rw [List.foldl_append]; rfl
theorem rmx_le {b : Int} (hb : -51 ≤ b) {pre : List Int} (h : ∀ p ∈ pre, lowAt bs p ≤ b) : rmx bs pre ≤ b := by
  unfold rmx
  suffices ∀ (pre : List Int) (l : Int), l ≤ b → (∀ p ∈ pre, lowAt bs p ≤ b) → pre.foldl (fun l p => mx l (lowAt bs p)) l ≤ b from this pre _ hb h
  intro pre
  induction pre with
  | nil => intro l hl _; exact hl
  | cons p pre ih =>
    intro l hl h
    refine ih _ ?_ fun q hq => h q (List.mem_cons_of_mem _ hq)
    have := mx_le l (lowAt bs p)
    have := h p List.mem_cons_self
    show mx l (lowAt bs p) ≤ b
    omega
theorem rmx_mono (pre post : List Int) : rmx bs pre ≤ rmx bs (pre ++ post) := by
  unfold rmx
  rw [List.foldl_append]
  generalize pre.foldl (fun l p => mx l (lowAt bs p)) (-51) = l
  induction post generalizing l with
  | nil => exact Int.le_refl _
  | cons p post ih => exact Int.le_trans (mx_le l (lowAt bs p)).1 (ih _)
/-- the choice, built up -/
def fnd (bs : List (Int × Int)) (f0 : List Int) : List Int → List Int → List Int
  | _, [] => f0
  | pre, p :: rest => fnd bs (f0.set p.toNat (rmx bs (pre ++ [p]))) (pre ++ [p]) rest
theorem fnd_app (f0 pre a : List Int) (p : Int) : fnd bs f0 pre (a ++ [p]) = (fnd bs f0 pre a).set p.toNat (rmx bs (pre ++ a ++ [p])) := by
  induction a generalizing f0 pre with
  | nil => simp [fnd]
  | cons q a ih => rw [List.cons_append, fnd, ih, fnd]; simp
theorem fnd_len (f0 pre a : List Int) : (fnd bs f0 pre a).length = f0.length := by
  induction a generalizing f0 pre with
  | nil => rfl
  | cons q a ih => rw [fnd, ih, List.length_set]
theorem gi_set {c : List Int} {k i v : Int} (hk : 0 ≤ k ∧ k < c.length) (hi : 0 ≤ i) : gi (c.set k.toNat v) i = if i = k then v else gi c i := by
  show (c.set k.toNat v).getD i.toNat 0 = if i = k then v else c.getD i.toNat 0
  rw [List.getD_eq_getElem?_getD, List.getD_eq_getElem?_getD, List.getElem?_set]
  by_cases h : i = k
  · subst h
    rw [if_pos rfl, if_pos rfl, if_pos (by omega)]
    rfl
  · rw [if_neg (by omega), if_neg h]
theorem fnd_at {f0 : List Int} {n : Nat} (hf : f0.length = n) : ∀ {a : List Int}, PlOk n a → ∀ {x y : List Int} {p : Int}, a = x ++ p :: y → gi (fnd bs f0 [] a) p = rmx bs (x ++ [p]) := by
  intro a
  generalize hm : a.length = m
  induction m generalizing a with
  | zero =>
    intro _ x y p e
    rw [List.length_eq_zero_iff.mp hm] at e
    simp at e
  | succ m ih =>
    intro hp x y p e
    rcases List.eq_nil_or_concat a with rfl | ⟨b, q, rfl⟩
    · simp at hm
    · rw [List.concat_eq_append] at hp e hm ⊢
      have hq := hp.2 q (by simp)
      rw [fnd_app, List.nil_append]
      have hlen := fnd_len (bs := bs) f0 [] b
      rcases List.eq_nil_or_concat y with rfl | ⟨y', w, rfl⟩
      · have := List.append_inj' e rfl
        obtain ⟨rfl, e2⟩ := this
        cases e2
        rw [gi_set (by omega) (by omega), if_pos rfl]
      · rw [List.concat_eq_append] at e
        have e' : b ++ [q] = (x ++ p :: y') ++ [w] := by rw [e]; simp
        obtain ⟨e1, e2⟩ := List.append_inj' e' rfl
        cases e2
        have hb : PlOk n b := ⟨(List.nodup_append.mp hp.1).1, fun z hz => hp.2 z (by simp [hz])⟩
        have hne : p ≠ q := fun z => by
          have := (List.nodup_append.mp hp.1).2.2 p (by rw [e1]; simp) q (by simp)
          exact this z
        have hpp := hp.2 p (by rw [e1]; simp)
        rw [gi_set (by omega) (by omega), if_neg hne]
        exact ih (by simp at hm; omega) hb e1
theorem fnd_ch {f0 row : List Int} (ok : okB bs = true) (hf : f0.length = bs.length) (hp : PlOk bs.length row) (hl : row.length = bs.length) (hg : GoodO bs row) : Ch bs (fnd bs f0 [] row) := by
  refine Ch.of_at (by rw [fnd_len, hf]) fun k hk => ?_
  have hmem : (k : Int) ∈ row := by
    have := isort_full hp hl
    have h2 := (isort_perm row).mem_iff (a := (k : Int))
    rw [this] at h2
    exact h2.mp (ir_mem (by omega))
  obtain ⟨x, y, e⟩ := List.append_of_mem hmem
  rw [fnd_at hf hp e, rmx_app]
  have m := mx_le (rmx bs x) (lowAt bs k)
  have hb := (okB_iff.mp ok).2
  have a := at_mem hk
  have hbk := hb _ a.1
  rw [← a.2.1, ← a.2.2] at hbk
  have hx : rmx bs x ≤ highAt bs k := rmx_le (by omega) fun p hpx => by
    rw [e] at hg
    exact (List.pairwise_append.mp hg).2.2 p hpx k List.mem_cons_self
  omega
theorem fnd_up {f0 row : List Int} (hf : f0.length = bs.length) (hp : PlOk bs.length row) : (row.map fun p => gi (fnd bs f0 [] row) p).Pairwise (· ≤ ·) := by
  rw [List.pairwise_map]
  refine List.pairwise_iff_forall_sublist.mpr fun {a b} hs => ?_
  obtain ⟨x, y, e1, e2⟩ := List.cons_sublist_iff.mp hs
  obtain ⟨z, w, e3⟩ := List.append_of_mem (List.singleton_sublist.mp e2.2)
  obtain ⟨x1, x2, e4⟩ := List.append_of_mem e2.1
  have ha : row = x1 ++ a :: (x2 ++ y) := by rw [e1, e4]; simp
  have hb : row = (x1 ++ a :: x2 ++ z) ++ b :: w := by rw [e1, e4, e3]; simp
  rw [fnd_at hf hp ha, fnd_at hf hp hb]
  have := rmx_mono (bs := bs) (x1 ++ [a]) (x2 ++ z ++ [b])
  have e5 : x1 ++ [a] ++ (x2 ++ z ++ [b]) = x1 ++ a :: x2 ++ z ++ [b] := by simp
  rw [e5] at this
  exact this
end
end Pg

/-! Orders: what the defs compute; computations that make new objects (PU), and draw (DV) (k07, k10, k13, k15). -/
namespace Pg
open PySem L2 Dt
/-- m gives a, and makes at most new objects -/
structure PU {α : Type} (m : M α) (a : α) : Prop where
  go : ∀ (W : Wd) (Q : α → Wd → Prop) (E : Err → Wd → Prop), (∀ X, Q a (W ++ X)) → wp m W Q E
structure PX {α : Type} (m : M α) (er : Err) : Prop where
  go : ∀ (W : Wd) (Q : α → Wd → Prop) (E : Err → Wd → Prop), (∀ X, E er (W ++ X)) → wp m W Q E
section
variable {α β : Type} {m : M α} {a : α} {f : α → M β} {b : β} {er : Err}
theorem PU.of (e : m = .ret a) : PU m a := ⟨fun W Q E h => by rw [e]; have := h []; rw [List.append_nil] at this; exact this⟩
theorem PX.of (e : m = .raise er) : PX m er := ⟨fun W Q E h => by rw [e]; have := h []; rw [List.append_nil] at this; exact this⟩
theorem PU.bind (h1 : PU m a) (h2 : PU (f a) b) : PU (m.bind f) b := ⟨fun W Q E h => (wp_bind _ _ _ _ _).mpr (h1.go W _ E fun X => h2.go (W ++ X) Q E fun Y => by rw [List.append_assoc]; exact h (X ++ Y))⟩
theorem PU.bindX (h1 : PU m a) (h2 : PX (f a) er) : PX (m.bind f) er := ⟨fun W Q E h => (wp_bind _ _ _ _ _).mpr (h1.go W _ E fun X => h2.go (W ++ X) Q E fun Y => by rw [List.append_assoc]; exact h (X ++ Y))⟩
theorem PX.bind (h1 : PX m er) : PX (m.bind f) er := ⟨fun W Q E h => (wp_bind _ _ _ _ _).mpr (h1.go W _ E h)⟩
theorem PU.of_du (h : ∀ W, DU W m fun r W' => r = a ∧ ∃ X, W' = W ++ X) : PU m a := ⟨fun W Q E hq => wp_mono (h W).go (fun r W' e => by obtain ⟨rfl, X, rfl⟩ := e; exact hq X) fun _ _ z => z.elim⟩
theorem PU.du (h : PU m a) {W : Wd} {S : α → Wd → Prop} (hS : ∀ X, S a (W ++ X)) : DU W m S := ⟨h.go W S _ hS⟩
end
section
variable {en en' : En} {fa fb : En → M RV} {fs : En → M (List AV)} {i j : Nat} {f : AV → AV → M RV} {F : List AV → M RV} {r r' r2 : RV} {as : List AV} {s1 s2 : En → M Out} {ga gb : En → M Bool} {o : Out} {er : Err} {k l : Bool}
theorem pue_bin (h1 : PU (fa en) r) (h2 : PU (fb en) r') (h3 : PU (f r.1 r'.1) r2) : PU (dBin f fa fb en) r2 := PU.bind h1 (PU.bind h2 h3)
theorem pue_call (h1 : PU (fs en) as) (h2 : PU (F as) r) : PU (dCall F fs en) r := PU.bind h1 h2
theorem pua_cons (h1 : PU (fa en) r) (h2 : PU (fs en) as) : PU (aCons fa fs en) (r.1 :: as) := PU.bind h1 (PU.bind h2 (PU.of rfl))
theorem put_val (h : PU (fa en) (.d (.bool k), l)) : PU (dTest fa en) k := PU.bind h (PU.of rfl)
theorem put_not (h : PU (ga en) k) : PU (dNot ga en) (!k) := PU.bind h (PU.of rfl)
theorem put_or (h1 : PU (ga en) k) (h2 : k = false → PU (gb en) l) : PU (dOr ga gb en) (k || l) := PU.bind h1 (by
  cases k with
  | true => exact PU.of rfl
  | false => exact h2 rfl)
theorem pue_and (h1 : PU (fa en) (.d (.bool k), false)) (h2 : k = true → PU (fb en) (.d (.bool l), false)) : PU (dAndV fa fb en) (.d (.bool (k && l)), false) := PU.bind h1 (PU.bind (PU.of rfl) (by
  cases k with
  | true => exact h2 rfl
  | false => exact PU.of rfl))
theorem pus_seq (h1 : PU (s1 en) (.nx en')) (h2 : PU (s2 en') o) : PU (sSeq s1 s2 en) o := PU.bind h1 h2
theorem pus_set (h : PU (fa (hide en)) r) : PU (sSet i fa en) (.nx (en.set i (some (.v r.1)))) := PU.bind h (PU.of rfl)
theorem pus_ret (h : PU (fa (expo en)) r) : PU (sRet fa en) (.rt r) := PU.bind h (PU.of rfl)
theorem pus_expr (h : PU (fa (expo en)) r) : PU (sExpr fa en) (.nx en) := PU.bind h (PU.of rfl)
theorem pus_ifF (h : PU (ga (expo en)) false) (h2 : PU (s2 en) o) : PU (sIf ga s1 s2 en) o := PU.bind h h2
theorem pus_ifT (h : PU (ga (expo en)) true) (h2 : PU (s1 en) o) : PU (sIf ga s1 s2 en) o := PU.bind h h2
theorem pu_run {n k : Nat} {bb : En → M Out} (hl : as.length = n) (h : PU (bb (enOf k as)) (.rt r)) : PU (runF n k bb as) r := by
  unfold runF
  rw [if_pos hl]
  exact PU.bind h (PU.of rfl)
theorem pu_is {α : Type} {m : M α} {a b : α} (h : PU m a) (e : a = b) : PU m b := e ▸ h
end
/-! ### draws and new objects -/
structure DV {α : Type} (m : M α) (S : α → Prop) : Prop where
  go : ∀ W : Wd, W[0]? = some .dr → wp m W (fun a W' => W'[0]? = some .dr ∧ S a) (fun _ _ => False)
section
variable {α β : Type}
theorem DV.mono {m : M α} {S T : α → Prop} (h : DV m S) (i : ∀ a, S a → T a) : DV m T := ⟨fun W h0 => wp_mono (h.go W h0) (fun a W' e => ⟨e.1, i a e.2⟩) fun _ _ z => z⟩
theorem DV.dw {m : M α} {S : α → Prop} (h : DW m S) : DV m S := ⟨fun W h0 => wp_mono (h.go W h0) (fun a W' e => ⟨by rw [e.1]; exact h0, e.2⟩) fun _ _ z => z⟩
theorem DV.pu {m : M α} {a : α} {S : α → Prop} (h : PU m a) (hS : S a) : DV m S := ⟨fun W h0 => h.go W _ _ fun X => ⟨by
  cases W with
  | nil => cases h0
  | cons w W => exact h0, hS⟩⟩
theorem DV.of {m : M α} {a : α} {S : α → Prop} (e : m = .ret a) (h : S a) : DV m S := DV.pu (PU.of e) h
theorem DV.ret {a : α} {S : α → Prop} (h : S a) : DV (.ret a) S := DV.of rfl h
theorem DV.bind {m : M α} {f : α → M β} {S : β → Prop} (h : DV m fun a => DV (f a) S) : DV (m.bind f) S := ⟨fun W h0 => (wp_bind _ _ _ _ _).mpr (wp_mono (h.go W h0) (fun a W' e => e.2.go W' e.1) fun _ _ z => z)⟩
theorem DV.draw {l : Int} {S : RV → Prop} (h0 : 0 < l) (h1 : l < 1073741824) (h : ∀ r, 0 ≤ r → r < l → S (dI r, false)) : DV (F__law_draw [.ob 0, dI l]) S := DV.dw (DW.draw h0 h1 h)
end
section
variable {en : En} {fa fb : En → M RV} {fs : En → M (List AV)} {i j : Nat} {f : AV → AV → M RV} {F : List AV → M RV} {S : RV → Prop} {SA : List AV → Prop} {SO : Out → Prop} {s1 s2 : En → M Out} {ga gb : En → M Bool} {SB : Bool → Prop}
theorem dve_bin (h : DV (fa en) fun r => DV (fb en) fun r' => DV (f r.1 r'.1) S) : DV (dBin f fa fb en) S := DV.bind (h.mono fun _ h => DV.bind h)
theorem dve_call (h : DV (fs en) fun as => DV (F as) S) : DV (dCall F fs en) S := DV.bind h
theorem dva_cons (h : DV (fa en) fun r => DV (fs en) fun as => SA (r.1 :: as)) : DV (aCons fa fs en) SA := DV.bind (h.mono fun _ h => DV.bind (h.mono fun _ h => DV.ret h))
theorem dve_lst (h : DV (fs en) fun as => ∃ ds, datas as = some ds ∧ S (.d (.list ds), true)) : DV (dLst fs en) S := DV.bind (h.mono fun as h => by obtain ⟨ds, e, h⟩ := h; rw [e]; exact DV.ret h)
theorem dve_tup (h : DV (fs en) fun as => ∃ ds, datas as = some ds ∧ S (.d (.tuple ds), false)) : DV (dTup fs en) S := DV.bind (h.mono fun as h => by obtain ⟨ds, e, h⟩ := h; rw [e]; exact DV.ret h)
theorem dvs_seq (h : DV (s1 en) fun o => ∃ en', o = .nx en' ∧ DV (s2 en') SO) : DV (sSeq s1 s2 en) SO := DV.bind (h.mono fun o h => by obtain ⟨en', rfl, h⟩ := h; exact h)
theorem dvs_pure {en' : En} (h1 : s1 en = .ret (.nx en')) (h2 : DV (s2 en') SO) : DV (sSeq s1 s2 en) SO := by
  unfold sSeq
  rw [h1]
  exact h2
theorem dvs_pu {en' : En} (h1 : PU (s1 en) (.nx en')) (h2 : DV (s2 en') SO) : DV (sSeq s1 s2 en) SO := DV.bind (DV.pu h1 h2)
theorem dvs_set (h : DV (fa (hide en)) fun r => SO (.nx (en.set i (some (.v r.1))))) : DV (sSet i fa en) SO := DV.bind (h.mono fun r h => DV.ret h)
theorem dvs_ret (h : DV (fa (expo en)) fun r => SO (.rt r)) : DV (sRet fa en) SO := DV.bind (h.mono fun r h => DV.ret h)
theorem dvs_ifP {k : Bool} (hg : PU (ga (expo en)) k) (h1 : k = true → DV (s1 en) SO) (h2 : k = false → DV (s2 en) SO) : DV (sIf ga s1 s2 en) SO := DV.bind (DV.pu hg (by
  cases k with
  | true => exact h1 rfl
  | false => exact h2 rfl))
theorem dvs_for {sl : List Nat} {bd : PyData → Option (List PyData)} {it : En → M (List PyData)} (h : DV (it (hide en)) fun xs => DV (forL sl bd s1 xs en) SO) : DV (sFor sl bd it s1 en) SO := DV.bind h
theorem dv_run {n m : Nat} {as : List AV} {b : En → M Out} (hl : as.length = n) (h : DV (b (enOf m as)) fun o => ∃ r, o = .rt r ∧ S r) : DV (runF n m b as) S := by
  unfold runF
  rw [if_pos hl]
  exact DV.bind (h.mono fun o h => by obtain ⟨r, rfl, h⟩ := h; exact DV.ret h)
/-- a loop that only makes objects; its state told by the part done -/
theorem pu_forP' {α : Type} {emb : α → PyData} {sl : List Nat} {bd : PyData → Option (List PyData)} {s1 : En → M Out} {st : List α → En} :
    ∀ {xs pre0 : List α}, (∀ pre x post, pre0 ++ xs = pre ++ x :: post → ∃ ds, bd (emb x) = some ds ∧ PU (s1 (setE (st pre) sl ds)) (.nx (st (pre ++ [x])))) → PU (forL sl bd s1 (xs.map emb) (st pre0)) (.nx (st (pre0 ++ xs)))
  | [], pre0, _ => by rw [List.append_nil]; exact PU.of rfl
  | x :: xs, pre0, h1 => by
    obtain ⟨ds, e, h⟩ := h1 pre0 x xs rfl
    rw [List.map_cons]
    unfold forL
    rw [e]
    refine PU.bind h ?_
    have := pu_forP' (emb := emb) (sl := sl) (bd := bd) (s1 := s1) (st := st) (xs := xs) (pre0 := pre0 ++ [x]) fun pre x post e => h1 pre x post (by rw [← e]; simp)
    rw [show pre0 ++ [x] ++ xs = pre0 ++ x :: xs by simp] at this
    exact this
end
/-- the start of a law, with draws and new objects -/
theorem law_ofV {m : Nat} {b : En → M Out} {s : En → M Out} (e : b = sSeq (sSet 1 (dCall F__law_start (aCons (dVar 0) aNil))) s)
    (h : ∀ ns : List Int, ns.length ≤ 63 → DV (s (some (.v (.scr ns)) :: some (.v (.ob 0)) :: List.replicate m none)) fun o => o = .rt (.d (.bool true), false)) : LawTrue (runF 1 (m + 2) b) :=
  law_ofU e fun ns hl => ⟨wp_mono ((h ns hl).go [.dr] rfl) (fun _ _ e => e.2) fun _ _ z => z⟩
/-! ### memos -/
theorem du_memo {W : Wd} {en : En} {j : Nat} {b : List (Int × Int)} {S : RV → Wd → Prop} (h : en[j]? = some (some (.v (.d (dBs b))))) (hS : S (.ob W.length, false) (W ++ [.memo b])) : DU W (dMemo j en) S := by
  constructor
  unfold dMemo
  rw [h]
  dsimp only
  rw [pairsOf_map]
  exact hS
theorem du_ways {W : Wd} {i : Nat} {b : List (Int × Int)} {ds : List Int} {S : RV → Wd → Prop} (hw : W[i]? = some (.memo b)) (h7 : b.length ≤ 7) (hp : PlOk b.length ds) (hS : S (dI (cnt b ds), false) W) : DU W (F_ways_from [.d (dBs b), .d (dNs ds), .ob i]) S := by
  constructor
  show wp (fWaysD 7 _) _ _ _
  rw [ways_at h7 hp (by omega)]
  refine ⟨_, hw, ?_⟩
  dsimp only
  rw [if_pos rfl]
  exact hS
section
variable {bs : List (Int × Int)}
theorem count_orders_pu (ok : okB bs = true) : PU (F_count_orders [.d (dBs bs)]) (dI (cnt bs []), false) := by
  have hp := okB_pos ok
  refine PU.of_du fun W => ?_
  unfold F_count_orders b_count_orders
  refine du_run rfl (dus_pure (chk0 ok rfl) (dus_ret (due_call (dua_cons (DU.of (ev_var rfl) (dua_cons (DU.of (ev_lst ea_nil rfl) (dua_cons (du_memo rfl (DU.of ea_nil ?_)))))))))) 
  exact du_ways (ds := []) (List.getElem?_concat_length ..) (by omega) pl_nil ⟨_, rfl, rfl, _, rfl⟩
theorem es_seqB {s1 s2 : En → M Out} {en en' : En} (h1 : s1 en = .ret (.bk en')) : sSeq s1 s2 en = .ret (.bk en') := by unfold sSeq; rw [h1]; rfl
/-! ### order_at -/
abbrev oaEn (bs : List (Int × Int)) (r : Int) (i : Nat) (ds : List Int) (u4 u5 : Option Dt.Slot) : En := [some (.v (.d (dBs bs))), some (.v (dI r)), some (.v (.ob i)), some (.v (.d (dNs ds))), u4, u5]
abbrev oaBody : En → M Out := (sSeq (sSet 5 (dCall F_ways_from (aCons (dVar 0) (aCons (dBin oAdd (dVar 3) (dLst (aCons (dVar 4) aNil))) (aCons (dVar 2) aNil)))))
    (sSeq (sIf (dTest (dBin oLt (dVar 1) (dVar 5)))
    (sSeq (sSet 3 (dBin oAdd (dVar 3) (dLst (aCons (dVar 4) aNil))))
    sBreak)
    sNil)
    (sAug 1 (fun m n => m - n) (dVar 5))))
theorem add_ns {xs : List Int} (h : xs.length ≤ 100) (v : Int) : oAdd (.d (dNs xs)) (.d (.list [.int v])) = .ret (.d (dNs (xs ++ [v])), true) := op_add_app (ys := []) (r := .none) (by have := lim_big; omega) v
theorem oa_for {W : Wd} {i : Nat} {ds : List Int} (hw : W[i]? = some (.memo bs)) (h7 : bs.length ≤ 7) (hp : PlOk bs.length ds) : ∀ {ks : List Int} {r : Int} {u4 u5 : Option Dt.Slot}, (∀ k ∈ ks, k ∈ leftP bs ds) → 0 ≤ r → r < (ks.map fun k => cnt bs (ds ++ [k])).sum →
    DU W (forL [4] bdN oaBody (ks.map PyData.int) (oaEn bs r i ds u4 u5)) fun o W' => W' = W ∧ ∃ pre k post r' v4 v5, ks = pre ++ k :: post ∧ r = (pre.map fun k => cnt bs (ds ++ [k])).sum + r' ∧ (0 ≤ r' ∧ r' < cnt bs (ds ++ [k])) ∧ o = .nx (oaEn bs r' i (ds ++ [k]) v4 v5)
  | [], r, u4, u5, _, h0, h1 => by simp at h1; omega
  | k :: ks, r, u4, u5, hk, h0, h1 => by
    have hl := pl_len hp
    have hp' := hp.more (hk k List.mem_cons_self)
    rw [List.map_cons]
    unfold forL
    show DU W (M.bind (oaBody (oaEn bs r i ds (some (.v (dI k))) u5)) _) _
    have add : ∀ en : En, en[3]? = some (some (.v (.d (dNs ds)))) → en[4]? = some (some (.v (dI k))) → dBin oAdd (dVar 3) (dLst (aCons (dVar 4) aNil)) en = .ret (.d (dNs (ds ++ [k])), true) := fun en e3 e4 => ev_bin (ev_var e3) (ev_lst (ea_cons (ev_var e4) ea_nil) rfl) (add_ns (by omega) k)
    refine DU.bind (dus_seq (dus_set (due_call (DU.of (a := [.d (dBs bs), .d (dNs (ds ++ [k])), .ob i]) (ea_cons (ev_var rfl) (ea_cons (add _ rfl rfl) (ea_cons (ev_var rfl) ea_nil))) (du_ways hw h7 hp' ⟨_, rfl, ?_⟩)))))
    by_cases c : r < cnt bs (ds ++ [k])
    · have e : (sSeq (sIf (dTest (dBin oLt (dVar 1) (dVar 5)))
    (sSeq (sSet 3 (dBin oAdd (dVar 3) (dLst (aCons (dVar 4) aNil))))
    sBreak)
    sNil)
    (sAug 1 (fun m n => m - n) (dVar 5))) (oaEn bs r i ds (some (.v (dI k))) (some (.v (dI (cnt bs (ds ++ [k])))))) = .ret (.bk (oaEn bs r i (ds ++ [k]) (some (.v (dI k))) (some (.v (dI (cnt bs (ds ++ [k]))))))) := by
        have e1 : sIf (dTest (dBin oLt (dVar 1) (dVar 5))) (sSeq (sSet 3 (dBin oAdd (dVar 3) (dLst (aCons (dVar 4) aNil)))) sBreak) sNil (oaEn bs r i ds (some (.v (dI k))) (some (.v (dI (cnt bs (ds ++ [k])))))) = .ret (.bk (oaEn bs r i (ds ++ [k]) (some (.v (dI k))) (some (.v (dI (cnt bs (ds ++ [k]))))))) := by
          refine es_ifTY (ev_is (et_val (ev_bin (ev_var rfl) (ev_var rfl) (op_lt_i _ _))) (decide_eq_true c)) ?_
          exact es_seqY (es_set (add _ rfl rfl)) rfl
        exact es_seqB e1
      exact DU.of e (DU.ret ⟨rfl, [], k, ks, r, _, _, rfl, by simp, ⟨h0, c⟩, rfl⟩)
    · have e : (sSeq (sIf (dTest (dBin oLt (dVar 1) (dVar 5)))
    (sSeq (sSet 3 (dBin oAdd (dVar 3) (dLst (aCons (dVar 4) aNil))))
    sBreak)
    sNil)
    (sAug 1 (fun m n => m - n) (dVar 5))) (oaEn bs r i ds (some (.v (dI k))) (some (.v (dI (cnt bs (ds ++ [k])))))) = .ret (.nx (oaEn bs (r - cnt bs (ds ++ [k])) i ds (some (.v (dI k))) (some (.v (dI (cnt bs (ds ++ [k]))))))) :=
        es_seq (es_ifF (ev_is (et_val (ev_bin (ev_var rfl) (ev_var rfl) (op_lt_i _ _))) (decide_eq_false c)) es_nil) (es_aug (g := fun m n => m - n) rfl (ev_var rfl))
      refine DU.of e ?_
      rw [List.map_cons, List.sum_cons] at h1
      refine (oa_for hw h7 hp (ks := ks) (r := r - cnt bs (ds ++ [k])) (fun j hj => hk j (List.mem_cons_of_mem _ hj)) (by omega) (by omega)).mono fun o W' ho => ?_
      obtain ⟨rfl, pre, k', post, r', v4, v5, e1, e2, e3, e4⟩ := ho
      exact ⟨rfl, k :: pre, k', post, r', v4, v5, by rw [e1]; rfl, by rw [List.map_cons, List.sum_cons]; omega, e3, e4⟩
theorem oa_while {W : Wd} {i : Nat} (hw : W[i]? = some (.memo bs)) (h7 : bs.length ≤ 7) : ∀ {n fu : Nat} {ds : List Int} {r : Int} {u4 u5 : Option Dt.Slot}, ds.length + n = bs.length → n < fu → PlOk bs.length ds → 0 ≤ r → r < cnt bs ds →
    DU W (whileL (dTest (dBin oLt (dCall bLen (aCons (dVar 3) aNil)) (dCall bLen (aCons (dVar 0) aNil)))) (sFor [4] bdN (iSeqD (dCall F_next_places (aCons (dVar 0) (aCons (dVar 3) aNil)))) oaBody) fu (oaEn bs r i ds u4 u5)) fun o W' => W' = W ∧ ∃ row r' v4 v5, (extF bs n ds)[r.toNat]? = some row ∧ o = .nx (oaEn bs r' i row v4 v5)
  | _, 0, _, _, _, _, _, h, _, _, _ => by omega
  | 0, fu + 1, ds, r, u4, u5, hn, _, hp, h0, h1 => by
    have e : whileL (dTest (dBin oLt (dCall bLen (aCons (dVar 3) aNil)) (dCall bLen (aCons (dVar 0) aNil)))) (sFor [4] bdN (iSeqD (dCall F_next_places (aCons (dVar 0) (aCons (dVar 3) aNil)))) oaBody) (fu + 1) (oaEn bs r i ds u4 u5) = .ret (.nx (oaEn bs r i ds u4 u5)) :=
      whileL_end (ev_is (et_val (ev_bin (ev_call (ea_cons (ev_var rfl) ea_nil) (b_len_ns _)) (ev_call (ea_cons (ev_var rfl) ea_nil) (b_len_bs _)) (op_lt_i _ _))) (decide_eq_false (by omega)))
    rw [cnt_full (by omega)] at h1
    refine DU.of e ⟨rfl, ds, r, u4, u5, ?_, rfl⟩
    rw [show r.toNat = 0 by omega]
    rfl
  | n + 1, fu + 1, ds, r, u4, u5, hn, hf, hp, h0, h1 => by
    rw [cnt_step (by omega)] at h1
    unfold whileL
    refine DU.bind (DU.of (ev_is (et_val (ev_bin (ev_call (ea_cons (ev_var rfl) ea_nil) (b_len_ns _)) (ev_call (ea_cons (ev_var rfl) ea_nil) (b_len_bs _)) (op_lt_i _ _))) (decide_eq_true (by omega))) ?_)
    rw [if_pos rfl]
    refine DU.bind (dus_for (ei_list (ev_call (ea_cons (ev_var rfl) (ea_cons (ev_var rfl) ea_nil)) (next_places_eq (by omega)))) ?_)
    refine (oa_for hw h7 hp (fun k hk => nextP_sub hk) h0 h1).mono fun o W' ho => ?_
    obtain ⟨rfl, pre, k, post, r', v4, v5, e1, e2, e3, rfl⟩ := ho
    have hk : k ∈ nextP bs ds := by rw [e1]; simp
    refine (oa_while hw h7 (n := n) (fu := fu) (ds := ds ++ [k]) (r := r') (by rw [List.length_append]; show ds.length + 1 + n = _; omega) (by omega) (hp.more (nextP_sub hk)) e3.1 e3.2).mono fun o W' ho => ?_
    obtain ⟨rfl, row, r2, w4, w5, e4, e5⟩ := ho
    refine ⟨rfl, row, r2, w4, w5, ?_, e5⟩
    have lens : ∀ j, cnt bs (ds ++ [j]) = ((extF bs n (ds ++ [j])).length : Int) := fun j => by
      rw [cnt_ext (ds ++ [j]) (by rw [List.length_append]; show ds.length + 1 ≤ _; omega)]
      congr 3
      rw [List.length_append]
      show bs.length - (ds.length + 1) = n
      omega
    have e6 : (pre.map fun k => cnt bs (ds ++ [k])).sum = ((pre.flatMap fun k => extF bs n (ds ++ [k])).length : Int) := by
      rw [flat_sum]
      congr 1
      exact List.map_congr_left fun j _ => lens j
    rw [e6] at e2
    have e3' := e3.2
    rw [lens] at e3'
    rw [extF, e1, List.flatMap_append, List.flatMap_cons, List.getElem?_append_right (by omega), List.getElem?_append_left (by omega), ← e4]
    congr 1
    omega
theorem order_at_pu (ok : okB bs = true) {r : Int} (h0 : 0 ≤ r) (h1 : r < cnt bs []) : ∃ row, (extF bs bs.length [])[r.toNat]? = some row ∧ PU (F_order_at [.d (dBs bs), dI r]) (.d (dNs row), false) := by
  have hp := okB_pos ok
  have hlen : r.toNat < (extF bs bs.length []).length := by
    have := cnt_ext (bs := bs) [] (by simp)
    simp at this
    omega
  obtain ⟨row, hrow⟩ : ∃ row, (extF bs bs.length [])[r.toNat]? = some row := ⟨_, List.getElem?_eq_getElem hlen⟩
  refine ⟨row, hrow, PU.of_du fun W => ?_⟩
  unfold F_order_at b_order_at
  have hw : (W ++ [AObj.memo bs])[W.length]? = some (.memo bs) := List.getElem?_concat_length ..
  refine du_run rfl (dus_pure (chk0 ok rfl) (dus_seq (dus_set (du_memo rfl ⟨_, rfl, ?_⟩))))
  refine dus_seq (dus_if (DU.mono (S := fun k W' => k = false ∧ W' = W ++ [AObj.memo bs]) ?_ fun k W' hk => ?_))
  · refine DU.bind (dut_val (k := true) (due_call ?_))
    refine dua_cons (DU.of (ev_var rfl) (dua_cons (DU.of ev_c (dua_cons (due_bin (due_call ?_))))))
    refine DU.of (a := [.d (dBs bs), .d (dNs []), .ob W.length]) (ea_cons (ev_var rfl) (ea_cons (ev_lst ea_nil rfl) (ea_cons (ev_var rfl) ea_nil))) ?_
    refine du_ways hw (by omega) pl_nil ?_
    refine DU.of ev_c (DU.of (op_sub_i _ _) (DU.of ea_nil (DU.of (is_int_eq _ _ _) ⟨_, rfl, ?_⟩)))
    refine DU.ret ⟨?_, rfl⟩
    simp
    omega
  · obtain ⟨rfl, rfl⟩ := hk
    refine DU.of es_nil ⟨_, rfl, ?_⟩
    refine dus_pure (es_set (ev_lst ea_nil rfl)) ?_
    refine dus_seq ((oa_while hw (by omega) (n := bs.length) (fu := fuel) (ds := []) (r := r) (by simp) (Nat.lt_of_le_of_lt hp.1.2 (by unfold fuel; decide)) pl_nil h0 h1).mono fun o W' ho => ?_)
    obtain ⟨rfl, row', r', v4, v5, e1, rfl⟩ := ho
    rw [hrow] at e1
    cases e1
    refine ⟨_, rfl, DU.of (es_retV rfl) ⟨_, rfl, rfl, _, rfl⟩⟩
structure DXp {α : Type} (W : Wd) (m : M α) (E : Err → Wd → Prop) : Prop where
  go : ∀ Q : α → Wd → Prop, wp m W Q E
theorem dx_seqX {s1 s2 : En → M Out} {en : En} {W : Wd} {E : Err → Wd → Prop} (h : DXp W (s1 en) E) : DXp W (sSeq s1 s2 en) E := ⟨fun Q => (wp_bind _ _ _ _ _).mpr (h.go _)⟩
theorem dx_seqY {s1 s2 : En → M Out} {en : En} {W : Wd} {E : Err → Wd → Prop} (h : DU W (s1 en) fun o W' => ∃ en', o = .nx en' ∧ DXp W' (s2 en') E) : DXp W (sSeq s1 s2 en) E := ⟨fun Q => (wp_bind _ _ _ _ _).mpr (wp_mono h.go (fun o W' ho => by obtain ⟨en', rfl, h⟩ := ho; exact h.go Q) fun _ _ z => z.elim)⟩
theorem dx_ifT {ga : En → M Bool} {s1 s2 : En → M Out} {en : En} {W : Wd} {E : Err → Wd → Prop} (h : DU W (ga (expo en)) fun k W' => k = true ∧ DXp W' (s1 en) E) : DXp W (sIf ga s1 s2 en) E := ⟨fun Q => (wp_bind _ _ _ _ _).mpr (wp_mono h.go (fun k W' hk => by obtain ⟨rfl, h⟩ := hk; exact h.go Q) fun _ _ z => z.elim)⟩
theorem dx_raise {en : En} {er : Err} {W : Wd} {E : Err → Wd → Prop} (h : E er W) : DXp W (sRaise er en) E := ⟨fun _ => h⟩
theorem dx_run {n k : Nat} {as : List AV} {bb : En → M Out} {W : Wd} {E : Err → Wd → Prop} (hl : as.length = n) (h : DXp W (bb (enOf k as)) E) : DXp W (runF n k bb as) E := by
  unfold runF
  rw [if_pos hl]
  exact ⟨fun Q => (wp_bind _ _ _ _ _).mpr (h.go _)⟩
theorem PX.of_dx {α : Type} {m : M α} {er : Err} (h : ∀ W, DXp W m fun e W' => e = er ∧ ∃ X, W' = W ++ X) : PX m er := ⟨fun W Q E hE => wp_mono ((h W).go Q) (fun _ _ z => z) fun e W' he => by obtain ⟨rfl, X, rfl⟩ := he; exact hE X⟩
theorem order_at_px (ok : okB bs = true) {r : Int} (h : ¬ (0 ≤ r ∧ r < cnt bs [])) : PX (F_order_at [.d (dBs bs), dI r]) .number := by
  have hp := okB_pos ok
  refine PX.of_dx fun W => ?_
  have hw : (W ++ [AObj.memo bs])[W.length]? = some (.memo bs) := List.getElem?_concat_length ..
  unfold F_order_at b_order_at
  refine dx_run rfl (dx_seqY (DU.of (chk0 ok rfl) ⟨_, rfl, dx_seqY (dus_set (du_memo rfl ⟨_, rfl, ?_⟩))⟩))
  refine dx_seqX (dx_ifT ?_)
  refine DU.bind (dut_val (k := true) (due_call ?_))
  refine dua_cons (DU.of (ev_var rfl) (dua_cons (DU.of ev_c (dua_cons (due_bin (due_call ?_))))))
  refine DU.of (a := [.d (dBs bs), .d (dNs []), .ob W.length]) (ea_cons (ev_var rfl) (ea_cons (ev_lst ea_nil rfl) (ea_cons (ev_var rfl) ea_nil))) ?_
  refine du_ways hw (by omega) pl_nil ?_
  refine DU.of ev_c (DU.of (op_sub_i _ _) (DU.of ea_nil (DU.of (is_int_eq _ _ _) ⟨_, rfl, ?_⟩)))
  refine DU.ret ⟨?_, dx_raise ⟨rfl, _, rfl⟩⟩
  simp
  omega
end
end Pg

/-! Orders: checks, possible orders, ranks, the least choice, all orders (k05, k07, k19). -/
namespace Pg
open PySem L2 Dt
local macro_rules | `(tactic| walk_at "op") => `(tactic| first | (with_reducible exact op_add_i _ _) | (with_reducible exact op_sub_i _ _) | (with_reducible exact op_lt_i _ _) | (with_reducible exact op_le_i _ _) | (with_reducible exact op_gt_i _ _) | (with_reducible exact op_ge_i _ _) | (with_reducible exact op_eq_i _ _) | (with_reducible exact op_ne_i _ _) | (with_reducible exact op_ix_p0 _) | (with_reducible exact op_ix_p1 _) | (with_reducible exact op_ix_0 _ _) | (with_reducible exact op_ix_1 _ _ _) | (with_reducible exact op_isN_d) | (with_reducible exact op_notN_d) | (with_reducible exact op_isB_d _ _) | (with_reducible exact op_notB_d _ _) | (with_reducible exact b_len_p _) | (with_reducible exact b_len_l _) | (with_reducible exact b_len_t _) | (with_reducible exact b_sum _) | (with_reducible exact b_sorted _) | (with_reducible exact b_abs _) | (with_reducible exact b_max2 _ _) | (with_reducible exact b_min2 _ _) | ((with_reducible apply op_mod_i); with_reducible assumption) | ((with_reducible apply op_div_i); with_reducible assumption) | ((with_reducible apply op_mul_i); with_reducible assumption))
local macro_rules | `(tactic| walk_at "F") => `(tactic| walk_at "op")
local macro_rules | `(tactic| walk_at "A") => `(tactic| first | (with_reducible exact ea_nil) | ((with_reducible apply ea_cons); walk_at "E"; walk_at "A"))
local macro_rules | `(tactic| walk_at "T") => `(tactic| first | ((with_reducible apply et_val); walk_at "E") | ((with_reducible apply et_not); walk_at "T") | ((with_reducible apply et_or); walk_at "T"; (intro _; walk_at "T")) | ((with_reducible apply et_and); walk_at "T"; (intro _; walk_at "T")))
local macro_rules | `(tactic| walk_at "O") => `(tactic| first | (with_reducible exact eo_none) | ((with_reducible apply eo_some); walk_at "E"))
local macro_rules | `(tactic| walk_at "E") => `(tactic| first
  | (with_reducible exact ev_c)
  | ((with_reducible apply ev_var); rfl)
  | ((with_reducible apply ev_bin); walk_at "E"; walk_at "E"; walk_at "op")
  | ((with_reducible apply ev_call); walk_at "A"; walk_at "F")
  | ((with_reducible apply ev_tup); walk_at "A"; rfl)
  | ((with_reducible apply ev_lst); walk_at "A"; rfl)
  | ((with_reducible apply ev_neg); walk_at "E")
  | ((with_reducible apply ev_isi); walk_at "E")
  | ((with_reducible apply ev_not); walk_at "E")
  | ((with_reducible apply ev_and'); walk_at "E"; (intro _; walk_at "E"))
  | ((with_reducible apply ev_or'); walk_at "E"; (intro _; walk_at "E"))
  | ((with_reducible apply ev_chain); walk_at "E"; walk_at "E"; walk_at "E"; walk_at "op"; walk_at "op")
  | ((with_reducible apply ev_sl); walk_at "E"; walk_at "O"; walk_at "O")
  | ((with_reducible apply ev_rev); walk_at "E")
  | ((with_reducible apply ev_ifT); ((with_reducible apply ev_is); walk_at "T"; rfl); walk_at "E")
  | ((with_reducible apply ev_ifF); ((with_reducible apply ev_is); walk_at "T"; rfl); walk_at "E"))
local macro_rules | `(tactic| walk_at "I") => `(tactic| first | ((with_reducible apply ei_list); walk_at "E"; done) | ((with_reducible apply ei_tup); walk_at "E") | ((with_reducible apply ei_enum); walk_at "A") | ((with_reducible apply ei_zip); walk_at "A"))
local macro_rules | `(tactic| walk_at "S") => `(tactic| first
  | (with_reducible exact es_nil)
  | ((with_reducible apply es_retV); rfl)
  | ((with_reducible apply es_retO); rfl)
  | ((with_reducible apply es_ret); walk_at "E")
  | ((with_reducible apply es_seq); walk_at "S"; walk_at "S")
  | ((with_reducible apply es_expr); walk_at "E")
  | ((with_reducible apply es_set); walk_at "E")
  | ((with_reducible apply es_setO); walk_at "E")
  | ((with_reducible apply es_par); walk_at "A")
  | ((with_reducible apply es_asgT); walk_at "E"; rfl)
  | ((with_reducible apply es_ifF); ((with_reducible apply ev_is); walk_at "T"; (first | rfl | with_reducible assumption)); walk_at "S")
  | ((with_reducible apply es_ifT); ((with_reducible apply ev_is); walk_at "T"; (first | rfl | with_reducible assumption)); walk_at "S"))
local macro_rules | `(tactic| walk_at "F") => `(tactic| with_reducible exact is_int_eq _ _ _)
local macro_rules | `(tactic| walk_at "F") => `(tactic| with_reducible exact is_bound_eq _)
local macro_rules | `(tactic| walk_at "F") => `(tactic| ((with_reducible apply is_bounds_eq); exact okB_len (by with_reducible assumption)))
local macro_rules | `(tactic| walk_at "F") => `(tactic| ((with_reducible apply check_ok); with_reducible assumption))
local macro_rules | `(tactic| walk_at "F") => `(tactic| ((with_reducible apply lows_eq); exact okB_len (by with_reducible assumption)))
local macro_rules | `(tactic| walk_at "F") => `(tactic| ((with_reducible apply highs_eq); exact okB_len (by with_reducible assumption)))
local macro_rules | `(tactic| walk_at "F") => `(tactic| ((with_reducible apply sum_range_eq); with_reducible assumption))
local macro_rules | `(tactic| walk_at "F") => `(tactic| ((with_reducible apply mean_range_eq); with_reducible assumption))
local macro_rules | `(tactic| walk_at "F") => `(tactic| ((with_reducible apply median_range_eq); with_reducible assumption))
local macro_rules | `(tactic| walk_at "F") => `(tactic| ((with_reducible apply least_range_eq); with_reducible assumption))
local macro_rules | `(tactic| walk_at "F") => `(tactic| ((with_reducible apply greatest_range_eq); with_reducible assumption))
local macro_rules | `(tactic| walk_at "F") => `(tactic| ((with_reducible apply choices_eq) <;> with_reducible assumption))
local macro_rules | `(tactic| walk_at "F") => `(tactic| ((with_reducible apply b_min); with_reducible assumption))
local macro_rules | `(tactic| walk_at "F") => `(tactic| ((with_reducible apply b_max); with_reducible assumption))
local macro_rules | `(tactic| walk_at "L") => `(tactic| first | with_reducible assumption | exact okB_len (by with_reducible assumption) | (simp only [List.length_map, irange_len, List.length_range]; omega))
local macro_rules | `(tactic| walk_at "I") => `(tactic| (first | ((with_reducible apply ei_rng1); walk_at "A"; omega) | ((with_reducible apply ei_rng2); walk_at "A"; omega)))
local macro_rules | `(tactic| walk_at "E") => `(tactic| first
  | ((with_reducible apply ev_compB); walk_at "I"; walk_at "L"; (intro _ _; walk_at "E"))
  | ((with_reducible apply ev_compBF); walk_at "I"; walk_at "L"; (intro _ _; walk_at "T"); (intro _ _ _; walk_at "E"))
  | ((with_reducible apply ev_compN); walk_at "I"; walk_at "L"; (intro _ _; walk_at "E"))
  | ((with_reducible apply ev_compNF); walk_at "I"; walk_at "L"; (intro _ _; walk_at "T"); (intro _ _ _; walk_at "E")))
local macro_rules | `(tactic| walk_at "F") => `(tactic| first | (with_reducible exact b_sum' _ _) | (with_reducible exact b_all' _ _) | (with_reducible exact b_any' _ _) | (with_reducible exact b_sorted' _ _))
local macro_rules | `(tactic| walk_at "op") => `(tactic| first | (with_reducible exact b_len_bs _) | (with_reducible exact b_len_ns _) | ((with_reducible apply op_ix_bs) <;> omega) | ((with_reducible apply op_ix_ns) <;> omega))
section
variable {bs : List (Int × Int)} {row : List Int}
structure Od (bs : List (Int × Int)) (row : List Int) : Prop where
  pl : PlOk bs.length row
  len : row.length = bs.length
theorem check_order_eq (hn : bs.length ≤ 7) (h : Od bs row) : F_check_order [.d (dBs bs), .d (dNs row)] = .ret (.d .none, false) := by
  have hlim := lim_big
  have hl := h.len
  have comp : dComp [2] [2] bdN (iSeqD (dVar 1)) yes (dCall F_is_int (aCons (dVar 2) (aCons (dC (.int 0)) (aCons (dBin oSub (dCall bLen (aCons (dVar 0) aNil)) (dC (.int 1))) aNil)))) (expo (enOf 3 [.d (dBs bs), .d (dNs row)])) = .ret (.d (.list (row.map fun k => .bool (decide (0 ≤ k) && decide (k ≤ (bs.length : Int) - 1)))), true) :=
    ev_compN (xs := row) (emb := PyData.int) (b := false) (ei_list (u := false) (ev_var rfl)) (by omega) fun k _ => ev_call (ea_cons (ev_var rfl) (ea_cons ev_c (ea_cons (ev_bin (ev_call (ea_cons (ev_var rfl) ea_nil) (b_len_bs _)) ev_c (op_sub_i _ _)) ea_nil))) (is_int_eq _ _ _)
  unfold F_check_order b_check_order
  refine run_nx rfl (es_seq (es_ifF (ev_is (et_or (k := false) (et_not (k := true) (et_val (ev_isiT (ev_var rfl) rfl))) fun _ => et_not (k := true) (et_val (ev_is' (r := (.d .none, false)) (ev_call (ea_cons comp ea_nil) (b_all' _ _)) ?_))) rfl) es_nil) (es_ifF (et_val (ev_bin (ev_call (ea_cons (ev_var rfl) ea_nil) (b_sorted row)) (ev_listR (n := (bs.length : Int)) (ev_call (ea_cons (ev_var rfl) ea_nil) (b_len_bs _)) (by omega)) (ne_same (Nc.ns _) ?_ (by decide)))) es_nil))
  · have : (row.all fun k => decide (0 ≤ k) && decide (k ≤ (bs.length : Int) - 1)) = true := by
      rw [List.all_eq_true]
      intro k hk
      have := h.pl.2 k hk
      simp
      omega
    rw [this]
  · rw [isort_full h.pl h.len]
    rfl
/-! ### possible -/
def posAt (bs : List (Int × Int)) (row : List Int) (k j : Int) : Bool := decide (highAt bs (gi row k) < lowAt bs (gi row j))
abbrev ipBody : En → M Out := (sIf (dTest (dBin oGt (dBin oIx (dBin oIx (dVar 0) (dBin oIx (dVar 1) (dVar 3))) (dC (.int 0))) (dBin oIx (dBin oIx (dVar 0) (dBin oIx (dVar 1) (dVar 2))) (dC (.int 1)))))
    (sRet (dC (.bool false)))
    sNil)
abbrev ipEn (bs : List (Int × Int)) (row : List Int) (u2 u3 : Option Dt.Slot) : En := [some (.v (.d (dBs bs))), some (.v (.d (dNs row))), u2, u3]
theorem ip_test (h : Od bs row) {k j : Int} (hk : 0 ≤ k ∧ k < row.length) (hj : 0 ≤ j ∧ j < row.length) : dTest (dBin oGt (dBin oIx (dBin oIx (dVar 0) (dBin oIx (dVar 1) (dVar 3))) (dC (.int 0))) (dBin oIx (dBin oIx (dVar 0) (dBin oIx (dVar 1) (dVar 2))) (dC (.int 1)))) (expo (ipEn bs row (some (.v (dI k))) (some (.v (dI j))))) = .ret (posAt bs row k j) := by
  have m : ∀ i : Int, 0 ≤ i → i < row.length → 0 ≤ gi row i ∧ gi row i < bs.length := fun i h0 h1 => by
    have hi : i.toNat < row.length := by omega
    have e : gi row i = row[i.toNat] := by show row.getD i.toNat 0 = _; rw [List.getD_eq_getElem?_getD, List.getElem?_eq_getElem hi]; rfl
    rw [e]
    exact h.pl.2 _ (List.getElem_mem hi)
  have ek := op_ix_ns (ns := row) (k := k) (by omega) (by omega)
  have ej := op_ix_ns (ns := row) (k := j) (by omega) (by omega)
  have fk := op_ix_bs (bs := bs) (k := gi row k) (m k hk.1 hk.2).1 (m k hk.1 hk.2).2
  have fj := op_ix_bs (bs := bs) (k := gi row j) (m j hj.1 hj.2).1 (m j hj.1 hj.2).2
  exact et_val (ev_bin (ev_bin (ev_bin (ev_var rfl) (ev_bin (ev_var rfl) (ev_var rfl) ej) fj) ev_c rfl) (ev_bin (ev_bin (ev_var rfl) (ev_bin (ev_var rfl) (ev_var rfl) ek) fk) ev_c rfl) (op_gt_i _ _))
/-- a loop that returns at the first hit -/
theorem for_hit {α : Type} {emb : α → PyData} {sl : List Nat} {bd : PyData → Option (List PyData)} {s1 : En → M Out} {R : En → Prop} {hit : α → Bool} {r : RV} :
    ∀ {xs : List α} {en : En}, R en → (∀ x ∈ xs, ∀ en, R en → ∃ ds, bd (emb x) = some ds ∧ ((hit x = true ∧ s1 (setE en sl ds) = .ret (.rt r)) ∨ (hit x = false ∧ ∃ en', s1 (setE en sl ds) = .ret (.nx en') ∧ R en'))) → (xs.any hit = true ∧ forL sl bd s1 (xs.map emb) en = .ret (.rt r)) ∨ (xs.any hit = false ∧ ∃ en', forL sl bd s1 (xs.map emb) en = .ret (.nx en') ∧ R en')
  | [], en, h0, _ => .inr ⟨rfl, en, rfl, h0⟩
  | x :: xs, en, h0, h => by
    obtain ⟨ds, e, h1⟩ := h x List.mem_cons_self en h0
    rw [List.map_cons, List.any_cons]
    unfold forL
    rw [e]
    dsimp only
    rcases h1 with ⟨h1, h2⟩ | ⟨h1, en', h2, h3⟩
    · rw [h1, h2]; exact .inl ⟨rfl, rfl⟩
    · rw [h1, h2, ret_bind, Bool.false_or]
      exact for_hit h3 fun y hy => h y (List.mem_cons_of_mem _ hy)
def badO (bs : List (Int × Int)) (row : List Int) : Bool := (irange 0 row.length).any fun k => (irange 0 k.toNat).any (posAt bs row k)
theorem is_possible_eq (hn : bs.length ≤ 7) (h : Od bs row) : F_is_possible [.d (dBs bs), .d (dNs row)] = rB (!badO bs row) := by
  have hl := h.len
  have outer := for_hit (emb := PyData.int) (sl := [2]) (bd := bdN) (s1 := sFor [3] bdN (iRangeD1 (aCons (dVar 2) aNil)) ipBody) (R := fun en => ∃ u2 u3, en = ipEn bs row u2 u3) (hit := fun k => (irange 0 k.toNat).any (posAt bs row k)) (r := (.d (.bool false), false)) (xs := irange 0 row.length) (en := ipEn bs row none none) ⟨_, _, rfl⟩ (by
    rintro k hk en ⟨u2, u3, rfl⟩
    have bk := mem_ir hk
    refine ⟨_, rfl, ?_⟩
    have inner := for_hit (emb := PyData.int) (sl := [3]) (bd := bdN) (s1 := ipBody) (R := fun en => ∃ u3, en = ipEn bs row (some (.v (dI k))) u3) (hit := posAt bs row k) (r := (.d (.bool false), false)) (xs := irange 0 k.toNat) (en := ipEn bs row (some (.v (dI k))) u3) ⟨_, rfl⟩ (by
      rintro j hj en ⟨u3, rfl⟩
      have bj := mem_ir hj
      refine ⟨_, rfl, ?_⟩
      have t := ip_test h (k := k) (j := j) (by omega) (by omega)
      cases e : posAt bs row k j with
      | true => exact .inl ⟨rfl, es_ifT (ev_is t e) (es_ret ev_c)⟩
      | false => exact .inr ⟨rfl, _, es_ifF (ev_is t e) es_nil, _, rfl⟩)
    have it : iRangeD1 (aCons (dVar 2) aNil) (hide (ipEn bs row (some (.v (dI k))) u3)) = .ret ((irange 0 k.toNat).map PyData.int) := ei_rng1 (n := k) (ea_cons (ev_var rfl) ea_nil) (by omega)
    rcases inner with ⟨h1, h2⟩ | ⟨h1, en', h2, u3', rfl⟩
    · exact .inl ⟨h1, es_for it h2⟩
    · exact .inr ⟨h1, _, es_for it h2, _, _, rfl⟩)
  have it : iRangeD1 (aCons (dCall bLen (aCons (dVar 1) aNil)) aNil) (hide (enOf 4 [.d (dBs bs), .d (dNs row)])) = .ret ((irange 0 row.length).map PyData.int) := ei_rng1 (n := (row.length : Int)) (ea_cons (ev_call (ea_cons (ev_var rfl) ea_nil) (b_len_ns _)) ea_nil) (by omega)
  unfold F_is_possible b_is_possible
  rcases outer with ⟨h1, h2⟩ | ⟨h1, en', h2, u2, u3, rfl⟩
  · rw [show badO bs row = true from h1]
    exact run_rt rfl (es_seqR (es_for it h2))
  · rw [show badO bs row = false from h1]
    exact run_rt rfl (es_seq (es_for it h2) (es_ret ev_c))
theorem badO_iff : badO bs row = false ↔ GoodO bs row := by
  unfold badO
  rw [List.any_eq_false]
  constructor
  · intro h
    rw [GoodO, List.pairwise_iff_getElem]
    intro i j hi hj hij
    have h1 := h (j : Int) (ir_mem (by omega))
    rw [Bool.not_eq_true, List.any_eq_false] at h1
    have h2 := h1 (i : Int) (ir_mem (by omega))
    unfold posAt at h2
    rw [gi_nat hi, gi_nat hj] at h2
    simp at h2
    exact h2
  · intro h k hk
    have bk := mem_ir hk
    rw [Bool.not_eq_true, List.any_eq_false]
    intro j hj
    have bj := mem_ir hj
    rw [GoodO, List.pairwise_iff_getElem] at h
    have := h j.toNat k.toNat (by omega) (by omega) (by omega)
    unfold posAt
    have e1 : gi row k = row[k.toNat]'(by omega) := by have := gi_nat (c := row) (k := k.toNat) (by omega); rw [← this, show ((k.toNat : Nat) : Int) = k by omega]
    have e2 : gi row j = row[j.toNat]'(by omega) := by have := gi_nat (c := row) (k := j.toNat) (by omega); rw [← this, show ((j.toNat : Nat) : Int) = j by omega]
    rw [e1, e2]
    simp
    exact this
theorem badO_dec : (!badO bs row) = decide (GoodO bs row) := by
  rw [Bool.eq_iff_iff, Bool.not_eq_true', badO_iff, decide_eq_true_eq]
theorem can_be_order_eq (ok : okB bs = true) (h : Od bs row) : F_can_be_order [.d (dBs bs), .d (dNs row)] = rB (decide (GoodO bs row)) := by
  have hp := okB_pos ok
  rw [← badO_dec]
  unfold F_can_be_order b_can_be_order
  exact run_rt rfl (es_seq (chk0 ok rfl) (es_seq (es_expr (ev_call (ea_cons (ev_var rfl) (ea_cons (ev_var rfl) ea_nil)) (check_order_eq hp.1.2 h))) (es_ret (ev_call (ea_cons (ev_var rfl) (ea_cons (ev_var rfl) ea_nil)) (is_possible_eq hp.1.2 h)))))
/-! ### the least choice -/
abbrev zeros (n : Nat) : List Int := List.replicate n 0
theorem choice_for_no (ok : okB bs = true) (h : Od bs row) (hg : ¬ GoodO bs row) : F_choice_for [.d (dBs bs), .d (dNs row)] = .raise .missing := by
  have hp := okB_pos ok
  have e := is_possible_eq hp.1.2 h
  rw [badO_dec, decide_eq_false hg] at e
  unfold F_choice_for b_choice_for
  exact run_X rfl (es_seqY (chk0 ok rfl) (es_seqY (es_expr (ev_call (ea_cons (ev_var rfl) (ea_cons (ev_var rfl) ea_nil)) (check_order_eq hp.1.2 h))) (es_seqX (es_ifTY (et_not (k := false) (et_val (ev_call (ea_cons (ev_var rfl) (ea_cons (ev_var rfl) ea_nil)) e))) es_raise))))
theorem rank_no (ok : okB bs = true) (h : Od bs row) (hg : ¬ GoodO bs row) : F_rank_of_order [.d (dBs bs), .d (dNs row)] = .raise .missing := by
  have hp := okB_pos ok
  have e := is_possible_eq hp.1.2 h
  rw [badO_dec, decide_eq_false hg] at e
  unfold F_rank_of_order b_rank_of_order
  exact run_X rfl (es_seqY (chk0 ok rfl) (es_seqY (es_expr (ev_call (ea_cons (ev_var rfl) (ea_cons (ev_var rfl) ea_nil)) (check_order_eq hp.1.2 h))) (es_seqX (es_ifTY (et_not (k := false) (et_val (ev_call (ea_cons (ev_var rfl) (ea_cons (ev_var rfl) ea_nil)) e))) es_raise))))
theorem mul_zeros {n : Nat} (h : n ≤ 1000) : oMul (.d (.list [.int 0])) (.d (.int n)) = .ret (.d (dNs (zeros n)), true) := by
  have hlim := lim_big
  unfold oMul
  dsimp only
  rw [if_pos ⟨by omega, by omega, by show 1 * _ ≤ lim; omega⟩]
  have e : (List.replicate (n : Int).toNat [PyData.int 0]).flatten = (zeros n).map PyData.int := by
    rw [Int.toNat_natCast]
    unfold zeros
    induction n with
    | zero => rfl
    | succ n ih => rw [List.replicate_succ, List.flatten_cons, ih (by omega), List.replicate_succ]; rfl
  rw [e]
abbrev cfBody : En → M Out := (sSeq (sSet 3 (dCall bMax2 (aCons (dVar 3) (aCons (dBin oIx (dBin oIx (dVar 0) (dVar 4)) (dC (.int 0))) aNil))))
    (sPut 2 (dVar 4) (dVar 3)))
theorem choice_for_eq (ok : okB bs = true) (h : Od bs row) (hg : GoodO bs row) : F_choice_for [.d (dBs bs), .d (dNs row)] = .ret (.d (dNs (fnd bs (zeros bs.length) [] row)), true) := by
  have hp := okB_pos ok
  have e := is_possible_eq hp.1.2 h
  rw [badO_dec, decide_eq_true hg] at e
  obtain ⟨en', h1, u4, rfl⟩ := es_forP (emb := PyData.int) (sl := [4]) (bd := bdN) (xs := row) (s1 := cfBody) (R := fun pre en => ∃ u4, en = [some (.v (.d (dBs bs))), some (.v (.d (dNs row))), some (.own ((fnd bs (zeros bs.length) [] pre).map PyData.int)), some (.v (dI (rmx bs pre))), u4])
    (en := [some (.v (.d (dBs bs))), some (.v (.d (dNs row))), some (.own ((zeros bs.length).map PyData.int)), some (.v (dI (-51))), none]) ⟨_, rfl⟩ (by
      rintro pre p post en hx ⟨u4, rfl⟩
      have bp := h.pl.2 p (by rw [hx]; simp)
      have ep := op_ix_bs (bs := bs) (k := p) bp.1 bp.2
      have lz : (fnd bs (zeros bs.length) [] pre).length = bs.length := by rw [fnd_len]; simp [zeros]
      refine ⟨_, rfl, [some (.v (.d (dBs bs))), some (.v (.d (dNs row))), some (.own ((fnd bs (zeros bs.length) [] (pre ++ [p])).map PyData.int)), some (.v (dI (rmx bs (pre ++ [p])))), some (.v (dI p))], ?_, _, rfl⟩
      rw [rmx_app, fnd_app, List.nil_append, rmx_app, List.map_set]
      refine es_seq (en' := [some (.v (.d (dBs bs))), some (.v (.d (dNs row))), some (.own ((fnd bs (zeros bs.length) [] pre).map PyData.int)), some (.v (dI (mx (rmx bs pre) (lowAt bs p)))), some (.v (dI p))]) (es_set (ev_call (ea_cons (ev_var rfl) (ea_cons (ev_bin (ev_bin (ev_var rfl) (ev_var rfl) ep) ev_c rfl) ea_nil)) rfl)) ?_
      exact es_put (i := 2) (xs := (fnd bs (zeros bs.length) [] pre).map PyData.int) (q := .int (mx (rmx bs pre) (lowAt bs p))) (k := p) (j := p.toNat) rfl (ev_var rfl) (ev_var rfl) (by rw [List.length_map]; exact ixN_nat bp.1 (by omega)) rfl)
  unfold F_choice_for b_choice_for
  exact run_rt rfl (es_seq (chk0 ok rfl) (es_seq (es_expr (ev_call (ea_cons (ev_var rfl) (ea_cons (ev_var rfl) ea_nil)) (check_order_eq hp.1.2 h))) (es_seq (es_ifF (et_not (k := true) (et_val (ev_call (ea_cons (ev_var rfl) (ea_cons (ev_var rfl) ea_nil)) e))) es_nil) (es_seq (es_setO (ev_bin (ev_lst (ea_cons ev_c ea_nil) rfl) (ev_call (ea_cons (ev_var rfl) ea_nil) (b_len_bs _)) (mul_zeros (by omega)))) (es_seq (es_set (ev_neg ev_c)) (es_seq (es_for (ei_list (ev_var rfl)) h1) (es_retO rfl)))))))
/-! ### ranks -/
abbrev rkEn (bs : List (Int × Int)) (row : List Int) (f : Int) (i : Nat) (u4 u5 u6 : Option Dt.Slot) : En := [some (.v (.d (dBs bs))), some (.v (.d (dNs row))), some (.v (dI f)), some (.v (.ob i)), u4, u5, u6]
abbrev rkIn : En → M Out := (sIf (dTest (dBin oLt (dVar 6) (dVar 5)))
    (sAug 2 (fun m n => m + n) (dCall F_ways_from (aCons (dVar 0) (aCons (dBin oAdd (dSl (dVar 1) oNone (oSome (dVar 4))) (dLst (aCons (dVar 6) aNil))) (aCons (dVar 3) aNil)))))
    sNil)
theorem dus_aug {W : Wd} {i : Nat} {g : Int → Int → Int} {fa : En → M RV} {en : En} {m : Int} {SO : Out → Wd → Prop} (h1 : en[i]? = some (some (.v (.d (.int m))))) (h : DU W (fa (expo en)) fun r W1 => ∃ n, r.1 = .d (.int n) ∧ SO (.nx (en.set i (some (.v (.d (.int (g m n))))))) W1) : DU W (sAug i g fa en) SO := by
  unfold sAug
  rw [h1]
  refine DU.bind (h.mono fun r W1 hr => ?_)
  obtain ⟨n, e, hr⟩ := hr
  rw [e]
  exact DU.ret hr
theorem take_sl {row : List Int} {n : Nat} : cutP (row.map PyData.int) none (some (n : Int)) = (row.take n).map PyData.int := by rw [cut_to, List.map_take]
theorem rk_in {W : Wd} {i : Nat} (hw : W[i]? = some (.memo bs)) (h7 : bs.length ≤ 7) {n : Nat} {o : Int} (hp : PlOk bs.length (row.take n)) : ∀ {ks : List Int} {f : Int} {u6 : Option Dt.Slot}, (∀ k ∈ ks, k ∈ leftP bs (row.take n)) →
    DU W (forL [6] bdN rkIn (ks.map PyData.int) (rkEn bs row f i (some (.v (dI n))) (some (.v (dI o))) u6)) fun q W' => W' = W ∧ ∃ u6, q = .nx (rkEn bs row (f + ((ks.filter fun k => decide (k < o)).map fun k => cnt bs (row.take n ++ [k])).sum) i (some (.v (dI n))) (some (.v (dI o))) u6)
  | [], f, u6, _ => DU.ret ⟨rfl, u6, by simp⟩
  | k :: ks, f, u6, hk => by
    have hl := pl_len hp
    have hp' := hp.more (hk k List.mem_cons_self)
    rw [List.map_cons]
    unfold forL
    show DU W (M.bind (rkIn (rkEn bs row f i (some (.v (dI n))) (some (.v (dI o))) (some (.v (dI k))))) _) _
    by_cases c : k < o
    · refine DU.bind (dus_ifP (k := true) (ev_is (et_val (ev_bin (ev_var rfl) (ev_var rfl) (op_lt_i _ _))) (decide_eq_true c)) (fun _ => ?_) fun z => by cases z)
      have add : dBin oAdd (dSl (dVar 1) oNone (oSome (dVar 4))) (dLst (aCons (dVar 6) aNil)) (expo (rkEn bs row f i (some (.v (dI n))) (some (.v (dI o))) (some (.v (dI k))))) = .ret (.d (dNs (row.take n ++ [k])), true) :=
        ev_bin (list_of (ev_sl (u := false) (ev_var rfl) eo_none (eo_some (u := false) (ev_var rfl))) take_sl) (ev_lst (ea_cons (ev_var rfl) ea_nil) rfl) (add_ns (by omega) k)
      refine dus_aug (m := f) rfl (due_call (DU.of (a := [.d (dBs bs), .d (dNs (row.take n ++ [k])), .ob i]) (ea_cons (ev_var rfl) (ea_cons add (ea_cons (ev_var rfl) ea_nil))) (du_ways hw h7 hp' ⟨_, rfl, ?_⟩)))
      refine (rk_in hw h7 hp (ks := ks) (f := f + cnt bs (row.take n ++ [k])) (fun j hj => hk j (List.mem_cons_of_mem _ hj))).mono fun q W' hq => ?_
      obtain ⟨rfl, u6, rfl⟩ := hq
      refine ⟨rfl, u6, ?_⟩
      rw [List.filter_cons_of_pos (by simpa using c), List.map_cons, List.sum_cons, Int.add_assoc]
    · refine DU.bind (DU.of (es_ifF (ev_is (et_val (ev_bin (ev_var rfl) (ev_var rfl) (op_lt_i _ _))) (decide_eq_false c)) es_nil) ?_)
      refine (rk_in hw h7 hp (ks := ks) (f := f) (fun j hj => hk j (List.mem_cons_of_mem _ hj))).mono fun q W' hq => ?_
      obtain ⟨rfl, u6, rfl⟩ := hq
      refine ⟨rfl, u6, ?_⟩
      rw [List.filter_cons_of_neg (by simpa using c)]
theorem enum_ns (n : Nat) : ∀ (k : Nat) (xs : List Int), enumP k (xs.map PyData.int) = (xs.zipIdx k).map fun x => .tuple [.int (x.2 : Nat), .int x.1]
  | _, [] => rfl
  | k, x :: xs => by rw [List.map_cons, enumP, enum_ns n (k + 1) xs, List.zipIdx_cons]; rfl
abbrev rkOut : En → M Out := sFor [6] bdN (iSeqD (dCall F_next_places (aCons (dVar 0) (aCons (dSl (dVar 1) oNone (oSome (dVar 4))) aNil)))) rkIn
theorem rk_out {W : Wd} {i : Nat} (hw : W[i]? = some (.memo bs)) (h7 : bs.length ≤ 7) (h : Od bs row) : ∀ {rest pre : List Int} {f : Int} {u4 u5 u6 : Option Dt.Slot}, row = pre ++ rest →
    DU W (forL [4, 5] (bdT 2) rkOut ((rest.zipIdx pre.length).map fun x => .tuple [.int (x.2 : Nat), .int x.1]) (rkEn bs row f i u4 u5 u6)) fun q W' => W' = W ∧ ∃ u4 u5 u6, q = .nx (rkEn bs row (f + rkF bs pre rest) i u4 u5 u6)
  | [], pre, f, u4, u5, u6, _ => DU.ret ⟨rfl, u4, u5, u6, by simp [rkF]⟩
  | o :: rest, pre, f, u4, u5, u6, e => by
    have tk : row.take pre.length = pre := by rw [e]; simp
    have hp : PlOk bs.length pre := ⟨by have := h.pl.1; rw [e] at this; exact (List.nodup_append.mp this).1, fun x hx => h.pl.2 x (by rw [e]; simp [hx])⟩
    rw [List.zipIdx_cons, List.map_cons]
    unfold forL
    show DU W (M.bind (rkOut (rkEn bs row f i (some (.v (dI pre.length))) (some (.v (dI o))) u6)) _) _
    have it : iSeqD (dCall F_next_places (aCons (dVar 0) (aCons (dSl (dVar 1) oNone (oSome (dVar 4))) aNil))) (hide (rkEn bs row f i (some (.v (dI pre.length))) (some (.v (dI o))) u6)) = .ret ((nextP bs pre).map PyData.int) := by
      have := next_places_eq (b := bs) (ds := row.take pre.length) (by omega)
      rw [tk] at this
      exact ei_list (ev_call (ea_cons (ev_var rfl) (ea_cons (list_of (ys := pre.map PyData.int) (ev_sl (u := false) (ev_var rfl) eo_none (eo_some (u := false) (ev_var rfl))) (by rw [take_sl, tk])) ea_nil)) this)
    refine DU.bind (dus_for it ((rk_in hw h7 (n := pre.length) (o := o) (by rw [tk]; exact hp) (ks := nextP bs pre) (f := f) (fun k hk => by rw [tk]; exact nextP_sub hk)).mono fun q W' hq => ?_))
    obtain ⟨rfl, v6, rfl⟩ := hq
    rw [tk]
    refine (show DU W' _ _ from ?_)
    have e' : row = (pre ++ [o]) ++ rest := by rw [e]; simp
    have ih := rk_out hw h7 h (rest := rest) (pre := pre ++ [o]) (f := f + (((nextP bs pre).filter fun k => decide (k < o)).map fun k => cnt bs (pre ++ [k])).sum) (u4 := some (.v (dI pre.length))) (u5 := some (.v (dI o))) (u6 := v6) e'
    rw [List.length_append] at ih
    refine ih.mono fun q W' hq => ?_
    obtain ⟨rfl, w4, w5, w6, rfl⟩ := hq
    exact ⟨rfl, w4, w5, w6, by rw [rkF, Int.add_assoc]⟩
theorem rank_pu (ok : okB bs = true) (h : Od bs row) (hg : GoodO bs row) : PU (F_rank_of_order [.d (dBs bs), .d (dNs row)]) (dI (rkF bs [] row), false) := by
  have hp := okB_pos ok
  have e := is_possible_eq hp.1.2 h
  rw [badO_dec, decide_eq_true hg] at e
  refine PU.of_du fun W => ?_
  have hw : (W ++ [AObj.memo bs])[W.length]? = some (.memo bs) := List.getElem?_concat_length ..
  unfold F_rank_of_order b_rank_of_order
  refine du_run rfl (dus_pure (chk0 ok rfl) (dus_pure (es_expr (ev_call (ea_cons (ev_var rfl) (ea_cons (ev_var rfl) ea_nil)) (check_order_eq hp.1.2 h))) (dus_pure (es_ifF (et_not (k := true) (et_val (ev_call (ea_cons (ev_var rfl) (ea_cons (ev_var rfl) ea_nil)) e))) es_nil) (dus_seq ?_))))
  have par : DU W (sPar 2 3 (aCons (dC (.int 0)) (aCons (dMemo 0) aNil)) (enOf 7 [.d (dBs bs), .d (dNs row)])) fun o W' => o = .nx (rkEn bs row 0 W.length none none none) ∧ W' = W ++ [AObj.memo bs] := by
    unfold sPar
    refine DU.bind (dua_cons (DU.of ev_c (dua_cons (du_memo (b := bs) rfl (DU.of ea_nil (DU.ret ⟨rfl, rfl⟩))))))
  refine par.mono fun o W' ho => ?_
  obtain ⟨rfl, rfl⟩ := ho
  refine ⟨_, rfl, dus_seq (dus_for (ei_enum (ea_cons (ev_var rfl) ea_nil)) ?_)⟩
  rw [enum_ns 0]
  refine (rk_out hw hp.1.2 h (rest := row) (pre := []) (f := 0) rfl).mono fun o W' ho => ?_
  obtain ⟨rfl, u4, u5, u6, rfl⟩ := ho
  refine ⟨_, rfl, DU.of (es_retV rfl) ⟨_, rfl, ?_, _, rfl⟩⟩
  rw [Int.zero_add]
end
end Pg

/-! All orders, orders among others, calls that may raise, bounds changed (k05, k07, k10). -/
namespace Pg
open PySem L2 Dt
local macro_rules | `(tactic| walk_at "op") => `(tactic| first | (with_reducible exact op_add_i _ _) | (with_reducible exact op_sub_i _ _) | (with_reducible exact op_lt_i _ _) | (with_reducible exact op_le_i _ _) | (with_reducible exact op_gt_i _ _) | (with_reducible exact op_ge_i _ _) | (with_reducible exact op_eq_i _ _) | (with_reducible exact op_ne_i _ _) | (with_reducible exact op_ix_p0 _) | (with_reducible exact op_ix_p1 _) | (with_reducible exact op_ix_0 _ _) | (with_reducible exact op_ix_1 _ _ _) | (with_reducible exact op_isN_d) | (with_reducible exact op_notN_d) | (with_reducible exact op_isB_d _ _) | (with_reducible exact op_notB_d _ _) | (with_reducible exact b_len_p _) | (with_reducible exact b_len_l _) | (with_reducible exact b_len_t _) | (with_reducible exact b_sum _) | (with_reducible exact b_sorted _) | (with_reducible exact b_abs _) | (with_reducible exact b_max2 _ _) | (with_reducible exact b_min2 _ _) | ((with_reducible apply op_mod_i); with_reducible assumption) | ((with_reducible apply op_div_i); with_reducible assumption) | ((with_reducible apply op_mul_i); with_reducible assumption))
local macro_rules | `(tactic| walk_at "F") => `(tactic| walk_at "op")
local macro_rules | `(tactic| walk_at "A") => `(tactic| first | (with_reducible exact ea_nil) | ((with_reducible apply ea_cons); walk_at "E"; walk_at "A"))
local macro_rules | `(tactic| walk_at "T") => `(tactic| first | ((with_reducible apply et_val); walk_at "E") | ((with_reducible apply et_not); walk_at "T") | ((with_reducible apply et_or); walk_at "T"; (intro _; walk_at "T")) | ((with_reducible apply et_and); walk_at "T"; (intro _; walk_at "T")))
local macro_rules | `(tactic| walk_at "O") => `(tactic| first | (with_reducible exact eo_none) | ((with_reducible apply eo_some); walk_at "E"))
local macro_rules | `(tactic| walk_at "E") => `(tactic| first
  | (with_reducible exact ev_c)
  | ((with_reducible apply ev_var); rfl)
  | ((with_reducible apply ev_bin); walk_at "E"; walk_at "E"; walk_at "op")
  | ((with_reducible apply ev_call); walk_at "A"; walk_at "F")
  | ((with_reducible apply ev_tup); walk_at "A"; rfl)
  | ((with_reducible apply ev_lst); walk_at "A"; rfl)
  | ((with_reducible apply ev_neg); walk_at "E")
  | ((with_reducible apply ev_isi); walk_at "E")
  | ((with_reducible apply ev_not); walk_at "E")
  | ((with_reducible apply ev_and'); walk_at "E"; (intro _; walk_at "E"))
  | ((with_reducible apply ev_or'); walk_at "E"; (intro _; walk_at "E"))
  | ((with_reducible apply ev_chain); walk_at "E"; walk_at "E"; walk_at "E"; walk_at "op"; walk_at "op")
  | ((with_reducible apply ev_sl); walk_at "E"; walk_at "O"; walk_at "O")
  | ((with_reducible apply ev_rev); walk_at "E")
  | ((with_reducible apply ev_ifT); ((with_reducible apply ev_is); walk_at "T"; rfl); walk_at "E")
  | ((with_reducible apply ev_ifF); ((with_reducible apply ev_is); walk_at "T"; rfl); walk_at "E"))
local macro_rules | `(tactic| walk_at "I") => `(tactic| first | ((with_reducible apply ei_list); walk_at "E"; done) | ((with_reducible apply ei_tup); walk_at "E") | ((with_reducible apply ei_enum); walk_at "A") | ((with_reducible apply ei_zip); walk_at "A"))
local macro_rules | `(tactic| walk_at "S") => `(tactic| first
  | (with_reducible exact es_nil)
  | ((with_reducible apply es_retV); rfl)
  | ((with_reducible apply es_retO); rfl)
  | ((with_reducible apply es_ret); walk_at "E")
  | ((with_reducible apply es_seq); walk_at "S"; walk_at "S")
  | ((with_reducible apply es_expr); walk_at "E")
  | ((with_reducible apply es_set); walk_at "E")
  | ((with_reducible apply es_setO); walk_at "E")
  | ((with_reducible apply es_par); walk_at "A")
  | ((with_reducible apply es_asgT); walk_at "E"; rfl)
  | ((with_reducible apply es_ifF); ((with_reducible apply ev_is); walk_at "T"; (first | rfl | with_reducible assumption)); walk_at "S")
  | ((with_reducible apply es_ifT); ((with_reducible apply ev_is); walk_at "T"; (first | rfl | with_reducible assumption)); walk_at "S"))
local macro_rules | `(tactic| walk_at "F") => `(tactic| with_reducible exact is_int_eq _ _ _)
local macro_rules | `(tactic| walk_at "F") => `(tactic| with_reducible exact is_bound_eq _)
local macro_rules | `(tactic| walk_at "F") => `(tactic| ((with_reducible apply is_bounds_eq); exact okB_len (by with_reducible assumption)))
local macro_rules | `(tactic| walk_at "F") => `(tactic| ((with_reducible apply check_ok); with_reducible assumption))
local macro_rules | `(tactic| walk_at "F") => `(tactic| ((with_reducible apply lows_eq); exact okB_len (by with_reducible assumption)))
local macro_rules | `(tactic| walk_at "F") => `(tactic| ((with_reducible apply highs_eq); exact okB_len (by with_reducible assumption)))
local macro_rules | `(tactic| walk_at "F") => `(tactic| ((with_reducible apply sum_range_eq); with_reducible assumption))
local macro_rules | `(tactic| walk_at "F") => `(tactic| ((with_reducible apply mean_range_eq); with_reducible assumption))
local macro_rules | `(tactic| walk_at "F") => `(tactic| ((with_reducible apply median_range_eq); with_reducible assumption))
local macro_rules | `(tactic| walk_at "F") => `(tactic| ((with_reducible apply least_range_eq); with_reducible assumption))
local macro_rules | `(tactic| walk_at "F") => `(tactic| ((with_reducible apply greatest_range_eq); with_reducible assumption))
local macro_rules | `(tactic| walk_at "F") => `(tactic| ((with_reducible apply choices_eq) <;> with_reducible assumption))
local macro_rules | `(tactic| walk_at "F") => `(tactic| ((with_reducible apply b_min); with_reducible assumption))
local macro_rules | `(tactic| walk_at "F") => `(tactic| ((with_reducible apply b_max); with_reducible assumption))
local macro_rules | `(tactic| walk_at "L") => `(tactic| first | with_reducible assumption | exact okB_len (by with_reducible assumption) | (simp only [List.length_map, irange_len, List.length_range]; omega))
local macro_rules | `(tactic| walk_at "I") => `(tactic| (first | ((with_reducible apply ei_rng1); walk_at "A"; omega) | ((with_reducible apply ei_rng2); walk_at "A"; omega)))
local macro_rules | `(tactic| walk_at "E") => `(tactic| first
  | ((with_reducible apply ev_compB); walk_at "I"; walk_at "L"; (intro _ _; walk_at "E"))
  | ((with_reducible apply ev_compBF); walk_at "I"; walk_at "L"; (intro _ _; walk_at "T"); (intro _ _ _; walk_at "E"))
  | ((with_reducible apply ev_compN); walk_at "I"; walk_at "L"; (intro _ _; walk_at "E"))
  | ((with_reducible apply ev_compNF); walk_at "I"; walk_at "L"; (intro _ _; walk_at "T"); (intro _ _ _; walk_at "E")))
local macro_rules | `(tactic| walk_at "F") => `(tactic| first | (with_reducible exact b_sum' _ _) | (with_reducible exact b_all' _ _) | (with_reducible exact b_any' _ _) | (with_reducible exact b_sorted' _ _))
local macro_rules | `(tactic| walk_at "op") => `(tactic| first | (with_reducible exact b_len_bs _) | (with_reducible exact b_len_ns _) | ((with_reducible apply op_ix_bs) <;> omega) | ((with_reducible apply op_ix_ns) <;> omega))
theorem pus_tryR {i j : Nat} {bb : En → M Out} {en : En} {o : Out} (h0 : en[i]? = some none) (h : PU (bb en) o) : PU (sTry i j bb en) o := by
  constructor
  intro W Q E hq
  unfold sTry
  rw [h0]
  exact (wp_catch _ _ _ _ _).mpr (h.go W Q _ hq)
theorem pus_tryX {i j : Nat} {bb : En → M Out} {en : En} {er : Err} (h0 : en[i]? = some none) (h : PX (bb en) er) : PU (sTry i j bb en) (.nx (en.set j (some (.v (.exc er))))) := by
  constructor
  intro W Q E hq
  unfold sTry
  rw [h0]
  exact (wp_catch _ _ _ _ _).mpr (h.go W Q _ fun X => hq X)
theorem pus_setX {i : Nat} {fa : En → M RV} {en : En} {er : Err} (h : PX (fa (hide en)) er) : PX (sSet i fa en) er := PX.bind h
theorem dv_forL {β : Type} {emb : β → PyData} {sl : List Nat} {bd : PyData → Option (List PyData)} {s1 : En → M Out} {I : Nat → En → Prop} :
    ∀ {xs : List β} {k : Nat} {en : En} {SO : Out → Prop}, I k en → (∀ (n : Nat) (x : β) (en : En), x ∈ xs → n < k + xs.length → I n en → ∃ ds, bd (emb x) = some ds ∧ DV (s1 (setE en sl ds)) fun o => ∃ en', o = .nx en' ∧ I (n + 1) en') → (∀ en', I (k + xs.length) en' → SO (.nx en')) → DV (forL sl bd s1 (xs.map emb) en) SO
  | [], k, en, SO, h0, _, h2 => DV.ret (h2 en h0)
  | x :: xs, k, en, SO, h0, h1, h2 => by
    obtain ⟨ds, e, h⟩ := h1 k x en List.mem_cons_self (by simp) h0
    rw [List.map_cons]
    unfold forL
    rw [e]
    refine DV.bind (h.mono fun o h => ?_)
    obtain ⟨en', rfl, hI⟩ := h
    exact dv_forL (k := k + 1) hI (fun n x en hx hn => h1 n x en (List.mem_cons_of_mem _ hx) (by simp; omega)) fun en' h => h2 en' (by simpa [Nat.add_assoc, Nat.add_comm 1] using h)
/-! ### among rows -/
theorem row_eqv (r s : List Int) : PyData.eqv (dNs r) (dNs s) = decide (r = s) := by
  rw [Bool.eq_iff_iff, (Nc.ns r).eqv (Nc.ns s), decide_eq_true_eq]
  exact ns_inj
theorem any_rows (r : List Int) (rows : List (List Int)) : ((rows.map fun s => dNs s).any fun z => PyData.eqv z (dNs r)) = decide (r ∈ rows) := by
  rw [List.any_map, Bool.eq_iff_iff, List.any_eq_true, decide_eq_true_eq]
  constructor
  · rintro ⟨s, hs, e⟩
    have e' : decide (s = r) = true := by rw [← row_eqv]; exact e
    rw [← of_decide_eq_true e']; exact hs
  · intro h
    exact ⟨r, h, by show PyData.eqv (dNs r) (dNs r) = true; rw [row_eqv]; simp⟩
theorem op_in_rows (r : List Int) (rows : List (List Int)) : oIn false (.d (dNs r)) (.d (dRows rows)) = .ret (.d (.bool (decide (r ∈ rows))), false) := by
  unfold oIn; dsimp only; rw [if_pos ⟨shaped_ns r, (rows_nc rows).shaped (by decide)⟩, any_rows]; simp
theorem op_notIn_rows (r : List Int) (rows : List (List Int)) : oIn true (.d (dNs r)) (.d (dRows rows)) = .ret (.d (.bool (!decide (r ∈ rows))), false) := by
  unfold oIn; dsimp only; rw [if_pos ⟨shaped_ns r, (rows_nc rows).shaped (by decide)⟩, any_rows]; simp
theorem op_ix_rows {rows : List (List Int)} {k : Int} {r : List Int} (h0 : 0 ≤ k) (h : rows[k.toNat]? = some r) : oIx (.d (dRows rows)) (.d (.int k)) = .ret (.d (dNs r), false) := by
  have e : (rows.map fun r => dNs r)[k.toNat]? = some (dNs r) := by rw [List.getElem?_map, h]; rfl
  have e2 := atI_nat e
  rw [show ((k.toNat : Nat) : Int) = k by omega] at e2
  exact op_ix_l e2
/-! ### all orders -/
section
variable {bs : List (Int × Int)}
abbrev levS (bs : List (Int × Int)) (rows : List (List Int)) : List (List Int) := rows.flatMap fun row => (leftP bs row).map fun p => row ++ [p]
theorem left_le (ds : List Int) : (leftP bs ds).length ≤ bs.length := by
  rw [left_ir]
  refine Nat.le_trans (List.length_filter_le _ _) ?_
  rw [irange_len]
  exact Nat.le_refl _
theorem levS_len (rows : List (List Int)) : (levS bs rows).length ≤ bs.length * rows.length := flat_len fun r _ => by rw [List.length_map]; exact left_le r
theorem lev_len (h : bs.length ≤ 7) : ∀ k, (lev bs k).length ≤ 7 ^ k
  | 0 => Nat.le_refl _
  | k + 1 => by
    have h1 := levS_len (bs := bs) (lev bs k)
    have h2 := lev_len h k
    rw [Nat.pow_succ, Nat.mul_comm]
    exact Nat.le_trans h1 (Nat.mul_le_mul h h2)
theorem pow7 {k : Nat} (h : k ≤ 7) : 7 ^ k ≤ 900000 := Nat.le_trans (Nat.pow_le_pow_right (by decide) h) (by decide)
theorem lim_is : lim = 1000000 := rfl
theorem lev_row : ∀ {k : Nat} {r : List Int}, r ∈ lev bs k → r.length = k
  | 0, r, h => by simp [lev] at h; simp [h]
  | k + 1, r, h => by
    rw [lev] at h
    obtain ⟨s, hs, h⟩ := List.mem_flatMap.mp h
    obtain ⟨p, _, rfl⟩ := List.mem_map.mp h
    rw [List.length_append, lev_row hs]
    rfl
abbrev aoIn : En → M Out := (sSet 3 (dBin oAdd (dVar 3) (dComp [5] [5] bdN (iRangeD1 (aCons (dVar 0) aNil)) (dTest (dBin (oIn true) (dVar 5) (dVar 4))) (dBin oAdd (dVar 4) (dLst (aCons (dVar 5) aNil))))))
abbrev aoEn (bs : List (Int × Int)) (rows longer : List (List Int)) (u2 u4 : Option Dt.Slot) : En := [some (.v (dI bs.length)), some (.v (.d (dRows rows))), u2, some (.v (.d (dRows longer))), u4, none]
theorem ao_in (h7 : bs.length ≤ 7) {rows : List (List Int)} (hr : rows.length ≤ 120000) (hl : ∀ r ∈ rows, r.length ≤ 7) {u2 u4 : Option Dt.Slot} :
    ∃ u4', forL [4] bdN aoIn (rows.map fun r => dNs r) (aoEn bs rows [] u2 u4) = .ret (.nx (aoEn bs rows (levS bs rows) u2 u4')) := by
  have hlim := lim_is
  obtain ⟨en', h1, u4', rfl⟩ := es_forP (emb := fun r => dNs r) (sl := [4]) (bd := bdN) (xs := rows) (s1 := aoIn) (R := fun pre en => ∃ u4, en = aoEn bs rows (levS bs pre) u2 u4) (en := aoEn bs rows [] u2 u4) ⟨_, rfl⟩ (by
    rintro pre r post en hx ⟨u4, rfl⟩
    have hrl := hl r (by rw [hx]; simp)
    refine ⟨_, rfl, aoEn bs rows (levS bs (pre ++ [r])) u2 (some (.v (.d (dNs r)))), ?_, _, rfl⟩
    have comp : dComp [5] [5] bdN (iRangeD1 (aCons (dVar 0) aNil)) (dTest (dBin (oIn true) (dVar 5) (dVar 4))) (dBin oAdd (dVar 4) (dLst (aCons (dVar 5) aNil))) (hide (aoEn bs rows (levS bs pre) u2 (some (.v (.d (dNs r)))))) = .ret (.d (dRows ((leftP bs r).map fun p => r ++ [p])), true) := by
      refine list_of (ys := ((leftP bs r).map fun p => r ++ [p]).map fun r => dNs r) (ev_compNF (xs := irange 0 bs.length) (emb := PyData.int) (f := fun p => dNs (r ++ [p])) (g := fun k => !decide (k ∈ r)) (b := true) (ei_rng1 (n := (bs.length : Int)) (ea_cons (ev_var rfl) ea_nil) (by omega)) (by rw [irange_len]; omega) (fun k _ => et_val (ev_bin (ev_var rfl) (ev_var rfl) (op_notIn_ns k r))) fun k _ _ => ev_bin (ev_var rfl) (ev_lst (ea_cons (ev_var rfl) ea_nil) rfl) (add_ns (by omega) k)) ?_
      rw [← left_ir, List.map_map]
      rfl
    have e : levS bs (pre ++ [r]) = levS bs pre ++ (leftP bs r).map fun p => r ++ [p] := by unfold levS; rw [List.flatMap_append, List.flatMap_cons, List.flatMap_nil, List.append_nil]
    have hlen : (levS bs pre).length + (leftP bs r).length ≤ lim := by
      have h1 := levS_len (bs := bs) pre
      have h2 := left_le (bs := bs) r
      have h3 : pre.length ≤ 120000 := by
        have := congrArg List.length hx
        rw [List.length_append] at this
        omega
      have h4 : bs.length * pre.length ≤ 7 * 120000 := Nat.mul_le_mul h7 h3
      omega
    rw [e]
    refine Eq.trans (es_set (ev_bin (ev_var rfl) comp (op_add_l (by rw [List.length_map, List.length_map, List.length_map]; exact hlen)))) ?_
    rw [← List.map_append]
    rfl)
  exact ⟨u4', h1⟩
theorem all_orders_eq (h7 : bs.length ≤ 7) : F__law_all_orders [dI bs.length] = .ret (.d (dRows (lev bs bs.length)), false) := by
  have hlim := lim_is
  obtain ⟨en', h1, u2, u3, u4, rfl⟩ := es_forP (emb := PyData.int) (sl := [2]) (bd := bdN) (xs := irange 0 bs.length) (s1 := (sSeq (sSet 3 (dLst aNil))
    (sSeq (sFor [4] bdN (iSeqD (dVar 1)) aoIn)
    (sSet 1 (dVar 3))))) (R := fun pre en => ∃ u2 u3 u4, en = [some (.v (dI bs.length)), some (.v (.d (dRows (lev bs pre.length)))), u2, u3, u4, none])
    (en := [some (.v (dI bs.length)), some (.v (.d (dRows (lev bs 0)))), none, none, none, none]) ⟨_, _, _, rfl⟩ (by
      rintro pre k post en hx ⟨u2, u3, u4, rfl⟩
      have hpre : pre.length < bs.length := by
        have := congrArg List.length hx
        rw [irange_len, List.length_append, List.length_cons] at this
        omega
      obtain ⟨v4, e⟩ := ao_in h7 (rows := lev bs pre.length) (Nat.le_trans (lev_len h7 _) (Nat.le_trans (Nat.pow_le_pow_right (by decide) (show pre.length ≤ 6 by omega)) (by decide))) (fun r hr => by rw [lev_row hr]; omega) (u2 := some (.v (dI k))) (u4 := u4)
      refine ⟨_, rfl, _, es_seq (es_set (ev_lst ea_nil rfl)) (es_seq (es_for (ei_list (ev_var rfl)) e) (es_set (ev_var rfl))), some (.v (dI k)), some (.v (.d (dRows (levS bs (lev bs pre.length))))), v4, ?_⟩
      rw [List.length_append]
      rfl)
  rw [irange_len] at h1
  unfold F__law_all_orders b__law_all_orders
  exact run_rt rfl (es_seq (es_set (ev_lst (ea_cons (ev_lst ea_nil rfl) ea_nil) rfl)) (es_seq (es_for (ei_rng1 (n := (bs.length : Int)) (ea_cons (ev_var rfl) ea_nil) (by omega)) h1) (es_retV rfl)))
/-! ### there is an order -/
theorem min_at {f : Int → Int} : ∀ {xs : List Int}, xs ≠ [] → ∃ k ∈ xs, ∀ j ∈ xs, f k ≤ f j
  | [x], _ => ⟨x, by simp, by simp⟩
  | x :: y :: xs, _ => by
    obtain ⟨k, hk, h⟩ := min_at (f := f) (xs := y :: xs) (by simp)
    by_cases c : f x ≤ f k
    · refine ⟨x, by simp, fun j hj => ?_⟩
      rcases List.mem_cons.mp hj with z | z
      · rw [z]; exact Int.le_refl _
      · exact Int.le_trans c (h j z)
    · refine ⟨k, List.mem_cons_of_mem _ hk, fun j hj => ?_⟩
      rcases List.mem_cons.mp hj with z | z
      · rw [z]; omega
      · exact h j z
theorem next_ne (hu : ∀ i, lowAt bs i ≤ highAt bs i) {ds : List Int} (h : leftP bs ds ≠ []) : ∃ k, k ∈ nextP bs ds := by
  obtain ⟨k, hk, hm⟩ := min_at (f := lowAt bs) h
  refine ⟨k, List.mem_filter.mpr ⟨hk, ?_⟩⟩
  rw [List.all_eq_true]
  intro j hj
  exact decide_eq_true (Int.le_trans (hm j hj) (hu j))
theorem ext_ne (hu : ∀ i, lowAt bs i ≤ highAt bs i) : ∀ {n : Nat} {ds : List Int}, (leftP bs ds).length = n → extF bs n ds ≠ []
  | 0, ds, _ => by simp [extF]
  | n + 1, ds, h => by
    obtain ⟨k, hk⟩ := next_ne hu (ds := ds) (fun z => by rw [z] at h; simp at h)
    have hl := left_len (nextP_sub hk)
    obtain ⟨r, hr⟩ := List.exists_mem_of_ne_nil _ (ext_ne hu (n := n) (ds := ds ++ [k]) (by omega))
    rw [extF]
    exact List.ne_nil_of_mem (List.mem_flatMap.mpr ⟨k, hk, hr⟩)
/-! ### bounds changed -/
theorem checked_ch_eq {cs : List (Int × Int)} (ok : okB cs = true) : F_checked_changing [.d (dBs cs)] = .ret (.d (dBs cs), false) := by
  unfold F_checked_changing b_checked_changing
  refine run_rt rfl (es_seq (es_ifF (ev_is (et_not (et_val (ev_call (ea_cons (ev_var rfl) ea_nil) (is_bounds_eq (okB_len ok))))) (by rw [ok]; rfl)) es_nil) (es_retV rfl))
def wdn (bs : List (Int × Int)) (by_ : Int) : List (Int × Int) := bs.map fun p => (p.1 - by_, p.2 + by_)
theorem widened_eq {k : Int} (ok : okB bs = true) (hk : 0 ≤ k ∧ k ≤ 50) (ok' : okB (wdn bs k) = true) : F_widened [.d (dBs bs), dI k] = .ret (.d (dBs (wdn bs k)), false) := by
  unfold F_widened b_widened
  refine run_rt rfl (es_seq (chk0 ok rfl) (es_seq (es_ifF (ev_is (et_not (et_val (ev_call (ea_cons (ev_var rfl) (ea_cons ev_c (ea_cons ev_c ea_nil))) (is_int_eq _ _ _)))) (by simp; omega)) es_nil) (es_ret (ev_call (ea_cons (list_of (ys := (wdn bs k).map dP) (ev_compB (b := false) (f := fun p => dP (p.1 - k, p.2 + k)) (ei_list (u := false) (ev_var rfl)) (okB_len ok) fun p _ => ev_tup (ea_cons (ev_bin (ev_var rfl) (ev_var rfl) rfl) (ea_cons (ev_bin (ev_var rfl) (ev_var rfl) rfl) ea_nil)) rfl) (by unfold wdn; rw [List.map_map]; rfl)) ea_nil) (checked_ch_eq ok')))))
theorem wdn_at {k : Int} {i : Int} (h : 0 ≤ i ∧ i < bs.length) : lowAt (wdn bs k) i = lowAt bs i - k ∧ highAt (wdn bs k) i = highAt bs i + k := by
  have hi : i.toNat < bs.length := by omega
  unfold lowAt highAt wdn
  rw [List.getD_eq_getElem?_getD, List.getD_eq_getElem?_getD, List.getElem?_map, List.getElem?_eq_getElem hi]
  exact ⟨rfl, rfl⟩
end
end Pg

namespace Law
open PySem L2 Dt Pg
def top (i : Nat) : Stmt := PySem.Challenge.pw_boundstats_k07_whole_orders.main.body.getD i (.Pass ⟨0, 0, 0, 0⟩)
abbrev s_is_int : Stmt := top 9
abbrev s_is_bound : Stmt := top 10
abbrev s_is_bounds : Stmt := top 11
abbrev s_check_bounds : Stmt := top 12
abbrev s_check_order : Stmt := top 14
abbrev s_is_possible : Stmt := top 15
abbrev s_can_be_order : Stmt := top 16
abbrev s_choice_for : Stmt := top 17
abbrev s_next_places : Stmt := top 18
abbrev s_ways_from : Stmt := top 19
abbrev s_count_orders : Stmt := top 20
abbrev s_order_at : Stmt := top 21
abbrev s_rank_of_order : Stmt := top 22
abbrev s_checked_changing : Stmt := top 24
abbrev s_widened : Stmt := top 25
abbrev s__law_start : Stmt := top 27
abbrev s__law_draw : Stmt := top 28
abbrev s__law_pick : Stmt := top 29
abbrev s__law_error : Stmt := top 30
abbrev s__law_true : Stmt := top 31
abbrev s__law_bounds : Stmt := top 32
abbrev s__law_small : Stmt := top 33
abbrev s__law_inside : Stmt := top 34
abbrev s__law_all_orders : Stmt := top 35
abbrev s__law_call : Stmt := top 36
abbrev s_law : Stmt := top 37
section
open PySem L2
def b__law_call : En → M Out := (sSeq (sSet 3 (dC .none))
    (sSeq (sSet 4 (dC .none))
    (sSeq (sTry 5 4 (xIfS (dTest (dBin oEq (dVar 0) (dC (.int 0))))
    (sSet 3 (xCall F_choice_for (aCons (dVar 1) (aCons (dVar 2) aNil))))
    (xIfS (dTest (dBin oEq (dVar 0) (dC (.int 1))))
    (sSet 3 (xCall F_rank_of_order (aCons (dVar 1) (aCons (dVar 2) aNil))))
    (sSet 3 (xCall F_order_at (aCons (dVar 1) (aCons (dVar 2) aNil)))))))
    (sRet (dIf (dTest (dBin oIsN (dVar 4) (dC .none))) (dVar 3) (dCall F__law_error (aCons (dVar 4) aNil)))))))
def F__law_call : List AV → M RV := runF 3 6 b__law_call
def b_law : En → M Out := (sSeq (sSet 1 (dCall F__law_start (aCons (dVar 0) aNil)))
    (sSeq (sSet 2 (dCall F__law_pick (aCons (dVar 1) (aCons (dLst (aCons (dCall F__law_small (aCons (dVar 1) (aCons (dC (.int 5)) aNil))) (aCons (dCall F__law_bounds (aCons (dVar 1) (aCons (dC (.int 5)) aNil))) aNil))) aNil))))
    (sSeq (sSet 3 (dCall bLen (aCons (dVar 2) aNil)))
    (sSeq (sSetO 4 (dLst aNil))
    (sSeq (sFor [5] bdN (iSeqD (dCall F__law_all_orders (aCons (dVar 3) aNil)))
    (sSeq (sSet 12 (dComp [13] [13] bdN (iRangeD1 (aCons (dVar 3) aNil)) (dTest (dBin oNe (dComp [14] [14] bdN (iSeqD (dSl (dVar 5) oNone (oSome (dVar 13)))) (dTest (dBin oGt (dBin oIx (dBin oIx (dVar 2) (dVar 14)) (dC (.int 0))) (dBin oIx (dBin oIx (dVar 2) (dBin oIx (dVar 5) (dVar 13))) (dC (.int 1))))) (dVar 14)) (dLst aNil))) (dVar 13)))
    (sIf (dTest (dBin oEq (dVar 12) (dLst aNil)))
    (sApp 4 (dVar 5))
    sNil)))
    (sSeq (sIf (dOr (dTest (dBin oNe (dCall F_count_orders (aCons (dVar 2) aNil)) (dCall bLen (aCons (dVar 4) aNil)))) (dTest (dBin oNe (dCall F__law_call (aCons (dC (.int 2)) (aCons (dVar 2) (aCons (dCall bLen (aCons (dVar 4) aNil)) aNil)))) (dC (.str "number")))))
    (sRet (dC (.bool false)))
    sNil)
    (sSeq (sFrz 4 (sFor [6] bdN (iSeqD (dLst (aCons (dC (.int 0)) (aCons (dBin oSub (dCall bLen (aCons (dVar 4) aNil)) (dC (.int 1))) (aCons (dCall F__law_draw (aCons (dVar 1) (aCons (dCall bLen (aCons (dVar 4) aNil)) aNil))) aNil)))))
    (sIf (dOr (dTest (dBin oNe (dCall F__law_call (aCons (dC (.int 2)) (aCons (dVar 2) (aCons (dVar 6) aNil)))) (dBin oIx (dVar 4) (dVar 6)))) (dTest (dBin oNe (dCall F__law_call (aCons (dC (.int 1)) (aCons (dVar 2) (aCons (dBin oIx (dVar 4) (dVar 6)) aNil)))) (dVar 6))))
    (sRet (dC (.bool false)))
    sNil)))
    (sSeq (sSet 7 (dCall F__law_pick (aCons (dVar 1) (aCons (dCall F__law_all_orders (aCons (dVar 3) aNil)) aNil))))
    (sSeq (sIf (dNot (dTest (dCall F__law_true (aCons (dCall F_can_be_order (aCons (dVar 2) (aCons (dVar 7) aNil))) (aCons (dBin (oIn false) (dVar 7) (dVar 4)) aNil)))))
    (sRet (dC (.bool false)))
    sNil)
    (sSeq (sIf (dTest (dBin (oIn true) (dVar 7) (dVar 4)))
    (sRet (dAndV (dBin oEq (dCall F__law_call (aCons (dC (.int 0)) (aCons (dVar 2) (aCons (dVar 7) aNil)))) (dC (.str "none"))) (dBin oEq (dCall F__law_call (aCons (dC (.int 1)) (aCons (dVar 2) (aCons (dVar 7) aNil)))) (dC (.str "none")))))
    sNil)
    (sSeq (sSet 8 (dCall F__law_call (aCons (dC (.int 0)) (aCons (dVar 2) (aCons (dVar 7) aNil)))))
    (sSeq (sSet 9 (dComp [11] [11] bdN (iSeqD (dVar 7)) yes (dBin oIx (dVar 8) (dVar 11))))
    (sSeq (sIf (dOr (dNot (dTest (dCall F__law_inside (aCons (dVar 2) (aCons (dVar 8) aNil))))) (dTest (dBin oNe (dVar 9) (dCall bSorted (aCons (dVar 9) aNil)))))
    (sRet (dC (.bool false)))
    sNil)
    (sSeq (sSet 10 (dBin oSub (dC (.int 0)) (dC (.int 51))))
    (sSeq (sFor [11] bdN (iSeqD (dVar 7))
    (sSeq (sSet 10 (dCall bMax2 (aCons (dVar 10) (aCons (dBin oIx (dBin oIx (dVar 2) (dVar 11)) (dC (.int 0))) aNil))))
    (sIf (dTest (dBin oNe (dBin oIx (dVar 8) (dVar 11)) (dVar 10)))
    (sRet (dC (.bool false)))
    sNil)))
    (sRet (dAndV (dBin oGe (dCall F_count_orders (aCons (dCall F_widened (aCons (dVar 2) (aCons (dC (.int 1)) aNil))) aNil)) (dCall bLen (aCons (dVar 4) aNil))) (dBin oEq (dCall F_count_orders (aCons (dRev (dVar 2)) aNil)) (dCall bLen (aCons (dVar 4) aNil))))))))))))))))))))
def F_law : List AV → M RV := runF 1 15 b_law
end
structure Facts (K : PySem.W.Frag) (mg : Str → Option Value) (mo : Mo) : Prop where
  d_is_int : ∃ fd, FunD K "is_int" "is_int" (defArgs s_is_int) (defBody s_is_int) (defScope s_is_int) [] [] (He.ga K "is_int") fd
  g_is_int : mg "is_int" = some (.ref (He.ga K "is_int"))
  d_is_bound : ∃ fd, FunD K "is_bound" "is_bound" (defArgs s_is_bound) (defBody s_is_bound) (defScope s_is_bound) [] [] (He.ga K "is_bound") fd
  g_is_bound : mg "is_bound" = some (.ref (He.ga K "is_bound"))
  d_is_bounds : ∃ fd, FunD K "is_bounds" "is_bounds" (defArgs s_is_bounds) (defBody s_is_bounds) (defScope s_is_bounds) [] [] (He.ga K "is_bounds") fd
  g_is_bounds : mg "is_bounds" = some (.ref (He.ga K "is_bounds"))
  d_check_bounds : ∃ fd, FunD K "check_bounds" "check_bounds" (defArgs s_check_bounds) (defBody s_check_bounds) (defScope s_check_bounds) [] [] (He.ga K "check_bounds") fd
  g_check_bounds : mg "check_bounds" = some (.ref (He.ga K "check_bounds"))
  d_check_order : ∃ fd, FunD K "check_order" "check_order" (defArgs s_check_order) (defBody s_check_order) (defScope s_check_order) [] [] (He.ga K "check_order") fd
  g_check_order : mg "check_order" = some (.ref (He.ga K "check_order"))
  d_is_possible : ∃ fd, FunD K "is_possible" "is_possible" (defArgs s_is_possible) (defBody s_is_possible) (defScope s_is_possible) [] [] (He.ga K "is_possible") fd
  g_is_possible : mg "is_possible" = some (.ref (He.ga K "is_possible"))
  d_can_be_order : ∃ fd, FunD K "can_be_order" "can_be_order" (defArgs s_can_be_order) (defBody s_can_be_order) (defScope s_can_be_order) [] [] (He.ga K "can_be_order") fd
  g_can_be_order : mg "can_be_order" = some (.ref (He.ga K "can_be_order"))
  d_choice_for : ∃ fd, FunD K "choice_for" "choice_for" (defArgs s_choice_for) (defBody s_choice_for) (defScope s_choice_for) [] [] (He.ga K "choice_for") fd
  g_choice_for : mg "choice_for" = some (.ref (He.ga K "choice_for"))
  d_next_places : ∃ fd, FunD K "next_places" "next_places" (defArgs s_next_places) (defBody s_next_places) (defScope s_next_places) [] [] (He.ga K "next_places") fd
  g_next_places : mg "next_places" = some (.ref (He.ga K "next_places"))
  d_ways_from : ∃ fd, FunD K "ways_from" "ways_from" (defArgs s_ways_from) (defBody s_ways_from) (defScope s_ways_from) [] [] (He.ga K "ways_from") fd
  g_ways_from : mg "ways_from" = some (.ref (He.ga K "ways_from"))
  d_count_orders : ∃ fd, FunD K "count_orders" "count_orders" (defArgs s_count_orders) (defBody s_count_orders) (defScope s_count_orders) [] [] (He.ga K "count_orders") fd
  g_count_orders : mg "count_orders" = some (.ref (He.ga K "count_orders"))
  d_order_at : ∃ fd, FunD K "order_at" "order_at" (defArgs s_order_at) (defBody s_order_at) (defScope s_order_at) [] [] (He.ga K "order_at") fd
  g_order_at : mg "order_at" = some (.ref (He.ga K "order_at"))
  d_rank_of_order : ∃ fd, FunD K "rank_of_order" "rank_of_order" (defArgs s_rank_of_order) (defBody s_rank_of_order) (defScope s_rank_of_order) [] [] (He.ga K "rank_of_order") fd
  g_rank_of_order : mg "rank_of_order" = some (.ref (He.ga K "rank_of_order"))
  d_checked_changing : ∃ fd, FunD K "checked" "checked" (defArgs s_checked_changing) (defBody s_checked_changing) (defScope s_checked_changing) [] [] (He.ga K "checked") fd
  g_checked_changing : mg "checked" = some (.ref (He.ga K "checked"))
  d_widened : ∃ fd, FunD K "widened" "widened" (defArgs s_widened) (defBody s_widened) (defScope s_widened) [] [] (He.ga K "widened") fd
  g_widened : mg "widened" = some (.ref (He.ga K "widened"))
  d__law_start : ∃ fd, FunD K "_law_start" "_law_start" (defArgs s__law_start) (defBody s__law_start) (defScope s__law_start) [] [] (He.ga K "_law_start") fd
  g__law_start : mg "_law_start" = some (.ref (He.ga K "_law_start"))
  d__law_draw : ∃ fd, FunD K "_law_draw" "_law_draw" (defArgs s__law_draw) (defBody s__law_draw) (defScope s__law_draw) [] [] (He.ga K "_law_draw") fd
  g__law_draw : mg "_law_draw" = some (.ref (He.ga K "_law_draw"))
  d__law_pick : ∃ fd, FunD K "_law_pick" "_law_pick" (defArgs s__law_pick) (defBody s__law_pick) (defScope s__law_pick) [] [] (He.ga K "_law_pick") fd
  g__law_pick : mg "_law_pick" = some (.ref (He.ga K "_law_pick"))
  d__law_error : ∃ fd, FunD K "_law_error" "_law_error" (defArgs s__law_error) (defBody s__law_error) (defScope s__law_error) [] [] (He.ga K "_law_error") fd
  g__law_error : mg "_law_error" = some (.ref (He.ga K "_law_error"))
  d__law_true : ∃ fd, FunD K "_law_true" "_law_true" (defArgs s__law_true) (defBody s__law_true) (defScope s__law_true) [] [] (He.ga K "_law_true") fd
  g__law_true : mg "_law_true" = some (.ref (He.ga K "_law_true"))
  d__law_bounds : ∃ fd, FunD K "_law_bounds" "_law_bounds" (defArgs s__law_bounds) (defBody s__law_bounds) (defScope s__law_bounds) [] [] (He.ga K "_law_bounds") fd
  g__law_bounds : mg "_law_bounds" = some (.ref (He.ga K "_law_bounds"))
  d__law_small : ∃ fd, FunD K "_law_small" "_law_small" (defArgs s__law_small) (defBody s__law_small) (defScope s__law_small) [] [] (He.ga K "_law_small") fd
  g__law_small : mg "_law_small" = some (.ref (He.ga K "_law_small"))
  d__law_inside : ∃ fd, FunD K "_law_inside" "_law_inside" (defArgs s__law_inside) (defBody s__law_inside) (defScope s__law_inside) [] [] (He.ga K "_law_inside") fd
  g__law_inside : mg "_law_inside" = some (.ref (He.ga K "_law_inside"))
  d__law_all_orders : ∃ fd, FunD K "_law_orders" "_law_orders" (defArgs s__law_all_orders) (defBody s__law_all_orders) (defScope s__law_all_orders) [] [] (He.ga K "_law_orders") fd
  g__law_all_orders : mg "_law_orders" = some (.ref (He.ga K "_law_orders"))
  d__law_call : ∃ fd, FunD K "_law_call" "_law_call" (defArgs s__law_call) (defBody s__law_call) (defScope s__law_call) [] [] (He.ga K "_law_call") fd
  g__law_call : mg "_law_call" = some (.ref (He.ga K "_law_call"))
  d_law : ∃ fd, FunD K "law" "law" (defArgs s_law) (defBody s_law) (defScope s_law) [] [] (He.ga K "law") fd
  g_law : mg "law" = some (.ref (He.ga K "law"))
  m_ValueError : mg "ValueError" = none
  m_all : mg "all" = none
  m_bool : mg "bool" = none
  m_enumerate : mg "enumerate" = none
  m_int : mg "int" = none
  m_isinstance : mg "isinstance" = none
  m_len : mg "len" = none
  m_list : mg "list" = none
  m_max : mg "max" = none
  m_range : mg "range" = none
  m_sorted : mg "sorted" = none
  m_sum : mg "sum" = none
  m_tuple : mg "tuple" = none
  c_MOST_BOUND : ∃ t, mg "MOST_BOUND" = some (.int 50 t)
  c_MOST_VALUES : ∃ t, mg "MOST_VALUES" = some (.int 7 t)
  e_BadBounds : ExD K mg mo "BadBounds" .bounds
  e_BadNumber : ExD K mg mo "BadNumber" .number
  e_BadOrder : ExD K mg mo "BadOrder" .order
  e_BadText : ExD K mg mo "BadText" .text
  e_NotFound : ExD K mg mo "NotFound" .missing
  x_err : ErrF K mg mo
section
variable {P : Program} {w : World} {K : PySem.W.Frag} {mg : Str → Option Value} {base : Heap} {mo : Mo}
theorem sc_is_int : FnScope ["value", "low", "high"] ["value", "low", "high"] (defScope s_is_int) := ⟨rfl, rfl, rfl, by decide +kernel, rfl, by decide +kernel, by decide +kernel⟩
theorem ok_is_int (T : Facts K mg mo) : FnD P w K mg base mo "is_int" 3 F_is_int := by
  obtain ⟨fd, F⟩ := T.d_is_int
  refine ⟨_, fd, ["value", "low", "high"], fn_d F sc_is_int rfl rfl (fun cdv A outer s H E hr => ?_), T.g_is_int, F.kp, F.bindsN fun _ _ _ _ _ _ us hl => match us, hl with | [_, _, _], _ => rfl⟩
  obtain ⟨tk, px, po⟩ := pass_cx (P := P) (w := w) (K := K) (mg := mg) (base := base) (N := ["value", "low", "high"]) (qual := "is_int") (scope := defScope s_is_int) (f := He.ga K "is_int") (cdv := cdv) (A := A) (outer := outer) (s := s) (H := H) (E := E)
  exact (dss_one (ds_ret (de_and (de_isi .int T.m_isinstance T.m_int (de_var 0)) (de_and (de_not (de_isi .bool T.m_isinstance T.m_bool (de_var 0))) (de_one (de_lele (de_var 1) (de_var 0) (de_var 2)))))))
theorem sc_is_bound : FnScope ["value"] ["value"] (defScope s_is_bound) := ⟨rfl, rfl, rfl, by decide +kernel, rfl, by decide +kernel, by decide +kernel⟩
theorem ok_is_bound (T : Facts K mg mo) : FnD P w K mg base mo "is_bound" 4 F_is_bound := by
  obtain ⟨fd, F⟩ := T.d_is_bound
  refine ⟨_, fd, ["value"], fn_d F sc_is_bound rfl rfl (fun cdv A outer s H E hr => ?_), T.g_is_bound, F.kp, F.bindsN fun _ _ _ _ _ _ us hl => match us, hl with | [_], _ => rfl⟩
  obtain ⟨tk, px, po⟩ := pass_cx (P := P) (w := w) (K := K) (mg := mg) (base := base) (N := ["value"]) (qual := "is_bound") (scope := defScope s_is_bound) (f := He.ga K "is_bound") (cdv := cdv) (A := A) (outer := outer) (s := s) (H := H) (E := E)
  exact (dss_cons (ds_if (DW.dt (dw_or (dt_not (dt_val (de_isi .tuple T.m_isinstance T.m_tuple (de_var 0)))) (dw_or1 (dt_ne (k := 1) (hr.mono (by decide)) (de_len T.m_len (da_cons (de_var 0) da_nil)) de_int)))) (dss_one (ds_ret de_bl)) dss_nil)
    (dss_one (ds_ret (de_and (de_call (ok_is_int T) (hr.mono (by decide)) px (da_cons (de_ix (de_var 0) de_int) (da_cons (de_neg (de_gint T.c_MOST_BOUND)) (da_cons (de_gint T.c_MOST_BOUND) da_nil)))) (de_one (de_call (ok_is_int T) (hr.mono (by decide)) px (da_cons (de_ix (de_var 0) de_int) (da_cons (de_ix (de_var 0) de_int) (da_cons (de_gint T.c_MOST_BOUND) da_nil)))))))))
theorem sc_is_bounds : FnScope ["value", "one"] ["value"] (defScope s_is_bounds) := ⟨rfl, rfl, rfl, by decide +kernel, rfl, by decide +kernel, by decide +kernel⟩
theorem ok_is_bounds (T : Facts K mg mo) : FnD P w K mg base mo "is_bounds" 5 F_is_bounds := by
  obtain ⟨fd, F⟩ := T.d_is_bounds
  refine ⟨_, fd, ["value"], fn_d F sc_is_bounds rfl rfl (fun cdv A outer s H E hr => ?_), T.g_is_bounds, F.kp, F.bindsN fun _ _ _ _ _ _ us hl => match us, hl with | [_], _ => rfl⟩
  obtain ⟨tk, px, po⟩ := pass_cx (P := P) (w := w) (K := K) (mg := mg) (base := base) (N := ["value", "one"]) (qual := "is_bounds") (scope := defScope s_is_bounds) (f := He.ga K "is_bounds") (cdv := cdv) (A := A) (outer := outer) (s := s) (H := H) (E := E)
  exact (dss_cons (ds_if (DW.dt (dw_or (dt_not (dt_val (de_isi .list T.m_isinstance T.m_list (de_var 0)))) (dw_or1 (dt_not (dt_lele de_int (de_len T.m_len (da_cons (de_var 0) da_nil)) (de_gint T.c_MOST_VALUES)))))) (dss_one (ds_ret de_bl)) dss_nil)
    (dss_one (ds_ret (de_all rfl T.m_all (da_cons (de_comp (own := [("one", 1)]) rfl sc_is_bounds.nd (di_seq (de_var 0)) (blkOk_by (by kernel_rfl)) (fun _ _ _ _ _ => (dg_name (i := 1) sc_is_bounds.nd)) (fun _ _ _ _ _ => dts_nil) (fun _ _ _ _ _ => (de_call (ok_is_bound T) (hr.mono (by decide)) passL (da_cons (de_var 1) da_nil)))) da_nil)))))
theorem sc_check_bounds : FnScope ["value"] ["value"] (defScope s_check_bounds) := ⟨rfl, rfl, rfl, by decide +kernel, rfl, by decide +kernel, by decide +kernel⟩
theorem ok_check_bounds (T : Facts K mg mo) : FnD P w K mg base mo "check_bounds" 6 F_check_bounds := by
  obtain ⟨fd, F⟩ := T.d_check_bounds
  refine ⟨_, fd, ["value"], fn_d F sc_check_bounds rfl rfl (fun cdv A outer s H E hr => ?_), T.g_check_bounds, F.kp, F.bindsN fun _ _ _ _ _ _ us hl => match us, hl with | [_], _ => rfl⟩
  obtain ⟨tk, px, po⟩ := pass_cx (P := P) (w := w) (K := K) (mg := mg) (base := base) (N := ["value"]) (qual := "check_bounds") (scope := defScope s_check_bounds) (f := He.ga K "check_bounds") (cdv := cdv) (A := A) (outer := outer) (s := s) (H := H) (E := E)
  exact (dss_one (ds_if (dt_not (dt_val (de_call (ok_is_bounds T) (hr.mono (by decide)) px (da_cons (de_var 0) da_nil)))) (dss_one (ds_raise T.e_BadBounds rfl tk)) dss_nil))
theorem sc_check_order : FnScope ["bounds", "value", "k"] ["bounds", "value"] (defScope s_check_order) := ⟨rfl, rfl, rfl, by decide +kernel, rfl, by decide +kernel, by decide +kernel⟩
theorem ok_check_order (T : Facts K mg mo) : FnD P w K mg base mo "check_order" 4 F_check_order := by
  obtain ⟨fd, F⟩ := T.d_check_order
  refine ⟨_, fd, ["bounds", "value"], fn_d F sc_check_order rfl rfl (fun cdv A outer s H E hr => ?_), T.g_check_order, F.kp, F.bindsN fun _ _ _ _ _ _ us hl => match us, hl with | [_, _], _ => rfl⟩
  obtain ⟨tk, px, po⟩ := pass_cx (P := P) (w := w) (K := K) (mg := mg) (base := base) (N := ["bounds", "value", "k"]) (qual := "check_order") (scope := defScope s_check_order) (f := He.ga K "check_order") (cdv := cdv) (A := A) (outer := outer) (s := s) (H := H) (E := E)
  exact (dss_cons (ds_if (DW.dt (dw_or (dt_not (dt_val (de_isi .list T.m_isinstance T.m_list (de_var 1)))) (dw_or1 (dt_not (dt_val (de_all rfl T.m_all (da_cons (de_comp (own := [("k", 2)]) rfl sc_check_order.nd (di_seq (de_var 1)) (blkOk_by (by kernel_rfl)) (fun _ _ _ _ _ => (dg_name (i := 2) sc_check_order.nd)) (fun _ _ _ _ _ => dts_nil) (fun _ _ _ _ _ => (de_call (ok_is_int T) (hr.mono (by decide)) passL (da_cons (de_var 2) (da_cons de_int (da_cons (de_sub (de_len T.m_len (da_cons (de_var 0) da_nil)) de_int) da_nil)))))) da_nil))))))) (dss_one (ds_raise T.e_BadOrder rfl tk)) dss_nil)
    (dss_one (ds_if (dt_ne (k := 1) (hr.mono (by decide)) (de_sorted T.m_sorted (da_cons (de_var 1) da_nil)) (de_listR rfl T.m_list T.m_range (de_len T.m_len (da_cons (de_var 0) da_nil)))) (dss_one (ds_raise T.e_BadOrder rfl tk)) dss_nil)))
theorem sc_is_possible : FnScope ["bounds", "order", "k", "j"] ["bounds", "order"] (defScope s_is_possible) := ⟨rfl, rfl, rfl, by decide +kernel, rfl, by decide +kernel, by decide +kernel⟩
theorem ok_is_possible (T : Facts K mg mo) : FnD P w K mg base mo "is_possible" 3 F_is_possible := by
  obtain ⟨fd, F⟩ := T.d_is_possible
  refine ⟨_, fd, ["bounds", "order"], fn_d F sc_is_possible rfl rfl (fun cdv A outer s H E hr => ?_), T.g_is_possible, F.kp, F.bindsN fun _ _ _ _ _ _ us hl => match us, hl with | [_, _], _ => rfl⟩
  obtain ⟨tk, px, po⟩ := pass_cx (P := P) (w := w) (K := K) (mg := mg) (base := base) (N := ["bounds", "order", "k", "j"]) (qual := "is_possible") (scope := defScope s_is_possible) (f := He.ga K "is_possible") (cdv := cdv) (A := A) (outer := outer) (s := s) (H := H) (E := E)
  exact (dss_cons (ds_for po rfl (di_range1 T.m_range (da_cons (de_len T.m_len (da_cons (de_var 1) da_nil)) da_nil)) (dg_name (i := 2) sc_is_possible.nd) (dss_one (ds_for po rfl (di_range1 T.m_range (da_cons (de_var 2) da_nil)) (dg_name (i := 3) sc_is_possible.nd) (dss_one (ds_if (dt_gt (de_ix (de_ix (de_var 0) (de_ix (de_var 1) (de_var 3))) de_int) (de_ix (de_ix (de_var 0) (de_ix (de_var 1) (de_var 2))) de_int)) (dss_one (ds_ret de_bl)) dss_nil)))))
    (dss_one (ds_ret de_bl)))
theorem sc_can_be_order : FnScope ["bounds", "order"] ["bounds", "order"] (defScope s_can_be_order) := ⟨rfl, rfl, rfl, by decide +kernel, rfl, by decide +kernel, by decide +kernel⟩
theorem ok_can_be_order (T : Facts K mg mo) : FnD P w K mg base mo "can_be_order" 7 F_can_be_order := by
  obtain ⟨fd, F⟩ := T.d_can_be_order
  refine ⟨_, fd, ["bounds", "order"], fn_d F sc_can_be_order rfl rfl (fun cdv A outer s H E hr => ?_), T.g_can_be_order, F.kp, F.bindsN fun _ _ _ _ _ _ us hl => match us, hl with | [_, _], _ => rfl⟩
  obtain ⟨tk, px, po⟩ := pass_cx (P := P) (w := w) (K := K) (mg := mg) (base := base) (N := ["bounds", "order"]) (qual := "can_be_order") (scope := defScope s_can_be_order) (f := He.ga K "can_be_order") (cdv := cdv) (A := A) (outer := outer) (s := s) (H := H) (E := E)
  exact (dss_cons (ds_expr (de_call (ok_check_bounds T) (hr.mono (by decide)) px (da_cons (de_var 0) da_nil)))
    (dss_cons (ds_expr (de_call (ok_check_order T) (hr.mono (by decide)) px (da_cons (de_var 0) (da_cons (de_var 1) da_nil))))
    (dss_one (ds_ret (de_call (ok_is_possible T) (hr.mono (by decide)) px (da_cons (de_var 0) (da_cons (de_var 1) da_nil)))))))
theorem sc_choice_for : FnScope ["bounds", "order", "found", "last", "place"] ["bounds", "order"] (defScope s_choice_for) := ⟨rfl, rfl, rfl, by decide +kernel, rfl, by decide +kernel, by decide +kernel⟩
theorem ok_choice_for (T : Facts K mg mo) : FnD P w K mg base mo "choice_for" 7 F_choice_for := by
  obtain ⟨fd, F⟩ := T.d_choice_for
  refine ⟨_, fd, ["bounds", "order"], fn_d F sc_choice_for rfl rfl (fun cdv A outer s H E hr => ?_), T.g_choice_for, F.kp, F.bindsN fun _ _ _ _ _ _ us hl => match us, hl with | [_, _], _ => rfl⟩
  obtain ⟨tk, px, po⟩ := pass_cx (P := P) (w := w) (K := K) (mg := mg) (base := base) (N := ["bounds", "order", "found", "last", "place"]) (qual := "choice_for") (scope := defScope s_choice_for) (f := He.ga K "choice_for") (cdv := cdv) (A := A) (outer := outer) (s := s) (H := H) (E := E)
  exact (dss_cons (ds_expr (de_call (ok_check_bounds T) (hr.mono (by decide)) px (da_cons (de_var 0) da_nil)))
    (dss_cons (ds_expr (de_call (ok_check_order T) (hr.mono (by decide)) px (da_cons (de_var 0) (da_cons (de_var 1) da_nil))))
    (dss_cons (ds_if (dt_not (dt_val (de_call (ok_is_possible T) (hr.mono (by decide)) px (da_cons (de_var 0) (da_cons (de_var 1) da_nil))))) (dss_one (ds_raise T.e_NotFound rfl tk)) dss_nil)
    (dss_cons (ds_setO (i := 2) sc_choice_for.nd (de_mul (de_lst (da_cons de_int da_nil)) (de_len T.m_len (da_cons (de_var 0) da_nil))))
    (dss_cons (ds_set (i := 3) sc_choice_for.nd (de_neg de_int))
    (dss_cons (ds_for po rfl (di_seq (de_var 1)) (dg_name (i := 4) sc_choice_for.nd) (dss_cons (ds_set (i := 3) sc_choice_for.nd (de_max2 rfl T.m_max (da_cons (de_var 3) (da_cons (de_ix (de_ix (de_var 0) (de_var 4)) de_int) da_nil))))
    (dss_one (ds_put (i := 2) (de_var 3) (de_var 4)))))
    (dss_one (ds_retV 2))))))))
theorem sc_next_places : FnScope ["bounds", "done", "left", "k", "j"] ["bounds", "done"] (defScope s_next_places) := ⟨rfl, rfl, rfl, by decide +kernel, rfl, by decide +kernel, by decide +kernel⟩
theorem ok_next_places (T : Facts K mg mo) : FnD P w K mg base mo "next_places" 3 F_next_places := by
  obtain ⟨fd, F⟩ := T.d_next_places
  refine ⟨_, fd, ["bounds", "done"], fn_d F sc_next_places rfl rfl (fun cdv A outer s H E hr => ?_), T.g_next_places, F.kp, F.bindsN fun _ _ _ _ _ _ us hl => match us, hl with | [_, _], _ => rfl⟩
  obtain ⟨tk, px, po⟩ := pass_cx (P := P) (w := w) (K := K) (mg := mg) (base := base) (N := ["bounds", "done", "left", "k", "j"]) (qual := "next_places") (scope := defScope s_next_places) (f := He.ga K "next_places") (cdv := cdv) (A := A) (outer := outer) (s := s) (H := H) (E := E)
  exact (dss_cons (ds_set (i := 2) sc_next_places.nd (de_comp (own := [("k", 3)]) rfl sc_next_places.nd (di_range1 T.m_range (da_cons (de_len T.m_len (da_cons (de_var 0) da_nil)) da_nil)) (blkOk_by (by kernel_rfl)) (fun _ _ _ _ _ => (dg_name (i := 3) sc_next_places.nd)) (fun _ _ _ _ _ => (dts_one (dt_notIn (k := 1) (hr.mono (by decide)) (de_var 3) (de_var 1)))) (fun _ _ _ _ _ => (de_var 3))))
    (dss_one (ds_ret (de_comp (own := [("k", 3)]) rfl sc_next_places.nd (di_seq (de_var 2)) (blkOk_by (by kernel_rfl)) (fun _ _ _ _ _ => (dg_name (i := 3) sc_next_places.nd)) (fun _ _ _ _ _ => (dts_one (dt_val (de_all rfl T.m_all (da_cons (de_comp (own := [("j", 4)]) rfl sc_next_places.nd (di_seq (de_var 2)) (blkOk_by (by kernel_rfl)) (fun _ _ _ _ _ => (dg_name (i := 4) sc_next_places.nd)) (fun _ _ _ _ _ => dts_nil) (fun _ _ _ _ _ => (de_le (de_ix (de_ix (de_var 0) (de_var 3)) de_int) (de_ix (de_ix (de_var 0) (de_var 4)) de_int)))) da_nil))))) (fun _ _ _ _ _ => (de_var 3))))))
theorem sc_ways_from : FnScope ["bounds", "done", "known", "key", "k"] ["bounds", "done", "known"] (defScope s_ways_from) := ⟨rfl, rfl, rfl, by decide +kernel, rfl, by decide +kernel, by decide +kernel⟩
theorem ok_ways_d (T : Facts K mg mo) : ∀ d : Nat, FnD P w K mg base mo "ways_from" (3 + d + 1) (fWaysD d)
  | 0 => by
    obtain ⟨fd, F⟩ := T.d_ways_from
    refine ⟨_, fd, ["bounds", "done", "known"], spD_weak (F := runF 3 5 bWays0) (fun _ _ _ _ h => ways_sem0 h) (fn_d F sc_ways_from rfl rfl (fun cdv A outer s H E hr => ?_)), T.g_ways_from, F.kp, F.bindsN fun _ _ _ _ _ _ us hl => match us, hl with | [_, _, _], _ => rfl⟩
    obtain ⟨tk, px, po⟩ := pass_cx (P := P) (w := w) (K := K) (mg := mg) (base := base) (N := ["bounds", "done", "known", "key", "k"]) (qual := "ways_from") (scope := defScope s_ways_from) (f := He.ga K "ways_from") (cdv := cdv) (A := A) (outer := outer) (s := s) (H := H) (E := E)
    exact dss_cons (ds_if (dt_eq (k := 1) (hr.mono (by omega)) (de_len T.m_len (da_cons (de_var 1) da_nil)) (de_len T.m_len (da_cons (de_var 0) da_nil))) (dss_one (ds_ret de_int)) dss_nil) dss_stuck
  | d + 1 => by
    obtain ⟨fd, F⟩ := T.d_ways_from
    refine ⟨_, fd, ["bounds", "done", "known"], spD_weak (F := runF 3 5 (bWays d)) (F' := fun as => fWaysD (d + 1) as) (fun _ _ _ _ h => ways_sem h) (fn_d F sc_ways_from rfl rfl (fun cdv A outer s H E hr => ?_)), T.g_ways_from, F.kp, F.bindsN fun _ _ _ _ _ _ us hl => match us, hl with | [_, _, _], _ => rfl⟩
    obtain ⟨tk, px, po⟩ := pass_cx (P := P) (w := w) (K := K) (mg := mg) (base := base) (N := ["bounds", "done", "known", "key", "k"]) (qual := "ways_from") (scope := defScope s_ways_from) (f := He.ga K "ways_from") (cdv := cdv) (A := A) (outer := outer) (s := s) (H := H) (E := E)
    exact dss_cons (ds_if (dt_eq (k := 1) (hr.mono (by omega)) (de_len T.m_len (da_cons (de_var 1) da_nil)) (de_len T.m_len (da_cons (de_var 0) da_nil))) (dss_one (ds_ret de_int)) dss_nil) (dss_ways (fv := fvWays d) (d + 1) sc_ways_from.nd hr T.m_tuple T.m_sorted (de_sum rfl T.m_sum (da_cons (de_comp (own := [("k", 4)]) rfl sc_ways_from.nd (di_seq (de_call (ok_next_places T) (hr.mono (by omega)) px (da_cons (de_var 0) (da_cons (de_var 1) da_nil)))) (blkOk_by (by kernel_rfl)) (fun _ _ _ _ _ => (dg_name (i := 4) sc_ways_from.nd)) (fun _ _ _ _ _ => dts_nil) (fun _ _ _ _ _ => (de_call (ok_ways_d T d) (hr.mono (by omega)) passL (da_cons (de_var 0) (da_cons (de_add (de_var 1) (de_lst (da_cons (de_var 4) da_nil))) (da_cons (de_var 2) da_nil)))))) da_nil)) (ways_hsem d))
theorem ok_ways_from (T : Facts K mg mo) : FnD P w K mg base mo "ways_from" 11 F_ways_from := ok_ways_d T 7

theorem sc_count_orders : FnScope ["bounds"] ["bounds"] (defScope s_count_orders) := ⟨rfl, rfl, rfl, by decide +kernel, rfl, by decide +kernel, by decide +kernel⟩
theorem ok_count_orders (T : Facts K mg mo) : FnD P w K mg base mo "count_orders" 12 F_count_orders := by
  obtain ⟨fd, F⟩ := T.d_count_orders
  refine ⟨_, fd, ["bounds"], fn_d F sc_count_orders rfl rfl (fun cdv A outer s H E hr => ?_), T.g_count_orders, F.kp, F.bindsN fun _ _ _ _ _ _ us hl => match us, hl with | [_], _ => rfl⟩
  obtain ⟨tk, px, po⟩ := pass_cx (P := P) (w := w) (K := K) (mg := mg) (base := base) (N := ["bounds"]) (qual := "count_orders") (scope := defScope s_count_orders) (f := He.ga K "count_orders") (cdv := cdv) (A := A) (outer := outer) (s := s) (H := H) (E := E)
  exact (dss_cons (ds_expr (de_call (ok_check_bounds T) (hr.mono (by decide)) px (da_cons (de_var 0) da_nil)))
    (dss_one (ds_ret (de_call (ok_ways_from T) (hr.mono (by decide)) px (da_cons (de_var 0) (da_cons (de_lst da_nil) (da_cons (de_memo 0) da_nil)))))))
theorem sc_order_at : FnScope ["bounds", "rank", "known", "found", "k", "many"] ["bounds", "rank"] (defScope s_order_at) := ⟨rfl, rfl, rfl, by decide +kernel, rfl, by decide +kernel, by decide +kernel⟩
theorem ok_order_at (T : Facts K mg mo) : FnD P w K mg base mo "order_at" 12 F_order_at := by
  obtain ⟨fd, F⟩ := T.d_order_at
  refine ⟨_, fd, ["bounds", "rank"], fn_d F sc_order_at rfl rfl (fun cdv A outer s H E hr => ?_), T.g_order_at, F.kp, F.bindsN fun _ _ _ _ _ _ us hl => match us, hl with | [_, _], _ => rfl⟩
  obtain ⟨tk, px, po⟩ := pass_cx (P := P) (w := w) (K := K) (mg := mg) (base := base) (N := ["bounds", "rank", "known", "found", "k", "many"]) (qual := "order_at") (scope := defScope s_order_at) (f := He.ga K "order_at") (cdv := cdv) (A := A) (outer := outer) (s := s) (H := H) (E := E)
  exact (dss_cons (ds_expr (de_call (ok_check_bounds T) (hr.mono (by decide)) px (da_cons (de_var 0) da_nil)))
    (dss_cons (ds_set (i := 2) sc_order_at.nd (de_memo 0))
    (dss_cons (ds_if (dt_not (dt_val (de_call (ok_is_int T) (hr.mono (by decide)) px (da_cons (de_var 1) (da_cons de_int (da_cons (de_sub (de_call (ok_ways_from T) (hr.mono (by decide)) px (da_cons (de_var 0) (da_cons (de_lst da_nil) (da_cons (de_var 2) da_nil)))) de_int) da_nil)))))) (dss_one (ds_raise T.e_BadNumber rfl tk)) dss_nil)
    (dss_cons (ds_set (i := 3) sc_order_at.nd (de_lst da_nil))
    (dss_cons (ds_while fuel po (dt_lt (de_len T.m_len (da_cons (de_var 3) da_nil)) (de_len T.m_len (da_cons (de_var 0) da_nil))) (dss_one (ds_for po rfl (di_seq (de_call (ok_next_places T) (hr.mono (by decide)) px (da_cons (de_var 0) (da_cons (de_var 3) da_nil)))) (dg_name (i := 4) sc_order_at.nd) (dss_cons (ds_set (i := 5) sc_order_at.nd (de_call (ok_ways_from T) (hr.mono (by decide)) px (da_cons (de_var 0) (da_cons (de_add (de_var 3) (de_lst (da_cons (de_var 4) da_nil))) (da_cons (de_var 2) da_nil)))))
    (dss_cons (ds_if (dt_lt (de_var 1) (de_var 5)) (dss_cons (ds_set (i := 3) sc_order_at.nd (de_add (de_var 3) (de_lst (da_cons (de_var 4) da_nil))))
    (dss_one ds_break)) dss_nil)
    (dss_one (ds_augSub (i := 1) sc_order_at.nd (de_var 5))))))))
    (dss_one (ds_retV 3)))))))
theorem sc_rank_of_order : FnScope ["bounds", "order", "found", "known", "place", "one", "k"] ["bounds", "order"] (defScope s_rank_of_order) := ⟨rfl, rfl, rfl, by decide +kernel, rfl, by decide +kernel, by decide +kernel⟩
theorem ok_rank_of_order (T : Facts K mg mo) : FnD P w K mg base mo "rank_of_order" 12 F_rank_of_order := by
  obtain ⟨fd, F⟩ := T.d_rank_of_order
  refine ⟨_, fd, ["bounds", "order"], fn_d F sc_rank_of_order rfl rfl (fun cdv A outer s H E hr => ?_), T.g_rank_of_order, F.kp, F.bindsN fun _ _ _ _ _ _ us hl => match us, hl with | [_, _], _ => rfl⟩
  obtain ⟨tk, px, po⟩ := pass_cx (P := P) (w := w) (K := K) (mg := mg) (base := base) (N := ["bounds", "order", "found", "known", "place", "one", "k"]) (qual := "rank_of_order") (scope := defScope s_rank_of_order) (f := He.ga K "rank_of_order") (cdv := cdv) (A := A) (outer := outer) (s := s) (H := H) (E := E)
  exact (dss_cons (ds_expr (de_call (ok_check_bounds T) (hr.mono (by decide)) px (da_cons (de_var 0) da_nil)))
    (dss_cons (ds_expr (de_call (ok_check_order T) (hr.mono (by decide)) px (da_cons (de_var 0) (da_cons (de_var 1) da_nil))))
    (dss_cons (ds_if (dt_not (dt_val (de_call (ok_is_possible T) (hr.mono (by decide)) px (da_cons (de_var 0) (da_cons (de_var 1) da_nil))))) (dss_one (ds_raise T.e_NotFound rfl tk)) dss_nil)
    (dss_cons (ds_par (i := 2) (j := 3) rfl sc_rank_of_order.nd (da_cons de_int (da_cons (de_memo 0) da_nil)))
    (dss_cons (ds_for po rfl (di_enum T.m_enumerate (da_cons (de_var 1) da_nil)) (dg_tup rfl (dgs_cons (i := 4) sc_rank_of_order.nd (dgs_cons (i := 5) sc_rank_of_order.nd dgs_nil))) (dss_one (ds_for po rfl (di_seq (de_call (ok_next_places T) (hr.mono (by decide)) px (da_cons (de_var 0) (da_cons (de_sl (de_var 1) do_none (do_some (de_var 4))) da_nil)))) (dg_name (i := 6) sc_rank_of_order.nd) (dss_one (ds_if (dt_lt (de_var 6) (de_var 5)) (dss_one (ds_augAdd (i := 2) sc_rank_of_order.nd (de_call (ok_ways_from T) (hr.mono (by decide)) px (da_cons (de_var 0) (da_cons (de_add (de_sl (de_var 1) do_none (do_some (de_var 4))) (de_lst (da_cons (de_var 6) da_nil))) (da_cons (de_var 3) da_nil)))))) dss_nil)))))
    (dss_one (ds_retV 2)))))))
theorem sc_checked_changing : FnScope ["bounds"] ["bounds"] (defScope s_checked_changing) := ⟨rfl, rfl, rfl, by decide +kernel, rfl, by decide +kernel, by decide +kernel⟩
theorem ok_checked_changing (T : Facts K mg mo) : FnD P w K mg base mo "checked" 6 F_checked_changing := by
  obtain ⟨fd, F⟩ := T.d_checked_changing
  refine ⟨_, fd, ["bounds"], fn_d F sc_checked_changing rfl rfl (fun cdv A outer s H E hr => ?_), T.g_checked_changing, F.kp, F.bindsN fun _ _ _ _ _ _ us hl => match us, hl with | [_], _ => rfl⟩
  obtain ⟨tk, px, po⟩ := pass_cx (P := P) (w := w) (K := K) (mg := mg) (base := base) (N := ["bounds"]) (qual := "checked") (scope := defScope s_checked_changing) (f := He.ga K "checked") (cdv := cdv) (A := A) (outer := outer) (s := s) (H := H) (E := E)
  exact (dss_cons (ds_if (dt_not (dt_val (de_call (ok_is_bounds T) (hr.mono (by decide)) px (da_cons (de_var 0) da_nil)))) (dss_one (ds_raise T.e_BadBounds rfl tk)) dss_nil)
    (dss_one (ds_retV 0)))
theorem sc_widened : FnScope ["bounds", "by", "low", "high"] ["bounds", "by"] (defScope s_widened) := ⟨rfl, rfl, rfl, by decide +kernel, rfl, by decide +kernel, by decide +kernel⟩
theorem ok_widened (T : Facts K mg mo) : FnD P w K mg base mo "widened" 7 F_widened := by
  obtain ⟨fd, F⟩ := T.d_widened
  refine ⟨_, fd, ["bounds", "by"], fn_d F sc_widened rfl rfl (fun cdv A outer s H E hr => ?_), T.g_widened, F.kp, F.bindsN fun _ _ _ _ _ _ us hl => match us, hl with | [_, _], _ => rfl⟩
  obtain ⟨tk, px, po⟩ := pass_cx (P := P) (w := w) (K := K) (mg := mg) (base := base) (N := ["bounds", "by", "low", "high"]) (qual := "widened") (scope := defScope s_widened) (f := He.ga K "widened") (cdv := cdv) (A := A) (outer := outer) (s := s) (H := H) (E := E)
  exact (dss_cons (ds_expr (de_call (ok_check_bounds T) (hr.mono (by decide)) px (da_cons (de_var 0) da_nil)))
    (dss_cons (ds_if (dt_not (dt_val (de_call (ok_is_int T) (hr.mono (by decide)) px (da_cons (de_var 1) (da_cons de_int (da_cons de_int da_nil)))))) (dss_one (ds_raise T.e_BadNumber rfl tk)) dss_nil)
    (dss_one (ds_ret (de_call (ok_checked_changing T) (hr.mono (by decide)) px (da_cons (de_comp (own := [("low", 2), ("high", 3)]) rfl sc_widened.nd (di_seq (de_var 0)) (blkOk_by (by kernel_rfl)) (fun _ _ _ _ _ => (dg_tup rfl (dgs_cons (i := 2) sc_widened.nd (dgs_cons (i := 3) sc_widened.nd dgs_nil)))) (fun _ _ _ _ _ => dts_nil) (fun _ _ _ _ _ => (de_tup (da_cons (de_sub (de_var 2) (de_var 1)) (da_cons (de_add (de_var 3) (de_var 1)) da_nil))))) da_nil))))))
theorem sc__law_start : FnScope ["script"] ["script"] (defScope s__law_start) := ⟨rfl, rfl, rfl, by decide +kernel, rfl, by decide +kernel, by decide +kernel⟩
theorem ok__law_start (T : Facts K mg mo) : FnD P w K mg base mo "_law_start" 3 fStart := by
  obtain ⟨fd, F⟩ := T.d__law_start
  refine ⟨_, fd, ["script"], F.ok sc__law_start (fun vs H Q E h => ?_) (fun cdv A outer s H vs Q E hr h => ?_), T.g__law_start, F.kp, F.bindsN fun _ _ _ _ _ _ us hl => match us, hl with | [_], _ => rfl⟩
  · obtain ⟨S, g, W, as, ra, w, sd, hw⟩ := h
    unfold fStart at hw
    split at hw
    · rw [reps_length ra] <;> rfl
    · exact hw.elim
  · obtain ⟨S, g, W, as, ra, w, sd, hw⟩ := h
    unfold fStart at hw
    split at hw
    · rename_i ns
      split at hw
      · rename_i hl
        obtain ⟨v, rfl, r⟩ := reps1 ra
        obtain ⟨p, rfl, hp⟩ := r
        have hS : SqL K H p (ns.map V.int) := Same.seq cut_sub hp
        have hS1 : Dp K H (.ref p) (.list (ns.map PyData.int)) := .lst hS (by
          have := (rpAll_ints (K := K) (H := H) (ns := ns)).dp
          exact this)
        have shI : ∀ l : List Int, PyData.canLayAll0 (l.map PyData.int) = true ∧ PyData.depthAll (l.map PyData.int) = 0 := by
          intro l
          induction l with
          | nil => exact ⟨rfl, rfl⟩
          | cons a l ih => exact ⟨by simp [PyData.canLayAll0, PyData.canLay0, ih.1], by simp [PyData.depthAll, PyData.depth, ih.2]⟩
        have sh : SeqAt.shaped (.list (ns.map PyData.int)) = true := by
          unfold SeqAt.shaped
          rw [Bool.and_eq_true]
          refine ⟨by simp only [PyData.canLay0]; exact (shI ns).1, decide_eq_true ?_⟩
          simp only [PyData.depth]
          rw [(shI ns).2]
          decide
        refine ⟨_, pss_one (ps_ret (pe_lst (pa_cons (pe_ifExp (pt_cmpR (op_neD hr.units) (pv 0) (pe_lst pa_nil) (nomark _))
          (pe_callTy call_list_of (by rfl) T.m_list PyProof.Rows.boot_list (pa_cons (pv 0) pa_nil)) (pe_lst (pa_cons pe_int pa_nil))) (pa_cons pe_int pa_nil)))), ?_⟩
        refine ⟨_, rfl, Nat.zero_le _, fun l0 hl0 => ?_⟩
        have hS' : Dp K (upd H l0 (.lst [])) (.ref p) (.list (ns.map PyData.int)) := .lst (Same.seq (same_new hl0) hS) (rpAll_ints (K := K) (H := upd H l0 (.lst [])) (ns := ns)).dp
        refine ⟨_, _, hS', .lst (SqL.of upd_same) .nil, sh, by decide +kernel, _, rfl, ?_⟩
        -- both ways make a new list of ints, then the list of both
        have fin : ∀ (H1 : Hp) (q : Addr) (ms : List Int), Same H H1 → H1 q = none → 0 < ms.length → ms.length ≤ 63 → ∀ t, upd H1 q (.lst (ms.map V.int)) t = none → Q (.ref t) (upd (upd H1 q (.lst (ms.map V.int))) t (.lst [.ref q, .int 0])) := fun H1 q ms hs hq h0 h63 t ht => by
          have hqt : q ≠ t := fun z => by subst z; rw [upd_same] at ht; cases ht
          have hs1 : Same H (upd H1 q (.lst (ms.map V.int))) := hs.trans (same_new hq)
          have hs2 := hs1.trans (same_new (o := .lst [.ref q, .int 0]) ht)
          have hR : ORep mo K (cut (upd (upd H1 q (.lst (ms.map V.int))) t (.lst [.ref q, .int 0])) (g.add t (fun b => b = t ∨ b = q) W.length).R) (upd (upd H1 q (.lst (ms.map V.int))) t (.lst [.ref q, .int 0])) (fun b => b = t ∨ b = q) t .dr :=
            ⟨q, 0, ms, upd_same, by rw [upd_ne hqt, upd_same], hqt.symm, .inl rfl, .inr rfl, h0, h63, Int.le_refl _⟩
          obtain ⟨w', s'⟩ := w.add (S' := S) (a := t) (f := fun b => b = t ∨ b = q) (o := .dr) hs2 (fun b hb => by
            rcases hb with rfl | rfl
            · exact ⟨hs1.free ht, by rw [upd_same]; exact fun z => by cases z⟩
            · exact ⟨hs.free hq, by rw [upd_ne hqt, upd_same]; exact fun z => by cases z⟩) hR
          refine hw _ (.ref t) _ s' w' ⟨⟨t, ?_, rfl⟩, fun z => by cases z⟩
          unfold Gh.add
          dsimp only
          rw [← w.len, List.getElem?_concat_length]
        cases e : (!PyData.eqv (.list (ns.map PyData.int)) (.list [])) with
        | true =>
          refine iteT ?_
          have h0 : 0 < ns.length := by
            cases ns with
            | nil => simp [PyData.eqv, PyData.eqvAll] at e
            | cons a l => simp
          refine ⟨_, rfl, p, _, rfl, .inl (Same.seq (same_new hl0) hS), fun l hl' => ?_⟩
          exact ⟨by show 2 ≤ sizeLine; decide, fun t ht => fin _ l ns (same_new hl0) hl' h0 hl t ht⟩
        | false =>
          refine iteF ?_
          refine ⟨by show 1 ≤ sizeLine; decide, fun l hl' => ⟨by show 2 ≤ sizeLine; decide, fun t ht => fin _ l [0] (same_new hl0) hl' (by decide) (by decide) t ht⟩⟩
      · exact hw.elim
    · exact hw.elim
theorem sc__law_draw : FnScope ["draws", "limit", "numbers", "at", "cell", "mixed"] ["draws", "limit"] (defScope s__law_draw) := ⟨rfl, rfl, rfl, by decide +kernel, rfl, by decide +kernel, by decide +kernel⟩
theorem ok__law_draw (T : Facts K mg mo) : FnD P w K mg base mo "_law_draw" 3 fDraw := by
  obtain ⟨fd, F⟩ := T.d__law_draw
  refine ⟨_, fd, ["draws", "limit"], F.ok sc__law_draw (fun vs H Q E h => ?_) (fun cdv A outer s H vs Q E hr h => ?_), T.g__law_draw, F.kp, F.bindsN fun _ _ _ _ _ _ us hl => match us, hl with | [_, _], _ => rfl⟩
  · obtain ⟨S, g, W, as, ra, w, sd, hw⟩ := h
    unfold fDraw at hw
    split at hw
    · rw [reps_length ra] <;> rfl
    · exact hw.elim
  · obtain ⟨S, g, W, as, ra, w, sd, hw⟩ := h
    unfold fDraw at hw
    split at hw
    · rename_i i l
      obtain ⟨hWi, hl0, hl1, hw⟩ := hw
      obtain ⟨v, u, rfl, r1, r2⟩ := reps2 ra
      obtain ⟨a, hadr, rfl⟩ := r1
      rw [Rp.int_inv r2]
      obtain ⟨q, c, ns, ha, hq, hne, fa, fq, h0, h63, hc⟩ := w.rep i a .dr hadr hWi
      have hiW : i < W.length := (List.getElem?_eq_some_iff.mp hWi).1
      have nd := sc__law_draw.nd
      -- what is handed back
      have fin : ∀ (r : Int) (c' : Int) (ms : List Int) (H' : Hp), 0 ≤ r → r < l → 0 ≤ c' → ms.length = ns.length → H' a = some (.lst [.ref q, .int c']) → H' q = some (.lst (ms.map V.int)) → (∀ b, b ≠ a → b ≠ q → H' b = H b) → Q (.int r) H' := fun r c' ms H' hr0 hr1 hc' hm h1 h2 h3 => by
        have hk : ∀ b, ¬ g.fp i b → H' b = H b := fun b n => h3 b (fun z => n (z ▸ fa)) (fun z => n (z ▸ fq))
        have hd : ∀ b, g.fp i b → H' b ≠ none := fun b f => by
          by_cases e1 : b = a
          · subst e1; rw [h1]; exact fun z => by cases z
          · by_cases e2 : b = q
            · subst e2; rw [h2]; exact fun z => by cases z
            · rw [h3 b e1 e2]; exact (w.dom i b f).2
        have hW : W.set i .dr = W := by
          apply List.ext_getElem?
          intro j
          by_cases e : i = j
          · subst e; rw [List.getElem?_set_self hiW, hWi]
          · rw [List.getElem?_set_ne e]
        have w' := w.at (S' := S) (o := .dr) hiW hadr hk hd ⟨q, c', ms, h1, h2, hne, fa, fq, by omega, by omega, hc'⟩
        rw [hW] at w'
        exact hw r hr0 hr1 g (.int r) H' (step_at hk hd) w' ⟨.int r, fun z => by cases z⟩
      refine ⟨_, pss_cons (ps_set (i := 2) nd rfl (Or.inl rfl) (pe_ix ix_list (pv 0) pe_int (fun _ _ => rfl)))
        (pss_cons (ps_asg (pe_op op_add (pe_ix ix_list (pv 0) pe_int (fun _ _ => rfl)) pe_int) (pg_sub (pv 0) pe_int set_list))
        (pss_cons (ps_set (i := 3) nd rfl (Or.inl rfl) (pe_op op_mod (pe_ix ix_list (pv 0) pe_int (fun _ _ => rfl)) (pe_callB call_len_seq (by rfl) T.m_len boot_len (pa_cons (pv 2) pa_nil))))
        (pss_cons (ps_set (i := 4) nd rfl (Or.inl rfl) (pe_ix ix_list (pv 2) (pv 3) (fun _ _ => rfl)))
        (pss_cons (ps_if (pt_cmpR op_ge (pv 4) pe_int (nomark _)) (pss_cons (ps_asg (pe_op op_fdiv (pv 4) (pv 1)) (pg_sub (pv 2) (pv 3) set_list)) (pss_one (ps_ret (pe_op op_mod (pv 4) (pv 1))))) pss_nil)
        (pss_cons (ps_set (i := 5) nd rfl (Or.inl rfl) (pe_op op_mod (pe_op op_add (pv 4) (pe_op op_mul pe_int (pe_ix ix_list (pv 0) pe_int (fun _ _ => rfl)))) pe_int))
        (pss_cons (ps_set (i := 5) nd rfl (Or.inl rfl) (pe_op op_mod (pe_op op_pow (pv 5) pe_int) pe_int))
        (pss_one (ps_ret (pe_op op_mod (pe_op op_fdiv (pe_op op_mod (pe_op op_add (pe_op op_mul (pe_op op_fdiv (pv 5) pe_int) pe_int) (pv 5)) pe_int) pe_int) (pv 1)))))))))), ?_⟩
      refine ⟨_, rfl, a, _, _, _, rfl, rfl, SqL.of ha, rfl, ?_⟩
      refine ⟨_, rfl, a, _, _, _, rfl, rfl, SqL.of ha, rfl, _, _, rfl, rfl, _, rfl, a, _, _, _, rfl, rfl, ha, rfl, ?_⟩
      have ha1 : upd H a (.lst ([V.ref q, V.int c].set 1 (.int (c + 1)))) a = some (.lst [.ref q, .int (c + 1)]) := upd_same
      have hq1 : upd H a (.lst ([V.ref q, V.int c].set 1 (.int (c + 1)))) q = some (.lst (ns.map V.int)) := by rw [upd_ne hne.symm]; exact hq
      have hlen : (0 : Int) < (((ns.map V.int).length : Nat) : Int) := by rw [List.length_map]; omega
      refine ⟨_, rfl, a, _, _, _, rfl, rfl, SqL.of ha1, rfl, _, rfl, q, _, rfl, .inl (SqL.of hq1), _, _, rfl, rfl, hlen, ?_⟩
      have hat0 : 0 ≤ (c + 1) % (((ns.map V.int).length : Nat) : Int) := Int.emod_nonneg _ (by omega)
      have hat1 : (c + 1) % (((ns.map V.int).length : Nat) : Int) < (((ns.map V.int).length : Nat) : Int) := Int.emod_lt_of_pos _ hlen
      obtain ⟨j, hj⟩ : ∃ j : Nat, (c + 1) % (((ns.map V.int).length : Nat) : Int) = (j : Int) := ⟨_, (Int.toNat_of_nonneg hat0).symm⟩
      rw [hj] at hat0 hat1
      have hjl : j < ns.length := by rw [List.length_map] at hat1; omega
      have hcell : (ns.map V.int)[j]? = some (.int ns[j]) := by rw [List.getElem?_map, List.getElem?_eq_getElem hjl]; rfl
      refine ⟨_, rfl, _, rfl, q, _, _, _, rfl, rfl, SqL.of hq1, (by rw [hj]; exact atI_nat hcell), ?_⟩
      refine ⟨_, rfl, _, _, rfl, rfl, _, rfl, ?_⟩
      refine ite2 (fun hbig => ?_) (fun hsmall => ?_)
      · refine ⟨_, rfl, _, rfl, _, _, rfl, rfl, ⟨hl0, hl1⟩, _, rfl, _, rfl, q, _, _, j, rfl, rfl, hq1, ?_, ?_⟩
        · rw [hj]
          unfold ixN
          rw [if_pos hat0, if_pos hat1]
          simp
        · refine ⟨_, rfl, _, rfl, _, _, rfl, rfl, hl0, ?_⟩
          refine fin _ (c + 1) (ns.set j (ns[j] / l)) _ (Int.emod_nonneg _ (by omega)) (Int.emod_lt_of_pos _ hl0) (by omega) (by rw [List.length_set]) (by rw [upd_ne hne]; exact ha1) (by rw [upd_same, List.map_set]) (fun b h1 h2 => by rw [upd_ne h2, upd_ne h1])
      · have hm1 : (0 : Int) < 4294967291 := by decide
        refine ⟨_, rfl, _, rfl, a, _, _, _, rfl, rfl, SqL.of ha1, rfl, _, _, rfl, rfl, .inl ⟨by decide, by decide⟩, _, _, rfl, rfl, _, _, rfl, rfl, hm1, ?_⟩
        have b0 := Int.emod_nonneg (ns[j] + 104729 * (c + 1)) (show (4294967291 : Int) ≠ 0 by decide)
        have b1 := Int.emod_lt_of_pos (ns[j] + 104729 * (c + 1)) hm1
        generalize (ns[j] + 104729 * (c + 1)) % 4294967291 = m at b0 b1
        refine ⟨_, rfl, _, _, rfl, rfl, ⟨by decide, by decide, by omega⟩, _, _, rfl, rfl, (by show (0 : Int) < 4294967279; decide), ?_⟩
        have d0 := Int.emod_nonneg (m ^ (5 : Int).toNat) (show (4294967279 : Int) ≠ 0 by decide)
        have d1 := Int.emod_lt_of_pos (m ^ (5 : Int).toNat) (show (0 : Int) < 4294967279 by decide)
        generalize m ^ (5 : Int).toNat % 4294967279 = n at d0 d1
        refine ⟨_, rfl, _, _, rfl, rfl, ⟨by decide, by decide⟩, _, _, rfl, rfl, .inr ⟨by decide, by decide⟩, _, rfl, _, _, rfl, rfl, _, _, rfl, rfl, (by show (0 : Int) < 4294967231; decide), _, _, rfl, rfl, ⟨by decide, by decide⟩, _, rfl, _, _, rfl, rfl, hl0, ?_⟩
        exact fin _ (c + 1) ns _ (Int.emod_nonneg _ (by omega)) (Int.emod_lt_of_pos _ hl0) (by omega) rfl ha1 hq1 (fun b h1 h2 => by rw [upd_ne h1])
    · exact hw.elim
theorem sc__law_pick : FnScope ["draws", "choices"] ["draws", "choices"] (defScope s__law_pick) := ⟨rfl, rfl, rfl, by decide +kernel, rfl, by decide +kernel, by decide +kernel⟩
theorem ok__law_pick (T : Facts K mg mo) : FnD P w K mg base mo "_law_pick" 4 F__law_pick := by
  obtain ⟨fd, F⟩ := T.d__law_pick
  refine ⟨_, fd, ["draws", "choices"], fn_d F sc__law_pick rfl rfl (fun cdv A outer s H E hr => ?_), T.g__law_pick, F.kp, F.bindsN fun _ _ _ _ _ _ us hl => match us, hl with | [_, _], _ => rfl⟩
  obtain ⟨tk, px, po⟩ := pass_cx (P := P) (w := w) (K := K) (mg := mg) (base := base) (N := ["draws", "choices"]) (qual := "_law_pick") (scope := defScope s__law_pick) (f := He.ga K "_law_pick") (cdv := cdv) (A := A) (outer := outer) (s := s) (H := H) (E := E)
  exact (dss_one (ds_ret (de_ix (de_var 1) (de_call (ok__law_draw T) (hr.mono (by decide)) px (da_cons (de_var 0) (da_cons (de_len T.m_len (da_cons (de_var 1) da_nil)) da_nil))))))
theorem sc__law_error : FnScope ["caught", "kinds"] ["caught"] (defScope s__law_error) := ⟨rfl, rfl, rfl, by decide +kernel, rfl, by decide +kernel, by decide +kernel⟩
theorem ok__law_error (T : Facts K mg mo) : FnD P w K mg base mo "_law_error" 3 F__law_error := by
  obtain ⟨fd, F⟩ := T.d__law_error
  refine ⟨_, fd, ["caught"], fn_d F sc__law_error rfl rfl (fun cdv A outer s H E hr => ?_), T.g__law_error, F.kp, F.bindsN fun _ _ _ _ _ _ us hl => match us, hl with | [_], _ => rfl⟩
  obtain ⟨tk, px, po⟩ := pass_cx (P := P) (w := w) (K := K) (mg := mg) (base := base) (N := ["caught", "kinds"]) (qual := "_law_error") (scope := defScope s__law_error) (f := He.ga K "_law_error") (cdv := cdv) (A := A) (outer := outer) (s := s) (H := H) (E := E)
  exact (dss_cons (ds_set (i := 1) sc__law_error.nd (de_lst (da_cons (de_isErr T.x_err T.m_isinstance T.e_BadBounds (de_var 0)) (da_cons (de_isErr T.x_err T.m_isinstance T.e_BadNumber (de_var 0)) (da_cons (de_isErr T.x_err T.m_isinstance T.e_BadOrder (de_var 0)) da_nil)))))
    (dss_cons (ds_set (i := 1) sc__law_error.nd (de_add (de_var 1) (de_lst (da_cons (de_isErr T.x_err T.m_isinstance T.e_BadText (de_var 0)) (da_cons (de_isErr T.x_err T.m_isinstance T.e_NotFound (de_var 0)) da_nil)))))
    (dss_cons (ds_if (DW.dt (dw_or (dt_ne (k := 1) (hr.mono (by decide)) (de_count (k := 1) (hr.mono (by decide)) (de_var 1) de_bl) de_int) (dw_or (dt_not (dt_val (de_isBase T.x_err T.m_isinstance (de_var 0)))) (dw_or1 (dt_not (dt_val (de_isVal T.x_err T.m_isinstance T.m_ValueError (de_var 0)))))))) (dss_one (ds_ret de_str)) dss_nil)
    (dss_one (ds_ret (de_ix (de_lst (da_cons de_str (da_cons de_str (da_cons de_str (da_cons de_str (da_cons de_str da_nil)))))) (de_index (k := 1) (hr.mono (by decide)) (de_var 1) de_bl)))))))
theorem sc__law_true : FnScope ["value", "expected"] ["value", "expected"] (defScope s__law_true) := ⟨rfl, rfl, rfl, by decide +kernel, rfl, by decide +kernel, by decide +kernel⟩
theorem ok__law_true (T : Facts K mg mo) : FnD P w K mg base mo "_law_true" 3 F__law_true := by
  obtain ⟨fd, F⟩ := T.d__law_true
  refine ⟨_, fd, ["value", "expected"], fn_d F sc__law_true rfl rfl (fun cdv A outer s H E hr => ?_), T.g__law_true, F.kp, F.bindsN fun _ _ _ _ _ _ us hl => match us, hl with | [_, _], _ => rfl⟩
  obtain ⟨tk, px, po⟩ := pass_cx (P := P) (w := w) (K := K) (mg := mg) (base := base) (N := ["value", "expected"]) (qual := "_law_true") (scope := defScope s__law_true) (f := He.ga K "_law_true") (cdv := cdv) (A := A) (outer := outer) (s := s) (H := H) (E := E)
  exact (dss_one (ds_ret (de_and (de_isi .bool T.m_isinstance T.m_bool (de_var 0)) (de_one (de_eq (k := 1) (hr.mono (by decide)) (de_var 0) (de_var 1))))))
theorem sc__law_bounds : FnScope ["draws", "most", "found", "k", "far", "wide", "low"] ["draws", "most"] (defScope s__law_bounds) := ⟨rfl, rfl, rfl, by decide +kernel, rfl, by decide +kernel, by decide +kernel⟩
theorem ok__law_bounds (T : Facts K mg mo) : FnD P w K mg base mo "_law_bounds" 5 F__law_bounds := by
  obtain ⟨fd, F⟩ := T.d__law_bounds
  refine ⟨_, fd, ["draws", "most"], fn_d F sc__law_bounds rfl rfl (fun cdv A outer s H E hr => ?_), T.g__law_bounds, F.kp, F.bindsN fun _ _ _ _ _ _ us hl => match us, hl with | [_, _], _ => rfl⟩
  obtain ⟨tk, px, po⟩ := pass_cx (P := P) (w := w) (K := K) (mg := mg) (base := base) (N := ["draws", "most", "found", "k", "far", "wide", "low"]) (qual := "_law_bounds") (scope := defScope s__law_bounds) (f := He.ga K "_law_bounds") (cdv := cdv) (A := A) (outer := outer) (s := s) (H := H) (E := E)
  exact (dss_cons (ds_par (i := 4) (j := 5) rfl sc__law_bounds.nd (da_cons (de_call (ok__law_pick T) (hr.mono (by decide)) px (da_cons (de_var 0) (da_cons (de_lst (da_cons de_int (da_cons de_int (da_cons de_int da_nil)))) da_nil))) (da_cons (de_call (ok__law_pick T) (hr.mono (by decide)) px (da_cons (de_var 0) (da_cons (de_lst (da_cons de_int (da_cons de_int (da_cons de_int da_nil)))) da_nil))) da_nil)))
    (dss_cons (ds_setO (i := 2) sc__law_bounds.nd (de_lst da_nil))
    (dss_cons (ds_for po rfl (di_range1 T.m_range (da_cons (de_add de_int (de_call (ok__law_draw T) (hr.mono (by decide)) px (da_cons (de_var 0) (da_cons (de_var 1) da_nil)))) da_nil)) (dg_name (i := 3) sc__law_bounds.nd) (dss_cons (ds_set (i := 6) sc__law_bounds.nd (de_sub (de_call (ok__law_draw T) (hr.mono (by decide)) px (da_cons (de_var 0) (da_cons (de_mul de_int (de_var 4)) da_nil))) (de_var 4)))
    (dss_one (ds_app (i := 2) (de_tup (da_cons (de_var 6) (da_cons (de_add (de_var 6) (de_call (ok__law_draw T) (hr.mono (by decide)) px (da_cons (de_var 0) (da_cons (de_var 5) da_nil)))) da_nil)))))))
    (dss_one (ds_retV 2)))))
theorem sc__law_small : FnScope ["draws", "most", "found", "k", "low"] ["draws", "most"] (defScope s__law_small) := ⟨rfl, rfl, rfl, by decide +kernel, rfl, by decide +kernel, by decide +kernel⟩
theorem ok__law_small (T : Facts K mg mo) : FnD P w K mg base mo "_law_small" 4 F__law_small := by
  obtain ⟨fd, F⟩ := T.d__law_small
  refine ⟨_, fd, ["draws", "most"], fn_d F sc__law_small rfl rfl (fun cdv A outer s H E hr => ?_), T.g__law_small, F.kp, F.bindsN fun _ _ _ _ _ _ us hl => match us, hl with | [_, _], _ => rfl⟩
  obtain ⟨tk, px, po⟩ := pass_cx (P := P) (w := w) (K := K) (mg := mg) (base := base) (N := ["draws", "most", "found", "k", "low"]) (qual := "_law_small") (scope := defScope s__law_small) (f := He.ga K "_law_small") (cdv := cdv) (A := A) (outer := outer) (s := s) (H := H) (E := E)
  exact (dss_cons (ds_setO (i := 2) sc__law_small.nd (de_lst da_nil))
    (dss_cons (ds_for po rfl (di_range1 T.m_range (da_cons (de_add de_int (de_call (ok__law_draw T) (hr.mono (by decide)) px (da_cons (de_var 0) (da_cons (de_var 1) da_nil)))) da_nil)) (dg_name (i := 3) sc__law_small.nd) (dss_cons (ds_set (i := 4) sc__law_small.nd (de_sub (de_call (ok__law_draw T) (hr.mono (by decide)) px (da_cons (de_var 0) (da_cons de_int da_nil))) de_int))
    (dss_one (ds_app (i := 2) (de_tup (da_cons (de_var 4) (da_cons (de_add (de_var 4) (de_call (ok__law_draw T) (hr.mono (by decide)) px (da_cons (de_var 0) (da_cons de_int da_nil)))) da_nil)))))))
    (dss_one (ds_retV 2))))
theorem sc__law_inside : FnScope ["bounds", "row", "k"] ["bounds", "row"] (defScope s__law_inside) := ⟨rfl, rfl, rfl, by decide +kernel, rfl, by decide +kernel, by decide +kernel⟩
theorem ok__law_inside (T : Facts K mg mo) : FnD P w K mg base mo "_law_inside" 3 F__law_inside := by
  obtain ⟨fd, F⟩ := T.d__law_inside
  refine ⟨_, fd, ["bounds", "row"], fn_d F sc__law_inside rfl rfl (fun cdv A outer s H E hr => ?_), T.g__law_inside, F.kp, F.bindsN fun _ _ _ _ _ _ us hl => match us, hl with | [_, _], _ => rfl⟩
  obtain ⟨tk, px, po⟩ := pass_cx (P := P) (w := w) (K := K) (mg := mg) (base := base) (N := ["bounds", "row", "k"]) (qual := "_law_inside") (scope := defScope s__law_inside) (f := He.ga K "_law_inside") (cdv := cdv) (A := A) (outer := outer) (s := s) (H := H) (E := E)
  exact (dss_one (ds_ret (de_and (de_eq (k := 1) (hr.mono (by decide)) (de_len T.m_len (da_cons (de_var 1) da_nil)) (de_len T.m_len (da_cons (de_var 0) da_nil))) (de_one (de_eq (k := 1) (hr.mono (by decide)) (de_comp (own := [("k", 2)]) rfl sc__law_inside.nd (di_range1 T.m_range (da_cons (de_len T.m_len (da_cons (de_var 1) da_nil)) da_nil)) (blkOk_by (by kernel_rfl)) (fun _ _ _ _ _ => (dg_name (i := 2) sc__law_inside.nd)) (fun _ _ _ _ _ => (dts_one (dt_not (dt_lele (de_ix (de_ix (de_var 0) (de_var 2)) de_int) (de_ix (de_var 1) (de_var 2)) (de_ix (de_ix (de_var 0) (de_var 2)) de_int))))) (fun _ _ _ _ _ => (de_var 2))) (de_lst da_nil))))))
theorem sc__law_all_orders : FnScope ["size", "rows", "k", "longer_rows", "row", "place"] ["size"] (defScope s__law_all_orders) := ⟨rfl, rfl, rfl, by decide +kernel, rfl, by decide +kernel, by decide +kernel⟩
theorem ok__law_all_orders (T : Facts K mg mo) : FnD P w K mg base mo "_law_orders" 3 F__law_all_orders := by
  obtain ⟨fd, F⟩ := T.d__law_all_orders
  refine ⟨_, fd, ["size"], fn_d F sc__law_all_orders rfl rfl (fun cdv A outer s H E hr => ?_), T.g__law_all_orders, F.kp, F.bindsN fun _ _ _ _ _ _ us hl => match us, hl with | [_], _ => rfl⟩
  obtain ⟨tk, px, po⟩ := pass_cx (P := P) (w := w) (K := K) (mg := mg) (base := base) (N := ["size", "rows", "k", "longer_rows", "row", "place"]) (qual := "_law_orders") (scope := defScope s__law_all_orders) (f := He.ga K "_law_orders") (cdv := cdv) (A := A) (outer := outer) (s := s) (H := H) (E := E)
  exact (dss_cons (ds_set (i := 1) sc__law_all_orders.nd (de_lst (da_cons (de_lst da_nil) da_nil)))
    (dss_cons (ds_for po rfl (di_range1 T.m_range (da_cons (de_var 0) da_nil)) (dg_name (i := 2) sc__law_all_orders.nd) (dss_cons (ds_set (i := 3) sc__law_all_orders.nd (de_lst da_nil))
    (dss_cons (ds_for po rfl (di_seq (de_var 1)) (dg_name (i := 4) sc__law_all_orders.nd) (dss_one (ds_set (i := 3) sc__law_all_orders.nd (de_add (de_var 3) (de_comp (own := [("place", 5)]) rfl sc__law_all_orders.nd (di_range1 T.m_range (da_cons (de_var 0) da_nil)) (blkOk_by (by kernel_rfl)) (fun _ _ _ _ _ => (dg_name (i := 5) sc__law_all_orders.nd)) (fun _ _ _ _ _ => (dts_one (dt_notIn (k := 1) (hr.mono (by decide)) (de_var 5) (de_var 4)))) (fun _ _ _ _ _ => (de_add (de_var 4) (de_lst (da_cons (de_var 5) da_nil)))))))))
    (dss_one (ds_set (i := 1) sc__law_all_orders.nd (de_var 3))))))
    (dss_one (ds_retV 1))))
theorem sc__law_call : FnScope ["kind", "bounds", "thing", "found", "caught", "e"] ["kind", "bounds", "thing"] (defScope s__law_call) := ⟨rfl, rfl, rfl, by decide +kernel, rfl, by decide +kernel, by decide +kernel⟩
theorem ok__law_call (T : Facts K mg mo) : FnD P w K mg base mo "_law_call" 13 F__law_call := by
  obtain ⟨fd, F⟩ := T.d__law_call
  refine ⟨_, fd, ["kind", "bounds", "thing"], fn_d F sc__law_call rfl rfl (fun cdv A outer s H E hr => ?_), T.g__law_call, F.kp, F.bindsN fun _ _ _ _ _ _ us hl => match us, hl with | [_, _, _], _ => rfl⟩
  obtain ⟨tk, px, po⟩ := pass_cx (P := P) (w := w) (K := K) (mg := mg) (base := base) (N := ["kind", "bounds", "thing", "found", "caught", "e"]) (qual := "_law_call") (scope := defScope s__law_call) (f := He.ga K "_law_call") (cdv := cdv) (A := A) (outer := outer) (s := s) (H := H) (E := E)
  obtain ⟨CB, hCB, hCK, hCM⟩ := T.x_err.base
  exact (dss_cons (ds_set (i := 3) sc__law_call.nd de_non)
    (dss_cons (ds_set (i := 4) sc__law_call.nd de_non)
    (dss_cons (ds_try (i := 5) (j := 4) sc__law_call.nd hCB hCM (fun W pn xe tk => (dxss_one (dxs_if (dt_eq (k := 1) (hr.mono (by decide)) (de_var 0) de_int) (dxss_one (dxs_set (i := 3) sc__law_call.nd (dx_call (ok_choice_for T) (hr.mono (by decide)) tk (da_cons (de_var 1) (da_cons (de_var 2) da_nil))))) (dxss_one (dxs_if (dt_eq (k := 1) (hr.mono (by decide)) (de_var 0) de_int) (dxss_one (dxs_set (i := 3) sc__law_call.nd (dx_call (ok_rank_of_order T) (hr.mono (by decide)) tk (da_cons (de_var 1) (da_cons (de_var 2) da_nil))))) (dxss_one (dxs_set (i := 3) sc__law_call.nd (dx_call (ok_order_at T) (hr.mono (by decide)) tk (da_cons (de_var 1) (da_cons (de_var 2) da_nil)))))))))))
    (dss_one (ds_ret (de_if (dt_isN (de_var 4) de_non) (de_var 3) (de_call (ok__law_error T) (hr.mono (by decide)) px (da_cons (de_var 4) da_nil))))))))
theorem sc_law : FnScope ["script", "draws", "bounds", "size", "good", "row", "rank", "drawn", "told", "values", "last", "place", "bad", "k", "j"] ["script"] (defScope s_law) := ⟨rfl, rfl, rfl, by decide +kernel, rfl, by decide +kernel, by decide +kernel⟩
theorem ok_law0 (T : Facts K mg mo) {fd : FuncData} (F : FunD K "law" "law" (defArgs s_law) (defBody s_law) (defScope s_law) [] [] (He.ga K "law") fd) : FnOk P w K mg base (L2.CX P w) 14 (He.ga K "law") fd ["script"] (spD mo K F_law) := by
  refine fn_d F sc_law rfl rfl (fun cdv A outer s H E hr => ?_)
  obtain ⟨tk, px, po⟩ := pass_cx (P := P) (w := w) (K := K) (mg := mg) (base := base) (N := ["script", "draws", "bounds", "size", "good", "row", "rank", "drawn", "told", "values", "last", "place", "bad", "k", "j"]) (qual := "law") (scope := defScope s_law) (f := He.ga K "law") (cdv := cdv) (A := A) (outer := outer) (s := s) (H := H) (E := E)
  exact (dss_cons (ds_set (i := 1) sc_law.nd (de_call (ok__law_start T) (hr.mono (by decide)) px (da_cons (de_var 0) da_nil)))
    (dss_cons (ds_set (i := 2) sc_law.nd (de_call (ok__law_pick T) (hr.mono (by decide)) px (da_cons (de_var 1) (da_cons (de_lst (da_cons (de_call (ok__law_small T) (hr.mono (by decide)) px (da_cons (de_var 1) (da_cons de_int da_nil))) (da_cons (de_call (ok__law_bounds T) (hr.mono (by decide)) px (da_cons (de_var 1) (da_cons de_int da_nil))) da_nil))) da_nil))))
    (dss_cons (ds_set (i := 3) sc_law.nd (de_len T.m_len (da_cons (de_var 2) da_nil)))
    (dss_cons (ds_setO (i := 4) sc_law.nd (de_lst da_nil))
    (dss_cons (ds_for po rfl (di_seq (de_call (ok__law_all_orders T) (hr.mono (by decide)) px (da_cons (de_var 3) da_nil))) (dg_name (i := 5) sc_law.nd) (dss_cons (ds_setLc (i := 12) (own := [("k", 13)]) rfl sc_law.nd (di_range1 T.m_range (da_cons (de_var 3) da_nil)) (blkOk_by (by kernel_rfl)) (fun _ _ _ _ _ => (dg_name (i := 13) sc_law.nd)) (fun _ _ _ _ _ => (dts_one (dt_ne (k := 1) (hr.mono (by decide)) (de_comp (own := [("j", 14)]) rfl sc_law.nd (di_seq (de_sl (de_var 5) do_none (do_some (de_var 13)))) (blkOk_by (by kernel_rfl)) (fun _ _ _ _ _ => (dg_name (i := 14) sc_law.nd)) (fun _ _ _ _ _ => (dts_one (dt_gt (de_ix (de_ix (de_var 2) (de_var 14)) de_int) (de_ix (de_ix (de_var 2) (de_ix (de_var 5) (de_var 13))) de_int)))) (fun _ _ _ _ _ => (de_var 14))) (de_lst da_nil)))) (fun _ _ _ _ _ => (de_var 13)))
    (dss_one (ds_if (dt_eq (k := 1) (hr.mono (by decide)) (de_var 12) (de_lst da_nil)) (dss_one (ds_app (i := 4) (de_var 5))) dss_nil))))
    (dss_cons (ds_if (DW.dt (dw_or (dt_ne (k := 1) (hr.mono (by decide)) (de_call (ok_count_orders T) (hr.mono (by decide)) px (da_cons (de_var 2) da_nil)) (de_len T.m_len (da_cons (de_var 4) da_nil))) (dw_or1 (dt_ne (k := 1) (hr.mono (by decide)) (de_call (ok__law_call T) (hr.mono (by decide)) px (da_cons de_int (da_cons (de_var 2) (da_cons (de_len T.m_len (da_cons (de_var 4) da_nil)) da_nil)))) de_str)))) (dss_one (ds_ret de_bl)) dss_nil)
    (dss_cons (ds_frz 4 (ds_for po rfl (di_seq (de_lst (da_cons de_int (da_cons (de_sub (de_len T.m_len (da_cons (de_var 4) da_nil)) de_int) (da_cons (de_call (ok__law_draw T) (hr.mono (by decide)) px (da_cons (de_var 1) (da_cons (de_len T.m_len (da_cons (de_var 4) da_nil)) da_nil))) da_nil))))) (dg_name (i := 6) sc_law.nd) (dss_one (ds_if (DW.dt (dw_or (dt_ne (k := 1) (hr.mono (by decide)) (de_call (ok__law_call T) (hr.mono (by decide)) px (da_cons de_int (da_cons (de_var 2) (da_cons (de_var 6) da_nil)))) (de_ix (de_var 4) (de_var 6))) (dw_or1 (dt_ne (k := 1) (hr.mono (by decide)) (de_call (ok__law_call T) (hr.mono (by decide)) px (da_cons de_int (da_cons (de_var 2) (da_cons (de_ix (de_var 4) (de_var 6)) da_nil)))) (de_var 6))))) (dss_one (ds_ret de_bl)) dss_nil))))
    (dss_cons (ds_set (i := 7) sc_law.nd (de_call (ok__law_pick T) (hr.mono (by decide)) px (da_cons (de_var 1) (da_cons (de_call (ok__law_all_orders T) (hr.mono (by decide)) px (da_cons (de_var 3) da_nil)) da_nil))))
    (dss_cons (ds_if (dt_not (dt_val (de_call (ok__law_true T) (hr.mono (by decide)) px (da_cons (de_call (ok_can_be_order T) (hr.mono (by decide)) px (da_cons (de_var 2) (da_cons (de_var 7) da_nil))) (da_cons (de_in (k := 1) (hr.mono (by decide)) (de_var 7) (de_var 4)) da_nil))))) (dss_one (ds_ret de_bl)) dss_nil)
    (dss_cons (ds_if (dt_notIn (k := 1) (hr.mono (by decide)) (de_var 7) (de_var 4)) (dss_one (ds_ret (de_and (de_eq (k := 1) (hr.mono (by decide)) (de_call (ok__law_call T) (hr.mono (by decide)) px (da_cons de_int (da_cons (de_var 2) (da_cons (de_var 7) da_nil)))) de_str) (de_one (de_eq (k := 1) (hr.mono (by decide)) (de_call (ok__law_call T) (hr.mono (by decide)) px (da_cons de_int (da_cons (de_var 2) (da_cons (de_var 7) da_nil)))) de_str))))) dss_nil)
    (dss_cons (ds_set (i := 8) sc_law.nd (de_call (ok__law_call T) (hr.mono (by decide)) px (da_cons de_int (da_cons (de_var 2) (da_cons (de_var 7) da_nil)))))
    (dss_cons (ds_setLc (i := 9) (own := [("place", 11)]) rfl sc_law.nd (di_seq (de_var 7)) (blkOk_by (by kernel_rfl)) (fun _ _ _ _ _ => (dg_name (i := 11) sc_law.nd)) (fun _ _ _ _ _ => dts_nil) (fun _ _ _ _ _ => (de_ix (de_var 8) (de_var 11))))
    (dss_cons (ds_if (DW.dt (dw_or (dt_not (dt_val (de_call (ok__law_inside T) (hr.mono (by decide)) px (da_cons (de_var 2) (da_cons (de_var 8) da_nil))))) (dw_or1 (dt_ne (k := 1) (hr.mono (by decide)) (de_var 9) (de_sorted T.m_sorted (da_cons (de_var 9) da_nil)))))) (dss_one (ds_ret de_bl)) dss_nil)
    (dss_cons (ds_set (i := 10) sc_law.nd (de_sub de_int de_int))
    (dss_cons (ds_for po rfl (di_seq (de_var 7)) (dg_name (i := 11) sc_law.nd) (dss_cons (ds_set (i := 10) sc_law.nd (de_max2 rfl T.m_max (da_cons (de_var 10) (da_cons (de_ix (de_ix (de_var 2) (de_var 11)) de_int) da_nil))))
    (dss_one (ds_if (dt_ne (k := 1) (hr.mono (by decide)) (de_ix (de_var 8) (de_var 11)) (de_var 10)) (dss_one (ds_ret de_bl)) dss_nil))))
    (dss_one (ds_ret (de_and (de_ge (de_call (ok_count_orders T) (hr.mono (by decide)) px (da_cons (de_call (ok_widened T) (hr.mono (by decide)) px (da_cons (de_var 2) (da_cons de_int da_nil))) da_nil)) (de_len T.m_len (da_cons (de_var 4) da_nil))) (de_one (de_eq (k := 1) (hr.mono (by decide)) (de_call (ok_count_orders T) (hr.mono (by decide)) px (da_cons (de_rev (de_var 2)) da_nil)) (de_len T.m_len (da_cons (de_var 4) da_nil))))))))))))))))))))))
end
theorem okL {P : Program} {w : World} {K : PySem.W.Frag} {mg : Str → Option Value} {mo : Mo} (T : Facts K mg mo) : ∃ fd, (∀ (s : Shared) (v : Value), BindsTo s fd ⟨[v], []⟩ [("script", v)]) ∧ ∀ base : Heap, FnOk P w K mg base (L2.CX P w) 14 (He.ga K "law") fd ["script"] (spD mo K F_law) := by
  obtain ⟨fd, F⟩ := T.d_law
  have b := FunD.bindsA (ps := ["script"]) F fun _ _ _ _ _ _ us hl => match us, hl with | [_], _ => rfl
  refine ⟨fd, fun s v => b s [v] rfl, fun base => ok_law0 T F⟩
end Law

namespace Law
open PySem L2 Dt Pg
def dd_is_int : He.DefD := ⟨("is_int", none), "is_int", "is_int", defArgs s_is_int, defBody s_is_int, defScope s_is_int, [], []⟩
def dd_is_bound : He.DefD := ⟨("is_bound", none), "is_bound", "is_bound", defArgs s_is_bound, defBody s_is_bound, defScope s_is_bound, [], []⟩
def dd_is_bounds : He.DefD := ⟨("is_bounds", none), "is_bounds", "is_bounds", defArgs s_is_bounds, defBody s_is_bounds, defScope s_is_bounds, [], []⟩
def dd_check_bounds : He.DefD := ⟨("check_bounds", none), "check_bounds", "check_bounds", defArgs s_check_bounds, defBody s_check_bounds, defScope s_check_bounds, [], []⟩
def dd_check_order : He.DefD := ⟨("check_order", none), "check_order", "check_order", defArgs s_check_order, defBody s_check_order, defScope s_check_order, [], []⟩
def dd_is_possible : He.DefD := ⟨("is_possible", none), "is_possible", "is_possible", defArgs s_is_possible, defBody s_is_possible, defScope s_is_possible, [], []⟩
def dd_can_be_order : He.DefD := ⟨("can_be_order", none), "can_be_order", "can_be_order", defArgs s_can_be_order, defBody s_can_be_order, defScope s_can_be_order, [], []⟩
def dd_choice_for : He.DefD := ⟨("choice_for", none), "choice_for", "choice_for", defArgs s_choice_for, defBody s_choice_for, defScope s_choice_for, [], []⟩
def dd_next_places : He.DefD := ⟨("next_places", none), "next_places", "next_places", defArgs s_next_places, defBody s_next_places, defScope s_next_places, [], []⟩
def dd_ways_from : He.DefD := ⟨("ways_from", none), "ways_from", "ways_from", defArgs s_ways_from, defBody s_ways_from, defScope s_ways_from, [], []⟩
def dd_count_orders : He.DefD := ⟨("count_orders", none), "count_orders", "count_orders", defArgs s_count_orders, defBody s_count_orders, defScope s_count_orders, [], []⟩
def dd_order_at : He.DefD := ⟨("order_at", none), "order_at", "order_at", defArgs s_order_at, defBody s_order_at, defScope s_order_at, [], []⟩
def dd_rank_of_order : He.DefD := ⟨("rank_of_order", none), "rank_of_order", "rank_of_order", defArgs s_rank_of_order, defBody s_rank_of_order, defScope s_rank_of_order, [], []⟩
def dd_checked_changing : He.DefD := ⟨("checked", none), "checked", "checked", defArgs s_checked_changing, defBody s_checked_changing, defScope s_checked_changing, [], []⟩
def dd_widened : He.DefD := ⟨("widened", none), "widened", "widened", defArgs s_widened, defBody s_widened, defScope s_widened, [], []⟩
def dd__law_start : He.DefD := ⟨("_law_start", none), "_law_start", "_law_start", defArgs s__law_start, defBody s__law_start, defScope s__law_start, [], []⟩
def dd__law_draw : He.DefD := ⟨("_law_draw", none), "_law_draw", "_law_draw", defArgs s__law_draw, defBody s__law_draw, defScope s__law_draw, [], []⟩
def dd__law_pick : He.DefD := ⟨("_law_pick", none), "_law_pick", "_law_pick", defArgs s__law_pick, defBody s__law_pick, defScope s__law_pick, [], []⟩
def dd__law_error : He.DefD := ⟨("_law_error", none), "_law_error", "_law_error", defArgs s__law_error, defBody s__law_error, defScope s__law_error, [], []⟩
def dd__law_true : He.DefD := ⟨("_law_true", none), "_law_true", "_law_true", defArgs s__law_true, defBody s__law_true, defScope s__law_true, [], []⟩
def dd__law_bounds : He.DefD := ⟨("_law_bounds", none), "_law_bounds", "_law_bounds", defArgs s__law_bounds, defBody s__law_bounds, defScope s__law_bounds, [], []⟩
def dd__law_small : He.DefD := ⟨("_law_small", none), "_law_small", "_law_small", defArgs s__law_small, defBody s__law_small, defScope s__law_small, [], []⟩
def dd__law_inside : He.DefD := ⟨("_law_inside", none), "_law_inside", "_law_inside", defArgs s__law_inside, defBody s__law_inside, defScope s__law_inside, [], []⟩
def dd__law_all_orders : He.DefD := ⟨("_law_orders", none), "_law_orders", "_law_orders", defArgs s__law_all_orders, defBody s__law_all_orders, defScope s__law_all_orders, [], []⟩
def dd__law_call : He.DefD := ⟨("_law_call", none), "_law_call", "_law_call", defArgs s__law_call, defBody s__law_call, defScope s__law_call, [], []⟩
def dd_law : He.DefD := ⟨("law", none), "law", "law", defArgs s_law, defBody s_law, defScope s_law, [], []⟩
def fn0 : List He.DefD := [dd_is_int, dd_is_bound, dd_is_bounds, dd_check_bounds, dd_check_order, dd_is_possible, dd_can_be_order, dd_choice_for, dd_next_places, dd_ways_from, dd_count_orders, dd_order_at, dd_rank_of_order, dd_checked_changing, dd_widened]
def fn1 : List He.DefD := [dd__law_start, dd__law_draw, dd__law_pick, dd__law_error, dd__law_true, dd__law_bounds, dd__law_small, dd__law_inside, dd__law_all_orders, dd__law_call, dd_law]
def fn : List He.DefD := fn0 ++ fn1
def fa0 : List He.Fa := [.glo "is_int", .glo "is_bound", .glo "is_bounds", .glo "check_bounds", .glo "check_order", .glo "is_possible", .glo "can_be_order", .glo "choice_for", .glo "next_places", .glo "ways_from", .glo "count_orders", .glo "order_at", .glo "rank_of_order", .glo "checked", .glo "widened"]
def fa1 : List He.Fa := [.glo "_law_start", .glo "_law_draw", .glo "_law_pick", .glo "_law_error", .glo "_law_true", .glo "_law_bounds", .glo "_law_small", .glo "_law_inside", .glo "_law_orders", .glo "_law_call", .glo "law", .free "ValueError", .free "all", .free "bool", .free "enumerate"]
def fa2 : List He.Fa := [.free "int", .free "isinstance", .free "len", .free "list", .free "max", .free "range", .free "sorted", .free "sum", .free "tuple", .int "MOST_BOUND" 50, .int "MOST_VALUES" 7, .glo "BoundError", .exc "BadBounds", .glo "BadBounds", .exc "BadNumber"]
def fa3 : List He.Fa := [.glo "BadNumber", .exc "BadOrder", .glo "BadOrder", .exc "BadText", .glo "BadText", .exc "NotFound", .glo "NotFound"]
def fa : List He.Fa := fa0 ++ fa1 ++ fa2 ++ fa3
def exB (K : PySem.W.Frag) : Bool := errB K
def loose0 : List PySem.Str := ["__name__", "BoundError", "BadBounds", "BadNumber", "BadOrder", "BadText", "NotFound", "MOST_VALUES", "MOST_BOUND", "is_int", "is_bound", "is_bounds", "check_bounds", "check_order", "is_possible"]
def loose1 : List PySem.Str := ["can_be_order", "choice_for", "next_places", "ways_from", "count_orders", "order_at", "rank_of_order", "checked", "widened", "_law_start", "_law_draw", "_law_pick", "_law_error", "_law_true", "_law_bounds"]
def loose2 : List PySem.Str := ["_law_small", "_law_inside", "_law_orders", "_law_call"]
def loose : List PySem.Str := loose0 ++ loose1 ++ loose2
abbrev R : PySem.W.OpenRow := PySem.W.OpenLaw.row PySem.Challenge.rw_boundstats_k07_whole_orders
abbrev hk : PySem.W.Hook := He.hookX 4 fa fn [] [] exB
def ob (s : PySem.W.SharedT) : He.AlX := He.obsX 4 fa fn [] [] exB (HandSHeadRun.getT s)
theorem ob_eq (s : PySem.W.SharedT) : ob s = hk.obs s.abs := He.obsX_eq (HandSHeadRun.getT_eq s)
theorem run (w : World) : HandSHeadRun.RunEq R (PySem.W.view R.prog [37]) hk ob 20000 loose w := by
  intro os
  kernel_rfl
def theMo (K : PySem.W.Frag) : Mo := ⟨He.ga K "Teller", fun er => match er with | .bounds => He.ga K "BadBounds" | .number => He.ga K "BadNumber" | .order => He.ga K "BadOrder" | .text => He.ga K "BadText" | .missing => He.ga K "NotFound"⟩
theorem facts {w : World} {K : PySem.W.Frag} {h : Heap} {mg : Str → Option Value} (X : K.In h) (G : h.Ns mainGlobals mg) (c : He.SaysX fa fn [] [] exB w h K) : Facts K mg (theMo K) where
  d_is_int := c.t.d.def_ 0 (d := dd_is_int) rfl
  g_is_int := He.glo_ok X G (c.t.d.fact 0 (f := .glo "is_int") rfl)
  d_is_bound := c.t.d.def_ 1 (d := dd_is_bound) rfl
  g_is_bound := He.glo_ok X G (c.t.d.fact 1 (f := .glo "is_bound") rfl)
  d_is_bounds := c.t.d.def_ 2 (d := dd_is_bounds) rfl
  g_is_bounds := He.glo_ok X G (c.t.d.fact 2 (f := .glo "is_bounds") rfl)
  d_check_bounds := c.t.d.def_ 3 (d := dd_check_bounds) rfl
  g_check_bounds := He.glo_ok X G (c.t.d.fact 3 (f := .glo "check_bounds") rfl)
  d_check_order := c.t.d.def_ 4 (d := dd_check_order) rfl
  g_check_order := He.glo_ok X G (c.t.d.fact 4 (f := .glo "check_order") rfl)
  d_is_possible := c.t.d.def_ 5 (d := dd_is_possible) rfl
  g_is_possible := He.glo_ok X G (c.t.d.fact 5 (f := .glo "is_possible") rfl)
  d_can_be_order := c.t.d.def_ 6 (d := dd_can_be_order) rfl
  g_can_be_order := He.glo_ok X G (c.t.d.fact 6 (f := .glo "can_be_order") rfl)
  d_choice_for := c.t.d.def_ 7 (d := dd_choice_for) rfl
  g_choice_for := He.glo_ok X G (c.t.d.fact 7 (f := .glo "choice_for") rfl)
  d_next_places := c.t.d.def_ 8 (d := dd_next_places) rfl
  g_next_places := He.glo_ok X G (c.t.d.fact 8 (f := .glo "next_places") rfl)
  d_ways_from := c.t.d.def_ 9 (d := dd_ways_from) rfl
  g_ways_from := He.glo_ok X G (c.t.d.fact 9 (f := .glo "ways_from") rfl)
  d_count_orders := c.t.d.def_ 10 (d := dd_count_orders) rfl
  g_count_orders := He.glo_ok X G (c.t.d.fact 10 (f := .glo "count_orders") rfl)
  d_order_at := c.t.d.def_ 11 (d := dd_order_at) rfl
  g_order_at := He.glo_ok X G (c.t.d.fact 11 (f := .glo "order_at") rfl)
  d_rank_of_order := c.t.d.def_ 12 (d := dd_rank_of_order) rfl
  g_rank_of_order := He.glo_ok X G (c.t.d.fact 12 (f := .glo "rank_of_order") rfl)
  d_checked_changing := c.t.d.def_ 13 (d := dd_checked_changing) rfl
  g_checked_changing := He.glo_ok X G (c.t.d.fact 13 (f := .glo "checked") rfl)
  d_widened := c.t.d.def_ 14 (d := dd_widened) rfl
  g_widened := He.glo_ok X G (c.t.d.fact 14 (f := .glo "widened") rfl)
  d__law_start := c.t.d.def_ 15 (d := dd__law_start) rfl
  g__law_start := He.glo_ok X G (c.t.d.fact 15 (f := .glo "_law_start") rfl)
  d__law_draw := c.t.d.def_ 16 (d := dd__law_draw) rfl
  g__law_draw := He.glo_ok X G (c.t.d.fact 16 (f := .glo "_law_draw") rfl)
  d__law_pick := c.t.d.def_ 17 (d := dd__law_pick) rfl
  g__law_pick := He.glo_ok X G (c.t.d.fact 17 (f := .glo "_law_pick") rfl)
  d__law_error := c.t.d.def_ 18 (d := dd__law_error) rfl
  g__law_error := He.glo_ok X G (c.t.d.fact 18 (f := .glo "_law_error") rfl)
  d__law_true := c.t.d.def_ 19 (d := dd__law_true) rfl
  g__law_true := He.glo_ok X G (c.t.d.fact 19 (f := .glo "_law_true") rfl)
  d__law_bounds := c.t.d.def_ 20 (d := dd__law_bounds) rfl
  g__law_bounds := He.glo_ok X G (c.t.d.fact 20 (f := .glo "_law_bounds") rfl)
  d__law_small := c.t.d.def_ 21 (d := dd__law_small) rfl
  g__law_small := He.glo_ok X G (c.t.d.fact 21 (f := .glo "_law_small") rfl)
  d__law_inside := c.t.d.def_ 22 (d := dd__law_inside) rfl
  g__law_inside := He.glo_ok X G (c.t.d.fact 22 (f := .glo "_law_inside") rfl)
  d__law_all_orders := c.t.d.def_ 23 (d := dd__law_all_orders) rfl
  g__law_all_orders := He.glo_ok X G (c.t.d.fact 23 (f := .glo "_law_orders") rfl)
  d__law_call := c.t.d.def_ 24 (d := dd__law_call) rfl
  g__law_call := He.glo_ok X G (c.t.d.fact 24 (f := .glo "_law_call") rfl)
  d_law := c.t.d.def_ 25 (d := dd_law) rfl
  g_law := He.glo_ok X G (c.t.d.fact 25 (f := .glo "law") rfl)
  m_ValueError := He.free_ok X G (c.t.d.fact 26 (f := .free "ValueError") rfl)
  m_all := He.free_ok X G (c.t.d.fact 27 (f := .free "all") rfl)
  m_bool := He.free_ok X G (c.t.d.fact 28 (f := .free "bool") rfl)
  m_enumerate := He.free_ok X G (c.t.d.fact 29 (f := .free "enumerate") rfl)
  m_int := He.free_ok X G (c.t.d.fact 30 (f := .free "int") rfl)
  m_isinstance := He.free_ok X G (c.t.d.fact 31 (f := .free "isinstance") rfl)
  m_len := He.free_ok X G (c.t.d.fact 32 (f := .free "len") rfl)
  m_list := He.free_ok X G (c.t.d.fact 33 (f := .free "list") rfl)
  m_max := He.free_ok X G (c.t.d.fact 34 (f := .free "max") rfl)
  m_range := He.free_ok X G (c.t.d.fact 35 (f := .free "range") rfl)
  m_sorted := He.free_ok X G (c.t.d.fact 36 (f := .free "sorted") rfl)
  m_sum := He.free_ok X G (c.t.d.fact 37 (f := .free "sum") rfl)
  m_tuple := He.free_ok X G (c.t.d.fact 38 (f := .free "tuple") rfl)
  c_MOST_BOUND := He.int_ok X G (c.t.d.fact 39 (f := .int "MOST_BOUND" 50) rfl)
  c_MOST_VALUES := He.int_ok X G (c.t.d.fact 40 (f := .int "MOST_VALUES" 7) rfl)
  e_BadBounds := reads_exc X G rfl (c.t.d.fact 42 (f := .exc "BadBounds") rfl) (c.t.d.fact 43 (f := .glo "BadBounds") rfl)
  e_BadNumber := reads_exc X G rfl (c.t.d.fact 44 (f := .exc "BadNumber") rfl) (c.t.d.fact 45 (f := .glo "BadNumber") rfl)
  e_BadOrder := reads_exc X G rfl (c.t.d.fact 46 (f := .exc "BadOrder") rfl) (c.t.d.fact 47 (f := .glo "BadOrder") rfl)
  e_BadText := reads_exc X G rfl (c.t.d.fact 48 (f := .exc "BadText") rfl) (c.t.d.fact 49 (f := .glo "BadText") rfl)
  e_NotFound := reads_exc X G rfl (c.t.d.fact 50 (f := .exc "NotFound") rfl) (c.t.d.fact 51 (f := .glo "NotFound") rfl)
  x_err := errF_of (mg := mg) (mo := theMo K) c.more (fun er => by cases er <;> rfl) (He.glo_ok X G (c.t.d.fact 41 (f := .glo "BoundError") rfl))
end Law

namespace Pg
open PySem L2 Dt
local macro_rules | `(tactic| walk_at "op") => `(tactic| first | (with_reducible exact op_add_i _ _) | (with_reducible exact op_sub_i _ _) | (with_reducible exact op_lt_i _ _) | (with_reducible exact op_le_i _ _) | (with_reducible exact op_gt_i _ _) | (with_reducible exact op_ge_i _ _) | (with_reducible exact op_eq_i _ _) | (with_reducible exact op_ne_i _ _) | (with_reducible exact op_ix_p0 _) | (with_reducible exact op_ix_p1 _) | (with_reducible exact op_ix_0 _ _) | (with_reducible exact op_ix_1 _ _ _) | (with_reducible exact op_isN_d) | (with_reducible exact op_notN_d) | (with_reducible exact op_isB_d _ _) | (with_reducible exact op_notB_d _ _) | (with_reducible exact b_len_p _) | (with_reducible exact b_len_l _) | (with_reducible exact b_len_t _) | (with_reducible exact b_sum _) | (with_reducible exact b_sorted _) | (with_reducible exact b_abs _) | (with_reducible exact b_max2 _ _) | (with_reducible exact b_min2 _ _) | ((with_reducible apply op_mod_i); with_reducible assumption) | ((with_reducible apply op_div_i); with_reducible assumption) | ((with_reducible apply op_mul_i); with_reducible assumption))
local macro_rules | `(tactic| walk_at "F") => `(tactic| walk_at "op")
local macro_rules | `(tactic| walk_at "A") => `(tactic| first | (with_reducible exact ea_nil) | ((with_reducible apply ea_cons); walk_at "E"; walk_at "A"))
local macro_rules | `(tactic| walk_at "T") => `(tactic| first | ((with_reducible apply et_val); walk_at "E") | ((with_reducible apply et_not); walk_at "T") | ((with_reducible apply et_or); walk_at "T"; (intro _; walk_at "T")) | ((with_reducible apply et_and); walk_at "T"; (intro _; walk_at "T")))
local macro_rules | `(tactic| walk_at "O") => `(tactic| first | (with_reducible exact eo_none) | ((with_reducible apply eo_some); walk_at "E"))
local macro_rules | `(tactic| walk_at "E") => `(tactic| first
  | (with_reducible exact ev_c)
  | ((with_reducible apply ev_var); rfl)
  | ((with_reducible apply ev_bin); walk_at "E"; walk_at "E"; walk_at "op")
  | ((with_reducible apply ev_call); walk_at "A"; walk_at "F")
  | ((with_reducible apply ev_tup); walk_at "A"; rfl)
  | ((with_reducible apply ev_lst); walk_at "A"; rfl)
  | ((with_reducible apply ev_neg); walk_at "E")
  | ((with_reducible apply ev_isi); walk_at "E")
  | ((with_reducible apply ev_not); walk_at "E")
  | ((with_reducible apply ev_and'); walk_at "E"; (intro _; walk_at "E"))
  | ((with_reducible apply ev_or'); walk_at "E"; (intro _; walk_at "E"))
  | ((with_reducible apply ev_chain); walk_at "E"; walk_at "E"; walk_at "E"; walk_at "op"; walk_at "op")
  | ((with_reducible apply ev_sl); walk_at "E"; walk_at "O"; walk_at "O")
  | ((with_reducible apply ev_rev); walk_at "E")
  | ((with_reducible apply ev_ifT); ((with_reducible apply ev_is); walk_at "T"; rfl); walk_at "E")
  | ((with_reducible apply ev_ifF); ((with_reducible apply ev_is); walk_at "T"; rfl); walk_at "E"))
local macro_rules | `(tactic| walk_at "I") => `(tactic| first | ((with_reducible apply ei_list); walk_at "E"; done) | ((with_reducible apply ei_tup); walk_at "E") | ((with_reducible apply ei_enum); walk_at "A") | ((with_reducible apply ei_zip); walk_at "A"))
local macro_rules | `(tactic| walk_at "S") => `(tactic| first
  | (with_reducible exact es_nil)
  | ((with_reducible apply es_retV); rfl)
  | ((with_reducible apply es_retO); rfl)
  | ((with_reducible apply es_ret); walk_at "E")
  | ((with_reducible apply es_seq); walk_at "S"; walk_at "S")
  | ((with_reducible apply es_expr); walk_at "E")
  | ((with_reducible apply es_set); walk_at "E")
  | ((with_reducible apply es_setO); walk_at "E")
  | ((with_reducible apply es_par); walk_at "A")
  | ((with_reducible apply es_asgT); walk_at "E"; rfl)
  | ((with_reducible apply es_ifF); ((with_reducible apply ev_is); walk_at "T"; (first | rfl | with_reducible assumption)); walk_at "S")
  | ((with_reducible apply es_ifT); ((with_reducible apply ev_is); walk_at "T"; (first | rfl | with_reducible assumption)); walk_at "S"))
local macro_rules | `(tactic| walk_at "F") => `(tactic| with_reducible exact is_int_eq _ _ _)
local macro_rules | `(tactic| walk_at "F") => `(tactic| with_reducible exact is_bound_eq _)
local macro_rules | `(tactic| walk_at "F") => `(tactic| ((with_reducible apply is_bounds_eq); exact okB_len (by with_reducible assumption)))
local macro_rules | `(tactic| walk_at "F") => `(tactic| ((with_reducible apply check_ok); with_reducible assumption))
local macro_rules | `(tactic| walk_at "F") => `(tactic| ((with_reducible apply lows_eq); exact okB_len (by with_reducible assumption)))
local macro_rules | `(tactic| walk_at "F") => `(tactic| ((with_reducible apply highs_eq); exact okB_len (by with_reducible assumption)))
local macro_rules | `(tactic| walk_at "F") => `(tactic| ((with_reducible apply sum_range_eq); with_reducible assumption))
local macro_rules | `(tactic| walk_at "F") => `(tactic| ((with_reducible apply mean_range_eq); with_reducible assumption))
local macro_rules | `(tactic| walk_at "F") => `(tactic| ((with_reducible apply median_range_eq); with_reducible assumption))
local macro_rules | `(tactic| walk_at "F") => `(tactic| ((with_reducible apply least_range_eq); with_reducible assumption))
local macro_rules | `(tactic| walk_at "F") => `(tactic| ((with_reducible apply greatest_range_eq); with_reducible assumption))
local macro_rules | `(tactic| walk_at "F") => `(tactic| ((with_reducible apply choices_eq) <;> with_reducible assumption))
local macro_rules | `(tactic| walk_at "F") => `(tactic| ((with_reducible apply b_min); with_reducible assumption))
local macro_rules | `(tactic| walk_at "F") => `(tactic| ((with_reducible apply b_max); with_reducible assumption))
local macro_rules | `(tactic| walk_at "L") => `(tactic| first | with_reducible assumption | exact okB_len (by with_reducible assumption) | (simp only [List.length_map, irange_len, List.length_range]; omega))
local macro_rules | `(tactic| walk_at "I") => `(tactic| (first | ((with_reducible apply ei_rng1); walk_at "A"; omega) | ((with_reducible apply ei_rng2); walk_at "A"; omega)))
local macro_rules | `(tactic| walk_at "E") => `(tactic| first
  | ((with_reducible apply ev_compB); walk_at "I"; walk_at "L"; (intro _ _; walk_at "E"))
  | ((with_reducible apply ev_compBF); walk_at "I"; walk_at "L"; (intro _ _; walk_at "T"); (intro _ _ _; walk_at "E"))
  | ((with_reducible apply ev_compN); walk_at "I"; walk_at "L"; (intro _ _; walk_at "E"))
  | ((with_reducible apply ev_compNF); walk_at "I"; walk_at "L"; (intro _ _; walk_at "T"); (intro _ _ _; walk_at "E")))
local macro_rules | `(tactic| walk_at "F") => `(tactic| first | (with_reducible exact b_sum' _ _) | (with_reducible exact b_all' _ _) | (with_reducible exact b_any' _ _) | (with_reducible exact b_sorted' _ _))
local macro_rules | `(tactic| walk_at "op") => `(tactic| first | (with_reducible exact b_len_bs _) | (with_reducible exact b_len_ns _) | ((with_reducible apply op_ix_bs) <;> omega) | ((with_reducible apply op_ix_ns) <;> omega))
theorem err_number : F__law_error [.exc .number] = .ret (.d (.str "number"), false) := by kernel_rfl
theorem ne_num7 : oNe (.d (.str "number")) (.d (.str "number")) = .ret (.d (.bool false), false) := by kernel_rfl
theorem eq_none7 : oEq (.d (.str "none")) (.d (.str "none")) = .ret (.d (.bool true), false) := by kernel_rfl
theorem es_xifT {ga : En → M Bool} {s1 s2 : En → M Out} {en : En} {m : M Out} (hg : ga (expo en) = .ret true) (h : s1 en = m) : xIfS ga s1 s2 en = m := by unfold xIfS; rw [hg]; exact h
theorem es_xifF {ga : En → M Bool} {s1 s2 : En → M Out} {en : En} {m : M Out} (hg : ga (expo en) = .ret false) (h : s2 en = m) : xIfS ga s1 s2 en = m := by unfold xIfS; rw [hg]; exact h
theorem set_congr {i : Nat} {fa : En → M RV} {en : En} {m : M RV} (h : fa (hide en) = m) : sSet i fa en = sSet i (fun _ => m) en := by unfold sSet; rw [h]
theorem k07_call {k : Int} {a b : AV} {m : M RV} (hb : (xIfS (dTest (dBin oEq (dVar 0) (dC (.int 0))))
    (sSet 3 (xCall F_choice_for (aCons (dVar 1) (aCons (dVar 2) aNil))))
    (xIfS (dTest (dBin oEq (dVar 0) (dC (.int 1))))
    (sSet 3 (xCall F_rank_of_order (aCons (dVar 1) (aCons (dVar 2) aNil))))
    (sSet 3 (xCall F_order_at (aCons (dVar 1) (aCons (dVar 2) aNil)))))) [some (.v (dI k)), some (.v a), some (.v b), some (.v (.d .none)), some (.v (.d .none)), none] = sSet 3 (fun _ => m) [some (.v (dI k)), some (.v a), some (.v b), some (.v (.d .none)), some (.v (.d .none)), none]) :
    (∀ v w, PU m (.d v, w) → PU (Law.F__law_call [dI k, a, b]) (.d v, false)) ∧ (∀ er z, PX m er → F__law_error [.exc er] = .ret (.d z, false) → PU (Law.F__law_call [dI k, a, b]) (.d z, false)) := by
  constructor
  · intro v w e
    unfold Law.F__law_call Law.b__law_call
    refine pu_run rfl (pus_seq (PU.of (es_set ev_c)) (pus_seq (PU.of (es_set ev_c)) (pus_seq (pus_tryR rfl (o := .nx [some (.v (dI k)), some (.v a), some (.v b), some (.v (.d v)), some (.v (.d .none)), none]) ?_) (PU.of (es_ret (ev_ifT (et_val (ev_bin (ev_var rfl) ev_c rfl)) (ev_var rfl)))))))
    have := pus_set (i := 3) (fa := fun _ => m) (en := [some (.v (dI k)), some (.v a), some (.v b), some (.v (.d .none)), some (.v (.d .none)), none]) e
    rw [← hb] at this
    exact this
  · intro er z e hz
    unfold Law.F__law_call Law.b__law_call
    refine pu_run rfl (pus_seq (PU.of (es_set ev_c)) (pus_seq (PU.of (es_set ev_c)) (pus_seq (pus_tryX rfl (er := er) ?_) (PU.of (es_ret (ev_ifF (et_val (ev_bin (ev_var rfl) ev_c rfl)) (ev_call (ea_cons (ev_var rfl) ea_nil) hz)))))))
    have := pus_setX (i := 3) (fa := fun _ => m) (en := [some (.v (dI k)), some (.v a), some (.v b), some (.v (.d .none)), some (.v (.d .none)), none]) e
    rw [← hb] at this
    exact this
theorem call_choice {a b : AV} : (∀ v w, PU (F_choice_for [a, b]) (.d v, w) → PU (Law.F__law_call [dI 0, a, b]) (.d v, false)) ∧ (∀ er z, PX (F_choice_for [a, b]) er → F__law_error [.exc er] = .ret (.d z, false) → PU (Law.F__law_call [dI 0, a, b]) (.d z, false)) :=
  k07_call (es_xifT (et_val (ev_bin (ev_var rfl) ev_c (op_eq_i 0 0))) (set_congr (x_call (ea_cons (ev_var rfl) (ea_cons (ev_var rfl) ea_nil)) rfl)))
theorem call_rank {a b : AV} : (∀ v w, PU (F_rank_of_order [a, b]) (.d v, w) → PU (Law.F__law_call [dI 1, a, b]) (.d v, false)) ∧ (∀ er z, PX (F_rank_of_order [a, b]) er → F__law_error [.exc er] = .ret (.d z, false) → PU (Law.F__law_call [dI 1, a, b]) (.d z, false)) :=
  k07_call (es_xifF (et_val (ev_bin (ev_var rfl) ev_c (op_eq_i 1 0))) (es_xifT (et_val (ev_bin (ev_var rfl) ev_c (op_eq_i 1 1))) (set_congr (x_call (ea_cons (ev_var rfl) (ea_cons (ev_var rfl) ea_nil)) rfl))))
theorem call_at {a b : AV} : (∀ v w, PU (F_order_at [a, b]) (.d v, w) → PU (Law.F__law_call [dI 2, a, b]) (.d v, false)) ∧ (∀ er z, PX (F_order_at [a, b]) er → F__law_error [.exc er] = .ret (.d z, false) → PU (Law.F__law_call [dI 2, a, b]) (.d z, false)) :=
  k07_call (es_xifF (et_val (ev_bin (ev_var rfl) ev_c (op_eq_i 2 0))) (es_xifF (et_val (ev_bin (ev_var rfl) ev_c (op_eq_i 2 1))) (set_congr (x_call (ea_cons (ev_var rfl) (ea_cons (ev_var rfl) ea_nil)) rfl))))
/-! ### the good orders -/
section
variable {ns : List Int} {bs : List (Int × Int)} {u5 u6 u7 u8 u9 u10 u11 u12 : Option Dt.Slot}
abbrev good (bs : List (Int × Int)) : List (List Int) := (lev bs bs.length).filter fun r => decide (GoodO bs r)
abbrev en07 (ns : List Int) (bs : List (Int × Int)) (u4 u5 u6 u7 u8 u9 u10 u11 u12 : Option Dt.Slot) : En := [some (.v (.scr ns)), some (.v (.ob 0)), some (.v (.d (dBs bs))), some (.v (dI bs.length)), u4, u5, u6, u7, u8, u9, u10, u11, u12, none, none]
def badL (bs : List (Int × Int)) (row : List Int) : List Int := (irange 0 bs.length).filter fun k => !decide (((row.take k.toNat).filter fun j => decide (highAt bs (gi row k) < lowAt bs j)) = [])
theorem badL_nil {row : List Int} (hl : row.length = bs.length) : badL bs row = [] ↔ GoodO bs row := by
  unfold badL
  rw [filt_nil, List.all_eq_true, GoodO, List.pairwise_iff_getElem]
  constructor
  · intro h i j hi hj hij
    have h1 := of_decide_eq_true (h (j : Int) (ir_mem (by omega)))
    rw [List.filter_eq_nil_iff] at h1
    have h2 := h1 row[i] (by
      refine List.mem_iff_getElem?.mpr ⟨i, ?_⟩
      rw [List.getElem?_take_of_lt (by omega)]
      exact List.getElem?_eq_getElem hi)
    rw [gi_nat hj] at h2
    simp at h2
    exact h2
  · intro h k hk
    have bk := mem_ir hk
    refine decide_eq_true (List.filter_eq_nil_iff.mpr fun x hx => ?_)
    obtain ⟨i, hi⟩ := List.mem_iff_getElem?.mp hx
    have hik : i < k.toNat := by
      have := (List.getElem?_eq_some_iff.mp hi).1
      rw [List.length_take] at this
      omega
    rw [List.getElem?_take_of_lt hik] at hi
    obtain ⟨hil, hi⟩ := List.getElem?_eq_some_iff.mp hi
    have := h i k.toNat hil (by omega) hik
    have e1 : gi row k = row[k.toNat]'(by omega) := by have := gi_nat (c := row) (k := k.toNat) (by omega); rw [← this, show ((k.toNat : Nat) : Int) = k by omega]
    rw [e1, ← hi]
    simp
    exact this
abbrev gdBody : En → M Out := (sSeq (sSet 12 (dComp [13] [13] bdN (iRangeD1 (aCons (dVar 3) aNil)) (dTest (dBin oNe (dComp [14] [14] bdN (iSeqD (dSl (dVar 5) oNone (oSome (dVar 13)))) (dTest (dBin oGt (dBin oIx (dBin oIx (dVar 2) (dVar 14)) (dC (.int 0))) (dBin oIx (dBin oIx (dVar 2) (dBin oIx (dVar 5) (dVar 13))) (dC (.int 1))))) (dVar 14)) (dLst aNil))) (dVar 13)))
    (sIf (dTest (dBin oEq (dVar 12) (dLst aNil)))
    (sApp 4 (dVar 5))
    sNil))
theorem gd_body (h7 : bs.length ≤ 7) {row : List Int} (h : Od bs row) {g : List (List Int)} (hg : g.length < lim) :
    gdBody (en07 ns bs (some (.own (g.map fun r => dNs r))) (some (.v (.d (dNs row)))) u6 u7 u8 u9 u10 u11 u12) = .ret (.nx (en07 ns bs (some (.own ((if GoodO bs row then g ++ [row] else g).map fun r => dNs r))) (some (.v (.d (dNs row)))) u6 u7 u8 u9 u10 u11 (some (.v (.d (dNs (badL bs row))))))) := by
  have hlim := lim_big
  have hl := h.len
  refine es_seq (en' := en07 ns bs (some (.own (g.map fun r => dNs r))) (some (.v (.d (dNs row)))) u6 u7 u8 u9 u10 u11 (some (.v (.d (dNs (badL bs row)))))) ?_ ?_
  · refine es_set (ev_compNF (xs := irange 0 bs.length) (emb := PyData.int) (f := PyData.int) (b := false) (ei_rng1 (n := (bs.length : Int)) (ea_cons (ev_var rfl) ea_nil) (by omega)) (by rw [irange_len]; omega) (fun k hk => ?_) fun k _ _ => ev_var rfl)
    have bk := mem_ir hk
    have ek := op_ix_ns (ns := row) (k := k) (by omega) (by omega)
    have mk : 0 ≤ gi row k ∧ gi row k < bs.length := by
      have hi : k.toNat < row.length := by omega
      have e : gi row k = row[k.toNat] := by show row.getD k.toNat 0 = _; rw [List.getD_eq_getElem?_getD, List.getElem?_eq_getElem hi]; rfl
      rw [e]
      exact h.pl.2 _ (List.getElem_mem hi)
    have fk := op_ix_bs (bs := bs) (k := gi row k) mk.1 mk.2
    have sl : cutP (row.map PyData.int) none (some k) = (row.take k.toNat).map PyData.int := by
      have := take_sl (row := row) (n := k.toNat)
      rw [show ((k.toNat : Nat) : Int) = k by omega] at this
      exact this
    refine et_val (ev_bin (ev_compNF (xs := row.take k.toNat) (emb := PyData.int) (f := PyData.int) (g := fun j => decide (highAt bs (gi row k) < lowAt bs j)) (b := false) (ei_list (list_of (ev_sl (u := false) (ev_var rfl) eo_none (eo_some (u := false) (ev_var rfl))) sl)) (by rw [List.length_take]; omega) (fun j hj => ?_) fun j _ _ => ev_var rfl) (ev_lst ea_nil rfl) (ne_nc (Nc.ns _) (Nc.ns []) (by decide) (by decide) (by rw [decide_eq_true_eq]; exact ns_inj (ys := []))))
    have mj := h.pl.2 j (List.mem_of_mem_take hj)
    have fj := op_ix_bs (bs := bs) (k := j) mj.1 mj.2
    exact et_val (ev_bin (ev_bin (ev_bin (ev_var rfl) (ev_var rfl) fj) ev_c rfl) (ev_bin (ev_bin (ev_var rfl) (ev_bin (ev_var rfl) (ev_var rfl) ek) fk) ev_c rfl) (op_gt_i _ _))
  · have t : dTest (dBin oEq (dVar 12) (dLst aNil)) (expo (en07 ns bs (some (.own (g.map fun r => dNs r))) (some (.v (.d (dNs row)))) u6 u7 u8 u9 u10 u11 (some (.v (.d (dNs (badL bs row))))))) = .ret (decide (GoodO bs row)) :=
      et_val (ev_bin (ev_var rfl) (ev_lst ea_nil rfl) (eq_nc (Nc.ns _) (Nc.ns []) (by decide) (by decide) (by rw [decide_eq_true_eq, ← badL_nil hl]; exact ns_inj (ys := []))))
    by_cases c : GoodO bs row
    · rw [if_pos c]
      refine es_ifT (ev_is t (decide_eq_true c)) ?_
      refine Eq.trans (es_app (i := 4) (xs := g.map fun r => dNs r) rfl (ev_var rfl) (by rw [List.length_map]; exact hg)) ?_
      rw [List.map_append]
      rfl
    · rw [if_neg c]
      exact es_ifF (ev_is t (decide_eq_false c)) es_nil
theorem k07_good (h7 : bs.length ≤ 7) :
    ∃ v5 v12, sFor [5] bdN (iSeqD (dCall F__law_all_orders (aCons (dVar 3) aNil))) gdBody (en07 ns bs (some (.own [])) u5 u6 u7 u8 u9 u10 u11 u12) = .ret (.nx (en07 ns bs (some (.own ((good bs).map fun r => dNs r))) v5 u6 u7 u8 u9 u10 u11 v12)) := by
  have hlim := lim_is
  have hll := lev_len h7 bs.length
  have hp7 := pow7 h7
  obtain ⟨en', h1, v5, v12, rfl⟩ := es_forP (emb := fun r => dNs r) (sl := [5]) (bd := bdN) (xs := lev bs bs.length) (s1 := gdBody) (R := fun pre en => ∃ v5 v12, en = en07 ns bs (some (.own ((pre.filter fun r => decide (GoodO bs r)).map fun r => dNs r))) v5 u6 u7 u8 u9 u10 u11 v12)
    (en := en07 ns bs (some (.own [])) u5 u6 u7 u8 u9 u10 u11 u12) ⟨_, _, rfl⟩ (by
      rintro pre r post en hx ⟨v5, v12, rfl⟩
      have hr := lev_pl (bs := bs) (r := r) (by rw [hx]; simp)
      have hpl : pre.length ≤ (lev bs bs.length).length := by rw [hx]; simp
      have hf := List.length_filter_le (fun r => decide (GoodO bs r)) pre
      refine ⟨_, rfl, _, gd_body h7 ⟨hr.1, hr.2⟩ (by omega), some (.v (.d (dNs r))), some (.v (.d (dNs (badL bs r)))), ?_⟩
      have e : (pre ++ [r]).filter (fun r => decide (GoodO bs r)) = if GoodO bs r then pre.filter (fun r => decide (GoodO bs r)) ++ [r] else pre.filter (fun r => decide (GoodO bs r)) := by
        rw [List.filter_append]
        by_cases c : GoodO bs r
        · rw [if_pos c, List.filter_cons_of_pos (by simpa using c), List.filter_nil]
        · rw [if_neg c, List.filter_cons_of_neg (by simpa using c), List.filter_nil, List.append_nil]
      rw [e])
  exact ⟨v5, v12, es_for (ei_list (ev_call (ea_cons (ev_var rfl) ea_nil) (all_orders_eq h7))) h1⟩
/-! ### the checks -/
theorem good_ok (ok : okB bs = true) : cnt bs [] = ((good bs).length : Int) ∧ 0 < (good bs).length ∧ good bs = extF bs bs.length [] := by
  have hp := okB_pos ok
  have hu := up_at hp.2
  have e := good_orders hu
  refine ⟨cnt_good hu, ?_, e⟩
  have h := ext_ne hu (bs := bs) left_len0
  rw [← e] at h
  exact List.length_pos_iff.mpr h
theorem k07_a (ok : okB bs = true) : PU (sIf (dOr (dTest (dBin oNe (dCall F_count_orders (aCons (dVar 2) aNil)) (dCall bLen (aCons (dVar 4) aNil)))) (dTest (dBin oNe (dCall Law.F__law_call (aCons (dC (.int 2)) (aCons (dVar 2) (aCons (dCall bLen (aCons (dVar 4) aNil)) aNil)))) (dC (.str "number")))))
    (sRet (dC (.bool false)))
    sNil (en07 ns bs (some (.own ((good bs).map fun r => dNs r))) u5 u6 u7 u8 u9 u10 u11 u12)) (.nx (en07 ns bs (some (.own ((good bs).map fun r => dNs r))) u5 u6 u7 u8 u9 u10 u11 u12)) := by
  obtain ⟨g1, g2, g3⟩ := good_ok ok
  have hlen : ∀ en : En, en[4]? = some (some (.v (.d (dRows (good bs))))) → dCall bLen (aCons (dVar 4) aNil) en = .ret (dI (good bs).length, false) := fun en e => by
    rw [← List.length_map (f := fun r => dNs r) (as := good bs)]
    exact ev_call (ea_cons (ev_var e) ea_nil) (b_len_l _)
  refine pus_ifF (pu_is (put_or (k := false) (l := false) (put_val (pue_bin (pue_call (PU.of (ea_cons (ev_var rfl) ea_nil)) (count_orders_pu ok)) (PU.of (hlen _ rfl)) (PU.of (ne_same (.int _) (by rw [g1]) (Nat.zero_le _))))) fun _ => put_val (pue_bin (pue_call (PU.of (ea_cons ev_c (ea_cons (ev_var rfl) (ea_cons (hlen _ rfl) ea_nil)))) (call_at.2 _ _ (order_at_px ok (by omega)) err_number)) (PU.of ev_c) (PU.of ne_num7))) rfl) (PU.of es_nil)
theorem k07_b (ok : okB bs = true) {r : Int} (h0 : 0 ≤ r) (h1 : r < (good bs).length) : PU ((sIf (dOr (dTest (dBin oNe (dCall Law.F__law_call (aCons (dC (.int 2)) (aCons (dVar 2) (aCons (dVar 6) aNil)))) (dBin oIx (dVar 4) (dVar 6)))) (dTest (dBin oNe (dCall Law.F__law_call (aCons (dC (.int 1)) (aCons (dVar 2) (aCons (dBin oIx (dVar 4) (dVar 6)) aNil)))) (dVar 6))))
    (sRet (dC (.bool false)))
    sNil) (en07 ns bs (some (.v (.d (dRows (good bs))))) u5 (some (.v (dI r))) u7 u8 u9 u10 u11 u12)) (.nx (en07 ns bs (some (.v (.d (dRows (good bs))))) u5 (some (.v (dI r))) u7 u8 u9 u10 u11 u12)) := by
  obtain ⟨g1, g2, g3⟩ := good_ok ok
  obtain ⟨row, e1, e2⟩ := order_at_pu ok h0 (by omega)
  have e3 : (good bs)[r.toNat]? = some row := by rw [g3]; exact e1
  have ix := op_ix_rows h0 e3
  have hm : row ∈ good bs := List.mem_of_getElem? e3
  have hm' := List.mem_filter.mp hm
  have hod := lev_pl hm'.1
  have hgood := of_decide_eq_true hm'.2
  obtain ⟨rest, e4, e5⟩ := rank_at (bs := bs) (by simp) e1
  rw [List.nil_append] at e4
  subst e4
  have e6 := rank_pu ok ⟨hod.1, hod.2⟩ hgood
  rw [e5, show ((r.toNat : Nat) : Int) = r by omega] at e6
  refine pus_ifF (pu_is (put_or (k := false) (l := false) (put_val (pue_bin (pue_call (PU.of (ea_cons ev_c (ea_cons (ev_var rfl) (ea_cons (ev_var rfl) ea_nil)))) (call_at.1 _ _ e2)) (PU.of (ev_bin (ev_var rfl) (ev_var rfl) ix)) (PU.of (ne_same (Nc.ns _) rfl (by decide))))) fun _ => put_val (pue_bin (pue_call (PU.of (ea_cons ev_c (ea_cons (ev_var rfl) (ea_cons (ev_bin (ev_var rfl) (ev_var rfl) ix) ea_nil)))) (call_rank.1 _ _ e6)) (PU.of (ev_var rfl)) (PU.of (ne_same (.int _) rfl (Nat.zero_le _))))) rfl) (PU.of es_nil)
theorem in_good {row : List Int} (h : row ∈ lev bs bs.length) : decide (row ∈ good bs) = decide (GoodO bs row) := by
  rw [decide_eq_decide]
  show row ∈ List.filter _ _ ↔ _
  rw [List.mem_filter]
  simp [h]
theorem k07_c (ok : okB bs = true) {row : List Int} (h : row ∈ lev bs bs.length) : sIf (dNot (dTest (dCall F__law_true (aCons (dCall F_can_be_order (aCons (dVar 2) (aCons (dVar 7) aNil))) (aCons (dBin (oIn false) (dVar 7) (dVar 4)) aNil)))))
    (sRet (dC (.bool false)))
    sNil (en07 ns bs (some (.v (.d (dRows (good bs))))) u5 u6 (some (.v (.d (dNs row)))) u8 u9 u10 u11 u12) = .ret (.nx (en07 ns bs (some (.v (.d (dRows (good bs))))) u5 u6 (some (.v (.d (dNs row)))) u8 u9 u10 u11 u12)) := by
  have hod := lev_pl h
  refine es_ifF (ev_is (et_not (et_val (ev_call (ea_cons (ev_call (ea_cons (ev_var rfl) (ea_cons (ev_var rfl) ea_nil)) (can_be_order_eq ok ⟨hod.1, hod.2⟩)) (ea_cons (ev_bin (ev_var rfl) (ev_var rfl) (op_in_rows row (good bs))) ea_nil)) (law_true_eq _ _)))) ?_) es_nil
  rw [in_good h]
  simp
theorem k07_d (ok : okB bs = true) {row : List Int} (h : row ∈ lev bs bs.length) (hg : ¬ GoodO bs row) : PU (sRet (dAndV (dBin oEq (dCall Law.F__law_call (aCons (dC (.int 0)) (aCons (dVar 2) (aCons (dVar 7) aNil)))) (dC (.str "none"))) (dBin oEq (dCall Law.F__law_call (aCons (dC (.int 1)) (aCons (dVar 2) (aCons (dVar 7) aNil)))) (dC (.str "none")))) (en07 ns bs (some (.v (.d (dRows (good bs))))) u5 u6 (some (.v (.d (dNs row)))) u8 u9 u10 u11 u12)) (.rt (.d (.bool true), false)) := by
  have hod := lev_pl h
  exact pus_ret (pue_and (k := true) (l := true) (pue_bin (pue_call (PU.of (ea_cons ev_c (ea_cons (ev_var rfl) (ea_cons (ev_var rfl) ea_nil)))) (call_choice.2 _ _ (PX.of (choice_for_no ok ⟨hod.1, hod.2⟩ hg)) err_missing)) (PU.of ev_c) (PU.of eq_none7)) fun _ => pue_bin (pue_call (PU.of (ea_cons ev_c (ea_cons (ev_var rfl) (ea_cons (ev_var rfl) ea_nil)))) (call_rank.2 _ _ (PX.of (rank_no ok ⟨hod.1, hod.2⟩ hg)) err_missing)) (PU.of ev_c) (PU.of eq_none7))
abbrev tolds (bs : List (Int × Int)) (row : List Int) : List Int := fnd bs (zeros bs.length) [] row
theorem gi_told {row : List Int} (h : Od bs row) {p : Int} (hp : p ∈ row) : oIx (.d (dNs (tolds bs row))) (.d (.int p)) = .ret (.d (.int (gi (tolds bs row) p)), false) := by
  have b := h.pl.2 p hp
  exact op_ix_ns b.1 (by rw [fnd_len]; simp [zeros]; omega)
theorem k07_e (h7 : bs.length ≤ 7) {row : List Int} (h : Od bs row) : sSet 9 (dComp [11] [11] bdN (iSeqD (dVar 7)) yes (dBin oIx (dVar 8) (dVar 11))) (en07 ns bs (some (.v (.d (dRows (good bs))))) u5 u6 (some (.v (.d (dNs row)))) (some (.v (.d (dNs (tolds bs row))))) u9 u10 u11 u12) = .ret (.nx (en07 ns bs (some (.v (.d (dRows (good bs))))) u5 u6 (some (.v (.d (dNs row)))) (some (.v (.d (dNs (tolds bs row))))) (some (.v (.d (dNs (row.map fun p => gi (tolds bs row) p))))) u10 u11 u12)) := by
  have hlim := lim_big
  have hl := h.len
  refine es_set (list_of (ys := (row.map fun p => gi (tolds bs row) p).map PyData.int) (ev_compN (xs := row) (emb := PyData.int) (f := fun p => .int (gi (tolds bs row) p)) (b := false) (ei_list (ev_var rfl)) (by omega) fun p hp => ev_bin (ev_var rfl) (ev_var rfl) (gi_told h hp)) (by rw [List.map_map]; rfl))
theorem k07_f (ok : okB bs = true) {row : List Int} (h : Od bs row) (hg : GoodO bs row) : sIf (dOr (dNot (dTest (dCall F__law_inside (aCons (dVar 2) (aCons (dVar 8) aNil))))) (dTest (dBin oNe (dVar 9) (dCall bSorted (aCons (dVar 9) aNil)))))
    (sRet (dC (.bool false)))
    sNil (en07 ns bs (some (.v (.d (dRows (good bs))))) u5 u6 (some (.v (.d (dNs row)))) (some (.v (.d (dNs (tolds bs row))))) (some (.v (.d (dNs (row.map fun p => gi (tolds bs row) p))))) u10 u11 u12) = .ret (.nx (en07 ns bs (some (.v (.d (dRows (good bs))))) u5 u6 (some (.v (.d (dNs row)))) (some (.v (.d (dNs (tolds bs row))))) (some (.v (.d (dNs (row.map fun p => gi (tolds bs row) p))))) u10 u11 u12)) := by
  have hz : (zeros bs.length).length = bs.length := by simp [zeros]
  refine es_ifF (ev_is (et_or (k := false) (l := false) (et_not (k := true) (et_val (ev_call (ea_cons (ev_var rfl) (ea_cons (ev_var rfl) ea_nil)) (inside_ch ok (fnd_ch ok hz h.pl h.len hg))))) fun _ => et_val (ev_bin (ev_var rfl) (ev_call (ea_cons (ev_var rfl) ea_nil) (b_sorted _)) (ne_same (Nc.ns _) ?_ (by decide)))) rfl) es_nil
  rw [isort_id (fnd_up hz h.pl)]
theorem k07_g {row : List Int} (h : Od bs row) : ∃ v11, sFor [11] bdN (iSeqD (dVar 7))
    (sSeq (sSet 10 (dCall bMax2 (aCons (dVar 10) (aCons (dBin oIx (dBin oIx (dVar 2) (dVar 11)) (dC (.int 0))) aNil))))
    (sIf (dTest (dBin oNe (dBin oIx (dVar 8) (dVar 11)) (dVar 10)))
    (sRet (dC (.bool false)))
    sNil)) (en07 ns bs (some (.v (.d (dRows (good bs))))) u5 u6 (some (.v (.d (dNs row)))) (some (.v (.d (dNs (tolds bs row))))) u9 (some (.v (dI (0 - 51)))) u11 u12) = .ret (.nx (en07 ns bs (some (.v (.d (dRows (good bs))))) u5 u6 (some (.v (.d (dNs row)))) (some (.v (.d (dNs (tolds bs row))))) u9 (some (.v (dI (rmx bs row)))) v11 u12)) := by
  have hz : (zeros bs.length).length = bs.length := by simp [zeros]
  obtain ⟨en', h1, v11, rfl⟩ := es_forP (emb := PyData.int) (sl := [11]) (bd := bdN) (xs := row) (s1 := (sSeq (sSet 10 (dCall bMax2 (aCons (dVar 10) (aCons (dBin oIx (dBin oIx (dVar 2) (dVar 11)) (dC (.int 0))) aNil))))
    (sIf (dTest (dBin oNe (dBin oIx (dVar 8) (dVar 11)) (dVar 10)))
    (sRet (dC (.bool false)))
    sNil))) (R := fun pre en => ∃ u11, en = en07 ns bs (some (.v (.d (dRows (good bs))))) u5 u6 (some (.v (.d (dNs row)))) (some (.v (.d (dNs (tolds bs row))))) u9 (some (.v (dI (rmx bs pre)))) u11 u12)
    (en := en07 ns bs (some (.v (.d (dRows (good bs))))) u5 u6 (some (.v (.d (dNs row)))) (some (.v (.d (dNs (tolds bs row))))) u9 (some (.v (dI (0 - 51)))) u11 u12) ⟨_, rfl⟩ (by
      rintro pre p post en hx ⟨u11, rfl⟩
      have hp : p ∈ row := by rw [hx]; simp
      have b := h.pl.2 p hp
      have ep := op_ix_bs (bs := bs) (k := p) b.1 b.2
      refine ⟨_, rfl, en07 ns bs (some (.v (.d (dRows (good bs))))) u5 u6 (some (.v (.d (dNs row)))) (some (.v (.d (dNs (tolds bs row))))) u9 (some (.v (dI (rmx bs (pre ++ [p]))))) (some (.v (dI p))) u12, ?_, _, rfl⟩
      rw [rmx_app]
      refine es_seq (es_set (ev_call (ea_cons (ev_var rfl) (ea_cons (ev_bin (ev_bin (ev_var rfl) (ev_var rfl) ep) ev_c rfl) ea_nil)) rfl)) (es_ifF (et_val (ev_bin (ev_bin (ev_var rfl) (ev_var rfl) (gi_told h hp)) (ev_var rfl) (ne_same (.int _) ?_ (Nat.zero_le _)))) es_nil)
      rw [fnd_at hz h.pl hx, rmx_app]
      rfl)
  exact ⟨v11, es_for (ei_list (ev_var rfl)) h1⟩
theorem k07_h (ok : okB bs = true) (ok' : okB (wdn bs 1) = true) : PU (sRet (dAndV (dBin oGe (dCall F_count_orders (aCons (dCall F_widened (aCons (dVar 2) (aCons (dC (.int 1)) aNil))) aNil)) (dCall bLen (aCons (dVar 4) aNil))) (dBin oEq (dCall F_count_orders (aCons (dRev (dVar 2)) aNil)) (dCall bLen (aCons (dVar 4) aNil)))) (en07 ns bs (some (.v (.d (dRows (good bs))))) u5 u6 u7 u8 u9 u10 u11 u12)) (.rt (.d (.bool true), false)) := by
  obtain ⟨g1, g2, g3⟩ := good_ok ok
  have hp := okB_iff.mp ok
  have hlen : ∀ en : En, en[4]? = some (some (.v (.d (dRows (good bs))))) → dCall bLen (aCons (dVar 4) aNil) en = .ret (dI (good bs).length, false) := fun en e => by
    rw [← List.length_map (f := fun r => dNs r) (as := good bs)]
    exact ev_call (ea_cons (ev_var e) ea_nil) (b_len_l _)
  have okr : okB bs.reverse = true := okB_iff.mpr ⟨by simpa using hp.1, fun p hp' => hp.2 p (by simpa using hp')⟩
  have erev : dRev (dVar 2) (expo (en07 ns bs (some (.v (.d (dRows (good bs))))) u5 u6 u7 u8 u9 u10 u11 u12)) = .ret (.d (dBs bs.reverse), true) := list_of (ev_rev (u := false) (ev_var rfl)) (by rw [List.map_reverse])
  have hm := cnt_mono (bs := bs) (cs := wdn bs 1) (by simp [wdn]) (fun k j hk hj h => by rw [(wdn_at hk).1, (wdn_at hj).2]; omega) []
  have hr := (rev_ren bs).cnt
  refine pus_ret (pue_and (k := true) (l := true) (pue_bin (pue_call (PU.of (ea_cons (ev_call (ea_cons (ev_var rfl) (ea_cons ev_c ea_nil)) (widened_eq ok (by decide) ok')) ea_nil)) (count_orders_pu ok')) (PU.of (hlen _ rfl)) (PU.of ?_)) fun _ => pue_bin (pue_call (PU.of (ea_cons erev ea_nil)) (count_orders_pu okr)) (PU.of (hlen _ rfl)) (PU.of (eq_same (.int _) (by rw [hr, g1]) (Nat.zero_le _))))
  rw [op_ge_i, decide_eq_true (by omega)]
end
theorem k07_law : LawTrue Law.F_law := by
  refine law_ofV (m := 13) rfl fun ns hns => ?_
  have pickB : DV (dCall F__law_pick (aCons (dVar 1) (aCons (dLst (aCons (dCall F__law_small (aCons (dVar 1) (aCons (dC (.int 5)) aNil))) (aCons (dCall F__law_bounds (aCons (dVar 1) (aCons (dC (.int 5)) aNil))) aNil))) aNil)) (hide (some (.v (.scr ns)) :: some (.v (.ob 0)) :: List.replicate 13 none))) fun r => ∃ bs, (okB bs = true ∧ okB (wdn bs 1) = true) ∧ bs.length ≤ 5 ∧ r = (.d (dBs bs), false) := by
    refine dve_call (dva_cons (DV.of (ev_var rfl) (dva_cons (dve_lst (dva_cons (dve_call (DV.of (a := [.ob 0, dI 5]) (ea_cons (ev_var rfl) (ea_cons ev_c ea_nil)) ?_)))))))
    refine (DV.dw (small_dw (n := 5) (by decide) (by decide))).mono fun r hr => ?_
    obtain ⟨b1, h1, rfl⟩ := hr
    refine dva_cons (dve_call (DV.of (a := [.ob 0, dI 5]) (ea_cons (ev_var rfl) (ea_cons ev_c ea_nil)) ?_))
    refine (DV.dw (bounds_dw (n := 5) (by decide) (by decide))).mono fun r hr => ?_
    obtain ⟨b2, h2, rfl⟩ := hr
    refine DV.of ea_nil ⟨_, rfl, DV.of ea_nil ?_⟩
    have w1 : okB (wdn b1 1) = true := okB_iff.mpr ⟨by simp [wdn]; have := h1.1; omega, fun p hp => by
      obtain ⟨q, hq, rfl⟩ := List.mem_map.mp hp
      have := h1.2 q hq
      dsimp only
      omega⟩
    have w2 : okB (wdn b2 1) = true := okB_iff.mpr ⟨by simp [wdn]; have := h2.1; omega, fun p hp => by
      obtain ⟨q, hq, rfl⟩ := List.mem_map.mp hp
      have := h2.2 q hq
      dsimp only
      omega⟩
    refine DV.dw (pick_dw (by show 0 < 2; decide) (by show 2 < 1073741824; decide) fun d hd => ?_)
    change d ∈ [dBs b1, dBs b2] at hd
    simp only [List.mem_cons, List.not_mem_nil, or_false] at hd
    rcases hd with rfl | rfl
    · exact ⟨b1, ⟨h1.ok (by decide), w1⟩, h1.1.2, rfl⟩
    · exact ⟨b2, ⟨h2.ok (by decide), w2⟩, h2.1.2, rfl⟩
  refine dvs_seq (dvs_set (pickB.mono fun r hr => ?_))
  obtain ⟨bs, ⟨ok, ok'⟩, h5, rfl⟩ := hr
  refine ⟨_, rfl, ?_⟩
  have hp := okB_pos ok
  obtain ⟨g1, g2, g3⟩ := good_ok ok
  have hgl : (good bs).length ≤ 900000 := Nat.le_trans (List.length_filter_le _ _) (Nat.le_trans (lev_len hp.1.2 _) (pow7 hp.1.2))
  refine dvs_pure (es_set (ev_call (ea_cons (ev_var rfl) ea_nil) (b_len_bs _))) ?_
  refine dvs_pure (es_setO (ev_lst ea_nil rfl)) ?_
  obtain ⟨v5, v12, eg⟩ := k07_good (ns := ns) (u5 := none) (u6 := none) (u7 := none) (u8 := none) (u9 := none) (u10 := none) (u11 := none) (u12 := none) (bs := bs) hp.1.2
  refine dvs_pure eg ?_
  refine dvs_pu (k07_a ok) ?_
  have hlen : ∀ en : En, en[4]? = some (some (.v (.d (dRows (good bs))))) → dCall bLen (aCons (dVar 4) aNil) en = .ret (dI (good bs).length, false) := fun en e => by
    rw [← List.length_map (f := fun r => dNs r) (as := good bs)]
    exact ev_call (ea_cons (ev_var e) ea_nil) (b_len_l _)
  refine dvs_seq ?_
  show DV (sFor _ _ _ _ (en07 ns bs (some (.v (.d (dRows (good bs))))) v5 none none none none none none v12)) _
  refine dvs_for (DV.bind (dve_lst (dva_cons (DV.of ev_c (dva_cons (DV.of (ev_bin (hlen _ rfl) ev_c (op_sub_i _ _)) (dva_cons (dve_call (DV.of (a := [.ob 0, dI (good bs).length]) (ea_cons (ev_var rfl) (ea_cons (hlen _ rfl) ea_nil)) (DV.draw (by omega) (by omega) fun c hc0 hc1 => DV.of ea_nil ⟨_, rfl, DV.ret ?_⟩))))))))))
  show DV (forL _ _ _ (([0, ((good bs).length : Int) - 1, c] : List Int).map PyData.int) _) _
  refine dv_forL (k := 0) (I := fun _ en => ∃ u6, en = en07 ns bs (some (.v (.d (dRows (good bs))))) v5 u6 none none none none none v12) ⟨_, rfl⟩ ?_ ?_
  · rintro n r en hr _ ⟨u6, rfl⟩
    have hr' : 0 ≤ r ∧ r < ((good bs).length : Int) := by
      simp only [List.mem_cons, List.not_mem_nil, or_false] at hr
      rcases hr with rfl | rfl | rfl <;> omega
    exact ⟨_, rfl, DV.pu (k07_b ok hr'.1 hr'.2) ⟨_, rfl, _, rfl⟩⟩
  rintro en' ⟨u6, rfl⟩
  refine ⟨_, rfl, ?_⟩
  refine dvs_seq (dvs_set (dve_call (DV.of (a := [.ob 0, .d (dRows (lev bs bs.length))]) (ea_cons (ev_var rfl) (ea_cons (ev_call (ea_cons (ev_var rfl) ea_nil) (all_orders_eq hp.1.2)) ea_nil)) ?_)))
  have hll : 0 < (lev bs bs.length).length := Nat.lt_of_lt_of_le g2 (List.length_filter_le _ _)
  have hlu : (lev bs bs.length).length ≤ 900000 := Nat.le_trans (lev_len hp.1.2 _) (pow7 hp.1.2)
  refine DV.dw (pick_dw (by rw [List.length_map]; exact hll) (by rw [List.length_map]; omega) fun d hd => ?_)
  obtain ⟨row, hrow, rfl⟩ := List.mem_map.mp hd
  refine ⟨_, rfl, ?_⟩
  have hod := lev_pl hrow
  refine dvs_pure (k07_c ok hrow) ?_
  have tst : dTest (dBin (oIn true) (dVar 7) (dVar 4)) (expo (en07 ns bs (some (.v (.d (dRows (good bs))))) v5 u6 (some (.v (.d (dNs row)))) none none none none v12)) = .ret (!decide (GoodO bs row)) := by
    rw [← in_good hrow]
    exact et_val (ev_bin (ev_var rfl) (ev_var rfl) (op_notIn_rows row (good bs)))
  by_cases hg : GoodO bs row
  · refine dvs_pure (es_ifF (ev_is tst (by simp [hg])) es_nil) ?_
    refine dvs_pu (pus_set (pue_call (PU.of (ea_cons ev_c (ea_cons (ev_var rfl) (ea_cons (ev_var rfl) ea_nil)))) (call_choice.1 _ _ (PU.of (choice_for_eq ok ⟨hod.1, hod.2⟩ hg))))) ?_
    refine dvs_pure (k07_e hp.1.2 ⟨hod.1, hod.2⟩) ?_
    refine dvs_pure (k07_f ok ⟨hod.1, hod.2⟩ hg) ?_
    refine dvs_pure (es_set (ev_bin ev_c ev_c (op_sub_i _ _))) ?_
    obtain ⟨v11, e11⟩ := k07_g (ns := ns) (u5 := v5) (u6 := u6) (u9 := some (.v (.d (dNs (row.map fun p => gi (tolds bs row) p))))) (u11 := none) (u12 := v12) (bs := bs) (row := row) ⟨hod.1, hod.2⟩
    refine dvs_pure e11 ?_
    exact DV.pu (k07_h ok ok') rfl
  · refine DV.bind (DV.pu (pus_ifT (PU.of (ev_is tst (by simp [hg]))) (k07_d ok hrow hg)) ?_)
    exact DV.ret rfl
end Pg

theorem Law.law_true : Dt.LawTrue Law.F_law := Pg.k07_law

open PySem PySem.W PySem.Calls PyProof.Rows in
set_option maxRecDepth 100000 in
set_option maxHeartbeats 0 in
theorem PySem.Challenge.cw_boundstats_k07_whole_orders_holds : PySem.Challenge.rw_boundstats_k07_whole_orders.Holds := by
  w_on; o_law
  refine HandSHeadRun.head_any (r := OpenLaw.row PySem.Challenge.rw_boundstats_k07_whole_orders) (q := view (OpenLaw.row PySem.Challenge.rw_boundstats_k07_whole_orders).prog [37]) (H := Law.hk) (ob := Law.ob) (M := 20000) (loose := Law.loose) (d := HandSHeadRun.topDef (OpenLaw.row PySem.Challenge.rw_boundstats_k07_whole_orders).prog 37) (kwd := []) Law.ob_eq
    (by kernel_rfl) (fun s => by kernel_rfl) Law.run (by kernel_rfl) (by kernel_rfl) (by kernel_rfl) (by rfl) (by first | assumption | decide +kernel) (by decide +kernel) ⟨rfl, rfl, rfl, rfl, rfl, by decide +kernel⟩ ?hw ?hc
  case hw => w_witness2
  case hc =>
    refine L2.walk_ofE (l := PySem.Challenge.rw_boundstats_k07_whole_orders) (n := 63) (k := 14) (x := "script") (CX := L2.CX0) rfl (by decide) (by kernel_rfl) ⟨rfl, by decide, by decide⟩ ?F (fun _ _ _ _ z => z)
    intro w mg fa h Y G hmg0
    obtain ⟨K, KX, c⟩ := Y
    have hmg : mg ("law" : PySem.Str) = some (.ref fa) := by
      have e : (HandSHeadRun.topDef (OpenLaw.row PySem.Challenge.rw_boundstats_k07_whole_orders).prog 37).name = ("law" : PySem.Str) := by kernel_rfl
      rw [← e]
      exact hmg0
    have T := Law.facts KX G c
    obtain ⟨fd, hb, hF⟩ := Law.okL (P := (PySem.Challenge.rw_boundstats_k07_whole_orders).prog) (w := w) T
    have efa : He.ga K "law" = fa := Value.ref.inj (Option.some.inj ((T.g_law).symm.trans hmg))
    subst efa
    exact ⟨K, fd, fun vs H Q _ => Dt.spD (Law.theMo K) K Law.F_law vs H Q L2.E0, KX, hb, fun H a ns hl _ hS => Dt.law_sp Law.law_true H a ns hl hS, fun base _ _ => Dt.FnOk.no (hF base)⟩
