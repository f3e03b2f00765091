import PyProof.Rows.All
import Wide.All
import OpenK.AllK
import Wide.FinOn
import HandS.ForMost
import HandS.Exc
import HandS.ExcOwn
import HandS.TryOnly
import HandS.WordsExc
import HandS.Wide
import HandS.Flow
import HandS.IsInst
import HandS.Deep
import HandS.Style
import HandS.SortInts
import HandS.SortRule
import HandS.TupMul
import HandS.Conv
import HandS.Defaults
import KE.KStateDown
import HandS.Head0
import HandS.Head1
import HandS.Head2
import HandS.HeadEnd
import HandS.HeadHook1
import HandS.HeadHook2
import HandS.HeadHook3
import HandS.HeadHook4
import PySem.Challenge.RW_boundstats_k14_whole_limits
set_option Elab.async false
set_option linter.all false
set_option maxRecDepth 100000
set_option maxHeartbeats 4000000

/-! The data layer, part 1: the monad of denotations, data in the heap, the judgement of expressions. -/
namespace Dt
open PySem L2

/-! ### computations -/
inductive Err where
  | bounds | number | order | text | missing
  deriving DecidableEq
/-- objects that change: the draws, a memo of counted orders, a teller -/
inductive AObj where
  | dr
  | memo (bs : List (Int × Int))
  | tel (now : List (Int × Int)) (past : List (List (Int × Int)))
abbrev Wd := List AObj
inductive M (α : Type) : Type where
  | ret (a : α)
  | raise (e : Err)
  | draw (i : Nat) (l : Int) (k : Int → M α)
  | onew (o : AObj) (k : Nat → M α)
  | oget (i : Nat) (k : AObj → M α)
  | oset (i : Nat) (o : AObj) (k : M α)
  | stuck
def M.bind {α β : Type} : M α → (α → M β) → M β
  | .ret a, f => f a
  | .raise e, _ => .raise e
  | .draw i l k, f => .draw i l fun r => (k r).bind f
  | .onew o k, f => .onew o fun n => (k n).bind f
  | .oget i k, f => .oget i fun o => (k o).bind f
  | .oset i o k, f => .oset i o (k.bind f)
  | .stuck, _ => .stuck
@[simp] theorem ret_bind {α β : Type} (a : α) (f : α → M β) : (M.ret a).bind f = f a := rfl
@[simp] theorem raise_bind {α β : Type} (e : Err) (f : α → M β) : (M.raise e).bind f = .raise e := rfl
@[simp] theorem stuck_bind {α β : Type} (f : α → M β) : (M.stuck).bind f = .stuck := rfl
/-- what follows is looked at when the first part is done -/
theorem bind_assoc {α β γ : Type} : ∀ (m : M α) (f : α → M β) (g : β → M γ), (m.bind f).bind g = m.bind fun a => (f a).bind g
  | .ret _, _, _ => rfl
  | .raise _, _, _ => rfl
  | .draw i l k, f, g => by simp only [M.bind]; congr 1; funext r; exact bind_assoc (k r) f g
  | .onew o k, f, g => by simp only [M.bind]; congr 1; funext r; exact bind_assoc (k r) f g
  | .oget i k, f, g => by simp only [M.bind]; congr 1; funext r; exact bind_assoc (k r) f g
  | .oset i o k, f, g => by simp only [M.bind]; congr 1; exact bind_assoc k f g
  | .stuck, _, _ => rfl
theorem bind_ret {α : Type} : ∀ (m : M α), (m.bind fun a => .ret a) = m
  | .ret _ => rfl
  | .raise _ => rfl
  | .draw i l k => by simp only [M.bind]; congr 1; funext r; exact bind_ret (k r)
  | .onew o k => by simp only [M.bind]; congr 1; funext r; exact bind_ret (k r)
  | .oget i k => by simp only [M.bind]; congr 1; funext r; exact bind_ret (k r)
  | .oset i o k => by simp only [M.bind]; congr 1; exact bind_ret k
  | .stuck => rfl
def wp {α : Type} : M α → Wd → (α → Wd → Prop) → (Err → Wd → Prop) → Prop
  | .ret a, W, Q, _ => Q a W
  | .raise e, W, _, E => E e W
  | .draw i l k, W, Q, E => W[i]? = some .dr ∧ 0 < l ∧ l < 1073741824 ∧ ∀ r, 0 ≤ r → r < l → wp (k r) W Q E
  | .onew o k, W, Q, E => wp (k W.length) (W ++ [o]) Q E
  | .oget i k, W, Q, E => ∃ o, W[i]? = some o ∧ wp (k o) W Q E
  | .oset i o k, W, Q, E => i < W.length ∧ wp k (W.set i o) Q E
  | .stuck, _, _, _ => False
theorem wp_bind {α β : Type} : ∀ (m : M α) (f : α → M β) (W : Wd) (Q : β → Wd → Prop) (E : Err → Wd → Prop), wp (m.bind f) W Q E ↔ wp m W (fun a W' => wp (f a) W' Q E) E
  | .ret _, _, _, _, _ => Iff.rfl
  | .raise _, _, _, _, _ => Iff.rfl
  | .draw i l k, f, W, Q, E => by
    simp only [M.bind, wp]
    exact ⟨fun ⟨h0, h1, h2, h3⟩ => ⟨h0, h1, h2, fun r a b => (wp_bind (k r) f W Q E).mp (h3 r a b)⟩, fun ⟨h0, h1, h2, h3⟩ => ⟨h0, h1, h2, fun r a b => (wp_bind (k r) f W Q E).mpr (h3 r a b)⟩⟩
  | .onew o k, f, W, Q, E => by simp only [M.bind, wp]; exact wp_bind (k W.length) f _ Q E
  | .oget i k, f, W, Q, E => by
    simp only [M.bind, wp]
    exact ⟨fun ⟨o, h0, h1⟩ => ⟨o, h0, (wp_bind (k o) f W Q E).mp h1⟩, fun ⟨o, h0, h1⟩ => ⟨o, h0, (wp_bind (k o) f W Q E).mpr h1⟩⟩
  | .oset i o k, f, W, Q, E => by
    simp only [M.bind, wp]
    exact ⟨fun ⟨h0, h1⟩ => ⟨h0, (wp_bind k f _ Q E).mp h1⟩, fun ⟨h0, h1⟩ => ⟨h0, (wp_bind k f _ Q E).mpr h1⟩⟩
  | .stuck, _, _, _, _ => Iff.rfl
theorem wp_mono {α : Type} : ∀ {m : M α} {W : Wd} {Q Q' : α → Wd → Prop} {E E' : Err → Wd → Prop}, wp m W Q E → (∀ a W', Q a W' → Q' a W') → (∀ e W', E e W' → E' e W') → wp m W Q' E'
  | .ret _, _, _, _, _, _, h, hq, _ => hq _ _ h
  | .raise _, _, _, _, _, _, h, _, he => he _ _ h
  | .draw i l k, W, Q, Q', E, E', h, hq, he => by
    obtain ⟨h0, h1, h2, h3⟩ := h
    exact ⟨h0, h1, h2, fun r a b => wp_mono (m := k r) (h3 r a b) hq he⟩
  | .onew o k, W, Q, Q', E, E', h, hq, he => wp_mono (m := k W.length) (W := W ++ [o]) h hq he
  | .oget i k, W, Q, Q', E, E', h, hq, he => by
    obtain ⟨o, h0, h1⟩ := h
    exact ⟨o, h0, wp_mono (m := k o) h1 hq he⟩
  | .oset i o k, W, Q, Q', E, E', h, hq, he => by
    obtain ⟨h0, h1⟩ := h
    exact ⟨h0, wp_mono (m := k) h1 hq he⟩
  | .stuck, _, _, _, _, _, h, _, _ => h.elim

/-! ### abstract values, slots -/
inductive AV where
  | d (p : PyData)
  | ob (i : Nat)
  | exc (e : Err)
  | scr (ns : List Int)
/-- a value and whether it is a list made anew -/
abbrev RV := AV × Bool
inductive Slot where
  | v (a : AV)
  | own (xs : List PyData)
abbrev En := List (Option Slot)

/-! ### parts of a heap -/
open Classical in
noncomputable def cut (H : Hp) (S : Addr → Prop) : Hp := fun a => if S a then none else H a
theorem cut_some {H : Hp} {S : Addr → Prop} {a : Addr} {o : HO} : cut H S a = some o ↔ H a = some o ∧ ¬ S a := by
  unfold cut
  by_cases h : S a
  · rw [if_pos h]; exact ⟨fun q => (by cases q), fun ⟨_, q⟩ => absurd h q⟩
  · rw [if_neg h]; exact ⟨fun q => ⟨q, h⟩, fun q => q.1⟩
theorem cut_sub {H : Hp} {S : Addr → Prop} : Same (cut H S) H := fun _ _ e => (cut_some.mp e).1
theorem cut_mono {H H' : Hp} {S S' : Addr → Prop} (h : ∀ a o, H a = some o → ¬ S a → H' a = some o ∧ ¬ S' a) : Same (cut H S) (cut H' S') := fun a o e => by
  obtain ⟨e1, e2⟩ := cut_some.mp e
  exact cut_some.mpr (h a o e1 e2)

theorem Same.seqT {K : PySem.W.Frag} {H H' : Hp} {a : Addr} {xs : List V} (e : Same H H') (h : SqT K H a xs) : SqT K H' a xs := by
  rcases h with (h | ⟨o, h⟩) | h
  · exact .inl (.inl (e _ _ h))
  · exact .inl (.inr ⟨o, e _ _ h⟩)
  · exact .inr h

/-! ### data in a heap: lists are tracked, tuples may be written -/
mutual
inductive Rp (K : PySem.W.Frag) (H : Hp) : V → PyData → Prop
  | non : Rp K H .non .none
  | bl (b : Bool) : Rp K H (.bl b) (.bool b)
  | int (i : Int) : Rp K H (.int i) (.int i)
  | str (x : Str) : Rp K H (.str x) (.str x)
  | lst {a : Addr} {xs : List V} {ds : List PyData} : H a = some (.lst xs) → RpAll K H xs ds → Rp K H (.ref a) (.list ds)
  | tup {a : Addr} {xs : List V} {ds : List PyData} : SqT K H a xs → RpAll K H xs ds → Rp K H (.ref a) (.tuple ds)
inductive RpAll (K : PySem.W.Frag) (H : Hp) : List V → List PyData → Prop
  | nil : RpAll K H [] []
  | cons {v : V} {vs : List V} {d : PyData} {ds : List PyData} : Rp K H v d → RpAll K H vs ds → RpAll K H (v :: vs) (d :: ds)
end
section
variable {K : PySem.W.Frag} {H H' : Hp}
mutual
theorem Rp.mono (e : Same H H') : ∀ {v : V} {d : PyData}, Rp K H v d → Rp K H' v d
  | _, _, .non => .non
  | _, _, .bl b => .bl b
  | _, _, .int b => .int b
  | _, _, .str b => .str b
  | _, _, .lst h1 h2 => .lst (e _ _ h1) (RpAll.mono e h2)
  | _, _, .tup h1 h2 => .tup (Same.seqT e h1) (RpAll.mono e h2)
theorem RpAll.mono (e : Same H H') : ∀ {v : List V} {d : List PyData}, RpAll K H v d → RpAll K H' v d
  | _, _, .nil => .nil
  | _, _, .cons h1 h2 => .cons (Rp.mono e h1) (RpAll.mono e h2)
end
mutual
theorem Rp.dp : ∀ {v : V} {d : PyData}, Rp K H v d → Dp K H v d
  | _, _, .non => .non
  | _, _, .bl b => .bl b
  | _, _, .int b => .int b
  | _, _, .str b => .str b
  | _, _, .lst h1 h2 => .lst (SqL.of h1) (RpAll.dp h2)
  | _, _, .tup h1 h2 => .tup h1 (RpAll.dp h2)
theorem RpAll.dp : ∀ {v : List V} {d : List PyData}, RpAll K H v d → DpAll K H v d
  | _, _, .nil => .nil
  | _, _, .cons h1 h2 => .cons (Rp.dp h1) (RpAll.dp h2)
end
theorem RpAll.length : ∀ {vs : List V} {ds : List PyData}, RpAll K H vs ds → vs.length = ds.length
  | _, _, .nil => rfl
  | _, _, .cons _ h => by simp [RpAll.length h]
theorem RpAll.get : ∀ {vs : List V} {ds : List PyData} {i : Nat} {d : PyData}, RpAll K H vs ds → ds[i]? = some d → ∃ v, vs[i]? = some v ∧ Rp K H v d
  | _, _, _, _, .nil, e => by simp at e
  | _, _, 0, _, .cons h _, e => by simp at e; subst e; exact ⟨_, rfl, h⟩
  | _, _, i + 1, d, .cons _ t, e => by
    obtain ⟨u, h1, h2⟩ := RpAll.get (i := i) (d := d) t (by simpa using e)
    exact ⟨u, by simpa using h1, h2⟩
theorem RpAll.append : ∀ {vs vs' : List V} {ds ds' : List PyData}, RpAll K H vs ds → RpAll K H vs' ds' → RpAll K H (vs ++ vs') (ds ++ ds')
  | _, _, _, _, .nil, h => h
  | _, _, _, _, .cons h t, h' => .cons h (RpAll.append t h')
theorem RpAll.set {v : V} {d : PyData} (r : Rp K H v d) : ∀ {vs : List V} {ds : List PyData} (i : Nat), RpAll K H vs ds → RpAll K H (vs.set i v) (ds.set i d)
  | _, _, _, .nil => .nil
  | _, _, 0, .cons _ t => .cons r t
  | _, _, i + 1, .cons q t => .cons q (RpAll.set r i t)
theorem RpAll.drop : ∀ {vs : List V} {ds : List PyData} (n : Nat), RpAll K H vs ds → RpAll K H (vs.drop n) (ds.drop n)
  | _, _, 0, r => r
  | _, _, _ + 1, .nil => .nil
  | _, _, n + 1, .cons _ t => RpAll.drop n t
theorem RpAll.take : ∀ {vs : List V} {ds : List PyData} (n : Nat), RpAll K H vs ds → RpAll K H (vs.take n) (ds.take n)
  | _, _, 0, _ => .nil
  | _, _, _ + 1, .nil => .nil
  | _, _, n + 1, .cons r t => .cons r (RpAll.take n t)
theorem RpAll.rep {vs : List V} {ds : List PyData} (h : RpAll K H vs ds) : ∀ k : Nat, RpAll K H (List.replicate k vs).flatten (List.replicate k ds).flatten
  | 0 => .nil
  | k + 1 => by simp only [List.replicate_succ, List.flatten_cons]; exact h.append (RpAll.rep h k)
theorem RpAll.one {v : V} {d : PyData} (h : Rp K H v d) : RpAll K H [v] [d] := .cons h .nil
theorem RpAll.snoc {vs : List V} {ds : List PyData} {v : V} {d : PyData} (h : RpAll K H vs ds) (h' : Rp K H v d) : RpAll K H (vs ++ [v]) (ds ++ [d]) := h.append (.one h')
theorem RpAll.reverse : ∀ {vs : List V} {ds : List PyData}, RpAll K H vs ds → RpAll K H vs.reverse ds.reverse
  | _, _, .nil => .nil
  | _, _, .cons h t => by simp only [List.reverse_cons]; exact (RpAll.reverse t).snoc h
/-- inversions -/
theorem Rp.int_inv {v : V} {i : Int} (h : Rp K H v (.int i)) : v = .int i := by cases h; rfl
theorem Rp.bl_inv {v : V} {b : Bool} (h : Rp K H v (.bool b)) : v = .bl b := by cases h; rfl
theorem Rp.str_inv {v : V} {x : Str} (h : Rp K H v (.str x)) : v = .str x := by cases h; rfl
theorem Rp.non_inv {v : V} (h : Rp K H v .none) : v = .non := by cases h; rfl
theorem Rp.lst_inv {v : V} {ds : List PyData} (h : Rp K H v (.list ds)) : ∃ a xs, v = .ref a ∧ H a = some (.lst xs) ∧ RpAll K H xs ds := by cases h with | lst h1 h2 => exact ⟨_, _, rfl, h1, h2⟩
theorem Rp.tup_inv {v : V} {ds : List PyData} (h : Rp K H v (.tuple ds)) : ∃ a xs, v = .ref a ∧ SqT K H a xs ∧ RpAll K H xs ds := by cases h with | tup h1 h2 => exact ⟨_, _, rfl, h1, h2⟩
theorem RpAll.ints : ∀ {vs : List V} {ns : List Int}, RpAll K H vs (ns.map PyData.int) → vs = ns.map V.int
  | _, [], h => by cases h; rfl
  | _, n :: ns, h => by
    cases h with
    | cons h1 h2 => rw [h1.int_inv, RpAll.ints h2]; rfl
theorem rpAll_ints : ∀ {ns : List Int}, RpAll K H (ns.map V.int) (ns.map PyData.int)
  | [] => .nil
  | n :: ns => .cons (.int n) rpAll_ints
theorem RpAll.strs : ∀ {vs : List V} {ns : List Str}, RpAll K H vs (ns.map PyData.str) → vs = ns.map V.str
  | _, [], h => by cases h; rfl
  | _, n :: ns, h => by
    cases h with
    | cons h1 h2 => rw [h1.str_inv, RpAll.strs h2]; rfl
theorem rpAll_strs : ∀ {ns : List Str}, RpAll K H (ns.map V.str) (ns.map PyData.str)
  | [] => .nil
  | n :: ns => .cons (.str n) rpAll_strs
theorem RpAll.bls : ∀ {vs : List V} {ns : List Bool}, RpAll K H vs (ns.map PyData.bool) → vs = ns.map V.bl
  | _, [], h => by cases h; rfl
  | _, n :: ns, h => by
    cases h with
    | cons h1 h2 => rw [h1.bl_inv, RpAll.bls h2]; rfl
end
/-- lists of ints, of bools, of texts, out of data -/
def intsOf : List PyData → Option (List Int)
  | [] => some []
  | .int i :: r => (intsOf r).map (i :: ·)
  | _ :: _ => none
theorem intsOf_some : ∀ {ds : List PyData} {ns : List Int}, intsOf ds = some ns → ds = ns.map PyData.int
  | [], ns, h => by
    simp only [intsOf, Option.some.injEq] at h
    subst h; rfl
  | .int i :: r, ns, h => by
    simp only [intsOf, Option.map_eq_some_iff] at h
    obtain ⟨m, h1, h2⟩ := h
    subst h2
    rw [intsOf_some h1]; rfl
  | .none :: _, _, h => by simp [intsOf] at h
  | .bool _ :: _, _, h => by simp [intsOf] at h
  | .str _ :: _, _, h => by simp [intsOf] at h
  | .list _ :: _, _, h => by simp [intsOf] at h
  | .tuple _ :: _, _, h => by simp [intsOf] at h
  | .dict _ :: _, _, h => by simp [intsOf] at h
theorem intsOf_map (ns : List Int) : intsOf (ns.map PyData.int) = some ns := by
  induction ns with
  | nil => rfl
  | cons n ns ih => simp [intsOf, ih]
def boolsOf : List PyData → Option (List Bool)
  | [] => some []
  | .bool i :: r => (boolsOf r).map (i :: ·)
  | _ :: _ => none
theorem boolsOf_some : ∀ {ds : List PyData} {ns : List Bool}, boolsOf ds = some ns → ds = ns.map PyData.bool
  | [], ns, h => by
    simp only [boolsOf, Option.some.injEq] at h
    subst h; rfl
  | .bool i :: r, ns, h => by
    simp only [boolsOf, Option.map_eq_some_iff] at h
    obtain ⟨m, h1, h2⟩ := h
    subst h2
    rw [boolsOf_some h1]; rfl
  | .none :: _, _, h => by simp [boolsOf] at h
  | .int _ :: _, _, h => by simp [boolsOf] at h
  | .str _ :: _, _, h => by simp [boolsOf] at h
  | .list _ :: _, _, h => by simp [boolsOf] at h
  | .tuple _ :: _, _, h => by simp [boolsOf] at h
  | .dict _ :: _, _, h => by simp [boolsOf] at h
theorem boolsOf_map (ns : List Bool) : boolsOf (ns.map PyData.bool) = some ns := by
  induction ns with
  | nil => rfl
  | cons n ns ih => simp [boolsOf, ih]
def strsOf : List PyData → Option (List Str)
  | [] => some []
  | .str i :: r => (strsOf r).map (i :: ·)
  | _ :: _ => none
theorem strsOf_some : ∀ {ds : List PyData} {ns : List Str}, strsOf ds = some ns → ds = ns.map PyData.str
  | [], ns, h => by
    simp only [strsOf, Option.some.injEq] at h
    subst h; rfl
  | .str i :: r, ns, h => by
    simp only [strsOf, Option.map_eq_some_iff] at h
    obtain ⟨m, h1, h2⟩ := h
    subst h2
    rw [strsOf_some h1]; rfl
  | .none :: _, _, h => by simp [strsOf] at h
  | .int _ :: _, _, h => by simp [strsOf] at h
  | .bool _ :: _, _, h => by simp [strsOf] at h
  | .list _ :: _, _, h => by simp [strsOf] at h
  | .tuple _ :: _, _, h => by simp [strsOf] at h
  | .dict _ :: _, _, h => by simp [strsOf] at h
theorem strsOf_map (ns : List Str) : strsOf (ns.map PyData.str) = some ns := by
  induction ns with
  | nil => rfl
  | cons n ns ih => simp [strsOf, ih]

/-! ### the counts that the memo holds -/
def inN (n : Int) (ds : List Int) : Bool := ds.any fun y => decide (y = n)
def leftP (bs : List (Int × Int)) (ds : List Int) : List Int := ((List.range bs.length).map fun k : Nat => (k : Int)).filter fun k => !inN k ds
def lowAt (bs : List (Int × Int)) (k : Int) : Int := (bs.getD k.toNat (0, 0)).1
def highAt (bs : List (Int × Int)) (k : Int) : Int := (bs.getD k.toNat (0, 0)).2
def nextP (bs : List (Int × Int)) (ds : List Int) : List Int := (leftP bs ds).filter fun k => (leftP bs ds).all fun j => decide (lowAt bs k ≤ highAt bs j)
def cntF (bs : List (Int × Int)) : Nat → List Int → Int
  | 0, _ => 1
  | k + 1, ds => ((nextP bs ds).map fun j => cntF bs k (ds ++ [j])).sum
def cnt (bs : List (Int × Int)) (ds : List Int) : Int := cntF bs (bs.length - ds.length) ds

/-! ### objects that change -/
structure Mo where
  tc : Addr
  ec : Err → Addr
structure Gh where
  adr : List Addr
  fp : Nat → Addr → Prop
def Gh.R (g : Gh) (a : Addr) : Prop := ∃ i, g.fp i a
def telF (n q : Addr) : List (Str × V) := putF "past" (.ref q) (putF "now" (.ref n) [])
/-- a list of pairs of ints (tuples) -/
def RpT (K : PySem.W.Frag) (C : Hp) : List V → List (Int × Int) → Prop := Paired fun v b => ∃ t, v = .ref t ∧ SqT K C t [.int b.1, .int b.2]
def ORep (mo : Mo) (K : PySem.W.Frag) (C H : Hp) (f : Addr → Prop) (a : Addr) : AObj → Prop
  | .dr => ∃ (q : Addr) (c : Int) (ns : List Int), H a = some (.lst [.ref q, .int c]) ∧ H q = some (.lst (ns.map V.int)) ∧ a ≠ q ∧ f a ∧ f q ∧ 0 < ns.length ∧ ns.length ≤ 63 ∧ 0 ≤ c
  | .memo bs => ∃ kvs : List (List Key × V), H a = some (.dT kvs) ∧ f a ∧ kvs.length ≤ 1000 ∧ ∀ p ∈ kvs, ∃ ks : List Int, p.1 = ks.map Sum.inl ∧ p.2 = .int (cnt bs ks)
  | .tel now past => ∃ (dx n q : Addr) (ps : List Addr) (vn : List V), H a = some (.ins mo.tc dx (telF n q)) ∧ H n = some (.lst vn) ∧ H q = some (.lst (ps.map V.ref)) ∧ RpT K C vn now ∧
      Paired (fun p xs => ∃ vs, H p = some (.lst vs) ∧ RpT K C vs xs ∧ f p) ps past ∧ f a ∧ f dx ∧ f n ∧ f q ∧ n ≠ q ∧ n ∉ ps ∧ q ∉ ps ∧ ps.Nodup ∧ H dx ≠ none
structure WOk (mo : Mo) (K : PySem.W.Frag) (S : Addr → Prop) (g : Gh) (W : Wd) (H : Hp) : Prop where
  len : g.adr.length = W.length
  dom : ∀ i a, g.fp i a → i < W.length ∧ H a ≠ none
  dis : ∀ i j a, g.fp i a → g.fp j a → i = j
  rep : ∀ (i : Nat) (a : Addr) (o : AObj), g.adr[i]? = some a → W[i]? = some o → ORep mo K (cut H g.R) H (g.fp i) a o
theorem Paired.imp {α β : Type} {F G : α → β → Prop} (f : ∀ a b, F a b → G a b) : ∀ {l₁ : List α} {l₂ : List β}, Paired F l₁ l₂ → Paired G l₁ l₂
  | _, _, .nil => .nil
  | _, _, .cons r t => .cons (f _ _ r) (Paired.imp f t)
theorem ORep.mono {mo : Mo} {K : PySem.W.Frag} {C C' H H' : Hp} {f : Addr → Prop} {a : Addr} (hC : ∀ t xs, SqT K C t xs → SqT K C' t xs) (hH : ∀ a o, f a → H a = some o → H' a = some o) : ∀ {o : AObj}, ORep mo K C H f a o → ORep mo K C' H' f a o
  | .dr, ⟨q, c, ns, h1, h2, h3, h4, h5, h6⟩ => ⟨q, c, ns, hH _ _ h4 h1, hH _ _ h5 h2, h3, h4, h5, h6⟩
  | .memo _, ⟨kvs, h1, h2, h3⟩ => ⟨kvs, hH _ _ h2 h1, h2, h3⟩
  | .tel _ _, ⟨dx, n, q, ps, vn, h1, h2, h3, h4, h5, fa, fdx, fn, fq, h6, h7, h8, h9, h10⟩ => ⟨dx, n, q, ps, vn, hH _ _ fa h1, hH _ _ fn h2, hH _ _ fq h3, Paired.imp (fun v b ⟨t, e, z⟩ => ⟨t, e, hC _ _ z⟩) h4,
      Paired.imp (fun p xs ⟨vs, k1, k2, k3⟩ => ⟨vs, hH _ _ k3 k1, Paired.imp (fun v b ⟨t, e, z⟩ => ⟨t, e, hC _ _ z⟩) k2, k3⟩) h5, fa, fdx, fn, fq, h6, h7, h8, h9, fun z => by
        cases e : H dx with
        | none => exact h10 e
        | some o => rw [hH _ _ fdx e] at z; cases z⟩

structure Step (g : Gh) (H : Hp) (g' : Gh) (H' : Hp) : Prop where
  keep : ∀ a o, ¬ g.R a → H a = some o → H' a = some o ∧ ¬ g'.R a
  dom : ∀ a, H a ≠ none → H' a ≠ none
  adr : ∀ (i : Nat) (a : Addr), g.adr[i]? = some a → g'.adr[i]? = some a
theorem Step.refl (g : Gh) (H : Hp) : Step g H g H := ⟨fun _ _ h e => ⟨e, h⟩, fun _ h => h, fun _ _ h => h⟩
theorem Step.trans {g g1 g2 : Gh} {H H1 H2 : Hp} (a : Step g H g1 H1) (b : Step g1 H1 g2 H2) : Step g H g2 H2 :=
  ⟨fun x o h e => let ⟨e1, h1⟩ := a.keep x o h e; b.keep x o h1 e1, fun x h => b.dom x (a.dom x h), fun i x h => b.adr i x (a.adr i x h)⟩
theorem Step.back {g g' : Gh} {H H' : Hp} (a : Step g H g' H') {p : Addr} (h : H' p = none) : H p = none := by
  cases e : H p with
  | none => rfl
  | some o => exact absurd h (a.dom p (by rw [e]; exact fun z => by cases z))
theorem same_ne {H H' : Hp} (h : Same H H') {a : Addr} (e : H a ≠ none) : H' a ≠ none := by
  cases q : H a with
  | none => exact absurd q e
  | some o => rw [h a o q]; exact fun z => by cases z
theorem Step.of_same {g : Gh} {H H' : Hp} (h : Same H H') : Step g H g H' := ⟨fun a o hn e => ⟨h a o e, hn⟩, fun _ e => same_ne h e, fun _ _ e => e⟩
theorem same_new {H : Hp} {p : Addr} {o : HO} (h : H p = none) : Same H (upd H p o) := fun a u e => by
  rw [upd_ne (ne_of_none e h)]
  exact e
theorem WOk.same {mo : Mo} {K : PySem.W.Frag} {S : Addr → Prop} {g : Gh} {W : Wd} {H H' : Hp} (w : WOk mo K S g W H) (h : Same H H') : WOk mo K S g W H' where
  len := w.len
  dom := fun i a f => ⟨(w.dom i a f).1, same_ne h (w.dom i a f).2⟩
  dis := w.dis
  rep := fun i a o e1 e2 => (w.rep i a o e1 e2).mono (fun t xs z => Same.seqT (cut_mono fun b u q n => ⟨h b u q, n⟩) z) fun b u _ q => h b u q
theorem WOk.rdom {mo : Mo} {K : PySem.W.Frag} {S : Addr → Prop} {g : Gh} {W : Wd} {H : Hp} (w : WOk mo K S g W H) {a : Addr} (h : g.R a) : H a ≠ none := let ⟨i, f⟩ := h; (w.dom i a f).2

theorem WOk.any {mo : Mo} {K : PySem.W.Frag} {S S' : Addr → Prop} {g : Gh} {W : Wd} {H : Hp} (w : WOk mo K S g W H) : WOk mo K S' g W H := ⟨w.len, w.dom, w.dis, w.rep⟩
theorem WOk.new {mo : Mo} {K : PySem.W.Frag} {S S' : Addr → Prop} {g : Gh} {W : Wd} {H : Hp} {p : Addr} {u : HO} (w : WOk mo K S g W H) (h : H p = none) : WOk mo K S' g W (upd H p u) := (w.same (same_new h)).any
theorem WOk.less {mo : Mo} {K : PySem.W.Frag} {S S' : Addr → Prop} {g : Gh} {W : Wd} {H : Hp} (w : WOk mo K S g W H) (h : ∀ a, S' a → S a) : WOk mo K S' g W H := w.any
/-- a list that is no object's is changed -/
theorem WOk.put {mo : Mo} {K : PySem.W.Frag} {S S' : Addr → Prop} {g : Gh} {W : Wd} {H : Hp} {p : Addr} {vs : List V} {u : HO} (w : WOk mo K S g W H) (n : ¬ g.R p) (hp : H p = some (.lst vs)) : WOk mo K S' g W (upd H p u) where
  len := w.len
  dom := fun i a f => ⟨(w.dom i a f).1, by rw [upd_ne (show _ ≠ p from fun z => by subst z; exact n ⟨i, f⟩)]; exact (w.dom i a f).2⟩
  dis := w.dis
  rep := fun i a o e1 e2 => (w.rep i a o e1 e2).mono (fun t xs z => by
    rcases z with (z | ⟨o, z⟩) | z
    · obtain ⟨z1, z2⟩ := cut_some.mp z
      refine .inl (.inl (cut_some.mpr ⟨?_, z2⟩))
      rw [upd_ne (ne_of z1 hp (by intro q; cases q))]
      exact z1
    · obtain ⟨z1, z2⟩ := cut_some.mp z
      refine .inl (.inr ⟨o, cut_some.mpr ⟨?_, z2⟩⟩)
      rw [upd_ne (ne_of z1 hp (by intro q; cases q))]
      exact z1
    · exact .inr z) fun b v f q => by rw [upd_ne (show _ ≠ p from fun z => by subst z; exact n ⟨i, f⟩)]; exact q

/-! ### abstract values in a heap -/
def excP (c a : Addr) : Heap → Prop := fun h => ∃ oe : Obj, h.get? a = some oe ∧ Zc (.ref c) none oe ∧ ∃ vs, oe.data = .fields vs
def RepA (mo : Mo) (K : PySem.W.Frag) (S : Addr → Prop) (g : Gh) (H : Hp) (v : V) : AV → Prop
  | .d p => Rp K (cut H fun a => S a ∨ g.R a) v p
  | .ob i => ∃ a, g.adr[i]? = some a ∧ v = .ref a
  | .exc e => ∃ a, v = .ref a ∧ H a = some (.ext (excP (mo.ec e) a)) ∧ ¬ S a ∧ ¬ g.R a
  | .scr ns => ∃ a, v = .ref a ∧ SqL K (cut H fun a => S a ∨ g.R a) a (ns.map V.int)
theorem cut_step {S : Addr → Prop} {g g' : Gh} {H H' : Hp} (h : Step g H g' H') : Same (cut H fun a => S a ∨ g.R a) (cut H' fun a => S a ∨ g'.R a) :=
  cut_mono fun a o e n => let ⟨e1, h1⟩ := h.keep a o (fun z => n (.inr z)) e; ⟨e1, fun z => z.elim (fun q => n (.inl q)) h1⟩
theorem RepA.step {mo : Mo} {K : PySem.W.Frag} {S : Addr → Prop} {g g' : Gh} {H H' : Hp} {v : V} (h : Step g H g' H') : ∀ {a : AV}, RepA mo K S g H v a → RepA mo K S g' H' v a
  | .d _, r => Rp.mono (cut_step h) r
  | .ob i, ⟨a, e, q⟩ => ⟨a, h.adr i a e, q⟩
  | .exc _, ⟨a, q, e, n1, n2⟩ => let ⟨e1, h1⟩ := h.keep a _ n2 e; ⟨a, q, e1, n1, h1⟩
  | .scr _, ⟨a, q, e⟩ => ⟨a, q, (cut_step h).seq e⟩
theorem RepA.less {mo : Mo} {K : PySem.W.Frag} {S S' : Addr → Prop} {g : Gh} {H : Hp} {v : V} (h : ∀ a, S' a → S a) : ∀ {a : AV}, RepA mo K S g H v a → RepA mo K S' g H v a
  | .d _, r => Rp.mono (cut_mono fun a o e n => ⟨e, fun z => n (z.imp_left (h a))⟩) r
  | .ob i, r => r
  | .exc _, ⟨a, q, e, n1, n2⟩ => ⟨a, q, e, fun z => n1 (h a z), n2⟩
  | .scr _, ⟨a, q, e⟩ => ⟨a, q, Same.seq (cut_mono fun a o e n => ⟨e, fun z => n (z.imp_left (h a))⟩) e⟩
/-- a list made since H₀ -/
def Fresh (mo : Mo) (K : PySem.W.Frag) (S : Addr → Prop) (g' : Gh) (W' : Wd) (H₀ H' : Hp) (v : V) (a : AV) : Prop :=
  ∃ (p : Addr) (vs : List V) (xs : List PyData), v = .ref p ∧ a = .d (.list xs) ∧ H₀ p = none ∧ H' p = some (.lst vs) ∧ ¬ S p ∧ ¬ g'.R p ∧ RpAll K (cut H' fun b => (S b ∨ g'.R b) ∨ b = p) vs xs ∧ WOk mo K (fun b => S b ∨ b = p) g' W' H'
def RepR (mo : Mo) (K : PySem.W.Frag) (S : Addr → Prop) (g' : Gh) (W' : Wd) (H₀ H' : Hp) (v : V) (r : RV) : Prop :=
  RepA mo K S g' H' v r.1 ∧ (r.2 = true → Fresh mo K S g' W' H₀ H' v r.1)
structure RepE (mo : Mo) (K : PySem.W.Frag) (S : Addr → Prop) (g : Gh) (W : Wd) (σ : St) (H : Hp) (en : En) : Prop where
  sl : ∀ (i : Nat) (a : AV), en[i]? = some (some (.v a)) → ∃ v, σ[i]? = some (some v) ∧ RepA mo K S g H v a
  len : en.length = σ.length
  wok : WOk mo K S g W H
  sd : ∀ a, S a → H a ≠ none
theorem RepE.step {mo : Mo} {K : PySem.W.Frag} {S : Addr → Prop} {g g' : Gh} {W W' : Wd} {σ : St} {H H' : Hp} {en : En} (r : RepE mo K S g W σ H en) (h : Step g H g' H') (w : WOk mo K S g' W' H') : RepE mo K S g' W' σ H' en where
  sl := fun i a e => let ⟨v, e1, q⟩ := r.sl i a e; ⟨v, e1, q.step h⟩
  len := r.len
  wok := w
  sd := fun a s => h.dom a (r.sd a s)

/-! ### the judgements -/
/-- what is wanted of a value -/
def QE (mo : Mo) (K : PySem.W.Frag) (S : Addr → Prop) (g : Gh) (H : Hp) (Q : VK) : RV → Wd → Prop := fun r W' => ∀ g' v H', Step g H g' H' → WOk mo K S g' W' H' → RepR mo K S g' W' H H' v r → Q v H'
def QT (mo : Mo) (K : PySem.W.Frag) (S : Addr → Prop) (g : Gh) (H : Hp) (Q : Bool → Hp → Prop) : Bool → Wd → Prop := fun b W' => ∀ g' H', Step g H g' H' → WOk mo K S g' W' H' → Q b H'
def RepAs (mo : Mo) (K : PySem.W.Frag) (S : Addr → Prop) (g : Gh) (H : Hp) : List V → List AV → Prop := Paired (RepA mo K S g H)
def QA (mo : Mo) (K : PySem.W.Frag) (n : Nat) (S : Addr → Prop) (g : Gh) (H : Hp) (Q : List V → Hp → Prop) : List AV → Wd → Prop := fun as W' => ∀ g' vs H', Step g H g' H' → WOk mo K S g' W' H' → RepAs mo K S g' H' vs as → vs.length = n → Q vs H'
def EE (mo : Mo) (K : PySem.W.Frag) (S : Addr → Prop) (g : Gh) (H : Hp) (E : XK) : Err → Wd → Prop := fun er W' => ∀ g' H', Step g H g' H' → WOk mo K S g' W' H' → E (.ref (mo.ec er)) none H'
def DE (X : Cx) (mo : Mo) (E : XK) (e : Expr) (f : En → M RV) : Prop :=
  ∃ t : TE, PE X e t ∧ ∀ (S : Addr → Prop) (g : Gh) (W : Wd) (σ : St) (H : Hp) (en : En) (Q : VK), RepE mo X.K S g W σ H en → wp (f en) W (QE mo X.K S g H Q) (EE mo X.K S g H E) → t σ H Q
def DT (X : Cx) (mo : Mo) (E : XK) (e : Expr) (f : En → M Bool) : Prop :=
  ∃ t : TT, PT X e t ∧ ∀ (S : Addr → Prop) (g : Gh) (W : Wd) (σ : St) (H : Hp) (en : En) (Q : Bool → Hp → Prop), RepE mo X.K S g W σ H en → wp (f en) W (QT mo X.K S g H Q) (EE mo X.K S g H E) → t σ H Q
def DA (X : Cx) (mo : Mo) (E : XK) (es : List Expr) (f : En → M (List AV)) : Prop :=
  ∃ t : TA, PA X es t ∧ ∀ (S : Addr → Prop) (g : Gh) (W : Wd) (σ : St) (H : Hp) (en : En) (Q : List V → Hp → Prop), RepE mo X.K S g W σ H en → wp (f en) W (QA mo X.K es.length S g H Q) (EE mo X.K S g H E) → t σ H Q
section
variable {mo : Mo} {K : PySem.W.Frag} {S : Addr → Prop} {g g' : Gh} {H H' : Hp} {E : XK}
theorem QE.step {Q : VK} {r : RV} {W' : Wd} (h : Step g H g' H') (q : QE mo K S g H Q r W') : QE mo K S g' H' Q r W' := fun g2 v H2 s w ⟨r1, r2⟩ => q g2 v H2 (h.trans s) w ⟨r1, fun e =>
  let ⟨p, vs, xs, a1, a2, a3, a4⟩ := r2 e
  ⟨p, vs, xs, a1, a2, h.back a3, a4⟩⟩
theorem QT.step {Q : Bool → Hp → Prop} {r : Bool} {W' : Wd} (h : Step g H g' H') (q : QT mo K S g H Q r W') : QT mo K S g' H' Q r W' := fun g2 H2 s w => q g2 H2 (h.trans s) w
theorem QA.step {n : Nat} {Q : List V → Hp → Prop} {r : List AV} {W' : Wd} (h : Step g H g' H') (q : QA mo K n S g H Q r W') : QA mo K n S g' H' Q r W' := fun g2 vs H2 s w => q g2 vs H2 (h.trans s) w
theorem EE.step {er : Err} {W' : Wd} (h : Step g H g' H') (q : EE mo K S g H E er W') : EE mo K S g' H' E er W' := fun g2 H2 s w => q g2 H2 (h.trans s) w
theorem RepAs.step {vs : List V} {as : List AV} (h : Step g H g' H') (r : RepAs mo K S g H vs as) : RepAs mo K S g' H' vs as := Paired.imp (fun _ _ q => q.step h) r
/-- a value that is no list made anew -/
theorem QE.ret {Q : VK} {a : AV} {W' : Wd} {v : V} (q : QE mo K S g H Q (a, false) W') (w : WOk mo K S g W' H) (r : RepA mo K S g H v a) : Q v H := q g v H (.refl g H) w ⟨r, fun z => by cases z⟩
/-- a new tracked object -/
theorem QE.new {Q : VK} {W' : Wd} {p : Addr} {vs : List V} {xs : List PyData} (q : QE mo K S g H Q (.d (.list xs), true) W') (w : WOk mo K S g W' H) (sd : ∀ a, S a → H a ≠ none) (hp : H p = none) (r : RpAll K (cut H fun a => S a ∨ g.R a) vs xs) : Q (.ref p) (upd H p (.lst vs)) := by
  have nS : ¬ S p := fun z => sd p z hp
  have nR : ¬ g.R p := fun z => w.rdom z hp
  have s1 : Same (cut H fun a => S a ∨ g.R a) (cut (upd H p (.lst vs)) fun a => S a ∨ g.R a) := cut_mono fun a o e n => ⟨same_new hp a o e, n⟩
  refine q g (.ref p) _ (.of_same (same_new hp)) (w.same (same_new hp)) ⟨.lst (cut_some.mpr ⟨upd_same, fun z => z.elim nS nR⟩) (r.mono s1), fun _ => ⟨p, vs, xs, rfl, rfl, hp, upd_same, nS, nR, r.mono (cut_mono fun a o e n => ⟨same_new hp a o e, fun z => z.elim n fun z => ?_⟩), w.new hp⟩⟩
  subst z
  rw [hp] at e
  cases e
theorem QE.newT {Q : VK} {W' : Wd} {p : Addr} {vs : List V} {xs : List PyData} (q : QE mo K S g H Q (.d (.tuple xs), false) W') (w : WOk mo K S g W' H) (sd : ∀ a, S a → H a ≠ none) (hp : H p = none) (r : RpAll K (cut H fun a => S a ∨ g.R a) vs xs) : Q (.ref p) (upd H p (.tup vs)) := by
  have nS : ¬ S p := fun z => sd p z hp
  have nR : ¬ g.R p := fun z => w.rdom z hp
  have s1 : Same (cut H fun a => S a ∨ g.R a) (cut (upd H p (.tup vs)) fun a => S a ∨ g.R a) := cut_mono fun a o e n => ⟨same_new hp a o e, n⟩
  exact q g (.ref p) _ (.of_same (same_new hp)) (w.same (same_new hp)) ⟨.tup (SqT.of (cut_some.mpr ⟨upd_same, fun z => z.elim nS nR⟩)) (r.mono s1), fun z => by cases z⟩
end
end Dt

/-! The data layer, part 2: rules for expressions. -/
namespace Dt
open PySem L2

def big : Nat := 2 ^ 1000
def lim : Nat := 1000000
theorem lim_line {n : Nat} (h : n ≤ lim) : n ≤ sizeLine := Nat.le_trans h (by decide)
theorem lim_lt {n : Nat} (h : n ≤ lim) : n < sizeLine := Nat.lt_of_le_of_lt h (by decide)
abbrev rI' (i : Int) : M RV := .ret (.d (.int i), false)
abbrev rB (b : Bool) : M RV := .ret (.d (.bool b), false)

/-! ### names and constants -/
def dVar (i : Nat) : En → M RV := fun en => match en[i]? with
  | some (some (.v a)) => .ret (a, false)
  | _ => .stuck
def dC (p : PyData) : En → M RV := fun _ => .ret (.d p, false)
section
variable {X : Cx} {mo : Mo} {E : XK} {pos : Pos} {a b c : Expr} {fa fb fc : En → M RV}
theorem de_var (i : Nat) {x : Str} (hN : X.N[i]? = some x := by rfl) (hv : Vis X.env.scope x := by first | exact Or.inl rfl | exact Or.inr (Or.inl rfl) | exact Or.inr (Or.inr rfl)) (hd : (x == ("__debug__" : Str)) = false := by decide)
    (hcd : (x == ("__classdict__" : Str)) = false := by decide) : DE X mo E (.Name x pos) (dVar i) := by
  refine ⟨tVar i, pe_var hN hv hd hcd, fun S g W σ H en Q hR h => ?_⟩
  unfold dVar at h
  split at h
  · rename_i a e
    obtain ⟨v, e1, r⟩ := hR.sl i a e
    exact ⟨v, e1, QE.ret h hR.wok r⟩
  · exact h.elim
theorem de_c {v : V} {p : PyData} (hp : PE X a (tC v)) (hr : ∀ H, Rp X.K H v p) : DE X mo E a (dC p) :=
  ⟨tC v, hp, fun S g W σ H en Q hR h => QE.ret h hR.wok (hr _)⟩
theorem de_int {i : Int} {j : Nat} : DE X mo E (.Constant (.int i) j pos) (dC (.int i)) := de_c pe_int fun _ => .int i
theorem de_bl {i : Bool} {j : Nat} : DE X mo E (.Constant (.bool i) j pos) (dC (.bool i)) := de_c pe_bl fun _ => .bl i
theorem de_non {j : Nat} : DE X mo E (.Constant .none j pos) (dC .none) := de_c pe_non fun _ => .non
theorem de_str {x : Str} {j : Nat} : DE X mo E (.Constant (.str x) j pos) (dC (.str x)) := de_c pe_str fun _ => .str x
theorem de_gint {x : Str} {i : Int} (hm : ∃ t, X.mg x = some (.int i t)) (hg : Gl X x := by rfl) (hd : (x == ("__debug__" : Str)) = false := by decide) : DE X mo E (.Name x pos) (dC (.int i)) := by
  obtain ⟨t, hm⟩ := hm
  exact de_c (pe_glob (v := .int i) hg hm ⟨t, rfl⟩ hd) fun _ => .int i
theorem de_gstr {x z : Str} (hm : ∃ t, X.mg x = some (.str z t)) (hg : Gl X x := by rfl) (hd : (x == ("__debug__" : Str)) = false := by decide) : DE X mo E (.Name x pos) (dC (.str z)) := by
  obtain ⟨t, hm⟩ := hm
  exact de_c (pe_glob (v := .str z) hg hm ⟨t, rfl⟩ hd) fun _ => .str z
theorem de_gtup {x : Str} {f : Addr} {vs : List V} {ds : List PyData} (hm : X.mg x = some (.ref f)) (ht : ∀ H, SqT X.K H f vs) (ha : ∀ H, RpAll X.K H vs ds) (hg : Gl X x := by rfl) (hd : (x == ("__debug__" : Str)) = false := by decide) : DE X mo E (.Name x pos) (dC (.tuple ds)) :=
  de_c (pe_glob (v := .ref f) hg hm rfl hd) fun H => .tup (ht H) (ha H)

/-! ### two operands -/
def OpD (mo : Mo) (K : PySem.W.Frag) (r : R2) (f : AV → AV → M RV) : Prop :=
  ∀ (S : Addr → Prop) (g : Gh) (W : Wd) (H : Hp) (x y : V) (a b : AV) (Q : VK) (E' : Err → Wd → Prop), WOk mo K S g W H → (∀ a, S a → H a ≠ none) → RepA mo K S g H x a → RepA mo K S g H y b → wp (f a b) W (QE mo K S g H Q) E' → r x y H Q
def dBin (f : AV → AV → M RV) (fa fb : En → M RV) : En → M RV := fun en => (fa en).bind fun x => (fb en).bind fun y => f x.1 y.1
theorem op_run {r : R2} {f : AV → AV → M RV} {ta tb : TE} (hd : OpD mo X.K r f)
    (wa : ∀ (S : Addr → Prop) (g : Gh) (W : Wd) (σ : St) (H : Hp) (en : En) (Q : VK), RepE mo X.K S g W σ H en → wp (fa en) W (QE mo X.K S g H Q) (EE mo X.K S g H E) → ta σ H Q)
    (wb : ∀ (S : Addr → Prop) (g : Gh) (W : Wd) (σ : St) (H : Hp) (en : En) (Q : VK), RepE mo X.K S g W σ H en → wp (fb en) W (QE mo X.K S g H Q) (EE mo X.K S g H E) → tb σ H Q)
    (S : Addr → Prop) (g : Gh) (W : Wd) (σ : St) (H : Hp) (en : En) (Q : VK) (hR : RepE mo X.K S g W σ H en) (h : wp (dBin f fa fb en) W (QE mo X.K S g H Q) (EE mo X.K S g H E)) : tOp r ta tb σ H Q := by
  unfold dBin at h
  rw [wp_bind] at h
  refine wa S g W σ H en _ hR (wp_mono h (fun r1 W1 q g1 v1 H1 s1 w1 rr1 => ?_) fun _ _ q => q)
  rw [wp_bind] at q
  refine wb S g1 W1 σ H1 en _ (hR.step s1 w1) (wp_mono q (fun r2 W2 q2 g2 v2 H2 s2 w2 rr2 => ?_) fun _ _ q => q.step s1)
  exact hd S g2 W2 H2 v1 v2 r1.1 r2.1 Q _ w2 (fun a s => s2.dom a (s1.dom a (hR.sd a s))) (rr1.1.step s2) rr2.1 (wp_mono q2 (fun _ _ q => q.step (s1.trans s2)) fun _ _ q => q)
theorem de_bin {op : Operator} {r : R2} {f : AV → AV → M RV} (ho : OpR X (binaryOp op) r) (hd : OpD mo X.K r f) (ha : DE X mo E a fa) (hb : DE X mo E b fb) : DE X mo E (.BinOp a op b pos) (dBin f fa fb) := by
  obtain ⟨ta, pa, wa⟩ := ha
  obtain ⟨tb, pb, wb⟩ := hb
  exact ⟨tOp r ta tb, pe_op ho pa pb, op_run hd wa wb⟩
theorem de_cmp {op : CmpOp} {r : R2} {f : AV → AV → M RV} (ho : OpR X (compareOp op) r) (hd : OpD mo X.K r f) (ha : DE X mo E a fa) (hb : DE X mo E b fb) (hm : behindInMarks op b = false) : DE X mo E (.Compare a [op] [b] pos) (dBin f fa fb) := by
  obtain ⟨ta, pa, wa⟩ := ha
  obtain ⟨tb, pb, wb⟩ := hb
  exact ⟨tOp r ta tb, pe_cmpR ho pa pb hm, op_run hd wa wb⟩
theorem OpD.or {r r' : R2} {f : AV → AV → M RV} {K : PySem.W.Frag} (h : OpD mo K r f) : OpD mo K (fun x y H Q => r x y H Q ∨ r' x y H Q) f := fun S g W H x y a b Q E' w sd ra rb hw => .inl (h S g W H x y a b Q E' w sd ra rb hw)

/-! ### the operations on data -/
def oAdd : AV → AV → M RV
  | .d (.int i), .d (.int j) => rI' (i + j)
  | .d (.list xs), .d (.list ys) => if xs.length + ys.length ≤ lim then .ret (.d (.list (xs ++ ys)), true) else .stuck
  | .d (.str x), .d (.str y) => if x.length + y.length ≤ lim then .ret (.d (.str (x ++ y)), false) else .stuck
  | _, _ => .stuck
abbrev RAdd : R2 := fun x y H Q => rI0 (fun i j => .int (i + j)) x y H Q ∨ rCat x y H Q ∨ (∃ i j, x = .str i ∧ y = .str j ∧ i.length + j.length ≤ sizeLine ∧ Q (.str (i ++ j)) H)
theorem opr_add : OpR X (binaryOp .Add) RAdd := op_add.or (op_cat.or op_add_str)
theorem cutS {S : Addr → Prop} {H : Hp} {a : Addr} {o : HO} (h : cut H S a = some o) : H a = some o := (cut_some.mp h).1
theorem opd_add {K : PySem.W.Frag} : OpD mo K RAdd oAdd := by
  intro S g W H x y a b Q E' w sd ra rb h
  unfold oAdd at h
  split at h
  · rw [Rp.int_inv ra, Rp.int_inv rb]
    exact .inl ⟨_, _, rfl, rfl, QE.ret h w (Rp.int _)⟩
  · split at h
    · rename_i hl
      obtain ⟨p, vs, rfl, hp, ap⟩ := Rp.lst_inv ra
      obtain ⟨q, us, rfl, hq, aq⟩ := Rp.lst_inv rb
      refine .inr (.inl ⟨p, q, vs, us, rfl, rfl, cutS hp, cutS hq, lim_line (by rw [ap.length, aq.length]; exact hl), fun t ht => QE.new h w sd ht (ap.append aq)⟩)
    · exact h.elim
  · split at h
    · rename_i hl
      rw [Rp.str_inv ra, Rp.str_inv rb]
      exact .inr (.inr ⟨_, _, rfl, rfl, lim_line hl, QE.ret h w (Rp.str _)⟩)
    · exact h.elim
  · exact h.elim
theorem de_add (ha : DE X mo E a fa) (hb : DE X mo E b fb) : DE X mo E (.BinOp a .Add b pos) (dBin oAdd fa fb) := de_bin opr_add opd_add ha hb
/-- of two ints -/
def oInt (f : Int → Int → PyData) : AV → AV → M RV
  | .d (.int i), .d (.int j) => .ret (.d (f i j), false)
  | _, _ => .stuck
theorem opd_int {K : PySem.W.Frag} {f : Int → Int → V} {f' : Int → Int → PyData} (hf : ∀ i j H, Rp K H (f i j) (f' i j)) : OpD mo K (rI0 f) (oInt f') := by
  intro S g W H x y a b Q E' w sd ra rb h
  unfold oInt at h
  split at h
  · rw [Rp.int_inv ra, Rp.int_inv rb]
    exact ⟨_, _, rfl, rfl, QE.ret h w (hf _ _ _)⟩
  · exact h.elim
def oSub := oInt fun i j => .int (i - j)
theorem de_sub (ha : DE X mo E a fa) (hb : DE X mo E b fb) : DE X mo E (.BinOp a .Sub b pos) (dBin oSub fa fb) := de_bin op_sub (opd_int fun _ _ _ => .int _) ha hb
def oMul : AV → AV → M RV
  | .d (.int i), .d (.int j) => if i.natAbs < big ∧ j.natAbs < big then rI' (i * j) else .stuck
  | .d (.list xs), .d (.int k) => if 0 ≤ k ∧ k ≤ 1000 ∧ xs.length * k.toNat ≤ lim then .ret (.d (.list (List.replicate k.toNat xs).flatten), true) else .stuck
  | .d (.tuple xs), .d (.int k) => if xs ≠ [] ∧ 2 ≤ k ∧ k ≤ 1000 ∧ xs.length ≤ 1000 then .ret (.d (.tuple (List.replicate k.toNat xs).flatten), false) else .stuck
  | _, _ => .stuck
abbrev RMul (K : PySem.W.Frag) : R2 := fun x y H Q => rI CMulW (fun i j => .int (i * j)) x y H Q ∨ rRep x y H Q ∨ rRepT K x y H Q
theorem opr_mul : OpR X (binaryOp .Mult) (RMul X.K) := op_mulW.or (op_rep.or op_repT)
theorem mulW_big {i j : Int} (h : i.natAbs < big ∧ j.natAbs < big) : CMulW i j := wide_mul (a := 1000) (b := 1000) h.1 h.2 (by decide) (by decide) (by decide)
theorem opd_mul {K : PySem.W.Frag} : OpD mo K (RMul K) oMul := by
  intro S g W H x y a b Q E' w sd ra rb h
  unfold oMul at h
  split at h
  · split at h
    · rename_i hl
      rw [Rp.int_inv ra, Rp.int_inv rb]
      exact .inl ⟨_, _, rfl, rfl, mulW_big hl, QE.ret h w (Rp.int _)⟩
    · exact h.elim
  · split at h
    · rename_i hl
      obtain ⟨p, vs, rfl, hp, ap⟩ := Rp.lst_inv ra
      rw [Rp.int_inv rb]
      obtain ⟨h1, h2, h3⟩ := hl
      exact .inr (.inl ⟨p, _, vs, rfl, rfl, cutS hp, by omega, by omega, lim_line (by rw [ap.length]; exact h3), fun t ht => QE.new h w sd ht (ap.rep _)⟩)
    · exact h.elim
  · split at h
    · rename_i hl
      obtain ⟨p, vs, rfl, hp, ap⟩ := Rp.tup_inv ra
      rw [Rp.int_inv rb]
      obtain ⟨h0, h1, h2, h3⟩ := hl
      exact .inr (.inr ⟨p, _, vs, rfl, rfl, Same.seqT cut_sub hp, fun z => h0 (by subst z; cases ap; rfl), h1, h2, by rw [ap.length]; exact h3, fun t ht => QE.newT h w sd ht (ap.rep _)⟩)
    · exact h.elim
  · exact h.elim
theorem de_mul (ha : DE X mo E a fa) (hb : DE X mo E b fb) : DE X mo E (.BinOp a .Mult b pos) (dBin oMul fa fb) := de_bin opr_mul opd_mul ha hb
def oDiv : AV → AV → M RV
  | .d (.int i), .d (.int j) => if 0 < j ∧ j.natAbs < big then rI' (i / j) else .stuck
  | _, _ => .stuck
theorem opd_div {K : PySem.W.Frag} : OpD mo K (rI CDivW fun i j => .int (i / j)) oDiv := by
  intro S g W H x y a b Q E' w sd ra rb h
  unfold oDiv at h
  split at h
  · split at h
    · rename_i hl
      rw [Rp.int_inv ra, Rp.int_inv rb]
      exact ⟨_, _, rfl, rfl, wide_div hl.1 (b := 1000) hl.2 (by decide) (by decide), QE.ret h w (Rp.int _)⟩
    · exact h.elim
  · exact h.elim
theorem de_div (ha : DE X mo E a fa) (hb : DE X mo E b fb) : DE X mo E (.BinOp a .FloorDiv b pos) (dBin oDiv fa fb) := de_bin op_fdivW opd_div ha hb
def oMod : AV → AV → M RV
  | .d (.int i), .d (.int j) => if 0 < j then rI' (i % j) else .stuck
  | _, _ => .stuck
theorem opd_mod {K : PySem.W.Frag} : OpD mo K (rI (fun _ j => 0 < j) fun i j => .int (i % j)) oMod := by
  intro S g W H x y a b Q E' w sd ra rb h
  unfold oMod at h
  split at h
  · split at h
    · rename_i hl
      rw [Rp.int_inv ra, Rp.int_inv rb]
      exact ⟨_, _, rfl, rfl, hl, QE.ret h w (Rp.int _)⟩
    · exact h.elim
  · exact h.elim
theorem de_mod (ha : DE X mo E a fa) (hb : DE X mo E b fb) : DE X mo E (.BinOp a .Mod b pos) (dBin oMod fa fb) := de_bin op_mod opd_mod ha hb

/-! ### comparisons -/
def oLt := oInt fun i j => .bool (decide (i < j))
def oLe := oInt fun i j => .bool (decide (i ≤ j))
def oGt := oInt fun i j => .bool (decide (j < i))
def oGe := oInt fun i j => .bool (decide (j ≤ i))
theorem opd_lt {K : PySem.W.Frag} : OpD mo K (rI0 fun i j => .bl (decide (i < j))) oLt := opd_int fun _ _ _ => .bl _
theorem opd_le {K : PySem.W.Frag} : OpD mo K (rI0 fun i j => .bl (decide (i ≤ j))) oLe := opd_int fun _ _ _ => .bl _
theorem opd_gt {K : PySem.W.Frag} : OpD mo K (rI0 fun i j => .bl (decide (j < i))) oGt := opd_int fun _ _ _ => .bl _
theorem opd_ge {K : PySem.W.Frag} : OpD mo K (rI0 fun i j => .bl (decide (j ≤ i))) oGe := opd_int fun _ _ _ => .bl _
theorem de_lt (ha : DE X mo E a fa) (hb : DE X mo E b fb) : DE X mo E (.Compare a [.Lt] [b] pos) (dBin oLt fa fb) := de_cmp op_lt opd_lt ha hb (nomark _)
theorem de_le (ha : DE X mo E a fa) (hb : DE X mo E b fb) : DE X mo E (.Compare a [.LtE] [b] pos) (dBin oLe fa fb) := de_cmp op_le opd_le ha hb (nomark _)
theorem de_gt (ha : DE X mo E a fa) (hb : DE X mo E b fb) : DE X mo E (.Compare a [.Gt] [b] pos) (dBin oGt fa fb) := de_cmp op_gt opd_gt ha hb (nomark _)
theorem de_ge (ha : DE X mo E a fa) (hb : DE X mo E b fb) : DE X mo E (.Compare a [.GtE] [b] pos) (dBin oGe fa fb) := de_cmp op_ge opd_ge ha hb (nomark _)
def oEq : AV → AV → M RV
  | .d p, .d q => if SeqAt.shaped p = true ∧ SeqAt.shaped q = true then rB (PyData.eqv p q) else .stuck
  | _, _ => .stuck
def oNe : AV → AV → M RV
  | .d p, .d q => if SeqAt.shaped p = true ∧ SeqAt.shaped q = true then rB (!PyData.eqv p q) else .stuck
  | _, _ => .stuck
theorem RepA.dp {K : PySem.W.Frag} {S : Addr → Prop} {g : Gh} {H : Hp} {v : V} {p : PyData} (h : RepA mo K S g H v (.d p)) : Dp K H v p := (Rp.mono cut_sub h).dp
theorem opd_eq {K : PySem.W.Frag} : OpD mo K (rEqD K) oEq := by
  intro S g W H x y a b Q E' w sd ra rb h
  unfold oEq at h
  split at h
  · split at h
    · rename_i hl
      exact ⟨_, _, ra.dp, rb.dp, hl.1, hl.2, QE.ret h w (Rp.bl _)⟩
    · exact h.elim
  · exact h.elim
theorem opd_ne {K : PySem.W.Frag} : OpD mo K (rNeD K) oNe := by
  intro S g W H x y a b Q E' w sd ra rb h
  unfold oNe at h
  split at h
  · split at h
    · rename_i hl
      exact ⟨_, _, ra.dp, rb.dp, hl.1, hl.2, QE.ret h w (Rp.bl _)⟩
    · exact h.elim
  · exact h.elim
theorem de_eq {k : Nat} (hr : Room k X.A) (ha : DE X mo E a fa) (hb : DE X mo E b fb) : DE X mo E (.Compare a [.Eq] [b] pos) (dBin oEq fa fb) := de_cmp (op_eqD hr.units) opd_eq ha hb (nomark _)
theorem de_ne {k : Nat} (hr : Room k X.A) (ha : DE X mo E a fa) (hb : DE X mo E b fb) : DE X mo E (.Compare a [.NotEq] [b] pos) (dBin oNe fa fb) := de_cmp (op_neD hr.units) opd_ne ha hb (nomark _)
/-- in a list (data), in a tuple of flat things, a sign in a text -/
def flatP : PyData → Bool
  | .none | .bool _ | .int _ | .str _ => true
  | _ => false
def eqP : PyData → PyData → Bool := PyData.eqv
def oIn (neg : Bool) : AV → AV → M RV
  | .d p, .d (.list qs) => if SeqAt.shaped p = true ∧ SeqAt.shaped (.list qs) = true then rB (neg != qs.any fun z => PyData.eqv z p) else .stuck
  | .d p, .d (.tuple qs) => if flatP p = true ∧ qs.all flatP = true then rB (neg != qs.any fun z => PyData.eqv z p) else .stuck
  | .d (.str x), .d (.str y) => if x.cps.size = 1 then rB (neg != decide (x.cps.getD 0 0 ∈ y.cps.toList)) else .stuck
  | _, _ => .stuck
end
end Dt

/-! The data layer, part 3: more rules for expressions. -/
namespace Dt
open PySem L2

/-! ### sorting ints -/
def ins1 (x : Int) : List Int → List Int
  | [] => [x]
  | y :: ys => if x ≤ y then x :: y :: ys else y :: ins1 x ys
def isort : List Int → List Int
  | [] => []
  | x :: xs => ins1 x (isort xs)
theorem ins1_perm (x : Int) : ∀ ys : List Int, (ins1 x ys).Perm (x :: ys)
  | [] => .refl _
  | y :: ys => by
    unfold ins1
    split
    · exact .refl _
    · exact ((ins1_perm x ys).cons y).trans (.swap x y ys)
theorem isort_perm : ∀ xs : List Int, (isort xs).Perm xs
  | [] => .refl _
  | x :: xs => (ins1_perm x (isort xs)).trans ((isort_perm xs).cons x)
theorem ins1_sorted (x : Int) : ∀ {ys : List Int}, ys.Pairwise (· ≤ ·) → (ins1 x ys).Pairwise (· ≤ ·)
  | [], _ => by simp [ins1]
  | y :: ys, h => by
    rw [List.pairwise_cons] at h
    unfold ins1
    split
    · rename_i hxy
      rw [List.pairwise_cons, List.pairwise_cons]
      refine ⟨fun z hz => ?_, h.1, h.2⟩
      rcases List.mem_cons.mp hz with rfl | hz
      · exact hxy
      · exact Int.le_trans hxy (h.1 z hz)
    · rename_i hxy
      rw [List.pairwise_cons]
      refine ⟨fun z hz => ?_, ins1_sorted x h.2⟩
      have hz' := (ins1_perm x ys).mem_iff.mp hz
      rcases List.mem_cons.mp hz' with rfl | hz'
      · omega
      · exact h.1 z hz'
theorem isort_sorted : ∀ xs : List Int, (isort xs).Pairwise (· ≤ ·)
  | [] => List.Pairwise.nil
  | x :: xs => ins1_sorted x (isort_sorted xs)
theorem sorted_uniq : ∀ {xs ys : List Int}, xs.Pairwise (· ≤ ·) → ys.Pairwise (· ≤ ·) → xs.Perm ys → xs = ys
  | [], ys, _, _, h => (List.nil_perm.mp h).symm
  | x :: xs, ys, hx, hy, h => by
    cases ys with
    | nil => exact absurd h.length_eq (by simp)
    | cons y ys =>
      rw [List.pairwise_cons] at hx hy
      have hxm : x ∈ y :: ys := h.mem_iff.mp List.mem_cons_self
      have hym : y ∈ x :: xs := h.mem_iff.mpr List.mem_cons_self
      have e : x = y := by
        rcases List.mem_cons.mp hxm with q | q
        · exact q
        · rcases List.mem_cons.mp hym with r | r
          · exact r.symm
          · have := hx.1 y r
            have := hy.1 x q
            omega
      subst e
      rw [sorted_uniq hx.2 hy.2 (List.perm_cons x |>.mp h)]
theorem isort_eq {xs ys : List Int} (h : ys.Perm xs) (hs : ys.Pairwise (· ≤ ·)) : ys = isort xs := sorted_uniq hs (isort_sorted xs) (h.trans (isort_perm xs).symm)
def maxL : List Int → Int
  | [] => 0
  | [x] => x
  | x :: y :: r => let m := maxL (y :: r); if m > x then m else x
def minL : List Int → Int
  | [] => 0
  | [x] => x
  | x :: y :: r => let m := minL (y :: r); if m < x then m else x
theorem maxL_mem : ∀ {xs : List Int}, xs ≠ [] → maxL xs ∈ xs
  | [], h => absurd rfl h
  | [x], _ => by simp [maxL]
  | x :: y :: r, _ => by
    have ih := maxL_mem (xs := y :: r) (by simp)
    simp only [maxL]
    split
    · exact List.mem_cons_of_mem _ ih
    · exact List.mem_cons_self
theorem maxL_ge : ∀ {xs : List Int} {z : Int}, z ∈ xs → z ≤ maxL xs
  | [], _, h => by cases h
  | [x], z, h => by simp at h; subst h; simp [maxL]
  | x :: y :: r, z, h => by
    simp only [maxL]
    rcases List.mem_cons.mp h with rfl | h
    · split <;> omega
    · have ih := maxL_ge h
      split <;> omega
theorem minL_mem : ∀ {xs : List Int}, xs ≠ [] → minL xs ∈ xs
  | [], h => absurd rfl h
  | [x], _ => by simp [minL]
  | x :: y :: r, _ => by
    have ih := minL_mem (xs := y :: r) (by simp)
    simp only [minL]
    split
    · exact List.mem_cons_of_mem _ ih
    · exact List.mem_cons_self
theorem minL_le : ∀ {xs : List Int} {z : Int}, z ∈ xs → minL xs ≤ z
  | [], _, h => by cases h
  | [x], z, h => by simp at h; subst h; simp [minL]
  | x :: y :: r, z, h => by
    simp only [minL]
    rcases List.mem_cons.mp h with rfl | h
    · split <;> omega
    · have ih := minL_le h
      split <;> omega
theorem maxL_uniq {xs : List Int} {m : Int} (h1 : m ∈ xs) (h2 : ∀ y ∈ xs, y ≤ m) : maxL xs = m := Int.le_antisymm (h2 _ (maxL_mem (List.ne_nil_of_mem h1))) (maxL_ge h1)
theorem minL_uniq {xs : List Int} {m : Int} (h1 : m ∈ xs) (h2 : ∀ y ∈ xs, m ≤ y) : minL xs = m := Int.le_antisymm (minL_le h1) (h2 _ (minL_mem (List.ne_nil_of_mem h1)))

section
variable {X : Cx} {mo : Mo} {E : XK} {pos : Pos} {a b c : Expr} {fa fb fc : En → M RV} {ga gb : En → M Bool}

/-! ### is -/
theorem RepR.at {K : PySem.W.Frag} {S : Addr → Prop} {g : Gh} {W : Wd} {H₀ H : Hp} {v : V} {r : RV} {a : AV} (h : RepR mo K S g W H₀ H v r) (e : r.1 = a) : RepA mo K S g H v a ∧ True := by subst e; exact ⟨h.1, trivial⟩
def nonP : PyData → Bool
  | .none => true
  | _ => false
def oIsN : AV → AV → M RV
  | .d p, .d .none => rB (nonP p)
  | .exc _, .d .none => rB false
  | .ob _, .d .none => rB false
  | _, _ => .stuck
def oNotN : AV → AV → M RV
  | .d p, .d .none => rB (!nonP p)
  | .exc _, .d .none => rB true
  | .ob _, .d .none => rB true
  | _, _ => .stuck
theorem isN_of {K : PySem.W.Frag} {H : Hp} {x : V} {p : PyData} (h : Rp K H x p) : decide (x = .non) = nonP p := by cases h <;> rfl
abbrev RIs : R2 := fun x y H Q => y = .non ∧ Q (.bl (decide (x = .non))) H
abbrev RNis : R2 := fun x y H Q => y = .non ∧ Q (.bl (!decide (x = .non))) H
theorem opd_isN {K : PySem.W.Frag} : OpD mo K RIs oIsN := by
  intro S g W H x y a b Q E' w sd ra rb h
  unfold oIsN at h
  split at h
  · rw [Rp.non_inv rb]
    refine ⟨rfl, ?_⟩
    rw [isN_of ra]
    exact QE.ret h w (Rp.bl _)
  · obtain ⟨p, rfl, _⟩ := ra
    rw [Rp.non_inv rb]
    exact ⟨rfl, QE.ret h w (Rp.bl _)⟩
  · obtain ⟨p, _, rfl⟩ := ra
    rw [Rp.non_inv rb]
    exact ⟨rfl, QE.ret h w (Rp.bl _)⟩
  · exact h.elim
theorem opd_notN {K : PySem.W.Frag} : OpD mo K RNis oNotN := by
  intro S g W H x y a b Q E' w sd ra rb h
  unfold oNotN at h
  split at h
  · rw [Rp.non_inv rb]
    refine ⟨rfl, ?_⟩
    rw [isN_of ra]
    exact QE.ret h w (Rp.bl _)
  · obtain ⟨p, rfl, _⟩ := ra
    rw [Rp.non_inv rb]
    exact ⟨rfl, QE.ret h w (Rp.bl _)⟩
  · obtain ⟨p, _, rfl⟩ := ra
    rw [Rp.non_inv rb]
    exact ⟨rfl, QE.ret h w (Rp.bl _)⟩
  · exact h.elim
theorem de_isN (ha : DE X mo E a fa) (hb : DE X mo E b fb) : DE X mo E (.Compare a [.Is] [b] pos) (dBin oIsN fa fb) := de_cmp op_isN opd_isN ha hb (nomark _)
theorem de_notN (ha : DE X mo E a fa) (hb : DE X mo E b fb) : DE X mo E (.Compare a [.IsNot] [b] pos) (dBin oNotN fa fb) := de_cmp op_notN opd_notN ha hb (nomark _)
def oIsB : AV → AV → M RV
  | .d (.bool x), .d (.bool y) => rB (decide (x = y))
  | _, _ => .stuck
def oNotB : AV → AV → M RV
  | .d (.bool x), .d (.bool y) => rB (!decide (x = y))
  | _, _ => .stuck
theorem opd_isB {K : PySem.W.Frag} : OpD mo K rIsB oIsB := by
  intro S g W H x y a b Q E' w sd ra rb h
  unfold oIsB at h
  split at h
  · rw [Rp.bl_inv ra, Rp.bl_inv rb]
    exact ⟨_, _, rfl, rfl, QE.ret h w (Rp.bl _)⟩
  · exact h.elim
theorem opd_notB {K : PySem.W.Frag} : OpD mo K rNotB oNotB := by
  intro S g W H x y a b Q E' w sd ra rb h
  unfold oNotB at h
  split at h
  · rw [Rp.bl_inv ra, Rp.bl_inv rb]
    exact ⟨_, _, rfl, rfl, QE.ret h w (Rp.bl _)⟩
  · exact h.elim
theorem de_isB (ha : DE X mo E a fa) (hb : DE X mo E b fb) : DE X mo E (.Compare a [.Is] [b] pos) (dBin oIsB fa fb) := de_cmp op_isBl opd_isB ha hb (nomark _)
theorem de_notB (ha : DE X mo E a fa) (hb : DE X mo E b fb) : DE X mo E (.Compare a [.IsNot] [b] pos) (dBin oNotB fa fb) := de_cmp op_notBl opd_notB ha hb (nomark _)

/-! ### in -/
theorem eqV_of {K : PySem.W.Frag} {H : Hp} {x y : V} {p q : PyData} (hx : Rp K H x p) (hy : Rp K H y q) (fp : flatP p = true) (fq : flatP q = true) : eqV x y = PyData.eqv p q ∧ flatV x = true ∧ flatV y = true := by
  cases hx <;> cases hy <;> first | exact ⟨rfl, rfl, rfl⟩ | (simp [flatP] at fp; done) | (simp [flatP] at fq; done)
theorem inV_of {K : PySem.W.Frag} {H : Hp} {x : V} {p : PyData} (hx : Rp K H x p) (fp : flatP p = true) : ∀ {vs : List V} {qs : List PyData}, RpAll K H vs qs → qs.all flatP = true → (inV x vs = qs.any fun z => PyData.eqv z p) ∧ vs.all flatV = true
  | _, [], h, _ => by cases h; exact ⟨rfl, rfl⟩
  | _, q :: qs, h, f => by
    cases h with
    | cons h1 h2 =>
      rw [List.all_cons, Bool.and_eq_true] at f
      obtain ⟨e1, e2⟩ := inV_of hx fp h2 f.2
      obtain ⟨k1, k2, k3⟩ := eqV_of h1 hx f.1 fp
      unfold inV at e1 ⊢
      rw [List.any_cons, List.any_cons, List.all_cons, e1, e2, k1, k2]
      exact ⟨rfl, rfl⟩
abbrev RIn (K : PySem.W.Frag) : R2 := fun x y H Q => rInD K x y H Q ∨ rIn K false x y H Q ∨ (∃ (c : Nat) (z : Str), x = .str ⟨#[c]⟩ ∧ y = .str z ∧ Q (.bl (decide (c ∈ z.cps.toList))) H)
abbrev RNin (K : PySem.W.Frag) : R2 := fun x y H Q => rNotInD K x y H Q ∨ rIn K true x y H Q ∨ (∃ (c : Nat) (z : Str), x = .str ⟨#[c]⟩ ∧ y = .str z ∧ Q (.bl (!decide (c ∈ z.cps.toList))) H)
theorem str1 {x : Str} (h : x.cps.size = 1) : x = ⟨#[x.cps.getD 0 0]⟩ := by
  obtain ⟨⟨l⟩⟩ := x
  match l, h with
  | [c], _ => rfl
theorem opd_in {K : PySem.W.Frag} : OpD mo K (RIn K) (oIn false) := by
  intro S g W H x y a b Q E' w sd ra rb h
  unfold oIn at h
  split at h
  · split at h
    · rename_i hl
      exact .inl ⟨_, _, ra.dp, rb.dp, hl.1, hl.2, QE.ret h w (by simp only [Bool.false_bne]; exact Rp.bl _)⟩
    · exact h.elim
  · split at h
    · rename_i hl
      obtain ⟨p, vs, rfl, hp, ap⟩ := Rp.tup_inv rb
      obtain ⟨e1, e2⟩ := inV_of ra hl.1 ap hl.2
      refine .inr (.inl ⟨p, vs, rfl, .inr (Same.seqT cut_sub hp), (eqV_of ra ra hl.1 hl.1).2.1, e2, ?_⟩)
      rw [if_neg Bool.false_ne_true, e1]
      exact QE.ret h w (by simp only [Bool.false_bne]; exact Rp.bl _)
    · exact h.elim
  · split at h
    · rename_i hl
      rw [Rp.str_inv ra, Rp.str_inv rb]
      exact .inr (.inr ⟨_, _, congrArg V.str (str1 hl), rfl, QE.ret h w (by simp only [Bool.false_bne]; exact Rp.bl _)⟩)
    · exact h.elim
  · exact h.elim
theorem opd_notIn {K : PySem.W.Frag} : OpD mo K (RNin K) (oIn true) := by
  intro S g W H x y a b Q E' w sd ra rb h
  unfold oIn at h
  split at h
  · split at h
    · rename_i hl
      exact .inl ⟨_, _, ra.dp, rb.dp, hl.1, hl.2, QE.ret h w (by simp only [Bool.true_bne]; exact Rp.bl _)⟩
    · exact h.elim
  · split at h
    · rename_i hl
      obtain ⟨p, vs, rfl, hp, ap⟩ := Rp.tup_inv rb
      obtain ⟨e1, e2⟩ := inV_of ra hl.1 ap hl.2
      refine .inr (.inl ⟨p, vs, rfl, .inr (Same.seqT cut_sub hp), (eqV_of ra ra hl.1 hl.1).2.1, e2, ?_⟩)
      rw [if_pos rfl, e1]
      exact QE.ret h w (by simp only [Bool.true_bne]; exact Rp.bl _)
    · exact h.elim
  · split at h
    · rename_i hl
      rw [Rp.str_inv ra, Rp.str_inv rb]
      exact .inr (.inr ⟨_, _, congrArg V.str (str1 hl), rfl, QE.ret h w (by simp only [Bool.true_bne]; exact Rp.bl _)⟩)
    · exact h.elim
  · exact h.elim
theorem room65 {k : Nat} {A : Around} (r : Room (k + 1) A) : A.units + 65 < cLine := by have := r.un; omega
theorem de_in {k : Nat} (hr : Room (k + 1) X.A) (ha : DE X mo E a fa) (hb : DE X mo E b fb) (hm : behindInMarks .In b = false := by rfl) : DE X mo E (.Compare a [.In] [b] pos) (dBin (oIn false) fa fb) :=
  de_cmp ((op_inD (room65 hr)).or (op_in_seq.or op_in_sign)) opd_in ha hb hm
theorem de_notIn {k : Nat} (hr : Room (k + 1) X.A) (ha : DE X mo E a fa) (hb : DE X mo E b fb) (hm : behindInMarks .NotIn b = false := by rfl) : DE X mo E (.Compare a [.NotIn] [b] pos) (dBin (oIn true) fa fb) :=
  de_cmp ((op_notInD (room65 hr)).or (op_notIn_seq.or op_notIn_sign)) opd_notIn ha hb hm

/-! ### a <= b <= c -/
def dChain (f f' : AV → AV → M RV) (fa fb fc : En → M RV) : En → M RV := fun en => (fa en).bind fun x => (fb en).bind fun y => (f x.1 y.1).bind fun z => match z.1 with
  | .d (.bool true) => (fc en).bind fun u => f' y.1 u.1
  | .d (.bool false) => rB false
  | _ => .stuck
theorem de_chain {op op' : CmpOp} {r r' : R2} {f f' : AV → AV → M RV} (ho : OpR X (compareOp op) r) (hd : OpD mo X.K r f) (ho' : OpR X (compareOp op') r') (hd' : OpD mo X.K r' f') (ha : DE X mo E a fa) (hb : DE X mo E b fb) (hc : DE X mo E c fc)
    (hm : lastMarks [op, op'] [b, c] = false := by with_unfolding_all rfl) : DE X mo E (.Compare a [op, op'] [b, c] pos) (dChain f f' fa fb fc) := by
  obtain ⟨ta, pa, wa⟩ := ha
  obtain ⟨tb, pb, wb⟩ := hb
  obtain ⟨tc, pc, wc⟩ := hc
  refine ⟨tChain r r' ta tb tc, pe_chain ho ho' pa pb pc hm, fun S g W σ H en Q hR h => ?_⟩
  unfold dChain at h
  rw [wp_bind] at h
  refine wa S g W σ H en _ hR (wp_mono h (fun r1 W1 q g1 v1 H1 s1 w1 rr1 => ?_) fun _ _ q => q)
  rw [wp_bind] at q
  refine wb S g1 W1 σ H1 en _ (hR.step s1 w1) (wp_mono q (fun r2 W2 q2 g2 v2 H2 s2 w2 rr2 => ?_) fun _ _ q => q.step s1)
  rw [wp_bind] at q2
  have sd2 : ∀ a, S a → H2 a ≠ none := fun a s => s2.dom a (s1.dom a (hR.sd a s))
  refine hd S g2 W2 H2 v1 v2 r1.1 r2.1 _ (EE mo X.K S g H E) w2 sd2 (rr1.1.step s2) rr2.1 (wp_mono q2 (fun r3 W3 q3 g3 v3 H3 s3 w3 rr3 => ?_) fun _ _ q => q)
  try dsimp only at q3
  split at q3
  · rename_i e3
    replace rr3 := RepR.at rr3 e3
    refine ⟨true, Rp.bl_inv rr3.1, ?_⟩
    rw [if_pos rfl]
    rw [wp_bind] at q3
    refine wc S g3 W3 σ H3 en _ (hR.step ((s1.trans s2).trans s3) w3) (wp_mono q3 (fun r4 W4 q4 g4 v4 H4 s4 w4 rr4 => ?_) fun _ _ q => q.step ((s1.trans s2).trans s3))
    exact hd' S g4 W4 H4 v2 v4 r2.1 r4.1 Q _ w4 (fun a s => s4.dom a (s3.dom a (sd2 a s))) (rr2.1.step (s3.trans s4)) rr4.1 (wp_mono q4 (fun _ _ q => q.step (((s1.trans s2).trans s3).trans s4)) fun _ _ q => q)
  · rename_i e3
    replace rr3 := RepR.at rr3 e3
    refine ⟨false, Rp.bl_inv rr3.1, ?_⟩
    rw [if_neg Bool.false_ne_true]
    exact QE.ret (QE.step ((s1.trans s2).trans s3) q3) w3 (Rp.bl _)
  · exact q3.elim
theorem de_lele (ha : DE X mo E a fa) (hb : DE X mo E b fb) (hc : DE X mo E c fc) (hm : lastMarks [.LtE, .LtE] [b, c] = false := by with_unfolding_all rfl) : DE X mo E (.Compare a [.LtE, .LtE] [b, c] pos) (dChain oLe oLe fa fb fc) :=
  de_chain op_le opd_le op_le opd_le ha hb hc hm

/-! ### bools: as values, as tests -/
def asB (r : RV) : M Bool := match r.1 with
  | .d (.bool b) => .ret b
  | _ => .stuck
def dTest (fa : En → M RV) : En → M Bool := fun en => (fa en).bind asB
theorem tst_run {ta : TE} (wa : ∀ (S : Addr → Prop) (g : Gh) (W : Wd) (σ : St) (H : Hp) (en : En) (Q : VK), RepE mo X.K S g W σ H en → wp (fa en) W (QE mo X.K S g H Q) (EE mo X.K S g H E) → ta σ H Q)
    (S : Addr → Prop) (g : Gh) (W : Wd) (σ : St) (H : Hp) (en : En) (Q : Bool → Hp → Prop) (hR : RepE mo X.K S g W σ H en) (h : wp (dTest fa en) W (QT mo X.K S g H Q) (EE mo X.K S g H E)) : ta σ H fun x H1 => ∃ c, x = .bl c ∧ Q c H1 := by
  unfold dTest at h
  rw [wp_bind] at h
  refine wa S g W σ H en _ hR (wp_mono h (fun r1 W1 q g1 v1 H1 s1 w1 rr1 => ?_) fun _ _ q => q)
  unfold asB at q
  split at q
  · rename_i b e
    replace rr1 := RepR.at rr1 e
    exact ⟨b, Rp.bl_inv rr1.1, q g1 H1 s1 w1⟩
  · exact q.elim
/-- an expression that gives a bool, as a test -/
theorem dt_val (ha : DE X mo E a fa) (he : ∀ whole, isTrue a X.env whole = (do let v ← whole; standAt a.pos; holding [v] (truthy v)) := by intro _; rfl) : DT X mo E a (dTest fa) := by
  obtain ⟨ta, pa, wa⟩ := ha
  exact ⟨tB ta, pt_val pa he, tst_run wa⟩
theorem dt_cmp {op : CmpOp} {r : R2} {f : AV → AV → M RV} (ho : OpR X (compareOp op) r) (hd : OpD mo X.K r f) (ha : DE X mo E a fa) (hb : DE X mo E b fb) (hm : behindInMarks op b = false) : DT X mo E (.Compare a [op] [b] pos) (dTest (dBin f fa fb)) := by
  obtain ⟨ta, pa, wa⟩ := ha
  obtain ⟨tb, pb, wb⟩ := hb
  exact ⟨tTest (tOp r ta tb), pt_cmpR ho pa pb hm, tst_run (op_run hd wa wb)⟩
theorem dt_lt (ha : DE X mo E a fa) (hb : DE X mo E b fb) : DT X mo E (.Compare a [.Lt] [b] pos) (dTest (dBin oLt fa fb)) := dt_cmp op_lt opd_lt ha hb (nomark _)
theorem dt_le (ha : DE X mo E a fa) (hb : DE X mo E b fb) : DT X mo E (.Compare a [.LtE] [b] pos) (dTest (dBin oLe fa fb)) := dt_cmp op_le opd_le ha hb (nomark _)
theorem dt_gt (ha : DE X mo E a fa) (hb : DE X mo E b fb) : DT X mo E (.Compare a [.Gt] [b] pos) (dTest (dBin oGt fa fb)) := dt_cmp op_gt opd_gt ha hb (nomark _)
theorem dt_ge (ha : DE X mo E a fa) (hb : DE X mo E b fb) : DT X mo E (.Compare a [.GtE] [b] pos) (dTest (dBin oGe fa fb)) := dt_cmp op_ge opd_ge ha hb (nomark _)
theorem dt_eq {k : Nat} (hr : Room k X.A) (ha : DE X mo E a fa) (hb : DE X mo E b fb) : DT X mo E (.Compare a [.Eq] [b] pos) (dTest (dBin oEq fa fb)) := dt_cmp (op_eqD hr.units) opd_eq ha hb (nomark _)
theorem dt_ne {k : Nat} (hr : Room k X.A) (ha : DE X mo E a fa) (hb : DE X mo E b fb) : DT X mo E (.Compare a [.NotEq] [b] pos) (dTest (dBin oNe fa fb)) := dt_cmp (op_neD hr.units) opd_ne ha hb (nomark _)
theorem dt_isN (ha : DE X mo E a fa) (hb : DE X mo E b fb) : DT X mo E (.Compare a [.Is] [b] pos) (dTest (dBin oIsN fa fb)) := dt_cmp op_isN opd_isN ha hb (nomark _)
theorem dt_notN (ha : DE X mo E a fa) (hb : DE X mo E b fb) : DT X mo E (.Compare a [.IsNot] [b] pos) (dTest (dBin oNotN fa fb)) := dt_cmp op_notN opd_notN ha hb (nomark _)
theorem dt_isB (ha : DE X mo E a fa) (hb : DE X mo E b fb) : DT X mo E (.Compare a [.Is] [b] pos) (dTest (dBin oIsB fa fb)) := dt_cmp op_isBl opd_isB ha hb (nomark _)
theorem dt_notB (ha : DE X mo E a fa) (hb : DE X mo E b fb) : DT X mo E (.Compare a [.IsNot] [b] pos) (dTest (dBin oNotB fa fb)) := dt_cmp op_notBl opd_notB ha hb (nomark _)
theorem dt_in {k : Nat} (hr : Room (k + 1) X.A) (ha : DE X mo E a fa) (hb : DE X mo E b fb) (hm : behindInMarks .In b = false := by rfl) : DT X mo E (.Compare a [.In] [b] pos) (dTest (dBin (oIn false) fa fb)) :=
  dt_cmp ((op_inD (room65 hr)).or (op_in_seq.or op_in_sign)) opd_in ha hb hm
theorem dt_notIn {k : Nat} (hr : Room (k + 1) X.A) (ha : DE X mo E a fa) (hb : DE X mo E b fb) (hm : behindInMarks .NotIn b = false := by rfl) : DT X mo E (.Compare a [.NotIn] [b] pos) (dTest (dBin (oIn true) fa fb)) :=
  dt_cmp ((op_notInD (room65 hr)).or (op_notIn_seq.or op_notIn_sign)) opd_notIn ha hb hm
theorem dt_lele (ha : DE X mo E a fa) (hb : DE X mo E b fb) (hc : DE X mo E c fc) (hm : lastMarks [.LtE, .LtE] [b, c] = false := by with_unfolding_all rfl) : DT X mo E (.Compare a [.LtE, .LtE] [b, c] pos) (dTest (dChain oLe oLe fa fb fc)) := by
  obtain ⟨ta, pa, wa⟩ := ha
  obtain ⟨tb, pb, wb⟩ := hb
  obtain ⟨tc, pc, wc⟩ := hc
  have hE : DE X mo E (.Compare a [.LtE, .LtE] [b, c] pos) (dChain oLe oLe fa fb fc) := de_lele ⟨ta, pa, wa⟩ ⟨tb, pb, wb⟩ ⟨tc, pc, wc⟩ hm
  refine ⟨_, pt_chain op_le op_le pa pb pc hm, fun S g W σ H en Q hR h => ?_⟩
  unfold dTest dChain at h
  rw [wp_bind, wp_bind] at h
  refine wa S g W σ H en _ hR (wp_mono h (fun r1 W1 q g1 v1 H1 s1 w1 rr1 => ?_) fun _ _ q => q)
  rw [wp_bind] at q
  refine wb S g1 W1 σ H1 en _ (hR.step s1 w1) (wp_mono q (fun r2 W2 q2 g2 v2 H2 s2 w2 rr2 => ?_) fun _ _ q => q.step s1)
  rw [wp_bind] at q2
  have sd2 : ∀ a, S a → H2 a ≠ none := fun a s => s2.dom a (s1.dom a (hR.sd a s))
  refine opd_le S g2 W2 H2 v1 v2 r1.1 r2.1 _ (EE mo X.K S g H E) w2 sd2 (rr1.1.step s2) rr2.1 (wp_mono q2 (fun r3 W3 q3 g3 v3 H3 s3 w3 rr3 => ?_) fun _ _ q => q)
  try dsimp only at q3
  split at q3
  · rename_i e3
    replace rr3 := RepR.at rr3 e3
    refine ⟨true, Rp.bl_inv rr3.1, ?_⟩
    rw [if_pos rfl]
    rw [wp_bind] at q3
    refine wc S g3 W3 σ H3 en _ (hR.step ((s1.trans s2).trans s3) w3) (wp_mono q3 (fun r4 W4 q4 g4 v4 H4 s4 w4 rr4 => ?_) fun _ _ q => q.step ((s1.trans s2).trans s3))
    refine opd_le S g4 W4 H4 v2 v4 r2.1 r4.1 _ _ w4 (fun a s => s4.dom a (s3.dom a (sd2 a s))) (rr2.1.step (s3.trans s4)) rr4.1 (wp_mono q4 (fun r5 W5 q5 g5 v5 H5 s5 w5 rr5 => ?_) fun _ _ q => q)
    unfold asB at q5
    split at q5
    · rename_i b e
      replace rr5 := RepR.at rr5 e
      exact ⟨b, Rp.bl_inv rr5.1, q5 g5 H5 ((((s1.trans s2).trans s3).trans s4).trans s5) w5⟩
    · exact q5.elim
  · rename_i e3
    replace rr3 := RepR.at rr3 e3
    refine ⟨false, Rp.bl_inv rr3.1, ?_⟩
    rw [if_neg Bool.false_ne_true]
    exact ⟨false, rfl, q3 g3 H3 ((s1.trans s2).trans s3) w3⟩
  · exact q3.elim
def dAnd (ga gb : En → M Bool) : En → M Bool := fun en => (ga en).bind fun b => if b = true then gb en else .ret false
def dOr (ga gb : En → M Bool) : En → M Bool := fun en => (ga en).bind fun b => if b = true then .ret true else gb en
def dNot (ga : En → M Bool) : En → M Bool := fun en => (ga en).bind fun b => .ret (!b)
/-- and, or: chains of tests -/
def DW (X : Cx) (mo : Mo) (E : XK) (e : Expr) (f : En → M Bool) : Prop :=
  ∃ t : TT, PW X e t ∧ ∀ (S : Addr → Prop) (g : Gh) (W : Wd) (σ : St) (H : Hp) (en : En) (Q : Bool → Hp → Prop), RepE mo X.K S g W σ H en → wp (f en) W (QT mo X.K S g H Q) (EE mo X.K S g H E) → t σ H Q
theorem DW.dt (h : DW X mo E a ga) : DT X mo E a ga := let ⟨t, p, w⟩ := h; ⟨t, p.pt, w⟩
variable {rest : List Expr}
theorem dw_and1 (ha : DT X mo E a ga) : DW X mo E (.BoolOp .And [a] pos) ga := let ⟨t, p, w⟩ := ha; ⟨t, pw_and1 p, w⟩
theorem dw_or1 (ha : DT X mo E a ga) : DW X mo E (.BoolOp .Or [a] pos) ga := let ⟨t, p, w⟩ := ha; ⟨t, pw_or1 p, w⟩
theorem dw_and (ha : DT X mo E a ga) (hb : DW X mo E (.BoolOp .And (b :: rest) pos) gb) : DW X mo E (.BoolOp .And (a :: b :: rest) pos) (dAnd ga gb) := by
  obtain ⟨ta, pa, wa⟩ := ha
  obtain ⟨tb, pb, wb⟩ := hb
  refine ⟨tAnd ta tb, pw_and pa pb, fun S g W σ H en Q hR h => ?_⟩
  unfold dAnd at h
  rw [wp_bind] at h
  refine wa S g W σ H en _ hR (wp_mono h (fun b1 W1 q g1 H1 s1 w1 => ?_) fun _ _ q => q)
  cases b1 with
  | true =>
    rw [if_pos rfl] at q ⊢
    exact wb S g1 W1 σ H1 en _ (hR.step s1 w1) (wp_mono q (fun _ _ q => q.step s1) fun _ _ q => q.step s1)
  | false =>
    rw [if_neg Bool.false_ne_true] at q ⊢
    exact q g1 H1 s1 w1
theorem dw_or (ha : DT X mo E a ga) (hb : DW X mo E (.BoolOp .Or (b :: rest) pos) gb) : DW X mo E (.BoolOp .Or (a :: b :: rest) pos) (dOr ga gb) := by
  obtain ⟨ta, pa, wa⟩ := ha
  obtain ⟨tb, pb, wb⟩ := hb
  refine ⟨tOr ta tb, pw_or pa pb, fun S g W σ H en Q hR h => ?_⟩
  unfold dOr at h
  rw [wp_bind] at h
  refine wa S g W σ H en _ hR (wp_mono h (fun b1 W1 q g1 H1 s1 w1 => ?_) fun _ _ q => q)
  cases b1 with
  | true =>
    rw [if_pos rfl] at q ⊢
    exact q g1 H1 s1 w1
  | false =>
    rw [if_neg Bool.false_ne_true] at q ⊢
    exact wb S g1 W1 σ H1 en _ (hR.step s1 w1) (wp_mono q (fun _ _ q => q.step s1) fun _ _ q => q.step s1)
theorem dt_not (ha : DT X mo E a ga) : DT X mo E (.UnaryOp .Not a pos) (dNot ga) := by
  obtain ⟨ta, pa, wa⟩ := ha
  refine ⟨tNot ta, pt_not pa, fun S g W σ H en Q hR h => ?_⟩
  unfold dNot at h
  rw [wp_bind] at h
  exact wa S g W σ H en _ hR (wp_mono h (fun b1 W1 q g1 H1 s1 w1 => q g1 H1 s1 w1) fun _ _ q => q)
def dAndV (fa fb : En → M RV) : En → M RV := fun en => (fa en).bind fun r => (asB r).bind fun b => if b = true then fb en else rB false
def dOrV (fa fb : En → M RV) : En → M RV := fun en => (fa en).bind fun r => (asB r).bind fun b => if b = true then rB true else fb en
def dNotV (fa : En → M RV) : En → M RV := fun en => (fa en).bind fun r => (asB r).bind fun b => rB (!b)
theorem de_one {op : BoolOp} (ha : DE X mo E a fa) : DE X mo E (.BoolOp op [a] pos) fa := let ⟨t, p, w⟩ := ha; ⟨t, pe_one p, w⟩
theorem de_and (ha : DE X mo E a fa) (hb : DE X mo E (.BoolOp .And (b :: rest) pos) fb) : DE X mo E (.BoolOp .And (a :: b :: rest) pos) (dAndV fa fb) := by
  obtain ⟨ta, pa, wa⟩ := ha
  obtain ⟨tb, pb, wb⟩ := hb
  refine ⟨tAndV ta tb, pe_and pa pb, fun S g W σ H en Q hR h => ?_⟩
  unfold dAndV at h
  rw [wp_bind] at h
  refine wa S g W σ H en _ hR (wp_mono h (fun r1 W1 q g1 v1 H1 s1 w1 rr1 => ?_) fun _ _ q => q)
  unfold asB at q
  split at q
  · rename_i b e
    replace rr1 := RepR.at rr1 e
    refine ⟨b, Rp.bl_inv rr1.1, ?_⟩
    rw [ret_bind] at q
    cases b with
    | true =>
      rw [if_pos rfl] at q ⊢
      exact wb S g1 W1 σ H1 en _ (hR.step s1 w1) (wp_mono q (fun _ _ q => q.step s1) fun _ _ q => q.step s1)
    | false =>
      rw [if_neg Bool.false_ne_true] at q ⊢
      exact QE.ret (QE.step s1 q) w1 (Rp.bl _)
  · exact q.elim
theorem de_or (ha : DE X mo E a fa) (hb : DE X mo E (.BoolOp .Or (b :: rest) pos) fb) : DE X mo E (.BoolOp .Or (a :: b :: rest) pos) (dOrV fa fb) := by
  obtain ⟨ta, pa, wa⟩ := ha
  obtain ⟨tb, pb, wb⟩ := hb
  refine ⟨tOrV ta tb, pe_or pa pb, fun S g W σ H en Q hR h => ?_⟩
  unfold dOrV at h
  rw [wp_bind] at h
  refine wa S g W σ H en _ hR (wp_mono h (fun r1 W1 q g1 v1 H1 s1 w1 rr1 => ?_) fun _ _ q => q)
  unfold asB at q
  split at q
  · rename_i b e
    replace rr1 := RepR.at rr1 e
    refine ⟨b, Rp.bl_inv rr1.1, ?_⟩
    rw [ret_bind] at q
    cases b with
    | true =>
      rw [if_pos rfl] at q ⊢
      exact QE.ret (QE.step s1 q) w1 (Rp.bl _)
    | false =>
      rw [if_neg Bool.false_ne_true] at q ⊢
      exact wb S g1 W1 σ H1 en _ (hR.step s1 w1) (wp_mono q (fun _ _ q => q.step s1) fun _ _ q => q.step s1)
  · exact q.elim
theorem de_not (ha : DE X mo E a fa) : DE X mo E (.UnaryOp .Not a pos) (dNotV fa) := by
  obtain ⟨ta, pa, wa⟩ := ha
  refine ⟨tNotV ta, pe_not pa, fun S g W σ H en Q hR h => ?_⟩
  unfold dNotV at h
  rw [wp_bind] at h
  refine wa S g W σ H en _ hR (wp_mono h (fun r1 W1 q g1 v1 H1 s1 w1 rr1 => ?_) fun _ _ q => q)
  unfold asB at q
  split at q
  · rename_i b e
    replace rr1 := RepR.at rr1 e
    exact ⟨b, Rp.bl_inv rr1.1, QE.ret (QE.step s1 q) w1 (Rp.bl _)⟩
  · exact q.elim
def dNeg (fa : En → M RV) : En → M RV := fun en => (fa en).bind fun r => match r.1 with
  | .d (.int i) => rI' (-i)
  | _ => .stuck
theorem de_neg (ha : DE X mo E a fa) : DE X mo E (.UnaryOp .USub a pos) (dNeg fa) := by
  obtain ⟨ta, pa, wa⟩ := ha
  refine ⟨_, pe_un un_neg pa, fun S g W σ H en Q hR h => ?_⟩
  unfold dNeg at h
  rw [wp_bind] at h
  refine wa S g W σ H en _ hR (wp_mono h (fun r1 W1 q g1 v1 H1 s1 w1 rr1 => ?_) fun _ _ q => q)
  try dsimp only at q
  split at q
  · rename_i i e
    replace rr1 := RepR.at rr1 e
    exact ⟨i, Rp.int_inv rr1.1, QE.ret (QE.step s1 q) w1 (Rp.int _)⟩
  · exact q.elim
def dIf (ga : En → M Bool) (fa fb : En → M RV) : En → M RV := fun en => (ga en).bind fun b => if b = true then fa en else fb en
theorem de_if (hc : DT X mo E c ga) (ha : DE X mo E a fa) (hb : DE X mo E b fb) : DE X mo E (.IfExp c a b pos) (dIf ga fa fb) := by
  obtain ⟨tc, pc, wc⟩ := hc
  obtain ⟨ta, pa, wa⟩ := ha
  obtain ⟨tb, pb, wb⟩ := hb
  refine ⟨tIf tc ta tb, pe_ifExp pc pa pb, fun S g W σ H en Q hR h => ?_⟩
  unfold dIf at h
  rw [wp_bind] at h
  refine wc S g W σ H en _ hR (wp_mono h (fun b1 W1 q g1 H1 s1 w1 => ?_) fun _ _ q => q)
  cases b1 with
  | true =>
    rw [if_pos rfl] at q ⊢
    exact wa S g1 W1 σ H1 en _ (hR.step s1 w1) (wp_mono q (fun _ _ q => q.step s1) fun _ _ q => q.step s1)
  | false =>
    rw [if_neg Bool.false_ne_true] at q ⊢
    exact wb S g1 W1 σ H1 en _ (hR.step s1 w1) (wp_mono q (fun _ _ q => q.step s1) fun _ _ q => q.step s1)
end
end Dt

/-! The data layer, part 4: arguments, calls, displays, items, slices. -/
namespace Dt
open PySem L2
section
variable {X : Cx} {mo : Mo} {E : XK} {pos p : Pos} {a b c e : Expr} {es : List Expr} {fa fb fc : En → M RV} {fs : En → M (List AV)}

/-! ### arguments -/
def aNil : En → M (List AV) := fun _ => .ret []
def aCons (fa : En → M RV) (fs : En → M (List AV)) : En → M (List AV) := fun en => (fa en).bind fun r => (fs en).bind fun as => .ret (r.1 :: as)
theorem da_nil : DA X mo E [] aNil := ⟨tNil, pa_nil, fun S g W σ H en Q hR h => h g [] H (.refl g H) hR.wok .nil rfl⟩
theorem da_cons (ha : DE X mo E a fa) (hs : DA X mo E es fs) (hst : starEach (a :: es) X.env = (false, eval a X.env) :: starEach es X.env := by rfl) : DA X mo E (a :: es) (aCons fa fs) := by
  obtain ⟨ta, pa, wa⟩ := ha
  obtain ⟨ts, ps, ws⟩ := hs
  refine ⟨tCons ta ts, pa_cons pa ps hst, fun S g W σ H en Q hR h => ?_⟩
  unfold aCons at h
  rw [wp_bind] at h
  refine wa S g W σ H en _ hR (wp_mono h (fun r1 W1 q g1 v1 H1 s1 w1 rr1 => ?_) fun _ _ q => q)
  rw [wp_bind] at q
  refine ws S g1 W1 σ H1 en _ (hR.step s1 w1) (wp_mono q (fun as W2 q2 g2 vs H2 s2 w2 rr2 hl => ?_) fun _ _ q => q.step s1)
  exact q2 g2 (v1 :: vs) H2 (s1.trans s2) w2 (.cons (rr1.1.step s2) rr2) (by simp [hl])

/-! ### calls of defs -/
/-- the promise «computes F» -/
def spD (mo : Mo) (K : PySem.W.Frag) (F : List AV → M RV) : Sp := fun vs H Q E => ∃ (S : Addr → Prop) (g : Gh) (W : Wd) (as : List AV), RepAs mo K S g H vs as ∧ WOk mo K S g W H ∧ (∀ a, S a → H a ≠ none) ∧ wp (F as) W (QE mo K S g H Q) (EE mo K S g H E)
structure FnD (P : Program) (w : World) (K : PySem.W.Frag) (mg : Str → Option Value) (base : Heap) (mo : Mo) (x : Str) (k : Nat) (F : List AV → M RV) : Prop where
  ex : ∃ (f : Addr) (fd : FuncData) (ps : List Str), FnOk P w K mg base (L2.CX P w) k f fd ps (spD mo K F) ∧ mg x = some (.ref f) ∧ PySem.W.keepIn K (.ref f) = true ∧ Binds K fd ps []
theorem FnD.mono {P : Program} {w : World} {K : PySem.W.Frag} {mg : Str → Option Value} {base : Heap} {x : Str} {j k : Nat} {F : List AV → M RV} (h : FnD P w K mg base mo x j F) (hk : j ≤ k) : FnD P w K mg base mo x k F :=
  let ⟨f, fd, ps, F, r⟩ := h.ex; ⟨f, fd, ps, F.mono hk, r⟩
def dCall (F : List AV → M RV) (fs : En → M (List AV)) : En → M RV := fun en => (fs en).bind F
theorem de_call {x : Str} {k : Nat} {F : List AV → M RV} (h : FnD X.prog X.w X.K X.mg X.base mo x k F) (hr : Room k X.A) (hx : Passes (L2.CX X.prog X.w) X E) (hs : DA X mo E (e :: es) fs) (hg : Gl X x := by rfl)
    (hdb : (x == ("__debug__" : Str)) = false := by decide) (he : starEach (e :: es) X.env = (false, eval e X.env) :: starEach es X.env := by rfl) (hpl : (backTo pos (starEach es X.env)).any (·.1) = false := by rfl) :
    DE X mo E (.Call (.Name x p) (e :: es) [] pos) (dCall F fs) := by
  obtain ⟨f, fd, ps, F', hm, hk, hb⟩ := h.ex
  obtain ⟨ts, pss, ws⟩ := hs
  refine ⟨_, pe_call F' hr hg hm hk hb .nil hx pss hdb he hpl, fun S g W σ H en Q hR hw => ?_⟩
  unfold dCall at hw
  rw [wp_bind] at hw
  refine ws S g W σ H en _ hR (wp_mono hw (fun as W1 q g1 vs H1 s1 w1 rr1 hl => ?_) fun _ _ q => q)
  show spD mo X.K F (vs ++ []) H1 Q E
  rw [List.append_nil]
  exact ⟨S, g1, W1, as, rr1, w1, fun a s => s1.dom a (hR.sd a s), wp_mono q (fun _ _ q => q.step s1) fun _ _ q => q.step s1⟩
theorem de_call0 {x : Str} {k : Nat} {F : List AV → M RV} (h : FnD X.prog X.w X.K X.mg X.base mo x k F) (hr : Room k X.A) (hx : Passes (L2.CX X.prog X.w) X E) (hg : Gl X x := by rfl)
    (hdb : (x == ("__debug__" : Str)) = false := by decide) : DE X mo E (.Call (.Name x p) [] [] pos) (dCall F aNil) := by
  obtain ⟨f, fd, ps, F', hm, hk, hb⟩ := h.ex
  refine ⟨_, pe_call0 F' hr hg hm hk hb .nil hx hdb, fun S g W σ H en Q hR hw => ?_⟩
  exact ⟨S, g, W, [], .nil, hR.wok, hR.sd, hw⟩

/-! ### calls of built-ins, by values -/
def CallD (mo : Mo) (K : PySem.W.Frag) (n : Nat) (r : List V → Hp → VK → Prop) (f : List AV → M RV) : Prop :=
  ∀ (S : Addr → Prop) (g : Gh) (W : Wd) (H : Hp) (vs : List V) (as : List AV) (Q : VK) (E' : Err → Wd → Prop), WOk mo K S g W H → (∀ a, S a → H a ≠ none) → RepAs mo K S g H vs as → vs.length = n → wp (f as) W (QE mo K S g H Q) E' → r vs H Q
theorem cb_run {r : List V → Hp → VK → Prop} {f : List AV → M RV} {ts : TA} {n : Nat} (hd : CallD mo X.K n r f)
    (ws : ∀ (S : Addr → Prop) (g : Gh) (W : Wd) (σ : St) (H : Hp) (en : En) (Q : List V → Hp → Prop), RepE mo X.K S g W σ H en → wp (fs en) W (QA mo X.K n S g H Q) (EE mo X.K S g H E) → ts σ H Q)
    (S : Addr → Prop) (g : Gh) (W : Wd) (σ : St) (H : Hp) (en : En) (Q : VK) (hR : RepE mo X.K S g W σ H en) (hw : wp (dCall f fs en) W (QE mo X.K S g H Q) (EE mo X.K S g H E)) : tCB r ts σ H Q := by
  unfold dCall at hw
  rw [wp_bind] at hw
  refine ws S g W σ H en _ hR (wp_mono hw (fun as W1 q g1 vs H1 s1 w1 rr1 hl => ?_) fun _ _ q => q)
  exact hd S g1 W1 H1 vs as Q _ w1 (fun a s => s1.dom a (hR.sd a s)) rr1 hl (wp_mono q (fun _ _ q => q.step s1) fun _ _ q => q)
theorem de_callB {x : Str} {id : String} {r : List V → Hp → VK → Prop} {f : List AV → M RV} (hc : CallR X (.builtin id) r) (hd : CallD mo X.K (e :: es).length r f) (hm : X.mg x = none) (hv : bootBuiltins x = some (.builtin id)) (hs : DA X mo E (e :: es) fs) (hg : Gl X x := by rfl)
    (hn : x ≠ "__name__" := by decide) (hdb : (x == ("__debug__" : Str)) = false := by decide) (he : starEach (e :: es) X.env = (false, eval e X.env) :: starEach es X.env := by rfl) (hpl : (backTo pos (starEach es X.env)).any (·.1) = false := by rfl) :
    DE X mo E (.Call (.Name x p) (e :: es) [] pos) (dCall f fs) := by
  obtain ⟨ts, pss, ws⟩ := hs
  exact ⟨tCB r ts, pe_callB hc hg hm hv pss hn hdb he hpl, cb_run hd ws⟩
theorem de_callTy {x : Str} {T : String} {r : List V → Hp → VK → Prop} {f : List AV → M RV} (hc : CallR X (.type T) r) (hd : CallD mo X.K (e :: es).length r f) (hm : X.mg x = none) (hv : bootBuiltins x = some (.type T)) (hs : DA X mo E (e :: es) fs) (hg : Gl X x := by rfl)
    (hn : x ≠ "__name__" := by decide) (hdb : (x == ("__debug__" : Str)) = false := by decide) (he : starEach (e :: es) X.env = (false, eval e X.env) :: starEach es X.env := by rfl) (hpl : (backTo pos (starEach es X.env)).any (·.1) = false := by rfl) :
    DE X mo E (.Call (.Name x p) (e :: es) [] pos) (dCall f fs) := by
  obtain ⟨ts, pss, ws⟩ := hs
  exact ⟨tCB r ts, pe_callTy hc hg hm hv pss hn hdb he hpl, cb_run hd ws⟩
theorem reps1 {K : PySem.W.Frag} {S : Addr → Prop} {g : Gh} {H : Hp} {vs : List V} {a : AV} (h : RepAs mo K S g H vs [a]) : ∃ v, vs = [v] ∧ RepA mo K S g H v a := by
  cases h with | cons h1 h2 => cases h2; exact ⟨_, rfl, h1⟩
theorem reps2 {K : PySem.W.Frag} {S : Addr → Prop} {g : Gh} {H : Hp} {vs : List V} {a b : AV} (h : RepAs mo K S g H vs [a, b]) : ∃ v u, vs = [v, u] ∧ RepA mo K S g H v a ∧ RepA mo K S g H u b := by
  cases h with | cons h1 h2 => cases h2 with | cons h2 h3 => cases h3; exact ⟨_, _, rfl, h1, h2⟩
def bLen : List AV → M RV
  | [.d (.list xs)] => rI' xs.length
  | [.d (.tuple xs)] => rI' xs.length
  | [.d (.str x)] => if x.length ≤ lim then rI' x.length else .stuck
  | _ => .stuck
theorem cd_len {K : PySem.W.Frag} {n : Nat} : CallD mo K n (fun xs H Q => ∃ x n, xs = [x] ∧ LenV K x H n ∧ Q (.int n) H) bLen := by
  intro S g W H vs as Q E' w sd rs hl h
  unfold bLen at h
  split at h
  · obtain ⟨v, rfl, r⟩ := reps1 rs
    obtain ⟨p, us, rfl, hp, ap⟩ := Rp.lst_inv r
    exact ⟨_, us.length, rfl, .inl ⟨us, SqL.of (cutS hp), rfl⟩, by rw [ap.length]; exact QE.ret h w (Rp.int _)⟩
  · obtain ⟨v, rfl, r⟩ := reps1 rs
    obtain ⟨p, us, rfl, hp, ap⟩ := Rp.tup_inv r
    exact ⟨_, us.length, rfl, .inr ⟨us, Same.seqT cut_sub hp, rfl⟩, by rw [ap.length]; exact QE.ret h w (Rp.int _)⟩
  · split at h
    · rename_i hs
      obtain ⟨v, rfl, r⟩ := reps1 rs
      rw [Rp.str_inv r]
      exact ⟨_, _, rfl, ⟨lim_line hs, rfl⟩, QE.ret h w (Rp.int _)⟩
    · exact h.elim
  · exact h.elim
theorem de_len (hm : X.mg "len" = none) (hs : DA X mo E [a] fs) (hg : Gl X "len" := by rfl) (he : starEach [a] X.env = [(false, eval a X.env)] := by rfl) : DE X mo E (.Call (.Name "len" p) [a] [] pos) (dCall bLen fs) :=
  de_callB call_len cd_len hm boot_len hs hg (by decide) (by decide) he rfl
def bSum : List AV → M RV
  | [.d (.list xs)] => match intsOf xs with
    | some ns => rI' ns.sum
    | none => .stuck
  | _ => .stuck
theorem lst_ints {K : PySem.W.Frag} {S : Addr → Prop} {g : Gh} {H : Hp} {v : V} {xs : List PyData} {ns : List Int} (r : RepA mo K S g H v (.d (.list xs))) (e : intsOf xs = some ns) : ∃ p, v = .ref p ∧ H p = some (.lst (ns.map V.int)) := by
  obtain ⟨p, us, rfl, hp, ap⟩ := Rp.lst_inv r
  rw [intsOf_some e] at ap
  rw [ap.ints] at hp
  exact ⟨p, rfl, cutS hp⟩
theorem lst_bools {K : PySem.W.Frag} {S : Addr → Prop} {g : Gh} {H : Hp} {v : V} {xs : List PyData} {ns : List Bool} (r : RepA mo K S g H v (.d (.list xs))) (e : boolsOf xs = some ns) : ∃ p, v = .ref p ∧ H p = some (.lst (ns.map V.bl)) := by
  obtain ⟨p, us, rfl, hp, ap⟩ := Rp.lst_inv r
  rw [boolsOf_some e] at ap
  rw [ap.bls] at hp
  exact ⟨p, rfl, cutS hp⟩
theorem cd_sum {K : PySem.W.Frag} {n : Nat} : CallD mo K n (rSum K) bSum := by
  intro S g W H vs as Q E' w sd rs hl h
  unfold bSum at h
  split at h
  · split at h
    · rename_i e
      obtain ⟨v, rfl, r⟩ := reps1 rs
      obtain ⟨p, rfl, hp⟩ := lst_ints r e
      exact ⟨p, _, rfl, SqL.of hp, QE.ret h w (Rp.int _)⟩
    · exact h.elim
  · exact h.elim
theorem de_sum (hc : X.calm = true) (hm : X.mg "sum" = none) (hs : DA X mo E [a] fs) (hg : Gl X "sum" := by rfl) (he : starEach [a] X.env = [(false, eval a X.env)] := by rfl) : DE X mo E (.Call (.Name "sum" p) [a] [] pos) (dCall bSum fs) :=
  de_callB (cr_sum hc) cd_sum hm PyProof.Rows.boot_sum hs hg (by decide) (by decide) he rfl
def bMax1 : List AV → M RV
  | [.d (.list xs)] => match intsOf xs with
    | some (n :: ns) => rI' (maxL (n :: ns))
    | _ => .stuck
  | _ => .stuck
def bMin1 : List AV → M RV
  | [.d (.list xs)] => match intsOf xs with
    | some (n :: ns) => rI' (minL (n :: ns))
    | _ => .stuck
  | _ => .stuck
theorem cd_max1 {K : PySem.W.Frag} {n : Nat} : CallD mo K n (rMax K) bMax1 := by
  intro S g W H vs as Q E' w sd rs hl h
  unfold bMax1 at h
  split at h
  · split at h
    · rename_i e
      obtain ⟨v, rfl, r⟩ := reps1 rs
      obtain ⟨p, rfl, hp⟩ := lst_ints r e
      refine ⟨p, _, rfl, SqL.of hp, by simp, fun m h1 h2 => ?_⟩
      rw [← maxL_uniq h1 h2]
      exact QE.ret h w (Rp.int _)
    · exact h.elim
  · exact h.elim
theorem cd_min1 {K : PySem.W.Frag} {n : Nat} : CallD mo K n (rMin K) bMin1 := by
  intro S g W H vs as Q E' w sd rs hl h
  unfold bMin1 at h
  split at h
  · split at h
    · rename_i e
      obtain ⟨v, rfl, r⟩ := reps1 rs
      obtain ⟨p, rfl, hp⟩ := lst_ints r e
      refine ⟨p, _, rfl, SqL.of hp, by simp, fun m h1 h2 => ?_⟩
      rw [← minL_uniq h1 h2]
      exact QE.ret h w (Rp.int _)
    · exact h.elim
  · exact h.elim
theorem de_max1 (hc : X.calm = true) (hm : X.mg "max" = none) (hs : DA X mo E [a] fs) (hg : Gl X "max" := by rfl) (he : starEach [a] X.env = [(false, eval a X.env)] := by rfl) : DE X mo E (.Call (.Name "max" p) [a] [] pos) (dCall bMax1 fs) :=
  de_callB (cr_max hc) cd_max1 hm PyProof.Rows.boot_max hs hg (by decide) (by decide) he rfl
theorem de_min1 (hc : X.calm = true) (hm : X.mg "min" = none) (hs : DA X mo E [a] fs) (hg : Gl X "min" := by rfl) (he : starEach [a] X.env = [(false, eval a X.env)] := by rfl) : DE X mo E (.Call (.Name "min" p) [a] [] pos) (dCall bMin1 fs) :=
  de_callB (cr_min hc) cd_min1 hm PyProof.Rows.boot_min hs hg (by decide) (by decide) he rfl
def bMax2 : List AV → M RV
  | [.d (.int i), .d (.int j)] => rI' (if j > i then j else i)
  | _ => .stuck
def bMin2 : List AV → M RV
  | [.d (.int i), .d (.int j)] => rI' (if j < i then j else i)
  | _ => .stuck
theorem cd_max2 {K : PySem.W.Frag} {n : Nat} : CallD mo K n (fun xs H Q => ∃ i j, xs = [.int i, .int j] ∧ Q (.int (if j > i then j else i)) H) bMax2 := by
  intro S g W H vs as Q E' w sd rs hl h
  unfold bMax2 at h
  split at h
  · obtain ⟨v, u, rfl, r1, r2⟩ := reps2 rs
    rw [Rp.int_inv r1, Rp.int_inv r2]
    exact ⟨_, _, rfl, QE.ret h w (Rp.int _)⟩
  · exact h.elim
theorem cd_min2 {K : PySem.W.Frag} {n : Nat} : CallD mo K n (fun xs H Q => ∃ i j, xs = [.int i, .int j] ∧ Q (.int (if j < i then j else i)) H) bMin2 := by
  intro S g W H vs as Q E' w sd rs hl h
  unfold bMin2 at h
  split at h
  · obtain ⟨v, u, rfl, r1, r2⟩ := reps2 rs
    rw [Rp.int_inv r1, Rp.int_inv r2]
    exact ⟨_, _, rfl, QE.ret h w (Rp.int _)⟩
  · exact h.elim
theorem de_max2 (hc : X.calm = true) (hm : X.mg "max" = none) (hs : DA X mo E [a, b] fs) (hg : Gl X "max" := by rfl) (he : starEach [a, b] X.env = (false, eval a X.env) :: starEach [b] X.env := by rfl) (hpl : (backTo pos (starEach [b] X.env)).any (·.1) = false := by rfl) :
    DE X mo E (.Call (.Name "max" p) [a, b] [] pos) (dCall bMax2 fs) := de_callB (call_max2 hc) cd_max2 hm PyProof.Rows.boot_max hs hg (by decide) (by decide) he hpl
theorem de_min2 (hc : X.calm = true) (hm : X.mg "min" = none) (hs : DA X mo E [a, b] fs) (hg : Gl X "min" := by rfl) (he : starEach [a, b] X.env = (false, eval a X.env) :: starEach [b] X.env := by rfl) (hpl : (backTo pos (starEach [b] X.env)).any (·.1) = false := by rfl) :
    DE X mo E (.Call (.Name "min" p) [a, b] [] pos) (dCall bMin2 fs) := de_callB (call_min2 hc) cd_min2 hm PyProof.Rows.boot_min hs hg (by decide) (by decide) he hpl
def bAbs : List AV → M RV
  | [.d (.int i)] => rI' (if i < 0 then -i else i)
  | _ => .stuck
theorem cd_abs {K : PySem.W.Frag} {n : Nat} : CallD mo K n (fun xs H Q => ∃ i, xs = [.int i] ∧ Q (.int (if i < 0 then -i else i)) H) bAbs := by
  intro S g W H vs as Q E' w sd rs hl h
  unfold bAbs at h
  split at h
  · obtain ⟨v, rfl, r1⟩ := reps1 rs
    rw [Rp.int_inv r1]
    exact ⟨_, rfl, QE.ret h w (Rp.int _)⟩
  · exact h.elim
theorem de_abs (hm : X.mg "abs" = none) (hs : DA X mo E [a] fs) (hg : Gl X "abs" := by rfl) (he : starEach [a] X.env = [(false, eval a X.env)] := by rfl) : DE X mo E (.Call (.Name "abs" p) [a] [] pos) (dCall bAbs fs) :=
  de_callB call_abs cd_abs hm PyProof.Rows.boot_abs hs hg (by decide) (by decide) he rfl
def bSorted : List AV → M RV
  | [.d (.list xs)] => match intsOf xs with
    | some ns => .ret (.d (.list ((isort ns).map PyData.int)), true)
    | none => .stuck
  | _ => .stuck
theorem cd_sorted {K : PySem.W.Frag} {n : Nat} : CallD mo K n (rSortedI K) bSorted := by
  intro S g W H vs as Q E' w sd rs hl h
  unfold bSorted at h
  split at h
  · split at h
    · rename_i e
      obtain ⟨v, rfl, r⟩ := reps1 rs
      obtain ⟨p, rfl, hp⟩ := lst_ints r e
      refine ⟨p, _, rfl, SqL.of hp, fun ns' q h1 h2 hq => ?_⟩
      rw [isort_eq h1 h2]
      exact QE.new h w sd hq rpAll_ints
    · exact h.elim
  · exact h.elim
theorem de_sorted (hm : X.mg "sorted" = none) (hs : DA X mo E [a] fs) (hg : Gl X "sorted" := by rfl) (he : starEach [a] X.env = [(false, eval a X.env)] := by rfl) : DE X mo E (.Call (.Name "sorted" p) [a] [] pos) (dCall bSorted fs) :=
  de_callB cr_sortedI cd_sorted hm PyProof.Rows.boot_sorted hs hg (by decide) (by decide) he rfl
def bList : List AV → M RV
  | [.d (.list xs)] => .ret (.d (.list xs), true)
  | [.d (.tuple xs)] => .ret (.d (.list xs), true)
  | _ => .stuck
theorem cd_list {K : PySem.W.Frag} {n : Nat} : CallD mo K n (fun xs H Q => ∃ p ys, xs = [.ref p] ∧ (SqL K H p ys ∨ SqT K H p ys) ∧ ∀ l, H l = none → Q (.ref l) (upd H l (.lst ys))) bList := by
  intro S g W H vs as Q E' w sd rs hl h
  unfold bList at h
  split at h
  · obtain ⟨v, rfl, r⟩ := reps1 rs
    obtain ⟨p, us, rfl, hp, ap⟩ := Rp.lst_inv r
    exact ⟨p, us, rfl, .inl (SqL.of (cutS hp)), fun l hq => QE.new h w sd hq ap⟩
  · obtain ⟨v, rfl, r⟩ := reps1 rs
    obtain ⟨p, us, rfl, hp, ap⟩ := Rp.tup_inv r
    exact ⟨p, us, rfl, .inr (Same.seqT cut_sub hp), fun l hq => QE.new h w sd hq ap⟩
  · exact h.elim
theorem de_list (hm : X.mg "list" = none) (hs : DA X mo E [a] fs) (hg : Gl X "list" := by rfl) (he : starEach [a] X.env = [(false, eval a X.env)] := by rfl) : DE X mo E (.Call (.Name "list" p) [a] [] pos) (dCall bList fs) :=
  de_callTy call_list_of cd_list hm PyProof.Rows.boot_list hs hg (by decide) (by decide) he rfl
def bTuple : List AV → M RV
  | [.d (.list xs)] => .ret (.d (.tuple xs), false)
  | [.d (.tuple xs)] => .ret (.d (.tuple xs), false)
  | _ => .stuck
theorem cd_tuple {K : PySem.W.Frag} {n : Nat} : CallD mo K n (fun xs H Q => ∃ p ys, xs = [.ref p] ∧ ((SqL K H p ys ∧ ∀ l, H l = none → Q (.ref l) (upd H l (.tup ys))) ∨ (SqT K H p ys ∧ Q (.ref p) H))) bTuple := by
  intro S g W H vs as Q E' w sd rs hl h
  unfold bTuple at h
  split at h
  · obtain ⟨v, rfl, r⟩ := reps1 rs
    obtain ⟨p, us, rfl, hp, ap⟩ := Rp.lst_inv r
    exact ⟨p, us, rfl, .inl ⟨SqL.of (cutS hp), fun l hq => QE.newT h w sd hq ap⟩⟩
  · obtain ⟨v, rfl, r⟩ := reps1 rs
    obtain ⟨p, us, rfl, hp, ap⟩ := Rp.tup_inv r
    exact ⟨p, us, rfl, .inr ⟨Same.seqT cut_sub hp, QE.ret h w r⟩⟩
  · exact h.elim
theorem de_tuple (hm : X.mg "tuple" = none) (hs : DA X mo E [a] fs) (hg : Gl X "tuple" := by rfl) (he : starEach [a] X.env = [(false, eval a X.env)] := by rfl) : DE X mo E (.Call (.Name "tuple" p) [a] [] pos) (dCall bTuple fs) :=
  de_callTy call_tuple_of cd_tuple hm PyProof.Rows.boot_tuple hs hg (by decide) (by decide) he rfl
def bAll : List AV → M RV
  | [.d (.list xs)] => match boolsOf xs with
    | some ns => rB (ns.all id)
    | none => .stuck
  | _ => .stuck
def bAny : List AV → M RV
  | [.d (.list xs)] => match boolsOf xs with
    | some ns => rB (ns.any id)
    | none => .stuck
  | _ => .stuck
theorem cd_all {K : PySem.W.Frag} {n : Nat} : CallD mo K n (rAll K) bAll := by
  intro S g W H vs as Q E' w sd rs hl h
  unfold bAll at h
  split at h
  · split at h
    · rename_i e
      obtain ⟨v, rfl, r⟩ := reps1 rs
      obtain ⟨p, rfl, hp⟩ := lst_bools r e
      exact ⟨p, _, rfl, SqL.of hp, QE.ret h w (Rp.bl _)⟩
    · exact h.elim
  · exact h.elim
theorem cd_any {K : PySem.W.Frag} {n : Nat} : CallD mo K n (rAny K) bAny := by
  intro S g W H vs as Q E' w sd rs hl h
  unfold bAny at h
  split at h
  · split at h
    · rename_i e
      obtain ⟨v, rfl, r⟩ := reps1 rs
      obtain ⟨p, rfl, hp⟩ := lst_bools r e
      exact ⟨p, _, rfl, SqL.of hp, QE.ret h w (Rp.bl _)⟩
    · exact h.elim
  · exact h.elim
theorem de_all (hc : X.calm = true) (hm : X.mg "all" = none) (hs : DA X mo E [a] fs) (hg : Gl X "all" := by rfl) (he : starEach [a] X.env = [(false, eval a X.env)] := by rfl) : DE X mo E (.Call (.Name "all" p) [a] [] pos) (dCall bAll fs) :=
  de_callB (cr_all hc) cd_all hm PyProof.Rows.boot_all hs hg (by decide) (by decide) he rfl
theorem de_any (hc : X.calm = true) (hm : X.mg "any" = none) (hs : DA X mo E [a] fs) (hg : Gl X "any" := by rfl) (he : starEach [a] X.env = [(false, eval a X.env)] := by rfl) : DE X mo E (.Call (.Name "any" p) [a] [] pos) (dCall bAny fs) :=
  de_callB (cr_any hc) cd_any hm PyProof.Rows.boot_any hs hg (by decide) (by decide) he rfl

/-! ### isinstance(x, T), T a built-in type -/
inductive Ty5 where
  | int | bool | str | list | tuple
def Ty5.nm : Ty5 → Str
  | .int => "int" | .bool => "bool" | .str => "str" | .list => "list" | .tuple => "tuple"
def Ty5.id : Ty5 → String
  | .int => "int" | .bool => "bool" | .str => "str" | .list => "list" | .tuple => "tuple"
def isTy : Ty5 → PyData → Bool
  | .int, .int _ => true
  | .int, .bool _ => true
  | .bool, .bool _ => true
  | .str, .str _ => true
  | .list, .list _ => true
  | .tuple, .tuple _ => true
  | _, _ => false
def tyName : PyData → String
  | .none => "NoneType" | .bool _ => "bool" | .int _ => "int" | .str _ => "str" | .list _ => "list" | .tuple _ => "tuple" | .dict _ => "dict"
def kitT (t : Ty5) (n : String) : Bool := match t with
  | .int => n == "int" || n == "bool" | .bool => n == "bool" | .str => n == "str" | .list => n == "list" | .tuple => n == "tuple"
theorem kit5 : ∀ (t : Ty5), ∀ n ∈ ["NoneType", "bool", "int", "str", "list", "tuple"], kitB n t.id = some (kitT t n) := by
  intro t
  cases t <;> decide +kernel
theorem tyX_of {K : PySem.W.Frag} {H : Hp} {v : V} {p : PyData} (h : Rp K H v p) : TyX K H v (.type (tyName p)) ∧ tyName p ∈ ["NoneType", "bool", "int", "str", "list", "tuple"] := by
  cases h with
  | non => exact ⟨.base .non, by decide⟩
  | bl b => exact ⟨.base (.bl b), by simp [tyName]⟩
  | int b => exact ⟨.base (.int b), by simp [tyName]⟩
  | str b => exact ⟨.base (.str b), by simp [tyName]⟩
  | lst h1 h2 => exact ⟨.base (.lst h1), by simp [tyName]⟩
  | tup h1 h2 =>
    refine ⟨?_, by simp [tyName]⟩
    rcases h1 with (h1 | ⟨o, h1⟩) | ⟨o, its, n, h1, h2, _⟩
    · exact .base (.tup h1)
    · exact .fTuple h1
    · exact .kTuple h1 h2
theorem kitT_eq (t : Ty5) (p : PyData) : kitT t (tyName p) = isTy t p := by
  cases t <;> cases p <;> simp [kitT, tyName, isTy]
def dIsi (t : Ty5) (fa : En → M RV) : En → M RV := fun en => (fa en).bind fun r => match r.1 with
  | .d p => rB (isTy t p)
  | _ => .stuck
theorem boot5 : ∀ t : Ty5, bootBuiltins t.nm = some (.type t.id) := by intro t; cases t <;> decide +kernel
theorem nm5 : ∀ t : Ty5, t.nm ≠ "__name__" ∧ (t.nm == ("__debug__" : Str)) = false := by intro t; cases t <;> decide +kernel
theorem de_isi (t : Ty5) {q : Pos} (hm : X.mg "isinstance" = none) (hm2 : X.mg t.nm = none) (ha : DE X mo E a fa) (hg : Gl X "isinstance" := by rfl) (hg2 : Gl X t.nm := by rfl) (he : starEach [a, .Name t.nm q] X.env = (false, eval a X.env) :: starEach [.Name t.nm q] X.env := by rfl)
    (he2 : starEach [.Name t.nm q] X.env = [(false, eval (.Name t.nm q) X.env)] := by rfl) (hpl : (backTo pos (starEach [.Name t.nm q] X.env)).any (·.1) = false := by rfl) : DE X mo E (.Call (.Name "isinstance" p) [a, .Name t.nm q] [] pos) (dIsi t fa) := by
  obtain ⟨ta, pa, wa⟩ := ha
  have pt : PE X (.Name t.nm q) (tC (.ty t.id)) := pe_bltn hg2 hm2 (boot5 t) rfl (nm5 t).1 (nm5 t).2
  refine ⟨_, pe_callB call_isi hg hm PyProof.Rows.boot_isinstance (pa_cons pa (pa_cons pt pa_nil he2) he) (by decide) (by decide) he hpl, fun S g W σ H en Q hR h => ?_⟩
  unfold dIsi at h
  rw [wp_bind] at h
  refine wa S g W σ H en _ hR (wp_mono h (fun r1 W1 q g1 v1 H1 s1 w1 rr1 => ?_) fun _ _ q => q)
  try dsimp only at q
  split at q
  · rename_i p e
    replace rr1 := RepR.at rr1 e
    obtain ⟨h1, h2⟩ := tyX_of (Rp.mono cut_sub rr1.1)
    refine ⟨v1, _, _, _, _, rfl, .ty t.id, h1, kit_ty (kit5 t _ h2), ?_⟩
    rw [kitT_eq]
    exact QE.ret (QE.step s1 q) w1 (Rp.bl _)
  · exact q.elim

/-! ### displays -/
def datas : List AV → Option (List PyData)
  | [] => some []
  | .d p :: r => (datas r).map (p :: ·)
  | _ :: _ => none
theorem datas_rep {K : PySem.W.Frag} {S : Addr → Prop} {g : Gh} {H : Hp} : ∀ {as : List AV} {ds : List PyData} {vs : List V}, datas as = some ds → RepAs mo K S g H vs as → RpAll K (cut H fun a => S a ∨ g.R a) vs ds
  | [], ds, vs, e, r => by
    simp only [datas, Option.some.injEq] at e
    subst e
    cases r
    exact .nil
  | .d p :: as, ds, vs, e, r => by
    simp only [datas, Option.map_eq_some_iff] at e
    obtain ⟨ds', e1, rfl⟩ := e
    cases r with
    | cons r1 r2 => exact .cons r1 (datas_rep e1 r2)
  | .ob _ :: _, _, _, e, _ => by simp [datas] at e
  | .exc _ :: _, _, _, e, _ => by simp [datas] at e
  | .scr _ :: _, _, _, e, _ => by simp [datas] at e
def dTup (fs : En → M (List AV)) : En → M RV := fun en => (fs en).bind fun as => match datas as with
  | some ds => .ret (.d (.tuple ds), false)
  | none => .stuck
def dLst (fs : En → M (List AV)) : En → M RV := fun en => (fs en).bind fun as => match datas as with
  | some ds => .ret (.d (.list ds), true)
  | none => .stuck
theorem de_tup {k : Nat} (hs : DA X mo E es fs) (hl : es.length ≤ lim := by decide) : DE X mo E (.Tuple es k pos) (dTup fs) := by
  obtain ⟨ts, pss, ws⟩ := hs
  refine ⟨tTup ts, pe_tup pss, fun S g W σ H en Q hR hw => ?_⟩
  unfold dTup at hw
  rw [wp_bind] at hw
  refine ws S g W σ H en _ hR (wp_mono hw (fun as W1 q g1 vs H1 s1 w1 rr1 hl1 => ?_) fun _ _ q => q)
  try dsimp only at q
  split at q
  · rename_i ds e
    exact ⟨by rw [hl1]; exact lim_line hl, fun p hp => QE.newT (QE.step s1 q) w1 (fun a s => s1.dom a (hR.sd a s)) hp (datas_rep e rr1)⟩
  · exact q.elim
theorem de_lst (hs : DA X mo E es fs) (hl : es.length ≤ lim := by decide) : DE X mo E (.List es pos) (dLst fs) := by
  obtain ⟨ts, pss, ws⟩ := hs
  refine ⟨tLst ts, pe_lst pss, fun S g W σ H en Q hR hw => ?_⟩
  unfold dLst at hw
  rw [wp_bind] at hw
  refine ws S g W σ H en _ hR (wp_mono hw (fun as W1 q g1 vs H1 s1 w1 rr1 hl1 => ?_) fun _ _ q => q)
  try dsimp only at q
  split at q
  · rename_i ds e
    exact ⟨by rw [hl1]; exact lim_line hl, fun p hp => QE.new (QE.step s1 q) w1 (fun a s => s1.dom a (hR.sd a s)) hp (datas_rep e rr1)⟩
  · exact q.elim

/-! ### items -/
def oIx : AV → AV → M RV
  | .d (.list xs), .d (.int i) => match atI xs i with
    | some p => .ret (.d p, false)
    | none => .stuck
  | .d (.tuple xs), .d (.int i) => match atI xs i with
    | some p => .ret (.d p, false)
    | none => .stuck
  | .d (.str z), .d (.int i) => if z.length ≤ lim then (match atI z.cps.toList i with
    | some c => .ret (.d (.str ⟨#[c]⟩), false)
    | none => .stuck) else .stuck
  | _, _ => .stuck
theorem atI_rep {K : PySem.W.Frag} {H : Hp} {vs : List V} {ds : List PyData} {i : Int} {d : PyData} (r : RpAll K H vs ds) (e : atI ds i = some d) : ∃ v, atI vs i = some v ∧ Rp K H v d := by
  unfold atI at e ⊢
  rw [r.length]
  cases q : ixN ds.length i with
  | none => rw [q] at e; cases e
  | some j =>
    rw [q] at e
    exact r.get e
theorem opd_ix {K : PySem.W.Frag} : OpD mo K (rIx K) oIx := by
  intro S g W H x y a b Q E' w sd ra rb h
  unfold oIx at h
  split at h
  · split at h
    · rename_i e
      obtain ⟨p, us, rfl, hp, ap⟩ := Rp.lst_inv ra
      obtain ⟨v, e1, r⟩ := atI_rep ap e
      rw [Rp.int_inv rb]
      exact .inl ⟨p, us, _, v, rfl, rfl, SqL.of (cutS hp), e1, QE.ret h w r⟩
    · exact h.elim
  · split at h
    · rename_i e
      obtain ⟨p, us, rfl, hp, ap⟩ := Rp.tup_inv ra
      obtain ⟨v, e1, r⟩ := atI_rep ap e
      rw [Rp.int_inv rb]
      exact .inr (.inl ⟨p, us, _, v, rfl, rfl, Same.seqT cut_sub hp, e1, QE.ret h w r⟩)
    · exact h.elim
  · split at h
    · rename_i hl
      split at h
      · rename_i e
        rw [Rp.str_inv ra, Rp.int_inv rb]
        exact .inr (.inr ⟨_, _, _, rfl, rfl, lim_line hl, e, QE.ret h w (Rp.str _)⟩)
      · exact h.elim
    · exact h.elim
  · exact h.elim
theorem de_ix (ha : DE X mo E a fa) (hb : DE X mo E b fb) (hs : PlainIx b := by intro _ _; rfl) : DE X mo E (.Subscript a b pos) (dBin oIx fa fb) := by
  obtain ⟨ta, pa, wa⟩ := ha
  obtain ⟨tb, pb, wb⟩ := hb
  exact ⟨tOp (rIx X.K) ta tb, pe_ix ix_seq pa pb hs, op_run opd_ix wa wb⟩

/-! ### slices -/
def DO (X : Cx) (mo : Mo) (E : XK) (e : Option Expr) (f : En → M (Option Int)) : Prop :=
  ∃ t : TO, PO X e t ∧ ∀ (S : Addr → Prop) (g : Gh) (W : Wd) (σ : St) (H : Hp) (en : En) (Q : Option Int → Hp → Prop), RepE mo X.K S g W σ H en → wp (f en) W (fun o W' => ∀ g' H', Step g H g' H' → WOk mo X.K S g' W' H' → Q o H') (EE mo X.K S g H E) → t σ H Q
def oNone : En → M (Option Int) := fun _ => .ret none
def oSome (fa : En → M RV) : En → M (Option Int) := fun en => (fa en).bind fun r => match r.1 with
  | .d (.int i) => .ret (some i)
  | _ => .stuck
theorem do_none : DO X mo E none oNone := ⟨tNoPart, po_none, fun S g W σ H en Q hR h => h g H (.refl g H) hR.wok⟩
theorem do_some (ha : DE X mo E a fa) : DO X mo E (some a) (oSome fa) := by
  obtain ⟨ta, pa, wa⟩ := ha
  refine ⟨tPart ta, po_some pa, fun S g W σ H en Q hR h => ?_⟩
  unfold oSome at h
  rw [wp_bind] at h
  refine wa S g W σ H en _ hR (wp_mono h (fun r1 W1 q g1 v1 H1 s1 w1 rr1 => ?_) fun _ _ q => q)
  try dsimp only at q
  split at q
  · rename_i i e
    replace rr1 := RepR.at rr1 e
    exact ⟨i, Rp.int_inv rr1.1, q g1 H1 s1 w1⟩
  · exact q.elim
def cutP (xs : List PyData) (lo hi : Option Int) : List PyData := (xs.drop (HT.sIx xs.length 0 lo)).take (HT.sIx xs.length xs.length hi - HT.sIx xs.length 0 lo)
def dSl (fa : En → M RV) (fl fh : En → M (Option Int)) : En → M RV := fun en => (fa en).bind fun r => (fl en).bind fun lo => (fh en).bind fun hi => match r.1 with
  | .d (.list xs) => .ret (.d (.list (cutP xs lo hi)), true)
  | .d (.str z) => if z.length ≤ lim then .ret (.d (.str (L2.cutS z lo hi)), false) else .stuck
  | _ => .stuck
theorem de_sl {lo hi : Option Expr} {fl fh : En → M (Option Int)} {p2 : Pos} (ha : DE X mo E a fa) (hl : DO X mo E lo fl) (hh : DO X mo E hi fh) : DE X mo E (.Subscript a (.Slice lo hi none p2) pos) (dSl fa fl fh) := by
  obtain ⟨ta, pa, wa⟩ := ha
  obtain ⟨tl, pl, wl⟩ := hl
  obtain ⟨th, ph, wh⟩ := hh
  refine ⟨_, pe_slice (sl_list.or sl_str) pa pl ph, fun S g W σ H en Q hR h => ?_⟩
  unfold dSl at h
  rw [wp_bind] at h
  refine wa S g W σ H en _ hR (wp_mono h (fun r1 W1 q g1 v1 H1 s1 w1 rr1 => ?_) fun _ _ q => q)
  rw [wp_bind] at q
  refine wl S g1 W1 σ H1 en _ (hR.step s1 w1) (wp_mono q (fun o2 W2 q2 g2 H2 s2 w2 => ?_) fun _ _ q => q.step s1)
  rw [wp_bind] at q2
  refine wh S g2 W2 σ H2 en _ (hR.step (s1.trans s2) w2) (wp_mono q2 (fun o3 W3 q3 g3 H3 s3 w3 => ?_) fun _ _ q => q.step (s1.trans s2))
  try dsimp only at q3
  have s13 := (s1.trans s2).trans s3
  split at q3
  · rename_i xs e
    replace rr1 := RepR.at rr1 e
    obtain ⟨p, us, rfl, hp, ap⟩ := Rp.lst_inv (RepA.step (s2.trans s3) rr1.1)
    refine .inl ⟨p, us, rfl, SqL.of (cutS hp), fun q hq => QE.new (QE.step s13 q3) w3 (fun a s => s13.dom a (hR.sd a s)) hq ?_⟩
    unfold cutV cutP
    rw [ap.length]
    exact (ap.drop _).take _
  · rename_i z e
    replace rr1 := RepR.at rr1 e
    split at q3
    · rename_i hz
      exact .inr ⟨z, Rp.str_inv rr1.1, lim_line hz, QE.ret (QE.step s13 q3) w3 (Rp.str _)⟩
    · exact q3.elim
  · exact q3.elim
def dRev (fa : En → M RV) : En → M RV := fun en => (fa en).bind fun r => match r.1 with
  | .d (.list xs) => .ret (.d (.list xs.reverse), true)
  | _ => .stuck
theorem de_rev {k : Nat} {p1 p2 p3 : Pos} (ha : DE X mo E a fa) : DE X mo E (.Subscript a (.Slice none none (some (.UnaryOp .USub (.Constant (.int 1) k p1) p2)) p3) pos) (dRev fa) := by
  obtain ⟨ta, pa, wa⟩ := ha
  refine ⟨_, pe_revL pa, fun S g W σ H en Q hR h => ?_⟩
  unfold dRev at h
  rw [wp_bind] at h
  refine wa S g W σ H en _ hR (wp_mono h (fun r1 W1 q g1 v1 H1 s1 w1 rr1 => ?_) fun _ _ q => q)
  try dsimp only at q
  split at q
  · rename_i xs e
    replace rr1 := RepR.at rr1 e
    obtain ⟨p, us, rfl, hp, ap⟩ := Rp.lst_inv rr1.1
    exact ⟨p, us, rfl, SqL.of (cutS hp), fun q' hq => QE.new (QE.step s1 q) w1 (fun a s => s1.dom a (hR.sd a s)) hq ap.reverse⟩
  · exact q.elim
end
end Dt

/-! The data layer, part 5: what is walked, targets, comprehensions. -/
namespace Dt
open PySem L2

/-! ### what is walked -/
def mixC (C H' H'' : Hp) : Hp := fun a => match H' a with
  | none => H'' a
  | some _ => C a
theorem mixC_self {C H' : Hp} (h : Same C H') {a : Addr} {o : HO} (e : C a = some o) (H'' : Hp) : mixC C H' H'' a = some o := by
  unfold mixC
  rw [h a o e]
  exact e
theorem mixC_new {C H' H'' : Hp} {a : Addr} {o : HO} (e : H' a = none) (e' : H'' a = some o) : mixC C H' H'' a = some o := by
  unfold mixC
  rw [e]
  exact e'
structure ItOk (K : PySem.W.Frag) (C : Hp) (J : It) (items : List PyData) : Prop where
  go : ∀ (i : Nat) (H' : Hp) (d : PyData), items[i]? = some d → Same C H' → J.go i H' ∧ ∀ x H'', J.yld i H' x H'' → Same H' H'' ∧ Rp K (mixC C H' H'') x d
  stop : ∀ (i : Nat) (H' : Hp), items.length ≤ i → Same C H' → J.stop i H'
def DI (X : Cx) (mo : Mo) (E : XK) (tg e : Expr) (f : En → M (List PyData)) : Prop :=
  ∃ wi : TI, PI X tg e wi ∧ ∀ (S : Addr → Prop) (g : Gh) (W : Wd) (σ : St) (H : Hp) (en : En) (R : It → Hp → Prop), RepE mo X.K S g W σ H en →
    wp (f en) W (fun items W' => ∀ g' H' J, Step g H g' H' → WOk mo X.K S g' W' H' → ItOk X.K (cut H' fun a => S a ∨ g'.R a) J items → R J H') (EE mo X.K S g H E) → wi σ H R
section
variable {X : Cx} {mo : Mo} {E : XK} {pos p : Pos} {a b c e tg : Expr} {es : List Expr} {fa fb fc : En → M RV} {fs : En → M (List AV)}
/-- a list or a tuple, as it comes -/
def iSeq (K : PySem.W.Frag) (tl : TE) : TI := fun σ H R => tl σ H fun x H1 => (∃ a, x = .ref a ∧ (∃ xs, SqL K H1 a xs) ∧ R (Itl K a) H1) ∨ (∃ a, x = .ref a ∧ (∃ xs, SqT K H1 a xs) ∧ R (Itt K a) H1)
theorem pi_seq {l : Expr} {tl : TE} (hl : PE X l tl) : PI X tg l (iSeq X.K tl) := by
  refine ⟨fun pins s σ H R I h => ?_⟩
  refine thn (hl.run pins s σ H _ I h) fun v s1 ⟨x, H1, I1, r1, q1⟩ => ?_
  rcases q1 with ⟨a, e, ⟨xs, hq⟩, q⟩ | ⟨a, e, ⟨xs, hq⟩, q⟩
  · subst e
    cases r1
    obtain ⟨its, rv, p, hz⟩ := I1.list hq
    refine wpAny_pyIter_list p.isList ?_
    refine ⟨s1.heap.objs.size, [s1.heap.objs.size], _, _, H1, rfl, I1.kept (t' := s1.toks) fun b o e => Heap.get?_push_of_some _ e, turn_list a _, ⟨_, Heap.get?_push_size _ rfl, rfl, rfl⟩, fun b hb => ?_, q⟩
    have e : b = s1.heap.objs.size := by simpa using hb
    subst e
    exact I1.fpOk (Nat.le_refl _) (I1.hok.fresh (Nat.le_refl _))
  · subst e
    cases r1
    obtain ⟨its, rv, p, hz⟩ := I1.tuple hq
    refine wpAny_pyIter_tuple (show s1.heap.IsTuple a its.toArray from p) ?_
    refine ⟨s1.heap.objs.size, [s1.heap.objs.size], _, _, H1, rfl, I1.kept (t' := s1.toks) fun b o e => Heap.get?_push_of_some _ e, turn_tuple a _, ⟨_, Heap.get?_push_size _ rfl, rfl, rfl⟩, fun b hb => ?_, q⟩
    have e : b = s1.heap.objs.size := by simpa using hb
    subst e
    exact I1.fpOk (Nat.le_refl _) (I1.hok.fresh (Nat.le_refl _))

def asSeq (r : RV) : M (List PyData) := match r.1 with
  | .d (.list xs) => .ret xs
  | .d (.tuple xs) => .ret xs
  | _ => .stuck
def iSeqD (fa : En → M RV) : En → M (List PyData) := fun en => (fa en).bind asSeq
theorem itok_list {K : PySem.W.Frag} {C : Hp} {q : Addr} {vs : List V} {xs : List PyData} (h : C q = some (.lst vs)) (ap : RpAll K C vs xs) : ItOk K C (Itl K q) xs where
  go := fun i H' d hd hs => by
    obtain ⟨v, e, r⟩ := ap.get hd
    refine ⟨⟨vs, v, SqL.of (hs _ _ h), e⟩, fun x H'' y => ?_⟩
    obtain ⟨e1, y⟩ := y
    subst e1
    have e2 := y vs (SqL.of (hs _ _ h))
    rw [e] at e2
    cases e2
    exact ⟨Same.refl _, r.mono fun b o eb => mixC_self hs eb _⟩
  stop := fun i H' hi hs => ⟨vs, SqL.of (hs _ _ h), by rw [ap.length]; exact hi⟩
theorem itok_tup {K : PySem.W.Frag} {C : Hp} {q : Addr} {vs : List V} {xs : List PyData} (h : SqT K C q vs) (ap : RpAll K C vs xs) : ItOk K C (Itt K q) xs where
  go := fun i H' d hd hs => by
    obtain ⟨v, e, r⟩ := ap.get hd
    refine ⟨⟨vs, v, Same.seqT hs h, e⟩, fun x H'' y => ?_⟩
    obtain ⟨e1, y⟩ := y
    subst e1
    have e2 := y vs (Same.seqT hs h)
    rw [e] at e2
    cases e2
    exact ⟨Same.refl _, r.mono fun b o eb => mixC_self hs eb _⟩
  stop := fun i H' hi hs => ⟨vs, Same.seqT hs h, by rw [ap.length]; exact hi⟩
theorem di_seq (ha : DE X mo E a fa) : DI X mo E tg a (iSeqD fa) := by
  obtain ⟨ta, pa, wa⟩ := ha
  refine ⟨_, pi_seq pa, fun S g W σ H en R hR h => ?_⟩
  unfold iSeqD at h
  rw [wp_bind] at h
  refine wa S g W σ H en _ hR (wp_mono h (fun r1 W1 q g1 v1 H1 s1 w1 rr1 => ?_) fun _ _ q => q)
  unfold asSeq at q
  split at q
  · rename_i xs e
    replace rr1 := RepR.at rr1 e
    obtain ⟨p, us, rfl, hp, ap⟩ := Rp.lst_inv rr1.1
    exact .inl ⟨p, rfl, ⟨us, SqL.of (cutS hp)⟩, q g1 H1 _ s1 w1 (itok_list hp ap)⟩
  · rename_i xs e
    replace rr1 := RepR.at rr1 e
    obtain ⟨p, us, rfl, hp, ap⟩ := Rp.tup_inv rr1.1
    exact .inr ⟨p, rfl, ⟨us, Same.seqT cut_sub hp⟩, q g1 H1 _ s1 w1 (itok_tup hp ap)⟩
  · exact q.elim
def rangeP (lo : Int) (n : Nat) : List PyData := (List.range n).map fun i : Nat => .int (lo + i)
theorem rangeP_length (lo : Int) (n : Nat) : (rangeP lo n).length = n := by simp [rangeP]
theorem itok_range {K : PySem.W.Frag} {C : Hp} (lo : Int) (n : Nat) : ItOk K C (Itr lo n) (rangeP lo n) where
  go := fun i H' d hd hs => by
    unfold rangeP at hd
    rw [List.getElem?_map, Option.map_eq_some_iff] at hd
    obtain ⟨j, hj, rfl⟩ := hd
    obtain ⟨h1, h2⟩ := List.getElem?_eq_some_iff.mp hj
    have hi : i < n := by simpa using h1
    have ej : j = i := by simpa using h2.symm
    subst ej
    refine ⟨hi, fun x H'' y => ?_⟩
    obtain ⟨e1, e2⟩ := y
    subst e1 e2
    exact ⟨Same.refl _, .int _⟩
  stop := fun i H' hi hs => by
    rw [rangeP_length] at hi
    exact hi
def iRangeD1 (fs : En → M (List AV)) : En → M (List PyData) := fun en => (fs en).bind fun as => match as with
  | [.d (.int n)] => if n ≤ 1000000 ∧ -1000000 ≤ n then .ret (rangeP 0 n.toNat) else .stuck
  | _ => .stuck
def iRangeD2 (fs : En → M (List AV)) : En → M (List PyData) := fun en => (fs en).bind fun as => match as with
  | [.d (.int m), .d (.int n)] => if (n ≤ 1000000 ∧ -1000000 ≤ n) ∧ (m ≤ 1000000 ∧ -1000000 ≤ m) then .ret (rangeP m (n - m).toNat) else .stuck
  | _ => .stuck
theorem di_range1 (hm : X.mg "range" = none) (hs : DA X mo E [a] fs) (hg : Gl X "range" := by rfl) (he : starEach [a] X.env = [(false, eval a X.env)] := by rfl) : DI X mo E tg (.Call (.Name "range" p) [a] [] pos) (iRangeD1 fs) := by
  obtain ⟨ts, pss, ws⟩ := hs
  refine ⟨_, pi_range1 hg hm pss he, fun S g W σ H en R hR h => ?_⟩
  unfold iRangeD1 at h
  rw [wp_bind] at h
  refine ws S g W σ H en _ hR (wp_mono h (fun as W1 q g1 vs H1 s1 w1 rr1 hl1 => ?_) fun _ _ q => q)
  try dsimp only at q
  split at q
  · rename_i n
    split at q
    · rename_i hn
      obtain ⟨v, rfl, r⟩ := reps1 rr1
      rw [Rp.int_inv r]
      exact ⟨n, rfl, by omega, by omega, q g1 H1 _ s1 w1 (itok_range 0 _)⟩
    · exact q.elim
  · exact q.elim
theorem di_range2 (hm : X.mg "range" = none) (hs : DA X mo E [a, b] fs) (hg : Gl X "range" := by rfl) (he : starEach [a, b] X.env = [(false, eval a X.env), (false, eval b X.env)] := by rfl) (he2 : starEach [b] X.env = [(false, eval b X.env)] := by rfl) :
    DI X mo E tg (.Call (.Name "range" p) [a, b] [] pos) (iRangeD2 fs) := by
  obtain ⟨ts, pss, ws⟩ := hs
  refine ⟨_, pi_range2 hg hm pss he he2, fun S g W σ H en R hR h => ?_⟩
  unfold iRangeD2 at h
  rw [wp_bind] at h
  refine ws S g W σ H en _ hR (wp_mono h (fun as W1 q g1 vs H1 s1 w1 rr1 hl1 => ?_) fun _ _ q => q)
  try dsimp only at q
  split at q
  · rename_i m n
    split at q
    · rename_i hn
      obtain ⟨v, u, rfl, r1, r2⟩ := reps2 rr1
      rw [Rp.int_inv r1, Rp.int_inv r2]
      exact ⟨m, n, rfl, ⟨by omega, by omega, by omega, by omega⟩, q g1 H1 _ s1 w1 (itok_range m _)⟩
    · exact q.elim
  · exact q.elim
/-- enumerate -/
def enumP (n : Nat) : List PyData → List PyData
  | [] => []
  | x :: xs => .tuple [.int n, x] :: enumP (n + 1) xs
theorem enumP_get : ∀ (xs : List PyData) (n i : Nat) {d : PyData}, (enumP n xs)[i]? = some d → ∃ x, xs[i]? = some x ∧ d = .tuple [.int ((n + i : Nat) : Int), x]
  | [], _, _, _, h => by simp [enumP] at h
  | x :: xs, n, 0, d, h => by
    simp [enumP] at h
    exact ⟨x, rfl, by rw [← h]; rfl⟩
  | x :: xs, n, i + 1, d, h => by
    simp only [enumP, List.getElem?_cons_succ] at h
    obtain ⟨y, h1, h2⟩ := enumP_get xs (n + 1) i h
    refine ⟨y, by simpa using h1, ?_⟩
    rw [h2]
    have e : n + 1 + i = n + (i + 1) := by omega
    rw [e]
theorem enumP_length : ∀ (xs : List PyData) (n : Nat), (enumP n xs).length = xs.length
  | [], _ => rfl
  | _ :: xs, n => by simp [enumP, enumP_length xs]
theorem pair_rep {K : PySem.W.Frag} {C H' : Hp} {T : Addr} {x y : V} {d d' : PyData} (hs : Same C H') (hT : H' T = none) (r : Rp K C x d) (r' : Rp K C y d') : Same H' (upd H' T (.tup [x, y])) ∧ Rp K (mixC C H' (upd H' T (.tup [x, y]))) (.ref T) (.tuple [d, d']) :=
  ⟨same_new hT, .tup (SqT.of (mixC_new hT upd_same)) (.cons (r.mono fun b o eb => mixC_self hs eb _) (.cons (r'.mono fun b o eb => mixC_self hs eb _) .nil))⟩
theorem itok_enum {K : PySem.W.Frag} {C : Hp} {q : Addr} {vs : List V} {xs : List PyData} (h : C q = some (.lst vs)) (ap : RpAll K C vs xs) : ItOk K C (Ite K q) (enumP 0 xs) where
  go := fun i H' d hd hs => by
    obtain ⟨z, hz, rfl⟩ := enumP_get xs 0 i hd
    obtain ⟨v, e, r⟩ := ap.get hz
    refine ⟨⟨vs, v, SqL.of (hs _ _ h), e⟩, fun x H'' y => ?_⟩
    obtain ⟨T, w, rfl, hT, rfl, y⟩ := y
    have e2 := y vs (SqL.of (hs _ _ h))
    rw [e] at e2
    cases e2
    rw [Nat.zero_add]
    exact pair_rep hs hT (.int _) r
  stop := fun i H' hi hs => ⟨vs, SqL.of (hs _ _ h), by rw [ap.length]; rw [enumP_length] at hi; exact hi⟩
def iEnumD (fs : En → M (List AV)) : En → M (List PyData) := fun en => (fs en).bind fun as => match as with
  | [.d (.list xs)] => .ret (enumP 0 xs)
  | _ => .stuck
theorem di_enum {elts : List Expr} {kk : Nat} {tpos : Pos} (hm : X.mg "enumerate" = none) (hs : DA X mo E [a] fs) (hg : Gl X "enumerate" := by rfl) (he : starEach [a] X.env = [(false, eval a X.env)] := by rfl) :
    DI X mo E (.Tuple elts kk tpos) (.Call (.Name "enumerate" p) [a] [] pos) (iEnumD fs) := by
  obtain ⟨ts, pss, ws⟩ := hs
  refine ⟨_, pi_enum hg hm pss he, fun S g W σ H en R hR h => ?_⟩
  unfold iEnumD at h
  rw [wp_bind] at h
  refine ws S g W σ H en _ hR (wp_mono h (fun as W1 q g1 vs H1 s1 w1 rr1 hl1 => ?_) fun _ _ q => q)
  try dsimp only at q
  split at q
  · obtain ⟨v, rfl, r⟩ := reps1 rr1
    obtain ⟨p, us, rfl, hp, ap⟩ := Rp.lst_inv r
    exact ⟨p, us, rfl, SqL.of (cutS hp), q g1 H1 _ s1 w1 (itok_enum hp ap)⟩
  · exact q.elim
/-- zip -/
def zipP : List PyData → List PyData → List PyData
  | x :: xs, y :: ys => .tuple [x, y] :: zipP xs ys
  | _, _ => []
theorem zipP_get : ∀ (xs ys : List PyData) (i : Nat) {d : PyData}, (zipP xs ys)[i]? = some d → ∃ x y, xs[i]? = some x ∧ ys[i]? = some y ∧ d = .tuple [x, y]
  | [], _, _, _, h => by simp [zipP] at h
  | _ :: _, [], _, _, h => by simp [zipP] at h
  | x :: xs, y :: ys, 0, d, h => by
    simp [zipP] at h
    exact ⟨x, y, rfl, rfl, h.symm⟩
  | x :: xs, y :: ys, i + 1, d, h => by
    simp only [zipP, List.getElem?_cons_succ] at h
    obtain ⟨u, v, h1, h2, h3⟩ := zipP_get xs ys i h
    exact ⟨u, v, by simpa using h1, by simpa using h2, h3⟩
theorem zipP_length : ∀ (xs ys : List PyData), (zipP xs ys).length = min xs.length ys.length
  | [], _ => by simp [zipP]
  | _ :: _, [] => by simp [zipP]
  | _ :: xs, _ :: ys => by
    simp [zipP, zipP_length xs ys]
theorem itok_zip {K : PySem.W.Frag} {C : Hp} {q q' : Addr} {vs us : List V} {xs ys : List PyData} (h : C q = some (.lst vs)) (ap : RpAll K C vs xs) (h' : C q' = some (.lst us)) (ap' : RpAll K C us ys) : ItOk K C (Itz K q q') (zipP xs ys) where
  go := fun i H' d hd hs => by
    obtain ⟨z, z', hz, hz', rfl⟩ := zipP_get xs ys i hd
    obtain ⟨v, e, r⟩ := ap.get hz
    obtain ⟨u, e', r'⟩ := ap'.get hz'
    refine ⟨⟨vs, us, v, u, SqL.of (hs _ _ h), SqL.of (hs _ _ h'), e, e'⟩, fun x H'' y => ?_⟩
    obtain ⟨T, w, w', rfl, hT, rfl, y, y'⟩ := y
    have e2 := y vs (SqL.of (hs _ _ h))
    rw [e] at e2
    cases e2
    have e3 := y' us (SqL.of (hs _ _ h'))
    rw [e'] at e3
    cases e3
    exact pair_rep hs hT r r'
  stop := fun i H' hi hs => ⟨vs, us, SqL.of (hs _ _ h), SqL.of (hs _ _ h'), by rw [ap.length, ap'.length]; rw [zipP_length] at hi; omega⟩
def iZipD (fs : En → M (List AV)) : En → M (List PyData) := fun en => (fs en).bind fun as => match as with
  | [.d (.list xs), .d (.list ys)] => .ret (zipP xs ys)
  | _ => .stuck
theorem di_zip {elts : List Expr} {kk : Nat} {tpos : Pos} (hm : X.mg "zip" = none) (hs : DA X mo E [a, b] fs) (hg : Gl X "zip" := by rfl) (he : starEach [a, b] X.env = (false, eval a X.env) :: starEach [b] X.env := by rfl) (hpl : (backTo pos (starEach [b] X.env)).any (·.1) = false := by rfl) :
    DI X mo E (.Tuple elts kk tpos) (.Call (.Name "zip" p) [a, b] [] pos) (iZipD fs) := by
  obtain ⟨ts, pss, ws⟩ := hs
  refine ⟨_, pi_zip hg hm pss he hpl, fun S g W σ H en R hR h => ?_⟩
  unfold iZipD at h
  rw [wp_bind] at h
  refine ws S g W σ H en _ hR (wp_mono h (fun as W1 q g1 vs H1 s1 w1 rr1 hl1 => ?_) fun _ _ q => q)
  try dsimp only at q
  split at q
  · obtain ⟨v, u, rfl, r, r'⟩ := reps2 rr1
    obtain ⟨p, us, rfl, hp, ap⟩ := Rp.lst_inv r
    obtain ⟨p', us', rfl, hp', ap'⟩ := Rp.lst_inv r'
    exact ⟨p, p', us, us', rfl, SqL.of (cutS hp), SqL.of (cutS hp'), q g1 H1 _ s1 w1 (itok_zip hp ap hp' ap')⟩
  · exact q.elim

/-! ### targets -/
def setS (σ : St) : List Nat → List V → St
  | i :: is, v :: vs => setS (σ.set i (some v)) is vs
  | _, _ => σ
def setE (en : En) : List Nat → List PyData → En
  | i :: is, v :: vs => setE (en.set i (some (.v (.d v)))) is vs
  | _, _ => en
/-- a name; a tuple of names -/
def bdN : PyData → Option (List PyData) := fun p => some [p]
def bdT (n : Nat) : PyData → Option (List PyData)
  | .tuple xs => if xs.length = n then some xs else none
  | .list xs => if xs.length = n then some xs else none
  | _ => none
theorem pg_or {X : Cx} {e : Expr} {t1 t2 : TG} (h1 : PG X e t1) (h2 : PG X e t2) : PG X e (fun v σ H Q => t1 v σ H Q ∨ t2 v σ H Q) :=
  ⟨fun pins s σ H v u Q I r hw => hw.elim (fun z => h1.run pins s σ H v u Q I r z) fun z => h2.run pins s σ H v u Q I r z⟩
def DG (X : Cx) (tg : Expr) (sl : List Nat) (bd : PyData → Option (List PyData)) : Prop :=
  ∃ gt : TG, PG X tg gt ∧ ∀ (C : Hp) (v : V) (d : PyData) (ds : List PyData) (σ : St) (H : Hp) (Q : St → Hp → Prop), Rp X.K C v d → Same C H → bd d = some ds → (∀ vs, RpAll X.K C vs ds → Q (setS σ sl vs) H) → gt v σ H Q
theorem dg_name {i : Nat} {x : Str} (hN : X.N.Nodup) (hi : X.N[i]? = some x := by rfl) (hx : Loc X.env.scope x := by first | exact Or.inl rfl | exact Or.inr rfl) (hf : X.fn x = true ∨ X.env.scope.names.lookup x = some .local := by first | exact .inl rfl | exact .inr rfl) : DG X (.Name x pos) [i] bdN := by
  refine ⟨gName i, pg_name hN hi hx hf, fun C v d ds σ H Q r hs e q => ?_⟩
  simp only [bdN, Option.some.injEq] at e
  subst e
  exact q [v] (.one r)
structure DGs (X : Cx) (ts : List Expr) (sl : List Nat) : Prop where
  ex : ∃ gt : TGs, PGs X ts gt ∧ sl.length = ts.length ∧ ∀ (vs : List V) (σ : St) (H : Hp) (Q : St → Hp → Prop), vs.length = ts.length → Q (setS σ sl vs) H → gt vs σ H Q
theorem dgs_nil : DGs X [] [] := ⟨gNil, pgs_nil, rfl, fun vs σ H Q hl q => by
  cases vs with
  | nil => exact ⟨rfl, q⟩
  | cons _ _ => cases hl⟩
theorem dgs_cons {i : Nat} {x : Str} {ts : List Expr} {sl : List Nat} (hN : X.N.Nodup) (h : DGs X ts sl) (hi : X.N[i]? = some x := by rfl) (hx : Loc X.env.scope x := by first | exact Or.inl rfl | exact Or.inr rfl) (hf : X.fn x = true ∨ X.env.scope.names.lookup x = some .local := by first | exact .inl rfl | exact .inr rfl)
    (hs : (assignEach (.Name x pos :: ts) X.env).map (·.2) = assign (.Name x pos) X.env :: (assignEach ts X.env).map (·.2) := by rfl) : DGs X (.Name x pos :: ts) (i :: sl) := by
  obtain ⟨gt, pg, hl, w⟩ := h.ex
  refine ⟨_, pgs_cons (pg_name hN hi hx hf) pg hs, by simp [hl], fun vs σ H Q hlen q => ?_⟩
  cases vs with
  | nil => cases hlen
  | cons v vs => exact ⟨v, vs, rfl, w vs _ H Q (by simpa using hlen) q⟩
theorem dg_tup {ts : List Expr} {sl : List Nat} {k n : Nat} (hc : X.calm = true) (h : DGs X ts sl) (hn : (assignEach ts X.env).length = n := by rfl) (hst : (assignEach ts X.env).findIdx? (·.1) = none := by rfl) (hn2 : ts.length = n := by rfl) : DG X (.Tuple ts k pos) sl (bdT n) := by
  obtain ⟨gt, pg, hl, w⟩ := h.ex
  refine ⟨_, pg_or (pg_tup hc pg hn hst) (pg_lst hc pg hn hst), fun C v d ds σ H Q r hs e q => ?_⟩
  unfold bdT at e
  split at e
  · split at e
    · rename_i hx
      cases e
      obtain ⟨p, us, rfl, hp, ap⟩ := Rp.tup_inv r
      exact .inl ⟨p, us, rfl, Same.seqT hs hp, by rw [ap.length]; exact hx, w us σ H Q (by rw [ap.length, hx, hn2]) (q us ap)⟩
    · cases e
  · split at e
    · rename_i hx
      cases e
      obtain ⟨p, us, rfl, hp, ap⟩ := Rp.lst_inv r
      exact .inr ⟨p, us, rfl, SqL.of (hs p _ hp), by rw [ap.length]; exact hx, w us σ H Q (by rw [ap.length, hx, hn2]) (q us ap)⟩
    · cases e
  · cases e

/-! ### comprehensions -/
def tDE (mo : Mo) (K : PySem.W.Frag) (E : XK) (f : En → M RV) : TE := fun σ H Q => ∃ (S : Addr → Prop) (g : Gh) (W : Wd) (en : En), RepE mo K S g W σ H en ∧ wp (f en) W (QE mo K S g H Q) (EE mo K S g H E)
theorem DE.can (h : DE X mo E e fa) : PE X e (tDE mo X.K E fa) := by
  obtain ⟨t, p, w⟩ := h
  exact ⟨fun pins s σ H Q I ⟨S, g, W, en, hR, hw⟩ => p.run pins s σ H Q I (w S g W σ H en Q hR hw)⟩
def tDT (mo : Mo) (K : PySem.W.Frag) (E : XK) (f : En → M Bool) : TT := fun σ H Q => ∃ (S : Addr → Prop) (g : Gh) (W : Wd) (en : En), RepE mo K S g W σ H en ∧ wp (f en) W (QT mo K S g H Q) (EE mo K S g H E)
theorem DT.can {f : En → M Bool} (h : DT X mo E e f) : PT X e (tDT mo X.K E f) := by
  obtain ⟨t, p, w⟩ := h
  exact ⟨fun pins s σ H Q I ⟨S, g, W, en, hR, hw⟩ => p.run pins s σ H Q I (w S g W σ H en Q hR hw)⟩
def tDG (K : PySem.W.Frag) (sl : List Nat) (bd : PyData → Option (List PyData)) : TG := fun v σ H Q => ∃ (C : Hp) (d : PyData) (ds : List PyData), Rp K C v d ∧ Same C H ∧ bd d = some ds ∧ ∀ vs, RpAll K C vs ds → Q (setS σ sl vs) H
theorem DG.can {sl : List Nat} {bd : PyData → Option (List PyData)} (h : DG X tg sl bd) : PG X tg (tDG X.K sl bd) := by
  obtain ⟨t, p, w⟩ := h
  exact ⟨fun pins s σ H v u Q I r ⟨C, d, ds, r1, hs, e, q⟩ => p.run pins s σ H v u Q I r (w C v d ds σ H Q r1 hs e q)⟩
def DTs (X : Cx) (mo : Mo) (E : XK) (ifs : List Expr) (f : En → M Bool) : Prop := PTs X ifs (tDT mo X.K E f)
def yes : En → M Bool := fun _ => .ret true
theorem dts_nil : DTs X mo E [] yes := ⟨fun pins s σ H Q I ⟨S, g, W, en, hR, hw⟩ => pts_nil.run pins s σ H Q I (hw g H (.refl g H) hR.wok)⟩
theorem dts_one {f : En → M Bool} (h : DT X mo E c f) : DTs X mo E [c] f := pts_one h.can
/-- where nothing may be raised -/
def nox {α : Type} : M α → M α
  | .ret a => .ret a
  | .raise _ => .stuck
  | .draw i l k => .draw i l fun r => nox (k r)
  | .onew o k => .onew o fun n => nox (k n)
  | .oget i k => .oget i fun o => nox (k o)
  | .oset i o k => .oset i o (nox k)
  | .stuck => .stuck
@[simp] theorem nox_ret {α : Type} (a : α) : nox (M.ret a) = .ret a := rfl
theorem wp_nox {α : Type} : ∀ {m : M α} {W : Wd} {Q : α → Wd → Prop} {E' E'' : Err → Wd → Prop}, wp (nox m) W Q E' → wp m W Q E''
  | .ret _, _, _, _, _, h => h
  | .raise _, _, _, _, _, h => h.elim
  | .draw i l k, W, Q, E', E'', h => by
    obtain ⟨h0, h1, h2, h3⟩ := h
    exact ⟨h0, h1, h2, fun r a b => wp_nox (m := k r) (h3 r a b)⟩
  | .onew o k, W, Q, E', E'', h => wp_nox (m := k W.length) (W := W ++ [o]) h
  | .oget i k, W, Q, E', E'', h => by
    obtain ⟨o, h0, h1⟩ := h
    exact ⟨o, h0, wp_nox (m := k o) h1⟩
  | .oset i o k, W, Q, E', E'', h => by
    obtain ⟨h0, h1⟩ := h
    exact ⟨h0, wp_nox (m := k) h1⟩
  | .stuck, _, _, _, _, h => h.elim
def wipeE (en : En) : List Nat → En
  | [] => en
  | v :: vs => (wipeE en vs).set v none
def compL (own sl : List Nat) (bd : PyData → Option (List PyData)) (tt : En → M Bool) (el : En → M RV) (en : En) : List PyData → M (List PyData)
  | [] => .ret []
  | x :: xs => match bd x with
    | none => .stuck
    | some ds => (nox (tt (setE (wipeE en own) sl ds))).bind fun b => if b = true then (nox (el (setE (wipeE en own) sl ds))).bind fun r => match r.1 with
        | .d y => (compL own sl bd tt el en xs).bind fun ys => .ret (y :: ys)
        | _ => .stuck
      else compL own sl bd tt el en xs
def dComp (own sl : List Nat) (bd : PyData → Option (List PyData)) (it : En → M (List PyData)) (tt : En → M Bool) (el : En → M RV) : En → M RV := fun en => (it en).bind fun items =>
  if items.length ≤ lim then (compL own sl bd tt el en items).bind fun ys => .ret (.d (.list ys), true) else .stuck
theorem wipeE_some : ∀ {vs : List Nat} {en : En} {i : Nat} {s : Slot}, (wipeE en vs)[i]? = some (some s) → en[i]? = some (some s) ∧ i ∉ vs
  | [], _, _, _, h => ⟨h, by simp⟩
  | v :: vs, en, i, s, h => by
    unfold wipeE at h
    by_cases hi : v = i
    · subst hi
      by_cases hv : v < (wipeE en vs).length
      · rw [List.getElem?_set_self hv] at h; cases h
      · rw [List.getElem?_eq_none (by simpa using hv)] at h; cases h
    · rw [List.getElem?_set_ne hi] at h
      obtain ⟨h1, h2⟩ := wipeE_some h
      exact ⟨h1, by simp only [List.mem_cons, not_or]; exact ⟨fun e => hi e.symm, h2⟩⟩
theorem wipe_get {σ : St} {i : Nat} : ∀ {vs : List Nat}, i ∉ vs → (wipe σ vs)[i]? = σ[i]?
  | [], _ => rfl
  | v :: vs, h => by
    simp only [List.mem_cons, not_or] at h
    unfold wipe
    rw [List.getElem?_set_ne (fun z => h.1 z.symm)]
    exact wipe_get h.2
theorem wipe_ext {σ τ : St} {vs : List Nat} (hl : σ.length = τ.length) (h : ∀ i, i ∉ vs → σ[i]? = τ[i]?) : wipe σ vs = wipe τ vs := by
  apply List.ext_getElem?
  intro i
  by_cases hi : i ∈ vs
  · have none_at : ∀ (ρ : St) (ws : List Nat), i ∈ ws → (wipe ρ ws)[i]? = if i < ρ.length then some none else none := by
      intro ρ ws
      induction ws with
      | nil => intro h; cases h
      | cons w ws ih =>
        intro h
        unfold wipe
        by_cases e : w = i
        · subst e
          by_cases hv : w < (wipe ρ ws).length
          · rw [List.getElem?_set_self hv, if_pos (by rw [wipe_length] at hv; exact hv)]
          · rw [List.getElem?_eq_none (by simpa using hv), if_neg (by rw [wipe_length] at hv; exact hv)]
        · rw [List.getElem?_set_ne e]
          exact ih ((List.mem_cons.mp h).resolve_left fun z => e z.symm)
    rw [none_at σ vs hi, none_at τ vs hi, hl]
  · rw [wipe_get hi, wipe_get hi]
    exact h i hi
theorem setS_length : ∀ (sl : List Nat) (vs : List V) (σ : St), (setS σ sl vs).length = σ.length
  | [], _, _ => rfl
  | _ :: _, [], _ => rfl
  | i :: is, v :: vs, σ => by unfold setS; rw [setS_length is vs, List.length_set]
theorem setS_get : ∀ (sl : List Nat) (vs : List V) (σ : St) {i : Nat}, i ∉ sl → (setS σ sl vs)[i]? = σ[i]?
  | [], _, _, _, _ => rfl
  | _ :: _, [], _, _, _ => rfl
  | j :: is, v :: vs, σ, i, h => by
    simp only [List.mem_cons, not_or] at h
    unfold setS
    rw [setS_get is vs _ h.2, List.getElem?_set_ne (fun z => h.1 z.symm)]
theorem wipe_setS {σ : St} {own sl : List Nat} {vs : List V} (h : ∀ i ∈ sl, i ∈ own) : wipe (setS (wipe σ own) sl vs) own = wipe σ own := by
  refine wipe_ext (by rw [setS_length, wipe_length]) fun i hi => ?_
  rw [setS_get _ _ _ fun z => hi (h i z), wipe_get hi]
/-- slots set to data -/
theorem RepE.setE {K : PySem.W.Frag} {S : Addr → Prop} {g : Gh} {W : Wd} {H : Hp} : ∀ {sl : List Nat} {vs : List V} {ds : List PyData} {σ : St} {en : En}, RepE mo K S g W σ H en → RpAll K (cut H fun a => S a ∨ g.R a) vs ds → RepE mo K S g W (setS σ sl vs) H (setE en sl ds)
  | [], _, _, _, _, h, _ => h
  | _ :: _, [], _, _, _, h, r => by cases r; exact h
  | i :: is, v :: vs, _, σ, en, h, r => by
    cases r with
    | cons r1 r2 =>
      unfold setS Dt.setE
      have hl := h.len
      refine RepE.setE (sl := is) ⟨fun j a e => ?_, by rw [List.length_set, List.length_set]; exact hl, h.wok, h.sd⟩ r2
      by_cases hj : i = j
      · subst hj
        by_cases hi : i < en.length
        · rw [List.getElem?_set_self hi] at e
          cases e
          exact ⟨v, List.getElem?_set_self (by omega), r1⟩
        · rw [List.getElem?_eq_none (by simpa using hi)] at e
          cases e
      · rw [List.getElem?_set_ne hj] at e
        obtain ⟨u, e1, r⟩ := h.sl j a e
        exact ⟨u, by rw [List.getElem?_set_ne hj]; exact e1, r⟩
theorem wipeE_length (en : En) : ∀ vs : List Nat, (wipeE en vs).length = en.length
  | [] => rfl
  | v :: vs => by unfold wipeE; rw [List.length_set, wipeE_length en vs]
theorem RepE.wipe {K : PySem.W.Frag} {S : Addr → Prop} {g : Gh} {W : Wd} {H : Hp} {σ : St} {en : En} {vs : List Nat} (h : RepE mo K S g W σ H en) : RepE mo K S g W (wipe σ vs) H (wipeE en vs) :=
  ⟨fun i a e => let ⟨e1, n⟩ := wipeE_some e; let ⟨v, e2, r⟩ := h.sl i a e1; ⟨v, by rw [wipe_get n]; exact e2, r⟩, by rw [wipeE_length, wipe_length]; exact h.len, h.wok, h.sd⟩

theorem comp_run {sl vs' : List Nat} {bd : PyData → Option (List PyData)} {it : En → M (List PyData)} {tt : En → M Bool} {el : En → M RV} {wi : TI} (hsub : ∀ i ∈ sl, i ∈ vs')
    (wi' : ∀ (S : Addr → Prop) (g : Gh) (W : Wd) (σ : St) (H : Hp) (en : En) (R : It → Hp → Prop), RepE mo X.K S g W σ H en → wp (it en) W (fun items W' => ∀ g' H' J, Step g H g' H' → WOk mo X.K S g' W' H' → ItOk X.K (cut H' fun a => S a ∨ g'.R a) J items → R J H') (EE mo X.K S g H E) → wi σ H R)
    (S : Addr → Prop) (g : Gh) (W : Wd) (σ : St) (H : Hp) (en : En) (Q : VK) (hR : RepE mo X.K S g W σ H en) (h : wp (dComp vs' sl bd it tt el en) W (QE mo X.K S g H Q) (EE mo X.K S g H E)) :
    tLc wi (tDG X.K sl bd) (tDT mo X.K E0 tt) (tDE mo X.K E0 el) vs' σ H Q := by
  unfold dComp at h
  rw [wp_bind] at h
  refine wi' S g W σ H en _ hR (wp_mono h (fun items W1 q g1 H1 J s1 w1 ito => ?_) fun _ _ q => q)
  intro D hD
  split at q
  · rename_i hlen
    rw [wp_bind] at q
    have nSD : ¬ S D := fun z => s1.dom D (hR.sd D z) hD
    have nRD : ¬ g1.R D := fun z => w1.rdom z hD
    refine ⟨fun i m H' => m = items.length - i ∧ i ≤ items.length ∧ ∃ (g' : Gh) (W' : Wd) (acc : List PyData) (accV : List V), Step g1 H1 g' H' ∧ WOk mo X.K (fun b => S b ∨ b = D) g' W' H' ∧ H' D = some (.lst accV) ∧ ¬ g'.R D ∧
      RpAll X.K (cut H' fun a => (S a ∨ g'.R a) ∨ a = D) accV acc ∧ acc.length ≤ i ∧ wp (compL vs' sl bd tt el en (items.drop i)) W' (fun ys W'' => QE mo X.K S g H Q (.d (.list (acc ++ ys)), true) W'') (EE mo X.K S g H E),
      ⟨items.length, by simp, Nat.zero_le _, g1, W1, [], [], .of_same (same_new hD), w1.new hD, upd_same, nRD, .nil, Nat.zero_le _, by rw [List.drop_zero]; exact q⟩, ?_⟩
    rintro i m H' ⟨rfl, hi, g', W', acc, accV, s', w', hD', nR', ra, hacc, hw⟩
    have hC : Same (cut H1 fun a => S a ∨ g1.R a) H' := fun a o eo => (s'.keep a o (fun z => (cut_some.mp eo).2 (.inr z)) (cut_some.mp eo).1).1
    by_cases hlt : i < items.length
    · right
      have hd : items[i]? = some items[i] := List.getElem?_eq_getElem hlt
      obtain ⟨go, yl⟩ := ito.go i H' _ hd hC
      rw [List.drop_eq_getElem_cons hlt] at hw
      unfold compL at hw
      split at hw
      · exact hw.elim
      · rename_i ds hbd
        rw [wp_bind] at hw
        refine ⟨go, fun H2 => ∃ m', m' < items.length - i ∧ (m' = items.length - (i + 1) ∧ i + 1 ≤ items.length ∧ ∃ (g' : Gh) (W' : Wd) (acc : List PyData) (accV : List V), Step g1 H1 g' H2 ∧ WOk mo X.K (fun b => S b ∨ b = D) g' W' H2 ∧ H2 D = some (.lst accV) ∧ ¬ g'.R D ∧
          RpAll X.K (cut H2 fun a => (S a ∨ g'.R a) ∨ a = D) accV acc ∧ acc.length ≤ i + 1 ∧ wp (compL vs' sl bd tt el en (items.drop (i + 1))) W' (fun ys W'' => QE mo X.K S g H Q (.d (.list (acc ++ ys)), true) W'') (EE mo X.K S g H E)),
          fun _ z => z, fun x H'' y => ?_⟩
        obtain ⟨sm, rx⟩ := yl x H'' y
        have w2 : WOk mo X.K (fun b => S b ∨ b = D) g' W' H'' := w'.same sm
        have hD2 : H'' D = some (.lst accV) := sm _ _ hD'
        -- the item, apart from the list that is made
        refine ⟨cut H'' fun a => (S a ∨ a = D) ∨ g'.R a, items[i], ds, rx.mono fun a o eo => ?_, cut_sub, hbd, fun vs rvs => ⟨wipe_setS hsub, ?_⟩⟩
        · unfold mixC at eo
          split at eo
          · rename_i e0
            refine cut_some.mpr ⟨eo, fun z => z.elim (fun z => z.elim (fun z => ?_) fun z => ?_) fun z => ?_⟩
            · exact s'.dom a (s1.dom a (hR.sd a z)) e0
            · subst z; rw [hD'] at e0; cases e0
            · exact w'.rdom z e0
          · obtain ⟨e1, n1⟩ := cut_some.mp eo
            obtain ⟨e2, n2⟩ := s'.keep a o (fun z => n1 (.inr z)) e1
            refine cut_some.mpr ⟨sm a o e2, fun z => z.elim (fun z => z.elim (fun z => n1 (.inl z)) fun z => ?_) n2⟩
            subst z; rw [hD] at e1; cases e1
        · have hRS : RepE mo X.K (fun b => S b ∨ b = D) g' W' σ H'' en := by
            refine ⟨fun j a ej => ?_, hR.len, w2, fun a z => z.elim (fun z => ?_) fun z => ?_⟩
            · obtain ⟨v, e1, r⟩ := hR.sl j a ej
              refine ⟨v, e1, ?_⟩
              have r1 := r.step s1
              cases a with
              | d p =>
                refine Rp.mono (cut_mono fun b o eb nb => ?_) r1
                obtain ⟨e2, n2⟩ := s'.keep b o (fun z => nb (.inr z)) eb
                refine ⟨sm b o e2, fun z => z.elim (fun z => z.elim (fun z => nb (.inl z)) fun z => ?_) n2⟩
                subst z; rw [hD] at eb; cases eb
              | ob k =>
                obtain ⟨a, e2, e3⟩ := r1
                exact ⟨a, s'.adr k a e2, e3⟩
              | scr ns =>
                obtain ⟨a, e2, e3⟩ := r1
                refine ⟨a, e2, Same.seq (cut_mono fun b o eb nb => ?_) e3⟩
                obtain ⟨e2, n2⟩ := s'.keep b o (fun z => nb (.inr z)) eb
                refine ⟨sm b o e2, fun z => z.elim (fun z => z.elim (fun z => nb (.inl z)) fun z => ?_) n2⟩
                subst z; rw [hD] at eb; cases eb
              | exc er =>
                obtain ⟨a, e2, e3, n3, n4⟩ := r1
                obtain ⟨e4, n5⟩ := s'.keep a _ n4 e3
                refine ⟨a, e2, sm _ _ e4, fun z => z.elim n3 fun z => ?_, n5⟩
                subst z; rw [hD] at e3; cases e3
            · exact same_ne sm (s'.dom a (s1.dom a (hR.sd a z)))
            · subst z; rw [hD2]; exact fun z => by cases z
          have hRE := (hRS.wipe (vs := vs')).setE (sl := sl) rvs
          refine ⟨fun b => S b ∨ b = D, g', W', _, hRE, wp_mono (wp_nox (E'' := EE mo X.K (fun b => S b ∨ b = D) g' H'' E0) hw) (fun b W3 q3 g3 H3 s3 w3 => ?_) fun _ _ q => q⟩
          have s13 : Step g1 H1 g3 H3 := (s'.trans (.of_same sm)).trans s3
          obtain ⟨hD3, nR3⟩ := s3.keep D _ nR' hD2
          have ra3 : RpAll X.K (cut H3 fun a => (S a ∨ g3.R a) ∨ a = D) accV acc := ra.mono (cut_mono fun a o ea na => by
            obtain ⟨e1, n1⟩ := (Step.of_same (g := g') sm).trans s3 |>.keep a o (fun z => na (.inl (.inr z))) ea
            exact ⟨e1, fun z => z.elim (fun z => z.elim (fun z => na (.inl (.inl z))) n1) fun z => na (.inr z)⟩)
          cases b with
          | true =>
            rw [if_pos rfl] at q3
            refine iteT ?_
            rw [wp_bind] at q3
            refine ⟨fun b => S b ∨ b = D, g3, W3, _, hRE.step s3 w3, wp_mono (wp_nox (E'' := EE mo X.K (fun b => S b ∨ b = D) g3 H3 E0) q3) (fun r W4 q4 g4 v4 H4 s4 w4 rr4 => ?_) fun _ _ q => q⟩
            try dsimp only at q4
            split at q4
            · rename_i y' ey
              replace rr4 := RepR.at rr4 ey
              rw [wp_bind] at q4
              obtain ⟨hD4, nR4⟩ := s4.keep D _ nR3 hD3
              have s14 := s13.trans s4
              refine ⟨accV, hD4, lim_lt (Nat.le_trans (by rw [ra.length]; exact hacc) (Nat.le_trans hi hlen)), items.length - (i + 1), by omega, rfl, hlt, g4, W4, acc ++ [y'], accV ++ [v4], ?_, w4.put nR4 hD4, upd_same, nR4, ?_, by simp; exact hacc, ?_⟩
              · refine ⟨fun a o na ea => ?_, fun a ha => ?_, s14.adr⟩
                · obtain ⟨e1, n1⟩ := s14.keep a o na ea
                  refine ⟨?_, n1⟩
                  rw [upd_ne (fun z => by subst z; rw [hD] at ea; cases ea)]
                  exact e1
                · by_cases z : a = D
                  · subst z; rw [upd_same]; exact fun z => by cases z
                  · rw [upd_ne z]; exact s14.dom a ha
              · refine RpAll.snoc (ra3.mono (cut_mono fun a o ea na => ?_)) (Rp.mono (cut_mono fun a o ea na => ?_) rr4.1)
                · obtain ⟨e1, n1⟩ := s4.keep a o (fun z => na (.inl (.inr z))) ea
                  refine ⟨by rw [upd_ne (fun z => na (.inr z))]; exact e1, fun z => z.elim (fun z => z.elim (fun z => na (.inl (.inl z))) n1) fun z => na (.inr z)⟩
                · refine ⟨by rw [upd_ne (fun z => na (.inl (.inr z)))]; exact ea, fun z => z.elim (fun z => z.elim (fun z => na (.inl (.inl z))) fun z => na (.inr z)) fun z => na (.inl (.inr z))⟩
              · refine wp_mono q4 (fun ys W5 q5 => ?_) fun _ _ q => q
                rw [List.append_assoc]
                exact q5
            · exact q4.elim
          | false =>
            rw [if_neg Bool.false_ne_true] at q3
            refine iteF ?_
            exact ⟨items.length - (i + 1), by omega, rfl, hlt, g3, W3, acc, accV, s13, w3, hD3, nR3, ra3, by omega, q3⟩
    · left
      have ei : i = items.length := by omega
      subst ei
      refine ⟨ito.stop _ H' (Nat.le_refl _) hC, ?_⟩
      rw [List.drop_length] at hw
      have hw' : QE mo X.K S g H Q (.d (.list (acc ++ [])), true) W' := hw
      rw [List.append_nil] at hw'
      refine hw' g' (.ref D) H' (s1.trans s') (w'.less fun a z => .inl z) ⟨.lst (cut_some.mpr ⟨hD', fun z => z.elim nSD nR'⟩) (ra.mono (cut_mono fun a o ea na => ⟨ea, fun z => na (.inl z)⟩)), fun _ => ⟨D, accV, acc, rfl, rfl, s1.back hD, hD', nSD, nR', ra, w'⟩⟩
  · exact q.elim
theorem de_comp {iter : Expr} {ifs : List Expr} {scope : Scope} {own : List (Str × Nat)} {sl : List Nat} {bd : PyData → Option (List PyData)} {it : En → M (List PyData)} {tt : En → M Bool} {el : En → M RV} (hc : X.calm = true) (hN : X.N.Nodup) (hi : DI X mo E tg iter it) (ok : BlkOk X.N X.env.scope scope own)
    (hg : ∀ (s : Shared) (H : Hp) (C : Addr) (cl : List (Str × Addr)) (fp : List Addr), DG (X.blk s H scope (compEnvC scope cl C X.env) fp) tg sl bd) (ht : ∀ (s : Shared) (H : Hp) (C : Addr) (cl : List (Str × Addr)) (fp : List Addr), DTs (X.blk s H scope (compEnvC scope cl C X.env) fp) mo E0 ifs tt)
    (he : ∀ (s : Shared) (H : Hp) (C : Addr) (cl : List (Str × Addr)) (fp : List Addr), DE (X.blk s H scope (compEnvC scope cl C X.env) fp) mo E0 e el) (hsub : ∀ i ∈ sl, i ∈ own.map (·.2) := by decide) (hs : ∀ x, foldedSetIterable iter X.env x = pure x := by intro _; rfl) :
    DE X mo E (.ListComp e [⟨tg, iter, ifs, 0⟩] scope pos) (dComp (own.map (·.2)) sl bd it tt el) := by
  obtain ⟨wi, pi, wi'⟩ := hi
  exact ⟨tLc wi (tDG X.K sl bd) (tDT mo X.K E0 tt) (tDE mo X.K E0 el) (own.map (·.2)), pe_lc hc hN pi ok (fun s H C cl fp => (hg s H C cl fp).can) (fun s H C cl fp => (show PTs _ ifs (tDT mo X.K E0 tt) from ht s H C cl fp)) (fun s H C cl fp => (he s H C cl fp).can) hs, comp_run hsub wi'⟩
end
end Dt

/-! The data layer, part 6: statements. -/
namespace Dt
open PySem L2

inductive Out where
  | nx (en : En)
  | rt (r : RV)
  | bk (en : En)
  | ct (en : En)
/-- the lists that the frame's own slots hold alone -/
def Ow (σ : St) (en : En) (a : Addr) : Prop := ∃ (i : Nat) (xs : List PyData), en[i]? = some (some (.own xs)) ∧ σ[i]? = some (some (.ref a))
def hideS : Option Slot → Option Slot
  | some (.own _) => none
  | s => s
def expoS : Option Slot → Option Slot
  | some (.own xs) => some (.v (.d (.list xs)))
  | s => s
def hide (en : En) : En := en.map hideS
def expo (en : En) : En := en.map expoS
structure RepS (mo : Mo) (K : PySem.W.Frag) (S₀ : Addr → Prop) (g₀ : Gh) (H₀ Fr : Hp) (g : Gh) (W : Wd) (σ : St) (H : Hp) (en : En) : Prop where
  len : en.length = σ.length
  base : Step g₀ H₀ g H
  frm : ∀ a o, Fr a = some o → H a = some o ∧ ¬ Ow σ en a ∧ ¬ g.R a
  val : ∀ (i : Nat) (a : AV), en[i]? = some (some (.v a)) → ∃ v, σ[i]? = some (some v) ∧ RepA mo K (fun b => S₀ b ∨ Ow σ en b) g H v a
  own : ∀ (i : Nat) (xs : List PyData), en[i]? = some (some (.own xs)) → ∃ p vs, σ[i]? = some (some (.ref p)) ∧ H p = some (.lst vs) ∧ H₀ p = none ∧ ¬ g.R p ∧ RpAll K (cut H fun b => (S₀ b ∨ Ow σ en b) ∨ g.R b) vs xs
  inj : ∀ (i j : Nat) (xs ys : List PyData) (p : Addr), en[i]? = some (some (.own xs)) → en[j]? = some (some (.own ys)) → σ[i]? = some (some (.ref p)) → σ[j]? = some (some (.ref p)) → i = j
  wok : WOk mo K S₀ g W H
  sd : ∀ a, S₀ a → H₀ a ≠ none
def QS (mo : Mo) (K : PySem.W.Frag) (S₀ : Addr → Prop) (g₀ : Gh) (H₀ Fr : Hp) (D : Ends) : Out → Wd → Prop := fun o W' => match o with
  | .nx en' => ∀ g' σ' H', RepS mo K S₀ g₀ H₀ Fr g' W' σ' H' en' → D.nx σ' H'
  | .bk en' => ∀ g' σ' H', RepS mo K S₀ g₀ H₀ Fr g' W' σ' H' en' → D.bk σ' H'
  | .ct en' => ∀ g' σ' H', RepS mo K S₀ g₀ H₀ Fr g' W' σ' H' en' → D.ct σ' H'
  | .rt r => ∀ g' v H', Step g₀ H₀ g' H' → WOk mo K S₀ g' W' H' → RepR mo K S₀ g' W' H₀ H' v r → D.rt v H'
def DS (X : Cx) (mo : Mo) (E : XK) (st : Stmt) (s : En → M Out) : Prop :=
  ∃ t : TS, PS X st t ∧ ∀ (S₀ : Addr → Prop) (g₀ : Gh) (H₀ Fr : Hp) (g : Gh) (W : Wd) (σ : St) (H : Hp) (en : En) (D : Ends), RepS mo X.K S₀ g₀ H₀ Fr g W σ H en → wp (s en) W (QS mo X.K S₀ g₀ H₀ Fr D) (EE mo X.K S₀ g₀ H₀ E) → t D σ H
def DSs (X : Cx) (mo : Mo) (E : XK) (st : List Stmt) (s : En → M Out) : Prop :=
  ∃ t : TS, PSs X st t ∧ ∀ (S₀ : Addr → Prop) (g₀ : Gh) (H₀ Fr : Hp) (g : Gh) (W : Wd) (σ : St) (H : Hp) (en : En) (D : Ends), RepS mo X.K S₀ g₀ H₀ Fr g W σ H en → wp (s en) W (QS mo X.K S₀ g₀ H₀ Fr D) (EE mo X.K S₀ g₀ H₀ E) → t D σ H
section
variable {mo : Mo} {K : PySem.W.Frag} {S₀ : Addr → Prop} {g₀ g g' : Gh} {H₀ Fr H H' : Hp} {W W' : Wd} {σ : St} {en : En} {E : XK}
theorem get_hide {i : Nat} {s : Slot} (h : (hide en)[i]? = some (some s)) : en[i]? = some (some s) ∧ ∀ xs, s ≠ .own xs := by
  unfold hide at h
  rw [List.getElem?_map, Option.map_eq_some_iff] at h
  obtain ⟨o, e1, e2⟩ := h
  cases o with
  | none => cases e2
  | some u =>
    cases u with
    | own xs => cases e2
    | v a => cases e2; exact ⟨e1, fun xs z => by cases z⟩
theorem get_expo {i : Nat} {a : AV} (h : (expo en)[i]? = some (some (.v a))) : en[i]? = some (some (.v a)) ∨ ∃ xs, a = .d (.list xs) ∧ en[i]? = some (some (.own xs)) := by
  unfold expo at h
  rw [List.getElem?_map, Option.map_eq_some_iff] at h
  obtain ⟨o, e1, e2⟩ := h
  cases o with
  | none => cases e2
  | some u =>
    cases u with
    | own xs => cases e2; exact .inr ⟨xs, rfl, e1⟩
    | v a => cases e2; exact .inl e1
theorem RepS.ows (r : RepS mo K S₀ g₀ H₀ Fr g W σ H en) {a : Addr} (h : Ow σ en a) : (∃ vs, H a = some (.lst vs)) ∧ H₀ a = none ∧ ¬ g.R a := by
  obtain ⟨i, xs, e1, e2⟩ := h
  obtain ⟨p, vs, e3, h1, h2, h3, _⟩ := r.own i xs e1
  rw [e2] at e3
  cases e3
  exact ⟨⟨vs, h1⟩, h2, h3⟩
theorem RepS.nS (r : RepS mo K S₀ g₀ H₀ Fr g W σ H en) {a : Addr} (h : Ow σ en a) : ¬ S₀ a := fun z => r.sd a z (r.ows h).2.1
theorem RepS.sdH (r : RepS mo K S₀ g₀ H₀ Fr g W σ H en) {a : Addr} (h : S₀ a) : H a ≠ none := r.base.dom a (r.sd a h)
theorem RepS.hideE (r : RepS mo K S₀ g₀ H₀ Fr g W σ H en) : RepE mo K (fun b => S₀ b ∨ Ow σ en b) g W σ H (hide en) where
  sl := fun i a e => r.val i a (get_hide e).1
  len := by unfold hide; rw [List.length_map]; exact r.len
  wok := r.wok.any
  sd := fun a z => z.elim (fun z => r.sdH z) fun z => by
    obtain ⟨⟨vs, e⟩, _⟩ := r.ows z
    rw [e]; exact fun z => by cases z
theorem RepS.expoE (r : RepS mo K S₀ g₀ H₀ Fr g W σ H en) : RepE mo K S₀ g W σ H (expo en) where
  sl := fun i a e => by
    rcases get_expo e with e' | ⟨xs, rfl, e'⟩
    · obtain ⟨v, e1, q⟩ := r.val i a e'
      exact ⟨v, e1, q.less fun a z => .inl z⟩
    · obtain ⟨p, vs, e1, h1, h2, h3, h4⟩ := r.own i xs e'
      refine ⟨_, e1, .lst (cut_some.mpr ⟨h1, fun z => z.elim (fun z => r.sd p z h2) h3⟩) (h4.mono (cut_mono fun b o eb nb => ⟨eb, fun z => nb (z.imp_left .inl)⟩))⟩
  len := by unfold expo; rw [List.length_map]; exact r.len
  wok := r.wok
  sd := fun a z => r.sdH z
theorem RepS.step (r : RepS mo K S₀ g₀ H₀ Fr g W σ H en) {T : Addr → Prop} (h : Step g H g' H') (w : WOk mo K T g' W' H') : RepS mo K S₀ g₀ H₀ Fr g' W' σ H' en where
  len := r.len
  base := r.base.trans h
  frm := fun a o e => let ⟨e1, n1, n2⟩ := r.frm a o e; let ⟨e2, n3⟩ := h.keep a o n2 e1; ⟨e2, n1, n3⟩
  val := fun i a e => let ⟨v, e1, q⟩ := r.val i a e; ⟨v, e1, q.step h⟩
  own := fun i xs e => by
    obtain ⟨p, vs, e1, h1, h2, h3, h4⟩ := r.own i xs e
    obtain ⟨e2, n2⟩ := h.keep p _ h3 h1
    exact ⟨p, vs, e1, e2, h2, n2, h4.mono (cut_step h)⟩
  inj := r.inj
  wok := w.any
  sd := r.sd
theorem ES.of (r : RepS mo K S₀ g₀ H₀ Fr g W σ H en) {T : Addr → Prop} {er : Err} {W' : Wd} (q : EE mo K S₀ g₀ H₀ E er W') : EE mo K T g H E er W' := fun g' H' s w => q g' H' (r.base.trans s) w.any
theorem set_cases {α : Type} {l : List (Option α)} {i j : Nat} {x y : α} (h : (l.set i (some x))[j]? = some (some y)) : (i = j ∧ x = y ∧ i < l.length) ∨ (i ≠ j ∧ l[j]? = some (some y)) := by
  by_cases hj : i = j
  · subst hj
    by_cases hi : i < l.length
    · rw [List.getElem?_set_self hi] at h
      cases h
      exact .inl ⟨rfl, rfl, hi⟩
    · rw [List.getElem?_eq_none (by simpa using hi)] at h
      cases h
  · rw [List.getElem?_set_ne hj] at h
    exact .inr ⟨hj, h⟩
theorem ow_set {i : Nat} {v : V} {a : AV} {b : Addr} (h : Ow (σ.set i (some v)) (en.set i (some (.v a))) b) : Ow σ en b := by
  obtain ⟨j, xs, e1, e2⟩ := h
  rcases set_cases e1 with ⟨_, z, _⟩ | ⟨n, e1⟩
  · cases z
  · rw [List.getElem?_set_ne n] at e2
    exact ⟨j, xs, e1, e2⟩
/-- a slot is set to a value -/
theorem RepS.set (r : RepS mo K S₀ g₀ H₀ Fr g W σ H en) {i : Nat} {v : V} {a : AV} (q : RepA mo K (fun b => S₀ b ∨ Ow σ en b) g H v a) : RepS mo K S₀ g₀ H₀ Fr g W (σ.set i (some v)) H (en.set i (some (.v a))) where
  len := by rw [List.length_set, List.length_set]; exact r.len
  base := r.base
  frm := fun b o e => let ⟨e1, n1, n2⟩ := r.frm b o e; ⟨e1, fun z => n1 (ow_set z), n2⟩
  val := fun j c e => by
    rcases set_cases e with ⟨rfl, z, hi⟩ | ⟨n, e⟩
    · cases z
      exact ⟨v, List.getElem?_set_self (by rw [← r.len]; exact hi), q.less fun b z => z.imp_right ow_set⟩
    · obtain ⟨u, e1, q'⟩ := r.val j c e
      exact ⟨u, by rw [List.getElem?_set_ne n]; exact e1, q'.less fun b z => z.imp_right ow_set⟩
  own := fun j xs e => by
    rcases set_cases e with ⟨_, z, _⟩ | ⟨n, e⟩
    · cases z
    · obtain ⟨p, vs, e1, h1, h2, h3, h4⟩ := r.own j xs e
      exact ⟨p, vs, by rw [List.getElem?_set_ne n]; exact e1, h1, h2, h3, h4.mono (cut_mono fun b o eb nb => ⟨eb, fun z => nb (z.imp_left fun z => z.imp_right ow_set)⟩)⟩
  inj := fun j k xs ys p e1 e2 e3 e4 => by
    rcases set_cases e1 with ⟨_, z, _⟩ | ⟨n, e1⟩
    · cases z
    rcases set_cases e2 with ⟨_, z, _⟩ | ⟨m, e2⟩
    · cases z
    rw [List.getElem?_set_ne n] at e3
    rw [List.getElem?_set_ne m] at e4
    exact r.inj j k xs ys p e1 e2 e3 e4
  wok := r.wok
  sd := r.sd
theorem ow_setO {i : Nat} {p b : Addr} {xs : List PyData} (h : Ow (σ.set i (some (.ref p))) (en.set i (some (.own xs))) b) : Ow σ en b ∨ b = p := by
  obtain ⟨j, ys, e1, e2⟩ := h
  by_cases hj : i = j
  · subst hj
    rcases set_cases e2 with ⟨_, z, _⟩ | ⟨n, _⟩
    · cases z; exact .inr rfl
    · exact absurd rfl n
  · rw [List.getElem?_set_ne hj] at e1 e2
    exact .inl ⟨j, ys, e1, e2⟩
/-- a slot is set to a new list of its own -/
theorem RepS.setO (r : RepS mo K S₀ g₀ H₀ Fr g W σ H en) (h : Step g H g' H') {T : Addr → Prop} (w : WOk mo K T g' W' H') {i : Nat} {p : Addr} {vs : List V} {xs : List PyData} (hp : H p = none) (hp' : H' p = some (.lst vs)) (nR : ¬ g'.R p)
    (q : RpAll K (cut H' fun b => ((S₀ b ∨ Ow σ en b) ∨ g'.R b) ∨ b = p) vs xs) : RepS mo K S₀ g₀ H₀ Fr g' W' (σ.set i (some (.ref p))) H' (en.set i (some (.own xs))) := by
  have key : ∀ b o, H b = some o → ¬ ((S₀ b ∨ Ow σ en b) ∨ g.R b) → H' b = some o ∧ ¬ ((S₀ b ∨ Ow (σ.set i (some (.ref p))) (en.set i (some (.own xs))) b) ∨ g'.R b) := fun b o eb nb => by
    obtain ⟨e2, n2⟩ := h.keep b o (fun z => nb (.inr z)) eb
    refine ⟨e2, fun z => z.elim (fun z => z.elim (fun z => nb (.inl (.inl z))) fun z => ?_) n2⟩
    rcases ow_setO z with z | rfl
    · exact nb (.inl (.inr z))
    · rw [hp] at eb; cases eb
  refine ⟨by rw [List.length_set, List.length_set]; exact r.len, r.base.trans h, fun b o e => ?_, fun j c e => ?_, fun j ys e => ?_, fun j k ys zs c e1 e2 e3 e4 => ?_, w.any, r.sd⟩
  · obtain ⟨e1, n1, n2⟩ := r.frm b o e
    obtain ⟨e2, n3⟩ := h.keep b o n2 e1
    refine ⟨e2, fun z => ?_, n3⟩
    rcases ow_setO z with z | rfl
    · exact n1 z
    · rw [hp] at e1; cases e1
  · rcases set_cases e with ⟨_, z, _⟩ | ⟨n, e⟩
    · cases z
    · obtain ⟨u, e1, q'⟩ := r.val j c e
      refine ⟨u, by rw [List.getElem?_set_ne n]; exact e1, ?_⟩
      cases c with
      | d x => exact Rp.mono (cut_mono key) q'
      | scr ns => exact let ⟨a, f1, f2⟩ := q'; ⟨a, f1, Same.seq (cut_mono key) f2⟩
      | ob k => exact let ⟨a, f1, f2⟩ := q'; ⟨a, h.adr k a f1, f2⟩
      | exc er =>
        obtain ⟨a, f1, f2, f3, f4⟩ := q'
        obtain ⟨k1, k2⟩ := key a _ f2 (fun z => z.elim f3 f4)
        exact ⟨a, f1, k1, fun z => k2 (.inl z), fun z => k2 (.inr z)⟩
  · rcases set_cases e with ⟨rfl, z, hi⟩ | ⟨n, e⟩
    · cases z
      refine ⟨p, vs, List.getElem?_set_self (by rw [← r.len]; exact hi), hp', r.base.back hp, nR, q.mono (cut_mono fun b o eb nb => ⟨eb, fun z => z.elim (fun z => z.elim (fun z => nb (.inl (.inl (.inl z)))) fun z => ?_) fun z => nb (.inl (.inr z))⟩)⟩
      rcases ow_setO z with z | z
      · exact nb (.inl (.inl (.inr z)))
      · exact nb (.inr z)
    · obtain ⟨p', us, e1, h1, h2, h3, h4⟩ := r.own j ys e
      obtain ⟨e2, n2⟩ := h.keep p' _ h3 h1
      exact ⟨p', us, by rw [List.getElem?_set_ne n]; exact e1, e2, h2, n2, h4.mono (cut_mono key)⟩
  · have notp : ∀ {m : Nat} {ys : List PyData}, i ≠ m → en[m]? = some (some (.own ys)) → σ[m]? = some (some (.ref p)) → False := fun {m ys} n f1 f2 => by
      obtain ⟨p', us, e1, h1, _⟩ := r.own m ys f1
      rw [f2] at e1
      cases e1
      rw [hp] at h1; cases h1
    rcases set_cases e1 with ⟨rfl, _, _⟩ | ⟨n, e1⟩
    · rcases set_cases e2 with ⟨rfl, _, _⟩ | ⟨m, e2⟩
      · rfl
      · rcases set_cases e3 with ⟨_, z, _⟩ | ⟨n, _⟩
        · cases z
          rw [List.getElem?_set_ne m] at e4
          exact (notp m e2 e4).elim
        · exact absurd rfl n
    · rcases set_cases e2 with ⟨rfl, _, _⟩ | ⟨m, e2⟩
      · rcases set_cases e4 with ⟨_, z, _⟩ | ⟨m, _⟩
        · cases z
          rw [List.getElem?_set_ne n] at e3
          exact (notp n e1 e3).elim
        · exact absurd rfl m
      · rw [List.getElem?_set_ne n] at e3
        rw [List.getElem?_set_ne m] at e4
        exact r.inj j k ys zs c e1 e2 e3 e4
/-- the list of an own slot is changed -/
theorem RepS.putO (r : RepS mo K S₀ g₀ H₀ Fr g W σ H en) {i : Nat} {p : Addr} {us vs : List V} {ys xs : List PyData} (ei : en[i]? = some (some (.own ys))) (es : σ[i]? = some (some (.ref p))) (hp : H p = some (.lst us))
    (q : RpAll K (cut H fun b => (S₀ b ∨ Ow σ en b) ∨ g.R b) vs xs) : RepS mo K S₀ g₀ H₀ Fr g W σ (upd H p (.lst vs)) (en.set i (some (.own xs))) := by
  have op : Ow σ en p := ⟨i, ys, ei, es⟩
  have hi : i < en.length := (List.getElem?_eq_some_iff.mp ei).1
  have oeq : ∀ b, Ow σ (en.set i (some (.own xs))) b ↔ Ow σ en b := fun b => by
    constructor
    · rintro ⟨j, zs, e1, e2⟩
      rcases set_cases e1 with ⟨rfl, _, _⟩ | ⟨n, e1⟩
      · exact ⟨i, ys, ei, e2⟩
      · exact ⟨j, zs, e1, e2⟩
    · rintro ⟨j, zs, e1, e2⟩
      by_cases hj : i = j
      · subst hj
        exact ⟨i, xs, List.getElem?_set_self hi, e2⟩
      · exact ⟨j, zs, by rw [List.getElem?_set_ne hj]; exact e1, e2⟩
  have nR := (r.ows op).2.2
  have h0 := (r.ows op).2.1
  have key : ∀ b o, H b = some o → ¬ ((S₀ b ∨ Ow σ en b) ∨ g.R b) → upd H p (.lst vs) b = some o ∧ ¬ ((S₀ b ∨ Ow σ (en.set i (some (.own xs))) b) ∨ g.R b) := fun b o eb nb =>
    ⟨by rw [upd_ne (show b ≠ p from fun z => by subst z; exact nb (.inl (.inr op)))]; exact eb, fun z => nb (z.imp_left fun z => z.imp_right (oeq b).mp)⟩
  refine ⟨by rw [List.length_set]; exact r.len, ⟨fun b o nb eb => ?_, fun b hb => ?_, r.base.adr⟩, fun b o e => ?_, fun j c e => ?_, fun j zs e => ?_, fun j k zs ws c e1 e2 e3 e4 => ?_, r.wok.put nR hp, r.sd⟩
  · obtain ⟨e1, n1⟩ := r.base.keep b o nb eb
    exact ⟨by rw [upd_ne (show b ≠ p from fun z => by subst z; rw [h0] at eb; cases eb)]; exact e1, n1⟩
  · by_cases z : b = p
    · subst z; rw [upd_same]; exact fun z => by cases z
    · rw [upd_ne z]; exact r.base.dom b hb
  · obtain ⟨e1, n1, n2⟩ := r.frm b o e
    exact ⟨by rw [upd_ne (show b ≠ p from fun z => by subst z; exact n1 op)]; exact e1, fun z => n1 ((oeq b).mp z), n2⟩
  · rcases set_cases e with ⟨_, z, _⟩ | ⟨n, e⟩
    · cases z
    · obtain ⟨u, e1, q'⟩ := r.val j c e
      refine ⟨u, e1, ?_⟩
      cases c with
      | d x => exact Rp.mono (cut_mono key) q'
      | scr ns => exact let ⟨a, f1, f2⟩ := q'; ⟨a, f1, Same.seq (cut_mono key) f2⟩
      | ob k => exact q'
      | exc er =>
        obtain ⟨a, f1, f2, f3, f4⟩ := q'
        obtain ⟨k1, k2⟩ := key a _ f2 (fun z => z.elim f3 f4)
        exact ⟨a, f1, k1, fun z => k2 (.inl z), fun z => k2 (.inr z)⟩
  · rcases set_cases e with ⟨rfl, z, _⟩ | ⟨n, e⟩
    · cases z
      exact ⟨p, vs, es, upd_same, h0, nR, q.mono (cut_mono key)⟩
    · obtain ⟨p', us', e1, h1, h2, h3, h4⟩ := r.own j zs e
      refine ⟨p', us', e1, ?_, h2, h3, h4.mono (cut_mono key)⟩
      rw [upd_ne (show p' ≠ p from fun z => by subst z; exact n (r.inj i j ys zs p' ei e es e1))]
      exact h1
  · have back : ∀ {m : Nat} {us : List PyData}, (en.set i (some (.own xs)))[m]? = some (some (.own us)) → ∃ us', en[m]? = some (some (.own us')) := fun {m us} f => by
      rcases set_cases f with ⟨rfl, _, _⟩ | ⟨n, f⟩
      · exact ⟨ys, ei⟩
      · exact ⟨us, f⟩
    obtain ⟨z1, f1⟩ := back e1
    obtain ⟨z2, f2⟩ := back e2
    exact r.inj j k z1 z2 c f1 f2 e3 e4
/-- a list is no more changed -/
def frz (i : Nat) (en : En) : En := match en[i]? with
  | some (some (.own xs)) => en.set i (some (.v (.d (.list xs))))
  | _ => en
theorem RepS.frz (r : RepS mo K S₀ g₀ H₀ Fr g W σ H en) (i : Nat) : RepS mo K S₀ g₀ H₀ Fr g W σ H (frz i en) := by
  unfold Dt.frz
  split
  · rename_i xs ei
    obtain ⟨p, vs, es, h1, h2, h3, h4⟩ := r.own i xs ei
    have hi : i < en.length := (List.getElem?_eq_some_iff.mp ei).1
    have oeq : ∀ b, Ow σ (en.set i (some (.v (.d (.list xs))))) b → Ow σ en b ∧ b ≠ p := fun b z => by
      obtain ⟨j, zs, e1, e2⟩ := z
      rcases set_cases e1 with ⟨_, z, _⟩ | ⟨n, e1⟩
      · cases z
      · refine ⟨⟨j, zs, e1, e2⟩, fun z => ?_⟩
        subst z
        exact n (r.inj i j xs zs b ei e1 es e2)
    refine ⟨by rw [List.length_set]; exact r.len, r.base, fun b o e => ?_, fun j c e => ?_, fun j zs e => ?_, fun j k zs ws c e1 e2 e3 e4 => ?_, r.wok, r.sd⟩
    · obtain ⟨e1, n1, n2⟩ := r.frm b o e
      exact ⟨e1, fun z => n1 (oeq b z).1, n2⟩
    · rcases set_cases e with ⟨rfl, z, _⟩ | ⟨n, e⟩
      · cases z
        exact ⟨_, es, .lst (cut_some.mpr ⟨h1, fun z => z.elim (fun z => z.elim (fun z => r.sd p z h2) fun z => (oeq p z).2 rfl) h3⟩) (h4.mono (cut_mono fun b o eb nb => ⟨eb, fun z => nb (z.imp_left fun z => z.imp_right fun z => (oeq b z).1)⟩))⟩
      · obtain ⟨u, e1, q'⟩ := r.val j c e
        exact ⟨u, e1, q'.less fun b z => z.imp_right fun z => (oeq b z).1⟩
    · rcases set_cases e with ⟨_, z, _⟩ | ⟨n, e⟩
      · cases z
      · obtain ⟨p', us, e1, k1, k2, k3, k4⟩ := r.own j zs e
        exact ⟨p', us, e1, k1, k2, k3, k4.mono (cut_mono fun b o eb nb => ⟨eb, fun z => nb (z.imp_left fun z => z.imp_right fun z => (oeq b z).1)⟩)⟩
    · rcases set_cases e1 with ⟨_, z, _⟩ | ⟨n, e1⟩
      · cases z
      rcases set_cases e2 with ⟨_, z, _⟩ | ⟨m, e2⟩
      · cases z
      exact r.inj j k zs ws c e1 e2 e3 e4
  · exact r
theorem RepS.setE : ∀ {sl : List Nat} {vs : List V} {ds : List PyData} {σ : St} {en : En}, RepS mo K S₀ g₀ H₀ Fr g W σ H en → RpAll K (cut H fun b => (S₀ b ∨ Ow σ en b) ∨ g.R b) vs ds → RepS mo K S₀ g₀ H₀ Fr g W (setS σ sl vs) H (setE en sl ds)
  | [], _, _, _, _, r, _ => r
  | _ :: _, [], _, _, _, r, q => by cases q; exact r
  | i :: is, v :: vs, _, σ, en, r, q => by
    cases q with
    | cons q1 q2 =>
      unfold setS Dt.setE
      exact RepS.setE (sl := is) (r.set (i := i) (a := .d _) q1) (q2.mono (cut_mono fun b o eb nb => ⟨eb, fun z => nb (z.imp_left fun z => z.imp_right ow_set)⟩))
/-- scalars are the same in every heap -/
def scalP : PyData → Bool
  | .none | .bool _ | .int _ | .str _ => true
  | _ => false
theorem Rp.scal {H H' : Hp} {v : V} {p : PyData} (h : Rp K H v p) (hs : scalP p = true) : Rp K H' v p := by
  cases h with
  | non => exact .non
  | bl b => exact .bl b
  | int b => exact .int b
  | str b => exact .str b
  | lst _ _ => simp [scalP] at hs
  | tup _ _ => simp [scalP] at hs
/-- .. tuples of scalars are no own lists -/
def safeP : PyData → Bool
  | .tuple xs => xs.all scalP
  | p => scalP p
theorem RpAll.scal {H H' : Hp} : ∀ {vs : List V} {ps : List PyData}, RpAll K H vs ps → ps.all scalP = true → RpAll K H' vs ps
  | _, _, .nil, _ => .nil
  | _, _, .cons h t, e => by
    rw [List.all_cons, Bool.and_eq_true] at e
    exact .cons (h.scal e.1) (RpAll.scal t e.2)
theorem RepS.safe (r : RepS mo K S₀ g₀ H₀ Fr g W σ H en) {v : V} {p : PyData} (h : Rp K (cut H fun b => S₀ b ∨ g.R b) v p) (hs : safeP p = true) : Rp K (cut H fun b => (S₀ b ∨ Ow σ en b) ∨ g.R b) v p := by
  cases h with
  | non => exact .non
  | bl b => exact .bl b
  | int b => exact .int b
  | str b => exact .str b
  | lst _ _ => simp [safeP, scalP] at hs
  | tup h1 h2 =>
    refine .tup ?_ (h2.scal (by simpa [safeP] using hs))
    have key : ∀ {a : Addr} {o : HO}, H a = some o → (∀ vs, o ≠ .lst vs) → ¬ (S₀ a ∨ g.R a) → ¬ ((S₀ a ∨ Ow σ en a) ∨ g.R a) := fun {a o} e k n z => z.elim (fun z => z.elim (fun z => n (.inl z)) fun z => by
      obtain ⟨⟨vs, e'⟩, _⟩ := r.ows z
      rw [e] at e'
      exact k vs (Option.some.inj e')) fun z => n (.inr z)
    rcases h1 with (h1 | ⟨o, h1⟩) | h1
    · obtain ⟨e, n⟩ := cut_some.mp h1
      exact .inl (.inl (cut_some.mpr ⟨e, key e (by intro vs q; cases q) n⟩))
    · obtain ⟨e, n⟩ := cut_some.mp h1
      exact .inl (.inr ⟨o, cut_some.mpr ⟨e, key e (by intro vs q; cases q) n⟩⟩)
    · exact .inr h1
end

section
variable {X : Cx} {mo : Mo} {E : XK} {pos p : Pos} {a b c e tg : Expr} {es : List Expr} {fa fb fc : En → M RV} {fs : En → M (List AV)} {ga : En → M Bool} {st : Stmt} {sts : List Stmt} {s1 s2 : En → M Out}

/-! ### blocks -/
def sNil : En → M Out := fun en => .ret (.nx en)
def sSeq (s1 s2 : En → M Out) : En → M Out := fun en => (s1 en).bind fun o => match o with
  | .nx en' => s2 en'
  | o => .ret o
theorem dss_nil : DSs X mo E [] sNil := ⟨tNext, pss_nil, fun S₀ g₀ H₀ Fr g W σ H en D r h => h g σ H r⟩
theorem dss_one (h : DS X mo E st s1) : DSs X mo E [st] s1 := let ⟨t, p, w⟩ := h; ⟨t, pss_one p, w⟩
theorem dss_cons (h1 : DS X mo E st s1) (h2 : DSs X mo E sts s2) : DSs X mo E (st :: sts) (sSeq s1 s2) := by
  obtain ⟨t1, p1, w1⟩ := h1
  obtain ⟨t2, p2, w2⟩ := h2
  refine ⟨tSeq t1 t2, pss_cons p1 p2, fun S₀ g₀ H₀ Fr g W σ H en D r h => ?_⟩
  unfold sSeq at h
  rw [wp_bind] at h
  refine w1 S₀ g₀ H₀ Fr g W σ H en { D with nx := t2 D } r (wp_mono h (fun o W1 q => ?_) fun _ _ q => q)
  cases o with
  | nx en' => exact fun g' σ' H' r' => w2 S₀ g₀ H₀ Fr g' W1 σ' H' en' D r' q
  | rt r => exact q
  | bk en' => exact q
  | ct en' => exact q

/-! ### small statements -/
def sPass : En → M Out := fun en => .ret (.nx en)
def sBreak : En → M Out := fun en => .ret (.bk en)
theorem ds_pass : DS X mo E (.Pass pos) sPass := ⟨tNext, ps_pass, fun S₀ g₀ H₀ Fr g W σ H en D r h => h g σ H r⟩
theorem ds_break : DS X mo E (.Break pos) sBreak := ⟨tBreak, ps_break, fun S₀ g₀ H₀ Fr g W σ H en D r h => h g σ H r⟩
def sExpr (fa : En → M RV) : En → M Out := fun en => (fa (expo en)).bind fun _ => .ret (.nx en)
theorem ds_expr (ha : DE X mo E a fa) (hs : swapsWith a none pos.line X.env = pure false := by rfl) : DS X mo E (.Expr a pos) (sExpr fa) := by
  obtain ⟨ta, pa, wa⟩ := ha
  refine ⟨tDrop ta, ps_expr pa hs, fun S₀ g₀ H₀ Fr g W σ H en D r h => ?_⟩
  unfold sExpr at h
  rw [wp_bind] at h
  exact wa S₀ g W σ H (expo en) _ r.expoE (wp_mono h (fun r1 W1 q g1 v1 H1 s1 w1 rr1 => q g1 σ H1 (r.step s1 w1)) fun _ _ q => ES.of r q)
def sRet (fa : En → M RV) : En → M Out := fun en => (fa (expo en)).bind fun r => .ret (.rt r)
theorem ds_ret (ha : DE X mo E a fa) : DS X mo E (.Return (some a) pos) (sRet fa) := by
  obtain ⟨ta, pa, wa⟩ := ha
  refine ⟨tRet ta, ps_ret pa, fun S₀ g₀ H₀ Fr g W σ H en D r h => ?_⟩
  unfold sRet at h
  rw [wp_bind] at h
  refine wa S₀ g W σ H (expo en) _ r.expoE (wp_mono h (fun r1 W1 q g1 v1 H1 s1 w1 rr1 => ?_) fun _ _ q => ES.of r q)
  exact q g1 v1 H1 (r.base.trans s1) w1 ⟨rr1.1, fun z => let ⟨p, vs, xs, a1, a2, a3, a4⟩ := rr1.2 z; ⟨p, vs, xs, a1, a2, r.base.back a3, a4⟩⟩
/-- return of a name: a list of its own is new for the caller -/
def sRetV (i : Nat) : En → M Out := fun en => match en[i]? with
  | some (some (.own xs)) => .ret (.rt (.d (.list xs), true))
  | some (some (.v a)) => .ret (.rt (a, false))
  | _ => .stuck
theorem ds_retV (i : Nat) {x : Str} {q : Pos} (hN : X.N[i]? = some x := by rfl) (hv : Vis X.env.scope x := by first | exact Or.inl rfl | exact Or.inr (Or.inl rfl) | exact Or.inr (Or.inr rfl)) (hd : (x == ("__debug__" : Str)) = false := by decide)
    (hcd : (x == ("__classdict__" : Str)) = false := by decide) : DS X mo E (.Return (some (.Name x q)) pos) (sRetV i) := by
  refine ⟨tRet (tVar i), ps_ret (pe_var hN hv hd hcd), fun S₀ g₀ H₀ Fr g W σ H en D r h => ?_⟩
  unfold sRetV at h
  split at h
  · rename_i xs ei
    obtain ⟨p, vs, es, h1, h2, h3, h4⟩ := r.own i xs ei
    have op : Ow σ en p := ⟨i, xs, ei, es⟩
    refine ⟨_, es, h g (.ref p) H r.base r.wok ⟨.lst (cut_some.mpr ⟨h1, fun z => z.elim (r.nS op) h3⟩) (h4.mono (cut_mono fun b o eb nb => ⟨eb, fun z => nb (z.imp_left .inl)⟩)), fun _ => ⟨p, vs, xs, rfl, rfl, h2, h1, r.nS op, h3, h4.mono (cut_mono fun b o eb nb => ⟨eb, fun z => nb (z.elim (fun z => z.imp_left .inl) fun z => .inl (.inr (z ▸ op)))⟩), r.wok.any⟩⟩⟩
  · rename_i a ei
    obtain ⟨v, es, q⟩ := r.val i a ei
    exact ⟨v, es, h g v H r.base r.wok ⟨q.less fun b z => .inl z, fun z => by cases z⟩⟩
  · exact h.elim
def sIf (ga : En → M Bool) (s1 s2 : En → M Out) : En → M Out := fun en => (ga (expo en)).bind fun b => if b = true then s1 en else s2 en
theorem ds_if {ss1 ss2 : List Stmt} (hc : DT X mo E c ga) (h1 : DSs X mo E ss1 s1) (h2 : DSs X mo E ss2 s2) : DS X mo E (.If c ss1 ss2 pos) (sIf ga s1 s2) := by
  obtain ⟨tc, pc, wc⟩ := hc
  obtain ⟨t1, p1, w1⟩ := h1
  obtain ⟨t2, p2, w2⟩ := h2
  refine ⟨tIfS tc t1 t2, ps_if pc p1 p2, fun S₀ g₀ H₀ Fr g W σ H en D r h => ?_⟩
  unfold sIf at h
  rw [wp_bind] at h
  refine wc S₀ g W σ H (expo en) _ r.expoE (wp_mono h (fun b W1 q g1 H1 s w => ?_) fun _ _ q => ES.of r q)
  cases b with
  | true =>
    rw [if_pos rfl] at q
    exact iteT (w1 S₀ g₀ H₀ Fr g1 W1 σ H1 en D (r.step s w) q)
  | false =>
    rw [if_neg Bool.false_ne_true] at q
    exact iteF (w2 S₀ g₀ H₀ Fr g1 W1 σ H1 en D (r.step s w) q)

/-! ### assignments -/
/-- x = e -/
def sSet (i : Nat) (fa : En → M RV) : En → M Out := fun en => (fa (hide en)).bind fun r => .ret (.nx (en.set i (some (.v r.1))))
/-- x = e, e a new list that x changes later -/
def sSetO (i : Nat) (fa : En → M RV) : En → M Out := fun en => (fa (hide en)).bind fun r => match r with
  | (.d (.list xs), true) => .ret (.nx (en.set i (some (.own xs))))
  | _ => .stuck
/-- x = e, e a scalar that may be read off the own lists -/
def sSetX (i : Nat) (fa : En → M RV) : En → M Out := fun en => (fa (expo en)).bind fun r => match r.1 with
  | .d p => if safeP p = true then .ret (.nx (en.set i (some (.v (.d p))))) else .stuck
  | _ => .stuck
def AsgI (X : Cx) (st : Stmt) (i : Nat) (te : TE) : Prop := PS X st (tAsg te (gName i))
theorem set_run {te : TE} {i : Nat} (wa : ∀ (S : Addr → Prop) (g : Gh) (W : Wd) (σ : St) (H : Hp) (en : En) (Q : VK), RepE mo X.K S g W σ H en → wp (fa en) W (QE mo X.K S g H Q) (EE mo X.K S g H E) → te σ H Q)
    (S₀ : Addr → Prop) (g₀ : Gh) (H₀ Fr : Hp) (g : Gh) (W : Wd) (σ : St) (H : Hp) (en : En) (D : Ends) (r : RepS mo X.K S₀ g₀ H₀ Fr g W σ H en) (h : wp (sSet i fa en) W (QS mo X.K S₀ g₀ H₀ Fr D) (EE mo X.K S₀ g₀ H₀ E)) : tAsg te (gName i) D σ H := by
  unfold sSet at h
  rw [wp_bind] at h
  exact wa _ g W σ H (hide en) _ r.hideE (wp_mono h (fun r1 W1 q g1 v1 H1 s1 w1 rr1 => q g1 _ H1 ((r.step s1 w1).set rr1.1)) fun _ _ q => ES.of r q)
theorem setO_run {te : TE} {i : Nat} (wa : ∀ (S : Addr → Prop) (g : Gh) (W : Wd) (σ : St) (H : Hp) (en : En) (Q : VK), RepE mo X.K S g W σ H en → wp (fa en) W (QE mo X.K S g H Q) (EE mo X.K S g H E) → te σ H Q)
    (S₀ : Addr → Prop) (g₀ : Gh) (H₀ Fr : Hp) (g : Gh) (W : Wd) (σ : St) (H : Hp) (en : En) (D : Ends) (r : RepS mo X.K S₀ g₀ H₀ Fr g W σ H en) (h : wp (sSetO i fa en) W (QS mo X.K S₀ g₀ H₀ Fr D) (EE mo X.K S₀ g₀ H₀ E)) : tAsg te (gName i) D σ H := by
  unfold sSetO at h
  rw [wp_bind] at h
  refine wa _ g W σ H (hide en) _ r.hideE (wp_mono h (fun r1 W1 q g1 v1 H1 s1 w1 rr1 => ?_) fun _ _ q => ES.of r q)
  try dsimp only at q
  split at q
  · rename_i xs
    obtain ⟨p, vs, xs', rfl, a2, a3, a4, a5, a6, a7, a8⟩ := rr1.2 rfl
    cases a2
    exact q g1 _ H1 (r.setO s1 w1 a3 a4 a6 a7)
  · exact q.elim
theorem setX_run {te : TE} {i : Nat} (wa : ∀ (S : Addr → Prop) (g : Gh) (W : Wd) (σ : St) (H : Hp) (en : En) (Q : VK), RepE mo X.K S g W σ H en → wp (fa en) W (QE mo X.K S g H Q) (EE mo X.K S g H E) → te σ H Q)
    (S₀ : Addr → Prop) (g₀ : Gh) (H₀ Fr : Hp) (g : Gh) (W : Wd) (σ : St) (H : Hp) (en : En) (D : Ends) (r : RepS mo X.K S₀ g₀ H₀ Fr g W σ H en) (h : wp (sSetX i fa en) W (QS mo X.K S₀ g₀ H₀ Fr D) (EE mo X.K S₀ g₀ H₀ E)) : tAsg te (gName i) D σ H := by
  unfold sSetX at h
  rw [wp_bind] at h
  refine wa _ g W σ H (expo en) _ r.expoE (wp_mono h (fun r1 W1 q g1 v1 H1 s1 w1 rr1 => ?_) fun _ _ q => ES.of r q)
  try dsimp only at q
  split at q
  · rename_i p ep
    split at q
    · rename_i hs
      replace rr1 := RepR.at rr1 ep
      exact q g1 _ H1 ((r.step s1 w1).set (a := .d p) ((r.step s1 w1).safe rr1.1 hs))
    · exact q.elim
  · exact q.elim
section
variable {i : Nat} {x : Str} {p' : Pos}
theorem ds_set (hN : X.N.Nodup) (ha : DE X mo E a fa) (hi : X.N[i]? = some x := by rfl) (hx : Loc X.env.scope x := by first | exact Or.inl rfl | exact Or.inr rfl) (hs : swapsWith a (some (.Name x p')) pos.line X.env = pure false := by rfl) (hf : X.fn x = true ∨ X.env.scope.names.lookup x = some .local := by first | exact .inl rfl | exact .inr rfl) :
    DS X mo E (.Assign [.Name x p'] a pos) (sSet i fa) := by
  obtain ⟨ta, pa, wa⟩ := ha
  exact ⟨_, ps_set hN hi hx pa hs hf, set_run wa⟩
theorem ds_setO (hN : X.N.Nodup) (ha : DE X mo E a fa) (hi : X.N[i]? = some x := by rfl) (hx : Loc X.env.scope x := by first | exact Or.inl rfl | exact Or.inr rfl) (hs : swapsWith a (some (.Name x p')) pos.line X.env = pure false := by rfl) (hf : X.fn x = true ∨ X.env.scope.names.lookup x = some .local := by first | exact .inl rfl | exact .inr rfl) :
    DS X mo E (.Assign [.Name x p'] a pos) (sSetO i fa) := by
  obtain ⟨ta, pa, wa⟩ := ha
  exact ⟨_, ps_set hN hi hx pa hs hf, setO_run wa⟩
theorem ds_setX (hN : X.N.Nodup) (ha : DE X mo E a fa) (hi : X.N[i]? = some x := by rfl) (hx : Loc X.env.scope x := by first | exact Or.inl rfl | exact Or.inr rfl) (hs : swapsWith a (some (.Name x p')) pos.line X.env = pure false := by rfl) (hf : X.fn x = true ∨ X.env.scope.names.lookup x = some .local := by first | exact .inl rfl | exact .inr rfl) :
    DS X mo E (.Assign [.Name x p'] a pos) (sSetX i fa) := by
  obtain ⟨ta, pa, wa⟩ := ha
  exact ⟨_, ps_set hN hi hx pa hs hf, setX_run wa⟩
/-- x = [.. for ..], x a plain local -/
theorem ds_setLc {iter : Expr} {ifs : List Expr} {scope : Scope} {own : List (Str × Nat)} {sl : List Nat} {bd : PyData → Option (List PyData)} {it : En → M (List PyData)} {tt : En → M Bool} {el : En → M RV} {cpos : Pos} (hc : X.calm = true) (hN : X.N.Nodup) (hi : DI X mo E tg iter it) (ok : BlkOk X.N X.env.scope scope own)
    (hg : ∀ (s : Shared) (H : Hp) (C : Addr) (cl : List (Str × Addr)) (fp : List Addr), DG (X.blk s H scope (compEnvC scope cl C X.env) fp) tg sl bd) (ht : ∀ (s : Shared) (H : Hp) (C : Addr) (cl : List (Str × Addr)) (fp : List Addr), DTs (X.blk s H scope (compEnvC scope cl C X.env) fp) mo E0 ifs tt)
    (he : ∀ (s : Shared) (H : Hp) (C : Addr) (cl : List (Str × Addr)) (fp : List Addr), DE (X.blk s H scope (compEnvC scope cl C X.env) fp) mo E0 e el) (hy : X.N[i]? = some x := by rfl) (hyl : X.env.scope.names.lookup x = some .local := by rfl)
    (hsw : swapsWith (.ListComp e [⟨tg, iter, ifs, 0⟩] scope cpos) (some (.Name x p')) pos.line X.env = pure true := by exact sw_true rfl rfl rfl (by decide +kernel)) (hsub : ∀ i ∈ sl, i ∈ own.map (·.2) := by decide) (hs : ∀ x, foldedSetIterable iter X.env x = pure x := by intro _; rfl) :
    DS X mo E (.Assign [.Name x p'] (.ListComp e [⟨tg, iter, ifs, 0⟩] scope cpos) pos) (sSet i (dComp (own.map (·.2)) sl bd it tt el)) := by
  obtain ⟨wi, pi, wi'⟩ := hi
  exact ⟨_, ps_setLc hc hN hy hyl hsw pi ok (fun s H C cl fp => (hg s H C cl fp).can) (fun s H C cl fp => (show PTs _ ifs (tDT mo X.K E0 tt) from ht s H C cl fp)) (fun s H C cl fp => (he s H C cl fp).can) hs, set_run (comp_run hsub wi')⟩
end
/-- a, b = e -/
def sAsgT (sl : List Nat) (bd : PyData → Option (List PyData)) (fa : En → M RV) : En → M Out := fun en => (fa (hide en)).bind fun r => match r.1 with
  | .d p => match bd p with
    | some ds => .ret (.nx (setE en sl ds))
    | none => .stuck
  | _ => .stuck
theorem ds_asgT {sl : List Nat} {bd : PyData → Option (List PyData)} (ha : DE X mo E a fa) (hg : DG X tg sl bd) (hs : swapsWithSole [tg] a pos.line X.env = pure false := by rfl) (hw : swappedStores [tg] a X.env = pure none := by rfl)
    (h1 : (assignEach [tg] X.env).map (·.2) = [assign tg X.env] := by rfl) : DS X mo E (.Assign [tg] a pos) (sAsgT sl bd fa) := by
  obtain ⟨ta, pa, wa⟩ := ha
  obtain ⟨gt, pg, wg⟩ := hg
  refine ⟨tAsg ta gt, ps_asg pa pg hs hw h1, fun S₀ g₀ H₀ Fr g W σ H en D r h => ?_⟩
  unfold sAsgT at h
  rw [wp_bind] at h
  refine wa _ g W σ H (hide en) _ r.hideE (wp_mono h (fun r1 W1 q g1 v1 H1 s1 w1 rr1 => ?_) fun _ _ q => ES.of r q)
  try dsimp only at q
  split at q
  · rename_i p ep
    split at q
    · rename_i ds hb
      replace rr1 := RepR.at rr1 ep
      exact wg _ v1 p ds σ H1 D.nx rr1.1 cut_sub hb fun vs rv => q g1 _ H1 ((r.step s1 w1).setE rv)
    · exact q.elim
  · exact q.elim
/-- a, b = x, y -/
def sPar (i j : Nat) (fs : En → M (List AV)) : En → M Out := fun en => (fs (hide en)).bind fun as => match as with
  | [x, y] => .ret (.nx ((en.set i (some (.v x))).set j (some (.v y))))
  | _ => .stuck
theorem ds_par {i j : Nat} {x y : Str} {px py pt : Pos} {kt k2 : Nat} {pt2 : Pos} (hc : X.calm = true) (hN : X.N.Nodup) (hs : DA X mo E [a, b] fs)
    (hi : X.N[i]? = some x := by rfl) (hj : X.N[j]? = some y := by rfl) (hij : i ≠ j := by decide) (hx : X.env.scope.names.lookup x = some .local := by rfl) (hy : X.env.scope.names.lookup y = some .local := by rfl)
    (hw : swappedStores [.Tuple [.Name x px, .Name y py] kt pt] (.Tuple [a, b] k2 pt2) X.env = pure (some [x, y]) := by rfl)
    (hsw : swapsWithSole [.Tuple [.Name x px, .Name y py] kt pt] (.Tuple [a, b] k2 pt2) pos.line X.env = pure false := by rfl) :
    DS X mo E (.Assign [.Tuple [.Name x px, .Name y py] kt pt] (.Tuple [a, b] k2 pt2) pos) (sPar i j fs) := by
  obtain ⟨ts, pss, ws⟩ := hs
  refine ⟨_, ps_par hc hN hi hj hij hx hy pss hw hsw, fun S₀ g₀ H₀ Fr g W σ H en D r h => ?_⟩
  unfold sPar at h
  rw [wp_bind] at h
  refine ws _ g W σ H (hide en) _ r.hideE (wp_mono h (fun as W1 q g1 vs H1 s1 w1 rr1 hl => ?_) fun _ _ q => ES.of r q)
  try dsimp only at q
  split at q
  · obtain ⟨v, u, rfl, r1, r2⟩ := reps2 rr1
    exact ⟨v, u, rfl, q g1 _ H1 (((r.step s1 w1).set r1).set (r2.less fun b z => z.imp_right ow_set))⟩
  · exact q.elim
/-- x op= e, ints -/
def sAug (i : Nat) (f : Int → Int → Int) (fa : En → M RV) : En → M Out := fun en => match en[i]? with
  | some (some (.v (.d (.int m)))) => (fa (expo en)).bind fun r => match r.1 with
    | .d (.int n) => .ret (.nx (en.set i (some (.v (.d (.int (f m n)))))))
    | _ => .stuck
  | _ => .stuck
theorem ds_aug {i : Nat} {x : Str} {p' : Pos} {op : Operator} {f : Int → Int → Int} (ho : PIp X op (ipI f)) (hN : X.N.Nodup) (ha : DE X mo E a fa) (hi : X.N[i]? = some x := by rfl) (hx : Loc X.env.scope x := by first | exact Or.inl rfl | exact Or.inr rfl) (hf : X.fn x = true ∨ X.env.scope.names.lookup x = some .local := by first | exact .inl rfl | exact .inr rfl) :
    DS X mo E (.AugAssign (.Name x p') op a pos) (sAug i f fa) := by
  obtain ⟨ta, pa, wa⟩ := ha
  refine ⟨_, ps_aug hN hi hx pa ho hf, fun S₀ g₀ H₀ Fr g W σ H en D r h => ?_⟩
  unfold sAug at h
  split at h
  · rename_i m ei
    obtain ⟨v, es, qv⟩ := r.val i _ ei
    rw [Rp.int_inv qv] at es
    refine ⟨_, es, ?_⟩
    rw [wp_bind] at h
    refine wa _ g W σ H (expo en) _ r.expoE (wp_mono h (fun r1 W1 q g1 v1 H1 s1 w1 rr1 => ?_) fun _ _ q => ES.of r q)
    try dsimp only at q
    split at q
    · rename_i n en'
      replace rr1 := RepR.at rr1 en'
      exact ⟨m, n, rfl, Rp.int_inv rr1.1, q g1 _ H1 ((r.step s1 w1).set (a := .d _) (Rp.int _))⟩
    · exact q.elim
  · exact h.elim
theorem ds_augAdd {i : Nat} {x : Str} {p' : Pos} (hN : X.N.Nodup) (ha : DE X mo E a fa) (hi : X.N[i]? = some x := by rfl) (hx : Loc X.env.scope x := by first | exact Or.inl rfl | exact Or.inr rfl) (hf : X.fn x = true ∨ X.env.scope.names.lookup x = some .local := by first | exact .inl rfl | exact .inr rfl) :
    DS X mo E (.AugAssign (.Name x p') .Add a pos) (sAug i (fun m n => m + n) fa) := ds_aug ip_add hN ha hi hx hf
theorem ds_augSub {i : Nat} {x : Str} {p' : Pos} (hN : X.N.Nodup) (ha : DE X mo E a fa) (hi : X.N[i]? = some x := by rfl) (hx : Loc X.env.scope x := by first | exact Or.inl rfl | exact Or.inr rfl) (hf : X.fn x = true ∨ X.env.scope.names.lookup x = some .local := by first | exact .inl rfl | exact .inr rfl) :
    DS X mo E (.AugAssign (.Name x p') .Sub a pos) (sAug i (fun m n => m - n) fa) := ds_aug ip_sub hN ha hi hx hf
/-- the slots of is are changed no more -/
def sFrz (i : Nat) (s : En → M Out) : En → M Out := fun en => s (frz i en)
theorem ds_frz (i : Nat) (h : DS X mo E st s1) : DS X mo E st (sFrz i s1) := by
  obtain ⟨t, p, w⟩ := h
  exact ⟨t, p, fun S₀ g₀ H₀ Fr g W σ H en D r hw => w S₀ g₀ H₀ Fr g W σ H _ D (r.frz i) hw⟩
end
end Dt

/-! The data layer, part 7: loops, lists that change, raise, defs. -/
namespace Dt
open PySem L2
section
variable {mo : Mo} {K : PySem.W.Frag} {S₀ : Addr → Prop} {g₀ g g' : Gh} {H₀ Fr Fr' H H' : Hp} {W W' : Wd} {σ : St} {en : En} {E : XK}
theorem RepS.frLess (r : RepS mo K S₀ g₀ H₀ Fr' g W σ H en) (h : ∀ a o, Fr a = some o → Fr' a = some o) : RepS mo K S₀ g₀ H₀ Fr g W σ H en := ⟨r.len, r.base, fun a o e => r.frm a o (h a o e), r.val, r.own, r.inj, r.wok, r.sd⟩
theorem RepS.frMore (r : RepS mo K S₀ g₀ H₀ Fr g W σ H en) : RepS mo K S₀ g₀ H₀ (cut H fun b => Ow σ en b ∨ g.R b) g W σ H en := ⟨r.len, r.base, fun a o e => let ⟨e1, n⟩ := cut_some.mp e; ⟨e1, fun z => n (.inl z), fun z => n (.inr z)⟩, r.val, r.own, r.inj, r.wok, r.sd⟩
end
section
variable {X : Cx} {mo : Mo} {E : XK} {pos p : Pos} {a b c e tg : Expr} {es : List Expr} {fa fb fc : En → M RV} {fs : En → M (List AV)} {ga : En → M Bool} {st : Stmt} {sts : List Stmt} {s1 s2 body : En → M Out}

/-! ### for -/
def forL (sl : List Nat) (bd : PyData → Option (List PyData)) (body : En → M Out) : List PyData → En → M Out
  | [], en => .ret (.nx en)
  | x :: xs, en => match bd x with
    | none => .stuck
    | some ds => (body (setE en sl ds)).bind fun o => match o with
      | .nx en' => forL sl bd body xs en'
      | .ct en' => forL sl bd body xs en'
      | .bk en' => .ret (.nx en')
      | .rt r => .ret (.rt r)
def sFor (sl : List Nat) (bd : PyData → Option (List PyData)) (it : En → M (List PyData)) (body : En → M Out) : En → M Out := fun en => (it (hide en)).bind fun items => forL sl bd body items en
theorem ds_for {iter : Expr} {sl : List Nat} {bd : PyData → Option (List PyData)} {it : En → M (List PyData)} (hp : PassesOwn (model X.prog X.w) X.A X.env X.xe) (hc : X.calm = true) (hi : DI X mo E tg iter it) (hg : DG X tg sl bd) (hb : DSs X mo E sts body)
    (hs : ∀ x, foldedSetIterable iter X.env x = pure x := by intro _; rfl) : DS X mo E (.For tg iter sts [] pos) (sFor sl bd it body) := by
  obtain ⟨wi, pi, wi'⟩ := hi
  obtain ⟨gt, pg, wg⟩ := hg
  obtain ⟨tb, pb, wb⟩ := hb
  refine ⟨tFor wi gt tb, ps_for hp hc pi pg pb hs, fun S₀ g₀ H₀ Fr g W σ H en D r h => ?_⟩
  unfold sFor at h
  rw [wp_bind] at h
  refine wi' _ g W σ H (hide en) _ r.hideE (wp_mono h (fun items W1 q g1 H1 J s1 w1 ito => ?_) fun _ _ q => ES.of r q)
  have r1 := r.step s1 w1
  have r1' := r1.frMore
  refine ⟨fun i m σ' H' => m = items.length - i ∧ i ≤ items.length ∧ ∃ (g' : Gh) (W' : Wd) (en' : En), RepS mo X.K S₀ g₀ H₀ (cut H1 fun b => Ow σ en b ∨ g1.R b) g' W' σ' H' en' ∧ wp (forL sl bd body (items.drop i) en') W' (QS mo X.K S₀ g₀ H₀ Fr D) (EE mo X.K S₀ g₀ H₀ E),
    ⟨items.length, by simp, Nat.zero_le _, g1, W1, en, r1', by rw [List.drop_zero]; exact q⟩, ?_⟩
  have frIn : ∀ a o, Fr a = some o → cut H1 (fun b => Ow σ en b ∨ g1.R b) a = some o := fun a o ea => let ⟨e1, n1, n2⟩ := r1.frm a o ea; cut_some.mpr ⟨e1, fun z => z.elim n1 n2⟩
  rintro i m σ' H' ⟨rfl, hi, g', W', en', r', hw⟩
  have hC : Same (cut H1 fun a => (S₀ a ∨ Ow σ en a) ∨ g1.R a) H' := fun a o eo => (r'.frm a o (let ⟨e1, n⟩ := cut_some.mp eo; cut_some.mpr ⟨e1, fun z => n (z.imp_left .inr)⟩)).1
  by_cases hlt : i < items.length
  · right
    have hd : items[i]? = some items[i] := List.getElem?_eq_getElem hlt
    obtain ⟨go, yl⟩ := ito.go i H' _ hd hC
    rw [List.drop_eq_getElem_cons hlt] at hw
    unfold forL at hw
    split at hw
    · exact hw.elim
    · rename_i ds hbd
      rw [wp_bind] at hw
      refine ⟨go, _, fun σ2 H2 z => ⟨items.length - (i + 1), by omega, rfl, hlt, z⟩, fun x H'' y => ?_⟩
      obtain ⟨sm, rx⟩ := yl x H'' y
      have r2 := r'.step (.of_same sm) (r'.wok.same sm)
      refine wg (cut H'' fun b => (S₀ b ∨ Ow σ' en' b) ∨ g'.R b) x items[i] ds σ' H'' _ (rx.mono fun a o eo => ?_) cut_sub hbd fun vs rv => ?_
      · unfold mixC at eo
        split at eo
        · rename_i e0
          refine cut_some.mpr ⟨eo, fun z => z.elim (fun z => z.elim (fun z => r'.sdH z e0) fun z => ?_) fun z => r'.wok.rdom z e0⟩
          obtain ⟨⟨vs, e'⟩, _⟩ := r'.ows z
          rw [e0] at e'; cases e'
        · obtain ⟨e1, n1⟩ := cut_some.mp eo
          obtain ⟨e2, n2, n3⟩ := r2.frm a o (cut_some.mpr ⟨e1, fun z => n1 (z.imp_left .inr)⟩)
          exact cut_some.mpr ⟨e2, fun z => z.elim (fun z => z.elim (fun z => n1 (.inl (.inl z))) n2) n3⟩
      · refine wb S₀ g₀ H₀ _ g' W' _ H'' _ _ (r2.setE (sl := sl) rv) (wp_mono hw (fun o W3 q3 => ?_) fun _ _ q => q)
        cases o with
        | nx en3 => exact fun g3 σ3 H3 r3 => ⟨g3, W3, en3, r3, q3⟩
        | ct en3 => exact fun g3 σ3 H3 r3 => ⟨g3, W3, en3, r3, q3⟩
        | bk en3 => exact fun g3 σ3 H3 r3 => q3 g3 σ3 H3 (r3.frLess frIn)
        | rt rr => exact q3
  · left
    have ei : i = items.length := by omega
    subst ei
    rw [List.drop_length] at hw
    exact ⟨ito.stop _ H' (Nat.le_refl _) hC, hw g' σ' H' (r'.frLess frIn)⟩

/-! ### while -/
def whileL (ga : En → M Bool) (body : En → M Out) : Nat → En → M Out
  | 0, _ => .stuck
  | n + 1, en => (ga (expo en)).bind fun b => if b = true then (body en).bind fun o => match o with
      | .nx en' => whileL ga body n en'
      | .ct en' => whileL ga body n en'
      | .bk en' => .ret (.nx en')
      | .rt r => .ret (.rt r)
    else .ret (.nx en)
def sWhile (n : Nat) (ga : En → M Bool) (body : En → M Out) : En → M Out := whileL ga body n
theorem ds_while (n : Nat) (hp : PassesOwn (model X.prog X.w) X.A X.env X.xe) (hc : DT X mo E c ga) (hb : DSs X mo E sts body) : DS X mo E (.While c sts [] pos) (sWhile n ga body) := by
  obtain ⟨tc, pc, wc⟩ := hc
  obtain ⟨tb, pb, wb⟩ := hb
  refine ⟨tWhile tc tb, ps_while hp pc pb, fun S₀ g₀ H₀ Fr g W σ H en D r h => ?_⟩
  refine ⟨fun m σ' H' => ∃ (g' : Gh) (W' : Wd) (en' : En), RepS mo X.K S₀ g₀ H₀ Fr g' W' σ' H' en' ∧ wp (whileL ga body m en') W' (QS mo X.K S₀ g₀ H₀ Fr D) (EE mo X.K S₀ g₀ H₀ E), ⟨n, g, W, en, r, h⟩, ?_⟩
  rintro m σ' H' ⟨g', W', en', r', hw⟩
  cases m with
  | zero => exact hw.elim
  | succ m =>
    unfold whileL at hw
    rw [wp_bind] at hw
    refine wc _ g' W' σ' H' (expo en') _ r'.expoE (wp_mono hw (fun b W1 q g1 H1 s1 w1 => ?_) fun _ _ q => ES.of r' q)
    have r1 := r'.step s1 w1
    cases b with
    | true =>
      rw [if_pos rfl] at q
      refine iteT ⟨_, fun σ2 H2 z => ⟨m, Nat.lt_succ_self m, z⟩, ?_⟩
      rw [wp_bind] at q
      refine wb S₀ g₀ H₀ Fr g1 W1 σ' H1 en' _ r1 (wp_mono q (fun o W3 q3 => ?_) fun _ _ q => q)
      cases o with
      | nx en3 => exact fun g3 σ3 H3 r3 => ⟨g3, W3, en3, r3, q3⟩
      | ct en3 => exact fun g3 σ3 H3 r3 => ⟨g3, W3, en3, r3, q3⟩
      | bk en3 => exact fun g3 σ3 H3 r3 => q3 g3 σ3 H3 r3
      | rt rr => exact q3
    | false =>
      rw [if_neg Bool.false_ne_true] at q
      exact iteF (q g1 σ' H1 r1)

/-! ### lists that change -/
def sApp (i : Nat) (fa : En → M RV) : En → M Out := fun en => match en[i]? with
  | some (some (.own xs)) => (fa (hide en)).bind fun r => match r.1 with
    | .d q => if xs.length < lim then .ret (.nx (en.set i (some (.own (xs ++ [q]))))) else .stuck
    | _ => .stuck
  | _ => .stuck
def sAppX (i : Nat) (fa : En → M RV) : En → M Out := fun en => match en[i]? with
  | some (some (.own xs)) => (fa (expo en)).bind fun r => match r.1 with
    | .d q => if xs.length < lim ∧ safeP q = true then .ret (.nx (en.set i (some (.own (xs ++ [q]))))) else .stuck
    | _ => .stuck
  | _ => .stuck
section
variable {i : Nat} {x : Str} {q' : Pos} {apos : Pos}
theorem ds_app (ha : DE X mo E a fa) (hN : X.N[i]? = some x := by rfl) (hv : Vis X.env.scope x := by first | exact Or.inl rfl | exact Or.inr (Or.inl rfl) | exact Or.inr (Or.inr rfl)) (hd : (x == ("__debug__" : Str)) = false := by decide) (hcd : (x == ("__classdict__" : Str)) = false := by decide)
    (hbase : attributeBase (.Name x q') "append" X.env (eval (.Name x q') X.env) = eval (.Name x q') X.env := by rfl)
    (hfew : ((backTo p (starEach [a] X.env)).all (fun x => !x.1) && (backToKw p (keywordEach [] X.env)).all (fun x => x.1.isSome) && decide ([a].length + ([] : List Keyword).length + (if ([] : List Keyword).isEmpty then 0 else 1) < 30)) = true := by rfl)
    (hline : (apos.endLine == p.line) = true := by rfl) (hst : starEach [a] X.env = [(false, eval a X.env)] := by rfl) (hs : swapsWith (.Call (.Attribute (.Name x q') "append" apos) [a] [] p) none pos.line X.env = pure false := by rfl) :
    DS X mo E (.Expr (.Call (.Attribute (.Name x q') "append" apos) [a] [] p) pos) (sApp i fa) := by
  obtain ⟨ta, pa, wa⟩ := ha
  refine ⟨_, ps_expr (pe_bm PySem.F.plainAttrs_list PySem.F.slot_list_append PySem.F.type_list_append mt_append (pe_var hN hv hd hcd) (pa_cons pa pa_nil hst) hbase hfew hline hst rfl) hs, fun S₀ g₀ H₀ Fr g W σ H en D r h => ?_⟩
  unfold sApp at h
  split at h
  · rename_i xs ei
    obtain ⟨l, vs, es, h1, h2, h3, h4⟩ := r.own i xs ei
    rw [wp_bind] at h
    refine ⟨_, es, .inl ⟨rfl, vs, SqL.of h1⟩, wa _ g W σ H (hide en) _ r.hideE (wp_mono h (fun r1 W1 q g1 v1 H1 s1 w1 rr1 => ?_) fun _ _ q => ES.of r q)⟩
    try dsimp only at q
    split at q
    · rename_i y ey
      split at q
      · rename_i hl
        replace rr1 := RepR.at rr1 ey
        have r1 := r.step s1 w1
        obtain ⟨l', vs', es', h1', h2', h3', h4'⟩ := r1.own i xs ei
        rw [es] at es'
        cases es'
        exact ⟨l, vs', v1, rfl, rfl, h1', lim_lt (by rw [h4'.length]; omega), q g1 σ _ (r1.putO ei es h1' (h4'.snoc rr1.1))⟩
      · exact q.elim
    · exact q.elim
  · exact h.elim
theorem ds_appX (ha : DE X mo E a fa) (hN : X.N[i]? = some x := by rfl) (hv : Vis X.env.scope x := by first | exact Or.inl rfl | exact Or.inr (Or.inl rfl) | exact Or.inr (Or.inr rfl)) (hd : (x == ("__debug__" : Str)) = false := by decide) (hcd : (x == ("__classdict__" : Str)) = false := by decide)
    (hbase : attributeBase (.Name x q') "append" X.env (eval (.Name x q') X.env) = eval (.Name x q') X.env := by rfl)
    (hfew : ((backTo p (starEach [a] X.env)).all (fun x => !x.1) && (backToKw p (keywordEach [] X.env)).all (fun x => x.1.isSome) && decide ([a].length + ([] : List Keyword).length + (if ([] : List Keyword).isEmpty then 0 else 1) < 30)) = true := by rfl)
    (hline : (apos.endLine == p.line) = true := by rfl) (hst : starEach [a] X.env = [(false, eval a X.env)] := by rfl) (hs : swapsWith (.Call (.Attribute (.Name x q') "append" apos) [a] [] p) none pos.line X.env = pure false := by rfl) :
    DS X mo E (.Expr (.Call (.Attribute (.Name x q') "append" apos) [a] [] p) pos) (sAppX i fa) := by
  obtain ⟨ta, pa, wa⟩ := ha
  refine ⟨_, ps_expr (pe_bm PySem.F.plainAttrs_list PySem.F.slot_list_append PySem.F.type_list_append mt_append (pe_var hN hv hd hcd) (pa_cons pa pa_nil hst) hbase hfew hline hst rfl) hs, fun S₀ g₀ H₀ Fr g W σ H en D r h => ?_⟩
  unfold sAppX at h
  split at h
  · rename_i xs ei
    obtain ⟨l, vs, es, h1, h2, h3, h4⟩ := r.own i xs ei
    rw [wp_bind] at h
    refine ⟨_, es, .inl ⟨rfl, vs, SqL.of h1⟩, wa _ g W σ H (expo en) _ r.expoE (wp_mono h (fun r1 W1 q g1 v1 H1 s1 w1 rr1 => ?_) fun _ _ q => ES.of r q)⟩
    try dsimp only at q
    split at q
    · rename_i y ey
      split at q
      · rename_i hl
        replace rr1 := RepR.at rr1 ey
        have r1 := r.step s1 w1
        obtain ⟨l', vs', es', h1', h2', h3', h4'⟩ := r1.own i xs ei
        rw [es] at es'
        cases es'
        exact ⟨l, vs', v1, rfl, rfl, h1', lim_lt (by rw [h4'.length]; omega), q g1 σ _ (r1.putO ei es h1' (h4'.snoc (r1.safe rr1.1 hl.2)))⟩
      · exact q.elim
    · exact q.elim
  · exact h.elim
/-- x[k] = e; the value may be read off the own lists (a scalar, or a tuple of them) -/
def sPut (i : Nat) (fk fa : En → M RV) : En → M Out := fun en => match en[i]? with
  | some (some (.own xs)) => (fa (expo en)).bind fun r => (fk (expo en)).bind fun rk => match r.1, rk.1 with
    | .d q, .d (.int k) => (match ixN xs.length k with
      | some j => if safeP q = true then .ret (.nx (en.set i (some (.own (xs.set j q))))) else .stuck
      | none => .stuck)
    | _, _ => .stuck
  | _ => .stuck
theorem ds_put {fk : En → M RV} {k : Expr} (ha : DE X mo E a fa) (hk : DE X mo E k fk) (hN : X.N[i]? = some x := by rfl) (hv : Vis X.env.scope x := by first | exact Or.inl rfl | exact Or.inr (Or.inl rfl) | exact Or.inr (Or.inr rfl)) (hd : (x == ("__debug__" : Str)) = false := by decide) (hcd : (x == ("__classdict__" : Str)) = false := by decide)
    (hsub : ∀ v, assign (.Subscript (.Name x q') k apos) X.env v = (do
      let ov ← holding [v] (eval (.Name x q') X.env)
      let iv ← holding [v, ov] (eval k X.env)
      standAt apos
      holding [v, ov, iv] (setItem ov iv v)
      release [v, ov, iv] []) := by intro _; rfl) (hs : swapsWithSole [.Subscript (.Name x q') k apos] a pos.line X.env = pure false := by rfl) (hw : swappedStores [.Subscript (.Name x q') k apos] a X.env = pure none := by rfl)
    (h1 : (assignEach [.Subscript (.Name x q') k apos] X.env).map (·.2) = [assign (.Subscript (.Name x q') k apos) X.env] := by rfl) : DS X mo E (.Assign [.Subscript (.Name x q') k apos] a pos) (sPut i fk fa) := by
  obtain ⟨ta, pa, wa⟩ := ha
  obtain ⟨tk, pk, wk⟩ := hk
  refine ⟨_, ps_asg pa (pg_sub (pe_var hN hv hd hcd) pk set_list hsub) hs hw h1, fun S₀ g₀ H₀ Fr g W σ H en D r h => ?_⟩
  unfold sPut at h
  split at h
  · rename_i xs ei
    rw [wp_bind] at h
    refine wa _ g W σ H (expo en) _ r.expoE (wp_mono h (fun r1 W1 q g1 v1 H1 s1 w1 rr1 => ?_) fun _ _ q => ES.of r q)
    rw [wp_bind] at q
    have ra := r.step s1 w1
    obtain ⟨l, vs, es, _⟩ := ra.own i xs ei
    refine ⟨_, es, ?_⟩
    refine wk _ g1 W1 σ H1 (expo en) _ ra.expoE (wp_mono q (fun r2 W2 q2 g2 v2 H2 s2 w2 rr2 => ?_) fun _ _ q => ES.of ra q)
    try dsimp only at q2
    split at q2
    · rename_i y k ey ek
      split at q2
      · rename_i j hj
        split at q2
        · rename_i hq
          replace rr1 := RepR.at rr1 ey
          replace rr2 := RepR.at rr2 ek
          have rb := ra.step s2 w2
          obtain ⟨l', vs', es', h1', h2', h3', h4'⟩ := rb.own i xs ei
          rw [es] at es'
          cases es'
          have ry : Rp X.K (cut H2 fun b => S₀ b ∨ g2.R b) v1 y := RepA.step (a := .d y) s2 rr1.1
          exact ⟨l, vs', k, j, rfl, Rp.int_inv rr2.1, h1', by rw [h4'.length]; exact hj, q2 g2 σ _ (rb.putO ei es h1' (h4'.set (rb.safe ry hq) j))⟩
        · exact q2.elim
      · exact q2.elim
    · exact q2.elim
  · exact h.elim
end

/-! ### raise -/
/-- the class of an error, as the head tells it -/
structure ExD (K : PySem.W.Frag) (mg : Str → Option Value) (mo : Mo) (x : Str) (er : Err) : Prop where
  q : PySem.W.excIn K (mo.ec er) [.type "ValueError", .type "Exception", .type "BaseException", .type "object"] "ValueError.__new__" = true
  g : mg x = some (.ref (mo.ec er))
  k : PySem.W.keepIn K (.ref (mo.ec er)) = true
  b : PySem.W.subIn K (.ref (mo.ec er)) (.type "BaseException") = some true
  t : PySem.W.typeIn K (.ref (mo.ec er)) = some (.type "type")
def sRaise (er : Err) : En → M Out := fun _ => .raise er
theorem ds_raise {x m : Str} {j : Nat} {er : Err} {p1 p2 p3 : Pos} (hx : ExD X.K X.mg mo x er) (hc : X.calm = true) (tk : Takes X (fun cls d _ H => E cls d H)) (hg : Gl X x := by rfl) (hdb : (x == ("__debug__" : Str)) = false := by decide) :
    DS X mo E (.Raise (some (.Call (.Name x p1) [.Constant (.str m) j p2] [] p3)) none pos) (sRaise er) := by
  refine ⟨_, ps_raise hc tk (pmk_own PySem.F.excBase_ValueError hx.q hx.g hx.k (raises_own hx.b hx.t) hg hdb), fun S₀ g₀ H₀ Fr g W σ H en D r h => ?_⟩
  exact h g H r.base r.wok

/-! ### defs -/
def enOf (m : Nat) (as : List AV) : En := as.map (fun a => some (.v a)) ++ List.replicate (m - as.length) none
def outR : Out → M RV
  | .nx _ => .ret (.d .none, false)
  | .rt r => .ret r
  | _ => .stuck
def runF (n m : Nat) (b : En → M Out) : List AV → M RV := fun as => if as.length = n then (b (enOf m as)).bind outR else .stuck
theorem reps_get {K : PySem.W.Frag} {S : Addr → Prop} {g : Gh} {H : Hp} : ∀ {vs : List V} {as : List AV} {i : Nat} {a : AV}, RepAs mo K S g H vs as → as[i]? = some a → ∃ v, vs[i]? = some v ∧ RepA mo K S g H v a
  | _, _, _, _, .nil, e => by simp at e
  | _, _, 0, _, .cons h _, e => by simp at e; subst e; exact ⟨_, rfl, h⟩
  | _, _, i + 1, a, .cons _ t, e => by
    obtain ⟨u, h1, h2⟩ := reps_get (i := i) (a := a) t (by simpa using e)
    exact ⟨u, by simpa using h1, h2⟩
theorem reps_length {K : PySem.W.Frag} {S : Addr → Prop} {g : Gh} {H : Hp} {vs : List V} {as : List AV} (h : RepAs mo K S g H vs as) : vs.length = as.length := Paired.length h
theorem enOf_get {m : Nat} {as : List AV} {i : Nat} {s : Slot} (h : (enOf m as)[i]? = some (some s)) : ∃ a, as[i]? = some a ∧ s = .v a ∧ i < as.length := by
  unfold enOf at h
  by_cases hi : i < as.length
  · rw [List.getElem?_append_left (by simpa using hi), List.getElem?_map, List.getElem?_eq_getElem hi] at h
    simp only [Option.map_some, Option.some.injEq] at h
    exact ⟨as[i], List.getElem?_eq_getElem hi, h.symm, hi⟩
  · rw [List.getElem?_append_right (by simpa using hi), List.getElem?_replicate] at h
    split at h
    · cases h
    · cases h
theorem start_get {N : List Str} {vs : List V} {i : Nat} {v : V} (h : vs[i]? = some v) : (start N vs)[i]? = some (some v) := by
  unfold L2.start
  have hi : i < vs.length := (List.getElem?_eq_some_iff.mp h).1
  rw [List.getElem?_append_left (by simpa using hi), List.getElem?_map, h]
  rfl
theorem repS_start {K : PySem.W.Frag} {S : Addr → Prop} {g : Gh} {W : Wd} {H : Hp} {vs : List V} {as : List AV} {N : List Str} (h : RepAs mo K S g H vs as) (w : WOk mo K S g W H) (sd : ∀ a, S a → H a ≠ none) : RepS mo K S g H (fun _ => none) g W (start N vs) H (enOf N.length as) := by
  have noO : ∀ a, ¬ Ow (start N vs) (enOf N.length as) a := fun a ⟨i, xs, e, _⟩ => by
    obtain ⟨b, _, z, _⟩ := enOf_get e
    cases z
  refine ⟨?_, .refl _ _, fun a o e => (by cases e), fun i a e => ?_, fun i xs e => ?_, fun i j xs ys p e => ?_, w, sd⟩
  · unfold enOf L2.start
    simp [reps_length h]
  · obtain ⟨b, e1, z, _⟩ := enOf_get e
    cases z
    obtain ⟨v, e2, r⟩ := reps_get h e1
    exact ⟨v, start_get e2, r.less fun b z => z.elim id fun z => (noO b z).elim⟩
  · obtain ⟨b, _, z, _⟩ := enOf_get e
    cases z
  · obtain ⟨b, _, z, _⟩ := enOf_get e
    cases z
end
section
variable {P : Program} {w : World} {K : PySem.W.Frag} {mg : Str → Option Value} {base : Heap} {mo : Mo}
theorem fn_d {x qual : Str} {params : Arguments} {body : List Stmt} {scope : Scope} {f : Addr} {fd : FuncData} {N ps : List Str} {k n m : Nat} {b : En → M Out} (F : FunD K x qual params body scope [] [] f fd) (S : FnScope N ps scope) (hn : ps.length = n) (hm : N.length = m)
    (hb : ∀ (cdv : Value) (A : Around) (outer : List Env) (s : Shared) (H : Hp) (E : XK), Room k (A.deeper (PyProof.Rows.envOfC qual scope s.heap.objs.size f cdv)) → DSs (cxOf (L2.CX P w) P w K mg base N qual scope f cdv A outer s H E) mo E body b) :
    FnOk P w K mg base (L2.CX P w) (k + 1) f fd ps (spD mo K (runF n m b)) := by
  subst hn hm
  refine F.ok S (fun vs H Q E h => ?_) (fun cdv A outer s H vs Q E hr h => ?_)
  · obtain ⟨S, g, W, as, ra, w, sd, hw⟩ := h
    unfold runF at hw
    split at hw
    · rename_i hl
      rw [reps_length ra]
      exact hl
    · exact hw.elim
  · obtain ⟨S, g, W, as, ra, w, sd, hw⟩ := h
    unfold runF at hw
    split at hw
    · obtain ⟨t, p, wt⟩ := hb cdv A outer s H E hr
      refine ⟨t, p, wt S g H (fun _ => none) g W (start N vs) H (enOf N.length as) _ (repS_start ra w sd) ?_⟩
      rw [wp_bind] at hw
      refine wp_mono hw (fun o W1 q => ?_) fun _ _ q => q
      cases o with
      | nx en' => exact fun g' σ' H' r' => q g' .non H' r'.base r'.wok ⟨.non, fun z => by cases z⟩
      | rt r => exact q
      | bk en' => exact q.elim
      | ct en' => exact q.elim
    · exact hw.elim
end
/-- an exception of a callee leaves the body -/
theorem pass_cx {P : Program} {w : World} {K : PySem.W.Frag} {mg : Str → Option Value} {base : Heap} {N : List Str} {qual : Str} {scope : Scope} {f : Addr} {cdv : Value} {A : Around} {outer : List Env} {s : Shared} {H : Hp} {E : XK} :
    Takes (cxOf (L2.CX P w) P w K mg base N qual scope f cdv A outer s H E) (fun cls d _ H => E cls d H) ∧ Passes (L2.CX P w) (cxOf (L2.CX P w) P w K mg base N qual scope f cdv A outer s H E) E ∧ PassesOwn (model P w) (cxOf (L2.CX P w) P w K mg base N qual scope f cdv A outer s H E).A (cxOf (L2.CX P w) P w K mg base N qual scope f cdv A outer s H E).env (cxOf (L2.CX P w) P w K mg base N qual scope f cdv A outer s H E).xe := by
  have tk : Takes (cxOf (L2.CX P w) P w K mg base N qual scope f cdv A outer s H E) (fun cls d _ H => E cls d H) := takes_of rfl rfl rfl rfl
  exact ⟨tk, passes_call tk (fun _ _ _ _ h => h), passes_of rfl⟩
end Dt

/-! The data layer, part 8: objects change; the draws. -/
namespace Dt
open PySem L2
section
variable {mo : Mo} {K : PySem.W.Frag} {S S' : Addr → Prop} {g g' : Gh} {H H' : Hp} {W : Wd}
/-- one object changes within its own addresses -/
theorem WOk.at {i : Nat} {a : Addr} {o : AObj} (w : WOk mo K S g W H) (hi : i < W.length) (ha : g.adr[i]? = some a) (hk : ∀ b, ¬ g.fp i b → H' b = H b) (hd : ∀ b, g.fp i b → H' b ≠ none) (hr : ORep mo K (cut H' g.R) H' (g.fp i) a o) : WOk mo K S' g (W.set i o) H' where
  len := by rw [List.length_set]; exact w.len
  dom := fun j b f => by
    rw [List.length_set]
    refine ⟨(w.dom j b f).1, ?_⟩
    by_cases e : g.fp i b
    · exact hd b e
    · rw [hk b e]; exact (w.dom j b f).2
  dis := w.dis
  rep := fun j b o' e1 e2 => by
    by_cases e : i = j
    · subst e
      rw [List.getElem?_set_self hi] at e2
      cases e2
      rw [ha] at e1
      cases e1
      exact hr
    · rw [List.getElem?_set_ne e] at e2
      refine (w.rep j b o' e1 e2).mono (fun t xs z => Same.seqT (cut_mono fun c u q n => ⟨?_, n⟩) z) fun c u f q => ?_
      · rw [hk c (fun z => n ⟨i, z⟩)]; exact q
      · rw [hk c (fun z => e (w.dis i j c z f))]; exact q
theorem step_at {i : Nat} (hk : ∀ b, ¬ g.fp i b → H' b = H b) (hd : ∀ b, g.fp i b → H' b ≠ none) : Step g H g H' where
  keep := fun b o n e => ⟨by rw [hk b (fun z => n ⟨i, z⟩)]; exact e, n⟩
  dom := fun b h => by
    by_cases e : g.fp i b
    · exact hd b e
    · rw [hk b e]; exact h
  adr := fun _ _ h => h
/-- a new object -/
def Gh.add (g : Gh) (a : Addr) (f : Addr → Prop) (n : Nat) : Gh := ⟨g.adr ++ [a], fun i b => if i = n then f b else g.fp i b⟩
theorem add_R {a : Addr} {f : Addr → Prop} {b : Addr} (w : WOk mo K S g W H) : (g.add a f W.length).R b ↔ g.R b ∨ f b := by
  unfold Gh.R Gh.add
  constructor
  · rintro ⟨i, h⟩
    dsimp only at h
    by_cases e : i = W.length
    · rw [if_pos e] at h; exact .inr h
    · rw [if_neg e] at h; exact .inl ⟨i, h⟩
  · rintro (⟨i, h⟩ | h)
    · refine ⟨i, ?_⟩
      have := (w.dom i b h).1
      dsimp only
      rw [if_neg (by omega)]; exact h
    · refine ⟨W.length, ?_⟩
      dsimp only
      rw [if_pos rfl]; exact h
theorem WOk.add {a : Addr} {f : Addr → Prop} {o : AObj} (w : WOk mo K S g W H) (hs : Same H H') (hf : ∀ b, f b → H b = none ∧ H' b ≠ none) (hr : ORep mo K (cut H' (g.add a f W.length).R) H' f a o) : WOk mo K S' (g.add a f W.length) (W ++ [o]) H' ∧ Step g H (g.add a f W.length) H' := by
  refine ⟨⟨?_, fun i b h => ?_, fun i j b h1 h2 => ?_, fun i b o' e1 e2 => ?_⟩, ⟨fun b u n e => ⟨hs b u e, fun z => ?_⟩, fun b h => same_ne hs h, fun i b h => ?_⟩⟩
  · unfold Gh.add; simp [w.len]
  · unfold Gh.add at h
    dsimp only at h
    rw [List.length_append, List.length_singleton]
    by_cases e : i = W.length
    · rw [if_pos e] at h; exact ⟨by omega, (hf b h).2⟩
    · rw [if_neg e] at h
      exact ⟨by have := (w.dom i b h).1; omega, same_ne hs (w.dom i b h).2⟩
  · unfold Gh.add at h1 h2
    dsimp only at h1 h2
    by_cases e1 : i = W.length
    · by_cases e2 : j = W.length
      · omega
      · rw [if_pos e1] at h1; rw [if_neg e2] at h2
        exact absurd (hf b h1).1 (w.dom j b h2).2
    · by_cases e2 : j = W.length
      · rw [if_neg e1] at h1; rw [if_pos e2] at h2
        exact absurd (hf b h2).1 (w.dom i b h1).2
      · rw [if_neg e1] at h1; rw [if_neg e2] at h2
        exact w.dis i j b h1 h2
  · by_cases e : i = W.length
    · subst e
      have ea : b = a := by
        unfold Gh.add at e1
        dsimp only at e1
        rw [← w.len, List.getElem?_concat_length] at e1
        exact (Option.some.inj e1).symm
      have eo : o' = o := by
        rw [List.getElem?_concat_length] at e2
        exact (Option.some.inj e2).symm
      subst ea eo
      have ef : (g.add b f W.length).fp W.length = f := by
        funext c
        unfold Gh.add
        dsimp only
        rw [if_pos rfl]
      rw [ef]
      exact hr
    · have hi : i < W.length := by
        have := (List.getElem?_eq_some_iff.mp e2).1
        rw [List.length_append, List.length_singleton] at this
        omega
      have e1' : g.adr[i]? = some b := by
        unfold Gh.add at e1
        dsimp only at e1
        rw [List.getElem?_append_left (by rw [w.len]; exact hi)] at e1
        exact e1
      rw [List.getElem?_append_left hi] at e2
      have ef : (g.add a f W.length).fp i = g.fp i := by
        funext c
        unfold Gh.add
        dsimp only
        rw [if_neg e]
      rw [ef]
      refine (w.rep i b o' e1' e2).mono (fun t xs z => Same.seqT (cut_mono fun c u q n => ⟨hs c u q, fun z => ?_⟩) z) fun c u _ q => hs c u q
      rcases (add_R w).mp z with z | z
      · exact n z
      · rw [(hf c z).1] at q; cases q
  · rcases (add_R w).mp z with z | z
    · exact n z
    · rw [(hf b z).1] at e; cases e
  · unfold Gh.add
    dsimp only
    rw [List.getElem?_append_left (by exact (List.getElem?_eq_some_iff.mp h).1)]
    exact h
end
/-! ### the draws -/
def fDraw : List AV → M RV
  | [.ob i, .d (.int l)] => .draw i l fun r => .ret (.d (.int r), false)
  | _ => .stuck
def fStart : List AV → M RV
  | [.scr ns] => if ns.length ≤ 63 then .onew .dr fun i => .ret (.ob i, false) else .stuck
  | _ => .stuck
end Dt
namespace Dt
open PySem L2
theorem FnOk.no {P : Program} {w : World} {K : PySem.W.Frag} {mg : Str → Option Value} {base : Heap} {k : Nat} {f : Addr} {fd : FuncData} {ps : List Str} {sp : Sp} (F : FnOk P w K mg base (L2.CX P w) k f fd ps sp) : FnOk P w K mg base CX0 k f fd ps (fun vs H Q _ => sp vs H Q E0) :=
  ⟨fun vs H Q E h => F.len vs H Q E0 h, fun A outer s H args us vs Q E hr he hb hv hs => codeAny_mono (F.run A outer s H args us vs Q E0 hr he hb hv hs) fun r s' q => by
    cases r with
    | error e =>
      obtain ⟨_, _, _, _, _, _, _, _, _, _, _, _, z⟩ := q
      exact z.elim
    | ok fl => cases fl <;> exact q⟩
/-- what is left of a law: its computation ends with True -/
def LawTrue (F : List AV → M RV) : Prop := ∀ ns : List Int, ns.length ≤ 63 → wp (F [.scr ns]) [] (fun r _ => r.1 = .d (.bool true)) (fun _ _ => False)
theorem law_sp {mo : Mo} {K : PySem.W.Frag} {F : List AV → M RV} (h : LawTrue F) (H : Hp) (a : Addr) (ns : List Int) (hl : ns.length ≤ 63) (hS : SqL K H a (ns.map V.int)) : spD mo K F [.ref a] H (fun v _ => v = .bl true) E0 := by
  refine ⟨fun _ => False, ⟨[], fun _ _ => False⟩, [], [.scr ns], .cons ⟨a, rfl, Same.seq (fun b o e => cut_some.mpr ⟨e, fun z => z.elim id fun ⟨_, z⟩ => z⟩) hS⟩ .nil, ⟨rfl, fun _ _ f => f.elim, fun _ _ _ f => f.elim, fun i b o e => by simp at e⟩, fun _ z => z.elim, ?_⟩
  refine wp_mono (h ns hl) (fun r W' e g' v H' s w rr => ?_) fun _ _ z => z.elim
  obtain ⟨r1, r2⟩ := r
  cases e
  exact Rp.bl_inv rr.1
theorem reads_exc {K : PySem.W.Frag} {h : Heap} {mg : Str → Option Value} {mo : Mo} {x : Str} {er : Err} (X : K.In h) (G : h.Ns mainGlobals mg) (e : mo.ec er = He.ga K x) (c : (He.Fa.exc x).ok K = true) (g : (He.Fa.glo x).ok K = true) : ExD K mg mo x er := by
  obtain ⟨h1, h2, h3, h4⟩ := He.exc_ok c
  have h5 := He.glo_ok X G g
  exact ⟨by rw [e]; exact h1, by rw [e]; exact h5, by rw [e]; exact h2, by rw [e]; exact h3, by rw [e]; exact h4⟩
end Dt

namespace Dt
open PySem L2
section
variable {X : Cx} {mo : Mo} {E : XK} {pos : Pos}
/-- x, y = [], [], both changed later -/
def sNil2 (i j : Nat) : En → M Out := fun en => .ret (.nx ((en.set i (some (.own []))).set j (some (.own []))))
theorem ds_nil2 {i j : Nat} {x y : Str} {px py pt p1 p2 : Pos} {kt k2 : Nat} {pt2 : Pos} (hc : X.calm = true) (hN : X.N.Nodup)
    (hi : X.N[i]? = some x := by rfl) (hj : X.N[j]? = some y := by rfl) (hij : i ≠ j := by decide) (hx : X.env.scope.names.lookup x = some .local := by rfl) (hy : X.env.scope.names.lookup y = some .local := by rfl)
    (hw : swappedStores [.Tuple [.Name x px, .Name y py] kt pt] (.Tuple [.List [] p1, .List [] p2] k2 pt2) X.env = pure (some [x, y]) := by rfl)
    (hsw : swapsWithSole [.Tuple [.Name x px, .Name y py] kt pt] (.Tuple [.List [] p1, .List [] p2] k2 pt2) pos.line X.env = pure false := by rfl) :
    DS X mo E (.Assign [.Tuple [.Name x px, .Name y py] kt pt] (.Tuple [.List [] p1, .List [] p2] k2 pt2) pos) (sNil2 i j) := by
  refine ⟨_, ps_par hc hN hi hj hij hx hy (pa_cons (pe_lst pa_nil) (pa_cons (pe_lst pa_nil) pa_nil)) hw hsw, fun S₀ g₀ H₀ Fr g W σ H en D r h => ?_⟩
  refine ⟨Nat.zero_le _, fun p hp => ⟨Nat.zero_le _, fun p2 hp2 => ⟨_, _, rfl, ?_⟩⟩⟩
  have w := r.wok
  have w1 := w.same (same_new (o := .lst []) hp)
  have r1 := r.setO (i := i) (.of_same (same_new (o := .lst []) hp)) w1 hp upd_same (fun z => w.rdom z hp) .nil
  have r2 := r1.setO (i := j) (.of_same (same_new (o := .lst []) hp2)) (w1.same (same_new hp2)) hp2 upd_same (fun z => w1.rdom z hp2) .nil
  exact h g _ _ r2
/-- the same, where a block captures the names -/
theorem ds_nil2c {i j : Nat} {x y : Str} {px py pt p1 p2 : Pos} {kt k2 : Nat} {pt2 : Pos} (hc : X.calm = true) (hN : X.N.Nodup)
    (hi : X.N[i]? = some x := by rfl) (hj : X.N[j]? = some y := by rfl) (hx : Loc X.env.scope x := by first | exact Or.inl rfl | exact Or.inr rfl) (hy : Loc X.env.scope y := by first | exact Or.inl rfl | exact Or.inr rfl) (hfx : X.fn x = true ∨ X.env.scope.names.lookup x = some .local := by first | exact .inl rfl | exact .inr rfl) (hfy : X.fn y = true ∨ X.env.scope.names.lookup y = some .local := by first | exact .inl rfl | exact .inr rfl)
    (hs1 : (assignEach [.Name y py] X.env).map (·.2) = [assign (.Name y py) X.env] := by rfl) (hs2 : (assignEach [.Name x px, .Name y py] X.env).map (·.2) = assign (.Name x px) X.env :: (assignEach [.Name y py] X.env).map (·.2) := by rfl)
    (hn : (assignEach [.Name x px, .Name y py] X.env).length = 2 := by rfl) (hst : (assignEach [.Name x px, .Name y py] X.env).findIdx? (·.1) = none := by rfl)
    (hsw : swapsWithSole [.Tuple [.Name x px, .Name y py] kt pt] (.Tuple [.List [] p1, .List [] p2] k2 pt2) pos.line X.env = pure false := by rfl) (hw : swappedStores [.Tuple [.Name x px, .Name y py] kt pt] (.Tuple [.List [] p1, .List [] p2] k2 pt2) X.env = pure none := by rfl)
    (h1 : (assignEach [.Tuple [.Name x px, .Name y py] kt pt] X.env).map (·.2) = [assign (.Tuple [.Name x px, .Name y py] kt pt) X.env] := by rfl) :
    DS X mo E (.Assign [.Tuple [.Name x px, .Name y py] kt pt] (.Tuple [.List [] p1, .List [] p2] k2 pt2) pos) (sNil2 i j) := by
  refine ⟨_, ps_asg (pe_tup (pa_cons (pe_lst pa_nil) (pa_cons (pe_lst pa_nil) pa_nil))) (pg_tup hc (pgs_cons (pg_name hN hi hx hfx) (pgs_cons (pg_name hN hj hy hfy) pgs_nil hs1) hs2) hn hst) hsw hw h1, fun S₀ g₀ H₀ Fr g W σ H en D r h => ?_⟩
  refine ⟨Nat.zero_le _, fun p hp => ⟨Nat.zero_le _, fun p2 hp2 => ⟨lim_line (by decide : 2 ≤ lim), fun p3 hp3 => ?_⟩⟩⟩
  refine ⟨p3, _, rfl, SqT.of upd_same, rfl, _, _, rfl, _, _, rfl, rfl, ?_⟩
  have w := r.wok
  have w1 := w.same (same_new (o := .lst []) hp)
  have r1 := r.setO (i := i) (.of_same (same_new (o := .lst []) hp)) w1 hp upd_same (fun z => w.rdom z hp) .nil
  have w2 := w1.same (same_new (o := .lst []) hp2)
  have r2 := r1.setO (i := j) (.of_same (same_new (o := .lst []) hp2)) w2 hp2 upd_same (fun z => w1.rdom z hp2) .nil
  exact h g _ _ (r2.step (.of_same (same_new hp3)) (w2.same (same_new hp3)))
end
theorem rp_strs {K : PySem.W.Frag} {H : Hp} : ∀ xs : List Str, RpAll K H (xs.map V.str) (xs.map PyData.str)
  | [] => .nil
  | x :: xs => .cons (.str x) (rp_strs xs)
end Dt

namespace Dt
open PySem L2
section
variable {X : Cx} {mo : Mo} {E : XK} {pos : Pos} {a b c d : Expr} {ta tb tc td : TE} {fa fb fc fd : En → M RV}
open PyProof.Rows PySem.Spec in
/-- a <= b <= c <= d, a test -/
theorem pt_chain3 {op1 op2 op3 : CmpOp} {r1 r2 r3 : R2} (h1 : OpR X (compareOp op1) r1) (h2 : OpR X (compareOp op2) r2) (h3 : OpR X (compareOp op3) r3) (ha : PE X a ta) (hb : PE X b tb) (hc : PE X c tc) (hd : PE X d td)
    (hm : lastMarks [op1, op2, op3] [b, c, d] = false := by with_unfolding_all rfl) : PT X (.Compare a [op1, op2, op3] [b, c, d] pos) (fun σ H Q => ta σ H fun x H1 => tb σ H1 fun y H2 => r1 x y H2 fun z H3 => ∃ k, z = .bl k ∧ (if k = true then (tc σ H3 fun w H4 => r2 y w H4 fun z2 H5 => ∃ k2, z2 = .bl k2 ∧ (if k2 = true then (td σ H5 fun v H6 => r3 w v H6 fun z3 H7 => ∃ k3, z3 = .bl k3 ∧ Q k3 H7) else Q false H5)) else Q false H3)) := by
  refine ⟨fun pins s σ H Q I h => ?_⟩
  refine isTrue_chain (thn (ha.run pins s σ H _ I h) fun v s1 ⟨x, H1, I1, e1, q1⟩ => test_link (thn (hb.run pins s1 σ H1 _ I1 q1) fun u s2 ⟨y, H2, I2, e2, q2⟩ =>
    thn (h1 pins s2 σ H2 x y v u _ I2 e1 e2 q2) fun d s3 ⟨z, H3, I3, e3, k, e, q3⟩ => ?_)) hm
  subst e
  cases e3
  refine wpAny_truthy_bool ?_
  cases k with
  | false => exact ite_ff ⟨H3, I3, q3⟩
  | true =>
    refine ite_tt (test_link (thn (hc.run pins s3 σ H3 _ I3 q3) fun w' s4 ⟨z', H4, I4, e4, q4⟩ => thn (h2 pins s4 σ H4 y z' u w' _ I4 e2 e4 q4) fun d' s5 ⟨z2, H5, I5, e5, k2, e6, q5⟩ => ?_))
    subst e6
    cases e5
    refine wpAny_truthy_bool ?_
    cases k2 with
    | false => exact ite_ff ⟨H5, I5, q5⟩
    | true =>
      refine ite_tt (test_last (thn (hd.run pins s5 σ H5 _ I5 q5) fun w2 s6 ⟨z3, H6, I6, e7, q6⟩ => thn (h3 pins s6 σ H6 z' z3 w' w2 _ I6 e4 e7 q6) fun d2 s7 ⟨z4, H7, I7, e8, k3, e9, q7⟩ => ?_))
      subst e9
      cases e8
      exact wpAny_truthy_bool ⟨H7, I7, q7⟩
def dChain3 (fa fb fc fd : En → M RV) : En → M Bool := fun en => (fa en).bind fun x => (fb en).bind fun y => (oLe x.1 y.1).bind fun z => match z.1 with
  | .d (.bool true) => (fc en).bind fun u => (oLe y.1 u.1).bind fun z2 => match z2.1 with
    | .d (.bool true) => (fd en).bind fun v => (oLe u.1 v.1).bind asB
    | .d (.bool false) => .ret false
    | _ => .stuck
  | .d (.bool false) => .ret false
  | _ => .stuck
theorem dt_le3 (ha : DE X mo E a fa) (hb : DE X mo E b fb) (hc : DE X mo E c fc) (hd : DE X mo E d fd) (hm : lastMarks [.LtE, .LtE, .LtE] [b, c, d] = false := by with_unfolding_all rfl) : DT X mo E (.Compare a [.LtE, .LtE, .LtE] [b, c, d] pos) (dChain3 fa fb fc fd) := by
  obtain ⟨ta, pa, wa⟩ := ha
  obtain ⟨tb, pb, wb⟩ := hb
  obtain ⟨tc, pc, wc⟩ := hc
  obtain ⟨td, pd, wd⟩ := hd
  refine ⟨_, pt_chain3 op_le op_le op_le pa pb pc pd hm, fun S g W σ H en Q hR h => ?_⟩
  unfold dChain3 at h
  rw [wp_bind] at h
  refine wa S g W σ H en _ hR (wp_mono h (fun r1 W1 q g1 v1 H1 s1 w1 rr1 => ?_) fun _ _ q => q)
  rw [wp_bind] at q
  refine wb S g1 W1 σ H1 en _ (hR.step s1 w1) (wp_mono q (fun r2 W2 q2 g2 v2 H2 s2 w2 rr2 => ?_) fun _ _ q => q.step s1)
  rw [wp_bind] at q2
  have sd2 : ∀ a, S a → H2 a ≠ none := fun a s => s2.dom a (s1.dom a (hR.sd a s))
  refine opd_le S g2 W2 H2 v1 v2 r1.1 r2.1 _ (EE mo X.K S g H E) w2 sd2 (rr1.1.step s2) rr2.1 (wp_mono q2 (fun r3 W3 q3 g3 v3 H3 s3 w3 rr3 => ?_) fun _ _ q => q)
  try dsimp only at q3
  have S3 := (s1.trans s2).trans s3
  split at q3
  · rename_i e3
    replace rr3 := RepR.at rr3 e3
    refine ⟨true, Rp.bl_inv rr3.1, ?_⟩
    rw [if_pos rfl]
    rw [wp_bind] at q3
    refine wc S g3 W3 σ H3 en _ (hR.step S3 w3) (wp_mono q3 (fun r4 W4 q4 g4 v4 H4 s4 w4 rr4 => ?_) fun _ _ q => q.step S3)
    rw [wp_bind] at q4
    refine opd_le S g4 W4 H4 v2 v4 r2.1 r4.1 _ (EE mo X.K S g H E) w4 (fun a s => s4.dom a (s3.dom a (sd2 a s))) (rr2.1.step (s3.trans s4)) rr4.1 (wp_mono q4 (fun r5 W5 q5 g5 v5 H5 s5 w5 rr5 => ?_) fun _ _ q => q)
    try dsimp only at q5
    have S5 := (S3.trans s4).trans s5
    split at q5
    · rename_i e5
      replace rr5 := RepR.at rr5 e5
      refine ⟨true, Rp.bl_inv rr5.1, ?_⟩
      rw [if_pos rfl]
      rw [wp_bind] at q5
      refine wd S g5 W5 σ H5 en _ (hR.step S5 w5) (wp_mono q5 (fun r6 W6 q6 g6 v6 H6 s6 w6 rr6 => ?_) fun _ _ q => q.step S5)
      rw [wp_bind] at q6
      refine opd_le S g6 W6 H6 v4 v6 r4.1 r6.1 _ (EE mo X.K S g H E) w6 (fun a s => s6.dom a (S5.dom a (hR.sd a s))) (rr4.1.step (s5.trans s6)) rr6.1 (wp_mono q6 (fun r7 W7 q7 g7 v7 H7 s7 w7 rr7 => ?_) fun _ _ q => q)
      unfold asB at q7
      split at q7
      · rename_i b e
        replace rr7 := RepR.at rr7 e
        exact ⟨b, Rp.bl_inv rr7.1, q7 g7 H7 ((S5.trans s6).trans s7) w7⟩
      · exact q7.elim
    · rename_i e5
      replace rr5 := RepR.at rr5 e5
      refine ⟨false, Rp.bl_inv rr5.1, ?_⟩
      rw [if_neg Bool.false_ne_true]
      exact q5 g5 H5 S5 w5
    · exact q5.elim
  · rename_i e3
    replace rr3 := RepR.at rr3 e3
    refine ⟨false, Rp.bl_inv rr3.1, ?_⟩
    rw [if_neg Bool.false_ne_true]
    exact q3 g3 H3 S3 w3
  · exact q3.elim
end
end Dt

namespace Pg
open PySem L2 Dt
def fuel : Nat := 1000000000000
def tup_FIGURES : List PyData := [.str "sum", .str "mean", .str "median", .str "least", .str "greatest"]
abbrev F__law_draw : List AV → M RV := fDraw
abbrev F__law_start : List AV → M RV := fStart
def b_is_int : En → M Out := (sRet (dAndV (dIsi .int (dVar 0)) (dAndV (dNotV (dIsi .bool (dVar 0))) (dChain oLe oLe (dVar 1) (dVar 0) (dVar 2)))))
def F_is_int : List AV → M RV := runF 3 3 b_is_int
def b_is_bound : En → M Out := (sSeq (sIf (dOr (dNot (dTest (dIsi .tuple (dVar 0)))) (dTest (dBin oNe (dCall bLen (aCons (dVar 0) aNil)) (dC (.int 2)))))
    (sRet (dC (.bool false)))
    sNil)
    (sRet (dAndV (dCall F_is_int (aCons (dBin oIx (dVar 0) (dC (.int 0))) (aCons (dNeg (dC (.int 50))) (aCons (dC (.int 50)) aNil)))) (dCall F_is_int (aCons (dBin oIx (dVar 0) (dC (.int 1))) (aCons (dBin oIx (dVar 0) (dC (.int 0))) (aCons (dC (.int 50)) aNil)))))))
def F_is_bound : List AV → M RV := runF 1 1 b_is_bound
def b_is_bounds : En → M Out := (sSeq (sIf (dOr (dNot (dTest (dIsi .list (dVar 0)))) (dNot (dTest (dChain oLe oLe (dC (.int 1)) (dCall bLen (aCons (dVar 0) aNil)) (dC (.int 7))))))
    (sRet (dC (.bool false)))
    sNil)
    (sRet (dCall bAll (aCons (dComp [1] [1] bdN (iSeqD (dVar 0)) yes (dCall F_is_bound (aCons (dVar 1) aNil))) aNil))))
def F_is_bounds : List AV → M RV := runF 1 2 b_is_bounds
def b_check_bounds : En → M Out := (sIf (dNot (dTest (dCall F_is_bounds (aCons (dVar 0) aNil))))
    (sRaise .bounds)
    sNil)
def F_check_bounds : List AV → M RV := runF 1 1 b_check_bounds
def b_common_divisor : En → M Out := (sSeq (sPar 0 1 (aCons (dCall bAbs (aCons (dVar 0) aNil)) (aCons (dCall bAbs (aCons (dVar 1) aNil)) aNil)))
    (sSeq (sWhile fuel (dTest (dBin oNe (dVar 1) (dC (.int 0))))
    (sPar 0 1 (aCons (dVar 1) (aCons (dBin oMod (dVar 0) (dVar 1)) aNil))))
    (sRetV 0)))
def F_common_divisor : List AV → M RV := runF 2 2 b_common_divisor
def b_lowest : En → M Out := (sSeq (sSet 2 (dCall F_common_divisor (aCons (dVar 0) (aCons (dVar 1) aNil))))
    (sRet (dTup (aCons (dBin oDiv (dVar 0) (dVar 2)) (aCons (dBin oDiv (dVar 1) (dVar 2)) aNil)))))
def F_lowest : List AV → M RV := runF 2 3 b_lowest
def b_lows : En → M Out := (sRet (dComp [1, 2] [1, 2] (bdT 2) (iSeqD (dVar 0)) yes (dVar 1)))
def F_lows : List AV → M RV := runF 1 3 b_lows
def b_highs : En → M Out := (sRet (dComp [1, 2] [1, 2] (bdT 2) (iSeqD (dVar 0)) yes (dVar 2)))
def F_highs : List AV → M RV := runF 1 3 b_highs
def b_sum_range : En → M Out := (sSeq (sExpr (dCall F_check_bounds (aCons (dVar 0) aNil)))
    (sRet (dTup (aCons (dCall bSum (aCons (dCall F_lows (aCons (dVar 0) aNil)) aNil)) (aCons (dCall bSum (aCons (dCall F_highs (aCons (dVar 0) aNil)) aNil)) aNil)))))
def F_sum_range : List AV → M RV := runF 1 1 b_sum_range
def b_mean_range : En → M Out := (sSeq (sExpr (dCall F_check_bounds (aCons (dVar 0) aNil)))
    (sRet (dTup (aCons (dCall F_lowest (aCons (dCall bSum (aCons (dCall F_lows (aCons (dVar 0) aNil)) aNil)) (aCons (dCall bLen (aCons (dVar 0) aNil)) aNil))) (aCons (dCall F_lowest (aCons (dCall bSum (aCons (dCall F_highs (aCons (dVar 0) aNil)) aNil)) (aCons (dCall bLen (aCons (dVar 0) aNil)) aNil))) aNil)))))
def F_mean_range : List AV → M RV := runF 1 1 b_mean_range
def b_kth_range : En → M Out := (sSeq (sExpr (dCall F_check_bounds (aCons (dVar 0) aNil)))
    (sSeq (sIf (dNot (dTest (dCall F_is_int (aCons (dVar 1) (aCons (dC (.int 1)) (aCons (dCall bLen (aCons (dVar 0) aNil)) aNil))))))
    (sRaise .number)
    sNil)
    (sRet (dTup (aCons (dBin oIx (dCall bSorted (aCons (dCall F_lows (aCons (dVar 0) aNil)) aNil)) (dBin oSub (dVar 1) (dC (.int 1)))) (aCons (dBin oIx (dCall bSorted (aCons (dCall F_highs (aCons (dVar 0) aNil)) aNil)) (dBin oSub (dVar 1) (dC (.int 1)))) aNil))))))
def F_kth_range : List AV → M RV := runF 2 2 b_kth_range
def b_middle : En → M Out := (sSeq (sSet 1 (dCall bSorted (aCons (dVar 0) aNil)))
    (sSeq (sSet 2 (dCall bLen (aCons (dVar 1) aNil)))
    (sRet (dCall F_lowest (aCons (dBin oAdd (dBin oIx (dVar 1) (dBin oDiv (dBin oSub (dVar 2) (dC (.int 1))) (dC (.int 2)))) (dBin oIx (dVar 1) (dBin oDiv (dVar 2) (dC (.int 2))))) (aCons (dC (.int 2)) aNil))))))
def F_middle : List AV → M RV := runF 1 3 b_middle
def b_median_range : En → M Out := (sSeq (sExpr (dCall F_check_bounds (aCons (dVar 0) aNil)))
    (sRet (dTup (aCons (dCall F_middle (aCons (dCall F_lows (aCons (dVar 0) aNil)) aNil)) (aCons (dCall F_middle (aCons (dCall F_highs (aCons (dVar 0) aNil)) aNil)) aNil)))))
def F_median_range : List AV → M RV := runF 1 1 b_median_range
def b_least_range : En → M Out := (sSeq (sExpr (dCall F_check_bounds (aCons (dVar 0) aNil)))
    (sRet (dTup (aCons (dCall bMin1 (aCons (dCall F_lows (aCons (dVar 0) aNil)) aNil)) (aCons (dCall bMin1 (aCons (dCall F_highs (aCons (dVar 0) aNil)) aNil)) aNil)))))
def F_least_range : List AV → M RV := runF 1 1 b_least_range
def b_greatest_range : En → M Out := (sSeq (sExpr (dCall F_check_bounds (aCons (dVar 0) aNil)))
    (sRet (dTup (aCons (dCall bMax1 (aCons (dCall F_lows (aCons (dVar 0) aNil)) aNil)) (aCons (dCall bMax1 (aCons (dCall F_highs (aCons (dVar 0) aNil)) aNil)) aNil)))))
def F_greatest_range : List AV → M RV := runF 1 1 b_greatest_range
def b_above_range : En → M Out := (sSeq (sExpr (dCall F_check_bounds (aCons (dVar 0) aNil)))
    (sSeq (sIf (dNot (dTest (dCall F_is_int (aCons (dVar 1) (aCons (dNeg (dC (.int 50))) (aCons (dC (.int 50)) aNil))))))
    (sRaise .number)
    sNil)
    (sRet (dTup (aCons (dCall bLen (aCons (dComp [2, 3] [2, 3] (bdT 2) (iSeqD (dVar 0)) (dTest (dBin oGt (dVar 2) (dVar 1))) (dC (.int 1))) aNil)) (aCons (dCall bLen (aCons (dComp [2, 3] [2, 3] (bdT 2) (iSeqD (dVar 0)) (dTest (dBin oGt (dVar 3) (dVar 1))) (dC (.int 1))) aNil)) aNil))))))
def F_above_range : List AV → M RV := runF 2 4 b_above_range
def b__law_choices : En → M Out := (sSeq (sSet 1 (dLst (aCons (dLst aNil) aNil)))
    (sSeq (sFor [2, 3] (bdT 2) (iSeqD (dVar 0))
    (sSeq (sSet 4 (dLst aNil))
    (sSeq (sFor [5] bdN (iSeqD (dVar 1))
    (sSet 4 (dBin oAdd (dVar 4) (dComp [6] [6] bdN (iRangeD2 (aCons (dVar 2) (aCons (dBin oAdd (dVar 3) (dC (.int 1))) aNil))) yes (dBin oAdd (dVar 5) (dLst (aCons (dVar 6) aNil)))))))
    (sSet 1 (dVar 4)))))
    (sRetV 1)))
def F__law_choices : List AV → M RV := runF 1 7 b__law_choices
def b__law_small : En → M Out := (sSeq (sSetO 2 (dLst aNil))
    (sSeq (sFor [3] bdN (iRangeD1 (aCons (dBin oAdd (dC (.int 1)) (dCall F__law_draw (aCons (dVar 0) (aCons (dVar 1) aNil)))) aNil))
    (sSeq (sSet 4 (dBin oSub (dCall F__law_draw (aCons (dVar 0) (aCons (dC (.int 8)) aNil))) (dC (.int 4))))
    (sApp 2 (dTup (aCons (dVar 4) (aCons (dBin oAdd (dVar 4) (dCall F__law_draw (aCons (dVar 0) (aCons (dC (.int 4)) aNil)))) aNil))))))
    (sRetV 2)))
def F__law_small : List AV → M RV := runF 2 5 b__law_small
def b__law_low : En → M Out := (sSeq (sPar 2 3 (aCons (dCall bAbs (aCons (dVar 0) aNil)) (aCons (dVar 1) aNil)))
    (sSeq (sWhile fuel (dTest (dBin oNe (dVar 3) (dC (.int 0))))
    (sPar 2 3 (aCons (dVar 3) (aCons (dBin oMod (dVar 2) (dVar 3)) aNil))))
    (sRet (dTup (aCons (dBin oDiv (dVar 0) (dVar 2)) (aCons (dBin oDiv (dVar 1) (dVar 2)) aNil))))))
def F__law_low : List AV → M RV := runF 2 4 b__law_low
def b__law_below : En → M Out := (sRet (dBin oLt (dBin oMul (dBin oIx (dVar 0) (dC (.int 0))) (dBin oIx (dVar 1) (dC (.int 1)))) (dBin oMul (dBin oIx (dVar 1) (dC (.int 0))) (dBin oIx (dVar 0) (dC (.int 1))))))
def F__law_below : List AV → M RV := runF 2 2 b__law_below
def b__law_middle : En → M Out := (sSeq (sSet 1 (dCall bSorted (aCons (dVar 0) aNil)))
    (sSeq (sSet 2 (dCall bLen (aCons (dVar 1) aNil)))
    (sRet (dCall F__law_low (aCons (dBin oAdd (dBin oIx (dVar 1) (dBin oDiv (dBin oSub (dVar 2) (dC (.int 1))) (dC (.int 2)))) (dBin oIx (dVar 1) (dBin oDiv (dVar 2) (dC (.int 2))))) (aCons (dC (.int 2)) aNil))))))
def F__law_middle : List AV → M RV := runF 1 3 b__law_middle
def b_choice_with_sum : En → M Out := (sSeq (sExpr (dCall F_check_bounds (aCons (dVar 0) aNil)))
    (sSeq (sIf (dNot (dTest (dCall F_is_int (aCons (dVar 1) (aCons (dCall bSum (aCons (dCall F_lows (aCons (dVar 0) aNil)) aNil)) (aCons (dCall bSum (aCons (dCall F_highs (aCons (dVar 0) aNil)) aNil)) aNil))))))
    (sRaise .number)
    sNil)
    (sSeq (sSet 2 (dBin oSub (dVar 1) (dCall bSum (aCons (dCall F_lows (aCons (dVar 0) aNil)) aNil))))
    (sSeq (sSetO 3 (dLst aNil))
    (sSeq (sFor [4, 5] (bdT 2) (iSeqD (dVar 0))
    (sSeq (sSet 6 (dCall bMin2 (aCons (dVar 2) (aCons (dBin oSub (dVar 5) (dVar 4)) aNil))))
    (sSeq (sApp 3 (dBin oAdd (dVar 4) (dVar 6)))
    (sAug 2 (fun m n => m - n) (dVar 6)))))
    (sRetV 3))))))
def F_choice_with_sum : List AV → M RV := runF 2 7 b_choice_with_sum
def b__law_pick : En → M Out := (sRet (dBin oIx (dVar 1) (dCall F__law_draw (aCons (dVar 0) (aCons (dCall bLen (aCons (dVar 1) aNil)) aNil)))))
def F__law_pick : List AV → M RV := runF 2 2 b__law_pick
def b__law_bounds : En → M Out := (sSeq (sPar 4 5 (aCons (dCall F__law_pick (aCons (dVar 0) (aCons (dLst (aCons (dC (.int 3)) (aCons (dC (.int 8)) (aCons (dC (.int 30)) aNil)))) aNil))) (aCons (dCall F__law_pick (aCons (dVar 0) (aCons (dLst (aCons (dC (.int 2)) (aCons (dC (.int 4)) (aCons (dC (.int 20)) aNil)))) aNil))) aNil)))
    (sSeq (sSetO 2 (dLst aNil))
    (sSeq (sFor [3] bdN (iRangeD1 (aCons (dBin oAdd (dC (.int 1)) (dCall F__law_draw (aCons (dVar 0) (aCons (dVar 1) aNil)))) aNil))
    (sSeq (sSet 6 (dBin oSub (dCall F__law_draw (aCons (dVar 0) (aCons (dBin oMul (dC (.int 2)) (dVar 4)) aNil))) (dVar 4)))
    (sApp 2 (dTup (aCons (dVar 6) (aCons (dBin oAdd (dVar 6) (dCall F__law_draw (aCons (dVar 0) (aCons (dVar 5) aNil)))) aNil))))))
    (sRetV 2))))
def F__law_bounds : List AV → M RV := runF 2 7 b__law_bounds
def b__law_inside : En → M Out := (sRet (dAndV (dBin oEq (dCall bLen (aCons (dVar 1) aNil)) (dCall bLen (aCons (dVar 0) aNil))) (dBin oEq (dComp [2] [2] bdN (iRangeD1 (aCons (dCall bLen (aCons (dVar 1) aNil)) aNil)) (dNot (dTest (dChain oLe oLe (dBin oIx (dBin oIx (dVar 0) (dVar 2)) (dC (.int 0))) (dBin oIx (dVar 1) (dVar 2)) (dBin oIx (dBin oIx (dVar 0) (dVar 2)) (dC (.int 1)))))) (dVar 2)) (dLst aNil))))
def F__law_inside : List AV → M RV := runF 2 3 b__law_inside
def b_shared : En → M Out := (sSeq (sExpr (dCall F_check_bounds (aCons (dVar 0) aNil)))
    (sSeq (sIf (dTest (dBin oGt (dCall bMax1 (aCons (dCall F_lows (aCons (dVar 0) aNil)) aNil)) (dCall bMin1 (aCons (dCall F_highs (aCons (dVar 0) aNil)) aNil))))
    (sRaise .missing)
    sNil)
    (sRet (dTup (aCons (dCall bMax1 (aCons (dCall F_lows (aCons (dVar 0) aNil)) aNil)) (aCons (dCall bMin1 (aCons (dCall F_highs (aCons (dVar 0) aNil)) aNil)) aNil))))))
def F_shared : List AV → M RV := runF 1 1 b_shared
def b_pair_gap : En → M Out := (sSeq (sSet 1 (dC .none))
    (sSeq (sFor [2] bdN (iRangeD1 (aCons (dCall bLen (aCons (dVar 0) aNil)) aNil))
    (sFor [3] bdN (iRangeD1 (aCons (dCall bLen (aCons (dVar 0) aNil)) aNil))
    (sSeq (sSet 4 (dBin oSub (dBin oIx (dBin oIx (dVar 0) (dVar 2)) (dC (.int 1))) (dBin oIx (dBin oIx (dVar 0) (dVar 3)) (dC (.int 0)))))
    (sIf (dAnd (dTest (dBin oNe (dVar 2) (dVar 3))) (dOr (dTest (dBin oIsN (dVar 1) (dC .none))) (dTest (dBin oGt (dVar 4) (dBin oIx (dVar 1) (dC (.int 0)))))))
    (sSet 1 (dTup (aCons (dVar 4) (aCons (dVar 2) (aCons (dVar 3) aNil)))))
    sNil))))
    (sRetV 1)))
def F_pair_gap : List AV → M RV := runF 1 5 b_pair_gap
def b_spread_range : En → M Out := (sSeq (sExpr (dCall F_check_bounds (aCons (dVar 0) aNil)))
    (sSeq (sSet 1 (dCall F_pair_gap (aCons (dVar 0) aNil)))
    (sSeq (sSet 2 (dCall bMax2 (aCons (dC (.int 0)) (aCons (dBin oSub (dCall bMax1 (aCons (dCall F_lows (aCons (dVar 0) aNil)) aNil)) (dCall bMin1 (aCons (dCall F_highs (aCons (dVar 0) aNil)) aNil))) aNil))))
    (sRet (dTup (aCons (dVar 2) (aCons (dIf (dTest (dBin oNotN (dVar 1) (dC .none))) (dBin oIx (dVar 1) (dC (.int 0))) (dC (.int 0))) aNil)))))))
def F_spread_range : List AV → M RV := runF 1 3 b_spread_range
def b_widest_choice : En → M Out := (sSeq (sExpr (dCall F_check_bounds (aCons (dVar 0) aNil)))
    (sSeq (sSet 1 (dCall F_pair_gap (aCons (dVar 0) aNil)))
    (sSeq (sSetO 2 (dCall F_lows (aCons (dVar 0) aNil)))
    (sSeq (sIf (dTest (dBin oNotN (dVar 1) (dC .none)))
    (sPut 2 (dBin oIx (dVar 1) (dC (.int 1))) (dBin oIx (dBin oIx (dVar 0) (dBin oIx (dVar 1) (dC (.int 1)))) (dC (.int 1))))
    sNil)
    (sRetV 2)))))
def F_widest_choice : List AV → M RV := runF 1 3 b_widest_choice
def b_narrowest_choice : En → M Out := (sSeq (sExpr (dCall F_check_bounds (aCons (dVar 0) aNil)))
    (sSeq (sSet 1 (dCall bMin2 (aCons (dCall bMax1 (aCons (dCall F_lows (aCons (dVar 0) aNil)) aNil)) (aCons (dCall bMin1 (aCons (dCall F_highs (aCons (dVar 0) aNil)) aNil)) aNil))))
    (sRet (dComp [2, 3] [2, 3] (bdT 2) (iSeqD (dVar 0)) yes (dCall bMin2 (aCons (dVar 3) (aCons (dCall bMax2 (aCons (dVar 2) (aCons (dVar 1) aNil))) aNil)))))))
def F_narrowest_choice : List AV → M RV := runF 1 4 b_narrowest_choice
def b_surely_apart : En → M Out := (sSeq (sExpr (dCall F_check_bounds (aCons (dVar 0) aNil)))
    (sSeq (sSetO 1 (dLst aNil))
    (sSeq (sFor [2] bdN (iRangeD1 (aCons (dCall bLen (aCons (dVar 0) aNil)) aNil))
    (sFor [3] bdN (iRangeD2 (aCons (dBin oAdd (dVar 2) (dC (.int 1))) (aCons (dCall bLen (aCons (dVar 0) aNil)) aNil)))
    (sIf (dOr (dTest (dBin oGt (dBin oIx (dBin oIx (dVar 0) (dVar 2)) (dC (.int 0))) (dBin oIx (dBin oIx (dVar 0) (dVar 3)) (dC (.int 1))))) (dTest (dBin oGt (dBin oIx (dBin oIx (dVar 0) (dVar 3)) (dC (.int 0))) (dBin oIx (dBin oIx (dVar 0) (dVar 2)) (dC (.int 1))))))
    (sApp 1 (dTup (aCons (dVar 2) (aCons (dVar 3) aNil))))
    sNil)))
    (sRetV 1))))
def F_surely_apart : List AV → M RV := runF 1 4 b_surely_apart
def b_most_shared : En → M Out := (sSeq (sExpr (dCall F_check_bounds (aCons (dVar 0) aNil)))
    (sSeq (sSet 1 (dTup (aCons (dC (.int 0)) (aCons (dC (.int 0)) aNil))))
    (sSeq (sFor [2] bdN (iSeqD (dCall bSorted (aCons (dCall F_lows (aCons (dVar 0) aNil)) aNil)))
    (sSeq (sSet 3 (dCall bLen (aCons (dComp [4, 5] [4, 5] (bdT 2) (iSeqD (dVar 0)) (dTest (dChain oLe oLe (dVar 4) (dVar 2) (dVar 5))) (dC (.int 1))) aNil)))
    (sSet 1 (dIf (dTest (dBin oGt (dVar 3) (dBin oIx (dVar 1) (dC (.int 0))))) (dTup (aCons (dVar 3) (aCons (dVar 2) aNil))) (dVar 1)))))
    (sRetV 1))))
def F_most_shared : List AV → M RV := runF 1 6 b_most_shared
def b_plus : En → M Out := (sRet (dCall F_lowest (aCons (dBin oAdd (dBin oMul (dBin oIx (dVar 0) (dC (.int 0))) (dBin oIx (dVar 1) (dC (.int 1)))) (dBin oMul (dBin oIx (dVar 1) (dC (.int 0))) (dBin oIx (dVar 0) (dC (.int 1))))) (aCons (dBin oMul (dBin oIx (dVar 0) (dC (.int 1))) (dBin oIx (dVar 1) (dC (.int 1)))) aNil))))
def F_plus : List AV → M RV := runF 2 2 b_plus
def b_minus : En → M Out := (sRet (dCall F_plus (aCons (dVar 0) (aCons (dTup (aCons (dNeg (dBin oIx (dVar 1) (dC (.int 0)))) (aCons (dBin oIx (dVar 1) (dC (.int 1))) aNil))) aNil))))
def F_minus : List AV → M RV := runF 2 2 b_minus
def b_times : En → M Out := (sRet (dCall F_lowest (aCons (dBin oMul (dBin oIx (dVar 0) (dC (.int 0))) (dBin oIx (dVar 1) (dC (.int 0)))) (aCons (dBin oMul (dBin oIx (dVar 0) (dC (.int 1))) (dBin oIx (dVar 1) (dC (.int 1)))) aNil))))
def F_times : List AV → M RV := runF 2 2 b_times
def b_less : En → M Out := (sRet (dBin oLt (dBin oMul (dBin oIx (dVar 0) (dC (.int 0))) (dBin oIx (dVar 1) (dC (.int 1)))) (dBin oMul (dBin oIx (dVar 1) (dC (.int 0))) (dBin oIx (dVar 0) (dC (.int 1))))))
def F_less : List AV → M RV := runF 2 2 b_less
def b_total : En → M Out := (sSeq (sSet 1 (dTup (aCons (dC (.int 0)) (aCons (dC (.int 1)) aNil))))
    (sSeq (sFor [2] bdN (iSeqD (dVar 0))
    (sSet 1 (dCall F_plus (aCons (dVar 1) (aCons (dVar 2) aNil)))))
    (sRetV 1)))
def F_total : List AV → M RV := runF 1 3 b_total
def b_squares_about_mean : En → M Out := (sSeq (sSet 1 (dCall F_total (aCons (dVar 0) aNil)))
    (sSeq (sSet 2 (dTup (aCons (dC (.int 0)) (aCons (dC (.int 1)) aNil))))
    (sSeq (sFor [3] bdN (iSeqD (dVar 0))
    (sSet 2 (dCall F_plus (aCons (dVar 2) (aCons (dCall F_times (aCons (dVar 3) (aCons (dVar 3) aNil))) aNil)))))
    (sRet (dCall F_minus (aCons (dVar 2) (aCons (dCall F_times (aCons (dCall F_times (aCons (dVar 1) (aCons (dVar 1) aNil))) (aCons (dTup (aCons (dC (.int 1)) (aCons (dCall bLen (aCons (dVar 0) aNil)) aNil))) aNil))) aNil)))))))
def F_squares_about_mean : List AV → M RV := runF 1 4 b_squares_about_mean
def b_corner_choices : En → M Out := (sSeq (sSet 1 (dLst (aCons (dLst aNil) aNil)))
    (sSeq (sFor [2, 3] (bdT 2) (iSeqD (dVar 0))
    (sSet 1 (dBin oAdd (dComp [4] [4] bdN (iSeqD (dVar 1)) yes (dBin oAdd (dVar 4) (dLst (aCons (dVar 2) aNil)))) (dComp [4] [4] bdN (iSeqD (dVar 1)) (dTest (dBin oGt (dVar 3) (dVar 2))) (dBin oAdd (dVar 4) (dLst (aCons (dVar 3) aNil)))))))
    (sRetV 1)))
def F_corner_choices : List AV → M RV := runF 1 5 b_corner_choices
def b_widest : En → M Out := (sSeq (sPar 2 3 (aCons (dC .none) (aCons (dTup (aCons (dNeg (dC (.int 1))) (aCons (dC (.int 1)) aNil))) aNil)))
    (sSeq (sFor [1] bdN (iSeqD (dCall F_corner_choices (aCons (dVar 0) aNil)))
    (sSeq (sSet 4 (dCall F_squares_about_mean (aCons (dComp [5] [5] bdN (iSeqD (dVar 1)) yes (dTup (aCons (dVar 5) (aCons (dC (.int 1)) aNil)))) aNil)))
    (sIf (dTest (dCall F_less (aCons (dVar 3) (aCons (dVar 4) aNil))))
    (sPar 2 3 (aCons (dVar 1) (aCons (dVar 4) aNil)))
    sNil)))
    (sRetV 2)))
def F_widest : List AV → M RV := runF 1 6 b_widest
def b_greatest_squares : En → M Out := (sSeq (sExpr (dCall F_check_bounds (aCons (dVar 0) aNil)))
    (sRet (dCall F_squares_about_mean (aCons (dComp [1] [1] bdN (iSeqD (dCall F_widest (aCons (dVar 0) aNil))) yes (dTup (aCons (dVar 1) (aCons (dC (.int 1)) aNil)))) aNil))))
def F_greatest_squares : List AV → M RV := runF 1 2 b_greatest_squares
def b_widest_squares_choice : En → M Out := (sSeq (sExpr (dCall F_check_bounds (aCons (dVar 0) aNil)))
    (sRet (dCall F_widest (aCons (dVar 0) aNil))))
def F_widest_squares_choice : List AV → M RV := runF 1 1 b_widest_squares_choice
def b_clipped : En → M Out := (sSeq (sSetO 2 (dLst aNil))
    (sSeq (sFor [3, 4] (bdT 2) (iSeqD (dVar 0))
    (sIf (dTest (dCall F_less (aCons (dVar 1) (aCons (dTup (aCons (dVar 3) (aCons (dC (.int 1)) aNil))) aNil))))
    (sApp 2 (dTup (aCons (dVar 3) (aCons (dC (.int 1)) aNil))))
    (sApp 2 (dIf (dTest (dCall F_less (aCons (dTup (aCons (dVar 4) (aCons (dC (.int 1)) aNil))) (aCons (dVar 1) aNil)))) (dTup (aCons (dVar 4) (aCons (dC (.int 1)) aNil))) (dVar 1)))))
    (sRetV 2)))
def F_clipped : List AV → M RV := runF 2 5 b_clipped
def b_centre_of : En → M Out := (sSeq (sPar 2 3 (aCons (dCall bMax1 (aCons (dCall F_lows (aCons (dVar 0) aNil)) aNil)) (aCons (dCall bMin1 (aCons (dCall F_highs (aCons (dVar 0) aNil)) aNil)) aNil)))
    (sSeq (sIf (dTest (dBin oLe (dVar 2) (dVar 3)))
    (sRet (dTup (aCons (dVar 2) (aCons (dC (.int 1)) aNil))))
    sNil)
    (sSeq (sSet 1 (dCall bSorted (aCons (dBin oAdd (dCall F_lows (aCons (dVar 0) aNil)) (dCall F_highs (aCons (dVar 0) aNil))) aNil)))
    (sSeq (sFor [4, 5] (bdT 2) (iZipD (aCons (dVar 1) (aCons (dSl (dVar 1) (oSome (dC (.int 1))) oNone) aNil)))
    (sSeq (sSet 6 (dBin oAdd (dComp [8, 9] [8, 9] (bdT 2) (iSeqD (dVar 0)) (dTest (dBin oGe (dVar 8) (dVar 5))) (dVar 8)) (dComp [8, 9] [8, 9] (bdT 2) (iSeqD (dVar 0)) (dTest (dBin oLe (dVar 9) (dVar 4))) (dVar 9))))
    (sSeq (sSet 7 (dCall F_lowest (aCons (dCall bSum (aCons (dVar 6) aNil)) (aCons (dCall bLen (aCons (dVar 6) aNil)) aNil))))
    (sIf (dAnd (dNot (dTest (dCall F_less (aCons (dVar 7) (aCons (dTup (aCons (dVar 4) (aCons (dC (.int 1)) aNil))) aNil))))) (dNot (dTest (dCall F_less (aCons (dTup (aCons (dVar 5) (aCons (dC (.int 1)) aNil))) (aCons (dVar 7) aNil))))))
    (sRetV 7)
    sNil))))
    (sRet (dTup (aCons (dVar 2) (aCons (dC (.int 1)) aNil))))))))
def F_centre_of : List AV → M RV := runF 1 10 b_centre_of
def b_centre : En → M Out := (sSeq (sExpr (dCall F_check_bounds (aCons (dVar 0) aNil)))
    (sRet (dCall F_centre_of (aCons (dVar 0) aNil))))
def F_centre : List AV → M RV := runF 1 1 b_centre
def b_nearest_choice : En → M Out := (sSeq (sExpr (dCall F_check_bounds (aCons (dVar 0) aNil)))
    (sRet (dCall F_clipped (aCons (dVar 0) (aCons (dCall F_centre_of (aCons (dVar 0) aNil)) aNil)))))
def F_nearest_choice : List AV → M RV := runF 1 1 b_nearest_choice
def b_least_squares : En → M Out := (sSeq (sExpr (dCall F_check_bounds (aCons (dVar 0) aNil)))
    (sRet (dCall F_squares_about_mean (aCons (dCall F_clipped (aCons (dVar 0) (aCons (dCall F_centre_of (aCons (dVar 0) aNil)) aNil))) aNil))))
def F_least_squares : List AV → M RV := runF 1 1 b_least_squares
def b__law_add : En → M Out := (sRet (dCall F__law_low (aCons (dBin oAdd (dBin oMul (dBin oIx (dVar 0) (dC (.int 0))) (dBin oIx (dVar 1) (dC (.int 1)))) (dBin oMul (dBin oIx (dVar 1) (dC (.int 0))) (dBin oIx (dVar 0) (dC (.int 1))))) (aCons (dBin oMul (dBin oIx (dVar 0) (dC (.int 1))) (dBin oIx (dVar 1) (dC (.int 1)))) aNil))))
def F__law_add : List AV → M RV := runF 2 2 b__law_add
def b__law_squares : En → M Out := (sSeq (sPar 3 4 (aCons (dTup (aCons (dC (.int 0)) (aCons (dC (.int 1)) aNil))) (aCons (dTup (aCons (dC (.int 0)) (aCons (dC (.int 1)) aNil))) aNil)))
    (sSeq (sFor [1] bdN (iSeqD (dVar 0))
    (sSet 3 (dCall F__law_add (aCons (dVar 3) (aCons (dVar 1) aNil)))))
    (sSeq (sSet 2 (dCall F__law_low (aCons (dBin oIx (dVar 3) (dC (.int 0))) (aCons (dBin oMul (dBin oIx (dVar 3) (dC (.int 1))) (dCall bLen (aCons (dVar 0) aNil))) aNil))))
    (sSeq (sFor [1] bdN (iSeqD (dVar 0))
    (sSeq (sSet 5 (dCall F__law_add (aCons (dVar 1) (aCons (dTup (aCons (dBin oSub (dC (.int 0)) (dBin oIx (dVar 2) (dC (.int 0)))) (aCons (dBin oIx (dVar 2) (dC (.int 1))) aNil))) aNil))))
    (sSet 4 (dCall F__law_add (aCons (dVar 4) (aCons (dCall F__law_low (aCons (dBin oMul (dBin oIx (dVar 5) (dC (.int 0))) (dBin oIx (dVar 5) (dC (.int 0)))) (aCons (dBin oMul (dBin oIx (dVar 5) (dC (.int 1))) (dBin oIx (dVar 5) (dC (.int 1)))) aNil))) aNil))))))
    (sRetV 4)))))
def F__law_squares : List AV → M RV := runF 1 6 b__law_squares
def b__law_least : En → M Out := (sSeq (sSet 4 (dCall F_centre (aCons (dVar 1) aNil)))
    (sSeq (sSetO 5 (dLst aNil))
    (sSeq (sFor [10, 11] (bdT 2) (iSeqD (dVar 1))
    (sApp 5 (dIf (dTest (dCall F__law_below (aCons (dVar 4) (aCons (dTup (aCons (dVar 10) (aCons (dC (.int 1)) aNil))) aNil)))) (dTup (aCons (dVar 10) (aCons (dC (.int 1)) aNil))) (dIf (dTest (dCall F__law_below (aCons (dTup (aCons (dVar 11) (aCons (dC (.int 1)) aNil))) (aCons (dVar 4) aNil)))) (dTup (aCons (dVar 11) (aCons (dC (.int 1)) aNil))) (dVar 4)))))
    (sSeq (sSet 6 (dTup (aCons (dC (.int 0)) (aCons (dC (.int 1)) aNil))))
    (sSeq (sFrz 5 (sFor [7] bdN (iSeqD (dVar 5))
    (sSet 6 (dCall F__law_add (aCons (dVar 6) (aCons (dVar 7) aNil))))))
    (sSeq (sIf (dOr (dTest (dBin oNe (dCall F_nearest_choice (aCons (dVar 1) aNil)) (dVar 5))) (dTest (dBin oNe (dCall F__law_low (aCons (dBin oIx (dVar 6) (dC (.int 0))) (aCons (dBin oMul (dBin oIx (dVar 6) (dC (.int 1))) (dVar 2)) aNil))) (dVar 4))))
    (sRet (dC (.bool false)))
    sNil)
    (sSeq (sPar 10 11 (aCons (dCall bMax1 (aCons (dComp [7] [7] bdN (iSeqD (dVar 1)) yes (dBin oIx (dVar 7) (dC (.int 0)))) aNil)) (aCons (dCall bMin1 (aCons (dComp [7] [7] bdN (iSeqD (dVar 1)) yes (dBin oIx (dVar 7) (dC (.int 1)))) aNil)) aNil)))
    (sSeq (sSet 8 (dCall F_least_squares (aCons (dVar 1) aNil)))
    (sSeq (sIf (dOr (dTest (dBin oNe (dVar 8) (dCall F__law_squares (aCons (dVar 5) aNil)))) (dOr (dTest (dBin oNe (dBin oEq (dVar 8) (dTup (aCons (dC (.int 0)) (aCons (dC (.int 1)) aNil)))) (dBin oLe (dVar 10) (dVar 11)))) (dAnd (dTest (dBin oLe (dVar 10) (dVar 11))) (dTest (dBin oNe (dVar 4) (dTup (aCons (dVar 10) (aCons (dC (.int 1)) aNil))))))))
    (sRet (dC (.bool false)))
    sNil)
    (sSeq (sFor [9] bdN (iRangeD1 (aCons (dC (.int 6)) aNil))
    (sSeq (sSet 12 (dComp [7] [7] bdN (iSeqD (dVar 1)) yes (dTup (aCons (dBin oAdd (dBin oMul (dBin oIx (dVar 7) (dC (.int 0))) (dC (.int 12))) (dCall F__law_draw (aCons (dVar 0) (aCons (dBin oAdd (dBin oMul (dC (.int 12)) (dBin oSub (dBin oIx (dVar 7) (dC (.int 1))) (dBin oIx (dVar 7) (dC (.int 0))))) (dC (.int 1))) aNil)))) (aCons (dC (.int 12)) aNil)))))
    (sSeq (sSet 13 (dCall F__law_squares (aCons (dComp [14, 15] [14, 15] (bdT 2) (iSeqD (dVar 12)) yes (dCall F__law_low (aCons (dVar 14) (aCons (dVar 15) aNil)))) aNil)))
    (sIf (dOr (dTest (dCall F__law_below (aCons (dVar 13) (aCons (dVar 8) aNil)))) (dTest (dCall F__law_below (aCons (dVar 3) (aCons (dVar 13) aNil)))))
    (sRet (dC (.bool false)))
    sNil))))
    (sRet (dC (.bool true)))))))))))))
def F__law_least : List AV → M RV := runF 4 16 b__law_least
def b_check_place : En → M Out := (sIf (dNot (dTest (dCall F_is_int (aCons (dVar 1) (aCons (dC (.int 0)) (aCons (dBin oSub (dCall bLen (aCons (dVar 0) aNil)) (dC (.int 1))) aNil))))))
    (sRaise .number)
    sNil)
def F_check_place : List AV → M RV := runF 2 2 b_check_place
def b_ranks_of : En → M Out := (sSeq (sAsgT [4, 5] (bdT 2) (dBin oIx (dVar 0) (dVar 1)))
    (sSeq (sSet 2 (dCall bLen (aCons (dComp [6, 7] [6, 7] (bdT 2) (iEnumD (aCons (dVar 0) aNil)) (dAnd (dTest (dBin oNe (dVar 6) (dVar 1))) (dTest (dBin oLt (dBin oIx (dVar 7) (dC (.int 1))) (dVar 4)))) (dC (.int 1))) aNil)))
    (sSeq (sSet 3 (dCall bLen (aCons (dComp [6, 7] [6, 7] (bdT 2) (iEnumD (aCons (dVar 0) aNil)) (dAnd (dTest (dBin oNe (dVar 6) (dVar 1))) (dTest (dBin oGt (dBin oIx (dVar 7) (dC (.int 0))) (dVar 5)))) (dC (.int 1))) aNil)))
    (sRet (dTup (aCons (dBin oAdd (dC (.int 1)) (dVar 2)) (aCons (dBin oSub (dCall bLen (aCons (dVar 0) aNil)) (dVar 3)) aNil)))))))
def F_ranks_of : List AV → M RV := runF 2 8 b_ranks_of
def b_rank_range : En → M Out := (sSeq (sExpr (dCall F_check_bounds (aCons (dVar 0) aNil)))
    (sSeq (sExpr (dCall F_check_place (aCons (dVar 0) (aCons (dVar 1) aNil))))
    (sRet (dCall F_ranks_of (aCons (dVar 0) (aCons (dVar 1) aNil))))))
def F_rank_range : List AV → M RV := runF 2 2 b_rank_range
def b_can_be_greatest : En → M Out := (sSeq (sExpr (dCall F_check_bounds (aCons (dVar 0) aNil)))
    (sRet (dComp [1] [1] bdN (iRangeD1 (aCons (dCall bLen (aCons (dVar 0) aNil)) aNil)) (dTest (dBin oEq (dBin oIx (dCall F_ranks_of (aCons (dVar 0) (aCons (dVar 1) aNil))) (dC (.int 1))) (dCall bLen (aCons (dVar 0) aNil)))) (dVar 1))))
def F_can_be_greatest : List AV → M RV := runF 1 2 b_can_be_greatest
def b_surely_greatest : En → M Out := (sSeq (sExpr (dCall F_check_bounds (aCons (dVar 0) aNil)))
    (sSeq (sSetO 1 (dLst aNil))
    (sSeq (sFor [2, 3] (bdT 2) (iEnumD (aCons (dVar 0) aNil))
    (sIf (dTest (dCall bAll (aCons (dComp [4, 5] [4, 5] (bdT 2) (iEnumD (aCons (dVar 0) aNil)) (dTest (dBin oNe (dVar 4) (dVar 2))) (dBin oGe (dBin oIx (dVar 3) (dC (.int 0))) (dBin oIx (dVar 5) (dC (.int 1))))) aNil)))
    (sApp 1 (dVar 2))
    sNil))
    (sRetV 1))))
def F_surely_greatest : List AV → M RV := runF 1 6 b_surely_greatest
def b_in_first : En → M Out := (sSeq (sExpr (dCall F_check_bounds (aCons (dVar 0) aNil)))
    (sSeq (sExpr (dCall F_check_place (aCons (dVar 0) (aCons (dVar 1) aNil))))
    (sSeq (sIf (dNot (dTest (dCall F_is_int (aCons (dVar 2) (aCons (dC (.int 0)) (aCons (dCall bLen (aCons (dVar 0) aNil)) aNil))))))
    (sRaise .number)
    sNil)
    (sSeq (sAsgT [3, 4] (bdT 2) (dCall F_ranks_of (aCons (dVar 0) (aCons (dVar 1) aNil))))
    (sSeq (sIf (dTest (dBin oLe (dVar 4) (dVar 2)))
    (sRet (dC (.str "sure")))
    sNil)
    (sRet (dIf (dTest (dBin oLe (dVar 3) (dVar 2))) (dC (.str "possible")) (dC (.str "never")))))))))
def F_in_first : List AV → M RV := runF 3 5 b_in_first
def b_rank_table : En → M Out := (sSeq (sExpr (dCall F_check_bounds (aCons (dVar 0) aNil)))
    (sRet (dComp [1] [1] bdN (iRangeD1 (aCons (dCall bLen (aCons (dVar 0) aNil)) aNil)) yes (dCall F_ranks_of (aCons (dVar 0) (aCons (dVar 1) aNil))))))
def F_rank_table : List AV → M RV := runF 1 2 b_rank_table
def b__law_orders : En → M Out := (sSeq (sSet 1 (dLst (aCons (dLst aNil) aNil)))
    (sSeq (sFor [2] bdN (iRangeD1 (aCons (dCall bLen (aCons (dVar 0) aNil)) aNil))
    (sSeq (sSetO 3 (dLst aNil))
    (sSeq (sFor [4] bdN (iSeqD (dVar 1))
    (sFor [5] bdN (iRangeD1 (aCons (dCall bLen (aCons (dVar 0) aNil)) aNil))
    (sSeq (sSet 6 (dComp [7] [7] bdN (iSeqD (dVar 4)) (dTest (dBin oGt (dBin oIx (dBin oIx (dVar 0) (dVar 7)) (dC (.int 0))) (dBin oIx (dBin oIx (dVar 0) (dVar 5)) (dC (.int 1))))) (dVar 7)))
    (sIf (dAnd (dTest (dBin (oIn true) (dVar 5) (dVar 4))) (dTest (dBin oEq (dVar 6) (dLst aNil))))
    (sApp 3 (dBin oAdd (dVar 4) (dLst (aCons (dVar 5) aNil))))
    sNil))))
    (sFrz 3 (sSet 1 (dVar 3))))))
    (sRetV 1)))
def F__law_orders : List AV → M RV := runF 1 8 b__law_orders
def b_longest_chain : En → M Out := (sSeq (sExpr (dCall F_check_bounds (aCons (dVar 0) aNil)))
    (sSeq (sSet 1 (dCall bSorted (aCons (dComp [4, 5] [4, 5] (bdT 2) (iEnumD (aCons (dVar 0) aNil)) yes (dTup (aCons (dBin oIx (dVar 5) (dC (.int 1))) (aCons (dVar 4) aNil)))) aNil)))
    (sSeq (sSetO 2 (dLst aNil))
    (sSeq (sFor [3, 4] (bdT 2) (iSeqD (dVar 1))
    (sIf (dOr (dTest (dBin oEq (dVar 2) (dLst aNil))) (dTest (dBin oLt (dBin oIx (dBin oIx (dVar 0) (dBin oIx (dVar 2) (dNeg (dC (.int 1))))) (dC (.int 1))) (dBin oIx (dBin oIx (dVar 0) (dVar 4)) (dC (.int 0))))))
    (sApp 2 (dVar 4))
    sNil))
    (sRetV 2)))))
def F_longest_chain : List AV → M RV := runF 1 6 b_longest_chain
def b_verdict : En → M Out := (sSeq (sIf (dTest (dCall F_less (aCons (dVar 3) (aCons (dVar 0) aNil))))
    (sRet (dC (.str "sure")))
    sNil)
    (sRet (dIf (dTest (dCall F_less (aCons (dVar 2) (aCons (dVar 1) aNil)))) (dC (.str "possible")) (dC (.str "never")))))
def F_verdict : List AV → M RV := runF 4 4 b_verdict
def b_value_is_more : En → M Out := (sSeq (sExpr (dCall F_check_bounds (aCons (dVar 0) aNil)))
    (sSeq (sExpr (dCall F_check_place (aCons (dVar 0) (aCons (dVar 1) aNil))))
    (sSeq (sExpr (dCall F_check_place (aCons (dVar 0) (aCons (dVar 2) aNil))))
    (sSeq (sIf (dTest (dBin oEq (dVar 1) (dVar 2)))
    (sRet (dC (.str "never")))
    sNil)
    (sSeq (sAsgT [3, 4] (bdT 2) (dBin oIx (dVar 0) (dVar 1)))
    (sRet (dCall F_verdict (aCons (dTup (aCons (dVar 3) (aCons (dC (.int 1)) aNil))) (aCons (dTup (aCons (dVar 4) (aCons (dC (.int 1)) aNil))) (aCons (dTup (aCons (dBin oIx (dBin oIx (dVar 0) (dVar 2)) (dC (.int 0))) (aCons (dC (.int 1)) aNil))) (aCons (dTup (aCons (dBin oIx (dBin oIx (dVar 0) (dVar 2)) (dC (.int 1))) (aCons (dC (.int 1)) aNil))) aNil)))))))))))
def F_value_is_more : List AV → M RV := runF 3 5 b_value_is_more
def b_is_possible : En → M Out := (sSeq (sFor [2] bdN (iRangeD1 (aCons (dCall bLen (aCons (dVar 1) aNil)) aNil))
    (sFor [3] bdN (iRangeD1 (aCons (dVar 2) aNil))
    (sIf (dTest (dBin oGt (dBin oIx (dBin oIx (dVar 0) (dBin oIx (dVar 1) (dVar 3))) (dC (.int 0))) (dBin oIx (dBin oIx (dVar 0) (dBin oIx (dVar 1) (dVar 2))) (dC (.int 1)))))
    (sRet (dC (.bool false)))
    sNil)))
    (sRet (dC (.bool true))))
def F_is_possible : List AV → M RV := runF 2 4 b_is_possible
def b_next_places : En → M Out := (sSeq (sSet 2 (dComp [3] [3] bdN (iRangeD1 (aCons (dCall bLen (aCons (dVar 0) aNil)) aNil)) (dTest (dBin (oIn true) (dVar 3) (dVar 1))) (dVar 3)))
    (sRet (dComp [3] [3] bdN (iSeqD (dVar 2)) (dTest (dCall bAll (aCons (dComp [4] [4] bdN (iSeqD (dVar 2)) yes (dBin oLe (dBin oIx (dBin oIx (dVar 0) (dVar 3)) (dC (.int 0))) (dBin oIx (dBin oIx (dVar 0) (dVar 4)) (dC (.int 1))))) aNil))) (dVar 3))))
def F_next_places : List AV → M RV := runF 2 5 b_next_places
def b_checked_changing : En → M Out := (sSeq (sIf (dNot (dTest (dCall F_is_bounds (aCons (dVar 0) aNil))))
    (sRaise .bounds)
    sNil)
    (sRetV 0))
def F_checked_changing : List AV → M RV := runF 1 1 b_checked_changing
def b_widened : En → M Out := (sSeq (sExpr (dCall F_check_bounds (aCons (dVar 0) aNil)))
    (sSeq (sIf (dNot (dTest (dCall F_is_int (aCons (dVar 1) (aCons (dC (.int 0)) (aCons (dC (.int 50)) aNil))))))
    (sRaise .number)
    sNil)
    (sRet (dCall F_checked_changing (aCons (dComp [2, 3] [2, 3] (bdT 2) (iSeqD (dVar 0)) yes (dTup (aCons (dBin oSub (dVar 2) (dVar 1)) (aCons (dBin oAdd (dVar 3) (dVar 1)) aNil)))) aNil)))))
def F_widened : List AV → M RV := runF 2 4 b_widened
def b__law_true : En → M Out := (sRet (dAndV (dIsi .bool (dVar 0)) (dBin oEq (dVar 0) (dVar 1))))
def F__law_true : List AV → M RV := runF 2 2 b__law_true
def b__law_all_orders : En → M Out := (sSeq (sSet 1 (dLst (aCons (dLst aNil) aNil)))
    (sSeq (sFor [2] bdN (iRangeD1 (aCons (dVar 0) aNil))
    (sSeq (sSet 3 (dLst aNil))
    (sSeq (sFor [4] bdN (iSeqD (dVar 1))
    (sSet 3 (dBin oAdd (dVar 3) (dComp [5] [5] bdN (iRangeD1 (aCons (dVar 0) aNil)) (dTest (dBin (oIn true) (dVar 5) (dVar 4))) (dBin oAdd (dVar 4) (dLst (aCons (dVar 5) aNil)))))))
    (sSet 1 (dVar 3)))))
    (sRetV 1)))
def F__law_all_orders : List AV → M RV := runF 1 6 b__law_all_orders
def b_check_pairs : En → M Out := (sSeq (sIf (dOr (dNot (dTest (dIsi .list (dVar 1)))) (dTest (dBin oGt (dCall bLen (aCons (dVar 1) aNil)) (dC (.int 42)))))
    (sRaise .order)
    sNil)
    (sFor [2] bdN (iSeqD (dVar 1))
    (sSeq (sIf (dOr (dNot (dTest (dIsi .tuple (dVar 2)))) (dOr (dTest (dBin oNe (dCall bLen (aCons (dVar 2) aNil)) (dC (.int 2)))) (dNot (dTest (dCall bAll (aCons (dComp [3] [3] bdN (iSeqD (dVar 2)) yes (dCall F_is_int (aCons (dVar 3) (aCons (dC (.int 0)) (aCons (dBin oSub (dCall bLen (aCons (dVar 0) aNil)) (dC (.int 1))) aNil))))) aNil))))))
    (sRaise .order)
    sNil)
    (sIf (dTest (dBin oEq (dBin oIx (dVar 2) (dC (.int 0))) (dBin oIx (dVar 2) (dC (.int 1)))))
    (sRaise .order)
    sNil))))
def F_check_pairs : List AV → M RV := runF 2 4 b_check_pairs
def b_checked_facts : En → M Out := (sSeq (sIf (dTest (dCall bAny (aCons (dComp [1, 2] [1, 2] (bdT 2) (iSeqD (dVar 0)) yes (dBin oGt (dVar 1) (dVar 2))) aNil)))
    (sRaise .missing)
    sNil)
    (sRetV 0))
def F_checked_facts : List AV → M RV := runF 1 3 b_checked_facts
def b_with_sum : En → M Out := (sSeq (sExpr (dCall F_check_bounds (aCons (dVar 0) aNil)))
    (sSeq (sIf (dOr (dNot (dTest (dCall F_is_int (aCons (dVar 1) (aCons (dNeg (dC (.int 400))) (aCons (dC (.int 400)) aNil)))))) (dNot (dTest (dCall F_is_int (aCons (dVar 2) (aCons (dVar 1) (aCons (dC (.int 400)) aNil)))))))
    (sRaise .number)
    sNil)
    (sSeq (sAsgT [3, 4] (bdT 2) (dTup (aCons (dCall bSum (aCons (dComp [5, 6] [5, 6] (bdT 2) (iSeqD (dVar 0)) yes (dVar 5)) aNil)) (aCons (dCall bSum (aCons (dComp [5, 6] [5, 6] (bdT 2) (iSeqD (dVar 0)) yes (dVar 6)) aNil)) aNil))))
    (sSeq (sIf (dOr (dTest (dBin oGt (dVar 3) (dVar 2))) (dTest (dBin oLt (dVar 4) (dVar 1))))
    (sRaise .missing)
    sNil)
    (sRet (dComp [5, 6] [5, 6] (bdT 2) (iSeqD (dVar 0)) yes (dTup (aCons (dCall bMax2 (aCons (dVar 5) (aCons (dBin oSub (dVar 1) (dBin oSub (dVar 4) (dVar 6))) aNil))) (aCons (dCall bMin2 (aCons (dVar 6) (aCons (dBin oSub (dVar 2) (dBin oSub (dVar 3) (dVar 5))) aNil))) aNil)))))))))
def F_with_sum : List AV → M RV := runF 3 7 b_with_sum
def b_narrowed : En → M Out := (sSeq (sSetO 2 (dCall bList (aCons (dVar 0) aNil)))
    (sSeq (sFor [3] bdN (iRangeD1 (aCons (dCall bLen (aCons (dVar 0) aNil)) aNil))
    (sFor [4, 5] (bdT 2) (iSeqD (dVar 1))
    (sSeq (sPut 2 (dVar 4) (dTup (aCons (dBin oIx (dBin oIx (dVar 2) (dVar 4)) (dC (.int 0))) (aCons (dCall bMin2 (aCons (dBin oIx (dBin oIx (dVar 2) (dVar 4)) (dC (.int 1))) (aCons (dBin oIx (dBin oIx (dVar 2) (dVar 5)) (dC (.int 1))) aNil))) aNil))))
    (sPut 2 (dVar 5) (dTup (aCons (dCall bMax2 (aCons (dBin oIx (dBin oIx (dVar 2) (dVar 5)) (dC (.int 0))) (aCons (dBin oIx (dBin oIx (dVar 2) (dVar 4)) (dC (.int 0))) aNil))) (aCons (dBin oIx (dBin oIx (dVar 2) (dVar 5)) (dC (.int 1))) aNil)))))))
    (sRetV 2)))
def F_narrowed : List AV → M RV := runF 2 6 b_narrowed
def b_with_pairs : En → M Out := (sSeq (sExpr (dCall F_check_bounds (aCons (dVar 0) aNil)))
    (sSeq (sExpr (dCall F_check_pairs (aCons (dVar 0) (aCons (dVar 1) aNil))))
    (sRet (dCall F_checked_facts (aCons (dCall F_narrowed (aCons (dVar 0) (aCons (dVar 1) aNil))) aNil)))))
def F_with_pairs : List AV → M RV := runF 2 2 b_with_pairs
def b_can_be_pairs : En → M Out := (sSeq (sExpr (dCall F_check_bounds (aCons (dVar 0) aNil)))
    (sSeq (sExpr (dCall F_check_pairs (aCons (dVar 0) (aCons (dVar 1) aNil))))
    (sRet (dCall bAll (aCons (dComp [2, 3] [2, 3] (bdT 2) (iSeqD (dCall F_narrowed (aCons (dVar 0) (aCons (dVar 1) aNil)))) yes (dBin oLe (dVar 2) (dVar 3))) aNil)))))
def F_can_be_pairs : List AV → M RV := runF 2 4 b_can_be_pairs
def b_with_value : En → M Out := (sSeq (sExpr (dCall F_check_bounds (aCons (dVar 0) aNil)))
    (sSeq (sExpr (dCall F_check_place (aCons (dVar 0) (aCons (dVar 1) aNil))))
    (sSeq (sIf (dOr (dNot (dTest (dCall F_is_int (aCons (dVar 2) (aCons (dNeg (dC (.int 50))) (aCons (dC (.int 50)) aNil)))))) (dNot (dTest (dCall F_is_int (aCons (dVar 3) (aCons (dVar 2) (aCons (dC (.int 50)) aNil)))))))
    (sRaise .number)
    sNil)
    (sSeq (sSetO 4 (dCall bList (aCons (dVar 0) aNil)))
    (sSeq (sPut 4 (dVar 1) (dTup (aCons (dCall bMax2 (aCons (dVar 2) (aCons (dBin oIx (dBin oIx (dVar 0) (dVar 1)) (dC (.int 0))) aNil))) (aCons (dCall bMin2 (aCons (dVar 3) (aCons (dBin oIx (dBin oIx (dVar 0) (dVar 1)) (dC (.int 1))) aNil))) aNil))))
    (sRet (dCall F_checked_facts (aCons (dVar 4) aNil))))))))
def F_with_value : List AV → M RV := runF 4 5 b_with_value
def b_met : En → M Out := (sSeq (sExpr (dCall F_check_bounds (aCons (dVar 0) aNil)))
    (sSeq (sExpr (dCall F_check_bounds (aCons (dVar 1) aNil)))
    (sSeq (sIf (dTest (dBin oNe (dCall bLen (aCons (dVar 0) aNil)) (dCall bLen (aCons (dVar 1) aNil))))
    (sRaise .number)
    sNil)
    (sRet (dCall F_checked_facts (aCons (dComp [2, 3] [2, 3] (bdT 2) (iZipD (aCons (dVar 0) (aCons (dVar 1) aNil))) yes (dTup (aCons (dCall bMax2 (aCons (dBin oIx (dVar 2) (dC (.int 0))) (aCons (dBin oIx (dVar 3) (dC (.int 0))) aNil))) (aCons (dCall bMin2 (aCons (dBin oIx (dVar 2) (dC (.int 1))) (aCons (dBin oIx (dVar 3) (dC (.int 1))) aNil))) aNil)))) aNil))))))
def F_met : List AV → M RV := runF 2 4 b_met
def b__law_due : En → M Out := (sSeq (sIf (dTest (dBin oEq (dVar 0) (dLst aNil)))
    (sRet (dC (.str "none")))
    sNil)
    (sRet (dComp [2] [2] bdN (iRangeD1 (aCons (dVar 1) aNil)) yes (dTup (aCons (dCall bMin1 (aCons (dComp [3] [3] bdN (iSeqD (dVar 0)) yes (dBin oIx (dVar 3) (dVar 2))) aNil)) (aCons (dCall bMax1 (aCons (dComp [3] [3] bdN (iSeqD (dVar 0)) yes (dBin oIx (dVar 3) (dVar 2))) aNil)) aNil))))))
def F__law_due : List AV → M RV := runF 2 4 b__law_due
def b_as_fractions : En → M Out := (sRet (dComp [1] [1] bdN (iSeqD (dVar 0)) yes (dIf (dTest (dIsi .tuple (dVar 1))) (dVar 1) (dTup (aCons (dVar 1) (aCons (dC (.int 1)) aNil))))))
def F_as_fractions : List AV → M RV := runF 1 2 b_as_fractions
def b_figure_range : En → M Out := (sSeq (sIf (dTest (dBin oEq (dVar 1) (dC (.str "sum"))))
    (sRet (dCall F_as_fractions (aCons (dCall F_sum_range (aCons (dVar 0) aNil)) aNil)))
    sNil)
    (sSeq (sIf (dTest (dBin oEq (dVar 1) (dC (.str "mean"))))
    (sRet (dCall F_as_fractions (aCons (dCall F_mean_range (aCons (dVar 0) aNil)) aNil)))
    sNil)
    (sSeq (sIf (dTest (dBin oEq (dVar 1) (dC (.str "median"))))
    (sRet (dCall F_as_fractions (aCons (dCall F_median_range (aCons (dVar 0) aNil)) aNil)))
    sNil)
    (sRet (dCall F_as_fractions (aCons (dIf (dTest (dBin oEq (dVar 1) (dC (.str "least")))) (dCall F_least_range (aCons (dVar 0) aNil)) (dCall F_greatest_range (aCons (dVar 0) aNil))) aNil))))))
def F_figure_range : List AV → M RV := runF 2 2 b_figure_range
def b_check_figure : En → M Out := (sIf (dOr (dNot (dTest (dIsi .str (dVar 0)))) (dTest (dBin (oIn true) (dVar 0) (dC (.tuple tup_FIGURES)))))
    (sRaise .number)
    sNil)
def F_check_figure : List AV → M RV := runF 1 1 b_check_figure
def b_is_more : En → M Out := (sSeq (sExpr (dCall F_check_bounds (aCons (dVar 0) aNil)))
    (sSeq (sExpr (dCall F_check_bounds (aCons (dVar 1) aNil)))
    (sSeq (sExpr (dCall F_check_figure (aCons (dVar 2) aNil)))
    (sSeq (sPar 3 4 (aCons (dCall F_figure_range (aCons (dVar 0) (aCons (dVar 2) aNil))) (aCons (dCall F_figure_range (aCons (dVar 1) (aCons (dVar 2) aNil))) aNil)))
    (sRet (dCall F_verdict (aCons (dBin oIx (dVar 3) (dC (.int 0))) (aCons (dBin oIx (dVar 3) (dC (.int 1))) (aCons (dBin oIx (dVar 4) (dC (.int 0))) (aCons (dBin oIx (dVar 4) (dC (.int 1))) aNil))))))))))
def F_is_more : List AV → M RV := runF 3 5 b_is_more
def b_can_reach : En → M Out := (sSeq (sExpr (dCall F_check_bounds (aCons (dVar 0) aNil)))
    (sSeq (sExpr (dCall F_check_figure (aCons (dVar 1) aNil)))
    (sSeq (sIf (dOr (dNot (dTest (dIsi .tuple (dVar 2)))) (dOr (dTest (dBin oNe (dCall bLen (aCons (dVar 2) aNil)) (dC (.int 2)))) (dNot (dTest (dCall bAll (aCons (dComp [5] [5] bdN (iSeqD (dVar 2)) yes (dIsi .int (dVar 5))) aNil))))))
    (sRaise .number)
    sNil)
    (sSeq (sIf (dOr (dTest (dBin (oIn false) (dC (.bool true)) (dComp [5] [5] bdN (iSeqD (dVar 2)) yes (dIsi .bool (dVar 5))))) (dTest (dBin oLt (dBin oIx (dVar 2) (dC (.int 1))) (dC (.int 1)))))
    (sRaise .number)
    sNil)
    (sSeq (sAsgT [3, 4] (bdT 2) (dCall F_figure_range (aCons (dVar 0) (aCons (dVar 1) aNil))))
    (sRet (dAndV (dNotV (dCall F_less (aCons (dVar 2) (aCons (dVar 3) aNil)))) (dNotV (dCall F_less (aCons (dVar 4) (aCons (dVar 2) aNil)))))))))))
def F_can_reach : List AV → M RV := runF 3 6 b_can_reach
def b_best_figures : En → M Out := (sSeq (sIf (dOr (dNot (dTest (dIsi .list (dVar 0)))) (dNot (dTest (dChain oLe oLe (dC (.int 1)) (dCall bLen (aCons (dVar 0) aNil)) (dC (.int 5))))))
    (sRaise .number)
    sNil)
    (sSeq (sFor [2] bdN (iSeqD (dVar 0))
    (sExpr (dCall F_check_bounds (aCons (dVar 2) aNil))))
    (sSeq (sExpr (dCall F_check_figure (aCons (dVar 1) aNil)))
    (sSeq (sSet 3 (dComp [2] [2] bdN (iSeqD (dVar 0)) yes (dCall F_figure_range (aCons (dVar 2) (aCons (dVar 1) aNil)))))
    (sRet (dComp [4, 5] [4, 5] (bdT 2) (iEnumD (aCons (dVar 3) aNil)) (dNot (dTest (dCall bAny (aCons (dComp [6] [6] bdN (iSeqD (dVar 3)) yes (dCall F_less (aCons (dBin oIx (dVar 5) (dC (.int 1))) (aCons (dBin oIx (dVar 6) (dC (.int 0))) aNil)))) aNil)))) (dVar 4)))))))
def F_best_figures : List AV → M RV := runF 2 7 b_best_figures
def b__law_figure : En → M Out := (sSeq (sIf (dTest (dBin oEq (dVar 1) (dC (.str "median"))))
    (sRet (dCall F__law_middle (aCons (dVar 0) aNil)))
    sNil)
    (sSeq (sIf (dTest (dBin oEq (dVar 1) (dC (.str "mean"))))
    (sRet (dCall F__law_low (aCons (dCall bSum (aCons (dVar 0) aNil)) (aCons (dCall bLen (aCons (dVar 0) aNil)) aNil))))
    sNil)
    (sRet (dTup (aCons (dIf (dTest (dBin oEq (dVar 1) (dC (.str "sum")))) (dCall bSum (aCons (dVar 0) aNil)) (dIf (dTest (dBin oEq (dVar 1) (dC (.str "least")))) (dCall bMin1 (aCons (dVar 0) aNil)) (dCall bMax1 (aCons (dVar 0) aNil)))) (aCons (dC (.int 1)) aNil))))))
def F__law_figure : List AV → M RV := runF 2 2 b__law_figure
def b_moved : En → M Out := (sSeq (sExpr (dCall F_check_bounds (aCons (dVar 0) aNil)))
    (sSeq (sIf (dNot (dTest (dCall F_is_int (aCons (dVar 1) (aCons (dNeg (dC (.int 100))) (aCons (dC (.int 100)) aNil))))))
    (sRaise .number)
    sNil)
    (sRet (dCall F_checked_changing (aCons (dComp [2, 3] [2, 3] (bdT 2) (iSeqD (dVar 0)) yes (dTup (aCons (dBin oAdd (dVar 2) (dVar 1)) (aCons (dBin oAdd (dVar 3) (dVar 1)) aNil)))) aNil)))))
def F_moved : List AV → M RV := runF 2 4 b_moved
def b_scaled : En → M Out := (sSeq (sExpr (dCall F_check_bounds (aCons (dVar 0) aNil)))
    (sSeq (sIf (dNot (dTest (dCall F_is_int (aCons (dVar 1) (aCons (dNeg (dC (.int 50))) (aCons (dC (.int 50)) aNil))))))
    (sRaise .number)
    sNil)
    (sRet (dCall F_checked_changing (aCons (dComp [2, 3] [2, 3] (bdT 2) (iSeqD (dVar 0)) yes (dTup (aCons (dCall bMin2 (aCons (dBin oMul (dVar 2) (dVar 1)) (aCons (dBin oMul (dVar 3) (dVar 1)) aNil))) (aCons (dCall bMax2 (aCons (dBin oMul (dVar 2) (dVar 1)) (aCons (dBin oMul (dVar 3) (dVar 1)) aNil))) aNil)))) aNil)))))
def F_scaled : List AV → M RV := runF 2 4 b_scaled
def b_added : En → M Out := (sSeq (sExpr (dCall F_check_bounds (aCons (dVar 0) aNil)))
    (sSeq (sExpr (dCall F_check_bounds (aCons (dVar 1) aNil)))
    (sSeq (sIf (dTest (dBin oNe (dCall bLen (aCons (dVar 0) aNil)) (dCall bLen (aCons (dVar 1) aNil))))
    (sRaise .number)
    sNil)
    (sRet (dCall F_checked_changing (aCons (dComp [2, 3] [2, 3] (bdT 2) (iZipD (aCons (dVar 0) (aCons (dVar 1) aNil))) yes (dTup (aCons (dBin oAdd (dBin oIx (dVar 2) (dC (.int 0))) (dBin oIx (dVar 3) (dC (.int 0)))) (aCons (dBin oAdd (dBin oIx (dVar 2) (dC (.int 1))) (dBin oIx (dVar 3) (dC (.int 1)))) aNil)))) aNil))))))
def F_added : List AV → M RV := runF 2 4 b_added
def b_with_bound : En → M Out := (sSeq (sExpr (dCall F_check_bounds (aCons (dVar 0) aNil)))
    (sSeq (sIf (dNot (dTest (dCall F_is_bound (aCons (dVar 1) aNil))))
    (sRaise .bounds)
    sNil)
    (sRet (dCall F_checked_changing (aCons (dBin oAdd (dVar 0) (dLst (aCons (dVar 1) aNil))) aNil)))))
def F_with_bound : List AV → M RV := runF 2 2 b_with_bound
def b_without_value : En → M Out := (sSeq (sExpr (dCall F_check_bounds (aCons (dVar 0) aNil)))
    (sSeq (sExpr (dCall F_check_place (aCons (dVar 0) (aCons (dVar 1) aNil))))
    (sSeq (sIf (dTest (dBin oEq (dCall bLen (aCons (dVar 0) aNil)) (dC (.int 1))))
    (sRaise .number)
    sNil)
    (sRet (dBin oAdd (dSl (dVar 0) oNone (oSome (dVar 1))) (dSl (dVar 0) (oSome (dBin oAdd (dVar 1) (dC (.int 1)))) oNone))))))
def F_without_value : List AV → M RV := runF 2 2 b_without_value
def b__wall : En → M Out := (sWhile fuel (dTest (dC (.bool true)))
    sPass)
def F__wall : List AV → M RV := runF 1 1 b__wall
def b__law_both : En → M Out := (sSeq (sIf (dTest (dBin oGt (dVar 2) (dC (.int 1))))
    (sSeq (sPar 4 5 (aCons (dBin oIx (dVar 1) (dC (.int 0))) (aCons (dBin oIx (dVar 1) (dC (.int 1))) aNil)))
    (sSeq (sSet 3 (dLst (aCons (dTup (aCons (dVar 4) (aCons (dVar 5) aNil))) (aCons (dTup (aCons (dVar 5) (aCons (dVar 4) aNil))) aNil))))
    (sSeq (sPar 6 7 (aCons (dCall bMax2 (aCons (dBin oIx (dBin oIx (dVar 0) (dVar 4)) (dC (.int 0))) (aCons (dBin oIx (dBin oIx (dVar 0) (dVar 5)) (dC (.int 0))) aNil))) (aCons (dCall bMin2 (aCons (dBin oIx (dBin oIx (dVar 0) (dVar 4)) (dC (.int 1))) (aCons (dBin oIx (dBin oIx (dVar 0) (dVar 5)) (dC (.int 1))) aNil))) aNil)))
    (sSeq (sIf (dTest (dBin oNe (dCall F_can_be_pairs (aCons (dVar 0) (aCons (dVar 3) aNil))) (dBin oLe (dVar 6) (dVar 7))))
    (sRet (dC (.bool false)))
    sNil)
    (sIf (dTest (dBin oLe (dVar 6) (dVar 7)))
    (sSeq (sSet 8 (dCall F_with_pairs (aCons (dVar 0) (aCons (dVar 3) aNil))))
    (sIf (dOr (dTest (dBin oNe (dBin oIx (dVar 8) (dVar 4)) (dTup (aCons (dVar 6) (aCons (dVar 7) aNil))))) (dTest (dBin oNe (dBin oIx (dVar 8) (dVar 5)) (dTup (aCons (dVar 6) (aCons (dVar 7) aNil))))))
    (sRet (dC (.bool false)))
    sNil))
    sNil)))))
    sNil)
    (sRet (dBin oEq (dCall F_with_pairs (aCons (dVar 0) (aCons (dLst aNil) aNil))) (dVar 0))))
def F__law_both : List AV → M RV := runF 3 9 b__law_both
def b__law_near : En → M Out := (sSeq (sSetO 2 (dLst aNil))
    (sSeq (sFor [3, 4] (bdT 2) (iSeqD (dVar 0))
    (sApp 2 (dIf (dTest (dCall F__law_below (aCons (dVar 1) (aCons (dTup (aCons (dVar 3) (aCons (dC (.int 1)) aNil))) aNil)))) (dTup (aCons (dVar 3) (aCons (dC (.int 1)) aNil))) (dIf (dTest (dCall F__law_below (aCons (dTup (aCons (dVar 4) (aCons (dC (.int 1)) aNil))) (aCons (dVar 1) aNil)))) (dTup (aCons (dVar 4) (aCons (dC (.int 1)) aNil))) (dVar 1)))))
    (sRetV 2)))
def F__law_near : List AV → M RV := runF 2 5 b__law_near
end Pg

/-! Evaluation of denotations: rules «X en = ret ..», tried in turn. -/
namespace Pg
open PySem L2 Dt
section
variable {en en' : En} {fa fb fc : En → M RV} {fs : En → M (List AV)} {ga gb : En → M Bool} {i j : Nat} {a b x y z : AV} {p q : PyData} {u v w : Bool} {as : List AV} {ds : List PyData} {f f' : AV → AV → M RV} {F : List AV → M RV}
theorem ev_var (h : en[i]? = some (some (.v a))) : dVar i en = .ret (a, false) := by unfold dVar; rw [h]
theorem ev_c : dC p en = .ret (.d p, false) := rfl
theorem ev_bin (ha : fa en = .ret (x, u)) (hb : fb en = .ret (y, v)) (h : f x y = .ret (z, w)) : dBin f fa fb en = .ret (z, w) := by unfold dBin; rw [ha, ret_bind, hb, ret_bind]; exact h
theorem ev_call (hs : fs en = .ret as) (h : F as = .ret (z, w)) : dCall F fs en = .ret (z, w) := by unfold dCall; rw [hs, ret_bind]; exact h
theorem ea_nil : aNil en = .ret [] := rfl
theorem ea_cons (ha : fa en = .ret (x, u)) (hs : fs en = .ret as) : aCons fa fs en = .ret (x :: as) := by unfold aCons; rw [ha, ret_bind, hs, ret_bind]
theorem ev_tup (hs : fs en = .ret as) (h : datas as = some ds) : dTup fs en = .ret (.d (.tuple ds), false) := by unfold dTup; rw [hs, ret_bind, h]
theorem ev_lst (hs : fs en = .ret as) (h : datas as = some ds) : dLst fs en = .ret (.d (.list ds), true) := by unfold dLst; rw [hs, ret_bind, h]
theorem ev_neg {k : Int} (ha : fa en = .ret (.d (.int k), u)) : dNeg fa en = .ret (.d (.int (-k)), false) := by unfold dNeg; rw [ha, ret_bind]
theorem ev_isi {t : Ty5} (ha : fa en = .ret (.d p, u)) : dIsi t fa en = .ret (.d (.bool (isTy t p)), false) := by unfold dIsi; rw [ha, ret_bind]
theorem ev_not {k : Bool} (ha : fa en = .ret (.d (.bool k), u)) : dNotV fa en = .ret (.d (.bool (!k)), false) := by unfold dNotV; rw [ha, ret_bind]; rfl
theorem ev_and {k l : Bool} (ha : fa en = .ret (.d (.bool k), u)) (hb : k = true → fb en = .ret (.d (.bool l), v)) : ∃ w, dAndV fa fb en = .ret (.d (.bool (k && l)), w) := by
  unfold dAndV
  rw [ha, ret_bind]
  cases k with
  | true => exact ⟨v, by simp [asB]; exact hb rfl⟩
  | false => exact ⟨false, rfl⟩
theorem ev_and' {k l : Bool} (ha : fa en = .ret (.d (.bool k), u)) (hb : k = true → fb en = .ret (.d (.bool l), false)) : dAndV fa fb en = .ret (.d (.bool (k && l)), false) := by
  unfold dAndV
  rw [ha, ret_bind]
  cases k with
  | true => simp [asB]; exact hb rfl
  | false => rfl
theorem ev_or' {k l : Bool} (ha : fa en = .ret (.d (.bool k), u)) (hb : k = false → fb en = .ret (.d (.bool l), false)) : dOrV fa fb en = .ret (.d (.bool (k || l)), false) := by
  unfold dOrV
  rw [ha, ret_bind]
  cases k with
  | true => rfl
  | false => simp [asB]; exact hb rfl
theorem ev_chain {k l : Bool} (ha : fa en = .ret (x, u)) (hb : fb en = .ret (y, v)) (hc : fc en = .ret (z, w)) (h : f x y = .ret (.d (.bool k), false)) (h' : f' y z = .ret (.d (.bool l), false)) : dChain f f' fa fb fc en = .ret (.d (.bool (k && l)), false) := by
  unfold dChain
  rw [ha, ret_bind, hb, ret_bind, h, ret_bind]
  cases k with
  | true => dsimp only; rw [hc, ret_bind]; simpa using h'
  | false => rfl
theorem ev_if {k : Bool} (hg : ga en = .ret k) (h1 : k = true → fa en = .ret (z, w)) (h2 : k = false → fb en = .ret (z, w)) : dIf ga fa fb en = .ret (z, w) := by
  unfold dIf
  rw [hg, ret_bind]
  cases k with
  | true => rw [if_pos rfl]; exact h1 rfl
  | false => rw [if_neg Bool.false_ne_true]; exact h2 rfl
theorem ev_ifT (hg : ga en = .ret true) (h1 : fa en = .ret (z, w)) : dIf ga fa fb en = .ret (z, w) := ev_if hg (fun _ => h1) fun e => by cases e
theorem ev_ifF (hg : ga en = .ret false) (h1 : fb en = .ret (z, w)) : dIf ga fa fb en = .ret (z, w) := ev_if hg (fun e => by cases e) fun _ => h1
theorem et_val {k : Bool} (ha : fa en = .ret (.d (.bool k), u)) : dTest fa en = .ret k := by unfold dTest; rw [ha, ret_bind]; rfl
theorem et_and {k l : Bool} (ha : ga en = .ret k) (hb : k = true → gb en = .ret l) : dAnd ga gb en = .ret (k && l) := by
  unfold dAnd
  rw [ha, ret_bind]
  cases k with
  | true => rw [if_pos rfl]; simpa using hb rfl
  | false => rfl
theorem et_or {k l : Bool} (ha : ga en = .ret k) (hb : k = false → gb en = .ret l) : dOr ga gb en = .ret (k || l) := by
  unfold dOr
  rw [ha, ret_bind]
  cases k with
  | true => rfl
  | false => rw [if_neg Bool.false_ne_true]; simpa using hb rfl
theorem et_not {k : Bool} (ha : ga en = .ret k) : dNot ga en = .ret (!k) := by unfold dNot; rw [ha, ret_bind]
theorem ev_is {k l : Bool} (h : ga en = .ret k) (e : k = l) : ga en = .ret l := by rw [← e]; exact h
theorem ev_is' {r : RV} {z' : AV} (h : fa en = .ret (z, w)) (e : z = z') : fa en = .ret (z', w) := by rw [← e]; exact h
theorem eo_none : oNone en = .ret none := rfl
theorem eo_some {k : Int} (ha : fa en = .ret (.d (.int k), u)) : oSome fa en = .ret (some k) := by unfold oSome; rw [ha, ret_bind]
theorem ev_sl {xs : List PyData} {fl fh : En → M (Option Int)} {lo hi : Option Int} (ha : fa en = .ret (.d (.list xs), u)) (hl : fl en = .ret lo) (hh : fh en = .ret hi) : dSl fa fl fh en = .ret (.d (.list (cutP xs lo hi)), true) := by unfold dSl; rw [ha, ret_bind, hl, ret_bind, hh, ret_bind]
theorem ev_rev {xs : List PyData} (ha : fa en = .ret (.d (.list xs), u)) : dRev fa en = .ret (.d (.list xs.reverse), true) := by unfold dRev; rw [ha, ret_bind]
theorem ei_list {xs : List PyData} (ha : fa en = .ret (.d (.list xs), u)) : iSeqD fa en = .ret xs := by unfold iSeqD; rw [ha, ret_bind]; rfl
theorem ei_tup {xs : List PyData} (ha : fa en = .ret (.d (.tuple xs), u)) : iSeqD fa en = .ret xs := by unfold iSeqD; rw [ha, ret_bind]; rfl
theorem ei_range1 {n : Int} (ha : fs en = .ret [.d (.int n)]) (h : n ≤ 1000000 ∧ -1000000 ≤ n) : iRangeD1 fs en = .ret (rangeP 0 n.toNat) := by unfold iRangeD1; rw [ha, ret_bind]; dsimp only; rw [if_pos h]
theorem ei_range2 {m n : Int} (ha : fs en = .ret [.d (.int m), .d (.int n)]) (h : (n ≤ 1000000 ∧ -1000000 ≤ n) ∧ (m ≤ 1000000 ∧ -1000000 ≤ m)) : iRangeD2 fs en = .ret (rangeP m (n - m).toNat) := by unfold iRangeD2; rw [ha, ret_bind]; dsimp only; rw [if_pos h]
theorem ei_enum {xs : List PyData} (ha : fs en = .ret [.d (.list xs)]) : iEnumD fs en = .ret (enumP 0 xs) := by unfold iEnumD; rw [ha, ret_bind]
theorem ei_zip {xs ys : List PyData} (ha : fs en = .ret [.d (.list xs), .d (.list ys)]) : iZipD fs en = .ret (zipP xs ys) := by unfold iZipD; rw [ha, ret_bind]
/-! operations -/
theorem op_add_i (k l : Int) : oAdd (.d (.int k)) (.d (.int l)) = .ret (.d (.int (k + l)), false) := rfl
theorem op_sub_i (k l : Int) : oSub (.d (.int k)) (.d (.int l)) = .ret (.d (.int (k - l)), false) := rfl
theorem op_lt_i (k l : Int) : oLt (.d (.int k)) (.d (.int l)) = .ret (.d (.bool (decide (k < l))), false) := rfl
theorem op_le_i (k l : Int) : oLe (.d (.int k)) (.d (.int l)) = .ret (.d (.bool (decide (k ≤ l))), false) := rfl
theorem op_gt_i (k l : Int) : oGt (.d (.int k)) (.d (.int l)) = .ret (.d (.bool (decide (l < k))), false) := rfl
theorem op_ge_i (k l : Int) : oGe (.d (.int k)) (.d (.int l)) = .ret (.d (.bool (decide (l ≤ k))), false) := rfl
theorem op_ix_0 (d : PyData) (xs : List PyData) : oIx (.d (.tuple (d :: xs))) (.d (.int 0)) = .ret (.d d, false) := by
  have h : atI (d :: xs) 0 = some d := atI_nat (j := 0) rfl
  unfold oIx; dsimp only; rw [h]
theorem op_ix_1 (d e : PyData) (xs : List PyData) : oIx (.d (.tuple (d :: e :: xs))) (.d (.int 1)) = .ret (.d e, false) := by
  have h : atI (d :: e :: xs) 1 = some e := atI_nat (j := 1) rfl
  unfold oIx; dsimp only; rw [h]
theorem op_isN_d : oIsN (.d p) (.d .none) = .ret (.d (.bool (nonP p)), false) := rfl
theorem op_notN_d : oNotN (.d p) (.d .none) = .ret (.d (.bool (!nonP p)), false) := rfl
theorem op_isB_d (k l : Bool) : oIsB (.d (.bool k)) (.d (.bool l)) = .ret (.d (.bool (decide (k = l))), false) := rfl
theorem op_notB_d (k l : Bool) : oNotB (.d (.bool k)) (.d (.bool l)) = .ret (.d (.bool (!decide (k = l))), false) := rfl
theorem b_abs (k : Int) : bAbs [.d (.int k)] = .ret (.d (.int (if k < 0 then -k else k)), false) := rfl
theorem b_max2 (k l : Int) : bMax2 [.d (.int k), .d (.int l)] = .ret (.d (.int (if l > k then l else k)), false) := rfl
theorem b_min2 (k l : Int) : bMin2 [.d (.int k), .d (.int l)] = .ret (.d (.int (if l < k then l else k)), false) := rfl
theorem op_add_l {xs ys : List PyData} (h : xs.length + ys.length ≤ lim) : oAdd (.d (.list xs)) (.d (.list ys)) = .ret (.d (.list (xs ++ ys)), true) := by unfold oAdd; dsimp only; rw [if_pos h]
theorem op_mul_i {k l : Int} (h : k.natAbs < big ∧ l.natAbs < big) : oMul (.d (.int k)) (.d (.int l)) = .ret (.d (.int (k * l)), false) := by unfold oMul; dsimp only; rw [if_pos h]
theorem op_div_i {k l : Int} (h : 0 < l ∧ l.natAbs < big) : oDiv (.d (.int k)) (.d (.int l)) = .ret (.d (.int (k / l)), false) := by unfold oDiv; dsimp only; rw [if_pos h]
theorem op_mod_i {k l : Int} (h : 0 < l) : oMod (.d (.int k)) (.d (.int l)) = .ret (.d (.int (k % l)), false) := by unfold oMod; dsimp only; rw [if_pos h]
theorem op_eq_d (h1 : SeqAt.shaped p = true) (h2 : SeqAt.shaped q = true) : oEq (.d p) (.d q) = .ret (.d (.bool (PyData.eqv p q)), false) := by unfold oEq; dsimp only; rw [if_pos ⟨h1, h2⟩]
theorem op_ne_d (h1 : SeqAt.shaped p = true) (h2 : SeqAt.shaped q = true) : oNe (.d p) (.d q) = .ret (.d (.bool (!PyData.eqv p q)), false) := by unfold oNe; dsimp only; rw [if_pos ⟨h1, h2⟩]
theorem eqv_int (i j : Int) : PyData.eqv (.int i) (.int j) = decide (i = j) := by
  simp [PyData.eqv]; by_cases h : i = j <;> simp [h]
theorem op_eq_i (k l : Int) : oEq (.d (.int k)) (.d (.int l)) = .ret (.d (.bool (decide (k = l))), false) := by rw [op_eq_d rfl rfl, eqv_int]
theorem op_ne_i (k l : Int) : oNe (.d (.int k)) (.d (.int l)) = .ret (.d (.bool (!decide (k = l))), false) := by rw [op_ne_d rfl rfl, eqv_int]
theorem op_ix_l {xs : List PyData} {k : Int} (h : atI xs k = some p) : oIx (.d (.list xs)) (.d (.int k)) = .ret (.d p, false) := by unfold oIx; dsimp only; rw [h]
theorem op_ix_t {xs : List PyData} {k : Int} (h : atI xs k = some p) : oIx (.d (.tuple xs)) (.d (.int k)) = .ret (.d p, false) := by unfold oIx; dsimp only; rw [h]
theorem b_len_l (xs : List PyData) : bLen [.d (.list xs)] = .ret (.d (.int xs.length), false) := rfl
theorem b_len_t (xs : List PyData) : bLen [.d (.tuple xs)] = .ret (.d (.int xs.length), false) := rfl
theorem b_sum (ns : List Int) : bSum [.d (.list (ns.map PyData.int))] = .ret (.d (.int ns.sum), false) := by unfold bSum; dsimp only; rw [intsOf_map]
theorem b_sorted (ns : List Int) : bSorted [.d (.list (ns.map PyData.int))] = .ret (.d (.list ((isort ns).map PyData.int)), true) := by unfold bSorted; dsimp only; rw [intsOf_map]
theorem b_max {ns : List Int} (h : ns ≠ []) : bMax1 [.d (.list (ns.map PyData.int))] = .ret (.d (.int (maxL ns)), false) := by
  cases ns with
  | nil => exact absurd rfl h
  | cons n ns => unfold bMax1; dsimp only; rw [intsOf_map]
theorem b_min {ns : List Int} (h : ns ≠ []) : bMin1 [.d (.list (ns.map PyData.int))] = .ret (.d (.int (minL ns)), false) := by
  cases ns with
  | nil => exact absurd rfl h
  | cons n ns => unfold bMin1; dsimp only; rw [intsOf_map]
theorem b_all (ns : List Bool) : bAll [.d (.list (ns.map PyData.bool))] = .ret (.d (.bool (ns.all id)), false) := by unfold bAll; dsimp only; rw [boolsOf_map]
theorem b_any (ns : List Bool) : bAny [.d (.list (ns.map PyData.bool))] = .ret (.d (.bool (ns.any id)), false) := by unfold bAny; dsimp only; rw [boolsOf_map]
/-! statements -/
variable {s1 s2 : En → M Out} {o : Out} {r : RV}
theorem es_nil : sNil en = .ret (.nx en) := rfl
theorem es_seq (h1 : s1 en = .ret (.nx en')) (h2 : s2 en' = .ret o) : sSeq s1 s2 en = .ret o := by unfold sSeq; rw [h1, ret_bind]; exact h2
theorem es_seqR (h1 : s1 en = .ret (.rt (z, w))) : sSeq s1 s2 en = .ret (.rt (z, w)) := by unfold sSeq; rw [h1, ret_bind]
theorem es_expr (h : fa (expo en) = .ret (z, w)) : sExpr fa en = .ret (.nx en) := by unfold sExpr; rw [h, ret_bind]
theorem es_ret (h : fa (expo en) = .ret (z, w)) : sRet fa en = .ret (.rt (z, w)) := by unfold sRet; rw [h, ret_bind]
theorem es_retO {xs : List PyData} (h : en[i]? = some (some (.own xs))) : sRetV i en = .ret (.rt (.d (.list xs), true)) := by unfold sRetV; rw [h]
theorem es_retV (h : en[i]? = some (some (.v a))) : sRetV i en = .ret (.rt (a, false)) := by unfold sRetV; rw [h]
theorem es_if {k : Bool} (hg : ga (expo en) = .ret k) (h1 : k = true → s1 en = .ret o) (h2 : k = false → s2 en = .ret o) : sIf ga s1 s2 en = .ret o := by
  unfold sIf
  rw [hg, ret_bind]
  cases k with
  | true => rw [if_pos rfl]; exact h1 rfl
  | false => rw [if_neg Bool.false_ne_true]; exact h2 rfl
theorem es_ifT (hg : ga (expo en) = .ret true) (h1 : s1 en = .ret o) : sIf ga s1 s2 en = .ret o := es_if hg (fun _ => h1) fun e => by cases e
theorem es_ifF (hg : ga (expo en) = .ret false) (h1 : s2 en = .ret o) : sIf ga s1 s2 en = .ret o := es_if hg (fun e => by cases e) fun _ => h1
theorem es_set (h : fa (hide en) = .ret (z, w)) : sSet i fa en = .ret (.nx (en.set i (some (.v z)))) := by unfold sSet; rw [h, ret_bind]
theorem es_setO {xs : List PyData} (h : fa (hide en) = .ret (.d (.list xs), true)) : sSetO i fa en = .ret (.nx (en.set i (some (.own xs)))) := by unfold sSetO; rw [h, ret_bind]
theorem es_asgT {sl : List Nat} {bd : PyData → Option (List PyData)} (h : fa (hide en) = .ret (.d p, w)) (hb : bd p = some ds) : sAsgT sl bd fa en = .ret (.nx (setE en sl ds)) := by unfold sAsgT; rw [h, ret_bind]; dsimp only; rw [hb]
theorem es_par (h : fs (hide en) = .ret [x, y]) : sPar i j fs en = .ret (.nx ((en.set i (some (.v x))).set j (some (.v y)))) := by unfold sPar; rw [h, ret_bind]
theorem es_aug {g : Int → Int → Int} {m n : Int} (h1 : en[i]? = some (some (.v (.d (.int m))))) (h : fa (expo en) = .ret (.d (.int n), w)) : sAug i g fa en = .ret (.nx (en.set i (some (.v (.d (.int (g m n))))))) := by unfold sAug; rw [h1]; dsimp only; rw [h, ret_bind]
theorem es_frz {xs : List PyData} (h : en[i]? = some (some (.own xs))) (h2 : s1 (en.set i (some (.v (.d (.list xs))))) = .ret o) : sFrz i s1 en = .ret o := by unfold sFrz Dt.frz; rw [h]; exact h2
theorem es_app {xs : List PyData} (h1 : en[i]? = some (some (.own xs))) (h : fa (hide en) = .ret (.d p, w)) (hl : xs.length < lim) : sApp i fa en = .ret (.nx (en.set i (some (.own (xs ++ [p]))))) := by unfold sApp; rw [h1]; dsimp only; rw [h, ret_bind]; dsimp only; rw [if_pos hl]
theorem es_for {sl : List Nat} {bd : PyData → Option (List PyData)} {it : En → M (List PyData)} {xs : List PyData} (h : it (hide en) = .ret xs) (h2 : forL sl bd s1 xs en = .ret o) : sFor sl bd it s1 en = .ret o := by unfold sFor; rw [h, ret_bind]; exact h2
theorem run_rt {n m : Nat} {bb : En → M Out} (hl : as.length = n) (h : bb (enOf m as) = .ret (.rt (z, w))) : runF n m bb as = .ret (z, w) := by unfold runF; rw [if_pos hl, h, ret_bind]; rfl
theorem run_nx {n m : Nat} {bb : En → M Out} (hl : as.length = n) (h : bb (enOf m as) = .ret (.nx en')) : runF n m bb as = .ret (.d .none, false) := by unfold runF; rw [if_pos hl, h, ret_bind]; rfl
end
end Pg
namespace Pg
open PySem L2 Dt
/-! ### data -/
abbrev dI (i : Int) : AV := .d (.int i)
def dP (p : Int × Int) : PyData := .tuple [.int p.1, .int p.2]
theorem b_len_p (p : Int × Int) : bLen [.d (dP p)] = .ret (.d (.int 2), false) := rfl
theorem op_ix_p0 (p : Int × Int) : oIx (.d (dP p)) (.d (.int 0)) = .ret (.d (.int p.1), false) := op_ix_0 _ _
theorem op_ix_p1 (p : Int × Int) : oIx (.d (dP p)) (.d (.int 1)) = .ret (.d (.int p.2), false) := op_ix_1 _ _ _
abbrev dBs (bs : List (Int × Int)) : PyData := .list (bs.map dP)
abbrev dNs (ns : List Int) : PyData := .list (ns.map PyData.int)
/-! ### comprehensions -/
theorem compL_map {α : Type} {own sl : List Nat} {bd : PyData → Option (List PyData)} {tt : En → M Bool} {el : En → M RV} {en : En} {emb : α → PyData} (p : α → Bool) (f : α → PyData) :
    ∀ {xs : List α}, (∀ x ∈ xs, ∃ ds, bd (emb x) = some ds ∧ tt (setE (wipeE en own) sl ds) = .ret (p x) ∧ (p x = true → ∃ b, el (setE (wipeE en own) sl ds) = .ret (.d (f x), b))) → compL own sl bd tt el en (xs.map emb) = .ret ((xs.filter p).map f)
  | [], _ => rfl
  | x :: xs, h => by
    obtain ⟨ds, h1, h2, h3⟩ := h x List.mem_cons_self
    have ih := compL_map p f (xs := xs) fun y hy => h y (List.mem_cons_of_mem _ hy)
    rw [List.map_cons]
    unfold compL
    rw [h1]
    dsimp only
    rw [h2, nox_ret, ret_bind]
    cases e : p x with
    | true =>
      obtain ⟨b, h4⟩ := h3 e
      rw [if_pos rfl, h4, nox_ret, ret_bind]
      dsimp only
      rw [ih, ret_bind, List.filter_cons_of_pos e, List.map_cons]
    | false =>
      rw [if_neg Bool.false_ne_true, ih, List.filter_cons_of_neg (by rw [e]; exact Bool.false_ne_true)]
section
variable {α : Type} {own sl : List Nat} {it : En → M (List PyData)} {tt : En → M Bool} {el : En → M RV} {en : En} {emb : α → PyData} {f : α → PyData} {g : α → Bool} {xs : List α} {b : Bool}
theorem dComp_map {bd : PyData → Option (List PyData)} (hi : it en = .ret (xs.map emb)) (hl : xs.length ≤ lim)
    (h : ∀ x ∈ xs, ∃ ds, bd (emb x) = some ds ∧ tt (setE (wipeE en own) sl ds) = .ret (g x) ∧ (g x = true → ∃ b, el (setE (wipeE en own) sl ds) = .ret (.d (f x), b))) : dComp own sl bd it tt el en = .ret (.d (.list ((xs.filter g).map f)), true) := by
  unfold dComp
  rw [hi, ret_bind, if_pos (by rw [List.length_map]; exact hl), compL_map g f h, ret_bind]
theorem filter_tt (xs : List α) : xs.filter (fun _ => true) = xs := List.filter_eq_self.mpr fun _ _ => rfl
/-- [e for x in xs], [e for x in xs if t], the target a name -/
theorem ev_compN (hi : it en = .ret (xs.map emb)) (hl : xs.length ≤ lim) (h : ∀ x, x ∈ xs → el (setE (wipeE en own) sl [emb x]) = .ret (.d (f x), b)) : dComp own sl bdN it yes el en = .ret (.d (.list (xs.map f)), true) := by
  rw [dComp_map (g := fun _ => true) hi hl fun x hx => ⟨_, rfl, rfl, fun _ => ⟨b, h x hx⟩⟩, filter_tt]
theorem ev_compNF (hi : it en = .ret (xs.map emb)) (hl : xs.length ≤ lim) (ht : ∀ x, x ∈ xs → tt (setE (wipeE en own) sl [emb x]) = .ret (g x)) (h : ∀ x, x ∈ xs → g x = true → el (setE (wipeE en own) sl [emb x]) = .ret (.d (f x), b)) : dComp own sl bdN it tt el en = .ret (.d (.list ((xs.filter g).map f)), true) :=
  dComp_map hi hl fun x hx => ⟨_, rfl, ht x hx, fun e => ⟨b, h x hx e⟩⟩
/-- the target a pair -/
theorem ev_compT {d1 d2 : α → PyData} (hi : it en = .ret (xs.map emb)) (he : ∀ x, emb x = .tuple [d1 x, d2 x]) (hl : xs.length ≤ lim) (h : ∀ x, x ∈ xs → el (setE (wipeE en own) sl [d1 x, d2 x]) = .ret (.d (f x), b)) : dComp own sl (bdT 2) it yes el en = .ret (.d (.list (xs.map f)), true) := by
  rw [dComp_map (g := fun _ => true) hi hl fun x hx => ⟨_, by rw [he]; rfl, rfl, fun _ => ⟨b, h x hx⟩⟩, filter_tt]
theorem ev_compTF {d1 d2 : α → PyData} (hi : it en = .ret (xs.map emb)) (he : ∀ x, emb x = .tuple [d1 x, d2 x]) (hl : xs.length ≤ lim) (ht : ∀ x, x ∈ xs → tt (setE (wipeE en own) sl [d1 x, d2 x]) = .ret (g x)) (h : ∀ x, x ∈ xs → g x = true → el (setE (wipeE en own) sl [d1 x, d2 x]) = .ret (.d (f x), b)) : dComp own sl (bdT 2) it tt el en = .ret (.d (.list ((xs.filter g).map f)), true) :=
  dComp_map hi hl fun x hx => ⟨_, by rw [he]; rfl, ht x hx, fun e => ⟨b, h x hx e⟩⟩
end
/-- over bounds -/
theorem ev_compB {own sl : List Nat} {it : En → M (List PyData)} {el : En → M RV} {en : En} {f : Int × Int → PyData} {bs : List (Int × Int)} {b : Bool} (hi : it en = .ret (bs.map dP)) (hl : bs.length ≤ lim) (h : ∀ p, p ∈ bs → el (setE (wipeE en own) sl [.int p.1, .int p.2]) = .ret (.d (f p), b)) : dComp own sl (bdT 2) it yes el en = .ret (.d (.list (bs.map f)), true) := ev_compT hi (fun _ => rfl) hl h
theorem ev_compBF {own sl : List Nat} {it : En → M (List PyData)} {tt : En → M Bool} {el : En → M RV} {en : En} {f : Int × Int → PyData} {g : Int × Int → Bool} {bs : List (Int × Int)} {b : Bool} (hi : it en = .ret (bs.map dP)) (hl : bs.length ≤ lim) (ht : ∀ p, p ∈ bs → tt (setE (wipeE en own) sl [.int p.1, .int p.2]) = .ret (g p)) (h : ∀ p, p ∈ bs → g p = true → el (setE (wipeE en own) sl [.int p.1, .int p.2]) = .ret (.d (f p), b)) : dComp own sl (bdT 2) it tt el en = .ret (.d (.list ((bs.filter g).map f)), true) := ev_compTF hi (fun _ => rfl) hl ht h
theorem list_of {fa : En → M RV} {en : En} {xs ys : List PyData} {b : Bool} (h : fa en = .ret (.d (.list xs), b)) (e : xs = ys) : fa en = .ret (.d (.list ys), b) := by rw [h, e]
/-! ### while -/
theorem whileL_step {ga : En → M Bool} {body : En → M Out} {n : Nat} {en en' : En} (hg : ga (expo en) = .ret true) (hb : body en = .ret (.nx en')) : whileL ga body (n + 1) en = whileL ga body n en' := by
  conv => lhs; unfold whileL
  rw [hg, ret_bind, if_pos rfl, hb, ret_bind]
theorem whileL_end {ga : En → M Bool} {body : En → M Out} {n : Nat} {en : En} (hg : ga (expo en) = .ret false) : whileL ga body (n + 1) en = .ret (.nx en) := by
  unfold whileL
  rw [hg, ret_bind, if_neg Bool.false_ne_true]
end Pg

/-! What the defs compute, part 1: checks, figures, fractions. -/
namespace Pg
open PySem L2 Dt
local macro_rules | `(tactic| walk_at "op") => `(tactic| first | (with_reducible exact op_add_i _ _) | (with_reducible exact op_sub_i _ _) | (with_reducible exact op_lt_i _ _) | (with_reducible exact op_le_i _ _) | (with_reducible exact op_gt_i _ _) | (with_reducible exact op_ge_i _ _) | (with_reducible exact op_eq_i _ _) | (with_reducible exact op_ne_i _ _) | (with_reducible exact op_ix_p0 _) | (with_reducible exact op_ix_p1 _) | (with_reducible exact op_ix_0 _ _) | (with_reducible exact op_ix_1 _ _ _) | (with_reducible exact op_isN_d) | (with_reducible exact op_notN_d) | (with_reducible exact op_isB_d _ _) | (with_reducible exact op_notB_d _ _) | (with_reducible exact b_len_p _) | (with_reducible exact b_len_l _) | (with_reducible exact b_len_t _) | (with_reducible exact b_sum _) | (with_reducible exact b_sorted _) | (with_reducible exact b_abs _) | (with_reducible exact b_max2 _ _) | (with_reducible exact b_min2 _ _) | ((with_reducible apply op_mod_i); with_reducible assumption) | ((with_reducible apply op_div_i); with_reducible assumption) | ((with_reducible apply op_mul_i); with_reducible assumption))
local macro_rules | `(tactic| walk_at "F") => `(tactic| walk_at "op")
local macro_rules | `(tactic| walk_at "A") => `(tactic| first | (with_reducible exact ea_nil) | ((with_reducible apply ea_cons); walk_at "E"; walk_at "A"))
local macro_rules | `(tactic| walk_at "T") => `(tactic| first | ((with_reducible apply et_val); walk_at "E") | ((with_reducible apply et_not); walk_at "T") | ((with_reducible apply et_or); walk_at "T"; (intro _; walk_at "T")) | ((with_reducible apply et_and); walk_at "T"; (intro _; walk_at "T")))
local macro_rules | `(tactic| walk_at "O") => `(tactic| first | (with_reducible exact eo_none) | ((with_reducible apply eo_some); walk_at "E"))
local macro_rules | `(tactic| walk_at "E") => `(tactic| first
  | (with_reducible exact ev_c)
  | ((with_reducible apply ev_var); rfl)
  | ((with_reducible apply ev_bin); walk_at "E"; walk_at "E"; walk_at "op")
  | ((with_reducible apply ev_call); walk_at "A"; walk_at "F")
  | ((with_reducible apply ev_tup); walk_at "A"; rfl)
  | ((with_reducible apply ev_lst); walk_at "A"; rfl)
  | ((with_reducible apply ev_neg); walk_at "E")
  | ((with_reducible apply ev_isi); walk_at "E")
  | ((with_reducible apply ev_not); walk_at "E")
  | ((with_reducible apply ev_and'); walk_at "E"; (intro _; walk_at "E"))
  | ((with_reducible apply ev_or'); walk_at "E"; (intro _; walk_at "E"))
  | ((with_reducible apply ev_chain); walk_at "E"; walk_at "E"; walk_at "E"; walk_at "op"; walk_at "op")
  | ((with_reducible apply ev_sl); walk_at "E"; walk_at "O"; walk_at "O")
  | ((with_reducible apply ev_rev); walk_at "E")
  | ((with_reducible apply ev_ifT); ((with_reducible apply ev_is); walk_at "T"; rfl); walk_at "E")
  | ((with_reducible apply ev_ifF); ((with_reducible apply ev_is); walk_at "T"; rfl); walk_at "E"))
local macro_rules | `(tactic| walk_at "I") => `(tactic| first | ((with_reducible apply ei_list); walk_at "E"; done) | ((with_reducible apply ei_tup); walk_at "E") | ((with_reducible apply ei_enum); walk_at "A") | ((with_reducible apply ei_zip); walk_at "A"))
local macro_rules | `(tactic| walk_at "S") => `(tactic| first
  | (with_reducible exact es_nil)
  | ((with_reducible apply es_retV); rfl)
  | ((with_reducible apply es_retO); rfl)
  | ((with_reducible apply es_ret); walk_at "E")
  | ((with_reducible apply es_seq); walk_at "S"; walk_at "S")
  | ((with_reducible apply es_expr); walk_at "E")
  | ((with_reducible apply es_set); walk_at "E")
  | ((with_reducible apply es_setO); walk_at "E")
  | ((with_reducible apply es_par); walk_at "A")
  | ((with_reducible apply es_asgT); walk_at "E"; rfl)
  | ((with_reducible apply es_ifF); ((with_reducible apply ev_is); walk_at "T"; (first | rfl | with_reducible assumption)); walk_at "S")
  | ((with_reducible apply es_ifT); ((with_reducible apply ev_is); walk_at "T"; (first | rfl | with_reducible assumption)); walk_at "S"))
/-! ### the checks -/
theorem is_int_eq (v lo hi : Int) : F_is_int [dI v, dI lo, dI hi] = rB (decide (lo ≤ v) && decide (v ≤ hi)) := by
  unfold F_is_int b_is_int
  refine Eq.trans (by apply run_rt rfl; walk_at "S") ?_
  simp [isTy]
local macro_rules | `(tactic| walk_at "F") => `(tactic| with_reducible exact is_int_eq _ _ _)
def okP (p : Int × Int) : Bool := (decide (-50 ≤ p.1) && decide (p.1 ≤ 50)) && (decide (p.1 ≤ p.2) && decide (p.2 ≤ 50))
def okB (bs : List (Int × Int)) : Bool := (decide (1 ≤ bs.length) && decide (bs.length ≤ 7)) && bs.all okP
theorem okB_iff {bs : List (Int × Int)} : okB bs = true ↔ (1 ≤ bs.length ∧ bs.length ≤ 7) ∧ ∀ p ∈ bs, (-50 ≤ p.1 ∧ p.1 ≤ 50) ∧ p.1 ≤ p.2 ∧ p.2 ≤ 50 := by
  simp [okB, okP]
theorem is_bound_eq (p : Int × Int) : F_is_bound [.d (dP p)] = rB (okP p) := by
  unfold F_is_bound b_is_bound
  refine Eq.trans (by apply run_rt rfl; walk_at "S") ?_
  rfl
local macro_rules | `(tactic| walk_at "F") => `(tactic| with_reducible exact is_bound_eq _)
theorem is_bounds_eq {bs : List (Int × Int)} (hl : bs.length ≤ lim) : F_is_bounds [.d (dBs bs)] = rB (okB bs) := by
  unfold F_is_bounds b_is_bounds
  by_cases h : (decide (1 ≤ bs.length) && decide (bs.length ≤ 7)) = true
  · have h' : (decide ((1 : Int) ≤ ((bs.map dP).length : Int)) && decide (((bs.map dP).length : Int) ≤ 7)) = true := by
      rw [List.length_map]; simp at h ⊢; omega
    refine Eq.trans (by
      apply run_rt rfl
      apply es_seq
      · with_reducible apply es_ifF
        · apply ev_is
          · walk_at "T"
          · simp only [isTy]; rw [h']; rfl
        · walk_at "S"
      · apply es_ret
        apply ev_call
        · apply ea_cons
          · refine list_of (ys := (bs.map okP).map PyData.bool) (ev_compN (f := fun p => .bool (okP p)) (xs := bs) (emb := dP) (b := false) ?_ hl fun p hp => ?_) (by rw [List.map_map]; rfl)
            · walk_at "I"
            · walk_at "E"
          · exact ea_nil
        · exact b_all _) ?_
    unfold okB
    rw [h]
    simp
  · have h' : (decide ((1 : Int) ≤ ((bs.map dP).length : Int)) && decide (((bs.map dP).length : Int) ≤ 7)) = false := by
      rw [List.length_map]; simp at h ⊢; omega
    refine Eq.trans (by
      apply run_rt rfl
      apply es_seqR
      with_reducible apply es_ifT
      · apply ev_is
        · walk_at "T"
        · simp only [isTy]; rw [h']; rfl
      · walk_at "S") ?_
    unfold okB
    rw [Bool.not_eq_true] at h
    rw [h]
    rfl
theorem okB_len {bs : List (Int × Int)} (h : okB bs = true) : bs.length ≤ lim := Nat.le_trans (okB_iff.mp h).1.2 (by decide)
theorem check_ok {bs : List (Int × Int)} (h : okB bs = true) : F_check_bounds [.d (dBs bs)] = .ret (.d .none, false) := by
  unfold F_check_bounds b_check_bounds
  apply run_nx rfl
  with_reducible apply es_ifF
  · apply ev_is
    · apply et_not
      apply et_val
      apply ev_call
      · walk_at "A"
      · exact is_bounds_eq (okB_len h)
    · rw [h]; rfl
  · walk_at "S"
local macro_rules | `(tactic| walk_at "F") => `(tactic| ((with_reducible apply check_ok); assumption))
/-! ### lows, highs -/
abbrev los (bs : List (Int × Int)) : List Int := bs.map (·.1)
abbrev his (bs : List (Int × Int)) : List Int := bs.map (·.2)
theorem lows_eq {bs : List (Int × Int)} (hl : bs.length ≤ lim) : F_lows [.d (dBs bs)] = .ret (.d (dNs (los bs)), true) := by
  unfold F_lows b_lows
  apply run_rt rfl
  apply es_ret
  refine list_of (ev_compB (f := fun p => .int p.1) (b := false) (by walk_at "I") hl fun p hp => by walk_at "E") (by rw [List.map_map]; rfl)
theorem highs_eq {bs : List (Int × Int)} (hl : bs.length ≤ lim) : F_highs [.d (dBs bs)] = .ret (.d (dNs (his bs)), true) := by
  unfold F_highs b_highs
  apply run_rt rfl
  apply es_ret
  refine list_of (ev_compB (f := fun p => .int p.2) (b := false) (by walk_at "I") hl fun p hp => by walk_at "E") (by rw [List.map_map]; rfl)
local macro_rules | `(tactic| walk_at "F") => `(tactic| ((with_reducible apply lows_eq); exact okB_len (by assumption)))
local macro_rules | `(tactic| walk_at "F") => `(tactic| ((with_reducible apply highs_eq); exact okB_len (by assumption)))
theorem sum_range_eq {bs : List (Int × Int)} (h : okB bs = true) : F_sum_range [.d (dBs bs)] = .ret (.d (dP ((los bs).sum, (his bs).sum)), false) := by
  unfold F_sum_range b_sum_range
  refine Eq.trans (by apply run_rt rfl; walk_at "S") ?_
  rfl
/-! ### fractions -/
theorem gcd_mod {a b : Int} (ha : 0 ≤ a) (hb : 0 ≤ b) : Int.gcd b (a % b) = Int.gcd a b := by
  obtain ⟨x, rfl⟩ := Int.eq_ofNat_of_zero_le ha
  obtain ⟨y, rfl⟩ := Int.eq_ofNat_of_zero_le hb
  rw [← Int.natCast_emod]
  show Nat.gcd y (x % y) = Nat.gcd x y
  rw [Nat.gcd_comm x y, Nat.gcd_rec y x, Nat.gcd_comm]
theorem gcd_loop {u v : Option Slot} : ∀ (n : Nat) (a b : Int) (m : Nat), 0 ≤ a → 0 ≤ b → b < m → m ≤ n → ∃ c, whileL (dTest (dBin oNe (dVar 1) (dC (.int 0)))) (sPar 0 1 (aCons (dVar 1) (aCons (dBin oMod (dVar 0) (dVar 1)) aNil))) n [some (.v (dI a)), some (.v (dI b))] = .ret (.nx [some (.v (dI (Int.gcd a b : Int))), some (.v (dI c))])
  | 0, a, b, m, _, _, h1, h2 => by omega
  | n + 1, a, b, m, ha, hb, hm, hn => by
    by_cases h0 : b = 0
    · subst h0
      refine ⟨0, ?_⟩
      rw [whileL_end (by apply ev_is; walk_at "T"; rfl)]
      simp [Int.gcd, Int.natAbs_of_nonneg ha]
    · have hb' : 0 < b := by omega
      obtain ⟨c, ih⟩ := gcd_loop (u := u) (v := v) n b (a % b) (m - 1) hb (Int.emod_nonneg _ h0) (by have := Int.emod_lt_of_pos a hb'; omega) (by omega)
      refine ⟨c, ?_⟩
      refine Eq.trans (whileL_step (by apply ev_is; walk_at "T"; simp [h0]) (by walk_at "S")) ?_
      rw [← gcd_mod ha hb]
      exact ih
theorem gcd_loop2 {u v : Option Slot} : ∀ (n : Nat) (a b : Int) (m : Nat), 0 ≤ a → 0 ≤ b → b < m → m ≤ n → ∃ c, whileL (dTest (dBin oNe (dVar 3) (dC (.int 0)))) (sPar 2 3 (aCons (dVar 3) (aCons (dBin oMod (dVar 2) (dVar 3)) aNil))) n [u, v, some (.v (dI a)), some (.v (dI b))] = .ret (.nx [u, v, some (.v (dI (Int.gcd a b : Int))), some (.v (dI c))])
  | 0, a, b, m, _, _, h1, h2 => by omega
  | n + 1, a, b, m, ha, hb, hm, hn => by
    by_cases h0 : b = 0
    · subst h0
      refine ⟨0, ?_⟩
      rw [whileL_end (by apply ev_is; walk_at "T"; rfl)]
      simp [Int.gcd, Int.natAbs_of_nonneg ha]
    · have hb' : 0 < b := by omega
      obtain ⟨c, ih⟩ := gcd_loop2 (u := u) (v := v) n b (a % b) (m - 1) hb (Int.emod_nonneg _ h0) (by have := Int.emod_lt_of_pos a hb'; omega) (by omega)
      refine ⟨c, ?_⟩
      refine Eq.trans (whileL_step (by apply ev_is; walk_at "T"; simp [h0]) (by walk_at "S")) ?_
      rw [← gcd_mod ha hb]
      exact ih
theorem abs_nn (k : Int) : 0 ≤ (if k < 0 then -k else k) ∧ (if k < 0 then -k else k) = (k.natAbs : Int) := by
  split <;> omega
theorem common_divisor_eq {a b : Int} (hb : b.natAbs < fuel) : F_common_divisor [dI a, dI b] = .ret (dI (Int.gcd a b : Int), false) := by
  obtain ⟨c, h⟩ := gcd_loop (u := none) (v := none) fuel (a.natAbs : Int) (b.natAbs : Int) fuel (by omega) (by omega) (by omega) (Nat.le_refl _)
  have e : Int.gcd (a.natAbs : Int) (b.natAbs : Int) = Int.gcd a b := by simp [Int.gcd]
  rw [e, ← (abs_nn a).2, ← (abs_nn b).2] at h
  unfold F_common_divisor b_common_divisor
  apply run_rt rfl
  apply es_seq
  · walk_at "S"
  · apply es_seq
    · exact h
    · walk_at "S"
/-- a fraction in lowest terms -/
def lowP (t b : Int) : Int × Int := (t / (Int.gcd t b : Int), b / (Int.gcd t b : Int))
theorem fuel_big : fuel < big := by unfold fuel big; decide +kernel
theorem gcd_pos_le {t b : Int} (h : 0 < b) : 0 < (Int.gcd t b : Int) ∧ (Int.gcd t b : Int) ≤ b := by
  have h1 : 0 < Int.gcd t b := Int.gcd_pos_of_ne_zero_right t (by omega)
  have h2 : (Int.gcd t b : Int) ≤ b := Int.le_of_dvd h (Int.gcd_dvd_right t b)
  omega
theorem lowest_eq {t b : Int} (h : 0 < b) (hb : b.natAbs < fuel) : F_lowest [dI t, dI b] = .ret (.d (dP (lowP t b)), false) := by
  have hg := gcd_pos_le (t := t) h
  have hd : 0 < (Int.gcd t b : Int) ∧ ((Int.gcd t b : Int)).natAbs < big := ⟨hg.1, by have := fuel_big; omega⟩
  unfold F_lowest b_lowest
  refine Eq.trans (by
    apply run_rt rfl
    apply es_seq
    · apply es_set
      apply ev_call
      · walk_at "A"
      · exact common_divisor_eq hb
    · walk_at "S") ?_
  rfl
theorem law_low_eq {t b : Int} (h : 0 < b) (hb : b.natAbs < fuel) : F__law_low [dI t, dI b] = .ret (.d (dP (lowP t b)), false) := by
  have hg := gcd_pos_le (t := t) h
  have hd : 0 < (Int.gcd t b : Int) ∧ ((Int.gcd t b : Int)).natAbs < big := ⟨hg.1, by have := fuel_big; omega⟩
  obtain ⟨c, hw⟩ := gcd_loop2 (u := some (.v (dI t))) (v := some (.v (dI b))) fuel (t.natAbs : Int) b fuel (by omega) (by omega) (by omega) (Nat.le_refl _)
  have eg : Int.gcd (t.natAbs : Int) b = Int.gcd t b := by simp [Int.gcd]
  rw [eg, ← (abs_nn t).2] at hw
  unfold F__law_low b__law_low
  refine Eq.trans (by
    apply run_rt rfl
    apply es_seq
    · walk_at "S"
    · apply es_seq
      · exact hw
      · walk_at "S") ?_
  rfl
end Pg

/-! Draws: DW m S says that m only draws from object 0 and ends in S. -/
namespace Pg
open PySem L2 Dt
structure DW {α : Type} (m : M α) (S : α → Prop) : Prop where
  go : wp m [.dr] (fun a W => W = [.dr] ∧ S a) (fun _ _ => False)
theorem DW.mono {α : Type} {m : M α} {S T : α → Prop} (h : DW m S) (i : ∀ a, S a → T a) : DW m T := ⟨wp_mono h.go (fun a W e => ⟨e.1, i a e.2⟩) fun _ _ z => z⟩
theorem DW.ret {α : Type} {a : α} {S : α → Prop} (h : S a) : DW (.ret a) S := ⟨⟨rfl, h⟩⟩
theorem DW.of {α : Type} {m : M α} {a : α} {S : α → Prop} (e : m = .ret a) (h : S a) : DW m S := by rw [e]; exact ⟨⟨rfl, h⟩⟩
theorem DW.bind {α β : Type} {m : M α} {f : α → M β} {S : β → Prop} (h : DW m fun a => DW (f a) S) : DW (m.bind f) S := by
  constructor
  rw [wp_bind]
  refine wp_mono h.go (fun a W e => ?_) fun _ _ z => z
  rw [e.1]
  exact e.2.go
theorem DW.draw {l : Int} {S : RV → Prop} (h0 : 0 < l) (h1 : l < 1073741824) (h : ∀ r, 0 ≤ r → r < l → S (dI r, false)) : DW (F__law_draw [.ob 0, dI l]) S := ⟨⟨rfl, h0, h1, fun r a b => ⟨rfl, h r a b⟩⟩⟩
section
variable {en : En} {fa fb : En → M RV} {fs : En → M (List AV)} {i j : Nat} {f : AV → AV → M RV} {F : List AV → M RV} {S : RV → Prop} {SA : List AV → Prop} {SO : Out → Prop} {s1 s2 : En → M Out}
theorem dwe_bin (h : DW (fa en) fun r => DW (fb en) fun r' => DW (f r.1 r'.1) S) : DW (dBin f fa fb en) S := DW.bind (h.mono fun _ h => DW.bind h)
theorem dwe_call (h : DW (fs en) fun as => DW (F as) S) : DW (dCall F fs en) S := DW.bind h
theorem dwa_cons (h : DW (fa en) fun r => DW (fs en) fun as => SA (r.1 :: as)) : DW (aCons fa fs en) SA := DW.bind (h.mono fun _ h => DW.bind (h.mono fun _ h => DW.ret h))
theorem dwe_tup (h : DW (fs en) fun as => ∃ ds, datas as = some ds ∧ S (.d (.tuple ds), false)) : DW (dTup fs en) S := DW.bind (h.mono fun as h => by obtain ⟨ds, e, h⟩ := h; rw [e]; exact DW.ret h)
theorem dwe_lst (h : DW (fs en) fun as => ∃ ds, datas as = some ds ∧ S (.d (.list ds), true)) : DW (dLst fs en) S := DW.bind (h.mono fun as h => by obtain ⟨ds, e, h⟩ := h; rw [e]; exact DW.ret h)
theorem dws_seq (h : DW (s1 en) fun o => ∃ en', o = .nx en' ∧ DW (s2 en') SO) : DW (sSeq s1 s2 en) SO := DW.bind (h.mono fun o h => by obtain ⟨en', rfl, h⟩ := h; exact h)
theorem dws_pure {en' : En} (h1 : s1 en = .ret (.nx en')) (h2 : DW (s2 en') SO) : DW (sSeq s1 s2 en) SO := by
  unfold sSeq
  rw [h1]
  exact h2
theorem dws_set (h : DW (fa (hide en)) fun r => SO (.nx (en.set i (some (.v r.1))))) : DW (sSet i fa en) SO := DW.bind (h.mono fun r h => DW.ret h)
theorem dws_setO (h : DW (fa (hide en)) fun r => ∃ xs, r = (.d (.list xs), true) ∧ SO (.nx (en.set i (some (.own xs))))) : DW (sSetO i fa en) SO := DW.bind (h.mono fun r h => by obtain ⟨xs, rfl, h⟩ := h; exact DW.ret h)
theorem dws_par (h : DW (fs (hide en)) fun as => ∃ x y, as = [x, y] ∧ SO (.nx ((en.set i (some (.v x))).set j (some (.v y))))) : DW (sPar i j fs en) SO := DW.bind (h.mono fun r h => by obtain ⟨x, y, rfl, h⟩ := h; exact DW.ret h)
theorem dws_ret (h : DW (fa (expo en)) fun r => SO (.rt r)) : DW (sRet fa en) SO := DW.bind (h.mono fun r h => DW.ret h)
theorem dws_app {xs : List PyData} (h1 : en[i]? = some (some (.own xs))) (hl : xs.length < lim) (h : DW (fa (hide en)) fun r => ∃ p, r.1 = .d p ∧ SO (.nx (en.set i (some (.own (xs ++ [p])))))) : DW (sApp i fa en) SO := by
  unfold sApp
  rw [h1]
  refine DW.bind (h.mono fun r h => ?_)
  obtain ⟨p, e, h⟩ := h
  rw [e]
  dsimp only
  rw [if_pos hl]
  exact DW.ret h
theorem dws_for {sl : List Nat} {bd : PyData → Option (List PyData)} {it : En → M (List PyData)} (h : DW (it (hide en)) fun xs => DW (forL sl bd s1 xs en) SO) : DW (sFor sl bd it s1 en) SO := DW.bind h
theorem dwi_range1 (h : DW (fs en) fun as => ∃ n : Int, as = [dI n] ∧ (n ≤ 1000000 ∧ -1000000 ≤ n) ∧ DW (.ret (rangeP 0 n.toNat)) SX) : DW (iRangeD1 fs en) SX := DW.bind (h.mono fun as h => by obtain ⟨n, rfl, e, h⟩ := h; dsimp only; rw [if_pos e]; exact h)
theorem dw_run {n m : Nat} {as : List AV} {b : En → M Out} (hl : as.length = n) (h : DW (b (enOf m as)) fun o => ∃ r, o = .rt r ∧ S r) : DW (runF n m b as) S := by
  unfold runF
  rw [if_pos hl]
  exact DW.bind (h.mono fun o h => by obtain ⟨r, rfl, h⟩ := h; exact DW.ret h)
theorem dw_forL {β : Type} {emb : β → PyData} {sl : List Nat} {bd : PyData → Option (List PyData)} {I : Nat → En → Prop} :
    ∀ {xs : List β} {k : Nat} {en : En} {SO : Out → Prop}, I k en → (∀ (n : Nat) (x : β) (en : En), x ∈ xs → n < k + xs.length → I n en → ∃ ds, bd (emb x) = some ds ∧ DW (s1 (setE en sl ds)) fun o => ∃ en', o = .nx en' ∧ I (n + 1) en') → (∀ en', I (k + xs.length) en' → SO (.nx en')) → DW (forL sl bd s1 (xs.map emb) en) SO
  | [], k, en, SO, h0, _, h2 => DW.ret (h2 en h0)
  | x :: xs, k, en, SO, h0, h1, h2 => by
    obtain ⟨ds, e, h⟩ := h1 k x en List.mem_cons_self (by simp) h0
    rw [List.map_cons]
    unfold forL
    rw [e]
    refine DW.bind (h.mono fun o h => ?_)
    obtain ⟨en', rfl, hI⟩ := h
    exact dw_forL (k := k + 1) hI (fun n x en hx hn => h1 n x en (List.mem_cons_of_mem _ hx) (by simp; omega)) fun en' h => h2 en' (by simpa [Nat.add_assoc, Nat.add_comm 1] using h)
end
/-- a loop without draws, its state told by a relation -/
theorem es_forL {α β : Type} {emb : α → PyData} {sl : List Nat} {bd : PyData → Option (List PyData)} {s1 : En → M Out} {R : β → En → Prop} (g : β → α → β) :
    ∀ {xs : List α} {b : β} {en : En}, R b en → (∀ b x en, x ∈ xs → R b en → ∃ ds, bd (emb x) = some ds ∧ ∃ en', s1 (setE en sl ds) = .ret (.nx en') ∧ R (g b x) en') → ∃ en', forL sl bd s1 (xs.map emb) en = .ret (.nx en') ∧ R (xs.foldl g b) en'
  | [], b, en, h0, _ => ⟨en, rfl, h0⟩
  | x :: xs, b, en, h0, h1 => by
    obtain ⟨ds, e, en', h, hR⟩ := h1 b x en List.mem_cons_self h0
    obtain ⟨en'', h', hR'⟩ := es_forL g (xs := xs) hR fun b x en hx => h1 b x en (List.mem_cons_of_mem _ hx)
    refine ⟨en'', ?_, hR'⟩
    rw [List.map_cons]
    unfold forL
    rw [e]
    dsimp only
    rw [h, ret_bind]
    exact h'
/-- the same, the state told by the part done -/
theorem es_forP' {α : Type} {emb : α → PyData} {sl : List Nat} {bd : PyData → Option (List PyData)} {s1 : En → M Out} {R : List α → En → Prop} :
    ∀ {xs pre0 : List α} {en : En}, R pre0 en → (∀ pre x post en, pre0 ++ xs = pre ++ x :: post → R pre en → ∃ ds, bd (emb x) = some ds ∧ ∃ en', s1 (setE en sl ds) = .ret (.nx en') ∧ R (pre ++ [x]) en') → ∃ en', forL sl bd s1 (xs.map emb) en = .ret (.nx en') ∧ R (pre0 ++ xs) en'
  | [], pre0, en, h0, _ => ⟨en, rfl, by simpa using h0⟩
  | x :: xs, pre0, en, h0, h1 => by
    obtain ⟨ds, e, en', h, hR⟩ := h1 pre0 x xs en rfl h0
    obtain ⟨en'', h', hR'⟩ := es_forP' (xs := xs) hR fun pre x post en hx => h1 pre x post en (by rw [← hx]; simp)
    refine ⟨en'', ?_, by simpa using hR'⟩
    rw [List.map_cons]
    unfold forL
    rw [e]
    dsimp only
    rw [h, ret_bind]
    exact h'
theorem es_forP {α : Type} {emb : α → PyData} {sl : List Nat} {bd : PyData → Option (List PyData)} {s1 : En → M Out} {R : List α → En → Prop} {xs : List α} {en : En} (h0 : R [] en) (h1 : ∀ pre x post en, xs = pre ++ x :: post → R pre en → ∃ ds, bd (emb x) = some ds ∧ ∃ en', s1 (setE en sl ds) = .ret (.nx en') ∧ R (pre ++ [x]) en') : ∃ en', forL sl bd s1 (xs.map emb) en = .ret (.nx en') ∧ R xs en' := es_forP' (pre0 := []) h0 h1
/-- the start of a law -/
theorem law_of {m : Nat} {b : En → M Out} {s : En → M Out} (e : b = sSeq (sSet 1 (dCall F__law_start (aCons (dVar 0) aNil))) s)
    (h : ∀ ns : List Int, ns.length ≤ 63 → DW (s (some (.v (.scr ns)) :: some (.v (.ob 0)) :: List.replicate m none)) fun o => o = .rt (.d (.bool true), false)) : LawTrue (runF 1 (m + 2) b) := by
  intro ns hl
  unfold runF
  rw [if_pos (show [AV.scr ns].length = 1 from rfl), e]
  rw [wp_bind]
  have e1 : sSeq (sSet 1 (dCall F__law_start (aCons (dVar 0) aNil))) s (enOf (m + 2) [.scr ns]) = .onew .dr fun i => s ((enOf (m + 2) [.scr ns]).set 1 (some (.v (.ob i)))) := by
    unfold sSeq sSet dCall
    show (((aCons (dVar 0) aNil (hide (enOf (m + 2) [AV.scr ns]))).bind F__law_start).bind _).bind _ = _
    have : aCons (dVar 0) aNil (hide (enOf (m + 2) [AV.scr ns])) = .ret [.scr ns] := rfl
    rw [this, ret_bind]
    show (Dt.M.bind (Dt.M.bind (fStart [.scr ns]) _) _) = _
    unfold fStart
    dsimp only
    rw [if_pos hl]
    rfl
  rw [e1]
  show wp (s _) _ _ _
  refine wp_mono (h ns hl).go (fun o W e => ?_) fun _ _ z => z
  rw [e.2]
  rfl
end Pg

/-! Plain laws: order statistics, choices. -/
namespace Pg
open PySem L2 Dt
/-- pointwise at most -/
inductive Pw : List Int → List Int → Prop
  | nil : Pw [] []
  | cons {x y : Int} {xs ys : List Int} : x ≤ y → Pw xs ys → Pw (x :: xs) (y :: ys)
theorem Pw.len {xs ys : List Int} (h : Pw xs ys) : xs.length = ys.length := by induction h <;> simp_all
theorem Pw.rfl' : ∀ xs : List Int, Pw xs xs
  | [] => .nil
  | x :: xs => .cons (Int.le_refl _) (rfl' xs)
theorem Pw.sum {xs ys : List Int} (h : Pw xs ys) : xs.sum ≤ ys.sum := by
  induction h with
  | nil => exact Int.le_refl _
  | cons a _ ih => simp only [List.sum_cons]; omega
theorem Pw.count {xs ys : List Int} (h : Pw xs ys) (v : Int) : ys.countP (fun z => decide (z ≤ v)) ≤ xs.countP (fun z => decide (z ≤ v)) := by
  induction h with
  | nil => exact Nat.le_refl _
  | cons a _ ih => simp only [List.countP_cons]; split <;> split <;> simp_all <;> omega
theorem Pw.above {xs ys : List Int} (h : Pw xs ys) (v : Int) : (xs.filter (fun z => decide (v < z))).length ≤ (ys.filter (fun z => decide (v < z))).length := by
  rw [← List.countP_eq_length_filter, ← List.countP_eq_length_filter]
  induction h with
  | nil => exact Nat.le_refl _
  | cons a _ ih => simp only [List.countP_cons]; split <;> split <;> simp_all <;> omega
/-- the k-th value is at most v as soon as more than k values are -/
theorem sorted_kth {xs : List Int} (hs : xs.Pairwise (· ≤ ·)) (v : Int) : ∀ (k : Nat) (h : k < xs.length), xs[k] ≤ v ↔ k < xs.countP (fun z => decide (z ≤ v)) := by
  induction xs with
  | nil => intro k h; simp at h
  | cons x xs ih =>
    rw [List.pairwise_cons] at hs
    intro k h
    cases k with
    | zero =>
      simp only [List.getElem_cons_zero, List.countP_cons]
      by_cases hx : x ≤ v
      · simp [hx]
      · have : xs.countP (fun z => decide (z ≤ v)) = 0 := List.countP_eq_zero.mpr fun a ha => by have := hs.1 a ha; simp; omega
        simp [hx, this]
    | succ k =>
      simp only [List.length_cons] at h
      simp only [List.getElem_cons_succ, List.countP_cons]
      have i := ih hs.2 k (by omega)
      by_cases hx : x ≤ v
      · rw [i]; simp [hx]
      · have : xs.countP (fun z => decide (z ≤ v)) = 0 := List.countP_eq_zero.mpr fun a ha => by have := hs.1 a ha; simp; omega
        rw [i]
        simp [hx, this]
theorem isort_len (xs : List Int) : (isort xs).length = xs.length := (isort_perm xs).length_eq
theorem kth_iff {xs : List Int} {k : Nat} (h : k < (isort xs).length) (v : Int) : (isort xs)[k] ≤ v ↔ k < xs.countP (fun z => decide (z ≤ v)) := by
  rw [sorted_kth (isort_sorted xs) v k h, (isort_perm xs).countP_eq]
theorem Pw.isort {xs ys : List Int} (h : Pw xs ys) (k : Nat) (h1 : k < (isort xs).length) (h2 : k < (isort ys).length) : (isort xs)[k] ≤ (isort ys)[k] := by
  rw [kth_iff]
  exact Nat.lt_of_lt_of_le ((kth_iff h2 _).mp (Int.le_refl _)) (h.count _)
/-- the k-th smallest -/
def kth (xs : List Int) (k : Nat) : Int := (isort xs).getD k 0
theorem Pw.kth {xs ys : List Int} (h : Pw xs ys) (k : Nat) : kth xs k ≤ kth ys k := by
  have hl := h.len
  unfold Pg.kth
  by_cases hk : k < xs.length
  · have h1 : k < (Dt.isort xs).length := by rw [isort_len]; exact hk
    have h2 : k < (Dt.isort ys).length := by rw [isort_len]; omega
    rw [List.getD_eq_getElem?_getD, List.getD_eq_getElem?_getD, List.getElem?_eq_getElem h1, List.getElem?_eq_getElem h2]
    exact h.isort k h1 h2
  · rw [List.getD_eq_getElem?_getD, List.getD_eq_getElem?_getD, List.getElem?_eq_none (by rw [isort_len]; omega), List.getElem?_eq_none (by rw [isort_len]; omega)]
    exact Int.le_refl _
theorem sorted_min {xs : List Int} (h : 0 < xs.length) : minL xs = kth xs 0 := by
  have h1 : 0 < (isort xs).length := by rw [isort_len]; exact h
  have e : kth xs 0 = (isort xs)[0] := by unfold kth; rw [List.getD_eq_getElem?_getD, List.getElem?_eq_getElem h1]; rfl
  rw [e]
  refine minL_uniq ((isort_perm xs).mem_iff.mp (List.getElem_mem h1)) fun y hy => ?_
  rw [kth_iff h1]
  exact List.countP_pos_iff.mpr ⟨y, hy, by simp⟩
theorem sorted_max {xs : List Int} (h : 0 < xs.length) : maxL xs = kth xs (xs.length - 1) := by
  have h1 : xs.length - 1 < (isort xs).length := by rw [isort_len]; omega
  have e : kth xs (xs.length - 1) = (isort xs)[xs.length - 1] := by unfold kth; rw [List.getD_eq_getElem?_getD, List.getElem?_eq_getElem h1]; rfl
  rw [e]
  refine maxL_uniq ((isort_perm xs).mem_iff.mp (List.getElem_mem h1)) fun y hy => ?_
  have h2 := (kth_iff h1 ((isort xs)[xs.length - 1])).mp (Int.le_refl _)
  have h3 := List.countP_le_length (p := fun z => decide (z ≤ (isort xs)[xs.length - 1])) (l := xs)
  have h4 : xs.countP (fun z => decide (z ≤ (isort xs)[xs.length - 1])) = xs.length := by omega
  simpa using List.countP_eq_length.mp h4 y hy
/-! ### choices -/
abbrev vals (p : Int × Int) : List Int := (List.range (p.2 + 1 - p.1).toNat).map fun i : Nat => p.1 + (i : Int)
def more (rows : List (List Int)) (p : Int × Int) : List (List Int) := rows.foldl (fun l r => l ++ (vals p).map fun v => r ++ [v]) []
def chs (bs : List (Int × Int)) : List (List Int) := bs.foldl more [[]]
theorem foldl_flat {α β : Type} (f : α → List β) : ∀ (xs : List α) (l : List β), xs.foldl (fun l r => l ++ f r) l = l ++ xs.flatMap f
  | [], l => by simp
  | x :: xs, l => by rw [List.foldl_cons, foldl_flat f xs, List.flatMap_cons, List.append_assoc]
theorem more_eq (rows : List (List Int)) (p : Int × Int) : more rows p = rows.flatMap fun r => (vals p).map fun v => r ++ [v] := by
  unfold more
  rw [foldl_flat (f := fun r : List Int => (vals p).map fun v => r ++ [v])]
  rfl
theorem mem_vals {p : Int × Int} {v : Int} : v ∈ vals p ↔ p.1 ≤ v ∧ v ≤ p.2 := by
  simp only [List.mem_map, List.mem_range]
  constructor
  · rintro ⟨i, h, rfl⟩; omega
  · intro h; exact ⟨(v - p.1).toNat, by omega, by omega⟩
/-- a choice within bounds -/
inductive Ch : List (Int × Int) → List Int → Prop
  | nil : Ch [] []
  | cons {p : Int × Int} {v : Int} {bs : List (Int × Int)} {c : List Int} : p.1 ≤ v → v ≤ p.2 → Ch bs c → Ch (p :: bs) (v :: c)
theorem Ch.len {bs : List (Int × Int)} {c : List Int} (h : Ch bs c) : c.length = bs.length := by induction h <;> simp_all
theorem Ch.lo {bs : List (Int × Int)} {c : List Int} (h : Ch bs c) : Pw (los bs) c := by
  induction h with
  | nil => exact .nil
  | cons a b _ ih => exact .cons a ih
theorem Ch.hi {bs : List (Int × Int)} {c : List Int} (h : Ch bs c) : Pw c (his bs) := by
  induction h with
  | nil => exact .nil
  | cons a b _ ih => exact .cons b ih
theorem Ch.low : ∀ {bs : List (Int × Int)}, (∀ p ∈ bs, p.1 ≤ p.2) → Ch bs (los bs)
  | [], _ => .nil
  | p :: bs, h => .cons (Int.le_refl _) (h p List.mem_cons_self) (Ch.low fun q hq => h q (List.mem_cons_of_mem _ hq))
theorem Ch.high : ∀ {bs : List (Int × Int)}, (∀ p ∈ bs, p.1 ≤ p.2) → Ch bs (his bs)
  | [], _ => .nil
  | p :: bs, h => .cons (h p List.mem_cons_self) (Int.le_refl _) (Ch.high fun q hq => h q (List.mem_cons_of_mem _ hq))
theorem mem_fold {bs : List (Int × Int)} : ∀ {rows : List (List Int)} {c : List Int}, c ∈ bs.foldl more rows ↔ ∃ r d, r ∈ rows ∧ Ch bs d ∧ c = r ++ d := by
  induction bs with
  | nil =>
    intro rows c
    constructor
    · intro h; exact ⟨c, [], h, .nil, by simp⟩
    · rintro ⟨r, d, h, hd, rfl⟩; cases hd; simpa using h
  | cons p bs ih =>
    intro rows c
    rw [List.foldl_cons, ih]
    constructor
    · rintro ⟨r, d, h, hd, rfl⟩
      rw [more_eq] at h
      obtain ⟨r', hr', h⟩ := List.mem_flatMap.mp h
      obtain ⟨v, hv, rfl⟩ := List.mem_map.mp h
      have hv := mem_vals.mp hv
      exact ⟨r', v :: d, hr', .cons hv.1 hv.2 hd, by simp⟩
    · rintro ⟨r, d, h, hd, rfl⟩
      cases hd with
      | cons h1 h2 hd =>
        rename_i v d
        refine ⟨r ++ [v], d, ?_, hd, by simp⟩
        rw [more_eq]
        exact List.mem_flatMap.mpr ⟨r, h, List.mem_map.mpr ⟨v, mem_vals.mpr ⟨h1, h2⟩, rfl⟩⟩
theorem mem_chs {bs : List (Int × Int)} {c : List Int} : c ∈ chs bs ↔ Ch bs c := by
  unfold chs
  rw [mem_fold]
  constructor
  · rintro ⟨r, d, h, hd, rfl⟩
    simp at h
    subst h
    exact hd
  · intro h; exact ⟨[], c, by simp, h, rfl⟩
theorem more_len (rows : List (List Int)) (p : Int × Int) : (more rows p).length = rows.length * (p.2 + 1 - p.1).toNat := by
  rw [more_eq]
  induction rows with
  | nil => simp
  | cons r rows ih => rw [List.flatMap_cons, List.length_append, ih, List.length_map, List.length_map, List.length_range, List.length_cons, Nat.add_mul, Nat.one_mul, Nat.add_comm]
/-- a figure that grows with the values is least at the lows and greatest at the highs -/
theorem min_chs {bs : List (Int × Int)} (hb : ∀ p ∈ bs, p.1 ≤ p.2) (f : List Int → Int) (hf : ∀ x y, Pw x y → f x ≤ f y) : minL ((chs bs).map f) = f (los bs) :=
  minL_uniq (List.mem_map.mpr ⟨_, mem_chs.mpr (Ch.low hb), rfl⟩) fun y hy => by obtain ⟨c, hc, rfl⟩ := List.mem_map.mp hy; exact hf _ _ (mem_chs.mp hc).lo
theorem max_chs {bs : List (Int × Int)} (hb : ∀ p ∈ bs, p.1 ≤ p.2) (f : List Int → Int) (hf : ∀ x y, Pw x y → f x ≤ f y) : maxL ((chs bs).map f) = f (his bs) :=
  maxL_uniq (List.mem_map.mpr ⟨_, mem_chs.mpr (Ch.high hb), rfl⟩) fun y hy => by obtain ⟨c, hc, rfl⟩ := List.mem_map.mp hy; exact hf _ _ (mem_chs.mp hc).hi
theorem chs_ne {bs : List (Int × Int)} (hb : ∀ p ∈ bs, p.1 ≤ p.2) : chs bs ≠ [] := List.ne_nil_of_mem (mem_chs.mpr (Ch.low hb))
/-! ### fractions in lowest terms, compared across -/
theorem low_cross {t b t' b' : Int} (hb : 0 < b) (hb' : 0 < b') : (lowP t b).1 * (lowP t' b').2 < (lowP t' b').1 * (lowP t b).2 ↔ t * b' < t' * b := by
  have g := gcd_pos_le (t := t) hb
  have g' := gcd_pos_le (t := t') hb'
  obtain ⟨u, hu⟩ := Int.gcd_dvd_left t b
  obtain ⟨v, hv⟩ := Int.gcd_dvd_right t b
  obtain ⟨u', hu'⟩ := Int.gcd_dvd_left t' b'
  obtain ⟨v', hv'⟩ := Int.gcd_dvd_right t' b'
  have e1 : (lowP t b).1 = u := Int.ediv_eq_of_eq_mul_right (by omega) hu
  have e2 : (lowP t b).2 = v := Int.ediv_eq_of_eq_mul_right (by omega) hv
  have e3 : (lowP t' b').1 = u' := Int.ediv_eq_of_eq_mul_right (by omega) hu'
  have e4 : (lowP t' b').2 = v' := Int.ediv_eq_of_eq_mul_right (by omega) hv'
  rw [e1, e2, e3, e4]
  generalize (Int.gcd t b : Int) = G at *
  generalize (Int.gcd t' b' : Int) = G' at *
  have hp : 0 < G * G' := Int.mul_pos g.1 g'.1
  have k1 : t * b' = (G * G') * (u * v') := by rw [hu, hv']; ac_rfl
  have k2 : t' * b = (G * G') * (u' * v) := by rw [hu', hv]; ac_rfl
  rw [k1, k2]
  constructor
  · intro h; exact Int.mul_lt_mul_of_pos_left h hp
  · intro h; exact Int.lt_of_mul_lt_mul_left h (Int.le_of_lt hp)
theorem low_pos {t b : Int} (hb : 0 < b) : 0 < (lowP t b).2 ∧ (lowP t b).2 ≤ b := by
  have g := gcd_pos_le (t := t) hb
  obtain ⟨v, hv⟩ := Int.gcd_dvd_right t b
  have e2 : (lowP t b).2 = v := Int.ediv_eq_of_eq_mul_right (by omega) hv
  rw [e2]
  generalize (Int.gcd t b : Int) = G at *
  have : 0 < v := by
    rcases Int.lt_or_le 0 v with h | h
    · exact h
    · have := Int.mul_le_mul_of_nonneg_left h (Int.le_of_lt g.1)
      omega
  refine ⟨this, ?_⟩
  rw [hv]
  have := Int.mul_le_mul_of_nonneg_right (show (1 : Int) ≤ G by omega) (Int.le_of_lt this)
  omega
end Pg

/-! What the defs compute, part 2: figures, and the laws' own helpers. -/
namespace Pg
open PySem L2 Dt
local macro_rules | `(tactic| walk_at "op") => `(tactic| first | (with_reducible exact op_add_i _ _) | (with_reducible exact op_sub_i _ _) | (with_reducible exact op_lt_i _ _) | (with_reducible exact op_le_i _ _) | (with_reducible exact op_gt_i _ _) | (with_reducible exact op_ge_i _ _) | (with_reducible exact op_eq_i _ _) | (with_reducible exact op_ne_i _ _) | (with_reducible exact op_ix_p0 _) | (with_reducible exact op_ix_p1 _) | (with_reducible exact op_ix_0 _ _) | (with_reducible exact op_ix_1 _ _ _) | (with_reducible exact op_isN_d) | (with_reducible exact op_notN_d) | (with_reducible exact op_isB_d _ _) | (with_reducible exact op_notB_d _ _) | (with_reducible exact b_len_p _) | (with_reducible exact b_len_l _) | (with_reducible exact b_len_t _) | (with_reducible exact b_sum _) | (with_reducible exact b_sorted _) | (with_reducible exact b_abs _) | (with_reducible exact b_max2 _ _) | (with_reducible exact b_min2 _ _) | ((with_reducible apply op_mod_i); with_reducible assumption) | ((with_reducible apply op_div_i); with_reducible assumption) | ((with_reducible apply op_mul_i); with_reducible assumption))
local macro_rules | `(tactic| walk_at "F") => `(tactic| walk_at "op")
local macro_rules | `(tactic| walk_at "A") => `(tactic| first | (with_reducible exact ea_nil) | ((with_reducible apply ea_cons); walk_at "E"; walk_at "A"))
local macro_rules | `(tactic| walk_at "T") => `(tactic| first | ((with_reducible apply et_val); walk_at "E") | ((with_reducible apply et_not); walk_at "T") | ((with_reducible apply et_or); walk_at "T"; (intro _; walk_at "T")) | ((with_reducible apply et_and); walk_at "T"; (intro _; walk_at "T")))
local macro_rules | `(tactic| walk_at "O") => `(tactic| first | (with_reducible exact eo_none) | ((with_reducible apply eo_some); walk_at "E"))
local macro_rules | `(tactic| walk_at "E") => `(tactic| first
  | (with_reducible exact ev_c)
  | ((with_reducible apply ev_var); rfl)
  | ((with_reducible apply ev_bin); walk_at "E"; walk_at "E"; walk_at "op")
  | ((with_reducible apply ev_call); walk_at "A"; walk_at "F")
  | ((with_reducible apply ev_tup); walk_at "A"; rfl)
  | ((with_reducible apply ev_lst); walk_at "A"; rfl)
  | ((with_reducible apply ev_neg); walk_at "E")
  | ((with_reducible apply ev_isi); walk_at "E")
  | ((with_reducible apply ev_not); walk_at "E")
  | ((with_reducible apply ev_and'); walk_at "E"; (intro _; walk_at "E"))
  | ((with_reducible apply ev_or'); walk_at "E"; (intro _; walk_at "E"))
  | ((with_reducible apply ev_chain); walk_at "E"; walk_at "E"; walk_at "E"; walk_at "op"; walk_at "op")
  | ((with_reducible apply ev_sl); walk_at "E"; walk_at "O"; walk_at "O")
  | ((with_reducible apply ev_rev); walk_at "E")
  | ((with_reducible apply ev_ifT); ((with_reducible apply ev_is); walk_at "T"; rfl); walk_at "E")
  | ((with_reducible apply ev_ifF); ((with_reducible apply ev_is); walk_at "T"; rfl); walk_at "E"))
local macro_rules | `(tactic| walk_at "I") => `(tactic| first | ((with_reducible apply ei_list); walk_at "E"; done) | ((with_reducible apply ei_tup); walk_at "E") | ((with_reducible apply ei_enum); walk_at "A") | ((with_reducible apply ei_zip); walk_at "A"))
local macro_rules | `(tactic| walk_at "S") => `(tactic| first
  | (with_reducible exact es_nil)
  | ((with_reducible apply es_retV); rfl)
  | ((with_reducible apply es_retO); rfl)
  | ((with_reducible apply es_ret); walk_at "E")
  | ((with_reducible apply es_seq); walk_at "S"; walk_at "S")
  | ((with_reducible apply es_expr); walk_at "E")
  | ((with_reducible apply es_set); walk_at "E")
  | ((with_reducible apply es_setO); walk_at "E")
  | ((with_reducible apply es_par); walk_at "A")
  | ((with_reducible apply es_asgT); walk_at "E"; rfl)
  | ((with_reducible apply es_ifF); ((with_reducible apply ev_is); walk_at "T"; (first | rfl | with_reducible assumption)); walk_at "S")
  | ((with_reducible apply es_ifT); ((with_reducible apply ev_is); walk_at "T"; (first | rfl | with_reducible assumption)); walk_at "S"))
local macro_rules | `(tactic| walk_at "F") => `(tactic| with_reducible exact is_int_eq _ _ _)
local macro_rules | `(tactic| walk_at "F") => `(tactic| with_reducible exact is_bound_eq _)
local macro_rules | `(tactic| walk_at "F") => `(tactic| ((with_reducible apply is_bounds_eq); exact okB_len (by with_reducible assumption)))
local macro_rules | `(tactic| walk_at "F") => `(tactic| ((with_reducible apply check_ok); with_reducible assumption))
local macro_rules | `(tactic| walk_at "F") => `(tactic| ((with_reducible apply lows_eq); exact okB_len (by with_reducible assumption)))
local macro_rules | `(tactic| walk_at "F") => `(tactic| ((with_reducible apply highs_eq); exact okB_len (by with_reducible assumption)))
local macro_rules | `(tactic| walk_at "F") => `(tactic| ((with_reducible apply sum_range_eq); with_reducible assumption))
theorem okB_pos {bs : List (Int × Int)} (h : okB bs = true) : (1 ≤ bs.length ∧ bs.length ≤ 7) ∧ ∀ p ∈ bs, p.1 ≤ p.2 := ⟨(okB_iff.mp h).1, fun p hp => ((okB_iff.mp h).2 p hp).2.1⟩
theorem fuel_v : fuel = 1000000000000 := rfl
/-- F_lowest, F__law_low at a length -/
theorem mean_range_eq {bs : List (Int × Int)} (h : okB bs = true) : F_mean_range [.d (dBs bs)] = .ret (.d (.tuple [dP (lowP (los bs).sum bs.length), dP (lowP (his bs).sum bs.length)]), false) := by
  have hp := okB_pos h
  have hl : ((bs.map dP).length : Int) = bs.length := by rw [List.length_map]
  have k1 : (0 : Int) < ((bs.map dP).length : Int) := by omega
  have k2 : ((bs.map dP).length : Int).natAbs < fuel := by rw [fuel_v]; omega
  unfold F_mean_range b_mean_range
  refine Eq.trans (by
    apply run_rt rfl
    apply es_seq
    · walk_at "S"
    · apply es_ret
      apply ev_tup
      · apply ea_cons
        · apply ev_call
          · walk_at "A"
          · exact lowest_eq k1 k2
        · apply ea_cons
          · apply ev_call
            · walk_at "A"
            · exact lowest_eq k1 k2
          · walk_at "A"
      · rfl) ?_
  rw [hl]
theorem atI_kth {xs : List Int} {k : Nat} (h : k < xs.length) : atI ((isort xs).map PyData.int) (k : Int) = some (.int (kth xs k)) := by
  have h1 : k < (isort xs).length := by rw [isort_len]; exact h
  refine atI_nat (j := k) ?_
  unfold kth
  rw [List.getElem?_map, List.getElem?_eq_getElem h1, List.getD_eq_getElem?_getD, List.getElem?_eq_getElem h1]
  rfl
theorem kth_range_eq {bs : List (Int × Int)} (h : okB bs = true) {k : Int} (h1 : 1 ≤ k) (h2 : k ≤ bs.length) : F_kth_range [.d (dBs bs), dI k] = .ret (.d (dP (kth (los bs) (k.toNat - 1), kth (his bs) (k.toNat - 1))), false) := by
  have hp := okB_pos h
  have hl : ((bs.map dP).length : Int) = bs.length := by rw [List.length_map]
  have a1 : atI ((isort (los bs)).map PyData.int) (k - 1) = some (.int (kth (los bs) (k.toNat - 1))) := by
    have := atI_kth (xs := los bs) (k := k.toNat - 1) (by rw [List.length_map]; omega)
    rw [← this]; congr 1; omega
  have a2 : atI ((isort (his bs)).map PyData.int) (k - 1) = some (.int (kth (his bs) (k.toNat - 1))) := by
    have := atI_kth (xs := his bs) (k := k.toNat - 1) (by rw [List.length_map]; omega)
    rw [← this]; congr 1; omega
  unfold F_kth_range b_kth_range
  refine Eq.trans (by
    apply run_rt rfl
    apply es_seq
    · walk_at "S"
    · apply es_seq
      · with_reducible apply es_ifF
        · apply ev_is
          · walk_at "T"
          · simp; omega
        · walk_at "S"
      · apply es_ret
        apply ev_tup
        · apply ea_cons
          · apply ev_bin
            · walk_at "E"
            · walk_at "E"
            · exact op_ix_l a1
          · apply ea_cons
            · apply ev_bin
              · walk_at "E"
              · walk_at "E"
              · exact op_ix_l a2
            · walk_at "A"
        · rfl) ?_
  rfl
/-- the median, doubled -/
def mid2 (xs : List Int) : Int := kth xs ((xs.length - 1) / 2) + kth xs (xs.length / 2)
abbrev medP (xs : List Int) : Int × Int := lowP (mid2 xs) 2
theorem Pw.mid2 {xs ys : List Int} (h : Pw xs ys) : mid2 xs ≤ mid2 ys := by
  unfold Pg.mid2
  rw [h.len]
  have h1 := h.kth ((ys.length - 1) / 2)
  have h2 := h.kth (ys.length / 2)
  omega
theorem middle_at {xs : List Int} (h : 0 < xs.length) : atI ((isort xs).map PyData.int) (((((isort xs).map PyData.int).length : Int) - 1) / 2) = some (.int (kth xs ((xs.length - 1) / 2))) ∧ atI ((isort xs).map PyData.int) ((((isort xs).map PyData.int).length : Int) / 2) = some (.int (kth xs (xs.length / 2))) := by
  rw [List.length_map, isort_len]
  constructor
  · rw [← atI_kth (by omega)]; congr 1; omega
  · rw [← atI_kth (by omega)]; congr 1
theorem two_ok : (0 : Int) < 2 ∧ (2 : Int).natAbs < big := ⟨by decide, by unfold big; decide +kernel⟩
theorem middle_eq {xs : List Int} (h : 0 < xs.length) : F_middle [.d (dNs xs)] = .ret (.d (dP (medP xs)), false) := by
  have ha := middle_at h
  have h2 := two_ok
  unfold F_middle b_middle
  apply run_rt rfl
  apply es_seq
  · walk_at "S"
  · apply es_seq
    · walk_at "S"
    · apply es_ret
      apply ev_call
      · apply ea_cons
        · apply ev_bin
          · apply ev_bin
            · walk_at "E"
            · walk_at "E"
            · exact op_ix_l ha.1
          · apply ev_bin
            · walk_at "E"
            · walk_at "E"
            · exact op_ix_l ha.2
          · walk_at "op"
        · walk_at "A"
      · exact lowest_eq (by decide) (by decide)
theorem law_middle_eq {xs : List Int} (h : 0 < xs.length) : F__law_middle [.d (dNs xs)] = .ret (.d (dP (medP xs)), false) := by
  have ha := middle_at h
  have h2 := two_ok
  unfold F__law_middle b__law_middle
  apply run_rt rfl
  apply es_seq
  · walk_at "S"
  · apply es_seq
    · walk_at "S"
    · apply es_ret
      apply ev_call
      · apply ea_cons
        · apply ev_bin
          · apply ev_bin
            · walk_at "E"
            · walk_at "E"
            · exact op_ix_l ha.1
          · apply ev_bin
            · walk_at "E"
            · walk_at "E"
            · exact op_ix_l ha.2
          · walk_at "op"
        · walk_at "A"
      · exact law_low_eq (by decide) (by decide)
theorem los_pos {bs : List (Int × Int)} (h : okB bs = true) : 0 < (los bs).length := by rw [List.length_map]; exact (okB_pos h).1.1
theorem his_pos {bs : List (Int × Int)} (h : okB bs = true) : 0 < (his bs).length := by rw [List.length_map]; exact (okB_pos h).1.1
local macro_rules | `(tactic| walk_at "F") => `(tactic| ((with_reducible apply middle_eq); first | exact los_pos (by assumption) | exact his_pos (by assumption)))
local macro_rules | `(tactic| walk_at "F") => `(tactic| ((with_reducible apply b_min); first | exact List.ne_nil_of_length_pos (los_pos (by assumption)) | exact List.ne_nil_of_length_pos (his_pos (by assumption))))
local macro_rules | `(tactic| walk_at "F") => `(tactic| ((with_reducible apply b_max); first | exact List.ne_nil_of_length_pos (los_pos (by assumption)) | exact List.ne_nil_of_length_pos (his_pos (by assumption))))
theorem median_range_eq {bs : List (Int × Int)} (h : okB bs = true) : F_median_range [.d (dBs bs)] = .ret (.d (.tuple [dP (medP (los bs)), dP (medP (his bs))]), false) := by
  unfold F_median_range b_median_range
  apply run_rt rfl
  walk_at "S"
theorem least_range_eq {bs : List (Int × Int)} (h : okB bs = true) : F_least_range [.d (dBs bs)] = .ret (.d (dP (minL (los bs), minL (his bs))), false) := by
  unfold F_least_range b_least_range
  refine Eq.trans (by apply run_rt rfl; walk_at "S") ?_
  rfl
theorem greatest_range_eq {bs : List (Int × Int)} (h : okB bs = true) : F_greatest_range [.d (dBs bs)] = .ret (.d (dP (maxL (los bs), maxL (his bs))), false) := by
  unfold F_greatest_range b_greatest_range
  refine Eq.trans (by apply run_rt rfl; walk_at "S") ?_
  rfl
def aboveC (v : Int) (xs : List Int) : Int := (xs.filter (fun z => decide (v < z))).length
theorem above_range_eq {bs : List (Int × Int)} (h : okB bs = true) {v : Int} (h1 : -50 ≤ v) (h2 : v ≤ 50) : F_above_range [.d (dBs bs), dI v] = .ret (.d (dP (aboveC v (los bs), aboveC v (his bs))), false) := by
  have hl := okB_len h
  unfold F_above_range b_above_range
  refine Eq.trans (by
    apply run_rt rfl
    apply es_seq
    · walk_at "S"
    · apply es_seq
      · with_reducible apply es_ifF
        · apply ev_is
          · walk_at "T"
          · simp; omega
        · walk_at "S"
      · apply es_ret
        apply ev_tup
        · apply ea_cons
          · apply ev_call
            · apply ea_cons
              · exact ev_compBF (f := fun p => .int 1) (g := fun p => decide (v < p.1)) (b := false) (by walk_at "I") hl (fun p hp => by walk_at "T") fun p hp _ => by walk_at "E"
              · walk_at "A"
            · walk_at "F"
          · apply ea_cons
            · apply ev_call
              · apply ea_cons
                · exact ev_compBF (f := fun p => .int 1) (g := fun p => decide (v < p.2)) (b := false) (by walk_at "I") hl (fun p hp => by walk_at "T") fun p hp _ => by walk_at "E"
                · walk_at "A"
              · walk_at "F"
            · walk_at "A"
        · rfl) ?_
  rw [List.length_map, List.length_map]
  unfold aboveC los his
  rw [List.filter_map, List.length_map, List.filter_map, List.length_map]
  rfl
end Pg

/-! The laws' helpers: choices, small bounds. -/
namespace Pg
open PySem L2 Dt
local macro_rules | `(tactic| walk_at "op") => `(tactic| first | (with_reducible exact op_add_i _ _) | (with_reducible exact op_sub_i _ _) | (with_reducible exact op_lt_i _ _) | (with_reducible exact op_le_i _ _) | (with_reducible exact op_gt_i _ _) | (with_reducible exact op_ge_i _ _) | (with_reducible exact op_eq_i _ _) | (with_reducible exact op_ne_i _ _) | (with_reducible exact op_ix_p0 _) | (with_reducible exact op_ix_p1 _) | (with_reducible exact op_ix_0 _ _) | (with_reducible exact op_ix_1 _ _ _) | (with_reducible exact op_isN_d) | (with_reducible exact op_notN_d) | (with_reducible exact op_isB_d _ _) | (with_reducible exact op_notB_d _ _) | (with_reducible exact b_len_p _) | (with_reducible exact b_len_l _) | (with_reducible exact b_len_t _) | (with_reducible exact b_sum _) | (with_reducible exact b_sorted _) | (with_reducible exact b_abs _) | (with_reducible exact b_max2 _ _) | (with_reducible exact b_min2 _ _) | ((with_reducible apply op_mod_i); with_reducible assumption) | ((with_reducible apply op_div_i); with_reducible assumption) | ((with_reducible apply op_mul_i); with_reducible assumption))
local macro_rules | `(tactic| walk_at "F") => `(tactic| walk_at "op")
local macro_rules | `(tactic| walk_at "A") => `(tactic| first | (with_reducible exact ea_nil) | ((with_reducible apply ea_cons); walk_at "E"; walk_at "A"))
local macro_rules | `(tactic| walk_at "T") => `(tactic| first | ((with_reducible apply et_val); walk_at "E") | ((with_reducible apply et_not); walk_at "T") | ((with_reducible apply et_or); walk_at "T"; (intro _; walk_at "T")) | ((with_reducible apply et_and); walk_at "T"; (intro _; walk_at "T")))
local macro_rules | `(tactic| walk_at "O") => `(tactic| first | (with_reducible exact eo_none) | ((with_reducible apply eo_some); walk_at "E"))
local macro_rules | `(tactic| walk_at "E") => `(tactic| first
  | (with_reducible exact ev_c)
  | ((with_reducible apply ev_var); rfl)
  | ((with_reducible apply ev_bin); walk_at "E"; walk_at "E"; walk_at "op")
  | ((with_reducible apply ev_call); walk_at "A"; walk_at "F")
  | ((with_reducible apply ev_tup); walk_at "A"; rfl)
  | ((with_reducible apply ev_lst); walk_at "A"; rfl)
  | ((with_reducible apply ev_neg); walk_at "E")
  | ((with_reducible apply ev_isi); walk_at "E")
  | ((with_reducible apply ev_not); walk_at "E")
  | ((with_reducible apply ev_and'); walk_at "E"; (intro _; walk_at "E"))
  | ((with_reducible apply ev_or'); walk_at "E"; (intro _; walk_at "E"))
  | ((with_reducible apply ev_chain); walk_at "E"; walk_at "E"; walk_at "E"; walk_at "op"; walk_at "op")
  | ((with_reducible apply ev_sl); walk_at "E"; walk_at "O"; walk_at "O")
  | ((with_reducible apply ev_rev); walk_at "E")
  | ((with_reducible apply ev_ifT); ((with_reducible apply ev_is); walk_at "T"; rfl); walk_at "E")
  | ((with_reducible apply ev_ifF); ((with_reducible apply ev_is); walk_at "T"; rfl); walk_at "E"))
local macro_rules | `(tactic| walk_at "I") => `(tactic| first | ((with_reducible apply ei_list); walk_at "E"; done) | ((with_reducible apply ei_tup); walk_at "E") | ((with_reducible apply ei_enum); walk_at "A") | ((with_reducible apply ei_zip); walk_at "A"))
local macro_rules | `(tactic| walk_at "S") => `(tactic| first
  | (with_reducible exact es_nil)
  | ((with_reducible apply es_retV); rfl)
  | ((with_reducible apply es_retO); rfl)
  | ((with_reducible apply es_ret); walk_at "E")
  | ((with_reducible apply es_seq); walk_at "S"; walk_at "S")
  | ((with_reducible apply es_expr); walk_at "E")
  | ((with_reducible apply es_set); walk_at "E")
  | ((with_reducible apply es_setO); walk_at "E")
  | ((with_reducible apply es_par); walk_at "A")
  | ((with_reducible apply es_asgT); walk_at "E"; rfl)
  | ((with_reducible apply es_ifF); ((with_reducible apply ev_is); walk_at "T"; (first | rfl | with_reducible assumption)); walk_at "S")
  | ((with_reducible apply es_ifT); ((with_reducible apply ev_is); walk_at "T"; (first | rfl | with_reducible assumption)); walk_at "S"))
local macro_rules | `(tactic| walk_at "F") => `(tactic| with_reducible exact is_int_eq _ _ _)
local macro_rules | `(tactic| walk_at "F") => `(tactic| with_reducible exact is_bound_eq _)
local macro_rules | `(tactic| walk_at "F") => `(tactic| ((with_reducible apply is_bounds_eq); exact okB_len (by with_reducible assumption)))
local macro_rules | `(tactic| walk_at "F") => `(tactic| ((with_reducible apply check_ok); with_reducible assumption))
local macro_rules | `(tactic| walk_at "F") => `(tactic| ((with_reducible apply lows_eq); exact okB_len (by with_reducible assumption)))
local macro_rules | `(tactic| walk_at "F") => `(tactic| ((with_reducible apply highs_eq); exact okB_len (by with_reducible assumption)))
local macro_rules | `(tactic| walk_at "F") => `(tactic| ((with_reducible apply sum_range_eq); with_reducible assumption))
def dNsF (ns : List Int) : PyData := dNs ns
abbrev dRows (rows : List (List Int)) : PyData := .list (rows.map fun r => dNs r)
theorem range2_eq (p : Int × Int) : rangeP p.1 (p.2 + 1 - p.1).toNat = (vals p).map PyData.int := by
  unfold rangeP vals
  rw [List.map_map]
  rfl
theorem more_app (pre : List (List Int)) (r : List Int) (p : Int × Int) : more (pre ++ [r]) p = more pre p ++ (vals p).map fun v => r ++ [v] := by
  rw [more_eq, more_eq, List.flatMap_append]; simp
theorem more_mono (pre post : List (List Int)) (p : Int × Int) : (more pre p).length ≤ (more (pre ++ post) p).length := by
  rw [more_len, more_len]; exact Nat.mul_le_mul_right _ (by simp)
theorem op_add_app {xs ys : List Int} {r : PyData} (h : xs.length + 1 ≤ lim) (v : Int) : oAdd (.d (dNs xs)) (.d (.list [.int v])) = .ret (.d (dNs (xs ++ [v])), true) := by
  rw [op_add_l (by rw [List.length_map]; exact h)]
  simp
/-- the loop over rows -/
theorem choices_in {p : Int × Int} {w : Option Slot} {w1 : Option Slot} (hv : (-1000 ≤ p.1 ∧ p.1 ≤ 1000) ∧ (-1000 ≤ p.2 ∧ p.2 ≤ 1000)) {u : Option Slot} {rows : List (List Int)} (hl : (more rows p).length ≤ lim) (hr : ∀ r ∈ rows, r.length < 100) :
    ∃ en', forL [5] bdN (sSet 4 (dBin oAdd (dVar 4) (dComp [6] [6] bdN (iRangeD2 (aCons (dVar 2) (aCons (dBin oAdd (dVar 3) (dC (.int 1))) aNil))) yes (dBin oAdd (dVar 5) (dLst (aCons (dVar 6) aNil)))))) (rows.map fun r => dNs r)
      [w, w1, some (.v (dI p.1)), some (.v (dI p.2)), some (.v (.d (dRows (more [] p)))), u, none] = .ret (.nx en') ∧ ∃ u5 : Option Slot, en' = [w, w1, some (.v (dI p.1)), some (.v (dI p.2)), some (.v (.d (dRows (more rows p)))), u5, none] := by
  refine es_forP (R := fun pre en => ∃ u5, en = [w, w1, some (.v (dI p.1)), some (.v (dI p.2)), some (.v (.d (dRows (more pre p)))), u5, none]) ⟨u, rfl⟩ ?_
  rintro pre x post en hx ⟨u5, rfl⟩
  refine ⟨_, rfl, _, ?_, ⟨some (.v (.d (dNs x))), rfl⟩⟩
  have hlx : (more (pre ++ [x]) p).length ≤ lim := by
    have h := more_mono (pre ++ [x]) post p
    rw [List.append_assoc, List.singleton_append, ← hx] at h
    exact Nat.le_trans h hl
  have hrx : x.length + 1 ≤ lim := by
    have h : x.length < 100 := hr x (by rw [hx]; simp)
    have : lim = 1000000 := rfl
    omega
  have hvl : (vals p).length ≤ lim := by
    rw [more_app, List.length_append, List.length_map] at hlx; omega
  refine Eq.trans (by
    apply es_set
    apply ev_bin
    · walk_at "E"
    · refine ev_compN (xs := vals p) (emb := PyData.int) (f := fun v => dNs (x ++ [v])) (b := true) ?_ hvl fun v hv => ?_
      · rw [← range2_eq]
        apply ei_range2
        · walk_at "A"
        · omega
      · apply ev_bin
        · walk_at "E"
        · walk_at "E"
        · exact op_add_app (ys := []) (r := .none) hrx v
    · apply op_add_l
      rw [more_app, List.length_append] at hlx
      simpa using hlx) ?_
  rw [more_app]
  simp [dRows, hide, hideS, setE]
theorem chs_app (pre : List (Int × Int)) (p : Int × Int) : chs (pre ++ [p]) = more (chs pre) p := by unfold chs; rw [List.foldl_append]; rfl
theorem fold_len {w : Nat} : ∀ {bs : List (Int × Int)} {rows : List (List Int)}, (∀ p ∈ bs, p.2 + 1 - p.1 ≤ w) → (bs.foldl more rows).length ≤ rows.length * w ^ bs.length
  | [], rows, _ => by simp
  | p :: bs, rows, h => by
    have h1 := fold_len (bs := bs) (rows := more rows p) fun q hq => h q (List.mem_cons_of_mem _ hq)
    have h2 := h p List.mem_cons_self
    rw [more_len] at h1
    rw [List.foldl_cons, List.length_cons, Nat.pow_succ, Nat.mul_comm (w ^ bs.length), ← Nat.mul_assoc]
    exact Nat.le_trans h1 (Nat.mul_le_mul_right _ (Nat.mul_le_mul_left _ (by omega)))
theorem chs_len {w : Nat} {bs : List (Int × Int)} (h : ∀ p ∈ bs, p.2 + 1 - p.1 ≤ w) : (chs bs).length ≤ w ^ bs.length := by
  have := fold_len (rows := [[]]) h
  simpa [chs] using this
theorem choices_eq {bs : List (Int × Int)} (h : okB bs = true) (hw : ∀ p ∈ bs, p.2 + 1 - p.1 ≤ 7) : F__law_choices [.d (dBs bs)] = .ret (.d (dRows (chs bs)), false) := by
  have hk := okB_iff.mp h
  have hlen : ∀ pre post, bs = pre ++ post → (chs pre).length ≤ lim := by
    intro pre post e
    have h1 := chs_len (w := 7) (bs := pre) fun p hp => hw p (by rw [e]; simp [hp])
    have h2 : pre.length ≤ 7 := by have := hk.1.2; rw [e, List.length_append] at this; omega
    exact Nat.le_trans h1 (Nat.le_trans (Nat.pow_le_pow_right (by decide) h2) (by decide))
  unfold F__law_choices b__law_choices
  apply run_rt rfl
  apply es_seq
  · walk_at "S"
  have key := es_forP (emb := dP) (sl := [2, 3]) (bd := bdT 2) (xs := bs) (s1 := sSeq (sSet 4 (dLst aNil))
    (sSeq (sFor [5] bdN (iSeqD (dVar 1))
    (sSet 4 (dBin oAdd (dVar 4) (dComp [6] [6] bdN (iRangeD2 (aCons (dVar 2) (aCons (dBin oAdd (dVar 3) (dC (.int 1))) aNil))) yes (dBin oAdd (dVar 5) (dLst (aCons (dVar 6) aNil)))))))
    (sSet 1 (dVar 4))))
    (R := fun pre en => ∃ u2 u3 u4 u5, en = [some (.v (.d (dBs bs))), some (.v (.d (dRows (chs pre)))), u2, u3, u4, u5, none])
    (en := [some (.v (.d (dBs bs))), some (.v (.d (dRows (chs [])))), none, none, none, none, none])
    ⟨_, _, _, _, rfl⟩ (by
      rintro pre p post en hx ⟨u2, u3, u4, u5, rfl⟩
      have hp := hk.2 p (by rw [hx]; simp)
      obtain ⟨en', h1, u, h2⟩ := choices_in (p := p) (w := some (.v (.d (dBs bs)))) (w1 := some (.v (.d (dRows (chs pre))))) (by omega) (u := u5) (rows := chs pre) (by rw [← chs_app]; exact hlen _ post (by rw [hx]; simp)) (fun r hr => by
        rw [(mem_chs.mp hr).len]
        have := hk.1.2
        rw [hx] at this
        simp at this
        omega)
      refine ⟨_, rfl, _, by
        apply es_seq
        · walk_at "S"
        · apply es_seq
          · apply es_for
            · walk_at "I"
            · exact h1
          · rw [h2]
            walk_at "S", ?_⟩
      rw [chs_app]
      exact ⟨_, _, _, _, rfl⟩)
  obtain ⟨en', h1, u2, u3, u4, u5, rfl⟩ := key
  apply es_seq
  · apply es_for
    · walk_at "I"
    · exact h1
  · walk_at "S"
/-- bounds that _law_small draws -/
def Small (n : Nat) (bs : List (Int × Int)) : Prop := (1 ≤ bs.length ∧ bs.length ≤ n) ∧ ∀ p ∈ bs, (-4 ≤ p.1 ∧ p.1 < 4) ∧ p.1 ≤ p.2 ∧ p.2 < p.1 + 4
theorem Small.ok {n : Nat} {bs : List (Int × Int)} (h : Small n bs) (hn : n ≤ 7) : okB bs = true := okB_iff.mpr ⟨by have := h.1; omega, fun p hp => by have := h.2 p hp; omega⟩
theorem Small.wide {n : Nat} {bs : List (Int × Int)} (h : Small n bs) : ∀ p ∈ bs, p.2 + 1 - p.1 ≤ 7 := fun p hp => by have := h.2 p hp; omega
theorem small_dw {n : Nat} (h1 : 1 ≤ n) (h7 : n ≤ 7) : DW (F__law_small [.ob 0, dI n]) fun r => ∃ bs, Small n bs ∧ r = (.d (dBs bs), true) := by
  unfold F__law_small b__law_small
  apply dw_run rfl
  apply dws_seq
  refine DW.of (by walk_at "S") ⟨_, rfl, ?_⟩
  apply dws_seq
  apply dws_for
  apply dwi_range1
  apply dwa_cons
  apply dwe_bin
  refine DW.of (by walk_at "E") ?_
  apply dwe_call
  refine DW.of (by walk_at "A") ?_
  refine DW.draw (by omega) (by omega) fun r hr0 hr1 => ?_
  refine DW.of (op_add_i _ _) (DW.of ea_nil ⟨_, rfl, by omega, DW.ret ?_⟩)
  have e : rangeP 0 (1 + r).toNat = (List.range (1 + r).toNat).map fun i : Nat => PyData.int (0 + i) := rfl
  rw [e]
  refine dw_forL (k := 0) (I := fun k en => ∃ bs u3 u4, bs.length = k ∧ (∀ p ∈ bs, (-4 ≤ p.1 ∧ p.1 < 4) ∧ p.1 ≤ p.2 ∧ p.2 < p.1 + 4) ∧ en = [some (.v (.ob 0)), some (.v (dI n)), some (.own (bs.map dP)), u3, u4]) ⟨[], none, none, rfl, by simp, rfl⟩ ?_ ?_
  · rintro k x en _ hk ⟨bs, u3, u4, hb, hp, rfl⟩
    refine ⟨_, rfl, ?_⟩
    apply dws_seq
    apply dws_set
    apply dwe_bin
    apply dwe_call
    refine DW.of (by walk_at "A") ?_
    refine DW.draw (by decide) (by decide) fun a ha0 ha1 => ?_
    refine DW.of (by walk_at "E") (DW.of (op_sub_i _ _) ⟨_, rfl, ?_⟩)
    refine dws_app rfl (by
      rw [List.length_map, hb]
      rw [List.length_range] at hk
      have : lim = 1000000 := rfl
      omega) ?_
    apply dwe_tup
    apply dwa_cons
    refine DW.of (by walk_at "E") ?_
    apply dwa_cons
    apply dwe_bin
    refine DW.of (by walk_at "E") ?_
    apply dwe_call
    refine DW.of (by walk_at "A") ?_
    refine DW.draw (by decide) (by decide) fun c hc0 hc1 => ?_
    refine DW.of (op_add_i _ _) (DW.of ea_nil ⟨_, rfl, _, rfl, _, rfl, bs ++ [(a - 4, a - 4 + c)], some (.v (dI (0 + x))), some (.v (dI (a - 4))), by simp [hb], ?_, ?_⟩)
    · intro p hp'
      rcases List.mem_append.mp hp' with h | h
      · exact hp p h
      · rw [List.mem_singleton] at h
        subst h
        dsimp only
        omega
    · rw [List.map_append]; rfl
  · rintro en' ⟨bs, u3, u4, hb, hp, rfl⟩
    refine ⟨_, rfl, DW.of (by walk_at "S") ⟨_, rfl, bs, ⟨?_, hp⟩, rfl⟩⟩
    rw [List.length_range] at hb
    omega
theorem law_below_eq {p q : Int × Int} (h : (p.1.natAbs < big ∧ q.2.natAbs < big) ∧ (q.1.natAbs < big ∧ p.2.natAbs < big)) : F__law_below [.d (dP p), .d (dP q)] = rB (decide (p.1 * q.2 < q.1 * p.2)) := by
  have h1 := h.1
  have h2 := h.2
  unfold F__law_below b__law_below
  refine Eq.trans (by apply run_rt rfl; walk_at "S") ?_
  rfl
end Pg

/-! Data of ints, tuples and lists: == is equality. -/
namespace Pg
open PySem L2 Dt
inductive Nc : Nat → PyData → Prop
  | int {n : Nat} (i : Int) : Nc n (.int i)
  | tup {n : Nat} {xs : List PyData} : (∀ d ∈ xs, Nc n d) → Nc (n + 1) (.tuple xs)
  | lst {n : Nat} {xs : List PyData} : (∀ d ∈ xs, Nc n d) → Nc (n + 1) (.list xs)
theorem canAll {xs : List PyData} (h : ∀ d ∈ xs, d.canLay0 = true) : PyData.canLayAll0 xs = true := by
  induction xs with
  | nil => rfl
  | cons x xs ih => rw [PyData.canLayAll0, h x List.mem_cons_self, ih fun d hd => h d (List.mem_cons_of_mem _ hd)]; rfl
theorem depAll {n : Nat} {xs : List PyData} (h : ∀ d ∈ xs, d.depth ≤ n) : PyData.depthAll xs ≤ n := by
  induction xs with
  | nil => rw [PyData.depthAll]; omega
  | cons x xs ih =>
    rw [PyData.depthAll]
    have h1 := h x List.mem_cons_self
    have h2 := ih fun d hd => h d (List.mem_cons_of_mem _ hd)
    omega
theorem Nc.can {n : Nat} {d : PyData} (h : Nc n d) : d.canLay0 = true ∧ d.depth ≤ n := by
  induction h with
  | int i => exact ⟨rfl, by rw [PyData.depth]; omega⟩
  | tup _ ih =>
    constructor
    · rw [PyData.canLay0]; exact canAll fun d hd => (ih d hd).1
    · rw [PyData.depth]; have := depAll fun d hd => (ih d hd).2; omega
  | lst _ ih =>
    constructor
    · rw [PyData.canLay0]; exact canAll fun d hd => (ih d hd).1
    · rw [PyData.depth]; have := depAll fun d hd => (ih d hd).2; omega
theorem Nc.shaped {n : Nat} {d : PyData} (h : Nc n d) (hn : n ≤ 64) : SeqAt.shaped d = true := by
  unfold SeqAt.shaped
  rw [h.can.1]
  have := h.can.2
  simp; omega
theorem eqvAll_iff {P : PyData → Prop} : ∀ {xs ys : List PyData}, (∀ d ∈ xs, ∀ e, P e → (PyData.eqv d e = true ↔ d = e)) → (∀ e ∈ ys, P e) → (PyData.eqvAll xs ys = true ↔ xs = ys)
  | [], [], _, _ => by simp [PyData.eqvAll]
  | [], y :: ys, _, _ => by simp [PyData.eqvAll]
  | x :: xs, [], _, _ => by simp [PyData.eqvAll]
  | x :: xs, y :: ys, h1, h2 => by
    rw [PyData.eqvAll, Bool.and_eq_true, h1 x List.mem_cons_self y (h2 y List.mem_cons_self), eqvAll_iff (fun d hd => h1 d (List.mem_cons_of_mem _ hd)) fun e he => h2 e (List.mem_cons_of_mem _ he)]
    simp
theorem Nc.eqv {n : Nat} {d : PyData} (h : Nc n d) : ∀ {m : Nat} {e : PyData}, Nc m e → (PyData.eqv d e = true ↔ d = e) := by
  induction h with
  | int i =>
    intro m e he
    cases he with
    | int j => simp [PyData.eqv]
    | tup _ => simp [PyData.eqv]
    | lst _ => simp [PyData.eqv]
  | tup _ ih =>
    intro m e he
    cases he with
    | int j => simp [PyData.eqv]
    | tup h2 =>
      rw [PyData.eqv, eqvAll_iff (P := fun e => ∃ m, Nc m e) (fun d hd e ⟨m, he⟩ => ih d hd he) fun e he => ⟨_, h2 e he⟩]
      simp
    | lst _ => simp [PyData.eqv]
  | lst _ ih =>
    intro m e he
    cases he with
    | int j => simp [PyData.eqv]
    | tup _ => simp [PyData.eqv]
    | lst h2 =>
      rw [PyData.eqv, eqvAll_iff (P := fun e => ∃ m, Nc m e) (fun d hd e ⟨m, he⟩ => ih d hd he) fun e he => ⟨_, h2 e he⟩]
      simp
theorem Nc.dP (p : Int × Int) : Nc 1 (Pg.dP p) := .tup fun d hd => by simp at hd; rcases hd with rfl | rfl <;> exact .int _
theorem Nc.pair {n : Nat} {d e : PyData} (h1 : Nc n d) (h2 : Nc n e) : Nc (n + 1) (.tuple [d, e]) := .tup fun x hx => by simp at hx; rcases hx with rfl | rfl <;> assumption
theorem Nc.map {α : Type} {n : Nat} {f : α → PyData} {xs : List α} (h : ∀ x ∈ xs, Nc n (f x)) : Nc (n + 1) (.list (xs.map f)) := .lst fun d hd => by obtain ⟨x, hx, rfl⟩ := List.mem_map.mp hd; exact h x hx
theorem Nc.ns (xs : List Int) : Nc 1 (dNs xs) := Nc.map fun _ _ => .int _
theorem Nc.bs (bs : List (Int × Int)) : Nc 2 (dBs bs) := Nc.map fun _ _ => Nc.dP _
theorem ne_same {n : Nat} {p q : PyData} (h : Nc n p) (e : p = q) (hn : n ≤ 64) : oNe (.d p) (.d q) = rB false := by
  subst e
  rw [op_ne_d (h.shaped hn) (h.shaped hn), (h.eqv h).mpr rfl]
  first | done | rfl
theorem eq_same {n : Nat} {p q : PyData} (h : Nc n p) (e : p = q) (hn : n ≤ 64) : oEq (.d p) (.d q) = rB true := by
  subst e
  rw [op_eq_d (h.shaped hn) (h.shaped hn), (h.eqv h).mpr rfl]
  first | done | rfl
theorem eq_nc {n m : Nat} {p q : PyData} {b : Bool} (h : Nc n p) (h' : Nc m q) (hn : n ≤ 64) (hm : m ≤ 64) (e : p = q ↔ b = true) : oEq (.d p) (.d q) = rB b := by
  rw [op_eq_d (h.shaped hn) (h'.shaped hm)]
  have := h.eqv h'
  rw [e] at this
  rw [Bool.eq_iff_iff.mpr this]
  first | done | rfl
theorem ne_nc {n m : Nat} {p q : PyData} {b : Bool} (h : Nc n p) (h' : Nc m q) (hn : n ≤ 64) (hm : m ≤ 64) (e : p = q ↔ b = true) : oNe (.d p) (.d q) = rB (!b) := by
  rw [op_ne_d (h.shaped hn) (h'.shaped hm)]
  have := h.eqv h'
  rw [e] at this
  rw [Bool.eq_iff_iff.mpr this]
  first | done | rfl
theorem dP_inj {p q : Int × Int} : dP p = dP q ↔ p = q := by
  unfold dP; simp [Prod.ext_iff]
theorem map_inj {α : Type} {f : α → PyData} (hf : ∀ a b, f a = f b → a = b) : ∀ {xs ys : List α}, xs.map f = ys.map f ↔ xs = ys
  | [], [] => by simp
  | [], _ :: _ => by simp
  | _ :: _, [] => by simp
  | x :: xs, y :: ys => by simp only [List.map_cons, List.cons.injEq, map_inj hf (xs := xs)]; exact ⟨fun h => ⟨hf _ _ h.1, h.2⟩, fun h => ⟨by rw [h.1], h.2⟩⟩
theorem ns_inj {xs ys : List Int} : dNs xs = dNs ys ↔ xs = ys := by simp only [PyData.list.injEq]; exact map_inj fun a b h => by injection h
theorem bs_inj {xs ys : List (Int × Int)} : dBs xs = dBs ys ↔ xs = ys := by simp only [PyData.list.injEq]; exact map_inj fun a b h => dP_inj.mp h
end Pg

/-! Figures told by name; fractions as figures of 5040. -/
namespace Pg
open PySem L2 Dt
local macro_rules | `(tactic| walk_at "op") => `(tactic| first | (with_reducible exact op_add_i _ _) | (with_reducible exact op_sub_i _ _) | (with_reducible exact op_lt_i _ _) | (with_reducible exact op_le_i _ _) | (with_reducible exact op_gt_i _ _) | (with_reducible exact op_ge_i _ _) | (with_reducible exact op_eq_i _ _) | (with_reducible exact op_ne_i _ _) | (with_reducible exact op_ix_p0 _) | (with_reducible exact op_ix_p1 _) | (with_reducible exact op_ix_0 _ _) | (with_reducible exact op_ix_1 _ _ _) | (with_reducible exact op_isN_d) | (with_reducible exact op_notN_d) | (with_reducible exact op_isB_d _ _) | (with_reducible exact op_notB_d _ _) | (with_reducible exact b_len_p _) | (with_reducible exact b_len_l _) | (with_reducible exact b_len_t _) | (with_reducible exact b_sum _) | (with_reducible exact b_sorted _) | (with_reducible exact b_abs _) | (with_reducible exact b_max2 _ _) | (with_reducible exact b_min2 _ _) | ((with_reducible apply op_mod_i); with_reducible assumption) | ((with_reducible apply op_div_i); with_reducible assumption) | ((with_reducible apply op_mul_i); with_reducible assumption))
local macro_rules | `(tactic| walk_at "F") => `(tactic| walk_at "op")
local macro_rules | `(tactic| walk_at "A") => `(tactic| first | (with_reducible exact ea_nil) | ((with_reducible apply ea_cons); walk_at "E"; walk_at "A"))
local macro_rules | `(tactic| walk_at "T") => `(tactic| first | ((with_reducible apply et_val); walk_at "E") | ((with_reducible apply et_not); walk_at "T") | ((with_reducible apply et_or); walk_at "T"; (intro _; walk_at "T")) | ((with_reducible apply et_and); walk_at "T"; (intro _; walk_at "T")))
local macro_rules | `(tactic| walk_at "O") => `(tactic| first | (with_reducible exact eo_none) | ((with_reducible apply eo_some); walk_at "E"))
local macro_rules | `(tactic| walk_at "E") => `(tactic| first
  | (with_reducible exact ev_c)
  | ((with_reducible apply ev_var); rfl)
  | ((with_reducible apply ev_bin); walk_at "E"; walk_at "E"; walk_at "op")
  | ((with_reducible apply ev_call); walk_at "A"; walk_at "F")
  | ((with_reducible apply ev_tup); walk_at "A"; rfl)
  | ((with_reducible apply ev_lst); walk_at "A"; rfl)
  | ((with_reducible apply ev_neg); walk_at "E")
  | ((with_reducible apply ev_isi); walk_at "E")
  | ((with_reducible apply ev_not); walk_at "E")
  | ((with_reducible apply ev_and'); walk_at "E"; (intro _; walk_at "E"))
  | ((with_reducible apply ev_or'); walk_at "E"; (intro _; walk_at "E"))
  | ((with_reducible apply ev_chain); walk_at "E"; walk_at "E"; walk_at "E"; walk_at "op"; walk_at "op")
  | ((with_reducible apply ev_sl); walk_at "E"; walk_at "O"; walk_at "O")
  | ((with_reducible apply ev_rev); walk_at "E")
  | ((with_reducible apply ev_ifT); ((with_reducible apply ev_is); walk_at "T"; rfl); walk_at "E")
  | ((with_reducible apply ev_ifF); ((with_reducible apply ev_is); walk_at "T"; rfl); walk_at "E"))
local macro_rules | `(tactic| walk_at "I") => `(tactic| first | ((with_reducible apply ei_list); walk_at "E"; done) | ((with_reducible apply ei_tup); walk_at "E") | ((with_reducible apply ei_enum); walk_at "A") | ((with_reducible apply ei_zip); walk_at "A"))
local macro_rules | `(tactic| walk_at "S") => `(tactic| first
  | (with_reducible exact es_nil)
  | ((with_reducible apply es_retV); rfl)
  | ((with_reducible apply es_retO); rfl)
  | ((with_reducible apply es_ret); walk_at "E")
  | ((with_reducible apply es_seq); walk_at "S"; walk_at "S")
  | ((with_reducible apply es_expr); walk_at "E")
  | ((with_reducible apply es_set); walk_at "E")
  | ((with_reducible apply es_setO); walk_at "E")
  | ((with_reducible apply es_par); walk_at "A")
  | ((with_reducible apply es_asgT); walk_at "E"; rfl)
  | ((with_reducible apply es_ifF); ((with_reducible apply ev_is); walk_at "T"; (first | rfl | with_reducible assumption)); walk_at "S")
  | ((with_reducible apply es_ifT); ((with_reducible apply ev_is); walk_at "T"; (first | rfl | with_reducible assumption)); walk_at "S"))
local macro_rules | `(tactic| walk_at "F") => `(tactic| with_reducible exact is_int_eq _ _ _)
local macro_rules | `(tactic| walk_at "F") => `(tactic| with_reducible exact is_bound_eq _)
local macro_rules | `(tactic| walk_at "F") => `(tactic| ((with_reducible apply is_bounds_eq); exact okB_len (by with_reducible assumption)))
local macro_rules | `(tactic| walk_at "F") => `(tactic| ((with_reducible apply check_ok); with_reducible assumption))
local macro_rules | `(tactic| walk_at "F") => `(tactic| ((with_reducible apply lows_eq); exact okB_len (by with_reducible assumption)))
local macro_rules | `(tactic| walk_at "F") => `(tactic| ((with_reducible apply highs_eq); exact okB_len (by with_reducible assumption)))
local macro_rules | `(tactic| walk_at "F") => `(tactic| ((with_reducible apply sum_range_eq); with_reducible assumption))
local macro_rules | `(tactic| walk_at "F") => `(tactic| ((with_reducible apply mean_range_eq); with_reducible assumption))
local macro_rules | `(tactic| walk_at "F") => `(tactic| ((with_reducible apply median_range_eq); with_reducible assumption))
local macro_rules | `(tactic| walk_at "F") => `(tactic| ((with_reducible apply least_range_eq); with_reducible assumption))
local macro_rules | `(tactic| walk_at "F") => `(tactic| ((with_reducible apply greatest_range_eq); with_reducible assumption))
local macro_rules | `(tactic| walk_at "F") => `(tactic| ((with_reducible apply choices_eq) <;> with_reducible assumption))
local macro_rules | `(tactic| walk_at "F") => `(tactic| ((with_reducible apply b_min); with_reducible assumption))
local macro_rules | `(tactic| walk_at "F") => `(tactic| ((with_reducible apply b_max); with_reducible assumption))
theorem natAbs_big {k : Int} (h : k.natAbs < 1000000) : k.natAbs < big := Nat.lt_trans h (by unfold big; decide +kernel)
inductive Fg
  | sum | mean | median | least | greatest
def Fg.s : Fg → Str
  | .sum => "sum" | .mean => "mean" | .median => "median" | .least => "least" | .greatest => "greatest"
def figP : Fg → List Int → Int × Int
  | .sum, r => (r.sum, 1)
  | .mean, r => lowP r.sum r.length
  | .median, r => medP r
  | .least, r => (minL r, 1)
  | .greatest, r => (maxL r, 1)
theorem frac_int (a b : Int) : F_as_fractions [.d (dP (a, b))] = .ret (.d (.list [dP (a, 1), dP (b, 1)]), true) := by
  unfold F_as_fractions b_as_fractions
  rfl
theorem frac_pair (p q : Int × Int) : F_as_fractions [.d (.tuple [dP p, dP q])] = .ret (.d (.list [dP p, dP q]), true) := by
  unfold F_as_fractions b_as_fractions
  rfl
theorem op_eq_s {a b : Str} {r : Bool} (h1 : SeqAt.shaped (.str a) = true) (h2 : SeqAt.shaped (.str b) = true) (e : PyData.eqv (.str a) (.str b) = r) : oEq (.d (.str a)) (.d (.str b)) = .ret (.d (.bool r), false) := by
  rw [op_eq_d h1 h2, e]
def Fg.is_sum : Fg → Bool
  | .sum => true
  | _ => false
theorem fg_sum (f : Fg) : oEq (.d (.str f.s)) (.d (.str "sum")) = .ret (.d (.bool f.is_sum), false) := by
  cases f <;> exact op_eq_s (by decide +kernel) (by decide +kernel) (by decide +kernel)
local macro_rules | `(tactic| walk_at "op") => `(tactic| with_reducible exact fg_sum _)
def Fg.is_mean : Fg → Bool
  | .mean => true
  | _ => false
theorem fg_mean (f : Fg) : oEq (.d (.str f.s)) (.d (.str "mean")) = .ret (.d (.bool f.is_mean), false) := by
  cases f <;> exact op_eq_s (by decide +kernel) (by decide +kernel) (by decide +kernel)
local macro_rules | `(tactic| walk_at "op") => `(tactic| with_reducible exact fg_mean _)
def Fg.is_median : Fg → Bool
  | .median => true
  | _ => false
theorem fg_median (f : Fg) : oEq (.d (.str f.s)) (.d (.str "median")) = .ret (.d (.bool f.is_median), false) := by
  cases f <;> exact op_eq_s (by decide +kernel) (by decide +kernel) (by decide +kernel)
local macro_rules | `(tactic| walk_at "op") => `(tactic| with_reducible exact fg_median _)
def Fg.is_least : Fg → Bool
  | .least => true
  | _ => false
theorem fg_least (f : Fg) : oEq (.d (.str f.s)) (.d (.str "least")) = .ret (.d (.bool f.is_least), false) := by
  cases f <;> exact op_eq_s (by decide +kernel) (by decide +kernel) (by decide +kernel)
local macro_rules | `(tactic| walk_at "op") => `(tactic| with_reducible exact fg_least _)
def Fg.is_greatest : Fg → Bool
  | .greatest => true
  | _ => false
theorem fg_greatest (f : Fg) : oEq (.d (.str f.s)) (.d (.str "greatest")) = .ret (.d (.bool f.is_greatest), false) := by
  cases f <;> exact op_eq_s (by decide +kernel) (by decide +kernel) (by decide +kernel)
local macro_rules | `(tactic| walk_at "op") => `(tactic| with_reducible exact fg_greatest _)
local macro_rules | `(tactic| walk_at "F") => `(tactic| with_reducible exact frac_int _ _)
local macro_rules | `(tactic| walk_at "F") => `(tactic| with_reducible exact frac_pair _ _)
theorem figure_range_eq (f : Fg) {bs : List (Int × Int)} (h : okB bs = true) : F_figure_range [.d (dBs bs), .d (.str f.s)] = .ret (.d (.list [dP (figP f (los bs)), dP (figP f (his bs))]), true) := by
  unfold F_figure_range b_figure_range
  cases f
  · refine Eq.trans (by
      apply run_rt rfl
      with_reducible apply es_seqR
      walk_at "S") ?_
    rfl
  · refine Eq.trans (by
      apply run_rt rfl
      with_reducible apply es_seq
      · walk_at "S"
      · with_reducible apply es_seqR
        walk_at "S") ?_
    show _ = M.ret (AV.d (.list [dP (lowP (los bs).sum (los bs).length), dP (lowP (his bs).sum (his bs).length)]), true)
    rw [List.length_map, List.length_map]
  · refine Eq.trans (by
      apply run_rt rfl
      with_reducible apply es_seq
      · walk_at "S"
      · with_reducible apply es_seq
        · walk_at "S"
        · with_reducible apply es_seqR
          walk_at "S") ?_
    rfl
  · refine Eq.trans (by
      apply run_rt rfl
      walk_at "S") ?_
    rfl
  · refine Eq.trans (by
      apply run_rt rfl
      walk_at "S") ?_
    rfl
theorem law_figure_eq (f : Fg) {r : List Int} (h : 0 < r.length) (hl : r.length ≤ 100) : F__law_figure [.d (dNs r), .d (.str f.s)] = .ret (.d (dP (figP f r)), false) := by
  have hne : r ≠ [] := List.ne_nil_of_length_pos h
  have hm : ((r.map PyData.int).length : Int) = r.length := by rw [List.length_map]
  unfold F__law_figure b__law_figure
  cases f
  · refine Eq.trans (by apply run_rt rfl; walk_at "S") ?_
    rfl
  · apply run_rt rfl
    with_reducible apply es_seq
    · walk_at "S"
    · with_reducible apply es_seqR
      with_reducible apply es_ifT
      · with_reducible apply ev_is
        · walk_at "T"
        · rfl
      · with_reducible apply es_ret
        with_reducible apply ev_call
        · walk_at "A"
        · rw [hm]
          exact law_low_eq (by omega) (by rw [fuel_v]; omega)
  · apply run_rt rfl
    with_reducible apply es_seqR
    with_reducible apply es_ifT
    · with_reducible apply ev_is
      · walk_at "T"
      · rfl
    · with_reducible apply es_ret
      with_reducible apply ev_call
      · walk_at "A"
      · exact law_middle_eq h
  · refine Eq.trans (by apply run_rt rfl; walk_at "S") ?_
    rfl
  · refine Eq.trans (by apply run_rt rfl; walk_at "S") ?_
    rfl
theorem check_figure_eq (f : Fg) : F_check_figure [.d (.str f.s)] = .ret (.d .none, false) := by
  unfold F_check_figure b_check_figure
  cases f <;> rfl
end Pg

/-! Comparing figures. -/
namespace Pg
open PySem L2 Dt
local macro_rules | `(tactic| walk_at "op") => `(tactic| first | (with_reducible exact op_add_i _ _) | (with_reducible exact op_sub_i _ _) | (with_reducible exact op_lt_i _ _) | (with_reducible exact op_le_i _ _) | (with_reducible exact op_gt_i _ _) | (with_reducible exact op_ge_i _ _) | (with_reducible exact op_eq_i _ _) | (with_reducible exact op_ne_i _ _) | (with_reducible exact op_ix_p0 _) | (with_reducible exact op_ix_p1 _) | (with_reducible exact op_ix_0 _ _) | (with_reducible exact op_ix_1 _ _ _) | (with_reducible exact op_isN_d) | (with_reducible exact op_notN_d) | (with_reducible exact op_isB_d _ _) | (with_reducible exact op_notB_d _ _) | (with_reducible exact b_len_p _) | (with_reducible exact b_len_l _) | (with_reducible exact b_len_t _) | (with_reducible exact b_sum _) | (with_reducible exact b_sorted _) | (with_reducible exact b_abs _) | (with_reducible exact b_max2 _ _) | (with_reducible exact b_min2 _ _) | ((with_reducible apply op_mod_i); with_reducible assumption) | ((with_reducible apply op_div_i); with_reducible assumption) | ((with_reducible apply op_mul_i); with_reducible assumption))
local macro_rules | `(tactic| walk_at "F") => `(tactic| walk_at "op")
local macro_rules | `(tactic| walk_at "A") => `(tactic| first | (with_reducible exact ea_nil) | ((with_reducible apply ea_cons); walk_at "E"; walk_at "A"))
local macro_rules | `(tactic| walk_at "T") => `(tactic| first | ((with_reducible apply et_val); walk_at "E") | ((with_reducible apply et_not); walk_at "T") | ((with_reducible apply et_or); walk_at "T"; (intro _; walk_at "T")) | ((with_reducible apply et_and); walk_at "T"; (intro _; walk_at "T")))
local macro_rules | `(tactic| walk_at "O") => `(tactic| first | (with_reducible exact eo_none) | ((with_reducible apply eo_some); walk_at "E"))
local macro_rules | `(tactic| walk_at "E") => `(tactic| first
  | (with_reducible exact ev_c)
  | ((with_reducible apply ev_var); rfl)
  | ((with_reducible apply ev_bin); walk_at "E"; walk_at "E"; walk_at "op")
  | ((with_reducible apply ev_call); walk_at "A"; walk_at "F")
  | ((with_reducible apply ev_tup); walk_at "A"; rfl)
  | ((with_reducible apply ev_lst); walk_at "A"; rfl)
  | ((with_reducible apply ev_neg); walk_at "E")
  | ((with_reducible apply ev_isi); walk_at "E")
  | ((with_reducible apply ev_not); walk_at "E")
  | ((with_reducible apply ev_and'); walk_at "E"; (intro _; walk_at "E"))
  | ((with_reducible apply ev_or'); walk_at "E"; (intro _; walk_at "E"))
  | ((with_reducible apply ev_chain); walk_at "E"; walk_at "E"; walk_at "E"; walk_at "op"; walk_at "op")
  | ((with_reducible apply ev_sl); walk_at "E"; walk_at "O"; walk_at "O")
  | ((with_reducible apply ev_rev); walk_at "E")
  | ((with_reducible apply ev_ifT); ((with_reducible apply ev_is); walk_at "T"; rfl); walk_at "E")
  | ((with_reducible apply ev_ifF); ((with_reducible apply ev_is); walk_at "T"; rfl); walk_at "E"))
local macro_rules | `(tactic| walk_at "I") => `(tactic| first | ((with_reducible apply ei_list); walk_at "E"; done) | ((with_reducible apply ei_tup); walk_at "E") | ((with_reducible apply ei_enum); walk_at "A") | ((with_reducible apply ei_zip); walk_at "A"))
local macro_rules | `(tactic| walk_at "S") => `(tactic| first
  | (with_reducible exact es_nil)
  | ((with_reducible apply es_retV); rfl)
  | ((with_reducible apply es_retO); rfl)
  | ((with_reducible apply es_ret); walk_at "E")
  | ((with_reducible apply es_seq); walk_at "S"; walk_at "S")
  | ((with_reducible apply es_expr); walk_at "E")
  | ((with_reducible apply es_set); walk_at "E")
  | ((with_reducible apply es_setO); walk_at "E")
  | ((with_reducible apply es_par); walk_at "A")
  | ((with_reducible apply es_asgT); walk_at "E"; rfl)
  | ((with_reducible apply es_ifF); ((with_reducible apply ev_is); walk_at "T"; (first | rfl | with_reducible assumption)); walk_at "S")
  | ((with_reducible apply es_ifT); ((with_reducible apply ev_is); walk_at "T"; (first | rfl | with_reducible assumption)); walk_at "S"))
local macro_rules | `(tactic| walk_at "F") => `(tactic| with_reducible exact is_int_eq _ _ _)
local macro_rules | `(tactic| walk_at "F") => `(tactic| with_reducible exact is_bound_eq _)
local macro_rules | `(tactic| walk_at "F") => `(tactic| ((with_reducible apply is_bounds_eq); exact okB_len (by with_reducible assumption)))
local macro_rules | `(tactic| walk_at "F") => `(tactic| ((with_reducible apply check_ok); with_reducible assumption))
local macro_rules | `(tactic| walk_at "F") => `(tactic| ((with_reducible apply lows_eq); exact okB_len (by with_reducible assumption)))
local macro_rules | `(tactic| walk_at "F") => `(tactic| ((with_reducible apply highs_eq); exact okB_len (by with_reducible assumption)))
local macro_rules | `(tactic| walk_at "F") => `(tactic| ((with_reducible apply sum_range_eq); with_reducible assumption))
local macro_rules | `(tactic| walk_at "F") => `(tactic| ((with_reducible apply mean_range_eq); with_reducible assumption))
local macro_rules | `(tactic| walk_at "F") => `(tactic| ((with_reducible apply median_range_eq); with_reducible assumption))
local macro_rules | `(tactic| walk_at "F") => `(tactic| ((with_reducible apply least_range_eq); with_reducible assumption))
local macro_rules | `(tactic| walk_at "F") => `(tactic| ((with_reducible apply greatest_range_eq); with_reducible assumption))
local macro_rules | `(tactic| walk_at "F") => `(tactic| ((with_reducible apply choices_eq) <;> with_reducible assumption))
local macro_rules | `(tactic| walk_at "F") => `(tactic| ((with_reducible apply b_min); with_reducible assumption))
local macro_rules | `(tactic| walk_at "F") => `(tactic| ((with_reducible apply b_max); with_reducible assumption))
local macro_rules | `(tactic| walk_at "F") => `(tactic| with_reducible exact frac_int _ _)
local macro_rules | `(tactic| walk_at "F") => `(tactic| with_reducible exact frac_pair _ _)
local macro_rules | `(tactic| walk_at "op") => `(tactic| with_reducible exact fg_sum _)
local macro_rules | `(tactic| walk_at "op") => `(tactic| with_reducible exact fg_mean _)
local macro_rules | `(tactic| walk_at "op") => `(tactic| with_reducible exact fg_median _)
local macro_rules | `(tactic| walk_at "op") => `(tactic| with_reducible exact fg_least _)
local macro_rules | `(tactic| walk_at "F") => `(tactic| ((with_reducible apply figure_range_eq); with_reducible assumption))
local macro_rules | `(tactic| walk_at "F") => `(tactic| with_reducible exact check_figure_eq _)
/-- a small fraction: its denominator divides 5040 -/
def okF (p : Int × Int) : Prop := 0 < p.2 ∧ p.2 ∣ 5040 ∧ p.1.natAbs < 1000000
def val (p : Int × Int) : Int := p.1 * 5040 / p.2
theorem val_mul {p : Int × Int} (h : okF p) : val p * p.2 = p.1 * 5040 := by
  obtain ⟨k, hk⟩ := h.2.1
  unfold val
  rw [hk, Int.mul_comm p.2 k, ← Int.mul_assoc, Int.mul_ediv_cancel _ (by have := h.1; omega)]
theorem less_val {p q : Int × Int} (hp : okF p) (hq : okF q) : p.1 * q.2 < q.1 * p.2 ↔ val p < val q := by
  have e1 := val_mul hp
  have e2 := val_mul hq
  have h0 : 0 < p.2 * q.2 := Int.mul_pos hp.1 hq.1
  have k1 : (p.1 * q.2) * 5040 = val p * (p.2 * q.2) := by
    rw [← Int.mul_assoc, e1]; ac_rfl
  have k2 : (q.1 * p.2) * 5040 = val q * (p.2 * q.2) := by
    rw [Int.mul_comm p.2 q.2, ← Int.mul_assoc, e2]; ac_rfl
  constructor
  · intro h
    have : (p.1 * q.2) * 5040 < (q.1 * p.2) * 5040 := by omega
    rw [k1, k2] at this
    exact Int.lt_of_mul_lt_mul_right this (Int.le_of_lt h0)
  · intro h
    have := Int.mul_lt_mul_of_pos_right h h0
    rw [← k1, ← k2] at this
    omega
theorem okF.big {p : Int × Int} (h : okF p) : p.1.natAbs < big ∧ p.2.natAbs < big := by
  refine ⟨natAbs_big h.2.2, natAbs_big ?_⟩
  have h1 := h.1
  have := Int.le_of_dvd (by decide) h.2.1
  omega
theorem less_eq {p q : Int × Int} (hp : okF p) (hq : okF q) : F_less [.d (dP p), .d (dP q)] = rB (decide (val p < val q)) := by
  have h1 : p.1.natAbs < Dt.big ∧ q.2.natAbs < Dt.big := ⟨hp.big.1, hq.big.2⟩
  have h2 : q.1.natAbs < Dt.big ∧ p.2.natAbs < Dt.big := ⟨hq.big.1, hp.big.2⟩
  unfold F_less b_less
  refine Eq.trans (by apply run_rt rfl; walk_at "S") ?_
  rw [show decide (p.1 * q.2 < q.1 * p.2) = decide (val p < val q) from by rw [decide_eq_decide]; exact less_val hp hq]
theorem dvd5040 {b : Int} (h : 0 < b) (h7 : b ≤ 7) : b ∣ 5040 := by
  have : b = 1 ∨ b = 2 ∨ b = 3 ∨ b = 4 ∨ b = 5 ∨ b = 6 ∨ b = 7 := by omega
  rcases this with rfl | rfl | rfl | rfl | rfl | rfl | rfl <;> decide
theorem okF_low {t b : Int} (h : 0 < b) (h7 : b ≤ 7) (ht : t.natAbs < 1000000) : okF (lowP t b) := by
  have g := gcd_pos_le (t := t) h
  have hl := low_pos (t := t) h
  exact ⟨hl.1, dvd5040 hl.1 (by omega), Nat.lt_of_le_of_lt (Int.natAbs_ediv_le_natAbs _ _) ht⟩
theorem val_low {t b : Int} (h : 0 < b) (h7 : b ≤ 7) (ht : t.natAbs < 1000000) : val (lowP t b) * b = t * 5040 := by
  have ok := okF_low h h7 ht
  have e := val_mul ok
  have g := gcd_pos_le (t := t) h
  obtain ⟨u, hu⟩ := Int.gcd_dvd_left t b
  obtain ⟨v, hv⟩ := Int.gcd_dvd_right t b
  have e1 : (lowP t b).1 = u := Int.ediv_eq_of_eq_mul_right (by omega) hu
  have e2 : (lowP t b).2 = v := Int.ediv_eq_of_eq_mul_right (by omega) hv
  rw [e1, e2] at e
  clear ok e1 e2
  generalize val (lowP t b) = V at *
  generalize (Int.gcd t b : Int) = G at *
  rw [hv, hu, Int.mul_comm G v, ← Int.mul_assoc, e]
  ac_rfl
theorem sum_abs {c : Nat} : ∀ {xs : List Int}, (∀ x ∈ xs, x.natAbs ≤ c) → xs.sum.natAbs ≤ xs.length * c
  | [], _ => by simp
  | x :: xs, h => by
    have h1 := h x List.mem_cons_self
    have h2 := sum_abs (xs := xs) fun y hy => h y (List.mem_cons_of_mem _ hy)
    rw [List.sum_cons, List.length_cons, Nat.add_mul]
    omega
theorem kth_abs {xs : List Int} {k : Nat} {c : Nat} (h : ∀ x ∈ xs, x.natAbs ≤ c) : (kth xs k).natAbs ≤ c := by
  unfold kth
  rw [List.getD_eq_getElem?_getD]
  cases e : (isort xs)[k]? with
  | none => simp
  | some y => exact h y ((isort_perm xs).mem_iff.mp (List.mem_of_getElem? e))
/-- a row of values -/
def okR (r : List Int) : Prop := (0 < r.length ∧ r.length ≤ 7) ∧ ∀ x ∈ r, x.natAbs ≤ 50
theorem okF_fig (f : Fg) {r : List Int} (h : okR r) : okF (figP f r) := by
  have h1 := h.1
  cases f with
  | sum => exact ⟨(by decide : (0 : Int) < 1), (by decide : (1 : Int) ∣ 5040), by have := sum_abs h.2; show r.sum.natAbs < 1000000; have : r.length * 50 ≤ 7 * 50 := Nat.mul_le_mul_right _ h1.2; omega⟩
  | mean => exact okF_low (by omega) (by omega) (by have := sum_abs h.2; have : r.length * 50 ≤ 7 * 50 := Nat.mul_le_mul_right _ h1.2; omega)
  | median => exact okF_low (by decide) (by decide) (by unfold mid2; have h2 := kth_abs (k := (r.length - 1) / 2) h.2; have h3 := kth_abs (k := r.length / 2) h.2; omega)
  | least => exact ⟨(by decide : (0 : Int) < 1), (by decide : (1 : Int) ∣ 5040), by have := h.2 _ (minL_mem (List.ne_nil_of_length_pos h1.1)); show (minL r).natAbs < 1000000; omega⟩
  | greatest => exact ⟨(by decide : (0 : Int) < 1), (by decide : (1 : Int) ∣ 5040), by have := h.2 _ (maxL_mem (List.ne_nil_of_length_pos h1.1)); show (maxL r).natAbs < 1000000; omega⟩
/-- the figure, as a number of 5040 -/
def fv (f : Fg) (r : List Int) : Int := val (figP f r)
theorem val_one (t : Int) : val (t, 1) = t * 5040 := by unfold val; simp
theorem fv_mono (f : Fg) {r s : List Int} (h : Pw r s) (hr : okR r) (hs : okR s) : fv f r ≤ fv f s := by
  have hl := h.len
  have key : ¬ (val (figP f s) < val (figP f r)) → fv f r ≤ fv f s := fun z => by unfold fv; omega
  cases f with
  | sum => unfold fv figP; rw [val_one, val_one]; have := h.sum; omega
  | mean =>
    refine key ?_
    rw [← less_val (okF_fig .mean hs) (okF_fig .mean hr)]
    unfold figP
    rw [low_cross (by have := hs.1; omega) (by have := hr.1; omega), hl]
    have := Int.mul_le_mul_of_nonneg_right h.sum (show (0 : Int) ≤ s.length by omega)
    omega
  | median =>
    refine key ?_
    rw [← less_val (okF_fig .median hs) (okF_fig .median hr)]
    unfold figP
    rw [low_cross (by decide) (by decide)]
    have := h.mid2
    omega
  | least => unfold fv figP; rw [val_one, val_one, sorted_min hr.1.1, sorted_min hs.1.1]; have := h.kth 0; omega
  | greatest => unfold fv figP; rw [val_one, val_one, sorted_max hr.1.1, sorted_max hs.1.1, hl]; have := h.kth (s.length - 1); omega
theorem Ch.abs' {bs : List (Int × Int)} {c : List Int} (h : Ch bs c) : ∀ x ∈ c, ∃ p ∈ bs, p.1 ≤ x ∧ x ≤ p.2 := by
  induction h with
  | nil => simp
  | cons a b _ ih =>
    intro x hx
    rcases List.mem_cons.mp hx with rfl | hx
    · exact ⟨_, List.mem_cons_self, a, b⟩
    · obtain ⟨p, hp, h⟩ := ih x hx
      exact ⟨p, List.mem_cons_of_mem _ hp, h⟩
theorem Ch.okR {bs : List (Int × Int)} (h : okB bs = true) {c : List Int} (hc : Ch bs c) : okR c := by
  have hb := okB_iff.mp h
  refine ⟨by rw [hc.len]; omega, fun x hx => ?_⟩
  obtain ⟨p, hp, h1, h2⟩ := hc.abs' x hx
  have := hb.2 p hp
  omega
theorem okR_los {bs : List (Int × Int)} (h : okB bs = true) : okR (los bs) := (Ch.low (okB_pos h).2).okR h
theorem okR_his {bs : List (Int × Int)} (h : okB bs = true) : okR (his bs) := (Ch.high (okB_pos h).2).okR h
theorem fv_min (f : Fg) {bs : List (Int × Int)} (h : okB bs = true) : minL ((chs bs).map (fv f)) = fv f (los bs) :=
  minL_uniq (List.mem_map.mpr ⟨_, mem_chs.mpr (Ch.low (okB_pos h).2), rfl⟩) fun y hy => by obtain ⟨c, hc, rfl⟩ := List.mem_map.mp hy; exact fv_mono f (mem_chs.mp hc).lo (okR_los h) ((mem_chs.mp hc).okR h)
theorem fv_max (f : Fg) {bs : List (Int × Int)} (h : okB bs = true) : maxL ((chs bs).map (fv f)) = fv f (his bs) :=
  maxL_uniq (List.mem_map.mpr ⟨_, mem_chs.mpr (Ch.high (okB_pos h).2), rfl⟩) fun y hy => by obtain ⟨c, hc, rfl⟩ := List.mem_map.mp hy; exact fv_mono f (mem_chs.mp hc).hi ((mem_chs.mp hc).okR h) (okR_his h)
theorem fv_lh (f : Fg) {bs : List (Int × Int)} (h : okB bs = true) : fv f (los bs) ≤ fv f (his bs) := fv_mono f (Ch.high (okB_pos h).2).lo (okR_los h) (okR_his h)
/-! ### the program's functions -/
def vd (low high low' high' : Int) : Str := if high' < low then "sure" else if low' < high then "possible" else "never"
theorem verdict_eq {a b c d : Int × Int} (ha : okF a) (hb : okF b) (hc : okF c) (hd : okF d) : F_verdict [.d (dP a), .d (dP b), .d (dP c), .d (dP d)] = .ret (.d (.str (vd (val a) (val b) (val c) (val d))), false) := by
  have l1 := less_eq hd ha
  have l2 := less_eq hc hb
  unfold F_verdict b_verdict vd
  by_cases h1 : val d < val a
  · rw [if_pos h1]
    apply run_rt rfl
    with_reducible apply es_seqR
    with_reducible apply es_ifT
    · with_reducible apply et_val
      with_reducible apply ev_call
      · walk_at "A"
      · rw [decide_eq_true h1] at l1; exact l1
    · walk_at "S"
  · rw [if_neg h1]
    apply run_rt rfl
    with_reducible apply es_seq
    · with_reducible apply es_ifF
      · with_reducible apply et_val
        with_reducible apply ev_call
        · walk_at "A"
        · rw [decide_eq_false h1] at l1; exact l1
      · walk_at "S"
    · with_reducible apply es_ret
      by_cases h2 : val c < val b
      · rw [if_pos h2]
        with_reducible apply ev_ifT
        · with_reducible apply et_val
          with_reducible apply ev_call
          · walk_at "A"
          · rw [decide_eq_true h2] at l2; exact l2
        · walk_at "E"
      · rw [if_neg h2]
        with_reducible apply ev_ifF
        · with_reducible apply et_val
          with_reducible apply ev_call
          · walk_at "A"
          · rw [decide_eq_false h2] at l2; exact l2
        · walk_at "E"
theorem op_ix_l0 (d : PyData) (xs : List PyData) : oIx (.d (.list (d :: xs))) (.d (.int 0)) = .ret (.d d, false) := op_ix_l (atI_nat (j := 0) rfl)
theorem op_ix_l1 (d e : PyData) (xs : List PyData) : oIx (.d (.list (d :: e :: xs))) (.d (.int 1)) = .ret (.d e, false) := op_ix_l (atI_nat (j := 1) rfl)
local macro_rules | `(tactic| walk_at "op") => `(tactic| with_reducible exact op_ix_l0 _ _)
local macro_rules | `(tactic| walk_at "op") => `(tactic| with_reducible exact op_ix_l1 _ _ _)
theorem is_more_eq (f : Fg) {bs cs : List (Int × Int)} (hb : okB bs = true) (hc : okB cs = true) : F_is_more [.d (dBs bs), .d (dBs cs), .d (.str f.s)] = .ret (.d (.str (vd (fv f (los bs)) (fv f (his bs)) (fv f (los cs)) (fv f (his cs)))), false) := by
  unfold F_is_more b_is_more
  apply run_rt rfl
  with_reducible apply es_seq
  · walk_at "S"
  with_reducible apply es_seq
  · walk_at "S"
  with_reducible apply es_seq
  · walk_at "S"
  with_reducible apply es_seq
  · walk_at "S"
  with_reducible apply es_ret
  with_reducible apply ev_call
  · walk_at "A"
  · exact verdict_eq (okF_fig f (okR_los hb)) (okF_fig f (okR_his hb)) (okF_fig f (okR_los hc)) (okF_fig f (okR_his hc))
end Pg

/-! Comparing figures, part 2. -/
namespace Pg
open PySem L2 Dt
local macro_rules | `(tactic| walk_at "op") => `(tactic| first | (with_reducible exact op_add_i _ _) | (with_reducible exact op_sub_i _ _) | (with_reducible exact op_lt_i _ _) | (with_reducible exact op_le_i _ _) | (with_reducible exact op_gt_i _ _) | (with_reducible exact op_ge_i _ _) | (with_reducible exact op_eq_i _ _) | (with_reducible exact op_ne_i _ _) | (with_reducible exact op_ix_p0 _) | (with_reducible exact op_ix_p1 _) | (with_reducible exact op_ix_0 _ _) | (with_reducible exact op_ix_1 _ _ _) | (with_reducible exact op_isN_d) | (with_reducible exact op_notN_d) | (with_reducible exact op_isB_d _ _) | (with_reducible exact op_notB_d _ _) | (with_reducible exact b_len_p _) | (with_reducible exact b_len_l _) | (with_reducible exact b_len_t _) | (with_reducible exact b_sum _) | (with_reducible exact b_sorted _) | (with_reducible exact b_abs _) | (with_reducible exact b_max2 _ _) | (with_reducible exact b_min2 _ _) | ((with_reducible apply op_mod_i); with_reducible assumption) | ((with_reducible apply op_div_i); with_reducible assumption) | ((with_reducible apply op_mul_i); with_reducible assumption))
local macro_rules | `(tactic| walk_at "F") => `(tactic| walk_at "op")
local macro_rules | `(tactic| walk_at "A") => `(tactic| first | (with_reducible exact ea_nil) | ((with_reducible apply ea_cons); walk_at "E"; walk_at "A"))
local macro_rules | `(tactic| walk_at "T") => `(tactic| first | ((with_reducible apply et_val); walk_at "E") | ((with_reducible apply et_not); walk_at "T") | ((with_reducible apply et_or); walk_at "T"; (intro _; walk_at "T")) | ((with_reducible apply et_and); walk_at "T"; (intro _; walk_at "T")))
local macro_rules | `(tactic| walk_at "O") => `(tactic| first | (with_reducible exact eo_none) | ((with_reducible apply eo_some); walk_at "E"))
local macro_rules | `(tactic| walk_at "E") => `(tactic| first
  | (with_reducible exact ev_c)
  | ((with_reducible apply ev_var); rfl)
  | ((with_reducible apply ev_bin); walk_at "E"; walk_at "E"; walk_at "op")
  | ((with_reducible apply ev_call); walk_at "A"; walk_at "F")
  | ((with_reducible apply ev_tup); walk_at "A"; rfl)
  | ((with_reducible apply ev_lst); walk_at "A"; rfl)
  | ((with_reducible apply ev_neg); walk_at "E")
  | ((with_reducible apply ev_isi); walk_at "E")
  | ((with_reducible apply ev_not); walk_at "E")
  | ((with_reducible apply ev_and'); walk_at "E"; (intro _; walk_at "E"))
  | ((with_reducible apply ev_or'); walk_at "E"; (intro _; walk_at "E"))
  | ((with_reducible apply ev_chain); walk_at "E"; walk_at "E"; walk_at "E"; walk_at "op"; walk_at "op")
  | ((with_reducible apply ev_sl); walk_at "E"; walk_at "O"; walk_at "O")
  | ((with_reducible apply ev_rev); walk_at "E")
  | ((with_reducible apply ev_ifT); ((with_reducible apply ev_is); walk_at "T"; rfl); walk_at "E")
  | ((with_reducible apply ev_ifF); ((with_reducible apply ev_is); walk_at "T"; rfl); walk_at "E"))
local macro_rules | `(tactic| walk_at "I") => `(tactic| first | ((with_reducible apply ei_list); walk_at "E"; done) | ((with_reducible apply ei_tup); walk_at "E") | ((with_reducible apply ei_enum); walk_at "A") | ((with_reducible apply ei_zip); walk_at "A"))
local macro_rules | `(tactic| walk_at "S") => `(tactic| first
  | (with_reducible exact es_nil)
  | ((with_reducible apply es_retV); rfl)
  | ((with_reducible apply es_retO); rfl)
  | ((with_reducible apply es_ret); walk_at "E")
  | ((with_reducible apply es_seq); walk_at "S"; walk_at "S")
  | ((with_reducible apply es_expr); walk_at "E")
  | ((with_reducible apply es_set); walk_at "E")
  | ((with_reducible apply es_setO); walk_at "E")
  | ((with_reducible apply es_par); walk_at "A")
  | ((with_reducible apply es_asgT); walk_at "E"; rfl)
  | ((with_reducible apply es_ifF); ((with_reducible apply ev_is); walk_at "T"; (first | rfl | with_reducible assumption)); walk_at "S")
  | ((with_reducible apply es_ifT); ((with_reducible apply ev_is); walk_at "T"; (first | rfl | with_reducible assumption)); walk_at "S"))
local macro_rules | `(tactic| walk_at "F") => `(tactic| with_reducible exact is_int_eq _ _ _)
local macro_rules | `(tactic| walk_at "F") => `(tactic| with_reducible exact is_bound_eq _)
local macro_rules | `(tactic| walk_at "F") => `(tactic| ((with_reducible apply is_bounds_eq); exact okB_len (by with_reducible assumption)))
local macro_rules | `(tactic| walk_at "F") => `(tactic| ((with_reducible apply check_ok); with_reducible assumption))
local macro_rules | `(tactic| walk_at "F") => `(tactic| ((with_reducible apply lows_eq); exact okB_len (by with_reducible assumption)))
local macro_rules | `(tactic| walk_at "F") => `(tactic| ((with_reducible apply highs_eq); exact okB_len (by with_reducible assumption)))
local macro_rules | `(tactic| walk_at "F") => `(tactic| ((with_reducible apply sum_range_eq); with_reducible assumption))
local macro_rules | `(tactic| walk_at "F") => `(tactic| ((with_reducible apply mean_range_eq); with_reducible assumption))
local macro_rules | `(tactic| walk_at "F") => `(tactic| ((with_reducible apply median_range_eq); with_reducible assumption))
local macro_rules | `(tactic| walk_at "F") => `(tactic| ((with_reducible apply least_range_eq); with_reducible assumption))
local macro_rules | `(tactic| walk_at "F") => `(tactic| ((with_reducible apply greatest_range_eq); with_reducible assumption))
local macro_rules | `(tactic| walk_at "F") => `(tactic| ((with_reducible apply choices_eq) <;> with_reducible assumption))
local macro_rules | `(tactic| walk_at "F") => `(tactic| ((with_reducible apply b_min); with_reducible assumption))
local macro_rules | `(tactic| walk_at "F") => `(tactic| ((with_reducible apply b_max); with_reducible assumption))
local macro_rules | `(tactic| walk_at "F") => `(tactic| with_reducible exact frac_int _ _)
local macro_rules | `(tactic| walk_at "F") => `(tactic| with_reducible exact frac_pair _ _)
local macro_rules | `(tactic| walk_at "op") => `(tactic| with_reducible exact fg_sum _)
local macro_rules | `(tactic| walk_at "op") => `(tactic| with_reducible exact fg_mean _)
local macro_rules | `(tactic| walk_at "op") => `(tactic| with_reducible exact fg_median _)
local macro_rules | `(tactic| walk_at "op") => `(tactic| with_reducible exact fg_least _)
local macro_rules | `(tactic| walk_at "F") => `(tactic| ((with_reducible apply figure_range_eq); with_reducible assumption))
local macro_rules | `(tactic| walk_at "F") => `(tactic| with_reducible exact check_figure_eq _)
local macro_rules | `(tactic| walk_at "op") => `(tactic| with_reducible exact op_ix_l0 _ _)
local macro_rules | `(tactic| walk_at "op") => `(tactic| with_reducible exact op_ix_l1 _ _ _)
theorem guard1 (en : En) (p : Int × Int) (h : en[2]? = some (some (.v (.d (dP p))))) : True := trivial
theorem can_reach_eq (f : Fg) {bs : List (Int × Int)} (hb : okB bs = true) {p : Int × Int} (hp : okF p) : F_can_reach [.d (dBs bs), .d (.str f.s), .d (dP p)] = rB (!decide (val p < fv f (los bs)) && !decide (fv f (his bs) < val p)) := by
  have l1 := less_eq hp (okF_fig f (okR_los hb))
  have l2 := less_eq (okF_fig f (okR_his hb)) hp
  have h0 : decide (p.2 < 1) = false := decide_eq_false (by have := hp.1; omega)
  unfold F_can_reach b_can_reach
  apply run_rt rfl
  with_reducible apply es_seq
  · walk_at "S"
  with_reducible apply es_seq
  · walk_at "S"
  with_reducible apply es_seq
  · with_reducible apply es_ifF
    · exact rfl
    · walk_at "S"
  with_reducible apply es_seq
  · with_reducible apply es_ifF
    · with_reducible apply ev_is
      · with_reducible apply et_or (k := false)
        · exact rfl
        · intro _
          walk_at "T"
      · rw [h0]; rfl
    · walk_at "S"
  with_reducible apply es_seq
  · with_reducible apply es_asgT
    · walk_at "E"
    · rfl
  with_reducible apply es_ret
  with_reducible apply ev_and'
  · with_reducible apply ev_not
    with_reducible apply ev_call
    · walk_at "A"
    · exact l1
  · intro _
    with_reducible apply ev_not
    with_reducible apply ev_call
    · walk_at "A"
    · exact l2
end Pg

/-! best_figures; the law's values. -/
namespace Pg
open PySem L2 Dt
local macro_rules | `(tactic| walk_at "op") => `(tactic| first | (with_reducible exact op_add_i _ _) | (with_reducible exact op_sub_i _ _) | (with_reducible exact op_lt_i _ _) | (with_reducible exact op_le_i _ _) | (with_reducible exact op_gt_i _ _) | (with_reducible exact op_ge_i _ _) | (with_reducible exact op_eq_i _ _) | (with_reducible exact op_ne_i _ _) | (with_reducible exact op_ix_p0 _) | (with_reducible exact op_ix_p1 _) | (with_reducible exact op_ix_0 _ _) | (with_reducible exact op_ix_1 _ _ _) | (with_reducible exact op_isN_d) | (with_reducible exact op_notN_d) | (with_reducible exact op_isB_d _ _) | (with_reducible exact op_notB_d _ _) | (with_reducible exact b_len_p _) | (with_reducible exact b_len_l _) | (with_reducible exact b_len_t _) | (with_reducible exact b_sum _) | (with_reducible exact b_sorted _) | (with_reducible exact b_abs _) | (with_reducible exact b_max2 _ _) | (with_reducible exact b_min2 _ _) | ((with_reducible apply op_mod_i); with_reducible assumption) | ((with_reducible apply op_div_i); with_reducible assumption) | ((with_reducible apply op_mul_i); with_reducible assumption))
local macro_rules | `(tactic| walk_at "F") => `(tactic| walk_at "op")
local macro_rules | `(tactic| walk_at "A") => `(tactic| first | (with_reducible exact ea_nil) | ((with_reducible apply ea_cons); walk_at "E"; walk_at "A"))
local macro_rules | `(tactic| walk_at "T") => `(tactic| first | ((with_reducible apply et_val); walk_at "E") | ((with_reducible apply et_not); walk_at "T") | ((with_reducible apply et_or); walk_at "T"; (intro _; walk_at "T")) | ((with_reducible apply et_and); walk_at "T"; (intro _; walk_at "T")))
local macro_rules | `(tactic| walk_at "O") => `(tactic| first | (with_reducible exact eo_none) | ((with_reducible apply eo_some); walk_at "E"))
local macro_rules | `(tactic| walk_at "E") => `(tactic| first
  | (with_reducible exact ev_c)
  | ((with_reducible apply ev_var); rfl)
  | ((with_reducible apply ev_bin); walk_at "E"; walk_at "E"; walk_at "op")
  | ((with_reducible apply ev_call); walk_at "A"; walk_at "F")
  | ((with_reducible apply ev_tup); walk_at "A"; rfl)
  | ((with_reducible apply ev_lst); walk_at "A"; rfl)
  | ((with_reducible apply ev_neg); walk_at "E")
  | ((with_reducible apply ev_isi); walk_at "E")
  | ((with_reducible apply ev_not); walk_at "E")
  | ((with_reducible apply ev_and'); walk_at "E"; (intro _; walk_at "E"))
  | ((with_reducible apply ev_or'); walk_at "E"; (intro _; walk_at "E"))
  | ((with_reducible apply ev_chain); walk_at "E"; walk_at "E"; walk_at "E"; walk_at "op"; walk_at "op")
  | ((with_reducible apply ev_sl); walk_at "E"; walk_at "O"; walk_at "O")
  | ((with_reducible apply ev_rev); walk_at "E")
  | ((with_reducible apply ev_ifT); ((with_reducible apply ev_is); walk_at "T"; rfl); walk_at "E")
  | ((with_reducible apply ev_ifF); ((with_reducible apply ev_is); walk_at "T"; rfl); walk_at "E"))
local macro_rules | `(tactic| walk_at "I") => `(tactic| first | ((with_reducible apply ei_list); walk_at "E"; done) | ((with_reducible apply ei_tup); walk_at "E") | ((with_reducible apply ei_enum); walk_at "A") | ((with_reducible apply ei_zip); walk_at "A"))
local macro_rules | `(tactic| walk_at "S") => `(tactic| first
  | (with_reducible exact es_nil)
  | ((with_reducible apply es_retV); rfl)
  | ((with_reducible apply es_retO); rfl)
  | ((with_reducible apply es_ret); walk_at "E")
  | ((with_reducible apply es_seq); walk_at "S"; walk_at "S")
  | ((with_reducible apply es_expr); walk_at "E")
  | ((with_reducible apply es_set); walk_at "E")
  | ((with_reducible apply es_setO); walk_at "E")
  | ((with_reducible apply es_par); walk_at "A")
  | ((with_reducible apply es_asgT); walk_at "E"; rfl)
  | ((with_reducible apply es_ifF); ((with_reducible apply ev_is); walk_at "T"; (first | rfl | with_reducible assumption)); walk_at "S")
  | ((with_reducible apply es_ifT); ((with_reducible apply ev_is); walk_at "T"; (first | rfl | with_reducible assumption)); walk_at "S"))
local macro_rules | `(tactic| walk_at "F") => `(tactic| with_reducible exact is_int_eq _ _ _)
local macro_rules | `(tactic| walk_at "F") => `(tactic| with_reducible exact is_bound_eq _)
local macro_rules | `(tactic| walk_at "F") => `(tactic| ((with_reducible apply is_bounds_eq); exact okB_len (by with_reducible assumption)))
local macro_rules | `(tactic| walk_at "F") => `(tactic| ((with_reducible apply check_ok); with_reducible assumption))
local macro_rules | `(tactic| walk_at "F") => `(tactic| ((with_reducible apply lows_eq); exact okB_len (by with_reducible assumption)))
local macro_rules | `(tactic| walk_at "F") => `(tactic| ((with_reducible apply highs_eq); exact okB_len (by with_reducible assumption)))
local macro_rules | `(tactic| walk_at "F") => `(tactic| ((with_reducible apply sum_range_eq); with_reducible assumption))
local macro_rules | `(tactic| walk_at "F") => `(tactic| ((with_reducible apply mean_range_eq); with_reducible assumption))
local macro_rules | `(tactic| walk_at "F") => `(tactic| ((with_reducible apply median_range_eq); with_reducible assumption))
local macro_rules | `(tactic| walk_at "F") => `(tactic| ((with_reducible apply least_range_eq); with_reducible assumption))
local macro_rules | `(tactic| walk_at "F") => `(tactic| ((with_reducible apply greatest_range_eq); with_reducible assumption))
local macro_rules | `(tactic| walk_at "F") => `(tactic| ((with_reducible apply choices_eq) <;> with_reducible assumption))
local macro_rules | `(tactic| walk_at "F") => `(tactic| ((with_reducible apply b_min); with_reducible assumption))
local macro_rules | `(tactic| walk_at "F") => `(tactic| ((with_reducible apply b_max); with_reducible assumption))
local macro_rules | `(tactic| walk_at "F") => `(tactic| with_reducible exact frac_int _ _)
local macro_rules | `(tactic| walk_at "F") => `(tactic| with_reducible exact frac_pair _ _)
local macro_rules | `(tactic| walk_at "op") => `(tactic| with_reducible exact fg_sum _)
local macro_rules | `(tactic| walk_at "op") => `(tactic| with_reducible exact fg_mean _)
local macro_rules | `(tactic| walk_at "op") => `(tactic| with_reducible exact fg_median _)
local macro_rules | `(tactic| walk_at "op") => `(tactic| with_reducible exact fg_least _)
local macro_rules | `(tactic| walk_at "F") => `(tactic| ((with_reducible apply figure_range_eq); with_reducible assumption))
local macro_rules | `(tactic| walk_at "F") => `(tactic| with_reducible exact check_figure_eq _)
local macro_rules | `(tactic| walk_at "op") => `(tactic| with_reducible exact op_ix_l0 _ _)
local macro_rules | `(tactic| walk_at "op") => `(tactic| with_reducible exact op_ix_l1 _ _ _)
theorem enum_map {α : Type} (g : α → PyData) : ∀ (n : Nat) (xs : List α), enumP n (xs.map g) = (xs.zipIdx n).map fun x => .tuple [.int x.2, g x.1]
  | _, [] => rfl
  | n, x :: xs => by rw [List.map_cons, enumP, List.zipIdx_cons, List.map_cons, enum_map g (n + 1) xs]
abbrev fr (f : Fg) (bs : List (Int × Int)) : PyData := .list [dP (figP f (los bs)), dP (figP f (his bs))]
def best (f : Fg) (ls : List (List (Int × Int))) : List Nat := ((ls.zipIdx 0).filter fun x => !(ls.any fun s => decide (fv f (his x.1) < fv f (los s)))).map (·.2)
theorem zip_mem {α : Type} {x : α} {k n : Nat} : ∀ {xs : List α}, (x, k) ∈ xs.zipIdx n → x ∈ xs := fun h => by
  have := List.mem_zipIdx h
  rw [this.2.2]
  exact List.getElem_mem _
theorem best_figures_eq (f : Fg) {ls : List (List (Int × Int))} (hl : 1 ≤ ls.length ∧ ls.length ≤ 5) (hb : ∀ bs ∈ ls, okB bs = true) : F_best_figures [.d (.list (ls.map fun bs => dBs bs)), .d (.str f.s)] = .ret (.d (dNs ((best f ls).map fun k : Nat => (k : Int))), true) := by
  have hlim : ls.length ≤ lim := Nat.le_trans hl.2 (by decide)
  have hlen : (((ls.map fun bs => dBs bs).length : Nat) : Int) = ls.length := by rw [List.length_map]
  have key := es_forP (emb := fun bs : List (Int × Int) => dBs bs) (sl := [2]) (bd := bdN) (xs := ls) (s1 := sExpr (dCall F_check_bounds (aCons (dVar 2) aNil)))
    (R := fun pre en => ∃ u2, en = [some (.v (.d (.list (ls.map fun bs => dBs bs)))), some (.v (.d (.str f.s))), u2, none, none, none, none])
    (en := [some (.v (.d (.list (ls.map fun bs => dBs bs)))), some (.v (.d (.str f.s))), none, none, none, none, none])
    ⟨_, rfl⟩ (by
      rintro pre bs post en hx ⟨u2, rfl⟩
      have ok := hb bs (by rw [hx]; simp)
      refine ⟨_, rfl, ?_⟩
      apply Exists.intro
      constructor
      · walk_at "S"
      · exact ⟨_, rfl⟩)
  obtain ⟨en', h1, u2, rfl⟩ := key
  unfold F_best_figures b_best_figures
  apply run_rt rfl
  with_reducible apply es_seq
  · with_reducible apply es_ifF
    · with_reducible apply ev_is
      · walk_at "T"
      · rw [hlen]; simp [isTy]; omega
    · walk_at "S"
  with_reducible apply es_seq
  · with_reducible apply es_for
    · walk_at "I"
    · exact h1
  clear h1
  with_reducible apply es_seq
  · walk_at "S"
  with_reducible apply es_seq
  · with_reducible apply es_set
    exact ev_compN (xs := ls) (emb := fun bs => dBs bs) (f := fun bs => fr f bs) (b := true) (by walk_at "I") hlim fun bs h => by
      have ok := hb bs h
      walk_at "E"
  with_reducible apply es_ret
  refine list_of (ev_compTF (xs := ls.zipIdx 0) (emb := fun x => .tuple [.int x.2, fr f x.1]) (d1 := fun x => .int x.2) (d2 := fun x => fr f x.1) (f := fun x => .int x.2) (g := fun x => !(ls.any fun s => decide (fv f (his x.1) < fv f (los s)))) (b := false) ?_ (fun _ => rfl) (by rw [List.length_zipIdx]; exact hlim) (fun x hx => ?_) fun x hx _ => ?_) ?_
  · rw [← enum_map]
    walk_at "I"
  · have okx := hb x.1 (zip_mem (k := x.2) hx)
    with_reducible apply et_not
    with_reducible apply et_val
    with_reducible apply ev_call
    · with_reducible apply ea_cons
      · refine list_of (ys := (ls.map fun s => decide (fv f (his x.1) < fv f (los s))).map PyData.bool) (ev_compN (xs := ls) (emb := fun bs => fr f bs) (f := fun s => .bool (decide (fv f (his x.1) < fv f (los s)))) (b := false) (by walk_at "I") hlim fun s hs => ?_) (by rw [List.map_map]; rfl)
        have oks := hb s hs
        with_reducible apply ev_call
        · walk_at "A"
        · exact less_eq (okF_fig f (okR_his okx)) (okF_fig f (okR_los oks))
      · walk_at "A"
    · rw [b_any, List.any_map]
      rfl
  · walk_at "E"
  · unfold best
    rw [List.map_map, List.map_map]
    rfl
/-- [a * 5040 // b for a, b in [_law_figure(row, figure) for row in _law_choices(bounds)]] -/
theorem values_ev (f : Fg) {en : En} {i : Nat} {bs : List (Int × Int)} (ok : okB bs = true) (hw : ∀ p ∈ bs, p.2 + 1 - p.1 ≤ 7) (hcl : (chs bs).length ≤ lim) (hi : dVar i en = .ret (.d (dBs bs), false))
    (h20 : ∀ d, dVar 20 (setE (wipeE en [20]) [20] [d]) = .ret (.d d, false)) (h2 : ∀ d, dVar 2 (setE (wipeE en [20]) [20] [d]) = .ret (.d (.str f.s), false))
    (h18 : ∀ d e, dVar 18 (setE (wipeE en [18, 19]) [18, 19] [d, e]) = .ret (.d d, false)) (h19 : ∀ d e, dVar 19 (setE (wipeE en [18, 19]) [18, 19] [d, e]) = .ret (.d e, false)) :
    (dComp [18, 19] [18, 19] (bdT 2) (iSeqD (dComp [20] [20] bdN (iSeqD (dCall F__law_choices (aCons (dVar i) aNil))) yes (dCall F__law_figure (aCons (dVar 20) (aCons (dVar 2) aNil))))) yes (dBin oDiv (dBin oMul (dVar 18) (dC (.int 5040))) (dVar 19))) en = .ret (.d (dNs ((chs bs).map (fv f))), true) := by
  refine list_of (ev_compB (bs := (chs bs).map (figP f)) (f := fun p => .int (val p)) (b := false) ?_ (by rw [List.length_map]; exact hcl) fun p hp => ?_) (by rw [List.map_map, List.map_map]; rfl)
  · with_reducible apply ei_list
    refine list_of (ev_compN (xs := chs bs) (emb := fun r => dNs r) (f := fun r => dP (figP f r)) (b := false) ?_ hcl fun r hr => ?_) (by rw [List.map_map]; rfl)
    · with_reducible apply ei_list
      with_reducible apply ev_call
      · exact ea_cons hi ea_nil
      · exact choices_eq ok hw
    · have hr' := (mem_chs.mp hr).okR ok
      with_reducible apply ev_call
      · exact ea_cons (h20 _) (ea_cons (h2 _) ea_nil)
      · exact law_figure_eq f hr'.1.1 (by have := hr'.1.2; omega)
  · obtain ⟨r, hr, rfl⟩ := List.mem_map.mp hp
    have hF := okF_fig f ((mem_chs.mp hr).okR ok)
    have hbig := hF.big
    refine ev_bin (ev_bin (h18 _ _) ev_c (op_mul_i ⟨hbig.1, by unfold Dt.big; decide +kernel⟩)) (h19 _ _) (op_div_i ⟨hF.1, hbig.2⟩)
theorem law_true_eq (a b : Bool) : F__law_true [.d (.bool a), .d (.bool b)] = rB (decide (a = b)) := by
  unfold F__law_true b__law_true
  cases a <;> cases b <;> rfl
end Pg

/-! Facts: with_sum, met, checked; the law's wide bounds. -/
namespace Pg
open PySem L2 Dt
local macro_rules | `(tactic| walk_at "op") => `(tactic| first | (with_reducible exact op_add_i _ _) | (with_reducible exact op_sub_i _ _) | (with_reducible exact op_lt_i _ _) | (with_reducible exact op_le_i _ _) | (with_reducible exact op_gt_i _ _) | (with_reducible exact op_ge_i _ _) | (with_reducible exact op_eq_i _ _) | (with_reducible exact op_ne_i _ _) | (with_reducible exact op_ix_p0 _) | (with_reducible exact op_ix_p1 _) | (with_reducible exact op_ix_0 _ _) | (with_reducible exact op_ix_1 _ _ _) | (with_reducible exact op_isN_d) | (with_reducible exact op_notN_d) | (with_reducible exact op_isB_d _ _) | (with_reducible exact op_notB_d _ _) | (with_reducible exact b_len_p _) | (with_reducible exact b_len_l _) | (with_reducible exact b_len_t _) | (with_reducible exact b_sum _) | (with_reducible exact b_sorted _) | (with_reducible exact b_abs _) | (with_reducible exact b_max2 _ _) | (with_reducible exact b_min2 _ _) | ((with_reducible apply op_mod_i); with_reducible assumption) | ((with_reducible apply op_div_i); with_reducible assumption) | ((with_reducible apply op_mul_i); with_reducible assumption))
local macro_rules | `(tactic| walk_at "F") => `(tactic| walk_at "op")
local macro_rules | `(tactic| walk_at "A") => `(tactic| first | (with_reducible exact ea_nil) | ((with_reducible apply ea_cons); walk_at "E"; walk_at "A"))
local macro_rules | `(tactic| walk_at "T") => `(tactic| first | ((with_reducible apply et_val); walk_at "E") | ((with_reducible apply et_not); walk_at "T") | ((with_reducible apply et_or); walk_at "T"; (intro _; walk_at "T")) | ((with_reducible apply et_and); walk_at "T"; (intro _; walk_at "T")))
local macro_rules | `(tactic| walk_at "O") => `(tactic| first | (with_reducible exact eo_none) | ((with_reducible apply eo_some); walk_at "E"))
local macro_rules | `(tactic| walk_at "E") => `(tactic| first
  | (with_reducible exact ev_c)
  | ((with_reducible apply ev_var); rfl)
  | ((with_reducible apply ev_bin); walk_at "E"; walk_at "E"; walk_at "op")
  | ((with_reducible apply ev_call); walk_at "A"; walk_at "F")
  | ((with_reducible apply ev_tup); walk_at "A"; rfl)
  | ((with_reducible apply ev_lst); walk_at "A"; rfl)
  | ((with_reducible apply ev_neg); walk_at "E")
  | ((with_reducible apply ev_isi); walk_at "E")
  | ((with_reducible apply ev_not); walk_at "E")
  | ((with_reducible apply ev_and'); walk_at "E"; (intro _; walk_at "E"))
  | ((with_reducible apply ev_or'); walk_at "E"; (intro _; walk_at "E"))
  | ((with_reducible apply ev_chain); walk_at "E"; walk_at "E"; walk_at "E"; walk_at "op"; walk_at "op")
  | ((with_reducible apply ev_sl); walk_at "E"; walk_at "O"; walk_at "O")
  | ((with_reducible apply ev_rev); walk_at "E")
  | ((with_reducible apply ev_ifT); ((with_reducible apply ev_is); walk_at "T"; rfl); walk_at "E")
  | ((with_reducible apply ev_ifF); ((with_reducible apply ev_is); walk_at "T"; rfl); walk_at "E"))
local macro_rules | `(tactic| walk_at "I") => `(tactic| first | ((with_reducible apply ei_list); walk_at "E"; done) | ((with_reducible apply ei_tup); walk_at "E") | ((with_reducible apply ei_enum); walk_at "A") | ((with_reducible apply ei_zip); walk_at "A"))
local macro_rules | `(tactic| walk_at "S") => `(tactic| first
  | (with_reducible exact es_nil)
  | ((with_reducible apply es_retV); rfl)
  | ((with_reducible apply es_retO); rfl)
  | ((with_reducible apply es_ret); walk_at "E")
  | ((with_reducible apply es_seq); walk_at "S"; walk_at "S")
  | ((with_reducible apply es_expr); walk_at "E")
  | ((with_reducible apply es_set); walk_at "E")
  | ((with_reducible apply es_setO); walk_at "E")
  | ((with_reducible apply es_par); walk_at "A")
  | ((with_reducible apply es_asgT); walk_at "E"; rfl)
  | ((with_reducible apply es_ifF); ((with_reducible apply ev_is); walk_at "T"; (first | rfl | with_reducible assumption)); walk_at "S")
  | ((with_reducible apply es_ifT); ((with_reducible apply ev_is); walk_at "T"; (first | rfl | with_reducible assumption)); walk_at "S"))
local macro_rules | `(tactic| walk_at "F") => `(tactic| with_reducible exact is_int_eq _ _ _)
local macro_rules | `(tactic| walk_at "F") => `(tactic| with_reducible exact is_bound_eq _)
local macro_rules | `(tactic| walk_at "F") => `(tactic| ((with_reducible apply is_bounds_eq); exact okB_len (by with_reducible assumption)))
local macro_rules | `(tactic| walk_at "F") => `(tactic| ((with_reducible apply check_ok); with_reducible assumption))
local macro_rules | `(tactic| walk_at "F") => `(tactic| ((with_reducible apply lows_eq); exact okB_len (by with_reducible assumption)))
local macro_rules | `(tactic| walk_at "F") => `(tactic| ((with_reducible apply highs_eq); exact okB_len (by with_reducible assumption)))
local macro_rules | `(tactic| walk_at "F") => `(tactic| ((with_reducible apply sum_range_eq); with_reducible assumption))
local macro_rules | `(tactic| walk_at "F") => `(tactic| ((with_reducible apply mean_range_eq); with_reducible assumption))
local macro_rules | `(tactic| walk_at "F") => `(tactic| ((with_reducible apply median_range_eq); with_reducible assumption))
local macro_rules | `(tactic| walk_at "F") => `(tactic| ((with_reducible apply least_range_eq); with_reducible assumption))
local macro_rules | `(tactic| walk_at "F") => `(tactic| ((with_reducible apply greatest_range_eq); with_reducible assumption))
local macro_rules | `(tactic| walk_at "F") => `(tactic| ((with_reducible apply choices_eq) <;> with_reducible assumption))
local macro_rules | `(tactic| walk_at "F") => `(tactic| ((with_reducible apply b_min); with_reducible assumption))
local macro_rules | `(tactic| walk_at "F") => `(tactic| ((with_reducible apply b_max); with_reducible assumption))
local macro_rules | `(tactic| walk_at "F") => `(tactic| with_reducible exact frac_int _ _)
local macro_rules | `(tactic| walk_at "F") => `(tactic| with_reducible exact frac_pair _ _)
local macro_rules | `(tactic| walk_at "op") => `(tactic| with_reducible exact fg_sum _)
local macro_rules | `(tactic| walk_at "op") => `(tactic| with_reducible exact fg_mean _)
local macro_rules | `(tactic| walk_at "op") => `(tactic| with_reducible exact fg_median _)
local macro_rules | `(tactic| walk_at "op") => `(tactic| with_reducible exact fg_least _)
local macro_rules | `(tactic| walk_at "F") => `(tactic| ((with_reducible apply figure_range_eq); with_reducible assumption))
local macro_rules | `(tactic| walk_at "F") => `(tactic| with_reducible exact check_figure_eq _)
/-- bounds that _law_bounds draws -/
def Wide (n : Nat) (bs : List (Int × Int)) : Prop := (1 ≤ bs.length ∧ bs.length ≤ n) ∧ ∀ p ∈ bs, (-30 ≤ p.1 ∧ p.1 < 30) ∧ p.1 ≤ p.2 ∧ p.2 < p.1 + 20
theorem Wide.ok {n : Nat} {bs : List (Int × Int)} (h : Wide n bs) (hn : n ≤ 7) : okB bs = true := okB_iff.mpr ⟨by have := h.1; omega, fun p hp => by have := h.2 p hp; omega⟩
theorem pick_dw {ds : List PyData} {S : RV → Prop} (h0 : 0 < ds.length) (h1 : ds.length < 1073741824) (h : ∀ d ∈ ds, S (.d d, false)) : DW (F__law_pick [.ob 0, .d (.list ds)]) S := by
  unfold F__law_pick b__law_pick
  apply dw_run rfl
  with_reducible apply dws_ret
  with_reducible apply dwe_bin
  refine DW.of (by walk_at "E") ?_
  with_reducible apply dwe_call
  refine DW.of (by walk_at "A") ?_
  refine DW.draw (by omega) (by omega) fun r r0 r1 => ?_
  have hr : r.toNat < ds.length := by omega
  refine DW.of (op_ix_l (p := ds[r.toNat]) ?_) ⟨_, rfl, h _ (List.getElem_mem hr)⟩
  have e := atI_nat (List.getElem?_eq_getElem hr)
  rw [show ((r.toNat : Nat) : Int) = r by omega] at e
  exact e
theorem two_big : (2 : Int).natAbs < big := by unfold big; decide +kernel
theorem bounds_dw {n : Nat} (h1 : 1 ≤ n) (h7 : n ≤ 7) : DW (F__law_bounds [.ob 0, dI n]) fun r => ∃ bs, Wide n bs ∧ r = (.d (dBs bs), true) := by
  unfold F__law_bounds b__law_bounds
  apply dw_run rfl
  with_reducible apply dws_seq
  with_reducible apply dws_par
  with_reducible apply dwa_cons
  with_reducible apply dwe_call
  refine DW.of (by walk_at "A") ?_
  refine pick_dw (by decide) (by decide) fun d hd => ?_
  obtain ⟨far, rfl, hf⟩ : ∃ u : Int, d = .int u ∧ 1 ≤ u ∧ u ≤ 30 := by
    simp at hd
    rcases hd with rfl | rfl | rfl <;> exact ⟨_, rfl, by decide, by decide⟩
  with_reducible apply dwa_cons
  with_reducible apply dwe_call
  refine DW.of (by walk_at "A") ?_
  refine pick_dw (by decide) (by decide) fun d hd => ?_
  obtain ⟨wide, rfl, hw⟩ : ∃ u : Int, d = .int u ∧ 1 ≤ u ∧ u ≤ 20 := by
    simp at hd
    rcases hd with rfl | rfl | rfl <;> exact ⟨_, rfl, by decide, by decide⟩
  refine DW.of ea_nil ⟨_, _, rfl, _, rfl, ?_⟩
  have bf : far.natAbs < big := natAbs_big (by omega)
  with_reducible apply dws_pure
  · walk_at "S"
  with_reducible apply dws_seq
  with_reducible apply dws_for
  with_reducible apply dwi_range1
  with_reducible apply dwa_cons
  with_reducible apply dwe_bin
  refine DW.of (by walk_at "E") ?_
  with_reducible apply dwe_call
  refine DW.of (by walk_at "A") ?_
  refine DW.draw (by omega) (by omega) fun r hr0 hr1 => ?_
  refine DW.of (op_add_i _ _) (DW.of ea_nil ⟨_, rfl, by omega, DW.ret ?_⟩)
  have e : rangeP 0 (1 + r).toNat = (List.range (1 + r).toNat).map fun i : Nat => PyData.int (0 + i) := rfl
  rw [e]
  refine dw_forL (k := 0) (I := fun k en => ∃ bs u3 u6, bs.length = k ∧ (∀ p ∈ bs, (-30 ≤ p.1 ∧ p.1 < 30) ∧ p.1 ≤ p.2 ∧ p.2 < p.1 + 20) ∧ en = [some (.v (.ob 0)), some (.v (dI n)), some (.own (bs.map dP)), u3, some (.v (dI far)), some (.v (dI wide)), u6]) ⟨[], none, none, rfl, by simp, rfl⟩ ?_ ?_
  · rintro k x en _ hk ⟨bs, u3, u6, hb, hp, rfl⟩
    refine ⟨_, rfl, ?_⟩
    with_reducible apply dws_seq
    with_reducible apply dws_set
    with_reducible apply dwe_bin
    with_reducible apply dwe_call
    refine DW.of (a := [.ob 0, dI (2 * far)]) (ea_cons (ev_var rfl) (ea_cons (ev_bin ev_c (ev_var rfl) (op_mul_i ⟨two_big, bf⟩)) ea_nil)) ?_
    refine DW.draw (by omega) (by omega) fun a ha0 ha1 => ?_
    refine DW.of (ev_var rfl) (DW.of (op_sub_i _ _) ⟨_, rfl, ?_⟩)
    refine dws_app rfl (by
      rw [List.length_map, hb]
      rw [List.length_range] at hk
      have : lim = 1000000 := rfl
      omega) ?_
    with_reducible apply dwe_tup
    with_reducible apply dwa_cons
    refine DW.of (by walk_at "E") ?_
    with_reducible apply dwa_cons
    with_reducible apply dwe_bin
    refine DW.of (by walk_at "E") ?_
    with_reducible apply dwe_call
    refine DW.of (by walk_at "A") ?_
    refine DW.draw (by omega) (by omega) fun c hc0 hc1 => ?_
    refine DW.of (op_add_i _ _) (DW.of ea_nil ⟨_, rfl, _, rfl, _, rfl, bs ++ [(a - far, a - far + c)], some (.v (dI (0 + x))), some (.v (dI (a - far))), by simp [hb], ?_, ?_⟩)
    · intro p hp'
      rcases List.mem_append.mp hp' with h | h
      · exact hp p h
      · rw [List.mem_singleton] at h
        subst h
        dsimp only
        omega
    · rw [List.map_append]; rfl
  · rintro en' ⟨bs, u3, u6, hb, hp, rfl⟩
    refine ⟨_, rfl, DW.of (by walk_at "S") ⟨_, rfl, bs, ⟨?_, hp⟩, rfl⟩⟩
    rw [List.length_range] at hb
    omega
end Pg

/-! with_sum, met, checked. -/
namespace Pg
open PySem L2 Dt
local macro_rules | `(tactic| walk_at "op") => `(tactic| first | (with_reducible exact op_add_i _ _) | (with_reducible exact op_sub_i _ _) | (with_reducible exact op_lt_i _ _) | (with_reducible exact op_le_i _ _) | (with_reducible exact op_gt_i _ _) | (with_reducible exact op_ge_i _ _) | (with_reducible exact op_eq_i _ _) | (with_reducible exact op_ne_i _ _) | (with_reducible exact op_ix_p0 _) | (with_reducible exact op_ix_p1 _) | (with_reducible exact op_ix_0 _ _) | (with_reducible exact op_ix_1 _ _ _) | (with_reducible exact op_isN_d) | (with_reducible exact op_notN_d) | (with_reducible exact op_isB_d _ _) | (with_reducible exact op_notB_d _ _) | (with_reducible exact b_len_p _) | (with_reducible exact b_len_l _) | (with_reducible exact b_len_t _) | (with_reducible exact b_sum _) | (with_reducible exact b_sorted _) | (with_reducible exact b_abs _) | (with_reducible exact b_max2 _ _) | (with_reducible exact b_min2 _ _) | ((with_reducible apply op_mod_i); with_reducible assumption) | ((with_reducible apply op_div_i); with_reducible assumption) | ((with_reducible apply op_mul_i); with_reducible assumption))
local macro_rules | `(tactic| walk_at "F") => `(tactic| walk_at "op")
local macro_rules | `(tactic| walk_at "A") => `(tactic| first | (with_reducible exact ea_nil) | ((with_reducible apply ea_cons); walk_at "E"; walk_at "A"))
local macro_rules | `(tactic| walk_at "T") => `(tactic| first | ((with_reducible apply et_val); walk_at "E") | ((with_reducible apply et_not); walk_at "T") | ((with_reducible apply et_or); walk_at "T"; (intro _; walk_at "T")) | ((with_reducible apply et_and); walk_at "T"; (intro _; walk_at "T")))
local macro_rules | `(tactic| walk_at "O") => `(tactic| first | (with_reducible exact eo_none) | ((with_reducible apply eo_some); walk_at "E"))
local macro_rules | `(tactic| walk_at "E") => `(tactic| first
  | (with_reducible exact ev_c)
  | ((with_reducible apply ev_var); rfl)
  | ((with_reducible apply ev_bin); walk_at "E"; walk_at "E"; walk_at "op")
  | ((with_reducible apply ev_call); walk_at "A"; walk_at "F")
  | ((with_reducible apply ev_tup); walk_at "A"; rfl)
  | ((with_reducible apply ev_lst); walk_at "A"; rfl)
  | ((with_reducible apply ev_neg); walk_at "E")
  | ((with_reducible apply ev_isi); walk_at "E")
  | ((with_reducible apply ev_not); walk_at "E")
  | ((with_reducible apply ev_and'); walk_at "E"; (intro _; walk_at "E"))
  | ((with_reducible apply ev_or'); walk_at "E"; (intro _; walk_at "E"))
  | ((with_reducible apply ev_chain); walk_at "E"; walk_at "E"; walk_at "E"; walk_at "op"; walk_at "op")
  | ((with_reducible apply ev_sl); walk_at "E"; walk_at "O"; walk_at "O")
  | ((with_reducible apply ev_rev); walk_at "E")
  | ((with_reducible apply ev_ifT); ((with_reducible apply ev_is); walk_at "T"; rfl); walk_at "E")
  | ((with_reducible apply ev_ifF); ((with_reducible apply ev_is); walk_at "T"; rfl); walk_at "E"))
local macro_rules | `(tactic| walk_at "I") => `(tactic| first | ((with_reducible apply ei_list); walk_at "E"; done) | ((with_reducible apply ei_tup); walk_at "E") | ((with_reducible apply ei_enum); walk_at "A") | ((with_reducible apply ei_zip); walk_at "A"))
local macro_rules | `(tactic| walk_at "S") => `(tactic| first
  | (with_reducible exact es_nil)
  | ((with_reducible apply es_retV); rfl)
  | ((with_reducible apply es_retO); rfl)
  | ((with_reducible apply es_ret); walk_at "E")
  | ((with_reducible apply es_seq); walk_at "S"; walk_at "S")
  | ((with_reducible apply es_expr); walk_at "E")
  | ((with_reducible apply es_set); walk_at "E")
  | ((with_reducible apply es_setO); walk_at "E")
  | ((with_reducible apply es_par); walk_at "A")
  | ((with_reducible apply es_asgT); walk_at "E"; rfl)
  | ((with_reducible apply es_ifF); ((with_reducible apply ev_is); walk_at "T"; (first | rfl | with_reducible assumption)); walk_at "S")
  | ((with_reducible apply es_ifT); ((with_reducible apply ev_is); walk_at "T"; (first | rfl | with_reducible assumption)); walk_at "S"))
local macro_rules | `(tactic| walk_at "F") => `(tactic| with_reducible exact is_int_eq _ _ _)
local macro_rules | `(tactic| walk_at "F") => `(tactic| with_reducible exact is_bound_eq _)
local macro_rules | `(tactic| walk_at "F") => `(tactic| ((with_reducible apply is_bounds_eq); exact okB_len (by with_reducible assumption)))
local macro_rules | `(tactic| walk_at "F") => `(tactic| ((with_reducible apply check_ok); with_reducible assumption))
local macro_rules | `(tactic| walk_at "F") => `(tactic| ((with_reducible apply lows_eq); exact okB_len (by with_reducible assumption)))
local macro_rules | `(tactic| walk_at "F") => `(tactic| ((with_reducible apply highs_eq); exact okB_len (by with_reducible assumption)))
local macro_rules | `(tactic| walk_at "F") => `(tactic| ((with_reducible apply sum_range_eq); with_reducible assumption))
local macro_rules | `(tactic| walk_at "F") => `(tactic| ((with_reducible apply mean_range_eq); with_reducible assumption))
local macro_rules | `(tactic| walk_at "F") => `(tactic| ((with_reducible apply median_range_eq); with_reducible assumption))
local macro_rules | `(tactic| walk_at "F") => `(tactic| ((with_reducible apply least_range_eq); with_reducible assumption))
local macro_rules | `(tactic| walk_at "F") => `(tactic| ((with_reducible apply greatest_range_eq); with_reducible assumption))
local macro_rules | `(tactic| walk_at "F") => `(tactic| ((with_reducible apply choices_eq) <;> with_reducible assumption))
local macro_rules | `(tactic| walk_at "F") => `(tactic| ((with_reducible apply b_min); with_reducible assumption))
local macro_rules | `(tactic| walk_at "F") => `(tactic| ((with_reducible apply b_max); with_reducible assumption))
local macro_rules | `(tactic| walk_at "F") => `(tactic| with_reducible exact frac_int _ _)
local macro_rules | `(tactic| walk_at "F") => `(tactic| with_reducible exact frac_pair _ _)
local macro_rules | `(tactic| walk_at "op") => `(tactic| with_reducible exact fg_sum _)
local macro_rules | `(tactic| walk_at "op") => `(tactic| with_reducible exact fg_mean _)
local macro_rules | `(tactic| walk_at "op") => `(tactic| with_reducible exact fg_median _)
local macro_rules | `(tactic| walk_at "op") => `(tactic| with_reducible exact fg_least _)
local macro_rules | `(tactic| walk_at "F") => `(tactic| ((with_reducible apply figure_range_eq); with_reducible assumption))
local macro_rules | `(tactic| walk_at "F") => `(tactic| with_reducible exact check_figure_eq _)
def mx (k l : Int) : Int := if l > k then l else k
def mn (k l : Int) : Int := if l < k then l else k
theorem mx_le (k l : Int) : k ≤ mx k l ∧ l ≤ mx k l ∧ (mx k l = k ∨ mx k l = l) := by unfold mx; split <;> omega
theorem mn_le (k l : Int) : mn k l ≤ k ∧ mn k l ≤ l ∧ (mn k l = k ∨ mn k l = l) := by unfold mn; split <;> omega
/-- the narrowed bounds -/
def ws (bs : List (Int × Int)) (l g : Int) : List (Int × Int) := bs.map fun p => (mx p.1 (l - ((his bs).sum - p.2)), mn p.2 (g - ((los bs).sum - p.1)))
theorem with_sum_eq {bs : List (Int × Int)} (ok : okB bs = true) {l g : Int} (h1 : -400 ≤ l) (h2 : l ≤ g) (h3 : g ≤ 400) (h4 : (los bs).sum ≤ g) (h5 : l ≤ (his bs).sum) : F_with_sum [.d (dBs bs), dI l, dI g] = .ret (.d (dBs (ws bs l g)), true) := by
  have hl := okB_len ok
  unfold F_with_sum b_with_sum
  apply run_rt rfl
  with_reducible apply es_seq
  · walk_at "S"
  with_reducible apply es_seq
  · with_reducible apply es_ifF
    · with_reducible apply ev_is
      · walk_at "T"
      · simp; omega
    · walk_at "S"
  with_reducible apply es_seq
  · with_reducible apply es_asgT
    · with_reducible apply ev_tup
      · with_reducible apply ea_cons
        · with_reducible apply ev_call
          · with_reducible apply ea_cons
            · exact list_of (ys := (los bs).map PyData.int) (ev_compB (f := fun p => .int p.1) (b := false) (by walk_at "I") hl fun p hp => by walk_at "E") (by rw [List.map_map]; rfl)
            · walk_at "A"
          · exact b_sum _
        · with_reducible apply ea_cons
          · with_reducible apply ev_call
            · with_reducible apply ea_cons
              · exact list_of (ys := (his bs).map PyData.int) (ev_compB (f := fun p => .int p.2) (b := false) (by walk_at "I") hl fun p hp => by walk_at "E") (by rw [List.map_map]; rfl)
              · walk_at "A"
            · exact b_sum _
          · walk_at "A"
      · rfl
    · rfl
  with_reducible apply es_seq
  · with_reducible apply es_ifF
    · with_reducible apply ev_is
      · walk_at "T"
      · simp; omega
    · walk_at "S"
  with_reducible apply es_ret
  refine list_of (ev_compB (f := fun p => dP (mx p.1 (l - ((his bs).sum - p.2)), mn p.2 (g - ((los bs).sum - p.1)))) (b := false) (by walk_at "I") hl fun p hp => ?_) (by unfold ws; rw [List.map_map]; rfl)
  refine Eq.trans (by walk_at "E") ?_
  rfl
theorem checked_eq {bs : List (Int × Int)} (hl : bs.length ≤ lim) (h : ∀ p ∈ bs, p.1 ≤ p.2) : F_checked_facts [.d (dBs bs)] = .ret (.d (dBs bs), false) := by
  unfold F_checked_facts b_checked_facts
  apply run_rt rfl
  with_reducible apply es_seq
  · with_reducible apply es_ifF
    · with_reducible apply ev_is
      · with_reducible apply et_val
        with_reducible apply ev_call
        · with_reducible apply ea_cons
          · exact list_of (ys := (bs.map fun p => decide (p.2 < p.1)).map PyData.bool) (ev_compB (f := fun p => .bool (decide (p.2 < p.1))) (b := false) (by walk_at "I") hl fun p hp => by walk_at "E") (by rw [List.map_map]; rfl)
          · walk_at "A"
        · exact b_any _
      · rw [List.any_map, List.any_eq_false]
        intro p hp
        have := h p hp
        simp; omega
    · walk_at "S"
  · walk_at "S"
/-- the common part -/
def mt : List (Int × Int) → List (Int × Int) → List (Int × Int)
  | p :: ps, q :: qs => (mx p.1 q.1, mn p.2 q.2) :: mt ps qs
  | _, _ => []
theorem zip_dP : ∀ (bs cs : List (Int × Int)), zipP (bs.map dP) (cs.map dP) = (bs.zip cs).map fun x => .tuple [dP x.1, dP x.2]
  | [], _ => by cases ‹List (Int × Int)› <;> rfl
  | _ :: _, [] => rfl
  | p :: bs, q :: cs => by rw [List.map_cons, List.map_cons, zipP, zip_dP bs cs]; rfl
theorem mt_zip : ∀ (bs cs : List (Int × Int)), mt bs cs = (bs.zip cs).map fun x => (mx x.1.1 x.2.1, mn x.1.2 x.2.2)
  | [], _ => rfl
  | _ :: _, [] => rfl
  | p :: bs, q :: cs => by rw [mt, mt_zip bs cs]; rfl
theorem met_eq {bs cs : List (Int × Int)} (ok : okB bs = true) (ok' : okB cs = true) (hl : bs.length = cs.length) (h : ∀ p ∈ mt bs cs, p.1 ≤ p.2) : F_met [.d (dBs bs), .d (dBs cs)] = .ret (.d (dBs (mt bs cs)), false) := by
  have hz : (bs.zip cs).length ≤ lim := by rw [List.length_zip]; have := okB_len ok; omega
  unfold F_met b_met
  apply run_rt rfl
  with_reducible apply es_seq
  · walk_at "S"
  with_reducible apply es_seq
  · walk_at "S"
  with_reducible apply es_seq
  · with_reducible apply es_ifF
    · with_reducible apply ev_is
      · walk_at "T"
      · rw [List.length_map, List.length_map, hl]; simp
    · walk_at "S"
  with_reducible apply es_ret
  with_reducible apply ev_call
  · with_reducible apply ea_cons
    · refine list_of (ys := (mt bs cs).map dP) (ev_compT (xs := bs.zip cs) (emb := fun x => .tuple [dP x.1, dP x.2]) (d1 := fun x => dP x.1) (d2 := fun x => dP x.2) (f := fun x => dP (mx x.1.1 x.2.1, mn x.1.2 x.2.2)) (b := false) (by rw [← zip_dP]; walk_at "I") (fun _ => rfl) hz fun x hx => ?_) (by rw [mt_zip, List.map_map]; rfl)
      refine Eq.trans (by walk_at "E") ?_
      rfl
    · walk_at "A"
  · exact checked_eq (by rw [mt_zip, List.length_map]; exact hz) h
/-! ### sums of narrowed bounds -/
theorem sum_mn {C : Int} (hC : 0 ≤ C) : ∀ {bs : List (Int × Int)}, (∀ p ∈ bs, p.1 ≤ p.2) → (his bs).sum ≤ (bs.map fun p => mn p.2 (C + p.1)).sum ∨ C + (los bs).sum ≤ (bs.map fun p => mn p.2 (C + p.1)).sum
  | [], _ => by left; simp
  | p :: bs, h => by
    have hp := h p List.mem_cons_self
    have ih := sum_mn hC (bs := bs) fun q hq => h q (List.mem_cons_of_mem _ hq)
    have hge : (los bs).sum ≤ (bs.map fun p => mn p.2 (C + p.1)).sum := by
      clear ih
      have h' : ∀ q ∈ bs, q.1 ≤ q.2 := fun q hq => h q (List.mem_cons_of_mem _ hq)
      clear h
      induction bs with
      | nil => simp
      | cons q bs ih =>
        have a := h' q List.mem_cons_self
        have b := ih fun r hr => h' r (List.mem_cons_of_mem _ hr)
        have := mn_le q.2 (C + q.1)
        simp only [los, List.map_cons, List.sum_cons] at b ⊢
        omega
    have := mn_le p.2 (C + p.1)
    simp only [los, his, List.map_cons, List.sum_cons] at ih hge ⊢
    omega
theorem sum_mx {D : Int} (hD : 0 ≤ D) : ∀ {bs : List (Int × Int)}, (∀ p ∈ bs, p.1 ≤ p.2) → (bs.map fun p => mx p.1 (p.2 - D)).sum ≤ (los bs).sum ∨ (bs.map fun p => mx p.1 (p.2 - D)).sum ≤ (his bs).sum - D
  | [], _ => by left; simp
  | p :: bs, h => by
    have hp := h p List.mem_cons_self
    have ih := sum_mx hD (bs := bs) fun q hq => h q (List.mem_cons_of_mem _ hq)
    have hge : (bs.map fun p => mx p.1 (p.2 - D)).sum ≤ (his bs).sum := by
      clear ih
      have h' : ∀ q ∈ bs, q.1 ≤ q.2 := fun q hq => h q (List.mem_cons_of_mem _ hq)
      clear h
      induction bs with
      | nil => simp
      | cons q bs ih =>
        have a := h' q List.mem_cons_self
        have b := ih fun r hr => h' r (List.mem_cons_of_mem _ hr)
        have := mx_le q.1 (q.2 - D)
        simp only [his, List.map_cons, List.sum_cons] at b ⊢
        omega
    have := mx_le p.1 (p.2 - D)
    simp only [los, his, List.map_cons, List.sum_cons] at ih hge ⊢
    omega
end Pg

/-! Narrowing by a sum: plain laws. -/
namespace Pg
open PySem L2 Dt
abbrev Up (bs : List (Int × Int)) : Prop := ∀ p ∈ bs, p.1 ≤ p.2
theorem sum_up : ∀ {bs : List (Int × Int)}, Up bs → (los bs).sum ≤ (his bs).sum
  | [], _ => by simp
  | p :: bs, h => by
    have := h p List.mem_cons_self
    have := sum_up (bs := bs) fun q hq => h q (List.mem_cons_of_mem _ hq)
    simp only [los, his, List.map_cons, List.sum_cons] at this ⊢
    omega
theorem sum_split {f : Int × Int → Int} {pre post : List (Int × Int)} {p : Int × Int} : ((pre ++ p :: post).map f).sum = f p + ((pre ++ post).map f).sum := by
  simp only [List.map_append, List.map_cons, List.sum_append, List.sum_cons]
  omega
theorem mem_split' {α : Type} {x : α} {xs : List α} (h : x ∈ xs) : ∃ pre post, xs = pre ++ x :: post := List.append_of_mem h
theorem width_le {bs : List (Int × Int)} (h : Up bs) {p : Int × Int} (hp : p ∈ bs) : p.2 - p.1 ≤ (his bs).sum - (los bs).sum := by
  obtain ⟨pre, post, rfl⟩ := mem_split' hp
  have := sum_up (bs := pre ++ post) fun q hq => h q (by
    rcases List.mem_append.mp hq with z | z
    · simp [z]
    · simp [z])
  unfold los his at *
  rw [sum_split, sum_split]
  omega
section
variable {bs : List (Int × Int)} {l g : Int}
def tf (bs : List (Int × Int)) (l g : Int) (p : Int × Int) : Int × Int := (mx p.1 (l - ((his bs).sum - p.2)), mn p.2 (g - ((los bs).sum - p.1)))
theorem ws_eq : ws bs l g = bs.map (tf bs l g) := rfl
theorem mx_ge {k m : Int} (h : m ≤ k) : mx k m = k := by unfold mx; split <;> omega
theorem mx_lt {k m : Int} (h : k ≤ m) : mx k m = m := by unfold mx; split <;> omega
theorem mn_ge {k m : Int} (h : k ≤ m) : mn k m = k := by unfold mn; split <;> omega
theorem mn_lt {k m : Int} (h : m ≤ k) : mn k m = m := by unfold mn; split <;> omega
theorem tf_in (h : Up bs) (hl : l ≤ g) (h1 : (los bs).sum ≤ g) (h2 : l ≤ (his bs).sum) {p : Int × Int} (hp : p ∈ bs) : p.1 ≤ (tf bs l g p).1 ∧ (tf bs l g p).1 ≤ (tf bs l g p).2 ∧ (tf bs l g p).2 ≤ p.2 := by
  have w := width_le h hp
  have u := h p hp
  have a := mx_le p.1 (l - ((his bs).sum - p.2))
  have b := mn_le p.2 (g - ((los bs).sum - p.1))
  unfold tf
  dsimp only
  omega
theorem ws_up (h : Up bs) (hl : l ≤ g) (h1 : (los bs).sum ≤ g) (h2 : l ≤ (his bs).sum) : Up (ws bs l g) := by
  intro q hq
  rw [ws_eq] at hq
  obtain ⟨p, hp, rfl⟩ := List.mem_map.mp hq
  exact (tf_in h hl h1 h2 hp).2.1
theorem ws_ok (ok : okB bs = true) (hl : l ≤ g) (h1 : (los bs).sum ≤ g) (h2 : l ≤ (his bs).sum) : okB (ws bs l g) = true := by
  have hk := okB_iff.mp ok
  have hu : Up bs := (okB_pos ok).2
  refine okB_iff.mpr ⟨by rw [ws_eq, List.length_map]; exact hk.1, fun q hq => ?_⟩
  rw [ws_eq] at hq
  obtain ⟨p, hp, rfl⟩ := List.mem_map.mp hq
  have := tf_in hu hl h1 h2 hp
  have := hk.2 p hp
  omega
theorem los_ws (cs : List (Int × Int)) : los (cs.map (tf bs l g)) = cs.map fun p => mx p.1 (p.2 - ((his bs).sum - l)) := by
  unfold los
  rw [List.map_map]
  refine List.map_congr_left fun p _ => ?_
  show mx p.1 (l - ((his bs).sum - p.2)) = _
  congr 1
  omega
theorem his_ws (cs : List (Int × Int)) : his (cs.map (tf bs l g)) = cs.map fun p => mn p.2 ((g - (los bs).sum) + p.1) := by
  unfold his
  rw [List.map_map]
  refine List.map_congr_left fun p _ => ?_
  show mn p.2 (g - ((los bs).sum - p.1)) = _
  congr 1
  omega
theorem ws_low (h : Up bs) (h1 : (los bs).sum ≤ l) (h2 : l ≤ (his bs).sum) : (los (ws bs l g)).sum ≤ l := by
  rw [ws_eq, los_ws]
  have := sum_mx (D := (his bs).sum - l) (by omega) h
  omega
theorem ws_high (h : Up bs) (h1 : (los bs).sum ≤ g) (h2 : g ≤ (his bs).sum) : g ≤ (his (ws bs l g)).sum := by
  rw [ws_eq, his_ws]
  have := sum_mn (C := g - (los bs).sum) (by omega) h
  omega
theorem up_rest {pre post : List (Int × Int)} {p : Int × Int} (h : Up (pre ++ p :: post)) : Up (pre ++ post) := fun q hq => h q (by
  rcases List.mem_append.mp hq with z | z
  · simp [z]
  · simp [z])
theorem ws_idem (h : Up bs) (hl : l ≤ g) (h1 : (los bs).sum ≤ l) (h2 : g ≤ (his bs).sum) : ws (ws bs l g) l g = ws bs l g := by
  show (ws bs l g).map _ = _
  conv => rhs; rw [← List.map_id (ws bs l g)]
  refine List.map_congr_left fun q hq => ?_
  rw [ws_eq] at hq
  obtain ⟨p, hp, rfl⟩ := List.mem_map.mp hq
  have hin := tf_in h hl (by omega) (by omega) hp
  have a := mx_le p.1 (l - ((his bs).sum - p.2))
  have b := mn_le p.2 (g - ((los bs).sum - p.1))
  have e1 : (tf bs l g p).1 = mx p.1 (l - ((his bs).sum - p.2)) := rfl
  have e2 : (tf bs l g p).2 = mn p.2 (g - ((los bs).sum - p.1)) := rfl
  obtain ⟨pre, post, hs⟩ := mem_split' hp
  have hu : Up (pre ++ post) := up_rest (p := p) (by rw [← hs]; exact h)
  have key : ∀ f : Int × Int → Int, (bs.map f).sum = f p + ((pre ++ post).map f).sum := fun f => by rw [hs]; exact sum_split
  have kT : (his (ws bs l g)).sum = (tf bs l g p).2 + ((pre ++ post).map fun p => mn p.2 ((g - (los bs).sum) + p.1)).sum := by
    rw [ws_eq, his_ws, key, e2]
    rw [show g - (los bs).sum + p.1 = g - ((los bs).sum - p.1) by omega]
  have kB : (los (ws bs l g)).sum = (tf bs l g p).1 + ((pre ++ post).map fun p => mx p.1 (p.2 - ((his bs).sum - l))).sum := by
    rw [ws_eq, los_ws, key, e1]
    rw [show p.2 - ((his bs).sum - l) = l - ((his bs).sum - p.2) by omega]
  have s1 := sum_mn (C := g - (los bs).sum) (by omega) hu
  have s2 := sum_mx (D := (his bs).sum - l) (by omega) hu
  have t1 : (his bs).sum = p.2 + (his (pre ++ post)).sum := key _
  have t2 : (los bs).sum = p.1 + (los (pre ++ post)).sum := key _
  rw [kT, kB]
  show (mx (tf bs l g p).1 _, mn (tf bs l g p).2 _) = tf bs l g p
  rw [mx_ge (by omega), mn_ge (by omega)]
theorem ws_full (h : Up bs) : ws bs (los bs).sum (his bs).sum = bs := by
  unfold ws
  conv => rhs; rw [← List.map_id bs]
  refine List.map_congr_left fun p hp => ?_
  have := width_le h hp
  rw [mx_ge (by omega), mn_ge (by omega)]
  rfl
theorem mt_map2 (f k : Int × Int → Int × Int) : ∀ cs : List (Int × Int), mt (cs.map f) (cs.map k) = cs.map fun p => (mx (f p).1 (k p).1, mn (f p).2 (k p).2)
  | [] => rfl
  | p :: cs => by rw [List.map_cons, List.map_cons, mt, mt_map2 f k cs]; rfl
theorem mt_ws (h : Up bs) (hl : l ≤ g) (h1 : (los bs).sum ≤ g) (h2 : l ≤ (his bs).sum) : mt bs (ws bs l g) = ws bs l g := by
  have := mt_map2 id (tf bs l g) bs
  rw [List.map_id] at this
  rw [ws_eq, this]
  refine List.map_congr_left fun p hp => ?_
  have := tf_in h hl h1 h2 hp
  rw [mx_lt (show (id p).1 ≤ _ from this.1), mn_lt (show _ ≤ (id p).2 from this.2.2)]
theorem mt_alone (hl : l ≤ g) : mt (ws bs l g) (ws bs l l) = ws bs l l := by
  rw [ws_eq, ws_eq, mt_map2]
  refine List.map_congr_left fun p hp => ?_
  have b := mn_le p.2 (g - ((los bs).sum - p.1))
  have c := mn_le p.2 (l - ((los bs).sum - p.1))
  have e1 : (tf bs l g p).1 = (tf bs l l p).1 := rfl
  have e2 : (tf bs l g p).2 = mn p.2 (g - ((los bs).sum - p.1)) := rfl
  have e3 : (tf bs l l p).2 = mn p.2 (l - ((los bs).sum - p.1)) := rfl
  rw [mx_ge (by omega), mn_lt (by omega), e1]
end
/-! ### the k-th value and the numbers above a limit -/
theorem kth_above {xs : List Int} {k : Nat} (hk : k < xs.length) (v : Int) : v < kth xs k ↔ (xs.length : Int) - k ≤ aboveC v xs := by
  have h1 : k < (isort xs).length := by rw [isort_len]; exact hk
  have e : kth xs k = (isort xs)[k] := by unfold kth; rw [List.getD_eq_getElem?_getD, List.getElem?_eq_getElem h1]; rfl
  have c := kth_iff h1 v
  have s : xs.countP (fun z => decide (z ≤ v)) + (xs.filter (fun z => decide (v < z))).length = xs.length := by
    clear e c h1 hk
    rw [← List.countP_eq_length_filter]
    induction xs with
    | nil => rfl
    | cons x xs ih =>
      simp only [List.countP_cons, List.length_cons]
      by_cases h : x ≤ v
      · simp [h, show ¬ v < x by omega]; omega
      · simp [h, show v < x by omega]; omega
  unfold aboveC
  rw [e]
  constructor
  · intro h
    have : ¬ k < xs.countP (fun z => decide (z ≤ v)) := fun z => by have := c.mpr z; omega
    omega
  · intro h
    have : ¬ (isort xs)[k] ≤ v := fun z => by have := c.mp z; omega
    omega
theorem perm_sum {xs ys : List Int} (h : xs.Perm ys) : xs.sum = ys.sum := by
  induction h with
  | nil => rfl
  | cons x _ ih => rw [List.sum_cons, List.sum_cons, ih]
  | swap x y l => simp only [List.sum_cons]; omega
  | trans _ _ a b => exact a.trans b
theorem kth_sum (xs : List Int) : ((List.range xs.length).map fun i => kth xs i).sum = xs.sum := by
  have e : ((List.range xs.length).map fun i => kth xs i) = isort xs := by
    refine List.ext_getElem (by simp [isort_len]) fun i h1 h2 => ?_
    rw [List.getElem_map, List.getElem_range]
    unfold kth
    rw [List.getD_eq_getElem?_getD, List.getElem?_eq_getElem h2]
    rfl
  rw [e]
  exact perm_sum (isort_perm xs)
end Pg

namespace Law
open PySem L2 Dt Pg
def top (i : Nat) : Stmt := PySem.Challenge.pw_boundstats_k14_whole_limits.main.body.getD i (.Pass ⟨0, 0, 0, 0⟩)
abbrev s_is_int : Stmt := top 7
abbrev s_is_bound : Stmt := top 8
abbrev s_is_bounds : Stmt := top 9
abbrev s_check_bounds : Stmt := top 10
abbrev s_common_divisor : Stmt := top 12
abbrev s_lowest : Stmt := top 13
abbrev s_less : Stmt := top 14
abbrev s_lows : Stmt := top 16
abbrev s_highs : Stmt := top 17
abbrev s_sum_range : Stmt := top 18
abbrev s_mean_range : Stmt := top 19
abbrev s_kth_range : Stmt := top 20
abbrev s_middle : Stmt := top 21
abbrev s_median_range : Stmt := top 22
abbrev s_least_range : Stmt := top 23
abbrev s_greatest_range : Stmt := top 24
abbrev s_above_range : Stmt := top 25
abbrev s_checked_facts : Stmt := top 27
abbrev s_with_sum : Stmt := top 28
abbrev s_met : Stmt := top 29
abbrev s_as_fractions : Stmt := top 32
abbrev s_figure_range : Stmt := top 33
abbrev s_check_figure : Stmt := top 34
abbrev s_can_reach : Stmt := top 35
abbrev s__law_start : Stmt := top 37
abbrev s__law_draw : Stmt := top 38
abbrev s__law_pick : Stmt := top 39
abbrev s__law_bounds : Stmt := top 40
abbrev s_law : Stmt := top 41
section
open PySem L2
def b_law : En → M Out := (sSeq (sSet 1 (dCall F__law_start (aCons (dVar 0) aNil)))
    (sSeq (sSet 2 (dCall F__law_bounds (aCons (dVar 1) (aCons (dC (.int 7)) aNil))))
    (sSeq (sSet 3 (dCall bLen (aCons (dVar 2) aNil)))
    (sSeq (sFor [4] bdN (iRangeD1 (aCons (dC (.int 6)) aNil))
    (sSeq (sSet 10 (dBin oSub (dCall F__law_draw (aCons (dVar 1) (aCons (dC (.int 100)) aNil))) (dC (.int 50))))
    (sSeq (sAsgT [6, 7] (bdT 2) (dCall F_above_range (aCons (dVar 2) (aCons (dVar 10) aNil))))
    (sSeq (sFor [11] bdN (iRangeD2 (aCons (dC (.int 1)) (aCons (dBin oAdd (dVar 3) (dC (.int 1))) aNil)))
    (sSeq (sAsgT [17, 18] (bdT 2) (dCall F_kth_range (aCons (dVar 2) (aCons (dVar 11) aNil))))
    (sIf (dOr (dTest (dBin oNe (dBin oGt (dVar 17) (dVar 10)) (dBin oGe (dVar 6) (dBin oSub (dBin oAdd (dVar 3) (dC (.int 1))) (dVar 11))))) (dTest (dBin oNe (dBin oGt (dVar 18) (dVar 10)) (dBin oGe (dVar 7) (dBin oSub (dBin oAdd (dVar 3) (dC (.int 1))) (dVar 11))))))
    (sRet (dC (.bool false)))
    sNil)))
    (sIf (dNot (dChain3 (dC (.int 0)) (dVar 6) (dVar 7) (dVar 3)))
    (sRet (dC (.bool false)))
    sNil)))))
    (sSeq (sSet 5 (dComp [11] [11] bdN (iRangeD2 (aCons (dC (.int 1)) (aCons (dBin oAdd (dVar 3) (dC (.int 1))) aNil))) yes (dCall F_kth_range (aCons (dVar 2) (aCons (dVar 11) aNil)))))
    (sSeq (sIf (dOr (dTest (dBin oNe (dCall bSum (aCons (dComp [17, 18] [17, 18] (bdT 2) (iSeqD (dVar 5)) yes (dVar 17)) aNil)) (dBin oIx (dCall F_sum_range (aCons (dVar 2) aNil)) (dC (.int 0))))) (dTest (dBin oNe (dCall bSum (aCons (dComp [17, 18] [17, 18] (bdT 2) (iSeqD (dVar 5)) yes (dVar 18)) aNil)) (dBin oIx (dCall F_sum_range (aCons (dVar 2) aNil)) (dC (.int 1))))))
    (sRet (dC (.bool false)))
    sNil)
    (sSeq (sFor [12, 11] (bdT 2) (iSeqD (dLst (aCons (dTup (aCons (dC (.str "least")) (aCons (dC (.int 1)) aNil))) (aCons (dTup (aCons (dC (.str "greatest")) (aCons (dVar 3) aNil))) aNil))))
    (sSeq (sAsgT [17, 18] (bdT 2) (dCall F_kth_range (aCons (dVar 2) (aCons (dVar 11) aNil))))
    (sIf (dOr (dTest (dBin oNotB (dCall F_can_reach (aCons (dVar 2) (aCons (dVar 12) (aCons (dTup (aCons (dVar 17) (aCons (dC (.int 1)) aNil))) aNil)))) (dC (.bool true)))) (dTest (dBin oNotB (dCall F_can_reach (aCons (dVar 2) (aCons (dVar 12) (aCons (dTup (aCons (dBin oAdd (dVar 18) (dC (.int 1))) (aCons (dC (.int 1)) aNil))) aNil)))) (dC (.bool false)))))
    (sRet (dC (.bool false)))
    sNil)))
    (sSeq (sAsgT [13, 14] (bdT 2) (dCall F_sum_range (aCons (dVar 2) aNil)))
    (sSeq (sSet 6 (dBin oAdd (dVar 13) (dCall F__law_draw (aCons (dVar 1) (aCons (dBin oAdd (dBin oSub (dVar 14) (dVar 13)) (dC (.int 1))) aNil)))))
    (sSeq (sSet 7 (dBin oAdd (dVar 6) (dCall F__law_draw (aCons (dVar 1) (aCons (dBin oAdd (dBin oSub (dVar 14) (dVar 6)) (dC (.int 1))) aNil)))))
    (sSeq (sSet 8 (dCall F_with_sum (aCons (dVar 2) (aCons (dVar 6) (aCons (dVar 7) aNil)))))
    (sSeq (sIf (dOr (dTest (dBin oNe (dCall F_met (aCons (dVar 2) (aCons (dVar 8) aNil))) (dVar 8))) (dOr (dTest (dBin oNe (dCall F_with_sum (aCons (dVar 8) (aCons (dVar 6) (aCons (dVar 7) aNil)))) (dVar 8))) (dTest (dBin oNe (dCall F_with_sum (aCons (dVar 2) (aCons (dVar 13) (aCons (dVar 14) aNil)))) (dVar 2)))))
    (sRet (dC (.bool false)))
    sNil)
    (sSeq (sAsgT [15, 16] (bdT 2) (dCall F_sum_range (aCons (dVar 8) aNil)))
    (sSeq (sSet 9 (dCall F_with_sum (aCons (dVar 2) (aCons (dVar 6) (aCons (dVar 6) aNil)))))
    (sSeq (sIf (dOr (dTest (dBin oGt (dVar 15) (dVar 6))) (dOr (dTest (dBin oLt (dVar 16) (dVar 7))) (dTest (dBin oNe (dVar 9) (dCall F_met (aCons (dVar 8) (aCons (dVar 9) aNil)))))))
    (sRet (dC (.bool false)))
    sNil)
    (sRet (dAndV (dBin oEq (dCall F_above_range (aCons (dVar 2) (aCons (dC (.int 50)) aNil))) (dTup (aCons (dC (.int 0)) (aCons (dC (.int 0)) aNil)))) (dBin oGe (dBin oIx (dCall F_above_range (aCons (dVar 2) (aCons (dBin oSub (dC (.int 0)) (dC (.int 50))) aNil))) (dC (.int 1))) (dBin oSub (dVar 3) (dCall bLen (aCons (dComp [17, 18] [17, 18] (bdT 2) (iSeqD (dVar 2)) (dTest (dBin oEq (dVar 18) (dBin oSub (dC (.int 0)) (dC (.int 50))))) (dC (.int 1))) aNil)))))))))))))))))))))
def F_law : List AV → M RV := runF 1 19 b_law
end
structure Facts (K : PySem.W.Frag) (mg : Str → Option Value) (mo : Mo) : Prop where
  d_is_int : ∃ fd, FunD K "is_int" "is_int" (defArgs s_is_int) (defBody s_is_int) (defScope s_is_int) [] [] (He.ga K "is_int") fd
  g_is_int : mg "is_int" = some (.ref (He.ga K "is_int"))
  d_is_bound : ∃ fd, FunD K "is_bound" "is_bound" (defArgs s_is_bound) (defBody s_is_bound) (defScope s_is_bound) [] [] (He.ga K "is_bound") fd
  g_is_bound : mg "is_bound" = some (.ref (He.ga K "is_bound"))
  d_is_bounds : ∃ fd, FunD K "is_bounds" "is_bounds" (defArgs s_is_bounds) (defBody s_is_bounds) (defScope s_is_bounds) [] [] (He.ga K "is_bounds") fd
  g_is_bounds : mg "is_bounds" = some (.ref (He.ga K "is_bounds"))
  d_check_bounds : ∃ fd, FunD K "check_bounds" "check_bounds" (defArgs s_check_bounds) (defBody s_check_bounds) (defScope s_check_bounds) [] [] (He.ga K "check_bounds") fd
  g_check_bounds : mg "check_bounds" = some (.ref (He.ga K "check_bounds"))
  d_common_divisor : ∃ fd, FunD K "common_divisor" "common_divisor" (defArgs s_common_divisor) (defBody s_common_divisor) (defScope s_common_divisor) [] [] (He.ga K "common_divisor") fd
  g_common_divisor : mg "common_divisor" = some (.ref (He.ga K "common_divisor"))
  d_lowest : ∃ fd, FunD K "lowest" "lowest" (defArgs s_lowest) (defBody s_lowest) (defScope s_lowest) [] [] (He.ga K "lowest") fd
  g_lowest : mg "lowest" = some (.ref (He.ga K "lowest"))
  d_less : ∃ fd, FunD K "less" "less" (defArgs s_less) (defBody s_less) (defScope s_less) [] [] (He.ga K "less") fd
  g_less : mg "less" = some (.ref (He.ga K "less"))
  d_lows : ∃ fd, FunD K "lows" "lows" (defArgs s_lows) (defBody s_lows) (defScope s_lows) [] [] (He.ga K "lows") fd
  g_lows : mg "lows" = some (.ref (He.ga K "lows"))
  d_highs : ∃ fd, FunD K "highs" "highs" (defArgs s_highs) (defBody s_highs) (defScope s_highs) [] [] (He.ga K "highs") fd
  g_highs : mg "highs" = some (.ref (He.ga K "highs"))
  d_sum_range : ∃ fd, FunD K "sum_range" "sum_range" (defArgs s_sum_range) (defBody s_sum_range) (defScope s_sum_range) [] [] (He.ga K "sum_range") fd
  g_sum_range : mg "sum_range" = some (.ref (He.ga K "sum_range"))
  d_mean_range : ∃ fd, FunD K "mean_range" "mean_range" (defArgs s_mean_range) (defBody s_mean_range) (defScope s_mean_range) [] [] (He.ga K "mean_range") fd
  g_mean_range : mg "mean_range" = some (.ref (He.ga K "mean_range"))
  d_kth_range : ∃ fd, FunD K "kth_range" "kth_range" (defArgs s_kth_range) (defBody s_kth_range) (defScope s_kth_range) [] [] (He.ga K "kth_range") fd
  g_kth_range : mg "kth_range" = some (.ref (He.ga K "kth_range"))
  d_middle : ∃ fd, FunD K "middle" "middle" (defArgs s_middle) (defBody s_middle) (defScope s_middle) [] [] (He.ga K "middle") fd
  g_middle : mg "middle" = some (.ref (He.ga K "middle"))
  d_median_range : ∃ fd, FunD K "median_range" "median_range" (defArgs s_median_range) (defBody s_median_range) (defScope s_median_range) [] [] (He.ga K "median_range") fd
  g_median_range : mg "median_range" = some (.ref (He.ga K "median_range"))
  d_least_range : ∃ fd, FunD K "least_range" "least_range" (defArgs s_least_range) (defBody s_least_range) (defScope s_least_range) [] [] (He.ga K "least_range") fd
  g_least_range : mg "least_range" = some (.ref (He.ga K "least_range"))
  d_greatest_range : ∃ fd, FunD K "greatest_range" "greatest_range" (defArgs s_greatest_range) (defBody s_greatest_range) (defScope s_greatest_range) [] [] (He.ga K "greatest_range") fd
  g_greatest_range : mg "greatest_range" = some (.ref (He.ga K "greatest_range"))
  d_above_range : ∃ fd, FunD K "above_range" "above_range" (defArgs s_above_range) (defBody s_above_range) (defScope s_above_range) [] [] (He.ga K "above_range") fd
  g_above_range : mg "above_range" = some (.ref (He.ga K "above_range"))
  d_checked_facts : ∃ fd, FunD K "checked" "checked" (defArgs s_checked_facts) (defBody s_checked_facts) (defScope s_checked_facts) [] [] (He.ga K "checked") fd
  g_checked_facts : mg "checked" = some (.ref (He.ga K "checked"))
  d_with_sum : ∃ fd, FunD K "with_sum" "with_sum" (defArgs s_with_sum) (defBody s_with_sum) (defScope s_with_sum) [] [] (He.ga K "with_sum") fd
  g_with_sum : mg "with_sum" = some (.ref (He.ga K "with_sum"))
  d_met : ∃ fd, FunD K "met" "met" (defArgs s_met) (defBody s_met) (defScope s_met) [] [] (He.ga K "met") fd
  g_met : mg "met" = some (.ref (He.ga K "met"))
  d_as_fractions : ∃ fd, FunD K "as_fractions" "as_fractions" (defArgs s_as_fractions) (defBody s_as_fractions) (defScope s_as_fractions) [] [] (He.ga K "as_fractions") fd
  g_as_fractions : mg "as_fractions" = some (.ref (He.ga K "as_fractions"))
  d_figure_range : ∃ fd, FunD K "figure_range" "figure_range" (defArgs s_figure_range) (defBody s_figure_range) (defScope s_figure_range) [] [] (He.ga K "figure_range") fd
  g_figure_range : mg "figure_range" = some (.ref (He.ga K "figure_range"))
  d_check_figure : ∃ fd, FunD K "check_figure" "check_figure" (defArgs s_check_figure) (defBody s_check_figure) (defScope s_check_figure) [] [] (He.ga K "check_figure") fd
  g_check_figure : mg "check_figure" = some (.ref (He.ga K "check_figure"))
  d_can_reach : ∃ fd, FunD K "can_reach" "can_reach" (defArgs s_can_reach) (defBody s_can_reach) (defScope s_can_reach) [] [] (He.ga K "can_reach") fd
  g_can_reach : mg "can_reach" = some (.ref (He.ga K "can_reach"))
  d__law_start : ∃ fd, FunD K "_law_start" "_law_start" (defArgs s__law_start) (defBody s__law_start) (defScope s__law_start) [] [] (He.ga K "_law_start") fd
  g__law_start : mg "_law_start" = some (.ref (He.ga K "_law_start"))
  d__law_draw : ∃ fd, FunD K "_law_draw" "_law_draw" (defArgs s__law_draw) (defBody s__law_draw) (defScope s__law_draw) [] [] (He.ga K "_law_draw") fd
  g__law_draw : mg "_law_draw" = some (.ref (He.ga K "_law_draw"))
  d__law_pick : ∃ fd, FunD K "_law_pick" "_law_pick" (defArgs s__law_pick) (defBody s__law_pick) (defScope s__law_pick) [] [] (He.ga K "_law_pick") fd
  g__law_pick : mg "_law_pick" = some (.ref (He.ga K "_law_pick"))
  d__law_bounds : ∃ fd, FunD K "_law_bounds" "_law_bounds" (defArgs s__law_bounds) (defBody s__law_bounds) (defScope s__law_bounds) [] [] (He.ga K "_law_bounds") fd
  g__law_bounds : mg "_law_bounds" = some (.ref (He.ga K "_law_bounds"))
  d_law : ∃ fd, FunD K "law" "law" (defArgs s_law) (defBody s_law) (defScope s_law) [] [] (He.ga K "law") fd
  g_law : mg "law" = some (.ref (He.ga K "law"))
  m_abs : mg "abs" = none
  m_all : mg "all" = none
  m_any : mg "any" = none
  m_bool : mg "bool" = none
  m_int : mg "int" = none
  m_isinstance : mg "isinstance" = none
  m_len : mg "len" = none
  m_list : mg "list" = none
  m_max : mg "max" = none
  m_min : mg "min" = none
  m_range : mg "range" = none
  m_sorted : mg "sorted" = none
  m_str : mg "str" = none
  m_sum : mg "sum" = none
  m_tuple : mg "tuple" = none
  m_zip : mg "zip" = none
  c_FIGURES : mg "FIGURES" = some (.ref (He.ga K "FIGURES"))
  t_FIGURES : ∀ H, SqT K H (He.ga K "FIGURES") ((["sum", "mean", "median", "least", "greatest"] : List Str).map V.str)
  c_MOST_BOUND : ∃ t, mg "MOST_BOUND" = some (.int 50 t)
  c_MOST_VALUES : ∃ t, mg "MOST_VALUES" = some (.int 7 t)
  e_BadBounds : ExD K mg mo "BadBounds" .bounds
  e_BadNumber : ExD K mg mo "BadNumber" .number
  e_NotFound : ExD K mg mo "NotFound" .missing
section
variable {P : Program} {w : World} {K : PySem.W.Frag} {mg : Str → Option Value} {base : Heap} {mo : Mo}
theorem sc_is_int : FnScope ["value", "low", "high"] ["value", "low", "high"] (defScope s_is_int) := ⟨rfl, rfl, rfl, by decide +kernel, rfl, by decide +kernel, by decide +kernel⟩
theorem ok_is_int (T : Facts K mg mo) : FnD P w K mg base mo "is_int" 3 F_is_int := by
  obtain ⟨fd, F⟩ := T.d_is_int
  refine ⟨_, fd, ["value", "low", "high"], fn_d F sc_is_int rfl rfl (fun cdv A outer s H E hr => ?_), T.g_is_int, F.kp, F.bindsN fun _ _ _ _ _ _ us hl => match us, hl with | [_, _, _], _ => rfl⟩
  obtain ⟨tk, px, po⟩ := pass_cx (P := P) (w := w) (K := K) (mg := mg) (base := base) (N := ["value", "low", "high"]) (qual := "is_int") (scope := defScope s_is_int) (f := He.ga K "is_int") (cdv := cdv) (A := A) (outer := outer) (s := s) (H := H) (E := E)
  exact (dss_one (ds_ret (de_and (de_isi .int T.m_isinstance T.m_int (de_var 0)) (de_and (de_not (de_isi .bool T.m_isinstance T.m_bool (de_var 0))) (de_one (de_lele (de_var 1) (de_var 0) (de_var 2)))))))
theorem sc_is_bound : FnScope ["value"] ["value"] (defScope s_is_bound) := ⟨rfl, rfl, rfl, by decide +kernel, rfl, by decide +kernel, by decide +kernel⟩
theorem ok_is_bound (T : Facts K mg mo) : FnD P w K mg base mo "is_bound" 4 F_is_bound := by
  obtain ⟨fd, F⟩ := T.d_is_bound
  refine ⟨_, fd, ["value"], fn_d F sc_is_bound rfl rfl (fun cdv A outer s H E hr => ?_), T.g_is_bound, F.kp, F.bindsN fun _ _ _ _ _ _ us hl => match us, hl with | [_], _ => rfl⟩
  obtain ⟨tk, px, po⟩ := pass_cx (P := P) (w := w) (K := K) (mg := mg) (base := base) (N := ["value"]) (qual := "is_bound") (scope := defScope s_is_bound) (f := He.ga K "is_bound") (cdv := cdv) (A := A) (outer := outer) (s := s) (H := H) (E := E)
  exact (dss_cons (ds_if (DW.dt (dw_or (dt_not (dt_val (de_isi .tuple T.m_isinstance T.m_tuple (de_var 0)))) (dw_or1 (dt_ne (k := 1) (hr.mono (by decide)) (de_len T.m_len (da_cons (de_var 0) da_nil)) de_int)))) (dss_one (ds_ret de_bl)) dss_nil)
    (dss_one (ds_ret (de_and (de_call (ok_is_int T) (hr.mono (by decide)) px (da_cons (de_ix (de_var 0) de_int) (da_cons (de_neg (de_gint T.c_MOST_BOUND)) (da_cons (de_gint T.c_MOST_BOUND) da_nil)))) (de_one (de_call (ok_is_int T) (hr.mono (by decide)) px (da_cons (de_ix (de_var 0) de_int) (da_cons (de_ix (de_var 0) de_int) (da_cons (de_gint T.c_MOST_BOUND) da_nil)))))))))
theorem sc_is_bounds : FnScope ["value", "one"] ["value"] (defScope s_is_bounds) := ⟨rfl, rfl, rfl, by decide +kernel, rfl, by decide +kernel, by decide +kernel⟩
theorem ok_is_bounds (T : Facts K mg mo) : FnD P w K mg base mo "is_bounds" 5 F_is_bounds := by
  obtain ⟨fd, F⟩ := T.d_is_bounds
  refine ⟨_, fd, ["value"], fn_d F sc_is_bounds rfl rfl (fun cdv A outer s H E hr => ?_), T.g_is_bounds, F.kp, F.bindsN fun _ _ _ _ _ _ us hl => match us, hl with | [_], _ => rfl⟩
  obtain ⟨tk, px, po⟩ := pass_cx (P := P) (w := w) (K := K) (mg := mg) (base := base) (N := ["value", "one"]) (qual := "is_bounds") (scope := defScope s_is_bounds) (f := He.ga K "is_bounds") (cdv := cdv) (A := A) (outer := outer) (s := s) (H := H) (E := E)
  exact (dss_cons (ds_if (DW.dt (dw_or (dt_not (dt_val (de_isi .list T.m_isinstance T.m_list (de_var 0)))) (dw_or1 (dt_not (dt_lele de_int (de_len T.m_len (da_cons (de_var 0) da_nil)) (de_gint T.c_MOST_VALUES)))))) (dss_one (ds_ret de_bl)) dss_nil)
    (dss_one (ds_ret (de_all rfl T.m_all (da_cons (de_comp (own := [("one", 1)]) rfl sc_is_bounds.nd (di_seq (de_var 0)) (blkOk_by (by kernel_rfl)) (fun _ _ _ _ _ => (dg_name (i := 1) sc_is_bounds.nd)) (fun _ _ _ _ _ => dts_nil) (fun _ _ _ _ _ => (de_call (ok_is_bound T) (hr.mono (by decide)) passL (da_cons (de_var 1) da_nil)))) da_nil)))))
theorem sc_check_bounds : FnScope ["value"] ["value"] (defScope s_check_bounds) := ⟨rfl, rfl, rfl, by decide +kernel, rfl, by decide +kernel, by decide +kernel⟩
theorem ok_check_bounds (T : Facts K mg mo) : FnD P w K mg base mo "check_bounds" 6 F_check_bounds := by
  obtain ⟨fd, F⟩ := T.d_check_bounds
  refine ⟨_, fd, ["value"], fn_d F sc_check_bounds rfl rfl (fun cdv A outer s H E hr => ?_), T.g_check_bounds, F.kp, F.bindsN fun _ _ _ _ _ _ us hl => match us, hl with | [_], _ => rfl⟩
  obtain ⟨tk, px, po⟩ := pass_cx (P := P) (w := w) (K := K) (mg := mg) (base := base) (N := ["value"]) (qual := "check_bounds") (scope := defScope s_check_bounds) (f := He.ga K "check_bounds") (cdv := cdv) (A := A) (outer := outer) (s := s) (H := H) (E := E)
  exact (dss_one (ds_if (dt_not (dt_val (de_call (ok_is_bounds T) (hr.mono (by decide)) px (da_cons (de_var 0) da_nil)))) (dss_one (ds_raise T.e_BadBounds rfl tk)) dss_nil))
theorem sc_common_divisor : FnScope ["one", "other"] ["one", "other"] (defScope s_common_divisor) := ⟨rfl, rfl, rfl, by decide +kernel, rfl, by decide +kernel, by decide +kernel⟩
theorem ok_common_divisor (T : Facts K mg mo) : FnD P w K mg base mo "common_divisor" 3 F_common_divisor := by
  obtain ⟨fd, F⟩ := T.d_common_divisor
  refine ⟨_, fd, ["one", "other"], fn_d F sc_common_divisor rfl rfl (fun cdv A outer s H E hr => ?_), T.g_common_divisor, F.kp, F.bindsN fun _ _ _ _ _ _ us hl => match us, hl with | [_, _], _ => rfl⟩
  obtain ⟨tk, px, po⟩ := pass_cx (P := P) (w := w) (K := K) (mg := mg) (base := base) (N := ["one", "other"]) (qual := "common_divisor") (scope := defScope s_common_divisor) (f := He.ga K "common_divisor") (cdv := cdv) (A := A) (outer := outer) (s := s) (H := H) (E := E)
  exact (dss_cons (ds_par (i := 0) (j := 1) rfl sc_common_divisor.nd (da_cons (de_abs T.m_abs (da_cons (de_var 0) da_nil)) (da_cons (de_abs T.m_abs (da_cons (de_var 1) da_nil)) da_nil)))
    (dss_cons (ds_while fuel po (dt_ne (k := 1) (hr.mono (by decide)) (de_var 1) de_int) (dss_one (ds_par (i := 0) (j := 1) rfl sc_common_divisor.nd (da_cons (de_var 1) (da_cons (de_mod (de_var 0) (de_var 1)) da_nil)))))
    (dss_one (ds_retV 0))))
theorem sc_lowest : FnScope ["top", "below", "divisor"] ["top", "below"] (defScope s_lowest) := ⟨rfl, rfl, rfl, by decide +kernel, rfl, by decide +kernel, by decide +kernel⟩
theorem ok_lowest (T : Facts K mg mo) : FnD P w K mg base mo "lowest" 4 F_lowest := by
  obtain ⟨fd, F⟩ := T.d_lowest
  refine ⟨_, fd, ["top", "below"], fn_d F sc_lowest rfl rfl (fun cdv A outer s H E hr => ?_), T.g_lowest, F.kp, F.bindsN fun _ _ _ _ _ _ us hl => match us, hl with | [_, _], _ => rfl⟩
  obtain ⟨tk, px, po⟩ := pass_cx (P := P) (w := w) (K := K) (mg := mg) (base := base) (N := ["top", "below", "divisor"]) (qual := "lowest") (scope := defScope s_lowest) (f := He.ga K "lowest") (cdv := cdv) (A := A) (outer := outer) (s := s) (H := H) (E := E)
  exact (dss_cons (ds_set (i := 2) sc_lowest.nd (de_call (ok_common_divisor T) (hr.mono (by decide)) px (da_cons (de_var 0) (da_cons (de_var 1) da_nil))))
    (dss_one (ds_ret (de_tup (da_cons (de_div (de_var 0) (de_var 2)) (da_cons (de_div (de_var 1) (de_var 2)) da_nil))))))
theorem sc_less : FnScope ["one", "other"] ["one", "other"] (defScope s_less) := ⟨rfl, rfl, rfl, by decide +kernel, rfl, by decide +kernel, by decide +kernel⟩
theorem ok_less (T : Facts K mg mo) : FnD P w K mg base mo "less" 3 F_less := by
  obtain ⟨fd, F⟩ := T.d_less
  refine ⟨_, fd, ["one", "other"], fn_d F sc_less rfl rfl (fun cdv A outer s H E hr => ?_), T.g_less, F.kp, F.bindsN fun _ _ _ _ _ _ us hl => match us, hl with | [_, _], _ => rfl⟩
  obtain ⟨tk, px, po⟩ := pass_cx (P := P) (w := w) (K := K) (mg := mg) (base := base) (N := ["one", "other"]) (qual := "less") (scope := defScope s_less) (f := He.ga K "less") (cdv := cdv) (A := A) (outer := outer) (s := s) (H := H) (E := E)
  exact (dss_one (ds_ret (de_lt (de_mul (de_ix (de_var 0) de_int) (de_ix (de_var 1) de_int)) (de_mul (de_ix (de_var 1) de_int) (de_ix (de_var 0) de_int)))))
theorem sc_lows : FnScope ["bounds", "low", "high"] ["bounds"] (defScope s_lows) := ⟨rfl, rfl, rfl, by decide +kernel, rfl, by decide +kernel, by decide +kernel⟩
theorem ok_lows (T : Facts K mg mo) : FnD P w K mg base mo "lows" 3 F_lows := by
  obtain ⟨fd, F⟩ := T.d_lows
  refine ⟨_, fd, ["bounds"], fn_d F sc_lows rfl rfl (fun cdv A outer s H E hr => ?_), T.g_lows, F.kp, F.bindsN fun _ _ _ _ _ _ us hl => match us, hl with | [_], _ => rfl⟩
  obtain ⟨tk, px, po⟩ := pass_cx (P := P) (w := w) (K := K) (mg := mg) (base := base) (N := ["bounds", "low", "high"]) (qual := "lows") (scope := defScope s_lows) (f := He.ga K "lows") (cdv := cdv) (A := A) (outer := outer) (s := s) (H := H) (E := E)
  exact (dss_one (ds_ret (de_comp (own := [("low", 1), ("high", 2)]) rfl sc_lows.nd (di_seq (de_var 0)) (blkOk_by (by kernel_rfl)) (fun _ _ _ _ _ => (dg_tup rfl (dgs_cons (i := 1) sc_lows.nd (dgs_cons (i := 2) sc_lows.nd dgs_nil)))) (fun _ _ _ _ _ => dts_nil) (fun _ _ _ _ _ => (de_var 1)))))
theorem sc_highs : FnScope ["bounds", "low", "high"] ["bounds"] (defScope s_highs) := ⟨rfl, rfl, rfl, by decide +kernel, rfl, by decide +kernel, by decide +kernel⟩
theorem ok_highs (T : Facts K mg mo) : FnD P w K mg base mo "highs" 3 F_highs := by
  obtain ⟨fd, F⟩ := T.d_highs
  refine ⟨_, fd, ["bounds"], fn_d F sc_highs rfl rfl (fun cdv A outer s H E hr => ?_), T.g_highs, F.kp, F.bindsN fun _ _ _ _ _ _ us hl => match us, hl with | [_], _ => rfl⟩
  obtain ⟨tk, px, po⟩ := pass_cx (P := P) (w := w) (K := K) (mg := mg) (base := base) (N := ["bounds", "low", "high"]) (qual := "highs") (scope := defScope s_highs) (f := He.ga K "highs") (cdv := cdv) (A := A) (outer := outer) (s := s) (H := H) (E := E)
  exact (dss_one (ds_ret (de_comp (own := [("low", 1), ("high", 2)]) rfl sc_highs.nd (di_seq (de_var 0)) (blkOk_by (by kernel_rfl)) (fun _ _ _ _ _ => (dg_tup rfl (dgs_cons (i := 1) sc_highs.nd (dgs_cons (i := 2) sc_highs.nd dgs_nil)))) (fun _ _ _ _ _ => dts_nil) (fun _ _ _ _ _ => (de_var 2)))))
theorem sc_sum_range : FnScope ["bounds"] ["bounds"] (defScope s_sum_range) := ⟨rfl, rfl, rfl, by decide +kernel, rfl, by decide +kernel, by decide +kernel⟩
theorem ok_sum_range (T : Facts K mg mo) : FnD P w K mg base mo "sum_range" 7 F_sum_range := by
  obtain ⟨fd, F⟩ := T.d_sum_range
  refine ⟨_, fd, ["bounds"], fn_d F sc_sum_range rfl rfl (fun cdv A outer s H E hr => ?_), T.g_sum_range, F.kp, F.bindsN fun _ _ _ _ _ _ us hl => match us, hl with | [_], _ => rfl⟩
  obtain ⟨tk, px, po⟩ := pass_cx (P := P) (w := w) (K := K) (mg := mg) (base := base) (N := ["bounds"]) (qual := "sum_range") (scope := defScope s_sum_range) (f := He.ga K "sum_range") (cdv := cdv) (A := A) (outer := outer) (s := s) (H := H) (E := E)
  exact (dss_cons (ds_expr (de_call (ok_check_bounds T) (hr.mono (by decide)) px (da_cons (de_var 0) da_nil)))
    (dss_one (ds_ret (de_tup (da_cons (de_sum rfl T.m_sum (da_cons (de_call (ok_lows T) (hr.mono (by decide)) px (da_cons (de_var 0) da_nil)) da_nil)) (da_cons (de_sum rfl T.m_sum (da_cons (de_call (ok_highs T) (hr.mono (by decide)) px (da_cons (de_var 0) da_nil)) da_nil)) da_nil))))))
theorem sc_mean_range : FnScope ["bounds"] ["bounds"] (defScope s_mean_range) := ⟨rfl, rfl, rfl, by decide +kernel, rfl, by decide +kernel, by decide +kernel⟩
theorem ok_mean_range (T : Facts K mg mo) : FnD P w K mg base mo "mean_range" 7 F_mean_range := by
  obtain ⟨fd, F⟩ := T.d_mean_range
  refine ⟨_, fd, ["bounds"], fn_d F sc_mean_range rfl rfl (fun cdv A outer s H E hr => ?_), T.g_mean_range, F.kp, F.bindsN fun _ _ _ _ _ _ us hl => match us, hl with | [_], _ => rfl⟩
  obtain ⟨tk, px, po⟩ := pass_cx (P := P) (w := w) (K := K) (mg := mg) (base := base) (N := ["bounds"]) (qual := "mean_range") (scope := defScope s_mean_range) (f := He.ga K "mean_range") (cdv := cdv) (A := A) (outer := outer) (s := s) (H := H) (E := E)
  exact (dss_cons (ds_expr (de_call (ok_check_bounds T) (hr.mono (by decide)) px (da_cons (de_var 0) da_nil)))
    (dss_one (ds_ret (de_tup (da_cons (de_call (ok_lowest T) (hr.mono (by decide)) px (da_cons (de_sum rfl T.m_sum (da_cons (de_call (ok_lows T) (hr.mono (by decide)) px (da_cons (de_var 0) da_nil)) da_nil)) (da_cons (de_len T.m_len (da_cons (de_var 0) da_nil)) da_nil))) (da_cons (de_call (ok_lowest T) (hr.mono (by decide)) px (da_cons (de_sum rfl T.m_sum (da_cons (de_call (ok_highs T) (hr.mono (by decide)) px (da_cons (de_var 0) da_nil)) da_nil)) (da_cons (de_len T.m_len (da_cons (de_var 0) da_nil)) da_nil))) da_nil))))))
theorem sc_kth_range : FnScope ["bounds", "number"] ["bounds", "number"] (defScope s_kth_range) := ⟨rfl, rfl, rfl, by decide +kernel, rfl, by decide +kernel, by decide +kernel⟩
theorem ok_kth_range (T : Facts K mg mo) : FnD P w K mg base mo "kth_range" 7 F_kth_range := by
  obtain ⟨fd, F⟩ := T.d_kth_range
  refine ⟨_, fd, ["bounds", "number"], fn_d F sc_kth_range rfl rfl (fun cdv A outer s H E hr => ?_), T.g_kth_range, F.kp, F.bindsN fun _ _ _ _ _ _ us hl => match us, hl with | [_, _], _ => rfl⟩
  obtain ⟨tk, px, po⟩ := pass_cx (P := P) (w := w) (K := K) (mg := mg) (base := base) (N := ["bounds", "number"]) (qual := "kth_range") (scope := defScope s_kth_range) (f := He.ga K "kth_range") (cdv := cdv) (A := A) (outer := outer) (s := s) (H := H) (E := E)
  exact (dss_cons (ds_expr (de_call (ok_check_bounds T) (hr.mono (by decide)) px (da_cons (de_var 0) da_nil)))
    (dss_cons (ds_if (dt_not (dt_val (de_call (ok_is_int T) (hr.mono (by decide)) px (da_cons (de_var 1) (da_cons de_int (da_cons (de_len T.m_len (da_cons (de_var 0) da_nil)) da_nil)))))) (dss_one (ds_raise T.e_BadNumber rfl tk)) dss_nil)
    (dss_one (ds_ret (de_tup (da_cons (de_ix (de_sorted T.m_sorted (da_cons (de_call (ok_lows T) (hr.mono (by decide)) px (da_cons (de_var 0) da_nil)) da_nil)) (de_sub (de_var 1) de_int)) (da_cons (de_ix (de_sorted T.m_sorted (da_cons (de_call (ok_highs T) (hr.mono (by decide)) px (da_cons (de_var 0) da_nil)) da_nil)) (de_sub (de_var 1) de_int)) da_nil)))))))
theorem sc_middle : FnScope ["values", "ordered", "size"] ["values"] (defScope s_middle) := ⟨rfl, rfl, rfl, by decide +kernel, rfl, by decide +kernel, by decide +kernel⟩
theorem ok_middle (T : Facts K mg mo) : FnD P w K mg base mo "middle" 5 F_middle := by
  obtain ⟨fd, F⟩ := T.d_middle
  refine ⟨_, fd, ["values"], fn_d F sc_middle rfl rfl (fun cdv A outer s H E hr => ?_), T.g_middle, F.kp, F.bindsN fun _ _ _ _ _ _ us hl => match us, hl with | [_], _ => rfl⟩
  obtain ⟨tk, px, po⟩ := pass_cx (P := P) (w := w) (K := K) (mg := mg) (base := base) (N := ["values", "ordered", "size"]) (qual := "middle") (scope := defScope s_middle) (f := He.ga K "middle") (cdv := cdv) (A := A) (outer := outer) (s := s) (H := H) (E := E)
  exact (dss_cons (ds_set (i := 1) sc_middle.nd (de_sorted T.m_sorted (da_cons (de_var 0) da_nil)))
    (dss_cons (ds_set (i := 2) sc_middle.nd (de_len T.m_len (da_cons (de_var 1) da_nil)))
    (dss_one (ds_ret (de_call (ok_lowest T) (hr.mono (by decide)) px (da_cons (de_add (de_ix (de_var 1) (de_div (de_sub (de_var 2) de_int) de_int)) (de_ix (de_var 1) (de_div (de_var 2) de_int))) (da_cons de_int da_nil)))))))
theorem sc_median_range : FnScope ["bounds"] ["bounds"] (defScope s_median_range) := ⟨rfl, rfl, rfl, by decide +kernel, rfl, by decide +kernel, by decide +kernel⟩
theorem ok_median_range (T : Facts K mg mo) : FnD P w K mg base mo "median_range" 7 F_median_range := by
  obtain ⟨fd, F⟩ := T.d_median_range
  refine ⟨_, fd, ["bounds"], fn_d F sc_median_range rfl rfl (fun cdv A outer s H E hr => ?_), T.g_median_range, F.kp, F.bindsN fun _ _ _ _ _ _ us hl => match us, hl with | [_], _ => rfl⟩
  obtain ⟨tk, px, po⟩ := pass_cx (P := P) (w := w) (K := K) (mg := mg) (base := base) (N := ["bounds"]) (qual := "median_range") (scope := defScope s_median_range) (f := He.ga K "median_range") (cdv := cdv) (A := A) (outer := outer) (s := s) (H := H) (E := E)
  exact (dss_cons (ds_expr (de_call (ok_check_bounds T) (hr.mono (by decide)) px (da_cons (de_var 0) da_nil)))
    (dss_one (ds_ret (de_tup (da_cons (de_call (ok_middle T) (hr.mono (by decide)) px (da_cons (de_call (ok_lows T) (hr.mono (by decide)) px (da_cons (de_var 0) da_nil)) da_nil)) (da_cons (de_call (ok_middle T) (hr.mono (by decide)) px (da_cons (de_call (ok_highs T) (hr.mono (by decide)) px (da_cons (de_var 0) da_nil)) da_nil)) da_nil))))))
theorem sc_least_range : FnScope ["bounds"] ["bounds"] (defScope s_least_range) := ⟨rfl, rfl, rfl, by decide +kernel, rfl, by decide +kernel, by decide +kernel⟩
theorem ok_least_range (T : Facts K mg mo) : FnD P w K mg base mo "least_range" 7 F_least_range := by
  obtain ⟨fd, F⟩ := T.d_least_range
  refine ⟨_, fd, ["bounds"], fn_d F sc_least_range rfl rfl (fun cdv A outer s H E hr => ?_), T.g_least_range, F.kp, F.bindsN fun _ _ _ _ _ _ us hl => match us, hl with | [_], _ => rfl⟩
  obtain ⟨tk, px, po⟩ := pass_cx (P := P) (w := w) (K := K) (mg := mg) (base := base) (N := ["bounds"]) (qual := "least_range") (scope := defScope s_least_range) (f := He.ga K "least_range") (cdv := cdv) (A := A) (outer := outer) (s := s) (H := H) (E := E)
  exact (dss_cons (ds_expr (de_call (ok_check_bounds T) (hr.mono (by decide)) px (da_cons (de_var 0) da_nil)))
    (dss_one (ds_ret (de_tup (da_cons (de_min1 rfl T.m_min (da_cons (de_call (ok_lows T) (hr.mono (by decide)) px (da_cons (de_var 0) da_nil)) da_nil)) (da_cons (de_min1 rfl T.m_min (da_cons (de_call (ok_highs T) (hr.mono (by decide)) px (da_cons (de_var 0) da_nil)) da_nil)) da_nil))))))
theorem sc_greatest_range : FnScope ["bounds"] ["bounds"] (defScope s_greatest_range) := ⟨rfl, rfl, rfl, by decide +kernel, rfl, by decide +kernel, by decide +kernel⟩
theorem ok_greatest_range (T : Facts K mg mo) : FnD P w K mg base mo "greatest_range" 7 F_greatest_range := by
  obtain ⟨fd, F⟩ := T.d_greatest_range
  refine ⟨_, fd, ["bounds"], fn_d F sc_greatest_range rfl rfl (fun cdv A outer s H E hr => ?_), T.g_greatest_range, F.kp, F.bindsN fun _ _ _ _ _ _ us hl => match us, hl with | [_], _ => rfl⟩
  obtain ⟨tk, px, po⟩ := pass_cx (P := P) (w := w) (K := K) (mg := mg) (base := base) (N := ["bounds"]) (qual := "greatest_range") (scope := defScope s_greatest_range) (f := He.ga K "greatest_range") (cdv := cdv) (A := A) (outer := outer) (s := s) (H := H) (E := E)
  exact (dss_cons (ds_expr (de_call (ok_check_bounds T) (hr.mono (by decide)) px (da_cons (de_var 0) da_nil)))
    (dss_one (ds_ret (de_tup (da_cons (de_max1 rfl T.m_max (da_cons (de_call (ok_lows T) (hr.mono (by decide)) px (da_cons (de_var 0) da_nil)) da_nil)) (da_cons (de_max1 rfl T.m_max (da_cons (de_call (ok_highs T) (hr.mono (by decide)) px (da_cons (de_var 0) da_nil)) da_nil)) da_nil))))))
theorem sc_above_range : FnScope ["bounds", "limit", "low", "high"] ["bounds", "limit"] (defScope s_above_range) := ⟨rfl, rfl, rfl, by decide +kernel, rfl, by decide +kernel, by decide +kernel⟩
theorem ok_above_range (T : Facts K mg mo) : FnD P w K mg base mo "above_range" 7 F_above_range := by
  obtain ⟨fd, F⟩ := T.d_above_range
  refine ⟨_, fd, ["bounds", "limit"], fn_d F sc_above_range rfl rfl (fun cdv A outer s H E hr => ?_), T.g_above_range, F.kp, F.bindsN fun _ _ _ _ _ _ us hl => match us, hl with | [_, _], _ => rfl⟩
  obtain ⟨tk, px, po⟩ := pass_cx (P := P) (w := w) (K := K) (mg := mg) (base := base) (N := ["bounds", "limit", "low", "high"]) (qual := "above_range") (scope := defScope s_above_range) (f := He.ga K "above_range") (cdv := cdv) (A := A) (outer := outer) (s := s) (H := H) (E := E)
  exact (dss_cons (ds_expr (de_call (ok_check_bounds T) (hr.mono (by decide)) px (da_cons (de_var 0) da_nil)))
    (dss_cons (ds_if (dt_not (dt_val (de_call (ok_is_int T) (hr.mono (by decide)) px (da_cons (de_var 1) (da_cons (de_neg de_int) (da_cons de_int da_nil)))))) (dss_one (ds_raise T.e_BadNumber rfl tk)) dss_nil)
    (dss_one (ds_ret (de_tup (da_cons (de_len T.m_len (da_cons (de_comp (own := [("low", 2), ("high", 3)]) rfl sc_above_range.nd (di_seq (de_var 0)) (blkOk_by (by kernel_rfl)) (fun _ _ _ _ _ => (dg_tup rfl (dgs_cons (i := 2) sc_above_range.nd (dgs_cons (i := 3) sc_above_range.nd dgs_nil)))) (fun _ _ _ _ _ => (dts_one (dt_gt (de_var 2) (de_var 1)))) (fun _ _ _ _ _ => de_int)) da_nil)) (da_cons (de_len T.m_len (da_cons (de_comp (own := [("low", 2), ("high", 3)]) rfl sc_above_range.nd (di_seq (de_var 0)) (blkOk_by (by kernel_rfl)) (fun _ _ _ _ _ => (dg_tup rfl (dgs_cons (i := 2) sc_above_range.nd (dgs_cons (i := 3) sc_above_range.nd dgs_nil)))) (fun _ _ _ _ _ => (dts_one (dt_gt (de_var 3) (de_var 1)))) (fun _ _ _ _ _ => de_int)) da_nil)) da_nil)))))))
theorem sc_checked_facts : FnScope ["bounds", "low", "high"] ["bounds"] (defScope s_checked_facts) := ⟨rfl, rfl, rfl, by decide +kernel, rfl, by decide +kernel, by decide +kernel⟩
theorem ok_checked_facts (T : Facts K mg mo) : FnD P w K mg base mo "checked" 3 F_checked_facts := by
  obtain ⟨fd, F⟩ := T.d_checked_facts
  refine ⟨_, fd, ["bounds"], fn_d F sc_checked_facts rfl rfl (fun cdv A outer s H E hr => ?_), T.g_checked_facts, F.kp, F.bindsN fun _ _ _ _ _ _ us hl => match us, hl with | [_], _ => rfl⟩
  obtain ⟨tk, px, po⟩ := pass_cx (P := P) (w := w) (K := K) (mg := mg) (base := base) (N := ["bounds", "low", "high"]) (qual := "checked") (scope := defScope s_checked_facts) (f := He.ga K "checked") (cdv := cdv) (A := A) (outer := outer) (s := s) (H := H) (E := E)
  exact (dss_cons (ds_if (dt_val (de_any rfl T.m_any (da_cons (de_comp (own := [("low", 1), ("high", 2)]) rfl sc_checked_facts.nd (di_seq (de_var 0)) (blkOk_by (by kernel_rfl)) (fun _ _ _ _ _ => (dg_tup rfl (dgs_cons (i := 1) sc_checked_facts.nd (dgs_cons (i := 2) sc_checked_facts.nd dgs_nil)))) (fun _ _ _ _ _ => dts_nil) (fun _ _ _ _ _ => (de_gt (de_var 1) (de_var 2)))) da_nil))) (dss_one (ds_raise T.e_NotFound rfl tk)) dss_nil)
    (dss_one (ds_retV 0)))
theorem sc_with_sum : FnScope ["bounds", "least", "greatest", "bottom", "top", "low", "high"] ["bounds", "least", "greatest"] (defScope s_with_sum) := ⟨rfl, rfl, rfl, by decide +kernel, rfl, by decide +kernel, by decide +kernel⟩
theorem ok_with_sum (T : Facts K mg mo) : FnD P w K mg base mo "with_sum" 7 F_with_sum := by
  obtain ⟨fd, F⟩ := T.d_with_sum
  refine ⟨_, fd, ["bounds", "least", "greatest"], fn_d F sc_with_sum rfl rfl (fun cdv A outer s H E hr => ?_), T.g_with_sum, F.kp, F.bindsN fun _ _ _ _ _ _ us hl => match us, hl with | [_, _, _], _ => rfl⟩
  obtain ⟨tk, px, po⟩ := pass_cx (P := P) (w := w) (K := K) (mg := mg) (base := base) (N := ["bounds", "least", "greatest", "bottom", "top", "low", "high"]) (qual := "with_sum") (scope := defScope s_with_sum) (f := He.ga K "with_sum") (cdv := cdv) (A := A) (outer := outer) (s := s) (H := H) (E := E)
  exact (dss_cons (ds_expr (de_call (ok_check_bounds T) (hr.mono (by decide)) px (da_cons (de_var 0) da_nil)))
    (dss_cons (ds_if (DW.dt (dw_or (dt_not (dt_val (de_call (ok_is_int T) (hr.mono (by decide)) px (da_cons (de_var 1) (da_cons (de_neg de_int) (da_cons de_int da_nil)))))) (dw_or1 (dt_not (dt_val (de_call (ok_is_int T) (hr.mono (by decide)) px (da_cons (de_var 2) (da_cons (de_var 1) (da_cons de_int da_nil))))))))) (dss_one (ds_raise T.e_BadNumber rfl tk)) dss_nil)
    (dss_cons (ds_asgT (de_tup (da_cons (de_sum rfl T.m_sum (da_cons (de_comp (own := [("low", 5), ("high", 6)]) rfl sc_with_sum.nd (di_seq (de_var 0)) (blkOk_by (by kernel_rfl)) (fun _ _ _ _ _ => (dg_tup rfl (dgs_cons (i := 5) sc_with_sum.nd (dgs_cons (i := 6) sc_with_sum.nd dgs_nil)))) (fun _ _ _ _ _ => dts_nil) (fun _ _ _ _ _ => (de_var 5))) da_nil)) (da_cons (de_sum rfl T.m_sum (da_cons (de_comp (own := [("low", 5), ("high", 6)]) rfl sc_with_sum.nd (di_seq (de_var 0)) (blkOk_by (by kernel_rfl)) (fun _ _ _ _ _ => (dg_tup rfl (dgs_cons (i := 5) sc_with_sum.nd (dgs_cons (i := 6) sc_with_sum.nd dgs_nil)))) (fun _ _ _ _ _ => dts_nil) (fun _ _ _ _ _ => (de_var 6))) da_nil)) da_nil))) (dg_tup rfl (dgs_cons (i := 3) sc_with_sum.nd (dgs_cons (i := 4) sc_with_sum.nd dgs_nil))))
    (dss_cons (ds_if (DW.dt (dw_or (dt_gt (de_var 3) (de_var 2)) (dw_or1 (dt_lt (de_var 4) (de_var 1))))) (dss_one (ds_raise T.e_NotFound rfl tk)) dss_nil)
    (dss_one (ds_ret (de_comp (own := [("low", 5), ("high", 6)]) rfl sc_with_sum.nd (di_seq (de_var 0)) (blkOk_by (by kernel_rfl)) (fun _ _ _ _ _ => (dg_tup rfl (dgs_cons (i := 5) sc_with_sum.nd (dgs_cons (i := 6) sc_with_sum.nd dgs_nil)))) (fun _ _ _ _ _ => dts_nil) (fun _ _ _ _ _ => (de_tup (da_cons (de_max2 rfl T.m_max (da_cons (de_var 5) (da_cons (de_sub (de_var 1) (de_sub (de_var 4) (de_var 6))) da_nil))) (da_cons (de_min2 rfl T.m_min (da_cons (de_var 6) (da_cons (de_sub (de_var 2) (de_sub (de_var 3) (de_var 5))) da_nil))) da_nil)))))))))))
theorem sc_met : FnScope ["one", "other", "a", "b"] ["one", "other"] (defScope s_met) := ⟨rfl, rfl, rfl, by decide +kernel, rfl, by decide +kernel, by decide +kernel⟩
theorem ok_met (T : Facts K mg mo) : FnD P w K mg base mo "met" 7 F_met := by
  obtain ⟨fd, F⟩ := T.d_met
  refine ⟨_, fd, ["one", "other"], fn_d F sc_met rfl rfl (fun cdv A outer s H E hr => ?_), T.g_met, F.kp, F.bindsN fun _ _ _ _ _ _ us hl => match us, hl with | [_, _], _ => rfl⟩
  obtain ⟨tk, px, po⟩ := pass_cx (P := P) (w := w) (K := K) (mg := mg) (base := base) (N := ["one", "other", "a", "b"]) (qual := "met") (scope := defScope s_met) (f := He.ga K "met") (cdv := cdv) (A := A) (outer := outer) (s := s) (H := H) (E := E)
  exact (dss_cons (ds_expr (de_call (ok_check_bounds T) (hr.mono (by decide)) px (da_cons (de_var 0) da_nil)))
    (dss_cons (ds_expr (de_call (ok_check_bounds T) (hr.mono (by decide)) px (da_cons (de_var 1) da_nil)))
    (dss_cons (ds_if (dt_ne (k := 1) (hr.mono (by decide)) (de_len T.m_len (da_cons (de_var 0) da_nil)) (de_len T.m_len (da_cons (de_var 1) da_nil))) (dss_one (ds_raise T.e_BadNumber rfl tk)) dss_nil)
    (dss_one (ds_ret (de_call (ok_checked_facts T) (hr.mono (by decide)) px (da_cons (de_comp (own := [("a", 2), ("b", 3)]) rfl sc_met.nd (di_zip T.m_zip (da_cons (de_var 0) (da_cons (de_var 1) da_nil))) (blkOk_by (by kernel_rfl)) (fun _ _ _ _ _ => (dg_tup rfl (dgs_cons (i := 2) sc_met.nd (dgs_cons (i := 3) sc_met.nd dgs_nil)))) (fun _ _ _ _ _ => dts_nil) (fun _ _ _ _ _ => (de_tup (da_cons (de_max2 rfl T.m_max (da_cons (de_ix (de_var 2) de_int) (da_cons (de_ix (de_var 3) de_int) da_nil))) (da_cons (de_min2 rfl T.m_min (da_cons (de_ix (de_var 2) de_int) (da_cons (de_ix (de_var 3) de_int) da_nil))) da_nil))))) da_nil)))))))
theorem sc_as_fractions : FnScope ["pair", "one"] ["pair"] (defScope s_as_fractions) := ⟨rfl, rfl, rfl, by decide +kernel, rfl, by decide +kernel, by decide +kernel⟩
theorem ok_as_fractions (T : Facts K mg mo) : FnD P w K mg base mo "as_fractions" 3 F_as_fractions := by
  obtain ⟨fd, F⟩ := T.d_as_fractions
  refine ⟨_, fd, ["pair"], fn_d F sc_as_fractions rfl rfl (fun cdv A outer s H E hr => ?_), T.g_as_fractions, F.kp, F.bindsN fun _ _ _ _ _ _ us hl => match us, hl with | [_], _ => rfl⟩
  obtain ⟨tk, px, po⟩ := pass_cx (P := P) (w := w) (K := K) (mg := mg) (base := base) (N := ["pair", "one"]) (qual := "as_fractions") (scope := defScope s_as_fractions) (f := He.ga K "as_fractions") (cdv := cdv) (A := A) (outer := outer) (s := s) (H := H) (E := E)
  exact (dss_one (ds_ret (de_comp (own := [("one", 1)]) rfl sc_as_fractions.nd (di_seq (de_var 0)) (blkOk_by (by kernel_rfl)) (fun _ _ _ _ _ => (dg_name (i := 1) sc_as_fractions.nd)) (fun _ _ _ _ _ => dts_nil) (fun _ _ _ _ _ => (de_if (dt_val (de_isi .tuple T.m_isinstance T.m_tuple (de_var 1))) (de_var 1) (de_tup (da_cons (de_var 1) (da_cons de_int da_nil))))))))
theorem sc_figure_range : FnScope ["bounds", "figure"] ["bounds", "figure"] (defScope s_figure_range) := ⟨rfl, rfl, rfl, by decide +kernel, rfl, by decide +kernel, by decide +kernel⟩
theorem ok_figure_range (T : Facts K mg mo) : FnD P w K mg base mo "figure_range" 8 F_figure_range := by
  obtain ⟨fd, F⟩ := T.d_figure_range
  refine ⟨_, fd, ["bounds", "figure"], fn_d F sc_figure_range rfl rfl (fun cdv A outer s H E hr => ?_), T.g_figure_range, F.kp, F.bindsN fun _ _ _ _ _ _ us hl => match us, hl with | [_, _], _ => rfl⟩
  obtain ⟨tk, px, po⟩ := pass_cx (P := P) (w := w) (K := K) (mg := mg) (base := base) (N := ["bounds", "figure"]) (qual := "figure_range") (scope := defScope s_figure_range) (f := He.ga K "figure_range") (cdv := cdv) (A := A) (outer := outer) (s := s) (H := H) (E := E)
  exact (dss_cons (ds_if (dt_eq (k := 1) (hr.mono (by decide)) (de_var 1) de_str) (dss_one (ds_ret (de_call (ok_as_fractions T) (hr.mono (by decide)) px (da_cons (de_call (ok_sum_range T) (hr.mono (by decide)) px (da_cons (de_var 0) da_nil)) da_nil)))) dss_nil)
    (dss_cons (ds_if (dt_eq (k := 1) (hr.mono (by decide)) (de_var 1) de_str) (dss_one (ds_ret (de_call (ok_as_fractions T) (hr.mono (by decide)) px (da_cons (de_call (ok_mean_range T) (hr.mono (by decide)) px (da_cons (de_var 0) da_nil)) da_nil)))) dss_nil)
    (dss_cons (ds_if (dt_eq (k := 1) (hr.mono (by decide)) (de_var 1) de_str) (dss_one (ds_ret (de_call (ok_as_fractions T) (hr.mono (by decide)) px (da_cons (de_call (ok_median_range T) (hr.mono (by decide)) px (da_cons (de_var 0) da_nil)) da_nil)))) dss_nil)
    (dss_one (ds_ret (de_call (ok_as_fractions T) (hr.mono (by decide)) px (da_cons (de_if (dt_eq (k := 1) (hr.mono (by decide)) (de_var 1) de_str) (de_call (ok_least_range T) (hr.mono (by decide)) px (da_cons (de_var 0) da_nil)) (de_call (ok_greatest_range T) (hr.mono (by decide)) px (da_cons (de_var 0) da_nil))) da_nil)))))))
theorem sc_check_figure : FnScope ["figure"] ["figure"] (defScope s_check_figure) := ⟨rfl, rfl, rfl, by decide +kernel, rfl, by decide +kernel, by decide +kernel⟩
theorem ok_check_figure (T : Facts K mg mo) : FnD P w K mg base mo "check_figure" 3 F_check_figure := by
  obtain ⟨fd, F⟩ := T.d_check_figure
  refine ⟨_, fd, ["figure"], fn_d F sc_check_figure rfl rfl (fun cdv A outer s H E hr => ?_), T.g_check_figure, F.kp, F.bindsN fun _ _ _ _ _ _ us hl => match us, hl with | [_], _ => rfl⟩
  obtain ⟨tk, px, po⟩ := pass_cx (P := P) (w := w) (K := K) (mg := mg) (base := base) (N := ["figure"]) (qual := "check_figure") (scope := defScope s_check_figure) (f := He.ga K "check_figure") (cdv := cdv) (A := A) (outer := outer) (s := s) (H := H) (E := E)
  exact (dss_one (ds_if (DW.dt (dw_or (dt_not (dt_val (de_isi .str T.m_isinstance T.m_str (de_var 0)))) (dw_or1 (dt_notIn (k := 1) (hr.mono (by decide)) (de_var 0) (de_gtup (ds := tup_FIGURES) T.c_FIGURES T.t_FIGURES fun _ => rp_strs ["sum", "mean", "median", "least", "greatest"]))))) (dss_one (ds_raise T.e_BadNumber rfl tk)) dss_nil))
theorem sc_can_reach : FnScope ["bounds", "figure", "number", "low", "high", "part"] ["bounds", "figure", "number"] (defScope s_can_reach) := ⟨rfl, rfl, rfl, by decide +kernel, rfl, by decide +kernel, by decide +kernel⟩
theorem ok_can_reach (T : Facts K mg mo) : FnD P w K mg base mo "can_reach" 9 F_can_reach := by
  obtain ⟨fd, F⟩ := T.d_can_reach
  refine ⟨_, fd, ["bounds", "figure", "number"], fn_d F sc_can_reach rfl rfl (fun cdv A outer s H E hr => ?_), T.g_can_reach, F.kp, F.bindsN fun _ _ _ _ _ _ us hl => match us, hl with | [_, _, _], _ => rfl⟩
  obtain ⟨tk, px, po⟩ := pass_cx (P := P) (w := w) (K := K) (mg := mg) (base := base) (N := ["bounds", "figure", "number", "low", "high", "part"]) (qual := "can_reach") (scope := defScope s_can_reach) (f := He.ga K "can_reach") (cdv := cdv) (A := A) (outer := outer) (s := s) (H := H) (E := E)
  exact (dss_cons (ds_expr (de_call (ok_check_bounds T) (hr.mono (by decide)) px (da_cons (de_var 0) da_nil)))
    (dss_cons (ds_expr (de_call (ok_check_figure T) (hr.mono (by decide)) px (da_cons (de_var 1) da_nil)))
    (dss_cons (ds_if (DW.dt (dw_or (dt_not (dt_val (de_isi .tuple T.m_isinstance T.m_tuple (de_var 2)))) (dw_or (dt_ne (k := 1) (hr.mono (by decide)) (de_len T.m_len (da_cons (de_var 2) da_nil)) de_int) (dw_or1 (dt_not (dt_val (de_all rfl T.m_all (da_cons (de_comp (own := [("part", 5)]) rfl sc_can_reach.nd (di_seq (de_var 2)) (blkOk_by (by kernel_rfl)) (fun _ _ _ _ _ => (dg_name (i := 5) sc_can_reach.nd)) (fun _ _ _ _ _ => dts_nil) (fun _ _ _ _ _ => (de_isi .int T.m_isinstance T.m_int (de_var 5)))) da_nil)))))))) (dss_one (ds_raise T.e_BadNumber rfl tk)) dss_nil)
    (dss_cons (ds_if (DW.dt (dw_or (dt_in (k := 1) (hr.mono (by decide)) de_bl (de_comp (own := [("part", 5)]) rfl sc_can_reach.nd (di_seq (de_var 2)) (blkOk_by (by kernel_rfl)) (fun _ _ _ _ _ => (dg_name (i := 5) sc_can_reach.nd)) (fun _ _ _ _ _ => dts_nil) (fun _ _ _ _ _ => (de_isi .bool T.m_isinstance T.m_bool (de_var 5))))) (dw_or1 (dt_lt (de_ix (de_var 2) de_int) de_int)))) (dss_one (ds_raise T.e_BadNumber rfl tk)) dss_nil)
    (dss_cons (ds_asgT (de_call (ok_figure_range T) (hr.mono (by decide)) px (da_cons (de_var 0) (da_cons (de_var 1) da_nil))) (dg_tup rfl (dgs_cons (i := 3) sc_can_reach.nd (dgs_cons (i := 4) sc_can_reach.nd dgs_nil))))
    (dss_one (ds_ret (de_and (de_not (de_call (ok_less T) (hr.mono (by decide)) px (da_cons (de_var 2) (da_cons (de_var 3) da_nil)))) (de_one (de_not (de_call (ok_less T) (hr.mono (by decide)) px (da_cons (de_var 4) (da_cons (de_var 2) da_nil)))))))))))))
theorem sc__law_start : FnScope ["script"] ["script"] (defScope s__law_start) := ⟨rfl, rfl, rfl, by decide +kernel, rfl, by decide +kernel, by decide +kernel⟩
theorem ok__law_start (T : Facts K mg mo) : FnD P w K mg base mo "_law_start" 3 fStart := by
  obtain ⟨fd, F⟩ := T.d__law_start
  refine ⟨_, fd, ["script"], F.ok sc__law_start (fun vs H Q E h => ?_) (fun cdv A outer s H vs Q E hr h => ?_), T.g__law_start, F.kp, F.bindsN fun _ _ _ _ _ _ us hl => match us, hl with | [_], _ => rfl⟩
  · obtain ⟨S, g, W, as, ra, w, sd, hw⟩ := h
    unfold fStart at hw
    split at hw
    · rw [reps_length ra] <;> rfl
    · exact hw.elim
  · obtain ⟨S, g, W, as, ra, w, sd, hw⟩ := h
    unfold fStart at hw
    split at hw
    · rename_i ns
      split at hw
      · rename_i hl
        obtain ⟨v, rfl, r⟩ := reps1 ra
        obtain ⟨p, rfl, hp⟩ := r
        have hS : SqL K H p (ns.map V.int) := Same.seq cut_sub hp
        have hS1 : Dp K H (.ref p) (.list (ns.map PyData.int)) := .lst hS (by
          have := (rpAll_ints (K := K) (H := H) (ns := ns)).dp
          exact this)
        have shI : ∀ l : List Int, PyData.canLayAll0 (l.map PyData.int) = true ∧ PyData.depthAll (l.map PyData.int) = 0 := by
          intro l
          induction l with
          | nil => exact ⟨rfl, rfl⟩
          | cons a l ih => exact ⟨by simp [PyData.canLayAll0, PyData.canLay0, ih.1], by simp [PyData.depthAll, PyData.depth, ih.2]⟩
        have sh : SeqAt.shaped (.list (ns.map PyData.int)) = true := by
          unfold SeqAt.shaped
          rw [Bool.and_eq_true]
          refine ⟨by simp only [PyData.canLay0]; exact (shI ns).1, decide_eq_true ?_⟩
          simp only [PyData.depth]
          rw [(shI ns).2]
          decide
        refine ⟨_, pss_one (ps_ret (pe_lst (pa_cons (pe_ifExp (pt_cmpR (op_neD hr.units) (pv 0) (pe_lst pa_nil) (nomark _))
          (pe_callTy call_list_of (by rfl) T.m_list PyProof.Rows.boot_list (pa_cons (pv 0) pa_nil)) (pe_lst (pa_cons pe_int pa_nil))) (pa_cons pe_int pa_nil)))), ?_⟩
        refine ⟨_, rfl, Nat.zero_le _, fun l0 hl0 => ?_⟩
        have hS' : Dp K (upd H l0 (.lst [])) (.ref p) (.list (ns.map PyData.int)) := .lst (Same.seq (same_new hl0) hS) (rpAll_ints (K := K) (H := upd H l0 (.lst [])) (ns := ns)).dp
        refine ⟨_, _, hS', .lst (SqL.of upd_same) .nil, sh, by decide +kernel, _, rfl, ?_⟩
        -- both ways make a new list of ints, then the list of both
        have fin : ∀ (H1 : Hp) (q : Addr) (ms : List Int), Same H H1 → H1 q = none → 0 < ms.length → ms.length ≤ 63 → ∀ t, upd H1 q (.lst (ms.map V.int)) t = none → Q (.ref t) (upd (upd H1 q (.lst (ms.map V.int))) t (.lst [.ref q, .int 0])) := fun H1 q ms hs hq h0 h63 t ht => by
          have hqt : q ≠ t := fun z => by subst z; rw [upd_same] at ht; cases ht
          have hs1 : Same H (upd H1 q (.lst (ms.map V.int))) := hs.trans (same_new hq)
          have hs2 := hs1.trans (same_new (o := .lst [.ref q, .int 0]) ht)
          have hR : ORep mo K (cut (upd (upd H1 q (.lst (ms.map V.int))) t (.lst [.ref q, .int 0])) (g.add t (fun b => b = t ∨ b = q) W.length).R) (upd (upd H1 q (.lst (ms.map V.int))) t (.lst [.ref q, .int 0])) (fun b => b = t ∨ b = q) t .dr :=
            ⟨q, 0, ms, upd_same, by rw [upd_ne hqt, upd_same], hqt.symm, .inl rfl, .inr rfl, h0, h63, Int.le_refl _⟩
          obtain ⟨w', s'⟩ := w.add (S' := S) (a := t) (f := fun b => b = t ∨ b = q) (o := .dr) hs2 (fun b hb => by
            rcases hb with rfl | rfl
            · exact ⟨hs1.free ht, by rw [upd_same]; exact fun z => by cases z⟩
            · exact ⟨hs.free hq, by rw [upd_ne hqt, upd_same]; exact fun z => by cases z⟩) hR
          refine hw _ (.ref t) _ s' w' ⟨⟨t, ?_, rfl⟩, fun z => by cases z⟩
          unfold Gh.add
          dsimp only
          rw [← w.len, List.getElem?_concat_length]
        cases e : (!PyData.eqv (.list (ns.map PyData.int)) (.list [])) with
        | true =>
          refine iteT ?_
          have h0 : 0 < ns.length := by
            cases ns with
            | nil => simp [PyData.eqv, PyData.eqvAll] at e
            | cons a l => simp
          refine ⟨_, rfl, p, _, rfl, .inl (Same.seq (same_new hl0) hS), fun l hl' => ?_⟩
          exact ⟨by show 2 ≤ sizeLine; decide, fun t ht => fin _ l ns (same_new hl0) hl' h0 hl t ht⟩
        | false =>
          refine iteF ?_
          refine ⟨by show 1 ≤ sizeLine; decide, fun l hl' => ⟨by show 2 ≤ sizeLine; decide, fun t ht => fin _ l [0] (same_new hl0) hl' (by decide) (by decide) t ht⟩⟩
      · exact hw.elim
    · exact hw.elim
theorem sc__law_draw : FnScope ["draws", "limit", "numbers", "at", "cell", "mixed"] ["draws", "limit"] (defScope s__law_draw) := ⟨rfl, rfl, rfl, by decide +kernel, rfl, by decide +kernel, by decide +kernel⟩
theorem ok__law_draw (T : Facts K mg mo) : FnD P w K mg base mo "_law_draw" 3 fDraw := by
  obtain ⟨fd, F⟩ := T.d__law_draw
  refine ⟨_, fd, ["draws", "limit"], F.ok sc__law_draw (fun vs H Q E h => ?_) (fun cdv A outer s H vs Q E hr h => ?_), T.g__law_draw, F.kp, F.bindsN fun _ _ _ _ _ _ us hl => match us, hl with | [_, _], _ => rfl⟩
  · obtain ⟨S, g, W, as, ra, w, sd, hw⟩ := h
    unfold fDraw at hw
    split at hw
    · rw [reps_length ra] <;> rfl
    · exact hw.elim
  · obtain ⟨S, g, W, as, ra, w, sd, hw⟩ := h
    unfold fDraw at hw
    split at hw
    · rename_i i l
      obtain ⟨hWi, hl0, hl1, hw⟩ := hw
      obtain ⟨v, u, rfl, r1, r2⟩ := reps2 ra
      obtain ⟨a, hadr, rfl⟩ := r1
      rw [Rp.int_inv r2]
      obtain ⟨q, c, ns, ha, hq, hne, fa, fq, h0, h63, hc⟩ := w.rep i a .dr hadr hWi
      have hiW : i < W.length := (List.getElem?_eq_some_iff.mp hWi).1
      have nd := sc__law_draw.nd
      -- what is handed back
      have fin : ∀ (r : Int) (c' : Int) (ms : List Int) (H' : Hp), 0 ≤ r → r < l → 0 ≤ c' → ms.length = ns.length → H' a = some (.lst [.ref q, .int c']) → H' q = some (.lst (ms.map V.int)) → (∀ b, b ≠ a → b ≠ q → H' b = H b) → Q (.int r) H' := fun r c' ms H' hr0 hr1 hc' hm h1 h2 h3 => by
        have hk : ∀ b, ¬ g.fp i b → H' b = H b := fun b n => h3 b (fun z => n (z ▸ fa)) (fun z => n (z ▸ fq))
        have hd : ∀ b, g.fp i b → H' b ≠ none := fun b f => by
          by_cases e1 : b = a
          · subst e1; rw [h1]; exact fun z => by cases z
          · by_cases e2 : b = q
            · subst e2; rw [h2]; exact fun z => by cases z
            · rw [h3 b e1 e2]; exact (w.dom i b f).2
        have hW : W.set i .dr = W := by
          apply List.ext_getElem?
          intro j
          by_cases e : i = j
          · subst e; rw [List.getElem?_set_self hiW, hWi]
          · rw [List.getElem?_set_ne e]
        have w' := w.at (S' := S) (o := .dr) hiW hadr hk hd ⟨q, c', ms, h1, h2, hne, fa, fq, by omega, by omega, hc'⟩
        rw [hW] at w'
        exact hw r hr0 hr1 g (.int r) H' (step_at hk hd) w' ⟨.int r, fun z => by cases z⟩
      refine ⟨_, pss_cons (ps_set (i := 2) nd rfl (Or.inl rfl) (pe_ix ix_list (pv 0) pe_int (fun _ _ => rfl)))
        (pss_cons (ps_asg (pe_op op_add (pe_ix ix_list (pv 0) pe_int (fun _ _ => rfl)) pe_int) (pg_sub (pv 0) pe_int set_list))
        (pss_cons (ps_set (i := 3) nd rfl (Or.inl rfl) (pe_op op_mod (pe_ix ix_list (pv 0) pe_int (fun _ _ => rfl)) (pe_callB call_len_seq (by rfl) T.m_len boot_len (pa_cons (pv 2) pa_nil))))
        (pss_cons (ps_set (i := 4) nd rfl (Or.inl rfl) (pe_ix ix_list (pv 2) (pv 3) (fun _ _ => rfl)))
        (pss_cons (ps_if (pt_cmpR op_ge (pv 4) pe_int (nomark _)) (pss_cons (ps_asg (pe_op op_fdiv (pv 4) (pv 1)) (pg_sub (pv 2) (pv 3) set_list)) (pss_one (ps_ret (pe_op op_mod (pv 4) (pv 1))))) pss_nil)
        (pss_cons (ps_set (i := 5) nd rfl (Or.inl rfl) (pe_op op_mod (pe_op op_add (pv 4) (pe_op op_mul pe_int (pe_ix ix_list (pv 0) pe_int (fun _ _ => rfl)))) pe_int))
        (pss_cons (ps_set (i := 5) nd rfl (Or.inl rfl) (pe_op op_mod (pe_op op_pow (pv 5) pe_int) pe_int))
        (pss_one (ps_ret (pe_op op_mod (pe_op op_fdiv (pe_op op_mod (pe_op op_add (pe_op op_mul (pe_op op_fdiv (pv 5) pe_int) pe_int) (pv 5)) pe_int) pe_int) (pv 1)))))))))), ?_⟩
      refine ⟨_, rfl, a, _, _, _, rfl, rfl, SqL.of ha, rfl, ?_⟩
      refine ⟨_, rfl, a, _, _, _, rfl, rfl, SqL.of ha, rfl, _, _, rfl, rfl, _, rfl, a, _, _, _, rfl, rfl, ha, rfl, ?_⟩
      have ha1 : upd H a (.lst ([V.ref q, V.int c].set 1 (.int (c + 1)))) a = some (.lst [.ref q, .int (c + 1)]) := upd_same
      have hq1 : upd H a (.lst ([V.ref q, V.int c].set 1 (.int (c + 1)))) q = some (.lst (ns.map V.int)) := by rw [upd_ne hne.symm]; exact hq
      have hlen : (0 : Int) < (((ns.map V.int).length : Nat) : Int) := by rw [List.length_map]; omega
      refine ⟨_, rfl, a, _, _, _, rfl, rfl, SqL.of ha1, rfl, _, rfl, q, _, rfl, .inl (SqL.of hq1), _, _, rfl, rfl, hlen, ?_⟩
      have hat0 : 0 ≤ (c + 1) % (((ns.map V.int).length : Nat) : Int) := Int.emod_nonneg _ (by omega)
      have hat1 : (c + 1) % (((ns.map V.int).length : Nat) : Int) < (((ns.map V.int).length : Nat) : Int) := Int.emod_lt_of_pos _ hlen
      obtain ⟨j, hj⟩ : ∃ j : Nat, (c + 1) % (((ns.map V.int).length : Nat) : Int) = (j : Int) := ⟨_, (Int.toNat_of_nonneg hat0).symm⟩
      rw [hj] at hat0 hat1
      have hjl : j < ns.length := by rw [List.length_map] at hat1; omega
      have hcell : (ns.map V.int)[j]? = some (.int ns[j]) := by rw [List.getElem?_map, List.getElem?_eq_getElem hjl]; rfl
      refine ⟨_, rfl, _, rfl, q, _, _, _, rfl, rfl, SqL.of hq1, (by rw [hj]; exact atI_nat hcell), ?_⟩
      refine ⟨_, rfl, _, _, rfl, rfl, _, rfl, ?_⟩
      refine ite2 (fun hbig => ?_) (fun hsmall => ?_)
      · refine ⟨_, rfl, _, rfl, _, _, rfl, rfl, ⟨hl0, hl1⟩, _, rfl, _, rfl, q, _, _, j, rfl, rfl, hq1, ?_, ?_⟩
        · rw [hj]
          unfold ixN
          rw [if_pos hat0, if_pos hat1]
          simp
        · refine ⟨_, rfl, _, rfl, _, _, rfl, rfl, hl0, ?_⟩
          refine fin _ (c + 1) (ns.set j (ns[j] / l)) _ (Int.emod_nonneg _ (by omega)) (Int.emod_lt_of_pos _ hl0) (by omega) (by rw [List.length_set]) (by rw [upd_ne hne]; exact ha1) (by rw [upd_same, List.map_set]) (fun b h1 h2 => by rw [upd_ne h2, upd_ne h1])
      · have hm1 : (0 : Int) < 4294967291 := by decide
        refine ⟨_, rfl, _, rfl, a, _, _, _, rfl, rfl, SqL.of ha1, rfl, _, _, rfl, rfl, .inl ⟨by decide, by decide⟩, _, _, rfl, rfl, _, _, rfl, rfl, hm1, ?_⟩
        have b0 := Int.emod_nonneg (ns[j] + 104729 * (c + 1)) (show (4294967291 : Int) ≠ 0 by decide)
        have b1 := Int.emod_lt_of_pos (ns[j] + 104729 * (c + 1)) hm1
        generalize (ns[j] + 104729 * (c + 1)) % 4294967291 = m at b0 b1
        refine ⟨_, rfl, _, _, rfl, rfl, ⟨by decide, by decide, by omega⟩, _, _, rfl, rfl, (by show (0 : Int) < 4294967279; decide), ?_⟩
        have d0 := Int.emod_nonneg (m ^ (5 : Int).toNat) (show (4294967279 : Int) ≠ 0 by decide)
        have d1 := Int.emod_lt_of_pos (m ^ (5 : Int).toNat) (show (0 : Int) < 4294967279 by decide)
        generalize m ^ (5 : Int).toNat % 4294967279 = n at d0 d1
        refine ⟨_, rfl, _, _, rfl, rfl, ⟨by decide, by decide⟩, _, _, rfl, rfl, .inr ⟨by decide, by decide⟩, _, rfl, _, _, rfl, rfl, _, _, rfl, rfl, (by show (0 : Int) < 4294967231; decide), _, _, rfl, rfl, ⟨by decide, by decide⟩, _, rfl, _, _, rfl, rfl, hl0, ?_⟩
        exact fin _ (c + 1) ns _ (Int.emod_nonneg _ (by omega)) (Int.emod_lt_of_pos _ hl0) (by omega) rfl ha1 hq1 (fun b h1 h2 => by rw [upd_ne h1])
    · exact hw.elim
theorem sc__law_pick : FnScope ["draws", "choices"] ["draws", "choices"] (defScope s__law_pick) := ⟨rfl, rfl, rfl, by decide +kernel, rfl, by decide +kernel, by decide +kernel⟩
theorem ok__law_pick (T : Facts K mg mo) : FnD P w K mg base mo "_law_pick" 4 F__law_pick := by
  obtain ⟨fd, F⟩ := T.d__law_pick
  refine ⟨_, fd, ["draws", "choices"], fn_d F sc__law_pick rfl rfl (fun cdv A outer s H E hr => ?_), T.g__law_pick, F.kp, F.bindsN fun _ _ _ _ _ _ us hl => match us, hl with | [_, _], _ => rfl⟩
  obtain ⟨tk, px, po⟩ := pass_cx (P := P) (w := w) (K := K) (mg := mg) (base := base) (N := ["draws", "choices"]) (qual := "_law_pick") (scope := defScope s__law_pick) (f := He.ga K "_law_pick") (cdv := cdv) (A := A) (outer := outer) (s := s) (H := H) (E := E)
  exact (dss_one (ds_ret (de_ix (de_var 1) (de_call (ok__law_draw T) (hr.mono (by decide)) px (da_cons (de_var 0) (da_cons (de_len T.m_len (da_cons (de_var 1) da_nil)) da_nil))))))
theorem sc__law_bounds : FnScope ["draws", "most", "found", "k", "far", "wide", "low"] ["draws", "most"] (defScope s__law_bounds) := ⟨rfl, rfl, rfl, by decide +kernel, rfl, by decide +kernel, by decide +kernel⟩
theorem ok__law_bounds (T : Facts K mg mo) : FnD P w K mg base mo "_law_bounds" 5 F__law_bounds := by
  obtain ⟨fd, F⟩ := T.d__law_bounds
  refine ⟨_, fd, ["draws", "most"], fn_d F sc__law_bounds rfl rfl (fun cdv A outer s H E hr => ?_), T.g__law_bounds, F.kp, F.bindsN fun _ _ _ _ _ _ us hl => match us, hl with | [_, _], _ => rfl⟩
  obtain ⟨tk, px, po⟩ := pass_cx (P := P) (w := w) (K := K) (mg := mg) (base := base) (N := ["draws", "most", "found", "k", "far", "wide", "low"]) (qual := "_law_bounds") (scope := defScope s__law_bounds) (f := He.ga K "_law_bounds") (cdv := cdv) (A := A) (outer := outer) (s := s) (H := H) (E := E)
  exact (dss_cons (ds_par (i := 4) (j := 5) rfl sc__law_bounds.nd (da_cons (de_call (ok__law_pick T) (hr.mono (by decide)) px (da_cons (de_var 0) (da_cons (de_lst (da_cons de_int (da_cons de_int (da_cons de_int da_nil)))) da_nil))) (da_cons (de_call (ok__law_pick T) (hr.mono (by decide)) px (da_cons (de_var 0) (da_cons (de_lst (da_cons de_int (da_cons de_int (da_cons de_int da_nil)))) da_nil))) da_nil)))
    (dss_cons (ds_setO (i := 2) sc__law_bounds.nd (de_lst da_nil))
    (dss_cons (ds_for po rfl (di_range1 T.m_range (da_cons (de_add de_int (de_call (ok__law_draw T) (hr.mono (by decide)) px (da_cons (de_var 0) (da_cons (de_var 1) da_nil)))) da_nil)) (dg_name (i := 3) sc__law_bounds.nd) (dss_cons (ds_set (i := 6) sc__law_bounds.nd (de_sub (de_call (ok__law_draw T) (hr.mono (by decide)) px (da_cons (de_var 0) (da_cons (de_mul de_int (de_var 4)) da_nil))) (de_var 4)))
    (dss_one (ds_app (i := 2) (de_tup (da_cons (de_var 6) (da_cons (de_add (de_var 6) (de_call (ok__law_draw T) (hr.mono (by decide)) px (da_cons (de_var 0) (da_cons (de_var 5) da_nil)))) da_nil)))))))
    (dss_one (ds_retV 2)))))
theorem sc_law : FnScope ["script", "draws", "bounds", "size", "turn", "ranges", "least", "most", "told", "alone", "limit", "number", "figure", "bottom", "top", "lower", "upper", "low", "high"] ["script"] (defScope s_law) := ⟨rfl, rfl, rfl, by decide +kernel, rfl, by decide +kernel, by decide +kernel⟩
theorem ok_law0 (T : Facts K mg mo) {fd : FuncData} (F : FunD K "law" "law" (defArgs s_law) (defBody s_law) (defScope s_law) [] [] (He.ga K "law") fd) : FnOk P w K mg base (L2.CX P w) 10 (He.ga K "law") fd ["script"] (spD mo K F_law) := by
  refine fn_d F sc_law rfl rfl (fun cdv A outer s H E hr => ?_)
  obtain ⟨tk, px, po⟩ := pass_cx (P := P) (w := w) (K := K) (mg := mg) (base := base) (N := ["script", "draws", "bounds", "size", "turn", "ranges", "least", "most", "told", "alone", "limit", "number", "figure", "bottom", "top", "lower", "upper", "low", "high"]) (qual := "law") (scope := defScope s_law) (f := He.ga K "law") (cdv := cdv) (A := A) (outer := outer) (s := s) (H := H) (E := E)
  exact (dss_cons (ds_set (i := 1) sc_law.nd (de_call (ok__law_start T) (hr.mono (by decide)) px (da_cons (de_var 0) da_nil)))
    (dss_cons (ds_set (i := 2) sc_law.nd (de_call (ok__law_bounds T) (hr.mono (by decide)) px (da_cons (de_var 1) (da_cons de_int da_nil))))
    (dss_cons (ds_set (i := 3) sc_law.nd (de_len T.m_len (da_cons (de_var 2) da_nil)))
    (dss_cons (ds_for po rfl (di_range1 T.m_range (da_cons de_int da_nil)) (dg_name (i := 4) sc_law.nd) (dss_cons (ds_set (i := 10) sc_law.nd (de_sub (de_call (ok__law_draw T) (hr.mono (by decide)) px (da_cons (de_var 1) (da_cons de_int da_nil))) de_int))
    (dss_cons (ds_asgT (de_call (ok_above_range T) (hr.mono (by decide)) px (da_cons (de_var 2) (da_cons (de_var 10) da_nil))) (dg_tup rfl (dgs_cons (i := 6) sc_law.nd (dgs_cons (i := 7) sc_law.nd dgs_nil))))
    (dss_cons (ds_for po rfl (di_range2 T.m_range (da_cons de_int (da_cons (de_add (de_var 3) de_int) da_nil))) (dg_name (i := 11) sc_law.nd) (dss_cons (ds_asgT (de_call (ok_kth_range T) (hr.mono (by decide)) px (da_cons (de_var 2) (da_cons (de_var 11) da_nil))) (dg_tup rfl (dgs_cons (i := 17) sc_law.nd (dgs_cons (i := 18) sc_law.nd dgs_nil))))
    (dss_one (ds_if (DW.dt (dw_or (dt_ne (k := 1) (hr.mono (by decide)) (de_gt (de_var 17) (de_var 10)) (de_ge (de_var 6) (de_sub (de_add (de_var 3) de_int) (de_var 11)))) (dw_or1 (dt_ne (k := 1) (hr.mono (by decide)) (de_gt (de_var 18) (de_var 10)) (de_ge (de_var 7) (de_sub (de_add (de_var 3) de_int) (de_var 11))))))) (dss_one (ds_ret de_bl)) dss_nil))))
    (dss_one (ds_if (dt_not (dt_le3 de_int (de_var 6) (de_var 7) (de_var 3))) (dss_one (ds_ret de_bl)) dss_nil))))))
    (dss_cons (ds_setLc (i := 5) (own := [("number", 11)]) rfl sc_law.nd (di_range2 T.m_range (da_cons de_int (da_cons (de_add (de_var 3) de_int) da_nil))) (blkOk_by (by kernel_rfl)) (fun _ _ _ _ _ => (dg_name (i := 11) sc_law.nd)) (fun _ _ _ _ _ => dts_nil) (fun _ _ _ _ _ => (de_call (ok_kth_range T) (hr.mono (by decide)) passL (da_cons (de_var 2) (da_cons (de_var 11) da_nil)))))
    (dss_cons (ds_if (DW.dt (dw_or (dt_ne (k := 1) (hr.mono (by decide)) (de_sum rfl T.m_sum (da_cons (de_comp (own := [("low", 17), ("high", 18)]) rfl sc_law.nd (di_seq (de_var 5)) (blkOk_by (by kernel_rfl)) (fun _ _ _ _ _ => (dg_tup rfl (dgs_cons (i := 17) sc_law.nd (dgs_cons (i := 18) sc_law.nd dgs_nil)))) (fun _ _ _ _ _ => dts_nil) (fun _ _ _ _ _ => (de_var 17))) da_nil)) (de_ix (de_call (ok_sum_range T) (hr.mono (by decide)) px (da_cons (de_var 2) da_nil)) de_int)) (dw_or1 (dt_ne (k := 1) (hr.mono (by decide)) (de_sum rfl T.m_sum (da_cons (de_comp (own := [("low", 17), ("high", 18)]) rfl sc_law.nd (di_seq (de_var 5)) (blkOk_by (by kernel_rfl)) (fun _ _ _ _ _ => (dg_tup rfl (dgs_cons (i := 17) sc_law.nd (dgs_cons (i := 18) sc_law.nd dgs_nil)))) (fun _ _ _ _ _ => dts_nil) (fun _ _ _ _ _ => (de_var 18))) da_nil)) (de_ix (de_call (ok_sum_range T) (hr.mono (by decide)) px (da_cons (de_var 2) da_nil)) de_int))))) (dss_one (ds_ret de_bl)) dss_nil)
    (dss_cons (ds_for po rfl (di_seq (de_lst (da_cons (de_tup (da_cons de_str (da_cons de_int da_nil))) (da_cons (de_tup (da_cons de_str (da_cons (de_var 3) da_nil))) da_nil)))) (dg_tup rfl (dgs_cons (i := 12) sc_law.nd (dgs_cons (i := 11) sc_law.nd dgs_nil))) (dss_cons (ds_asgT (de_call (ok_kth_range T) (hr.mono (by decide)) px (da_cons (de_var 2) (da_cons (de_var 11) da_nil))) (dg_tup rfl (dgs_cons (i := 17) sc_law.nd (dgs_cons (i := 18) sc_law.nd dgs_nil))))
    (dss_one (ds_if (DW.dt (dw_or (dt_notB (de_call (ok_can_reach T) (hr.mono (by decide)) px (da_cons (de_var 2) (da_cons (de_var 12) (da_cons (de_tup (da_cons (de_var 17) (da_cons de_int da_nil))) da_nil)))) de_bl) (dw_or1 (dt_notB (de_call (ok_can_reach T) (hr.mono (by decide)) px (da_cons (de_var 2) (da_cons (de_var 12) (da_cons (de_tup (da_cons (de_add (de_var 18) de_int) (da_cons de_int da_nil))) da_nil)))) de_bl)))) (dss_one (ds_ret de_bl)) dss_nil))))
    (dss_cons (ds_asgT (de_call (ok_sum_range T) (hr.mono (by decide)) px (da_cons (de_var 2) da_nil)) (dg_tup rfl (dgs_cons (i := 13) sc_law.nd (dgs_cons (i := 14) sc_law.nd dgs_nil))))
    (dss_cons (ds_set (i := 6) sc_law.nd (de_add (de_var 13) (de_call (ok__law_draw T) (hr.mono (by decide)) px (da_cons (de_var 1) (da_cons (de_add (de_sub (de_var 14) (de_var 13)) de_int) da_nil)))))
    (dss_cons (ds_set (i := 7) sc_law.nd (de_add (de_var 6) (de_call (ok__law_draw T) (hr.mono (by decide)) px (da_cons (de_var 1) (da_cons (de_add (de_sub (de_var 14) (de_var 6)) de_int) da_nil)))))
    (dss_cons (ds_set (i := 8) sc_law.nd (de_call (ok_with_sum T) (hr.mono (by decide)) px (da_cons (de_var 2) (da_cons (de_var 6) (da_cons (de_var 7) da_nil)))))
    (dss_cons (ds_if (DW.dt (dw_or (dt_ne (k := 1) (hr.mono (by decide)) (de_call (ok_met T) (hr.mono (by decide)) px (da_cons (de_var 2) (da_cons (de_var 8) da_nil))) (de_var 8)) (dw_or (dt_ne (k := 1) (hr.mono (by decide)) (de_call (ok_with_sum T) (hr.mono (by decide)) px (da_cons (de_var 8) (da_cons (de_var 6) (da_cons (de_var 7) da_nil)))) (de_var 8)) (dw_or1 (dt_ne (k := 1) (hr.mono (by decide)) (de_call (ok_with_sum T) (hr.mono (by decide)) px (da_cons (de_var 2) (da_cons (de_var 13) (da_cons (de_var 14) da_nil)))) (de_var 2)))))) (dss_one (ds_ret de_bl)) dss_nil)
    (dss_cons (ds_asgT (de_call (ok_sum_range T) (hr.mono (by decide)) px (da_cons (de_var 8) da_nil)) (dg_tup rfl (dgs_cons (i := 15) sc_law.nd (dgs_cons (i := 16) sc_law.nd dgs_nil))))
    (dss_cons (ds_set (i := 9) sc_law.nd (de_call (ok_with_sum T) (hr.mono (by decide)) px (da_cons (de_var 2) (da_cons (de_var 6) (da_cons (de_var 6) da_nil)))))
    (dss_cons (ds_if (DW.dt (dw_or (dt_gt (de_var 15) (de_var 6)) (dw_or (dt_lt (de_var 16) (de_var 7)) (dw_or1 (dt_ne (k := 1) (hr.mono (by decide)) (de_var 9) (de_call (ok_met T) (hr.mono (by decide)) px (da_cons (de_var 8) (da_cons (de_var 9) da_nil)))))))) (dss_one (ds_ret de_bl)) dss_nil)
    (dss_one (ds_ret (de_and (de_eq (k := 1) (hr.mono (by decide)) (de_call (ok_above_range T) (hr.mono (by decide)) px (da_cons (de_var 2) (da_cons de_int da_nil))) (de_tup (da_cons de_int (da_cons de_int da_nil)))) (de_one (de_ge (de_ix (de_call (ok_above_range T) (hr.mono (by decide)) px (da_cons (de_var 2) (da_cons (de_sub de_int de_int) da_nil))) de_int) (de_sub (de_var 3) (de_len T.m_len (da_cons (de_comp (own := [("low", 17), ("high", 18)]) rfl sc_law.nd (di_seq (de_var 2)) (blkOk_by (by kernel_rfl)) (fun _ _ _ _ _ => (dg_tup rfl (dgs_cons (i := 17) sc_law.nd (dgs_cons (i := 18) sc_law.nd dgs_nil)))) (fun _ _ _ _ _ => (dts_one (dt_eq (k := 1) (hr.mono (by decide)) (de_var 18) (de_sub de_int de_int)))) (fun _ _ _ _ _ => de_int)) da_nil)))))))))))))))))))))))
end
theorem okL {P : Program} {w : World} {K : PySem.W.Frag} {mg : Str → Option Value} {mo : Mo} (T : Facts K mg mo) : ∃ fd, (∀ (s : Shared) (v : Value), BindsTo s fd ⟨[v], []⟩ [("script", v)]) ∧ ∀ base : Heap, FnOk P w K mg base (L2.CX P w) 10 (He.ga K "law") fd ["script"] (spD mo K F_law) := by
  obtain ⟨fd, F⟩ := T.d_law
  have b := FunD.bindsA (ps := ["script"]) F fun _ _ _ _ _ _ us hl => match us, hl with | [_], _ => rfl
  refine ⟨fd, fun s v => b s [v] rfl, fun base => ok_law0 T F⟩
end Law

namespace Law
open PySem L2 Dt Pg
def dd_is_int : He.DefD := ⟨("is_int", none), "is_int", "is_int", defArgs s_is_int, defBody s_is_int, defScope s_is_int, [], []⟩
def dd_is_bound : He.DefD := ⟨("is_bound", none), "is_bound", "is_bound", defArgs s_is_bound, defBody s_is_bound, defScope s_is_bound, [], []⟩
def dd_is_bounds : He.DefD := ⟨("is_bounds", none), "is_bounds", "is_bounds", defArgs s_is_bounds, defBody s_is_bounds, defScope s_is_bounds, [], []⟩
def dd_check_bounds : He.DefD := ⟨("check_bounds", none), "check_bounds", "check_bounds", defArgs s_check_bounds, defBody s_check_bounds, defScope s_check_bounds, [], []⟩
def dd_common_divisor : He.DefD := ⟨("common_divisor", none), "common_divisor", "common_divisor", defArgs s_common_divisor, defBody s_common_divisor, defScope s_common_divisor, [], []⟩
def dd_lowest : He.DefD := ⟨("lowest", none), "lowest", "lowest", defArgs s_lowest, defBody s_lowest, defScope s_lowest, [], []⟩
def dd_less : He.DefD := ⟨("less", none), "less", "less", defArgs s_less, defBody s_less, defScope s_less, [], []⟩
def dd_lows : He.DefD := ⟨("lows", none), "lows", "lows", defArgs s_lows, defBody s_lows, defScope s_lows, [], []⟩
def dd_highs : He.DefD := ⟨("highs", none), "highs", "highs", defArgs s_highs, defBody s_highs, defScope s_highs, [], []⟩
def dd_sum_range : He.DefD := ⟨("sum_range", none), "sum_range", "sum_range", defArgs s_sum_range, defBody s_sum_range, defScope s_sum_range, [], []⟩
def dd_mean_range : He.DefD := ⟨("mean_range", none), "mean_range", "mean_range", defArgs s_mean_range, defBody s_mean_range, defScope s_mean_range, [], []⟩
def dd_kth_range : He.DefD := ⟨("kth_range", none), "kth_range", "kth_range", defArgs s_kth_range, defBody s_kth_range, defScope s_kth_range, [], []⟩
def dd_middle : He.DefD := ⟨("middle", none), "middle", "middle", defArgs s_middle, defBody s_middle, defScope s_middle, [], []⟩
def dd_median_range : He.DefD := ⟨("median_range", none), "median_range", "median_range", defArgs s_median_range, defBody s_median_range, defScope s_median_range, [], []⟩
def dd_least_range : He.DefD := ⟨("least_range", none), "least_range", "least_range", defArgs s_least_range, defBody s_least_range, defScope s_least_range, [], []⟩
def dd_greatest_range : He.DefD := ⟨("greatest_range", none), "greatest_range", "greatest_range", defArgs s_greatest_range, defBody s_greatest_range, defScope s_greatest_range, [], []⟩
def dd_above_range : He.DefD := ⟨("above_range", none), "above_range", "above_range", defArgs s_above_range, defBody s_above_range, defScope s_above_range, [], []⟩
def dd_checked_facts : He.DefD := ⟨("checked", none), "checked", "checked", defArgs s_checked_facts, defBody s_checked_facts, defScope s_checked_facts, [], []⟩
def dd_with_sum : He.DefD := ⟨("with_sum", none), "with_sum", "with_sum", defArgs s_with_sum, defBody s_with_sum, defScope s_with_sum, [], []⟩
def dd_met : He.DefD := ⟨("met", none), "met", "met", defArgs s_met, defBody s_met, defScope s_met, [], []⟩
def dd_as_fractions : He.DefD := ⟨("as_fractions", none), "as_fractions", "as_fractions", defArgs s_as_fractions, defBody s_as_fractions, defScope s_as_fractions, [], []⟩
def dd_figure_range : He.DefD := ⟨("figure_range", none), "figure_range", "figure_range", defArgs s_figure_range, defBody s_figure_range, defScope s_figure_range, [], []⟩
def dd_check_figure : He.DefD := ⟨("check_figure", none), "check_figure", "check_figure", defArgs s_check_figure, defBody s_check_figure, defScope s_check_figure, [], []⟩
def dd_can_reach : He.DefD := ⟨("can_reach", none), "can_reach", "can_reach", defArgs s_can_reach, defBody s_can_reach, defScope s_can_reach, [], []⟩
def dd__law_start : He.DefD := ⟨("_law_start", none), "_law_start", "_law_start", defArgs s__law_start, defBody s__law_start, defScope s__law_start, [], []⟩
def dd__law_draw : He.DefD := ⟨("_law_draw", none), "_law_draw", "_law_draw", defArgs s__law_draw, defBody s__law_draw, defScope s__law_draw, [], []⟩
def dd__law_pick : He.DefD := ⟨("_law_pick", none), "_law_pick", "_law_pick", defArgs s__law_pick, defBody s__law_pick, defScope s__law_pick, [], []⟩
def dd__law_bounds : He.DefD := ⟨("_law_bounds", none), "_law_bounds", "_law_bounds", defArgs s__law_bounds, defBody s__law_bounds, defScope s__law_bounds, [], []⟩
def dd_law : He.DefD := ⟨("law", none), "law", "law", defArgs s_law, defBody s_law, defScope s_law, [], []⟩
def fn0 : List He.DefD := [dd_is_int, dd_is_bound, dd_is_bounds, dd_check_bounds, dd_common_divisor, dd_lowest, dd_less, dd_lows, dd_highs, dd_sum_range, dd_mean_range, dd_kth_range, dd_middle, dd_median_range, dd_least_range]
def fn1 : List He.DefD := [dd_greatest_range, dd_above_range, dd_checked_facts, dd_with_sum, dd_met, dd_as_fractions, dd_figure_range, dd_check_figure, dd_can_reach, dd__law_start, dd__law_draw, dd__law_pick, dd__law_bounds, dd_law]
def fn : List He.DefD := fn0 ++ fn1
def fa0 : List He.Fa := [.glo "is_int", .glo "is_bound", .glo "is_bounds", .glo "check_bounds", .glo "common_divisor", .glo "lowest", .glo "less", .glo "lows", .glo "highs", .glo "sum_range", .glo "mean_range", .glo "kth_range", .glo "middle", .glo "median_range", .glo "least_range"]
def fa1 : List He.Fa := [.glo "greatest_range", .glo "above_range", .glo "checked", .glo "with_sum", .glo "met", .glo "as_fractions", .glo "figure_range", .glo "check_figure", .glo "can_reach", .glo "_law_start", .glo "_law_draw", .glo "_law_pick", .glo "_law_bounds", .glo "law", .free "abs"]
def fa2 : List He.Fa := [.free "all", .free "any", .free "bool", .free "int", .free "isinstance", .free "len", .free "list", .free "max", .free "min", .free "range", .free "sorted", .free "str", .free "sum", .free "tuple", .free "zip"]
def fa3 : List He.Fa := [.glo "FIGURES", .int "MOST_BOUND" 50, .int "MOST_VALUES" 7, .exc "BadBounds", .glo "BadBounds", .exc "BadNumber", .glo "BadNumber", .exc "NotFound", .glo "NotFound"]
def fa : List He.Fa := fa0 ++ fa1 ++ fa2 ++ fa3
def exB (K : PySem.W.Frag) : Bool := He.tupB K "FIGURES" [.str "sum", .str "mean", .str "median", .str "least", .str "greatest"]
def loose0 : List PySem.Str := ["__name__", "BoundError", "BadBounds", "BadNumber", "NotFound", "MOST_VALUES", "MOST_BOUND", "is_int", "is_bound", "is_bounds", "check_bounds", "common_divisor", "lowest", "less", "lows"]
def loose1 : List PySem.Str := ["highs", "sum_range", "mean_range", "kth_range", "middle", "median_range", "least_range", "greatest_range", "above_range", "checked", "with_sum", "met", "FIGURES", "as_fractions", "figure_range"]
def loose2 : List PySem.Str := ["check_figure", "can_reach", "_law_start", "_law_draw", "_law_pick", "_law_bounds"]
def loose : List PySem.Str := loose0 ++ loose1 ++ loose2
abbrev R : PySem.W.OpenRow := PySem.W.OpenLaw.row PySem.Challenge.rw_boundstats_k14_whole_limits
abbrev hk : PySem.W.Hook := He.hookX 4 fa fn [] [] exB
def ob (s : PySem.W.SharedT) : He.AlX := He.obsX 4 fa fn [] [] exB (HandSHeadRun.getT s)
theorem ob_eq (s : PySem.W.SharedT) : ob s = hk.obs s.abs := He.obsX_eq (HandSHeadRun.getT_eq s)
theorem run (w : World) : HandSHeadRun.RunEq R (PySem.W.view R.prog [41]) hk ob 20000 loose w := by
  intro os
  kernel_rfl
def theMo (K : PySem.W.Frag) : Mo := ⟨He.ga K "Teller", fun er => match er with | .bounds => He.ga K "BadBounds" | .number => He.ga K "BadNumber" | .order => 0 | .text => 0 | .missing => He.ga K "NotFound"⟩
theorem facts {w : World} {K : PySem.W.Frag} {h : Heap} {mg : Str → Option Value} (X : K.In h) (G : h.Ns mainGlobals mg) (c : He.SaysX fa fn [] [] exB w h K) : Facts K mg (theMo K) where
  d_is_int := c.t.d.def_ 0 (d := dd_is_int) rfl
  g_is_int := He.glo_ok X G (c.t.d.fact 0 (f := .glo "is_int") rfl)
  d_is_bound := c.t.d.def_ 1 (d := dd_is_bound) rfl
  g_is_bound := He.glo_ok X G (c.t.d.fact 1 (f := .glo "is_bound") rfl)
  d_is_bounds := c.t.d.def_ 2 (d := dd_is_bounds) rfl
  g_is_bounds := He.glo_ok X G (c.t.d.fact 2 (f := .glo "is_bounds") rfl)
  d_check_bounds := c.t.d.def_ 3 (d := dd_check_bounds) rfl
  g_check_bounds := He.glo_ok X G (c.t.d.fact 3 (f := .glo "check_bounds") rfl)
  d_common_divisor := c.t.d.def_ 4 (d := dd_common_divisor) rfl
  g_common_divisor := He.glo_ok X G (c.t.d.fact 4 (f := .glo "common_divisor") rfl)
  d_lowest := c.t.d.def_ 5 (d := dd_lowest) rfl
  g_lowest := He.glo_ok X G (c.t.d.fact 5 (f := .glo "lowest") rfl)
  d_less := c.t.d.def_ 6 (d := dd_less) rfl
  g_less := He.glo_ok X G (c.t.d.fact 6 (f := .glo "less") rfl)
  d_lows := c.t.d.def_ 7 (d := dd_lows) rfl
  g_lows := He.glo_ok X G (c.t.d.fact 7 (f := .glo "lows") rfl)
  d_highs := c.t.d.def_ 8 (d := dd_highs) rfl
  g_highs := He.glo_ok X G (c.t.d.fact 8 (f := .glo "highs") rfl)
  d_sum_range := c.t.d.def_ 9 (d := dd_sum_range) rfl
  g_sum_range := He.glo_ok X G (c.t.d.fact 9 (f := .glo "sum_range") rfl)
  d_mean_range := c.t.d.def_ 10 (d := dd_mean_range) rfl
  g_mean_range := He.glo_ok X G (c.t.d.fact 10 (f := .glo "mean_range") rfl)
  d_kth_range := c.t.d.def_ 11 (d := dd_kth_range) rfl
  g_kth_range := He.glo_ok X G (c.t.d.fact 11 (f := .glo "kth_range") rfl)
  d_middle := c.t.d.def_ 12 (d := dd_middle) rfl
  g_middle := He.glo_ok X G (c.t.d.fact 12 (f := .glo "middle") rfl)
  d_median_range := c.t.d.def_ 13 (d := dd_median_range) rfl
  g_median_range := He.glo_ok X G (c.t.d.fact 13 (f := .glo "median_range") rfl)
  d_least_range := c.t.d.def_ 14 (d := dd_least_range) rfl
  g_least_range := He.glo_ok X G (c.t.d.fact 14 (f := .glo "least_range") rfl)
  d_greatest_range := c.t.d.def_ 15 (d := dd_greatest_range) rfl
  g_greatest_range := He.glo_ok X G (c.t.d.fact 15 (f := .glo "greatest_range") rfl)
  d_above_range := c.t.d.def_ 16 (d := dd_above_range) rfl
  g_above_range := He.glo_ok X G (c.t.d.fact 16 (f := .glo "above_range") rfl)
  d_checked_facts := c.t.d.def_ 17 (d := dd_checked_facts) rfl
  g_checked_facts := He.glo_ok X G (c.t.d.fact 17 (f := .glo "checked") rfl)
  d_with_sum := c.t.d.def_ 18 (d := dd_with_sum) rfl
  g_with_sum := He.glo_ok X G (c.t.d.fact 18 (f := .glo "with_sum") rfl)
  d_met := c.t.d.def_ 19 (d := dd_met) rfl
  g_met := He.glo_ok X G (c.t.d.fact 19 (f := .glo "met") rfl)
  d_as_fractions := c.t.d.def_ 20 (d := dd_as_fractions) rfl
  g_as_fractions := He.glo_ok X G (c.t.d.fact 20 (f := .glo "as_fractions") rfl)
  d_figure_range := c.t.d.def_ 21 (d := dd_figure_range) rfl
  g_figure_range := He.glo_ok X G (c.t.d.fact 21 (f := .glo "figure_range") rfl)
  d_check_figure := c.t.d.def_ 22 (d := dd_check_figure) rfl
  g_check_figure := He.glo_ok X G (c.t.d.fact 22 (f := .glo "check_figure") rfl)
  d_can_reach := c.t.d.def_ 23 (d := dd_can_reach) rfl
  g_can_reach := He.glo_ok X G (c.t.d.fact 23 (f := .glo "can_reach") rfl)
  d__law_start := c.t.d.def_ 24 (d := dd__law_start) rfl
  g__law_start := He.glo_ok X G (c.t.d.fact 24 (f := .glo "_law_start") rfl)
  d__law_draw := c.t.d.def_ 25 (d := dd__law_draw) rfl
  g__law_draw := He.glo_ok X G (c.t.d.fact 25 (f := .glo "_law_draw") rfl)
  d__law_pick := c.t.d.def_ 26 (d := dd__law_pick) rfl
  g__law_pick := He.glo_ok X G (c.t.d.fact 26 (f := .glo "_law_pick") rfl)
  d__law_bounds := c.t.d.def_ 27 (d := dd__law_bounds) rfl
  g__law_bounds := He.glo_ok X G (c.t.d.fact 27 (f := .glo "_law_bounds") rfl)
  d_law := c.t.d.def_ 28 (d := dd_law) rfl
  g_law := He.glo_ok X G (c.t.d.fact 28 (f := .glo "law") rfl)
  m_abs := He.free_ok X G (c.t.d.fact 29 (f := .free "abs") rfl)
  m_all := He.free_ok X G (c.t.d.fact 30 (f := .free "all") rfl)
  m_any := He.free_ok X G (c.t.d.fact 31 (f := .free "any") rfl)
  m_bool := He.free_ok X G (c.t.d.fact 32 (f := .free "bool") rfl)
  m_int := He.free_ok X G (c.t.d.fact 33 (f := .free "int") rfl)
  m_isinstance := He.free_ok X G (c.t.d.fact 34 (f := .free "isinstance") rfl)
  m_len := He.free_ok X G (c.t.d.fact 35 (f := .free "len") rfl)
  m_list := He.free_ok X G (c.t.d.fact 36 (f := .free "list") rfl)
  m_max := He.free_ok X G (c.t.d.fact 37 (f := .free "max") rfl)
  m_min := He.free_ok X G (c.t.d.fact 38 (f := .free "min") rfl)
  m_range := He.free_ok X G (c.t.d.fact 39 (f := .free "range") rfl)
  m_sorted := He.free_ok X G (c.t.d.fact 40 (f := .free "sorted") rfl)
  m_str := He.free_ok X G (c.t.d.fact 41 (f := .free "str") rfl)
  m_sum := He.free_ok X G (c.t.d.fact 42 (f := .free "sum") rfl)
  m_tuple := He.free_ok X G (c.t.d.fact 43 (f := .free "tuple") rfl)
  m_zip := He.free_ok X G (c.t.d.fact 44 (f := .free "zip") rfl)
  c_FIGURES := He.glo_ok X G (c.t.d.fact 45 (f := .glo "FIGURES") rfl)
  t_FIGURES := fun H => He.tupB_ok c.more H
  c_MOST_BOUND := He.int_ok X G (c.t.d.fact 46 (f := .int "MOST_BOUND" 50) rfl)
  c_MOST_VALUES := He.int_ok X G (c.t.d.fact 47 (f := .int "MOST_VALUES" 7) rfl)
  e_BadBounds := reads_exc X G rfl (c.t.d.fact 48 (f := .exc "BadBounds") rfl) (c.t.d.fact 49 (f := .glo "BadBounds") rfl)
  e_BadNumber := reads_exc X G rfl (c.t.d.fact 50 (f := .exc "BadNumber") rfl) (c.t.d.fact 51 (f := .glo "BadNumber") rfl)
  e_NotFound := reads_exc X G rfl (c.t.d.fact 52 (f := .exc "NotFound") rfl) (c.t.d.fact 53 (f := .glo "NotFound") rfl)
end Law

namespace Pg
open PySem L2 Dt
local macro_rules | `(tactic| walk_at "op") => `(tactic| first | (with_reducible exact op_add_i _ _) | (with_reducible exact op_sub_i _ _) | (with_reducible exact op_lt_i _ _) | (with_reducible exact op_le_i _ _) | (with_reducible exact op_gt_i _ _) | (with_reducible exact op_ge_i _ _) | (with_reducible exact op_eq_i _ _) | (with_reducible exact op_ne_i _ _) | (with_reducible exact op_ix_p0 _) | (with_reducible exact op_ix_p1 _) | (with_reducible exact op_ix_0 _ _) | (with_reducible exact op_ix_1 _ _ _) | (with_reducible exact op_isN_d) | (with_reducible exact op_notN_d) | (with_reducible exact op_isB_d _ _) | (with_reducible exact op_notB_d _ _) | (with_reducible exact b_len_p _) | (with_reducible exact b_len_l _) | (with_reducible exact b_len_t _) | (with_reducible exact b_sum _) | (with_reducible exact b_sorted _) | (with_reducible exact b_abs _) | (with_reducible exact b_max2 _ _) | (with_reducible exact b_min2 _ _) | ((with_reducible apply op_mod_i); with_reducible assumption) | ((with_reducible apply op_div_i); with_reducible assumption) | ((with_reducible apply op_mul_i); with_reducible assumption))
local macro_rules | `(tactic| walk_at "F") => `(tactic| walk_at "op")
local macro_rules | `(tactic| walk_at "A") => `(tactic| first | (with_reducible exact ea_nil) | ((with_reducible apply ea_cons); walk_at "E"; walk_at "A"))
local macro_rules | `(tactic| walk_at "T") => `(tactic| first | ((with_reducible apply et_val); walk_at "E") | ((with_reducible apply et_not); walk_at "T") | ((with_reducible apply et_or); walk_at "T"; (intro _; walk_at "T")) | ((with_reducible apply et_and); walk_at "T"; (intro _; walk_at "T")))
local macro_rules | `(tactic| walk_at "O") => `(tactic| first | (with_reducible exact eo_none) | ((with_reducible apply eo_some); walk_at "E"))
local macro_rules | `(tactic| walk_at "E") => `(tactic| first
  | (with_reducible exact ev_c)
  | ((with_reducible apply ev_var); rfl)
  | ((with_reducible apply ev_bin); walk_at "E"; walk_at "E"; walk_at "op")
  | ((with_reducible apply ev_call); walk_at "A"; walk_at "F")
  | ((with_reducible apply ev_tup); walk_at "A"; rfl)
  | ((with_reducible apply ev_lst); walk_at "A"; rfl)
  | ((with_reducible apply ev_neg); walk_at "E")
  | ((with_reducible apply ev_isi); walk_at "E")
  | ((with_reducible apply ev_not); walk_at "E")
  | ((with_reducible apply ev_and'); walk_at "E"; (intro _; walk_at "E"))
  | ((with_reducible apply ev_or'); walk_at "E"; (intro _; walk_at "E"))
  | ((with_reducible apply ev_chain); walk_at "E"; walk_at "E"; walk_at "E"; walk_at "op"; walk_at "op")
  | ((with_reducible apply ev_sl); walk_at "E"; walk_at "O"; walk_at "O")
  | ((with_reducible apply ev_rev); walk_at "E")
  | ((with_reducible apply ev_ifT); ((with_reducible apply ev_is); walk_at "T"; rfl); walk_at "E")
  | ((with_reducible apply ev_ifF); ((with_reducible apply ev_is); walk_at "T"; rfl); walk_at "E"))
local macro_rules | `(tactic| walk_at "I") => `(tactic| first | ((with_reducible apply ei_list); walk_at "E"; done) | ((with_reducible apply ei_tup); walk_at "E") | ((with_reducible apply ei_enum); walk_at "A") | ((with_reducible apply ei_zip); walk_at "A"))
local macro_rules | `(tactic| walk_at "S") => `(tactic| first
  | (with_reducible exact es_nil)
  | ((with_reducible apply es_retV); rfl)
  | ((with_reducible apply es_retO); rfl)
  | ((with_reducible apply es_ret); walk_at "E")
  | ((with_reducible apply es_seq); walk_at "S"; walk_at "S")
  | ((with_reducible apply es_expr); walk_at "E")
  | ((with_reducible apply es_set); walk_at "E")
  | ((with_reducible apply es_setO); walk_at "E")
  | ((with_reducible apply es_par); walk_at "A")
  | ((with_reducible apply es_asgT); walk_at "E"; rfl)
  | ((with_reducible apply es_ifF); ((with_reducible apply ev_is); walk_at "T"; (first | rfl | with_reducible assumption)); walk_at "S")
  | ((with_reducible apply es_ifT); ((with_reducible apply ev_is); walk_at "T"; (first | rfl | with_reducible assumption)); walk_at "S"))
local macro_rules | `(tactic| walk_at "F") => `(tactic| with_reducible exact is_int_eq _ _ _)
local macro_rules | `(tactic| walk_at "F") => `(tactic| with_reducible exact is_bound_eq _)
local macro_rules | `(tactic| walk_at "F") => `(tactic| ((with_reducible apply is_bounds_eq); exact okB_len (by with_reducible assumption)))
local macro_rules | `(tactic| walk_at "F") => `(tactic| ((with_reducible apply check_ok); with_reducible assumption))
local macro_rules | `(tactic| walk_at "F") => `(tactic| ((with_reducible apply lows_eq); exact okB_len (by with_reducible assumption)))
local macro_rules | `(tactic| walk_at "F") => `(tactic| ((with_reducible apply highs_eq); exact okB_len (by with_reducible assumption)))
local macro_rules | `(tactic| walk_at "F") => `(tactic| ((with_reducible apply sum_range_eq); with_reducible assumption))
local macro_rules | `(tactic| walk_at "F") => `(tactic| ((with_reducible apply mean_range_eq); with_reducible assumption))
local macro_rules | `(tactic| walk_at "F") => `(tactic| ((with_reducible apply median_range_eq); with_reducible assumption))
local macro_rules | `(tactic| walk_at "F") => `(tactic| ((with_reducible apply least_range_eq); with_reducible assumption))
local macro_rules | `(tactic| walk_at "F") => `(tactic| ((with_reducible apply greatest_range_eq); with_reducible assumption))
local macro_rules | `(tactic| walk_at "F") => `(tactic| ((with_reducible apply choices_eq) <;> with_reducible assumption))
local macro_rules | `(tactic| walk_at "F") => `(tactic| ((with_reducible apply b_min); with_reducible assumption))
local macro_rules | `(tactic| walk_at "F") => `(tactic| ((with_reducible apply b_max); with_reducible assumption))
local macro_rules | `(tactic| walk_at "F") => `(tactic| with_reducible exact frac_int _ _)
local macro_rules | `(tactic| walk_at "F") => `(tactic| with_reducible exact frac_pair _ _)
local macro_rules | `(tactic| walk_at "op") => `(tactic| with_reducible exact fg_sum _)
local macro_rules | `(tactic| walk_at "op") => `(tactic| with_reducible exact fg_mean _)
local macro_rules | `(tactic| walk_at "op") => `(tactic| with_reducible exact fg_median _)
local macro_rules | `(tactic| walk_at "op") => `(tactic| with_reducible exact fg_least _)
local macro_rules | `(tactic| walk_at "F") => `(tactic| ((with_reducible apply figure_range_eq); with_reducible assumption))
local macro_rules | `(tactic| walk_at "F") => `(tactic| with_reducible exact check_figure_eq _)
theorem ne_bool (a b : Bool) : oNe (.d (.bool a)) (.d (.bool b)) = .ret (.d (.bool (!(a == b))), false) := by
  rw [op_ne_d rfl rfl]; rfl
local macro_rules | `(tactic| walk_at "op") => `(tactic| with_reducible exact ne_bool _ _)
theorem chain3_ok {fa fb fc fd : En → M RV} {en : En} {a b c d : Int} {u1 u2 u3 u4 : Bool} (ha : fa en = .ret (dI a, u1)) (hb : fb en = .ret (dI b, u2)) (hc : fc en = .ret (dI c, u3)) (hd : fd en = .ret (dI d, u4)) (h1 : a ≤ b) (h2 : b ≤ c) (h3 : c ≤ d) : dChain3 fa fb fc fd en = .ret true := by
  unfold dChain3
  rw [ha, ret_bind, hb, ret_bind]
  dsimp only
  rw [op_le_i, ret_bind, decide_eq_true h1]
  dsimp only
  rw [hc, ret_bind]
  dsimp only
  rw [op_le_i, ret_bind, decide_eq_true h2]
  dsimp only
  rw [hd, ret_bind]
  dsimp only
  rw [op_le_i, ret_bind, decide_eq_true h3]
  rfl
abbrev en14 (ns : List Int) (bs : List (Int × Int)) (u4 u5 u6 u7 u8 u9 u10 u11 u12 u13 u14 u15 u16 u17 u18 : Option Slot) : En :=
  [some (.v (.scr ns)), some (.v (.ob 0)), some (.v (.d (dBs bs))), some (.v (dI bs.length)), u4, u5, u6, u7, u8, u9, u10, u11, u12, u13, u14, u15, u16, u17, u18]
theorem range1_eq (n : Nat) : rangeP 1 ((n : Int) + 1 - 1).toNat = (List.range n).map fun i : Nat => PyData.int (1 + (i : Int)) := by
  unfold rangeP
  have : ((n : Int) + 1 - 1).toNat = n := by omega
  rw [this]
theorem kth_at {bs : List (Int × Int)} (ok : okB bs = true) {i : Nat} (hi : i < bs.length) : F_kth_range [.d (dBs bs), dI (1 + (i : Int))] = .ret (.d (dP (kth (los bs) i, kth (his bs) i)), false) := by
  have := kth_range_eq ok (k := 1 + (i : Int)) (by omega) (by omega)
  rw [show (1 + (i : Int)).toNat - 1 = i by omega] at this
  exact this
theorem above_le (v : Int) {bs : List (Int × Int)} (ok : okB bs = true) : 0 ≤ aboveC v (los bs) ∧ aboveC v (los bs) ≤ aboveC v (his bs) ∧ aboveC v (his bs) ≤ bs.length := by
  have h := ((Ch.high (okB_pos ok).2).lo).above v
  have h2 := List.length_filter_le (fun z => decide (v < z)) (his bs)
  rw [List.length_map] at h2
  unfold aboveC
  omega
theorem okF_int {t : Int} (h : t.natAbs < 1000000) : okF (t, 1) := ⟨(by decide : (0 : Int) < 1), (by decide : (1 : Int) ∣ 5040), h⟩
theorem sum_small {bs : List (Int × Int)} (ok : okB bs = true) : (los bs).sum.natAbs ≤ 350 ∧ (his bs).sum.natAbs ≤ 350 := by
  have h1 := okR_los ok
  have h2 := okR_his ok
  have a := sum_abs h1.2
  have b := sum_abs h2.2
  have c : (los bs).length * 50 ≤ 7 * 50 := Nat.mul_le_mul_right _ h1.1.2
  have d : (his bs).length * 50 ≤ 7 * 50 := Nat.mul_le_mul_right _ h2.1.2
  omega
theorem above_50 {bs : List (Int × Int)} (ok : okB bs = true) : aboveC 50 (los bs) = 0 ∧ aboveC 50 (his bs) = 0 := by
  have hk := (okB_iff.mp ok).2
  unfold aboveC
  constructor
  · rw [List.filter_eq_nil_iff.mpr]; rfl
    intro x hx
    obtain ⟨p, hp, rfl⟩ := List.mem_map.mp hx
    have := hk p hp
    simp; omega
  · rw [List.filter_eq_nil_iff.mpr]; rfl
    intro x hx
    obtain ⟨p, hp, rfl⟩ := List.mem_map.mp hx
    have := hk p hp
    simp; omega
theorem above_m50 : ∀ {bs : List (Int × Int)}, (∀ p ∈ bs, -50 ≤ p.2) → (bs.length : Int) - ((bs.filter fun p => decide (p.2 = 0 - 50)).length : Int) ≤ aboveC (0 - 50) (his bs)
  | [], _ => by simp [aboveC]
  | p :: bs, h => by
    have ih := above_m50 (bs := bs) fun q hq => h q (List.mem_cons_of_mem _ hq)
    have hp := h p List.mem_cons_self
    unfold aboveC his at *
    rw [List.map_cons, List.filter_cons, List.filter_cons]
    by_cases c : p.2 = 0 - 50
    · rw [if_pos (by simpa using c), if_neg (by simp; omega)]
      simp only [List.length_cons]
      omega
    · rw [if_neg (by simpa using c), if_pos (by simp; omega)]
      simp only [List.length_cons]
      omega
theorem k14_law : LawTrue Law.F_law := by
  refine law_of (m := 17) rfl fun ns hns => ?_
  with_reducible apply dws_seq
  with_reducible apply dws_set
  with_reducible apply dwe_call
  refine DW.of (by walk_at "A") ?_
  refine (bounds_dw (n := 7) (by decide) (by decide)).mono fun r hr => ?_
  obtain ⟨bs, hs, rfl⟩ := hr
  refine ⟨_, rfl, ?_⟩
  have ok := hs.ok (by decide)
  have hp := okB_pos ok
  have hn7 := hp.1.2
  have hn1 := hp.1.1
  have hbl := okB_len ok
  have hlos : (los bs).length = bs.length := List.length_map _
  have hhis : (his bs).length = bs.length := List.length_map _
  with_reducible apply dws_pure
  · walk_at "S"
  rw [List.length_map]
  with_reducible apply dws_seq
  with_reducible apply dws_for
  refine DW.of (a := (List.range 6).map fun i : Nat => PyData.int (0 + (i : Int))) (ei_range1 (n := 6) (by walk_at "A") (by decide)) ?_
  refine dw_forL (k := 0) (I := fun _ en => ∃ u4 u6 u7 u10 u11 u17 u18, en = en14 ns bs u4 none u6 u7 none none u10 u11 none none none none none u17 u18) ⟨none, none, none, none, none, none, none, rfl⟩ ?_ ?_
  · rintro k x en _ _ ⟨u4, u6, u7, u10, u11, u17, u18, rfl⟩
    refine ⟨_, rfl, ?_⟩
    with_reducible apply dws_seq
    with_reducible apply dws_set
    with_reducible apply dwe_bin
    with_reducible apply dwe_call
    refine DW.of (by walk_at "A") ?_
    refine DW.draw (by decide) (by decide) fun t t0 t1 => ?_
    refine DW.of (by walk_at "E") (DW.of (op_sub_i _ _) ⟨_, rfl, ?_⟩)
    with_reducible apply dws_pure
    · with_reducible apply es_asgT
      · with_reducible apply ev_call
        · walk_at "A"
        · exact above_range_eq ok (v := t - 50) (by omega) (by omega)
      · rfl
    have key := es_forP (emb := fun i : Nat => PyData.int (1 + (i : Int))) (sl := [11]) (bd := bdN) (xs := List.range bs.length)
      (s1 := sSeq (sAsgT [17, 18] (bdT 2) (dCall F_kth_range (aCons (dVar 2) (aCons (dVar 11) aNil))))
        (sIf (dOr (dTest (dBin oNe (dBin oGt (dVar 17) (dVar 10)) (dBin oGe (dVar 6) (dBin oSub (dBin oAdd (dVar 3) (dC (.int 1))) (dVar 11))))) (dTest (dBin oNe (dBin oGt (dVar 18) (dVar 10)) (dBin oGe (dVar 7) (dBin oSub (dBin oAdd (dVar 3) (dC (.int 1))) (dVar 11))))))
        (sRet (dC (.bool false)))
        sNil))
      (R := fun pre en => ∃ u11 u17 u18, en = en14 ns bs (some (.v (dI (0 + (x : Int))))) none (some (.v (dI (aboveC (t - 50) (los bs))))) (some (.v (dI (aboveC (t - 50) (his bs))))) none none (some (.v (dI (t - 50)))) u11 none none none none none u17 u18)
      (en := en14 ns bs (some (.v (dI (0 + (x : Int))))) none (some (.v (dI (aboveC (t - 50) (los bs))))) (some (.v (dI (aboveC (t - 50) (his bs))))) none none (some (.v (dI (t - 50)))) u11 none none none none none u17 u18)
      ⟨_, _, _, rfl⟩ (by
        rintro pre i post en hx ⟨u11, u17, u18, rfl⟩
        have hi : i < bs.length := List.mem_range.mp (by rw [hx]; simp)
        have c1 := kth_above (xs := los bs) (k := i) (by omega) (t - 50)
        have c2 := kth_above (xs := his bs) (k := i) (by omega) (t - 50)
        rw [hlos] at c1
        rw [hhis] at c2
        have d1 : decide (t - 50 < kth (los bs) i) = decide ((bs.length : Int) + 1 - (1 + (i : Int)) ≤ aboveC (t - 50) (los bs)) := by rw [decide_eq_decide, c1]; omega
        have d2 : decide (t - 50 < kth (his bs) i) = decide ((bs.length : Int) + 1 - (1 + (i : Int)) ≤ aboveC (t - 50) (his bs)) := by rw [decide_eq_decide, c2]; omega
        refine ⟨_, rfl, ?_⟩
        apply Exists.intro
        constructor
        · with_reducible apply es_seq
          · with_reducible apply es_asgT
            · with_reducible apply ev_call
              · walk_at "A"
              · exact kth_at ok hi
            · rfl
          · with_reducible apply es_ifF
            · with_reducible apply ev_is
              · walk_at "T"
              · rw [d1, d2]; simp
            · walk_at "S"
        · exact ⟨_, _, _, rfl⟩)
    obtain ⟨en', h1, u11, u17, u18, rfl⟩ := key
    with_reducible apply dws_pure
    · with_reducible apply es_for
      · with_reducible apply ei_range2
        · walk_at "A"
        · omega
      · rw [range1_eq]
        exact h1
    clear h1
    have ha := above_le (t - 50) ok
    with_reducible apply DW.of
    · with_reducible apply es_ifF
      · with_reducible apply ev_is
        · with_reducible apply et_not
          exact chain3_ok ev_c (ev_var rfl) (ev_var rfl) (ev_var rfl) ha.1 ha.2.1 ha.2.2
        · rfl
      · walk_at "S"
    · exact ⟨_, rfl, _, _, _, _, _, _, _, rfl⟩
  · rintro en' ⟨u4, u6, u7, u10, u11, u17, u18, rfl⟩
    refine ⟨_, rfl, ?_⟩
    with_reducible apply dws_pure
    · with_reducible apply es_set
      refine list_of (ys := ((List.range bs.length).map fun i => (kth (los bs) i, kth (his bs) i)).map dP) (ev_compN (xs := List.range bs.length) (emb := fun i : Nat => PyData.int (1 + (i : Int))) (f := fun i => dP (kth (los bs) i, kth (his bs) i)) (b := false) ?_ (by rw [List.length_range]; exact hbl) fun i hi => ?_) (by rw [List.map_map]; rfl)
      · rw [← range1_eq]
        with_reducible apply ei_range2
        · walk_at "A"
        · omega
      · with_reducible apply ev_call
        · walk_at "A"
        · exact kth_at ok (List.mem_range.mp hi)
    have hrl : ((List.range bs.length).map fun i => (kth (los bs) i, kth (his bs) i)).length ≤ lim := by rw [List.length_map, List.length_range]; exact hbl
    have q1 : (((List.range bs.length).map fun i => (kth (los bs) i, kth (his bs) i)).map (·.1)).sum = (los bs).sum := by
      rw [List.map_map, ← kth_sum (los bs), hlos]; rfl
    have q2 : (((List.range bs.length).map fun i => (kth (los bs) i, kth (his bs) i)).map (·.2)).sum = (his bs).sum := by
      rw [List.map_map, ← kth_sum (his bs), hhis]; rfl
    with_reducible apply dws_pure
    · with_reducible apply es_ifF
      · with_reducible apply ev_is
        · with_reducible apply et_or
          · with_reducible apply et_val
            with_reducible apply ev_bin
            · with_reducible apply ev_call
              · with_reducible apply ea_cons
                · exact list_of (ys := (((List.range bs.length).map fun i => (kth (los bs) i, kth (his bs) i)).map (·.1)).map PyData.int) (ev_compB (f := fun p => .int p.1) (b := false) (by walk_at "I") hrl fun p hp => by walk_at "E") (by simp only [List.map_map]; rfl)
                · walk_at "A"
              · exact b_sum _
            · walk_at "E"
            · walk_at "op"
          · intro _
            with_reducible apply et_val
            with_reducible apply ev_bin
            · with_reducible apply ev_call
              · with_reducible apply ea_cons
                · exact list_of (ys := (((List.range bs.length).map fun i => (kth (los bs) i, kth (his bs) i)).map (·.2)).map PyData.int) (ev_compB (f := fun p => .int p.2) (b := false) (by walk_at "I") hrl fun p hp => by walk_at "E") (by simp only [List.map_map]; rfl)
                · walk_at "A"
              · exact b_sum _
            · walk_at "E"
            · walk_at "op"
        · rw [q1, q2]; simp
      · walk_at "S"
    -- least, greatest
    have fl : fv .least (los bs) = kth (los bs) 0 * 5040 ∧ fv .least (his bs) = kth (his bs) 0 * 5040 := by
      unfold fv figP
      rw [val_one, val_one, sorted_min (by omega), sorted_min (by omega)]
      exact ⟨rfl, rfl⟩
    have fg : fv .greatest (los bs) = kth (los bs) (bs.length - 1) * 5040 ∧ fv .greatest (his bs) = kth (his bs) (bs.length - 1) * 5040 := by
      unfold fv figP
      rw [val_one, val_one, sorted_max (by omega), sorted_max (by omega), hlos, hhis]
      exact ⟨rfl, rfl⟩
    have hall : ∀ x ∈ [(Fg.least, (1 : Int)), (Fg.greatest, (bs.length : Int))], ∃ lo hi : Int, F_kth_range [.d (dBs bs), dI x.2] = .ret (.d (dP (lo, hi)), false) ∧ F_can_reach [.d (dBs bs), .d (.str x.1.s), .d (dP (lo, 1))] = rB true ∧ F_can_reach [.d (dBs bs), .d (.str x.1.s), .d (dP (hi + 1, 1))] = rB false := by
      have rl := (okR_los ok).2
      have rh := (okR_his ok).2
      have gen : ∀ (f : Fg) (i : Nat), i < bs.length → fv f (los bs) = kth (los bs) i * 5040 → fv f (his bs) = kth (his bs) i * 5040 → ∃ lo hi : Int, F_kth_range [.d (dBs bs), dI (1 + (i : Int))] = .ret (.d (dP (lo, hi)), false) ∧ F_can_reach [.d (dBs bs), .d (.str f.s), .d (dP (lo, 1))] = rB true ∧ F_can_reach [.d (dBs bs), .d (.str f.s), .d (dP (hi + 1, 1))] = rB false := by
        intro f i hi e1 e2
        have k1 := kth_abs (k := i) rl
        have k2 := kth_abs (k := i) rh
        have hle := (Ch.high hp.2).lo.kth i
        refine ⟨_, _, kth_at ok hi, ?_, ?_⟩
        · rw [can_reach_eq f ok (okF_int (by omega)), e1, e2, val_one, decide_eq_false (by omega), decide_eq_false (by omega)]
          rfl
        · rw [can_reach_eq f ok (okF_int (by omega)), e1, e2, val_one, decide_eq_false (by omega), decide_eq_true (show kth (his bs) i * 5040 < (kth (his bs) i + 1) * 5040 by omega)]
          rfl
      intro x hx
      simp at hx
      rcases hx with rfl | rfl
      · exact gen .least 0 (by omega) fl.1 fl.2
      · have := gen .greatest (bs.length - 1) (by omega) fg.1 fg.2
        rw [show (1 : Int) + ((bs.length - 1 : Nat) : Int) = bs.length by omega] at this
        exact this
    generalize hR : ((List.range bs.length).map fun i => (kth (los bs) i, kth (his bs) i)).map dP = RR
    have key := es_forP (emb := fun x : Fg × Int => PyData.tuple [.str x.1.s, .int x.2]) (sl := [12, 11]) (bd := bdT 2) (xs := [(Fg.least, (1 : Int)), (Fg.greatest, (bs.length : Int))])
      (s1 := sSeq (sAsgT [17, 18] (bdT 2) (dCall F_kth_range (aCons (dVar 2) (aCons (dVar 11) aNil))))
        (sIf (dOr (dTest (dBin oNotB (dCall F_can_reach (aCons (dVar 2) (aCons (dVar 12) (aCons (dTup (aCons (dVar 17) (aCons (dC (.int 1)) aNil))) aNil)))) (dC (.bool true)))) (dTest (dBin oNotB (dCall F_can_reach (aCons (dVar 2) (aCons (dVar 12) (aCons (dTup (aCons (dBin oAdd (dVar 18) (dC (.int 1))) (aCons (dC (.int 1)) aNil))) aNil)))) (dC (.bool false)))))
        (sRet (dC (.bool false)))
        sNil))
      (R := fun pre en => ∃ u11 u12 u17 u18, en = en14 ns bs u4 (some (.v (.d (.list RR)))) u6 u7 none none u10 u11 u12 none none none none u17 u18)
      (en := en14 ns bs u4 (some (.v (.d (.list RR)))) u6 u7 none none u10 u11 none none none none none u17 u18)
      ⟨_, _, _, _, rfl⟩ (by
        rintro pre x post en hx ⟨u11, u12, u17, u18, rfl⟩
        obtain ⟨lo, hi, g1, g2, g3⟩ := hall x (by rw [hx]; simp)
        refine ⟨_, rfl, ?_⟩
        apply Exists.intro
        constructor
        · with_reducible apply es_seq
          · with_reducible apply es_asgT
            · with_reducible apply ev_call
              · walk_at "A"
              · exact g1
            · rfl
          · with_reducible apply es_ifF
            · with_reducible apply ev_is
              · with_reducible apply et_or
                · with_reducible apply et_val
                  with_reducible apply ev_bin
                  · with_reducible apply ev_call
                    · walk_at "A"
                    · exact g2
                  · walk_at "E"
                  · exact op_notB_d _ _
                · intro _
                  with_reducible apply et_val
                  with_reducible apply ev_bin
                  · with_reducible apply ev_call
                    · walk_at "A"
                    · exact g3
                  · walk_at "E"
                  · exact op_notB_d _ _
              · rfl
            · walk_at "S"
        · exact ⟨_, _, _, _, rfl⟩)
    obtain ⟨en', h1, u11, u12, u17, u18, rfl⟩ := key
    with_reducible apply dws_pure
    · with_reducible apply es_for
      · refine (?_ : _ = M.ret ([(Fg.least, (1 : Int)), (Fg.greatest, (bs.length : Int))].map fun x : Fg × Int => PyData.tuple [.str x.1.s, .int x.2]))
        walk_at "I"
      · exact h1
    clear h1
    have ss := sum_small ok
    have su := sum_up (bs := bs) hp.2
    with_reducible apply dws_pure
    · with_reducible apply es_asgT
      · walk_at "E"
      · rfl
    with_reducible apply dws_seq
    with_reducible apply dws_set
    with_reducible apply dwe_bin
    refine DW.of (by walk_at "E") ?_
    with_reducible apply dwe_call
    refine DW.of (by walk_at "A") ?_
    refine DW.draw (by dsimp only; omega) (by dsimp only; omega) fun t t0 t1 => ?_
    refine DW.of (op_add_i _ _) ⟨_, rfl, ?_⟩
    dsimp only at t1
    generalize hl : (los bs).sum + t = l
    with_reducible apply dws_seq
    with_reducible apply dws_set
    with_reducible apply dwe_bin
    refine DW.of (ev_var (a := dI l) (by rw [← hl]; rfl)) ?_
    with_reducible apply dwe_call
    refine DW.of (a := [.ob 0, dI ((his bs).sum - l + 1)]) (by rw [← hl]; exact ea_cons (ev_var rfl) (ea_cons (ev_bin (ev_bin (ev_var rfl) (ev_var rfl) (op_sub_i _ _)) ev_c (op_add_i _ _)) ea_nil)) ?_
    refine DW.draw (by omega) (by omega) fun t' t0' t1' => ?_
    refine DW.of (op_add_i _ _) ⟨_, rfl, ?_⟩
    generalize hg : l + t' = g
    have b1 : (los bs).sum ≤ l := by omega
    have b2 : l ≤ g := by omega
    have b3 : g ≤ (his bs).sum := by omega
    have wst := with_sum_eq ok (l := l) (g := g) (by omega) b2 (by omega) (by omega) (by omega)
    have okT := ws_ok ok b2 (show (los bs).sum ≤ g by omega) (show l ≤ (his bs).sum by omega)
    have upT := ws_up (bs := bs) hp.2 b2 (show (los bs).sum ≤ g by omega) (show l ≤ (his bs).sum by omega)
    have lT : (ws bs l g).length = bs.length := List.length_map _
    have met1 := met_eq ok okT lT.symm (by rw [mt_ws hp.2 b2 (by omega) (by omega)]; exact upT)
    rw [mt_ws hp.2 b2 (by omega) (by omega)] at met1
    have wlow := ws_low (g := g) (bs := bs) hp.2 b1 (by omega)
    have whigh := ws_high (l := l) (bs := bs) hp.2 (show (los bs).sum ≤ g by omega) b3
    have wst2 := with_sum_eq okT (l := l) (g := g) (by omega) b2 (by omega) (by omega) (by omega)
    rw [ws_idem hp.2 b2 b1 b3] at wst2
    have wst3 := with_sum_eq ok (l := (los bs).sum) (g := (his bs).sum) (by omega) su (by omega) su su
    rw [ws_full hp.2] at wst3
    have wst4 := with_sum_eq ok (l := l) (g := l) (by omega) (Int.le_refl _) (by omega) b1 (by omega)
    have okA := ws_ok ok (Int.le_refl l) b1 (show l ≤ (his bs).sum by omega)
    have upA := ws_up (bs := bs) hp.2 (Int.le_refl l) b1 (show l ≤ (his bs).sum by omega)
    have met2 := met_eq okT okA (by rw [lT]; exact (List.length_map _).symm) (by rw [mt_alone b2]; exact upA)
    rw [mt_alone b2] at met2
    have srT := sum_range_eq okT
    have ab1 := above_range_eq ok (v := 50) (by decide) (by decide)
    rw [(above_50 ok).1, (above_50 ok).2] at ab1
    have ab2 := above_range_eq ok (v := 0 - 50) (by decide) (by decide)
    have abm := above_m50 (bs := bs) fun p hp' => by have := (okB_iff.mp ok).2 p hp'; omega
    refine dws_pure (en' := en14 ns bs u4 (some (.v (.d (.list RR)))) (some (.v (dI l))) (some (.v (dI g))) (some (.v (.d (dBs (ws bs l g))))) none u10 u11 u12 (some (.v (dI (los bs).sum))) (some (.v (dI (his bs).sum))) none none u17 u18) ?_ ?_
    · rw [← hl] at wst
      rw [← hg, ← hl] at wst
      refine Eq.trans (es_set (z := .d (dBs (ws bs l g))) (w := true) (ev_call (as := [.d (dBs bs), dI l, dI g]) ?_ (by rw [← hg, ← hl]; exact wst))) (by rw [← hg, ← hl]; rfl)
      rw [← hg, ← hl]
      exact ea_cons (ev_var rfl) (ea_cons (ev_var rfl) (ea_cons (ev_var rfl) ea_nil))
    with_reducible apply dws_pure
    · with_reducible apply es_ifF
      · with_reducible apply ev_is
        · with_reducible apply et_or
          · with_reducible apply et_val
            with_reducible apply ev_bin
            · with_reducible apply ev_call
              · walk_at "A"
              · exact met1
            · walk_at "E"
            · exact ne_same (Nc.bs _) rfl (by decide)
          · intro _
            with_reducible apply et_or
            · with_reducible apply et_val
              with_reducible apply ev_bin
              · with_reducible apply ev_call
                · walk_at "A"
                · exact wst2
              · walk_at "E"
              · exact ne_same (Nc.bs _) rfl (by decide)
            · intro _
              with_reducible apply et_val
              with_reducible apply ev_bin
              · with_reducible apply ev_call
                · walk_at "A"
                · exact wst3
              · walk_at "E"
              · exact ne_same (Nc.bs _) rfl (by decide)
        · rfl
      · walk_at "S"
    with_reducible apply dws_pure
    · with_reducible apply es_asgT
      · with_reducible apply ev_call
        · walk_at "A"
        · exact srT
      · rfl
    with_reducible apply dws_pure
    · with_reducible apply es_set
      with_reducible apply ev_call
      · walk_at "A"
      · exact wst4
    with_reducible apply dws_pure
    · with_reducible apply es_ifF
      · with_reducible apply ev_is
        · with_reducible apply et_or
          · walk_at "T"
          · intro _
            with_reducible apply et_or
            · walk_at "T"
            · intro _
              with_reducible apply et_val
              with_reducible apply ev_bin
              · walk_at "E"
              · with_reducible apply ev_call
                · walk_at "A"
                · exact met2
              · exact ne_same (Nc.bs _) rfl (by decide)
        · simp; omega
      · walk_at "S"
    refine DW.of (by
      with_reducible apply es_ret
      refine Eq.trans (ev_and' (k := true) (l := true) (u := false) ?_ fun _ => ?_) rfl
      · with_reducible apply ev_bin
        · with_reducible apply ev_call
          · walk_at "A"
          · exact ab1
        · walk_at "E"
        · exact eq_same (Nc.dP _) rfl (by decide)
      · refine Eq.trans (ev_bin (z := .d (.bool (decide ((bs.length : Int) - ((bs.filter fun p => decide (p.2 = 0 - 50)).length : Int) ≤ aboveC (0 - 50) (his bs))))) (u := false) (v := false) (w := false) ?_ ?_ (op_ge_i _ _)) (by rw [decide_eq_true abm])
        · with_reducible apply ev_bin
          · with_reducible apply ev_call
            · walk_at "A"
            · exact ab2
          · walk_at "E"
          · exact op_ix_p1 _
        · have e : ((bs.filter fun p => decide (p.2 = 0 - 50)).length : Int) = (((bs.filter fun p => decide (p.2 = 0 - 50)).map fun _ => PyData.int 1).length : Int) := by rw [List.length_map]
          rw [e]
          with_reducible apply ev_bin
          · walk_at "E"
          · with_reducible apply ev_call
            · with_reducible apply ea_cons
              · exact ev_compBF (f := fun p => .int 1) (g := fun p => decide (p.2 = 0 - 50)) (b := false) (by walk_at "I") hbl (fun p hp => by walk_at "T") fun p hp _ => by walk_at "E"
              · walk_at "A"
            · walk_at "F"
          · exact op_sub_i _ _) rfl
end Pg

theorem Law.law_true : Dt.LawTrue Law.F_law := Pg.k14_law

open PySem PySem.W PySem.Calls PyProof.Rows in
set_option maxRecDepth 100000 in
set_option maxHeartbeats 0 in
theorem PySem.Challenge.cw_boundstats_k14_whole_limits_holds : PySem.Challenge.rw_boundstats_k14_whole_limits.Holds := by
  w_on; o_law
  refine HandSHeadRun.head_any (r := OpenLaw.row PySem.Challenge.rw_boundstats_k14_whole_limits) (q := view (OpenLaw.row PySem.Challenge.rw_boundstats_k14_whole_limits).prog [41]) (H := Law.hk) (ob := Law.ob) (M := 20000) (loose := Law.loose) (d := HandSHeadRun.topDef (OpenLaw.row PySem.Challenge.rw_boundstats_k14_whole_limits).prog 41) (kwd := []) Law.ob_eq
    (by kernel_rfl) (fun s => by kernel_rfl) Law.run (by kernel_rfl) (by kernel_rfl) (by kernel_rfl) (by rfl) (by first | assumption | decide +kernel) (by decide +kernel) ⟨rfl, rfl, rfl, rfl, rfl, by decide +kernel⟩ ?hw ?hc
  case hw => w_witness2
  case hc =>
    refine L2.walk_ofE (l := PySem.Challenge.rw_boundstats_k14_whole_limits) (n := 63) (k := 10) (x := "script") (CX := L2.CX0) rfl (by decide) (by kernel_rfl) ⟨rfl, by decide, by decide⟩ ?F (fun _ _ _ _ z => z)
    intro w mg fa h Y G hmg0
    obtain ⟨K, KX, c⟩ := Y
    have hmg : mg ("law" : PySem.Str) = some (.ref fa) := by
      have e : (HandSHeadRun.topDef (OpenLaw.row PySem.Challenge.rw_boundstats_k14_whole_limits).prog 41).name = ("law" : PySem.Str) := by kernel_rfl
      rw [← e]
      exact hmg0
    have T := Law.facts KX G c
    obtain ⟨fd, hb, hF⟩ := Law.okL (P := (PySem.Challenge.rw_boundstats_k14_whole_limits).prog) (w := w) T
    have efa : He.ga K "law" = fa := Value.ref.inj (Option.some.inj ((T.g_law).symm.trans hmg))
    subst efa
    exact ⟨K, fd, fun vs H Q _ => Dt.spD (Law.theMo K) K Law.F_law vs H Q L2.E0, KX, hb, fun H a ns hl _ hS => Dt.law_sp Law.law_true H a ns hl hS, fun base _ _ => Dt.FnOk.no (hF base)⟩
