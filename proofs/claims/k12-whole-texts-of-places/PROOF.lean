import PyProof.Rows.All
import Wide.All
import OpenK.AllK
import Wide.FinOn
import HandS.ForMost
import HandS.FStr
import KE.DataEq
import HandS.OwnEq
import PyProof.InstEq
import HandS.More
import KE.KSuper
import HandS.Walk
import HandS.IsInst
import HandS.Conv
import KE.KCallOwn
import HandS.Defaults
import HandS.HeadHook1
import HandS.HeadHook2
import HandS.Head0
import HandS.Head1
import HandS.Head2
import KE.KStateDown
import Lean
import HandS.WordsExc
import HandS.HeadEnd
import PyProof.EqLayable
import KE.GoesMore
import KE.GoesEnum
import PyProof.SumWalkG
import PyProof.WalksMore
import PyProof.Rows.SumAny
import HandS.TupAny
import HandS.Zip
import HandS.Star
import HandS.Text
import HandS.Codes
import HandS.FStrTup
import KE.DataCmp
import PySem.Challenge.RW_planless_k12_whole_texts_of_places
set_option Elab.async false
set_option linter.all false
set_option maxRecDepth 100000
section
set_option maxHeartbeats 4000000
/-! PA: the plain data: numbers, told, trees, texts. -/
namespace PL
open PySem

/-! ### words -/
inductive Wd where
  | fin | hole | draw | kmove | rmove | khides | rhides | ksees | rsees | kshows | rshows
  deriving DecidableEq
def Wd.s : Wd → Str
  | .fin => "end" | .hole => "hole" | .draw => "draw" | .kmove => "keeper-move" | .rmove => "rival-move"
  | .khides => "keeper-hides" | .rhides => "rival-hides" | .ksees => "keeper-sees" | .rsees => "rival-sees"
  | .kshows => "keeper-shows" | .rshows => "rival-shows"
/-- which side a single or showing place is of -/
def Wd.isK : Wd → Bool
  | .khides => true | .ksees => true | .kshows => true | _ => false
def Wd.isMove : Wd → Bool
  | .kmove => true | .rmove => true | _ => false
def Wd.isSingle : Wd → Bool
  | .khides => true | .rhides => true | .ksees => true | .rsees => true | _ => false
def Wd.isShows : Wd → Bool
  | .kshows => true | .rshows => true | _ => false
def Wd.isSees : Wd → Bool
  | .ksees => true | .rsees => true | _ => false
def Wd.isHides : Wd → Bool
  | .khides => true | .rhides => true | _ => false
def Wd.isLeaf : Wd → Bool
  | .fin => true | .hole => true | _ => false
theorem Wd.inj : ∀ a b : Wd, a.s = b.s → a = b := by
  intro a b
  cases a <;> cases b <;> first | (intro _; rfl) | (intro h; exact absurd h (by decide +kernel))
theorem Wd.eq_s (a b : Wd) : (a.s == b.s) = decide (a = b) := by
  by_cases h : a = b
  · subst h
    rw [decide_eq_true rfl]
    exact beq_self_eq_true _
  · rw [decide_eq_false h]
    exact beq_eq_false_iff_ne.mpr fun e => h (Wd.inj a b e)

/-! ### numbers -/
inductive Nm where
  | i (n : Int)
  | f (p q : Int)
  deriving DecidableEq
def Nm.data : Nm → PyData
  | .i n => .int n
  | .f p q => .tuple [.int p, .int q]
def num (n : Int) : Str := toString n
def Nm.txt : Nm → Str
  | .i n => num n
  | .f p q => num p ++ (("/" : Str) ++ num q)
/-- within the bounds that the law draws -/
def smallI (n : Int) : Prop := -30 ≤ n ∧ n ≤ 30
def Nm.ok : Nm → Prop
  | .i n => smallI n
  | .f p q => smallI p ∧ 2 ≤ q ∧ q ≤ 4 ∧ Int.gcd p q = 1
def Nm.nn : Nm → Prop
  | .i n => 0 ≤ n
  | .f p _ => 0 ≤ p
end PL
namespace PL
open PySem
/-! ### lots: by the number of each hand's lot -/
def addLot (L : List (List Nat)) (h k : Nat) : List (List Nat) := if k = L.length then L ++ [[h]] else L.modify k (· ++ [h])
def lotsFrom : List (List Nat) → Nat → List Nat → List (List Nat)
  | L, _, [] => L
  | L, h, k :: r => lotsFrom (addLot L h k) (h + 1) r
def lotsOf (c : List Nat) : List (List Nat) := lotsFrom [] 0 c
/-- each number at most one more than those ahead -/
def rgsFrom : List (List Nat) → Nat → List Nat → Prop
  | _, _, [] => True
  | L, h, k :: r => k ≤ L.length ∧ rgsFrom (addLot L h k) (h + 1) r
def Rgs (c : List Nat) : Prop := rgsFrom [] 0 c
theorem lotsFrom_snoc : ∀ (c : List Nat) (L : List (List Nat)) (h k : Nat), lotsFrom L h (c ++ [k]) = addLot (lotsFrom L h c) (h + c.length) k
  | [], L, h, k => rfl
  | x :: c, L, h, k => by
    show lotsFrom (addLot L h x) (h + 1) (c ++ [k]) = addLot (lotsFrom (addLot L h x) (h + 1) c) (h + (c.length + 1)) k
    rw [lotsFrom_snoc c _ _ k, Nat.add_assoc, Nat.add_comm 1]
theorem rgsFrom_snoc : ∀ (c : List Nat) (L : List (List Nat)) (h k : Nat), rgsFrom L h c → k ≤ (lotsFrom L h c).length → rgsFrom L h (c ++ [k])
  | [], L, h, k, _, hk => ⟨hk, trivial⟩
  | x :: c, L, h, k, hc, hk => ⟨hc.1, rgsFrom_snoc c _ _ k hc.2 hk⟩
theorem lotsOf_snoc (c : List Nat) (k : Nat) : lotsOf (c ++ [k]) = addLot (lotsOf c) c.length k := by
  have h := lotsFrom_snoc c [] 0 k
  rw [Nat.zero_add] at h
  exact h
theorem Rgs.snoc {c : List Nat} {k : Nat} (h : Rgs c) (hk : k ≤ (lotsOf c).length) : Rgs (c ++ [k]) := rgsFrom_snoc c _ _ k h hk
theorem addLot_length (L : List (List Nat)) (h k : Nat) : (addLot L h k).length = if k = L.length then L.length + 1 else L.length := by
  unfold addLot
  split <;> simp
/-- what holds of lots of the hands below n -/
structure LInv (L : List (List Nat)) (n : Nat) : Prop where
  asc : ∀ lot ∈ L, lot ≠ [] ∧ lot.Pairwise (· < ·) ∧ ∀ x ∈ lot, x < n
  heads : (L.map fun lot => lot.headD 0).Pairwise (· < ·)
  perm : L.flatten.Perm (List.range n)
theorem LInv.nil : LInv [] 0 := ⟨by simp, by simp, by simp⟩
theorem mod_split {L : List (List Nat)} {k : Nat} (hk : k < L.length) (f : List Nat → List Nat) : ∃ A B lot, L = A ++ lot :: B ∧ A.length = k ∧ L.modify k f = A ++ f lot :: B := by
  induction L generalizing k with
  | nil => simp at hk
  | cons a L ih =>
    cases k with
    | zero => exact ⟨[], L, a, rfl, rfl, rfl⟩
    | succ k =>
      obtain ⟨A, B, lot, e, hl, hm⟩ := ih (k := k) (by simpa using hk)
      exact ⟨a :: A, B, lot, by rw [e] <;> rfl, by rw [List.length_cons, hl], by rw [List.modify_succ_cons, hm] <;> rfl⟩
theorem LInv.add {L : List (List Nat)} {n k : Nat} (I : LInv L n) (hk : k ≤ L.length) : LInv (addLot L n k) (n + 1) := by
  unfold addLot
  split
  · refine ⟨fun lot hl => ?_, ?_, ?_⟩
    · rcases List.mem_append.mp hl with h | h
      · obtain ⟨a, b, c⟩ := I.asc lot h
        exact ⟨a, b, fun x hx => Nat.lt_succ_of_lt (c x hx)⟩
      · obtain rfl := List.mem_singleton.mp h
        exact ⟨by simp, by simp, fun x hx => by rw [List.mem_singleton.mp hx]; exact Nat.lt_succ_self n⟩
    · rw [List.map_append]
      refine List.pairwise_append.mpr ⟨I.heads, by simp, fun a ha b hb => ?_⟩
      obtain ⟨lot, hl, rfl⟩ := List.mem_map.mp ha
      obtain rfl := List.mem_singleton.mp hb
      obtain ⟨h1, _, h2⟩ := I.asc lot hl
      cases lot with
      | nil => exact absurd rfl h1
      | cons x r => exact h2 x (List.mem_cons_self ..)
    · rw [List.flatten_append, List.range_succ]
      exact List.Perm.append I.perm (by simp)
  · rename_i hne
    obtain ⟨A, B, lot, e, hl, hm⟩ := mod_split (L := L) (k := k) (by omega) (· ++ [n])
    rw [hm]
    have mem : ∀ z ∈ A ++ lot :: B, z ∈ L := fun z hz => by rw [e]; exact hz
    obtain ⟨l1, l2, l3⟩ := I.asc lot (mem lot (by simp))
    refine ⟨fun z hz => ?_, ?_, ?_⟩
    · have hz' : z ∈ A ∨ z = lot ++ [n] ∨ z ∈ B := by simpa using hz
      rcases hz' with h | h | h
      · obtain ⟨a, b, c⟩ := I.asc z (mem z (by simp [h]))
        exact ⟨a, b, fun x hx => Nat.lt_succ_of_lt (c x hx)⟩
      · subst h
        refine ⟨by simp, List.pairwise_append.mpr ⟨l2, by simp, fun a ha b hb => by rw [List.mem_singleton.mp hb]; exact l3 a ha⟩, fun x hx => ?_⟩
        rcases List.mem_append.mp hx with h | h
        · exact Nat.lt_succ_of_lt (l3 x h)
        · rw [List.mem_singleton.mp h]
          exact Nat.lt_succ_self n
      · obtain ⟨a, b, c⟩ := I.asc z (mem z (by simp [h]))
        exact ⟨a, b, fun x hx => Nat.lt_succ_of_lt (c x hx)⟩
    · have hh := I.heads
      rw [e] at hh
      have eh : (lot ++ [n]).headD 0 = lot.headD 0 := by
        cases lot with
        | nil => exact absurd rfl l1
        | cons x r => rfl
      rw [List.map_append, List.map_cons] at hh ⊢
      rw [eh]
      exact hh
    · have hp := I.perm
      rw [e, List.flatten_append, List.flatten_cons] at hp
      rw [List.flatten_append, List.flatten_cons, List.range_succ]
      have e1 : A.flatten ++ (lot ++ [n] ++ B.flatten) = (A.flatten ++ lot) ++ ([n] ++ B.flatten) := by simp
      have e2 : A.flatten ++ (lot ++ B.flatten) = (A.flatten ++ lot) ++ B.flatten := by simp
      rw [e1]
      rw [e2] at hp
      refine List.Perm.trans (List.Perm.append_left _ List.perm_append_comm) ?_
      rw [← List.append_assoc]
      exact List.Perm.append hp (List.Perm.refl _)
theorem lotsFrom_inv : ∀ (c : List Nat) (L : List (List Nat)) (h : Nat), LInv L h → rgsFrom L h c → LInv (lotsFrom L h c) (h + c.length)
  | [], L, h, I, _ => I
  | x :: c, L, h, I, hc => by
    have q := lotsFrom_inv c _ _ (I.add hc.1) hc.2
    have e : h + 1 + c.length = h + (x :: c).length := by rw [List.length_cons]; omega
    rw [e] at q
    exact q
theorem lots_inv {c : List Nat} (h : Rgs c) : LInv (lotsOf c) c.length := by
  have q := lotsFrom_inv c [] 0 LInv.nil h
  rw [Nat.zero_add] at q
  exact q
/-- the number of the lot in which a hand is -/
theorem lotsFrom_old : ∀ (c : List Nat) (L : List (List Nat)) (h j x : Nat) (lot : List Nat), L[j]? = some lot → x ∈ lot → ∃ lot', (lotsFrom L h c)[j]? = some lot' ∧ x ∈ lot'
  | [], L, h, j, x, lot, e, hx => ⟨lot, e, hx⟩
  | k :: c, L, h, j, x, lot, e, hx => by
    have hj : j < L.length := (List.getElem?_eq_some_iff.mp e).1
    have : ∃ lot', (addLot L h k)[j]? = some lot' ∧ x ∈ lot' := by
      unfold addLot
      split
      · exact ⟨lot, by rw [List.getElem?_append_left hj]; exact e, hx⟩
      · rw [List.getElem?_modify]
        rw [e]
        by_cases hkj : k = j
        · exact ⟨lot ++ [h], by simp [hkj], by simp [hx]⟩
        · exact ⟨lot, by simp [hkj], hx⟩
    obtain ⟨lot', e', hx'⟩ := this
    exact lotsFrom_old c _ _ j x lot' e' hx'
theorem lotsFrom_at : ∀ (c : List Nat) (L : List (List Nat)) (h : Nat), rgsFrom L h c → ∀ j k, c[j]? = some k → ∃ lot, (lotsFrom L h c)[k]? = some lot ∧ h + j ∈ lot
  | [], L, h, _, j, k, e => by simp at e
  | x :: c, L, h, hc, 0, k, e => by
    have ex : x = k := by simpa using e
    subst ex
    have : ∃ lot, (addLot L h x)[x]? = some lot ∧ h ∈ lot := by
      unfold addLot
      split
      · rename_i e'
        exact ⟨[h], by rw [e', List.getElem?_append_right (Nat.le_refl _)]; simp, by simp⟩
      · rename_i e'
        have hx : x < L.length := by have := hc.1; omega
        exact ⟨L[x] ++ [h], by rw [List.getElem?_modify]; simp [List.getElem?_eq_getElem hx], by simp⟩
    obtain ⟨lot, e1, e2⟩ := this
    obtain ⟨lot', e3, e4⟩ := lotsFrom_old c _ (h + 1) x h lot e1 e2
    exact ⟨lot', e3, by simpa using e4⟩
  | x :: c, L, h, hc, j + 1, k, e => by
    obtain ⟨lot, e1, e2⟩ := lotsFrom_at c _ (h + 1) hc.2 j k (by simpa using e)
    refine ⟨lot, e1, ?_⟩
    have e3 : h + 1 + j = h + (j + 1) := by omega
    rw [← e3]
    exact e2
theorem lots_at {c : List Nat} (h : Rgs c) {j k : Nat} (e : c[j]? = some k) : ∃ lot, (lotsOf c)[k]? = some lot ∧ j ∈ lot := by
  obtain ⟨lot, e1, e2⟩ := lotsFrom_at c [] 0 h j k e
  exact ⟨lot, e1, by rw [Nat.zero_add] at e2; exact e2⟩
theorem nodup_flat_uniq {L : List (List Nat)} (h : L.flatten.Nodup) : ∀ {a b x : Nat} {la lb : List Nat}, L[a]? = some la → L[b]? = some lb → x ∈ la → x ∈ lb → a = b := by
  induction L with
  | nil => intro a b x la lb e; simp at e
  | cons l L ih =>
    intro a b x la lb ea eb ha hb
    rw [List.flatten_cons] at h
    obtain ⟨h1, h2, h3⟩ := List.nodup_append.mp h
    cases a with
    | zero =>
      cases b with
      | zero => rfl
      | succ b =>
        have : l = la := by simpa using ea
        subst this
        have hb' : lb ∈ L := List.mem_of_getElem? (by simpa using eb)
        exact absurd rfl (h3 x ha x (List.mem_flatten.mpr ⟨lb, hb', hb⟩))
    | succ a =>
      cases b with
      | zero =>
        have : l = lb := by simpa using eb
        subst this
        have ha' : la ∈ L := List.mem_of_getElem? (by simpa using ea)
        exact absurd rfl (h3 x hb x (List.mem_flatten.mpr ⟨la, ha', ha⟩))
      | succ b => exact congrArg Nat.succ (ih h2 (by simpa using ea) (by simpa using eb) ha hb)
theorem lots_uniq {c : List Nat} (h : Rgs c) {j k k' : Nat} {lot : List Nat} (e : c[j]? = some k) (el : (lotsOf c)[k']? = some lot) (hx : j ∈ lot) : k' = k := by
  obtain ⟨lot', e1, e2⟩ := lots_at h e
  have I := lots_inv h
  exact nodup_flat_uniq (I.perm.nodup_iff.mpr List.nodup_range) el e1 hx e2
end PL
namespace PL
open PySem
/-! ### what is told; trees -/
inductive Told where
  | unit
  | rows (r : List (List Nm))
  | row (r : List Nm)
  | lots (c : List Nat)
def Told.data : Told → PyData
  | .unit => .tuple []
  | .rows r => .tuple (r.map fun x => .tuple (x.map Nm.data))
  | .row r => .tuple (r.map Nm.data)
  | .lots c => .tuple ((lotsOf c).map fun x => .tuple (x.map fun (k : Nat) => .int (k : Int)))
inductive Tr where
  | node (w : Wd) (t : Told) (ps : List Tr) (m i : Nat)
def Tr.w : Tr → Wd | .node w _ _ _ _ => w
def Tr.t : Tr → Told | .node _ t _ _ _ => t
def Tr.ps : Tr → List Tr | .node _ _ ps _ _ => ps
def Tr.m : Tr → Nat | .node _ _ _ m _ => m
def Tr.i : Tr → Nat | .node _ _ _ _ i => i
mutual
def Tr.data : Tr → PyData
  | .node w t ps m i => .tuple [.str w.s, t.data, .tuple (dataL ps), .int (m : Int), .int (i : Int)]
def dataL : List Tr → List PyData
  | [] => []
  | p :: r => p.data :: dataL r
end
mutual
def Tr.lev : Tr → Nat
  | .node _ _ ps _ _ => 1 + levL ps
def levL : List Tr → Nat
  | [] => 0
  | p :: r => max p.lev (levL r)
end
mutual
def Tr.many : Tr → Nat
  | .node _ _ ps _ _ => 1 + manyL ps
def manyL : List Tr → Nat
  | [] => 0
  | p :: r => p.many + manyL r
end
/-! ### texts -/
def toldItems (w : Wd) : Told → List Str
  | .unit => []
  | .rows r => if w = .fin then (r.flatMap fun x => x.map Nm.txt) else r.flatMap fun x => num (x.length : Int) :: x.map Nm.txt
  | .row r => r.map Nm.txt
  | .lots c => c.map fun (k : Nat) => num (k : Int)
/-- the numbers behind the word -/
def headItems (w : Wd) (n m i : Nat) : List Str :=
  if w.isLeaf then [num (m : Int), num (i : Int)] else if w.isSingle || w.isShows then [num ((if w.isK then m else i : Nat) : Int)] else [num (n : Int)]
mutual
def Tr.items : Tr → List Str
  | .node w t ps m i => w.s :: (headItems w ps.length m i ++ (toldItems w t ++ itemsL ps))
def itemsL : List Tr → List Str
  | [] => []
  | p :: r => p.items ++ itemsL r
end
theorem dataL_map : ∀ ps : List Tr, dataL ps = ps.map Tr.data
  | [] => by rw [dataL] <;> rfl
  | p :: r => by rw [dataL, dataL_map r] <;> rfl
theorem itemsL_flat : ∀ ps : List Tr, itemsL ps = ps.flatMap Tr.items
  | [] => by rw [itemsL] <;> rfl
  | p :: r => by rw [itemsL, itemsL_flat r] <;> rfl
theorem manyL_sum : ∀ ps : List Tr, manyL ps = (ps.map Tr.many).sum
  | [] => by rw [manyL] <;> rfl
  | p :: r => by rw [manyL, manyL_sum r] <;> rfl
theorem levL_le {n : Nat} : ∀ {ps : List Tr}, (∀ p ∈ ps, p.lev ≤ n) → levL ps ≤ n
  | [], _ => by rw [levL]; exact Nat.zero_le _
  | p :: r, h => by
    rw [levL]
    exact Nat.max_le.mpr ⟨h p (List.mem_cons_self ..), levL_le fun q hq => h q (List.mem_cons_of_mem _ hq)⟩
theorem lev_mem : ∀ {ps : List Tr} {p : Tr}, p ∈ ps → p.lev ≤ levL ps
  | [], p, h => by simp at h
  | q :: r, p, h => by
    rw [levL]
    rcases List.mem_cons.mp h with e | e
    · rw [e]; exact Nat.le_max_left _ _
    · exact Nat.le_trans (lev_mem e) (Nat.le_max_right _ _)
theorem many_mem : ∀ {ps : List Tr} {p : Tr}, p ∈ ps → p.many ≤ manyL ps
  | [], p, h => by simp at h
  | q :: r, p, h => by
    rw [manyL]
    rcases List.mem_cons.mp h with e | e
    · rw [e]; exact Nat.le_add_right _ _
    · exact Nat.le_trans (many_mem e) (Nat.le_add_left _ _)
theorem many_pos : ∀ t : Tr, 1 ≤ t.many
  | .node _ _ _ _ _ => by rw [Tr.many]; omega
theorem lev_pos : ∀ t : Tr, 1 ≤ t.lev
  | .node _ _ _ _ _ => by rw [Tr.lev]; omega
/-! ### well-formed -/
def wtOk (n : Nm) : Prop := n.ok ∧ n.nn
/-- what is told of a place fits with its word, its parts, its hands -/
def Fit (w : Wd) (t : Told) (ps : List Tr) (m i : Nat) : Prop :=
  match w with
  | .fin => ∃ r, t = .rows r ∧ ps = [] ∧ r.length = m ∧ ∀ x ∈ r, x.length = i ∧ ∀ n ∈ x, n.ok
  | .hole => t = .unit ∧ ps = []
  | .draw => ∃ r, t = .row r ∧ r.length = ps.length ∧ (1 ≤ ps.length ∧ ps.length ≤ 6) ∧ (∀ n ∈ r, wtOk n) ∧ ∀ p ∈ ps, p.m = m ∧ p.i = i
  | .kmove => t = .unit ∧ (1 ≤ ps.length ∧ ps.length ≤ 6) ∧ ∀ p ∈ ps, p.m = m ∧ p.i = i
  | .rmove => t = .unit ∧ (1 ≤ ps.length ∧ ps.length ≤ 6) ∧ ∀ p ∈ ps, p.m = m ∧ p.i = i
  | .khides => ∃ (r : List Nat) (p : Tr), t = .row (r.map fun (k : Nat) => .i (k : Int)) ∧ ps = [p] ∧ r.length = m ∧ (∀ k ∈ r, 1 ≤ k ∧ k ≤ 4) ∧ p.m = r.sum ∧ p.i = i
  | .rhides => ∃ (r : List Nat) (p : Tr), t = .row (r.map fun (k : Nat) => .i (k : Int)) ∧ ps = [p] ∧ r.length = i ∧ (∀ k ∈ r, 1 ≤ k ∧ k ≤ 4) ∧ p.i = r.sum ∧ p.m = m
  | .ksees => ∃ (r : List (List Nm)) (p : Tr), t = .rows r ∧ ps = [p] ∧ r.length = m ∧ (∀ x ∈ r, (1 ≤ x.length ∧ x.length ≤ 8) ∧ ∀ n ∈ x, wtOk n) ∧ p.m = (r.map List.length).sum ∧ p.i = i
  | .rsees => ∃ (r : List (List Nm)) (p : Tr), t = .rows r ∧ ps = [p] ∧ r.length = i ∧ (∀ x ∈ r, (1 ≤ x.length ∧ x.length ≤ 8) ∧ ∀ n ∈ x, wtOk n) ∧ p.i = (r.map List.length).sum ∧ p.m = m
  | .kshows => ∃ c : List Nat, t = .lots c ∧ Rgs c ∧ c.length = m ∧ (1 ≤ (lotsOf c).length ∧ (lotsOf c).length ≤ 6) ∧ ps.map Tr.m = (lotsOf c).map List.length ∧ ∀ p ∈ ps, p.i = i
  | .rshows => ∃ c : List Nat, t = .lots c ∧ Rgs c ∧ c.length = i ∧ (1 ≤ (lotsOf c).length ∧ (lotsOf c).length ≤ 6) ∧ ps.map Tr.i = (lotsOf c).map List.length ∧ ∀ p ∈ ps, p.m = m
inductive WF : Tr → Prop where
  | mk {w : Wd} {t : Told} {ps : List Tr} {m i : Nat} : Fit w t ps m i → (1 ≤ m ∧ m ≤ 8) → (1 ≤ i ∧ i ≤ 8) → (∀ p ∈ ps, WF p) → WF (.node w t ps m i)
theorem WF.fit {w : Wd} {t : Told} {ps : List Tr} {m i : Nat} (h : WF (.node w t ps m i)) : Fit w t ps m i := by
  cases h with
  | mk a _ _ _ => exact a
theorem WF.hm {t : Tr} (h : WF t) : 1 ≤ t.m ∧ t.m ≤ 8 := by
  cases h with
  | mk _ a _ _ => exact a
theorem WF.hi {t : Tr} (h : WF t) : 1 ≤ t.i ∧ t.i ≤ 8 := by
  cases h with
  | mk _ _ a _ => exact a
theorem WF.sub {w : Wd} {t : Told} {ps : List Tr} {m i : Nat} (h : WF (.node w t ps m i)) : ∀ p ∈ ps, WF p := by
  cases h with
  | mk _ _ _ a => exact a
/-- within what is let -/
structure Sz (t : Tr) : Prop where
  many : t.many ≤ 120
  lev : t.lev ≤ 10
theorem Sz.sub {w : Wd} {t : Told} {ps : List Tr} {m i : Nat} (h : Sz (.node w t ps m i)) : ∀ p ∈ ps, Sz p := fun p hp => by
  have h1 := h.many
  have h2 := h.lev
  rw [Tr.many] at h1
  rw [Tr.lev] at h2
  have h3 := many_mem hp
  have h4 := lev_mem hp
  exact ⟨by omega, by omega⟩
end PL
end
section
set_option maxHeartbeats 4000000
/-! PB1: != by an own ==. -/
namespace PL
open PySem PySem.W PySem.Spec PySem.Calls PyProof.Rows
section
variable {prog : Program} {w : World} {A A₀ : Around} {E : Value → Shared → Prop} {s : Shared} {K : Frag} {x C L f : Addr} {h₀ : Heap} {m : Str → Option Value} {ox : Obj} {od : Option Obj} {b tb : Value}
/-- what the own == hands back, asked by != -/
def NeBack (Q : Value → Shared → Prop) (v : Value) (s' : Shared) : Prop := ∃ r : Bool, v = .bool r ∧ Q (.bool (!r)) s'
theorem ne_entry {Q : Fin → Shared → Prop} (hu : A.units < cLine) (X : K.In s.heap) (I : InstAt s.heap x ox C od)
    (hs : findIn K (.ref C) "__eq__" = some (some (.ref f))) (hf : isFn K (.ref f) = true)
    (h : wpAny (model prog w) A (call (.ref f) [.ref x, b]) (NeBack fun v => Q (.done (.ret v))) E s) :
    wpAny (model prog w) A (Builtin.«object.__ne__» ⟨[.ref x, b], []⟩) Q E s := by
  unfold Builtin.«object.__ne__»
  skip
  obtain ⟨hh, g, d, t, os⟩ := s
  repeat (first | with_reducible refine wpAny_cRoomFor hu ?_ | (with_reducible refine wpAny_bind (ifBound_K X I hs hf (wpAny_mono h ?_ fun _ _ e => e))) | wp_step)
  rintro v s' ⟨r, rfl, q⟩
  show wpAny _ _ (truthy (.bool r) >>= _) _ _ _
  refine wpAny_bind (wpAny_truthy_bool ?_)
  exact wpAny_pure q
theorem ifBound_ne {args : List Value} {M : Model} {Q : Option Value → Shared → Prop} (X : K.In s.heap) (I : InstAt s.heap x ox C od) (hs : findIn K (.ref C) "__ne__" = some (some (.builtin "object.__ne__")))
    (h : wpAny M A (call (.builtin "object.__ne__") (.ref x :: args)) (fun v => Q (some v)) E s) : wpAny M A (callSpecialIfBound? (.ref x) "__ne__" args) Q E s := by
  simp only [callSpecialIfBound?, bindSpecialIfBound?]
  refine wpAny_holding (wpAny_bind (wpAny_bind (wpAny_bind (I.type.here ((looks_findIn X hs).here ?_)))))
  simp only [PySem.F.cmp_object.ne.bind]
  refine wpAny_bind (wpAny_askSetting (wpAny_ite ?_))
  have fin : wpAny M A (call (.builtin "object.__ne__") ([.ref x] ++ args) >>= fun v => pure (some v)) Q E s := wpAny_bind (wpAny_mono h (fun v s' h' => wpAny_pure h') fun _ _ h' => h')
  split
  · exact wpAny_bind (wpAny_pure (wpAny_pure (by exact fin)))
  · exact wpAny_tryCatch (wpAny_bind (wpAny_pure (wpAny_pure (by exact fin))))
theorem cmp_ne_K {Q : Value → Shared → Prop} (hu : A.units + 1 < cLine) (F : Fr h₀ L s.heap m) (X₀ : K.In h₀) (I : InstAt s.heap x ox C od) (hb : Looks (model prog w) s.heap (typeOf b) tb) (hn : notFirst K C tb = true)
    (hne : findIn K (.ref C) "__ne__" = some (some (.builtin "object.__ne__"))) (hm : mroIn K C (.type "object") = some true) (hs : findIn K (.ref C) "__eq__" = some (some (.ref f))) (hf : isFn K (.ref f) = true)
    (h : wpAny (model prog w) A.in1 (call (.ref f) [.ref x, b]) (NeBack Q) E s) : wpAny (model prog w) A (richCompare .NotEq (.ref x) b) Q E s := by
  have X := X₀.keeps F.keep
  have sub : Looks (model prog w) s.heap (isInstance (.ref x) (.type "object")) true := I.type.andThen (looks_mroIn X hm)
  have one : wpAny (model prog w) A (tryCompare (.ref x) "__ne__" b) (fun r s' => ∃ v, r = some v ∧ Q v s') E s := by
    unfold tryCompare
    refine wpAny_bind (ifBound_ne X I hne ?_)
    refine wpAny_call (codeAny_call_builtin PySem.F.cmp_object.ne.plain PySem.F.cmpEntry_ne (@check_slot (model prog w) _ _ s "object.__ne__" "object" "__ne__" (.ref x) [b] [] _ PySem.F.cmpKind_ne PySem.F.cmpSplit_ne sub (PySem.F.cmpArgs_ne _ _) ?_))
    refine ne_entry (by exact hu) X I hs hf (wpAny_mono h (fun v s' hv => ?_) fun _ _ e => e)
    obtain ⟨r, rfl, q⟩ := hv
    exact ⟨r, rfl, wpAny_pure ⟨_, rfl, q⟩⟩
  unfold richCompare
  simp only [oneThing_ref]
  refine wpAny_holding (wpAny_bind (wpAny_cRoomFor (by omega) ?_))
  refine wpAny_bind (I.type.here (wpAny_bind (hb.here ?_)))
  split
  · rename_i q
    have e : subIn K tb (.ref C) = some false := by
      rcases Bool.or_eq_true_iff.mp hn with e | e
      · rw [beq_iff_eq.mp e] at q; simp at q
      · exact beq_iff_eq.mp e
    refine wpAny_bind ((looks_subIn X e).here ?_)
    simp only [Bool.false_eq_true, if_false]
    refine wpAny_bind (wpAny_mono one (fun r s' z => ?_) fun _ _ e => e)
    obtain ⟨v, rfl, hq⟩ := z
    exact wpAny_pure hq
  · refine wpAny_bind (wpAny_pure ?_)
    simp only [Bool.false_eq_true, if_false]
    refine wpAny_bind (wpAny_mono one (fun r s' z => ?_) fun _ _ e => e)
    obtain ⟨v, rfl, hq⟩ := z
    exact wpAny_pure hq
end
end PL
end
section
set_option maxHeartbeats 4000000
/-! PB2: == of two tuples whose items' == may make objects; both answers. -/
namespace PL
open PySem PySem.SeqAt
open AutoSeq1 (wpAny_loadPart')
open MeetsSeq MeetsSeq2 MeetsSeq3 SeqRoads2
section
variable {prog : Program} {w : World} {A : Around} {R : Result → Shared → Prop}
theorem tuple_eqB (l b : Addr) (items items2 : Array Value) (n n2 : Nat) (dd dd2 : Option Addr) (sl sl2 : Array (Option Value)) (e : Nat → Bool) (I : Shared → Prop)
    (turn : ∀ i (h1 : i < items.size) (h2 : i < items2.size) s, I s → wpAny (model prog w) A.in1 (eqBool items[i] items2[i]) (fun r s' => r = e i ∧ I s') (fun e s' => R (.error e) s') s)
    (fin : ∀ s, I s → R (.ok (.ret (.bool ((List.range (min items.size items2.size)).all e && items.size == items2.size)))) s) {s : Shared}
    (hl1 : s.heap.get? l = some { cls := .type "tuple", dict := dd, data := .seq items n, slots := sl }) (hb1 : s.heap.get? b = some { cls := .type "tuple", dict := dd2, data := .seq items2 n2, slots := sl2 }) (h : I s) :
    wpAny (model prog w) A.in1 (Builtin.«tuple.__eq__» ⟨[.ref l, .ref b], []⟩) (GQ.FinOf prog w A R) (fun e s' => R (.error e) s') s := by
  have f2 := AutoSeq1.sub_tuple_tuple
  have hZ : (items.toList.zip items2.toList).length = min items.size items2.size := by simp
  have h0 := h
  obtain ⟨hp, g, d, tk, os⟩ := s
  wp_walk using wpAny_loadPart' hl1, wpAny_loadPart' hb1, wpAny_forIn_list _ (fun rest b s' => b.1 = none ∧ ∃ i, rest = (items.toList.zip items2.toList).drop i ∧ i ≤ min items.size items2.size ∧ I s' ∧ (List.range i).all e = true) _
  case turn =>
    rintro ⟨y, x⟩ rest b s' ⟨hb', i, hz, hi, hI, ha⟩
    have hlt : i < (items.toList.zip items2.toList).length := by
      rcases Nat.lt_or_ge i (items.toList.zip items2.toList).length with h' | h'
      · exact h'
      · rw [List.drop_of_length_le h'] at hz; cases hz
    have hm : i < min items.size items2.size := hZ ▸ hlt
    have h1 : i < items.size := Nat.lt_of_lt_of_le hm (Nat.min_le_left _ _)
    have h2 : i < items2.size := Nat.lt_of_lt_of_le hm (Nat.min_le_right _ _)
    rw [List.drop_eq_getElem_cons hlt] at hz
    injection hz with hyx hrest
    have hy : y = items[i] := by have := congrArg Prod.fst hyx; simpa using this
    have hx : x = items2[i] := by have := congrArg Prod.snd hyx; simpa using this
    subst hy hx
    refine wpAny_bind (wpAny_mono (turn i h1 h2 s' hI) (fun r s2 q2 => ?_) fun _ _ x => x)
    obtain ⟨hr, q2⟩ := q2
    subst hr
    cases hy : e i with
    | true =>
      wp_walk
      exact ⟨rfl, i + 1, hrest, hm, q2, by rw [List.range_succ, List.all_append, ha]; simp [hy]⟩
    | false =>
      have hR := fin s2 q2
      have hf : (List.range (min items.size items2.size)).all e = false := by
        rw [List.all_eq_false]
        exact ⟨i, List.mem_range.mpr hm, by simp [hy]⟩
      rw [hf] at hR
      wp_walk
      simpa using hR
  case fin =>
    rintro ⟨b1, b2⟩ s' ⟨hb', i, hz, hi, hI, ha⟩
    simp only at hb'
    subst hb'
    have hge : min items.size items2.size ≤ i := by
      rcases Nat.lt_or_ge i (items.toList.zip items2.toList).length with h' | h'
      · rw [List.drop_eq_getElem_cons h'] at hz; cases hz
      · exact hZ ▸ h'
    have hi' : i = min items.size items2.size := Nat.le_antisymm hi hge
    have hR := fin s' hI
    rw [← hi', ha] at hR
    wp_walk
    simpa [Builtin.Tuple.tupleCompareSizes] using hR
  case h =>
    exact ⟨rfl, 0, rfl, Nat.zero_le _, h0, by simp⟩
end
section
variable {prog : Program} {w : World} {A : Around} {E : Value → Shared → Prop} {s : Shared}
theorem rc_tupB {l b : Addr} {items items2 : Array Value} {Q : Value → Shared → Prop} (e : Nat → Bool) (hu : A.units < cLine) (I : Shared → Prop)
    (hl : s.heap.IsTuple l items) (hb : s.heap.IsTuple b items2)
    (turn : ∀ i (h1 : i < items.size) (h2 : i < items2.size) s, I s → wpAny (model prog w) A.in1 (eqBool items[i] items2[i]) (fun r s' => r = e i ∧ I s') E s)
    (fin : ∀ s, I s → Q (.bool ((List.range (min items.size items2.size)).all e && items.size == items2.size)) s) (h : I s) : wpAny (model prog w) A (richCompare .Eq (.ref l) (.ref b)) Q E s := by
  obtain ⟨⟨cls, dd, data, sl⟩, ho, hc, n, hd⟩ := id hl
  obtain ⟨⟨cls2, dd2, data2, sl2⟩, ho2, hc2, n2, hd2⟩ := id hb
  simp only at hc hd hc2 hd2
  subst hc hd hc2 hd2
  refine wpAny_richCompare_same_room (op := .Eq) ⟨_, ho, rfl⟩ ⟨_, ho2, rfl⟩ F.slot_tuple_eq (GQ.call_here F.slot_tuple_eq ⟨_, ho, rfl⟩ F.entry_tuple_eq (F.args_tuple_eq_2 _ _) ?_) hu
  exact tuple_eqB (R := wants (fun v s' => v ≠ .notImplemented ∧ Q v s') E) l b items items2 n n2 dd dd2 sl sl2 e I turn (fun s' q => ⟨(fun x => nomatch x), fin s' q⟩) ho ho2 h
end
end PL
end
section
set_option maxHeartbeats 4000000
/-! PB3: == and != by an own __eq__ with both answers, tuples of such, over the layer. -/
namespace PL
open PySem PySem.Spec PyProof.Rows L2
/-- how two values compare, by the abstract heap -/
abbrev EqvB := V → V → Hp → Bool → Prop
def MonB (D : EqvB) : Prop := ∀ x y H H' b, Same H H' → D x y H b → D x y H' b
def EqB (X : Cx) (n : Nat) (D : EqvB) : Prop :=
  ∀ (A : Around) (pins : List (Addr × Obj)) (s : Shared) (σ : L2.St) (H : Hp) (x y : V) (u v : Value) (b : Bool), Sub X n A → Inv X pins σ H s → RelV x u → RelV y v → D x y H b →
    wpAny (model X.prog X.w) A (eqBool u v) (fun r s' => r = b ∧ ∃ H', Inv X pins σ H' s' ∧ Same H H') X.xe s
def RcB (X : Cx) (n : Nat) (D : EqvB) : Prop :=
  ∀ (A : Around) (pins : List (Addr × Obj)) (s : Shared) (σ : L2.St) (H : Hp) (x y : V) (u v : Value) (b : Bool), Sub X n A → Inv X pins σ H s → RelV x u → RelV y v → D x y H b →
    wpAny (model X.prog X.w) A (richCompare .Eq u v) (fun r s' => r = .bool b ∧ ∃ H', Inv X pins σ H' s' ∧ Same H H') X.xe s
/-- two tuples, item by item: es the answers -/
def DTupB (K : PySem.W.Frag) (D : EqvB) : EqvB := fun x y H b => ∃ a c xs ys, ∃ e : Nat → Bool, x = .ref a ∧ y = .ref c ∧ SqT K H a xs ∧ SqT K H c ys ∧
  (∀ (i : Nat) x y, xs[i]? = some x → ys[i]? = some y → D x y H (e i)) ∧ b = ((List.range (min xs.length ys.length)).all e && xs.length == ys.length)
section
variable {X : Cx} {n m : Nat} {D D' : EqvB}
def LoopB (X : Cx) (pins : List (Addr × Obj)) (σ : L2.St) (H : Hp) (s' : Shared) : Prop := ∃ H', Inv X pins σ H' s' ∧ Same H H'
theorem rcB_tup (hD : MonB D) (h : EqB X n D) : RcB X (n + 1) (DTupB X.K D) := by
  intro A pins s σ H x y u v b sb I rx ry d
  obtain ⟨a, c, xs, ys, e, rfl, rfl, ha, hc, p, rfl⟩ := d
  cases rx
  cases ry
  obtain ⟨its, r, t1, z⟩ := I.tuple ha
  obtain ⟨its2, r2, t2, z2⟩ := I.tuple hc
  have e1 : its.toArray.size = xs.length := by rw [List.size_toArray, ← r.length]
  have e2 : its2.toArray.size = ys.length := by rw [List.size_toArray, ← r2.length]
  refine rc_tupB e sb.room.units0 (fun s' => LoopB X pins σ H s') t1 t2 (fun i h1 h2 s' l => ?_) (fun s' q => ⟨by rw [e1, e2], q⟩) ⟨H, I, Same.refl H⟩
  obtain ⟨H1, I1, g1⟩ := l
  have k1 : i < xs.length := by rw [← e1]; exact h1
  have k2 : i < ys.length := by rw [← e2]; exact h2
  have q1 : its[i]? = some its.toArray[i] := by
    have h1' : i < its.length := by simpa using h1
    rw [List.getElem?_eq_getElem h1'] <;> simp
  have q2 : its2[i]? = some its2.toArray[i] := by
    have h2' : i < its2.length := by simpa using h2
    rw [List.getElem?_eq_getElem h2'] <;> simp
  obtain ⟨u, hu, ru⟩ := r.get (List.getElem?_eq_getElem k1)
  obtain ⟨v, hv, rv⟩ := r2.get (List.getElem?_eq_getElem k2)
  rw [q1] at hu
  rw [q2] at hv
  rw [Option.some.inj hu, Option.some.inj hv]
  refine wpAny_mono (h A.in1 pins s' σ H1 _ _ u v (e i) sb.in1 I1 ru rv (hD _ _ _ _ _ g1 (p i _ _ (List.getElem?_eq_getElem k1) (List.getElem?_eq_getElem k2)))) (fun r s2 q => ?_) fun _ _ x => x
  obtain ⟨hr, H2, I2, g2⟩ := q
  exact ⟨hr, H2, I2, g1.trans g2⟩
/-! ### own instances -/
/-- the classes of places: their == is the def at f, their != is object's -/
structure EqCls (K : PySem.W.Frag) (PC : Addr → Prop) (f : Addr) : Prop where
  eq : ∀ C, PC C → PySem.W.findIn K (.ref C) "__eq__" = some (some (.ref f))
  fn : PySem.W.isFn K (.ref f) = true
  ne : ∀ C, PC C → PySem.W.findIn K (.ref C) "__ne__" = some (some (.builtin "object.__ne__"))
  ob : ∀ C, PC C → PySem.W.mroIn K C (.type "object") = some true
  nf : ∀ C C', PC C → PC C' → PySem.W.notFirst K C (.ref C') = true
  ns : ∀ C, PC C → PySem.W.notFirst K C (.type "str") = true
  nt : ∀ C, PC C → PySem.W.notFirst K C (.type "tuple") = true
/-- a place against a place, a text, a tuple -/
def DIns (PC : Addr → Prop) (R : Addr → V → Hp → Bool → Prop) : EqvB := fun x y H b => ∃ a C dx fs, x = .ref a ∧ PC C ∧ H a = some (.ins C dx fs) ∧
  ((∃ c C' dy gs, y = .ref c ∧ PC C' ∧ H c = some (.ins C' dy gs)) ∨ (∃ z, y = .str z) ∨ ∃ c xs, y = .ref c ∧ H c = some (.tup xs)) ∧ R a y H b
/-- what the own == promises -/
def spEqB (R : Addr → V → Hp → Bool → Prop) : Sp := fun vs H Q _ => ∃ a y b, vs = [.ref a, y] ∧ R a y H b ∧ ∀ H', Same H H' → Q (.bl b) H'
theorem ty_of {PC : Addr → Prop} {f : Addr} (T : EqCls X.K PC f) {pins : List (Addr × Obj)} {σ : L2.St} {H : Hp} {s : Shared} {y : V} {v : Value} {C : Addr} (hC : PC C) (I : Inv X pins σ H s) (ry : RelV y v)
    (h : (∃ c C' dy gs, y = .ref c ∧ PC C' ∧ H c = some (.ins C' dy gs)) ∨ (∃ z, y = .str z) ∨ ∃ c xs, y = .ref c ∧ H c = some (.tup xs)) :
    ∃ tb, PySem.W.Looks (model X.prog X.w) s.heap (typeOf v) tb ∧ PySem.W.notFirst X.K C tb = true := by
  rcases h with ⟨c, C', dy, gs, rfl, hC', hc⟩ | ⟨z, rfl⟩ | ⟨c, xs, rfl, hc⟩
  · cases ry
    obtain ⟨mB, J', _⟩ := ins_get I.hok hc
    obtain ⟨od', J', _⟩ := J'.look
    exact ⟨_, J'.type, T.nf C C' hC hC'⟩
  · obtain ⟨t, rfl⟩ := ry
    exact ⟨.type "str", .now, T.ns C hC⟩
  · cases ry
    obtain ⟨z, its, r, o, ho, hcl, _⟩ := I.hok c _ hc
    refine ⟨.type "tuple", ?_, T.nt C hC⟩
    refine (PySem.W.Looks.ld (M := model X.prog X.w) (part := some headPart) ho).andThen ?_
    rw [hcl]
    exact .now
theorem rcB_ins {CX : CXT} {f : Addr} {fd : FuncData} {ps : List Str} {R : Addr → V → Hp → Bool → Prop} {E : XK} {PC : Addr → Prop} (F : FnOk X.prog X.w X.K X.mg X.base CX n f fd ps (spEqB R))
    (T : EqCls X.K PC f) (hb : Binds X.K fd ps []) (hx : Passes CX X E) : RcB X n (DIns PC R) := by
  intro A pins s σ H x y u v b sb I rx ry d
  obtain ⟨a, C, dx, fs, rfl, hC, ha, hy, hr⟩ := d
  cases rx
  obtain ⟨mA, J, _⟩ := ins_get I.hok ha
  obtain ⟨od, J, _⟩ := J.look
  obtain ⟨m, hF⟩ := I.fr
  obtain ⟨tb, L, nf⟩ := ty_of T hC I ry hy
  refine PySem.W.cmp_K (op := .Eq) (tb := tb) sb.room.units0 hF I.ok.mod.kin J L nf (T.eq C hC) T.fn ?_
  have hsp : spEqB R [.ref a, y] H (fun v H' => v = .bl b ∧ Same H H') E := ⟨a, y, b, rfl, hr, fun H' e => ⟨rfl, e⟩⟩
  have e0 : Env0 X.prog X.w X.K X.mg X.base A X.stack s H := by
    have e := I.env0
    exact ⟨by rw [sb.fr]; exact e.frames, e.mod, e.bs, e.bsz, e.funs, e.frf, e.hok, e.bare⟩
  have hl := F.len _ _ _ _ hsp
  have r2 : Vals [V.ref a, y] [Value.ref a, v] := .cons rfl (.cons ry .nil)
  refine wpAny_call (codeAny_mono (F.run A X.stack s H ⟨[.ref a, v], []⟩ [.ref a, v] [.ref a, y] _ E sb.room e0 (by
    have := hb s [.ref a, v] I.kIn (by simpa using hl)
    simpa using this) r2 hsp) fun r s' hq => ?_)
  cases r with
  | error e => exact hx pins σ H s e s' I hq
  | ok fl =>
    cases fl with
    | ret w =>
      obtain ⟨z, H', I', rz, ez, ex⟩ := I.after hq
      subst ez
      cases rz
      exact ⟨rfl, H', I', ex⟩
    | next => exact False.elim hq
    | brk => exact False.elim hq
    | cont => exact False.elim hq
/-- != of a place -/
theorem rcN_ins {CX : CXT} {f : Addr} {fd : FuncData} {ps : List Str} {R : Addr → V → Hp → Bool → Prop} {E : XK} {PC : Addr → Prop} (F : FnOk X.prog X.w X.K X.mg X.base CX n f fd ps (spEqB R))
    (T : EqCls X.K PC f) (hb : Binds X.K fd ps []) (hx : Passes CX X E) (A : Around) (pins : List (Addr × Obj)) (s : Shared) (σ : L2.St) (H : Hp) (x y : V) (u v : Value) (b : Bool) (sb : Sub X (n + 1) A) (I : Inv X pins σ H s)
    (rx : RelV x u) (ry : RelV y v) (d : DIns PC R x y H b) :
    wpAny (model X.prog X.w) A (richCompare .NotEq u v) (fun r s' => r = .bool (!b) ∧ ∃ H', Inv X pins σ H' s' ∧ Same H H') X.xe s := by
  obtain ⟨a, C, dx, fs, rfl, hC, ha, hy, hr⟩ := d
  cases rx
  obtain ⟨mA, J, _⟩ := ins_get I.hok ha
  obtain ⟨od, J, _⟩ := J.look
  obtain ⟨m, hF⟩ := I.fr
  obtain ⟨tb, L, nf⟩ := ty_of T hC I ry hy
  refine cmp_ne_K (tb := tb) (by have := sb.room.units; omega) hF I.ok.mod.kin J L nf (T.ne C hC) (T.ob C hC) (T.eq C hC) T.fn ?_
  have hsp : spEqB R [.ref a, y] H (fun v H' => v = .bl b ∧ Same H H') E := ⟨a, y, b, rfl, hr, fun H' e => ⟨rfl, e⟩⟩
  have e0 : Env0 X.prog X.w X.K X.mg X.base A.in1 X.stack s H := by
    have e := I.env0
    exact ⟨by rw [sb.in1.fr]; exact e.frames, e.mod, e.bs, e.bsz, e.funs, e.frf, e.hok, e.bare⟩
  have hl := F.len _ _ _ _ hsp
  have r2 : Vals [V.ref a, y] [Value.ref a, v] := .cons rfl (.cons ry .nil)
  refine wpAny_call (codeAny_mono (F.run A.in1 X.stack s H ⟨[.ref a, v], []⟩ [.ref a, v] [.ref a, y] _ E sb.in1.room e0 (by
    have := hb s [.ref a, v] I.kIn (by simpa using hl)
    simpa using this) r2 hsp) fun r s' hq => ?_)
  cases r with
  | error e => exact hx pins σ H s e s' I hq
  | ok fl =>
    cases fl with
    | ret w =>
      obtain ⟨z, H', I', rz, ez, ex⟩ := I.after hq
      subst ez
      cases rz
      exact ⟨b, rfl, rfl, H', I', ex⟩
    | next => exact False.elim hq
    | brk => exact False.elim hq
    | cont => exact False.elim hq
/-- inside a tuple: the same object is equal to itself -/
theorem RcB.eqB (h : RcB X n D) (hr : ∀ x y H b, D x y H b → ∃ a c, x = .ref a ∧ y = .ref c) (hs : ∀ a H b, D (.ref a) (.ref a) H b → b = true) : EqB X n D := by
  intro A pins s σ H x y u v b sb I rx ry d
  obtain ⟨a, c, rfl, rfl⟩ := hr _ _ _ _ d
  cases rx
  cases ry
  by_cases hab : a = c
  · subst hab
    exact SeqAt.EqAt.same (A := A) (s := s) (.ref a) X.prog X.w X.xe _ ⟨(hs a H b d).symm, H, I, Same.refl H⟩
  · refine GQ.eqBool_refG hab (wpAny_mono (h A pins s σ H (.ref a) (.ref c) _ _ b sb I rfl rfl d) (fun r s' q => ?_) fun _ _ x => x)
    obtain ⟨hr', q⟩ := q
    exact ⟨b, hr', rfl, q⟩
/-! ### as operators -/
def rEqB (D : EqvB) : R2 := fun x y H Q => ∃ b, D x y H b ∧ ∀ H', Same H H' → Q (.bl b) H'
def rNeB (D : EqvB) : R2 := fun x y H Q => ∃ b, D x y H b ∧ ∀ H', Same H H' → Q (.bl (!b)) H'
theorem op_eqB (h : RcB X n D) (hr : Room n X.A) : OpR X (compareOp .Eq) (rEqB D) := by
  intro pins s σ H x y v u Q I rx ry hq
  obtain ⟨b, d, q⟩ := hq
  show wpAny (model X.prog X.w) X.A (richCompare .Eq v u) (EP X pins σ Q) X.xe s
  refine wpAny_mono (h X.A pins s σ H x y v u b ⟨hr, rfl⟩ I rx ry d) (fun r s' z => ?_) fun _ _ x => x
  obtain ⟨hr', H', I', e⟩ := z
  subst hr'
  exact ⟨.bl b, H', I', rfl, q H' e⟩
theorem op_neB {CX : CXT} {f : Addr} {fd : FuncData} {ps : List Str} {R : Addr → V → Hp → Bool → Prop} {E : XK} {PC : Addr → Prop} (F : FnOk X.prog X.w X.K X.mg X.base CX n f fd ps (spEqB R))
    (T : EqCls X.K PC f) (hb : Binds X.K fd ps []) (hx : Passes CX X E) (hr : Room (n + 1) X.A) : OpR X (compareOp .NotEq) (rNeB (DIns PC R)) := by
  intro pins s σ H x y v u Q I rx ry hq
  obtain ⟨b, d, q⟩ := hq
  show wpAny (model X.prog X.w) X.A (richCompare .NotEq v u) (EP X pins σ Q) X.xe s
  refine wpAny_mono (rcN_ins F T hb hx X.A pins s σ H x y v u b ⟨hr, rfl⟩ I rx ry d) (fun r s' z => ?_) fun _ _ x => x
  obtain ⟨hr', H', I', e⟩ := z
  subst hr'
  exact ⟨.bl (!b), H', I', rfl, q H' e⟩
end
end PL
end
section
set_option maxHeartbeats 4000000
/-! PB4: a method that says super().__init__(..) as its last statement. -/
namespace PL
open PySem PySem.Spec PyProof.Rows L2
/-! ### entering: own cells, and the class's cell -/
theorem cellsFrom_acc : ∀ (names : List (Str × NameKind)) (n : Nat) (acc : List (Str × Addr)), cellsFrom n names acc = cellsFrom n names [] ++ acc
  | [], n, acc => rfl
  | (name, kind) :: r, n, acc => by
    unfold cellsFrom
    split
    · rw [cellsFrom_acc r (n + 1) ((name, n) :: acc), cellsFrom_acc r (n + 1) [(name, n)], List.append_assoc]
      rfl
    · exact cellsFrom_acc r n acc
theorem stLS {M : Model} {A : Around} {E : Value → Shared → Prop} {s₀ s : Shared} {m cm : Str → Option Value} {env : Env} {cs : List (Str × Addr)} {n : Str} {v : Value} {Q : Unit → Shared → Prop} (x : InCallC s₀ env.locals m cs cm s) (hk : env.scope.kind = .function) (hl : env.kindOf n = some .local)
    (h : ∀ s', InCallC s₀ env.locals (fun y => if y = n then some v else m y) cs cm s' → Q () s') : wpAny M A (storeName env n v) Q E s := by
  refine wpAny_storeName_local hl x.toInCall.ns (fun h' hn' hs' => h _ ⟨⟨?_, hn', fun b o e => ?_, x.toInCall.fresh⟩, fun k c hc => ?_, x.apart, x.above⟩) (by rw [hk]; rfl)
  · obtain ⟨h₁, tk, rfl⟩ := x.toInCall.same
    exact ⟨h', _, rfl⟩
  · exact hs'.extBut b o (Nat.ne_of_lt (Nat.lt_of_lt_of_le (Heap.lt_size e) x.toInCall.fresh)) (x.toInCall.keep b o e)
  · exact (x.cell k c hc).sameBut hs' (Nat.ne_of_gt (x.above k c (mem_of_lookup hc)))
theorem bindS {M : Model} {A : Around} {E : Value → Shared → Prop} {s₀ : Shared} {env : Env} {cs : List (Str × Addr)} {cm : Str → Option Value} (f : Str × Value → PUnit → Sem (ForInStep PUnit)) (hf : ∀ n v u, f (n, v) u = (do storeName env n v; pure (.yield ⟨⟩))) (hk : env.scope.kind = .function) :
    ∀ (binds : List (Str × Value)) (m : Str → Option Value) (s : Shared) (Q : PUnit → Shared → Prop), InCallC s₀ env.locals m cs cm s → (∀ x ∈ binds, env.kindOf x.1 = some .local) →
      (∀ s', InCallC s₀ env.locals (bindL env.kindOf binds m) cs cm s' → Q ⟨⟩ s') → wpAny M A (forIn binds ⟨⟩ f) Q E s
  | [], m, s, Q, x, _, h => by rw [List.forIn_nil]; exact wpAny_pure (h s x)
  | (n, v) :: r, m, s, Q, x, hkind, h => by
    rw [List.forIn_cons, hf]
    have hr : ∀ y ∈ r, env.kindOf y.1 = some .local := fun y hy => hkind y (List.mem_cons_of_mem _ hy)
    have hl := hkind (n, v) List.mem_cons_self
    refine wpAny_bind (wpAny_bind (stLS x hk hl fun s' x' => wpAny_pure (bindS f hf hk r _ s' Q x' hr fun s'' x'' => h s'' ?_)))
    unfold bindL; rw [if_pos hl]; exact x''
theorem newEnv_super {M : Model} {A : Around} {E : Value → Shared → Prop} {s : Shared} {scope : Scope} {globals : Addr} {binds : List (Str × Value)} {qual : Str} {func : Option Addr} {code : Value} {builtins : Addr} {cl : List (Str × Addr)} {Q : Env → Shared → Prop}
    (hk : scope.kind = .function) (hkind : ∀ x ∈ binds, scope.names.lookup x.1 = some .local)
    (hQ : ∀ env, env = newEnv scope s.heap.objs.size globals (cellsFrom (s.heap.objs.size + 1) scope.names [] ++ cl) qual func code none builtins →
      ∀ s', InCallC s env.locals (bindL env.kindOf binds fun _ => none) (cellsFrom (s.heap.objs.size + 1) scope.names []) (fun _ => none) s' → Q env s') :
    wpAny M A (newFunctionEnv scope globals cl binds qual func code none builtins) Q E s := by
  simp only [newFunctionEnv, Option.isSome_none, Bool.false_eq_true, if_false]
  refine wpAny_bind (wpAny_alloc ?_)
  refine wpAny_bind (wpAny_layCells _ (fun name kind cells => by cases hkc : kind == NameKind.cell <;> simp [hkc]) _ _ _ _ ?_)
  have ok := cellsFrom_ok scope.names (s.heap.push { cls := .type "frame", data := .dict #[] }) (s.heap.objs.size + 1) [] ⟨fun _ _ hm => (nomatch hm), List.Pairwise.nil⟩ (by rw [Heap.size_push]; exact Nat.le_refl _)
  rw [Heap.size_push] at ok
  rw [show ({ s with heap := s.heap.push { cls := .type "frame", data := .dict #[] } } : Shared).heap.objs.size = s.heap.objs.size + 1 from Heap.size_push ..]
  rw [cellsFrom_acc]
  refine wpAny_bind (bindS (s₀ := s) (cs := cellsFrom (s.heap.objs.size + 1) scope.names []) (cm := fun _ => none) (env := newEnv scope s.heap.objs.size globals (cellsFrom (s.heap.objs.size + 1) scope.names [] ++ cl) qual func code none builtins)
    _ (fun _ _ _ => rfl) hk binds (fun _ => none) _ _
    ⟨⟨⟨_, _, rfl⟩, (Heap.Ns.new s.heap (.type "frame")).keeps (pushCells_keeps _ _), fun b o e => pushCells_keeps _ _ b o (Heap.get?_push_of_some _ e), Nat.le_refl _⟩,
      fun n c hc => (ok.empty n c (mem_of_lookup hc)).1, ok.apart, fun n c hm => (ok.empty n c hm).2⟩
    hkind fun s' x => wpAny_pure (hQ _ rfl s' x))

/-! ### the context -/
abbrev envS (name : Str) (scope : Scope) (L a : Addr) (cd : Value) (cc : Addr) : Env := PySem.W.envX name scope L a cd (cellsFrom (L + 1) scope.names [] ++ [(("__class__" : Str), cc)])
structure SScope (N ps : List Str) (sc : Scope) : Prop where
  kind : sc.kind = .function
  co : sc.isCoroutine = false
  gen : sc.isGenerator = false
  nd : N.Nodup
  pre : N.take ps.length = ps
  par : ∀ x ∈ ps, sc.names.lookup x = some .local
  free : ∀ y ∈ sc.names, y.2 = .free → y.1 = "__class__"
  cls : sc.names.lookup ("__class__" : Str) = some .free
  cell : ∀ y ∈ sc.names, y.2 = .cell → y.1 ≠ "__class__"
  sup : sc.names.lookup ("super" : Str) = some .globalImplicit
def cxS (CX : CXT) (P : Program) (w : World) (K : PySem.W.Frag) (mg : Str → Option Value) (base : Heap) (N : List Str) (qual : Str) (scope : Scope) (f : Addr) (cd : Value) (cc : Addr) (A : Around) (outer : List Env) (s : Shared) (H : Hp) (E : XK) : Cx where
  prog := P
  w := w
  K := K
  mg := mg
  base := base
  A := A.deeper (envS qual scope s.heap.objs.size f cd cc)
  N := N
  s_0 := s
  H_0 := H
  env := envS qual scope s.heap.objs.size f cd cc
  outer := outer
  stack := envS qual scope s.heap.objs.size f cd cc :: outer
  ex := []
  calm := true
  fn := fun x => !(x == ("__class__" : Str))
  pn := []
  xe := fun e s' => wpAny (model P w) (A.deeper (envS qual scope s.heap.objs.size f cd cc)) (leaving (envS qual scope s.heap.objs.size f cd cc) e) (fun _ s'' => CX outer H s E e s'') (fun e' s'' => CX outer H s E e' s'') s'
theorem lookup_app {α : Type} {l r : List (Str × α)} {x : Str} {c : α} (h : (l ++ r).lookup x = some c) : l.lookup x = some c ∨ (l.lookup x = none ∧ r.lookup x = some c) := by
  rw [List.lookup_append] at h
  cases e : l.lookup x with
  | some d => rw [e] at h; exact .inl (by simpa using h)
  | none => rw [e] at h; exact .inr ⟨rfl, by simpa using h⟩
theorem mem_cellsFrom : ∀ {names : List (Str × NameKind)} {n : Nat} {x : Str} {c : Addr}, (x, c) ∈ cellsFrom n names [] → (x, NameKind.cell) ∈ names
  | [], n, x, c, h => by simp [cellsFrom] at h
  | (name, kind) :: r, n, x, c, h => by
    unfold cellsFrom at h
    split at h
    · rename_i hk
      rw [cellsFrom_acc] at h
      rcases List.mem_append.mp h with h | h
      · exact List.mem_cons_of_mem _ (mem_cellsFrom h)
      · have e : (x, c) = (name, n) := by simpa using h
        cases e
        rw [beq_iff_eq.mp hk]
        exact List.mem_cons_self
    · exact List.mem_cons_of_mem _ (mem_cellsFrom h)
theorem inv_startS {CX : CXT} {P : Program} {w : World} {K : PySem.W.Frag} {mg : Str → Option Value} {base : Heap} {N ps : List Str} {qual : Str} {scope : Scope} {f cc : Addr} {cd : Value} {A : Around} {outer : List Env} {s s1 : Shared} {H : Hp} {E : XK} {us : List Value} {vs : List V} {oc : Obj} {cv : Value}
    (S : SScope N ps scope) (hd : A.handled = none) (e0 : Env0 P w K mg base A outer s H) (hl : vs.length = ps.length) (r : Vals vs us) (hcc : base.get? cc = some oc) (hcd : oc.data = .cell (some cv))
    (x : InCallC s s.heap.objs.size (bindL (envS qual scope s.heap.objs.size f cd cc).kindOf (ps.zip us) fun _ => none) (cellsFrom (s.heap.objs.size + 1) scope.names []) (fun _ => none) s1) :
    Inv (cxS CX P w K mg base N qual scope f cd cc A outer s H E) [] (L2.start N vs) H s1 := by
  have hpl : ps.length ≤ N.length := by have := congrArg List.length S.pre; rw [List.length_take] at this; omega
  obtain ⟨h1, tk, rfl, hk⟩ := x.done
  have noA : ∀ b : Addr, b ∉ (cxS CX P w K mg base N qual scope f cd cc A outer s H E).ex := fun b z => absurd (show b ∈ ([] : List Addr) from z) (by simp)
  have ccs := e0.bs cc oc hcc
  have cclt : cc < s.heap.objs.size := Heap.lt_size ccs.1
  have look : ∀ {y c}, (cellsFrom (s.heap.objs.size + 1) scope.names [] ++ [(("__class__" : Str), cc)]).lookup y = some c → (cellsFrom (s.heap.objs.size + 1) scope.names []).lookup y = some c ∨ (y = "__class__" ∧ c = cc) := fun {y c} h => by
    rcases lookup_app h with h | ⟨_, h⟩
    · exact .inl h
    · have := PySem.mem_of_lookup h
      have e : (y, c) = (("__class__" : Str), cc) := by simpa using this
      cases e
      exact .inr ⟨rfl, rfl⟩
  refine ⟨⟨e0.mod, S.kind, rfl, rfl, Nat.le_refl _, fun y z c h1 h2 => ?_, fun y hy => ?_, fun y c hf h => ?_, fun _ => hd, Around.frames_deeper e0.frames, .inr ⟨rfl, rfl⟩, fun b z => absurd z (noA b), e0.bs, e0.bsz, fun b _ _ => noA b, fun b z => absurd z (noA b), e0.funs, e0.frf⟩,
    rfl, e0.bare, Un.kept hk, ⟨_, x.toInCall.ns, fun i y v h1 h2 h3 => ?_⟩, fun y c h => ?_, e0.hok.fresh (Nat.le_refl _), fun y c h => ?_, fun p hp => absurd (show p ∈ ([] : List (Addr × Obj)) from hp) (by simp), e0.hok.kept hk, ?_⟩
  · rcases look h1 with a | ⟨a, a'⟩ <;> rcases look h2 with b | ⟨b, b'⟩
    · exact name_of_addr x.apart (PySem.mem_of_lookup a) (PySem.mem_of_lookup b)
    · have := x.above y c (PySem.mem_of_lookup a)
      rw [b'] at this
      exact absurd (Nat.lt_trans cclt this) (Nat.lt_irrefl _)
    · have := x.above z c (PySem.mem_of_lookup b)
      rw [a'] at this
      exact absurd (Nat.lt_trans cclt this) (Nat.lt_irrefl _)
    · rw [a, b]
  · have hy : scope.names.lookup y = some .cell ∨ scope.names.lookup y = some .free := hy
    rcases hy with hy | hy
    · obtain ⟨c, e⟩ := cell_has (n := s.heap.objs.size + 1) hy
      refine ⟨c, ?_⟩
      show (cellsFrom (s.heap.objs.size + 1) scope.names [] ++ [(("__class__" : Str), cc)]).lookup y = some c
      rw [List.lookup_append, e]
      rfl
    · have e := S.free _ (PySem.mem_of_lookup hy) rfl
      have e' : y = "__class__" := e
      subst e'
      refine ⟨cc, ?_⟩
      show (cellsFrom (s.heap.objs.size + 1) scope.names [] ++ [(("__class__" : Str), cc)]).lookup ("__class__" : Str) = some cc
      have hn : (cellsFrom (s.heap.objs.size + 1) scope.names []).lookup ("__class__" : Str) = none := by
        cases q : (cellsFrom (s.heap.objs.size + 1) scope.names []).lookup ("__class__" : Str) with
        | none => rfl
        | some c => exact absurd rfl (S.cell _ (mem_cellsFrom (PySem.mem_of_lookup q)) rfl)
      rw [List.lookup_append, hn]
      simp [List.lookup]
  · rcases look h with h | ⟨h, _⟩
    · exact Nat.le_of_lt (x.above y c (PySem.mem_of_lookup h))
    · have hf' : (!(y == ("__class__" : Str))) = true := hf
      rw [h] at hf'
      simp at hf'
  · have hi : i < vs.length := by
      unfold L2.start at h2
      by_cases hi : i < vs.length
      · exact hi
      · rw [List.getElem?_append_right (by simpa using hi)] at h2
        rw [List.getElem?_replicate] at h2
        split at h2 <;> cases h2
    have ha : vs[i]? = some v := by
      unfold L2.start at h2
      rw [List.getElem?_append_left (by simpa using hi), List.getElem?_map] at h2
      cases e : vs[i]? with
      | none => rw [e] at h2; cases h2
      | some a => rw [e] at h2; cases h2; rfl
    obtain ⟨u, hu, rv⟩ := r.get ha
    have hp : ps[i]? = some y := by
      rw [← S.pre, List.getElem?_take_of_lt (by omega)]; exact h1
    have ndP : ps.Nodup := by rw [← S.pre]; exact S.nd.sublist (List.take_sublist _ _)
    have k := S.par y (List.mem_of_getElem? hp)
    exact ⟨u, rv, .inl ⟨k, bindL_get ndP hp hu k⟩⟩
  · rcases look h with h | ⟨_, h⟩
    · exact ⟨_, x.cell y c h⟩
    · subst h
      exact ⟨some cv, oc, hk _ _ ccs.1, hcd⟩
  · rcases look h with h | ⟨_, h⟩
    · exact e0.hok.fresh (Nat.le_of_lt (x.above y c (PySem.mem_of_lookup h)))
    · subst h
      exact ccs.2
  · unfold L2.start
    show _ = N.length
    rw [List.length_append, List.length_map, List.length_replicate]
    omega
end PL
end
section
set_option maxHeartbeats 4000000
/-! PB5: super().__init__(..), the def's rule. -/
namespace PL
open PySem PySem.Spec PyProof.Rows L2
/-- statements of a known activation -/
structure PSA (X : Cx) (B : List Stmt) (st : List Stmt) (t : TS) : Prop where
  run : ∀ (pins : List (Addr × Obj)) (s : Shared) (σ : L2.St) (H : Hp) (D : Ends), Inv X pins σ H s → t D σ H → _root_.PySem.wpAt (model X.prog X.w) X.A (.func B X.env) (execs st X.env) (SP X pins D) X.xe s
theorem psa_cons {X : Cx} {B : List Stmt} {st : Stmt} {rest : List Stmt} {t u : TS} (h1 : PS X st t) (h2 : PSA X B rest u) : PSA X B (st :: rest) (tSeq t u) := by
  refine ⟨fun pins s σ H D I h => ?_⟩
  refine _root_.PySem.ks_wpAt_execs_cons (_root_.PySem.wpAt_of_wpAny (thn (h1.run pins s σ H _ I h) fun fl s' q => ?_))
  cases fl with
  | next =>
    obtain ⟨σ', H', I', q⟩ := q
    exact h2.run pins s' σ' H' D I' q
  | brk => exact q
  | cont => exact q
  | ret u => exact q
/-- what the super() in a class's own __init__ finds -/
structure SupCls (K : PySem.W.Frag) (C f2 : Addr) : Prop where
  cls : ∃ cd, PySem.W.clsIn K C = some cd
  sub : PySem.W.mroIn K C (.ref C) = some true
  sup : PySem.W.ks_superIn K C C "__init__" = some (some (.ref f2))
  fn : PySem.W.typeIn K (.ref f2) = some (.type "function")
  fi : PySem.W.fnIn K f2 = true
  st : PySem.W.nsIn K cStatics "thirdparty.any" = some none
/-- super().__init__(..): self stands at the slot 0; the bound method at q -/
def tSuper (C f2 : Addr) (sp : Sp) (E : XK) (t : TA) : TS := fun D σ H => ∃ a dx fs, σ[0]? = some (some (.ref a)) ∧ H a = some (.ins C dx fs) ∧
  ∀ q, H q = none → t σ (upd H q (.met f2 a)) fun vs H2 => H2 q = some (.met f2 a) ∧ sp (.ref a :: vs) H2 (fun _ H3 => D.nx σ H3) E
section
variable {CX CX' : CXT} {P : Program} {w : World} {K : PySem.W.Frag} {mg : Str → Option Value} {base : Heap} {N : List Str} {qual : Str} {scope : Scope} {f cda cc C f2 : Addr} {A : Around} {outer : List Env} {s0 : Shared} {H0 : Hp} {E0' E' : XK}
  {oc ccl cl : Value} {od cdd cld : Option Addr} {osl ccs csl : Array (Option Value)} {fd : FuncData} {ar : Arg} {vs : Array Value} {file : Str} {tf : Tok}
theorem psa_super {X : Cx} {pl : Sem Bool} (hX : X = cxS CX P w K mg base N qual scope f (.ref cda) cc A outer s0 H0 E0') {B : List Stmt} {k : Nat} {fd2 : FuncData} {ps : List Str} {sp : Sp} {e : Expr} {es : List Expr} {t : TA} {p0 p1 apos pos epos : Pos} {ds : List Value}
    (S : SupCls K C f2) (hk : scope.kind = .function) (hks : scope.names.lookup ("super" : Str) = some .globalImplicit) (hkc : scope.names.lookup ("__class__" : Str) = some .free) (hka : scope.names.lookup ("self" : Str) = some .local) (hN0 : N[0]? = some ("self" : Str))
    (hcl : (cellsFrom (s0.heap.objs.size + 1) scope.names [] ++ [(("__class__" : Str), cc)]).lookup ("__class__" : Str) = some cc)
    (hf : K.lookup f = some ⟨oc, od, .func fd, osl⟩) (hp : (fd.params.posonlyargs ++ fd.params.args).head? = some ar) (har : ar.arg = "self")
    (hcode : K.lookup cda = some ⟨ccl, cdd, .fields vs, ccs⟩) (hvs : vs[2]? = some (.str file tf)) (hfile : ((P.main.file : Str) == file) = true) (htop : (P.main.scope.names.lookup ("super" : Str)).isSome = false)
    (hcell : K.lookup cc = some ⟨cl, cld, .cell (some (.ref C)), csl⟩) (hsup : mg "super" = none)
    (F : FnOk P w K mg base CX' k f2 fd2 ps sp) (hr : Room k X.A) (hb : Binds K fd2 ps []) (hx : Passes CX' X E') (ha : PA X (e :: es) t)
    (he : eval (.Call (.Attribute (.Call (.Name "super" p0) [] [] p1) "__init__" apos) (e :: es) [] pos) X.env = (do
      let ov ← attributeBase (.Call (.Name "super" p0) [] [] p1) "__init__" X.env (eval (.Call (.Name "super" p0) [] [] p1) X.env)
      standAt apos.atName
      let (f, first) ← holding [ov] (getMethod ov "__init__" pl)
      callWith pos f first (backTo pos (starEach (e :: es) X.env)) []))
    (hst : starEach (e :: es) X.env = (false, eval e X.env) :: starEach es X.env) (hpl : (backTo pos (starEach es X.env)).any (·.1) = false)
    (hi : interactive X.env = false) (hs : swapsWith (.Call (.Attribute (.Call (.Name "super" p0) [] [] p1) "__init__" apos) (e :: es) [] pos) none epos.line X.env = pure false) :
    PSA X B [.Expr (.Call (.Attribute (.Call (.Name "super" p0) [] [] p1) "__init__" apos) (e :: es) [] pos) epos] (tSuper C f2 sp E' t) := by
  subst hX
  refine ⟨fun pins s σ H D I h => ?_⟩
  obtain ⟨a, dx, fs, h0, hC, q⟩ := h
  have KI : K.In s.heap := I.kIn
  obtain ⟨cdC, hcd⟩ := S.cls
  obtain ⟨oD, hD1, hD2⟩ : ∃ oD, s.heap.get? C = some oD ∧ oD.data = .cls cdC := by
    have hcd' := hcd
    unfold PySem.W.clsIn at hcd'
    split at hcd'
    · rename_i c d cd' sl ho
      cases hcd'
      exact ⟨_, KI _ _ ho, rfl⟩
    · cases hcd'
  obtain ⟨mA, J, _⟩ := ins_get I.hok hC
  obtain ⟨odx, J, _⟩ := J.look
  obtain ⟨m, hns, hloc⟩ := I.loc
  obtain ⟨us, rus, lk⟩ := hloc 0 "self" _ hN0 h0 (.inl hka)
  obtain rfl : us = Value.ref a := rus
  have hm : m "self" = some (.ref a) := by
    rcases lk with ⟨_, lk⟩ | ⟨lk, _⟩
    · exact lk
    · have lk' : scope.names.lookup ("self" : Str) = some .cell ∨ scope.names.lookup ("self" : Str) = some .free := lk
      rw [hka] at lk'
      rcases lk' with z | z <;> cases z
  refine _root_.PySem.ks_wpAt_execs_cons (_root_.PySem.ks_wpAt_Expr_any ?_ hi hs)
  have fin : ∀ s', (∃ H', Inv (cxS CX P w K mg base N qual scope f (.ref cda) cc A outer s0 H0 E0') pins σ H' s' ∧ D.nx σ H') → _root_.PySem.wpAt (model P w) (A.deeper (envS qual scope s0.heap.objs.size f (.ref cda) cc)) (.func B (envS qual scope s0.heap.objs.size f (.ref cda) cc)) (execs [] (envS qual scope s0.heap.objs.size f (.ref cda) cc)) (SP (cxS CX P w K mg base N qual scope f (.ref cda) cc A outer s0 H0 E0') pins D) (cxS CX P w K mg base N qual scope f (.ref cda) cc A outer s0 H0 E0').xe s' := fun s' ⟨H', I', z⟩ =>
    _root_.PySem.wpAt_of_wpAny (wpAny_execs_nil ⟨σ, H', I', z⟩)
  refine _root_.PySem.wpAt_mono (Q := fun _ s' => ∃ H', Inv (cxS CX P w K mg base N qual scope f (.ref cda) cc A outer s0 H0 E0') pins σ H' s' ∧ D.nx σ H') ?_ (fun v s' z => fin s' z) fun _ _ z => z
  refine _root_.PySem.ks_wpAt_MethodCall ?_ he
  refine _root_.PySem.ks_wpAt_super_base (env := envS qual scope s0.heap.objs.size f (.ref cda) cc) hks hkc (by decide) rfl (KI _ _ hf) rfl hp rfl (KI _ _ hcode) rfl hvs hfile htop ?_
  have lsup : bootBuiltins ("super" : Str) = some (.type "super") := by decide +kernel
  obtain ⟨mb, hb1, hb2⟩ := I.mod.blt
  refine PySem.W.ks_loadName_global hk hks (Calls.loadGlobal_builtin (env := envS qual scope s0.heap.objs.size f (.ref cda) cc) (I.mod.glob.keeps I.bk) hsup (hb1.keeps I.bk) ((hb2 _ (by decide)).trans lsup) ⟨rfl, ?_⟩)
  refine wpAny_loadName_free hk hkc hcl ⟨_, KI _ _ hcell, rfl⟩ ?_
  rw [har]
  refine wpAny_loadName_local hk hka hns hm ?_
  refine ks_wpAny_isType_cls hD1 hD2 ⟨rfl, ?_⟩
  refine ks_wpAny_call_super hD1 hD2 J.at_ J.cls (fun c e => ?_) (PySem.W.looks_mroIn KI S.sub) (fun h' eo kp => ?_)
  · have := J.no
    unfold PySem.W.notCls at this
    rw [e] at this
    exact Bool.noConfusion this
  have I1 : Inv (cxS CX P w K mg base N qual scope f (.ref cda) cc A outer s0 H0 E0') pins σ H { s with heap := h' } := I.kept (t' := s.toks) kp
  have KI1 : K.In h' := I1.kIn
  have hsz : s.heap.objs.size < h'.objs.size := Heap.lt_size eo
  obtain ⟨of, hof, hofc⟩ : ∃ of, h'.get? f2 = some of ∧ of.cls = .type "function" := by
    have ht' : (K.lookup f2).map (·.cls) = some (.type "function") := S.fn
    cases z : K.lookup f2 with
    | none => rw [z] at ht'; cases ht'
    | some of => rw [z] at ht'; exact ⟨of, KI1 _ _ z, Option.some.inj ht'⟩
  have hsup2 : PySem.W.alongIn K "__init__" ((cdC.mro.dropWhile (· != .ref C)).drop 1) = some (some (.ref f2)) := by
    have := S.sup
    unfold PySem.W.ks_superIn at this
    rw [hcd] at this
    exact this
  refine ks_wpAny_getMethod_super eo (PySem.W.looks_opaque KI1 S.st) (l₀ := cdC.mro) ?_ rfl KI1 hsup2 hof hofc (PySem.W.ks_ne KI J hcd) (by decide) ?_
  · exact fun A Q E s k q => wpAny_bind ((PySem.W.looks_clsIn KI1 hcd) A _ E s k (wpAny_pure q))
  have fresh1 : H h'.objs.size = none := I1.hok.fresh (Nat.le_refl _)
  have I2 : Inv (cxS CX P w K mg base N qual scope f (.ref cda) cc A outer s0 H0 E0') pins σ (upd H h'.objs.size (.met f2 a)) { s with heap := h'.push { cls := .type "method", data := .fields #[.ref f2, .ref a] }, toks := s.toks + 1 } :=
    I1.laid (t' := s.toks + 1) (fun b o z => Heap.get?_push_of_some _ z) (Nat.le_refl _) (Heap.get?_push_at rfl rfl)
  have q2 := q h'.objs.size fresh1
  show wpAny _ _ (callWith pos (.ref h'.objs.size) [] (backTo pos (starEach (e :: es) _)) []) _ _ _
  rw [hst]
  refine PySem.W.callWith_of (P := PySem.W.MethP K h'.objs.size f2 (.ref a)) (by show ((false || (backTo pos (starEach es _)).any (·.1)) || false) = false; rw [hpl]; rfl) (PySem.W.keeps_M S.fi) (PySem.Calls.evalArgs_plain ?_)
  have ha' := ha.run pos pins _ σ _ _ I2 q2
  rw [hst] at ha'
  refine thn ha' fun us s3 ⟨vs3, H3, I3, rv, hm3, hsp⟩ => ?_
  refine ⟨⟨I3.hok _ _ hm3, I3.kIn⟩, ?_⟩
  refine wpAny_call (PySem.W.method_call (I3.hok _ _ hm3) ?_)
  have R := (F.raw hb .nil)
  have hsp' : (fun vs H Q E => sp (vs ++ []) H Q E) (V.ref a :: vs3) H3 (fun _ H4 => D.nx σ H4) E' := by
    show sp ((V.ref a :: vs3) ++ []) H3 _ E'
    rw [List.append_nil]
    exact hsp
  refine codeAny_mono (run_fnR (us := Value.ref a :: us) (vs := V.ref a :: vs3) (Q := fun _ H4 => D.nx σ H4) R hr hx I3 (.cons rfl rv) hsp') fun r s4 hq => ?_
  cases r with
  | error e => exact hq
  | ok fl =>
    cases fl with
    | ret u =>
      obtain ⟨v, H', I', _, z⟩ := hq
      exact ⟨H', I', z⟩
    | next => exact hq
    | brk => exact hq
    | cont => exact hq
end
end PL
end
section
set_option maxHeartbeats 4000000
/-! PB6: the rule for a def with super(). -/
namespace PL
open PySem PySem.Spec PyProof.Rows L2
structure FunS (P : Program) (K : PySem.W.Frag) (x qual : Str) (st : Stmt) (C f : Addr) (fd : FuncData) (cda cc : Addr) : Prop where
  ex : ∃ (oc : Value) (od : Option Addr) (kV doc pm : Value) (an : Option Addr) (ct : Value) (osl : Array (Option Value)) (ar : Arg) (vs : Array Value) (file : Str) (tf : Tok) (ccl cl : Value) (cdd cld : Option Addr) (ccs csl : Array (Option Value)),
    fd = PySem.W.ksFn x qual (defArgs st) (defBody st) (defScope st) .none kV doc pm an (.ref cda) ct cc ∧ K.lookup f = some ⟨oc, od, .func fd, osl⟩ ∧ PySem.W.codeIn K (.ref cda) qual = true ∧
    ((defArgs st).posonlyargs ++ (defArgs st).args).head? = some ar ∧ ar.arg = "self" ∧
    K.lookup cda = some ⟨ccl, cdd, .fields vs, ccs⟩ ∧ vs[2]? = some (.str file tf) ∧ ((P.main.file : Str) == file) = true ∧ K.lookup cc = some ⟨cl, cld, .cell (some (.ref C)), csl⟩
  kp : PySem.W.keepIn K (.ref f) = true
  top : (P.main.scope.names.lookup ("super" : Str)).isSome = false
theorem SScope.look {N ps : List Str} {sc : Scope} (S : SScope N ps sc) (n cc : Addr) : (cellsFrom n sc.names [] ++ [(("__class__" : Str), cc)]).lookup ("__class__" : Str) = some cc := by
  have hn : (cellsFrom n sc.names []).lookup ("__class__" : Str) = none := by
    cases q : (cellsFrom n sc.names []).lookup ("__class__" : Str) with
    | none => rfl
    | some c => exact absurd rfl (S.cell _ (mem_cellsFrom (PySem.mem_of_lookup q)) rfl)
  rw [List.lookup_append, hn]
  simp [List.lookup]
section
variable {CX CX' : CXT} {P : Program} {w : World} {K : PySem.W.Frag} {mg : Str → Option Value} {base : Heap} {N ps : List Str} {x qual : Str} {st : Stmt} {f cda cc C f2 : Addr} {fd : FuncData}
theorem psa_sup {A : Around} {outer : List Env} {s0 : Shared} {H0 : Hp} {E0' E' : XK} {X : Cx} {pl : Sem Bool} (Fn : FunS P K x qual st C f fd cda cc) (hX : X = cxS CX P w K mg base N qual (defScope st) f (.ref cda) cc A outer s0 H0 E0') (Sc : SScope N ps (defScope st)) (S : SupCls K C f2) (hN0 : N[0]? = some ("self" : Str)) (hka : (defScope st).names.lookup ("self" : Str) = some .local)
    {B : List Stmt} {k : Nat} {fd2 : FuncData} {ps2 : List Str} {sp : Sp} {e : Expr} {es : List Expr} {t : TA} {p0 p1 apos pos epos : Pos} (hsup : mg "super" = none)
    (F : FnOk P w K mg base CX' k f2 fd2 ps2 sp) (hr : Room k X.A) (hb : Binds K fd2 ps2 []) (hx : Passes CX' X E') (ha : PA X (e :: es) t)
    (he : eval (.Call (.Attribute (.Call (.Name "super" p0) [] [] p1) "__init__" apos) (e :: es) [] pos) X.env = (do
      let ov ← attributeBase (.Call (.Name "super" p0) [] [] p1) "__init__" X.env (eval (.Call (.Name "super" p0) [] [] p1) X.env)
      standAt apos.atName
      let (f, first) ← holding [ov] (getMethod ov "__init__" pl)
      callWith pos f first (backTo pos (starEach (e :: es) X.env)) []))
    (hst : starEach (e :: es) X.env = (false, eval e X.env) :: starEach es X.env) (hpl : (backTo pos (starEach es X.env)).any (·.1) = false)
    (hi : interactive X.env = false) (hs : swapsWith (.Call (.Attribute (.Call (.Name "super" p0) [] [] p1) "__init__" apos) (e :: es) [] pos) none epos.line X.env = pure false) :
    PSA X B [.Expr (.Call (.Attribute (.Call (.Name "super" p0) [] [] p1) "__init__" apos) (e :: es) [] pos) epos] (tSuper C f2 sp E' t) := by
  obtain ⟨oc, od, kV, doc, pm, an, ct, osl, ar, vs, file, tf, ccl, cl, cdd, cld, ccs, csl, rfl, lk, hcd, h1, h2, h3, h4, h5, h6⟩ := Fn.ex
  exact psa_super hX (ds := []) S Sc.kind Sc.sup Sc.cls hka hN0 (Sc.look _ _) lk h1 h2 h3 h4 h5 Fn.top h6 hsup F hr hb hx ha he hst hpl hi hs
/-- THE RULE for such a def -/
theorem FunS.ok {k : Nat} {sp : Sp} (F : FunS P K x qual st C f fd cda cc) (S : SScope N ps (defScope st)) (len : ∀ vs H Q E, sp vs H Q E → vs.length = ps.length)
    (hbody : ∀ (A : Around) (outer : List Env) (s : Shared) (H : Hp) (vs : List V) (Q : VK) (E : XK), Room k (A.deeper (envS qual (defScope st) s.heap.objs.size f (.ref cda) cc)) → sp vs H Q E →
      ∃ t, PSA (cxS CX P w K mg base N qual (defScope st) f (.ref cda) cc A outer s H E) (defBody st) (defBody st) t ∧ t { nx := fun _ H' => Q .non H', rt := Q } (L2.start N vs) H) :
    FnOk P w K mg base CX (k + 1) f fd ps sp := by
  obtain ⟨oc, od, kV, doc, pm, an, ct, osl, ar, vs0, file, tf, ccl, cl, cdd, cld, ccs, csl, rfl, lk, hcd, h1, h2, h3, h4, h5, h6⟩ := F.ex
  refine ⟨len, fun A outer s H args us vs Q E hr e0 hb r hsp => ?_⟩
  have hl := len _ _ _ _ hsp
  have KX : K.In s.heap := e0.mod.kin.keeps fun b o e => (e0.bs b o e).1
  have lim : s.heap.NoLimit := e0.mod.nolimit.keeps fun b o e => (e0.bs b o e).1
  have hkind : ∀ y ∈ ps.zip us, (defScope st).names.lookup y.1 = some .local := fun ⟨n, v⟩ hy => S.par n (List.of_mem_zip hy).1
  refine codeAny_call_function hr.depth (KX _ _ lk) rfl S.co S.gen rfl (PySem.W.codeRec_of KX hcd) (hb _ _ _ _ ?_)
  refine newEnv_super S.kind hkind fun env he s1 x => ?_
  subst he
  refine ⟨lim.keeps x.toInCall.keep, ks_codeAny_funcAt ?_⟩
  obtain ⟨t, ht, hq⟩ := hbody A outer s H vs Q E (hr.deeper _) hsp
  have hcc : base.get? cc = some ⟨cl, cld, .cell (some (.ref C)), csl⟩ := e0.mod.kin _ _ h6
  have I : Inv (cxS CX P w K mg base N qual (defScope st) f (.ref cda) cc A outer s H E) [] (L2.start N vs) H s1 := inv_startS S hr.hd e0 hl r hcc rfl x
  refine _root_.PySem.wpAt_mono (ht.run [] s1 (L2.start N vs) H _ I hq) (fun fl s' hs => ?_) fun e s' hs => hs
  have fin : ∀ {σ' : L2.St} {H' : Hp} {v : V} {u : Value}, Inv (cxS CX P w K mg base N qual (defScope st) f (.ref cda) cc A outer s H E) [] σ' H' s' → RelV v u → Q v H' → CE outer P w H s Q u s' :=
    fun {σ' H' v u} J rv q => ⟨v, H', J.os, J.bare, J.base, J.hok, rv, q⟩
  cases fl with
  | ret u =>
    obtain ⟨v, σ', H', J, rv, q⟩ := hs
    exact fin J rv q
  | next =>
    obtain ⟨σ', H', J, q⟩ := hs
    exact fin (v := V.non) (u := Value.none) J rfl q
  | brk =>
    obtain ⟨_, _, _, q⟩ := hs
    exact False.elim q
  | cont =>
    obtain ⟨_, _, _, q⟩ := hs
    exact False.elim q
theorem FunS.binds (F : FunS P K x qual st C f fd cda cc)
    (h : ∀ (kV doc pm : Value) (an : Option Addr) (ct : Value) (us : List Value), us.length = ps.length → bindArgs (PySem.W.ksFn x qual (defArgs st) (defBody st) (defScope st) .none kV doc pm an (.ref cda) ct cc) ⟨us, []⟩ = pure (ps.zip us)) : Binds K fd ps [] := by
  obtain ⟨oc, od, kV, doc, pm, an, ct, osl, ar, vs0, file, tf, ccl, cl, cdd, cld, ccs, csl, rfl, _⟩ := F.ex
  exact .all (h kV doc pm an ct)
end
end PL
end
section
set_option maxHeartbeats 4000000
/-! PB8: small rules: lists or tuples, field targets, str by an own __str__, repr of a bool, f(k = v), constants. -/
namespace PL
open PySem PySem.Spec PyProof.Rows L2
/-! ### a list (b true) or a tuple -/
def SqB (b : Bool) (K : PySem.W.Frag) (H : Hp) (a : Addr) (xs : List V) : Prop := match b with | true => SqL K H a xs | false => SqT K H a xs
def ItB (b : Bool) (K : PySem.W.Frag) (a : Addr) : It := match b with | true => Itl K a | false => Itt K a
theorem walk_B {K : PySem.W.Frag} {a : Addr} {xs : List V} : ∀ b : Bool, Walk (ItB b K a) xs.length (fun H => SqB b K H a xs) (YAt xs)
  | true => walk_list
  | false => walk_tup
theorem Same.sqt {K : PySem.W.Frag} {H H' : Hp} {a : Addr} {xs : List V} (e : Same H H') (h : SqT K H a xs) : SqT K H' a xs := by
  rcases h with (h | ⟨o, h⟩) | h
  · exact .inl (.inl (e _ _ h))
  · exact .inl (.inr ⟨o, e _ _ h⟩)
  · exact .inr h
theorem Same.sqb {K : PySem.W.Frag} {H H' : Hp} {a : Addr} {xs : List V} (e : Same H H') : ∀ {b : Bool}, SqB b K H a xs → SqB b K H' a xs
  | true, h => e.seq h
  | false, h => Same.sqt e h
def iAny (K : PySem.W.Frag) (tl : TE) : TI := fun σ H R => tl σ H fun x H1 => ∃ a b, x = .ref a ∧ (∃ xs, SqB b K H1 a xs) ∧ R (ItB b K a) H1
section
variable {X : Cx} {a b e : Expr} {ta tb te : TE} {pos : Pos}
theorem pi_any {tg l : Expr} {tl : TE} (hl : PE X l tl) : PI X tg l (iAny X.K tl) := by
  refine ⟨fun pins s σ H R I h => ?_⟩
  have h1 := (pi_list (tg := tg) hl)
  have h2 := (pi_tup (tg := tg) hl)
  refine thn (hl.run pins s σ H _ I h) fun v s1 ⟨x, H1, I1, r, a, b, ex, hq, q⟩ => ?_
  subst ex
  obtain rfl : v = Value.ref a := r
  obtain ⟨xs, hq⟩ := hq
  have L : PE X l (fun _ _ Q => Q (.ref a) H1) → True := fun _ => trivial
  cases b with
  | true =>
    obtain ⟨its, rv, p, hz⟩ := I1.list hq
    refine iter_any p.isList fun s₂ e2 hd hne => ?_
    subst e2
    have I2 : Inv X pins σ H1 { s1 with heap := s1.heap.push { cls := .type "list_iterator", data := .fields #[.ref a, .int 0 0] } } := I1.kept (t' := s1.toks) fun b o z => Heap.get?_push_of_some _ z
    exact ⟨s1.heap.objs.size, [s1.heap.objs.size], _, _, H1, rfl, I2, turn_list a s1.heap.objs.size, hd.1, fun b hb => by
      have e' : b = s1.heap.objs.size := by simpa using hb
      rw [e']
      exact I1.fpOk (Nat.le_refl _) (I1.hok.fresh (Nat.le_refl _)), q⟩
  | false =>
    obtain ⟨its, rv, p, hz⟩ := I1.tuple hq
    refine wpAny_pyIter_tuple p ?_
    have I2 : Inv X pins σ H1 { s1 with heap := s1.heap.push { cls := .type "tuple_iterator", data := .fields #[.ref a, .int 0 0] } } := I1.kept (t' := s1.toks) fun b o z => Heap.get?_push_of_some _ z
    exact ⟨s1.heap.objs.size, [s1.heap.objs.size], _, _, H1, rfl, I2, turn_tuple a s1.heap.objs.size, ⟨_, Heap.get?_push_at rfl rfl, rfl, rfl⟩, fun b hb => by
      have e' : b = s1.heap.objs.size := by simpa using hb
      rw [e']
      exact I1.fpOk (Nat.le_refl _) (I1.hok.fresh (Nat.le_refl _)), q⟩
/-- a[i], a list or a tuple -/
def rIxA (K : PySem.W.Frag) : R2 := fun x y H Q => ∃ p b xs i v, x = .ref p ∧ y = .int i ∧ SqB b K H p xs ∧ atI xs i = some v ∧ Q v H
theorem ix_any : IxR X (rIxA X.K) := fun value slice pins s σ H x y v u Q I rx ry h hs => by
  obtain ⟨p, b, xs, i, v', e1, e2, hq, ha, q⟩ := h
  cases b with
  | true => exact ix_list value slice pins s σ H x y v u Q I rx ry ⟨p, xs, i, v', e1, e2, hq, ha, q⟩ hs
  | false => exact ix_tup value slice pins s σ H x y v u Q I rx ry ⟨p, xs, i, v', e1, e2, hq, ha, q⟩ hs
/-- len of a list or a tuple -/
def rLenA (K : PySem.W.Frag) : List V → Hp → VK → Prop := fun vs H Q => ∃ p b xs, vs = [.ref p] ∧ SqB b K H p xs ∧ Q (.int (xs.length : Int)) H
theorem call_lenA : CallR X (.builtin "len") (rLenA X.K) := fun pins s σ H xs us Q I r h => by
  obtain ⟨p, b, ys, rfl, hq, q⟩ := h
  refine call_len pins s σ H _ us Q I r ⟨_, ys.length, rfl, ?_, q⟩
  cases b with
  | true => exact .inl ⟨ys, hq, rfl⟩
  | false => exact .inr ⟨ys, hq, rfl⟩
/-- tuple(x) of a list: a new one; of a tuple: itself -/
def rTupA (K : PySem.W.Frag) : List V → Hp → VK → Prop := fun vs H Q => ∃ p b xs, vs = [.ref p] ∧ SqB b K H p xs ∧ ∀ q H', Same H H' → SqT K H' q xs → (b = true → H q = none ∧ H' = upd H q (.tup xs)) → (b = false → q = p ∧ H' = H) → Q (.ref q) H'
theorem call_tupA : CallR X (.type "tuple") (rTupA X.K) := fun pins s σ H xs us Q I r h => by
  obtain ⟨p, b, ys, rfl, hq, q⟩ := h
  obtain ⟨u, rfl, hu⟩ := vals1 r
  refine rl_tuple pins s σ H (.ref p) u Q I hu ?_
  cases b with
  | true => exact .inl ⟨p, ys, rfl, hq, fun z hz => q z _ (fun b o e => by rw [upd_ne (ne_of_none e hz)]; exact e) (SqT.of upd_same) (fun _ => ⟨hz, rfl⟩) (fun w => nomatch w)⟩
  | false => exact .inr ⟨p, ys, rfl, hq, q p H (Same.refl H) hq (fun w => nomatch w) (fun _ => ⟨rfl, rfl⟩)⟩
/-! ### o.f as a target -/
def gFld (K : PySem.W.Frag) (ta : TE) (f : Str) : TG := fun v σ H Q => ta σ H fun x H1 => ∃ a C dx fs, x = .ref a ∧ H1 a = some (.ins C dx fs) ∧ Cls K C ∧ NoAttr K C f ∧ fs.length < 1000 ∧ Q σ (upd H1 a (.ins C dx (putF f v fs)))
theorem pg_fld {o : Expr} {f : Str} (ho : PE X o ta) : PG X (.Attribute o f pos) (gFld X.K ta f) := by
  refine ⟨fun pins s σ H v u Q I r h => ?_⟩
  rw [assign_Attribute]
  refine wpAny_bind (wpAny_holding (thn (ho.run pins s σ H _ I h) fun ov s1 ⟨x, H1, I1, rx, a, C, dx, fs, ex, ea, c, n, l, q⟩ => ?_))
  subst ex
  obtain rfl : ov = Value.ref a := rx
  refine wpAny_bind (wpAny_standAt (wpAny_bind (wpAny_holding ?_)))
  exact setattr_ok I1 ea c n l r fun s3 I3 => wpAny_release ⟨σ, _, I3, q⟩
/-! ### a module's constants -/
theorem pe_globI {x : Str} {i : Int} (hg : Gl X x) (hm : ∃ t, X.mg x = some (.int i t)) (hd : (x == ("__debug__" : Str)) = false := by decide) : PE X (.Name x pos) (tC (.int i)) := by
  obtain ⟨t, hm⟩ := hm
  exact pe_glob hg hm ⟨t, rfl⟩ hd
theorem pe_globS {x z : Str} (hg : Gl X x) (hm : ∃ t, X.mg x = some (.str z t)) (hd : (x == ("__debug__" : Str)) = false := by decide) : PE X (.Name x pos) (tC (.str z)) := by
  obtain ⟨t, hm⟩ := hm
  exact pe_glob hg hm ⟨t, rfl⟩ hd
/-! ### repr(a bool) -/
def rReprB : List V → Hp → VK → Prop := fun xs H Q => ∃ b : Bool, xs = [.bl b] ∧ Q (.str (if b then "True" else "False")) H
theorem call_reprB : CallR X (.builtin "repr") rReprB := by
  intro pins s σ H xs us Q I r h
  obtain ⟨b, rfl, q⟩ := h
  obtain ⟨u, rfl, hu⟩ := vals1 r
  obtain rfl : u = Value.bool b := hu
  refine PySem.P.repr_of_bool ?_
  refine ⟨.str (if b then "True" else "False"), H, I.tok _, ⟨s.toks, ?_⟩, q⟩
  cases b <;> rfl
/-! ### str(x), x of the text's own class with its own __str__ -/
def rStrO (PC : Addr → Prop) (sp : Sp) (E : XK) : List V → Hp → VK → Prop := fun xs H Q => ∃ a C dx fs, xs = [.ref a] ∧ PC C ∧ H a = some (.ins C dx fs) ∧ sp [.ref a] H (fun v H' => ∃ z, v = .str z ∧ Q (.str z) H') E
structure StrCls (K : PySem.W.Frag) (PC : Addr → Prop) (f : Addr) : Prop where
  str : ∀ C, PC C → PySem.W.findIn K (.ref C) "__str__" = some (some (.ref f))
  fn : PySem.W.isFn K (.ref f) = true
theorem call_strO {CX : CXT} {k : Nat} {f : Addr} {fd : FuncData} {ps : List Str} {sp : Sp} {E : XK} {PC : Addr → Prop} (F : FnOk X.prog X.w X.K X.mg X.base CX k f fd ps sp) (T : StrCls X.K PC f) (hb : Binds X.K fd ps []) (hx : Passes CX X E) (hr : Room (k + 2) X.A) :
    CallR X (.type "str") (rStrO PC sp E) := by
  intro pins s σ H xs us Q I r h
  obtain ⟨a, C, dx, fs, rfl, hC, ha, q⟩ := h
  obtain ⟨u, rfl, hu⟩ := vals1 r
  obtain rfl : u = Value.ref a := hu
  obtain ⟨mA, J, _⟩ := ins_get I.hok ha
  obtain ⟨od, J, _⟩ := J.look
  have r2 := hr.in1.in1
  refine PySem.W.kso_call r2.units0 I.kIn J (T.str C hC) T.fn ?_
  have e0 : Env0 X.prog X.w X.K X.mg X.base X.A.in1.in1 X.stack s H := by
    have e := I.env0
    exact ⟨e.frames, e.mod, e.bs, e.bsz, e.funs, e.frf, e.hok, e.bare⟩
  have hl := F.len _ _ _ _ q
  have rv : Vals [V.ref a] [Value.ref a] := .cons rfl .nil
  refine wpAny_call (codeAny_mono (F.run X.A.in1.in1 X.stack s H ⟨[.ref a], []⟩ [.ref a] [.ref a] _ E r2 e0 (by
    have := hb s [.ref a] I.kIn (by simpa using hl)
    simpa using this) rv q) fun r s' hq => ?_)
  cases r with
  | error e => exact hx pins σ H s e s' I hq
  | ok fl =>
    cases fl with
    | ret w =>
      obtain ⟨z, H', I', rz, y, ez, qz⟩ := I.after hq
      subst ez
      obtain ⟨t, rfl⟩ := rz
      exact ⟨.str y, H', I', ⟨t, rfl⟩, qz⟩
    | next => exact False.elim hq
    | brk => exact False.elim hq
    | cont => exact False.elim hq
end
/-! ### f(k = v, ..), no positional arguments -/
section
variable {X : Cx} {CX : CXT} {k : Nat} {f : Addr} {fd : FuncData} {ps ks : List Str} {sp : Sp} {E : XK} {x : Str} {p pos : Pos} {kws : List Keyword} {tk : TA} {g : List Value → List Value → List Value} {gV : List V → List V → List V}
theorem pe_callK0 (F : FnOk X.prog X.w X.K X.mg X.base CX k f fd ps sp) (hr : Room k X.A) (hg : Gl X x) (hm : X.mg x = some (.ref f)) (hk : PySem.W.keepIn X.K (.ref f) = true) (hb : KBinds X.K fd ps ks g gV) (hx : Passes CX X E)
    (hkw : PK X kws tk) (hall : (backToKw pos (keywordEach kws X.env)).all (·.1.isSome) = true := by rfl) (hks : (backToKw pos (keywordEach kws X.env)).filterMap (·.1) = ks := by rfl)
    (hdb : (x == ("__debug__" : Str)) = false := by decide)
    (hpl : ((backTo pos (starEach [] X.env)).any (·.1) || (backToKw pos (keywordEach kws X.env)).any (·.1.isNone)) = false := by rfl) :
    PE X (.Call (.Name x p) [] kws pos) (tCallK sp gV E tNil tk) := by
  refine ⟨fun pins s σ H Q I h => ?_⟩
  refine wpAny_Call_Name_kw (ld_glob I hg hm ?_ hdb)
  refine PySem.W.callWith_KW0 (first := []) (h₀ := X.base) I.ok.mod.kin hk hall (thn (hkw.run pos pins s σ H _ I h) fun ws s2 ⟨zs, H2, I2, rz, q2⟩ => ⟨I2.kIn, ?_⟩) hpl
  rw [hks]
  exact run_fnk F hr hb hx I2 .nil rz q2
end
end PL
end
section
set_option maxHeartbeats 4000000
/-! PT: the text by places, scopes, what the top has written. -/
namespace PL
open PySem PySem.Spec PyProof.Rows L2
abbrev P0 : Program := PySem.Challenge.pw_planless_k12_whole_texts_of_places
def topS (i : Nat) : Stmt := P0.main.body.getD i (.Pass ⟨0, 0, 0, 0⟩)
abbrev s_is_integer : Stmt := topS 9
abbrev s_is_within : Stmt := topS 10
abbrev s_is_list : Stmt := topS 11
abbrev s_common : Stmt := topS 12
abbrev s_is_number : Stmt := topS 13
abbrev s_is_weight : Stmt := topS 14
abbrev s_is_row : Stmt := topS 15
abbrev s_is_weights : Stmt := topS 16
abbrev s_is_lot : Stmt := topS 17
abbrev s_kept : Stmt := topS 18
abbrev s_kept_row : Stmt := topS 19
abbrev s_integer_in : Stmt := topS 24
abbrev s_number_in : Stmt := topS 25
abbrev s_Scan___init__ : Stmt := inClass (topS 26) 0
abbrev s_Scan_ahead : Stmt := inClass (topS 26) 1
abbrev s_Scan_take : Stmt := inClass (topS 26) 4
abbrev s_Scan_take_word : Stmt := inClass (topS 26) 6
abbrev s_Scan_take_integer : Stmt := inClass (topS 26) 7
abbrev s_Scan_take_number : Stmt := inClass (topS 26) 8
abbrev s_Scan_finish : Stmt := inClass (topS 26) 9
abbrev s_halves : Stmt := topS 28
abbrev s_below : Stmt := topS 29
abbrev s_text_in : Stmt := topS 30
abbrev s_Place___init__ : Stmt := inClass (topS 40) 0
abbrev s_Place___eq__ : Stmt := inClass (topS 40) 1
abbrev s_Place___str__ : Stmt := inClass (topS 40) 2
abbrev s_End___init__ : Stmt := inClass (topS 41) 0
abbrev s_Hole___init__ : Stmt := inClass (topS 42) 0
abbrev s_KeeperMove___init__ : Stmt := inClass (topS 43) 0
abbrev s_RivalMove___init__ : Stmt := inClass (topS 44) 0
abbrev s_Draw___init__ : Stmt := inClass (topS 45) 0
abbrev s_KeeperHides___init__ : Stmt := inClass (topS 46) 0
abbrev s_RivalHides___init__ : Stmt := inClass (topS 47) 0
abbrev s_KeeperSees___init__ : Stmt := inClass (topS 48) 0
abbrev s_RivalSees___init__ : Stmt := inClass (topS 49) 0
abbrev s_KeeperShows___init__ : Stmt := inClass (topS 50) 0
abbrev s_RivalShows___init__ : Stmt := inClass (topS 51) 0
abbrev s_need_room : Stmt := topS 52
abbrev s_need_table : Stmt := topS 53
abbrev s_need_place : Stmt := topS 54
abbrev s_need_parts : Stmt := topS 55
abbrev s_need_alike : Stmt := topS 56
abbrev s_need_counts : Stmt := topS 57
abbrev s_need_rows : Stmt := topS 58
abbrev s_need_lots : Stmt := topS 59
abbrev s_hands_of : Stmt := topS 60
abbrev s_how_many : Stmt := topS 61
abbrev s_moving : Stmt := topS 62
abbrev s_parting : Stmt := topS 63
abbrev s_place_of : Stmt := topS 64
abbrev s_numbers_of : Stmt := topS 65
abbrev s_items_of : Stmt := topS 66
abbrev s_weight_in : Stmt := topS 69
abbrev s_lots_in : Stmt := topS 70
abbrev s_told_in : Stmt := topS 71
abbrev s_leaf_in : Stmt := topS 72
abbrev s_place_in : Stmt := topS 73
abbrev s_read : Stmt := topS 74
abbrev s__law_desk : Stmt := topS 76
abbrev s__law_pick : Stmt := topS 77
abbrev s__law_one_of : Stmt := topS 78
abbrev s__law_low : Stmt := topS 79
abbrev s__law_told : Stmt := topS 85
abbrev s__law_number : Stmt := topS 86
abbrev s__law_weight : Stmt := topS 87
abbrev s__law_lots : Stmt := topS 88
abbrev s__law_rows : Stmt := topS 89
abbrev s__law_tree : Stmt := topS 90
abbrev s__law_made : Stmt := topS 91
abbrev s__law_written : Stmt := topS 92
abbrev s__law_items : Stmt := topS 93
abbrev s__law_listed : Stmt := topS 94
abbrev s__law_near : Stmt := topS 95
abbrev s__law_kept_right : Stmt := topS 96
abbrev s_law : Stmt := topS 97
/-! ### scopes -/
theorem sc_is_integer : FnScope ["value"] ["value"] (defScope s_is_integer) := ⟨rfl, rfl, rfl, by decide +kernel, rfl, by decide +kernel, by decide +kernel⟩
theorem sc_is_within : FnScope ["value", "least", "most"] ["value", "least", "most"] (defScope s_is_within) := ⟨rfl, rfl, rfl, by decide +kernel, rfl, by decide +kernel, by decide +kernel⟩
theorem sc_is_list : FnScope ["value"] ["value"] (defScope s_is_list) := ⟨rfl, rfl, rfl, by decide +kernel, rfl, by decide +kernel, by decide +kernel⟩
theorem sc_common : FnScope ["one", "other"] ["one", "other"] (defScope s_common) := ⟨rfl, rfl, rfl, by decide +kernel, rfl, by decide +kernel, by decide +kernel⟩
theorem sc_is_number : FnScope ["value"] ["value"] (defScope s_is_number) := ⟨rfl, rfl, rfl, by decide +kernel, rfl, by decide +kernel, by decide +kernel⟩
theorem sc_is_weight : FnScope ["value"] ["value"] (defScope s_is_weight) := ⟨rfl, rfl, rfl, by decide +kernel, rfl, by decide +kernel, by decide +kernel⟩
theorem sc_is_row : FnScope ["value", "many", "each"] ["value", "many"] (defScope s_is_row) := ⟨rfl, rfl, rfl, by decide +kernel, rfl, by decide +kernel, by decide +kernel⟩
theorem sc_is_weights : FnScope ["value", "many", "each"] ["value", "many"] (defScope s_is_weights) := ⟨rfl, rfl, rfl, by decide +kernel, rfl, by decide +kernel, by decide +kernel⟩
theorem sc_is_lot : FnScope ["value", "each", "k"] ["value"] (defScope s_is_lot) := ⟨rfl, rfl, rfl, by decide +kernel, rfl, by decide +kernel, by decide +kernel⟩
theorem sc_kept : FnScope ["number"] ["number"] (defScope s_kept) := ⟨rfl, rfl, rfl, by decide +kernel, rfl, by decide +kernel, by decide +kernel⟩
theorem sc_kept_row : FnScope ["row", "each"] ["row"] (defScope s_kept_row) := ⟨rfl, rfl, rfl, by decide +kernel, rfl, by decide +kernel, by decide +kernel⟩
theorem sc_integer_in : FnScope ["item", "figures", "sign"] ["item"] (defScope s_integer_in) := ⟨rfl, rfl, rfl, by decide +kernel, rfl, by decide +kernel, by decide +kernel⟩
theorem sc_number_in : FnScope ["item", "above", "bar", "below", "pair"] ["item"] (defScope s_number_in) := ⟨rfl, rfl, rfl, by decide +kernel, rfl, by decide +kernel, by decide +kernel⟩
theorem sc_Scan___init__ : FnScope ["self", "text"] ["self", "text"] (defScope s_Scan___init__) := ⟨rfl, rfl, rfl, by decide +kernel, rfl, by decide +kernel, by decide +kernel⟩
theorem sc_Scan_ahead : FnScope ["self"] ["self"] (defScope s_Scan_ahead) := ⟨rfl, rfl, rfl, by decide +kernel, rfl, by decide +kernel, by decide +kernel⟩
theorem sc_Scan_take : FnScope ["self", "item"] ["self"] (defScope s_Scan_take) := ⟨rfl, rfl, rfl, by decide +kernel, rfl, by decide +kernel, by decide +kernel⟩
theorem sc_Scan_take_word : FnScope ["self", "words"] ["self", "words"] (defScope s_Scan_take_word) := ⟨rfl, rfl, rfl, by decide +kernel, rfl, by decide +kernel, by decide +kernel⟩
theorem sc_Scan_take_integer : FnScope ["self", "least", "most", "item", "number"] ["self", "least", "most"] (defScope s_Scan_take_integer) := ⟨rfl, rfl, rfl, by decide +kernel, rfl, by decide +kernel, by decide +kernel⟩
theorem sc_Scan_take_number : FnScope ["self", "item", "number"] ["self"] (defScope s_Scan_take_number) := ⟨rfl, rfl, rfl, by decide +kernel, rfl, by decide +kernel, by decide +kernel⟩
theorem sc_Scan_finish : FnScope ["self"] ["self"] (defScope s_Scan_finish) := ⟨rfl, rfl, rfl, by decide +kernel, rfl, by decide +kernel, by decide +kernel⟩
theorem sc_halves : FnScope ["number"] ["number"] (defScope s_halves) := ⟨rfl, rfl, rfl, by decide +kernel, rfl, by decide +kernel, by decide +kernel⟩
theorem sc_below : FnScope ["one", "other", "a", "b", "c", "d"] ["one", "other"] (defScope s_below) := ⟨rfl, rfl, rfl, by decide +kernel, rfl, by decide +kernel, by decide +kernel⟩
theorem sc_text_in : FnScope ["number", "above", "under"] ["number"] (defScope s_text_in) := ⟨rfl, rfl, rfl, by decide +kernel, rfl, by decide +kernel, by decide +kernel⟩
theorem sc_Place___init__ : FnScope ["self", "word", "told", "hands", "parts", "part"] ["self", "word", "told", "hands", "parts"] (defScope s_Place___init__) := ⟨rfl, rfl, rfl, by decide +kernel, rfl, by decide +kernel, by decide +kernel⟩
theorem sc_Place___eq__ : FnScope ["self", "other"] ["self", "other"] (defScope s_Place___eq__) := ⟨rfl, rfl, rfl, by decide +kernel, rfl, by decide +kernel, by decide +kernel⟩
theorem sc_Place___str__ : FnScope ["self"] ["self"] (defScope s_Place___str__) := ⟨rfl, rfl, rfl, by decide +kernel, rfl, by decide +kernel, by decide +kernel⟩
theorem sc_End___init__ : SScope ["self", "table"] ["self", "table"] (defScope s_End___init__) := ⟨rfl, rfl, rfl, by decide +kernel, rfl, by decide +kernel, by decide +kernel, by decide +kernel, by decide +kernel, by decide +kernel⟩
theorem sc_Hole___init__ : SScope ["self", "keeper_hands", "rival_hands"] ["self", "keeper_hands", "rival_hands"] (defScope s_Hole___init__) := ⟨rfl, rfl, rfl, by decide +kernel, rfl, by decide +kernel, by decide +kernel, by decide +kernel, by decide +kernel, by decide +kernel⟩
theorem sc_KeeperMove___init__ : SScope ["self", "parts", "some"] ["self", "parts"] (defScope s_KeeperMove___init__) := ⟨rfl, rfl, rfl, by decide +kernel, rfl, by decide +kernel, by decide +kernel, by decide +kernel, by decide +kernel, by decide +kernel⟩
theorem sc_RivalMove___init__ : SScope ["self", "parts", "some"] ["self", "parts"] (defScope s_RivalMove___init__) := ⟨rfl, rfl, rfl, by decide +kernel, rfl, by decide +kernel, by decide +kernel, by decide +kernel, by decide +kernel, by decide +kernel⟩
theorem sc_Draw___init__ : SScope ["self", "weights", "parts", "some"] ["self", "weights", "parts"] (defScope s_Draw___init__) := ⟨rfl, rfl, rfl, by decide +kernel, rfl, by decide +kernel, by decide +kernel, by decide +kernel, by decide +kernel, by decide +kernel⟩
theorem sc_KeeperHides___init__ : SScope ["self", "counts", "part"] ["self", "counts", "part"] (defScope s_KeeperHides___init__) := ⟨rfl, rfl, rfl, by decide +kernel, rfl, by decide +kernel, by decide +kernel, by decide +kernel, by decide +kernel, by decide +kernel⟩
theorem sc_RivalHides___init__ : SScope ["self", "counts", "part"] ["self", "counts", "part"] (defScope s_RivalHides___init__) := ⟨rfl, rfl, rfl, by decide +kernel, rfl, by decide +kernel, by decide +kernel, by decide +kernel, by decide +kernel, by decide +kernel⟩
theorem sc_KeeperSees___init__ : SScope ["self", "weights", "part", "row"] ["self", "weights", "part"] (defScope s_KeeperSees___init__) := ⟨rfl, rfl, rfl, by decide +kernel, rfl, by decide +kernel, by decide +kernel, by decide +kernel, by decide +kernel, by decide +kernel⟩
theorem sc_RivalSees___init__ : SScope ["self", "weights", "part", "row"] ["self", "weights", "part"] (defScope s_RivalSees___init__) := ⟨rfl, rfl, rfl, by decide +kernel, rfl, by decide +kernel, by decide +kernel, by decide +kernel, by decide +kernel, by decide +kernel⟩
theorem sc_KeeperShows___init__ : SScope ["self", "lots", "parts", "some", "part", "lot"] ["self", "lots", "parts"] (defScope s_KeeperShows___init__) := ⟨rfl, rfl, rfl, by decide +kernel, rfl, by decide +kernel, by decide +kernel, by decide +kernel, by decide +kernel, by decide +kernel⟩
theorem sc_RivalShows___init__ : SScope ["self", "lots", "parts", "some", "part", "lot"] ["self", "lots", "parts"] (defScope s_RivalShows___init__) := ⟨rfl, rfl, rfl, by decide +kernel, rfl, by decide +kernel, by decide +kernel, by decide +kernel, by decide +kernel, by decide +kernel⟩
theorem sc_need_room : FnScope ["many", "levels"] ["many", "levels"] (defScope s_need_room) := ⟨rfl, rfl, rfl, by decide +kernel, rfl, by decide +kernel, by decide +kernel⟩
theorem sc_need_table : FnScope ["value", "many", "row"] ["value"] (defScope s_need_table) := ⟨rfl, rfl, rfl, by decide +kernel, rfl, by decide +kernel, by decide +kernel⟩
theorem sc_need_place : FnScope ["value"] ["value"] (defScope s_need_place) := ⟨rfl, rfl, rfl, by decide +kernel, rfl, by decide +kernel, by decide +kernel⟩
theorem sc_need_parts : FnScope ["value", "each"] ["value"] (defScope s_need_parts) := ⟨rfl, rfl, rfl, by decide +kernel, rfl, by decide +kernel, by decide +kernel⟩
theorem sc_need_alike : FnScope ["parts", "part"] ["parts"] (defScope s_need_alike) := ⟨rfl, rfl, rfl, by decide +kernel, rfl, by decide +kernel, by decide +kernel⟩
theorem sc_need_counts : FnScope ["value", "each"] ["value"] (defScope s_need_counts) := ⟨rfl, rfl, rfl, by decide +kernel, rfl, by decide +kernel, by decide +kernel⟩
theorem sc_need_rows : FnScope ["value", "row"] ["value"] (defScope s_need_rows) := ⟨rfl, rfl, rfl, by decide +kernel, rfl, by decide +kernel, by decide +kernel⟩
theorem sc_need_lots : FnScope ["value", "lot", "hands", "hand", "one", "other"] ["value"] (defScope s_need_lots) := ⟨rfl, rfl, rfl, by decide +kernel, rfl, by decide +kernel, by decide +kernel⟩
theorem sc_hands_of : FnScope ["place"] ["place"] (defScope s_hands_of) := ⟨rfl, rfl, rfl, by decide +kernel, rfl, by decide +kernel, by decide +kernel⟩
theorem sc_how_many : FnScope ["lots", "lot"] ["lots"] (defScope s_how_many) := ⟨rfl, rfl, rfl, by decide +kernel, rfl, by decide +kernel, by decide +kernel⟩
theorem sc_moving : FnScope ["word", "told", "parts"] ["word", "told", "parts"] (defScope s_moving) := ⟨rfl, rfl, rfl, by decide +kernel, rfl, by decide +kernel, by decide +kernel⟩
theorem sc_parting : FnScope ["word", "told", "part"] ["word", "told", "part"] (defScope s_parting) := ⟨rfl, rfl, rfl, by decide +kernel, rfl, by decide +kernel, by decide +kernel⟩
theorem sc_place_of : FnScope ["word", "told", "parts"] ["word", "told", "parts"] (defScope s_place_of) := ⟨rfl, rfl, rfl, by decide +kernel, rfl, by decide +kernel, by decide +kernel⟩
theorem sc_numbers_of : FnScope ["place", "row", "number", "item", "many", "hand", "at", "lot"] ["place"] (defScope s_numbers_of) := ⟨rfl, rfl, rfl, by decide +kernel, rfl, by decide +kernel, by decide +kernel⟩
theorem sc_items_of : FnScope ["place", "many", "part", "item"] ["place"] (defScope s_items_of) := ⟨rfl, rfl, rfl, by decide +kernel, rfl, by decide +kernel, by decide +kernel⟩
theorem sc_weight_in : FnScope ["scan", "at", "number"] ["scan"] (defScope s_weight_in) := ⟨rfl, rfl, rfl, by decide +kernel, rfl, by decide +kernel, by decide +kernel⟩
theorem sc_lots_in : FnScope ["scan", "many", "lots", "hand", "number"] ["scan", "many"] (defScope s_lots_in) := ⟨rfl, rfl, rfl, by decide +kernel, rfl, by decide +kernel, by decide +kernel⟩
theorem sc_told_in : FnScope ["scan", "word", "many", "_", "rows", "long"] ["scan", "word", "many"] (defScope s_told_in) := ⟨rfl, rfl, rfl, by decide +kernel, rfl, by decide +kernel, by decide +kernel⟩
theorem sc_leaf_in : FnScope ["scan", "word", "many", "its", "_"] ["scan", "word"] (defScope s_leaf_in) := ⟨rfl, rfl, rfl, by decide +kernel, rfl, by decide +kernel, by decide +kernel⟩
theorem sc_place_in : FnScope ["scan", "level", "word", "many", "told", "parts", "found", "_"] ["scan", "level"] (defScope s_place_in) := ⟨rfl, rfl, rfl, by decide +kernel, rfl, by decide +kernel, by decide +kernel⟩
theorem sc_read : FnScope ["text", "scan", "found"] ["text"] (defScope s_read) := ⟨rfl, rfl, rfl, by decide +kernel, rfl, by decide +kernel, by decide +kernel⟩
theorem sc__law_desk : FnScope ["_law_script", "_law_cell"] ["_law_script"] (defScope s__law_desk) := ⟨rfl, rfl, rfl, by decide +kernel, rfl, by decide +kernel, by decide +kernel⟩
theorem sc__law_pick : FnScope ["_law_desk_here", "_law_many", "_law_rest", "_law_at", "_law_cell", "_law_mixed"] ["_law_desk_here", "_law_many"] (defScope s__law_pick) := ⟨rfl, rfl, rfl, by decide +kernel, rfl, by decide +kernel, by decide +kernel⟩
theorem sc__law_one_of : FnScope ["_law_desk_here", "_law_some"] ["_law_desk_here", "_law_some"] (defScope s__law_one_of) := ⟨rfl, rfl, rfl, by decide +kernel, rfl, by decide +kernel, by decide +kernel⟩
theorem sc__law_low : FnScope ["_law_above", "_law_below", "_law_one", "_law_other", "_law_sign"] ["_law_above", "_law_below"] (defScope s__law_low) := ⟨rfl, rfl, rfl, by decide +kernel, rfl, by decide +kernel, by decide +kernel⟩
theorem sc__law_told : FnScope ["_law_one"] ["_law_one"] (defScope s__law_told) := ⟨rfl, rfl, rfl, by decide +kernel, rfl, by decide +kernel, by decide +kernel⟩
theorem sc__law_number : FnScope ["_law_desk_here", "_law_most", "_law_below"] ["_law_desk_here", "_law_most"] (defScope s__law_number) := ⟨rfl, rfl, rfl, by decide +kernel, rfl, by decide +kernel, by decide +kernel⟩
theorem sc__law_weight : FnScope ["_law_desk_here"] ["_law_desk_here"] (defScope s__law_weight) := ⟨rfl, rfl, rfl, by decide +kernel, rfl, by decide +kernel, by decide +kernel⟩
theorem sc__law_lots : FnScope ["_law_desk_here", "_law_many", "_law_most", "_law_lots_here", "_law_hand", "_law_at", "_law_lot"] ["_law_desk_here", "_law_many", "_law_most"] (defScope s__law_lots) := ⟨rfl, rfl, rfl, by decide +kernel, rfl, by decide +kernel, by decide +kernel⟩
theorem sc__law_rows : FnScope ["_law_desk_here", "_law_many", "_law_rows_here", "_law_left", "_law_hand", "_law_more", "_law_turn"] ["_law_desk_here", "_law_many"] (defScope s__law_rows) := ⟨rfl, rfl, rfl, by decide +kernel, rfl, by decide +kernel, by decide +kernel⟩
theorem sc__law_tree : FnScope ["_law_desk_here", "_law_deep", "_law_mine", "_law_its", "_law_word", "_law_j", "_law_i", "_law_parts", "_law_turn", "_law_part_here", "_law_is_keeper", "_law_many", "_law_side", "_law_lots_here", "_law_lot", "_law_told_here", "_law_row"] ["_law_desk_here", "_law_deep", "_law_mine", "_law_its"] (defScope s__law_tree) := ⟨rfl, rfl, rfl, by decide +kernel, rfl, by decide +kernel, by decide +kernel⟩
theorem sc__law_made : FnScope ["_law_tree_here", "_law_word", "_law_told_here", "_law_parts", "_law_mine", "_law_its", "_law_some", "_law_part_here"] ["_law_tree_here"] (defScope s__law_made) := ⟨rfl, rfl, rfl, by decide +kernel, rfl, by decide +kernel, by decide +kernel⟩
theorem sc__law_written : FnScope ["_law_number_here"] ["_law_number_here"] (defScope s__law_written) := ⟨rfl, rfl, rfl, by decide +kernel, rfl, by decide +kernel, by decide +kernel⟩
theorem sc__law_items : FnScope ["_law_tree_here", "_law_word", "_law_told_here", "_law_parts", "_law_mine", "_law_its", "_law_many", "_law_found", "_law_at", "_law_row", "_law_number_here", "_law_lot", "_law_part_here"] ["_law_tree_here"] (defScope s__law_items) := ⟨rfl, rfl, rfl, by decide +kernel, rfl, by decide +kernel, by decide +kernel⟩
theorem sc__law_listed : FnScope ["_law_value", "_law_each"] ["_law_value"] (defScope s__law_listed) := ⟨rfl, rfl, rfl, by decide +kernel, rfl, by decide +kernel, by decide +kernel⟩
theorem sc__law_near : FnScope ["_law_desk_here", "_law_tree_here", "_law_word", "_law_told_here", "_law_parts", "_law_mine", "_law_its", "_law_way", "_law_at"] ["_law_desk_here", "_law_tree_here"] (defScope s__law_near) := ⟨rfl, rfl, rfl, by decide +kernel, rfl, by decide +kernel, by decide +kernel⟩
theorem sc__law_kept_right : FnScope ["_law_tree_here", "_law_word", "_law_told_here", "_law_parts", "_law_mine", "_law_its", "_law_handed", "_law_text", "_law_place"] ["_law_tree_here"] (defScope s__law_kept_right) := ⟨rfl, rfl, rfl, by decide +kernel, rfl, by decide +kernel, by decide +kernel⟩
theorem sc_law : FnScope ["_law_script", "_law_desk_here", "_law_turn", "_law_tree_here", "_law_place", "_law_text", "_law_told_here", "_law_other"] ["_law_script"] (defScope s_law) := ⟨rfl, rfl, rfl, by decide +kernel, rfl, by decide +kernel, by decide +kernel⟩
/-! ### built-ins -/
theorem bt_len : bootBuiltins ("len" : Str) = some (.builtin "len") := by decide +kernel
theorem bt_isinstance : bootBuiltins ("isinstance" : Str) = some (.builtin "isinstance") := by decide +kernel
theorem bt_all : bootBuiltins ("all" : Str) = some (.builtin "all") := by decide +kernel
theorem bt_any : bootBuiltins ("any" : Str) = some (.builtin "any") := by decide +kernel
theorem bt_sum : bootBuiltins ("sum" : Str) = some (.builtin "sum") := by decide +kernel
theorem bt_tuple : bootBuiltins ("tuple" : Str) = some (.type "tuple") := by decide +kernel
theorem bt_list : bootBuiltins ("list" : Str) = some (.type "list") := by decide +kernel
theorem bt_sorted : bootBuiltins ("sorted" : Str) = some (.builtin "sorted") := by decide +kernel
theorem bt_abs : bootBuiltins ("abs" : Str) = some (.builtin "abs") := by decide +kernel
theorem bt_min : bootBuiltins ("min" : Str) = some (.builtin "min") := by decide +kernel
theorem bt_max : bootBuiltins ("max" : Str) = some (.builtin "max") := by decide +kernel
theorem bt_int : bootBuiltins ("int" : Str) = some (.type "int") := by decide +kernel
theorem bt_str : bootBuiltins ("str" : Str) = some (.type "str") := by decide +kernel
theorem bt_repr : bootBuiltins ("repr" : Str) = some (.builtin "repr") := by decide +kernel
theorem bt_range : bootBuiltins ("range" : Str) = some (.type "range") := by decide +kernel
theorem bt_enumerate : bootBuiltins ("enumerate" : Str) = some (.type "enumerate") := by decide +kernel
theorem bt_zip : bootBuiltins ("zip" : Str) = some (.type "zip") := by decide +kernel
theorem bt_super : bootBuiltins ("super" : Str) = some (.type "super") := by decide +kernel
theorem bt_bool : bootBuiltins ("bool" : Str) = some (.type "bool") := by decide +kernel
/-! ### addresses by names -/
abbrev aF (K : PySem.W.Frag) (x : Str) : Addr := He.ga K x
abbrev aM (K : PySem.W.Frag) (x m : Str) : Addr := He.ma K (He.ga K x) m
def fdAt (K : PySem.W.Frag) (a : Addr) : FuncData := match K.lookup a with
  | some ⟨_, _, .func fd, _⟩ => fd
  | _ => PySem.W.fnOf "" "" (defArgs s_common) [] (defScope s_common) .none .none .none .none none .none .none
def cdAt (K : PySem.W.Frag) (a : Addr) : Addr := match (fdAt K a).code with
  | .ref c => c
  | _ => 0
def ccAt (K : PySem.W.Frag) (a : Addr) : Addr := match (fdAt K a).closure with
  | [(_, c)] => c
  | _ => 0
abbrev dF (K : PySem.W.Frag) (x : Str) : FuncData := fdAt K (aF K x)
abbrev dM (K : PySem.W.Frag) (x m : Str) : FuncData := fdAt K (aM K x m)
def Wd.cls : Wd → Str
  | .fin => "End" | .hole => "Hole" | .draw => "Draw" | .kmove => "KeeperMove" | .rmove => "RivalMove"
  | .khides => "KeeperHides" | .rhides => "RivalHides" | .ksees => "KeeperSees" | .rsees => "RivalSees"
  | .kshows => "KeeperShows" | .rshows => "RivalShows"
abbrev cW (K : PySem.W.Frag) (w : Wd) : Addr := aF K w.cls
/-- the classes of places -/
def PC (K : PySem.W.Frag) (C : Addr) : Prop := ∃ w : Wd, C = cW K w
structure PlC (K : PySem.W.Frag) (C : Addr) : Prop where
  cl : Cls K C
  n_word : NoAttr K C "word"
  n_told : NoAttr K C "told"
  n_keeper_hands : NoAttr K C "keeper_hands"
  n_rival_hands : NoAttr K C "rival_hands"
  n_parts : NoAttr K C "parts"
  n_many : NoAttr K C "many"
  n_levels : NoAttr K C "levels"
  n_table : NoAttr K C "table"
  n_weights : NoAttr K C "weights"
  n_counts : NoAttr K C "counts"
  n_lots : NoAttr K C "lots"
  tc : PySem.W.findIn K (.ref C) "__class__" = some (some (.builtin "object.__class__"))
  ob : PySem.W.mroIn K C (.type "object") = some true
  isP : PySem.W.kitOne K (.ref C) (.ref (aF K "Place")) = some true
  sup : SupCls K C (aM K "Place" "__init__")
/-- what the top has written -/
structure Txt (K : PySem.W.Frag) (mg : Str → Option Value) : Prop where
  z_len : mg "len" = none
  z_isinstance : mg "isinstance" = none
  z_all : mg "all" = none
  z_any : mg "any" = none
  z_sum : mg "sum" = none
  z_tuple : mg "tuple" = none
  z_list : mg "list" = none
  z_sorted : mg "sorted" = none
  z_abs : mg "abs" = none
  z_min : mg "min" = none
  z_max : mg "max" = none
  z_int : mg "int" = none
  z_str : mg "str" = none
  z_repr : mg "repr" = none
  z_range : mg "range" = none
  z_enumerate : mg "enumerate" = none
  z_zip : mg "zip" = none
  z_super : mg "super" = none
  z_bool : mg "bool" = none
  c_MOST_FIGURES : ∃ t, mg "MOST_FIGURES" = some (.int 60 t)
  c_MOST_HANDS : ∃ t, mg "MOST_HANDS" = some (.int 8 t)
  c_MOST_PARTS : ∃ t, mg "MOST_PARTS" = some (.int 6 t)
  c_MOST_COUNT : ∃ t, mg "MOST_COUNT" = some (.int 4 t)
  c_MOST_LEVELS : ∃ t, mg "MOST_LEVELS" = some (.int 10 t)
  c_MOST_PLACES : ∃ t, mg "MOST_PLACES" = some (.int 120 t)
  c_BAR : ∃ t, mg "BAR" = some (.str "/" t)
  c_FIGURES : ∃ t, mg "FIGURES" = some (.str "0123456789" t)
  g_SINGLE : mg "SINGLE" = some (.ref (aF K "SINGLE"))
  t_SINGLE : ∀ H : Hp, SqT K H (aF K "SINGLE") [.str "keeper-hides", .str "rival-hides", .str "keeper-sees", .str "rival-sees"]
  g_WORDS : mg "WORDS" = some (.ref (aF K "WORDS"))
  t_WORDS : ∀ H : Hp, SqT K H (aF K "WORDS") [.str "end", .str "hole", .str "draw", .str "keeper-move", .str "rival-move", .str "keeper-hides", .str "rival-hides", .str "keeper-sees", .str "rival-sees", .str "keeper-shows", .str "rival-shows"]
  g_MOVES : mg "MOVES" = some (.ref (aF K "MOVES"))
  t_MOVES : ∀ H : Hp, SqT K H (aF K "MOVES") [.str "keeper-move", .str "rival-move"]
  g_SHOWS : mg "SHOWS" = some (.ref (aF K "SHOWS"))
  t_SHOWS : ∀ H : Hp, SqT K H (aF K "SHOWS") [.str "keeper-shows", .str "rival-shows"]
  g_is_integer : mg "is_integer" = some (.ref (aF K "is_integer"))
  f_is_integer : Fun K "is_integer" "is_integer" s_is_integer (aF K "is_integer") (dF K "is_integer")
  g_is_within : mg "is_within" = some (.ref (aF K "is_within"))
  f_is_within : Fun K "is_within" "is_within" s_is_within (aF K "is_within") (dF K "is_within")
  g_is_list : mg "is_list" = some (.ref (aF K "is_list"))
  f_is_list : Fun K "is_list" "is_list" s_is_list (aF K "is_list") (dF K "is_list")
  g_common : mg "common" = some (.ref (aF K "common"))
  f_common : Fun K "common" "common" s_common (aF K "common") (dF K "common")
  g_is_number : mg "is_number" = some (.ref (aF K "is_number"))
  f_is_number : Fun K "is_number" "is_number" s_is_number (aF K "is_number") (dF K "is_number")
  g_is_weight : mg "is_weight" = some (.ref (aF K "is_weight"))
  f_is_weight : Fun K "is_weight" "is_weight" s_is_weight (aF K "is_weight") (dF K "is_weight")
  g_is_row : mg "is_row" = some (.ref (aF K "is_row"))
  f_is_row : Fun K "is_row" "is_row" s_is_row (aF K "is_row") (dF K "is_row")
  g_is_weights : mg "is_weights" = some (.ref (aF K "is_weights"))
  f_is_weights : Fun K "is_weights" "is_weights" s_is_weights (aF K "is_weights") (dF K "is_weights")
  g_is_lot : mg "is_lot" = some (.ref (aF K "is_lot"))
  f_is_lot : Fun K "is_lot" "is_lot" s_is_lot (aF K "is_lot") (dF K "is_lot")
  g_kept : mg "kept" = some (.ref (aF K "kept"))
  f_kept : Fun K "kept" "kept" s_kept (aF K "kept") (dF K "kept")
  g_kept_row : mg "kept_row" = some (.ref (aF K "kept_row"))
  f_kept_row : Fun K "kept_row" "kept_row" s_kept_row (aF K "kept_row") (dF K "kept_row")
  g_integer_in : mg "integer_in" = some (.ref (aF K "integer_in"))
  f_integer_in : Fun K "integer_in" "integer_in" s_integer_in (aF K "integer_in") (dF K "integer_in")
  g_number_in : mg "number_in" = some (.ref (aF K "number_in"))
  f_number_in : Fun K "number_in" "number_in" s_number_in (aF K "number_in") (dF K "number_in")
  f_Scan___init__ : Fun K "__init__" "Scan.__init__" s_Scan___init__ (aM K "Scan" "__init__") (dM K "Scan" "__init__")
  f_Scan_ahead : Fun K "ahead" "Scan.ahead" s_Scan_ahead (aM K "Scan" "ahead") (dM K "Scan" "ahead")
  m_ahead : Meth K (aF K "Scan") "ahead" (aM K "Scan" "ahead")
  f_Scan_take : Fun K "take" "Scan.take" s_Scan_take (aM K "Scan" "take") (dM K "Scan" "take")
  m_take : Meth K (aF K "Scan") "take" (aM K "Scan" "take")
  f_Scan_take_word : Fun K "take_word" "Scan.take_word" s_Scan_take_word (aM K "Scan" "take_word") (dM K "Scan" "take_word")
  m_take_word : Meth K (aF K "Scan") "take_word" (aM K "Scan" "take_word")
  f_Scan_take_integer : FunD K "take_integer" "Scan.take_integer" (defArgs s_Scan_take_integer) (defBody s_Scan_take_integer) (defScope s_Scan_take_integer) [.non, .non] [] (aM K "Scan" "take_integer") (dM K "Scan" "take_integer")
  m_take_integer : Meth K (aF K "Scan") "take_integer" (aM K "Scan" "take_integer")
  f_Scan_take_number : Fun K "take_number" "Scan.take_number" s_Scan_take_number (aM K "Scan" "take_number") (dM K "Scan" "take_number")
  m_take_number : Meth K (aF K "Scan") "take_number" (aM K "Scan" "take_number")
  f_Scan_finish : Fun K "finish" "Scan.finish" s_Scan_finish (aM K "Scan" "finish") (dM K "Scan" "finish")
  m_finish : Meth K (aF K "Scan") "finish" (aM K "Scan" "finish")
  g_halves : mg "halves" = some (.ref (aF K "halves"))
  f_halves : Fun K "halves" "halves" s_halves (aF K "halves") (dF K "halves")
  g_below : mg "below" = some (.ref (aF K "below"))
  f_below : Fun K "below" "below" s_below (aF K "below") (dF K "below")
  g_text_in : mg "text_in" = some (.ref (aF K "text_in"))
  f_text_in : Fun K "text_in" "text_in" s_text_in (aF K "text_in") (dF K "text_in")
  f_Place___init__ : Fun K "__init__" "Place.__init__" s_Place___init__ (aM K "Place" "__init__") (dM K "Place" "__init__")
  f_Place___eq__ : Fun K "__eq__" "Place.__eq__" s_Place___eq__ (aM K "Place" "__eq__") (dM K "Place" "__eq__")
  f_Place___str__ : Fun K "__str__" "Place.__str__" s_Place___str__ (aM K "Place" "__str__") (dM K "Place" "__str__")
  f_End___init__ : FunS P0 K "__init__" "End.__init__" s_End___init__ (aF K "End") (aM K "End" "__init__") (dM K "End" "__init__") (cdAt K (aM K "End" "__init__")) (ccAt K (aM K "End" "__init__"))
  f_Hole___init__ : FunS P0 K "__init__" "Hole.__init__" s_Hole___init__ (aF K "Hole") (aM K "Hole" "__init__") (dM K "Hole" "__init__") (cdAt K (aM K "Hole" "__init__")) (ccAt K (aM K "Hole" "__init__"))
  f_KeeperMove___init__ : FunS P0 K "__init__" "KeeperMove.__init__" s_KeeperMove___init__ (aF K "KeeperMove") (aM K "KeeperMove" "__init__") (dM K "KeeperMove" "__init__") (cdAt K (aM K "KeeperMove" "__init__")) (ccAt K (aM K "KeeperMove" "__init__"))
  f_RivalMove___init__ : FunS P0 K "__init__" "RivalMove.__init__" s_RivalMove___init__ (aF K "RivalMove") (aM K "RivalMove" "__init__") (dM K "RivalMove" "__init__") (cdAt K (aM K "RivalMove" "__init__")) (ccAt K (aM K "RivalMove" "__init__"))
  f_Draw___init__ : FunS P0 K "__init__" "Draw.__init__" s_Draw___init__ (aF K "Draw") (aM K "Draw" "__init__") (dM K "Draw" "__init__") (cdAt K (aM K "Draw" "__init__")) (ccAt K (aM K "Draw" "__init__"))
  f_KeeperHides___init__ : FunS P0 K "__init__" "KeeperHides.__init__" s_KeeperHides___init__ (aF K "KeeperHides") (aM K "KeeperHides" "__init__") (dM K "KeeperHides" "__init__") (cdAt K (aM K "KeeperHides" "__init__")) (ccAt K (aM K "KeeperHides" "__init__"))
  f_RivalHides___init__ : FunS P0 K "__init__" "RivalHides.__init__" s_RivalHides___init__ (aF K "RivalHides") (aM K "RivalHides" "__init__") (dM K "RivalHides" "__init__") (cdAt K (aM K "RivalHides" "__init__")) (ccAt K (aM K "RivalHides" "__init__"))
  f_KeeperSees___init__ : FunS P0 K "__init__" "KeeperSees.__init__" s_KeeperSees___init__ (aF K "KeeperSees") (aM K "KeeperSees" "__init__") (dM K "KeeperSees" "__init__") (cdAt K (aM K "KeeperSees" "__init__")) (ccAt K (aM K "KeeperSees" "__init__"))
  f_RivalSees___init__ : FunS P0 K "__init__" "RivalSees.__init__" s_RivalSees___init__ (aF K "RivalSees") (aM K "RivalSees" "__init__") (dM K "RivalSees" "__init__") (cdAt K (aM K "RivalSees" "__init__")) (ccAt K (aM K "RivalSees" "__init__"))
  f_KeeperShows___init__ : FunS P0 K "__init__" "KeeperShows.__init__" s_KeeperShows___init__ (aF K "KeeperShows") (aM K "KeeperShows" "__init__") (dM K "KeeperShows" "__init__") (cdAt K (aM K "KeeperShows" "__init__")) (ccAt K (aM K "KeeperShows" "__init__"))
  f_RivalShows___init__ : FunS P0 K "__init__" "RivalShows.__init__" s_RivalShows___init__ (aF K "RivalShows") (aM K "RivalShows" "__init__") (dM K "RivalShows" "__init__") (cdAt K (aM K "RivalShows" "__init__")) (ccAt K (aM K "RivalShows" "__init__"))
  g_need_room : mg "need_room" = some (.ref (aF K "need_room"))
  f_need_room : Fun K "need_room" "need_room" s_need_room (aF K "need_room") (dF K "need_room")
  g_need_table : mg "need_table" = some (.ref (aF K "need_table"))
  f_need_table : Fun K "need_table" "need_table" s_need_table (aF K "need_table") (dF K "need_table")
  g_need_place : mg "need_place" = some (.ref (aF K "need_place"))
  f_need_place : Fun K "need_place" "need_place" s_need_place (aF K "need_place") (dF K "need_place")
  g_need_parts : mg "need_parts" = some (.ref (aF K "need_parts"))
  f_need_parts : Fun K "need_parts" "need_parts" s_need_parts (aF K "need_parts") (dF K "need_parts")
  g_need_alike : mg "need_alike" = some (.ref (aF K "need_alike"))
  f_need_alike : Fun K "need_alike" "need_alike" s_need_alike (aF K "need_alike") (dF K "need_alike")
  g_need_counts : mg "need_counts" = some (.ref (aF K "need_counts"))
  f_need_counts : Fun K "need_counts" "need_counts" s_need_counts (aF K "need_counts") (dF K "need_counts")
  g_need_rows : mg "need_rows" = some (.ref (aF K "need_rows"))
  f_need_rows : Fun K "need_rows" "need_rows" s_need_rows (aF K "need_rows") (dF K "need_rows")
  g_need_lots : mg "need_lots" = some (.ref (aF K "need_lots"))
  f_need_lots : Fun K "need_lots" "need_lots" s_need_lots (aF K "need_lots") (dF K "need_lots")
  g_hands_of : mg "hands_of" = some (.ref (aF K "hands_of"))
  f_hands_of : Fun K "hands_of" "hands_of" s_hands_of (aF K "hands_of") (dF K "hands_of")
  g_how_many : mg "how_many" = some (.ref (aF K "how_many"))
  f_how_many : Fun K "how_many" "how_many" s_how_many (aF K "how_many") (dF K "how_many")
  g_moving : mg "moving" = some (.ref (aF K "moving"))
  f_moving : Fun K "moving" "moving" s_moving (aF K "moving") (dF K "moving")
  g_parting : mg "parting" = some (.ref (aF K "parting"))
  f_parting : Fun K "parting" "parting" s_parting (aF K "parting") (dF K "parting")
  g_place_of : mg "place_of" = some (.ref (aF K "place_of"))
  f_place_of : Fun K "place_of" "place_of" s_place_of (aF K "place_of") (dF K "place_of")
  g_numbers_of : mg "numbers_of" = some (.ref (aF K "numbers_of"))
  f_numbers_of : Fun K "numbers_of" "numbers_of" s_numbers_of (aF K "numbers_of") (dF K "numbers_of")
  g_items_of : mg "items_of" = some (.ref (aF K "items_of"))
  f_items_of : Fun K "items_of" "items_of" s_items_of (aF K "items_of") (dF K "items_of")
  g_weight_in : mg "weight_in" = some (.ref (aF K "weight_in"))
  f_weight_in : Fun K "weight_in" "weight_in" s_weight_in (aF K "weight_in") (dF K "weight_in")
  g_lots_in : mg "lots_in" = some (.ref (aF K "lots_in"))
  f_lots_in : Fun K "lots_in" "lots_in" s_lots_in (aF K "lots_in") (dF K "lots_in")
  g_told_in : mg "told_in" = some (.ref (aF K "told_in"))
  f_told_in : Fun K "told_in" "told_in" s_told_in (aF K "told_in") (dF K "told_in")
  g_leaf_in : mg "leaf_in" = some (.ref (aF K "leaf_in"))
  f_leaf_in : Fun K "leaf_in" "leaf_in" s_leaf_in (aF K "leaf_in") (dF K "leaf_in")
  g_place_in : mg "place_in" = some (.ref (aF K "place_in"))
  f_place_in : Fun K "place_in" "place_in" s_place_in (aF K "place_in") (dF K "place_in")
  g_read : mg "read" = some (.ref (aF K "read"))
  f_read : Fun K "read" "read" s_read (aF K "read") (dF K "read")
  g__law_desk : mg "_law_desk" = some (.ref (aF K "_law_desk"))
  f__law_desk : Fun K "_law_desk" "_law_desk" s__law_desk (aF K "_law_desk") (dF K "_law_desk")
  g__law_pick : mg "_law_pick" = some (.ref (aF K "_law_pick"))
  f__law_pick : Fun K "_law_pick" "_law_pick" s__law_pick (aF K "_law_pick") (dF K "_law_pick")
  g__law_one_of : mg "_law_one_of" = some (.ref (aF K "_law_one_of"))
  f__law_one_of : Fun K "_law_one_of" "_law_one_of" s__law_one_of (aF K "_law_one_of") (dF K "_law_one_of")
  g__law_low : mg "_law_low" = some (.ref (aF K "_law_low"))
  f__law_low : Fun K "_law_low" "_law_low" s__law_low (aF K "_law_low") (dF K "_law_low")
  g__law_told : mg "_law_told" = some (.ref (aF K "_law_told"))
  f__law_told : Fun K "_law_told" "_law_told" s__law_told (aF K "_law_told") (dF K "_law_told")
  g__law_number : mg "_law_number" = some (.ref (aF K "_law_number"))
  f__law_number : Fun K "_law_number" "_law_number" s__law_number (aF K "_law_number") (dF K "_law_number")
  g__law_weight : mg "_law_weight" = some (.ref (aF K "_law_weight"))
  f__law_weight : Fun K "_law_weight" "_law_weight" s__law_weight (aF K "_law_weight") (dF K "_law_weight")
  g__law_lots : mg "_law_lots" = some (.ref (aF K "_law_lots"))
  f__law_lots : Fun K "_law_lots" "_law_lots" s__law_lots (aF K "_law_lots") (dF K "_law_lots")
  g__law_rows : mg "_law_rows" = some (.ref (aF K "_law_rows"))
  f__law_rows : Fun K "_law_rows" "_law_rows" s__law_rows (aF K "_law_rows") (dF K "_law_rows")
  g__law_tree : mg "_law_tree" = some (.ref (aF K "_law_tree"))
  f__law_tree : Fun K "_law_tree" "_law_tree" s__law_tree (aF K "_law_tree") (dF K "_law_tree")
  g__law_made : mg "_law_made" = some (.ref (aF K "_law_made"))
  f__law_made : Fun K "_law_made" "_law_made" s__law_made (aF K "_law_made") (dF K "_law_made")
  g__law_written : mg "_law_written" = some (.ref (aF K "_law_written"))
  f__law_written : Fun K "_law_written" "_law_written" s__law_written (aF K "_law_written") (dF K "_law_written")
  g__law_items : mg "_law_items" = some (.ref (aF K "_law_items"))
  f__law_items : Fun K "_law_items" "_law_items" s__law_items (aF K "_law_items") (dF K "_law_items")
  g__law_listed : mg "_law_listed" = some (.ref (aF K "_law_listed"))
  f__law_listed : Fun K "_law_listed" "_law_listed" s__law_listed (aF K "_law_listed") (dF K "_law_listed")
  g__law_near : mg "_law_near" = some (.ref (aF K "_law_near"))
  f__law_near : Fun K "_law_near" "_law_near" s__law_near (aF K "_law_near") (dF K "_law_near")
  g__law_kept_right : mg "_law_kept_right" = some (.ref (aF K "_law_kept_right"))
  f__law_kept_right : Fun K "_law_kept_right" "_law_kept_right" s__law_kept_right (aF K "_law_kept_right") (dF K "_law_kept_right")
  g_law : mg "law" = some (.ref (aF K "law"))
  f_law : Fun K "law" "law" s_law (aF K "law") (dF K "law")
  g_Scan : mg "Scan" = some (.ref (aF K "Scan"))
  mk_Scan : Mk K (aF K "Scan") (aM K "Scan" "__init__")
  g_End : mg "End" = some (.ref (aF K "End"))
  mk_End : Mk K (aF K "End") (aM K "End" "__init__")
  g_Hole : mg "Hole" = some (.ref (aF K "Hole"))
  mk_Hole : Mk K (aF K "Hole") (aM K "Hole" "__init__")
  g_Draw : mg "Draw" = some (.ref (aF K "Draw"))
  mk_Draw : Mk K (aF K "Draw") (aM K "Draw" "__init__")
  g_KeeperMove : mg "KeeperMove" = some (.ref (aF K "KeeperMove"))
  mk_KeeperMove : Mk K (aF K "KeeperMove") (aM K "KeeperMove" "__init__")
  g_RivalMove : mg "RivalMove" = some (.ref (aF K "RivalMove"))
  mk_RivalMove : Mk K (aF K "RivalMove") (aM K "RivalMove" "__init__")
  g_KeeperHides : mg "KeeperHides" = some (.ref (aF K "KeeperHides"))
  mk_KeeperHides : Mk K (aF K "KeeperHides") (aM K "KeeperHides" "__init__")
  g_RivalHides : mg "RivalHides" = some (.ref (aF K "RivalHides"))
  mk_RivalHides : Mk K (aF K "RivalHides") (aM K "RivalHides" "__init__")
  g_KeeperSees : mg "KeeperSees" = some (.ref (aF K "KeeperSees"))
  mk_KeeperSees : Mk K (aF K "KeeperSees") (aM K "KeeperSees" "__init__")
  g_RivalSees : mg "RivalSees" = some (.ref (aF K "RivalSees"))
  mk_RivalSees : Mk K (aF K "RivalSees") (aM K "RivalSees" "__init__")
  g_KeeperShows : mg "KeeperShows" = some (.ref (aF K "KeeperShows"))
  mk_KeeperShows : Mk K (aF K "KeeperShows") (aM K "KeeperShows" "__init__")
  g_RivalShows : mg "RivalShows" = some (.ref (aF K "RivalShows"))
  mk_RivalShows : Mk K (aF K "RivalShows") (aM K "RivalShows" "__init__")
  g_Place : mg "Place" = some (.ref (aF K "Place"))
  cl_Scan : Cls K (aF K "Scan")
  n_words : NoAttr K (aF K "Scan") "words"
  n_at : NoAttr K (aF K "Scan") "at"
  pl : ∀ w : Wd, PlC K (cW K w)
  hn : PySem.W.specialIn K (.builtin "object.__class__") "__get__" = some (some (.builtin "getset_descriptor.__get__"))
  htk : PySem.W.takesIn K (.builtin "object.__class__") = some true
  ksP : PySem.W.kitOne K (.type "str") (.ref (aF K "Place")) = some false
  ktP : PySem.W.kitOne K (.type "tuple") (.ref (aF K "Place")) = some false
  eqc : EqCls K (PC K) (aM K "Place" "__eq__")
  stc : StrCls K (PC K) (aM K "Place" "__str__")
/-! ### how the arguments bind -/
section
variable {K : PySem.W.Frag} {mg : Str → Option Value}
theorem Txt.b_is_integer (T : Txt K mg) : Binds K (dF K "is_integer") ["value"] [] := T.f_is_integer.binds fun _ _ _ _ _ _ us hl => match us, hl with | [_], _ => rfl
theorem Txt.b_is_within (T : Txt K mg) : Binds K (dF K "is_within") ["value", "least", "most"] [] := T.f_is_within.binds fun _ _ _ _ _ _ us hl => match us, hl with | [_, _, _], _ => rfl
theorem Txt.b_is_list (T : Txt K mg) : Binds K (dF K "is_list") ["value"] [] := T.f_is_list.binds fun _ _ _ _ _ _ us hl => match us, hl with | [_], _ => rfl
theorem Txt.b_common (T : Txt K mg) : Binds K (dF K "common") ["one", "other"] [] := T.f_common.binds fun _ _ _ _ _ _ us hl => match us, hl with | [_, _], _ => rfl
theorem Txt.b_is_number (T : Txt K mg) : Binds K (dF K "is_number") ["value"] [] := T.f_is_number.binds fun _ _ _ _ _ _ us hl => match us, hl with | [_], _ => rfl
theorem Txt.b_is_weight (T : Txt K mg) : Binds K (dF K "is_weight") ["value"] [] := T.f_is_weight.binds fun _ _ _ _ _ _ us hl => match us, hl with | [_], _ => rfl
theorem Txt.b_is_row (T : Txt K mg) : Binds K (dF K "is_row") ["value", "many"] [] := T.f_is_row.binds fun _ _ _ _ _ _ us hl => match us, hl with | [_, _], _ => rfl
theorem Txt.b_is_weights (T : Txt K mg) : Binds K (dF K "is_weights") ["value", "many"] [] := T.f_is_weights.binds fun _ _ _ _ _ _ us hl => match us, hl with | [_, _], _ => rfl
theorem Txt.b_is_lot (T : Txt K mg) : Binds K (dF K "is_lot") ["value"] [] := T.f_is_lot.binds fun _ _ _ _ _ _ us hl => match us, hl with | [_], _ => rfl
theorem Txt.b_kept (T : Txt K mg) : Binds K (dF K "kept") ["number"] [] := T.f_kept.binds fun _ _ _ _ _ _ us hl => match us, hl with | [_], _ => rfl
theorem Txt.b_kept_row (T : Txt K mg) : Binds K (dF K "kept_row") ["row"] [] := T.f_kept_row.binds fun _ _ _ _ _ _ us hl => match us, hl with | [_], _ => rfl
theorem Txt.b_integer_in (T : Txt K mg) : Binds K (dF K "integer_in") ["item"] [] := T.f_integer_in.binds fun _ _ _ _ _ _ us hl => match us, hl with | [_], _ => rfl
theorem Txt.b_number_in (T : Txt K mg) : Binds K (dF K "number_in") ["item"] [] := T.f_number_in.binds fun _ _ _ _ _ _ us hl => match us, hl with | [_], _ => rfl
theorem Txt.b_Scan (T : Txt K mg) : Binds K (dM K "Scan" "__init__") ["self", "text"] [] := T.f_Scan___init__.binds fun _ _ _ _ _ _ us hl => match us, hl with | [_, _], _ => rfl
theorem Txt.b_ahead (T : Txt K mg) : Binds K (dM K "Scan" "ahead") ["self"] [] := T.f_Scan_ahead.binds fun _ _ _ _ _ _ us hl => match us, hl with | [_], _ => rfl
theorem Txt.b_take (T : Txt K mg) : Binds K (dM K "Scan" "take") ["self"] [] := T.f_Scan_take.binds fun _ _ _ _ _ _ us hl => match us, hl with | [_], _ => rfl
theorem Txt.b_take_word (T : Txt K mg) : Binds K (dM K "Scan" "take_word") ["self", "words"] [] := T.f_Scan_take_word.binds fun _ _ _ _ _ _ us hl => match us, hl with | [_, _], _ => rfl
theorem Txt.b_take_number (T : Txt K mg) : Binds K (dM K "Scan" "take_number") ["self"] [] := T.f_Scan_take_number.binds fun _ _ _ _ _ _ us hl => match us, hl with | [_], _ => rfl
theorem Txt.b_finish (T : Txt K mg) : Binds K (dM K "Scan" "finish") ["self"] [] := T.f_Scan_finish.binds fun _ _ _ _ _ _ us hl => match us, hl with | [_], _ => rfl
theorem Txt.b_halves (T : Txt K mg) : Binds K (dF K "halves") ["number"] [] := T.f_halves.binds fun _ _ _ _ _ _ us hl => match us, hl with | [_], _ => rfl
theorem Txt.b_below (T : Txt K mg) : Binds K (dF K "below") ["one", "other"] [] := T.f_below.binds fun _ _ _ _ _ _ us hl => match us, hl with | [_, _], _ => rfl
theorem Txt.b_text_in (T : Txt K mg) : Binds K (dF K "text_in") ["number"] [] := T.f_text_in.binds fun _ _ _ _ _ _ us hl => match us, hl with | [_], _ => rfl
theorem Txt.b_Place (T : Txt K mg) : Binds K (dM K "Place" "__init__") ["self", "word", "told", "hands", "parts"] [] := T.f_Place___init__.binds fun _ _ _ _ _ _ us hl => match us, hl with | [_, _, _, _, _], _ => rfl
theorem Txt.b___eq__ (T : Txt K mg) : Binds K (dM K "Place" "__eq__") ["self", "other"] [] := T.f_Place___eq__.binds fun _ _ _ _ _ _ us hl => match us, hl with | [_, _], _ => rfl
theorem Txt.b___str__ (T : Txt K mg) : Binds K (dM K "Place" "__str__") ["self"] [] := T.f_Place___str__.binds fun _ _ _ _ _ _ us hl => match us, hl with | [_], _ => rfl
theorem Txt.b_End (T : Txt K mg) : Binds K (dM K "End" "__init__") ["self", "table"] [] := T.f_End___init__.binds fun _ _ _ _ _ us hl => match us, hl with | [_, _], _ => rfl
theorem Txt.b_Hole (T : Txt K mg) : Binds K (dM K "Hole" "__init__") ["self", "keeper_hands", "rival_hands"] [] := T.f_Hole___init__.binds fun _ _ _ _ _ us hl => match us, hl with | [_, _, _], _ => rfl
theorem Txt.b_KeeperMove (T : Txt K mg) : Binds K (dM K "KeeperMove" "__init__") ["self", "parts"] [] := T.f_KeeperMove___init__.binds fun _ _ _ _ _ us hl => match us, hl with | [_, _], _ => rfl
theorem Txt.b_RivalMove (T : Txt K mg) : Binds K (dM K "RivalMove" "__init__") ["self", "parts"] [] := T.f_RivalMove___init__.binds fun _ _ _ _ _ us hl => match us, hl with | [_, _], _ => rfl
theorem Txt.b_Draw (T : Txt K mg) : Binds K (dM K "Draw" "__init__") ["self", "weights", "parts"] [] := T.f_Draw___init__.binds fun _ _ _ _ _ us hl => match us, hl with | [_, _, _], _ => rfl
theorem Txt.b_KeeperHides (T : Txt K mg) : Binds K (dM K "KeeperHides" "__init__") ["self", "counts", "part"] [] := T.f_KeeperHides___init__.binds fun _ _ _ _ _ us hl => match us, hl with | [_, _, _], _ => rfl
theorem Txt.b_RivalHides (T : Txt K mg) : Binds K (dM K "RivalHides" "__init__") ["self", "counts", "part"] [] := T.f_RivalHides___init__.binds fun _ _ _ _ _ us hl => match us, hl with | [_, _, _], _ => rfl
theorem Txt.b_KeeperSees (T : Txt K mg) : Binds K (dM K "KeeperSees" "__init__") ["self", "weights", "part"] [] := T.f_KeeperSees___init__.binds fun _ _ _ _ _ us hl => match us, hl with | [_, _, _], _ => rfl
theorem Txt.b_RivalSees (T : Txt K mg) : Binds K (dM K "RivalSees" "__init__") ["self", "weights", "part"] [] := T.f_RivalSees___init__.binds fun _ _ _ _ _ us hl => match us, hl with | [_, _, _], _ => rfl
theorem Txt.b_KeeperShows (T : Txt K mg) : Binds K (dM K "KeeperShows" "__init__") ["self", "lots", "parts"] [] := T.f_KeeperShows___init__.binds fun _ _ _ _ _ us hl => match us, hl with | [_, _, _], _ => rfl
theorem Txt.b_RivalShows (T : Txt K mg) : Binds K (dM K "RivalShows" "__init__") ["self", "lots", "parts"] [] := T.f_RivalShows___init__.binds fun _ _ _ _ _ us hl => match us, hl with | [_, _, _], _ => rfl
theorem Txt.b_need_room (T : Txt K mg) : Binds K (dF K "need_room") ["many", "levels"] [] := T.f_need_room.binds fun _ _ _ _ _ _ us hl => match us, hl with | [_, _], _ => rfl
theorem Txt.b_need_table (T : Txt K mg) : Binds K (dF K "need_table") ["value"] [] := T.f_need_table.binds fun _ _ _ _ _ _ us hl => match us, hl with | [_], _ => rfl
theorem Txt.b_need_place (T : Txt K mg) : Binds K (dF K "need_place") ["value"] [] := T.f_need_place.binds fun _ _ _ _ _ _ us hl => match us, hl with | [_], _ => rfl
theorem Txt.b_need_parts (T : Txt K mg) : Binds K (dF K "need_parts") ["value"] [] := T.f_need_parts.binds fun _ _ _ _ _ _ us hl => match us, hl with | [_], _ => rfl
theorem Txt.b_need_alike (T : Txt K mg) : Binds K (dF K "need_alike") ["parts"] [] := T.f_need_alike.binds fun _ _ _ _ _ _ us hl => match us, hl with | [_], _ => rfl
theorem Txt.b_need_counts (T : Txt K mg) : Binds K (dF K "need_counts") ["value"] [] := T.f_need_counts.binds fun _ _ _ _ _ _ us hl => match us, hl with | [_], _ => rfl
theorem Txt.b_need_rows (T : Txt K mg) : Binds K (dF K "need_rows") ["value"] [] := T.f_need_rows.binds fun _ _ _ _ _ _ us hl => match us, hl with | [_], _ => rfl
theorem Txt.b_need_lots (T : Txt K mg) : Binds K (dF K "need_lots") ["value"] [] := T.f_need_lots.binds fun _ _ _ _ _ _ us hl => match us, hl with | [_], _ => rfl
theorem Txt.b_hands_of (T : Txt K mg) : Binds K (dF K "hands_of") ["place"] [] := T.f_hands_of.binds fun _ _ _ _ _ _ us hl => match us, hl with | [_], _ => rfl
theorem Txt.b_how_many (T : Txt K mg) : Binds K (dF K "how_many") ["lots"] [] := T.f_how_many.binds fun _ _ _ _ _ _ us hl => match us, hl with | [_], _ => rfl
theorem Txt.b_moving (T : Txt K mg) : Binds K (dF K "moving") ["word", "told", "parts"] [] := T.f_moving.binds fun _ _ _ _ _ _ us hl => match us, hl with | [_, _, _], _ => rfl
theorem Txt.b_parting (T : Txt K mg) : Binds K (dF K "parting") ["word", "told", "part"] [] := T.f_parting.binds fun _ _ _ _ _ _ us hl => match us, hl with | [_, _, _], _ => rfl
theorem Txt.b_place_of (T : Txt K mg) : Binds K (dF K "place_of") ["word", "told", "parts"] [] := T.f_place_of.binds fun _ _ _ _ _ _ us hl => match us, hl with | [_, _, _], _ => rfl
theorem Txt.b_numbers_of (T : Txt K mg) : Binds K (dF K "numbers_of") ["place"] [] := T.f_numbers_of.binds fun _ _ _ _ _ _ us hl => match us, hl with | [_], _ => rfl
theorem Txt.b_items_of (T : Txt K mg) : Binds K (dF K "items_of") ["place"] [] := T.f_items_of.binds fun _ _ _ _ _ _ us hl => match us, hl with | [_], _ => rfl
theorem Txt.b_weight_in (T : Txt K mg) : Binds K (dF K "weight_in") ["scan"] [] := T.f_weight_in.binds fun _ _ _ _ _ _ us hl => match us, hl with | [_], _ => rfl
theorem Txt.b_lots_in (T : Txt K mg) : Binds K (dF K "lots_in") ["scan", "many"] [] := T.f_lots_in.binds fun _ _ _ _ _ _ us hl => match us, hl with | [_, _], _ => rfl
theorem Txt.b_told_in (T : Txt K mg) : Binds K (dF K "told_in") ["scan", "word", "many"] [] := T.f_told_in.binds fun _ _ _ _ _ _ us hl => match us, hl with | [_, _, _], _ => rfl
theorem Txt.b_leaf_in (T : Txt K mg) : Binds K (dF K "leaf_in") ["scan", "word"] [] := T.f_leaf_in.binds fun _ _ _ _ _ _ us hl => match us, hl with | [_, _], _ => rfl
theorem Txt.b_place_in (T : Txt K mg) : Binds K (dF K "place_in") ["scan", "level"] [] := T.f_place_in.binds fun _ _ _ _ _ _ us hl => match us, hl with | [_, _], _ => rfl
theorem Txt.b_read (T : Txt K mg) : Binds K (dF K "read") ["text"] [] := T.f_read.binds fun _ _ _ _ _ _ us hl => match us, hl with | [_], _ => rfl
theorem Txt.b__law_desk (T : Txt K mg) : Binds K (dF K "_law_desk") ["_law_script"] [] := T.f__law_desk.binds fun _ _ _ _ _ _ us hl => match us, hl with | [_], _ => rfl
theorem Txt.b__law_pick (T : Txt K mg) : Binds K (dF K "_law_pick") ["_law_desk_here", "_law_many"] [] := T.f__law_pick.binds fun _ _ _ _ _ _ us hl => match us, hl with | [_, _], _ => rfl
theorem Txt.b__law_one_of (T : Txt K mg) : Binds K (dF K "_law_one_of") ["_law_desk_here", "_law_some"] [] := T.f__law_one_of.binds fun _ _ _ _ _ _ us hl => match us, hl with | [_, _], _ => rfl
theorem Txt.b__law_low (T : Txt K mg) : Binds K (dF K "_law_low") ["_law_above", "_law_below"] [] := T.f__law_low.binds fun _ _ _ _ _ _ us hl => match us, hl with | [_, _], _ => rfl
theorem Txt.b__law_told (T : Txt K mg) : Binds K (dF K "_law_told") ["_law_one"] [] := T.f__law_told.binds fun _ _ _ _ _ _ us hl => match us, hl with | [_], _ => rfl
theorem Txt.b__law_number (T : Txt K mg) : Binds K (dF K "_law_number") ["_law_desk_here", "_law_most"] [] := T.f__law_number.binds fun _ _ _ _ _ _ us hl => match us, hl with | [_, _], _ => rfl
theorem Txt.b__law_weight (T : Txt K mg) : Binds K (dF K "_law_weight") ["_law_desk_here"] [] := T.f__law_weight.binds fun _ _ _ _ _ _ us hl => match us, hl with | [_], _ => rfl
theorem Txt.b__law_lots (T : Txt K mg) : Binds K (dF K "_law_lots") ["_law_desk_here", "_law_many", "_law_most"] [] := T.f__law_lots.binds fun _ _ _ _ _ _ us hl => match us, hl with | [_, _, _], _ => rfl
theorem Txt.b__law_rows (T : Txt K mg) : Binds K (dF K "_law_rows") ["_law_desk_here", "_law_many"] [] := T.f__law_rows.binds fun _ _ _ _ _ _ us hl => match us, hl with | [_, _], _ => rfl
theorem Txt.b__law_tree (T : Txt K mg) : Binds K (dF K "_law_tree") ["_law_desk_here", "_law_deep", "_law_mine", "_law_its"] [] := T.f__law_tree.binds fun _ _ _ _ _ _ us hl => match us, hl with | [_, _, _, _], _ => rfl
theorem Txt.b__law_made (T : Txt K mg) : Binds K (dF K "_law_made") ["_law_tree_here"] [] := T.f__law_made.binds fun _ _ _ _ _ _ us hl => match us, hl with | [_], _ => rfl
theorem Txt.b__law_written (T : Txt K mg) : Binds K (dF K "_law_written") ["_law_number_here"] [] := T.f__law_written.binds fun _ _ _ _ _ _ us hl => match us, hl with | [_], _ => rfl
theorem Txt.b__law_items (T : Txt K mg) : Binds K (dF K "_law_items") ["_law_tree_here"] [] := T.f__law_items.binds fun _ _ _ _ _ _ us hl => match us, hl with | [_], _ => rfl
theorem Txt.b__law_listed (T : Txt K mg) : Binds K (dF K "_law_listed") ["_law_value"] [] := T.f__law_listed.binds fun _ _ _ _ _ _ us hl => match us, hl with | [_], _ => rfl
theorem Txt.b__law_near (T : Txt K mg) : Binds K (dF K "_law_near") ["_law_desk_here", "_law_tree_here"] [] := T.f__law_near.binds fun _ _ _ _ _ _ us hl => match us, hl with | [_, _], _ => rfl
theorem Txt.b__law_kept_right (T : Txt K mg) : Binds K (dF K "_law_kept_right") ["_law_tree_here"] [] := T.f__law_kept_right.binds fun _ _ _ _ _ _ us hl => match us, hl with | [_], _ => rfl
theorem Txt.b_law (T : Txt K mg) : Binds K (dF K "law") ["_law_script"] [] := T.f_law.binds fun _ _ _ _ _ _ us hl => match us, hl with | [_], _ => rfl
theorem Txt.b_take_integer (T : Txt K mg) : Binds K (dM K "Scan" "take_integer") ["self", "least", "most"] [] := by
  obtain ⟨ds, hd, hb⟩ := T.f_Scan_take_integer.binds1 (ps := ["self", "least", "most"]) 3 2 (by simp) rfl (fun Ta kV doc pm an cdv ct us its hu hi => by
    match us, hu, its, hi with
    | [_, _, _], _, [_, _], _ => exact ⟨_, rfl, rfl⟩)
  have hd' : Vals [] ds := hd
  cases hd'
  exact hb
end
end PL
end
section
set_option maxHeartbeats 4000000
/-! HA: the head's own Hook; its facts give Txt. -/
namespace PL
open PySem PySem.Spec PyProof.Rows L2
/-! ### defs with super() -/
abbrev FnZ : Type := Option (Str × Str × Arguments × FuncBody × Scope × Addr × Addr)
def fnZ (K : PySem.W.Frag) (p : Str × Option Str) : FnZ := match K.lookup (He.fAd K p) with
  | some ⟨_, _, .func fd, _⟩ => some (fd.name, fd.qualname, fd.params, fd.body, fd.scope, fd.globals, fd.builtins)
  | _ => none
structure DefZ where
  at_ : Str × Option Str
  name : Str
  qual : Str
  st : Stmt
  cls : Str
def DefZ.val (d : DefZ) : FnZ := some (d.name, d.qual, defArgs d.st, .stmts (defBody d.st), defScope d.st, mainGlobals, builtinsNs)
def fileB (u : Option Value) : Bool := match u with
  | some (.str f _) => (P0.main.file : Str) == f
  | _ => false
def DefZ.ok (K : PySem.W.Frag) (d : DefZ) : Bool := PySem.W.keepIn K (.ref (He.fAd K d.at_)) && (match K.lookup (He.fAd K d.at_) with
  | some ⟨_, _, .func fd, _⟩ => (match fd.closure, fd.defaults, fd.code with
    | [(x, cc)], .none, .ref cda => decide (x = ("__class__" : Str)) && (PySem.W.codeIn K (.ref cda) d.qual && ((match K.lookup cda with
      | some ⟨_, _, .fields vs, _⟩ => fileB vs[2]?
      | _ => false) && (match K.lookup cc with
      | some ⟨_, _, .cell (some (.ref C)), _⟩ => decide (C = aF K d.cls)
      | _ => false)))
    | _, _, _ => false)
  | _ => false)
theorem DefZ.funS {K : PySem.W.Frag} {d : DefZ} (e : fnZ K d.at_ = d.val) (c : d.ok K = true) (hA : (match ((defArgs d.st).posonlyargs ++ (defArgs d.st).args).head? with | some ar => decide (ar.arg = "self") | none => false) = true) (ht : (P0.main.scope.names.lookup ("super" : Str)).isSome = false) :
    FunS P0 K d.name d.qual d.st (aF K d.cls) (He.fAd K d.at_) (fdAt K (He.fAd K d.at_)) (cdAt K (He.fAd K d.at_)) (ccAt K (He.fAd K d.at_)) := by
  obtain ⟨kp, c2⟩ := He.ba c
  unfold fnZ at e
  cases q : K.lookup (He.fAd K d.at_) with
  | none =>
    rw [q] at c2
    cases c2
  | some o =>
    obtain ⟨oc, od, dt, osl⟩ := o
    rw [q] at c2 e
    cases dt with
    | func fd =>
      have efd : fdAt K (He.fAd K d.at_) = fd := by unfold fdAt; rw [q]
      obtain ⟨n1, n2, n3, n4, n5, n6, n7, n8, n9, n10, n11, n12, n13, n14, n15⟩ := fd
      have e2 : (some (n1, n2, n3, n4, n5, n6, n15) : FnZ) = some (d.name, d.qual, defArgs d.st, .stmts (defBody d.st), defScope d.st, mainGlobals, builtinsNs) := e
      simp only [Option.some.injEq, Prod.mk.injEq] at e2
      obtain ⟨h1, h2, h3, h4, h5, h6, h8⟩ := e2
      subst h1 h2 h3 h4 h5 h6 h8
      obtain ⟨x, cc, cda, e7, e8, e13⟩ : ∃ x cc cda, n7 = [(x, cc)] ∧ n8 = .none ∧ n13 = .ref cda := by
        clear q efd
        match n7, c2 with
        | [], c2 => cases c2
        | _ :: _ :: _, c2 => cases c2
        | [(x, cc)], c2 =>
          cases n8 with
          | none =>
            cases n13 with
            | ref a => exact ⟨x, cc, a, rfl, rfl, rfl⟩
            | _ => cases c2
          | _ => cases c2
      subst e7 e8 e13
      · skip
        have c3 : (decide (x = ("__class__" : Str)) && (PySem.W.codeIn K (.ref cda) d.qual && ((match K.lookup cda with
          | some ⟨_, _, .fields vs, _⟩ => fileB vs[2]?
          | _ => false) && (match K.lookup cc with
          | some ⟨_, _, .cell (some (.ref C)), _⟩ => decide (C = aF K d.cls)
          | _ => false)))) = true := c2
        obtain ⟨k1, k2⟩ := He.ba c3
        obtain ⟨k3, k4⟩ := He.ba k2
        obtain ⟨k5, k6⟩ := He.ba k4
        have ex : x = ("__class__" : Str) := of_decide_eq_true k1
        subst ex
        have ecd : cdAt K (He.fAd K d.at_) = cda := by unfold cdAt; rw [efd]
        have ecc : ccAt K (He.fAd K d.at_) = cc := by unfold ccAt; rw [efd]
        rw [efd, ecd, ecc]
        obtain ⟨ar, ha1, ha2⟩ : ∃ ar, ((defArgs d.st).posonlyargs ++ (defArgs d.st).args).head? = some ar ∧ ar.arg = "self" := by
          cases eh : ((defArgs d.st).posonlyargs ++ (defArgs d.st).args).head? with
          | none => rw [eh] at hA; cases hA
          | some ar => rw [eh] at hA; exact ⟨ar, rfl, of_decide_eq_true hA⟩
        obtain ⟨ccl, cdd, vs, ccs, hc1, hc2⟩ : ∃ ccl cdd vs ccs, K.lookup cda = some ⟨ccl, cdd, .fields vs, ccs⟩ ∧ fileB vs[2]? = true := by
          cases ek : K.lookup cda with
          | none => rw [ek] at k5; cases k5
          | some o =>
            obtain ⟨a1, a2, a3, a4⟩ := o
            rw [ek] at k5
            cases a3 <;> first | (cases k5; done) | exact ⟨_, _, _, _, rfl, k5⟩
        obtain ⟨file, tf, hf1, hf2⟩ : ∃ file tf, vs[2]? = some (.str file tf) ∧ ((P0.main.file : Str) == file) = true := by
          cases ek : vs[2]? with
          | none => rw [ek] at hc2; cases hc2
          | some u =>
            rw [ek] at hc2
            cases u <;> first | (cases hc2; done) | exact ⟨_, _, rfl, hc2⟩
        obtain ⟨cl, cld, csl, hl⟩ : ∃ cl cld csl, K.lookup cc = some ⟨cl, cld, .cell (some (.ref (aF K d.cls))), csl⟩ := by
          cases ek : K.lookup cc with
          | none => rw [ek] at k6; cases k6
          | some o =>
            obtain ⟨a1, a2, a3, a4⟩ := o
            rw [ek] at k6
            cases a3 with
            | cell u =>
              cases u with
              | none => cases k6
              | some u =>
                cases u <;> first | (cases k6; done) | skip
                have := of_decide_eq_true k6
                subst this
                exact ⟨_, _, _, rfl⟩
            | _ => cases k6
        exact ⟨⟨oc, od, n9, n10, n11, n12, n14, osl, ar, vs, file, tf, ccl, cl, cdd, cld, ccs, csl, rfl, q, k3, ha1, ha2, hc1, hf1, hf2, hl⟩, kp, ht⟩
    | _ => cases c2
/-! ### facts of the places' classes -/
def wds : List Wd := [.fin, .hole, .draw, .kmove, .rmove, .khides, .rhides, .ksees, .rsees, .kshows, .rshows]
theorem all_wds {f : Wd → Bool} (h : wds.all f = true) (w : Wd) : f w = true := List.all_eq_true.mp h w (by cases w <;> decide)
def okC (K : PySem.W.Frag) (x : Str) : List Bool := [(He.Fa.cls x).ok K, (He.Fa.noat x "word").ok K, (He.Fa.noat x "told").ok K, (He.Fa.noat x "keeper_hands").ok K, (He.Fa.noat x "rival_hands").ok K, (He.Fa.noat x "parts").ok K, (He.Fa.noat x "many").ok K, (He.Fa.noat x "levels").ok K, (He.Fa.noat x "table").ok K, (He.Fa.noat x "weights").ok K, (He.Fa.noat x "counts").ok K, (He.Fa.noat x "lots").ok K,
  He.eqO (PySem.W.findIn K (.ref (aF K x)) "__class__") (some (some (.builtin "object.__class__"))), decide (PySem.W.mroIn K (aF K x) (.type "object") = some true), decide (PySem.W.kitOne K (.ref (aF K x)) (.ref (aF K "Place")) = some true),
  (PySem.W.clsIn K (aF K x)).isSome, decide (PySem.W.mroIn K (aF K x) (.ref (aF K x)) = some true), He.eqO (PySem.W.ks_superIn K (aF K x) (aF K x) "__init__") (some (some (.ref (aM K "Place" "__init__")))), decide (PySem.W.typeIn K (.ref (aM K "Place" "__init__")) = some (.type "function")), PySem.W.fnIn K (aM K "Place" "__init__"), He.eqO (PySem.W.nsIn K cStatics "thirdparty.any") (some none)]
theorem at_ok {l : List Bool} (h : l.all id = true) (i : Nat) {b : Bool} (e : l[i]? = some b) : b = true := List.all_eq_true.mp h b (List.mem_of_getElem? e)
theorem okC_ok {K : PySem.W.Frag} {x : Str} (h : (okC K x).all id = true) : PlC K (aF K x) where
  cl := He.cls_ok (at_ok h 0 rfl)
  n_word := He.noat_ok (at_ok h 1 rfl)
  n_told := He.noat_ok (at_ok h 2 rfl)
  n_keeper_hands := He.noat_ok (at_ok h 3 rfl)
  n_rival_hands := He.noat_ok (at_ok h 4 rfl)
  n_parts := He.noat_ok (at_ok h 5 rfl)
  n_many := He.noat_ok (at_ok h 6 rfl)
  n_levels := He.noat_ok (at_ok h 7 rfl)
  n_table := He.noat_ok (at_ok h 8 rfl)
  n_weights := He.noat_ok (at_ok h 9 rfl)
  n_counts := He.noat_ok (at_ok h 10 rfl)
  n_lots := He.noat_ok (at_ok h 11 rfl)
  tc := He.eqO_ok (at_ok h 12 rfl)
  ob := of_decide_eq_true (at_ok h 13 rfl)
  isP := of_decide_eq_true (at_ok h 14 rfl)
  sup := ⟨Option.isSome_iff_exists.mp (at_ok h 15 rfl), of_decide_eq_true (at_ok h 16 rfl), He.eqO_ok (at_ok h 17 rfl), of_decide_eq_true (at_ok h 18 rfl), at_ok h 19 rfl, He.eqO_ok (at_ok h 20 rfl)⟩
def okV (K : PySem.W.Frag) (x : Str) : List Bool := [He.eqO (PySem.W.findIn K (.ref (aF K x)) "__eq__") (some (some (.ref (aM K "Place" "__eq__")))), He.eqO (PySem.W.findIn K (.ref (aF K x)) "__ne__") (some (some (.builtin "object.__ne__"))), decide (PySem.W.mroIn K (aF K x) (.type "object") = some true),
  wds.all fun w => PySem.W.notFirst K (aF K x) (.ref (cW K w)), PySem.W.notFirst K (aF K x) (.type "str"), PySem.W.notFirst K (aF K x) (.type "tuple"), He.eqO (PySem.W.findIn K (.ref (aF K x)) "__str__") (some (some (.ref (aM K "Place" "__str__"))))]

def fa : List He.Fa := [.free "len",
  .free "isinstance",
  .free "all",
  .free "any",
  .free "sum",
  .free "tuple",
  .free "list",
  .free "sorted",
  .free "abs",
  .free "min",
  .free "max",
  .free "int",
  .free "str",
  .free "repr",
  .free "range",
  .free "enumerate",
  .free "zip",
  .free "super",
  .free "bool",
  .int "MOST_FIGURES" 60,
  .int "MOST_HANDS" 8,
  .int "MOST_PARTS" 6,
  .int "MOST_COUNT" 4,
  .int "MOST_LEVELS" 10,
  .int "MOST_PLACES" 120,
  .str "BAR" "/",
  .str "FIGURES" "0123456789",
  .glo "SINGLE",
  .glo "WORDS",
  .glo "MOVES",
  .glo "SHOWS",
  .glo "is_integer",
  .glo "is_within",
  .glo "is_list",
  .glo "common",
  .glo "is_number",
  .glo "is_weight",
  .glo "is_row",
  .glo "is_weights",
  .glo "is_lot",
  .glo "kept",
  .glo "kept_row",
  .glo "integer_in",
  .glo "number_in",
  .meth "Scan" "ahead",
  .meth "Scan" "take",
  .meth "Scan" "take_word",
  .meth "Scan" "take_integer",
  .meth "Scan" "take_number",
  .meth "Scan" "finish",
  .glo "halves",
  .glo "below",
  .glo "text_in",
  .glo "need_room",
  .glo "need_table",
  .glo "need_place",
  .glo "need_parts",
  .glo "need_alike",
  .glo "need_counts",
  .glo "need_rows",
  .glo "need_lots",
  .glo "hands_of",
  .glo "how_many",
  .glo "moving",
  .glo "parting",
  .glo "place_of",
  .glo "numbers_of",
  .glo "items_of",
  .glo "weight_in",
  .glo "lots_in",
  .glo "told_in",
  .glo "leaf_in",
  .glo "place_in",
  .glo "read",
  .glo "_law_desk",
  .glo "_law_pick",
  .glo "_law_one_of",
  .glo "_law_low",
  .glo "_law_told",
  .glo "_law_number",
  .glo "_law_weight",
  .glo "_law_lots",
  .glo "_law_rows",
  .glo "_law_tree",
  .glo "_law_made",
  .glo "_law_written",
  .glo "_law_items",
  .glo "_law_listed",
  .glo "_law_near",
  .glo "_law_kept_right",
  .glo "law",
  .glo "Scan",
  .mkr "Scan",
  .glo "End",
  .mkr "End",
  .glo "Hole",
  .mkr "Hole",
  .glo "Draw",
  .mkr "Draw",
  .glo "KeeperMove",
  .mkr "KeeperMove",
  .glo "RivalMove",
  .mkr "RivalMove",
  .glo "KeeperHides",
  .mkr "KeeperHides",
  .glo "RivalHides",
  .mkr "RivalHides",
  .glo "KeeperSees",
  .mkr "KeeperSees",
  .glo "RivalSees",
  .mkr "RivalSees",
  .glo "KeeperShows",
  .mkr "KeeperShows",
  .glo "RivalShows",
  .mkr "RivalShows",
  .glo "Place",
  .cls "Scan",
  .noat "Scan" "words",
  .noat "Scan" "at"]
def fnl : List He.DefD := [⟨("is_integer", none), "is_integer", "is_integer", defArgs s_is_integer, defBody s_is_integer, defScope s_is_integer, [], []⟩,
  ⟨("is_within", none), "is_within", "is_within", defArgs s_is_within, defBody s_is_within, defScope s_is_within, [], []⟩,
  ⟨("is_list", none), "is_list", "is_list", defArgs s_is_list, defBody s_is_list, defScope s_is_list, [], []⟩,
  ⟨("common", none), "common", "common", defArgs s_common, defBody s_common, defScope s_common, [], []⟩,
  ⟨("is_number", none), "is_number", "is_number", defArgs s_is_number, defBody s_is_number, defScope s_is_number, [], []⟩,
  ⟨("is_weight", none), "is_weight", "is_weight", defArgs s_is_weight, defBody s_is_weight, defScope s_is_weight, [], []⟩,
  ⟨("is_row", none), "is_row", "is_row", defArgs s_is_row, defBody s_is_row, defScope s_is_row, [], []⟩,
  ⟨("is_weights", none), "is_weights", "is_weights", defArgs s_is_weights, defBody s_is_weights, defScope s_is_weights, [], []⟩,
  ⟨("is_lot", none), "is_lot", "is_lot", defArgs s_is_lot, defBody s_is_lot, defScope s_is_lot, [], []⟩,
  ⟨("kept", none), "kept", "kept", defArgs s_kept, defBody s_kept, defScope s_kept, [], []⟩,
  ⟨("kept_row", none), "kept_row", "kept_row", defArgs s_kept_row, defBody s_kept_row, defScope s_kept_row, [], []⟩,
  ⟨("integer_in", none), "integer_in", "integer_in", defArgs s_integer_in, defBody s_integer_in, defScope s_integer_in, [], []⟩,
  ⟨("number_in", none), "number_in", "number_in", defArgs s_number_in, defBody s_number_in, defScope s_number_in, [], []⟩,
  ⟨("Scan", some "__init__"), "__init__", "Scan.__init__", defArgs s_Scan___init__, defBody s_Scan___init__, defScope s_Scan___init__, [], []⟩,
  ⟨("Scan", some "ahead"), "ahead", "Scan.ahead", defArgs s_Scan_ahead, defBody s_Scan_ahead, defScope s_Scan_ahead, [], []⟩,
  ⟨("Scan", some "take"), "take", "Scan.take", defArgs s_Scan_take, defBody s_Scan_take, defScope s_Scan_take, [], []⟩,
  ⟨("Scan", some "take_word"), "take_word", "Scan.take_word", defArgs s_Scan_take_word, defBody s_Scan_take_word, defScope s_Scan_take_word, [], []⟩,
  ⟨("Scan", some "take_integer"), "take_integer", "Scan.take_integer", defArgs s_Scan_take_integer, defBody s_Scan_take_integer, defScope s_Scan_take_integer, [.non, .non], []⟩,
  ⟨("Scan", some "take_number"), "take_number", "Scan.take_number", defArgs s_Scan_take_number, defBody s_Scan_take_number, defScope s_Scan_take_number, [], []⟩,
  ⟨("Scan", some "finish"), "finish", "Scan.finish", defArgs s_Scan_finish, defBody s_Scan_finish, defScope s_Scan_finish, [], []⟩,
  ⟨("halves", none), "halves", "halves", defArgs s_halves, defBody s_halves, defScope s_halves, [], []⟩,
  ⟨("below", none), "below", "below", defArgs s_below, defBody s_below, defScope s_below, [], []⟩,
  ⟨("text_in", none), "text_in", "text_in", defArgs s_text_in, defBody s_text_in, defScope s_text_in, [], []⟩,
  ⟨("Place", some "__init__"), "__init__", "Place.__init__", defArgs s_Place___init__, defBody s_Place___init__, defScope s_Place___init__, [], []⟩,
  ⟨("Place", some "__eq__"), "__eq__", "Place.__eq__", defArgs s_Place___eq__, defBody s_Place___eq__, defScope s_Place___eq__, [], []⟩,
  ⟨("Place", some "__str__"), "__str__", "Place.__str__", defArgs s_Place___str__, defBody s_Place___str__, defScope s_Place___str__, [], []⟩,
  ⟨("need_room", none), "need_room", "need_room", defArgs s_need_room, defBody s_need_room, defScope s_need_room, [], []⟩,
  ⟨("need_table", none), "need_table", "need_table", defArgs s_need_table, defBody s_need_table, defScope s_need_table, [], []⟩,
  ⟨("need_place", none), "need_place", "need_place", defArgs s_need_place, defBody s_need_place, defScope s_need_place, [], []⟩,
  ⟨("need_parts", none), "need_parts", "need_parts", defArgs s_need_parts, defBody s_need_parts, defScope s_need_parts, [], []⟩,
  ⟨("need_alike", none), "need_alike", "need_alike", defArgs s_need_alike, defBody s_need_alike, defScope s_need_alike, [], []⟩,
  ⟨("need_counts", none), "need_counts", "need_counts", defArgs s_need_counts, defBody s_need_counts, defScope s_need_counts, [], []⟩,
  ⟨("need_rows", none), "need_rows", "need_rows", defArgs s_need_rows, defBody s_need_rows, defScope s_need_rows, [], []⟩,
  ⟨("need_lots", none), "need_lots", "need_lots", defArgs s_need_lots, defBody s_need_lots, defScope s_need_lots, [], []⟩,
  ⟨("hands_of", none), "hands_of", "hands_of", defArgs s_hands_of, defBody s_hands_of, defScope s_hands_of, [], []⟩,
  ⟨("how_many", none), "how_many", "how_many", defArgs s_how_many, defBody s_how_many, defScope s_how_many, [], []⟩,
  ⟨("moving", none), "moving", "moving", defArgs s_moving, defBody s_moving, defScope s_moving, [], []⟩,
  ⟨("parting", none), "parting", "parting", defArgs s_parting, defBody s_parting, defScope s_parting, [], []⟩,
  ⟨("place_of", none), "place_of", "place_of", defArgs s_place_of, defBody s_place_of, defScope s_place_of, [], []⟩,
  ⟨("numbers_of", none), "numbers_of", "numbers_of", defArgs s_numbers_of, defBody s_numbers_of, defScope s_numbers_of, [], []⟩,
  ⟨("items_of", none), "items_of", "items_of", defArgs s_items_of, defBody s_items_of, defScope s_items_of, [], []⟩,
  ⟨("weight_in", none), "weight_in", "weight_in", defArgs s_weight_in, defBody s_weight_in, defScope s_weight_in, [], []⟩,
  ⟨("lots_in", none), "lots_in", "lots_in", defArgs s_lots_in, defBody s_lots_in, defScope s_lots_in, [], []⟩,
  ⟨("told_in", none), "told_in", "told_in", defArgs s_told_in, defBody s_told_in, defScope s_told_in, [], []⟩,
  ⟨("leaf_in", none), "leaf_in", "leaf_in", defArgs s_leaf_in, defBody s_leaf_in, defScope s_leaf_in, [], []⟩,
  ⟨("place_in", none), "place_in", "place_in", defArgs s_place_in, defBody s_place_in, defScope s_place_in, [], []⟩,
  ⟨("read", none), "read", "read", defArgs s_read, defBody s_read, defScope s_read, [], []⟩,
  ⟨("_law_desk", none), "_law_desk", "_law_desk", defArgs s__law_desk, defBody s__law_desk, defScope s__law_desk, [], []⟩,
  ⟨("_law_pick", none), "_law_pick", "_law_pick", defArgs s__law_pick, defBody s__law_pick, defScope s__law_pick, [], []⟩,
  ⟨("_law_one_of", none), "_law_one_of", "_law_one_of", defArgs s__law_one_of, defBody s__law_one_of, defScope s__law_one_of, [], []⟩,
  ⟨("_law_low", none), "_law_low", "_law_low", defArgs s__law_low, defBody s__law_low, defScope s__law_low, [], []⟩,
  ⟨("_law_told", none), "_law_told", "_law_told", defArgs s__law_told, defBody s__law_told, defScope s__law_told, [], []⟩,
  ⟨("_law_number", none), "_law_number", "_law_number", defArgs s__law_number, defBody s__law_number, defScope s__law_number, [], []⟩,
  ⟨("_law_weight", none), "_law_weight", "_law_weight", defArgs s__law_weight, defBody s__law_weight, defScope s__law_weight, [], []⟩,
  ⟨("_law_lots", none), "_law_lots", "_law_lots", defArgs s__law_lots, defBody s__law_lots, defScope s__law_lots, [], []⟩,
  ⟨("_law_rows", none), "_law_rows", "_law_rows", defArgs s__law_rows, defBody s__law_rows, defScope s__law_rows, [], []⟩,
  ⟨("_law_tree", none), "_law_tree", "_law_tree", defArgs s__law_tree, defBody s__law_tree, defScope s__law_tree, [], []⟩,
  ⟨("_law_made", none), "_law_made", "_law_made", defArgs s__law_made, defBody s__law_made, defScope s__law_made, [], []⟩,
  ⟨("_law_written", none), "_law_written", "_law_written", defArgs s__law_written, defBody s__law_written, defScope s__law_written, [], []⟩,
  ⟨("_law_items", none), "_law_items", "_law_items", defArgs s__law_items, defBody s__law_items, defScope s__law_items, [], []⟩,
  ⟨("_law_listed", none), "_law_listed", "_law_listed", defArgs s__law_listed, defBody s__law_listed, defScope s__law_listed, [], []⟩,
  ⟨("_law_near", none), "_law_near", "_law_near", defArgs s__law_near, defBody s__law_near, defScope s__law_near, [], []⟩,
  ⟨("_law_kept_right", none), "_law_kept_right", "_law_kept_right", defArgs s__law_kept_right, defBody s__law_kept_right, defScope s__law_kept_right, [], []⟩,
  ⟨("law", none), "law", "law", defArgs s_law, defBody s_law, defScope s_law, [], []⟩]
def fzl : List DefZ := [⟨("End", some "__init__"), "__init__", "End.__init__", s_End___init__, "End"⟩,
  ⟨("Hole", some "__init__"), "__init__", "Hole.__init__", s_Hole___init__, "Hole"⟩,
  ⟨("KeeperMove", some "__init__"), "__init__", "KeeperMove.__init__", s_KeeperMove___init__, "KeeperMove"⟩,
  ⟨("RivalMove", some "__init__"), "__init__", "RivalMove.__init__", s_RivalMove___init__, "RivalMove"⟩,
  ⟨("Draw", some "__init__"), "__init__", "Draw.__init__", s_Draw___init__, "Draw"⟩,
  ⟨("KeeperHides", some "__init__"), "__init__", "KeeperHides.__init__", s_KeeperHides___init__, "KeeperHides"⟩,
  ⟨("RivalHides", some "__init__"), "__init__", "RivalHides.__init__", s_RivalHides___init__, "RivalHides"⟩,
  ⟨("KeeperSees", some "__init__"), "__init__", "KeeperSees.__init__", s_KeeperSees___init__, "KeeperSees"⟩,
  ⟨("RivalSees", some "__init__"), "__init__", "RivalSees.__init__", s_RivalSees___init__, "RivalSees"⟩,
  ⟨("KeeperShows", some "__init__"), "__init__", "KeeperShows.__init__", s_KeeperShows___init__, "KeeperShows"⟩,
  ⟨("RivalShows", some "__init__"), "__init__", "RivalShows.__init__", s_RivalShows___init__, "RivalShows"⟩]
def okX (K : PySem.W.Frag) : List Bool := [He.tupB K "SINGLE" [.str "keeper-hides", .str "rival-hides", .str "keeper-sees", .str "rival-sees"],
  He.tupB K "WORDS" [.str "end", .str "hole", .str "draw", .str "keeper-move", .str "rival-move", .str "keeper-hides", .str "rival-hides", .str "keeper-sees", .str "rival-sees", .str "keeper-shows", .str "rival-shows"],
  He.tupB K "MOVES" [.str "keeper-move", .str "rival-move"],
  He.tupB K "SHOWS" [.str "keeper-shows", .str "rival-shows"],
  He.eqO (PySem.W.specialIn K (.builtin "object.__class__") "__get__") (some (some (.builtin "getset_descriptor.__get__"))),
  decide (PySem.W.takesIn K (.builtin "object.__class__") = some true),
  decide (PySem.W.kitOne K (.type "str") (.ref (aF K "Place")) = some false),
  decide (PySem.W.kitOne K (.type "tuple") (.ref (aF K "Place")) = some false),
  PySem.W.isFn K (.ref (aM K "Place" "__eq__")),
  PySem.W.isFn K (.ref (aM K "Place" "__str__"))]
/-! ### the Hook -/
def dictRefs (g : Addr → Option Obj) (a : Addr) : List Addr := match g a with
  | some ⟨_, _, .dict es _, _⟩ => es.toList.flatMap fun e => He.refV e.val
  | _ => []
def kidsP (g : Addr → Option Obj) (a : Addr) : List Addr := match g a with
  | some ⟨_, _, .func fd, _⟩ => He.refV fd.code ++ (He.refV fd.defaults ++ fd.closure.map (·.2))
  | some ⟨_, _, .cls cd, _⟩ => [cd.ns]
  | _ => []
def asW (g : Addr → Option Obj) (l1 : List Addr) : List Addr :=
  let l2 := l1.flatMap (kidsP g)
  let l3 := l2.flatMap (dictRefs g)
  mainGlobals :: cStatics :: (l1 ++ (l2 ++ (l3 ++ l3.flatMap (kidsP g))))
def asP (g : Addr → Option Obj) (_ : Nat) : List Addr := asW g (dictRefs g mainGlobals)
def okP (K : PySem.W.Frag) : Bool := (fa.all fun f => f.ok K) && ((fnl.all fun d => d.ok K) && ((fzl.all fun d => d.ok K) && ((okX K).all id && (wds.all fun w => (okC K w.cls).all id && (okV K w.cls).all id))))
abbrev AlP : Type := Bool × List He.FnW × List FnZ
def obsP (K : PySem.W.Frag) : AlP := (okP K, fnl.map (fun d => He.fnW K d.at_), fzl.map fun d => fnZ K d.at_)
def valP : AlP := (true, fnl.map He.DefD.val, fzl.map DefZ.val)
def SaysP (K : PySem.W.Frag) : Prop := obsP K = valP
def obsPG (n : Nat) (g : Addr → Option Obj) : AlP := obsP (He.frG g (asP g n))
def hookP (n : Nat) : PySem.W.Hook where
  α := AlP
  obs := fun s => obsPG n s.heap.get?
  val := fun _ => valP
  says := fun _ h => ∃ K : PySem.W.Frag, K.In h ∧ SaysP K
  of := fun _ _ e => ⟨_, He.frG_in, e⟩
  keeps := fun _ _ _ ⟨K, hK, c⟩ k => ⟨K, PySem.W.Frag.In.keeps hK k, c⟩
theorem obsPG_eq {n : Nat} {g : Addr → Option Obj} {s : Shared} (h : ∀ a, g a = s.heap.get? a) : obsPG n g = (hookP n).obs s := by
  have e : g = s.heap.get? := funext h
  rw [e] <;> rfl
section
variable {K : PySem.W.Frag}
theorem SaysP.ok (c : SaysP K) : okP K = true := congrArg (fun z : AlP => z.1) c
theorem SaysP.fa_ (c : SaysP K) (i : Nat) {f : He.Fa} (h : fa[i]? = some f) : f.ok K = true := List.all_eq_true.mp (He.ba c.ok).1 f (List.mem_of_getElem? h)
theorem SaysP.fn_ (c : SaysP K) (i : Nat) {d : He.DefD} (h : fnl[i]? = some d) : ∃ fd, FunD K d.name d.qual d.params d.body d.scope (d.dvs K) (d.kws K) (He.fAd K d.at_) fd := by
  have c2 := (He.ba (He.ba c.ok).2).1
  have e : fnl.map (fun d => He.fnW K d.at_) = fnl.map He.DefD.val := congrArg (fun z : AlP => z.2.1) c
  have e2 : (fnl.map fun d => He.fnW K d.at_)[i]? = (fnl.map He.DefD.val)[i]? := by rw [e]
  rw [List.getElem?_map, List.getElem?_map, h] at e2
  exact He.DefD.funD (Option.some.inj e2) (List.all_eq_true.mp c2 d (List.mem_of_getElem? h))
theorem SaysP.z_ (c : SaysP K) (i : Nat) {d : DefZ} (h : fzl[i]? = some d) (hA : (match ((defArgs d.st).posonlyargs ++ (defArgs d.st).args).head? with | some ar => decide (ar.arg = "self") | none => false) = true) :
    FunS P0 K d.name d.qual d.st (aF K d.cls) (He.fAd K d.at_) (fdAt K (He.fAd K d.at_)) (cdAt K (He.fAd K d.at_)) (ccAt K (He.fAd K d.at_)) := by
  have c2 := (He.ba (He.ba (He.ba c.ok).2).2).1
  have e : fzl.map (fun d => fnZ K d.at_) = fzl.map DefZ.val := congrArg (fun z : AlP => z.2.2) c
  have e2 : (fzl.map fun d => fnZ K d.at_)[i]? = (fzl.map DefZ.val)[i]? := by rw [e]
  rw [List.getElem?_map, List.getElem?_map, h] at e2
  exact DefZ.funS (Option.some.inj e2) (List.all_eq_true.mp c2 d (List.mem_of_getElem? h)) hA (by decide +kernel)
theorem SaysP.x_ (c : SaysP K) (i : Nat) {b : Bool} (h : (okX K)[i]? = some b) : b = true := at_ok (He.ba (He.ba (He.ba (He.ba c.ok).2).2).2).1 i h
theorem SaysP.w_ (c : SaysP K) (w : Wd) : (okC K w.cls).all id = true := (He.ba (all_wds (He.ba (He.ba (He.ba (He.ba c.ok).2).2).2).2 w)).1
theorem SaysP.v_ (c : SaysP K) (w : Wd) (i : Nat) {b : Bool} (h : (okV K w.cls)[i]? = some b) : b = true := at_ok (He.ba (all_wds (He.ba (He.ba (He.ba (He.ba c.ok).2).2).2).2 w)).2 i h
theorem fd_at {f : Addr} {oc : Value} {od : Option Addr} {fd : FuncData} {osl : Array (Option Value)} (h : K.lookup f = some ⟨oc, od, .func fd, osl⟩) : fdAt K f = fd := by
  unfold fdAt
  rw [h]
theorem fun_at {x qual : Str} {st : Stmt} {f : Addr} (h : ∃ fd, FunD K x qual (defArgs st) (defBody st) (defScope st) [] [] f fd) : Fun K x qual st f (fdAt K f) := by
  obtain ⟨fd, F⟩ := h
  obtain ⟨oc, od, dV, kV, doc, pm, an, cdv, ct, osl, e, lk, hcd, hd, _⟩ := F.ex
  rw [fd_at lk]
  rcases hd with ⟨_, hd⟩ | ⟨hd, _⟩
  · subst hd
    exact ⟨⟨oc, od, kV, doc, pm, an, cdv, ct, osl, e, lk, hcd⟩, F.kp⟩
  · exact absurd rfl hd
theorem funD_at {x qual : Str} {pa : Arguments} {bo : List Stmt} {sc : Scope} {dvs : List V} {kws : List (Str × V)} {f : Addr} (h : ∃ fd, FunD K x qual pa bo sc dvs kws f fd) : FunD K x qual pa bo sc dvs kws f (fdAt K f) := by
  obtain ⟨fd, F⟩ := h
  obtain ⟨oc, od, dV, kV, doc, pm, an, cdv, ct, osl, e, lk, hcd, hd, hk⟩ := F.ex
  rw [fd_at lk]
  exact F
theorem txt_of {h : Heap} {mg : Str → Option Value} (X : K.In h) (G : h.Ns mainGlobals mg) (c : SaysP K) : Txt K mg where
  z_len := He.free_ok X G (c.fa_ 0 (f := .free "len") rfl)
  z_isinstance := He.free_ok X G (c.fa_ 1 (f := .free "isinstance") rfl)
  z_all := He.free_ok X G (c.fa_ 2 (f := .free "all") rfl)
  z_any := He.free_ok X G (c.fa_ 3 (f := .free "any") rfl)
  z_sum := He.free_ok X G (c.fa_ 4 (f := .free "sum") rfl)
  z_tuple := He.free_ok X G (c.fa_ 5 (f := .free "tuple") rfl)
  z_list := He.free_ok X G (c.fa_ 6 (f := .free "list") rfl)
  z_sorted := He.free_ok X G (c.fa_ 7 (f := .free "sorted") rfl)
  z_abs := He.free_ok X G (c.fa_ 8 (f := .free "abs") rfl)
  z_min := He.free_ok X G (c.fa_ 9 (f := .free "min") rfl)
  z_max := He.free_ok X G (c.fa_ 10 (f := .free "max") rfl)
  z_int := He.free_ok X G (c.fa_ 11 (f := .free "int") rfl)
  z_str := He.free_ok X G (c.fa_ 12 (f := .free "str") rfl)
  z_repr := He.free_ok X G (c.fa_ 13 (f := .free "repr") rfl)
  z_range := He.free_ok X G (c.fa_ 14 (f := .free "range") rfl)
  z_enumerate := He.free_ok X G (c.fa_ 15 (f := .free "enumerate") rfl)
  z_zip := He.free_ok X G (c.fa_ 16 (f := .free "zip") rfl)
  z_super := He.free_ok X G (c.fa_ 17 (f := .free "super") rfl)
  z_bool := He.free_ok X G (c.fa_ 18 (f := .free "bool") rfl)
  c_MOST_FIGURES := He.int_ok X G (c.fa_ 19 (f := .int "MOST_FIGURES" 60) rfl)
  c_MOST_HANDS := He.int_ok X G (c.fa_ 20 (f := .int "MOST_HANDS" 8) rfl)
  c_MOST_PARTS := He.int_ok X G (c.fa_ 21 (f := .int "MOST_PARTS" 6) rfl)
  c_MOST_COUNT := He.int_ok X G (c.fa_ 22 (f := .int "MOST_COUNT" 4) rfl)
  c_MOST_LEVELS := He.int_ok X G (c.fa_ 23 (f := .int "MOST_LEVELS" 10) rfl)
  c_MOST_PLACES := He.int_ok X G (c.fa_ 24 (f := .int "MOST_PLACES" 120) rfl)
  c_BAR := He.str_ok X G (c.fa_ 25 (f := .str "BAR" "/") rfl)
  c_FIGURES := He.str_ok X G (c.fa_ 26 (f := .str "FIGURES" "0123456789") rfl)
  g_SINGLE := He.glo_ok X G (c.fa_ 27 (f := .glo "SINGLE") rfl)
  t_SINGLE := fun H => He.tupB_ok (x := "SINGLE") (vs := [.str "keeper-hides", .str "rival-hides", .str "keeper-sees", .str "rival-sees"]) (c.x_ 0 rfl) H
  g_WORDS := He.glo_ok X G (c.fa_ 28 (f := .glo "WORDS") rfl)
  t_WORDS := fun H => He.tupB_ok (x := "WORDS") (vs := [.str "end", .str "hole", .str "draw", .str "keeper-move", .str "rival-move", .str "keeper-hides", .str "rival-hides", .str "keeper-sees", .str "rival-sees", .str "keeper-shows", .str "rival-shows"]) (c.x_ 1 rfl) H
  g_MOVES := He.glo_ok X G (c.fa_ 29 (f := .glo "MOVES") rfl)
  t_MOVES := fun H => He.tupB_ok (x := "MOVES") (vs := [.str "keeper-move", .str "rival-move"]) (c.x_ 2 rfl) H
  g_SHOWS := He.glo_ok X G (c.fa_ 30 (f := .glo "SHOWS") rfl)
  t_SHOWS := fun H => He.tupB_ok (x := "SHOWS") (vs := [.str "keeper-shows", .str "rival-shows"]) (c.x_ 3 rfl) H
  g_is_integer := He.glo_ok X G (c.fa_ 31 (f := .glo "is_integer") rfl)
  f_is_integer := fun_at (c.fn_ 0 (d := ⟨("is_integer", none), "is_integer", "is_integer", defArgs s_is_integer, defBody s_is_integer, defScope s_is_integer, [], []⟩) rfl)
  g_is_within := He.glo_ok X G (c.fa_ 32 (f := .glo "is_within") rfl)
  f_is_within := fun_at (c.fn_ 1 (d := ⟨("is_within", none), "is_within", "is_within", defArgs s_is_within, defBody s_is_within, defScope s_is_within, [], []⟩) rfl)
  g_is_list := He.glo_ok X G (c.fa_ 33 (f := .glo "is_list") rfl)
  f_is_list := fun_at (c.fn_ 2 (d := ⟨("is_list", none), "is_list", "is_list", defArgs s_is_list, defBody s_is_list, defScope s_is_list, [], []⟩) rfl)
  g_common := He.glo_ok X G (c.fa_ 34 (f := .glo "common") rfl)
  f_common := fun_at (c.fn_ 3 (d := ⟨("common", none), "common", "common", defArgs s_common, defBody s_common, defScope s_common, [], []⟩) rfl)
  g_is_number := He.glo_ok X G (c.fa_ 35 (f := .glo "is_number") rfl)
  f_is_number := fun_at (c.fn_ 4 (d := ⟨("is_number", none), "is_number", "is_number", defArgs s_is_number, defBody s_is_number, defScope s_is_number, [], []⟩) rfl)
  g_is_weight := He.glo_ok X G (c.fa_ 36 (f := .glo "is_weight") rfl)
  f_is_weight := fun_at (c.fn_ 5 (d := ⟨("is_weight", none), "is_weight", "is_weight", defArgs s_is_weight, defBody s_is_weight, defScope s_is_weight, [], []⟩) rfl)
  g_is_row := He.glo_ok X G (c.fa_ 37 (f := .glo "is_row") rfl)
  f_is_row := fun_at (c.fn_ 6 (d := ⟨("is_row", none), "is_row", "is_row", defArgs s_is_row, defBody s_is_row, defScope s_is_row, [], []⟩) rfl)
  g_is_weights := He.glo_ok X G (c.fa_ 38 (f := .glo "is_weights") rfl)
  f_is_weights := fun_at (c.fn_ 7 (d := ⟨("is_weights", none), "is_weights", "is_weights", defArgs s_is_weights, defBody s_is_weights, defScope s_is_weights, [], []⟩) rfl)
  g_is_lot := He.glo_ok X G (c.fa_ 39 (f := .glo "is_lot") rfl)
  f_is_lot := fun_at (c.fn_ 8 (d := ⟨("is_lot", none), "is_lot", "is_lot", defArgs s_is_lot, defBody s_is_lot, defScope s_is_lot, [], []⟩) rfl)
  g_kept := He.glo_ok X G (c.fa_ 40 (f := .glo "kept") rfl)
  f_kept := fun_at (c.fn_ 9 (d := ⟨("kept", none), "kept", "kept", defArgs s_kept, defBody s_kept, defScope s_kept, [], []⟩) rfl)
  g_kept_row := He.glo_ok X G (c.fa_ 41 (f := .glo "kept_row") rfl)
  f_kept_row := fun_at (c.fn_ 10 (d := ⟨("kept_row", none), "kept_row", "kept_row", defArgs s_kept_row, defBody s_kept_row, defScope s_kept_row, [], []⟩) rfl)
  g_integer_in := He.glo_ok X G (c.fa_ 42 (f := .glo "integer_in") rfl)
  f_integer_in := fun_at (c.fn_ 11 (d := ⟨("integer_in", none), "integer_in", "integer_in", defArgs s_integer_in, defBody s_integer_in, defScope s_integer_in, [], []⟩) rfl)
  g_number_in := He.glo_ok X G (c.fa_ 43 (f := .glo "number_in") rfl)
  f_number_in := fun_at (c.fn_ 12 (d := ⟨("number_in", none), "number_in", "number_in", defArgs s_number_in, defBody s_number_in, defScope s_number_in, [], []⟩) rfl)
  f_Scan___init__ := fun_at (c.fn_ 13 (d := ⟨("Scan", some "__init__"), "__init__", "Scan.__init__", defArgs s_Scan___init__, defBody s_Scan___init__, defScope s_Scan___init__, [], []⟩) rfl)
  f_Scan_ahead := fun_at (c.fn_ 14 (d := ⟨("Scan", some "ahead"), "ahead", "Scan.ahead", defArgs s_Scan_ahead, defBody s_Scan_ahead, defScope s_Scan_ahead, [], []⟩) rfl)
  m_ahead := He.meth_ok (c.fa_ 44 (f := .meth "Scan" "ahead") rfl)
  f_Scan_take := fun_at (c.fn_ 15 (d := ⟨("Scan", some "take"), "take", "Scan.take", defArgs s_Scan_take, defBody s_Scan_take, defScope s_Scan_take, [], []⟩) rfl)
  m_take := He.meth_ok (c.fa_ 45 (f := .meth "Scan" "take") rfl)
  f_Scan_take_word := fun_at (c.fn_ 16 (d := ⟨("Scan", some "take_word"), "take_word", "Scan.take_word", defArgs s_Scan_take_word, defBody s_Scan_take_word, defScope s_Scan_take_word, [], []⟩) rfl)
  m_take_word := He.meth_ok (c.fa_ 46 (f := .meth "Scan" "take_word") rfl)
  f_Scan_take_integer := funD_at (c.fn_ 17 (d := ⟨("Scan", some "take_integer"), "take_integer", "Scan.take_integer", defArgs s_Scan_take_integer, defBody s_Scan_take_integer, defScope s_Scan_take_integer, [.non, .non], []⟩) rfl)
  m_take_integer := He.meth_ok (c.fa_ 47 (f := .meth "Scan" "take_integer") rfl)
  f_Scan_take_number := fun_at (c.fn_ 18 (d := ⟨("Scan", some "take_number"), "take_number", "Scan.take_number", defArgs s_Scan_take_number, defBody s_Scan_take_number, defScope s_Scan_take_number, [], []⟩) rfl)
  m_take_number := He.meth_ok (c.fa_ 48 (f := .meth "Scan" "take_number") rfl)
  f_Scan_finish := fun_at (c.fn_ 19 (d := ⟨("Scan", some "finish"), "finish", "Scan.finish", defArgs s_Scan_finish, defBody s_Scan_finish, defScope s_Scan_finish, [], []⟩) rfl)
  m_finish := He.meth_ok (c.fa_ 49 (f := .meth "Scan" "finish") rfl)
  g_halves := He.glo_ok X G (c.fa_ 50 (f := .glo "halves") rfl)
  f_halves := fun_at (c.fn_ 20 (d := ⟨("halves", none), "halves", "halves", defArgs s_halves, defBody s_halves, defScope s_halves, [], []⟩) rfl)
  g_below := He.glo_ok X G (c.fa_ 51 (f := .glo "below") rfl)
  f_below := fun_at (c.fn_ 21 (d := ⟨("below", none), "below", "below", defArgs s_below, defBody s_below, defScope s_below, [], []⟩) rfl)
  g_text_in := He.glo_ok X G (c.fa_ 52 (f := .glo "text_in") rfl)
  f_text_in := fun_at (c.fn_ 22 (d := ⟨("text_in", none), "text_in", "text_in", defArgs s_text_in, defBody s_text_in, defScope s_text_in, [], []⟩) rfl)
  f_Place___init__ := fun_at (c.fn_ 23 (d := ⟨("Place", some "__init__"), "__init__", "Place.__init__", defArgs s_Place___init__, defBody s_Place___init__, defScope s_Place___init__, [], []⟩) rfl)
  f_Place___eq__ := fun_at (c.fn_ 24 (d := ⟨("Place", some "__eq__"), "__eq__", "Place.__eq__", defArgs s_Place___eq__, defBody s_Place___eq__, defScope s_Place___eq__, [], []⟩) rfl)
  f_Place___str__ := fun_at (c.fn_ 25 (d := ⟨("Place", some "__str__"), "__str__", "Place.__str__", defArgs s_Place___str__, defBody s_Place___str__, defScope s_Place___str__, [], []⟩) rfl)
  f_End___init__ := c.z_ 0 (d := ⟨("End", some "__init__"), "__init__", "End.__init__", s_End___init__, "End"⟩) rfl (by decide +kernel)
  f_Hole___init__ := c.z_ 1 (d := ⟨("Hole", some "__init__"), "__init__", "Hole.__init__", s_Hole___init__, "Hole"⟩) rfl (by decide +kernel)
  f_KeeperMove___init__ := c.z_ 2 (d := ⟨("KeeperMove", some "__init__"), "__init__", "KeeperMove.__init__", s_KeeperMove___init__, "KeeperMove"⟩) rfl (by decide +kernel)
  f_RivalMove___init__ := c.z_ 3 (d := ⟨("RivalMove", some "__init__"), "__init__", "RivalMove.__init__", s_RivalMove___init__, "RivalMove"⟩) rfl (by decide +kernel)
  f_Draw___init__ := c.z_ 4 (d := ⟨("Draw", some "__init__"), "__init__", "Draw.__init__", s_Draw___init__, "Draw"⟩) rfl (by decide +kernel)
  f_KeeperHides___init__ := c.z_ 5 (d := ⟨("KeeperHides", some "__init__"), "__init__", "KeeperHides.__init__", s_KeeperHides___init__, "KeeperHides"⟩) rfl (by decide +kernel)
  f_RivalHides___init__ := c.z_ 6 (d := ⟨("RivalHides", some "__init__"), "__init__", "RivalHides.__init__", s_RivalHides___init__, "RivalHides"⟩) rfl (by decide +kernel)
  f_KeeperSees___init__ := c.z_ 7 (d := ⟨("KeeperSees", some "__init__"), "__init__", "KeeperSees.__init__", s_KeeperSees___init__, "KeeperSees"⟩) rfl (by decide +kernel)
  f_RivalSees___init__ := c.z_ 8 (d := ⟨("RivalSees", some "__init__"), "__init__", "RivalSees.__init__", s_RivalSees___init__, "RivalSees"⟩) rfl (by decide +kernel)
  f_KeeperShows___init__ := c.z_ 9 (d := ⟨("KeeperShows", some "__init__"), "__init__", "KeeperShows.__init__", s_KeeperShows___init__, "KeeperShows"⟩) rfl (by decide +kernel)
  f_RivalShows___init__ := c.z_ 10 (d := ⟨("RivalShows", some "__init__"), "__init__", "RivalShows.__init__", s_RivalShows___init__, "RivalShows"⟩) rfl (by decide +kernel)
  g_need_room := He.glo_ok X G (c.fa_ 53 (f := .glo "need_room") rfl)
  f_need_room := fun_at (c.fn_ 26 (d := ⟨("need_room", none), "need_room", "need_room", defArgs s_need_room, defBody s_need_room, defScope s_need_room, [], []⟩) rfl)
  g_need_table := He.glo_ok X G (c.fa_ 54 (f := .glo "need_table") rfl)
  f_need_table := fun_at (c.fn_ 27 (d := ⟨("need_table", none), "need_table", "need_table", defArgs s_need_table, defBody s_need_table, defScope s_need_table, [], []⟩) rfl)
  g_need_place := He.glo_ok X G (c.fa_ 55 (f := .glo "need_place") rfl)
  f_need_place := fun_at (c.fn_ 28 (d := ⟨("need_place", none), "need_place", "need_place", defArgs s_need_place, defBody s_need_place, defScope s_need_place, [], []⟩) rfl)
  g_need_parts := He.glo_ok X G (c.fa_ 56 (f := .glo "need_parts") rfl)
  f_need_parts := fun_at (c.fn_ 29 (d := ⟨("need_parts", none), "need_parts", "need_parts", defArgs s_need_parts, defBody s_need_parts, defScope s_need_parts, [], []⟩) rfl)
  g_need_alike := He.glo_ok X G (c.fa_ 57 (f := .glo "need_alike") rfl)
  f_need_alike := fun_at (c.fn_ 30 (d := ⟨("need_alike", none), "need_alike", "need_alike", defArgs s_need_alike, defBody s_need_alike, defScope s_need_alike, [], []⟩) rfl)
  g_need_counts := He.glo_ok X G (c.fa_ 58 (f := .glo "need_counts") rfl)
  f_need_counts := fun_at (c.fn_ 31 (d := ⟨("need_counts", none), "need_counts", "need_counts", defArgs s_need_counts, defBody s_need_counts, defScope s_need_counts, [], []⟩) rfl)
  g_need_rows := He.glo_ok X G (c.fa_ 59 (f := .glo "need_rows") rfl)
  f_need_rows := fun_at (c.fn_ 32 (d := ⟨("need_rows", none), "need_rows", "need_rows", defArgs s_need_rows, defBody s_need_rows, defScope s_need_rows, [], []⟩) rfl)
  g_need_lots := He.glo_ok X G (c.fa_ 60 (f := .glo "need_lots") rfl)
  f_need_lots := fun_at (c.fn_ 33 (d := ⟨("need_lots", none), "need_lots", "need_lots", defArgs s_need_lots, defBody s_need_lots, defScope s_need_lots, [], []⟩) rfl)
  g_hands_of := He.glo_ok X G (c.fa_ 61 (f := .glo "hands_of") rfl)
  f_hands_of := fun_at (c.fn_ 34 (d := ⟨("hands_of", none), "hands_of", "hands_of", defArgs s_hands_of, defBody s_hands_of, defScope s_hands_of, [], []⟩) rfl)
  g_how_many := He.glo_ok X G (c.fa_ 62 (f := .glo "how_many") rfl)
  f_how_many := fun_at (c.fn_ 35 (d := ⟨("how_many", none), "how_many", "how_many", defArgs s_how_many, defBody s_how_many, defScope s_how_many, [], []⟩) rfl)
  g_moving := He.glo_ok X G (c.fa_ 63 (f := .glo "moving") rfl)
  f_moving := fun_at (c.fn_ 36 (d := ⟨("moving", none), "moving", "moving", defArgs s_moving, defBody s_moving, defScope s_moving, [], []⟩) rfl)
  g_parting := He.glo_ok X G (c.fa_ 64 (f := .glo "parting") rfl)
  f_parting := fun_at (c.fn_ 37 (d := ⟨("parting", none), "parting", "parting", defArgs s_parting, defBody s_parting, defScope s_parting, [], []⟩) rfl)
  g_place_of := He.glo_ok X G (c.fa_ 65 (f := .glo "place_of") rfl)
  f_place_of := fun_at (c.fn_ 38 (d := ⟨("place_of", none), "place_of", "place_of", defArgs s_place_of, defBody s_place_of, defScope s_place_of, [], []⟩) rfl)
  g_numbers_of := He.glo_ok X G (c.fa_ 66 (f := .glo "numbers_of") rfl)
  f_numbers_of := fun_at (c.fn_ 39 (d := ⟨("numbers_of", none), "numbers_of", "numbers_of", defArgs s_numbers_of, defBody s_numbers_of, defScope s_numbers_of, [], []⟩) rfl)
  g_items_of := He.glo_ok X G (c.fa_ 67 (f := .glo "items_of") rfl)
  f_items_of := fun_at (c.fn_ 40 (d := ⟨("items_of", none), "items_of", "items_of", defArgs s_items_of, defBody s_items_of, defScope s_items_of, [], []⟩) rfl)
  g_weight_in := He.glo_ok X G (c.fa_ 68 (f := .glo "weight_in") rfl)
  f_weight_in := fun_at (c.fn_ 41 (d := ⟨("weight_in", none), "weight_in", "weight_in", defArgs s_weight_in, defBody s_weight_in, defScope s_weight_in, [], []⟩) rfl)
  g_lots_in := He.glo_ok X G (c.fa_ 69 (f := .glo "lots_in") rfl)
  f_lots_in := fun_at (c.fn_ 42 (d := ⟨("lots_in", none), "lots_in", "lots_in", defArgs s_lots_in, defBody s_lots_in, defScope s_lots_in, [], []⟩) rfl)
  g_told_in := He.glo_ok X G (c.fa_ 70 (f := .glo "told_in") rfl)
  f_told_in := fun_at (c.fn_ 43 (d := ⟨("told_in", none), "told_in", "told_in", defArgs s_told_in, defBody s_told_in, defScope s_told_in, [], []⟩) rfl)
  g_leaf_in := He.glo_ok X G (c.fa_ 71 (f := .glo "leaf_in") rfl)
  f_leaf_in := fun_at (c.fn_ 44 (d := ⟨("leaf_in", none), "leaf_in", "leaf_in", defArgs s_leaf_in, defBody s_leaf_in, defScope s_leaf_in, [], []⟩) rfl)
  g_place_in := He.glo_ok X G (c.fa_ 72 (f := .glo "place_in") rfl)
  f_place_in := fun_at (c.fn_ 45 (d := ⟨("place_in", none), "place_in", "place_in", defArgs s_place_in, defBody s_place_in, defScope s_place_in, [], []⟩) rfl)
  g_read := He.glo_ok X G (c.fa_ 73 (f := .glo "read") rfl)
  f_read := fun_at (c.fn_ 46 (d := ⟨("read", none), "read", "read", defArgs s_read, defBody s_read, defScope s_read, [], []⟩) rfl)
  g__law_desk := He.glo_ok X G (c.fa_ 74 (f := .glo "_law_desk") rfl)
  f__law_desk := fun_at (c.fn_ 47 (d := ⟨("_law_desk", none), "_law_desk", "_law_desk", defArgs s__law_desk, defBody s__law_desk, defScope s__law_desk, [], []⟩) rfl)
  g__law_pick := He.glo_ok X G (c.fa_ 75 (f := .glo "_law_pick") rfl)
  f__law_pick := fun_at (c.fn_ 48 (d := ⟨("_law_pick", none), "_law_pick", "_law_pick", defArgs s__law_pick, defBody s__law_pick, defScope s__law_pick, [], []⟩) rfl)
  g__law_one_of := He.glo_ok X G (c.fa_ 76 (f := .glo "_law_one_of") rfl)
  f__law_one_of := fun_at (c.fn_ 49 (d := ⟨("_law_one_of", none), "_law_one_of", "_law_one_of", defArgs s__law_one_of, defBody s__law_one_of, defScope s__law_one_of, [], []⟩) rfl)
  g__law_low := He.glo_ok X G (c.fa_ 77 (f := .glo "_law_low") rfl)
  f__law_low := fun_at (c.fn_ 50 (d := ⟨("_law_low", none), "_law_low", "_law_low", defArgs s__law_low, defBody s__law_low, defScope s__law_low, [], []⟩) rfl)
  g__law_told := He.glo_ok X G (c.fa_ 78 (f := .glo "_law_told") rfl)
  f__law_told := fun_at (c.fn_ 51 (d := ⟨("_law_told", none), "_law_told", "_law_told", defArgs s__law_told, defBody s__law_told, defScope s__law_told, [], []⟩) rfl)
  g__law_number := He.glo_ok X G (c.fa_ 79 (f := .glo "_law_number") rfl)
  f__law_number := fun_at (c.fn_ 52 (d := ⟨("_law_number", none), "_law_number", "_law_number", defArgs s__law_number, defBody s__law_number, defScope s__law_number, [], []⟩) rfl)
  g__law_weight := He.glo_ok X G (c.fa_ 80 (f := .glo "_law_weight") rfl)
  f__law_weight := fun_at (c.fn_ 53 (d := ⟨("_law_weight", none), "_law_weight", "_law_weight", defArgs s__law_weight, defBody s__law_weight, defScope s__law_weight, [], []⟩) rfl)
  g__law_lots := He.glo_ok X G (c.fa_ 81 (f := .glo "_law_lots") rfl)
  f__law_lots := fun_at (c.fn_ 54 (d := ⟨("_law_lots", none), "_law_lots", "_law_lots", defArgs s__law_lots, defBody s__law_lots, defScope s__law_lots, [], []⟩) rfl)
  g__law_rows := He.glo_ok X G (c.fa_ 82 (f := .glo "_law_rows") rfl)
  f__law_rows := fun_at (c.fn_ 55 (d := ⟨("_law_rows", none), "_law_rows", "_law_rows", defArgs s__law_rows, defBody s__law_rows, defScope s__law_rows, [], []⟩) rfl)
  g__law_tree := He.glo_ok X G (c.fa_ 83 (f := .glo "_law_tree") rfl)
  f__law_tree := fun_at (c.fn_ 56 (d := ⟨("_law_tree", none), "_law_tree", "_law_tree", defArgs s__law_tree, defBody s__law_tree, defScope s__law_tree, [], []⟩) rfl)
  g__law_made := He.glo_ok X G (c.fa_ 84 (f := .glo "_law_made") rfl)
  f__law_made := fun_at (c.fn_ 57 (d := ⟨("_law_made", none), "_law_made", "_law_made", defArgs s__law_made, defBody s__law_made, defScope s__law_made, [], []⟩) rfl)
  g__law_written := He.glo_ok X G (c.fa_ 85 (f := .glo "_law_written") rfl)
  f__law_written := fun_at (c.fn_ 58 (d := ⟨("_law_written", none), "_law_written", "_law_written", defArgs s__law_written, defBody s__law_written, defScope s__law_written, [], []⟩) rfl)
  g__law_items := He.glo_ok X G (c.fa_ 86 (f := .glo "_law_items") rfl)
  f__law_items := fun_at (c.fn_ 59 (d := ⟨("_law_items", none), "_law_items", "_law_items", defArgs s__law_items, defBody s__law_items, defScope s__law_items, [], []⟩) rfl)
  g__law_listed := He.glo_ok X G (c.fa_ 87 (f := .glo "_law_listed") rfl)
  f__law_listed := fun_at (c.fn_ 60 (d := ⟨("_law_listed", none), "_law_listed", "_law_listed", defArgs s__law_listed, defBody s__law_listed, defScope s__law_listed, [], []⟩) rfl)
  g__law_near := He.glo_ok X G (c.fa_ 88 (f := .glo "_law_near") rfl)
  f__law_near := fun_at (c.fn_ 61 (d := ⟨("_law_near", none), "_law_near", "_law_near", defArgs s__law_near, defBody s__law_near, defScope s__law_near, [], []⟩) rfl)
  g__law_kept_right := He.glo_ok X G (c.fa_ 89 (f := .glo "_law_kept_right") rfl)
  f__law_kept_right := fun_at (c.fn_ 62 (d := ⟨("_law_kept_right", none), "_law_kept_right", "_law_kept_right", defArgs s__law_kept_right, defBody s__law_kept_right, defScope s__law_kept_right, [], []⟩) rfl)
  g_law := He.glo_ok X G (c.fa_ 90 (f := .glo "law") rfl)
  f_law := fun_at (c.fn_ 63 (d := ⟨("law", none), "law", "law", defArgs s_law, defBody s_law, defScope s_law, [], []⟩) rfl)
  g_Scan := He.glo_ok X G (c.fa_ 91 (f := .glo "Scan") rfl)
  mk_Scan := He.mkr_ok (c.fa_ 92 (f := .mkr "Scan") rfl)
  g_End := He.glo_ok X G (c.fa_ 93 (f := .glo "End") rfl)
  mk_End := He.mkr_ok (c.fa_ 94 (f := .mkr "End") rfl)
  g_Hole := He.glo_ok X G (c.fa_ 95 (f := .glo "Hole") rfl)
  mk_Hole := He.mkr_ok (c.fa_ 96 (f := .mkr "Hole") rfl)
  g_Draw := He.glo_ok X G (c.fa_ 97 (f := .glo "Draw") rfl)
  mk_Draw := He.mkr_ok (c.fa_ 98 (f := .mkr "Draw") rfl)
  g_KeeperMove := He.glo_ok X G (c.fa_ 99 (f := .glo "KeeperMove") rfl)
  mk_KeeperMove := He.mkr_ok (c.fa_ 100 (f := .mkr "KeeperMove") rfl)
  g_RivalMove := He.glo_ok X G (c.fa_ 101 (f := .glo "RivalMove") rfl)
  mk_RivalMove := He.mkr_ok (c.fa_ 102 (f := .mkr "RivalMove") rfl)
  g_KeeperHides := He.glo_ok X G (c.fa_ 103 (f := .glo "KeeperHides") rfl)
  mk_KeeperHides := He.mkr_ok (c.fa_ 104 (f := .mkr "KeeperHides") rfl)
  g_RivalHides := He.glo_ok X G (c.fa_ 105 (f := .glo "RivalHides") rfl)
  mk_RivalHides := He.mkr_ok (c.fa_ 106 (f := .mkr "RivalHides") rfl)
  g_KeeperSees := He.glo_ok X G (c.fa_ 107 (f := .glo "KeeperSees") rfl)
  mk_KeeperSees := He.mkr_ok (c.fa_ 108 (f := .mkr "KeeperSees") rfl)
  g_RivalSees := He.glo_ok X G (c.fa_ 109 (f := .glo "RivalSees") rfl)
  mk_RivalSees := He.mkr_ok (c.fa_ 110 (f := .mkr "RivalSees") rfl)
  g_KeeperShows := He.glo_ok X G (c.fa_ 111 (f := .glo "KeeperShows") rfl)
  mk_KeeperShows := He.mkr_ok (c.fa_ 112 (f := .mkr "KeeperShows") rfl)
  g_RivalShows := He.glo_ok X G (c.fa_ 113 (f := .glo "RivalShows") rfl)
  mk_RivalShows := He.mkr_ok (c.fa_ 114 (f := .mkr "RivalShows") rfl)
  g_Place := He.glo_ok X G (c.fa_ 115 (f := .glo "Place") rfl)
  cl_Scan := He.cls_ok (c.fa_ 116 (f := .cls "Scan") rfl)
  n_words := He.noat_ok (c.fa_ 117 (f := .noat "Scan" "words") rfl)
  n_at := He.noat_ok (c.fa_ 118 (f := .noat "Scan" "at") rfl)
  pl := fun w => okC_ok (c.w_ w)
  hn := He.eqO_ok (c.x_ 4 rfl)
  htk := of_decide_eq_true (c.x_ 5 rfl)
  ksP := of_decide_eq_true (c.x_ 6 rfl)
  ktP := of_decide_eq_true (c.x_ 7 rfl)
  eqc := ⟨fun C hC => (by obtain ⟨w, rfl⟩ := hC; exact He.eqO_ok (c.v_ w 0 rfl)), c.x_ 8 rfl, fun C hC => (by obtain ⟨w, rfl⟩ := hC; exact He.eqO_ok (c.v_ w 1 rfl)), fun C hC => (by obtain ⟨w, rfl⟩ := hC; exact of_decide_eq_true (c.v_ w 2 rfl)), fun C C2 hC hC2 => (by obtain ⟨w, rfl⟩ := hC; obtain ⟨w2, rfl⟩ := hC2; exact all_wds (c.v_ w 3 rfl) w2), fun C hC => (by obtain ⟨w, rfl⟩ := hC; exact c.v_ w 4 rfl), fun C hC => (by obtain ⟨w, rfl⟩ := hC; exact c.v_ w 5 rfl)⟩
  stc := ⟨fun C hC => (by obtain ⟨w, rfl⟩ := hC; exact He.eqO_ok (c.v_ w 6 rfl)), c.x_ 9 rfl⟩
end
end PL
end
section
set_option maxHeartbeats 0
/-! HB: the head's run. -/
namespace PL
open PySem PySem.Spec PyProof.Rows L2
abbrev RR : PySem.W.OpenRow := PySem.W.OpenLaw.row PySem.Challenge.rw_planless_k12_whole_texts_of_places
abbrev hkP : PySem.W.Hook := hookP 5
def obH (s : PySem.W.SharedT) : AlP := obsPG 5 (HandSHeadRun.getT s)
theorem obH_eq (s : PySem.W.SharedT) : obH s = hkP.obs s.abs := obsPG_eq (HandSHeadRun.getT_eq s)
def nm1 : List PySem.Str := ["_wall", "PlayError", "BadNumber", "BadPiece", "Misfit", "TooMany", "BadText", "is_integer", "is_within", "is_list", "common", "is_number", "is_weight", "is_row", "is_weights"]
def nm2 : List PySem.Str := ["is_lot", "kept", "kept_row", "BAR", "FIGURES", "MOST_FIGURES", "integer_in", "number_in", "Scan", "halves", "below", "text_in", "MOST_HANDS", "MOST_PARTS", "MOST_COUNT"]
def nm3 : List PySem.Str := ["MOST_LEVELS", "MOST_PLACES", "MOVES", "SINGLE", "SHOWS", "Place", "End", "Hole", "KeeperMove", "RivalMove", "Draw", "KeeperHides", "RivalHides", "KeeperSees", "RivalSees"]
def nm4 : List PySem.Str := ["KeeperShows", "RivalShows", "need_room", "need_table", "need_place", "need_parts", "need_alike", "need_counts", "need_rows", "need_lots", "hands_of", "how_many", "moving", "parting", "place_of"]
def nm5 : List PySem.Str := ["numbers_of", "items_of", "WORDS", "weight_in", "lots_in", "told_in", "leaf_in", "place_in", "read", "_law_desk", "_law_pick", "_law_one_of", "_law_low", "_law_plus", "_law_minus"]
def nm6 : List PySem.Str := ["_law_times", "_law_part", "_law_less", "_law_told", "_law_number", "_law_weight", "_law_lots", "_law_rows", "_law_tree", "_law_made", "_law_written", "_law_items", "_law_listed", "_law_near", "_law_kept_right"]
def namesL : List PySem.Str := nm1 ++ nm2 ++ nm3 ++ nm4 ++ nm5 ++ nm6
theorem runP (w : World) : HandSHeadRun.RunEq RR (PySem.W.view RR.prog [97]) hkP obH 20000 namesL w := by
  intro os
  kernel_rfl
end PL
end
section
set_option maxHeartbeats 4000000
/-! PX: plain facts of the data. -/
namespace PL
open PySem
theorem canAll : ∀ {xs : List PyData}, (∀ x ∈ xs, x.canLay0 = true) → PyData.canLayAll0 xs = true
  | [], _ => by simp [PyData.canLayAll0]
  | x :: xs, h => by
    simp only [PyData.canLayAll0, Bool.and_eq_true]
    exact ⟨h x (List.mem_cons_self ..), canAll fun y hy => h y (List.mem_cons_of_mem _ hy)⟩
theorem depAll {n : Nat} : ∀ {xs : List PyData}, (∀ x ∈ xs, x.depth ≤ n) → PyData.depthAll xs ≤ n
  | [], _ => by simp [PyData.depthAll]
  | x :: xs, h => by
    simp only [PyData.depthAll]
    exact Nat.max_le.mpr ⟨h x (List.mem_cons_self ..), depAll fun y hy => h y (List.mem_cons_of_mem _ hy)⟩
/-- laid, at most n deep -/
def Shp (n : Nat) (d : PyData) : Prop := d.canLay0 = true ∧ d.depth ≤ n
theorem Shp.shaped {n : Nat} {d : PyData} (h : Shp n d) (hn : n ≤ 64) : SeqAt.shaped d = true := by
  unfold SeqAt.shaped
  rw [h.1, decide_eq_true (Nat.le_trans h.2 hn)]
  rfl
theorem Shp.mono {n m : Nat} {d : PyData} (h : Shp n d) (hn : n ≤ m) : Shp m d := ⟨h.1, Nat.le_trans h.2 hn⟩
theorem Shp.int (n : Nat) (i : Int) : Shp n (.int i) := ⟨by simp [PyData.canLay0], by simp [PyData.depth]⟩
theorem Shp.tup {n : Nat} {xs : List PyData} (h : ∀ x ∈ xs, Shp n x) : Shp (n + 1) (.tuple xs) := ⟨by
    simp only [PyData.canLay0]
    exact canAll fun x hx => (h x hx).1, by
    simp only [PyData.depth]
    exact Nat.succ_le_succ (depAll fun x hx => (h x hx).2)⟩
theorem Shp.lst {n : Nat} {xs : List PyData} (h : ∀ x ∈ xs, Shp n x) : Shp (n + 1) (.list xs) := ⟨by
    simp only [PyData.canLay0]
    exact canAll fun x hx => (h x hx).1, by
    simp only [PyData.depth]
    exact Nat.succ_le_succ (depAll fun x hx => (h x hx).2)⟩
theorem Shp.nm (n : Nm) : Shp 1 n.data := by
  cases n with
  | i n => exact .int 1 n
  | f p q =>
    refine Shp.tup (n := 0) fun x hx => ?_
    rcases List.mem_cons.mp hx with z | z
    · rw [z]; exact .int 0 p
    · rw [List.mem_singleton.mp z]; exact .int 0 q
theorem Shp.told (t : Told) : Shp 3 t.data := by
  cases t with
  | unit => exact (Shp.tup (n := 0) (xs := []) (fun x hx => by simp at hx)).mono (by omega)
  | rows r =>
    refine Shp.tup (n := 2) fun x hx => ?_
    obtain ⟨y, _, rfl⟩ := List.mem_map.mp hx
    refine Shp.tup (n := 1) fun z hz => ?_
    obtain ⟨u, _, rfl⟩ := List.mem_map.mp hz
    exact .nm u
  | row r =>
    refine (Shp.tup (n := 1) fun x hx => ?_).mono (by omega)
    obtain ⟨y, _, rfl⟩ := List.mem_map.mp hx
    exact .nm y
  | lots c =>
    refine (Shp.tup (n := 1) fun x hx => ?_).mono (by omega)
    obtain ⟨y, _, rfl⟩ := List.mem_map.mp hx
    refine Shp.tup (n := 0) fun z hz => ?_
    obtain ⟨u, _, rfl⟩ := List.mem_map.mp hz
    exact .int 0 _
theorem Shp.wd (w : Wd) : Shp 0 (.str w.s) := ⟨by cases w <;> decide +kernel, by simp [PyData.depth]⟩
mutual
theorem Shp.tr : ∀ t : Tr, Shp (2 * t.lev + 2) t.data
  | .node w t ps m i => by
    rw [Tr.data, Tr.lev]
    refine (Shp.tup (n := 2 * levL ps + 3) fun x hx => ?_).mono (by omega)
    have hx' : x = .str w.s ∨ x = t.data ∨ x = .tuple (dataL ps) ∨ x = .int (m : Int) ∨ x = .int (i : Int) := by simpa using hx
    rcases hx' with z | z | z | z | z
    · rw [z]; exact (Shp.wd w).mono (by omega)
    · rw [z]; exact (Shp.told t).mono (by omega)
    · rw [z]; exact Shp.tup (n := 2 * levL ps + 2) (Shp.trL ps)
    · rw [z]; exact .int _ _
    · rw [z]; exact .int _ _
theorem Shp.trL : ∀ ps : List Tr, ∀ x ∈ dataL ps, Shp (2 * levL ps + 2) x
  | [], x, h => by rw [dataL] at h; simp at h
  | p :: r, x, h => by
    rw [dataL] at h
    rw [levL]
    rcases List.mem_cons.mp h with z | z
    · rw [z]; exact (Shp.tr p).mono (by have := Nat.le_max_left p.lev (levL r); omega)
    · exact (Shp.trL r x z).mono (by have := Nat.le_max_right p.lev (levL r); omega)
end
theorem Shp.refl {n : Nat} {d : PyData} (h : Shp n d) : PyData.eqv d d = true := SeqAt.eqv_refl d h.1
theorem lot_len {c : List Nat} (hc : Rgs c) {i : Nat} {y : List Nat} (h : (lotsOf c)[i]? = some y) : y.length ≤ c.length := by
  have e := (lots_inv hc).perm.length_eq
  rw [List.length_range] at e
  rw [← e]
  exact (List.sublist_flatten_of_mem (List.mem_of_getElem? h)).length_le
theorem flat_getD {α β : Type} (f : α → β) (L : List (List α)) : ((List.range L.length).flatMap fun i => (L.getD i []).map f) = L.flatten.map f := by
  rw [List.flatMap_def, List.map_flatten]
  congr 1
  refine List.ext_getElem (by simp) fun k h1 h2 => ?_
  have hk : k < L.length := by simpa using h2
  simp [List.getD_eq_getElem?_getD, List.getElem?_eq_getElem hk]
end PL
end
section
set_option maxHeartbeats 4000000
/-! PB7: enumerate of a tuple. -/
namespace PL
section
open PySem
open AutoSeq1 (wpAny_loadPart')
theorem meets_enumerate_newT (l : Addr) (items : Array Value) (n : Nat) (dct : Option Addr) (sl : Array (Option Value)) :
    Meets (Builtin.«enumerate.__new__» ⟨[.type "enumerate", .ref l], []⟩) (fun _ R s => s.heap.get? l = some { cls := .type "tuple", dict := dct, data := .seq items n, slots := sl } ∧
      R (.ok (.ret (.ref (s.heap.push { cls := .type "tuple_iterator", data := .fields #[.ref l, .int 0 0] }).objs.size)))
        { s with heap := (s.heap.push { cls := .type "tuple_iterator", data := .fields #[.ref l, .int 0 0] }).push { cls := .type "enumerate", data := .fields #[.none, .bool false, .ref s.heap.objs.size, rawInt 0, .none, .none] } }) :=
  .of_wp fun prog w A R s h => by
    obtain ⟨hp, g, d, tk, os⟩ := s; obtain ⟨hl, h⟩ := h
    have hsub := sub_enumerate
    have hL : Heap.IsTuple (Shared.heap ⟨hp, g, d, tk, os⟩) l items := ⟨_, hl, rfl, n, rfl⟩
    wp_walk using wpAny_loadPart' hl
    refine wpAny_stack_any fun st => wpAny_pure ?_
    split
    · rename_i c _ _ _ _ _
      cases (c == Value.type "enumerate")
      · wp_walk using wpAny_loadPart' hl, wpAny_pyIter_tuple hL
        exact ⟨_, rfl, h⟩
      · wp_walk using wpAny_loadPart' hl, wpAny_pyIter_tuple hL
        exact ⟨_, rfl, h⟩
    · wp_walk using wpAny_loadPart' hl, wpAny_pyIter_tuple hL
      exact ⟨_, rfl, h⟩
section
variable {prog : Program} {w : World} {A : Around} {E : Value → Shared → Prop} {s : Shared}
theorem call_enumerate_tuple {l : Addr} {items : Array Value} {Q : Value → Shared → Prop} (hL : s.heap.IsTuple l items)
    (h : ∀ h', IsEnum h' (s.heap.objs.size + 1) s.heap.objs.size 0 .none → h'.IsTupleIter s.heap.objs.size l 0 → h'.objs.size = s.heap.objs.size + 2 →
      (∀ b o, s.heap.get? b = some o → h'.get? b = some o) → Q (.ref (s.heap.objs.size + 1)) { s with heap := h' }) :
    wpAny (model prog w) A (call (.type "enumerate") [.ref l]) Q E s := by
  obtain ⟨⟨c, dct, dt, sl⟩, hl, hc, n, hd⟩ := hL
  replace hc : c = .type "tuple" := hc
  replace hd : dt = .seq items n := hd
  subst hc hd
  refine callType_new F.called_enumerate (by decide) (F.typeCall_enumerate_1 _) (F.newCall_enumerate_1 _) (fun obj => F.args_object_init_2 obj _) F.entry_enumerate_new
    (meets_enumerate_newT l items n dct sl) ⟨hl, ?_⟩
  have hz : (s.heap.push { cls := .type "tuple_iterator", data := .fields #[.ref l, .int 0 0] }).objs.size = s.heap.objs.size + 1 := Heap.size_push ..
  show _ ∧ _
  rw [hz]
  have he : IsEnum ((s.heap.push { cls := .type "tuple_iterator", data := .fields #[.ref l, .int 0 0] }).push
      { cls := .type "enumerate", data := .fields #[.none, .bool false, .ref s.heap.objs.size, rawInt 0, .none, .none] }) (s.heap.objs.size + 1) s.heap.objs.size 0 .none := by
    have := Heap.get?_push_size (s.heap.push { cls := .type "tuple_iterator", data := .fields #[.ref l, .int 0 0] })
      (o := { cls := .type "enumerate", data := .fields #[.none, .bool false, .ref s.heap.objs.size, rawInt 0, .none, .none] }) rfl
    rw [hz] at this; exact this
  refine ⟨⟨_, he, rfl⟩, h _ he ⟨_, Heap.get?_push_of_some _ (Heap.get?_push_size _ rfl), rfl, rfl⟩ (by rw [Heap.size_push, hz]) fun b o x => Heap.get?_push_of_some _ (Heap.get?_push_of_some _ x)⟩
end
end
open PySem PySem.Spec PyProof.Rows L2
/-- the tuple at a, each item in a new pair -/
def IteT (K : PySem.W.Frag) (a : Addr) : It :=
  ⟨fun i H => ∃ (xs : List V) (x : V), SqT K H a xs ∧ xs[i]? = some x, fun i H v H' => ∃ T x, v = .ref T ∧ H T = none ∧ H' = upd H T (.tup [.int (i : Nat), x]) ∧ ∀ xs, SqT K H a xs → xs[i]? = some x, fun i H => ∃ xs : List V, SqT K H a xs ∧ xs.length = i⟩
theorem turn_enumT {P : Program} {w : World} {K : PySem.W.Frag} {elts : List Expr} {kk : Nat} {tpos : Pos} (a e it : Addr) :
    Turn P w K (.Tuple elts kk tpos) (IteT K a) [e, it] e (fun i h => (∃ old, IsEnum h e it ((i : Nat) : Int) old) ∧ h.IsTupleIter it a i ∧ e ≠ it ∧ a ≠ it) where
  mem := by simp
  obj := fun i h st b hb => by
    obtain ⟨⟨old, he⟩, ⟨o, ho, hc, hd⟩, _⟩ := st
    have e' : b = e ∨ b = it := by simpa using hb
    rcases e' with z | z
    · rw [z]; exact ⟨_, he, fun v q => nomatch q⟩
    · rw [z]; exact ⟨o, ho, fun v q => by rw [hd] at q; cases q⟩
  keep := fun i h h' st k => let ⟨⟨old, he⟩, hi, hne, hne2⟩ := st; ⟨⟨old, k e (by simp) _ he⟩, hi.at fun o q => k it (by simp) o q, hne, hne2⟩
  item := by
    intro X hP hw hK hc i pins s σ H E I hf st hg
    subst hP hw hK
    obtain ⟨⟨old, he⟩, hit, hne, hne2⟩ := st
    obtain ⟨xs, x, hq, hx⟩ := hg
    obtain ⟨its, rv, p, hz⟩ := I.tuple hq
    obtain ⟨u, hu, ru⟩ := rv.get hx
    have hel : e < s.heap.objs.size := Heap.lt_size he
    have hil : it < s.heap.objs.size := by obtain ⟨_, q, _⟩ := hit; exact Heap.lt_size q
    have hiu : i < its.length := (List.getElem?_eq_some_iff.mp hu).1
    have hea : e ≠ a := by
      rintro rfl
      obtain ⟨o, ho, hc, _⟩ := p
      have he' : s.heap.get? e = _ := he
      rw [he'] at ho
      cases ho
      exact absurd (Value.type.inj hc) (by decide)
    refine wpAny_pyNext_enum_itemD (Draws.tuple (prog := X.prog) (w := X.w) (A := X.A.in1) (by exact I.ok.hd hc) it a hne2 its.toArray) he ⟨hit, p⟩ (by simpa using hiu) hne (by simp [hne, hea]) fun x' h' tk hP ho hit' hT hsz hk => ?_
    have hxu : x' = u := by
      have e1 : its.toArray[i]? = some x' := hP
      have e2 : its[i]? = some x' := by simpa using e1
      rw [hu] at e2
      exact (Option.some.inj e2).symm
    subst hxu
    refine ⟨_, rfl, wpAny_letOwnedTupleGo_enum (s := { s with heap := h', toks := tk + 1 }) ho fun h'' he' sb => ?_⟩
    have hT2 : h''.get? s.heap.objs.size = some { cls := .type "tuple", data := .seq #[.int i tk, x'] } := (sb.2 _ (Nat.ne_of_gt hel)).trans hT
    have new : ObjOk X.prog X.w (upd H s.heap.objs.size (.tup [.int (i : Nat), x])) h'' s.heap.objs.size (.tup [.int (i : Nat), x]) :=
      ⟨by show 2 ≤ sizeLine; decide, [.int i tk, x'], .cons ⟨_, rfl⟩ (.cons ru .nil), ⟨_, hT2, rfl, _, rfl⟩⟩
    have I1 : Inv X pins σ (upd H s.heap.objs.size (.tup [.int (i : Nat), x])) { s with heap := h'', toks := tk + 1 } :=
      I.turnedNew (ch := [e, it]) (fun b ob hb q => (sb.2 b (fun z => hb (by simp [z]))).trans (hk b ob (fun z => hb (by simp [z])) (fun z => hb (by simp [z])) q)) hf (Nat.le_refl _) new
    refine ⟨.ref s.heap.objs.size, _, I1, rfl, ⟨_, x, rfl, I.hok.fresh (Nat.le_refl _), rfl, fun ys hy => by rw [I.tuple_inj hy hq]; exact hx⟩, ⟨⟨x', ?_⟩, hit'.1.at fun o q => (sb.2 it (Ne.symm hne)).trans q, hne, hne2⟩, fun b hb => ?_⟩
    · have e1 : ((i + 1 : Nat) : Int) = (i : Int) + 1 := by omega
      rw [e1]; exact he'
    · have hb' : b < s.heap.objs.size := by
        have e' : b = e ∨ b = it := by simpa using hb
        rcases e' with z | z
        · rw [z]; exact hel
        · rw [z]; exact hil
      rw [upd_ne (Nat.ne_of_lt hb')]
      exact (hf b hb).1
  done := by
    intro X hP hw hK hc i pins s σ H E I hf st hg
    subst hP hw hK
    obtain ⟨⟨old, he⟩, hit, hne, hne2⟩ := st
    obtain ⟨xs, hq, hx⟩ := hg
    obtain ⟨its, rv, p, hz⟩ := I.tuple hq
    obtain ⟨f0, f1, f2, f3, f4, f5⟩ := hf it (by simp)
    have hl := rv.length
    have D := Draws.tuple (prog := X.prog) (w := X.w) (A := X.A.in1) (by exact I.ok.hd hc) it a hne2 its.toArray
    have ei : i = its.toArray.size := by rw [List.size_toArray, ← hl, hx]
    subst ei
    exact wpAny_pyNext_enum_endD D he ⟨hit, p⟩ fun h' eb => ⟨rfl, I.turned (t' := s.toks) (fun b o hb q => eb b o hb q) f0 f1 f3 f4 f5⟩
  self := fun A i s Q E st h => let ⟨⟨_, he⟩, _⟩ := st; wpAny_pyIter_enum he h

def iEnumT (K : PySem.W.Frag) (ta : TA) : TI := fun σ H R => ta σ H fun vs H1 => ∃ a xs, vs = [.ref a] ∧ SqT K H1 a xs ∧ R (IteT K a) H1
/-- enumerate(a list | a tuple) -/
def iEnumA (K : PySem.W.Frag) (ta : TA) : TI := fun σ H R => ta σ H fun vs H1 => ∃ a xs, vs = [.ref a] ∧ ((SqL K H1 a xs ∧ R (Ite K a) H1) ∨ (SqT K H1 a xs ∧ R (IteT K a) H1))
theorem pi_enumA {X : Cx} {e : Expr} {ta : TA} {p pos tpos : Pos} {elts : List Expr} {kk : Nat} (hg : Gl X "enumerate") (hm : X.mg "enumerate" = none) (ha : PA X [e] ta) (hs : starEach [e] X.env = [(false, eval e X.env)] := by rfl) :
    PI X (.Tuple elts kk tpos) (.Call (.Name "enumerate" p) [e] [] pos) (iEnumA X.K ta) := by
  refine ⟨fun pins s σ H R I h => ?_⟩
  refine Call_ (ld_blt I hg hm boot_enumerate (PyProof.Rows.callWith_type1 (thn (ha.run pos pins s σ H _ I h) fun us s1 ⟨vs, H1, I1, r1, q1⟩ => ?_) hs rfl))
  obtain ⟨a, xs, ex, hq⟩ := q1
  subst ex
  cases r1 with
  | cons r rr =>
    cases rr
    cases r
    have fin : ∀ {h' : Heap}, (∀ b o, s1.heap.get? b = some o → h'.get? b = some o) → ∀ b ∈ [s1.heap.objs.size + 1, s1.heap.objs.size], FpOk X pins H1 b := fun {h'} hk b hb => by
      have e' : b = s1.heap.objs.size + 1 ∨ b = s1.heap.objs.size := by simpa using hb
      have hle : s1.heap.objs.size ≤ b := by
        rcases e' with z | z
        · rw [z]; exact Nat.le_add_right _ _
        · rw [z]; exact Nat.le_refl _
      exact I1.fpOk hle (I1.hok.fresh hle)
    rcases hq with ⟨hq, q⟩ | ⟨hq, q⟩
    · obtain ⟨its, rv, p', hz⟩ := I1.list hq
      refine call_enumerate_list p'.isList fun h' he hit hsz hk => wpAny_pyIter_enum he ?_
      have I2 : Inv X pins σ H1 { s1 with heap := h' } := I1.kept (t' := s1.toks) hk
      exact ⟨s1.heap.objs.size + 1, [s1.heap.objs.size + 1, s1.heap.objs.size], _, _, H1, rfl, I2, turn_enum a (s1.heap.objs.size + 1) s1.heap.objs.size, ⟨⟨.none, he⟩, hit, Nat.succ_ne_self _⟩, fin hk, q⟩
    · obtain ⟨its, rv, p', hz⟩ := I1.tuple hq
      refine call_enumerate_tuple p' fun h' he hit hsz hk => wpAny_pyIter_enum he ?_
      have I2 : Inv X pins σ H1 { s1 with heap := h' } := I1.kept (t' := s1.toks) hk
      have hlt : a < s1.heap.objs.size := by obtain ⟨o, ho, _⟩ := p'; exact Heap.lt_size ho
      exact ⟨s1.heap.objs.size + 1, [s1.heap.objs.size + 1, s1.heap.objs.size], _, _, H1, rfl, I2, turn_enumT a (s1.heap.objs.size + 1) s1.heap.objs.size, ⟨⟨.none, he⟩, hit, Nat.succ_ne_self _, Nat.ne_of_lt hlt⟩, fin hk, q⟩
theorem walk_enumT {K : PySem.W.Frag} {a : Addr} {xs : List V} : Walk (IteT K a) xs.length (fun H => SqT K H a xs) (YPair (fun i => some (.int (i : Nat))) (fun i => xs[i]?)) where
  goes := fun i H hi h => ⟨xs, xs[i], h, List.getElem?_eq_getElem hi⟩
  stops := fun H h => ⟨xs, h, rfl⟩
  yields := fun i H x H' hi h y => by
    obtain ⟨T, z, e1, e2, e3, e4⟩ := y
    exact ⟨T, .int (i : Nat), z, e1, e2, e3, rfl, e4 xs h⟩
end PL
end
section
set_option maxHeartbeats 4000000
/-! PB9: sum of a tuple. -/
namespace PL
section
open PySem
variable {prog : Program} {w : World} {A : Around} {E : Value → Shared → Prop} {s : Shared} {l : Addr} {xs : Array (Int × Tok)}
theorem iter_intTup {Q : Value → Shared → Prop} (hl : s.heap.IsTuple l (intItems xs))
    (h : ∀ s₂ : Shared, s₂ = { s with heap := s.heap.push { cls := .type "tuple_iterator", data := .fields #[.ref l, .int 0 0] } } →
      (s₂.heap.IsTupleIter s.heap.objs.size l 0 ∧ s₂.heap.IsTuple l (intItems xs)) → (∀ b ∈ [s.heap.objs.size, l], b < s₂.heap.objs.size) → l ≠ s.heap.objs.size → Q (.ref s.heap.objs.size) s₂) :
    wpAny (model prog w) A (pyIter (.ref l)) Q E s := by
  have hlt : l < s.heap.objs.size := by obtain ⟨_, e, _⟩ := hl; exact Heap.lt_size e
  refine wpAny_pyIter_tuple hl (h _ rfl ⟨⟨_, Heap.get?_push_size _ rfl, rfl, rfl⟩, ?_⟩ (fun b hb => ?_) (Nat.ne_of_lt hlt))
  · obtain ⟨o, e, r⟩ := hl
    exact ⟨o, Heap.get?_push_of_some _ e, r⟩
  show b < (s.heap.push _).objs.size
  rw [Heap.size_push]
  rcases List.mem_cons.mp hb with rfl | hb
  · exact Nat.lt_succ_self _
  · rcases List.mem_cons.mp hb with rfl | hb
    · exact Nat.lt_succ_of_lt hlt
    · cases hb
theorem sum_intTupG {Q : Value → Shared → Prop} (hh : A.handled = none) (hl : s.heap.IsTuple l (intItems xs))
    (h : ∀ h' tk t', (∀ b o, s.heap.get? b = some o → h'.get? b = some o) → Q (.int (preSum (numAt xs) xs.size) t') { s with heap := h', toks := tk }) :
    wpAny (model prog w) A (call (.builtin "sum") [.ref l]) Q E s := by
  refine call_sum_walkG (iter_intTup hl fun s₂ e st hfp hlI => ?_)
  subst e
  refine ⟨_, _, _, _, _, _, numAt xs, rfl, Walks.tuple (A := A.in1) hh _ l hlI (intItems xs), st, hfp, (fun _ _ => intItems_at), fun h' tk t' hk => ?_⟩
  have := h h' tk t' fun b o e => by
    refine hk b o (fun hm => ?_) (Heap.get?_push_of_some _ e)
    rcases List.mem_cons.mp hm with e1 | hm
    · exact absurd (e1 ▸ Heap.lt_size e) (Nat.lt_irrefl _)
    · cases hm
  simpa [intItems] using this
end
open PySem PySem.Spec PyProof.Rows L2
section
variable {prog : Program} {w : World} {A : Around} {E : Value → Shared → Prop} {s : Shared} {l : Addr} {its : List Value} {ns : List Int} {Q : Value → Shared → Prop}
theorem sum_rawT (hh : A.handled = none) (hl : s.heap.IsTuple l its.toArray) (hi : IntsAre its ns)
    (h : ∀ h' tk t', (∀ b o, s.heap.get? b = some o → h'.get? b = some o) → Q (.int ns.sum t') { s with heap := h', toks := tk }) : wpAny (model prog w) A (call (.builtin "sum") [.ref l]) Q E s := by
  obtain ⟨xs, e⟩ := hi.allInts.items
  have hn : numsOf (intItems xs).toList = ns := by rw [← e]; exact hi.numsOf
  rw [nums_intItems] at hn
  rw [e] at hl
  refine sum_intTupG hh hl fun h' tk t' hk => ?_
  have := h h' tk t' hk
  rw [preSum_eq, List.take_of_length_le (by simp), hn]; exact this
end
section
variable {X : Cx}
/-- sum(xs), xs a tuple or list of ints -/
def rSumT (K : PySem.W.Frag) : List V → Hp → VK → Prop := fun vs H Q => ∃ (a : Addr) (ns : List Int), vs = [V.ref a] ∧ SqT K H a (ns.map V.int) ∧ Q (.int ns.sum) H
theorem ksumT (K : PySem.W.Frag) (h : X.K = K) (hc : X.calm = true) : CallR X (.builtin "sum") (rSumT K) := by
  subst h
  intro pins s σ H vs us Q I r h
  obtain ⟨a, ns, rfl, hs, q⟩ := h
  obtain ⟨its, rv, hl, _⟩ := I.tuple hs
  rw [Vals.ref1 r]
  exact sum_rawT (I.ok.hd hc) hl rv.ints fun h' tk t' hk => ⟨.int _, H, I.kept hk, ⟨_, rfl⟩, q⟩
end
end PL
end
section
set_option maxHeartbeats 4000000
/-! PK: the rules again, by the facts K alone (so that they fit within comprehensions). -/
namespace PL
open PySem PySem.Spec PyProof.Rows L2
section
variable {X : Cx} {a b e e2 o : Expr} {ta tb te to : TE} {tA : TA} {pos p apos tpos : Pos} {es elts : List Expr} {kk : Nat}
theorem kix (K : PySem.W.Frag) (h : X.K = K) : IxR X (rIxA K) := by subst h; exact ix_any
theorem klen (K : PySem.W.Frag) (h : X.K = K) : CallR X (.builtin "len") (rLenA K) := by subst h; exact call_lenA
theorem ktup (K : PySem.W.Frag) (h : X.K = K) : CallR X (.type "tuple") (rTupA K) := by subst h; exact call_tupA
theorem kisi (K : PySem.W.Frag) (h : X.K = K) : CallR X (.builtin "isinstance") (rIsi K) := by subst h; exact call_isi
theorem kisiT (K : PySem.W.Frag) (h : X.K = K) : CallR X (.builtin "isinstance") (rIsiT K) := by subst h; exact call_isiT
theorem kin (K : PySem.W.Frag) (h : X.K = K) : OpR X (compareOp .In) (rIn K false) := by subst h; exact op_in_seq
theorem knotin (K : PySem.W.Frag) (h : X.K = K) : OpR X (compareOp .NotIn) (rIn K true) := by subst h; exact op_notIn_seq
theorem kall (K : PySem.W.Frag) (h : X.K = K) (hc : X.calm = true) : CallR X (.builtin "all") (rAll K) := by subst h; exact cr_all hc
theorem kany (K : PySem.W.Frag) (h : X.K = K) (hc : X.calm = true) : CallR X (.builtin "any") (rAny K) := by subst h; exact cr_any hc
theorem ksum (K : PySem.W.Frag) (h : X.K = K) (hc : X.calm = true) : CallR X (.builtin "sum") (rSum K) := by subst h; exact cr_sum hc
theorem kmax (K : PySem.W.Frag) (h : X.K = K) (hc : X.calm = true) : CallR X (.builtin "max") (rMax K) := by subst h; exact cr_max hc
theorem ksorted (K : PySem.W.Frag) (h : X.K = K) : CallR X (.builtin "sorted") (rSorted K) := by subst h; exact cr_sorted
theorem ksl (K : PySem.W.Frag) (h : X.K = K) : SlR X (rSlL K) := by subst h; exact sl_list
theorem kslT (K : PySem.W.Frag) (h : X.K = K) : SlR X (rSlA K) := by subst h; exact sl_tupA
theorem kcatT (K : PySem.W.Frag) (h : X.K = K) : OpR X (binaryOp .Add) (rCatA K) := by subst h; exact op_catA
theorem keqD (K : PySem.W.Frag) (h : X.K = K) {n : Nat} (hr : Room n X.A) : OpR X (compareOp .Eq) (rEqD K) := by subst h; exact op_eqD hr.units
theorem kneD (K : PySem.W.Frag) (h : X.K = K) {n : Nat} (hr : Room n X.A) : OpR X (compareOp .NotEq) (rNeD K) := by subst h; exact op_neD hr.units
theorem kpi (K : PySem.W.Frag) (h : X.K = K) {tg l : Expr} {tl : TE} (hl : PE X l tl) : PI X tg l (iAny K tl) := by subst h; exact pi_any hl
theorem kstar (K : PySem.W.Frag) (h : X.K = K) (he : PE X e te) (hr : PA X es tA) (hs : starEach (.Starred e p :: es) X.env = (true, eval e X.env) :: starEach es X.env := by rfl) : PA X (.Starred e p :: es) (StX.tStar K te tA) := by
  subst h
  exact StX.pa_star he hr hs
theorem kenum (K : PySem.W.Frag) (h : X.K = K) (hg : Gl X "enumerate") (hm : X.mg "enumerate" = none) (ha : PA X [e] tA) (hs : starEach [e] X.env = [(false, eval e X.env)] := by rfl) :
    PI X (.Tuple elts kk tpos) (.Call (.Name "enumerate" p) [e] [] pos) (iEnumA K tA) := by
  subst h
  exact pi_enumA hg hm ha hs
theorem kzip (K : PySem.W.Frag) (h : X.K = K) (hg : Gl X "zip") (hm : X.mg "zip" = none) (ha : PA X [e, e2] tA)
    (hs : starEach [e, e2] X.env = (false, eval e X.env) :: starEach [e2] X.env := by rfl) (hpl : (backTo pos (starEach [e2] X.env)).any (·.1) = false := by rfl) :
    PI X (.Tuple elts kk tpos) (.Call (.Name "zip" p) [e, e2] [] pos) (RZ.iZipA K tA) := by
  subst h
  exact RZ.pi_zipA hg hm ha hs hpl
theorem kfld (K : PySem.W.Frag) (h : X.K = K) {f : Str} (he : PE X e te) (hb : attributeBase e f X.env (eval e X.env) = eval e X.env) : PE X (.Attribute e f pos) (tFld K te f) := by
  subst h
  exact pe_fld he hb
theorem ksfld (K : PySem.W.Frag) (h : X.K = K) {f : Str} {value : Expr} {tv : TE} (ha : PE X o ta) (hv : PE X value tv) (hs : swapsWith value (some (.Attribute o f p)) pos.line X.env = pure false) : PS X (.Assign [.Attribute o f p] value pos) (sFld K ta tv f) := by
  subst h
  exact ps_fld ha hv hs
theorem kgfld (K : PySem.W.Frag) (h : X.K = K) {f : Str} (ho : PE X o ta) : PG X (.Attribute o f pos) (gFld K ta f) := by
  subst h
  exact pg_fld ho
theorem kgtup (K : PySem.W.Frag) (n : Nat) (h : X.K = K) {k : Nat} {t : TGs} (hc : X.calm = true) (ht : PGs X es t)
    (hn : (assignEach es X.env).length = n := by rfl) (hst : (assignEach es X.env).findIdx? (·.1) = none := by rfl) : PG X (.Tuple es k pos) (gTup K n t) := by
  subst h
  exact pg_tup hc ht hn hst
/-- xs.append(e) -/
theorem kapp (K : PySem.W.Frag) (h : X.K = K) (ho : PE X o to) (he : PE X e te) (hs : starEach [e] X.env = [(false, eval e X.env)] := by rfl) (hbase : attributeBase o "append" X.env (eval o X.env) = eval o X.env := by rfl)
    (hfew : ((backTo pos (starEach [e] X.env)).all (fun x => !x.1) && (backToKw pos (keywordEach [] X.env)).all (fun x => x.1.isSome)
      && decide (([e] : List Expr).length + ([] : List Keyword).length + (if ([] : List Keyword).isEmpty then 0 else 1) < 30)) = true := by rfl)
    (hline : (apos.endLine == pos.line) = true := by rfl) (hplain : (backTo pos (starEach [] X.env)).any (·.1) = false := by rfl) :
    PE X (.Call (.Attribute o "append" apos) [e] [] pos) (tBM K "list" rAppend to (tCons te tNil)) := by
  subst h
  exact pe_bm (es := []) PySem.F.plainAttrs_list PySem.F.slot_list_append PySem.F.type_list_append mt_append ho (pa_cons he pa_nil hs) hbase hfew hline hs hplain
/-- sep.join(a list or tuple of texts) -/
def rJoin (K : PySem.W.Frag) : V → List V → Hp → VK → Prop := fun x xs H Q => ∃ a p, ∃ ys : List Str, x = .str a ∧ xs = [.ref p] ∧ (SqL K H p (ys.map V.str) ∨ SqT K H p (ys.map V.str)) ∧
  (ys.map (·.length)).sum + ys.length * a.length ≤ 16777216 ∧ Q (.str (Txt.join a ys)) H
theorem kjoin (K : PySem.W.Frag) (h : X.K = K) (ho : PE X o to) (he : PE X e te) (hs : starEach [e] X.env = [(false, eval e X.env)] := by rfl) (hbase : attributeBase o "join" X.env (eval o X.env) = eval o X.env := by rfl) (hline : (apos.endLine == pos.line) = true := by rfl) :
    PE X (.Call (.Attribute o "join" apos) [e] [] pos) (tM1 (rJoin K) to te) := by
  subst h
  exact pe_join ho he hs hbase hline
end
end PL
end
section
set_option maxHeartbeats 4000000
/-! PR: how the data lies in the heap; what is kept; comprehensions. -/
namespace PL
open PySem PySem.Spec PyProof.Rows L2
/-! ### what is kept -/
/-- all but what stands at o is kept -/
def Kp (o : Option Addr) (H H' : Hp) : Prop := ∀ b u, H b = some u → some b ≠ o → H' b = some u
theorem Kp.of {o : Option Addr} {H H' : Hp} (e : Same H H') : Kp o H H' := fun b u h _ => e b u h
theorem Kp.same {H H' : Hp} (e : Kp none H H') : Same H H' := fun b u h => e b u h (by simp)
theorem Kp.refl (o : Option Addr) (H : Hp) : Kp o H H := fun _ _ h _ => h
theorem Kp.trans {o : Option Addr} {H H1 H2 : Hp} (a : Kp o H H1) (b : Kp o H1 H2) : Kp o H H2 := fun c u h hn => b c u (a c u h hn) hn
theorem same_upd {H : Hp} {p : Addr} {o : HO} (h : H p = none) : Same H (upd H p o) := fun b u e => by rw [upd_ne (ne_of_none e h)]; exact e
theorem Same.snoc {H H1 : Hp} {p : Addr} {o : HO} (e : Same H H1) (h : H1 p = none) : Same H (upd H1 p o) := e.trans (same_upd h)
theorem Kp.snoc {o' : Option Addr} {H H1 : Hp} {p : Addr} {o : HO} (e : Kp o' H H1) (h : H1 p = none) : Kp o' H (upd H1 p o) := e.trans (.of (same_upd h))
/-- what stands at a new address may change -/
theorem Same.mut {H H1 : Hp} {p : Addr} {o : HO} (e : Same H H1) (h : H p = none) : Same H (upd H1 p o) := fun b u q => by rw [upd_ne (ne_of_none q h)]; exact e b u q
theorem Kp.mut {o' : Option Addr} {H H1 : Hp} {p : Addr} {o : HO} (e : Kp o' H H1) (h : H p = none) : Kp o' H (upd H1 p o) := fun b u q hn => by rw [upd_ne (ne_of_none q h)]; exact e b u q hn
theorem Kp.put {a : Addr} {H H1 : Hp} {o : HO} (e : Kp (some a) H H1) : Kp (some a) H (upd H1 a o) := fun b u q hn => by
  rw [upd_ne (fun z => hn (by rw [z]))]
  exact e b u q hn
/-- what changes at a new address leaves all as it was -/
theorem Kp.new {a : Addr} {H H1 : Hp} (e : Kp (some a) H H1) (h : H a = none) : Same H H1 := fun b u q => e b u q fun z => by
  cases z
  rw [h] at q
  cases q
theorem Same.none_of {H H' : Hp} (e : Same H H') {l : Addr} (h : H' l = none) : H l = none := e.free h
theorem Kp.none_of {o : Option Addr} {H H' : Hp} (e : Kp o H H') {l : Addr} (h : H' l = none) (ho : ∀ a, o = some a → H' a ≠ none) : H l = none := by
  cases q : H l with
  | none => rfl
  | some u =>
    by_cases hl : some l = o
    · exact absurd h (ho l hl.symm)
    · rw [e l u q hl] at h
      cases h
/-- tuples and places are kept -/
structure Im (H H' : Hp) : Prop where
  tup : ∀ b xs, H b = some (.tup xs) → H' b = some (.tup xs)
  ins : ∀ b C dx fs v, H b = some (.ins C dx fs) → fs.lookup ("word" : Str) = some v → H' b = some (.ins C dx fs)
theorem Im.of {H H' : Hp} (e : Same H H') : Im H H' := ⟨fun b xs h => e b _ h, fun b C dx fs v h _ => e b _ h⟩
theorem Im.refl (H : Hp) : Im H H := .of (Same.refl H)
theorem Im.trans {H H1 H2 : Hp} (a : Im H H1) (b : Im H1 H2) : Im H H2 := ⟨fun c xs h => b.tup c xs (a.tup c xs h), fun c C dx fs v h w => b.ins c C dx fs v (a.ins c C dx fs v h w) w⟩
/-- a change at a leaves tuples and places alone -/
def Loose (H : Hp) (a : Addr) : Prop := (∀ xs, H a ≠ some (.tup xs)) ∧ ∀ C dx fs, H a = some (.ins C dx fs) → fs.lookup ("word" : Str) = none
theorem Loose.lst {H : Hp} {a : Addr} {xs : List V} (h : H a = some (.lst xs)) : Loose H a := ⟨fun ys e => by (rw [h] at e; cases e), fun C dx fs e => by (rw [h] at e; cases e)⟩
theorem Loose.none {H : Hp} {a : Addr} (h : H a = none) : Loose H a := ⟨fun ys e => by (rw [h] at e; cases e), fun C dx fs e => by (rw [h] at e; cases e)⟩
theorem Loose.ins {H : Hp} {a C dx : Addr} {fs : List (Str × V)} (h : H a = some (.ins C dx fs)) (hw : fs.lookup ("word" : Str) = Option.none) : Loose H a := ⟨fun ys e => by (rw [h] at e; cases e), fun C dx fs e => by (rw [h] at e; cases e; exact hw)⟩
theorem Kp.im {o : Option Addr} {H H' : Hp} (e : Kp o H H') (hl : ∀ a, o = some a → Loose H a) : Im H H' := ⟨fun b xs h => e b _ h fun z => absurd h ((hl b z.symm).1 xs), fun b C dx fs v h w => e b _ h fun z => by
  rw [(hl b z.symm).2 C dx fs h] at w
  cases w⟩
theorem im_upd {H : Hp} {a : Addr} {o : HO} (h : Loose H a) : Im H (upd H a o) := ⟨fun b xs e => by rw [upd_ne (fun z => by rw [z] at e; exact h.1 xs e)]; exact e, fun b C dx fs v e w => by
  rw [upd_ne (fun z => by rw [z] at e; rw [h.2 C dx fs e] at w; cases w)]
  exact e⟩
/-! ### data in tuples -/
inductive Td (H : Hp) : V → PyData → Prop where
  | int (i : Int) : Td H (.int i) (.int i)
  | str (z : Str) : Td H (.str z) (.str z)
  | tup {a : Addr} {xs : List V} {ds : List PyData} : H a = some (.tup xs) → xs.length = ds.length → (∀ (k : Nat) x d, xs[k]? = some x → ds[k]? = some d → Td H x d) → Td H (.ref a) (.tuple ds)
theorem Td.im {H H' : Hp} (e : Im H H') {v : V} {d : PyData} (h : Td H v d) : Td H' v d := by
  induction h with
  | int i => exact .int i
  | str z => exact .str z
  | tup h1 h2 _ ih => exact .tup (e.tup _ _ h1) h2 ih
theorem Td.same {H H' : Hp} (e : Same H H') {v : V} {d : PyData} (h : Td H v d) : Td H' v d := h.im (.of e)
def SqP (b : Bool) (H : Hp) (a : Addr) (xs : List V) : Prop := match b with | true => H a = some (.lst xs) | false => H a = some (.tup xs)
theorem SqP.sq {K : PySem.W.Frag} {H : Hp} {a : Addr} {xs : List V} : ∀ {b : Bool}, SqP b H a xs → SqB b K H a xs
  | true, h => SqL.of h
  | false, h => SqT.of h
theorem SqP.same {H H' : Hp} {a : Addr} {xs : List V} (e : Same H H') : ∀ {b : Bool}, SqP b H a xs → SqP b H' a xs
  | true, h => e _ _ h
  | false, h => e _ _ h
/-- lists or tuples, all the way in -/
inductive Ld (K : PySem.W.Frag) (H : Hp) : V → PyData → Prop where
  | int (i : Int) : Ld K H (.int i) (.int i)
  | str (z : Str) : Ld K H (.str z) (.str z)
  | seq {a : Addr} {b : Bool} {xs : List V} {ds : List PyData} : SqP b H a xs → xs.length = ds.length → (∀ (k : Nat) x d, xs[k]? = some x → ds[k]? = some d → Ld K H x d) → Ld K H (.ref a) (.tuple ds)
theorem Ld.same {K : PySem.W.Frag} {H H' : Hp} (e : Same H H') {v : V} {d : PyData} (h : Ld K H v d) : Ld K H' v d := by
  induction h with
  | int i => exact .int i
  | str z => exact .str z
  | seq h1 h2 _ ih => exact .seq (h1.same e) h2 ih
theorem Td.ld {K : PySem.W.Frag} {H : Hp} {v : V} {d : PyData} (h : Td H v d) : Ld K H v d := by
  induction h with
  | int i => exact .int i
  | str z => exact .str z
  | tup h1 h2 _ ih => exact .seq (b := false) h1 h2 ih
mutual
theorem Td.dp {K : PySem.W.Frag} {H : Hp} : ∀ (d : PyData) (v : V), Td H v d → Dp K H v d
  | .int i, v, h => by cases h; exact .int i
  | .str z, v, h => by cases h; exact .str z
  | .tuple ds, v, h => by
    cases h with
    | tup h1 h2 h3 => exact .tup (SqT.of h1) (Td.dpAll ds _ h2 h3)
  | .none, v, h => by cases h
  | .bool _, v, h => by cases h
  | .list _, v, h => by cases h
  | .dict _, v, h => by cases h
theorem Td.dpAll {K : PySem.W.Frag} {H : Hp} : ∀ (ds : List PyData) (xs : List V), xs.length = ds.length → (∀ (k : Nat) x d, xs[k]? = some x → ds[k]? = some d → Td H x d) → DpAll K H xs ds
  | [], [], _, _ => .nil
  | d :: ds, x :: xs, hl, h => .cons (Td.dp d x (h 0 x d rfl rfl)) (Td.dpAll ds xs (by simpa using hl) fun k x d h1 h2 => h (k + 1) x d (by simpa using h1) (by simpa using h2))
  | [], _ :: _, hl, _ => by simp at hl
  | _ :: _, [], hl, _ => by simp at hl
end
theorem Td.tuple_inv {H : Hp} {v : V} {ds : List PyData} (h : Td H v (.tuple ds)) : ∃ a xs, v = .ref a ∧ H a = some (.tup xs) ∧ xs.length = ds.length ∧ ∀ (k : Nat) x d, xs[k]? = some x → ds[k]? = some d → Td H x d := by
  cases h with
  | tup h1 h2 h3 => exact ⟨_, _, rfl, h1, h2, h3⟩
theorem Ld.seq_inv {K : PySem.W.Frag} {H : Hp} {v : V} {ds : List PyData} (h : Ld K H v (.tuple ds)) : ∃ a b xs, v = .ref a ∧ SqB b K H a xs ∧ xs.length = ds.length ∧ ∀ (k : Nat) x d, xs[k]? = some x → ds[k]? = some d → Ld K H x d := by
  cases h with
  | seq h1 h2 h3 => exact ⟨_, _, _, rfl, h1.sq, h2, h3⟩
theorem Ld.seq_inv' {K : PySem.W.Frag} {H : Hp} {v : V} {ds : List PyData} (h : Ld K H v (.tuple ds)) : ∃ a b xs, v = .ref a ∧ SqP b H a xs ∧ xs.length = ds.length ∧ ∀ (k : Nat) x d, xs[k]? = some x → ds[k]? = some d → Ld K H x d := by
  cases h with
  | seq h1 h2 h3 => exact ⟨_, _, _, rfl, h1, h2, h3⟩
/-! ### places -/
inductive PlAt (K : PySem.W.Frag) (H : Hp) : Addr → Tr → Prop where
  | mk {a dx pa : Addr} {fs : List (Str × V)} {vt : V} {as : List Addr} {w : Wd} {t : Told} {ps : List Tr} {m i : Nat} : H a = some (.ins (cW K w) dx fs) → fs.lookup ("word" : Str) = some (.str w.s) →
      fs.lookup ("told" : Str) = some vt → Td H vt t.data → fs.lookup ("keeper_hands" : Str) = some (.int (m : Int)) → fs.lookup ("rival_hands" : Str) = some (.int (i : Int)) →
      fs.lookup ("parts" : Str) = some (.ref pa) → H pa = some (.tup (as.map V.ref)) → as.length = ps.length → (∀ (k : Nat) b p, as[k]? = some b → ps[k]? = some p → PlAt K H b p) →
      fs.lookup ("many" : Str) = some (.int ((Tr.node w t ps m i).many : Int)) → fs.lookup ("levels" : Str) = some (.int ((Tr.node w t ps m i).lev : Int)) → PlAt K H a (.node w t ps m i)
theorem PlAt.im {K : PySem.W.Frag} {H H' : Hp} (e : Im H H') {a : Addr} {t : Tr} (h : PlAt K H a t) : PlAt K H' a t := by
  induction h with
  | mk h1 h2 h3 h4 h5 h6 h7 h8 h9 _ h11 h12 ih => exact .mk (e.ins _ _ _ _ _ h1 h2) h2 h3 (h4.im e) h5 h6 h7 (e.tup _ _ h8) h9 ih h11 h12
theorem PlAt.same {K : PySem.W.Frag} {H H' : Hp} (e : Same H H') {a : Addr} {t : Tr} (h : PlAt K H a t) : PlAt K H' a t := h.im (.of e)
/-- what is read off a place -/
theorem PlAt.inv {K : PySem.W.Frag} {H : Hp} {a : Addr} {t : Tr} (h : PlAt K H a t) : ∃ (dx pa : Addr) (fs : List (Str × V)) (vt : V) (as : List Addr), H a = some (.ins (cW K t.w) dx fs) ∧ fs.lookup ("word" : Str) = some (.str t.w.s) ∧
    fs.lookup ("told" : Str) = some vt ∧ Td H vt t.t.data ∧ fs.lookup ("keeper_hands" : Str) = some (.int (t.m : Int)) ∧ fs.lookup ("rival_hands" : Str) = some (.int (t.i : Int)) ∧
    fs.lookup ("parts" : Str) = some (.ref pa) ∧ H pa = some (.tup (as.map V.ref)) ∧ as.length = t.ps.length ∧ (∀ (k : Nat) b p, as[k]? = some b → t.ps[k]? = some p → PlAt K H b p) ∧
    fs.lookup ("many" : Str) = some (.int (t.many : Int)) ∧ fs.lookup ("levels" : Str) = some (.int (t.lev : Int)) := by
  cases h with
  | mk h1 h2 h3 h4 h5 h6 h7 h8 h9 h10 h11 h12 => exact ⟨_, _, _, _, _, h1, h2, h3, h4, h5, h6, h7, h8, h9, h10, h11, h12⟩
/-! ### comprehensions that map -/
theorem lc_map {J : It} {n : Nat} {Gd : Hp → Prop} {xs : List V} {ix : Nat} {te : TE} {vs : List Nat} {σ : L2.St} {H1 : Hp} {Qd : Hp → Prop} {D : Addr} (w : Walk J n Gd (YAt xs)) (hz : n < sizeLine) (hD : H1 D = none)
    (hw : ∀ x : V, wipe ((wipe σ vs).set ix (some x)) vs = wipe σ vs) (o : Option Addr) (ho : ∀ a, o = some a → H1 a ≠ none) (Iv : Nat → Hp → Prop) (Pe : Nat → V → Hp → Prop) (h0 : Iv 0 H1)
    (hfr : ∀ i H u, Iv i H → Iv i (upd H D u)) (hG : ∀ i H, i ≤ n → Iv i H → Gd H)
    (hmono : ∀ i j y H H' ys u, H D = some (.lst ys) → H' D = some (.lst ys) → Iv j H → Kp o H H' → Pe i y H → Pe i y (upd H' D (.lst u)))
    (hs : ∀ i x H, i < n → xs[i]? = some x → Iv i H → (∃ ys, H D = some (.lst ys)) → ∀ Qe : VK, (∀ y H', Kp o H H' → Iv (i + 1) H' → Pe i y H' → Qe y H') → te ((wipe σ vs).set ix (some x)) H Qe)
    (hd : ∀ ys H, Iv n H → H D = some (.lst ys) → ys.length = n → (∀ i y, ys[i]? = some y → Pe i y H) → Qd H) :
    ∃ W : Nat → Nat → Hp → Prop, (∃ m, W 0 m (upd H1 D (.lst []))) ∧ ∀ i m H, W i m H →
      (J.stop i H ∧ Qd H) ∨ (J.go i H ∧ ∃ Nx : Hp → Prop, (∀ H', Nx H' → ∃ m', m' < m ∧ W (i + 1) m' H') ∧ ∀ x H', J.yld i H x H' → gName ix x (wipe σ vs) H' fun σ2 H2 => wipe σ2 vs = wipe σ vs ∧ tYes σ2 H2 fun b H3 =>
        if b = true then te σ2 H3 fun y H4 => ∃ acc, H4 D = some (.lst acc) ∧ acc.length < sizeLine ∧ Nx (upd H4 D (.lst (acc ++ [y]))) else Nx H3) := by
  refine lc_it w (fun i H => Iv i H ∧ ∃ ys, H D = some (.lst ys) ∧ ys.length = i ∧ ∀ k y, ys[k]? = some y → Pe k y H) ⟨hfr 0 H1 _ h0, [], upd_same, rfl, fun k y h => by simp at h⟩ (fun i H hi h => hG i H hi h.1) ?_ ?_
  · rintro i x H H' hi ⟨hI, ys, e1, e2, e3⟩ ⟨rfl, hx⟩
    refine ⟨hw x, ?_⟩
    refine hs i x _ hi hx hI ⟨ys, e1⟩ _ fun y H4 k4 I4 p4 => ?_
    have hDo : some D ≠ o := fun z => ho D z.symm hD
    have e4 := k4 D _ e1 hDo
    refine ⟨ys, e4, by rw [e2]; omega, hfr _ _ _ I4, ys ++ [y], upd_same, by rw [List.length_append, e2]; rfl, fun k z hk => ?_⟩
    by_cases hlt : k < ys.length
    · rw [List.getElem?_append_left hlt] at hk
      exact hmono k i z _ _ _ _ e1 e4 hI k4 (e3 k z hk)
    · have hk2 : k = ys.length := by
        have := (List.getElem?_eq_some_iff.mp hk).1
        rw [List.length_append, List.length_singleton] at this
        omega
      rw [hk2, List.getElem?_append_right (Nat.le_refl _)] at hk
      have ez : y = z := by simpa using hk
      subst ez
      rw [hk2, e2]
      exact hmono i (i + 1) y _ _ _ _ e4 e4 I4 (Kp.refl o H4) p4
  · rintro H ⟨hI, ys, e1, e2, e3⟩
    exact hd ys H hI e1 e2 e3
/-- each item by a step that keeps all -/
theorem lc_pureW {J : It} {n : Nat} {Gd : Hp → Prop} {xs : List V} {ix : Nat} {te : TE} {vs : List Nat} {σ : L2.St} {H1 : Hp} {Qd : Hp → Prop} {D : Addr} (w : Walk J n Gd (YAt xs)) (hD : H1 D = none) (hG : ∀ H, Same H1 H → Gd H) (hz : n < sizeLine)
    (hw : ∀ x : V, wipe ((wipe σ vs).set ix (some x)) vs = wipe σ vs) (Pe : Nat → V → Hp → Prop) (hmono : ∀ i y H H', Im H H' → Pe i y H → Pe i y H')
    (hs : ∀ i x H, i < n → xs[i]? = some x → Same H1 H → ∀ Qe : VK, (∀ y H', Same H H' → Pe i y H' → Qe y H') → te ((wipe σ vs).set ix (some x)) H Qe)
    (hd : ∀ ys H, Same H1 H → H D = some (.lst ys) → ys.length = n → (∀ i y, ys[i]? = some y → Pe i y H) → Qd H) :
    ∃ W : Nat → Nat → Hp → Prop, (∃ m, W 0 m (upd H1 D (.lst []))) ∧ ∀ i m H, W i m H →
      (J.stop i H ∧ Qd H) ∨ (J.go i H ∧ ∃ Nx : Hp → Prop, (∀ H', Nx H' → ∃ m', m' < m ∧ W (i + 1) m' H') ∧ ∀ x H', J.yld i H x H' → gName ix x (wipe σ vs) H' fun σ2 H2 => wipe σ2 vs = wipe σ vs ∧ tYes σ2 H2 fun b H3 =>
        if b = true then te σ2 H3 fun y H4 => ∃ acc, H4 D = some (.lst acc) ∧ acc.length < sizeLine ∧ Nx (upd H4 D (.lst (acc ++ [y]))) else Nx H3) :=
  lc_map w hz hD hw none (fun _ z => nomatch z) (fun _ H => Same H1 H) Pe (Same.refl H1) (fun _ _ _ e => Same.mut e hD) (fun _ _ _ e => hG _ e)
    (fun i j y H H' ys u h1 h2 _ k p => hmono i y H' _ (im_upd (Loose.lst h2)) (hmono i y H H' (.of (Kp.same k)) p))
    (fun i x H hi hx e _ Qe h => hs i x H hi hx e Qe fun y H' e' p => h y H' (.of e') (e.trans e') p) hd
theorem lc_pure {K : PySem.W.Frag} {a : Addr} {b : Bool} {xs : List V} {ix : Nat} {te : TE} {vs : List Nat} {σ : L2.St} {H1 : Hp} {Qd : Hp → Prop} {D : Addr} (hD : H1 D = none) (hq : SqB b K H1 a xs) (hz : xs.length < sizeLine)
    (hw : ∀ x : V, wipe ((wipe σ vs).set ix (some x)) vs = wipe σ vs) (Pe : Nat → V → Hp → Prop) (hmono : ∀ i y H H', Im H H' → Pe i y H → Pe i y H')
    (hs : ∀ i x H, xs[i]? = some x → Same H1 H → ∀ Qe : VK, (∀ y H', Same H H' → Pe i y H' → Qe y H') → te ((wipe σ vs).set ix (some x)) H Qe)
    (hd : ∀ ys H, Same H1 H → H D = some (.lst ys) → ys.length = xs.length → (∀ i y, ys[i]? = some y → Pe i y H) → Qd H) :
    ∃ W : Nat → Nat → Hp → Prop, (∃ m, W 0 m (upd H1 D (.lst []))) ∧ ∀ i m H, W i m H →
      ((ItB b K a).stop i H ∧ Qd H) ∨ ((ItB b K a).go i H ∧ ∃ Nx : Hp → Prop, (∀ H', Nx H' → ∃ m', m' < m ∧ W (i + 1) m' H') ∧ ∀ x H', (ItB b K a).yld i H x H' → gName ix x (wipe σ vs) H' fun σ2 H2 => wipe σ2 vs = wipe σ vs ∧ tYes σ2 H2 fun b H3 =>
        if b = true then te σ2 H3 fun y H4 => ∃ acc, H4 D = some (.lst acc) ∧ acc.length < sizeLine ∧ Nx (upd H4 D (.lst (acc ++ [y]))) else Nx H3) :=
  lc_pureW (walk_B b) hD (fun _ e => Same.sqb e hq) hz hw Pe hmono (fun i x H _ => hs i x H) hd
theorem walk_rgA {lo : Int} {n : Nat} : Walk (Itr lo n) n (fun _ => True) (YAt ((List.range n).map fun (i : Nat) => V.int (lo + i))) :=
  walk_range.mono (fun _ h => h) fun i H x H' hi _ h => ⟨h.1, by rw [h.2, List.getElem?_map, List.getElem?_range hi] <;> rfl⟩
theorem lc_pureR {lo : Int} {n : Nat} {ix : Nat} {te : TE} {vs : List Nat} {σ : L2.St} {H1 : Hp} {Qd : Hp → Prop} {D : Addr} (hD : H1 D = none) (hz : n < sizeLine)
    (hw : ∀ x : V, wipe ((wipe σ vs).set ix (some x)) vs = wipe σ vs) (Pe : Nat → V → Hp → Prop) (hmono : ∀ i y H H', Im H H' → Pe i y H → Pe i y H')
    (hs : ∀ (i : Nat) H, i < n → Same H1 H → ∀ Qe : VK, (∀ y H', Same H H' → Pe i y H' → Qe y H') → te ((wipe σ vs).set ix (some (.int (lo + (i : Nat))))) H Qe)
    (hd : ∀ ys H, Same H1 H → H D = some (.lst ys) → ys.length = n → (∀ i y, ys[i]? = some y → Pe i y H) → Qd H) :
    ∃ W : Nat → Nat → Hp → Prop, (∃ m, W 0 m (upd H1 D (.lst []))) ∧ ∀ i m H, W i m H →
      ((Itr lo n).stop i H ∧ Qd H) ∨ ((Itr lo n).go i H ∧ ∃ Nx : Hp → Prop, (∀ H', Nx H' → ∃ m', m' < m ∧ W (i + 1) m' H') ∧ ∀ x H', (Itr lo n).yld i H x H' → gName ix x (wipe σ vs) H' fun σ2 H2 => wipe σ2 vs = wipe σ vs ∧ tYes σ2 H2 fun b H3 =>
        if b = true then te σ2 H3 fun y H4 => ∃ acc, H4 D = some (.lst acc) ∧ acc.length < sizeLine ∧ Nx (upd H4 D (.lst (acc ++ [y]))) else Nx H3) :=
  lc_pureW walk_rgA hD (fun _ _ => trivial) hz hw Pe hmono (fun i x H hi hx e => by
    rw [List.getElem?_map, List.getElem?_range hi] at hx
    cases hx
    exact hs i H hi e) hd
/-- a list of Bools -/
theorem bls {K : PySem.W.Frag} {H : Hp} {D : Addr} {n : Nat} {g : Nat → Bool} {ys : List V} (h1 : H D = some (.lst ys)) (h2 : ys.length = n) (h3 : ∀ (i : Nat) y, ys[i]? = some y → y = .bl (g i)) : SqL K H D ((List.ofFn fun i : Fin n => g i).map V.bl) := by
  subst h2
  refine SqL.of ?_
  rw [h1]
  congr 2
  refine List.ext_getElem (by simp) fun k hk1 hk2 => ?_
  rw [h3 k ys[k] (List.getElem?_eq_getElem hk1)]
  simp
/-- [test(x) for x in xs] -/
theorem lc_all {K : PySem.W.Frag} {a : Addr} {b : Bool} {xs : List V} {ix : Nat} {te : TE} {vs : List Nat} {σ : L2.St} {H1 : Hp} {Qd : Hp → Prop} {D : Addr} (hD : H1 D = none) (hq : SqB b K H1 a xs) (hz : xs.length < sizeLine)
    (hw : ∀ x : V, wipe ((wipe σ vs).set ix (some x)) vs = wipe σ vs) (g : Nat → Bool)
    (hs : ∀ i x H, xs[i]? = some x → Same H1 H → ∀ Qe : VK, (∀ H', Same H H' → Qe (.bl (g i)) H') → te ((wipe σ vs).set ix (some x)) H Qe)
    (hd : ∀ H, Same H1 H → SqL K H D ((List.ofFn fun i : Fin xs.length => g i).map V.bl) → Qd H) :
    ∃ W : Nat → Nat → Hp → Prop, (∃ m, W 0 m (upd H1 D (.lst []))) ∧ ∀ i m H, W i m H →
      ((ItB b K a).stop i H ∧ Qd H) ∨ ((ItB b K a).go i H ∧ ∃ Nx : Hp → Prop, (∀ H', Nx H' → ∃ m', m' < m ∧ W (i + 1) m' H') ∧ ∀ x H', (ItB b K a).yld i H x H' → gName ix x (wipe σ vs) H' fun σ2 H2 => wipe σ2 vs = wipe σ vs ∧ tYes σ2 H2 fun b H3 =>
        if b = true then te σ2 H3 fun y H4 => ∃ acc, H4 D = some (.lst acc) ∧ acc.length < sizeLine ∧ Nx (upd H4 D (.lst (acc ++ [y]))) else Nx H3) :=
  lc_pure hD hq hz hw (fun i y _ => y = .bl (g i)) (fun _ _ _ _ _ h => h) (fun i x H hx e Qe h => hs i x H hx e Qe fun H' e' => h _ H' e' rfl) fun ys H e h1 h2 h3 => hd H e (bls h1 h2 h3)
theorem lc_allR {K : PySem.W.Frag} {lo : Int} {n : Nat} {ix : Nat} {te : TE} {vs : List Nat} {σ : L2.St} {H1 : Hp} {Qd : Hp → Prop} {D : Addr} (hD : H1 D = none) (hz : n < sizeLine)
    (hw : ∀ x : V, wipe ((wipe σ vs).set ix (some x)) vs = wipe σ vs) (g : Nat → Bool)
    (hs : ∀ (i : Nat) H, i < n → Same H1 H → ∀ Qe : VK, (∀ H', Same H H' → Qe (.bl (g i)) H') → te ((wipe σ vs).set ix (some (.int (lo + (i : Nat))))) H Qe)
    (hd : ∀ H, Same H1 H → SqL K H D ((List.ofFn fun i : Fin n => g i).map V.bl) → Qd H) :
    ∃ W : Nat → Nat → Hp → Prop, (∃ m, W 0 m (upd H1 D (.lst []))) ∧ ∀ i m H, W i m H →
      ((Itr lo n).stop i H ∧ Qd H) ∨ ((Itr lo n).go i H ∧ ∃ Nx : Hp → Prop, (∀ H', Nx H' → ∃ m', m' < m ∧ W (i + 1) m' H') ∧ ∀ x H', (Itr lo n).yld i H x H' → gName ix x (wipe σ vs) H' fun σ2 H2 => wipe σ2 vs = wipe σ vs ∧ tYes σ2 H2 fun b H3 =>
        if b = true then te σ2 H3 fun y H4 => ∃ acc, H4 D = some (.lst acc) ∧ acc.length < sizeLine ∧ Nx (upd H4 D (.lst (acc ++ [y]))) else Nx H3) :=
  lc_pureR hD hz hw (fun i y _ => y = .bl (g i)) (fun _ _ _ _ _ h => h) (fun i H hi e Qe h => hs i H hi e Qe fun H' e' => h _ H' e' rfl) fun ys H e h1 h2 h3 => hd H e (bls h1 h2 h3)
end PL
end
section
set_option maxHeartbeats 4000000
/-! PS: comprehensions with two for. -/
namespace PL
open PySem PySem.Spec PyProof.Rows L2 RZ
theorem flat_succ {α : Type} (f : Nat → List α) (i : Nat) : (List.range (i + 1)).flatMap f = (List.range i).flatMap f ++ f i := by
  rw [List.range_succ, List.flatMap_append]
  simp
theorem flat_le {α : Type} (f : Nat → List α) {i n : Nat} (h : i ≤ n) : ((List.range i).flatMap f).length ≤ ((List.range n).flatMap f).length := by
  induction h with
  | refl => exact Nat.le_refl _
  | step _ ih =>
    rw [flat_succ, List.length_append]
    omega
/-- one turn of the inner walk -/
def In2 (D : Addr) (g1 : TG) (tt1 : TT) (te : TE) (vs1 : List Nat) (σ2 : L2.St) (J1 : It) (H4 : Hp) (out : List V) : Prop :=
  ∃ (n1 : Nat) (G1 : Hp → Prop) (Y1 : Nat → Hp → V → Hp → Prop) (o1 : Nat → List V), Walk J1 n1 G1 Y1 ∧ (List.range n1).flatMap o1 = out ∧ (∀ H', Kp (some D) H4 H' → G1 H') ∧
    ∀ j x1 H5 H6, j < n1 → Kp (some D) H4 H5 → (∃ acc, H5 D = some (.lst acc)) → Y1 j H5 x1 H6 → ∀ (Ne : VK) (Nn : Hp → Prop), (∀ y H9, Same H5 H9 → o1 j = [y] → Ne y H9) → (∀ H8, Same H5 H8 → o1 j = [] → Nn H8) →
      g1 x1 (wipe σ2 vs1) H6 fun σ3 H7 => wipe σ3 vs1 = wipe σ2 vs1 ∧ tt1 σ3 H7 fun b H8 => if b = true then te σ3 H8 Ne else Nn H8
theorem lc2_flat {J : It} {n : Nat} {Gd : Hp → Prop} {xs : List V} {ix : Nat} {wi1 : TI} {g1 : TG} {tt1 : TT} {te : TE} {vs vs1 : List Nat} {σ : L2.St} {H1 : Hp} {Qd : Hp → Prop} {D : Addr} (w : Walk J n Gd (YAt xs)) (hD : H1 D = none)
    (hG : ∀ H, Same H1 H → Gd H) (hw : ∀ x : V, wipe ((wipe σ vs).set ix (some x)) vs = wipe σ vs) (out : Nat → List V) (hz : ((List.range n).flatMap out).length < sizeLine)
    (hi : ∀ i x H acc, i < n → xs[i]? = some x → Same H1 H → H D = some (.lst acc) → ∀ R : It → Hp → Prop, (∀ J1 H4, Same H H4 → In2 D g1 tt1 te vs1 ((wipe σ vs).set ix (some x)) J1 H4 (out i) → R J1 H4) → wi1 ((wipe σ vs).set ix (some x)) H R)
    (hd : ∀ H, Same H1 H → H D = some (.lst ((List.range n).flatMap out)) → Qd H) :
    ∃ W : Nat → Nat → Hp → Prop, (∃ m, W 0 m (upd H1 D (.lst []))) ∧ ∀ i m H, W i m H → (J.stop i H ∧ Qd H) ∨ (J.go i H ∧ ∃ Nx : Hp → Prop, (∀ H', Nx H' → ∃ m', m' < m ∧ W (i + 1) m' H') ∧ ∀ x H', J.yld i H x H' →
      gName ix x (wipe σ vs) H' fun σ2 H2 => wipe σ2 vs = wipe σ vs ∧ tYes σ2 H2 fun b H3 => if b = true then wi1 σ2 H3 fun J1 H4 => ∃ W1 : Nat → Nat → Hp → Prop, (∃ m, W1 0 m H4) ∧ ∀ j k H, W1 j k H → (J1.stop j H ∧ Nx H) ∨
        (J1.go j H ∧ ∃ Nx1 : Hp → Prop, (∀ H', Nx1 H' → ∃ k', k' < k ∧ W1 (j + 1) k' H') ∧ ∀ x H', J1.yld j H x H' → g1 x (wipe σ2 vs1) H' fun σ3 H5 => wipe σ3 vs1 = wipe σ2 vs1 ∧ tt1 σ3 H5 fun b H6 =>
          if b = true then te σ3 H6 fun y H7 => ∃ acc, H7 D = some (.lst acc) ∧ acc.length < sizeLine ∧ Nx1 (upd H7 D (.lst (acc ++ [y]))) else Nx1 H6) else Nx H3) := by
  let Pv : Nat → Hp → Prop := fun i H => Same H1 H ∧ H D = some (.lst ((List.range i).flatMap out))
  refine ⟨fun i m H => m = n - i ∧ i ≤ n ∧ Pv i H, ⟨n, by simp, Nat.zero_le _, Same.mut (Same.refl H1) hD, upd_same⟩, ?_⟩
  rintro i m H ⟨rfl, hin, e, hacc⟩
  have q := hG H e
  by_cases hlt : i < n
  · refine .inr ⟨w.goes i H hlt q, Pv (i + 1), fun H' p' => ⟨n - (i + 1), by omega, rfl, hlt, p'⟩, fun x H' y => ?_⟩
    obtain ⟨rfl, hx⟩ := w.yields i H x H' hlt q y
    refine ⟨hw x, ?_⟩
    refine hi i x _ _ hlt hx e hacc _ fun J1 H4 e4 I => ?_
    obtain ⟨n1, G1, Y1, o1, w1, ho, hG1, hs1⟩ := I
    have hz1 : ∀ j, j ≤ n1 → ((List.range i).flatMap out ++ (List.range j).flatMap o1).length < sizeLine := fun j hj => by
      have h1 := flat_le o1 hj
      rw [ho] at h1
      have h2 := flat_le out (Nat.succ_le_of_lt hlt)
      rw [flat_succ, List.length_append] at h2
      rw [List.length_append]
      omega
    refine ⟨fun j k H => k = n1 - j ∧ j ≤ n1 ∧ Kp (some D) H4 H ∧ H D = some (.lst ((List.range i).flatMap out ++ (List.range j).flatMap o1)), ⟨n1, by simp, Nat.zero_le _, Kp.refl _ _, ?_⟩, ?_⟩
    · rw [e4 _ _ hacc]
      simp
    · rintro j k H5 ⟨rfl, hj, k5, a5⟩
      have q1 := hG1 H5 k5
      have done : j = n1 → Pv (i + 1) H5 := fun z => by
        refine ⟨Kp.new ((Kp.of (e.trans e4)).trans k5) hD, ?_⟩
        rw [a5, z, ho, flat_succ]
      by_cases hlt1 : j < n1
      · refine .inr ⟨w1.goes j H5 hlt1 q1, fun H => Kp (some D) H4 H ∧ H D = some (.lst ((List.range i).flatMap out ++ (List.range (j + 1)).flatMap o1)), fun H' p' => ⟨n1 - (j + 1), by omega, rfl, hlt1, p'⟩, fun x1 H6 y1 => ?_⟩
        refine hs1 j x1 H5 H6 hlt1 k5 ⟨_, a5⟩ (w1.yields j H5 x1 H6 hlt1 q1 y1) _ _ (fun y H9 e9 oy => ?_) fun H8 e8 oy => ?_
        · refine ⟨_, e9 _ _ a5, hz1 j hj, ?_, ?_⟩
          · exact (k5.trans (.of e9)).put
          · rw [upd_same, flat_succ, oy, List.append_assoc]
        · refine ⟨k5.trans (.of e8), ?_⟩
          rw [e8 _ _ a5, flat_succ, oy, List.append_nil]
      · have z : j = n1 := by omega
        subst z
        exact .inl ⟨w1.stops H5 q1, done rfl⟩
  · have z : i = n := by omega
    subst z
    exact .inl ⟨w.stops H q, hd H e hacc⟩
theorem flat_one {α : Type} (f : Nat → α) (n : Nat) : ((List.range n).flatMap fun j => [f j]) = (List.range n).map f := by
  induction n with
  | zero => rfl
  | succ n ih => rw [flat_succ, ih, List.range_succ, List.map_append] <;> rfl
theorem map_getD (ws : List V) : ((List.range ws.length).map fun j => ws.getD j .non) = ws := by
  refine List.ext_getElem (by simp) fun k h1 h2 => ?_
  simp [List.getD_eq_getElem?_getD, List.getElem?_eq_getElem h2]
/-- an inner for over a list or tuple, each item giving one -/
theorem in2_seq {K : PySem.W.Frag} {a D : Addr} {b : Bool} {ws : List V} {H4 : Hp} {jx : Nat} {te : TE} {vs1 : List Nat} {σ2 : L2.St} (g0 : SqP b H4 a ws) (hne : a ≠ D) (f : Nat → V)
    (hw : ∀ x : V, wipe ((wipe σ2 vs1).set jx (some x)) vs1 = wipe σ2 vs1)
    (hs : ∀ j x H5, ws[j]? = some x → Kp (some D) H4 H5 → ∀ Ne : VK, (∀ y H9, Same H5 H9 → y = f j → Ne y H9) → te ((wipe σ2 vs1).set jx (some x)) H5 Ne) :
    In2 D (gName jx) tYes te vs1 σ2 (ItB b K a) H4 ((List.range ws.length).map f) := by
  refine ⟨ws.length, _, _, fun j => [f j], walk_B b, flat_one f _, fun H' k => ?_, ?_⟩
  · cases b with
    | true => exact SqL.of (k _ _ g0 fun z => hne (by injection z))
    | false => exact SqT.of (k _ _ g0 fun z => hne (by injection z))
  · rintro j x1 H5 H6 hj k5 _ ⟨rfl, hx⟩ Ne Nn hNe hNn
    exact ⟨hw x1, hs j x1 _ hx k5 _ fun y H9 e hy => hNe y H9 e (by rw [hy])⟩
/-- what stood ahead is elsewhere -/
theorem SqP.ne {H : Hp} {a D : Addr} {b : Bool} {ws : List V} (g : SqP b H a ws) (hD : H D = none) : a ≠ D := fun z => by
  subst z
  cases b <;> (unfold SqP at g; rw [hD] at g; cases g)
theorem walk_zipT {K : PySem.W.Frag} {a b : Addr} {xs ys : List V} : Walk (ItzT K a b) (min xs.length ys.length) (fun H => SqT K H a xs ∧ SqT K H b ys) (YPair (fun i => xs[i]?) (fun i => ys[i]?)) := by
  refine ⟨fun i _ hi q => ?_, fun _ q => ⟨xs, ys, q.1, q.2, by omega⟩, fun i H v H' _ q y => ?_⟩
  · have h1 : i < xs.length := by omega
    have h2 : i < ys.length := by omega
    exact ⟨xs, ys, xs[i], ys[i], q.1, q.2, by simp [h1], by simp [h2]⟩
  · obtain ⟨T, x, y, e1, e2, e3, e4, e5⟩ := y
    exact ⟨T, x, y, e1, e2, e3, e4 xs q.1, e5 ys q.2⟩
end PL
end
section
set_option maxHeartbeats 4000000
/-! D1: the checks. -/
namespace PL
open PySem PySem.Spec PyProof.Rows L2
section
variable {w : World} {K : PySem.W.Frag} {mg : Str → Option Value} {base : Heap}
/-! ### kinds -/
def tyB : Bool → String | true => "list" | false => "tuple"
theorem ty_SqB {H : Hp} {a : Addr} {xs : List V} : ∀ {b : Bool}, SqB b K H a xs → TyX K H (.ref a) (.type (tyB b))
  | true, h => by
    rcases h with (h | ⟨o, h⟩) | ⟨o, its, n, h1, h2, _⟩
    · exact .base (.lst h)
    · exact .base (.frz h)
    · exact .kList h1 h2
  | false, h => by
    rcases h with (h | ⟨o, h⟩) | ⟨o, its, n, h1, h2, _⟩
    · exact .base (.tup h)
    · exact .fTuple h
    · exact .kTuple h1 h2
/-- an int, or a list or tuple -/
inductive IS (K : PySem.W.Frag) (H : Hp) : V → Bool → Prop where
  | int (i : Int) : IS K H (.int i) true
  | seq {a : Addr} {b : Bool} {xs : List V} : SqB b K H a xs → IS K H (.ref a) false
theorem IS.same {H H' : Hp} {v : V} {b : Bool} (e : Same H H') (h : IS K H v b) : IS K H' v b := by
  cases h with
  | int i => exact .int i
  | seq h => exact .seq (Same.sqb e h)
theorem itP {c A B : Prop} [Decidable c] (h : c) (a : A) : if c then A else B := by rw [if_pos h]; exact a
theorem itN {c A B : Prop} [Decidable c] (h : ¬ c) (b : B) : if c then A else B := by rw [if_neg h]; exact b
theorem qT {Q : VK} {c : Prop} [Decidable c] {H : Hp} (hc : c) (h : Q (.bl true) H) : Q (.bl (decide c)) H := by rw [decide_eq_true hc]; exact h
theorem qF {Q : VK} {c : Prop} [Decidable c] {H : Hp} (hc : ¬ c) (h : Q (.bl false) H) : Q (.bl (decide c)) H := by rw [decide_eq_false hc]; exact h
/-! ### is_integer -/
def sp_is_integer (K : PySem.W.Frag) : Sp := fun vs H Q _ => ∃ v b, vs = [v] ∧ IS K H v b ∧ ∀ H', Same H H' → Q (.bl b) H'
theorem ok_is_integer (T : Txt K mg) : FnOk P0 w K mg base CX0 1 (aF K "is_integer") (dF K "is_integer") ["value"] (sp_is_integer K) := by
  refine T.f_is_integer.ok sc_is_integer (fun vs H Q E h => ?_) (fun cdv A outer s H vs Q E hr h => ?_)
  · obtain ⟨v, b, rfl, _⟩ := h
    rfl
  obtain ⟨v, b, rfl, hv, q⟩ := h
  refine ⟨_, ((pss_one (ps_ret (pe_and (pe_callB (kisi K rfl) (by rfl) T.z_isinstance bt_isinstance (pa_cons (pv 0) (pa_cons (pe_bltn (v := .ty "int") (by rfl) T.z_int bt_int rfl) pa_nil))) (pe_one (pe_not (pe_callB (kisi K rfl) (by rfl) T.z_isinstance bt_isinstance (pa_cons (pv 0) (pa_cons (pe_bltn (v := .ty "bool") (by rfl) T.z_bool bt_bool rfl) pa_nil))))))))), ?_⟩
  cases hv with
  | int i =>
    refine ⟨_, rfl, _, _, _, _, true, rfl, .ty _, .base (.int _), kit_ty (by decide +kernel), true, rfl, ?_⟩
    exact ⟨_, rfl, _, _, _, _, false, rfl, .ty _, .base (.int _), kit_ty (by decide +kernel), false, rfl, q _ (Same.refl H)⟩
  | @seq a b xs h =>
    refine ⟨_, rfl, _, _, _, _, false, rfl, .ty _, ty_SqB h, ?_, false, rfl, q _ (Same.refl H)⟩
    cases b <;> exact kit_ty (by decide +kernel)
/-! ### is_list -/
def sp_is_list (K : PySem.W.Frag) : Sp := fun vs H Q _ => ∃ v b, vs = [v] ∧ IS K H v b ∧ ∀ H', Same H H' → Q (.bl (!b)) H'
theorem ok_is_list (T : Txt K mg) : FnOk P0 w K mg base CX0 1 (aF K "is_list") (dF K "is_list") ["value"] (sp_is_list K) := by
  refine T.f_is_list.ok sc_is_list (fun vs H Q E h => ?_) (fun cdv A outer s H vs Q E hr h => ?_)
  · obtain ⟨v, b, rfl, _⟩ := h
    rfl
  obtain ⟨v, b, rfl, hv, q⟩ := h
  refine ⟨_, ((pss_one (ps_ret (pe_callB (kisiT K rfl) (by rfl) T.z_isinstance bt_isinstance (pa_cons (pv 0) (pa_cons (pe_tup (pa_cons (pe_bltn (v := .ty "list") (by rfl) T.z_list bt_list rfl) (pa_cons (pe_bltn (v := .ty "tuple") (by rfl) T.z_tuple bt_tuple rfl) pa_nil))) pa_nil)))))), ?_⟩
  have two : ∀ t : Value, Paired ClsV [V.ty "list", V.ty "tuple"] [Value.type "list", Value.type "tuple"] := fun _ => .cons (.ty _) (.cons (.ty _) .nil)
  refine ⟨_, rfl, (by show 2 ≤ sizeLine; decide), fun p hp => ?_⟩
  cases hv with
  | int i =>
    exact ⟨_, p, _, .type "int", _, false, rfl, upd_same, two .none, .base (.int _), kitAny_cons (kit_ty (by decide +kernel : kitB "int" "list" = some false)) (fun _ => kitAny_cons (kit_ty (by decide +kernel : kitB "int" "tuple" = some false)) (fun _ => kitAny_nil) (fun z => nomatch z)) (fun z => nomatch z), q _ (same_upd hp)⟩
  | @seq a b xs h =>
    refine ⟨_, p, _, .type (tyB b), _, true, rfl, upd_same, two .none, ty_SqB (Same.sqb (same_upd hp) h), ?_, q _ (same_upd hp)⟩
    cases b
    · exact kitAny_cons (kit_ty (by decide +kernel : kitB "tuple" "list" = some false)) (fun _ => kitAny_cons (kit_ty (by decide +kernel : kitB "tuple" "tuple" = some true)) (fun z => nomatch z) (fun _ => rfl)) (fun z => nomatch z)
    · exact kitAny_cons (kit_ty (by decide +kernel : kitB "list" "list" = some true)) (fun z => nomatch z) (fun _ => rfl)
/-! ### is_within -/
def bndLo : Option Int → Int → Bool
  | none, _ => true
  | some l, i => decide (l ≤ i)
def bndHi : Option Int → Int → Bool
  | none, _ => true
  | some m, i => decide (i ≤ m)
def oV : Option Int → V
  | none => .non
  | some i => .int i
def sp_is_within (K : PySem.W.Frag) : Sp := fun vs H Q _ => ∃ (i : Int) (lo hi : Option Int), vs = [.int i, oV lo, oV hi] ∧ ∀ H', Same H H' → Q (.bl (bndLo lo i && bndHi hi i)) H'
theorem ok_is_within (T : Txt K mg) : FnOk P0 w K mg base CX0 2 (aF K "is_within") (dF K "is_within") ["value", "least", "most"] (sp_is_within K) := by
  have G_is_integer : FnOk P0 w K mg base CX0 1 (aF K "is_integer") (dF K "is_integer") ["value"] (sp_is_integer K) := ok_is_integer T
  refine T.f_is_within.ok sc_is_within (fun vs H Q E h => ?_) (fun cdv A outer s H vs Q E hr h => ?_)
  · obtain ⟨i, lo, hi, rfl, _⟩ := h
    rfl
  obtain ⟨i, lo, hi, rfl, q⟩ := h
  refine ⟨_, ((pss_cons (ps_if (pt_not (pt_val (pe_call G_is_integer (hr.mono (by omega)) rfl T.g_is_integer T.f_is_integer.kp T.b_is_integer .nil pass0 (pa_cons (pv 0) pa_nil)))) (pss_one (ps_ret pe_bl)) pss_nil)
    (pss_one (ps_ret (pe_and (pe_or (pe_cmpR op_isN (pv 1) pe_non (nomark _)) (pe_one (pe_cmpR op_le (pv 1) (pv 0) (nomark _)))) (pe_one (pe_or (pe_cmpR op_isN (pv 2) pe_non (nomark _)) (pe_one (pe_cmpR op_le (pv 0) (pv 2) (nomark _)))))))))), ?_⟩
  refine ⟨_, rfl, _, true, rfl, .int i, fun H1 e1 => ⟨true, rfl, ?_⟩⟩
  have two : ∀ H2, Same H H2 → (tOrV (tOp (fun x y H Q => y = .non ∧ Q (.bl (decide (x = .non))) H) (tVar 2) (tC .non)) (tOp (rI0 fun i j => .bl (decide (i ≤ j))) (tVar 0) (tVar 2))) (L2.start ["value", "least", "most"] [.int i, oV lo, oV hi]) H2 (fun x H3 => x = .bl (bndHi hi i) ∧ Same H H3) := fun H2 e2 => by
    cases hi with
    | none => exact ⟨_, rfl, rfl, true, rfl, rfl, e2⟩
    | some m => exact ⟨_, rfl, rfl, false, rfl, _, rfl, _, rfl, i, m, rfl, rfl, rfl, e2⟩
  have fin : ∀ H2, Same H H2 → bndLo lo i = true → (tOrV (tOp (fun x y H Q => y = .non ∧ Q (.bl (decide (x = .non))) H) (tVar 2) (tC .non)) (tOp (rI0 fun i j => .bl (decide (i ≤ j))) (tVar 0) (tVar 2))) (L2.start ["value", "least", "most"] [.int i, oV lo, oV hi]) H2 Q := fun H2 e2 hl => by
    have q' : ∀ H', Same H H' → Q (.bl (bndHi hi i)) H' := fun H' e => by
      have := q H' e
      rw [hl, Bool.true_and] at this
      exact this
    cases hi with
    | none => exact ⟨_, rfl, rfl, true, rfl, q' H2 e2⟩
    | some m => exact ⟨_, rfl, rfl, false, rfl, _, rfl, _, rfl, i, m, rfl, rfl, q' H2 e2⟩
  cases lo with
  | none =>
    exact ⟨_, rfl, rfl, true, rfl, true, rfl, fin H1 e1 rfl⟩
  | some l =>
    refine ⟨_, rfl, rfl, false, rfl, _, rfl, _, rfl, l, i, rfl, rfl, _, rfl, ?_⟩
    refine ite2 (fun c => fin H1 e1 c) fun c => ?_
    have c' : bndLo (some l) i = false := Bool.eq_false_iff.mpr c
    have := q H1 e1
    rw [c', Bool.false_and] at this
    exact this
/-! ### common -/
def sp_common : Sp := fun vs H Q _ => ∃ a b : Int, vs = [.int a, .int b] ∧ Q (.int (Int.gcd a b : Int)) H
theorem abs_nat (a : Int) : (if a < 0 then -a else a) = (a.natAbs : Int) := by
  split <;> omega
theorem ok_common (T : Txt K mg) : FnOk P0 w K mg base CX0 1 (aF K "common") (dF K "common") ["one", "other"] sp_common := by
  refine T.f_common.ok sc_common (fun vs H Q E h => ?_) (fun cdv A outer s H vs Q E hr h => ?_)
  · obtain ⟨a, b, rfl, _⟩ := h
    rfl
  obtain ⟨a, b, rfl, q⟩ := h
  refine ⟨_, ((pss_cons (ps_par (i := 0) (j := 1) rfl sc_common.nd rfl rfl (by decide) rfl rfl (pa_cons (pe_callB call_abs (by rfl) T.z_abs bt_abs (pa_cons (pv 0) pa_nil)) (pa_cons (pe_callB call_abs (by rfl) T.z_abs bt_abs (pa_cons (pv 1) pa_nil)) pa_nil)) (by rfl))
    (pss_cons (ps_while PassesOwn.never (pt_cmpR op_gt (pv 1) pe_int (nomark _)) (pss_one (ps_par (i := 0) (j := 1) rfl sc_common.nd rfl rfl (by decide) rfl rfl (pa_cons (pv 1) (pa_cons (pe_op op_mod (pv 0) (pv 1)) pa_nil)) (by rfl))))
    (pss_one (ps_ret (pv 0)))))), ?_⟩
  refine ⟨_, rfl, _, rfl, _, rfl, _, rfl, _, _, rfl, ?_⟩
  refine while_by (fun σ H' => H' = H ∧ ∃ x y : Nat, σ = [some (.int x), some (.int y)] ∧ Nat.gcd x y = Int.gcd a b) (fun σ _ => match σ with | [_, some (.int y)] => y.toNat | _ => 0) ⟨rfl, a.natAbs, b.natAbs, ?_, rfl⟩ ?_ ?_
  · rw [← abs_nat a, ← abs_nat b]
    rfl
  · rintro σ H' ⟨rfl, x, y, rfl, hg⟩
    refine ⟨_, rfl, _, _, rfl, rfl, _, rfl, ?_⟩
    refine ite2 (fun c => ?_) fun c => ?_
    · have hy : 0 < y := by have := of_decide_eq_true c; omega
      refine ⟨_, rfl, _, rfl, _, rfl, _, _, rfl, rfl, by omega, _, _, rfl, ⟨rfl, y, x % y, ?_, ?_⟩, ?_⟩
      · rfl
      · rw [← hg, Nat.gcd_comm x y, Nat.gcd_rec y x, Nat.gcd_comm]
      · show ((x : Int) % y).toNat < (y : Int).toNat
        have := Nat.mod_lt x hy
        omega
    · have hy : y = 0 := by
        have := of_decide_eq_false (Bool.eq_false_iff.mpr c)
        omega
      subst hy
      refine ⟨_, rfl, ?_⟩
      have e : ((x : Nat) : Int) = (Int.gcd a b : Int) := by rw [← hg, Nat.gcd_zero_right]
      rw [e]
      exact q
  · rintro σ H' Q1 Q2 h12 ⟨v1, e1, i, j, e2, e3, k, e4, e5⟩
    exact ⟨v1, e1, i, j, e2, e3, k, e4, h12 _ _ e5⟩
/-! ### is_number -/
def sp_is_number (K : PySem.W.Frag) : Sp := fun vs H Q _ => ∃ v n, vs = [v] ∧ Ld K H v (Nm.data n) ∧ n.ok ∧ ∀ H', Same H H' → Q (.bl true) H'
theorem ok_is_number (T : Txt K mg) : FnOk P0 w K mg base CX0 3 (aF K "is_number") (dF K "is_number") ["value"] (sp_is_number K) := by
  have G_is_integer : FnOk P0 w K mg base CX0 1 (aF K "is_integer") (dF K "is_integer") ["value"] (sp_is_integer K) := ok_is_integer T
  have G_is_list : FnOk P0 w K mg base CX0 1 (aF K "is_list") (dF K "is_list") ["value"] (sp_is_list K) := ok_is_list T
  have G_is_within : FnOk P0 w K mg base CX0 2 (aF K "is_within") (dF K "is_within") ["value", "least", "most"] (sp_is_within K) := ok_is_within T
  have G_common : FnOk P0 w K mg base CX0 1 (aF K "common") (dF K "common") ["one", "other"] sp_common := ok_common T
  refine T.f_is_number.ok sc_is_number (fun vs H Q E h => ?_) (fun cdv A outer s H vs Q E hr h => ?_)
  · obtain ⟨v, n, rfl, _⟩ := h
    rfl
  obtain ⟨v, n, rfl, hv, hn, q⟩ := h
  refine ⟨_, ((pss_cons (ps_if (pt_val (pe_call G_is_integer (hr.mono (by omega)) rfl T.g_is_integer T.f_is_integer.kp T.b_is_integer .nil pass0 (pa_cons (pv 0) pa_nil))) (pss_one (ps_ret pe_bl)) pss_nil)
    (pss_cons (ps_if (PW.pt (pw_or (pt_not (pt_val (pe_call G_is_list (hr.mono (by omega)) rfl T.g_is_list T.f_is_list.kp T.b_is_list .nil pass0 (pa_cons (pv 0) pa_nil)))) (pw_or (pt_cmpR op_ne (pe_callB (klen K rfl) (by rfl) T.z_len bt_len (pa_cons (pv 0) pa_nil)) pe_int (nomark _)) (pw_or1 (pt_not (pt_val (pe_call G_is_integer (hr.mono (by omega)) rfl T.g_is_integer T.f_is_integer.kp T.b_is_integer .nil pass0 (pa_cons (pe_ix (kix K rfl) (pv 0) pe_int (fun _ _ => rfl)) pa_nil)))))))) (pss_one (ps_ret pe_bl)) pss_nil)
    (pss_one (ps_ret (pe_and (pe_call G_is_within (hr.mono (by omega)) rfl T.g_is_within T.f_is_within.kp T.b_is_within .nil pass0 (pa_cons (pe_ix (kix K rfl) (pv 0) pe_int (fun _ _ => rfl)) (pa_cons pe_int (pa_cons pe_non pa_nil)))) (pe_one (pe_cmpR op_eq (pe_call G_common (hr.mono (by omega)) rfl T.g_common T.f_common.kp T.b_common .nil pass0 (pa_cons (pe_ix (kix K rfl) (pv 0) pe_int (fun _ _ => rfl)) (pa_cons (pe_ix (kix K rfl) (pv 0) pe_int (fun _ _ => rfl)) pa_nil))) pe_int (nomark _))))))))), ?_⟩
  cases n with
  | i n =>
    cases hv
    exact ⟨_, rfl, _, true, rfl, .int n, fun H1 e1 => ⟨true, rfl, q H1 e1⟩⟩
  | f p d =>
    obtain ⟨a, b, xs, rfl, h1, h2, h3⟩ := hv.seq_inv
    obtain ⟨x, y, rfl⟩ : ∃ x y, xs = [x, y] := by
      match xs, h2 with
      | [x, y], _ => exact ⟨x, y, rfl⟩
    have hx : x = .int p := by cases h3 0 x _ rfl rfl; rfl
    have hy : y = .int d := by cases h3 1 y _ rfl rfl; rfl
    subst hx hy
    obtain ⟨ha, hb1, hb2, hg⟩ := hn
    refine ⟨_, rfl, _, false, rfl, .seq h1, fun H1 e1 => ⟨false, rfl, ?_⟩⟩
    refine ⟨_, rfl, _, false, rfl, .seq (Same.sqb e1 h1), fun H2 e2 => ⟨_, rfl, ?_⟩⟩
    have s2 := Same.sqb (e1.trans e2) h1
    refine ⟨_, rfl, _, _, _, rfl, s2, rfl, _, rfl, ?_⟩
    refine ⟨_, rfl, _, _, _, _, _, rfl, rfl, s2, rfl, _, true, rfl, .int p, fun H3 e3 => ⟨_, rfl, ?_⟩⟩
    have s3 := Same.sqb e3 s2
    refine ⟨_, rfl, _, _, _, _, _, rfl, rfl, s3, rfl, d, some 2, none, rfl, fun H4 e4 => ?_⟩
    have s4 := Same.sqb e4 s3
    refine ⟨_, rfl, ?_⟩
    have c2 : (bndLo (some 2) d && bndHi none d) = true := by
      show (decide (2 ≤ d) && true) = true
      rw [decide_eq_true hb1]
      rfl
    rw [c2]
    refine ⟨_, rfl, _, _, _, _, _, rfl, rfl, s4, rfl, ?_⟩
    refine ⟨_, rfl, _, _, _, _, _, rfl, rfl, s4, rfl, _, _, rfl, ?_⟩
    rw [hg]
    have q' := q _ (((e1.trans e2).trans e3).trans e4)
    rw [← decide_eq_true (show V.int ((1 : Nat) : Int) = V.int 1 from rfl)] at q'
    exact ⟨rfl, q'⟩
/-! ### is_weight -/
def sp_is_weight (K : PySem.W.Frag) : Sp := fun vs H Q _ => ∃ v n, vs = [v] ∧ Ld K H v (Nm.data n) ∧ n.ok ∧ n.nn ∧ ∀ H', Same H H' → Q (.bl true) H'
theorem ok_is_weight (T : Txt K mg) : FnOk P0 w K mg base CX0 4 (aF K "is_weight") (dF K "is_weight") ["value"] (sp_is_weight K) := by
  have G_is_list : FnOk P0 w K mg base CX0 1 (aF K "is_list") (dF K "is_list") ["value"] (sp_is_list K) := ok_is_list T
  have G_is_number : FnOk P0 w K mg base CX0 3 (aF K "is_number") (dF K "is_number") ["value"] (sp_is_number K) := ok_is_number T
  refine T.f_is_weight.ok sc_is_weight (fun vs H Q E h => ?_) (fun cdv A outer s H vs Q E hr h => ?_)
  · obtain ⟨v, n, rfl, _⟩ := h
    rfl
  obtain ⟨v, n, rfl, hv, hn, hp, q⟩ := h
  refine ⟨_, ((pss_one (ps_ret (pe_and (pe_call G_is_number (hr.mono (by omega)) rfl T.g_is_number T.f_is_number.kp T.b_is_number .nil pass0 (pa_cons (pv 0) pa_nil)) (pe_one (pe_cmpR op_ge (pe_ifExp (pt_val (pe_call G_is_list (hr.mono (by omega)) rfl T.g_is_list T.f_is_list.kp T.b_is_list .nil pass0 (pa_cons (pv 0) pa_nil))) (pe_ix (kix K rfl) (pv 0) pe_int (fun _ _ => rfl)) (pv 0)) pe_int (nomark _))))))), ?_⟩
  refine ⟨_, rfl, _, n, rfl, hv, hn, fun H1 e1 => ⟨true, rfl, ?_⟩⟩
  have hv1 := hv.same e1
  cases n with
  | i n =>
    cases hv1
    refine ⟨_, rfl, _, true, rfl, .int n, fun H2 e2 => ⟨_, rfl, ?_⟩⟩
    refine ⟨_, rfl, _, _, rfl, rfl, ?_⟩
    have q' := q _ (e1.trans e2)
    rw [← decide_eq_true (show (n : Int) ≥ 0 from hp)] at q'
    exact q'
  | f p d =>
    obtain ⟨a, b, xs, rfl, h1, h2, h3⟩ := hv1.seq_inv
    obtain ⟨x, y, rfl⟩ : ∃ x y, xs = [x, y] := by
      match xs, h2 with
      | [x, y], _ => exact ⟨x, y, rfl⟩
    have hx : x = .int p := by cases h3 0 x _ rfl rfl; rfl
    subst hx
    refine ⟨_, rfl, _, false, rfl, .seq h1, fun H2 e2 => ⟨_, rfl, ?_⟩⟩
    refine ⟨_, rfl, _, _, _, _, _, rfl, rfl, Same.sqb e2 h1, rfl, _, _, rfl, rfl, ?_⟩
    have q' := q _ (e1.trans e2)
    rw [← decide_eq_true (show (p : Int) ≥ 0 from hp)] at q'
    exact q'
/-! ### is_row, is_weights -/
theorem all_true (n : Nat) : (List.ofFn fun _ : Fin n => true).all id = true := by
  simp
def sp_is_row (K : PySem.W.Frag) : Sp := fun vs H Q _ => ∃ v r, vs = [v, .int ((List.length r : Nat) : Int)] ∧ Ld K H v (.tuple (List.map Nm.data r)) ∧ r.length < 1000 ∧ (∀ n ∈ r, Nm.ok n) ∧ ∀ H', Same H H' → Q (.bl true) H'
def sp_is_weights (K : PySem.W.Frag) : Sp := fun vs H Q _ => ∃ v r, vs = [v, .int ((List.length r : Nat) : Int)] ∧ Ld K H v (.tuple (List.map Nm.data r)) ∧ r.length < 1000 ∧ (∀ n ∈ r, Nm.ok n ∧ Nm.nn n) ∧ ∀ H', Same H H' → Q (.bl true) H'
theorem ok_is_row (T : Txt K mg) : FnOk P0 w K mg base CX0 4 (aF K "is_row") (dF K "is_row") ["value", "many"] (sp_is_row K) := by
  have G_is_list : FnOk P0 w K mg base CX0 1 (aF K "is_list") (dF K "is_list") ["value"] (sp_is_list K) := ok_is_list T
  have G_is_number : FnOk P0 w K mg base CX0 3 (aF K "is_number") (dF K "is_number") ["value"] (sp_is_number K) := ok_is_number T
  refine T.f_is_row.ok sc_is_row (fun vs H Q E h => ?_) (fun cdv A outer s H vs Q E hr h => ?_)
  · obtain ⟨v, r, rfl, _⟩ := h
    rfl
  obtain ⟨v, r, rfl, hv, hl, hn, q⟩ := h
  obtain ⟨a, b, xs, rfl, h1, h2, h3⟩ := hv.seq_inv
  rw [List.length_map] at h2
  refine ⟨_, ((pss_one (ps_ret (pe_and (pe_call G_is_list (hr.mono (by omega)) rfl T.g_is_list T.f_is_list.kp T.b_is_list .nil pass0 (pa_cons (pv 0) pa_nil)) (pe_and (pe_cmpR op_eq (pe_callB (klen K rfl) (by rfl) T.z_len bt_len (pa_cons (pv 0) pa_nil)) (pv 1) (nomark _)) (pe_one (pe_callB (kall K rfl rfl) (by rfl) T.z_all bt_all (pa_cons (pe_lc (own := [("each", 2)]) rfl sc_is_row.nd (kpi K rfl (pv 0)) (blkOk_by (by kernel_rfl)) (fun _ _ _ _ _ => (pg_name (i := 2) sc_is_row.nd rfl (Or.inl rfl))) (fun _ _ _ _ _ => pts_nil) (fun _ _ _ _ _ => (pe_call G_is_number (hr.mono (by omega)) rfl T.g_is_number T.f_is_number.kp T.b_is_number .nil pass0 (pa_cons (pv 2) pa_nil)))) pa_nil)))))))), ?_⟩
  refine ⟨_, rfl, _, false, rfl, .seq h1, fun H1 e1 => ⟨_, rfl, ?_⟩⟩
  have s1 := Same.sqb e1 h1
  refine ⟨_, rfl, _, _, _, rfl, s1, _, rfl, rfl, _, rfl, ?_⟩
  refine itP (by rw [h2]; exact decide_eq_true rfl) ?_
  refine ⟨_, rfl, a, b, rfl, ⟨_, s1⟩, fun D hD => lc_all hD s1 (by rw [h2]; exact Nat.lt_of_lt_of_le hl (by decide)) (fun _ => rfl) (fun _ => true) ?_ ?_⟩
  · intro i x H2 hx e2 Qe hq
    have hi : i < r.length := by rw [← h2]; exact (List.getElem?_eq_some_iff.mp hx).1
    exact ⟨_, rfl, x, r[i], rfl, (h3 i x _ hx (by rw [List.getElem?_map, List.getElem?_eq_getElem hi] <;> rfl)).same (e1.trans e2), hn _ (List.getElem_mem hi), hq⟩
  · intro H2 e2 hs
    refine ⟨_, _, rfl, hs, ?_⟩
    rw [all_true]
    exact q _ (e1.trans e2)
theorem ok_is_weights (T : Txt K mg) : FnOk P0 w K mg base CX0 5 (aF K "is_weights") (dF K "is_weights") ["value", "many"] (sp_is_weights K) := by
  have G_is_list : FnOk P0 w K mg base CX0 1 (aF K "is_list") (dF K "is_list") ["value"] (sp_is_list K) := ok_is_list T
  have G_is_weight : FnOk P0 w K mg base CX0 4 (aF K "is_weight") (dF K "is_weight") ["value"] (sp_is_weight K) := ok_is_weight T
  refine T.f_is_weights.ok sc_is_weights (fun vs H Q E h => ?_) (fun cdv A outer s H vs Q E hr h => ?_)
  · obtain ⟨v, r, rfl, _⟩ := h
    rfl
  obtain ⟨v, r, rfl, hv, hl, hn, q⟩ := h
  obtain ⟨a, b, xs, rfl, h1, h2, h3⟩ := hv.seq_inv
  rw [List.length_map] at h2
  refine ⟨_, ((pss_one (ps_ret (pe_and (pe_call G_is_list (hr.mono (by omega)) rfl T.g_is_list T.f_is_list.kp T.b_is_list .nil pass0 (pa_cons (pv 0) pa_nil)) (pe_and (pe_cmpR op_eq (pe_callB (klen K rfl) (by rfl) T.z_len bt_len (pa_cons (pv 0) pa_nil)) (pv 1) (nomark _)) (pe_one (pe_callB (kall K rfl rfl) (by rfl) T.z_all bt_all (pa_cons (pe_lc (own := [("each", 2)]) rfl sc_is_weights.nd (kpi K rfl (pv 0)) (blkOk_by (by kernel_rfl)) (fun _ _ _ _ _ => (pg_name (i := 2) sc_is_weights.nd rfl (Or.inl rfl))) (fun _ _ _ _ _ => pts_nil) (fun _ _ _ _ _ => (pe_call G_is_weight (hr.mono (by omega)) rfl T.g_is_weight T.f_is_weight.kp T.b_is_weight .nil pass0 (pa_cons (pv 2) pa_nil)))) pa_nil)))))))), ?_⟩
  refine ⟨_, rfl, _, false, rfl, .seq h1, fun H1 e1 => ⟨_, rfl, ?_⟩⟩
  have s1 := Same.sqb e1 h1
  refine ⟨_, rfl, _, _, _, rfl, s1, _, rfl, rfl, _, rfl, ?_⟩
  refine itP (by rw [h2]; exact decide_eq_true rfl) ?_
  refine ⟨_, rfl, a, b, rfl, ⟨_, s1⟩, fun D hD => lc_all hD s1 (by rw [h2]; exact Nat.lt_of_lt_of_le hl (by decide)) (fun _ => rfl) (fun _ => true) ?_ ?_⟩
  · intro i x H2 hx e2 Qe hq
    have hi : i < r.length := by rw [← h2]; exact (List.getElem?_eq_some_iff.mp hx).1
    have hm := hn _ (List.getElem_mem hi)
    exact ⟨_, rfl, x, r[i], rfl, (h3 i x _ hx (by rw [List.getElem?_map, List.getElem?_eq_getElem hi] <;> rfl)).same (e1.trans e2), hm.1, hm.2, hq⟩
  · intro H2 e2 hs
    refine ⟨_, _, rfl, hs, ?_⟩
    rw [all_true]
    exact q _ (e1.trans e2)
/-! ### is_lot -/
def lotD (x : List Nat) : PyData := .tuple (x.map fun (k : Nat) => .int (k : Int))
def sp_is_lot (K : PySem.W.Frag) : Sp := fun vs H Q _ => ∃ v x, vs = [v] ∧ Ld K H v (lotD x) ∧ x.length < 1000 ∧ x.Pairwise (· < ·) ∧ ∀ H', Same H H' → Q (.bl true) H'
theorem ok_is_lot (T : Txt K mg) : FnOk P0 w K mg base CX0 2 (aF K "is_lot") (dF K "is_lot") ["value"] (sp_is_lot K) := by
  have G_is_list : FnOk P0 w K mg base CX0 1 (aF K "is_list") (dF K "is_list") ["value"] (sp_is_list K) := ok_is_list T
  have G_is_integer : FnOk P0 w K mg base CX0 1 (aF K "is_integer") (dF K "is_integer") ["value"] (sp_is_integer K) := ok_is_integer T
  refine T.f_is_lot.ok sc_is_lot (fun vs H Q E h => ?_) (fun cdv A outer s H vs Q E hr h => ?_)
  · obtain ⟨v, x, rfl, _⟩ := h
    rfl
  obtain ⟨v, x, rfl, hv, hl, hp, q⟩ := h
  obtain ⟨a, b, xs, rfl, h1, h2, h3⟩ := hv.seq_inv
  rw [List.length_map] at h2
  have hx : ∀ (i : Nat) (h : i < x.length), xs[i]? = some (.int (x[i] : Int)) := fun i h => by
    have hxi : i < xs.length := by rw [h2]; exact h
    have e := h3 i xs[i] (.int (x[i] : Int)) (List.getElem?_eq_getElem hxi) (by rw [List.getElem?_map, List.getElem?_eq_getElem h] <;> rfl)
    rw [List.getElem?_eq_getElem hxi]
    generalize xs[i] = y at e
    cases e
    rfl
  refine ⟨_, ((pss_cons (ps_if (PW.pt (pw_or (pt_not (pt_val (pe_call G_is_list (hr.mono (by omega)) rfl T.g_is_list T.f_is_list.kp T.b_is_list .nil pass0 (pa_cons (pv 0) pa_nil)))) (pw_or1 (pt_not (pt_val (pe_callB (kall K rfl rfl) (by rfl) T.z_all bt_all (pa_cons (pe_lc (own := [("each", 1)]) rfl sc_is_lot.nd (kpi K rfl (pv 0)) (blkOk_by (by kernel_rfl)) (fun _ _ _ _ _ => (pg_name (i := 1) sc_is_lot.nd rfl (Or.inl rfl))) (fun _ _ _ _ _ => pts_nil) (fun _ _ _ _ _ => (pe_call G_is_integer (hr.mono (by omega)) rfl T.g_is_integer T.f_is_integer.kp T.b_is_integer .nil pass0 (pa_cons (pv 1) pa_nil)))) pa_nil))))))) (pss_one (ps_ret pe_bl)) pss_nil)
    (pss_one (ps_ret (pe_callB (kall K rfl rfl) (by rfl) T.z_all bt_all (pa_cons (pe_lc (own := [("k", 2)]) rfl sc_is_lot.nd (pi_range1 rfl T.z_range (pa_cons (pe_op op_sub (pe_callB (klen K rfl) (by rfl) T.z_len bt_len (pa_cons (pv 0) pa_nil)) pe_int) pa_nil)) (blkOk_by (by kernel_rfl)) (fun _ _ _ _ _ => (pg_name (i := 2) sc_is_lot.nd rfl (Or.inl rfl))) (fun _ _ _ _ _ => pts_nil) (fun _ _ _ _ _ => (pe_cmpR op_lt (pe_ix (kix K rfl) (pv 0) (pv 2) (fun _ _ => rfl)) (pe_ix (kix K rfl) (pv 0) (pe_op op_add (pv 2) pe_int) (fun _ _ => rfl)) (nomark _)))) pa_nil)))))), ?_⟩
  refine ⟨_, rfl, _, false, rfl, .seq h1, fun H1 e1 => ⟨_, rfl, ?_⟩⟩
  have s1 := Same.sqb e1 h1
  refine ⟨_, rfl, a, b, rfl, ⟨_, s1⟩, fun D hD => lc_all hD s1 (by rw [h2]; exact Nat.lt_of_lt_of_le hl (by decide)) (fun _ => rfl) (fun _ => true) ?_ ?_⟩
  · intro i y H2 hy e2 Qe hq
    have hi : i < x.length := by rw [← h2]; exact (List.getElem?_eq_some_iff.mp hy).1
    rw [hx i hi] at hy
    cases hy
    exact ⟨_, rfl, _, true, rfl, .int _, hq⟩
  · intro H2 e2 hs
    refine ⟨_, _, rfl, hs, ?_⟩
    rw [all_true]
    refine ⟨true, rfl, ?_⟩
    have s2 := Same.sqb e2 s1
    refine ⟨_, rfl, _, _, _, rfl, s2, _, _, rfl, rfl, ?_⟩
    refine ⟨_, rfl, ?_, ?_, fun D2 hD2 => lc_allR (K := K) hD2 (Nat.lt_of_le_of_lt (show _ ≤ 1000 by rw [h2]; show ((x.length : Int) - 1).toNat ≤ 1000; omega) (by decide)) (fun _ => rfl) (fun _ => true) ?_ ?_⟩
    · show -2 ^ 62 ≤ ((xs.length : Int) - 1)
      omega
    · show ((xs.length : Int) - 1) < 2 ^ 62
      omega
    · intro i H3 hi e3 Qe hq
      have hi' : i + 1 < x.length := by
        have : i < ((xs.length : Int) - 1).toNat := hi
        rw [h2] at this
        omega
      have s3 := Same.sqb e3 s2
      have hz : ((0 : Int) + (i : Nat)) = ((i : Nat) : Int) := Int.zero_add _
      rw [hz]
      refine ⟨_, rfl, _, rfl, _, _, _, _, _, rfl, rfl, s3, atI_nat (hx i (by omega)), ?_⟩
      refine ⟨_, rfl, _, rfl, _, _, rfl, rfl, _, _, _, _, _, rfl, rfl, s3, atI_nat (j := i + 1) (hx (i + 1) hi'), ?_⟩
      refine ⟨_, _, rfl, rfl, ?_⟩
      have hlt : ((x[i] : Nat) : Int) < (x[i + 1] : Nat) := Int.ofNat_lt.mpr (List.pairwise_iff_getElem.mp hp i (i + 1) (by omega) hi' (by omega))
      exact qT hlt (hq _ (Same.refl _))
    · intro H3 e3 hs3
      refine ⟨_, _, rfl, hs3, ?_⟩
      rw [all_true]
      exact q _ ((e1.trans e2).trans e3)
/-! ### kept, kept_row -/
def sp_kept (K : PySem.W.Frag) : Sp := fun vs H Q _ => ∃ v n, vs = [v] ∧ Ld K H v (Nm.data n) ∧ ∀ v' H', Same H H' → Td H' v' n.data → Q v' H'
theorem ok_kept (T : Txt K mg) : FnOk P0 w K mg base CX0 1 (aF K "kept") (dF K "kept") ["number"] (sp_kept K) := by
  refine T.f_kept.ok sc_kept (fun vs H Q E h => ?_) (fun cdv A outer s H vs Q E hr h => ?_)
  · obtain ⟨v, x, rfl, _⟩ := h
    rfl
  obtain ⟨v, n, rfl, hv, q⟩ := h
  refine ⟨_, ((pss_one (ps_ret (pe_ifExp (pt_val (pe_callB (kisiT K rfl) (by rfl) T.z_isinstance bt_isinstance (pa_cons (pv 0) (pa_cons (pe_tup (pa_cons (pe_bltn (v := .ty "list") (by rfl) T.z_list bt_list rfl) (pa_cons (pe_bltn (v := .ty "tuple") (by rfl) T.z_tuple bt_tuple rfl) pa_nil))) pa_nil)))) (pe_callTy (ktup K rfl) (by rfl) T.z_tuple bt_tuple (pa_cons (pv 0) pa_nil)) (pv 0))))), ?_⟩
  have two : ∀ t : Value, Paired ClsV [V.ty "list", V.ty "tuple"] [Value.type "list", Value.type "tuple"] := fun _ => .cons (.ty _) (.cons (.ty _) .nil)
  refine ⟨_, rfl, (by show 2 ≤ sizeLine; decide), fun p hp => ?_⟩
  cases n with
  | i n =>
    cases hv
    refine ⟨_, p, _, .type "int", _, false, rfl, upd_same, two .none, .base (.int _), kitAny_cons (kit_ty (by decide +kernel : kitB "int" "list" = some false)) (fun _ => kitAny_cons (kit_ty (by decide +kernel : kitB "int" "tuple" = some false)) (fun _ => kitAny_nil) (fun z => nomatch z)) (fun z => nomatch z), ?_⟩
    exact ⟨_, rfl, _, rfl, q _ _ (same_upd hp) (.int n)⟩
  | f m d =>
    obtain ⟨a, b, xs, rfl, hp1, h2, h3⟩ := hv.seq_inv'
    have h1 : SqB b K H a xs := hp1.sq
    have s1 := Same.sqb (same_upd (o := .tup [V.ty "list", V.ty "tuple"]) hp) h1
    refine ⟨_, p, _, .type (tyB b), _, true, rfl, upd_same, two .none, ty_SqB s1, ?_, ?_⟩
    · cases b
      · exact kitAny_cons (kit_ty (by decide +kernel : kitB "tuple" "list" = some false)) (fun _ => kitAny_cons (kit_ty (by decide +kernel : kitB "tuple" "tuple" = some true)) (fun z => nomatch z) (fun _ => rfl)) (fun z => nomatch z)
      · exact kitAny_cons (kit_ty (by decide +kernel : kitB "list" "list" = some true)) (fun z => nomatch z) (fun _ => rfl)
    refine ⟨_, rfl, _, rfl, _, _, _, rfl, s1, fun t H' e ht n1 n2 => ?_⟩
    have ee : Same H H' := (same_upd (o := .tup [V.ty "list", V.ty "tuple"]) hp).trans e
    refine q _ _ ee ?_
    have ht' : H' t = some (.tup xs) := by
      cases b with
      | true =>
        obtain ⟨z1, z2⟩ := n1 rfl
        rw [z2]
        exact upd_same
      | false =>
        obtain ⟨z1, z2⟩ := n2 rfl
        rw [z1]
        exact ee _ _ hp1
    refine .tup ht' h2 fun k x dd hx hd => ?_
    have hl := h3 k x dd hx hd
    match k, hd with
    | 0, hd => cases hd; cases hl; exact .int _
    | 1, hd => cases hd; cases hl; exact .int _
def sp_kept_row (K : PySem.W.Frag) : Sp := fun vs H Q _ => ∃ v r, vs = [v] ∧ Ld K H v (.tuple (List.map Nm.data r)) ∧ r.length < 1000 ∧ ∀ v' H', Same H H' → Td H' v' (.tuple (r.map Nm.data)) → Q v' H'
theorem ok_kept_row (T : Txt K mg) : FnOk P0 w K mg base CX0 2 (aF K "kept_row") (dF K "kept_row") ["row"] (sp_kept_row K) := by
  have G_kept : FnOk P0 w K mg base CX0 1 (aF K "kept") (dF K "kept") ["number"] (sp_kept K) := ok_kept T
  refine T.f_kept_row.ok sc_kept_row (fun vs H Q E h => ?_) (fun cdv A outer s H vs Q E hr h => ?_)
  · obtain ⟨v, x, rfl, _⟩ := h
    rfl
  obtain ⟨v, r, rfl, hv, hl, q⟩ := h
  obtain ⟨a, b, xs, rfl, h1, h2, h3⟩ := hv.seq_inv
  rw [List.length_map] at h2
  refine ⟨_, ((pss_one (ps_ret (pe_callTy (ktup K rfl) (by rfl) T.z_tuple bt_tuple (pa_cons (pe_lc (own := [("each", 1)]) rfl sc_kept_row.nd (kpi K rfl (pv 0)) (blkOk_by (by kernel_rfl)) (fun _ _ _ _ _ => (pg_name (i := 1) sc_kept_row.nd rfl (Or.inl rfl))) (fun _ _ _ _ _ => pts_nil) (fun _ _ _ _ _ => (pe_call G_kept (hr.mono (by omega)) rfl T.g_kept T.f_kept.kp T.b_kept .nil pass0 (pa_cons (pv 1) pa_nil)))) pa_nil))))), ?_⟩
  refine ⟨_, rfl, a, b, rfl, ⟨_, h1⟩, fun D hD => lc_pure hD h1 (by rw [h2]; exact Nat.lt_of_lt_of_le hl (by decide)) (fun _ => rfl) (fun i y H' => ∀ n, r[i]? = some n → Td H' y n.data) (fun i y H1 H2 e h n hn => (h n hn).im e) ?_ ?_⟩
  · intro i x H1 hx e1 Qe hq
    have hi : i < r.length := by rw [← h2]; exact (List.getElem?_eq_some_iff.mp hx).1
    refine ⟨_, rfl, x, r[i], rfl, (h3 i x _ hx (by rw [List.getElem?_map, List.getElem?_eq_getElem hi] <;> rfl)).same e1, fun v' H' e' ht => hq _ _ e' fun n hn => ?_⟩
    rw [List.getElem?_eq_getElem hi] at hn
    cases hn
    exact ht
  · intro ys H1 e1 hD1 hl1 hP
    refine ⟨_, true, _, rfl, SqL.of hD1, fun t H' e ht n1 _ => ?_⟩
    obtain ⟨z1, z2⟩ := n1 rfl
    subst z2
    refine q _ _ (Same.snoc e1 z1) (.tup upd_same (by rw [hl1, h2, List.length_map]) fun k y d hy hd => ?_)
    rw [List.getElem?_map] at hd
    cases hn : r[k]? with
    | none => rw [hn] at hd; cases hd
    | some n =>
      rw [hn] at hd
      cases hd
      exact (hP k y hy n hn).same (same_upd z1)
end
end PL
end
section
set_option maxHeartbeats 4000000
/-! D2: numbers. -/
namespace PL
open PySem PySem.Spec PyProof.Rows L2
section
variable {w : World} {K : PySem.W.Frag} {mg : Str → Option Value} {base : Heap}
/-! ### texts of small numbers -/
theorem num_len_fin : ∀ k : Fin 121, (num ((k : Nat) - 60 : Int)).length ≤ 3 := by decide +kernel
theorem num_len {n : Int} (h : -60 ≤ n ∧ n ≤ 60) : (num n).length ≤ 3 := by
  obtain ⟨h1, h2⟩ := h
  have e : n = (((⟨(n + 60).toNat, by omega⟩ : Fin 121) : Nat) : Int) - 60 := by
    show n = ((n + 60).toNat : Int) - 60
    omega
  rw [e]
  exact num_len_fin _
theorem num_log {n : Int} (h : -60 ≤ n ∧ n ≤ 60) : n.natAbs.log2 < 1920 := by
  have h2 : n.natAbs < 2 ^ 6 := by omega
  rcases Nat.eq_zero_or_pos n.natAbs with z | z
  · rw [z]; decide
  · exact Nat.lt_trans ((Nat.log2_lt (by omega)).mpr h2) (by decide)
theorem smallI.wide {n : Int} (h : smallI n) : -60 ≤ n ∧ n ≤ 60 := ⟨by have := h.1; omega, by have := h.2; omega⟩
theorem slen_app (a b : Str) : (a ++ b).length = a.length + b.length := by
  show (a.cps ++ b.cps).size = _
  rw [Array.size_append]
  rfl
def Nm.num : Nm → Int
  | .i n => n
  | .f p _ => p
def Nm.den : Nm → Int
  | .i _ => 1
  | .f _ q => q
/-! ### halves -/
def sp_halves (K : PySem.W.Frag) : Sp := fun vs H Q _ => ∃ v n, vs = [v] ∧ Ld K H v (Nm.data n) ∧ ∀ p H', Same H H' → H' p = some (.tup [.int n.num, .int n.den]) → Q (.ref p) H'
theorem ok_halves (T : Txt K mg) : FnOk P0 w K mg base CX0 1 (aF K "halves") (dF K "halves") ["number"] (sp_halves K) := by
  refine T.f_halves.ok sc_halves (fun vs H Q E h => by first | (obtain ⟨_, rfl, _⟩ := h; rfl) | (obtain ⟨_, _, rfl, _⟩ := h; rfl) | (obtain ⟨_, _, _, rfl, _⟩ := h; rfl) | (obtain ⟨_, _, _, _, rfl, _⟩ := h; rfl) | (obtain ⟨_, _, _, _, _, rfl, _⟩ := h; rfl) | (obtain ⟨_, _, _, _, _, _, rfl, _⟩ := h; rfl) | (obtain ⟨_, _, _, _, _, _, _, rfl, _⟩ := h; rfl) | (obtain ⟨_, _, _, _, _, _, _, _, rfl, _⟩ := h; rfl) | (obtain ⟨rfl, _⟩ := h; rfl)) (fun cdv A outer s H vs Q E hr h => ?_)
  obtain ⟨v, n, rfl, hv, q⟩ := h
  refine ⟨_, ((pss_one (ps_ret (pe_ifExp (pt_val (pe_callB (kisi K rfl) (by rfl) T.z_isinstance bt_isinstance (pa_cons (pv 0) (pa_cons (pe_bltn (v := .ty "int") (by rfl) T.z_int bt_int rfl) pa_nil)))) (pe_tup (pa_cons (pv 0) (pa_cons pe_int pa_nil))) (pe_tup (pa_cons (pe_ix (kix K rfl) (pv 0) pe_int (fun _ _ => rfl)) (pa_cons (pe_ix (kix K rfl) (pv 0) pe_int (fun _ _ => rfl)) pa_nil))))))), ?_⟩
  cases n with
  | i n =>
    cases hv
    refine ⟨_, rfl, _, _, _, _, true, rfl, .ty _, .base (.int _), kit_ty (by decide +kernel), true, rfl, ?_⟩
    refine ⟨_, rfl, (by show 2 ≤ sizeLine; decide), fun p hp => q _ _ (same_upd hp) upd_same⟩
  | f m d =>
    obtain ⟨a, b, xs, rfl, h1, h2, h3⟩ := hv.seq_inv
    obtain ⟨x, y, rfl⟩ : ∃ x y, xs = [x, y] := by
      match xs, h2 with
      | [x, y], _ => exact ⟨x, y, rfl⟩
    have hx : x = .int m := by cases h3 0 x _ rfl rfl; rfl
    have hy : y = .int d := by cases h3 1 y _ rfl rfl; rfl
    subst hx hy
    refine ⟨_, rfl, _, _, _, _, false, rfl, .ty _, ty_SqB h1, ?_, false, rfl, ?_⟩
    · cases b <;> exact kit_ty (by decide +kernel)
    refine ⟨_, rfl, _, _, _, _, _, rfl, rfl, h1, rfl, ?_⟩
    refine ⟨_, rfl, _, _, _, _, _, rfl, rfl, h1, rfl, ?_⟩
    exact ⟨(by show 2 ≤ sizeLine; decide), fun p hp => q _ _ (same_upd hp) upd_same⟩
/-! ### below(number, 0) -/
def sp_below (K : PySem.W.Frag) : Sp := fun vs H Q _ => ∃ v n, vs = [v, .int 0] ∧ Ld K H v (Nm.data n) ∧ n.ok ∧ n.nn ∧ ∀ H', Same H H' → Q (.bl false) H'
theorem ok_below (T : Txt K mg) : FnOk P0 w K mg base CX0 2 (aF K "below") (dF K "below") ["one", "other"] (sp_below K) := by
  have G_halves := ok_halves (w := w) (base := base) T
  refine T.f_below.ok sc_below (fun vs H Q E h => by first | (obtain ⟨_, rfl, _⟩ := h; rfl) | (obtain ⟨_, _, rfl, _⟩ := h; rfl) | (obtain ⟨_, _, _, rfl, _⟩ := h; rfl) | (obtain ⟨_, _, _, _, rfl, _⟩ := h; rfl) | (obtain ⟨_, _, _, _, _, rfl, _⟩ := h; rfl) | (obtain ⟨_, _, _, _, _, _, rfl, _⟩ := h; rfl) | (obtain ⟨_, _, _, _, _, _, _, rfl, _⟩ := h; rfl) | (obtain ⟨_, _, _, _, _, _, _, _, rfl, _⟩ := h; rfl) | (obtain ⟨rfl, _⟩ := h; rfl)) (fun cdv A outer s H vs Q E hr h => ?_)
  obtain ⟨v, n, rfl, hv, hn, hp, q⟩ := h
  refine ⟨_, ((pss_cons (ps_asg (pe_tup (pa_cons (pe_call G_halves (hr.mono (by omega)) rfl T.g_halves T.f_halves.kp T.b_halves .nil pass0 (pa_cons (pv 0) pa_nil)) (pa_cons (pe_call G_halves (hr.mono (by omega)) rfl T.g_halves T.f_halves.kp T.b_halves .nil pass0 (pa_cons (pv 1) pa_nil)) pa_nil))) (kgtup K 2 rfl rfl (pgs_cons (kgtup K 2 rfl rfl (pgs_cons (pg_name (i := 2) sc_below.nd rfl (Or.inl rfl)) (pgs_cons (pg_name (i := 3) sc_below.nd rfl (Or.inl rfl)) pgs_nil))) (pgs_cons (kgtup K 2 rfl rfl (pgs_cons (pg_name (i := 4) sc_below.nd rfl (Or.inl rfl)) (pgs_cons (pg_name (i := 5) sc_below.nd rfl (Or.inl rfl)) pgs_nil))) pgs_nil))))
    (pss_one (ps_ret (pe_cmpR op_lt (pe_op op_mul (pv 2) (pv 5)) (pe_op op_mul (pv 4) (pv 3)) (nomark _)))))), ?_⟩
  refine ⟨_, rfl, v, n, rfl, hv, fun p1 H1 e1 t1 => ?_⟩
  refine ⟨_, rfl, .int 0, .i 0, rfl, .int 0, fun p2 H2 e2 t2 => ?_⟩
  refine ⟨(by show 2 ≤ sizeLine; decide), fun p3 hp3 => ?_⟩
  have s1 : upd H2 p3 (.tup [.ref p1, .ref p2]) p1 = some (.tup [.int n.num, .int n.den]) := by rw [upd_ne (ne_of_none (e2 _ _ t1) hp3)]; exact e2 _ _ t1
  have s2 : upd H2 p3 (.tup [.ref p1, .ref p2]) p2 = some (.tup [.int 0, .int 1]) := by rw [upd_ne (ne_of_none t2 hp3)]; exact t2
  refine ⟨_, _, rfl, SqT.of upd_same, rfl, _, _, rfl, ⟨_, _, rfl, SqT.of s1, rfl, _, _, rfl, _, _, rfl, rfl, ?_⟩⟩
  refine ⟨_, _, rfl, ⟨_, _, rfl, SqT.of s2, rfl, _, _, rfl, _, _, rfl, rfl, ?_⟩⟩
  refine ⟨rfl, ?_⟩
  have hb : -(2 ^ 64) < n.num ∧ n.num < 2 ^ 64 := by
    cases n with
    | i n => exact ⟨by show _ < n; have := hn.1; omega, by show n < _; have := hn.2; omega⟩
    | f p d => exact ⟨by show _ < p; have := hn.1.1; omega, by show p < _; have := hn.1.2; omega⟩
  have hc : -(2 ^ 64) < (0 : Int) ∧ (0 : Int) < 2 ^ 64 := by decide
  refine ⟨_, rfl, _, rfl, _, _, rfl, rfl, .inl hb, _, rfl, _, rfl, _, _, rfl, rfl, .inl hc, _, _, rfl, rfl, ?_⟩
  refine qF ?_ (q _ ((e1.trans e2).trans (same_upd hp3)))
  have : 0 ≤ n.num := by
    cases n with
    | i n => exact hp
    | f p d => exact hp
  show ¬ n.num * 1 < 0 * n.den
  omega
/-! ### text_in -/
def sp_text_in (K : PySem.W.Frag) : Sp := fun vs H Q _ => ∃ v n, vs = [v] ∧ Ld K H v (Nm.data n) ∧ n.ok ∧ ∀ H', Same H H' → Q (.str n.txt) H'
theorem ok_text_in (T : Txt K mg) : FnOk P0 w K mg base CX0 2 (aF K "text_in") (dF K "text_in") ["number"] (sp_text_in K) := by
  have G_halves := ok_halves (w := w) (base := base) T
  refine T.f_text_in.ok sc_text_in (fun vs H Q E h => by first | (obtain ⟨_, rfl, _⟩ := h; rfl) | (obtain ⟨_, _, rfl, _⟩ := h; rfl) | (obtain ⟨_, _, _, rfl, _⟩ := h; rfl) | (obtain ⟨_, _, _, _, rfl, _⟩ := h; rfl) | (obtain ⟨_, _, _, _, _, rfl, _⟩ := h; rfl) | (obtain ⟨_, _, _, _, _, _, rfl, _⟩ := h; rfl) | (obtain ⟨_, _, _, _, _, _, _, rfl, _⟩ := h; rfl) | (obtain ⟨_, _, _, _, _, _, _, _, rfl, _⟩ := h; rfl) | (obtain ⟨rfl, _⟩ := h; rfl)) (fun cdv A outer s H vs Q E hr h => ?_)
  obtain ⟨v, n, rfl, hv, hn, q⟩ := h
  refine ⟨_, ((pss_cons (ps_asg (pe_call G_halves (hr.mono (by omega)) rfl T.g_halves T.f_halves.kp T.b_halves .nil pass0 (pa_cons (pv 0) pa_nil)) (kgtup K 2 rfl rfl (pgs_cons (pg_name (i := 1) sc_text_in.nd rfl (Or.inl rfl)) (pgs_cons (pg_name (i := 2) sc_text_in.nd rfl (Or.inl rfl)) pgs_nil))))
    (pss_one (ps_ret (pe_ifExp (pt_cmpR op_eq (pv 2) pe_int (nomark _)) (pe_callTy call_str_int (by rfl) T.z_str bt_str (pa_cons (pv 1) pa_nil)) (pe_joined (PJ.cons (pe_fmt (pv 1)) (PJ.cons pe_str (PJ.cons (pe_fmt (pv 2)) PJ.nil))))))))), ?_⟩
  refine ⟨_, rfl, v, n, rfl, hv, fun p1 H1 e1 t1 => ?_⟩
  refine ⟨_, _, rfl, SqT.of t1, rfl, _, _, rfl, _, _, rfl, rfl, ?_⟩
  cases n with
  | i n =>
    refine ⟨_, rfl, rfl, _, rfl, itP (decide_eq_true rfl) ?_⟩
    exact ⟨_, rfl, _, rfl, num_log hn.wide, q _ e1⟩
  | f p d =>
    have h2 : smallI d := ⟨by have := hn.2.1; omega, by have := hn.2.2.1; omega⟩
    refine ⟨_, rfl, rfl, _, rfl, itN (fun c => ?_) ?_⟩
    · have : V.int d = V.int 1 := of_decide_eq_true c
      have e : d = 1 := by injection this
      have := hn.2.1
      omega
    · have l1 := num_len hn.1.wide
      have l2 := num_len h2.wide
      have z : (10 : Nat) ≤ sizeLine := by decide
      have ls : (("/" : Str)).length = 1 := by decide +kernel
      have le : (Str.empty).length = 0 := by decide +kernel
      refine ⟨_, rfl, .inr ⟨_, rfl, num_log hn.1.wide, _, rfl, ?_, _, rfl, ?_, _, rfl, .inr ⟨_, rfl, num_log h2.wide, _, rfl, ?_, ?_⟩⟩⟩
      · show (Str.empty ++ num p).length ≤ _
        rw [slen_app, le]
        omega
      · show (Str.empty ++ num p ++ ("/" : Str)).length ≤ _
        rw [slen_app, slen_app, le, ls]
        omega
      · show (Str.empty ++ num p ++ ("/" : Str) ++ num d).length ≤ _
        rw [slen_app, slen_app, slen_app, le, ls]
        omega
      · have e : (Str.empty ++ num p ++ ("/" : Str) ++ num d) = (Nm.f p d).txt := by
          show _ = num p ++ (("/" : Str) ++ num d)
          rw [Str.empty_append, Str.append_assoc]
        show Q (.str (Str.empty ++ num p ++ ("/" : Str) ++ num d)) _
        rw [e]
        exact q _ e1
end
end PL
end
section
set_option maxHeartbeats 4000000
/-! D3: the needs. -/
namespace PL
open PySem PySem.Spec PyProof.Rows L2
section
variable {w : World} {K : PySem.W.Frag} {mg : Str → Option Value} {base : Heap}
theorem nT {p : Prop} [Decidable p] (h : p) : ¬ ((!decide p) = true) := by simp [h]
theorem ys_map {α : Type} {ys : List V} {zs : List α} {f : α → V} (hl : ys.length = zs.length) (h : ∀ (i : Nat) y, ys[i]? = some y → ∀ z, zs[i]? = some z → y = f z) : ys = zs.map f := by
  refine List.ext_getElem (by simp [hl]) fun k h1 h2 => ?_
  have hz : k < zs.length := by rw [← hl]; exact h1
  rw [h k ys[k] (List.getElem?_eq_getElem h1) zs[k] (List.getElem?_eq_getElem hz)]
  simp
/-- places one by one -/
def Pls (K : PySem.W.Frag) (H : Hp) (as : List Addr) (ts : List Tr) : Prop := as.length = ts.length ∧ ∀ (k : Nat) b p, as[k]? = some b → ts[k]? = some p → PlAt K H b p
theorem Pls.same {H H' : Hp} (e : Same H H') {as : List Addr} {ts : List Tr} (h : Pls K H as ts) : Pls K H' as ts := ⟨h.1, fun k b p h1 h2 => (h.2 k b p h1 h2).same e⟩
theorem Pls.at {H : Hp} {as : List Addr} {ts : List Tr} (h : Pls K H as ts) {k : Nat} {x : V} (hx : (as.map V.ref)[k]? = some x) : ∃ a t, x = .ref a ∧ as[k]? = some a ∧ ts[k]? = some t ∧ PlAt K H a t := by
  rw [List.getElem?_map] at hx
  cases e : as[k]? with
  | none => rw [e] at hx; cases hx
  | some a =>
    rw [e] at hx
    cases hx
    have hk : k < ts.length := by rw [← h.1]; exact (List.getElem?_eq_some_iff.mp e).1
    exact ⟨a, ts[k], rfl, rfl, List.getElem?_eq_getElem hk, h.2 k a _ e (List.getElem?_eq_getElem hk)⟩
theorem PlAt.ty {T : Txt K mg} {H : Hp} {a : Addr} {t : Tr} (h : PlAt K H a t) : ∃ C, TyX K H (.ref a) (.ref C) ∧ PySem.W.kitOne K (.ref C) (.ref (aF K "Place")) = some true := by
  obtain ⟨dx, pa, fs, vt, as, hH, _⟩ := h.inv
  exact ⟨_, .base (.ins hH (T.pl t.w).cl (T.pl t.w).tc T.hn T.htk (T.pl t.w).ob), (T.pl t.w).isP⟩
/-! ### need_room -/
def sp_need_room : Sp := fun vs H Q _ => ∃ m l : Int, vs = [.int m, .int l] ∧ m ≤ 120 ∧ l ≤ 10 ∧ Q .non H
theorem ok_need_room (T : Txt K mg) : FnOk P0 w K mg base CX0 1 (aF K "need_room") (dF K "need_room") ["many", "levels"] (sp_need_room) := by
  refine T.f_need_room.ok sc_need_room (fun vs H Q E h => by first | (obtain ⟨_, rfl, _⟩ := h; rfl) | (obtain ⟨_, _, rfl, _⟩ := h; rfl) | (obtain ⟨_, _, _, rfl, _⟩ := h; rfl) | (obtain ⟨_, _, _, _, rfl, _⟩ := h; rfl) | (obtain ⟨_, _, _, _, _, rfl, _⟩ := h; rfl) | (obtain ⟨_, _, _, _, _, _, rfl, _⟩ := h; rfl) | (obtain ⟨_, _, _, _, _, _, _, rfl, _⟩ := h; rfl) | (obtain ⟨_, _, _, _, _, _, _, _, rfl, _⟩ := h; rfl) | (obtain ⟨rfl, _⟩ := h; rfl)) (fun cdv A outer s H vs Q E hr h => ?_)
  obtain ⟨m, l, rfl, hm, hl, q⟩ := h
  refine ⟨_, ((pss_cons (ps_if (pt_cmpR op_gt (pv 0) (pe_globI rfl T.c_MOST_PLACES) (nomark _)) pss_never pss_nil)
    (pss_one (ps_if (pt_cmpR op_gt (pv 1) (pe_globI rfl T.c_MOST_LEVELS) (nomark _)) pss_never pss_nil)))), ?_⟩
  refine ⟨_, rfl, _, _, rfl, rfl, _, rfl, itN (fun c => by have := of_decide_eq_true c; omega) ?_⟩
  exact ⟨_, rfl, _, _, rfl, rfl, _, rfl, itN (fun c => by have := of_decide_eq_true c; omega) q⟩
/-! ### hands_of, how_many, need_place -/
def sp_hands_of (K : PySem.W.Frag) : Sp := fun vs H Q _ => ∃ a t, vs = [.ref a] ∧ PlAt K H a t ∧ ∀ p H', Same H H' → H' p = some (.tup [.int (t.m : Nat), .int (t.i : Nat)]) → Q (.ref p) H'
theorem ok_hands_of (T : Txt K mg) : FnOk P0 w K mg base CX0 1 (aF K "hands_of") (dF K "hands_of") ["place"] (sp_hands_of K) := by
  refine T.f_hands_of.ok sc_hands_of (fun vs H Q E h => by first | (obtain ⟨_, rfl, _⟩ := h; rfl) | (obtain ⟨_, _, rfl, _⟩ := h; rfl) | (obtain ⟨_, _, _, rfl, _⟩ := h; rfl) | (obtain ⟨_, _, _, _, rfl, _⟩ := h; rfl) | (obtain ⟨_, _, _, _, _, rfl, _⟩ := h; rfl) | (obtain ⟨_, _, _, _, _, _, rfl, _⟩ := h; rfl) | (obtain ⟨_, _, _, _, _, _, _, rfl, _⟩ := h; rfl) | (obtain ⟨_, _, _, _, _, _, _, _, rfl, _⟩ := h; rfl) | (obtain ⟨rfl, _⟩ := h; rfl)) (fun cdv A outer s H vs Q E hr h => ?_)
  obtain ⟨a, t, rfl, hp, q⟩ := h
  refine ⟨_, ((pss_one (ps_ret (pe_tup (pa_cons (kfld K rfl (pv 0) rfl) (pa_cons (kfld K rfl (pv 0) rfl) pa_nil)))))), ?_⟩
  obtain ⟨dx, pa, fs, vt, as, hH, hw, ht, htd, hk, hri, hpp, hpa, hal, hps, hm, hl⟩ := hp.inv
  refine ⟨_, rfl, _, _, _, _, _, rfl, hH, (T.pl t.w).cl, (T.pl t.w).n_keeper_hands, hk, _, rfl, _, _, _, _, _, rfl, hH, (T.pl t.w).cl, (T.pl t.w).n_rival_hands, hri, ?_⟩
  exact ⟨(by show 2 ≤ sizeLine; decide), fun p hp => q p _ (same_upd hp) upd_same⟩
theorem lots_len {c : List Nat} (h : Rgs c) : ((lotsOf c).map List.length).sum = c.length := by
  have := (lots_inv h).perm.length_eq
  rw [List.length_flatten, List.length_range] at this
  exact this
theorem lots_le {c : List Nat} (h : Rgs c) : (lotsOf c).length ≤ c.length := by
  rw [← lots_len h]
  have I := lots_inv h
  have : ∀ L : List (List Nat), (∀ l ∈ L, l ≠ []) → L.length ≤ (L.map List.length).sum := by
    intro L
    induction L with
    | nil => intro _; exact Nat.le_refl _
    | cons a L ih =>
      intro hL
      have h1 := ih fun l hl => hL l (List.mem_cons_of_mem _ hl)
      have h2 := List.length_pos_iff.mpr (hL a (List.mem_cons_self ..))
      simp only [List.length_cons, List.map_cons, List.sum_cons]
      omega
  exact this _ fun l hl => (I.asc l hl).1
theorem sum_cast (l : List Nat) : (l.map fun (k : Nat) => (k : Int)).sum = (l.sum : Nat) := by
  induction l with
  | nil => rfl
  | cons a l ih => rw [List.map_cons, List.sum_cons, ih, List.sum_cons]; omega
theorem lots_data (c : List Nat) : (Told.lots c).data = .tuple ((lotsOf c).map lotD) := rfl
def sp_how_many (K : PySem.W.Frag) : Sp := fun vs H Q _ => ∃ v c, vs = [v] ∧ Ld K H v (Told.lots c).data ∧ Rgs c ∧ c.length ≤ 8 ∧ ∀ H', Same H H' → Q (.int (c.length : Nat)) H'
theorem ok_how_many (T : Txt K mg) : FnOk P0 w K mg base CX0 1 (aF K "how_many") (dF K "how_many") ["lots"] (sp_how_many K) := by
  refine T.f_how_many.ok sc_how_many (fun vs H Q E h => by first | (obtain ⟨_, rfl, _⟩ := h; rfl) | (obtain ⟨_, _, rfl, _⟩ := h; rfl) | (obtain ⟨_, _, _, rfl, _⟩ := h; rfl) | (obtain ⟨_, _, _, _, rfl, _⟩ := h; rfl) | (obtain ⟨_, _, _, _, _, rfl, _⟩ := h; rfl) | (obtain ⟨_, _, _, _, _, _, rfl, _⟩ := h; rfl) | (obtain ⟨_, _, _, _, _, _, _, rfl, _⟩ := h; rfl) | (obtain ⟨_, _, _, _, _, _, _, _, rfl, _⟩ := h; rfl) | (obtain ⟨rfl, _⟩ := h; rfl)) (fun cdv A outer s H vs Q E hr h => ?_)
  obtain ⟨v, c, rfl, hv, hc, hl, q⟩ := h
  refine ⟨_, ((pss_one (ps_ret (pe_callB (ksum K rfl rfl) (by rfl) T.z_sum bt_sum (pa_cons (pe_lc (own := [("lot", 1)]) rfl sc_how_many.nd (kpi K rfl (pv 0)) (blkOk_by (by kernel_rfl)) (fun _ _ _ _ _ => (pg_name (i := 1) sc_how_many.nd rfl (Or.inl rfl))) (fun _ _ _ _ _ => pts_nil) (fun _ _ _ _ _ => (pe_callB (klen K rfl) (by rfl) T.z_len bt_len (pa_cons (pv 1) pa_nil)))) pa_nil))))), ?_⟩
  obtain ⟨a, b, xs, rfl, h1, h2, h3⟩ := hv.seq_inv
  rw [List.length_map] at h2
  have hz := lots_le hc
  refine ⟨_, rfl, a, b, rfl, ⟨_, h1⟩, fun D hD => lc_pure hD h1 (by rw [h2]; exact Nat.lt_of_le_of_lt (show _ ≤ 8 by omega) (by decide)) (fun _ => rfl) (fun i y H' => ∀ l, (lotsOf c)[i]? = some l → y = .int ((List.length l : Nat) : Int)) (fun i y H1 H2 e h => h) ?_ ?_⟩
  · intro i x H1 hx e1 Qe hq
    have hi : i < (lotsOf c).length := by rw [← h2]; exact (List.getElem?_eq_some_iff.mp hx).1
    obtain ⟨a2, b2, ys, rfl, g1, g2, g3⟩ := ((h3 i x (lotD (lotsOf c)[i]) hx (by rw [List.getElem?_map, List.getElem?_eq_getElem hi] <;> rfl)).same e1).seq_inv
    refine ⟨_, rfl, _, _, _, rfl, g1, hq _ _ (Same.refl _) fun l hl => ?_⟩
    rw [List.getElem?_eq_getElem hi] at hl
    cases hl
    rw [g2, List.length_map]
  · intro ys H1 e1 hD1 hl1 hP
    have e : ys = ((lotsOf c).map fun l => (List.length l : Int)).map V.int := by
      rw [ys_map (f := fun l => V.int ((List.length l : Nat) : Int)) (hl1.trans h2) hP, List.map_map]
      rfl
    refine ⟨_, _, rfl, SqL.of (e ▸ hD1), ?_⟩
    have e2 : ((lotsOf c).map fun l => (List.length l : Int)).sum = (c.length : Nat) := by
      rw [← lots_len hc, ← sum_cast, List.map_map]
      rfl
    rw [e2]
    exact q _ e1
def sp_need_place (K : PySem.W.Frag) : Sp := fun vs H Q _ => ∃ a t, vs = [.ref a] ∧ PlAt K H a t ∧ Q .non H
theorem ok_need_place (T : Txt K mg) : FnOk P0 w K mg base CX0 1 (aF K "need_place") (dF K "need_place") ["value"] (sp_need_place K) := by
  refine T.f_need_place.ok sc_need_place (fun vs H Q E h => by first | (obtain ⟨_, rfl, _⟩ := h; rfl) | (obtain ⟨_, _, rfl, _⟩ := h; rfl) | (obtain ⟨_, _, _, rfl, _⟩ := h; rfl) | (obtain ⟨_, _, _, _, rfl, _⟩ := h; rfl) | (obtain ⟨_, _, _, _, _, rfl, _⟩ := h; rfl) | (obtain ⟨_, _, _, _, _, _, rfl, _⟩ := h; rfl) | (obtain ⟨_, _, _, _, _, _, _, rfl, _⟩ := h; rfl) | (obtain ⟨_, _, _, _, _, _, _, _, rfl, _⟩ := h; rfl) | (obtain ⟨rfl, _⟩ := h; rfl)) (fun cdv A outer s H vs Q E hr h => ?_)
  obtain ⟨a, t, rfl, hp, q⟩ := h
  refine ⟨_, ((pss_one (ps_if (pt_not (pt_val (pe_callB (kisi K rfl) (by rfl) T.z_isinstance bt_isinstance (pa_cons (pv 0) (pa_cons (pe_glob (v := .ref (aF K "Place")) rfl T.g_Place rfl) pa_nil))))) pss_never pss_nil))), ?_⟩
  obtain ⟨C, hty, hk⟩ := hp.ty (T := T)
  exact ⟨_, rfl, _, _, _, _, true, rfl, .own _, hty, hk, true, rfl, q⟩
/-! ### need_parts -/
def sp_need_parts (K : PySem.W.Frag) : Sp := fun vs H Q _ => ∃ a b as ts, vs = [.ref a] ∧ SqP b H a (List.map V.ref as) ∧ Pls K H as ts ∧ 1 ≤ ts.length ∧ ts.length ≤ 6 ∧ ∀ q H', Same H H' → H' q = some (.tup (as.map V.ref)) → Q (.ref q) H'
theorem ok_need_parts (T : Txt K mg) : FnOk P0 w K mg base CX0 2 (aF K "need_parts") (dF K "need_parts") ["value"] (sp_need_parts K) := by
  have G_is_list := ok_is_list (w := w) (base := base) T
  refine T.f_need_parts.ok sc_need_parts (fun vs H Q E h => by first | (obtain ⟨_, rfl, _⟩ := h; rfl) | (obtain ⟨_, _, rfl, _⟩ := h; rfl) | (obtain ⟨_, _, _, rfl, _⟩ := h; rfl) | (obtain ⟨_, _, _, _, rfl, _⟩ := h; rfl) | (obtain ⟨_, _, _, _, _, rfl, _⟩ := h; rfl) | (obtain ⟨_, _, _, _, _, _, rfl, _⟩ := h; rfl) | (obtain ⟨_, _, _, _, _, _, _, rfl, _⟩ := h; rfl) | (obtain ⟨_, _, _, _, _, _, _, _, rfl, _⟩ := h; rfl) | (obtain ⟨rfl, _⟩ := h; rfl)) (fun cdv A outer s H vs Q E hr h => ?_)
  obtain ⟨a, b, as, ts, rfl, h1, hP, hl1, hl2, q⟩ := h
  refine ⟨_, ((pss_cons (ps_if (PW.pt (pw_or (pt_not (pt_val (pe_call G_is_list (hr.mono (by omega)) rfl T.g_is_list T.f_is_list.kp T.b_is_list .nil pass0 (pa_cons (pv 0) pa_nil)))) (pw_or (pt_not (pt_chain op_le op_le pe_int (pe_callB (klen K rfl) (by rfl) T.z_len bt_len (pa_cons (pv 0) pa_nil)) (pe_globI rfl T.c_MOST_PARTS))) (pw_or1 (pt_not (pt_val (pe_callB (kall K rfl rfl) (by rfl) T.z_all bt_all (pa_cons (pe_lc (own := [("each", 1)]) rfl sc_need_parts.nd (kpi K rfl (pv 0)) (blkOk_by (by kernel_rfl)) (fun _ _ _ _ _ => (pg_name (i := 1) sc_need_parts.nd rfl (Or.inl rfl))) (fun _ _ _ _ _ => pts_nil) (fun _ _ _ _ _ => (pe_callB (kisi K rfl) (by rfl) T.z_isinstance bt_isinstance (pa_cons (pv 1) (pa_cons (pe_glob (v := .ref (aF K "Place")) rfl T.g_Place rfl) pa_nil))))) pa_nil)))))))) pss_never pss_nil)
    (pss_one (ps_ret (pe_callTy (ktup K rfl) (by rfl) T.z_tuple bt_tuple (pa_cons (pv 0) pa_nil)))))), ?_⟩
  have hq : SqB b K H a (as.map V.ref) := h1.sq
  refine ⟨_, rfl, _, false, rfl, .seq hq, fun H1 e1 => ⟨_, rfl, ?_⟩⟩
  have hq1 := Same.sqb e1 hq
  have hal : (as.map V.ref).length = ts.length := by rw [List.length_map, hP.1]
  refine ⟨_, rfl, _, _, _, rfl, hq1, ?_⟩
  refine ⟨_, _, rfl, rfl, _, rfl, itP (decide_eq_true (by rw [hal]; omega)) ⟨_, _, rfl, rfl, _, rfl, itN (nT (by rw [hal]; omega)) ?_⟩⟩
  refine ⟨_, rfl, a, b, rfl, ⟨_, hq1⟩, fun D hD => lc_all (K := K) hD hq1 (by rw [hal]; exact Nat.lt_of_le_of_lt hl2 (by decide)) (fun _ => rfl) (fun _ => true) ?_ ?_⟩
  · intro i x H2 hx e2 Qe hq
    obtain ⟨a2, t2, rfl, hx2, ht2, hp2⟩ := hP.at hx
    obtain ⟨C, hty, hk⟩ := ((hp2.same e1).same e2).ty (T := T)
    exact ⟨_, rfl, _, _, _, _, true, rfl, .own _, hty, hk, hq _ (Same.refl _)⟩
  · intro H2 e2 hs
    refine ⟨_, _, rfl, hs, ?_⟩
    rw [all_true]
    refine ⟨_, rfl, ?_⟩
    refine ⟨_, rfl, _, _, _, rfl, Same.sqb e2 hq1, fun t H' e ht n1 n2 => q _ _ ((e1.trans e2).trans e) ?_⟩
    cases b with
    | true =>
      obtain ⟨z1, z2⟩ := n1 rfl
      rw [z2]
      exact upd_same
    | false =>
      obtain ⟨z1, z2⟩ := n2 rfl
      rw [z1]
      exact ((e1.trans e2).trans e) _ _ h1
/-! ### need_alike -/
theorem any_false (n : Nat) : (List.ofFn fun _ : Fin n => false).any id = false := by
  simp
def pairD (m i : Nat) : PyData := .tuple [.int (m : Int), .int (i : Int)]
theorem td_pair {H : Hp} {p : Addr} {m i : Nat} (h : H p = some (.tup [.int (m : Int), .int (i : Int)])) : Td H (.ref p) (pairD m i) := .tup h rfl fun k x d hx hd => by
  match k, hx, hd with
  | 0, hx, hd => cases hx; cases hd; exact .int _
  | 1, hx, hd => cases hx; cases hd; exact .int _
theorem pair_shaped (m i : Nat) : SeqAt.shaped (pairD m i) = true := rfl
def sp_need_alike (K : PySem.W.Frag) : Sp := fun vs H Q _ => ∃ p as ts m i, vs = [.ref p] ∧ H p = some (.tup (List.map V.ref as)) ∧ Pls K H as ts ∧ 1 ≤ ts.length ∧ ts.length ≤ 6 ∧ (∀ t ∈ ts, Tr.m t = m ∧ Tr.i t = i) ∧ ∀ H', Same H H' → Q (.ref p) H'
theorem ok_need_alike (T : Txt K mg) : FnOk P0 w K mg base CX0 2 (aF K "need_alike") (dF K "need_alike") ["parts"] (sp_need_alike K) := by
  have G_hands_of := ok_hands_of (w := w) (base := base) T
  refine T.f_need_alike.ok sc_need_alike (fun vs H Q E h => by first | (obtain ⟨_, rfl, _⟩ := h; rfl) | (obtain ⟨_, _, rfl, _⟩ := h; rfl) | (obtain ⟨_, _, _, rfl, _⟩ := h; rfl) | (obtain ⟨_, _, _, _, rfl, _⟩ := h; rfl) | (obtain ⟨_, _, _, _, _, rfl, _⟩ := h; rfl) | (obtain ⟨_, _, _, _, _, _, rfl, _⟩ := h; rfl) | (obtain ⟨_, _, _, _, _, _, _, rfl, _⟩ := h; rfl) | (obtain ⟨_, _, _, _, _, _, _, _, rfl, _⟩ := h; rfl) | (obtain ⟨rfl, _⟩ := h; rfl)) (fun cdv A outer s H vs Q E hr h => ?_)
  obtain ⟨p, as, ts, m, i0, rfl, h1, hP, hl1, hl2, hmi, q⟩ := h
  have hal : (as.map V.ref).length = ts.length := by rw [List.length_map, hP.1]
  obtain ⟨a0, hx0⟩ : ∃ x, (as.map V.ref)[0]? = some x := ⟨_, List.getElem?_eq_getElem (by rw [hal]; omega)⟩
  obtain ⟨b0, t0, rfl, hb0, ht0, hp0⟩ := hP.at hx0
  refine ⟨_, ((pss_cons (ps_if (pt_val (pe_callB (kany K rfl rfl) (by rfl) T.z_any bt_any (pa_cons (pe_lc (own := [("part", 1)]) rfl sc_need_alike.nd (kpi K rfl (pv 0)) (blkOk_by (by kernel_rfl)) (fun _ _ _ _ _ => (pg_name (i := 1) sc_need_alike.nd rfl (Or.inl rfl))) (fun _ _ _ _ _ => pts_nil) (fun _ _ _ _ _ => (pe_cmpR (kneD K rfl (hr.mono (Nat.zero_le _))) (pe_call G_hands_of (hr.mono (by omega)) rfl T.g_hands_of T.f_hands_of.kp T.b_hands_of .nil pass0 (pa_cons (pv 1) pa_nil)) (pe_call G_hands_of (hr.mono (by omega)) rfl T.g_hands_of T.f_hands_of.kp T.b_hands_of .nil pass0 (pa_cons (pe_ix (kix K rfl) (pv 0) pe_int (fun _ _ => rfl)) pa_nil)) (nomark _)))) pa_nil))) pss_never pss_nil)
    (pss_one (ps_ret (pv 0))))), ?_⟩
  refine ⟨_, rfl, p, false, rfl, ⟨_, SqT.of h1⟩, fun D hD => lc_all (K := K) (b := false) hD (SqT.of h1) (by rw [hal]; exact Nat.lt_of_le_of_lt hl2 (by decide)) (fun _ => rfl) (fun _ => false) ?_ ?_⟩
  · intro i x H2 hx e2 Qe hq
    obtain ⟨a2, t2, rfl, hx2, ht2, hp2⟩ := hP.at hx
    obtain ⟨m2, i2⟩ := hmi t2 (List.mem_of_getElem? ht2)
    obtain ⟨m3, i3⟩ := hmi t0 (List.mem_of_getElem? ht0)
    refine ⟨_, rfl, a2, t2, rfl, hp2.same e2, fun p1 H3 e3 g1 => ?_⟩
    refine ⟨_, rfl, p, false, _, 0, _, rfl, rfl, SqT.of ((e2.trans e3) _ _ h1), atI_nat (j := 0) hx0, ?_⟩
    refine ⟨b0, t0, rfl, hp0.same (e2.trans e3), fun p2 H4 e4 g2 => ?_⟩
    rw [m2, i2] at g1
    rw [m3, i3] at g2
    refine ⟨pairD m i0, pairD m i0, (td_pair (e4 _ _ g1)).dp, (td_pair g2).dp, pair_shaped _ _, pair_shaped _ _, ?_⟩
    have er : PyData.eqv (pairD m i0) (pairD m i0) = true := by
      rw [SeqAt.eqv_refl]
      exact SeqAt.canLay_of_shaped (pair_shaped _ _)
    rw [er]
    exact hq _ (e3.trans e4)
  · intro H2 e2 hs
    refine ⟨_, _, rfl, hs, ?_⟩
    rw [any_false]
    refine ⟨_, rfl, ?_⟩
    exact ⟨_, rfl, q _ e2⟩
/-! ### need_counts -/
/-- the items of a list or tuple of ints -/
theorem ld_ints {H : Hp} {xs : List V} {ns : List Int} (hl : xs.length = ns.length) (h : ∀ (k : Nat) x d, xs[k]? = some x → (ns.map PyData.int)[k]? = some d → Ld K H x d) : xs = ns.map V.int :=
  ys_map hl fun i y hy z hz => by
    have := h i y (.int z) hy (by rw [List.getElem?_map, hz] <;> rfl)
    cases this
    rfl
theorem td_ints {H : Hp} {p : Addr} {ns : List Int} (h : H p = some (.tup (ns.map V.int))) : Td H (.ref p) (.tuple (ns.map PyData.int)) := .tup h (by simp) fun k x d hx hd => by
  rw [List.getElem?_map] at hx hd
  cases e : ns[k]? with
  | none => rw [e] at hx; cases hx
  | some z =>
    rw [e] at hx hd
    cases hx
    cases hd
    exact .int z
def sp_need_counts (K : PySem.W.Frag) : Sp := fun vs H Q _ => ∃ v ns, vs = [v] ∧ Ld K H v (.tuple (List.map PyData.int ns)) ∧ 1 ≤ ns.length ∧ ns.length ≤ 8 ∧ (∀ n ∈ ns, 1 ≤ n ∧ n ≤ 4) ∧ ∀ q H', Same H H' → H' q = some (.tup (ns.map V.int)) → Q (.ref q) H'
theorem ok_need_counts (T : Txt K mg) : FnOk P0 w K mg base CX0 3 (aF K "need_counts") (dF K "need_counts") ["value"] (sp_need_counts K) := by
  have G_is_list := ok_is_list (w := w) (base := base) T
  have G_is_within := ok_is_within (w := w) (base := base) T
  refine T.f_need_counts.ok sc_need_counts (fun vs H Q E h => by first | (obtain ⟨_, rfl, _⟩ := h; rfl) | (obtain ⟨_, _, rfl, _⟩ := h; rfl) | (obtain ⟨_, _, _, rfl, _⟩ := h; rfl) | (obtain ⟨_, _, _, _, rfl, _⟩ := h; rfl) | (obtain ⟨_, _, _, _, _, rfl, _⟩ := h; rfl) | (obtain ⟨_, _, _, _, _, _, rfl, _⟩ := h; rfl) | (obtain ⟨_, _, _, _, _, _, _, rfl, _⟩ := h; rfl) | (obtain ⟨_, _, _, _, _, _, _, _, rfl, _⟩ := h; rfl) | (obtain ⟨rfl, _⟩ := h; rfl)) (fun cdv A outer s H vs Q E hr h => ?_)
  obtain ⟨v, ns, rfl, hv, hl1, hl2, hn, q⟩ := h
  obtain ⟨a, b, xs, rfl, h0, h2, h3⟩ := hv.seq_inv'
  rw [List.length_map] at h2
  have ex := ld_ints h2 h3
  subst ex
  have h1 : SqB b K H a (ns.map V.int) := h0.sq
  have hal : (ns.map V.int).length = ns.length := by simp
  refine ⟨_, ((pss_cons (ps_if (PW.pt (pw_or (pt_not (pt_val (pe_call G_is_list (hr.mono (by omega)) rfl T.g_is_list T.f_is_list.kp T.b_is_list .nil pass0 (pa_cons (pv 0) pa_nil)))) (pw_or1 (pt_not (pt_chain op_le op_le pe_int (pe_callB (klen K rfl) (by rfl) T.z_len bt_len (pa_cons (pv 0) pa_nil)) (pe_globI rfl T.c_MOST_HANDS)))))) pss_never pss_nil)
    (pss_cons (ps_if (pt_not (pt_val (pe_callB (kall K rfl rfl) (by rfl) T.z_all bt_all (pa_cons (pe_lc (own := [("each", 1)]) rfl sc_need_counts.nd (kpi K rfl (pv 0)) (blkOk_by (by kernel_rfl)) (fun _ _ _ _ _ => (pg_name (i := 1) sc_need_counts.nd rfl (Or.inl rfl))) (fun _ _ _ _ _ => pts_nil) (fun _ _ _ _ _ => (pe_call G_is_within (hr.mono (by omega)) rfl T.g_is_within T.f_is_within.kp T.b_is_within .nil pass0 (pa_cons (pv 1) (pa_cons pe_int (pa_cons (pe_globI rfl T.c_MOST_COUNT) pa_nil)))))) pa_nil)))) pss_never pss_nil)
    (pss_one (ps_ret (pe_callTy (ktup K rfl) (by rfl) T.z_tuple bt_tuple (pa_cons (pv 0) pa_nil))))))), ?_⟩
  refine ⟨_, rfl, _, false, rfl, .seq h1, fun H1 e1 => ⟨_, rfl, ?_⟩⟩
  have s1 := Same.sqb e1 h1
  refine ⟨_, rfl, _, _, _, rfl, s1, ?_⟩
  refine ⟨_, _, rfl, rfl, _, rfl, itP (decide_eq_true (by rw [hal]; omega)) ⟨_, _, rfl, rfl, _, rfl, itN (nT (by rw [hal]; omega)) ?_⟩⟩
  refine ⟨_, rfl, a, b, rfl, ⟨_, s1⟩, fun D hD => lc_all (K := K) hD s1 (by rw [hal]; exact Nat.lt_of_le_of_lt hl2 (by decide)) (fun _ => rfl) (fun _ => true) ?_ ?_⟩
  · intro i x H2 hx e2 Qe hq
    rw [List.getElem?_map] at hx
    cases e : ns[i]? with
    | none => rw [e] at hx; cases hx
    | some z =>
      rw [e] at hx
      cases hx
      obtain ⟨z1, z2⟩ := hn z (List.mem_of_getElem? e)
      refine ⟨_, rfl, z, some 1, some 4, rfl, fun H3 e3 => ?_⟩
      have c2 : (bndLo (some 1) z && bndHi (some 4) z) = true := by
        show (decide (1 ≤ z) && decide (z ≤ 4)) = true
        rw [decide_eq_true z1, decide_eq_true z2]
        rfl
      rw [c2]
      exact hq _ e3
  · intro H2 e2 hs
    refine ⟨_, _, rfl, hs, ?_⟩
    rw [all_true]
    refine ⟨_, rfl, ?_⟩
    refine ⟨_, rfl, _, _, _, rfl, Same.sqb e2 s1, fun t H' e ht n1 n2 => q _ _ ((e1.trans e2).trans e) ?_⟩
    cases b with
    | true =>
      obtain ⟨z1, z2⟩ := n1 rfl
      rw [z2]
      exact upd_same
    | false =>
      obtain ⟨z1, z2⟩ := n2 rfl
      rw [z1]
      exact ((e1.trans e2).trans e) _ _ h0
/-! ### need_rows, need_table -/
def rowsD (r : List (List Nm)) : PyData := .tuple (r.map fun x => .tuple (x.map Nm.data))
/-- tuple([.. for each in value]) with Td items -/
theorem td_list {α : Type} {H1 : Hp} {t : Addr} {ys : List V} {zs : List α} {f : α → PyData} (hl : ys.length = zs.length) (hP : ∀ (i : Nat) y, ys[i]? = some y → ∀ z, zs[i]? = some z → Td H1 y (f z)) (hn : H1 t = none) :
    Td (upd H1 t (.tup ys)) (.ref t) (.tuple (zs.map f)) := .tup upd_same (by rw [hl, List.length_map]) fun k y d hy hd => by
  rw [List.getElem?_map] at hd
  cases e : zs[k]? with
  | none => rw [e] at hd; cases hd
  | some z =>
    rw [e] at hd
    cases hd
    exact (hP k y hy z e).same (same_upd hn)
def sp_need_rows (K : PySem.W.Frag) : Sp := fun vs H Q _ => ∃ v r, vs = [v] ∧ Ld K H v (rowsD r) ∧ 1 ≤ List.length r ∧ r.length ≤ 8 ∧ (∀ x ∈ r, 1 ≤ List.length x ∧ x.length ≤ 8 ∧ ∀ n ∈ x, Nm.ok n ∧ Nm.nn n) ∧ ∀ v' H', Same H H' → Td H' v' (rowsD r) → Q v' H'
theorem ok_need_rows (T : Txt K mg) : FnOk P0 w K mg base CX0 6 (aF K "need_rows") (dF K "need_rows") ["value"] (sp_need_rows K) := by
  have G_is_list := ok_is_list (w := w) (base := base) T
  have G_is_weights := ok_is_weights (w := w) (base := base) T
  have G_kept_row := ok_kept_row (w := w) (base := base) T
  refine T.f_need_rows.ok sc_need_rows (fun vs H Q E h => by first | (obtain ⟨_, rfl, _⟩ := h; rfl) | (obtain ⟨_, _, rfl, _⟩ := h; rfl) | (obtain ⟨_, _, _, rfl, _⟩ := h; rfl) | (obtain ⟨_, _, _, _, rfl, _⟩ := h; rfl) | (obtain ⟨_, _, _, _, _, rfl, _⟩ := h; rfl) | (obtain ⟨_, _, _, _, _, _, rfl, _⟩ := h; rfl) | (obtain ⟨_, _, _, _, _, _, _, rfl, _⟩ := h; rfl) | (obtain ⟨_, _, _, _, _, _, _, _, rfl, _⟩ := h; rfl) | (obtain ⟨rfl, _⟩ := h; rfl)) (fun cdv A outer s H vs Q E hr h => ?_)
  obtain ⟨v, r, rfl, hv, hl1, hl2, hn, q⟩ := h
  obtain ⟨a, b, xs, rfl, h1, h2, h3⟩ := hv.seq_inv
  rw [List.length_map] at h2
  have hrow : ∀ (i : Nat) x, xs[i]? = some x → ∃ y, r[i]? = some y ∧ Ld K H x (.tuple (y.map Nm.data)) := fun i x hx => by
    have hi : i < r.length := by rw [← h2]; exact (List.getElem?_eq_some_iff.mp hx).1
    exact ⟨r[i], List.getElem?_eq_getElem hi, h3 i x _ hx (by rw [List.getElem?_map, List.getElem?_eq_getElem hi] <;> rfl)⟩
  have hz : xs.length < sizeLine := by rw [h2]; exact Nat.lt_of_le_of_lt hl2 (by decide)
  refine ⟨_, ((pss_cons (ps_if (PW.pt (pw_or (pt_not (pt_val (pe_call G_is_list (hr.mono (by omega)) rfl T.g_is_list T.f_is_list.kp T.b_is_list .nil pass0 (pa_cons (pv 0) pa_nil)))) (pw_or (pt_not (pt_chain op_le op_le pe_int (pe_callB (klen K rfl) (by rfl) T.z_len bt_len (pa_cons (pv 0) pa_nil)) (pe_globI rfl T.c_MOST_HANDS))) (pw_or1 (pt_not (pt_val (pe_callB (kall K rfl rfl) (by rfl) T.z_all bt_all (pa_cons (pe_lc (own := [("row", 1)]) rfl sc_need_rows.nd (kpi K rfl (pv 0)) (blkOk_by (by kernel_rfl)) (fun _ _ _ _ _ => (pg_name (i := 1) sc_need_rows.nd rfl (Or.inl rfl))) (fun _ _ _ _ _ => pts_nil) (fun _ _ _ _ _ => (pe_call G_is_list (hr.mono (by omega)) rfl T.g_is_list T.f_is_list.kp T.b_is_list .nil pass0 (pa_cons (pv 1) pa_nil)))) pa_nil)))))))) pss_never pss_nil)
    (pss_cons (ps_if (pt_not (pt_val (pe_callB (kall K rfl rfl) (by rfl) T.z_all bt_all (pa_cons (pe_lc (own := [("row", 1)]) rfl sc_need_rows.nd (kpi K rfl (pv 0)) (blkOk_by (by kernel_rfl)) (fun _ _ _ _ _ => (pg_name (i := 1) sc_need_rows.nd rfl (Or.inl rfl))) (fun _ _ _ _ _ => pts_nil) (fun _ _ _ _ _ => (pe_and (pe_chain op_le op_le pe_int (pe_callB (klen K rfl) (by rfl) T.z_len bt_len (pa_cons (pv 1) pa_nil)) (pe_globI rfl T.c_MOST_HANDS)) (pe_one (pe_call G_is_weights (hr.mono (by omega)) rfl T.g_is_weights T.f_is_weights.kp T.b_is_weights .nil pass0 (pa_cons (pv 1) (pa_cons (pe_callB (klen K rfl) (by rfl) T.z_len bt_len (pa_cons (pv 1) pa_nil)) pa_nil))))))) pa_nil)))) pss_never pss_nil)
    (pss_one (ps_ret (pe_callTy (ktup K rfl) (by rfl) T.z_tuple bt_tuple (pa_cons (pe_lc (own := [("row", 1)]) rfl sc_need_rows.nd (kpi K rfl (pv 0)) (blkOk_by (by kernel_rfl)) (fun _ _ _ _ _ => (pg_name (i := 1) sc_need_rows.nd rfl (Or.inl rfl))) (fun _ _ _ _ _ => pts_nil) (fun _ _ _ _ _ => (pe_call G_kept_row (hr.mono (by omega)) rfl T.g_kept_row T.f_kept_row.kp T.b_kept_row .nil pass0 (pa_cons (pv 1) pa_nil)))) pa_nil))))))), ?_⟩
  refine ⟨_, rfl, _, false, rfl, .seq h1, fun H1 e1 => ⟨_, rfl, ?_⟩⟩
  have s1 := Same.sqb e1 h1
  refine ⟨_, rfl, _, _, _, rfl, s1, ?_⟩
  refine ⟨_, _, rfl, rfl, _, rfl, itP (decide_eq_true (by rw [h2]; omega)) ⟨_, _, rfl, rfl, _, rfl, itN (nT (by rw [h2]; omega)) ?_⟩⟩
  refine ⟨_, rfl, a, b, rfl, ⟨_, s1⟩, fun D hD => lc_all (K := K) hD s1 hz (fun _ => rfl) (fun _ => true) ?_ ?_⟩
  · intro i x H2 hx e2 Qe hq
    obtain ⟨y, hy, hd⟩ := hrow i x hx
    obtain ⟨a2, b2, ws, rfl, g1, g2, g3⟩ := (hd.same (e1.trans e2)).seq_inv
    exact ⟨_, rfl, _, false, rfl, .seq g1, hq⟩
  · intro H2 e2 hs
    refine ⟨_, _, rfl, hs, ?_⟩
    rw [all_true]
    refine ⟨_, rfl, ?_⟩
    have s2 := Same.sqb e2 s1
    refine ⟨_, rfl, a, b, rfl, ⟨_, s2⟩, fun D hD => lc_all (K := K) hD s2 hz (fun _ => rfl) (fun _ => true) ?_ ?_⟩
    · intro i x H3 hx e3 Qe hq
      obtain ⟨y, hy, hd⟩ := hrow i x hx
      obtain ⟨k1, k2, k3⟩ := hn y (List.mem_of_getElem? hy)
      have hd3 := hd.same ((e1.trans e2).trans e3)
      obtain ⟨a2, b2, ws, rfl, g1, g2, g3⟩ := hd3.seq_inv
      rw [List.length_map] at g2
      refine ⟨_, rfl, _, _, _, rfl, g1, ?_⟩
      refine ⟨_, _, rfl, rfl, _, rfl, itP (decide_eq_true (by rw [g2]; omega)) ⟨_, _, rfl, rfl, _, rfl, itP (decide_eq_true (by rw [g2]; omega)) ?_⟩⟩
      exact ⟨_, rfl, _, rfl, _, _, _, rfl, g1, .ref a2, y, (by rw [g2]; rfl), hd3, by omega, k3, hq⟩
    · intro H3 e3 hs3
      refine ⟨_, _, rfl, hs3, ?_⟩
      rw [all_true]
      refine ⟨_, rfl, ?_⟩
      have s3 := Same.sqb e3 s2
      refine ⟨_, rfl, a, b, rfl, ⟨_, s3⟩, fun D hD => lc_pure hD s3 hz (fun _ => rfl) (fun i y H' => ∀ z, r[i]? = some z → Td H' y (.tuple (z.map Nm.data))) (fun i y H1 H2 e h z hz => (h z hz).im e) ?_ ?_⟩
      · intro i x H4 hx e4 Qe hq
        obtain ⟨y, hy, hd⟩ := hrow i x hx
        obtain ⟨k1, k2, k3⟩ := hn y (List.mem_of_getElem? hy)
        refine ⟨_, rfl, x, y, rfl, hd.same (((e1.trans e2).trans e3).trans e4), by omega, fun v' H' e' ht => hq _ _ e' fun z hz => ?_⟩
        rw [hy] at hz
        cases hz
        exact ht
      · intro ys H4 e4 hD4 hl4 hP
        refine ⟨_, true, _, rfl, SqL.of hD4, fun t H' e ht n1 _ => ?_⟩
        obtain ⟨z1, z2⟩ := n1 rfl
        subst z2
        exact q _ _ (Same.snoc (((e1.trans e2).trans e3).trans e4) z1) (td_list (hl4.trans h2) hP z1)
def sp_need_table (K : PySem.W.Frag) : Sp := fun vs H Q _ => ∃ v r c, vs = [v] ∧ Ld K H v (rowsD r) ∧ 1 ≤ List.length r ∧ r.length ≤ 8 ∧ 1 ≤ c ∧ c ≤ 8 ∧ (∀ x ∈ r, List.length x = c ∧ ∀ n ∈ x, Nm.ok n) ∧ ∀ v' H', Same H H' → Td H' v' (rowsD r) → Q v' H'
theorem ok_need_table (T : Txt K mg) : FnOk P0 w K mg base CX0 5 (aF K "need_table") (dF K "need_table") ["value"] (sp_need_table K) := by
  have G_is_list := ok_is_list (w := w) (base := base) T
  have G_is_row := ok_is_row (w := w) (base := base) T
  have G_kept_row := ok_kept_row (w := w) (base := base) T
  refine T.f_need_table.ok sc_need_table (fun vs H Q E h => by first | (obtain ⟨_, rfl, _⟩ := h; rfl) | (obtain ⟨_, _, rfl, _⟩ := h; rfl) | (obtain ⟨_, _, _, rfl, _⟩ := h; rfl) | (obtain ⟨_, _, _, _, rfl, _⟩ := h; rfl) | (obtain ⟨_, _, _, _, _, rfl, _⟩ := h; rfl) | (obtain ⟨_, _, _, _, _, _, rfl, _⟩ := h; rfl) | (obtain ⟨_, _, _, _, _, _, _, rfl, _⟩ := h; rfl) | (obtain ⟨_, _, _, _, _, _, _, _, rfl, _⟩ := h; rfl) | (obtain ⟨rfl, _⟩ := h; rfl)) (fun cdv A outer s H vs Q E hr h => ?_)
  obtain ⟨v, r, c, rfl, hv, hl1, hl2, hc1, hc2, hn, q⟩ := h
  obtain ⟨a, b, xs, rfl, h1, h2, h3⟩ := hv.seq_inv
  rw [List.length_map] at h2
  have hrow : ∀ (i : Nat) x, xs[i]? = some x → ∃ y, r[i]? = some y ∧ Ld K H x (.tuple (y.map Nm.data)) := fun i x hx => by
    have hi : i < r.length := by rw [← h2]; exact (List.getElem?_eq_some_iff.mp hx).1
    exact ⟨r[i], List.getElem?_eq_getElem hi, h3 i x _ hx (by rw [List.getElem?_map, List.getElem?_eq_getElem hi] <;> rfl)⟩
  have hz : xs.length < sizeLine := by rw [h2]; exact Nat.lt_of_le_of_lt hl2 (by decide)
  obtain ⟨x0, hx0⟩ : ∃ x, xs[0]? = some x := ⟨_, List.getElem?_eq_getElem (by omega)⟩
  obtain ⟨y0, hy0, hd0⟩ := hrow 0 x0 hx0
  have hc0 := (hn y0 (List.mem_of_getElem? hy0)).1
  refine ⟨_, ((pss_cons (ps_if (PW.pt (pw_or (pt_not (pt_val (pe_call G_is_list (hr.mono (by omega)) rfl T.g_is_list T.f_is_list.kp T.b_is_list .nil pass0 (pa_cons (pv 0) pa_nil)))) (pw_or (pt_not (pt_chain op_le op_le pe_int (pe_callB (klen K rfl) (by rfl) T.z_len bt_len (pa_cons (pv 0) pa_nil)) (pe_globI rfl T.c_MOST_HANDS))) (pw_or1 (pt_not (pt_val (pe_call G_is_list (hr.mono (by omega)) rfl T.g_is_list T.f_is_list.kp T.b_is_list .nil pass0 (pa_cons (pe_ix (kix K rfl) (pv 0) pe_int (fun _ _ => rfl)) pa_nil)))))))) pss_never pss_nil)
    (pss_cons (ps_set (i := 1) sc_need_table.nd rfl (Or.inr rfl) (pe_callB (klen K rfl) (by rfl) T.z_len bt_len (pa_cons (pe_ix (kix K rfl) (pv 0) pe_int (fun _ _ => rfl)) pa_nil)))
    (pss_cons (ps_if (PW.pt (pw_or (pt_not (pt_chain op_le op_le pe_int (pv 1) (pe_globI rfl T.c_MOST_HANDS))) (pw_or1 (pt_not (pt_val (pe_callB (kall K rfl rfl) (by rfl) T.z_all bt_all (pa_cons (pe_lc (own := [("row", 2)]) rfl sc_need_table.nd (kpi K rfl (pv 0)) (blkOk_by (by kernel_rfl)) (fun _ _ _ _ _ => (pg_name (i := 2) sc_need_table.nd rfl (Or.inl rfl))) (fun _ _ _ _ _ => pts_nil) (fun _ _ _ _ _ => (pe_call G_is_row (hr.mono (by omega)) rfl T.g_is_row T.f_is_row.kp T.b_is_row .nil pass0 (pa_cons (pv 2) (pa_cons (pv 1) pa_nil))))) pa_nil))))))) pss_never pss_nil)
    (pss_one (ps_ret (pe_callTy (ktup K rfl) (by rfl) T.z_tuple bt_tuple (pa_cons (pe_lc (own := [("row", 2)]) rfl sc_need_table.nd (kpi K rfl (pv 0)) (blkOk_by (by kernel_rfl)) (fun _ _ _ _ _ => (pg_name (i := 2) sc_need_table.nd rfl (Or.inl rfl))) (fun _ _ _ _ _ => pts_nil) (fun _ _ _ _ _ => (pe_call G_kept_row (hr.mono (by omega)) rfl T.g_kept_row T.f_kept_row.kp T.b_kept_row .nil pass0 (pa_cons (pv 2) pa_nil)))) pa_nil)))))))), ?_⟩
  refine ⟨_, rfl, _, false, rfl, .seq h1, fun H1 e1 => ⟨_, rfl, ?_⟩⟩
  have s1 := Same.sqb e1 h1
  refine ⟨_, rfl, _, _, _, rfl, s1, ?_⟩
  refine ⟨_, _, rfl, rfl, _, rfl, itP (decide_eq_true (by rw [h2]; omega)) ⟨_, _, rfl, rfl, _, rfl, itN (nT (by rw [h2]; omega)) ?_⟩⟩
  refine ⟨_, rfl, a, b, _, 0, _, rfl, rfl, s1, atI_nat (j := 0) hx0, ?_⟩
  have hd1 := hd0.same e1
  obtain ⟨a0, b0, ws, rfl, g1, g2, g3⟩ := hd1.seq_inv
  rw [List.length_map, hc0] at g2
  refine ⟨_, false, rfl, .seq g1, fun H2 e2 => ⟨_, rfl, ?_⟩⟩
  have s2 := Same.sqb e2 s1
  refine ⟨_, rfl, a, b, _, 0, _, rfl, rfl, s2, atI_nat (j := 0) hx0, _, _, _, rfl, Same.sqb e2 g1, ?_⟩
  refine ⟨_, rfl, _, _, rfl, rfl, _, rfl, itP (decide_eq_true (by rw [g2]; omega)) ⟨_, _, rfl, rfl, _, rfl, itN (nT (by rw [g2]; omega)) ?_⟩⟩
  refine ⟨_, rfl, a, b, rfl, ⟨_, s2⟩, fun D hD => lc_all (K := K) hD s2 hz (fun _ => rfl) (fun _ => true) ?_ ?_⟩
  · intro i x H3 hx e3 Qe hq
    obtain ⟨y, hy, hd⟩ := hrow i x hx
    obtain ⟨k1, k2⟩ := hn y (List.mem_of_getElem? hy)
    exact ⟨_, rfl, _, rfl, x, y, (by rw [g2, k1]; rfl), hd.same ((e1.trans e2).trans e3), by omega, k2, hq⟩
  · intro H3 e3 hs3
    refine ⟨_, _, rfl, hs3, ?_⟩
    rw [all_true]
    refine ⟨_, rfl, ?_⟩
    have s3 := Same.sqb e3 s2
    refine ⟨_, rfl, a, b, rfl, ⟨_, s3⟩, fun D hD => lc_pure hD s3 hz (fun _ => rfl) (fun i y H' => ∀ z, r[i]? = some z → Td H' y (.tuple (z.map Nm.data))) (fun i y H1 H2 e h z hz => (h z hz).im e) ?_ ?_⟩
    · intro i x H4 hx e4 Qe hq
      obtain ⟨y, hy, hd⟩ := hrow i x hx
      obtain ⟨k1, k2⟩ := hn y (List.mem_of_getElem? hy)
      refine ⟨_, rfl, x, y, rfl, hd.same (((e1.trans e2).trans e3).trans e4), by omega, fun v' H' e' ht => hq _ _ e' fun z hz => ?_⟩
      rw [hy] at hz
      cases hz
      exact ht
    · intro ys H4 e4 hD4 hl4 hP
      refine ⟨_, true, _, rfl, SqL.of hD4, fun t H' e ht n1 _ => ?_⟩
      obtain ⟨z1, z2⟩ := n1 rfl
      subst z2
      exact q _ _ (Same.snoc (((e1.trans e2).trans e3).trans e4) z1) (td_list (hl4.trans h2) hP z1)
end
end PL
end
section
set_option maxHeartbeats 4000000
/-! D4: need_lots. -/
namespace PL
open PySem PySem.Spec PyProof.Rows L2 RZ
section
variable {w : World} {K : PySem.W.Frag} {mg : Str → Option Value} {base : Heap}
def intsL (ns : List Int) : PyData := .list (ns.map PyData.int)
theorem dp_ints {H : Hp} {p : Addr} {ns : List Int} (h : H p = some (.lst (ns.map V.int))) : Dp K H (.ref p) (intsL ns) := by
  refine .lst (SqL.of h) ?_
  clear h
  induction ns with
  | nil => exact .nil
  | cons n ns ih => exact .cons (.int n) ih
theorem sorted_uniq : ∀ {a b : List Int}, a.Perm b → a.Pairwise (· ≤ ·) → b.Pairwise (· ≤ ·) → a = b
  | [], b, h, _, _ => by rw [List.nil_perm.mp h]
  | x :: a, [], h, _, _ => by have := h.length_eq; simp at this
  | x :: a, y :: b, h, ha, hb => by
    have e : x = y := by
      have h1 : x ∈ y :: b := h.subset (List.mem_cons_self ..)
      have h2 : y ∈ x :: a := h.symm.subset (List.mem_cons_self ..)
      have h3 : y ≤ x := by
        rcases List.mem_cons.mp h1 with z | z
        · omega
        · exact (List.pairwise_cons.mp hb).1 x z
      have h4 : x ≤ y := by
        rcases List.mem_cons.mp h2 with z | z
        · omega
        · exact (List.pairwise_cons.mp ha).1 y z
      omega
    subst e
    rw [sorted_uniq (List.Perm.cons_inv h) (List.pairwise_cons.mp ha).2 (List.pairwise_cons.mp hb).2]
theorem range_sorted (n : Nat) : ((List.range n).map fun (k : Nat) => (k : Int)).Pairwise (· ≤ ·) := by
  rw [List.pairwise_map]
  exact List.Pairwise.imp (fun h => by omega) List.pairwise_lt_range
theorem int_shp (ns : List Int) : Shp 1 (intsL ns) := Shp.lst (n := 0) fun x hx => by
  obtain ⟨y, _, rfl⟩ := List.mem_map.mp hx
  exact .int 0 y
def sp_need_lots (K : PySem.W.Frag) : Sp := fun vs H Q _ => ∃ v c, vs = [v] ∧ Ld K H v (Told.lots c).data ∧ Rgs c ∧ 1 ≤ (lotsOf c).length ∧ (lotsOf c).length ≤ 6 ∧ c.length ≤ 8 ∧ ∀ v' H', Same H H' → Td H' v' (Told.lots c).data → Q v' H'
theorem ok_need_lots (T : Txt K mg) : FnOk P0 w K mg base CX0 3 (aF K "need_lots") (dF K "need_lots") ["value"] (sp_need_lots K) := by
  have G_is_list := ok_is_list (w := w) (base := base) T
  have G_is_lot := ok_is_lot (w := w) (base := base) T
  refine T.f_need_lots.ok sc_need_lots (fun vs H Q E h => by first | (obtain ⟨_, rfl, _⟩ := h; rfl) | (obtain ⟨_, _, rfl, _⟩ := h; rfl) | (obtain ⟨_, _, _, rfl, _⟩ := h; rfl) | (obtain ⟨_, _, _, _, rfl, _⟩ := h; rfl) | (obtain ⟨_, _, _, _, _, rfl, _⟩ := h; rfl) | (obtain ⟨_, _, _, _, _, _, rfl, _⟩ := h; rfl) | (obtain ⟨_, _, _, _, _, _, _, rfl, _⟩ := h; rfl) | (obtain ⟨_, _, _, _, _, _, _, _, rfl, _⟩ := h; rfl) | (obtain ⟨rfl, _⟩ := h; rfl)) (fun cdv A outer s H vs Q E hr h => ?_)
  obtain ⟨v, c, rfl, hv, hc, hl1, hl2, hc8, q⟩ := h
  obtain ⟨a, b, xs, rfl, h1, h2, h3⟩ := hv.seq_inv
  rw [List.length_map] at h2
  have I := lots_inv hc
  have hrow : ∀ (i : Nat) x, xs[i]? = some x → ∃ y, (lotsOf c)[i]? = some y ∧ Ld K H x (lotD y) := fun i x hx => by
    have hi : i < (lotsOf c).length := by rw [← h2]; exact (List.getElem?_eq_some_iff.mp hx).1
    exact ⟨(lotsOf c)[i], List.getElem?_eq_getElem hi, h3 i x _ hx (by rw [List.getElem?_map, List.getElem?_eq_getElem hi] <;> rfl)⟩
  have hz : xs.length < sizeLine := by rw [h2]; exact Nat.lt_of_le_of_lt hl2 (by decide)
  have hlen : ∀ (i : Nat) y, (lotsOf c)[i]? = some y → y.length ≤ 8 := fun i y hy => Nat.le_trans (lot_len hc hy) hc8
  refine ⟨_, ((pss_cons (ps_if (PW.pt (pw_or (pt_not (pt_val (pe_call G_is_list (hr.mono (by omega)) rfl T.g_is_list T.f_is_list.kp T.b_is_list .nil pass0 (pa_cons (pv 0) pa_nil)))) (pw_or1 (pt_not (pt_chain op_le op_le pe_int (pe_callB (klen K rfl) (by rfl) T.z_len bt_len (pa_cons (pv 0) pa_nil)) (pe_globI rfl T.c_MOST_PARTS)))))) pss_never pss_nil)
    (pss_cons (ps_if (pt_not (pt_val (pe_callB (kall K rfl rfl) (by rfl) T.z_all bt_all (pa_cons (pe_lc (own := [("lot", 1)]) rfl sc_need_lots.nd (kpi K rfl (pv 0)) (blkOk_by (by kernel_rfl)) (fun _ _ _ _ _ => (pg_name (i := 1) sc_need_lots.nd rfl (Or.inl rfl))) (fun _ _ _ _ _ => pts_nil) (fun _ _ _ _ _ => (pe_and (pe_call G_is_lot (hr.mono (by omega)) rfl T.g_is_lot T.f_is_lot.kp T.b_is_lot .nil pass0 (pa_cons (pv 1) pa_nil)) (pe_one (pe_cmpR op_gt (pe_callB (klen K rfl) (by rfl) T.z_len bt_len (pa_cons (pv 1) pa_nil)) pe_int (nomark _)))))) pa_nil)))) pss_never pss_nil)
    (pss_cons (ps_setLc2 (i := 2) (own := [("lot", 1), ("hand", 3)]) (vs1 := [3]) rfl sc_need_lots.nd rfl rfl (sw_true rfl rfl rfl (by decide +kernel)) (kpi K rfl (pv 0)) (blkOk_by (by kernel_rfl)) (by decide) (fun _ _ _ _ _ => (pg_name (i := 1) sc_need_lots.nd rfl (Or.inl rfl))) (fun _ _ _ _ _ => pts_nil) (fun _ _ _ _ _ => (kpi K rfl (pv 1))) (fun _ _ _ _ _ => (pg_name (i := 3) sc_need_lots.nd rfl (Or.inl rfl))) (fun _ _ _ _ _ => pts_nil) (fun _ _ _ _ _ => (pv 3)))
    (pss_cons (ps_if (PW.pt (pw_or (pt_cmpR op_gt (pe_callB (klen K rfl) (by rfl) T.z_len bt_len (pa_cons (pv 2) pa_nil)) (pe_globI rfl T.c_MOST_HANDS) (nomark _)) (pw_or1 (pt_cmpR (kneD K rfl (hr.mono (Nat.zero_le _))) (pe_callB (ksorted K rfl) (by rfl) T.z_sorted bt_sorted (pa_cons (pv 2) pa_nil)) (pe_listRg rfl rfl T.z_list (prg_1 rfl T.z_range (pe_callB (klen K rfl) (by rfl) T.z_len bt_len (pa_cons (pv 2) pa_nil)))) (nomark _))))) pss_never pss_nil)
    (pss_cons (ps_if (pt_not (pt_val (pe_callB (kall K rfl rfl) (by rfl) T.z_all bt_all (pa_cons (pe_lc (own := [("one", 4), ("other", 5)]) rfl sc_need_lots.nd (kzip K rfl (by rfl) T.z_zip (pa_cons (pv 0) (pa_cons (pe_slice (SlR.or (ksl K rfl) (kslT K rfl)) (pv 0) (po_some pe_int) po_none) pa_nil))) (blkOk_by (by kernel_rfl)) (fun _ _ _ _ _ => (kgtup K 2 rfl rfl (pgs_cons (pg_name (i := 4) sc_need_lots.nd rfl (Or.inl rfl)) (pgs_cons (pg_name (i := 5) sc_need_lots.nd rfl (Or.inl rfl)) pgs_nil)))) (fun _ _ _ _ _ => pts_nil) (fun _ _ _ _ _ => (pe_cmpR op_lt (pe_ix (kix K rfl) (pv 4) pe_int (fun _ _ => rfl)) (pe_ix (kix K rfl) (pv 5) pe_int (fun _ _ => rfl)) (nomark _)))) pa_nil)))) pss_never pss_nil)
    (pss_one (ps_ret (pe_callTy (ktup K rfl) (by rfl) T.z_tuple bt_tuple (pa_cons (pe_lc (own := [("lot", 1)]) rfl sc_need_lots.nd (kpi K rfl (pv 0)) (blkOk_by (by kernel_rfl)) (fun _ _ _ _ _ => (pg_name (i := 1) sc_need_lots.nd rfl (Or.inl rfl))) (fun _ _ _ _ _ => pts_nil) (fun _ _ _ _ _ => (pe_callTy (ktup K rfl) (by rfl) T.z_tuple bt_tuple (pa_cons (pv 1) pa_nil)))) pa_nil)))))))))), ?_⟩
  refine ⟨_, rfl, _, false, rfl, .seq h1, fun H1 e1 => ⟨_, rfl, ?_⟩⟩
  have s1 := Same.sqb e1 h1
  refine ⟨_, rfl, _, _, _, rfl, s1, ?_⟩
  refine ⟨_, _, rfl, rfl, _, rfl, itP (decide_eq_true (by rw [h2]; omega)) ⟨_, _, rfl, rfl, _, rfl, itN (nT (by rw [h2]; omega)) ?_⟩⟩
  refine ⟨_, rfl, a, b, rfl, ⟨_, s1⟩, fun D hD => lc_all (K := K) hD s1 hz (fun _ => rfl) (fun _ => true) ?_ ?_⟩
  · intro i x H2 hx e2 Qe hq
    obtain ⟨y, hy, hd⟩ := hrow i x hx
    obtain ⟨k1, k2, k3⟩ := I.asc y (List.mem_of_getElem? hy)
    have hd2 := hd.same (e1.trans e2)
    refine ⟨_, rfl, x, y, rfl, hd2, by have := hlen i y hy; omega, k2, fun H3 e3 => ⟨_, rfl, ?_⟩⟩
    obtain ⟨a2, b2, ws, rfl, g1, g2, g3⟩ := (hd2.same e3).seq_inv
    rw [List.length_map] at g2
    refine ⟨_, rfl, _, _, _, rfl, g1, _, _, rfl, rfl, qT ?_ (hq _ e3)⟩
    have := List.length_pos_iff.mpr k1
    omega
  · intro H2 e2 hs
    refine ⟨_, _, rfl, hs, ?_⟩
    rw [all_true]
    refine ⟨_, rfl, ?_⟩
    have s2 := Same.sqb e2 s1
    have hfl : ((List.range xs.length).flatMap fun i => ((lotsOf c).getD i []).map fun (k : Nat) => V.int (k : Int)) = (lotsOf c).flatten.map fun (k : Nat) => V.int (k : Int) := by
      rw [h2]
      exact flat_getD _ _
    have hfn : (lotsOf c).flatten.length = c.length := by rw [I.perm.length_eq, List.length_range]
    refine ⟨_, rfl, a, b, rfl, ⟨_, s2⟩, fun D hD => lc2_flat (walk_B b) hD (fun H' e => Same.sqb e s2) (fun _ => rfl) (fun i => ((lotsOf c).getD i []).map fun (k : Nat) => V.int (k : Int)) ?_ ?_ ?_⟩
    · rw [hfl, List.length_map, hfn]
      exact Nat.lt_of_le_of_lt hc8 (by decide)
    · intro i x H3 acc hi hx e3 hacc R hR
      obtain ⟨y, hy, hd⟩ := hrow i x hx
      obtain ⟨a2, b2, ws, rfl, g0, g2, g3⟩ := (hd.same (e1.trans e2)).seq_inv'
      rw [List.length_map] at g2
      have ew : ws = y.map fun (k : Nat) => V.int (k : Int) := ys_map g2 fun k z hz u hu => by
        have := g3 k z (.int (u : Int)) hz (by rw [List.getElem?_map, hu] <;> rfl)
        cases this
        rfl
      have eo : ((lotsOf c).getD i []).map (fun (k : Nat) => V.int (k : Int)) = (List.range ws.length).map fun j => ws.getD j .non := by
        rw [map_getD, ew, List.getD_eq_getElem?_getD, hy]
        rfl
      refine ⟨_, rfl, a2, b2, rfl, ⟨_, (g0.same e3).sq⟩, hR _ _ (Same.refl _) ?_⟩
      rw [eo]
      refine in2_seq (g0.same e3) (g0.ne hD) _ (fun _ => rfl) fun j x H5 hx5 k5 Ne hNe => ⟨_, rfl, hNe _ _ (Same.refl _) ?_⟩
      rw [List.getD_eq_getElem?_getD, hx5]
      rfl
    · intro H3 e3 hD3
      rw [hfl] at hD3
      have hD3' : H3 D = some (.lst (((lotsOf c).flatten.map fun (k : Nat) => (k : Int)).map V.int)) := by
        rw [hD3, List.map_map]
        rfl
      have hns : ((lotsOf c).flatten.map fun (k : Nat) => (k : Int)).length = c.length := by rw [List.length_map, hfn]
      refine ⟨_, rfl, _, true, _, rfl, SqL.of hD3', _, _, rfl, rfl, _, rfl, itN (fun z => ?_) ?_⟩
      · have := of_decide_eq_true z
        rw [List.length_map, hns] at this
        omega
      refine ⟨_, rfl, _, _, rfl, SqL.of hD3', by omega, fun ns' p hperm hsrt hp => ?_⟩
      have e5 : upd H3 p (.lst (ns'.map V.int)) D = some (.lst (((lotsOf c).flatten.map fun (k : Nat) => (k : Int)).map V.int)) := by
        rw [upd_ne (ne_of_none hD3' hp)]
        exact hD3'
      refine ⟨_, rfl, _, true, _, rfl, SqL.of e5, _, rfl, RgOk.of_le (by decide) ?_ (by decide) ?_, fun p2 hp2 => ?_⟩
      · rw [List.length_map, hns]; omega
      · omega
      obtain ⟨rr, hrr⟩ : ∃ rr, rr = (List.range c.length).map fun (k : Nat) => (k : Int) := ⟨_, rfl⟩
      have en : ns' = rr := by
        rw [hrr]
        exact sorted_uniq (hperm.trans (I.perm.map _)) hsrt (range_sorted _)
      have er : rgV 0 ((((((lotsOf c).flatten.map fun (k : Nat) => (k : Int)).map V.int).length : Nat) : Int)) = rr.map V.int := by
        rw [List.length_map, hns, rgV, hrr, List.map_map]
        have : ((c.length : Int) - 0).toNat = c.length := by omega
        rw [this]
        refine List.map_congr_left fun k _ => ?_
        simp
      rw [er]
      rw [en] at hp2 ⊢
      refine ⟨_, _, dp_ints (ns := rr) ?_, dp_ints (ns := rr) upd_same, (int_shp _).shaped (by decide), (int_shp _).shaped (by decide), ?_⟩
      · rw [upd_ne (ne_of_none upd_same hp2)]
        exact upd_same
      rw [(int_shp _).refl]
      refine ⟨_, rfl, ?_⟩
      have e3' : Same H2 (upd (upd H3 p (.lst (rr.map V.int))) p2 (.lst (rr.map V.int))) := Same.snoc (Same.snoc e3 hp) hp2
      generalize hH4 : upd (upd H3 p (.lst (rr.map V.int))) p2 (.lst (rr.map V.int)) = H4 at e3' ⊢
      have s4 := Same.sqb e3' s2
      have ee : Same H H4 := (e1.trans e2).trans e3'
      -- the last test and the answer
      have fin : ∀ (bs : List Bool) (D2 : Addr) H5, Same H4 H5 → bs.all id = true → SqL K H5 D2 (bs.map V.bl) → ∀ σ, σ = (L2.start ["value", "lot", "hands", "hand", "one", "other"] [V.ref a]).set 2 (some (V.ref D)) →
          (tRet (tCB (rTupA K) (tCons (tLc (iAny K (tVar 0)) (gName 1) tYes (tCB (rTupA K) (tCons (tVar 1) tNil)) [1]) tNil)) { nx := fun _ H' => Q V.non H', rt := Q }) σ H5 := by
        rintro bs D2 H5 e5 hb hD5 σ rfl
        have s5 := Same.sqb e5 s4
        refine ⟨_, rfl, a, b, rfl, ⟨_, s5⟩, fun D hD => lc_pure hD s5 hz (fun _ => rfl) (fun i y H' => ∀ z, (lotsOf c)[i]? = some z → Td H' y (lotD z)) (fun i y H1 H2 e h z hz => (h z hz).im e) ?_ ?_⟩
        · intro i x H6 hx e6 Qe hq
          obtain ⟨y, hy, hd⟩ := hrow i x hx
          obtain ⟨a2, b2, ws, rfl, g0, g2, g3⟩ := (hd.same ((ee.trans e5).trans e6)).seq_inv'
          refine ⟨_, rfl, a2, b2, _, rfl, g0.sq, fun t H' e ht n1 n2 => hq _ _ e fun z hz => ?_⟩
          rw [hy] at hz
          cases hz
          have ht' : H' t = some (.tup ws) := by
            cases b2 with
            | true =>
              obtain ⟨z1, z2⟩ := n1 rfl
              rw [z2]
              exact upd_same
            | false =>
              obtain ⟨z1, z2⟩ := n2 rfl
              rw [z1]
              exact e _ _ g0
          refine .tup ht' g2 fun k x dd hx hd => ?_
          have hl := g3 k x dd hx hd
          rw [List.getElem?_map] at hd
          cases e : y[k]? with
          | none => rw [e] at hd; cases hd
          | some u =>
            rw [e] at hd
            cases hd
            cases hl
            exact .int _
        · intro ys H6 e6 hD6 hl6 hP
          refine ⟨_, true, _, rfl, SqL.of hD6, fun t H' e ht n1 _ => ?_⟩
          obtain ⟨z1, z2⟩ := n1 rfl
          subst z2
          exact q _ _ (Same.snoc ((ee.trans e5).trans e6) z1) (td_list (f := lotD) (hl6.trans h2) hP z1)
      -- the walk over the pairs
      have hx1 : 1 ≤ xs.length := by omega
      have hs1 : HT.sIx xs.length 0 (some 1) = 1 := by
        show HT.sIx xs.length 0 (some ((1 : Nat) : Int)) = 1
        rw [HT.sIx_nat]
        omega
      have hcut : cutV xs (some 1) none = xs.drop 1 := by
        unfold cutV
        rw [hs1]
        simp only [HT.sIx]
        exact List.take_of_length_le (by simp)
      have heads : ∀ (i : Nat) (x y : V), xs[i]? = some x → (xs.drop 1)[i]? = some y → ∃ (p1 p2 : Addr) (b1 b2 : Bool) (w1 w2 : List V) (k1 k2 : Nat), x = .ref p1 ∧ y = .ref p2 ∧ SqP b1 H4 p1 w1 ∧ SqP b2 H4 p2 w2 ∧ w1[0]? = some (.int (k1 : Int)) ∧ w2[0]? = some (.int (k2 : Int)) ∧ k1 < k2 := by
        intro i x y hx hy
        rw [List.getElem?_drop] at hy
        have one : ∀ (j : Nat) z, xs[j]? = some z → ∃ (p1 : Addr) (b1 : Bool) (w1 : List V) (k1 : Nat) (l1 : List Nat), z = .ref p1 ∧ SqP b1 H4 p1 w1 ∧ w1[0]? = some (.int (k1 : Int)) ∧ (lotsOf c)[j]? = some l1 ∧ l1.headD 0 = k1 := by
          intro j z hz
          obtain ⟨l1, hl, hd⟩ := hrow j z hz
          obtain ⟨p1, b1, w1, rfl, g0, g2, g3⟩ := (hd.same ee).seq_inv'
          rw [List.length_map] at g2
          have hne := (I.asc l1 (List.mem_of_getElem? hl)).1
          match l1, hne, hl, g2, g3 with
          | k1 :: r1, _, hl, g2, g3 =>
            have hw : 0 < w1.length := by rw [g2]; simp
            have := g3 0 w1[0] (.int (k1 : Int)) (List.getElem?_eq_getElem hw) rfl
            refine ⟨p1, b1, w1, k1, k1 :: r1, rfl, g0, ?_, hl, rfl⟩
            rw [List.getElem?_eq_getElem hw]
            generalize w1[0] = u at this
            cases this
            rfl
        obtain ⟨p1, b1, w1, k1, l1, rfl, g1, f1, m1, d1⟩ := one i x hx
        obtain ⟨p2, b2, w2, k2, l2, rfl, g2, f2, m2, d2⟩ := one (1 + i) y hy
        refine ⟨p1, p2, b1, b2, w1, w2, k1, k2, rfl, rfl, g1, g2, f1, f2, ?_⟩
        have hh := I.heads
        obtain ⟨i1, e1'⟩ := List.getElem?_eq_some_iff.mp m1
        obtain ⟨i2, e2'⟩ := List.getElem?_eq_some_iff.mp m2
        have := List.pairwise_iff_getElem.mp hh i (1 + i) (by simpa using i1) (by simpa using i2) (by omega)
        rw [List.getElem_map, List.getElem_map, e1', e2', d1, d2] at this
        exact this
      have go : ∀ (J : It) (m : Nat) (Gd : Hp → Prop) (H5 : Hp), Same H4 H5 → Walk J m Gd (YPair (fun i => xs[i]?) (fun i => (xs.drop 1)[i]?)) → m < sizeLine → (∀ H', Same H5 H' → Gd H') → ∀ (D2 : Addr), H5 D2 = none → ∀ Qd : Hp → Prop, (∀ H', Same H5 H' → SqL K H' D2 ((List.ofFn fun _ : Fin m => true).map V.bl) → Qd H') →
          ∃ W : Nat → Nat → Hp → Prop, (∃ m, W 0 m (upd H5 D2 (.lst []))) ∧ ∀ i m H, W i m H → (J.stop i H ∧ Qd H) ∨ (J.go i H ∧ ∃ Nx : Hp → Prop, (∀ H', Nx H' → ∃ m', m' < m ∧ W (i + 1) m' H') ∧ ∀ x H', J.yld i H x H' →
            gTup K 2 (gCons (gName 4) (gCons (gName 5) gNil)) x (wipe ((L2.start ["value", "lot", "hands", "hand", "one", "other"] [V.ref a]).set 2 (some (V.ref D))) [4, 5]) H' fun σ2 H2 => wipe σ2 [4, 5] = wipe ((L2.start ["value", "lot", "hands", "hand", "one", "other"] [V.ref a]).set 2 (some (V.ref D))) [4, 5] ∧ tYes σ2 H2 fun b H3 =>
              if b = true then (tOp (rI0 fun i j => V.bl (decide (i < j))) (tOp (rIxA K) (tVar 4) (tC (V.int 0))) (tOp (rIxA K) (tVar 5) (tC (V.int 0)))) σ2 H3 fun y H4 => ∃ acc, H4 D2 = some (.lst acc) ∧ acc.length < sizeLine ∧ Nx (upd H4 D2 (.lst (acc ++ [y]))) else Nx H3) := by
        intro J m Gd H5 e5 wk hm hG D2 hD2 Qd hQ
        refine lc_it wk (fun i H => Same H5 H ∧ H D2 = some (.lst ((List.ofFn fun _ : Fin i => true).map V.bl))) ⟨Same.mut (Same.refl _) hD2, by rw [upd_same] <;> rfl⟩ (fun i H _ h => hG H h.1) ?_ ?_
        · rintro i x H6 H7 hi ⟨e6, h6⟩ ⟨T0, x1, y1, rfl, hT, rfl, hx1, hy1⟩
          obtain ⟨p1, p2, b1, b2, w1, w2, k1, k2, rfl, rfl, g1, g2, f1, f2, hlt⟩ := heads i x1 y1 hx1 hy1
          have e7 : Same H4 (upd H6 T0 (.tup [.ref p1, .ref p2])) := Same.snoc (e5.trans e6) hT
          refine ⟨_, _, rfl, SqT.of upd_same, rfl, _, _, rfl, _, _, rfl, rfl, rfl, ?_⟩
          refine ⟨_, rfl, p1, b1, w1, 0, _, rfl, rfl, (g1.same e7).sq, atI_nat (j := 0) f1, ?_⟩
          refine ⟨_, rfl, p2, b2, w2, 0, _, rfl, rfl, (g2.same e7).sq, atI_nat (j := 0) f2, _, _, rfl, rfl, ?_⟩
          have hD7 : upd H6 T0 (.tup [.ref p1, .ref p2]) D2 = some (.lst ((List.ofFn fun _ : Fin i => true).map V.bl)) := by
            rw [upd_ne (ne_of_none h6 hT)]
            exact h6
          refine ⟨_, hD7, by simp; omega, ?_, ?_⟩
          · exact Same.mut (Same.snoc e6 hT) hD2
          · rw [upd_same]
            show some (HO.lst (_ ++ [V.bl (decide ((k1 : Int) < (k2 : Int)))])) = _
            rw [decide_eq_true (by omega), List.ofFn_succ_last, List.map_append]
            rfl
        · rintro H6 ⟨e6, h6⟩
          exact hQ H6 e6 (SqL.of h6)
      have hm : min xs.length (xs.drop 1).length < sizeLine := Nat.lt_of_le_of_lt (Nat.min_le_left _ _) hz
      cases b with
      | true =>
        refine ⟨_, rfl, _, rfl, _, rfl, .inl ⟨a, xs, rfl, s4, fun p5 hp5 => ?_⟩⟩
        rw [hcut]
        have e5 : Same H4 (upd H4 p5 (.lst (xs.drop 1))) := same_upd hp5
        refine ⟨a, p5, xs, xs.drop 1, rfl, .inl ⟨Same.sqb (b := true) e5 s4, SqL.of upd_same, fun D2 hD2 => go _ _ _ _ e5 (walk_zip rfl) hm (fun H' e => ⟨Same.sqb (b := true) (e5.trans e) s4, SqL.of (e _ _ upd_same)⟩) D2 hD2 _ fun H6 e6 h6 => ?_⟩⟩
        refine ⟨_, _, rfl, h6, ?_⟩
        rw [all_true]
        exact ⟨_, rfl, fin _ _ H6 (e5.trans e6) (all_true _) h6 _ rfl⟩
      | false =>
        refine ⟨_, rfl, _, rfl, _, rfl, .inr ⟨a, xs, rfl, s4, fun z => absurd (hs1 ▸ z.1) (by decide), fun _ p5 hp5 => ?_⟩⟩
        rw [hcut]
        have e5 : Same H4 (upd H4 p5 (.tup (xs.drop 1))) := same_upd hp5
        refine ⟨a, p5, xs, xs.drop 1, rfl, .inr ⟨Same.sqb (b := false) e5 s4, SqT.of upd_same, fun D2 hD2 => go _ _ _ _ e5 walk_zipT hm (fun H' e => ⟨Same.sqb (b := false) (e5.trans e) s4, SqT.of (e _ _ upd_same)⟩) D2 hD2 _ fun H6 e6 h6 => ?_⟩⟩
        refine ⟨_, _, rfl, h6, ?_⟩
        rw [all_true]
        exact ⟨_, rfl, fin _ _ H6 (e5.trans e6) (all_true _) h6 _ rfl⟩
end
end PL
end
section
set_option maxHeartbeats 4000000
/-! D5: numbers of texts. -/
namespace PL
open PySem PySem.Spec PyProof.Rows L2
section
variable {w : World} {K : PySem.W.Frag} {mg : Str → Option Value} {base : Heap}
def figs (z : Str) : Str := if cutS z none (some 1) = ("-" : Str) then cutS z (some 1) none else z
def intOk (n : Int) : Bool :=
  let z := num n
  let f := figs z
  decide (f ≠ ("" : Str)) && decide (f.length ≤ 60) && decide (z.length ≤ 640) && (f.cps.toList.all fun c => decide (c ∈ ("0123456789" : Str).cps.toList)) && (match f.cps.toList with | [] => false | c :: _ => (decide ((⟨#[c]⟩ : Str) ≠ ("0" : Str)) || decide (z = ("0" : Str)))) && decide (intText? z = some n) && decide (("/" : Str).cps.toList.head? ∉ z.cps.toList.map some)
theorem intOk_fin : ∀ k : Fin 121, intOk ((k : Nat) - 60 : Int) = true := by decide +kernel
theorem intOk_of {n : Int} (h : -60 ≤ n ∧ n ≤ 60) : intOk n = true := by
  obtain ⟨h1, h2⟩ := h
  have e : n = (((⟨(n + 60).toNat, by omega⟩ : Fin 121) : Nat) : Int) - 60 := by
    show n = ((n + 60).toNat : Int) - 60
    omega
  rw [e]
  exact intOk_fin _
theorem slen_ok {z : Str} (h : z.length ≤ 640) : z.length ≤ sizeLine := Nat.le_trans h (by decide)
theorem walk_strA (z : Str) : Walk (Its z) z.cps.size (fun _ => True) (YAt (z.cps.toList.map fun c => V.str ⟨#[c]⟩)) :=
  walk_str.mono (fun _ h => h) fun i H x H' hi _ h => by
    obtain ⟨e, c, h1, h2⟩ := h
    refine ⟨e, ?_⟩
    rw [List.getElem?_map, Array.getElem?_toList, h1, h2]
    rfl
def sp_integer_in : Sp := fun vs H Q _ => ∃ n : Int, vs = [.str (num n)] ∧ (-60 ≤ n ∧ n ≤ 60) ∧ ∀ H', Same H H' → Q (.int n) H'
theorem ok_integer_in (T : Txt K mg) : FnOk P0 w K mg base CX0 1 (aF K "integer_in") (dF K "integer_in") ["item"] (sp_integer_in) := by
  refine T.f_integer_in.ok sc_integer_in (fun vs H Q E h => by first | (obtain ⟨_, rfl, _⟩ := h; rfl) | (obtain ⟨_, _, rfl, _⟩ := h; rfl) | (obtain ⟨_, _, _, rfl, _⟩ := h; rfl) | (obtain ⟨_, _, _, _, rfl, _⟩ := h; rfl) | (obtain ⟨_, _, _, _, _, rfl, _⟩ := h; rfl) | (obtain ⟨_, _, _, _, _, _, rfl, _⟩ := h; rfl) | (obtain ⟨_, _, _, _, _, _, _, rfl, _⟩ := h; rfl) | (obtain ⟨_, _, _, _, _, _, _, _, rfl, _⟩ := h; rfl) | (obtain ⟨rfl, _⟩ := h; rfl)) (fun cdv A outer s H vs Q E hr h => ?_)
  obtain ⟨n, rfl, hn, q⟩ := h
  have ok := intOk_of hn
  unfold intOk at ok
  simp only [Bool.and_eq_true] at ok
  obtain ⟨⟨⟨⟨⟨⟨o1, o2⟩, o3⟩, o4⟩, o5⟩, o6⟩, _⟩ := ok
  have o1 := of_decide_eq_true o1
  have o2 := of_decide_eq_true o2
  have o3 := of_decide_eq_true o3
  have o6 := of_decide_eq_true o6
  refine ⟨_, ((pss_cons (ps_set (i := 1) sc_integer_in.nd rfl (Or.inl rfl) (pe_ifExp (pt_cmpR op_eq (pe_slice sl_str (pv 0) po_none (po_some pe_int)) pe_str (nomark _)) (pe_slice sl_str (pv 0) (po_some pe_int) po_none) (pv 0)))
    (pss_cons (ps_if (PW.pt (pw_or (pt_cmpR op_eq (pv 1) pe_str (nomark _)) (pw_or (pt_cmpR op_gt (pe_callB call_len_str (by rfl) T.z_len bt_len (pa_cons (pv 1) pa_nil)) (pe_globI rfl T.c_MOST_FIGURES) (nomark _)) (pw_or1 (pt_not (pt_val (pe_callB (kall K rfl rfl) (by rfl) T.z_all bt_all (pa_cons (pe_lc (own := [("sign", 2)]) rfl sc_integer_in.nd (pi_str (pv 1)) (blkOk_by (by kernel_rfl)) (fun _ _ _ _ _ => (pg_name (i := 2) sc_integer_in.nd rfl (Or.inl rfl))) (fun _ _ _ _ _ => pts_nil) (fun _ _ _ _ _ => (pe_cmpR op_in_sign (pv 2) (pe_globS rfl T.c_FIGURES) rfl))) pa_nil)))))))) (pss_one (ps_ret pe_non)) pss_nil)
    (pss_cons (ps_if (PW.pt (pw_and (pt_cmpR op_eq (pe_ix ix_str (pv 1) pe_int (fun _ _ => rfl)) pe_str (nomark _)) (pw_and1 (pt_cmpR op_ne (pv 0) pe_str (nomark _))))) (pss_one (ps_ret pe_non)) pss_nil)
    (pss_one (ps_ret (pe_callTy call_int_str (by rfl) T.z_int bt_int (pa_cons (pv 0) pa_nil)))))))), ?_⟩
  have lf : (figs (num n)).length ≤ sizeLine := Nat.le_trans o2 (by decide)
  refine ⟨_, rfl, _, rfl, _, rfl, slen_ok o3, rfl, _, rfl, ?_⟩
  refine ite2 (fun c => ?_) fun c => ?_
  · have c' : cutS (num n) none (some 1) = ("-" : Str) := by
      have := of_decide_eq_true c
      injection this
    have hf : figs (num n) = cutS (num n) (some 1) none := if_pos c'
    refine ⟨_, rfl, _, rfl, _, rfl, slen_ok o3, ?_⟩
    rw [← hf]
    generalize figs (num n) = f at o1 o2 o4 o5 lf
    refine ⟨_, rfl, rfl, _, rfl, itN (fun z => o1 (by have := of_decide_eq_true z; injection this)) ?_⟩
    refine ⟨_, rfl, _, rfl, lf, _, _, rfl, rfl, _, rfl, itN (fun z => by have := of_decide_eq_true z; omega) ?_⟩
    refine ⟨_, rfl, f, rfl, fun D hD => lc_pureW (walk_strA f) hD (fun _ _ => trivial) (Nat.lt_of_le_of_lt o2 (by decide)) (fun _ => rfl) (fun i y _ => y = .bl true) (fun _ _ _ _ _ h => h) ?_ ?_⟩
    · intro i x H1 hi hx e1 Qe hq
      rw [List.getElem?_map] at hx
      cases ec : (f).cps.toList[i]? with
      | none => rw [ec] at hx; cases hx
      | some ch =>
        rw [ec] at hx
        cases hx
        refine ⟨_, rfl, ch, _, rfl, rfl, qT ?_ (hq _ _ (Same.refl _) rfl)⟩
        exact of_decide_eq_true (List.all_eq_true.mp o4 ch (List.mem_of_getElem? ec))
    · intro ys H1 e1 hD1 hl1 hP
      refine ⟨_, _, rfl, bls (g := fun _ => true) hD1 hl1 hP, ?_⟩
      rw [all_true]
      refine ⟨_, rfl, ?_⟩
      match hcs : (f).cps.toList, o5 with
      | ch :: r, o5 =>
        refine ⟨_, rfl, _, 0, ch, rfl, rfl, lf, atI_nat (j := 0) (by rw [hcs] <;> rfl), rfl, _, rfl, ?_⟩
        have last : (fun D σ H => D.rt (.int n) H) = (fun (D : Ends) (σ : L2.St) (H : Hp) => D.rt (V.int n) H) := rfl
        refine ite2 (fun c1 => ?_) fun c1 => ?_
        · have c2 : num n = ("0" : Str) := by
            rcases Bool.or_eq_true_iff.mp o5 with z | z
            · exact absurd (by have := of_decide_eq_true c1; injection this) (of_decide_eq_true z)
            · exact of_decide_eq_true z
          refine ⟨_, rfl, rfl, _, rfl, itN (fun z => ?_) ?_⟩
          · rw [c2] at z
            exact absurd z (by decide +kernel)
          · exact ⟨_, rfl, _, n, rfl, o6, o3, q _ e1⟩
        · exact ⟨_, rfl, _, n, rfl, o6, o3, q _ e1⟩
  · have c' : ¬ cutS (num n) none (some 1) = ("-" : Str) := fun z => c (decide_eq_true (by rw [z]))
    have hf : figs (num n) = num n := if_neg c'
    rw [hf] at o1 o2 o4 o5 lf
    refine ⟨_, rfl, ?_⟩
    refine ⟨_, rfl, rfl, _, rfl, itN (fun z => o1 (by have := of_decide_eq_true z; injection this)) ?_⟩
    refine ⟨_, rfl, _, rfl, lf, _, _, rfl, rfl, _, rfl, itN (fun z => by have := of_decide_eq_true z; omega) ?_⟩
    refine ⟨_, rfl, num n, rfl, fun D hD => lc_pureW (walk_strA (num n)) hD (fun _ _ => trivial) (Nat.lt_of_le_of_lt o2 (by decide)) (fun _ => rfl) (fun i y _ => y = .bl true) (fun _ _ _ _ _ h => h) ?_ ?_⟩
    · intro i x H1 hi hx e1 Qe hq
      rw [List.getElem?_map] at hx
      cases ec : (num n).cps.toList[i]? with
      | none => rw [ec] at hx; cases hx
      | some ch =>
        rw [ec] at hx
        cases hx
        refine ⟨_, rfl, ch, _, rfl, rfl, qT ?_ (hq _ _ (Same.refl _) rfl)⟩
        exact of_decide_eq_true (List.all_eq_true.mp o4 ch (List.mem_of_getElem? ec))
    · intro ys H1 e1 hD1 hl1 hP
      refine ⟨_, _, rfl, bls (g := fun _ => true) hD1 hl1 hP, ?_⟩
      rw [all_true]
      refine ⟨_, rfl, ?_⟩
      match hcs : (num n).cps.toList, o5 with
      | ch :: r, o5 =>
        refine ⟨_, rfl, _, 0, ch, rfl, rfl, lf, atI_nat (j := 0) (by rw [hcs] <;> rfl), rfl, _, rfl, ?_⟩
        have last : (fun D σ H => D.rt (.int n) H) = (fun (D : Ends) (σ : L2.St) (H : Hp) => D.rt (V.int n) H) := rfl
        refine ite2 (fun c1 => ?_) fun c1 => ?_
        · have c2 : num n = ("0" : Str) := by
            rcases Bool.or_eq_true_iff.mp o5 with z | z
            · exact absurd (by have := of_decide_eq_true c1; injection this) (of_decide_eq_true z)
            · exact of_decide_eq_true z
          refine ⟨_, rfl, rfl, _, rfl, itN (fun z => ?_) ?_⟩
          · rw [c2] at z
            exact absurd z (by decide +kernel)
          · exact ⟨_, rfl, _, n, rfl, o6, o3, q _ e1⟩
        · exact ⟨_, rfl, _, n, rfl, o6, o3, q _ e1⟩
theorem num_clean_fin : ∀ k : Fin 121, 47 ∉ (num ((k : Nat) - 60 : Int)).cps.toList ∧ 32 ∉ (num ((k : Nat) - 60 : Int)).cps.toList := by decide +kernel
theorem num_clean {n : Int} (h : -60 ≤ n ∧ n ≤ 60) : 47 ∉ (num n).cps.toList ∧ 32 ∉ (num n).cps.toList := by
  obtain ⟨h1, h2⟩ := h
  have e : n = (((⟨(n + 60).toNat, by omega⟩ : Fin 121) : Nat) : Int) - 60 := by
    show n = ((n + 60).toNat : Int) - 60
    omega
  rw [e]
  exact num_clean_fin _
theorem txt_len {n : Nm} (h : n.ok) : n.txt.length ≤ 7 := by
  cases n with
  | i n => exact Nat.le_trans (num_len h.wide) (by decide)
  | f p q =>
    have h2 : smallI q := ⟨by have := h.2.1; omega, by have := h.2.2.1; omega⟩
    have l1 := num_len h.1.wide
    have l2 := num_len h2.wide
    have ls : (("/" : Str)).length = 1 := by decide +kernel
    show (num p ++ (("/" : Str) ++ num q)).length ≤ 7
    rw [slen_app, slen_app, ls]
    omega
/-! ### number_in -/
def sp_number_in (K : PySem.W.Frag) : Sp := fun vs H Q _ => ∃ n, vs = [.str (Nm.txt n)] ∧ n.ok ∧ ∀ v' H', Same H H' → Td H' v' n.data → Q v' H'
theorem ok_number_in (T : Txt K mg) : FnOk P0 w K mg base CX0 4 (aF K "number_in") (dF K "number_in") ["item"] (sp_number_in K) := by
  have G_integer_in := ok_integer_in (w := w) (base := base) T
  have G_is_number := ok_is_number (w := w) (base := base) T
  refine T.f_number_in.ok sc_number_in (fun vs H Q E h => by first | (obtain ⟨_, rfl, _⟩ := h; rfl) | (obtain ⟨_, _, rfl, _⟩ := h; rfl) | (obtain ⟨_, _, _, rfl, _⟩ := h; rfl) | (obtain ⟨_, _, _, _, rfl, _⟩ := h; rfl) | (obtain ⟨_, _, _, _, _, rfl, _⟩ := h; rfl) | (obtain ⟨_, _, _, _, _, _, rfl, _⟩ := h; rfl) | (obtain ⟨_, _, _, _, _, _, _, rfl, _⟩ := h; rfl) | (obtain ⟨_, _, _, _, _, _, _, _, rfl, _⟩ := h; rfl) | (obtain ⟨rfl, _⟩ := h; rfl)) (fun cdv A outer s H vs Q E hr h => ?_)
  obtain ⟨n, rfl, hn, q⟩ := h
  refine ⟨_, ((pss_cons (ps_asg (pe_partition (pv 0) (pe_globS rfl T.c_BAR)) (kgtup K 3 rfl rfl (pgs_cons (pg_name (i := 1) sc_number_in.nd rfl (Or.inl rfl)) (pgs_cons (pg_name (i := 2) sc_number_in.nd rfl (Or.inl rfl)) (pgs_cons (pg_name (i := 3) sc_number_in.nd rfl (Or.inl rfl)) pgs_nil)))))
    (pss_cons (ps_if (pt_cmpR op_eq (pv 2) pe_str (nomark _)) (pss_one (ps_ret (pe_call G_integer_in (hr.mono (by omega)) rfl T.g_integer_in T.f_integer_in.kp T.b_integer_in .nil pass0 (pa_cons (pv 0) pa_nil)))) pss_nil)
    (pss_cons (ps_set (i := 4) sc_number_in.nd rfl (Or.inl rfl) (pe_tup (pa_cons (pe_call G_integer_in (hr.mono (by omega)) rfl T.g_integer_in T.f_integer_in.kp T.b_integer_in .nil pass0 (pa_cons (pv 1) pa_nil)) (pa_cons (pe_call G_integer_in (hr.mono (by omega)) rfl T.g_integer_in T.f_integer_in.kp T.b_integer_in .nil pass0 (pa_cons (pv 3) pa_nil)) pa_nil))))
    (pss_one (ps_ret (pe_ifExp (PW.pt (pw_and (pt_cmpR op_notN (pe_ix (kix K rfl) (pv 4) pe_int (fun _ _ => rfl)) pe_non (nomark _)) (pw_and (pt_cmpR op_notN (pe_ix (kix K rfl) (pv 4) pe_int (fun _ _ => rfl)) pe_non (nomark _)) (pw_and1 (pt_val (pe_call G_is_number (hr.mono (by omega)) rfl T.g_is_number T.f_is_number.kp T.b_is_number .nil pass0 (pa_cons (pv 4) pa_nil))))))) (pv 4) pe_non))))))), ?_⟩
  have lt : n.txt.length ≤ sizeLine := Nat.le_trans (txt_len hn) (by decide)
  have ey : TL.tl ("/" : Str) = 47 :: [] := by decide +kernel
  refine ⟨_, rfl, ⟨_, rfl⟩, _, _, rfl, rfl, by decide +kernel, lt, fun p hp => ?_⟩
  cases n with
  | i n =>
    have e : Txt.partition (Nm.i n).txt ("/" : Str) = (num n, Str.empty, Str.empty) := TL.partition_none ey (num_clean hn.wide).1
    rw [e]
    refine ⟨_, _, rfl, SqT.of upd_same, rfl, _, _, rfl, _, _, rfl, _, _, rfl, rfl, ?_⟩
    refine ⟨_, rfl, rfl, _, rfl, itP (show decide (V.str Str.empty = V.str ("" : Str)) = true by decide +kernel) ?_⟩
    exact ⟨_, rfl, n, rfl, hn.wide, fun H' e => q _ _ (Same.trans (same_upd hp) e) (.int n)⟩
  | f p1 q1 =>
    have h2 : smallI q1 := ⟨by have := hn.2.1; omega, by have := hn.2.2.1; omega⟩
    have e : Txt.partition (Nm.f p1 q1).txt ("/" : Str) = (num p1, ("/" : Str), num q1) := by
      show Txt.partition (num p1 ++ (("/" : Str) ++ num q1)) ("/" : Str) = _
      rw [← Str.append_assoc]
      exact TL.partition_app ey (num_clean hn.1.wide).1
    rw [e]
    refine ⟨_, _, rfl, SqT.of upd_same, rfl, _, _, rfl, _, _, rfl, _, _, rfl, rfl, ?_⟩
    refine ⟨_, rfl, rfl, _, rfl, itN (show ¬ decide (V.str ("/" : Str) = V.str ("" : Str)) = true by decide +kernel) ?_⟩
    refine ⟨_, rfl, p1, rfl, hn.1.wide, fun H1 e1 => ⟨_, rfl, q1, rfl, h2.wide, fun H2 e2 => ⟨(by show 2 ≤ sizeLine; decide), fun t ht => ?_⟩⟩⟩
    have st : Td (upd H2 t (.tup [.int p1, .int q1])) (.ref t) (Nm.f p1 q1).data := td_ints (ns := [p1, q1]) upd_same
    have ee := Same.snoc (o := .tup [.int p1, .int q1]) (Same.trans (Same.trans (same_upd hp) e1) e2) ht
    refine ⟨_, rfl, _, false, _, 0, _, rfl, rfl, SqT.of upd_same, rfl, rfl, _, rfl, itP rfl ?_⟩
    refine ⟨_, rfl, _, false, _, 1, _, rfl, rfl, SqT.of upd_same, rfl, rfl, _, rfl, itP rfl ?_⟩
    refine ⟨_, rfl, _, .f p1 q1, rfl, st.ld, hn, fun H3 e3 => ⟨_, rfl, _, rfl, q _ _ (ee.trans e3) (st.same e3)⟩⟩
end
end PL
end
section
set_option maxHeartbeats 4000000
/-! D6: the scan. -/
namespace PL
open PySem PySem.Spec PyProof.Rows L2
section
variable {w : World} {K : PySem.W.Frag} {mg : Str → Option Value} {base : Heap}
def scF (wl : Addr) (j : Int) : List (Str × V) := [("words", .ref wl), ("at", .int j)]
def ScAt (K : PySem.W.Frag) (H : Hp) (sc wl : Addr) (ws : List Str) (i : Nat) : Prop := ∃ dx, H sc = some (.ins (aF K "Scan") dx (scF wl (i : Int))) ∧ H wl = some (.lst (ws.map V.str))
theorem look_words {wl : Addr} {j : Int} : (scF wl j).lookup ("words" : Str) = some (.ref wl) := by
  have : (("words" : Str) == ("words" : Str)) = true := by decide +kernel
  simp [scF, List.lookup, this]
theorem look_at {wl : Addr} {j : Int} : (scF wl j).lookup ("at" : Str) = some (.int j) := by
  have e1 : (("at" : Str) == ("words" : Str)) = false := by decide +kernel
  have e2 : (("at" : Str) == ("at" : Str)) = true := by decide +kernel
  simp [scF, List.lookup, e1, e2]
theorem look_none {wl : Addr} {j : Int} {m : Str} (e1 : (m == ("words" : Str)) = false) (e2 : (m == ("at" : Str)) = false) : (scF wl j).lookup m = none := by
  simp [scF, List.lookup, e1, e2]
theorem put_at {wl : Addr} {i j : Int} : putF "at" (.int i) (scF wl j) = scF wl i := by
  have e1 : ¬ (("words" : Str) = ("at" : Str)) := by decide +kernel
  simp only [scF, putF, if_neg e1, if_true]
theorem ScAt.same {H H' : Hp} (e : Same H H') {sc wl : Addr} {ws : List Str} {i : Nat} (h : ScAt K H sc wl ws i) : ScAt K H' sc wl ws i := by
  obtain ⟨dx, h1, h2⟩ := h
  exact ⟨dx, e _ _ h1, e _ _ h2⟩
theorem ScAt.loose {H : Hp} {sc wl : Addr} {ws : List Str} {i : Nat} (h : ScAt K H sc wl ws i) : ∀ a, some sc = some a → Loose H a := fun a z => by
  obtain ⟨dx, h1, h2⟩ := h
  cases z
  exact Loose.ins h1 (look_none (by decide +kernel) (by decide +kernel))
/-- the scan's place after a store -/
theorem ScAt.put {H : Hp} {sc wl dx : Addr} {ws : List Str} {j : Int} {i : Nat} (h1 : H sc = some (.ins (aF K "Scan") dx (scF wl j))) (h2 : H wl = some (.lst (ws.map V.str))) :
    ScAt K (upd H sc (.ins (aF K "Scan") dx (putF "at" (.int (i : Int)) (scF wl j)))) sc wl ws i := by
  refine ⟨dx, ?_, ?_⟩
  · rw [upd_same, put_at]
  · rw [upd_ne (fun z => by subst z; rw [h1] at h2; cases h2)]
    exact h2
/-! ### __init__ -/
def sp_Scan (K : PySem.W.Frag) : Sp := fun vs H Q _ => ∃ sc dx z, vs = [.ref sc, .str z] ∧ H sc = some (.ins (aF K "Scan") dx []) ∧ z.length + 2 ≤ sizeLine ∧ ∀ wl H', Kp (some sc) H H' → ScAt K H' sc wl (Txt.split z (" " : Str)) 0 → Q .non H'
theorem ok_Scan (T : Txt K mg) : FnOk P0 w K mg base CX0 1 (aM K "Scan" "__init__") (dM K "Scan" "__init__") ["self", "text"] (sp_Scan K) := by
  refine T.f_Scan___init__.ok sc_Scan___init__ (fun vs H Q E h => by first | (obtain ⟨_, rfl, _⟩ := h; rfl) | (obtain ⟨_, _, rfl, _⟩ := h; rfl) | (obtain ⟨_, _, _, rfl, _⟩ := h; rfl) | (obtain ⟨_, _, _, _, rfl, _⟩ := h; rfl) | (obtain ⟨_, _, _, _, _, rfl, _⟩ := h; rfl) | (obtain ⟨_, _, _, _, _, _, rfl, _⟩ := h; rfl) | (obtain ⟨_, _, _, _, _, _, _, rfl, _⟩ := h; rfl) | (obtain ⟨_, _, _, _, _, _, _, _, rfl, _⟩ := h; rfl) | (obtain ⟨rfl, _⟩ := h; rfl)) (fun cdv A outer s H vs Q E hr h => ?_)
  obtain ⟨sc, dx, z, rfl, hsc, hz, q⟩ := h
  refine ⟨_, ((pss_cons (ps_if (pt_not (pt_val (pe_callB (kisi K rfl) (by rfl) T.z_isinstance bt_isinstance (pa_cons (pv 1) (pa_cons (pe_bltn (v := .ty "str") (by rfl) T.z_str bt_str rfl) pa_nil))))) pss_never pss_nil)
    (pss_cons (ksfld K rfl (pv 0) (pe_split (pv 1) pe_str) rfl)
    (pss_one (ksfld K rfl (pv 0) pe_int rfl))))), ?_⟩
  refine ⟨_, rfl, _, _, _, _, true, rfl, .ty _, .base (.str _), kit_ty (by decide +kernel), true, rfl, ?_⟩
  refine ⟨_, rfl, ⟨_, rfl⟩, _, _, rfl, rfl, by decide +kernel, hz, fun wl hwl => ?_⟩
  have hne : wl ≠ sc := fun e => by subst e; rw [hsc] at hwl; cases hwl
  have h1 : upd H wl (.lst ((Txt.split z (" " : Str)).map V.str)) sc = some (.ins (aF K "Scan") dx []) := by
    rw [upd_ne (fun e => hne e.symm)]
    exact hsc
  refine ⟨_, rfl, _, _, _, _, rfl, h1, T.cl_Scan, T.n_words, by show 0 < 1000; decide, ?_⟩
  refine ⟨_, rfl, _, _, _, _, rfl, upd_same, T.cl_Scan, T.n_at, by show 1 < 1000; decide, ?_⟩
  refine q wl _ ((Kp.of (same_upd hwl)).put.put) ⟨dx, ?_, ?_⟩
  · rw [upd_same]
    have e1 : ¬ (("words" : Str) = ("at" : Str)) := by decide +kernel
    simp only [putF, if_neg e1]
    rfl
  · rw [upd_ne hne, upd_ne hne]
    exact upd_same
/-! ### ahead -/
def sp_ahead (K : PySem.W.Frag) : Sp := fun vs H Q _ => ∃ sc wl ws i z, vs = [.ref sc] ∧ ScAt K H sc wl ws i ∧ ws[i]? = some z ∧ ∀ H', Same H H' → Q (.str z) H'
theorem ok_ahead (T : Txt K mg) : FnOk P0 w K mg base CX0 1 (aM K "Scan" "ahead") (dM K "Scan" "ahead") ["self"] (sp_ahead K) := by
  refine T.f_Scan_ahead.ok sc_Scan_ahead (fun vs H Q E h => by first | (obtain ⟨_, rfl, _⟩ := h; rfl) | (obtain ⟨_, _, rfl, _⟩ := h; rfl) | (obtain ⟨_, _, _, rfl, _⟩ := h; rfl) | (obtain ⟨_, _, _, _, rfl, _⟩ := h; rfl) | (obtain ⟨_, _, _, _, _, rfl, _⟩ := h; rfl) | (obtain ⟨_, _, _, _, _, _, rfl, _⟩ := h; rfl) | (obtain ⟨_, _, _, _, _, _, _, rfl, _⟩ := h; rfl) | (obtain ⟨_, _, _, _, _, _, _, _, rfl, _⟩ := h; rfl) | (obtain ⟨rfl, _⟩ := h; rfl)) (fun cdv A outer s H vs Q E hr h => ?_)
  obtain ⟨sc, wl, ws, i, z, rfl, ⟨dx, h1, h2⟩, hz, q⟩ := h
  refine ⟨_, ((pss_one (ps_ret (pe_ifExp (pt_cmpR op_lt (kfld K rfl (pv 0) rfl) (pe_callB (klen K rfl) (by rfl) T.z_len bt_len (pa_cons (kfld K rfl (pv 0) rfl) pa_nil)) (nomark _)) (pe_ix (kix K rfl) (kfld K rfl (pv 0) rfl) (kfld K rfl (pv 0) rfl) (fun _ _ => rfl)) pe_non)))), ?_⟩
  have hi : i < ws.length := (List.getElem?_eq_some_iff.mp hz).1
  refine ⟨_, rfl, _, _, _, _, _, rfl, h1, T.cl_Scan, T.n_at, look_at, ?_⟩
  refine ⟨_, rfl, _, _, _, _, _, rfl, h1, T.cl_Scan, T.n_words, look_words, _, true, _, rfl, SqL.of h2, _, _, rfl, rfl, _, rfl, itP (decide_eq_true (by rw [List.length_map]; omega)) ?_⟩
  refine ⟨_, rfl, _, _, _, _, _, rfl, h1, T.cl_Scan, T.n_words, look_words, ?_⟩
  refine ⟨_, rfl, _, _, _, _, _, rfl, h1, T.cl_Scan, T.n_at, look_at, _, true, _, _, _, rfl, rfl, SqL.of h2, atI_nat (j := i) (by rw [List.getElem?_map, hz] <;> rfl), q _ (Same.refl _)⟩
/-! ### take, take_word, take_integer, take_number, finish -/
def sp_take (K : PySem.W.Frag) : Sp := fun vs H Q _ => ∃ sc wl ws i z, vs = [.ref sc] ∧ ScAt K H sc wl ws i ∧ ws[i]? = some z ∧ ∀ H', Kp (some sc) H H' → ScAt K H' sc wl ws (i + 1) → Q (.str z) H'
theorem ok_take (T : Txt K mg) : FnOk P0 w K mg base CX0 2 (aM K "Scan" "take") (dM K "Scan" "take") ["self"] (sp_take K) := by
  have G_ahead := ok_ahead (w := w) (base := base) T
  refine T.f_Scan_take.ok sc_Scan_take (fun vs H Q E h => by first | (obtain ⟨_, rfl, _⟩ := h; rfl) | (obtain ⟨_, _, rfl, _⟩ := h; rfl) | (obtain ⟨_, _, _, rfl, _⟩ := h; rfl) | (obtain ⟨_, _, _, _, rfl, _⟩ := h; rfl) | (obtain ⟨_, _, _, _, _, rfl, _⟩ := h; rfl) | (obtain ⟨_, _, _, _, _, _, rfl, _⟩ := h; rfl) | (obtain ⟨_, _, _, _, _, _, _, rfl, _⟩ := h; rfl) | (obtain ⟨_, _, _, _, _, _, _, _, rfl, _⟩ := h; rfl) | (obtain ⟨rfl, _⟩ := h; rfl)) (fun cdv A outer s H vs Q E hr h => ?_)
  obtain ⟨sc, wl, ws, i, z, rfl, hs, hz, q⟩ := h
  refine ⟨_, ((pss_cons (ps_set (i := 1) sc_Scan_take.nd rfl (Or.inl rfl) (pe_meth0 (pv 0) T.cl_Scan T.m_ahead G_ahead (hr.mono (by omega)) T.b_ahead .nil pass0))
    (pss_cons (ps_if (pt_cmpR op_isN (pv 1) pe_non (nomark _)) pss_never pss_nil)
    (pss_cons (ksfld K rfl (pv 0) (pe_op op_add (kfld K rfl (pv 0) rfl) pe_int) rfl)
    (pss_one (ps_ret (pv 1))))))), ?_⟩
  obtain ⟨dx, h1, h2⟩ := hs
  refine ⟨_, rfl, _, dx, _, rfl, h1, look_none (by decide +kernel) (by decide +kernel), sc, wl, ws, i, z, rfl, ⟨dx, h1, h2⟩, hz, fun H1 e1 => ?_⟩
  have h1' := e1 _ _ h1
  have h2' := e1 _ _ h2
  refine ⟨_, rfl, rfl, _, rfl, itN (fun c => nomatch (of_decide_eq_true c)) ?_⟩
  refine ⟨_, rfl, _, _, _, _, _, rfl, h1', T.cl_Scan, T.n_at, look_at, _, _, rfl, rfl, ?_⟩
  refine ⟨_, rfl, _, _, _, _, rfl, h1', T.cl_Scan, T.n_at, by show 2 < 1000; decide, ?_⟩
  exact ⟨_, rfl, q _ ((Kp.of e1).put) (ScAt.put (i := i + 1) h1' h2')⟩
def sp_take_word (K : PySem.W.Frag) : Sp := fun vs H Q _ => ∃ sc wl ws i z p zs, vs = [.ref sc, .ref p] ∧ ScAt K H sc wl ws i ∧ ws[i]? = some z ∧ (∀ H', SqT K H' p (List.map V.str zs)) ∧ z ∈ zs ∧ ∀ H', Kp (some sc) H H' → ScAt K H' sc wl ws (i + 1) → Q (.str z) H'
theorem ok_take_word (T : Txt K mg) : FnOk P0 w K mg base CX0 3 (aM K "Scan" "take_word") (dM K "Scan" "take_word") ["self", "words"] (sp_take_word K) := by
  have G_ahead := ok_ahead (w := w) (base := base) T
  have G_take := ok_take (w := w) (base := base) T
  refine T.f_Scan_take_word.ok sc_Scan_take_word (fun vs H Q E h => by first | (obtain ⟨_, rfl, _⟩ := h; rfl) | (obtain ⟨_, _, rfl, _⟩ := h; rfl) | (obtain ⟨_, _, _, rfl, _⟩ := h; rfl) | (obtain ⟨_, _, _, _, rfl, _⟩ := h; rfl) | (obtain ⟨_, _, _, _, _, rfl, _⟩ := h; rfl) | (obtain ⟨_, _, _, _, _, _, rfl, _⟩ := h; rfl) | (obtain ⟨_, _, _, _, _, _, _, rfl, _⟩ := h; rfl) | (obtain ⟨_, _, _, _, _, _, _, _, rfl, _⟩ := h; rfl) | (obtain ⟨rfl, _⟩ := h; rfl)) (fun cdv A outer s H vs Q E hr h => ?_)
  obtain ⟨sc, wl, ws, i, z, p, zs, rfl, hs, hz, hp, hm, q⟩ := h
  refine ⟨_, ((pss_cons (ps_if (pt_cmpR (knotin K rfl) (pe_meth0 (pv 0) T.cl_Scan T.m_ahead G_ahead (hr.mono (by omega)) T.b_ahead .nil pass0) (pv 1) rfl) pss_never pss_nil)
    (pss_one (ps_ret (pe_meth0 (pv 0) T.cl_Scan T.m_take G_take (hr.mono (by omega)) T.b_take .nil pass0))))), ?_⟩
  have hs0 := hs
  obtain ⟨dx, h1, h2⟩ := hs
  refine ⟨_, rfl, _, dx, _, rfl, h1, look_none (by decide +kernel) (by decide +kernel), sc, wl, ws, i, z, rfl, hs0, hz, fun H1 e1 => ?_⟩
  refine ⟨_, rfl, p, _, rfl, .inr (hp H1), rfl, ?_, _, rfl, itN ?_ ?_⟩
  · rw [List.all_map]
    exact List.all_eq_true.mpr fun _ _ => rfl
  · have : inV (V.str z) (zs.map V.str) = true := by
      unfold inV
      rw [List.any_map]
      exact List.any_eq_true.mpr ⟨z, hm, beq_self_eq_true z⟩
    show ¬ ((!inV (V.str z) (zs.map V.str)) = true)
    rw [this]
    decide
  · refine ⟨_, rfl, _, dx, _, rfl, e1 _ _ h1, look_none (by decide +kernel) (by decide +kernel), sc, wl, ws, i, z, rfl, hs0.same e1, hz, fun H2 k2 s2 => q _ ((Kp.of e1).trans k2) s2⟩
def sp_take_integer (K : PySem.W.Frag) : Sp := fun vs H Q _ => ∃ sc wl ws i n lo hi, vs = [.ref sc, .int lo, .int hi] ∧ ScAt K H sc wl ws i ∧ ws[i]? = some (num n) ∧ (-60 ≤ n ∧ n ≤ 60) ∧ lo ≤ n ∧ n ≤ hi ∧ ∀ H', Kp (some sc) H H' → ScAt K H' sc wl ws (i + 1) → Q (.int n) H'
theorem ok_take_integer (T : Txt K mg) : FnOk P0 w K mg base CX0 3 (aM K "Scan" "take_integer") (dM K "Scan" "take_integer") ["self", "least", "most"] (sp_take_integer K) := by
  have G_ahead := ok_ahead (w := w) (base := base) T
  have G_integer_in := ok_integer_in (w := w) (base := base) T
  have G_is_within := ok_is_within (w := w) (base := base) T
  refine T.f_Scan_take_integer.ok sc_Scan_take_integer (fun vs H Q E h => by (obtain ⟨_, _, _, _, _, _, _, rfl, _⟩ := h; rfl)) (fun cdv A outer s H vs Q E hr h => ?_)
  obtain ⟨sc, wl, ws, i, n, lo, hi, rfl, hs, hz, hn, hlo, hhi, q⟩ := h
  refine ⟨_, ((pss_cons (ps_set (i := 3) sc_Scan_take_integer.nd rfl (Or.inl rfl) (pe_meth0 (pv 0) T.cl_Scan T.m_ahead G_ahead (hr.mono (by omega)) T.b_ahead .nil pass0))
    (pss_cons (ps_set (i := 4) sc_Scan_take_integer.nd rfl (Or.inl rfl) (pe_ifExp (pt_cmpR op_isN (pv 3) pe_non (nomark _)) pe_non (pe_call G_integer_in (hr.mono (by omega)) rfl T.g_integer_in T.f_integer_in.kp T.b_integer_in .nil pass0 (pa_cons (pv 3) pa_nil))))
    (pss_cons (ps_if (pt_not (pt_val (pe_call G_is_within (hr.mono (by omega)) rfl T.g_is_within T.f_is_within.kp T.b_is_within .nil pass0 (pa_cons (pv 4) (pa_cons (pv 1) (pa_cons (pv 2) pa_nil)))))) pss_never pss_nil)
    (pss_cons (ksfld K rfl (pv 0) (pe_op op_add (kfld K rfl (pv 0) rfl) pe_int) rfl)
    (pss_one (ps_ret (pv 4)))))))), ?_⟩
  have hs0 := hs
  obtain ⟨dx, h1, h2⟩ := hs
  refine ⟨_, rfl, _, dx, _, rfl, h1, look_none (by decide +kernel) (by decide +kernel), sc, wl, ws, i, _, rfl, hs0, hz, fun H1 e1 => ?_⟩
  refine ⟨_, rfl, rfl, _, rfl, itN (fun c => nomatch (of_decide_eq_true c)) ?_⟩
  refine ⟨_, rfl, n, rfl, hn, fun H2 e2 => ?_⟩
  refine ⟨_, rfl, _, rfl, _, rfl, n, some lo, some hi, rfl, fun H3 e3 => ⟨_, rfl, ?_⟩⟩
  have c2 : (bndLo (some lo) n && bndHi (some hi) n) = true := by
    show (decide (lo ≤ n) && decide (n ≤ hi)) = true
    rw [decide_eq_true hlo, decide_eq_true hhi]
    rfl
  rw [c2]
  have ee := (e1.trans e2).trans e3
  have h1' := ee _ _ h1
  have h2' := ee _ _ h2
  refine ⟨_, rfl, _, _, _, _, _, rfl, h1', T.cl_Scan, T.n_at, look_at, _, _, rfl, rfl, ?_⟩
  refine ⟨_, rfl, _, _, _, _, rfl, h1', T.cl_Scan, T.n_at, by show 2 < 1000; decide, ?_⟩
  exact ⟨_, rfl, q _ ((Kp.of ee).put) (ScAt.put (i := i + 1) h1' h2')⟩
def sp_take_number (K : PySem.W.Frag) : Sp := fun vs H Q _ => ∃ sc wl ws i n, vs = [.ref sc] ∧ ScAt K H sc wl ws i ∧ ws[i]? = some (Nm.txt n) ∧ n.ok ∧ ∀ v' H', Kp (some sc) H H' → ScAt K H' sc wl ws (i + 1) → Td H' v' n.data → Q v' H'
theorem ok_take_number (T : Txt K mg) : FnOk P0 w K mg base CX0 5 (aM K "Scan" "take_number") (dM K "Scan" "take_number") ["self"] (sp_take_number K) := by
  have G_ahead := ok_ahead (w := w) (base := base) T
  have G_number_in := ok_number_in (w := w) (base := base) T
  refine T.f_Scan_take_number.ok sc_Scan_take_number (fun vs H Q E h => by first | (obtain ⟨_, rfl, _⟩ := h; rfl) | (obtain ⟨_, _, rfl, _⟩ := h; rfl) | (obtain ⟨_, _, _, rfl, _⟩ := h; rfl) | (obtain ⟨_, _, _, _, rfl, _⟩ := h; rfl) | (obtain ⟨_, _, _, _, _, rfl, _⟩ := h; rfl) | (obtain ⟨_, _, _, _, _, _, rfl, _⟩ := h; rfl) | (obtain ⟨_, _, _, _, _, _, _, rfl, _⟩ := h; rfl) | (obtain ⟨_, _, _, _, _, _, _, _, rfl, _⟩ := h; rfl) | (obtain ⟨rfl, _⟩ := h; rfl)) (fun cdv A outer s H vs Q E hr h => ?_)
  obtain ⟨sc, wl, ws, i, n, rfl, hs, hz, hn, q⟩ := h
  refine ⟨_, ((pss_cons (ps_set (i := 1) sc_Scan_take_number.nd rfl (Or.inl rfl) (pe_meth0 (pv 0) T.cl_Scan T.m_ahead G_ahead (hr.mono (by omega)) T.b_ahead .nil pass0))
    (pss_cons (ps_set (i := 2) sc_Scan_take_number.nd rfl (Or.inl rfl) (pe_ifExp (pt_cmpR op_isN (pv 1) pe_non (nomark _)) pe_non (pe_call G_number_in (hr.mono (by omega)) rfl T.g_number_in T.f_number_in.kp T.b_number_in .nil pass0 (pa_cons (pv 1) pa_nil))))
    (pss_cons (ps_if (pt_cmpR op_isN (pv 2) pe_non (nomark _)) pss_never pss_nil)
    (pss_cons (ksfld K rfl (pv 0) (pe_op op_add (kfld K rfl (pv 0) rfl) pe_int) rfl)
    (pss_one (ps_ret (pv 2)))))))), ?_⟩
  have hs0 := hs
  obtain ⟨dx, h1, h2⟩ := hs
  refine ⟨_, rfl, _, dx, _, rfl, h1, look_none (by decide +kernel) (by decide +kernel), sc, wl, ws, i, _, rfl, hs0, hz, fun H1 e1 => ?_⟩
  refine ⟨_, rfl, rfl, _, rfl, itN (fun c => nomatch (of_decide_eq_true c)) ?_⟩
  refine ⟨_, rfl, n, rfl, hn, fun v' H2 e2 ht => ?_⟩
  have hv : v' ≠ .non := fun z => by subst z; cases n <;> cases ht
  refine ⟨_, rfl, rfl, _, rfl, itN (fun c => hv (of_decide_eq_true c)) ?_⟩
  have ee := e1.trans e2
  have h1' := ee _ _ h1
  have h2' := ee _ _ h2
  refine ⟨_, rfl, _, _, _, _, _, rfl, h1', T.cl_Scan, T.n_at, look_at, _, _, rfl, rfl, ?_⟩
  refine ⟨_, rfl, _, _, _, _, rfl, h1', T.cl_Scan, T.n_at, by show 2 < 1000; decide, ?_⟩
  exact ⟨_, rfl, q _ _ ((Kp.of ee).put) (ScAt.put (i := i + 1) h1' h2') (ht.im (im_upd (hs0.same ee |>.loose _ rfl)))⟩
def sp_finish (K : PySem.W.Frag) : Sp := fun vs H Q _ => ∃ sc wl ws, vs = [.ref sc] ∧ ScAt K H sc wl ws (List.length ws) ∧ Q .non H
theorem ok_finish (T : Txt K mg) : FnOk P0 w K mg base CX0 1 (aM K "Scan" "finish") (dM K "Scan" "finish") ["self"] (sp_finish K) := by
  refine T.f_Scan_finish.ok sc_Scan_finish (fun vs H Q E h => by first | (obtain ⟨_, rfl, _⟩ := h; rfl) | (obtain ⟨_, _, rfl, _⟩ := h; rfl) | (obtain ⟨_, _, _, rfl, _⟩ := h; rfl) | (obtain ⟨_, _, _, _, rfl, _⟩ := h; rfl) | (obtain ⟨_, _, _, _, _, rfl, _⟩ := h; rfl) | (obtain ⟨_, _, _, _, _, _, rfl, _⟩ := h; rfl) | (obtain ⟨_, _, _, _, _, _, _, rfl, _⟩ := h; rfl) | (obtain ⟨_, _, _, _, _, _, _, _, rfl, _⟩ := h; rfl) | (obtain ⟨rfl, _⟩ := h; rfl)) (fun cdv A outer s H vs Q E hr h => ?_)
  obtain ⟨sc, wl, ws, rfl, ⟨dx, h1, h2⟩, q⟩ := h
  refine ⟨_, ((pss_one (ps_if (pt_cmpR op_lt (kfld K rfl (pv 0) rfl) (pe_callB (klen K rfl) (by rfl) T.z_len bt_len (pa_cons (kfld K rfl (pv 0) rfl) pa_nil)) (nomark _)) pss_never pss_nil))), ?_⟩
  refine ⟨_, rfl, _, _, _, _, _, rfl, h1, T.cl_Scan, T.n_at, look_at, ?_⟩
  refine ⟨_, rfl, _, _, _, _, _, rfl, h1, T.cl_Scan, T.n_words, look_words, _, true, _, rfl, SqL.of h2, _, _, rfl, rfl, _, rfl, itN (fun c => ?_) q⟩
  have := of_decide_eq_true c
  rw [List.length_map] at this
  omega
end
end PL
end
section
set_option maxHeartbeats 4000000
/-! D7: what is told, read. -/
namespace PL
open PySem PySem.Spec PyProof.Rows L2
section
variable {w : World} {K : PySem.W.Frag} {mg : Str → Option Value} {base : Heap}
def sp_weight_in (K : PySem.W.Frag) : Sp := fun vs H Q _ => ∃ sc wl ws i n, vs = [.ref sc] ∧ ScAt K H sc wl ws i ∧ ws[i]? = some (Nm.txt n) ∧ wtOk n ∧ ∀ v' H', Kp (some sc) H H' → ScAt K H' sc wl ws (i + 1) → Td H' v' n.data → Q v' H'
theorem ok_weight_in (T : Txt K mg) : FnOk P0 w K mg base CX0 6 (aF K "weight_in") (dF K "weight_in") ["scan"] (sp_weight_in K) := by
  have G_take_number := ok_take_number (w := w) (base := base) T
  have G_below := ok_below (w := w) (base := base) T
  refine T.f_weight_in.ok sc_weight_in (fun vs H Q E h => by first | (obtain ⟨_, rfl, _⟩ := h; rfl) | (obtain ⟨_, _, rfl, _⟩ := h; rfl) | (obtain ⟨_, _, _, rfl, _⟩ := h; rfl) | (obtain ⟨_, _, _, _, rfl, _⟩ := h; rfl) | (obtain ⟨_, _, _, _, _, rfl, _⟩ := h; rfl) | (obtain ⟨_, _, _, _, _, _, rfl, _⟩ := h; rfl) | (obtain ⟨_, _, _, _, _, _, _, rfl, _⟩ := h; rfl) | (obtain ⟨_, _, _, _, _, _, _, _, rfl, _⟩ := h; rfl) | (obtain ⟨rfl, _⟩ := h; rfl)) (fun cdv A outer s H vs Q E hr h => ?_)
  obtain ⟨sc, wl, ws, i, n, rfl, hs, hz, ⟨hn, hp⟩, q⟩ := h
  refine ⟨_, ((pss_cons (ps_set (i := 1) sc_weight_in.nd rfl (Or.inl rfl) (kfld K rfl (pv 0) rfl))
    (pss_cons (ps_set (i := 2) sc_weight_in.nd rfl (Or.inl rfl) (pe_meth0 (pv 0) T.cl_Scan T.m_take_number G_take_number (hr.mono (by omega)) T.b_take_number .nil pass0))
    (pss_cons (ps_if (pt_val (pe_call G_below (hr.mono (by omega)) rfl T.g_below T.f_below.kp T.b_below .nil pass0 (pa_cons (pv 2) (pa_cons pe_int pa_nil)))) pss_never pss_nil)
    (pss_one (ps_ret (pv 2))))))), ?_⟩
  have hs0 := hs
  obtain ⟨dx, h1, h2⟩ := hs
  refine ⟨_, rfl, _, _, _, _, _, rfl, h1, T.cl_Scan, T.n_at, look_at, ?_⟩
  refine ⟨_, rfl, _, dx, _, rfl, h1, look_none (by decide +kernel) (by decide +kernel), sc, wl, ws, i, n, rfl, hs0, hz, hn, fun v' H1 k1 s1 t1 => ?_⟩
  refine ⟨_, rfl, _, n, rfl, t1.ld, hn, hp, fun H2 e2 => ⟨_, rfl, ?_⟩⟩
  exact ⟨_, rfl, q _ _ (k1.trans (.of e2)) (s1.same e2) (t1.same e2)⟩
theorem ScAt.upd {H : Hp} {sc wl a : Addr} {o : HO} {ws : List Str} {i : Nat} (h : ScAt K H sc wl ws i) (h1 : a ≠ sc) (h2 : a ≠ wl) : ScAt K (upd H a o) sc wl ws i := by
  obtain ⟨dx, e1, e2⟩ := h
  exact ⟨dx, by rw [upd_ne (fun z => h1 z.symm)]; exact e1, by rw [upd_ne (fun z => h2 z.symm)]; exact e2⟩
theorem ScAt.ne {H : Hp} {sc wl a : Addr} {ws : List Str} {i : Nat} (h : ScAt K H sc wl ws i) (ha : H a = none) : a ≠ sc ∧ a ≠ wl := by
  obtain ⟨dx, e1, e2⟩ := h
  exact ⟨fun z => by (subst z; rw [e1] at ha; cases ha), fun z => by (subst z; rw [e2] at ha; cases ha)⟩
/-! ### lots_in -/
theorem rgs_from_at : ∀ (c : List Nat) (L : List (List Nat)) (h : Nat), rgsFrom L h c → ∀ (j k : Nat), c[j]? = some k → k ≤ (lotsFrom L h (c.take j)).length
  | [], _, _, _, j, k, e => by simp at e
  | x :: c, L, h, hc, 0, k, e => by
    have : x = k := by simpa using e
    subst this
    exact hc.1
  | x :: c, L, h, hc, j + 1, k, e => by
    rw [List.take_succ_cons]
    exact rgs_from_at c _ _ hc.2 j k (by simpa using e)
theorem rgs_at {c : List Nat} (h : Rgs c) {j k : Nat} (e : c[j]? = some k) : k ≤ (lotsOf (c.take j)).length := rgs_from_at c _ _ h j k e
theorem rgs_take : ∀ (c : List Nat) (L : List (List Nat)) (h : Nat), rgsFrom L h c → ∀ j, rgsFrom L h (c.take j)
  | [], _, _, _, j => by rw [List.take_nil]; exact trivial
  | x :: c, L, h, hc, 0 => trivial
  | x :: c, L, h, hc, j + 1 => ⟨hc.1, rgs_take c _ _ hc.2 j⟩
theorem nodup_inj {α : Type} {l : List α} (h : l.Nodup) {i j : Nat} (hi : i < l.length) (hj : j < l.length) (e : l[i] = l[j]) : i = j := by
  have p := List.pairwise_iff_getElem.mp h
  rcases Nat.lt_trichotomy i j with z | z | z
  · exact absurd e (p i j hi hj z)
  · exact z
  · exact absurd e.symm (p j i hj hi z)
theorem lots_take_succ {c : List Nat} {j k : Nat} (e : c[j]? = some k) : lotsOf (c.take (j + 1)) = addLot (lotsOf (c.take j)) j k := by
  have hj : j < c.length := (List.getElem?_eq_some_iff.mp e).1
  have : c.take (j + 1) = c.take j ++ [k] := by
    rw [List.take_succ, e]
    rfl
  rw [this, lotsOf_snoc, List.length_take, Nat.min_eq_left (Nat.le_of_lt hj)]
theorem addLot_le (L : List (List Nat)) (h k : Nat) : L.length ≤ (addLot L h k).length := by
  rw [addLot_length]
  split <;> omega
theorem lots_from_le : ∀ (c : List Nat) (L : List (List Nat)) (h : Nat), L.length ≤ (lotsFrom L h c).length
  | [], L, h => Nat.le_refl _
  | x :: c, L, h => Nat.le_trans (addLot_le L h x) (lots_from_le c _ _)
theorem lot_lt {c : List Nat} (h : Rgs c) {j k : Nat} (e : c[j]? = some k) : k < (lotsOf c).length := by
  obtain ⟨lot, e1, _⟩ := lots_at h e
  exact (List.getElem?_eq_some_iff.mp e1).1
def sp_lots_in (K : PySem.W.Frag) : Sp := fun vs H Q _ => ∃ sc wl ws i c, vs = [.ref sc, .int ((List.length c : Nat) : Int)] ∧ ScAt K H sc wl ws i ∧ (∀ (j : Nat) k, c[j]? = some k → ws[i + j]? = some (num ((k : Nat) : Int))) ∧ Rgs c ∧ c.length ≤ 8 ∧ (lotsOf c).length ≤ 6 ∧
  ∀ v' H', Kp (some sc) H H' → ScAt K H' sc wl ws (i + c.length) → Ld K H' v' (Told.lots c).data → Q v' H'
/-- the lots in the making -/
structure Mk0 (K : PySem.W.Frag) (H0 H : Hp) (sc L : Addr) (M : List (List Nat)) (as : List Addr) : Prop where
  kp : Kp (some sc) H0 H
  new : H0 L = none
  at_ : H L = some (.lst (as.map V.ref))
  len : as.length = M.length
  nd : as.Nodup
  each : ∀ (k : Nat) a l, as[k]? = some a → M[k]? = some l → H0 a = none ∧ a ≠ L ∧ H a = some (.lst (List.map (fun (x : Nat) => V.int (x : Int)) l))
theorem ok_lots_in (T : Txt K mg) : FnOk P0 w K mg base CX0 4 (aF K "lots_in") (dF K "lots_in") ["scan", "many"] (sp_lots_in K) := by
  have G_take_integer := ok_take_integer (w := w) (base := base) T
  refine T.f_lots_in.ok sc_lots_in (fun vs H Q E h => by first | (obtain ⟨_, rfl, _⟩ := h; rfl) | (obtain ⟨_, _, rfl, _⟩ := h; rfl) | (obtain ⟨_, _, _, rfl, _⟩ := h; rfl) | (obtain ⟨_, _, _, _, rfl, _⟩ := h; rfl) | (obtain ⟨_, _, _, _, _, rfl, _⟩ := h; rfl) | (obtain ⟨_, _, _, _, _, _, rfl, _⟩ := h; rfl) | (obtain ⟨_, _, _, _, _, _, _, rfl, _⟩ := h; rfl) | (obtain ⟨_, _, _, _, _, _, _, _, rfl, _⟩ := h; rfl) | (obtain ⟨rfl, _⟩ := h; rfl)) (fun cdv A outer s H vs Q E hr h => ?_)
  obtain ⟨sc, wl, ws, i, c, rfl, hs, hz, hc, hc8, hc6, q⟩ := h
  refine ⟨_, ((pss_cons (ps_set (i := 2) sc_lots_in.nd rfl (Or.inl rfl) (pe_lst pa_nil))
    (pss_cons (ps_for PassesOwn.never rfl (pi_range1 rfl T.z_range (pa_cons (pv 1) pa_nil)) (pg_name (i := 3) sc_lots_in.nd rfl (Or.inl rfl)) (pss_cons (ps_set (i := 4) sc_lots_in.nd rfl (Or.inl rfl) (pe_meth (pv 0) T.cl_Scan T.m_take_integer G_take_integer (hr.mono (by omega)) T.b_take_integer .nil pass0 (pa_cons pe_int (pa_cons (pe_callB (call_min2 rfl) (by rfl) T.z_min bt_min (pa_cons (pe_callB (klen K rfl) (by rfl) T.z_len bt_len (pa_cons (pv 2) pa_nil)) (pa_cons (pe_op op_sub (pe_globI rfl T.c_MOST_PARTS) pe_int) pa_nil))) pa_nil))))
    (pss_cons (ps_if (pt_cmpR op_eq (pv 4) (pe_callB (klen K rfl) (by rfl) T.z_len bt_len (pa_cons (pv 2) pa_nil)) (nomark _)) (pss_one (ps_expr (kapp K rfl (pv 2) (pe_lst pa_nil)))) pss_nil)
    (pss_one (ps_expr (kapp K rfl (pe_ix (kix K rfl) (pv 2) (pv 4) (fun _ _ => rfl)) (pv 3)))))))
    (pss_one (ps_ret (pv 2)))))), ?_⟩
  refine ⟨(by decide), fun L hL => ?_⟩
  have hscN : H sc ≠ none := by
    obtain ⟨dx, h1, _⟩ := hs
    rw [h1]
    simp
  refine ⟨_, rfl, _, rfl, by omega, by omega, ?_⟩
  refine for_range (n := ((c.length : Int)).toNat) (fun j σ H' => σ.take 3 = [some (V.ref sc), some (.int ((c.length : Nat) : Int)), some (.ref L)] ∧ σ.length = 5 ∧ ScAt K H' sc wl ws (i + j) ∧ ∃ as, Mk0 K H H' sc L (lotsOf (c.take j)) as) ?_ ?_ ?_
  · refine ⟨rfl, rfl, ?_, [], ?_⟩
    · exact hs.same (same_upd hL)
    · exact ⟨.of (same_upd hL), hL, upd_same, rfl, List.nodup_nil, fun k a l h => by simp at h⟩
  · rintro j σ H1 hj ⟨hσ, hσl, hs1, as, m⟩
    have hj' : j < c.length := by omega
    obtain ⟨k, hk⟩ : ∃ k, c[j]? = some k := ⟨_, List.getElem?_eq_getElem hj'⟩
    match σ, hσ, hσl with
    | [_, _, _, s3, s4], hσ, _ =>
      simp only [List.take] at hσ
      injection hσ with z1 hσ
      injection hσ with z2 hσ
      injection hσ with z3 _
      subst z1 z2 z3
      have hk1 := rgs_at hc hk
      have hk2 := lot_lt hc hk
      have hsc2 := hs1
      obtain ⟨dx, g1, g2⟩ := hs1
      have hml : (as.map V.ref).length = (lotsOf (c.take j)).length := by rw [List.length_map, m.len]
      have zj : (0 : Int) + (j : Nat) = ((j : Nat) : Int) := Int.zero_add _
      refine ⟨_, rfl, sc, dx, _, rfl, g1, look_none (by decide +kernel) (by decide +kernel), _, rfl, L, true, _, rfl, SqL.of m.at_, _, _, rfl, rfl, _, _, rfl, sc, wl, ws, i + j, (k : Int), 0, _, rfl, hsc2, hz j k hk, ⟨by omega, by omega⟩, by omega, ?_, fun H2 k2 s2 => ?_⟩
      · show (k : Int) ≤ if (6 - 1 : Int) < ((as.map V.ref).length : Int) then (6 - 1 : Int) else ((as.map V.ref).length : Int)
        rw [hml]
        split <;> omega
      have m2 : Mk0 K H H2 sc L (lotsOf (c.take j)) as := by
        refine ⟨m.kp.trans k2, m.new, k2 _ _ m.at_ fun z => ?_, m.len, m.nd, fun x a l h1 h2 => ?_⟩
        · have := (hs.ne m.new).1
          injection z with z
          exact this z
        · obtain ⟨f1, f2, f3⟩ := m.each x a l h1 h2
          refine ⟨f1, f2, k2 _ _ f3 fun z => ?_⟩
          injection z with z
          exact (hs.ne f1).1 z
      have hLne := hs.ne m.new
      refine ⟨_, rfl, _, rfl, L, true, _, rfl, SqL.of m2.at_, rfl, _, rfl, ?_⟩
      refine ite2 (fun ce => ?_) fun ce => ?_
      · have ek : k = (lotsOf (c.take j)).length := by
          have := of_decide_eq_true ce
          injection this with this
          rw [hml] at this
          omega
        refine ⟨_, rfl, .inl ⟨rfl, _, SqL.of m2.at_⟩, by decide, fun e he => ?_⟩
        have hLe : L ≠ e := ne_of_none m2.at_ he
        have heH : H e = none := m2.kp.none_of he fun a z => by
          cases z
          obtain ⟨dx', q1, _⟩ := s2
          rw [q1]
          simp
        have hene := hs.ne heH
        have q1 : upd H2 e (.lst []) L = some (.lst (as.map V.ref)) := by
          rw [upd_ne hLe]
          exact m2.at_
        refine ⟨L, _, _, rfl, rfl, q1, by rw [hml]; exact Nat.lt_of_lt_of_le (show _ < 7 by omega) (by decide), ?_⟩
        refine ⟨_, rfl, _, rfl, L, true, as.map V.ref ++ [.ref e], (k : Int), .ref e, rfl, rfl, SqL.of upd_same, atI_nat (j := k) ?_, ?_⟩
        · rw [List.getElem?_append_right (by rw [hml]; omega), hml, ← ek]
          simp
        have q2 : upd (upd H2 e (.lst [])) L (.lst (as.map V.ref ++ [.ref e])) e = some (.lst []) := by
          rw [upd_ne (fun z => hLe z.symm)]
          exact upd_same
        refine ⟨.inl ⟨rfl, _, SqL.of q2⟩, _, rfl, e, [], _, rfl, rfl, q2, by decide, ?_⟩
        refine ⟨rfl, rfl, ?_, as ++ [e], ?_⟩
        · exact (((s2.upd hene.1 hene.2).upd hLne.1 hLne.2).upd hene.1 hene.2)
        · rw [lots_take_succ hk, addLot, if_pos ek]
          refine ⟨((m2.kp.mut heH).mut m2.new).mut heH, m2.new, ?_, by rw [List.length_append, List.length_append, m2.len]; rfl, ?_, ?_⟩
          · rw [upd_ne hLe, upd_same, List.map_append]
            rfl
          · rw [List.nodup_append]
            refine ⟨m2.nd, by simp, fun a ha b hb => ?_⟩
            obtain rfl := List.mem_singleton.mp hb
            intro z
            subst z
            obtain ⟨x, hx⟩ := List.getElem?_of_mem ha
            have hxl : x < (lotsOf (c.take j)).length := by rw [← m2.len]; exact (List.getElem?_eq_some_iff.mp hx).1
            obtain ⟨f1, f2, f3⟩ := m2.each x a _ hx (List.getElem?_eq_getElem hxl)
            rw [he] at f3
            cases f3
          · intro x a l h1 h2
            by_cases hx : x < as.length
            · rw [List.getElem?_append_left hx] at h1
              rw [List.getElem?_append_left (by rw [← m2.len]; exact hx)] at h2
              obtain ⟨f1, f2, f3⟩ := m2.each x a l h1 h2
              have hae : a ≠ e := fun z => by subst z; rw [he] at f3; cases f3
              refine ⟨f1, f2, ?_⟩
              rw [upd_ne hae, upd_ne f2, upd_ne hae]
              exact f3
            · have hx2 : x = as.length := by
                have := (List.getElem?_eq_some_iff.mp h1).1
                rw [List.length_append, List.length_singleton] at this
                omega
              subst hx2
              rw [List.getElem?_append_right (Nat.le_refl _)] at h1
              rw [List.getElem?_append_right (by rw [m2.len]; exact Nat.le_refl _), m2.len] at h2
              have e1 : e = a := by simpa using h1
              have e2 : [j] = l := by simpa using h2
              subst e1 e2
              refine ⟨heH, fun z => hLe z.symm, ?_⟩
              rw [upd_same, zj]
              rfl
      · have ek : k < (lotsOf (c.take j)).length := by
          have h1 : ¬ V.int (k : Int) = V.int ((as.map V.ref).length : Int) := fun z => ce (decide_eq_true z)
          rw [hml] at h1
          have h2 : k ≠ (lotsOf (c.take j)).length := fun z => h1 (by rw [z])
          omega
        have hka : k < as.length := by rw [m2.len]; exact ek
        obtain ⟨f1, f2, f3⟩ := m2.each k as[k] _ (List.getElem?_eq_getElem hka) (List.getElem?_eq_getElem ek)
        have hane := hs.ne f1
        refine ⟨_, rfl, _, rfl, L, true, as.map V.ref, (k : Int), .ref as[k], rfl, rfl, SqL.of m2.at_, atI_nat (j := k) (by rw [List.getElem?_map, List.getElem?_eq_getElem hka] <;> rfl), ?_⟩
        refine ⟨.inl ⟨rfl, _, SqL.of f3⟩, _, rfl, as[k], _, _, rfl, rfl, f3, ?_, ?_⟩
        · rw [List.length_map]
          have hR : Rgs (c.take j) := rgs_take c _ _ hc j
          have := lot_len hR (List.getElem?_eq_getElem ek)
          rw [List.length_take] at this
          exact Nat.lt_of_le_of_lt (show _ ≤ 8 by omega) (by decide)
        refine ⟨rfl, rfl, s2.upd hane.1 hane.2, as, ?_⟩
        rw [lots_take_succ hk, addLot, if_neg (by omega)]
        refine ⟨m2.kp.mut f1, m2.new, by rw [upd_ne (fun z => f2 z.symm)]; exact m2.at_, by rw [List.length_modify]; exact m2.len, m2.nd, fun x a l h1 h2 => ?_⟩
        rw [List.getElem?_modify] at h2
        by_cases hx : k = x
        · subst hx
          rw [List.getElem?_eq_getElem hka] at h1
          cases h1
          rw [List.getElem?_eq_getElem ek] at h2
          have h2 : (lotsOf (c.take j))[k] ++ [j] = l := by simpa using h2
          subst h2
          refine ⟨f1, f2, ?_⟩
          rw [upd_same, zj, List.map_append]
          rfl
        · have h2' : (lotsOf (c.take j))[x]? = some l := by
            cases hq : (lotsOf (c.take j))[x]? with
            | none => rw [hq] at h2; simp at h2
            | some l' => rw [hq] at h2; simpa [hx] using h2
          obtain ⟨p1, p2, p3⟩ := m2.each x a l h1 h2'
          refine ⟨p1, p2, ?_⟩
          rw [upd_ne (fun z => ?_)]
          · exact p3
          · obtain ⟨hxl, hxe⟩ := List.getElem?_eq_some_iff.mp h1
            rw [← hxe] at z
            exact hx (nodup_inj m2.nd hka hxl z.symm)
  · rintro σ H1 ⟨hσ, hσl, hs1, as, m⟩
    have ec : ((c.length : Int)).toNat = c.length := by omega
    rw [ec] at hs1 m
    rw [List.take_length] at m
    match σ, hσ, hσl with
    | [_, _, _, s3, s4], hσ, _ =>
      simp only [List.take] at hσ
      injection hσ with z1 hσ
      injection hσ with z2 hσ
      injection hσ with z3 _
      subst z1 z2 z3
      refine ⟨_, rfl, q _ _ m.kp hs1 ?_⟩
      refine .seq (b := true) m.at_ (by rw [List.length_map, List.length_map, m.len]) fun x y d h1 h2 => ?_
      rw [List.getElem?_map] at h1 h2
      cases e1 : as[x]? with
      | none => rw [e1] at h1; cases h1
      | some a =>
        rw [e1] at h1
        cases h1
        cases e2 : (lotsOf c)[x]? with
        | none => rw [e2] at h2; cases h2
        | some l =>
          rw [e2] at h2
          cases h2
          obtain ⟨_, _, f3⟩ := m.each x a l e1 e2
          refine .seq (b := true) f3 (by simp) fun u y d g1 g2 => ?_
          rw [List.getElem?_map] at g1 g2
          cases e3 : l[u]? with
          | none => rw [e3] at g1; cases g1
          | some n =>
            rw [e3] at g1 g2
            cases g1
            cases g2
            exact .int _
end
end PL
end
section
set_option maxHeartbeats 4000000
/-! D8: told_in. -/
namespace PL
open PySem PySem.Spec PyProof.Rows L2
section
variable {w : World} {K : PySem.W.Frag} {mg : Str → Option Value} {base : Heap}
/-! ### items from a place on -/
def Seg (ws : List Str) (i : Nat) (its : List Str) : Prop := ∀ (k : Nat) z, its[k]? = some z → ws[i + k]? = some z
theorem Seg.left {ws : List Str} {i : Nat} {a b : List Str} (h : Seg ws i (a ++ b)) : Seg ws i a := fun k z e => h k z (by rw [List.getElem?_append_left (List.getElem?_eq_some_iff.mp e).1]; exact e)
theorem Seg.right {ws : List Str} {i : Nat} {a b : List Str} (h : Seg ws i (a ++ b)) : Seg ws (i + a.length) b := fun k z e => by
  have := h (a.length + k) z (by rw [List.getElem?_append_right (by omega)]; simpa using e)
  rw [Nat.add_assoc]
  exact this
theorem Seg.head {ws : List Str} {i : Nat} {z : Str} {b : List Str} (h : Seg ws i (z :: b)) : ws[i]? = some z := h 0 z rfl
theorem Seg.tail {ws : List Str} {i : Nat} {z : Str} {b : List Str} (h : Seg ws i (z :: b)) : Seg ws (i + 1) b := Seg.right (a := [z]) h
/-- where the j-th of r begins -/
def posF {α : Type} (f : α → List Str) (r : List α) (j : Nat) : Nat := ((r.take j).flatMap f).length
theorem posF_succ {α : Type} {f : α → List Str} {r : List α} {j : Nat} {x : α} (e : r[j]? = some x) : posF f r (j + 1) = posF f r j + (f x).length := by
  unfold posF
  rw [List.take_succ, e, List.flatMap_append, List.length_append]
  simp
theorem posF_all {α : Type} {f : α → List Str} {r : List α} : posF f r r.length = (r.flatMap f).length := by
  unfold posF
  rw [List.take_length]
theorem Seg.at {α : Type} {ws : List Str} {i j : Nat} {f : α → List Str} {r : List α} {x : α} (h : Seg ws i (r.flatMap f)) (e : r[j]? = some x) : Seg ws (i + posF f r j) (f x) := by
  obtain ⟨hj, ex⟩ := List.getElem?_eq_some_iff.mp e
  have : r.flatMap f = (r.take j).flatMap f ++ (f x ++ (r.drop (j + 1)).flatMap f) := by
    rw [← List.flatMap_cons, ← List.flatMap_append, ← ex, List.getElem_cons_drop, List.take_append_drop]
  rw [this] at h
  exact h.right.left
theorem Seg.map {α : Type} {ws : List Str} {i j : Nat} {f : α → Str} {r : List α} {x : α} (h : Seg ws i (r.map f)) (e : r[j]? = some x) : ws[i + j]? = some (f x) := h j _ (by rw [List.getElem?_map, e] <;> rfl)
/-! ### comprehensions that read the scan -/
theorem lc_scan {lo : Int} {n : Nat} {ix : Nat} {te : TE} {vs : List Nat} {σ : L2.St} {H1 : Hp} {Qd : Hp → Prop} {D sc wl : Addr} {ws : List Str} (pos : Nat → Nat) (hD : H1 D = none) (hs0 : ScAt K H1 sc wl ws (pos 0)) (hz : n < sizeLine)
    (hw : ∀ x : V, wipe ((wipe σ vs).set ix (some x)) vs = wipe σ vs) (Pe : Nat → V → Hp → Prop)
    (hmono : ∀ i y H H' ys u, H D = some (.lst ys) → H' D = some (.lst ys) → (∀ a, some sc = some a → Loose H a) → Kp (some sc) H H' → Pe i y H → Pe i y (upd H' D (.lst u)))
    (hs : ∀ (i : Nat) H, i < n → Kp (some sc) H1 H → ScAt K H sc wl ws (pos i) → (∃ ys, H D = some (.lst ys)) → ∀ Qe : VK, (∀ y H', Kp (some sc) H H' → ScAt K H' sc wl ws (pos (i + 1)) → Pe i y H' → Qe y H') → te ((wipe σ vs).set ix (some (.int (lo + (i : Nat))))) H Qe)
    (hd : ∀ ys H, Kp (some sc) H1 H → ScAt K H sc wl ws (pos n) → H D = some (.lst ys) → ys.length = n → (∀ i y, ys[i]? = some y → Pe i y H) → Qd H) :
    ∃ W : Nat → Nat → Hp → Prop, (∃ m, W 0 m (upd H1 D (.lst []))) ∧ ∀ i m H, W i m H →
      ((Itr lo n).stop i H ∧ Qd H) ∨ ((Itr lo n).go i H ∧ ∃ Nx : Hp → Prop, (∀ H', Nx H' → ∃ m', m' < m ∧ W (i + 1) m' H') ∧ ∀ x H', (Itr lo n).yld i H x H' → gName ix x (wipe σ vs) H' fun σ2 H2 => wipe σ2 vs = wipe σ vs ∧ tYes σ2 H2 fun b H3 =>
        if b = true then te σ2 H3 fun y H4 => ∃ acc, H4 D = some (.lst acc) ∧ acc.length < sizeLine ∧ Nx (upd H4 D (.lst (acc ++ [y]))) else Nx H3) := by
  have hne := hs0.ne hD
  refine lc_map walk_rgA hz hD hw (some sc) (fun a z => ?_) (fun i H => Kp (some sc) H1 H ∧ ScAt K H sc wl ws (pos i)) Pe ⟨Kp.refl _ _, hs0⟩ (fun i H u h => ⟨h.1.mut hD, h.2.upd hne.1 hne.2⟩) (fun _ _ _ _ => trivial) ?_ ?_ ?_
  · cases z
    obtain ⟨dx, q, _⟩ := hs0
    rw [q]
    simp
  · intro i j y H H' ys u h1 h2 h3 k p
    exact hmono i y H H' ys u h1 h2 h3.2.loose k p
  · intro i x H hi hx h hl Qe hq
    rw [List.getElem?_map, List.getElem?_range hi] at hx
    cases hx
    exact hs i H hi h.1 h.2 hl Qe fun y H' k s p => hq y H' k ⟨h.1.trans k, s⟩ p
  · intro ys H h h1 h2 h3
    exact hd ys H h.1 h.2 h1 h2 h3
theorem td_mono {D sc : Addr} {n : Nm} {y : V} {H H' : Hp} {ys u : List V} (h2 : H' D = some (.lst ys)) (hl : ∀ a, some sc = some a → Loose H a) (k : Kp (some sc) H H') (p : Td H y n.data) : Td (upd H' D (.lst u)) y n.data :=
  (p.im (k.im hl)).im (im_upd (Loose.lst h2))
/-! ### told_in -/
theorem ld_list {α : Type} {H : Hp} {D : Addr} {ys : List V} {zs : List α} {f : α → PyData} (hD : H D = some (.lst ys)) (hl : ys.length = zs.length) (hP : ∀ (i : Nat) y, ys[i]? = some y → ∀ z, zs[i]? = some z → Ld K H y (f z)) :
    Ld K H (.ref D) (.tuple (zs.map f)) := .seq (b := true) hD (by rw [hl, List.length_map]) fun k y d hy hd => by
  rw [List.getElem?_map] at hd
  cases e : zs[k]? with
  | none => rw [e] at hd; cases hd
  | some z =>
    rw [e] at hd
    cases hd
    exact hP k y hy z e
/-- a new row -/
def RowAt (H : Hp) (L sc a : Addr) (x : List Nm) : Prop := a ≠ L ∧ a ≠ sc ∧ ∃ ys, H a = some (.lst ys) ∧ ys.length = x.length ∧ ∀ (k : Nat) y n, ys[k]? = some y → x[k]? = some n → Td H y n.data
theorem RowAt.kp {H H' : Hp} {L sc a : Addr} {x : List Nm} (hl : ∀ a, some sc = some a → Loose H a) (k : Kp (some sc) H H') (h : RowAt H L sc a x) : RowAt H' L sc a x := by
  obtain ⟨h1, h2, ys, h3, h4, h5⟩ := h
  exact ⟨h1, h2, ys, k _ _ h3 fun z => h2 (by injection z), h4, fun k' y n e1 e2 => (h5 k' y n e1 e2).im (k.im hl)⟩
theorem RowAt.upd {H : Hp} {L sc a : Addr} {x : List Nm} {ys u : List V} (hL : H L = some (.lst ys)) (h : RowAt H L sc a x) : RowAt (upd H L (.lst u)) L sc a x := by
  obtain ⟨h1, h2, zs, h3, h4, h5⟩ := h
  exact ⟨h1, h2, zs, by rw [upd_ne h1]; exact h3, h4, fun k' y n e1 e2 => (h5 k' y n e1 e2).im (im_upd (Loose.lst hL))⟩
theorem RowAt.ld {H : Hp} {L sc a : Addr} {x : List Nm} (h : RowAt H L sc a x) : Ld K H (.ref a) (.tuple (x.map Nm.data)) := by
  obtain ⟨h1, h2, zs, h3, h4, h5⟩ := h
  exact ld_list h3 h4 fun i y hy z hz => (h5 i y z hy hz).ld
def rowItems (x : List Nm) : List Str := num ((x.length : Nat) : Int) :: x.map Nm.txt
/-- what told_in is handed: the word, the number -/
def TIn (w : Wd) (t : Told) (n : Nat) : Prop :=
  match w with
  | .kmove => t = .unit
  | .rmove => t = .unit
  | .draw => ∃ r, t = .row r ∧ n = r.length ∧ r.length ≤ 8 ∧ ∀ x ∈ r, wtOk x
  | .kshows => ∃ c, t = .lots c ∧ n = c.length ∧ Rgs c ∧ c.length ≤ 8 ∧ (lotsOf c).length ≤ 6
  | .rshows => ∃ c, t = .lots c ∧ n = c.length ∧ Rgs c ∧ c.length ≤ 8 ∧ (lotsOf c).length ≤ 6
  | .khides => ∃ r : List Nat, t = .row (r.map fun (k : Nat) => .i (k : Int)) ∧ n = r.length ∧ r.length ≤ 8 ∧ ∀ x ∈ r, 1 ≤ x ∧ x ≤ 4
  | .rhides => ∃ r : List Nat, t = .row (r.map fun (k : Nat) => .i (k : Int)) ∧ n = r.length ∧ r.length ≤ 8 ∧ ∀ x ∈ r, 1 ≤ x ∧ x ≤ 4
  | .ksees => ∃ r, t = .rows r ∧ n = r.length ∧ r.length ≤ 8 ∧ ∀ x ∈ r, (1 ≤ x.length ∧ x.length ≤ 8) ∧ ∀ n ∈ x, wtOk n
  | .rsees => ∃ r, t = .rows r ∧ n = r.length ∧ r.length ≤ 8 ∧ ∀ x ∈ r, (1 ≤ x.length ∧ x.length ≤ 8) ∧ ∀ n ∈ x, wtOk n
  | _ => False
def sp_told_in (K : PySem.W.Frag) : Sp := fun vs H Q _ => ∃ sc wl ws i w t n, vs = [.ref sc, .str (Wd.s w), .int ((n : Nat) : Int)] ∧ ScAt K H sc wl ws i ∧ TIn w t n ∧ Seg ws i (toldItems w t) ∧
  ∀ v' H', Kp (some sc) H H' → ScAt K H' sc wl ws (i + (toldItems w t).length) → Ld K H' v' t.data → Q v' H'
theorem ok_told_in (T : Txt K mg) : FnOk P0 w K mg base CX0 7 (aF K "told_in") (dF K "told_in") ["scan", "word", "many"] (sp_told_in K) := by
  have G_take_integer := ok_take_integer (w := w) (base := base) T
  have G_weight_in := ok_weight_in (w := w) (base := base) T
  have G_lots_in := ok_lots_in (w := w) (base := base) T
  refine T.f_told_in.ok sc_told_in (fun vs H Q E h => by first | (obtain ⟨_, rfl, _⟩ := h; rfl) | (obtain ⟨_, _, rfl, _⟩ := h; rfl) | (obtain ⟨_, _, _, rfl, _⟩ := h; rfl) | (obtain ⟨_, _, _, _, rfl, _⟩ := h; rfl) | (obtain ⟨_, _, _, _, _, rfl, _⟩ := h; rfl) | (obtain ⟨_, _, _, _, _, _, rfl, _⟩ := h; rfl) | (obtain ⟨_, _, _, _, _, _, _, rfl, _⟩ := h; rfl) | (obtain ⟨_, _, _, _, _, _, _, _, rfl, _⟩ := h; rfl) | (obtain ⟨rfl, _⟩ := h; rfl)) (fun cdv A outer s H vs Q E hr h => ?_)
  obtain ⟨sc, wl, ws, i, wd, t, n, rfl, hs, ht, hg, q⟩ := h
  refine ⟨_, ((pss_cons (ps_if (pt_cmpR (kin K rfl) (pv 1) (pe_glob (v := .ref (aF K "MOVES")) rfl T.g_MOVES rfl) rfl) (pss_one (ps_ret (pe_tup pa_nil))) pss_nil)
    (pss_cons (ps_if (pt_cmpR op_eq (pv 1) pe_str (nomark _)) (pss_one (ps_ret (pe_lc (own := [("_", 3)]) rfl sc_told_in.nd (pi_range1 rfl T.z_range (pa_cons (pv 2) pa_nil)) (blkOk_by (by kernel_rfl)) (fun _ _ _ _ _ => (pg_name (i := 3) sc_told_in.nd rfl (Or.inl rfl))) (fun _ _ _ _ _ => pts_nil) (fun _ _ _ _ _ => (pe_call G_weight_in (hr.mono (by omega)) rfl T.g_weight_in T.f_weight_in.kp T.b_weight_in .nil pass0 (pa_cons (pv 0) pa_nil)))))) pss_nil)
    (pss_cons (ps_if (pt_cmpR (kin K rfl) (pv 1) (pe_glob (v := .ref (aF K "SHOWS")) rfl T.g_SHOWS rfl) rfl) (pss_one (ps_ret (pe_call G_lots_in (hr.mono (by omega)) rfl T.g_lots_in T.f_lots_in.kp T.b_lots_in .nil pass0 (pa_cons (pv 0) (pa_cons (pv 2) pa_nil))))) pss_nil)
    (pss_cons (ps_if (pt_cmpR (kin K rfl) (pv 1) (pe_tup (pa_cons pe_str (pa_cons pe_str pa_nil))) rfl) (pss_one (ps_ret (pe_lc (own := [("_", 3)]) rfl sc_told_in.nd (pi_range1 rfl T.z_range (pa_cons (pv 2) pa_nil)) (blkOk_by (by kernel_rfl)) (fun _ _ _ _ _ => (pg_name (i := 3) sc_told_in.nd rfl (Or.inl rfl))) (fun _ _ _ _ _ => pts_nil) (fun _ _ _ _ _ => (pe_meth (pv 0) T.cl_Scan T.m_take_integer G_take_integer (hr.mono (by omega)) T.b_take_integer .nil pass0 (pa_cons pe_int (pa_cons (pe_globI rfl T.c_MOST_COUNT) pa_nil))))))) pss_nil)
    (pss_cons (ps_set (i := 4) sc_told_in.nd rfl (Or.inl rfl) (pe_lst pa_nil))
    (pss_cons (ps_for PassesOwn.never rfl (pi_range1 rfl T.z_range (pa_cons (pv 2) pa_nil)) (pg_name (i := 3) sc_told_in.nd rfl (Or.inl rfl)) (pss_cons (ps_set (i := 5) sc_told_in.nd rfl (Or.inl rfl) (pe_meth (pv 0) T.cl_Scan T.m_take_integer G_take_integer (hr.mono (by omega)) T.b_take_integer .nil pass0 (pa_cons pe_int (pa_cons (pe_globI rfl T.c_MOST_HANDS) pa_nil))))
    (pss_one (ps_expr (kapp K rfl (pv 4) (pe_lc (own := [("_", 3)]) rfl sc_told_in.nd (pi_range1 rfl T.z_range (pa_cons (pv 5) pa_nil)) (blkOk_by (by kernel_rfl)) (fun _ _ _ _ _ => (pg_name (i := 3) sc_told_in.nd rfl (Or.inl rfl))) (fun _ _ _ _ _ => pts_nil) (fun _ _ _ _ _ => (pe_call G_weight_in (hr.mono (by omega)) rfl T.g_weight_in T.f_weight_in.kp T.b_weight_in .nil pass0 (pa_cons (pv 0) pa_nil)))))))))
    (pss_one (ps_ret (pv 4)))))))))), ?_⟩
  cases wd with
  | fin => exact ht.elim
  | hole => exact ht.elim
  | kmove =>
    cases (show t = .unit from ht)
    refine ⟨_, rfl, _, _, rfl, .inr (T.t_MOVES _), rfl, rfl, _, rfl, itP (by decide +kernel) ?_⟩
    exact ⟨by decide, fun p hp => q _ _ (.of (same_upd hp)) (hs.same (same_upd hp)) (.seq (b := false) upd_same rfl fun k x d h => by simp at h)⟩
  | rmove =>
    cases (show t = .unit from ht)
    refine ⟨_, rfl, _, _, rfl, .inr (T.t_MOVES _), rfl, rfl, _, rfl, itP (by decide +kernel) ?_⟩
    exact ⟨by decide, fun p hp => q _ _ (.of (same_upd hp)) (hs.same (same_upd hp)) (.seq (b := false) upd_same rfl fun k x d h => by simp at h)⟩
  | draw =>
    obtain ⟨r, rfl, rfl, hr8, hr⟩ := ht
    refine ⟨_, rfl, _, _, rfl, .inr (T.t_MOVES _), rfl, rfl, _, rfl, itN (by decide +kernel) ?_⟩
    refine ⟨_, rfl, rfl, _, rfl, itP (by decide +kernel) ?_⟩
    refine ⟨_, rfl, _, rfl, by omega, by omega, fun D hD => lc_scan (sc := sc) (wl := wl) (ws := ws) (fun j => i + j) hD hs (Nat.lt_of_le_of_lt (show _ ≤ 8 by omega) (by decide)) (fun _ => rfl) (fun j y H' => ∀ z, r[j]? = some z → Td H' y z.data) (fun j y H1 H2 ys u h1 h2 hl k p z hz => td_mono h2 hl k (p z hz)) ?_ ?_⟩
    · intro j H1 hj k1 s1 _ Qe hq
      have hj' : j < r.length := by omega
      refine ⟨_, rfl, sc, wl, ws, i + j, r[j], rfl, s1, Seg.map (f := Nm.txt) hg (List.getElem?_eq_getElem hj'), hr _ (List.getElem_mem hj'), fun v' H2 k2 s2 t2 => hq _ _ k2 s2 fun z hz => ?_⟩
      rw [List.getElem?_eq_getElem hj'] at hz
      cases hz
      exact t2
    · intro ys H1 k1 s1 hD1 hl1 hP
      have e : ((r.length : Int)).toNat = r.length := by omega
      rw [e] at s1 hl1
      refine q _ _ k1 ?_ (ld_list (f := Nm.data) hD1 hl1 fun j y hy z hz => (hP j y hy z hz).ld)
      show ScAt K H1 sc wl ws (i + (r.map Nm.txt).length)
      rw [List.length_map]
      exact s1
  | kshows =>
    obtain ⟨c, rfl, rfl, hc, hc8, hc6⟩ := ht
    refine ⟨_, rfl, _, _, rfl, .inr (T.t_MOVES _), rfl, rfl, _, rfl, itN (by decide +kernel) ?_⟩
    refine ⟨_, rfl, rfl, _, rfl, itN (by decide +kernel) ?_⟩
    refine ⟨_, rfl, _, _, rfl, .inr (T.t_SHOWS _), rfl, rfl, _, rfl, itP (by decide +kernel) ?_⟩
    refine ⟨_, rfl, _, rfl, sc, wl, ws, i, c, rfl, hs, fun j k e => Seg.map (f := fun (k : Nat) => num (k : Int)) hg e, hc, hc8, hc6, fun v' H' k s l => q v' H' k ?_ l⟩
    have : (c.map fun (k : Nat) => num (k : Int)).length = c.length := List.length_map _
    show ScAt K H' sc wl ws (i + (c.map fun (k : Nat) => num (k : Int)).length)
    rw [this]
    exact s
  | rshows =>
    obtain ⟨c, rfl, rfl, hc, hc8, hc6⟩ := ht
    refine ⟨_, rfl, _, _, rfl, .inr (T.t_MOVES _), rfl, rfl, _, rfl, itN (by decide +kernel) ?_⟩
    refine ⟨_, rfl, rfl, _, rfl, itN (by decide +kernel) ?_⟩
    refine ⟨_, rfl, _, _, rfl, .inr (T.t_SHOWS _), rfl, rfl, _, rfl, itP (by decide +kernel) ?_⟩
    refine ⟨_, rfl, _, rfl, sc, wl, ws, i, c, rfl, hs, fun j k e => Seg.map (f := fun (k : Nat) => num (k : Int)) hg e, hc, hc8, hc6, fun v' H' k s l => q v' H' k ?_ l⟩
    have : (c.map fun (k : Nat) => num (k : Int)).length = c.length := List.length_map _
    show ScAt K H' sc wl ws (i + (c.map fun (k : Nat) => num (k : Int)).length)
    rw [this]
    exact s
  | khides =>
    obtain ⟨r, rfl, rfl, hr8, hr⟩ := ht
    refine ⟨_, rfl, _, _, rfl, .inr (T.t_MOVES _), rfl, rfl, _, rfl, itN (by decide +kernel) ?_⟩
    refine ⟨_, rfl, rfl, _, rfl, itN (by decide +kernel) ?_⟩
    refine ⟨_, rfl, _, _, rfl, .inr (T.t_SHOWS _), rfl, rfl, _, rfl, itN (by decide +kernel) ?_⟩
    refine ⟨_, rfl, (by show 2 ≤ sizeLine; decide), fun p hp => ?_⟩
    refine ⟨p, _, rfl, .inr (SqT.of upd_same), rfl, rfl, _, rfl, itP (by decide +kernel) ?_⟩
    have hs := hs.same (same_upd (o := .tup [V.str "keeper-hides", V.str "rival-hides"]) hp)
    have ep : Kp (some sc) H (upd H p (.tup [V.str "keeper-hides", V.str "rival-hides"])) := .of (same_upd hp)
    have hg' : Seg ws i (r.map fun (k : Nat) => num (k : Int)) := by
      have : (r.map fun (k : Nat) => Nm.i (k : Int)).map Nm.txt = r.map fun (k : Nat) => num (k : Int) := by rw [List.map_map]; rfl
      rw [← this]
      exact hg
    refine ⟨_, rfl, _, rfl, by omega, by omega, fun D hD => lc_scan (sc := sc) (wl := wl) (ws := ws) (fun j => i + j) hD hs (Nat.lt_of_le_of_lt (show _ ≤ 8 by omega) (by decide)) (fun _ => rfl) (fun j y _ => ∀ z, r[j]? = some z → y = .int ((z : Nat) : Int)) (fun j y H1 H2 ys u h1 h2 hl k p => p) ?_ ?_⟩
    · intro j H1 hj k1 s1 _ Qe hq
      have hj' : j < r.length := by omega
      obtain ⟨b1, b2⟩ := hr _ (List.getElem_mem hj')
      obtain ⟨dx, g1, g2⟩ := s1
      refine ⟨_, rfl, sc, dx, _, rfl, g1, look_none (by decide +kernel) (by decide +kernel), sc, wl, ws, i + j, (r[j] : Int), 1, 4, rfl, ⟨dx, g1, g2⟩, Seg.map (f := fun (k : Nat) => num (k : Int)) hg' (List.getElem?_eq_getElem hj'), ⟨by omega, by omega⟩, by omega, by omega, fun H2 k2 s2 => hq _ _ k2 s2 fun z hz => ?_⟩
      rw [List.getElem?_eq_getElem hj'] at hz
      cases hz
      rfl
    · intro ys H1 k1 s1 hD1 hl1 hP
      have e : ((r.length : Int)).toNat = r.length := by omega
      rw [e] at s1 hl1
      refine q _ _ (ep.trans k1) ?_ ?_
      · show ScAt K H1 sc wl ws (i + ((r.map fun (k : Nat) => Nm.i (k : Int)).map Nm.txt).length)
        rw [List.length_map, List.length_map]
        exact s1
      · show Ld K H1 (.ref D) (.tuple ((r.map fun (k : Nat) => Nm.i (k : Int)).map Nm.data))
        rw [List.map_map]
        refine ld_list (f := Nm.data ∘ fun (k : Nat) => Nm.i (k : Int)) hD1 hl1 fun j y hy z hz => ?_
        rw [hP j y hy z hz]
        exact .int _
  | rhides =>
    obtain ⟨r, rfl, rfl, hr8, hr⟩ := ht
    refine ⟨_, rfl, _, _, rfl, .inr (T.t_MOVES _), rfl, rfl, _, rfl, itN (by decide +kernel) ?_⟩
    refine ⟨_, rfl, rfl, _, rfl, itN (by decide +kernel) ?_⟩
    refine ⟨_, rfl, _, _, rfl, .inr (T.t_SHOWS _), rfl, rfl, _, rfl, itN (by decide +kernel) ?_⟩
    refine ⟨_, rfl, (by show 2 ≤ sizeLine; decide), fun p hp => ?_⟩
    refine ⟨p, _, rfl, .inr (SqT.of upd_same), rfl, rfl, _, rfl, itP (by decide +kernel) ?_⟩
    have hs := hs.same (same_upd (o := .tup [V.str "keeper-hides", V.str "rival-hides"]) hp)
    have ep : Kp (some sc) H (upd H p (.tup [V.str "keeper-hides", V.str "rival-hides"])) := .of (same_upd hp)
    have hg' : Seg ws i (r.map fun (k : Nat) => num (k : Int)) := by
      have : (r.map fun (k : Nat) => Nm.i (k : Int)).map Nm.txt = r.map fun (k : Nat) => num (k : Int) := by rw [List.map_map]; rfl
      rw [← this]
      exact hg
    refine ⟨_, rfl, _, rfl, by omega, by omega, fun D hD => lc_scan (sc := sc) (wl := wl) (ws := ws) (fun j => i + j) hD hs (Nat.lt_of_le_of_lt (show _ ≤ 8 by omega) (by decide)) (fun _ => rfl) (fun j y _ => ∀ z, r[j]? = some z → y = .int ((z : Nat) : Int)) (fun j y H1 H2 ys u h1 h2 hl k p => p) ?_ ?_⟩
    · intro j H1 hj k1 s1 _ Qe hq
      have hj' : j < r.length := by omega
      obtain ⟨b1, b2⟩ := hr _ (List.getElem_mem hj')
      obtain ⟨dx, g1, g2⟩ := s1
      refine ⟨_, rfl, sc, dx, _, rfl, g1, look_none (by decide +kernel) (by decide +kernel), sc, wl, ws, i + j, (r[j] : Int), 1, 4, rfl, ⟨dx, g1, g2⟩, Seg.map (f := fun (k : Nat) => num (k : Int)) hg' (List.getElem?_eq_getElem hj'), ⟨by omega, by omega⟩, by omega, by omega, fun H2 k2 s2 => hq _ _ k2 s2 fun z hz => ?_⟩
      rw [List.getElem?_eq_getElem hj'] at hz
      cases hz
      rfl
    · intro ys H1 k1 s1 hD1 hl1 hP
      have e : ((r.length : Int)).toNat = r.length := by omega
      rw [e] at s1 hl1
      refine q _ _ (ep.trans k1) ?_ ?_
      · show ScAt K H1 sc wl ws (i + ((r.map fun (k : Nat) => Nm.i (k : Int)).map Nm.txt).length)
        rw [List.length_map, List.length_map]
        exact s1
      · show Ld K H1 (.ref D) (.tuple ((r.map fun (k : Nat) => Nm.i (k : Int)).map Nm.data))
        rw [List.map_map]
        refine ld_list (f := Nm.data ∘ fun (k : Nat) => Nm.i (k : Int)) hD1 hl1 fun j y hy z hz => ?_
        rw [hP j y hy z hz]
        exact .int _
  | ksees =>
    obtain ⟨r, rfl, rfl, hr8, hr⟩ := ht
    refine ⟨_, rfl, _, _, rfl, .inr (T.t_MOVES _), rfl, rfl, _, rfl, itN (by decide +kernel) ?_⟩
    refine ⟨_, rfl, rfl, _, rfl, itN (by decide +kernel) ?_⟩
    refine ⟨_, rfl, _, _, rfl, .inr (T.t_SHOWS _), rfl, rfl, _, rfl, itN (by decide +kernel) ?_⟩
    refine ⟨_, rfl, (by show 2 ≤ sizeLine; decide), fun p hp => ?_⟩
    refine ⟨p, _, rfl, .inr (SqT.of upd_same), rfl, rfl, _, rfl, itN (by decide +kernel) ?_⟩
    have hs := hs.same (same_upd (o := .tup [V.str "keeper-hides", V.str "rival-hides"]) hp)
    have ep : Kp (some sc) H (upd H p (.tup [V.str "keeper-hides", V.str "rival-hides"])) := .of (same_upd hp)
    generalize upd H p (.tup [V.str "keeper-hides", V.str "rival-hides"]) = H0 at hs ep ⊢
    have hg : Seg ws i (r.flatMap rowItems) := hg
    refine ⟨by decide, fun L hL => ?_⟩
    have hLne := hs.ne hL
    refine ⟨_, rfl, _, rfl, by omega, by omega, ?_⟩
    refine for_range (fun j σ H' => (∃ s3 s5, σ = [some (V.ref sc), some (.str (Wd.ksees).s), some (.int ((r.length : Nat) : Int)), s3, some (.ref L), s5]) ∧ ScAt K H' sc wl ws (i + posF rowItems r j) ∧ Kp (some sc) H0 H' ∧ ∃ as : List Addr, H' L = some (.lst (as.map V.ref)) ∧ as.length = j ∧ ∀ (k : Nat) a x, as[k]? = some a → r[k]? = some x → RowAt H' L sc a x) ?_ ?_ ?_
    · exact ⟨⟨_, _, rfl⟩, hs.same (same_upd hL), .of (same_upd hL), [], upd_same, rfl, fun k a x h => by simp at h⟩
    · rintro j σ H1 hj ⟨⟨s3, s5, rfl⟩, s1, k1, as, hL1, hal, hrow⟩
      have hj' : j < r.length := by omega
      have hrj : r[j]? = some r[j] := List.getElem?_eq_getElem hj'
      obtain ⟨⟨b1, b2⟩, b3⟩ := hr _ (List.getElem_mem hj')
      have sg := hg.at hrj
      have s1' := s1
      obtain ⟨dx, g1, g2⟩ := s1
      refine ⟨_, rfl, sc, dx, _, rfl, g1, look_none (by decide +kernel) (by decide +kernel), sc, wl, ws, _, ((r[j].length : Nat) : Int), 1, 8, rfl, s1', sg.head, ⟨by omega, by omega⟩, by omega, by omega, fun H2 k2 s2 => ?_⟩
      have hL2 : H2 L = some (.lst (as.map V.ref)) := k2 _ _ hL1 fun z => hLne.1 (by injection z)
      refine ⟨_, rfl, .inl ⟨rfl, _, SqL.of hL2⟩, ?_⟩
      refine ⟨_, rfl, _, rfl, by omega, by omega, fun D hD => lc_scan (sc := sc) (wl := wl) (ws := ws) (fun k => i + posF rowItems r j + 1 + k) hD s2 (Nat.lt_of_le_of_lt (show _ ≤ 8 by omega) (by decide)) (fun _ => rfl) (fun k y H' => ∀ z, (r[j])[k]? = some z → Td H' y z.data) (fun k y H1 H2 ys u h1 h2 hl kk p z hz => td_mono h2 hl kk (p z hz)) ?_ ?_⟩
      · intro k H3 hk k3 s3 _ Qe hq
        have hk' : k < (r[j]).length := by omega
        refine ⟨_, rfl, sc, wl, ws, i + posF rowItems r j + 1 + k, (r[j])[k], rfl, s3, Seg.map (f := Nm.txt) sg.tail (List.getElem?_eq_getElem hk'), b3 _ (List.getElem_mem hk'), fun v' H4 k4 s4 t4 => hq _ _ k4 s4 fun z hz => ?_⟩
        rw [List.getElem?_eq_getElem hk'] at hz
        cases hz
        exact t4
      · intro ys H3 k3 s3 hD3 hl3 hP
        have e : ((((r[j]).length : Nat) : Int)).toNat = (r[j]).length := by omega
        rw [e] at s3 hl3
        have hL3 : H3 L = some (.lst (as.map V.ref)) := k3 _ _ hL2 fun z => hLne.1 (by injection z)
        refine ⟨L, _, _, rfl, rfl, hL3, by rw [List.length_map, hal]; exact Nat.lt_of_le_of_lt (show _ ≤ 8 by omega) (by decide), ?_⟩
        refine ⟨⟨_, _, rfl⟩, ?_, ((k1.trans k2).trans k3).mut hL, as ++ [D], ?_, by rw [List.length_append, hal]; rfl, ?_⟩
        · rw [posF_succ hrj]
          have : i + (posF rowItems r j + (rowItems r[j]).length) = i + posF rowItems r j + 1 + (r[j]).length := by
            rw [rowItems, List.length_cons, List.length_map]
            omega
          rw [this]
          exact s3.upd hLne.1 hLne.2
        · rw [upd_same, List.map_append]
          rfl
        · intro k a x h1 h2
          by_cases hx : k < as.length
          · rw [List.getElem?_append_left hx] at h1
            exact ((hrow k a x h1 h2).kp s1'.loose k2 |>.kp s2.loose k3).upd hL3
          · have hx2 : k = as.length := by
              have := (List.getElem?_eq_some_iff.mp h1).1
              rw [List.length_append, List.length_singleton] at this
              omega
            subst hx2
            rw [List.getElem?_append_right (Nat.le_refl _)] at h1
            have e1 : D = a := by simpa using h1
            subst e1
            rw [hal, hrj] at h2
            cases h2
            have hDne := s2.ne hD
            have : RowAt H3 L sc D r[j] := ⟨fun z => (by subst z; rw [hL2] at hD; cases hD), hDne.1, ys, hD3, hl3, fun u y n h1 h2 => hP u y h1 n h2⟩
            exact this.upd hL3
    · rintro σ H1 ⟨⟨s3, s5, rfl⟩, s1, k1, as, hL1, hal, hrow⟩
      have e : ((r.length : Int)).toNat = r.length := by omega
      rw [e] at s1 hal
      rw [posF_all] at s1
      refine ⟨_, rfl, q _ _ (ep.trans k1) s1 ?_⟩
      refine ld_list hL1 (by rw [List.length_map, hal]) fun u y hy x hx => ?_
      rw [List.getElem?_map] at hy
      cases ea : as[u]? with
      | none => rw [ea] at hy; cases hy
      | some a =>
        rw [ea] at hy
        cases hy
        exact (hrow u a x ea hx).ld
  | rsees =>
    obtain ⟨r, rfl, rfl, hr8, hr⟩ := ht
    refine ⟨_, rfl, _, _, rfl, .inr (T.t_MOVES _), rfl, rfl, _, rfl, itN (by decide +kernel) ?_⟩
    refine ⟨_, rfl, rfl, _, rfl, itN (by decide +kernel) ?_⟩
    refine ⟨_, rfl, _, _, rfl, .inr (T.t_SHOWS _), rfl, rfl, _, rfl, itN (by decide +kernel) ?_⟩
    refine ⟨_, rfl, (by show 2 ≤ sizeLine; decide), fun p hp => ?_⟩
    refine ⟨p, _, rfl, .inr (SqT.of upd_same), rfl, rfl, _, rfl, itN (by decide +kernel) ?_⟩
    have hs := hs.same (same_upd (o := .tup [V.str "keeper-hides", V.str "rival-hides"]) hp)
    have ep : Kp (some sc) H (upd H p (.tup [V.str "keeper-hides", V.str "rival-hides"])) := .of (same_upd hp)
    generalize upd H p (.tup [V.str "keeper-hides", V.str "rival-hides"]) = H0 at hs ep ⊢
    have hg : Seg ws i (r.flatMap rowItems) := hg
    refine ⟨by decide, fun L hL => ?_⟩
    have hLne := hs.ne hL
    refine ⟨_, rfl, _, rfl, by omega, by omega, ?_⟩
    refine for_range (fun j σ H' => (∃ s3 s5, σ = [some (V.ref sc), some (.str (Wd.rsees).s), some (.int ((r.length : Nat) : Int)), s3, some (.ref L), s5]) ∧ ScAt K H' sc wl ws (i + posF rowItems r j) ∧ Kp (some sc) H0 H' ∧ ∃ as : List Addr, H' L = some (.lst (as.map V.ref)) ∧ as.length = j ∧ ∀ (k : Nat) a x, as[k]? = some a → r[k]? = some x → RowAt H' L sc a x) ?_ ?_ ?_
    · exact ⟨⟨_, _, rfl⟩, hs.same (same_upd hL), .of (same_upd hL), [], upd_same, rfl, fun k a x h => by simp at h⟩
    · rintro j σ H1 hj ⟨⟨s3, s5, rfl⟩, s1, k1, as, hL1, hal, hrow⟩
      have hj' : j < r.length := by omega
      have hrj : r[j]? = some r[j] := List.getElem?_eq_getElem hj'
      obtain ⟨⟨b1, b2⟩, b3⟩ := hr _ (List.getElem_mem hj')
      have sg := hg.at hrj
      have s1' := s1
      obtain ⟨dx, g1, g2⟩ := s1
      refine ⟨_, rfl, sc, dx, _, rfl, g1, look_none (by decide +kernel) (by decide +kernel), sc, wl, ws, _, ((r[j].length : Nat) : Int), 1, 8, rfl, s1', sg.head, ⟨by omega, by omega⟩, by omega, by omega, fun H2 k2 s2 => ?_⟩
      have hL2 : H2 L = some (.lst (as.map V.ref)) := k2 _ _ hL1 fun z => hLne.1 (by injection z)
      refine ⟨_, rfl, .inl ⟨rfl, _, SqL.of hL2⟩, ?_⟩
      refine ⟨_, rfl, _, rfl, by omega, by omega, fun D hD => lc_scan (sc := sc) (wl := wl) (ws := ws) (fun k => i + posF rowItems r j + 1 + k) hD s2 (Nat.lt_of_le_of_lt (show _ ≤ 8 by omega) (by decide)) (fun _ => rfl) (fun k y H' => ∀ z, (r[j])[k]? = some z → Td H' y z.data) (fun k y H1 H2 ys u h1 h2 hl kk p z hz => td_mono h2 hl kk (p z hz)) ?_ ?_⟩
      · intro k H3 hk k3 s3 _ Qe hq
        have hk' : k < (r[j]).length := by omega
        refine ⟨_, rfl, sc, wl, ws, i + posF rowItems r j + 1 + k, (r[j])[k], rfl, s3, Seg.map (f := Nm.txt) sg.tail (List.getElem?_eq_getElem hk'), b3 _ (List.getElem_mem hk'), fun v' H4 k4 s4 t4 => hq _ _ k4 s4 fun z hz => ?_⟩
        rw [List.getElem?_eq_getElem hk'] at hz
        cases hz
        exact t4
      · intro ys H3 k3 s3 hD3 hl3 hP
        have e : ((((r[j]).length : Nat) : Int)).toNat = (r[j]).length := by omega
        rw [e] at s3 hl3
        have hL3 : H3 L = some (.lst (as.map V.ref)) := k3 _ _ hL2 fun z => hLne.1 (by injection z)
        refine ⟨L, _, _, rfl, rfl, hL3, by rw [List.length_map, hal]; exact Nat.lt_of_le_of_lt (show _ ≤ 8 by omega) (by decide), ?_⟩
        refine ⟨⟨_, _, rfl⟩, ?_, ((k1.trans k2).trans k3).mut hL, as ++ [D], ?_, by rw [List.length_append, hal]; rfl, ?_⟩
        · rw [posF_succ hrj]
          have : i + (posF rowItems r j + (rowItems r[j]).length) = i + posF rowItems r j + 1 + (r[j]).length := by
            rw [rowItems, List.length_cons, List.length_map]
            omega
          rw [this]
          exact s3.upd hLne.1 hLne.2
        · rw [upd_same, List.map_append]
          rfl
        · intro k a x h1 h2
          by_cases hx : k < as.length
          · rw [List.getElem?_append_left hx] at h1
            exact ((hrow k a x h1 h2).kp s1'.loose k2 |>.kp s2.loose k3).upd hL3
          · have hx2 : k = as.length := by
              have := (List.getElem?_eq_some_iff.mp h1).1
              rw [List.length_append, List.length_singleton] at this
              omega
            subst hx2
            rw [List.getElem?_append_right (Nat.le_refl _)] at h1
            have e1 : D = a := by simpa using h1
            subst e1
            rw [hal, hrj] at h2
            cases h2
            have hDne := s2.ne hD
            have : RowAt H3 L sc D r[j] := ⟨fun z => (by subst z; rw [hL2] at hD; cases hD), hDne.1, ys, hD3, hl3, fun u y n h1 h2 => hP u y h1 n h2⟩
            exact this.upd hL3
    · rintro σ H1 ⟨⟨s3, s5, rfl⟩, s1, k1, as, hL1, hal, hrow⟩
      have e : ((r.length : Int)).toNat = r.length := by omega
      rw [e] at s1 hal
      rw [posF_all] at s1
      refine ⟨_, rfl, q _ _ (ep.trans k1) s1 ?_⟩
      refine ld_list hL1 (by rw [List.length_map, hal]) fun u y hy x hx => ?_
      rw [List.getElem?_map] at hy
      cases ea : as[u]? with
      | none => rw [ea] at hy; cases hy
      | some a =>
        rw [ea] at hy
        cases hy
        exact (hrow u a x ea hx).ld
end
end PL
end
section
set_option maxHeartbeats 4000000
/-! D9: Place.__init__. -/
namespace PL
open PySem PySem.Spec PyProof.Rows L2
section
variable {w : World} {K : PySem.W.Frag} {mg : Str → Option Value} {base : Heap}
theorem putF_len (f : Str) (v : V) : ∀ fs : List (Str × V), (putF f v fs).length ≤ fs.length + 1
  | [] => Nat.le_refl _
  | (g, x) :: r => by
    show (if g = f then (g, v) :: r else (g, x) :: putF f v r).length ≤ _
    split
    · simp
    · have := putF_len f v r
      simp only [List.length_cons]
      omega
theorem Kp.loose_im {a : Addr} {H H' : Hp} (e : Kp (some a) H H') (h : Loose H a) : Im H H' := e.im fun b z => by cases z; exact h
theorem Pls.im {H H' : Hp} (e : Im H H') {as : List Addr} {ts : List Tr} (h : Pls K H as ts) : Pls K H' as ts := ⟨h.1, fun k b p h1 h2 => (h.2 k b p h1 h2).im e⟩
theorem max_lev {ps : List Tr} {m : Int} (h1 : m ∈ (0 : Int) :: ps.map fun p => ((p.lev : Nat) : Int)) (h2 : ∀ y ∈ (0 : Int) :: ps.map fun p => ((p.lev : Nat) : Int), y ≤ m) : m = (levL ps : Nat) := by
  have a1 : (levL ps : Int) ≤ m := by
    have : levL ps ≤ m.toNat := levL_le fun p hp => by
      have := h2 (p.lev : Nat) (List.mem_cons_of_mem _ (List.mem_map.mpr ⟨p, hp, rfl⟩))
      omega
    have := h2 0 (List.mem_cons_self ..)
    omega
  rcases List.mem_cons.mp h1 with z | z
  · omega
  · obtain ⟨p, hp, rfl⟩ := List.mem_map.mp z
    have := lev_mem hp
    show ((p.lev : Nat) : Int) = _
    omega
def sp_Place (K : PySem.W.Frag) : Sp := fun vs H Q _ => ∃ a dx fs w t v hp pp as ps m i, vs = [.ref a, .str (Wd.s w), v, .ref hp, .ref pp] ∧ H a = some (.ins (cW K w) dx fs) ∧ fs.length < 100 ∧ fs.lookup ("word" : Str) = none ∧ Td H v (Told.data t) ∧
  H hp = some (.tup [.int ((m : Nat) : Int), .int ((i : Nat) : Int)]) ∧ H pp = some (.tup (List.map V.ref as)) ∧ Pls K H as ps ∧ Sz (.node w t ps m i) ∧ ∀ H', Kp (some a) H H' → PlAt K H' a (.node w t ps m i) → Q .non H'
theorem ok_Place (T : Txt K mg) : FnOk P0 w K mg base CX0 2 (aM K "Place" "__init__") (dM K "Place" "__init__") ["self", "word", "told", "hands", "parts"] (sp_Place K) := by
  have G_need_room := ok_need_room (w := w) (base := base) T
  refine T.f_Place___init__.ok sc_Place___init__ (fun vs H Q E h => by first | (obtain ⟨_, rfl, _⟩ := h; rfl) | (obtain ⟨_, _, rfl, _⟩ := h; rfl) | (obtain ⟨_, _, _, rfl, _⟩ := h; rfl) | (obtain ⟨_, _, _, _, rfl, _⟩ := h; rfl) | (obtain ⟨_, _, _, _, _, rfl, _⟩ := h; rfl) | (obtain ⟨_, _, _, _, _, _, rfl, _⟩ := h; rfl) | (obtain ⟨_, _, _, _, _, _, _, rfl, _⟩ := h; rfl) | (obtain ⟨_, _, _, _, _, _, _, _, rfl, _⟩ := h; rfl) | (obtain ⟨_, _, _, _, _, _, _, _, _, rfl, _⟩ := h; rfl) | (obtain ⟨_, _, _, _, _, _, _, _, _, _, rfl, _⟩ := h; rfl) | (obtain ⟨_, _, _, _, _, _, _, _, _, _, _, rfl, _⟩ := h; rfl) | (obtain ⟨_, _, _, _, _, _, _, _, _, _, _, _, rfl, _⟩ := h; rfl) | (obtain ⟨_, _, _, _, _, _, _, _, _, _, _, _, _, rfl, _⟩ := h; rfl) | (obtain ⟨_, _, _, _, _, _, _, _, _, _, _, _, _, _, rfl, _⟩ := h; rfl) | (obtain ⟨_, _, _, _, _, _, _, _, _, _, _, _, _, _, _, rfl, _⟩ := h; rfl) | (obtain ⟨_, _, _, _, _, _, _, _, _, _, _, _, _, _, _, _, rfl, _⟩ := h; rfl) | (obtain ⟨rfl, _⟩ := h; rfl)) (fun cdv A outer s H vs Q E hr h => ?_)
  obtain ⟨a, dx, fs, wd, t, v, hp, pp, as, ps, m, i, rfl, ha, hfs, hfw, ht, hhp, hpp, hP, hsz, q⟩ := h
  refine ⟨_, ((pss_cons (ps_asg (pe_tup (pa_cons (pv 1) (pa_cons (pv 2) pa_nil))) (kgtup K 2 rfl rfl (pgs_cons (kgfld K rfl (pv 0)) (pgs_cons (kgfld K rfl (pv 0)) pgs_nil))))
    (pss_cons (ps_asg (pv 3) (kgtup K 2 rfl rfl (pgs_cons (kgfld K rfl (pv 0)) (pgs_cons (kgfld K rfl (pv 0)) pgs_nil))))
    (pss_cons (ksfld K rfl (pv 0) (pe_callTy (ktup K rfl) (by rfl) T.z_tuple bt_tuple (pa_cons (pv 4) pa_nil)) rfl)
    (pss_cons (ksfld K rfl (pv 0) (pe_op op_add pe_int (pe_callB (ksum K rfl rfl) (by rfl) T.z_sum bt_sum (pa_cons (pe_lc (own := [("part", 5)]) rfl sc_Place___init__.nd (kpi K rfl (kfld K rfl (pv 0) rfl)) (blkOk_by (by kernel_rfl)) (fun _ _ _ _ _ => (pg_name (i := 5) sc_Place___init__.nd rfl (Or.inl rfl))) (fun _ _ _ _ _ => pts_nil) (fun _ _ _ _ _ => (kfld K rfl (pv 5) rfl))) pa_nil))) rfl)
    (pss_cons (ksfld K rfl (pv 0) (pe_op op_add pe_int (pe_callB (kmax K rfl rfl) (by rfl) T.z_max bt_max (pa_cons (pe_lst (pa_cons pe_int (kstar K rfl (pe_lc (own := [("part", 5)]) rfl sc_Place___init__.nd (kpi K rfl (kfld K rfl (pv 0) rfl)) (blkOk_by (by kernel_rfl)) (fun _ _ _ _ _ => (pg_name (i := 5) sc_Place___init__.nd rfl (Or.inl rfl))) (fun _ _ _ _ _ => pts_nil) (fun _ _ _ _ _ => (kfld K rfl (pv 5) rfl))) pa_nil))) pa_nil))) rfl)
    (pss_one (ps_expr (pe_call G_need_room (hr.mono (by omega)) rfl T.g_need_room T.f_need_room.kp T.b_need_room .nil pass0 (pa_cons (kfld K rfl (pv 0) rfl) (pa_cons (kfld K rfl (pv 0) rfl) pa_nil))))))))))), ?_⟩
  have P := T.pl wd
  have hal : (as.map V.ref).length = ps.length := by rw [List.length_map, hP.1]
  have hps : ps.length ≤ 120 := by
    have h1 := hsz.many
    rw [Tr.many, manyL_sum] at h1
    have : ∀ l : List Tr, l.length ≤ (l.map Tr.many).sum := by
      intro l
      induction l with
      | nil => exact Nat.le_refl _
      | cons x l ih =>
        have := many_pos x
        simp only [List.length_cons, List.map_cons, List.sum_cons]
        omega
    have := this ps
    omega
  have lo : Loose H a := Loose.ins ha hfw
  refine ⟨_, rfl, _, rfl, (by show 2 ≤ sizeLine; decide), fun p1 hp1 => ?_⟩
  have a1 : upd H p1 (.tup [.str wd.s, v]) a = some (.ins (cW K wd) dx fs) := by rw [upd_ne (ne_of_none ha hp1)]; exact ha
  have k1 : Kp (some a) H (upd H p1 (.tup [.str wd.s, v])) := .of (same_upd hp1)
  refine ⟨_, _, rfl, SqT.of upd_same, rfl, _, _, rfl, ⟨_, rfl, a, _, _, _, rfl, a1, P.cl, P.n_word, by omega, ?_⟩⟩
  refine ⟨_, _, rfl, ⟨_, rfl, a, _, _, _, rfl, upd_same, P.cl, P.n_told, by have := putF_len "word" (.str wd.s) fs; omega, rfl, ?_⟩⟩
  have k2 := k1.put (o := .ins (cW K wd) dx (putF "word" (.str wd.s) fs)) |>.put (o := .ins (cW K wd) dx (putF "told" v (putF "word" (.str wd.s) fs)))
  have l2 : (putF "told" v (putF "word" (.str wd.s) fs)).length ≤ fs.length + 2 := by
    have h1 := putF_len "word" (.str wd.s) fs
    have h2 := putF_len "told" v (putF "word" (.str wd.s) fs)
    omega
  have w2 : (putF "told" v (putF "word" (.str wd.s) fs)).lookup ("word" : Str) = some (.str wd.s) := by
    rw [lookup_putF, if_neg (by decide +kernel), lookup_putF, if_pos rfl]
  have t2 : (putF "told" v (putF "word" (.str wd.s) fs)).lookup ("told" : Str) = some v := by
    rw [lookup_putF, if_pos rfl]
  generalize hH2 : upd (upd (upd H p1 (.tup [.str wd.s, v])) a (.ins (cW K wd) dx (putF "word" (.str wd.s) fs))) a (.ins (cW K wd) dx (putF "told" v (putF "word" (.str wd.s) fs))) = H2 at k2 ⊢
  have a2 : H2 a = some (.ins (cW K wd) dx (putF "told" v (putF "word" (.str wd.s) fs))) := by rw [← hH2]; exact upd_same
  generalize putF "told" v (putF "word" (.str wd.s) fs) = f2 at l2 w2 t2 a2
  clear hH2
  have nhp : some hp ≠ some a := fun z => by injection z with z; subst z; rw [ha] at hhp; cases hhp
  have npp : some pp ≠ some a := fun z => by injection z with z; subst z; rw [ha] at hpp; cases hpp
  -- the hands
  refine ⟨_, rfl, hp, _, rfl, SqT.of (k2 _ _ hhp nhp), rfl, _, _, rfl, ⟨_, rfl, a, _, _, _, rfl, a2, P.cl, P.n_keeper_hands, by omega, ?_⟩⟩
  refine ⟨_, _, rfl, ⟨_, rfl, a, _, _, _, rfl, upd_same, P.cl, P.n_rival_hands, by have := putF_len "keeper_hands" (.int (m : Nat)) f2; omega, rfl, ?_⟩⟩
  have k3 := k2.put (o := .ins (cW K wd) dx (putF "keeper_hands" (.int (m : Nat)) f2)) |>.put (o := .ins (cW K wd) dx (putF "rival_hands" (.int (i : Nat)) (putF "keeper_hands" (.int (m : Nat)) f2)))
  have a3 : upd (upd H2 a (.ins (cW K wd) dx (putF "keeper_hands" (.int (m : Nat)) f2))) a (.ins (cW K wd) dx (putF "rival_hands" (.int (i : Nat)) (putF "keeper_hands" (.int (m : Nat)) f2))) a = some (.ins (cW K wd) dx (putF "rival_hands" (.int (i : Nat)) (putF "keeper_hands" (.int (m : Nat)) f2))) := upd_same
  have l3 : (putF "rival_hands" (.int (i : Nat)) (putF "keeper_hands" (.int (m : Nat)) f2)).length ≤ fs.length + 4 := by
    have h1 := putF_len "keeper_hands" (.int (m : Nat)) f2
    have h2 := putF_len "rival_hands" (.int (i : Nat)) (putF "keeper_hands" (.int (m : Nat)) f2)
    omega
  have w3 : (putF "rival_hands" (.int (i : Nat)) (putF "keeper_hands" (.int (m : Nat)) f2)).lookup ("word" : Str) = some (.str wd.s) := by
    rw [lookup_putF, if_neg (by decide +kernel), lookup_putF, if_neg (by decide +kernel)]
    exact w2
  have t3 : (putF "rival_hands" (.int (i : Nat)) (putF "keeper_hands" (.int (m : Nat)) f2)).lookup ("told" : Str) = some v := by
    rw [lookup_putF, if_neg (by decide +kernel), lookup_putF, if_neg (by decide +kernel)]
    exact t2
  have h3 : (putF "rival_hands" (.int (i : Nat)) (putF "keeper_hands" (.int (m : Nat)) f2)).lookup ("keeper_hands" : Str) = some (.int (m : Nat)) := by
    rw [lookup_putF, if_neg (by decide +kernel), lookup_putF, if_pos rfl]
  have r3 : (putF "rival_hands" (.int (i : Nat)) (putF "keeper_hands" (.int (m : Nat)) f2)).lookup ("rival_hands" : Str) = some (.int (i : Nat)) := by
    rw [lookup_putF, if_pos rfl]
  generalize upd (upd H2 a (.ins (cW K wd) dx (putF "keeper_hands" (.int (m : Nat)) f2))) a (.ins (cW K wd) dx (putF "rival_hands" (.int (i : Nat)) (putF "keeper_hands" (.int (m : Nat)) f2))) = H3 at k3 a3 ⊢
  generalize (putF "rival_hands" (V.int (i : Nat)) (putF "keeper_hands" (.int (m : Nat)) f2)) = f3 at l3 w3 t3 h3 r3 a3
  -- the parts
  refine ⟨_, rfl, pp, false, _, rfl, SqT.of (k3 _ _ hpp npp), fun q1 H' e hq _ n2 => ?_⟩
  obtain ⟨z1, z2⟩ := n2 rfl
  subst z1 z2
  refine ⟨_, rfl, a, _, _, _, rfl, a3, P.cl, P.n_parts, by omega, ?_⟩
  have k4 := k3.put (o := .ins (cW K wd) dx (putF "parts" (.ref q1) f3))
  have a4 : upd H' a (.ins (cW K wd) dx (putF "parts" (.ref q1) f3)) a = some (.ins (cW K wd) dx (putF "parts" (.ref q1) f3)) := upd_same
  have l4 : (putF "parts" (.ref q1) f3).length ≤ fs.length + 5 := by
    have h1 := putF_len "parts" (.ref q1) f3
    omega
  have lk4 : ∀ g : Str, g ≠ ("parts" : Str) → (putF "parts" (.ref q1) f3).lookup g = f3.lookup g := fun g hg => by rw [lookup_putF, if_neg hg]
  have w4 := (lk4 "word" (by decide +kernel)).trans w3
  have t4 := (lk4 "told" (by decide +kernel)).trans t3
  have h4 := (lk4 "keeper_hands" (by decide +kernel)).trans h3
  have r4 := (lk4 "rival_hands" (by decide +kernel)).trans r3
  have p4 : (putF "parts" (.ref q1) f3).lookup ("parts" : Str) = some (.ref q1) := by rw [lookup_putF, if_pos rfl]
  generalize upd H' a (.ins (cW K wd) dx (putF "parts" (.ref q1) f3)) = H4 at k4 a4 ⊢
  generalize (putF "parts" (V.ref q1) f3) = f4 at l4 w4 t4 h4 r4 p4 a4
  clear lk4
  have s4 : SqB false K H4 q1 (as.map V.ref) := SqT.of (k4 _ _ hpp npp)
  have hz : (as.map V.ref).length < sizeLine := by rw [hal]; exact Nat.lt_of_le_of_lt hps (by decide)
  have P4 := hP.im (k4.loose_im lo)
  refine ⟨_, rfl, a, _, _, _, _, rfl, a4, P.cl, P.n_parts, p4, q1, false, rfl, ⟨_, s4⟩, fun D hD => lc_pure hD s4 hz (fun _ => rfl) (fun j y _ => ∀ z, ps[j]? = some z → y = .int ((z.many : Nat) : Int)) (fun _ _ _ _ _ h => h) ?_ ?_⟩
  · intro j x H5 hx e5 Qe hq
    obtain ⟨b, tr, rfl, hb, htr, hpl⟩ := P4.at hx
    obtain ⟨dx', pa', fs', vt', as', g1, g2, g3, g4, g5, g6, g7, g8, g9, g10, g11, g12⟩ := (hpl.same e5).inv
    refine ⟨_, rfl, _, _, _, _, _, rfl, g1, (T.pl tr.w).cl, (T.pl tr.w).n_many, g11, hq _ _ (Same.refl _) fun z hz => ?_⟩
    rw [htr] at hz
    cases hz
    rfl
  intro ys H5 e5 hD5 hl5 hP5
  have ey : ys = (ps.map fun p => ((p.many : Nat) : Int)).map V.int := by
    rw [ys_map (f := fun p : Tr => V.int ((p.many : Nat) : Int)) (hl5.trans hal) hP5, List.map_map]
    rfl
  refine ⟨_, _, rfl, SqL.of (ey ▸ hD5), _, _, rfl, rfl, ?_⟩
  have em : (1 : Int) + (ps.map fun p => ((p.many : Nat) : Int)).sum = (((Tr.node wd t ps m i).many : Nat) : Int) := by
    rw [Tr.many, manyL_sum]
    have : (ps.map fun p => ((p.many : Nat) : Int)) = (ps.map Tr.many).map fun (k : Nat) => (k : Int) := by rw [List.map_map]; rfl
    rw [this, sum_cast]
    omega
  dsimp only
  rw [em]
  have a5 := e5 _ _ a4
  have k5 := k4.trans (.of e5)
  refine ⟨_, rfl, a, _, _, _, rfl, a5, P.cl, P.n_many, by omega, ?_⟩
  have k6 := k5.put (o := .ins (cW K wd) dx (putF "many" (.int (((Tr.node wd t ps m i).many : Nat) : Int)) f4))
  have a6 : upd H5 a (.ins (cW K wd) dx (putF "many" (.int (((Tr.node wd t ps m i).many : Nat) : Int)) f4)) a = some (.ins (cW K wd) dx (putF "many" (.int (((Tr.node wd t ps m i).many : Nat) : Int)) f4)) := upd_same
  have l6 : (putF "many" (.int (((Tr.node wd t ps m i).many : Nat) : Int)) f4).length ≤ fs.length + 6 := by
    have h1 := putF_len "many" (.int (((Tr.node wd t ps m i).many : Nat) : Int)) f4
    omega
  have lk6 : ∀ g : Str, g ≠ ("many" : Str) → (putF "many" (.int (((Tr.node wd t ps m i).many : Nat) : Int)) f4).lookup g = f4.lookup g := fun g hg => by rw [lookup_putF, if_neg hg]
  have w6 := (lk6 "word" (by decide +kernel)).trans w4
  have t6 := (lk6 "told" (by decide +kernel)).trans t4
  have h6 := (lk6 "keeper_hands" (by decide +kernel)).trans h4
  have r6 := (lk6 "rival_hands" (by decide +kernel)).trans r4
  have p6 := (lk6 "parts" (by decide +kernel)).trans p4
  have m6 : (putF "many" (.int (((Tr.node wd t ps m i).many : Nat) : Int)) f4).lookup ("many" : Str) = some (.int (((Tr.node wd t ps m i).many : Nat) : Int)) := by rw [lookup_putF, if_pos rfl]
  generalize upd H5 a (.ins (cW K wd) dx (putF "many" (.int (((Tr.node wd t ps m i).many : Nat) : Int)) f4)) = H6 at k6 a6 ⊢
  generalize (putF "many" (V.int (((Tr.node wd t ps m i).many : Nat) : Int)) f4) = f6 at l6 w6 t6 h6 r6 p6 m6 a6
  clear lk6
  have s6 : SqB false K H6 q1 (as.map V.ref) := SqT.of (k6 _ _ hpp npp)
  have P6 := hP.im (k6.loose_im lo)
  refine ⟨_, rfl, a, _, _, _, _, rfl, a6, P.cl, P.n_parts, p6, q1, false, rfl, ⟨_, s6⟩, fun D hD => lc_pure hD s6 hz (fun _ => rfl) (fun j y _ => ∀ z, ps[j]? = some z → y = .int ((z.lev : Nat) : Int)) (fun _ _ _ _ _ h => h) ?_ ?_⟩
  · intro j x H7 hx e7 Qe hq
    obtain ⟨b, tr, rfl, hb, htr, hpl⟩ := P6.at hx
    obtain ⟨dx', pa', fs', vt', as', g1, g2, g3, g4, g5, g6, g7, g8, g9, g10, g11, g12⟩ := (hpl.same e7).inv
    refine ⟨_, rfl, _, _, _, _, _, rfl, g1, (T.pl tr.w).cl, (T.pl tr.w).n_levels, g12, hq _ _ (Same.refl _) fun z hz => ?_⟩
    rw [htr] at hz
    cases hz
    rfl
  intro ys7 H7 e7 hD7 hl7 hP7
  have ey7 : ys7 = (ps.map fun p => ((p.lev : Nat) : Int)).map V.int := by
    rw [ys_map (f := fun p : Tr => V.int ((p.lev : Nat) : Int)) (hl7.trans hal) hP7, List.map_map]
    rfl
  refine ⟨_, _, rfl, .inr (SqL.of (ey7 ▸ hD7)), ?_, fun p8 hp8 => ?_⟩
  · show (V.int 0 :: ((ps.map fun p => ((p.lev : Nat) : Int)).map V.int ++ [])).length ≤ sizeLine
    rw [List.append_nil, List.length_cons, List.length_map, List.length_map]
    exact Nat.le_trans (show _ ≤ 121 by omega) (by decide)
  refine ⟨p8, (0 : Int) :: ps.map fun p => ((p.lev : Nat) : Int), rfl, SqL.of ?_, by simp, fun mx hm1 hm2 => ?_⟩
  · rw [upd_same]
    show some (HO.lst (V.int 0 :: ((ps.map fun p => ((p.lev : Nat) : Int)).map V.int ++ []))) = _
    rw [List.append_nil]
    rfl
  have emx := max_lev hm1 hm2
  subst emx
  have el : (1 : Int) + ((levL ps : Nat) : Int) = (((Tr.node wd t ps m i).lev : Nat) : Int) := by
    rw [Tr.lev]
    omega
  refine ⟨_, _, rfl, rfl, ?_⟩
  dsimp only
  rw [el]
  have e8 : Same H6 (upd H7 p8 (.lst (V.int 0 :: ((ps.map fun p => ((p.lev : Nat) : Int)).map V.int ++ [])))) := Same.snoc e7 hp8
  have a8 := e8 _ _ a6
  have k8 := k6.trans (.of e8)
  refine ⟨_, rfl, a, _, _, _, rfl, a8, P.cl, P.n_levels, by omega, ?_⟩
  have k9 := k8.put (o := .ins (cW K wd) dx (putF "levels" (.int (((Tr.node wd t ps m i).lev : Nat) : Int)) f6))
  refine ⟨_, rfl, a, _, _, _, .int (((Tr.node wd t ps m i).many : Nat) : Int), rfl, upd_same, P.cl, P.n_many, ?_, _, rfl, a, _, _, _, .int (((Tr.node wd t ps m i).lev : Nat) : Int), rfl, upd_same, P.cl, P.n_levels, ?_, _, _, rfl, ?_, ?_, ?_⟩
  · rw [lookup_putF, if_neg (by decide +kernel)]
    exact m6
  · rw [lookup_putF, if_pos rfl]
  · have := hsz.many
    omega
  · have := hsz.lev
    omega
  · refine q _ k9 (.mk (fs := putF "levels" (.int (((Tr.node wd t ps m i).lev : Nat) : Int)) f6) (dx := dx) (pa := q1) (vt := v) (as := as) upd_same ?_ ?_ (ht.im (k9.loose_im lo)) ?_ ?_ ?_ (k9 _ _ hpp npp) hP.1 (hP.im (k9.loose_im lo)).2 ?_ ?_)
    all_goals first | (rw [lookup_putF, if_pos rfl]; done) | (rw [lookup_putF, if_neg (by decide +kernel)]; assumption)
end
end PL
end
section
set_option maxHeartbeats 4000000
/-! D10: the classes' __init__: ends, holes. -/
namespace PL
open PySem PySem.Spec PyProof.Rows L2
section
variable {w : World} {K : PySem.W.Frag} {mg : Str → Option Value} {base : Heap}
def sp_End (K : PySem.W.Frag) : Sp := fun vs H Q _ => ∃ x dx v t m i, vs = [.ref x, v] ∧ H x = some (.ins (cW K .fin) dx []) ∧ Ld K H v (Told.data t) ∧ Fit .fin t [] m i ∧ (1 ≤ m ∧ m ≤ 8) ∧ (1 ≤ i ∧ i ≤ 8) ∧ ∀ H', Kp (some x) H H' → PlAt K H' x (.node .fin t [] m i) → Q .non H'
theorem ok_End (T : Txt K mg) : FnOk P0 w K mg base CX0 6 (aM K "End" "__init__") (dM K "End" "__init__") ["self", "table"] (sp_End K) := by
  have G_Place := ok_Place (w := w) (base := base) T
  have G_need_table := ok_need_table (w := w) (base := base) T
  refine T.f_End___init__.ok sc_End___init__ (fun vs H Q E h => by first | (obtain ⟨_, rfl, _⟩ := h; rfl) | (obtain ⟨_, _, rfl, _⟩ := h; rfl) | (obtain ⟨_, _, _, rfl, _⟩ := h; rfl) | (obtain ⟨_, _, _, _, rfl, _⟩ := h; rfl) | (obtain ⟨_, _, _, _, _, rfl, _⟩ := h; rfl) | (obtain ⟨_, _, _, _, _, _, rfl, _⟩ := h; rfl) | (obtain ⟨_, _, _, _, _, _, _, rfl, _⟩ := h; rfl) | (obtain ⟨_, _, _, _, _, _, _, _, rfl, _⟩ := h; rfl) | (obtain ⟨_, _, _, _, _, _, _, _, _, rfl, _⟩ := h; rfl) | (obtain ⟨_, _, _, _, _, _, _, _, _, _, rfl, _⟩ := h; rfl) | (obtain ⟨_, _, _, _, _, _, _, _, _, _, _, rfl, _⟩ := h; rfl) | (obtain ⟨_, _, _, _, _, _, _, _, _, _, _, _, rfl, _⟩ := h; rfl) | (obtain ⟨_, _, _, _, _, _, _, _, _, _, _, _, _, rfl, _⟩ := h; rfl) | (obtain ⟨_, _, _, _, _, _, _, _, _, _, _, _, _, _, rfl, _⟩ := h; rfl) | (obtain ⟨_, _, _, _, _, _, _, _, _, _, _, _, _, _, _, rfl, _⟩ := h; rfl) | (obtain ⟨_, _, _, _, _, _, _, _, _, _, _, _, _, _, _, _, rfl, _⟩ := h; rfl) | (obtain ⟨rfl, _⟩ := h; rfl)) (fun A outer s H vs Q E hr h => ?_)
  obtain ⟨x, dx, v, t, m, i, rfl, hx, hv, ⟨r, rfl, _, hr1, hr2⟩, hm, hi, q⟩ := h
  refine ⟨_, ((psa_cons (ksfld K rfl (pv 0) (pe_call G_need_table (hr.mono (by omega)) rfl T.g_need_table T.f_need_table.kp T.b_need_table .nil pass0 (pa_cons (pv 1) pa_nil)) rfl)
    (psa_sup T.f_End___init__ rfl sc_End___init__ (T.pl .fin).sup rfl (by decide +kernel) T.z_super G_Place (hr.mono (by omega)) T.b_Place pass0 (pa_cons pe_str (pa_cons (kfld K rfl (pv 0) rfl) (pa_cons (pe_tup (pa_cons (pe_callB (klen K rfl) (by rfl) T.z_len bt_len (pa_cons (kfld K rfl (pv 0) rfl) pa_nil)) (pa_cons (pe_callB (klen K rfl) (by rfl) T.z_len bt_len (pa_cons (pe_ix (kix K rfl) (kfld K rfl (pv 0) rfl) pe_int (fun _ _ => rfl)) pa_nil)) pa_nil))) (pa_cons (pe_tup pa_nil) pa_nil)))) rfl rfl rfl rfl rfl))), ?_⟩
  have P := T.pl .fin
  refine ⟨_, rfl, v, r, i, rfl, hv, by omega, by omega, hi.1, hi.2, fun y hy => ⟨(hr2 y hy).1, fun n hn => (hr2 y hy).2 n hn⟩, fun v' H1 e1 t1 => ?_⟩
  have x1 := e1 _ _ hx
  refine ⟨_, rfl, x, _, _, _, rfl, x1, P.cl, P.n_table, by show 0 < 1000; decide, ?_⟩
  have lo : Loose H1 x := Loose.ins x1 rfl
  have k2 : Kp (some x) H (upd H1 x (.ins (cW K .fin) dx (putF "table" v' []))) := (Kp.of e1).put
  have t2 : Td (upd H1 x (.ins (cW K .fin) dx (putF "table" v' []))) v' (rowsD r) := t1.im (im_upd lo)
  have x2 : (upd H1 x (.ins (cW K .fin) dx (putF "table" v' []))) x = some (.ins (cW K .fin) dx (putF "table" v' [])) := upd_same
  have lt : (putF "table" v' []).lookup ("table" : Str) = some v' := by rw [lookup_putF, if_pos rfl]
  have lw : (putF "table" v' []).lookup ("word" : Str) = none := by rw [lookup_putF, if_neg (by decide +kernel)]; rfl
  have ll : (putF "table" v' []).length < 100 := by show 1 < 100; decide
  generalize upd H1 x (.ins (cW K .fin) dx (putF "table" v' [])) = H2 at k2 t2 x2 ⊢
  generalize putF "table" v' [] = f2 at lt lw ll x2
  refine ⟨x, dx, f2, rfl, x2, fun q1 hq1 => ?_⟩
  have e3 : Same H2 (upd H2 q1 (.met (aM K "Place" "__init__") x)) := same_upd hq1
  have q3 : upd H2 q1 (.met (aM K "Place" "__init__") x) q1 = some (.met (aM K "Place" "__init__") x) := upd_same
  generalize upd H2 q1 (.met (aM K "Place" "__init__") x) = H3 at e3 q3 ⊢
  have t3 := t2.same e3
  have x3 := e3 _ _ x2
  obtain ⟨ta, ws, rfl, g1, g2, g3⟩ := t3.tuple_inv
  rw [List.length_map, hr1] at g2
  obtain ⟨u, hu⟩ : ∃ u, ws[0]? = some u := ⟨_, List.getElem?_eq_getElem (by omega)⟩
  obtain ⟨y0, hy0⟩ : ∃ y, r[0]? = some y := ⟨_, List.getElem?_eq_getElem (by omega)⟩
  obtain ⟨ua, us, rfl, g4, g5, g6⟩ := (g3 0 u (.tuple (y0.map Nm.data)) hu (by rw [List.getElem?_map, hy0] <;> rfl)).tuple_inv
  rw [List.length_map, (hr2 y0 (List.mem_of_getElem? hy0)).1] at g5
  refine ⟨_, rfl, x, _, _, _, _, rfl, x3, P.cl, P.n_table, lt, _, rfl, x, _, _, _, _, rfl, x3, P.cl, P.n_table, lt, ta, false, _, rfl, SqT.of g1, ?_⟩
  refine ⟨_, rfl, x, _, _, _, _, rfl, x3, P.cl, P.n_table, lt, ta, false, ws, 0, _, rfl, rfl, SqT.of g1, atI_nat (j := 0) hu, ua, false, _, rfl, SqT.of g4, (by show 2 ≤ sizeLine; decide), fun hp hhp => ⟨by decide, fun pp hpp => ?_⟩⟩
  rw [g2, g5] at hpp ⊢
  have e4 : Same H3 (upd (upd H3 hp (.tup [.int (m : Nat), .int (i : Nat)])) pp (.tup [])) := Same.snoc (same_upd hhp) hpp
  have hph : (upd (upd H3 hp (.tup [.int (m : Nat), .int (i : Nat)])) pp (.tup [])) hp = some (.tup [.int (m : Nat), .int (i : Nat)]) := by
    rw [upd_ne (ne_of_none upd_same hpp)]
    exact upd_same
  refine ⟨e4 _ _ q3, x, dx, f2, .fin, .rows r, _, hp, pp, [], [], m, i, rfl, e4 _ _ x3, ll, lw, t3.same e4, hph, upd_same, ⟨rfl, fun k b p h => by simp at h⟩, ⟨by simp [Tr.many, manyL], by simp [Tr.lev, levL]⟩, fun H' k p => ?_⟩
  exact q H' ((k2.trans (.of (e3.trans e4))).trans k) p
def sp_Hole (K : PySem.W.Frag) : Sp := fun vs H Q _ => ∃ x dx m i, vs = [.ref x, .int ((m : Nat) : Int), .int ((i : Nat) : Int)] ∧ H x = some (.ins (cW K .hole) dx []) ∧ (1 ≤ m ∧ m ≤ 8) ∧ (1 ≤ i ∧ i ≤ 8) ∧ ∀ H', Kp (some x) H H' → PlAt K H' x (.node .hole .unit [] m i) → Q .non H'
theorem within_ok {i l h : Int} (h1 : l ≤ i) (h2 : i ≤ h) : (bndLo (some l) i && bndHi (some h) i) = true := by
  show (decide (l ≤ i) && decide (i ≤ h)) = true
  rw [decide_eq_true h1, decide_eq_true h2]
  rfl
theorem ok_Hole (T : Txt K mg) : FnOk P0 w K mg base CX0 3 (aM K "Hole" "__init__") (dM K "Hole" "__init__") ["self", "keeper_hands", "rival_hands"] (sp_Hole K) := by
  have G_Place := ok_Place (w := w) (base := base) T
  have G_is_within := ok_is_within (w := w) (base := base) T
  refine T.f_Hole___init__.ok sc_Hole___init__ (fun vs H Q E h => by first | (obtain ⟨_, rfl, _⟩ := h; rfl) | (obtain ⟨_, _, rfl, _⟩ := h; rfl) | (obtain ⟨_, _, _, rfl, _⟩ := h; rfl) | (obtain ⟨_, _, _, _, rfl, _⟩ := h; rfl) | (obtain ⟨_, _, _, _, _, rfl, _⟩ := h; rfl) | (obtain ⟨_, _, _, _, _, _, rfl, _⟩ := h; rfl) | (obtain ⟨_, _, _, _, _, _, _, rfl, _⟩ := h; rfl) | (obtain ⟨_, _, _, _, _, _, _, _, rfl, _⟩ := h; rfl) | (obtain ⟨_, _, _, _, _, _, _, _, _, rfl, _⟩ := h; rfl) | (obtain ⟨_, _, _, _, _, _, _, _, _, _, rfl, _⟩ := h; rfl) | (obtain ⟨_, _, _, _, _, _, _, _, _, _, _, rfl, _⟩ := h; rfl) | (obtain ⟨_, _, _, _, _, _, _, _, _, _, _, _, rfl, _⟩ := h; rfl) | (obtain ⟨_, _, _, _, _, _, _, _, _, _, _, _, _, rfl, _⟩ := h; rfl) | (obtain ⟨_, _, _, _, _, _, _, _, _, _, _, _, _, _, rfl, _⟩ := h; rfl) | (obtain ⟨_, _, _, _, _, _, _, _, _, _, _, _, _, _, _, rfl, _⟩ := h; rfl) | (obtain ⟨_, _, _, _, _, _, _, _, _, _, _, _, _, _, _, _, rfl, _⟩ := h; rfl) | (obtain ⟨rfl, _⟩ := h; rfl)) (fun A outer s H vs Q E hr h => ?_)
  obtain ⟨x, dx, m, i, rfl, hx, hm, hi, q⟩ := h
  refine ⟨_, ((psa_cons (ps_if (pt_not (pt_val (pe_call G_is_within (hr.mono (by omega)) rfl T.g_is_within T.f_is_within.kp T.b_is_within .nil pass0 (pa_cons (pv 1) (pa_cons pe_int (pa_cons (pe_globI rfl T.c_MOST_HANDS) pa_nil)))))) pss_never pss_nil)
    (psa_cons (ps_if (pt_not (pt_val (pe_call G_is_within (hr.mono (by omega)) rfl T.g_is_within T.f_is_within.kp T.b_is_within .nil pass0 (pa_cons (pv 2) (pa_cons pe_int (pa_cons (pe_globI rfl T.c_MOST_HANDS) pa_nil)))))) pss_never pss_nil)
    (psa_sup T.f_Hole___init__ rfl sc_Hole___init__ (T.pl .hole).sup rfl (by decide +kernel) T.z_super G_Place (hr.mono (by omega)) T.b_Place pass0 (pa_cons pe_str (pa_cons (pe_tup pa_nil) (pa_cons (pe_tup (pa_cons (pv 1) (pa_cons (pv 2) pa_nil))) (pa_cons (pe_tup pa_nil) pa_nil)))) rfl rfl rfl rfl rfl)))), ?_⟩
  have P := T.pl .hole
  refine ⟨_, rfl, (m : Int), some 1, some 8, rfl, fun H1 e1 => ⟨_, rfl, ?_⟩⟩
  rw [within_ok (by omega) (by omega)]
  refine ⟨_, rfl, (i : Int), some 1, some 8, rfl, fun H2 e2 => ⟨_, rfl, ?_⟩⟩
  rw [within_ok (by omega) (by omega)]
  have x2 := (e1.trans e2) _ _ hx
  refine ⟨x, dx, [], rfl, x2, fun q1 hq1 => ?_⟩
  refine ⟨by decide, fun p1 hp1 => ?_⟩
  refine ⟨_, rfl, _, rfl, (by show 2 ≤ sizeLine; decide), fun hp hhp => ⟨by decide, fun pp hpp => ?_⟩⟩
  have e3 : Same H2 (upd H2 q1 (.met (aM K "Place" "__init__") x)) := same_upd hq1
  have q3 : upd H2 q1 (.met (aM K "Place" "__init__") x) q1 = some (.met (aM K "Place" "__init__") x) := upd_same
  generalize upd H2 q1 (.met (aM K "Place" "__init__") x) = H3 at e3 q3 hp1 hhp hpp ⊢
  have e4 : Same H3 (upd (upd (upd H3 p1 (.tup [])) hp (.tup [.int (m : Nat), .int (i : Nat)])) pp (.tup [])) := Same.snoc (Same.snoc (same_upd hp1) hhp) hpp
  have hp1' : (upd (upd (upd H3 p1 (.tup [])) hp (.tup [.int (m : Nat), .int (i : Nat)])) pp (.tup [])) p1 = some (.tup []) := by
    refine (Same.snoc (same_upd hhp) hpp) _ _ ?_
    exact upd_same
  have hph : (upd (upd (upd H3 p1 (.tup [])) hp (.tup [.int (m : Nat), .int (i : Nat)])) pp (.tup [])) hp = some (.tup [.int (m : Nat), .int (i : Nat)]) := (same_upd hpp) _ _ upd_same
  refine ⟨e4 _ _ q3, x, dx, [], .hole, .unit, .ref p1, hp, pp, [], [], m, i, rfl, e4 _ _ (e3 _ _ x2), by decide, rfl, .tup hp1' rfl (fun k y d h => by simp at h), hph, upd_same, ⟨rfl, fun k b p h => by simp at h⟩, ⟨by simp [Tr.many, manyL], by simp [Tr.lev, levL]⟩, fun H' k p => ?_⟩
  exact q H' ((Kp.of ((e1.trans e2).trans (e3.trans e4))).trans k) p
end
end PL
end
section
set_option maxHeartbeats 4000000
/-! D11: moves, draws. -/
namespace PL
open PySem PySem.Spec PyProof.Rows L2
section
variable {w : World} {K : PySem.W.Frag} {mg : Str → Option Value} {base : Heap}
def sp_KeeperMove (K : PySem.W.Frag) : Sp := fun vs H Q _ => ∃ x dx p b as ps m i, vs = [.ref x, .ref p] ∧ H x = some (.ins (cW K .kmove) dx []) ∧ SqP b H p (List.map V.ref as) ∧ Pls K H as ps ∧ Fit .kmove .unit ps m i ∧ Sz (.node .kmove .unit ps m i) ∧ ∀ H', Kp (some x) H H' → PlAt K H' x (.node .kmove .unit ps m i) → Q .non H'
theorem ok_KeeperMove (T : Txt K mg) : FnOk P0 w K mg base CX0 3 (aM K "KeeperMove" "__init__") (dM K "KeeperMove" "__init__") ["self", "parts"] (sp_KeeperMove K) := by
  have G_Place := ok_Place (w := w) (base := base) T
  have G_need_parts := ok_need_parts (w := w) (base := base) T
  have G_need_alike := ok_need_alike (w := w) (base := base) T
  have G_hands_of := ok_hands_of (w := w) (base := base) T
  refine T.f_KeeperMove___init__.ok sc_KeeperMove___init__ (fun vs H Q E h => by first | (obtain ⟨_, rfl, _⟩ := h; rfl) | (obtain ⟨_, _, rfl, _⟩ := h; rfl) | (obtain ⟨_, _, _, rfl, _⟩ := h; rfl) | (obtain ⟨_, _, _, _, rfl, _⟩ := h; rfl) | (obtain ⟨_, _, _, _, _, rfl, _⟩ := h; rfl) | (obtain ⟨_, _, _, _, _, _, rfl, _⟩ := h; rfl) | (obtain ⟨_, _, _, _, _, _, _, rfl, _⟩ := h; rfl) | (obtain ⟨_, _, _, _, _, _, _, _, rfl, _⟩ := h; rfl) | (obtain ⟨_, _, _, _, _, _, _, _, _, rfl, _⟩ := h; rfl) | (obtain ⟨_, _, _, _, _, _, _, _, _, _, rfl, _⟩ := h; rfl) | (obtain ⟨_, _, _, _, _, _, _, _, _, _, _, rfl, _⟩ := h; rfl) | (obtain ⟨_, _, _, _, _, _, _, _, _, _, _, _, rfl, _⟩ := h; rfl) | (obtain ⟨_, _, _, _, _, _, _, _, _, _, _, _, _, rfl, _⟩ := h; rfl) | (obtain ⟨_, _, _, _, _, _, _, _, _, _, _, _, _, _, rfl, _⟩ := h; rfl) | (obtain ⟨_, _, _, _, _, _, _, _, _, _, _, _, _, _, _, rfl, _⟩ := h; rfl) | (obtain ⟨_, _, _, _, _, _, _, _, _, _, _, _, _, _, _, _, rfl, _⟩ := h; rfl) | (obtain ⟨rfl, _⟩ := h; rfl)) (fun A outer s H vs Q E hr h => ?_)
  obtain ⟨x, dx, p, b, as, ps, m, i, rfl, hx, hp, hP, ⟨_, hl, hmi⟩, hsz, q⟩ := h
  refine ⟨_, ((psa_cons (ps_set (i := 2) sc_KeeperMove___init__.nd rfl (Or.inl rfl) (pe_call G_need_alike (hr.mono (by omega)) rfl T.g_need_alike T.f_need_alike.kp T.b_need_alike .nil pass0 (pa_cons (pe_call G_need_parts (hr.mono (by omega)) rfl T.g_need_parts T.f_need_parts.kp T.b_need_parts .nil pass0 (pa_cons (pv 1) pa_nil)) pa_nil)))
    (psa_sup T.f_KeeperMove___init__ rfl sc_KeeperMove___init__ (T.pl .kmove).sup rfl (by decide +kernel) T.z_super G_Place (hr.mono (by omega)) T.b_Place pass0 (pa_cons pe_str (pa_cons (pe_tup pa_nil) (pa_cons (pe_call G_hands_of (hr.mono (by omega)) rfl T.g_hands_of T.f_hands_of.kp T.b_hands_of .nil pass0 (pa_cons (pe_ix (kix K rfl) (pv 2) pe_int (fun _ _ => rfl)) pa_nil)) (pa_cons (pv 2) pa_nil)))) rfl rfl rfl rfl rfl))), ?_⟩
  have hal : (as.map V.ref).length = ps.length := by rw [List.length_map, hP.1]
  obtain ⟨u0, hx0⟩ : ∃ u, (as.map V.ref)[0]? = some u := ⟨_, List.getElem?_eq_getElem (by rw [hal]; omega)⟩
  refine ⟨_, rfl, p, b, as, ps, rfl, hp, hP, hl.1, hl.2, fun q0 H1 e1 g1 => ?_⟩
  refine ⟨q0, as, ps, m, i, rfl, g1, hP.same e1, hl.1, hl.2, hmi, fun H2 e2 => ?_⟩
  have e12 := e1.trans e2
  refine ⟨x, dx, [], rfl, e12 _ _ hx, fun q1 hq1 => ?_⟩
  have e3 : Same H2 (upd H2 q1 (.met (aM K "Place" "__init__") x)) := same_upd hq1
  have q3 : upd H2 q1 (.met (aM K "Place" "__init__") x) q1 = some (.met (aM K "Place" "__init__") x) := upd_same
  generalize upd H2 q1 (.met (aM K "Place" "__init__") x) = H3 at e3 q3 ⊢
  refine ⟨by decide, fun p1 hp1 => ?_⟩
  have e4 : Same H3 (upd H3 p1 (.tup [])) := same_upd hp1
  have hp1' : (upd H3 p1 (.tup [])) p1 = some (.tup []) := upd_same
  generalize upd H3 p1 (.tup []) = H4 at e4 hp1' ⊢
  have e14 := e12.trans (e3.trans e4)
  obtain ⟨b0, t0, rfl, hb0, ht0, hp0⟩ := (hP.same e14).at hx0
  obtain ⟨m0, i0⟩ := hmi t0 (List.mem_of_getElem? ht0)
  refine ⟨_, rfl, q0, false, _, 0, _, rfl, rfl, SqT.of ((e2.trans (e3.trans e4)) _ _ g1), atI_nat (j := 0) hx0, b0, t0, rfl, hp0, fun hp5 H5 e5 g5 => ?_⟩
  rw [m0, i0] at g5
  refine ⟨_, rfl, (e4.trans e5) _ _ q3, x, dx, [], .kmove, .unit, .ref p1, hp5, q0, as, ps, m, i, rfl, (e14.trans e5) _ _ hx, by decide, rfl, .tup (e5 _ _ hp1') rfl (fun k y d h => by simp at h), g5, (e2.trans (e3.trans (e4.trans e5))) _ _ g1, hP.same (e14.trans e5), hsz, fun H' k p => ?_⟩
  exact q H' ((Kp.of (e14.trans e5)).trans k) p
def sp_RivalMove (K : PySem.W.Frag) : Sp := fun vs H Q _ => ∃ x dx p b as ps m i, vs = [.ref x, .ref p] ∧ H x = some (.ins (cW K .rmove) dx []) ∧ SqP b H p (List.map V.ref as) ∧ Pls K H as ps ∧ Fit .rmove .unit ps m i ∧ Sz (.node .rmove .unit ps m i) ∧ ∀ H', Kp (some x) H H' → PlAt K H' x (.node .rmove .unit ps m i) → Q .non H'
theorem ok_RivalMove (T : Txt K mg) : FnOk P0 w K mg base CX0 3 (aM K "RivalMove" "__init__") (dM K "RivalMove" "__init__") ["self", "parts"] (sp_RivalMove K) := by
  have G_Place := ok_Place (w := w) (base := base) T
  have G_need_parts := ok_need_parts (w := w) (base := base) T
  have G_need_alike := ok_need_alike (w := w) (base := base) T
  have G_hands_of := ok_hands_of (w := w) (base := base) T
  refine T.f_RivalMove___init__.ok sc_RivalMove___init__ (fun vs H Q E h => by first | (obtain ⟨_, rfl, _⟩ := h; rfl) | (obtain ⟨_, _, rfl, _⟩ := h; rfl) | (obtain ⟨_, _, _, rfl, _⟩ := h; rfl) | (obtain ⟨_, _, _, _, rfl, _⟩ := h; rfl) | (obtain ⟨_, _, _, _, _, rfl, _⟩ := h; rfl) | (obtain ⟨_, _, _, _, _, _, rfl, _⟩ := h; rfl) | (obtain ⟨_, _, _, _, _, _, _, rfl, _⟩ := h; rfl) | (obtain ⟨_, _, _, _, _, _, _, _, rfl, _⟩ := h; rfl) | (obtain ⟨_, _, _, _, _, _, _, _, _, rfl, _⟩ := h; rfl) | (obtain ⟨_, _, _, _, _, _, _, _, _, _, rfl, _⟩ := h; rfl) | (obtain ⟨_, _, _, _, _, _, _, _, _, _, _, rfl, _⟩ := h; rfl) | (obtain ⟨_, _, _, _, _, _, _, _, _, _, _, _, rfl, _⟩ := h; rfl) | (obtain ⟨_, _, _, _, _, _, _, _, _, _, _, _, _, rfl, _⟩ := h; rfl) | (obtain ⟨_, _, _, _, _, _, _, _, _, _, _, _, _, _, rfl, _⟩ := h; rfl) | (obtain ⟨_, _, _, _, _, _, _, _, _, _, _, _, _, _, _, rfl, _⟩ := h; rfl) | (obtain ⟨_, _, _, _, _, _, _, _, _, _, _, _, _, _, _, _, rfl, _⟩ := h; rfl) | (obtain ⟨rfl, _⟩ := h; rfl)) (fun A outer s H vs Q E hr h => ?_)
  obtain ⟨x, dx, p, b, as, ps, m, i, rfl, hx, hp, hP, ⟨_, hl, hmi⟩, hsz, q⟩ := h
  refine ⟨_, ((psa_cons (ps_set (i := 2) sc_RivalMove___init__.nd rfl (Or.inl rfl) (pe_call G_need_alike (hr.mono (by omega)) rfl T.g_need_alike T.f_need_alike.kp T.b_need_alike .nil pass0 (pa_cons (pe_call G_need_parts (hr.mono (by omega)) rfl T.g_need_parts T.f_need_parts.kp T.b_need_parts .nil pass0 (pa_cons (pv 1) pa_nil)) pa_nil)))
    (psa_sup T.f_RivalMove___init__ rfl sc_RivalMove___init__ (T.pl .rmove).sup rfl (by decide +kernel) T.z_super G_Place (hr.mono (by omega)) T.b_Place pass0 (pa_cons pe_str (pa_cons (pe_tup pa_nil) (pa_cons (pe_call G_hands_of (hr.mono (by omega)) rfl T.g_hands_of T.f_hands_of.kp T.b_hands_of .nil pass0 (pa_cons (pe_ix (kix K rfl) (pv 2) pe_int (fun _ _ => rfl)) pa_nil)) (pa_cons (pv 2) pa_nil)))) rfl rfl rfl rfl rfl))), ?_⟩
  have hal : (as.map V.ref).length = ps.length := by rw [List.length_map, hP.1]
  obtain ⟨u0, hx0⟩ : ∃ u, (as.map V.ref)[0]? = some u := ⟨_, List.getElem?_eq_getElem (by rw [hal]; omega)⟩
  refine ⟨_, rfl, p, b, as, ps, rfl, hp, hP, hl.1, hl.2, fun q0 H1 e1 g1 => ?_⟩
  refine ⟨q0, as, ps, m, i, rfl, g1, hP.same e1, hl.1, hl.2, hmi, fun H2 e2 => ?_⟩
  have e12 := e1.trans e2
  refine ⟨x, dx, [], rfl, e12 _ _ hx, fun q1 hq1 => ?_⟩
  have e3 : Same H2 (upd H2 q1 (.met (aM K "Place" "__init__") x)) := same_upd hq1
  have q3 : upd H2 q1 (.met (aM K "Place" "__init__") x) q1 = some (.met (aM K "Place" "__init__") x) := upd_same
  generalize upd H2 q1 (.met (aM K "Place" "__init__") x) = H3 at e3 q3 ⊢
  refine ⟨by decide, fun p1 hp1 => ?_⟩
  have e4 : Same H3 (upd H3 p1 (.tup [])) := same_upd hp1
  have hp1' : (upd H3 p1 (.tup [])) p1 = some (.tup []) := upd_same
  generalize upd H3 p1 (.tup []) = H4 at e4 hp1' ⊢
  have e14 := e12.trans (e3.trans e4)
  obtain ⟨b0, t0, rfl, hb0, ht0, hp0⟩ := (hP.same e14).at hx0
  obtain ⟨m0, i0⟩ := hmi t0 (List.mem_of_getElem? ht0)
  refine ⟨_, rfl, q0, false, _, 0, _, rfl, rfl, SqT.of ((e2.trans (e3.trans e4)) _ _ g1), atI_nat (j := 0) hx0, b0, t0, rfl, hp0, fun hp5 H5 e5 g5 => ?_⟩
  rw [m0, i0] at g5
  refine ⟨_, rfl, (e4.trans e5) _ _ q3, x, dx, [], .rmove, .unit, .ref p1, hp5, q0, as, ps, m, i, rfl, (e14.trans e5) _ _ hx, by decide, rfl, .tup (e5 _ _ hp1') rfl (fun k y d h => by simp at h), g5, (e2.trans (e3.trans (e4.trans e5))) _ _ g1, hP.same (e14.trans e5), hsz, fun H' k p => ?_⟩
  exact q H' ((Kp.of (e14.trans e5)).trans k) p
def sp_Draw (K : PySem.W.Frag) : Sp := fun vs H Q _ => ∃ x dx v p b as t ps m i, vs = [.ref x, v, .ref p] ∧ H x = some (.ins (cW K .draw) dx []) ∧ Ld K H v (Told.data t) ∧ SqP b H p (List.map V.ref as) ∧ Pls K H as ps ∧ Fit .draw t ps m i ∧ Sz (.node .draw t ps m i) ∧ ∀ H', Kp (some x) H H' → PlAt K H' x (.node .draw t ps m i) → Q .non H'
theorem ok_Draw (T : Txt K mg) : FnOk P0 w K mg base CX0 6 (aM K "Draw" "__init__") (dM K "Draw" "__init__") ["self", "weights", "parts"] (sp_Draw K) := by
  have G_Place := ok_Place (w := w) (base := base) T
  have G_need_parts := ok_need_parts (w := w) (base := base) T
  have G_need_alike := ok_need_alike (w := w) (base := base) T
  have G_hands_of := ok_hands_of (w := w) (base := base) T
  have G_is_list := ok_is_list (w := w) (base := base) T
  have G_is_weights := ok_is_weights (w := w) (base := base) T
  have G_kept_row := ok_kept_row (w := w) (base := base) T
  refine T.f_Draw___init__.ok sc_Draw___init__ (fun vs H Q E h => by first | (obtain ⟨_, rfl, _⟩ := h; rfl) | (obtain ⟨_, _, rfl, _⟩ := h; rfl) | (obtain ⟨_, _, _, rfl, _⟩ := h; rfl) | (obtain ⟨_, _, _, _, rfl, _⟩ := h; rfl) | (obtain ⟨_, _, _, _, _, rfl, _⟩ := h; rfl) | (obtain ⟨_, _, _, _, _, _, rfl, _⟩ := h; rfl) | (obtain ⟨_, _, _, _, _, _, _, rfl, _⟩ := h; rfl) | (obtain ⟨_, _, _, _, _, _, _, _, rfl, _⟩ := h; rfl) | (obtain ⟨_, _, _, _, _, _, _, _, _, rfl, _⟩ := h; rfl) | (obtain ⟨_, _, _, _, _, _, _, _, _, _, rfl, _⟩ := h; rfl) | (obtain ⟨_, _, _, _, _, _, _, _, _, _, _, rfl, _⟩ := h; rfl) | (obtain ⟨_, _, _, _, _, _, _, _, _, _, _, _, rfl, _⟩ := h; rfl) | (obtain ⟨_, _, _, _, _, _, _, _, _, _, _, _, _, rfl, _⟩ := h; rfl) | (obtain ⟨_, _, _, _, _, _, _, _, _, _, _, _, _, _, rfl, _⟩ := h; rfl) | (obtain ⟨_, _, _, _, _, _, _, _, _, _, _, _, _, _, _, rfl, _⟩ := h; rfl) | (obtain ⟨_, _, _, _, _, _, _, _, _, _, _, _, _, _, _, _, rfl, _⟩ := h; rfl) | (obtain ⟨rfl, _⟩ := h; rfl)) (fun A outer s H vs Q E hr h => ?_)
  obtain ⟨x, dx, v, p, b, as, t, ps, m, i, rfl, hx, hv, hp, hP, ⟨r, rfl, hrl, hl, hw, hmi⟩, hsz, q⟩ := h
  refine ⟨_, ((psa_cons (ps_if (PW.pt (pw_or (pt_not (pt_val (pe_call G_is_list (hr.mono (by omega)) rfl T.g_is_list T.f_is_list.kp T.b_is_list .nil pass0 (pa_cons (pv 1) pa_nil)))) (pw_or (pt_not (pt_chain op_le op_le pe_int (pe_callB (klen K rfl) (by rfl) T.z_len bt_len (pa_cons (pv 1) pa_nil)) (pe_globI rfl T.c_MOST_PARTS))) (pw_or1 (pt_not (pt_val (pe_call G_is_weights (hr.mono (by omega)) rfl T.g_is_weights T.f_is_weights.kp T.b_is_weights .nil pass0 (pa_cons (pv 1) (pa_cons (pe_callB (klen K rfl) (by rfl) T.z_len bt_len (pa_cons (pv 1) pa_nil)) pa_nil))))))))) pss_never pss_nil)
    (psa_cons (ps_set (i := 3) sc_Draw___init__.nd rfl (Or.inl rfl) (pe_call G_need_parts (hr.mono (by omega)) rfl T.g_need_parts T.f_need_parts.kp T.b_need_parts .nil pass0 (pa_cons (pv 2) pa_nil)))
    (psa_cons (ps_if (pt_cmpR op_ne (pe_callB (klen K rfl) (by rfl) T.z_len bt_len (pa_cons (pv 3) pa_nil)) (pe_callB (klen K rfl) (by rfl) T.z_len bt_len (pa_cons (pv 1) pa_nil)) (nomark _)) pss_never pss_nil)
    (psa_cons (ps_expr (pe_call G_need_alike (hr.mono (by omega)) rfl T.g_need_alike T.f_need_alike.kp T.b_need_alike .nil pass0 (pa_cons (pv 3) pa_nil)))
    (psa_cons (ksfld K rfl (pv 0) (pe_call G_kept_row (hr.mono (by omega)) rfl T.g_kept_row T.f_kept_row.kp T.b_kept_row .nil pass0 (pa_cons (pv 1) pa_nil)) rfl)
    (psa_sup T.f_Draw___init__ rfl sc_Draw___init__ (T.pl .draw).sup rfl (by decide +kernel) T.z_super G_Place (hr.mono (by omega)) T.b_Place pass0 (pa_cons pe_str (pa_cons (kfld K rfl (pv 0) rfl) (pa_cons (pe_call G_hands_of (hr.mono (by omega)) rfl T.g_hands_of T.f_hands_of.kp T.b_hands_of .nil pass0 (pa_cons (pe_ix (kix K rfl) (pv 3) pe_int (fun _ _ => rfl)) pa_nil)) (pa_cons (pv 3) pa_nil)))) rfl rfl rfl rfl rfl))))))), ?_⟩
  have P := T.pl .draw
  have hal : (as.map V.ref).length = ps.length := by rw [List.length_map, hP.1]
  obtain ⟨u0, hx0⟩ : ∃ u, (as.map V.ref)[0]? = some u := ⟨_, List.getElem?_eq_getElem (by rw [hal]; omega)⟩
  obtain ⟨va, vb, vxs, rfl, w1, w2, w3⟩ := hv.seq_inv
  rw [List.length_map] at w2
  refine ⟨_, rfl, _, false, rfl, .seq w1, fun H1 e1 => ⟨_, rfl, ?_⟩⟩
  have w1' := Same.sqb e1 w1
  refine ⟨_, rfl, va, vb, _, rfl, w1', ?_⟩
  refine ⟨_, _, rfl, rfl, _, rfl, itP (decide_eq_true (by rw [w2]; omega)) ⟨_, _, rfl, rfl, _, rfl, itN (nT (by rw [w2]; omega)) ?_⟩⟩
  refine ⟨_, rfl, _, rfl, va, vb, _, rfl, w1', .ref va, r, by rw [w2]; rfl, hv.same e1, by omega, hw, fun H2 e2 => ⟨_, rfl, ?_⟩⟩
  have e12 := e1.trans e2
  refine ⟨_, rfl, p, b, as, ps, rfl, hp.same e12, hP.same e12, hl.1, hl.2, fun q0 H3 e3 g3 => ?_⟩
  have e13 := e12.trans e3
  refine ⟨_, rfl, q0, false, _, rfl, SqT.of g3, _, rfl, va, vb, _, rfl, Same.sqb e13 w1, rfl, _, rfl, itN ?_ ?_⟩
  · rw [hal, w2, hrl]
    simp
  refine ⟨_, rfl, q0, as, ps, m, i, rfl, g3, hP.same e13, hl.1, hl.2, hmi, fun H4 e4 => ?_⟩
  have e14 := e13.trans e4
  refine ⟨_, rfl, _, r, rfl, hv.same e14, by omega, fun v' H5 e5 t5 => ?_⟩
  have e15 := e14.trans e5
  have x5 := e15 _ _ hx
  refine ⟨_, rfl, x, _, _, _, rfl, x5, P.cl, P.n_weights, by show 0 < 1000; decide, ?_⟩
  have lo : Loose H5 x := Loose.ins x5 rfl
  have k6 : Kp (some x) H (upd H5 x (.ins (cW K .draw) dx (putF "weights" v' []))) := (Kp.of e15).put
  have i6 : Im H5 (upd H5 x (.ins (cW K .draw) dx (putF "weights" v' []))) := im_upd lo
  have t6 := t5.im i6
  have P6 := (hP.same e15).im i6
  have g6 := i6.tup _ _ ((e4.trans e5) _ _ g3)
  have x6 : (upd H5 x (.ins (cW K .draw) dx (putF "weights" v' []))) x = some (.ins (cW K .draw) dx (putF "weights" v' [])) := upd_same
  have lt : (putF "weights" v' []).lookup ("weights" : Str) = some v' := by rw [lookup_putF, if_pos rfl]
  have lw : (putF "weights" v' []).lookup ("word" : Str) = none := by rw [lookup_putF, if_neg (by decide +kernel)]; rfl
  have ll : (putF "weights" v' []).length < 100 := by show 1 < 100; decide
  generalize upd H5 x (.ins (cW K .draw) dx (putF "weights" v' [])) = H6 at k6 i6 t6 P6 g6 x6 ⊢
  generalize putF "weights" v' [] = f6 at lt lw ll x6
  refine ⟨x, dx, f6, rfl, x6, fun q1 hq1 => ?_⟩
  have e7 : Same H6 (upd H6 q1 (.met (aM K "Place" "__init__") x)) := same_upd hq1
  have q7 : upd H6 q1 (.met (aM K "Place" "__init__") x) q1 = some (.met (aM K "Place" "__init__") x) := upd_same
  generalize upd H6 q1 (.met (aM K "Place" "__init__") x) = H7 at e7 q7 ⊢
  have x7 := e7 _ _ x6
  obtain ⟨b0, t0, rfl, hb0, ht0, hp0⟩ := (P6.same e7).at hx0
  obtain ⟨m0, i0⟩ := hmi t0 (List.mem_of_getElem? ht0)
  refine ⟨_, rfl, x, _, _, _, _, rfl, x7, P.cl, P.n_weights, lt, ?_⟩
  refine ⟨_, rfl, q0, false, _, 0, _, rfl, rfl, SqT.of (e7 _ _ g6), atI_nat (j := 0) hx0, b0, t0, rfl, hp0, fun hp8 H8 e8 g8 => ?_⟩
  rw [m0, i0] at g8
  have e78 := e7.trans e8
  refine ⟨_, rfl, e8 _ _ q7, x, dx, f6, .draw, .row r, v', hp8, q0, as, ps, m, i, rfl, e78 _ _ x6, ll, lw, t6.same e78, g8, e78 _ _ g6, P6.same e78, hsz, fun H' k p => ?_⟩
  exact q H' ((k6.trans (.of e78)).trans k) p
end
end PL
end
section
set_option maxHeartbeats 4000000
/-! D12: hides. -/
namespace PL
open PySem PySem.Spec PyProof.Rows L2
section
variable {w : World} {K : PySem.W.Frag} {mg : Str → Option Value} {base : Heap}
def sp_KeeperHides (K : PySem.W.Frag) : Sp := fun vs H Q _ => ∃ x dx v pa t pt m i, vs = [.ref x, v, .ref pa] ∧ H x = some (.ins (cW K .khides) dx []) ∧ Ld K H v (Told.data t) ∧ PlAt K H pa pt ∧ Fit .khides t [pt] m i ∧ (1 ≤ m ∧ m ≤ 8) ∧ (1 ≤ i ∧ i ≤ 8) ∧ Sz (.node .khides t [pt] m i) ∧ ∀ H', Kp (some x) H H' → PlAt K H' x (.node .khides t [pt] m i) → Q .non H'
theorem ok_KeeperHides (T : Txt K mg) : FnOk P0 w K mg base CX0 4 (aM K "KeeperHides" "__init__") (dM K "KeeperHides" "__init__") ["self", "counts", "part"] (sp_KeeperHides K) := by
  have G_Place := ok_Place (w := w) (base := base) T
  have G_need_counts := ok_need_counts (w := w) (base := base) T
  have G_need_place := ok_need_place (w := w) (base := base) T
  refine T.f_KeeperHides___init__.ok sc_KeeperHides___init__ (fun vs H Q E h => by first | (obtain ⟨_, rfl, _⟩ := h; rfl) | (obtain ⟨_, _, rfl, _⟩ := h; rfl) | (obtain ⟨_, _, _, rfl, _⟩ := h; rfl) | (obtain ⟨_, _, _, _, rfl, _⟩ := h; rfl) | (obtain ⟨_, _, _, _, _, rfl, _⟩ := h; rfl) | (obtain ⟨_, _, _, _, _, _, rfl, _⟩ := h; rfl) | (obtain ⟨_, _, _, _, _, _, _, rfl, _⟩ := h; rfl) | (obtain ⟨_, _, _, _, _, _, _, _, rfl, _⟩ := h; rfl) | (obtain ⟨_, _, _, _, _, _, _, _, _, rfl, _⟩ := h; rfl) | (obtain ⟨_, _, _, _, _, _, _, _, _, _, rfl, _⟩ := h; rfl) | (obtain ⟨_, _, _, _, _, _, _, _, _, _, _, rfl, _⟩ := h; rfl) | (obtain ⟨_, _, _, _, _, _, _, _, _, _, _, _, rfl, _⟩ := h; rfl) | (obtain ⟨_, _, _, _, _, _, _, _, _, _, _, _, _, rfl, _⟩ := h; rfl) | (obtain ⟨_, _, _, _, _, _, _, _, _, _, _, _, _, _, rfl, _⟩ := h; rfl) | (obtain ⟨_, _, _, _, _, _, _, _, _, _, _, _, _, _, _, rfl, _⟩ := h; rfl) | (obtain ⟨_, _, _, _, _, _, _, _, _, _, _, _, _, _, _, _, rfl, _⟩ := h; rfl) | (obtain ⟨rfl, _⟩ := h; rfl)) (fun A outer s H vs Q E hr h => ?_)
  obtain ⟨x, dx, v, pa, t, pt, m, i, rfl, hx, hv, hpa, ⟨r, pt', rfl, hpe, hrl, hrr, hps, hpo⟩, hm, hi, hsz, q⟩ := h
  obtain rfl : pt = pt' := by injection hpe
  refine ⟨_, ((psa_cons (ksfld K rfl (pv 0) (pe_call G_need_counts (hr.mono (by omega)) rfl T.g_need_counts T.f_need_counts.kp T.b_need_counts .nil pass0 (pa_cons (pv 1) pa_nil)) rfl)
    (psa_cons (ps_expr (pe_call G_need_place (hr.mono (by omega)) rfl T.g_need_place T.f_need_place.kp T.b_need_place .nil pass0 (pa_cons (pv 2) pa_nil)))
    (psa_cons (ps_if (pt_cmpR op_ne (kfld K rfl (pv 2) rfl) (pe_callB (ksumT K rfl rfl) (by rfl) T.z_sum bt_sum (pa_cons (kfld K rfl (pv 0) rfl) pa_nil)) (nomark _)) pss_never pss_nil)
    (psa_sup T.f_KeeperHides___init__ rfl sc_KeeperHides___init__ (T.pl .khides).sup rfl (by decide +kernel) T.z_super G_Place (hr.mono (by omega)) T.b_Place pass0 (pa_cons pe_str (pa_cons (kfld K rfl (pv 0) rfl) (pa_cons (pe_tup (pa_cons (pe_callB (klen K rfl) (by rfl) T.z_len bt_len (pa_cons (kfld K rfl (pv 0) rfl) pa_nil)) (pa_cons (kfld K rfl (pv 2) rfl) pa_nil))) (pa_cons (pe_tup (pa_cons (pv 2) pa_nil)) pa_nil)))) rfl rfl rfl rfl rfl))))), ?_⟩
  have P := T.pl .khides
  have hv' : Ld K H v (.tuple ((r.map fun (k : Nat) => (k : Int)).map PyData.int)) := by
    have : (Told.row (r.map fun (k : Nat) => Nm.i (k : Int))).data = .tuple ((r.map fun (k : Nat) => (k : Int)).map PyData.int) := by
      show PyData.tuple _ = _
      rw [List.map_map, List.map_map]
      rfl
    rw [← this]
    exact hv
  refine ⟨_, rfl, v, r.map fun (k : Nat) => (k : Int), rfl, hv', by rw [List.length_map]; omega, by rw [List.length_map]; omega, fun n hn => ?_, fun q0 H1 e1 g1 => ?_⟩
  · obtain ⟨k, hk, rfl⟩ := List.mem_map.mp hn
    have := hrr k hk
    show 1 ≤ (k : Int) ∧ (k : Int) ≤ 4
    omega
  have x1 := e1 _ _ hx
  refine ⟨_, rfl, x, _, _, _, rfl, x1, P.cl, P.n_counts, by show 0 < 1000; decide, ?_⟩
  have lo : Loose H1 x := Loose.ins x1 rfl
  have k2 : Kp (some x) H (upd H1 x (.ins (cW K .khides) dx (putF "counts" (.ref q0) []))) := (Kp.of e1).put
  have i2 : Im H1 (upd H1 x (.ins (cW K .khides) dx (putF "counts" (.ref q0) []))) := im_upd lo
  have g2 := i2.tup _ _ g1
  have p2 := (hpa.same e1).im i2
  have x2 : (upd H1 x (.ins (cW K .khides) dx (putF "counts" (.ref q0) []))) x = some (.ins (cW K .khides) dx (putF "counts" (.ref q0) [])) := upd_same
  have lt : (putF "counts" (.ref q0) []).lookup ("counts" : Str) = some (.ref q0) := by rw [lookup_putF, if_pos rfl]
  have lw : (putF "counts" (.ref q0) []).lookup ("word" : Str) = none := by rw [lookup_putF, if_neg (by decide +kernel)]; rfl
  have ll : (putF "counts" (.ref q0) []).length < 100 := by show 1 < 100; decide
  generalize upd H1 x (.ins (cW K .khides) dx (putF "counts" (.ref q0) [])) = H2 at k2 i2 g2 p2 x2 ⊢
  generalize putF "counts" (V.ref q0) [] = f2 at lt lw ll x2
  refine ⟨_, rfl, pa, pt, rfl, p2, ?_⟩
  obtain ⟨dx', pa', fs', vt', as', hH', hw, ht, htd, hk, hri, hpp', hpa', hal', hps', hmm, hll⟩ := p2.inv
  refine ⟨_, rfl, _, _, _, _, _, rfl, hH', (T.pl pt.w).cl, (T.pl pt.w).n_keeper_hands, hk, _, rfl, x, _, _, _, _, rfl, x2, P.cl, P.n_counts, lt, q0, _, rfl, SqT.of g2, rfl, _, rfl, itN ?_ ?_⟩
  · rw [sum_cast, hps]
    simp
  refine ⟨x, dx, f2, rfl, x2, fun q1 hq1 => ?_⟩
  have e6 : Same H2 (upd H2 q1 (.met (aM K "Place" "__init__") x)) := same_upd hq1
  have q6 : upd H2 q1 (.met (aM K "Place" "__init__") x) q1 = some (.met (aM K "Place" "__init__") x) := upd_same
  generalize upd H2 q1 (.met (aM K "Place" "__init__") x) = H6 at e6 q6 ⊢
  have x6 := e6 _ _ x2
  have g6 := e6 _ _ g2
  refine ⟨_, rfl, x, _, _, _, _, rfl, x6, P.cl, P.n_counts, lt, ?_⟩
  refine ⟨_, rfl, x, _, _, _, _, rfl, x6, P.cl, P.n_counts, lt, q0, false, _, rfl, SqT.of g6, _, rfl, _, _, _, _, _, rfl, e6 _ _ hH', (T.pl pt.w).cl, (T.pl pt.w).n_rival_hands, hri, (by show 2 ≤ sizeLine; decide), fun hp8 hhp8 => ⟨_, rfl, (by show 1 ≤ sizeLine; decide), fun pp hpp => ?_⟩⟩
  rw [List.length_map, List.length_map, hrl, hpo] at hpp ⊢
  have e8 : Same H6 (upd (upd H6 hp8 (.tup [.int ((m : Nat) : Int), .int ((i : Nat) : Int)])) pp (.tup [.ref pa])) := Same.snoc (same_upd hhp8) hpp
  have g8 : (upd (upd H6 hp8 (.tup [.int ((m : Nat) : Int), .int ((i : Nat) : Int)])) pp (.tup [.ref pa])) hp8 = some (.tup [.int ((m : Nat) : Int), .int ((i : Nat) : Int)]) := (same_upd hpp) _ _ upd_same
  have e68 := e6.trans e8
  have td : Td H2 (.ref q0) (Told.row (r.map fun (k : Nat) => Nm.i (k : Int))).data := by
    have : (Told.row (r.map fun (k : Nat) => Nm.i (k : Int))).data = .tuple ((r.map fun (k : Nat) => (k : Int)).map PyData.int) := by
      show PyData.tuple _ = _
      rw [List.map_map, List.map_map]
      rfl
    rw [this]
    exact td_ints g2
  refine ⟨e8 _ _ q6, x, dx, f2, .khides, .row (r.map fun (k : Nat) => Nm.i (k : Int)), .ref q0, hp8, pp, [pa], [pt], m, i, rfl, e68 _ _ x2, ll, lw, td.same e68, g8, upd_same, ⟨rfl, fun k b p h1 h2 => ?_⟩, hsz, fun H' k p => ?_⟩
  · match k, h1, h2 with
    | 0, h1, h2 =>
      cases h1
      cases h2
      exact p2.same e68
  exact q H' ((k2.trans (.of e68)).trans k) p
def sp_RivalHides (K : PySem.W.Frag) : Sp := fun vs H Q _ => ∃ x dx v pa t pt m i, vs = [.ref x, v, .ref pa] ∧ H x = some (.ins (cW K .rhides) dx []) ∧ Ld K H v (Told.data t) ∧ PlAt K H pa pt ∧ Fit .rhides t [pt] m i ∧ (1 ≤ m ∧ m ≤ 8) ∧ (1 ≤ i ∧ i ≤ 8) ∧ Sz (.node .rhides t [pt] m i) ∧ ∀ H', Kp (some x) H H' → PlAt K H' x (.node .rhides t [pt] m i) → Q .non H'
theorem ok_RivalHides (T : Txt K mg) : FnOk P0 w K mg base CX0 4 (aM K "RivalHides" "__init__") (dM K "RivalHides" "__init__") ["self", "counts", "part"] (sp_RivalHides K) := by
  have G_Place := ok_Place (w := w) (base := base) T
  have G_need_counts := ok_need_counts (w := w) (base := base) T
  have G_need_place := ok_need_place (w := w) (base := base) T
  refine T.f_RivalHides___init__.ok sc_RivalHides___init__ (fun vs H Q E h => by first | (obtain ⟨_, rfl, _⟩ := h; rfl) | (obtain ⟨_, _, rfl, _⟩ := h; rfl) | (obtain ⟨_, _, _, rfl, _⟩ := h; rfl) | (obtain ⟨_, _, _, _, rfl, _⟩ := h; rfl) | (obtain ⟨_, _, _, _, _, rfl, _⟩ := h; rfl) | (obtain ⟨_, _, _, _, _, _, rfl, _⟩ := h; rfl) | (obtain ⟨_, _, _, _, _, _, _, rfl, _⟩ := h; rfl) | (obtain ⟨_, _, _, _, _, _, _, _, rfl, _⟩ := h; rfl) | (obtain ⟨_, _, _, _, _, _, _, _, _, rfl, _⟩ := h; rfl) | (obtain ⟨_, _, _, _, _, _, _, _, _, _, rfl, _⟩ := h; rfl) | (obtain ⟨_, _, _, _, _, _, _, _, _, _, _, rfl, _⟩ := h; rfl) | (obtain ⟨_, _, _, _, _, _, _, _, _, _, _, _, rfl, _⟩ := h; rfl) | (obtain ⟨_, _, _, _, _, _, _, _, _, _, _, _, _, rfl, _⟩ := h; rfl) | (obtain ⟨_, _, _, _, _, _, _, _, _, _, _, _, _, _, rfl, _⟩ := h; rfl) | (obtain ⟨_, _, _, _, _, _, _, _, _, _, _, _, _, _, _, rfl, _⟩ := h; rfl) | (obtain ⟨_, _, _, _, _, _, _, _, _, _, _, _, _, _, _, _, rfl, _⟩ := h; rfl) | (obtain ⟨rfl, _⟩ := h; rfl)) (fun A outer s H vs Q E hr h => ?_)
  obtain ⟨x, dx, v, pa, t, pt, m, i, rfl, hx, hv, hpa, ⟨r, pt', rfl, hpe, hrl, hrr, hps, hpo⟩, hm, hi, hsz, q⟩ := h
  obtain rfl : pt = pt' := by injection hpe
  refine ⟨_, ((psa_cons (ksfld K rfl (pv 0) (pe_call G_need_counts (hr.mono (by omega)) rfl T.g_need_counts T.f_need_counts.kp T.b_need_counts .nil pass0 (pa_cons (pv 1) pa_nil)) rfl)
    (psa_cons (ps_expr (pe_call G_need_place (hr.mono (by omega)) rfl T.g_need_place T.f_need_place.kp T.b_need_place .nil pass0 (pa_cons (pv 2) pa_nil)))
    (psa_cons (ps_if (pt_cmpR op_ne (kfld K rfl (pv 2) rfl) (pe_callB (ksumT K rfl rfl) (by rfl) T.z_sum bt_sum (pa_cons (kfld K rfl (pv 0) rfl) pa_nil)) (nomark _)) pss_never pss_nil)
    (psa_sup T.f_RivalHides___init__ rfl sc_RivalHides___init__ (T.pl .rhides).sup rfl (by decide +kernel) T.z_super G_Place (hr.mono (by omega)) T.b_Place pass0 (pa_cons pe_str (pa_cons (kfld K rfl (pv 0) rfl) (pa_cons (pe_tup (pa_cons (kfld K rfl (pv 2) rfl) (pa_cons (pe_callB (klen K rfl) (by rfl) T.z_len bt_len (pa_cons (kfld K rfl (pv 0) rfl) pa_nil)) pa_nil))) (pa_cons (pe_tup (pa_cons (pv 2) pa_nil)) pa_nil)))) rfl rfl rfl rfl rfl))))), ?_⟩
  have P := T.pl .rhides
  have hv' : Ld K H v (.tuple ((r.map fun (k : Nat) => (k : Int)).map PyData.int)) := by
    have : (Told.row (r.map fun (k : Nat) => Nm.i (k : Int))).data = .tuple ((r.map fun (k : Nat) => (k : Int)).map PyData.int) := by
      show PyData.tuple _ = _
      rw [List.map_map, List.map_map]
      rfl
    rw [← this]
    exact hv
  refine ⟨_, rfl, v, r.map fun (k : Nat) => (k : Int), rfl, hv', by rw [List.length_map]; omega, by rw [List.length_map]; omega, fun n hn => ?_, fun q0 H1 e1 g1 => ?_⟩
  · obtain ⟨k, hk, rfl⟩ := List.mem_map.mp hn
    have := hrr k hk
    show 1 ≤ (k : Int) ∧ (k : Int) ≤ 4
    omega
  have x1 := e1 _ _ hx
  refine ⟨_, rfl, x, _, _, _, rfl, x1, P.cl, P.n_counts, by show 0 < 1000; decide, ?_⟩
  have lo : Loose H1 x := Loose.ins x1 rfl
  have k2 : Kp (some x) H (upd H1 x (.ins (cW K .rhides) dx (putF "counts" (.ref q0) []))) := (Kp.of e1).put
  have i2 : Im H1 (upd H1 x (.ins (cW K .rhides) dx (putF "counts" (.ref q0) []))) := im_upd lo
  have g2 := i2.tup _ _ g1
  have p2 := (hpa.same e1).im i2
  have x2 : (upd H1 x (.ins (cW K .rhides) dx (putF "counts" (.ref q0) []))) x = some (.ins (cW K .rhides) dx (putF "counts" (.ref q0) [])) := upd_same
  have lt : (putF "counts" (.ref q0) []).lookup ("counts" : Str) = some (.ref q0) := by rw [lookup_putF, if_pos rfl]
  have lw : (putF "counts" (.ref q0) []).lookup ("word" : Str) = none := by rw [lookup_putF, if_neg (by decide +kernel)]; rfl
  have ll : (putF "counts" (.ref q0) []).length < 100 := by show 1 < 100; decide
  generalize upd H1 x (.ins (cW K .rhides) dx (putF "counts" (.ref q0) [])) = H2 at k2 i2 g2 p2 x2 ⊢
  generalize putF "counts" (V.ref q0) [] = f2 at lt lw ll x2
  refine ⟨_, rfl, pa, pt, rfl, p2, ?_⟩
  obtain ⟨dx', pa', fs', vt', as', hH', hw, ht, htd, hk, hri, hpp', hpa', hal', hps', hmm, hll⟩ := p2.inv
  refine ⟨_, rfl, _, _, _, _, _, rfl, hH', (T.pl pt.w).cl, (T.pl pt.w).n_rival_hands, hri, _, rfl, x, _, _, _, _, rfl, x2, P.cl, P.n_counts, lt, q0, _, rfl, SqT.of g2, rfl, _, rfl, itN ?_ ?_⟩
  · rw [sum_cast, hps]
    simp
  refine ⟨x, dx, f2, rfl, x2, fun q1 hq1 => ?_⟩
  have e6 : Same H2 (upd H2 q1 (.met (aM K "Place" "__init__") x)) := same_upd hq1
  have q6 : upd H2 q1 (.met (aM K "Place" "__init__") x) q1 = some (.met (aM K "Place" "__init__") x) := upd_same
  generalize upd H2 q1 (.met (aM K "Place" "__init__") x) = H6 at e6 q6 ⊢
  have x6 := e6 _ _ x2
  have g6 := e6 _ _ g2
  refine ⟨_, rfl, x, _, _, _, _, rfl, x6, P.cl, P.n_counts, lt, ?_⟩
  refine ⟨_, rfl, _, _, _, _, _, rfl, e6 _ _ hH', (T.pl pt.w).cl, (T.pl pt.w).n_keeper_hands, hk, _, rfl, x, _, _, _, _, rfl, x6, P.cl, P.n_counts, lt, q0, false, _, rfl, SqT.of g6, (by show 2 ≤ sizeLine; decide), fun hp8 hhp8 => ⟨_, rfl, (by show 1 ≤ sizeLine; decide), fun pp hpp => ?_⟩⟩
  rw [List.length_map, List.length_map, hrl, hpo] at hpp ⊢
  have e8 : Same H6 (upd (upd H6 hp8 (.tup [.int ((m : Nat) : Int), .int ((i : Nat) : Int)])) pp (.tup [.ref pa])) := Same.snoc (same_upd hhp8) hpp
  have g8 : (upd (upd H6 hp8 (.tup [.int ((m : Nat) : Int), .int ((i : Nat) : Int)])) pp (.tup [.ref pa])) hp8 = some (.tup [.int ((m : Nat) : Int), .int ((i : Nat) : Int)]) := (same_upd hpp) _ _ upd_same
  have e68 := e6.trans e8
  have td : Td H2 (.ref q0) (Told.row (r.map fun (k : Nat) => Nm.i (k : Int))).data := by
    have : (Told.row (r.map fun (k : Nat) => Nm.i (k : Int))).data = .tuple ((r.map fun (k : Nat) => (k : Int)).map PyData.int) := by
      show PyData.tuple _ = _
      rw [List.map_map, List.map_map]
      rfl
    rw [this]
    exact td_ints g2
  refine ⟨e8 _ _ q6, x, dx, f2, .rhides, .row (r.map fun (k : Nat) => Nm.i (k : Int)), .ref q0, hp8, pp, [pa], [pt], m, i, rfl, e68 _ _ x2, ll, lw, td.same e68, g8, upd_same, ⟨rfl, fun k b p h1 h2 => ?_⟩, hsz, fun H' k p => ?_⟩
  · match k, h1, h2 with
    | 0, h1, h2 =>
      cases h1
      cases h2
      exact p2.same e68
  exact q H' ((k2.trans (.of e68)).trans k) p
end
end PL
end
section
set_option maxHeartbeats 4000000
/-! D13: sees. -/
namespace PL
open PySem PySem.Spec PyProof.Rows L2
section
variable {w : World} {K : PySem.W.Frag} {mg : Str → Option Value} {base : Heap}
def sp_KeeperSees (K : PySem.W.Frag) : Sp := fun vs H Q _ => ∃ x dx v pa t pt m i, vs = [.ref x, v, .ref pa] ∧ H x = some (.ins (cW K .ksees) dx []) ∧ Ld K H v (Told.data t) ∧ PlAt K H pa pt ∧ Fit .ksees t [pt] m i ∧ (1 ≤ m ∧ m ≤ 8) ∧ (1 ≤ i ∧ i ≤ 8) ∧ Sz (.node .ksees t [pt] m i) ∧ ∀ H', Kp (some x) H H' → PlAt K H' x (.node .ksees t [pt] m i) → Q .non H'
theorem ok_KeeperSees (T : Txt K mg) : FnOk P0 w K mg base CX0 7 (aM K "KeeperSees" "__init__") (dM K "KeeperSees" "__init__") ["self", "weights", "part"] (sp_KeeperSees K) := by
  have G_Place := ok_Place (w := w) (base := base) T
  have G_need_rows := ok_need_rows (w := w) (base := base) T
  have G_need_place := ok_need_place (w := w) (base := base) T
  refine T.f_KeeperSees___init__.ok sc_KeeperSees___init__ (fun vs H Q E h => by first | (obtain ⟨_, rfl, _⟩ := h; rfl) | (obtain ⟨_, _, rfl, _⟩ := h; rfl) | (obtain ⟨_, _, _, rfl, _⟩ := h; rfl) | (obtain ⟨_, _, _, _, rfl, _⟩ := h; rfl) | (obtain ⟨_, _, _, _, _, rfl, _⟩ := h; rfl) | (obtain ⟨_, _, _, _, _, _, rfl, _⟩ := h; rfl) | (obtain ⟨_, _, _, _, _, _, _, rfl, _⟩ := h; rfl) | (obtain ⟨_, _, _, _, _, _, _, _, rfl, _⟩ := h; rfl) | (obtain ⟨_, _, _, _, _, _, _, _, _, rfl, _⟩ := h; rfl) | (obtain ⟨_, _, _, _, _, _, _, _, _, _, rfl, _⟩ := h; rfl) | (obtain ⟨_, _, _, _, _, _, _, _, _, _, _, rfl, _⟩ := h; rfl) | (obtain ⟨_, _, _, _, _, _, _, _, _, _, _, _, rfl, _⟩ := h; rfl) | (obtain ⟨_, _, _, _, _, _, _, _, _, _, _, _, _, rfl, _⟩ := h; rfl) | (obtain ⟨_, _, _, _, _, _, _, _, _, _, _, _, _, _, rfl, _⟩ := h; rfl) | (obtain ⟨_, _, _, _, _, _, _, _, _, _, _, _, _, _, _, rfl, _⟩ := h; rfl) | (obtain ⟨_, _, _, _, _, _, _, _, _, _, _, _, _, _, _, _, rfl, _⟩ := h; rfl) | (obtain ⟨rfl, _⟩ := h; rfl)) (fun A outer s H vs Q E hr h => ?_)
  obtain ⟨x, dx, v, pa, t, pt, m, i, rfl, hx, hv, hpa, ⟨r, pt', rfl, hpe, hrl, hrr, hps, hpo⟩, hm, hi, hsz, q⟩ := h
  obtain rfl : pt = pt' := by injection hpe
  refine ⟨_, ((psa_cons (ksfld K rfl (pv 0) (pe_call G_need_rows (hr.mono (by omega)) rfl T.g_need_rows T.f_need_rows.kp T.b_need_rows .nil pass0 (pa_cons (pv 1) pa_nil)) rfl)
    (psa_cons (ps_expr (pe_call G_need_place (hr.mono (by omega)) rfl T.g_need_place T.f_need_place.kp T.b_need_place .nil pass0 (pa_cons (pv 2) pa_nil)))
    (psa_cons (ps_if (pt_cmpR op_ne (kfld K rfl (pv 2) rfl) (pe_callB (ksum K rfl rfl) (by rfl) T.z_sum bt_sum (pa_cons (pe_lc (own := [("row", 3)]) rfl sc_KeeperSees___init__.nd (kpi K rfl (kfld K rfl (pv 0) rfl)) (blkOk_by (by kernel_rfl)) (fun _ _ _ _ _ => (pg_name (i := 3) sc_KeeperSees___init__.nd rfl (Or.inl rfl))) (fun _ _ _ _ _ => pts_nil) (fun _ _ _ _ _ => (pe_callB (klen K rfl) (by rfl) T.z_len bt_len (pa_cons (pv 3) pa_nil)))) pa_nil)) (nomark _)) pss_never pss_nil)
    (psa_sup T.f_KeeperSees___init__ rfl sc_KeeperSees___init__ (T.pl .ksees).sup rfl (by decide +kernel) T.z_super G_Place (hr.mono (by omega)) T.b_Place pass0 (pa_cons pe_str (pa_cons (kfld K rfl (pv 0) rfl) (pa_cons (pe_tup (pa_cons (pe_callB (klen K rfl) (by rfl) T.z_len bt_len (pa_cons (kfld K rfl (pv 0) rfl) pa_nil)) (pa_cons (kfld K rfl (pv 2) rfl) pa_nil))) (pa_cons (pe_tup (pa_cons (pv 2) pa_nil)) pa_nil)))) rfl rfl rfl rfl rfl))))), ?_⟩
  have P := T.pl .ksees
  refine ⟨_, rfl, v, r, rfl, hv, by omega, by omega, fun y hy => ⟨(hrr y hy).1.1, (hrr y hy).1.2, (hrr y hy).2⟩, fun v' H1 e1 t1 => ?_⟩
  have x1 := e1 _ _ hx
  refine ⟨_, rfl, x, _, _, _, rfl, x1, P.cl, P.n_weights, by show 0 < 1000; decide, ?_⟩
  have lo : Loose H1 x := Loose.ins x1 rfl
  have k2 : Kp (some x) H (upd H1 x (.ins (cW K .ksees) dx (putF "weights" v' []))) := (Kp.of e1).put
  have i2 : Im H1 (upd H1 x (.ins (cW K .ksees) dx (putF "weights" v' []))) := im_upd lo
  have t2 := t1.im i2
  have p2 := (hpa.same e1).im i2
  have x2 : (upd H1 x (.ins (cW K .ksees) dx (putF "weights" v' []))) x = some (.ins (cW K .ksees) dx (putF "weights" v' [])) := upd_same
  have lt : (putF "weights" v' []).lookup ("weights" : Str) = some v' := by rw [lookup_putF, if_pos rfl]
  have lw : (putF "weights" v' []).lookup ("word" : Str) = none := by rw [lookup_putF, if_neg (by decide +kernel)]; rfl
  have ll : (putF "weights" v' []).length < 100 := by show 1 < 100; decide
  generalize upd H1 x (.ins (cW K .ksees) dx (putF "weights" v' [])) = H2 at k2 i2 t2 p2 x2 ⊢
  generalize putF "weights" v' [] = f2 at lt lw ll x2
  obtain ⟨q0, rs, rfl, g2, gl, ge⟩ := t2.tuple_inv
  rw [List.length_map] at gl
  refine ⟨_, rfl, pa, pt, rfl, p2, ?_⟩
  obtain ⟨dx', pa', fs', vt', as', hH', hw, ht, htd, hk, hri, hpp', hpa', hal', hps', hmm, hll⟩ := p2.inv
  have sq2 : SqB false K H2 q0 rs := SqT.of g2
  have hz : rs.length < sizeLine := by rw [gl]; exact Nat.lt_of_le_of_lt (show _ ≤ 8 by omega) (by decide)
  refine ⟨_, rfl, _, _, _, _, _, rfl, hH', (T.pl pt.w).cl, (T.pl pt.w).n_keeper_hands, hk, _, rfl, x, _, _, _, _, rfl, x2, P.cl, P.n_weights, lt, q0, false, rfl, ⟨_, sq2⟩, fun D hD => lc_pure hD sq2 hz (fun _ => rfl) (fun j y _ => ∀ z, r[j]? = some z → y = .int ((List.length z : Nat) : Int)) (fun _ _ _ _ _ h => h) ?_ ?_⟩
  · intro j y H5 hy e5 Qe hq
    have hj : j < r.length := by rw [← gl]; exact (List.getElem?_eq_some_iff.mp hy).1
    obtain ⟨ya, ys, rfl, y1, y2, y3⟩ := ((ge j y (.tuple ((r[j]).map Nm.data)) hy (by rw [List.getElem?_map, List.getElem?_eq_getElem hj] <;> rfl)).same e5).tuple_inv
    refine ⟨_, rfl, ya, false, _, rfl, SqT.of y1, hq _ _ (Same.refl _) fun z hz => ?_⟩
    rw [List.getElem?_eq_getElem hj] at hz
    cases hz
    rw [y2, List.length_map]
  intro ys H3 e3 hD3 hl3 hP3
  have ey : ys = (r.map fun l => ((List.length l : Nat) : Int)).map V.int := by
    rw [ys_map (f := fun l : List Nm => V.int ((List.length l : Nat) : Int)) (hl3.trans gl) hP3, List.map_map]
    rfl
  refine ⟨_, _, rfl, SqL.of (ey ▸ hD3), rfl, _, rfl, itN ?_ ?_⟩
  · have : (r.map fun l => ((List.length l : Nat) : Int)).sum = (((r.map List.length).sum : Nat) : Int) := by
      rw [← sum_cast, List.map_map]
      rfl
    rw [this, hps]
    simp
  have x3 := e3 _ _ x2
  have hH3 := e3 _ _ hH'
  refine ⟨x, dx, f2, rfl, x3, fun q1 hq1 => ?_⟩
  have e6 : Same H3 (upd H3 q1 (.met (aM K "Place" "__init__") x)) := same_upd hq1
  have q6 : upd H3 q1 (.met (aM K "Place" "__init__") x) q1 = some (.met (aM K "Place" "__init__") x) := upd_same
  generalize upd H3 q1 (.met (aM K "Place" "__init__") x) = H6 at e6 q6 ⊢
  have x6 := e6 _ _ x3
  have g6 := (e3.trans e6) _ _ g2
  refine ⟨_, rfl, x, _, _, _, _, rfl, x6, P.cl, P.n_weights, lt, ?_⟩
  refine ⟨_, rfl, x, _, _, _, _, rfl, x6, P.cl, P.n_weights, lt, q0, false, _, rfl, SqT.of g6, _, rfl, _, _, _, _, _, rfl, e6 _ _ hH3, (T.pl pt.w).cl, (T.pl pt.w).n_rival_hands, hri, (by show 2 ≤ sizeLine; decide), fun hp8 hhp8 => ⟨_, rfl, (by show 1 ≤ sizeLine; decide), fun pp hpp => ?_⟩⟩
  rw [gl, hrl, hpo] at hpp ⊢
  have e8 : Same H6 (upd (upd H6 hp8 (.tup [.int ((m : Nat) : Int), .int ((i : Nat) : Int)])) pp (.tup [.ref pa])) := Same.snoc (same_upd hhp8) hpp
  have g8 : (upd (upd H6 hp8 (.tup [.int ((m : Nat) : Int), .int ((i : Nat) : Int)])) pp (.tup [.ref pa])) hp8 = some (.tup [.int ((m : Nat) : Int), .int ((i : Nat) : Int)]) := (same_upd hpp) _ _ upd_same
  have e68 := e3.trans (e6.trans e8)
  refine ⟨e8 _ _ q6, x, dx, f2, .ksees, .rows r, .ref q0, hp8, pp, [pa], [pt], m, i, rfl, e68 _ _ x2, ll, lw, t2.same e68, g8, upd_same, ⟨rfl, fun k b p h1 h2 => ?_⟩, hsz, fun H' k p => ?_⟩
  · match k, h1, h2 with
    | 0, h1, h2 =>
      cases h1
      cases h2
      exact p2.same e68
  exact q H' ((k2.trans (.of e68)).trans k) p
def sp_RivalSees (K : PySem.W.Frag) : Sp := fun vs H Q _ => ∃ x dx v pa t pt m i, vs = [.ref x, v, .ref pa] ∧ H x = some (.ins (cW K .rsees) dx []) ∧ Ld K H v (Told.data t) ∧ PlAt K H pa pt ∧ Fit .rsees t [pt] m i ∧ (1 ≤ m ∧ m ≤ 8) ∧ (1 ≤ i ∧ i ≤ 8) ∧ Sz (.node .rsees t [pt] m i) ∧ ∀ H', Kp (some x) H H' → PlAt K H' x (.node .rsees t [pt] m i) → Q .non H'
theorem ok_RivalSees (T : Txt K mg) : FnOk P0 w K mg base CX0 7 (aM K "RivalSees" "__init__") (dM K "RivalSees" "__init__") ["self", "weights", "part"] (sp_RivalSees K) := by
  have G_Place := ok_Place (w := w) (base := base) T
  have G_need_rows := ok_need_rows (w := w) (base := base) T
  have G_need_place := ok_need_place (w := w) (base := base) T
  refine T.f_RivalSees___init__.ok sc_RivalSees___init__ (fun vs H Q E h => by first | (obtain ⟨_, rfl, _⟩ := h; rfl) | (obtain ⟨_, _, rfl, _⟩ := h; rfl) | (obtain ⟨_, _, _, rfl, _⟩ := h; rfl) | (obtain ⟨_, _, _, _, rfl, _⟩ := h; rfl) | (obtain ⟨_, _, _, _, _, rfl, _⟩ := h; rfl) | (obtain ⟨_, _, _, _, _, _, rfl, _⟩ := h; rfl) | (obtain ⟨_, _, _, _, _, _, _, rfl, _⟩ := h; rfl) | (obtain ⟨_, _, _, _, _, _, _, _, rfl, _⟩ := h; rfl) | (obtain ⟨_, _, _, _, _, _, _, _, _, rfl, _⟩ := h; rfl) | (obtain ⟨_, _, _, _, _, _, _, _, _, _, rfl, _⟩ := h; rfl) | (obtain ⟨_, _, _, _, _, _, _, _, _, _, _, rfl, _⟩ := h; rfl) | (obtain ⟨_, _, _, _, _, _, _, _, _, _, _, _, rfl, _⟩ := h; rfl) | (obtain ⟨_, _, _, _, _, _, _, _, _, _, _, _, _, rfl, _⟩ := h; rfl) | (obtain ⟨_, _, _, _, _, _, _, _, _, _, _, _, _, _, rfl, _⟩ := h; rfl) | (obtain ⟨_, _, _, _, _, _, _, _, _, _, _, _, _, _, _, rfl, _⟩ := h; rfl) | (obtain ⟨_, _, _, _, _, _, _, _, _, _, _, _, _, _, _, _, rfl, _⟩ := h; rfl) | (obtain ⟨rfl, _⟩ := h; rfl)) (fun A outer s H vs Q E hr h => ?_)
  obtain ⟨x, dx, v, pa, t, pt, m, i, rfl, hx, hv, hpa, ⟨r, pt', rfl, hpe, hrl, hrr, hps, hpo⟩, hm, hi, hsz, q⟩ := h
  obtain rfl : pt = pt' := by injection hpe
  refine ⟨_, ((psa_cons (ksfld K rfl (pv 0) (pe_call G_need_rows (hr.mono (by omega)) rfl T.g_need_rows T.f_need_rows.kp T.b_need_rows .nil pass0 (pa_cons (pv 1) pa_nil)) rfl)
    (psa_cons (ps_expr (pe_call G_need_place (hr.mono (by omega)) rfl T.g_need_place T.f_need_place.kp T.b_need_place .nil pass0 (pa_cons (pv 2) pa_nil)))
    (psa_cons (ps_if (pt_cmpR op_ne (kfld K rfl (pv 2) rfl) (pe_callB (ksum K rfl rfl) (by rfl) T.z_sum bt_sum (pa_cons (pe_lc (own := [("row", 3)]) rfl sc_RivalSees___init__.nd (kpi K rfl (kfld K rfl (pv 0) rfl)) (blkOk_by (by kernel_rfl)) (fun _ _ _ _ _ => (pg_name (i := 3) sc_RivalSees___init__.nd rfl (Or.inl rfl))) (fun _ _ _ _ _ => pts_nil) (fun _ _ _ _ _ => (pe_callB (klen K rfl) (by rfl) T.z_len bt_len (pa_cons (pv 3) pa_nil)))) pa_nil)) (nomark _)) pss_never pss_nil)
    (psa_sup T.f_RivalSees___init__ rfl sc_RivalSees___init__ (T.pl .rsees).sup rfl (by decide +kernel) T.z_super G_Place (hr.mono (by omega)) T.b_Place pass0 (pa_cons pe_str (pa_cons (kfld K rfl (pv 0) rfl) (pa_cons (pe_tup (pa_cons (kfld K rfl (pv 2) rfl) (pa_cons (pe_callB (klen K rfl) (by rfl) T.z_len bt_len (pa_cons (kfld K rfl (pv 0) rfl) pa_nil)) pa_nil))) (pa_cons (pe_tup (pa_cons (pv 2) pa_nil)) pa_nil)))) rfl rfl rfl rfl rfl))))), ?_⟩
  have P := T.pl .rsees
  refine ⟨_, rfl, v, r, rfl, hv, by omega, by omega, fun y hy => ⟨(hrr y hy).1.1, (hrr y hy).1.2, (hrr y hy).2⟩, fun v' H1 e1 t1 => ?_⟩
  have x1 := e1 _ _ hx
  refine ⟨_, rfl, x, _, _, _, rfl, x1, P.cl, P.n_weights, by show 0 < 1000; decide, ?_⟩
  have lo : Loose H1 x := Loose.ins x1 rfl
  have k2 : Kp (some x) H (upd H1 x (.ins (cW K .rsees) dx (putF "weights" v' []))) := (Kp.of e1).put
  have i2 : Im H1 (upd H1 x (.ins (cW K .rsees) dx (putF "weights" v' []))) := im_upd lo
  have t2 := t1.im i2
  have p2 := (hpa.same e1).im i2
  have x2 : (upd H1 x (.ins (cW K .rsees) dx (putF "weights" v' []))) x = some (.ins (cW K .rsees) dx (putF "weights" v' [])) := upd_same
  have lt : (putF "weights" v' []).lookup ("weights" : Str) = some v' := by rw [lookup_putF, if_pos rfl]
  have lw : (putF "weights" v' []).lookup ("word" : Str) = none := by rw [lookup_putF, if_neg (by decide +kernel)]; rfl
  have ll : (putF "weights" v' []).length < 100 := by show 1 < 100; decide
  generalize upd H1 x (.ins (cW K .rsees) dx (putF "weights" v' [])) = H2 at k2 i2 t2 p2 x2 ⊢
  generalize putF "weights" v' [] = f2 at lt lw ll x2
  obtain ⟨q0, rs, rfl, g2, gl, ge⟩ := t2.tuple_inv
  rw [List.length_map] at gl
  refine ⟨_, rfl, pa, pt, rfl, p2, ?_⟩
  obtain ⟨dx', pa', fs', vt', as', hH', hw, ht, htd, hk, hri, hpp', hpa', hal', hps', hmm, hll⟩ := p2.inv
  have sq2 : SqB false K H2 q0 rs := SqT.of g2
  have hz : rs.length < sizeLine := by rw [gl]; exact Nat.lt_of_le_of_lt (show _ ≤ 8 by omega) (by decide)
  refine ⟨_, rfl, _, _, _, _, _, rfl, hH', (T.pl pt.w).cl, (T.pl pt.w).n_rival_hands, hri, _, rfl, x, _, _, _, _, rfl, x2, P.cl, P.n_weights, lt, q0, false, rfl, ⟨_, sq2⟩, fun D hD => lc_pure hD sq2 hz (fun _ => rfl) (fun j y _ => ∀ z, r[j]? = some z → y = .int ((List.length z : Nat) : Int)) (fun _ _ _ _ _ h => h) ?_ ?_⟩
  · intro j y H5 hy e5 Qe hq
    have hj : j < r.length := by rw [← gl]; exact (List.getElem?_eq_some_iff.mp hy).1
    obtain ⟨ya, ys, rfl, y1, y2, y3⟩ := ((ge j y (.tuple ((r[j]).map Nm.data)) hy (by rw [List.getElem?_map, List.getElem?_eq_getElem hj] <;> rfl)).same e5).tuple_inv
    refine ⟨_, rfl, ya, false, _, rfl, SqT.of y1, hq _ _ (Same.refl _) fun z hz => ?_⟩
    rw [List.getElem?_eq_getElem hj] at hz
    cases hz
    rw [y2, List.length_map]
  intro ys H3 e3 hD3 hl3 hP3
  have ey : ys = (r.map fun l => ((List.length l : Nat) : Int)).map V.int := by
    rw [ys_map (f := fun l : List Nm => V.int ((List.length l : Nat) : Int)) (hl3.trans gl) hP3, List.map_map]
    rfl
  refine ⟨_, _, rfl, SqL.of (ey ▸ hD3), rfl, _, rfl, itN ?_ ?_⟩
  · have : (r.map fun l => ((List.length l : Nat) : Int)).sum = (((r.map List.length).sum : Nat) : Int) := by
      rw [← sum_cast, List.map_map]
      rfl
    rw [this, hps]
    simp
  have x3 := e3 _ _ x2
  have hH3 := e3 _ _ hH'
  refine ⟨x, dx, f2, rfl, x3, fun q1 hq1 => ?_⟩
  have e6 : Same H3 (upd H3 q1 (.met (aM K "Place" "__init__") x)) := same_upd hq1
  have q6 : upd H3 q1 (.met (aM K "Place" "__init__") x) q1 = some (.met (aM K "Place" "__init__") x) := upd_same
  generalize upd H3 q1 (.met (aM K "Place" "__init__") x) = H6 at e6 q6 ⊢
  have x6 := e6 _ _ x3
  have g6 := (e3.trans e6) _ _ g2
  refine ⟨_, rfl, x, _, _, _, _, rfl, x6, P.cl, P.n_weights, lt, ?_⟩
  refine ⟨_, rfl, _, _, _, _, _, rfl, e6 _ _ hH3, (T.pl pt.w).cl, (T.pl pt.w).n_keeper_hands, hk, _, rfl, x, _, _, _, _, rfl, x6, P.cl, P.n_weights, lt, q0, false, _, rfl, SqT.of g6, (by show 2 ≤ sizeLine; decide), fun hp8 hhp8 => ⟨_, rfl, (by show 1 ≤ sizeLine; decide), fun pp hpp => ?_⟩⟩
  rw [gl, hrl, hpo] at hpp ⊢
  have e8 : Same H6 (upd (upd H6 hp8 (.tup [.int ((m : Nat) : Int), .int ((i : Nat) : Int)])) pp (.tup [.ref pa])) := Same.snoc (same_upd hhp8) hpp
  have g8 : (upd (upd H6 hp8 (.tup [.int ((m : Nat) : Int), .int ((i : Nat) : Int)])) pp (.tup [.ref pa])) hp8 = some (.tup [.int ((m : Nat) : Int), .int ((i : Nat) : Int)]) := (same_upd hpp) _ _ upd_same
  have e68 := e3.trans (e6.trans e8)
  refine ⟨e8 _ _ q6, x, dx, f2, .rsees, .rows r, .ref q0, hp8, pp, [pa], [pt], m, i, rfl, e68 _ _ x2, ll, lw, t2.same e68, g8, upd_same, ⟨rfl, fun k b p h1 h2 => ?_⟩, hsz, fun H' k p => ?_⟩
  · match k, h1, h2 with
    | 0, h1, h2 =>
      cases h1
      cases h2
      exact p2.same e68
  exact q H' ((k2.trans (.of e68)).trans k) p
end
end PL
end
section
set_option maxHeartbeats 4000000
/-! D14: shows. -/
namespace PL
open PySem PySem.Spec PyProof.Rows L2
section
variable {w : World} {K : PySem.W.Frag} {mg : Str → Option Value} {base : Heap}
def sp_KeeperShows (K : PySem.W.Frag) : Sp := fun vs H Q _ => ∃ x dx v p b as t ps m i, vs = [.ref x, v, .ref p] ∧ H x = some (.ins (cW K .kshows) dx []) ∧ Ld K H v (Told.data t) ∧ SqP b H p (List.map V.ref as) ∧ Pls K H as ps ∧ Fit .kshows t ps m i ∧ (1 ≤ m ∧ m ≤ 8) ∧ (1 ≤ i ∧ i ≤ 8) ∧ Sz (.node .kshows t ps m i) ∧ ∀ H', Kp (some x) H H' → PlAt K H' x (.node .kshows t ps m i) → Q .non H'
theorem ok_KeeperShows (T : Txt K mg) : FnOk P0 w K mg base CX0 4 (aM K "KeeperShows" "__init__") (dM K "KeeperShows" "__init__") ["self", "lots", "parts"] (sp_KeeperShows K) := by
  have G_Place := ok_Place (w := w) (base := base) T
  have G_need_lots := ok_need_lots (w := w) (base := base) T
  have G_need_parts := ok_need_parts (w := w) (base := base) T
  have G_how_many := ok_how_many (w := w) (base := base) T
  refine T.f_KeeperShows___init__.ok sc_KeeperShows___init__ (fun vs H Q E h => by first | (obtain ⟨_, rfl, _⟩ := h; rfl) | (obtain ⟨_, _, rfl, _⟩ := h; rfl) | (obtain ⟨_, _, _, rfl, _⟩ := h; rfl) | (obtain ⟨_, _, _, _, rfl, _⟩ := h; rfl) | (obtain ⟨_, _, _, _, _, rfl, _⟩ := h; rfl) | (obtain ⟨_, _, _, _, _, _, rfl, _⟩ := h; rfl) | (obtain ⟨_, _, _, _, _, _, _, rfl, _⟩ := h; rfl) | (obtain ⟨_, _, _, _, _, _, _, _, rfl, _⟩ := h; rfl) | (obtain ⟨_, _, _, _, _, _, _, _, _, rfl, _⟩ := h; rfl) | (obtain ⟨_, _, _, _, _, _, _, _, _, _, rfl, _⟩ := h; rfl) | (obtain ⟨_, _, _, _, _, _, _, _, _, _, _, rfl, _⟩ := h; rfl) | (obtain ⟨_, _, _, _, _, _, _, _, _, _, _, _, rfl, _⟩ := h; rfl) | (obtain ⟨_, _, _, _, _, _, _, _, _, _, _, _, _, rfl, _⟩ := h; rfl) | (obtain ⟨_, _, _, _, _, _, _, _, _, _, _, _, _, _, rfl, _⟩ := h; rfl) | (obtain ⟨_, _, _, _, _, _, _, _, _, _, _, _, _, _, _, rfl, _⟩ := h; rfl) | (obtain ⟨_, _, _, _, _, _, _, _, _, _, _, _, _, _, _, _, rfl, _⟩ := h; rfl) | (obtain ⟨rfl, _⟩ := h; rfl)) (fun A outer s H vs Q E hr h => ?_)
  obtain ⟨x, dx, v, p, b, as, t, ps, m, i, rfl, hx, hv, hp, hP, ⟨c, rfl, hc, hcl, hl, hpm, hpo⟩, hm, hi, hsz, q⟩ := h
  refine ⟨_, ((psa_cons (ksfld K rfl (pv 0) (pe_call G_need_lots (hr.mono (by omega)) rfl T.g_need_lots T.f_need_lots.kp T.b_need_lots .nil pass0 (pa_cons (pv 1) pa_nil)) rfl)
    (psa_cons (ps_set (i := 3) sc_KeeperShows___init__.nd rfl (Or.inr rfl) (pe_call G_need_parts (hr.mono (by omega)) rfl T.g_need_parts T.f_need_parts.kp T.b_need_parts .nil pass0 (pa_cons (pv 2) pa_nil)))
    (psa_cons (ps_if (pt_cmpR (kneD K rfl (hr.mono (Nat.zero_le _))) (pe_lc (own := [("part", 4)]) rfl sc_KeeperShows___init__.nd (kpi K rfl (pv 3)) (blkOk_by (by kernel_rfl)) (fun _ _ _ _ _ => (pg_name (i := 4) sc_KeeperShows___init__.nd rfl (Or.inl rfl))) (fun _ _ _ _ _ => pts_nil) (fun _ _ _ _ _ => (kfld K rfl (pv 4) rfl))) (pe_lc (own := [("lot", 5)]) rfl sc_KeeperShows___init__.nd (kpi K rfl (kfld K rfl (pv 0) rfl)) (blkOk_by (by kernel_rfl)) (fun _ _ _ _ _ => (pg_name (i := 5) sc_KeeperShows___init__.nd rfl (Or.inl rfl))) (fun _ _ _ _ _ => pts_nil) (fun _ _ _ _ _ => (pe_callB (klen K rfl) (by rfl) T.z_len bt_len (pa_cons (pv 5) pa_nil)))) (nomark _)) pss_never pss_nil)
    (psa_cons (ps_if (pt_val (pe_callB (kany K rfl rfl) (by rfl) T.z_any bt_any (pa_cons (pe_lc (own := [("part", 4)]) rfl sc_KeeperShows___init__.nd (kpi K rfl (pv 3)) (blkOk_by (by kernel_rfl)) (fun _ _ _ _ _ => (pg_name (i := 4) sc_KeeperShows___init__.nd rfl (Or.inl rfl))) (fun _ _ _ _ _ => pts_nil) (fun _ _ _ _ _ => (pe_cmpR op_ne (kfld K rfl (pv 4) rfl) (kfld K rfl (pe_ix (kix K rfl) (pv 3) pe_int (fun _ _ => rfl)) rfl) (nomark _)))) pa_nil))) pss_never pss_nil)
    (psa_sup T.f_KeeperShows___init__ rfl sc_KeeperShows___init__ (T.pl .kshows).sup rfl (by decide +kernel) T.z_super G_Place (hr.mono (by omega)) T.b_Place pass0 (pa_cons pe_str (pa_cons (kfld K rfl (pv 0) rfl) (pa_cons (pe_tup (pa_cons (pe_call G_how_many (hr.mono (by omega)) rfl T.g_how_many T.f_how_many.kp T.b_how_many .nil pass0 (pa_cons (kfld K rfl (pv 0) rfl) pa_nil)) (pa_cons (kfld K rfl (pe_ix (kix K rfl) (pv 3) pe_int (fun _ _ => rfl)) rfl) pa_nil))) (pa_cons (pv 3) pa_nil)))) rfl rfl rfl rfl rfl)))))), ?_⟩
  have P := T.pl .kshows
  have hpl : ps.length = (lotsOf c).length := by
    have := congrArg List.length hpm
    rw [List.length_map, List.length_map] at this
    exact this
  have hal : (as.map V.ref).length = ps.length := by rw [List.length_map, hP.1]
  obtain ⟨u0, hx0⟩ : ∃ u, (as.map V.ref)[0]? = some u := ⟨_, List.getElem?_eq_getElem (by rw [hal]; omega)⟩
  refine ⟨_, rfl, v, c, rfl, hv, hc, hl.1, hl.2, by omega, fun v' H1 e1 t1 => ?_⟩
  have x1 := e1 _ _ hx
  refine ⟨_, rfl, x, _, _, _, rfl, x1, P.cl, P.n_lots, by show 0 < 1000; decide, ?_⟩
  have lo : Loose H1 x := Loose.ins x1 rfl
  have k2 : Kp (some x) H (upd H1 x (.ins (cW K .kshows) dx (putF "lots" v' []))) := (Kp.of e1).put
  have i2 : Im H1 (upd H1 x (.ins (cW K .kshows) dx (putF "lots" v' []))) := im_upd lo
  have t2 := t1.im i2
  have P2 := (hP.same e1).im i2
  have np : p ≠ x := fun z => by
    subst z
    cases b <;> (unfold SqP at hp; rw [hx] at hp; cases hp)
  have hp2 : SqP b (upd H1 x (.ins (cW K .kshows) dx (putF "lots" v' []))) p (as.map V.ref) := by
    have := hp.same e1
    cases b <;> (unfold SqP at this ⊢; rw [upd_ne np]; exact this)
  have x2 : (upd H1 x (.ins (cW K .kshows) dx (putF "lots" v' []))) x = some (.ins (cW K .kshows) dx (putF "lots" v' [])) := upd_same
  have lt : (putF "lots" v' []).lookup ("lots" : Str) = some v' := by rw [lookup_putF, if_pos rfl]
  have lw : (putF "lots" v' []).lookup ("word" : Str) = none := by rw [lookup_putF, if_neg (by decide +kernel)]; rfl
  have ll : (putF "lots" v' []).length < 100 := by show 1 < 100; decide
  generalize upd H1 x (.ins (cW K .kshows) dx (putF "lots" v' [])) = H2 at k2 i2 t2 P2 hp2 x2 ⊢
  generalize putF "lots" v' [] = f2 at lt lw ll x2
  refine ⟨_, rfl, p, b, as, ps, rfl, hp2, P2, by omega, by omega, fun q0 H3 e3 g2 => ?_⟩
  have P3 := P2.same e3
  have sq3 : SqB false K H3 q0 (as.map V.ref) := SqT.of g2
  have hz : (as.map V.ref).length < sizeLine := by rw [hal, hpl]; exact Nat.lt_of_le_of_lt hl.2 (by decide)
  -- the parts' hands
  refine ⟨_, rfl, q0, false, rfl, ⟨_, sq3⟩, fun D hD => lc_pure hD sq3 hz (fun _ => rfl) (fun j y _ => ∀ z, ps[j]? = some z → y = .int ((Tr.m z : Nat) : Int)) (fun _ _ _ _ _ h => h) ?_ ?_⟩
  · intro j y H5 hy e5 Qe hq
    obtain ⟨b1, tr, rfl, hb, htr, hpl1⟩ := P3.at hy
    obtain ⟨dx', pa', fs', vt', as', u1, u2, u3, u4, u5, u6, u7⟩ := (hpl1.same e5).inv
    refine ⟨_, rfl, _, _, _, _, _, rfl, u1, (T.pl tr.w).cl, (T.pl tr.w).n_keeper_hands, u5, hq _ _ (Same.refl _) fun z hz => ?_⟩
    rw [htr] at hz
    cases hz
    rfl
  intro ys H4 e4 hD4 hl4 hP4
  have ey : ys = ((ps.map Tr.m).map fun (k : Nat) => (k : Int)).map V.int := by
    rw [ys_map (f := fun z : Tr => V.int ((Tr.m z : Nat) : Int)) (hl4.trans hal) hP4, List.map_map, List.map_map]
    rfl
  -- the lots' lengths
  have x4 := (e3.trans e4) _ _ x2
  have t4 := t2.same (e3.trans e4)
  obtain ⟨la, ls, hla, l1, l2, l3⟩ := t4.tuple_inv
  rw [List.length_map] at l2
  have sl : SqB false K H4 la ls := SqT.of l1
  have hzl : ls.length < sizeLine := by rw [l2]; exact Nat.lt_of_le_of_lt hl.2 (by decide)
  refine ⟨_, rfl, x, _, _, _, _, rfl, x4, P.cl, P.n_lots, lt, la, false, hla, ⟨_, sl⟩, fun D2 hD2 => lc_pure hD2 sl hzl (fun _ => rfl) (fun j y _ => ∀ z, (lotsOf c)[j]? = some z → y = .int ((List.length z : Nat) : Int)) (fun _ _ _ _ _ h => h) ?_ ?_⟩
  · intro j y H5 hy e5 Qe hq
    have hj : j < (lotsOf c).length := by rw [← l2]; exact (List.getElem?_eq_some_iff.mp hy).1
    obtain ⟨ya, zs, rfl, y1, y2, y3⟩ := ((l3 j y (lotD (lotsOf c)[j]) hy (by rw [List.getElem?_map, List.getElem?_eq_getElem hj] <;> rfl)).same e5).tuple_inv
    refine ⟨_, rfl, ya, false, _, rfl, SqT.of y1, hq _ _ (Same.refl _) fun z hz => ?_⟩
    rw [List.getElem?_eq_getElem hj] at hz
    cases hz
    rw [y2, List.length_map]
  intro zs H5 e5 hD5 hl5 hP5
  have ez : zs = (((lotsOf c).map List.length).map fun (k : Nat) => (k : Int)).map V.int := by
    rw [ys_map (f := fun z : List Nat => V.int ((List.length z : Nat) : Int)) (hl5.trans l2) hP5, List.map_map, List.map_map]
    rfl
  rw [← hpm] at ez
  refine ⟨_, _, dp_ints (ns := (ps.map Tr.m).map fun (k : Nat) => (k : Int)) (ey ▸ e5 _ _ hD4), dp_ints (ns := (ps.map Tr.m).map fun (k : Nat) => (k : Int)) (ez ▸ hD5), (int_shp _).shaped (by decide), (int_shp _).shaped (by decide), ?_⟩
  rw [(int_shp _).refl]
  refine ⟨_, rfl, ?_⟩
  have e35 := e4.trans e5
  have P5 := P3.same e35
  have sq5 : SqB false K H5 q0 (as.map V.ref) := SqT.of (e35 _ _ g2)
  obtain ⟨b0, t0, rfl, hb0, ht0, hp0⟩ := P5.at hx0
  have o0 : Tr.i t0 = i := hpo t0 (List.mem_of_getElem? ht0)
  refine ⟨_, rfl, q0, false, rfl, ⟨_, sq5⟩, fun D3 hD3 => lc_all (K := K) (b := false) hD3 sq5 hz (fun _ => rfl) (fun _ => false) ?_ ?_⟩
  · intro j y H6 hy e6 Qe hq
    obtain ⟨b1, tr, rfl, hb, htr, hpl1⟩ := P5.at hy
    have o1 : Tr.i tr = i := hpo tr (List.mem_of_getElem? htr)
    obtain ⟨dx', pa', fs', vt', as', u1, u2, u3, u4, u5, u6, u7⟩ := (hpl1.same e6).inv
    obtain ⟨dx'', pa'', fs'', vt'', as'', w1, w2, w3, w4, w5, w6, w7⟩ := (hp0.same e6).inv
    refine ⟨_, rfl, _, _, _, _, _, rfl, u1, (T.pl tr.w).cl, (T.pl tr.w).n_rival_hands, u6, _, rfl, q0, false, _, 0, _, rfl, rfl, Same.sqb (b := false) e6 sq5, atI_nat (j := 0) hx0, _, _, _, _, _, rfl, w1, (T.pl t0.w).cl, (T.pl t0.w).n_rival_hands, w6, rfl, ?_⟩
    rw [o0, o1, decide_eq_true rfl]
    exact hq _ (Same.refl _)
  intro H6 e6 hs6
  refine ⟨_, _, rfl, hs6, ?_⟩
  rw [any_false]
  refine ⟨_, rfl, ?_⟩
  have e26 : Same H2 H6 := e3.trans (e35.trans e6)
  refine ⟨x, dx, f2, rfl, e26 _ _ x2, fun q1 hq1 => ?_⟩
  have e8 : Same H6 (upd H6 q1 (.met (aM K "Place" "__init__") x)) := same_upd hq1
  have q8 : upd H6 q1 (.met (aM K "Place" "__init__") x) q1 = some (.met (aM K "Place" "__init__") x) := upd_same
  generalize upd H6 q1 (.met (aM K "Place" "__init__") x) = H8 at e8 q8 ⊢
  have x8 := (e26.trans e8) _ _ x2
  have e28 : Same H2 H8 := e26.trans e8
  have e38 : Same H5 H8 := e6.trans e8
  have e28' : Same H3 H8 := e35.trans e38
  obtain ⟨dx', pa', fs', vt', as', u1, u2, u3, u4, u5, u6, u7⟩ := hp0.inv
  refine ⟨_, rfl, x, _, _, _, _, rfl, x8, P.cl, P.n_lots, lt, ?_⟩
  refine ⟨_, rfl, x, _, _, _, _, rfl, x8, P.cl, P.n_lots, lt, v', c, rfl, (t2.same e28).ld, hc, by omega, fun H9 e9 => ?_⟩
  refine ⟨_, rfl, q0, false, _, 0, _, rfl, rfl, SqT.of ((e28'.trans e9) _ _ g2), atI_nat (j := 0) hx0, b0, _, _, _, _, rfl, (e38.trans e9) _ _ u1, (T.pl t0.w).cl, (T.pl t0.w).n_rival_hands, u6, ?_⟩
  rw [o0]
  refine ⟨(by show 2 ≤ sizeLine; decide), fun hp9 hhp9 => ⟨_, rfl, ?_⟩⟩
  rw [hcl]
  have e99 : Same H9 (upd H9 hp9 (.tup [.int ((m : Nat) : Int), .int ((i : Nat) : Int)])) := same_upd hhp9
  have e29 : Same H2 (upd H9 hp9 (.tup [.int ((m : Nat) : Int), .int ((i : Nat) : Int)])) := e28.trans (e9.trans e99)
  refine ⟨(e9.trans e99) _ _ q8, x, dx, f2, .kshows, .lots c, v', hp9, q0, as, ps, m, i, rfl, e29 _ _ x2, ll, lw, t2.same e29, upd_same, (e28'.trans (e9.trans e99)) _ _ g2, P2.same e29, hsz, fun H' k p => ?_⟩
  exact q H' ((k2.trans (.of e29)).trans k) p
def sp_RivalShows (K : PySem.W.Frag) : Sp := fun vs H Q _ => ∃ x dx v p b as t ps m i, vs = [.ref x, v, .ref p] ∧ H x = some (.ins (cW K .rshows) dx []) ∧ Ld K H v (Told.data t) ∧ SqP b H p (List.map V.ref as) ∧ Pls K H as ps ∧ Fit .rshows t ps m i ∧ (1 ≤ m ∧ m ≤ 8) ∧ (1 ≤ i ∧ i ≤ 8) ∧ Sz (.node .rshows t ps m i) ∧ ∀ H', Kp (some x) H H' → PlAt K H' x (.node .rshows t ps m i) → Q .non H'
theorem ok_RivalShows (T : Txt K mg) : FnOk P0 w K mg base CX0 4 (aM K "RivalShows" "__init__") (dM K "RivalShows" "__init__") ["self", "lots", "parts"] (sp_RivalShows K) := by
  have G_Place := ok_Place (w := w) (base := base) T
  have G_need_lots := ok_need_lots (w := w) (base := base) T
  have G_need_parts := ok_need_parts (w := w) (base := base) T
  have G_how_many := ok_how_many (w := w) (base := base) T
  refine T.f_RivalShows___init__.ok sc_RivalShows___init__ (fun vs H Q E h => by first | (obtain ⟨_, rfl, _⟩ := h; rfl) | (obtain ⟨_, _, rfl, _⟩ := h; rfl) | (obtain ⟨_, _, _, rfl, _⟩ := h; rfl) | (obtain ⟨_, _, _, _, rfl, _⟩ := h; rfl) | (obtain ⟨_, _, _, _, _, rfl, _⟩ := h; rfl) | (obtain ⟨_, _, _, _, _, _, rfl, _⟩ := h; rfl) | (obtain ⟨_, _, _, _, _, _, _, rfl, _⟩ := h; rfl) | (obtain ⟨_, _, _, _, _, _, _, _, rfl, _⟩ := h; rfl) | (obtain ⟨_, _, _, _, _, _, _, _, _, rfl, _⟩ := h; rfl) | (obtain ⟨_, _, _, _, _, _, _, _, _, _, rfl, _⟩ := h; rfl) | (obtain ⟨_, _, _, _, _, _, _, _, _, _, _, rfl, _⟩ := h; rfl) | (obtain ⟨_, _, _, _, _, _, _, _, _, _, _, _, rfl, _⟩ := h; rfl) | (obtain ⟨_, _, _, _, _, _, _, _, _, _, _, _, _, rfl, _⟩ := h; rfl) | (obtain ⟨_, _, _, _, _, _, _, _, _, _, _, _, _, _, rfl, _⟩ := h; rfl) | (obtain ⟨_, _, _, _, _, _, _, _, _, _, _, _, _, _, _, rfl, _⟩ := h; rfl) | (obtain ⟨_, _, _, _, _, _, _, _, _, _, _, _, _, _, _, _, rfl, _⟩ := h; rfl) | (obtain ⟨rfl, _⟩ := h; rfl)) (fun A outer s H vs Q E hr h => ?_)
  obtain ⟨x, dx, v, p, b, as, t, ps, m, i, rfl, hx, hv, hp, hP, ⟨c, rfl, hc, hcl, hl, hpm, hpo⟩, hm, hi, hsz, q⟩ := h
  refine ⟨_, ((psa_cons (ksfld K rfl (pv 0) (pe_call G_need_lots (hr.mono (by omega)) rfl T.g_need_lots T.f_need_lots.kp T.b_need_lots .nil pass0 (pa_cons (pv 1) pa_nil)) rfl)
    (psa_cons (ps_set (i := 3) sc_RivalShows___init__.nd rfl (Or.inr rfl) (pe_call G_need_parts (hr.mono (by omega)) rfl T.g_need_parts T.f_need_parts.kp T.b_need_parts .nil pass0 (pa_cons (pv 2) pa_nil)))
    (psa_cons (ps_if (pt_cmpR (kneD K rfl (hr.mono (Nat.zero_le _))) (pe_lc (own := [("part", 4)]) rfl sc_RivalShows___init__.nd (kpi K rfl (pv 3)) (blkOk_by (by kernel_rfl)) (fun _ _ _ _ _ => (pg_name (i := 4) sc_RivalShows___init__.nd rfl (Or.inl rfl))) (fun _ _ _ _ _ => pts_nil) (fun _ _ _ _ _ => (kfld K rfl (pv 4) rfl))) (pe_lc (own := [("lot", 5)]) rfl sc_RivalShows___init__.nd (kpi K rfl (kfld K rfl (pv 0) rfl)) (blkOk_by (by kernel_rfl)) (fun _ _ _ _ _ => (pg_name (i := 5) sc_RivalShows___init__.nd rfl (Or.inl rfl))) (fun _ _ _ _ _ => pts_nil) (fun _ _ _ _ _ => (pe_callB (klen K rfl) (by rfl) T.z_len bt_len (pa_cons (pv 5) pa_nil)))) (nomark _)) pss_never pss_nil)
    (psa_cons (ps_if (pt_val (pe_callB (kany K rfl rfl) (by rfl) T.z_any bt_any (pa_cons (pe_lc (own := [("part", 4)]) rfl sc_RivalShows___init__.nd (kpi K rfl (pv 3)) (blkOk_by (by kernel_rfl)) (fun _ _ _ _ _ => (pg_name (i := 4) sc_RivalShows___init__.nd rfl (Or.inl rfl))) (fun _ _ _ _ _ => pts_nil) (fun _ _ _ _ _ => (pe_cmpR op_ne (kfld K rfl (pv 4) rfl) (kfld K rfl (pe_ix (kix K rfl) (pv 3) pe_int (fun _ _ => rfl)) rfl) (nomark _)))) pa_nil))) pss_never pss_nil)
    (psa_sup T.f_RivalShows___init__ rfl sc_RivalShows___init__ (T.pl .rshows).sup rfl (by decide +kernel) T.z_super G_Place (hr.mono (by omega)) T.b_Place pass0 (pa_cons pe_str (pa_cons (kfld K rfl (pv 0) rfl) (pa_cons (pe_tup (pa_cons (kfld K rfl (pe_ix (kix K rfl) (pv 3) pe_int (fun _ _ => rfl)) rfl) (pa_cons (pe_call G_how_many (hr.mono (by omega)) rfl T.g_how_many T.f_how_many.kp T.b_how_many .nil pass0 (pa_cons (kfld K rfl (pv 0) rfl) pa_nil)) pa_nil))) (pa_cons (pv 3) pa_nil)))) rfl rfl rfl rfl rfl)))))), ?_⟩
  have P := T.pl .rshows
  have hpl : ps.length = (lotsOf c).length := by
    have := congrArg List.length hpm
    rw [List.length_map, List.length_map] at this
    exact this
  have hal : (as.map V.ref).length = ps.length := by rw [List.length_map, hP.1]
  obtain ⟨u0, hx0⟩ : ∃ u, (as.map V.ref)[0]? = some u := ⟨_, List.getElem?_eq_getElem (by rw [hal]; omega)⟩
  refine ⟨_, rfl, v, c, rfl, hv, hc, hl.1, hl.2, by omega, fun v' H1 e1 t1 => ?_⟩
  have x1 := e1 _ _ hx
  refine ⟨_, rfl, x, _, _, _, rfl, x1, P.cl, P.n_lots, by show 0 < 1000; decide, ?_⟩
  have lo : Loose H1 x := Loose.ins x1 rfl
  have k2 : Kp (some x) H (upd H1 x (.ins (cW K .rshows) dx (putF "lots" v' []))) := (Kp.of e1).put
  have i2 : Im H1 (upd H1 x (.ins (cW K .rshows) dx (putF "lots" v' []))) := im_upd lo
  have t2 := t1.im i2
  have P2 := (hP.same e1).im i2
  have np : p ≠ x := fun z => by
    subst z
    cases b <;> (unfold SqP at hp; rw [hx] at hp; cases hp)
  have hp2 : SqP b (upd H1 x (.ins (cW K .rshows) dx (putF "lots" v' []))) p (as.map V.ref) := by
    have := hp.same e1
    cases b <;> (unfold SqP at this ⊢; rw [upd_ne np]; exact this)
  have x2 : (upd H1 x (.ins (cW K .rshows) dx (putF "lots" v' []))) x = some (.ins (cW K .rshows) dx (putF "lots" v' [])) := upd_same
  have lt : (putF "lots" v' []).lookup ("lots" : Str) = some v' := by rw [lookup_putF, if_pos rfl]
  have lw : (putF "lots" v' []).lookup ("word" : Str) = none := by rw [lookup_putF, if_neg (by decide +kernel)]; rfl
  have ll : (putF "lots" v' []).length < 100 := by show 1 < 100; decide
  generalize upd H1 x (.ins (cW K .rshows) dx (putF "lots" v' [])) = H2 at k2 i2 t2 P2 hp2 x2 ⊢
  generalize putF "lots" v' [] = f2 at lt lw ll x2
  refine ⟨_, rfl, p, b, as, ps, rfl, hp2, P2, by omega, by omega, fun q0 H3 e3 g2 => ?_⟩
  have P3 := P2.same e3
  have sq3 : SqB false K H3 q0 (as.map V.ref) := SqT.of g2
  have hz : (as.map V.ref).length < sizeLine := by rw [hal, hpl]; exact Nat.lt_of_le_of_lt hl.2 (by decide)
  -- the parts' hands
  refine ⟨_, rfl, q0, false, rfl, ⟨_, sq3⟩, fun D hD => lc_pure hD sq3 hz (fun _ => rfl) (fun j y _ => ∀ z, ps[j]? = some z → y = .int ((Tr.i z : Nat) : Int)) (fun _ _ _ _ _ h => h) ?_ ?_⟩
  · intro j y H5 hy e5 Qe hq
    obtain ⟨b1, tr, rfl, hb, htr, hpl1⟩ := P3.at hy
    obtain ⟨dx', pa', fs', vt', as', u1, u2, u3, u4, u5, u6, u7⟩ := (hpl1.same e5).inv
    refine ⟨_, rfl, _, _, _, _, _, rfl, u1, (T.pl tr.w).cl, (T.pl tr.w).n_rival_hands, u6, hq _ _ (Same.refl _) fun z hz => ?_⟩
    rw [htr] at hz
    cases hz
    rfl
  intro ys H4 e4 hD4 hl4 hP4
  have ey : ys = ((ps.map Tr.i).map fun (k : Nat) => (k : Int)).map V.int := by
    rw [ys_map (f := fun z : Tr => V.int ((Tr.i z : Nat) : Int)) (hl4.trans hal) hP4, List.map_map, List.map_map]
    rfl
  -- the lots' lengths
  have x4 := (e3.trans e4) _ _ x2
  have t4 := t2.same (e3.trans e4)
  obtain ⟨la, ls, hla, l1, l2, l3⟩ := t4.tuple_inv
  rw [List.length_map] at l2
  have sl : SqB false K H4 la ls := SqT.of l1
  have hzl : ls.length < sizeLine := by rw [l2]; exact Nat.lt_of_le_of_lt hl.2 (by decide)
  refine ⟨_, rfl, x, _, _, _, _, rfl, x4, P.cl, P.n_lots, lt, la, false, hla, ⟨_, sl⟩, fun D2 hD2 => lc_pure hD2 sl hzl (fun _ => rfl) (fun j y _ => ∀ z, (lotsOf c)[j]? = some z → y = .int ((List.length z : Nat) : Int)) (fun _ _ _ _ _ h => h) ?_ ?_⟩
  · intro j y H5 hy e5 Qe hq
    have hj : j < (lotsOf c).length := by rw [← l2]; exact (List.getElem?_eq_some_iff.mp hy).1
    obtain ⟨ya, zs, rfl, y1, y2, y3⟩ := ((l3 j y (lotD (lotsOf c)[j]) hy (by rw [List.getElem?_map, List.getElem?_eq_getElem hj] <;> rfl)).same e5).tuple_inv
    refine ⟨_, rfl, ya, false, _, rfl, SqT.of y1, hq _ _ (Same.refl _) fun z hz => ?_⟩
    rw [List.getElem?_eq_getElem hj] at hz
    cases hz
    rw [y2, List.length_map]
  intro zs H5 e5 hD5 hl5 hP5
  have ez : zs = (((lotsOf c).map List.length).map fun (k : Nat) => (k : Int)).map V.int := by
    rw [ys_map (f := fun z : List Nat => V.int ((List.length z : Nat) : Int)) (hl5.trans l2) hP5, List.map_map, List.map_map]
    rfl
  rw [← hpm] at ez
  refine ⟨_, _, dp_ints (ns := (ps.map Tr.i).map fun (k : Nat) => (k : Int)) (ey ▸ e5 _ _ hD4), dp_ints (ns := (ps.map Tr.i).map fun (k : Nat) => (k : Int)) (ez ▸ hD5), (int_shp _).shaped (by decide), (int_shp _).shaped (by decide), ?_⟩
  rw [(int_shp _).refl]
  refine ⟨_, rfl, ?_⟩
  have e35 := e4.trans e5
  have P5 := P3.same e35
  have sq5 : SqB false K H5 q0 (as.map V.ref) := SqT.of (e35 _ _ g2)
  obtain ⟨b0, t0, rfl, hb0, ht0, hp0⟩ := P5.at hx0
  have o0 : Tr.m t0 = m := hpo t0 (List.mem_of_getElem? ht0)
  refine ⟨_, rfl, q0, false, rfl, ⟨_, sq5⟩, fun D3 hD3 => lc_all (K := K) (b := false) hD3 sq5 hz (fun _ => rfl) (fun _ => false) ?_ ?_⟩
  · intro j y H6 hy e6 Qe hq
    obtain ⟨b1, tr, rfl, hb, htr, hpl1⟩ := P5.at hy
    have o1 : Tr.m tr = m := hpo tr (List.mem_of_getElem? htr)
    obtain ⟨dx', pa', fs', vt', as', u1, u2, u3, u4, u5, u6, u7⟩ := (hpl1.same e6).inv
    obtain ⟨dx'', pa'', fs'', vt'', as'', w1, w2, w3, w4, w5, w6, w7⟩ := (hp0.same e6).inv
    refine ⟨_, rfl, _, _, _, _, _, rfl, u1, (T.pl tr.w).cl, (T.pl tr.w).n_keeper_hands, u5, _, rfl, q0, false, _, 0, _, rfl, rfl, Same.sqb (b := false) e6 sq5, atI_nat (j := 0) hx0, _, _, _, _, _, rfl, w1, (T.pl t0.w).cl, (T.pl t0.w).n_keeper_hands, w5, rfl, ?_⟩
    rw [o0, o1, decide_eq_true rfl]
    exact hq _ (Same.refl _)
  intro H6 e6 hs6
  refine ⟨_, _, rfl, hs6, ?_⟩
  rw [any_false]
  refine ⟨_, rfl, ?_⟩
  have e26 : Same H2 H6 := e3.trans (e35.trans e6)
  refine ⟨x, dx, f2, rfl, e26 _ _ x2, fun q1 hq1 => ?_⟩
  have e8 : Same H6 (upd H6 q1 (.met (aM K "Place" "__init__") x)) := same_upd hq1
  have q8 : upd H6 q1 (.met (aM K "Place" "__init__") x) q1 = some (.met (aM K "Place" "__init__") x) := upd_same
  generalize upd H6 q1 (.met (aM K "Place" "__init__") x) = H8 at e8 q8 ⊢
  have x8 := (e26.trans e8) _ _ x2
  have e28 : Same H2 H8 := e26.trans e8
  have e38 : Same H5 H8 := e6.trans e8
  have e28' : Same H3 H8 := e35.trans e38
  obtain ⟨dx', pa', fs', vt', as', u1, u2, u3, u4, u5, u6, u7⟩ := hp0.inv
  refine ⟨_, rfl, x, _, _, _, _, rfl, x8, P.cl, P.n_lots, lt, ?_⟩
  refine ⟨_, rfl, q0, false, _, 0, _, rfl, rfl, SqT.of (e28' _ _ g2), atI_nat (j := 0) hx0, b0, _, _, _, _, rfl, (e38) _ _ u1, (T.pl t0.w).cl, (T.pl t0.w).n_keeper_hands, u5, ?_⟩
  rw [o0]
  refine ⟨_, rfl, x, _, _, _, _, rfl, x8, P.cl, P.n_lots, lt, v', c, rfl, (t2.same e28).ld, hc, by omega, fun H9 e9 => ?_⟩
  refine ⟨(by show 2 ≤ sizeLine; decide), fun hp9 hhp9 => ⟨_, rfl, ?_⟩⟩
  rw [hcl]
  have e99 : Same H9 (upd H9 hp9 (.tup [.int ((m : Nat) : Int), .int ((i : Nat) : Int)])) := same_upd hhp9
  have e29 : Same H2 (upd H9 hp9 (.tup [.int ((m : Nat) : Int), .int ((i : Nat) : Int)])) := e28.trans (e9.trans e99)
  refine ⟨(e9.trans e99) _ _ q8, x, dx, f2, .rshows, .lots c, v', hp9, q0, as, ps, m, i, rfl, e29 _ _ x2, ll, lw, t2.same e29, upd_same, (e28'.trans (e9.trans e99)) _ _ g2, P2.same e29, hsz, fun H' k p => ?_⟩
  exact q H' ((k2.trans (.of e29)).trans k) p
end
end PL
end
section
set_option maxHeartbeats 4000000
/-! D15: places of what is told. -/
namespace PL
open PySem PySem.Spec PyProof.Rows L2
section
variable {w : World} {K : PySem.W.Frag} {mg : Str → Option Value} {base : Heap}
theorem same_two {H : Hp} {x dx : Addr} {o1 o2 : HO} (hx : H x = none) (hdx : H dx = none) (hne : dx ≠ x) : Same H (upd (upd H dx o1) x o2) := Same.snoc (same_upd hdx) (by rw [upd_ne (fun z => hne z.symm)]; exact hx)
theorem same_new {H H' : Hp} {x dx : Addr} {o1 o2 : HO} (hx : H x = none) (hdx : H dx = none) (hne : dx ≠ x) (k : Kp (some x) (upd (upd H dx o1) x o2) H') : Same H H' := Kp.new ((Kp.of (same_two hx hdx hne)).trans k) hx
def isMov : Wd → Bool
  | .kmove => true | .rmove => true | .draw => true | .kshows => true | .rshows => true | _ => false
def sp_moving (K : PySem.W.Frag) : Sp := fun vs H Q _ => ∃ w v p b as t ps m i, vs = [.str (Wd.s w), v, .ref p] ∧ isMov w = true ∧ Ld K H v (Told.data t) ∧ SqP b H p (List.map V.ref as) ∧ Pls K H as ps ∧ Fit w t ps m i ∧ (1 ≤ m ∧ m ≤ 8) ∧ (1 ≤ i ∧ i ≤ 8) ∧ Sz (.node w t ps m i) ∧
  ∀ a H', Same H H' → PlAt K H' a (.node w t ps m i) → Q (.ref a) H'
theorem ok_moving (T : Txt K mg) : FnOk P0 w K mg base CX0 8 (aF K "moving") (dF K "moving") ["word", "told", "parts"] (sp_moving K) := by
  have G_KeeperMove := ok_KeeperMove (w := w) (base := base) T
  have G_RivalMove := ok_RivalMove (w := w) (base := base) T
  have G_Draw := ok_Draw (w := w) (base := base) T
  have G_KeeperShows := ok_KeeperShows (w := w) (base := base) T
  have G_RivalShows := ok_RivalShows (w := w) (base := base) T
  refine T.f_moving.ok sc_moving (fun vs H Q E h => by first | (obtain ⟨_, rfl, _⟩ := h; rfl) | (obtain ⟨_, _, rfl, _⟩ := h; rfl) | (obtain ⟨_, _, _, rfl, _⟩ := h; rfl) | (obtain ⟨_, _, _, _, rfl, _⟩ := h; rfl) | (obtain ⟨_, _, _, _, _, rfl, _⟩ := h; rfl) | (obtain ⟨_, _, _, _, _, _, rfl, _⟩ := h; rfl) | (obtain ⟨_, _, _, _, _, _, _, rfl, _⟩ := h; rfl) | (obtain ⟨_, _, _, _, _, _, _, _, rfl, _⟩ := h; rfl) | (obtain ⟨_, _, _, _, _, _, _, _, _, rfl, _⟩ := h; rfl) | (obtain ⟨_, _, _, _, _, _, _, _, _, _, rfl, _⟩ := h; rfl) | (obtain ⟨_, _, _, _, _, _, _, _, _, _, _, rfl, _⟩ := h; rfl) | (obtain ⟨_, _, _, _, _, _, _, _, _, _, _, _, rfl, _⟩ := h; rfl) | (obtain ⟨_, _, _, _, _, _, _, _, _, _, _, _, _, rfl, _⟩ := h; rfl) | (obtain ⟨_, _, _, _, _, _, _, _, _, _, _, _, _, _, rfl, _⟩ := h; rfl) | (obtain ⟨_, _, _, _, _, _, _, _, _, _, _, _, _, _, _, rfl, _⟩ := h; rfl) | (obtain ⟨_, _, _, _, _, _, _, _, _, _, _, _, _, _, _, _, rfl, _⟩ := h; rfl) | (obtain ⟨rfl, _⟩ := h; rfl)) (fun cdv A outer s H vs Q E hr h => ?_)
  obtain ⟨wd, v, p, b, as, t, ps, m, i, rfl, hw, hv, hp, hP, hf, hm, hi, hsz, q⟩ := h
  refine ⟨_, ((pss_cons (ps_if (pt_cmpR op_eq (pv 0) pe_str (nomark _)) (pss_one (ps_ret (pe_make T.mk_KeeperMove G_KeeperMove (hr.mono (by omega)) rfl T.g_KeeperMove T.b_KeeperMove .nil pass0 (pa_cons (pv 2) pa_nil)))) pss_nil)
    (pss_cons (ps_if (pt_cmpR op_eq (pv 0) pe_str (nomark _)) (pss_one (ps_ret (pe_make T.mk_RivalMove G_RivalMove (hr.mono (by omega)) rfl T.g_RivalMove T.b_RivalMove .nil pass0 (pa_cons (pv 2) pa_nil)))) pss_nil)
    (pss_cons (ps_if (pt_cmpR op_eq (pv 0) pe_str (nomark _)) (pss_one (ps_ret (pe_make T.mk_Draw G_Draw (hr.mono (by omega)) rfl T.g_Draw T.b_Draw .nil pass0 (pa_cons (pv 1) (pa_cons (pv 2) pa_nil))))) pss_nil)
    (pss_one (ps_ret (pe_ifExp (pt_cmpR op_eq (pv 0) pe_str (nomark _)) (pe_make T.mk_KeeperShows G_KeeperShows (hr.mono (by omega)) rfl T.g_KeeperShows T.b_KeeperShows .nil pass0 (pa_cons (pv 1) (pa_cons (pv 2) pa_nil))) (pe_make T.mk_RivalShows G_RivalShows (hr.mono (by omega)) rfl T.g_RivalShows T.b_RivalShows .nil pass0 (pa_cons (pv 1) (pa_cons (pv 2) pa_nil)))))))))), ?_⟩
  cases wd with
  | fin => exact absurd hw (by decide)
  | hole => exact absurd hw (by decide)
  | khides => exact absurd hw (by decide)
  | rhides => exact absurd hw (by decide)
  | ksees => exact absurd hw (by decide)
  | rsees => exact absurd hw (by decide)
  | kmove =>
    have ht : t = .unit := hf.1
    subst ht
    refine ⟨_, rfl, rfl, _, rfl, itP (by decide +kernel) ?_⟩
    refine ⟨_, rfl, fun x dx hx hdx hne => ⟨x, dx, p, b, as, ps, m, i, rfl, upd_same, hp.same (same_two hx hdx hne), hP.same (same_two hx hdx hne), hf, hsz, fun H' k pl => ⟨rfl, q x H' (same_new hx hdx hne k) pl⟩⟩⟩
  | rmove =>
    have ht : t = .unit := hf.1
    subst ht
    refine ⟨_, rfl, rfl, _, rfl, itN (by decide +kernel) ?_⟩
    refine ⟨_, rfl, rfl, _, rfl, itP (by decide +kernel) ?_⟩
    refine ⟨_, rfl, fun x dx hx hdx hne => ⟨x, dx, p, b, as, ps, m, i, rfl, upd_same, hp.same (same_two hx hdx hne), hP.same (same_two hx hdx hne), hf, hsz, fun H' k pl => ⟨rfl, q x H' (same_new hx hdx hne k) pl⟩⟩⟩
  | draw =>
    refine ⟨_, rfl, rfl, _, rfl, itN (by decide +kernel) ?_⟩
    refine ⟨_, rfl, rfl, _, rfl, itN (by decide +kernel) ?_⟩
    refine ⟨_, rfl, rfl, _, rfl, itP (by decide +kernel) ?_⟩
    refine ⟨_, rfl, _, rfl, fun x dx hx hdx hne => ⟨x, dx, v, p, b, as, t, ps, m, i, rfl, upd_same, hv.same (same_two hx hdx hne), hp.same (same_two hx hdx hne), hP.same (same_two hx hdx hne), hf, hsz, fun H' k pl => ⟨rfl, q x H' (same_new hx hdx hne k) pl⟩⟩⟩
  | kshows =>
    refine ⟨_, rfl, rfl, _, rfl, itN (by decide +kernel) ?_⟩
    refine ⟨_, rfl, rfl, _, rfl, itN (by decide +kernel) ?_⟩
    refine ⟨_, rfl, rfl, _, rfl, itN (by decide +kernel) ?_⟩
    refine ⟨_, rfl, rfl, _, rfl, itP (by decide +kernel) ?_⟩
    refine ⟨_, rfl, _, rfl, fun x dx hx hdx hne => ⟨x, dx, v, p, b, as, t, ps, m, i, rfl, upd_same, hv.same (same_two hx hdx hne), hp.same (same_two hx hdx hne), hP.same (same_two hx hdx hne), hf, hm, hi, hsz, fun H' k pl => ⟨rfl, q x H' (same_new hx hdx hne k) pl⟩⟩⟩
  | rshows =>
    refine ⟨_, rfl, rfl, _, rfl, itN (by decide +kernel) ?_⟩
    refine ⟨_, rfl, rfl, _, rfl, itN (by decide +kernel) ?_⟩
    refine ⟨_, rfl, rfl, _, rfl, itN (by decide +kernel) ?_⟩
    refine ⟨_, rfl, rfl, _, rfl, itN (by decide +kernel) ?_⟩
    refine ⟨_, rfl, _, rfl, fun x dx hx hdx hne => ⟨x, dx, v, p, b, as, t, ps, m, i, rfl, upd_same, hv.same (same_two hx hdx hne), hp.same (same_two hx hdx hne), hP.same (same_two hx hdx hne), hf, hm, hi, hsz, fun H' k pl => ⟨rfl, q x H' (same_new hx hdx hne k) pl⟩⟩⟩
def sp_parting (K : PySem.W.Frag) : Sp := fun vs H Q _ => ∃ w v pa t pt m i, vs = [.str (Wd.s w), v, .ref pa] ∧ Wd.isSingle w = true ∧ Ld K H v (Told.data t) ∧ PlAt K H pa pt ∧ Fit w t [pt] m i ∧ (1 ≤ m ∧ m ≤ 8) ∧ (1 ≤ i ∧ i ≤ 8) ∧ Sz (.node w t [pt] m i) ∧
  ∀ a H', Same H H' → PlAt K H' a (.node w t [pt] m i) → Q (.ref a) H'
theorem ok_parting (T : Txt K mg) : FnOk P0 w K mg base CX0 9 (aF K "parting") (dF K "parting") ["word", "told", "part"] (sp_parting K) := by
  have G_KeeperHides := ok_KeeperHides (w := w) (base := base) T
  have G_RivalHides := ok_RivalHides (w := w) (base := base) T
  have G_KeeperSees := ok_KeeperSees (w := w) (base := base) T
  have G_RivalSees := ok_RivalSees (w := w) (base := base) T
  refine T.f_parting.ok sc_parting (fun vs H Q E h => by first | (obtain ⟨_, rfl, _⟩ := h; rfl) | (obtain ⟨_, _, rfl, _⟩ := h; rfl) | (obtain ⟨_, _, _, rfl, _⟩ := h; rfl) | (obtain ⟨_, _, _, _, rfl, _⟩ := h; rfl) | (obtain ⟨_, _, _, _, _, rfl, _⟩ := h; rfl) | (obtain ⟨_, _, _, _, _, _, rfl, _⟩ := h; rfl) | (obtain ⟨_, _, _, _, _, _, _, rfl, _⟩ := h; rfl) | (obtain ⟨_, _, _, _, _, _, _, _, rfl, _⟩ := h; rfl) | (obtain ⟨_, _, _, _, _, _, _, _, _, rfl, _⟩ := h; rfl) | (obtain ⟨_, _, _, _, _, _, _, _, _, _, rfl, _⟩ := h; rfl) | (obtain ⟨_, _, _, _, _, _, _, _, _, _, _, rfl, _⟩ := h; rfl) | (obtain ⟨_, _, _, _, _, _, _, _, _, _, _, _, rfl, _⟩ := h; rfl) | (obtain ⟨_, _, _, _, _, _, _, _, _, _, _, _, _, rfl, _⟩ := h; rfl) | (obtain ⟨_, _, _, _, _, _, _, _, _, _, _, _, _, _, rfl, _⟩ := h; rfl) | (obtain ⟨_, _, _, _, _, _, _, _, _, _, _, _, _, _, _, rfl, _⟩ := h; rfl) | (obtain ⟨_, _, _, _, _, _, _, _, _, _, _, _, _, _, _, _, rfl, _⟩ := h; rfl) | (obtain ⟨rfl, _⟩ := h; rfl)) (fun cdv A outer s H vs Q E hr h => ?_)
  obtain ⟨wd, v, pa, t, pt, m, i, rfl, hw, hv, hpa, hf, hm, hi, hsz, q⟩ := h
  refine ⟨_, ((pss_cons (ps_if (pt_cmpR op_eq (pv 0) pe_str (nomark _)) (pss_one (ps_ret (pe_make T.mk_KeeperHides G_KeeperHides (hr.mono (by omega)) rfl T.g_KeeperHides T.b_KeeperHides .nil pass0 (pa_cons (pv 1) (pa_cons (pv 2) pa_nil))))) pss_nil)
    (pss_cons (ps_if (pt_cmpR op_eq (pv 0) pe_str (nomark _)) (pss_one (ps_ret (pe_make T.mk_RivalHides G_RivalHides (hr.mono (by omega)) rfl T.g_RivalHides T.b_RivalHides .nil pass0 (pa_cons (pv 1) (pa_cons (pv 2) pa_nil))))) pss_nil)
    (pss_one (ps_ret (pe_ifExp (pt_cmpR op_eq (pv 0) pe_str (nomark _)) (pe_make T.mk_KeeperSees G_KeeperSees (hr.mono (by omega)) rfl T.g_KeeperSees T.b_KeeperSees .nil pass0 (pa_cons (pv 1) (pa_cons (pv 2) pa_nil))) (pe_make T.mk_RivalSees G_RivalSees (hr.mono (by omega)) rfl T.g_RivalSees T.b_RivalSees .nil pass0 (pa_cons (pv 1) (pa_cons (pv 2) pa_nil))))))))), ?_⟩
  cases wd with
  | khides =>
    refine ⟨_, rfl, rfl, _, rfl, itP (by decide +kernel) ?_⟩
    refine ⟨_, rfl, _, rfl, fun x dx hx hdx hne => ⟨x, dx, v, pa, t, pt, m, i, rfl, upd_same, hv.same (same_two hx hdx hne), hpa.same (same_two hx hdx hne), hf, hm, hi, hsz, fun H' k pl => ⟨rfl, q x H' (same_new hx hdx hne k) pl⟩⟩⟩
  | rhides =>
    refine ⟨_, rfl, rfl, _, rfl, itN (by decide +kernel) ?_⟩
    refine ⟨_, rfl, rfl, _, rfl, itP (by decide +kernel) ?_⟩
    refine ⟨_, rfl, _, rfl, fun x dx hx hdx hne => ⟨x, dx, v, pa, t, pt, m, i, rfl, upd_same, hv.same (same_two hx hdx hne), hpa.same (same_two hx hdx hne), hf, hm, hi, hsz, fun H' k pl => ⟨rfl, q x H' (same_new hx hdx hne k) pl⟩⟩⟩
  | ksees =>
    refine ⟨_, rfl, rfl, _, rfl, itN (by decide +kernel) ?_⟩
    refine ⟨_, rfl, rfl, _, rfl, itN (by decide +kernel) ?_⟩
    refine ⟨_, rfl, rfl, _, rfl, itP (by decide +kernel) ?_⟩
    refine ⟨_, rfl, _, rfl, fun x dx hx hdx hne => ⟨x, dx, v, pa, t, pt, m, i, rfl, upd_same, hv.same (same_two hx hdx hne), hpa.same (same_two hx hdx hne), hf, hm, hi, hsz, fun H' k pl => ⟨rfl, q x H' (same_new hx hdx hne k) pl⟩⟩⟩
  | rsees =>
    refine ⟨_, rfl, rfl, _, rfl, itN (by decide +kernel) ?_⟩
    refine ⟨_, rfl, rfl, _, rfl, itN (by decide +kernel) ?_⟩
    refine ⟨_, rfl, rfl, _, rfl, itN (by decide +kernel) ?_⟩
    refine ⟨_, rfl, _, rfl, fun x dx hx hdx hne => ⟨x, dx, v, pa, t, pt, m, i, rfl, upd_same, hv.same (same_two hx hdx hne), hpa.same (same_two hx hdx hne), hf, hm, hi, hsz, fun H' k pl => ⟨rfl, q x H' (same_new hx hdx hne k) pl⟩⟩⟩
  | _ => exact absurd hw (by decide)
def sp_place_of (K : PySem.W.Frag) : Sp := fun vs H Q _ => ∃ w v p b as t ps m i, vs = [.str (Wd.s w), v, .ref p] ∧ Wd.isLeaf w = false ∧ Ld K H v (Told.data t) ∧ SqP b H p (List.map V.ref as) ∧ Pls K H as ps ∧ Fit w t ps m i ∧ (1 ≤ m ∧ m ≤ 8) ∧ (1 ≤ i ∧ i ≤ 8) ∧ Sz (.node w t ps m i) ∧
  ∀ a H', Same H H' → PlAt K H' a (.node w t ps m i) → Q (.ref a) H'
theorem fit_single {w : Wd} {t : Told} {ps : List Tr} {m i : Nat} (hw : w.isSingle = true) (h : Fit w t ps m i) : ∃ p, ps = [p] := by
  cases w <;> first | (exact absurd hw (by decide)) | (obtain ⟨r, p, _, h, _⟩ := h; exact ⟨p, h⟩)
theorem ok_place_of (T : Txt K mg) : FnOk P0 w K mg base CX0 10 (aF K "place_of") (dF K "place_of") ["word", "told", "parts"] (sp_place_of K) := by
  have G_moving := ok_moving (w := w) (base := base) T
  have G_parting := ok_parting (w := w) (base := base) T
  refine T.f_place_of.ok sc_place_of (fun vs H Q E h => by first | (obtain ⟨_, rfl, _⟩ := h; rfl) | (obtain ⟨_, _, rfl, _⟩ := h; rfl) | (obtain ⟨_, _, _, rfl, _⟩ := h; rfl) | (obtain ⟨_, _, _, _, rfl, _⟩ := h; rfl) | (obtain ⟨_, _, _, _, _, rfl, _⟩ := h; rfl) | (obtain ⟨_, _, _, _, _, _, rfl, _⟩ := h; rfl) | (obtain ⟨_, _, _, _, _, _, _, rfl, _⟩ := h; rfl) | (obtain ⟨_, _, _, _, _, _, _, _, rfl, _⟩ := h; rfl) | (obtain ⟨_, _, _, _, _, _, _, _, _, rfl, _⟩ := h; rfl) | (obtain ⟨_, _, _, _, _, _, _, _, _, _, rfl, _⟩ := h; rfl) | (obtain ⟨_, _, _, _, _, _, _, _, _, _, _, rfl, _⟩ := h; rfl) | (obtain ⟨_, _, _, _, _, _, _, _, _, _, _, _, rfl, _⟩ := h; rfl) | (obtain ⟨_, _, _, _, _, _, _, _, _, _, _, _, _, rfl, _⟩ := h; rfl) | (obtain ⟨_, _, _, _, _, _, _, _, _, _, _, _, _, _, rfl, _⟩ := h; rfl) | (obtain ⟨_, _, _, _, _, _, _, _, _, _, _, _, _, _, _, rfl, _⟩ := h; rfl) | (obtain ⟨_, _, _, _, _, _, _, _, _, _, _, _, _, _, _, _, rfl, _⟩ := h; rfl) | (obtain ⟨rfl, _⟩ := h; rfl)) (fun cdv A outer s H vs Q E hr h => ?_)
  obtain ⟨wd, v, p, b, as, t, ps, m, i, rfl, hw, hv, hp, hP, hf, hm, hi, hsz, q⟩ := h
  refine ⟨_, ((pss_one (ps_ret (pe_ifExp (pt_cmpR (kin K rfl) (pv 0) (pe_glob (v := .ref (aF K "SINGLE")) rfl T.g_SINGLE rfl) rfl) (pe_call G_parting (hr.mono (by omega)) rfl T.g_parting T.f_parting.kp T.b_parting .nil pass0 (pa_cons (pv 0) (pa_cons (pv 1) (pa_cons (pe_ix (kix K rfl) (pv 2) pe_int (fun _ _ => rfl)) pa_nil)))) (pe_call G_moving (hr.mono (by omega)) rfl T.g_moving T.f_moving.kp T.b_moving .nil pass0 (pa_cons (pv 0) (pa_cons (pv 1) (pa_cons (pv 2) pa_nil)))))))), ?_⟩
  refine ⟨_, rfl, _, _, rfl, .inr (T.t_SINGLE _), rfl, rfl, _, rfl, ?_⟩
  by_cases hs : wd.isSingle = true
  · obtain ⟨pt, rfl⟩ := fit_single hs hf
    have hin : inV (V.str wd.s) [.str "keeper-hides", .str "rival-hides", .str "keeper-sees", .str "rival-sees"] = true := by
      cases wd <;> first | (exact absurd hs (by decide)) | (decide +kernel)
    refine itP hin ?_
    match as, hP with
    | [pa], hP =>
      refine ⟨_, rfl, _, rfl, _, rfl, p, b, _, 0, _, rfl, rfl, hp.sq, atI_nat (j := 0) rfl, wd, v, pa, t, pt, m, i, rfl, hs, hv, hP.2 0 pa pt rfl rfl, hf, hm, hi, hsz, q⟩
    | [], hP => exact absurd hP.1 (by simp)
    | _ :: _ :: _, hP => exact absurd hP.1 (by simp)
  · have hin : inV (V.str wd.s) [.str "keeper-hides", .str "rival-hides", .str "keeper-sees", .str "rival-sees"] = false := by
      cases wd <;> first | (exact absurd rfl hs) | (decide +kernel)
    refine itN (by show ¬ inV _ _ = true; rw [hin]; decide) ?_
    have hmv : isMov wd = true := by
      cases wd <;> first | rfl | (exact absurd hw (by decide)) | (exact absurd rfl hs)
    exact ⟨_, rfl, _, rfl, _, rfl, wd, v, p, b, as, t, ps, m, i, rfl, hmv, hv, hp, hP, hf, hm, hi, hsz, q⟩
end
end PL
end
section
set_option maxHeartbeats 4000000
/-! D16: leaf_in. -/
namespace PL
open PySem PySem.Spec PyProof.Rows L2
section
variable {w : World} {K : PySem.W.Frag} {mg : Str → Option Value} {base : Heap}
def sp_leaf_in (K : PySem.W.Frag) : Sp := fun vs H Q _ => ∃ sc wl ws i w t m n, vs = [.ref sc, .str (Wd.s w)] ∧ Wd.isLeaf w = true ∧ ScAt K H sc wl ws i ∧ Seg ws i (num ((m : Nat) : Int) :: num ((n : Nat) : Int) :: toldItems w t) ∧ Fit w t [] m n ∧ (1 ≤ m ∧ m ≤ 8) ∧ (1 ≤ n ∧ n ≤ 8) ∧
  ∀ a H', Kp (some sc) H H' → ScAt K H' sc wl ws (i + 2 + (toldItems w t).length) → PlAt K H' a (.node w t [] m n) → Q (.ref a) H'
theorem kp_new2 {o : Option Addr} {H H1 H' : Hp} {x dx : Addr} {o1 o2 : HO} (k1 : Kp o H H1) (hx : H1 x = none) (hdx : H1 dx = none) (hne : dx ≠ x) (k : Kp (some x) (upd (upd H1 dx o1) x o2) H') : Kp o H H' := k1.trans (.of (same_new hx hdx hne k))
theorem ok_leaf_in (T : Txt K mg) : FnOk P0 w K mg base CX0 8 (aF K "leaf_in") (dF K "leaf_in") ["scan", "word"] (sp_leaf_in K) := by
  have G_take_integer := ok_take_integer (w := w) (base := base) T
  have G_take_number := ok_take_number (w := w) (base := base) T
  have G_End := ok_End (w := w) (base := base) T
  have G_Hole := ok_Hole (w := w) (base := base) T
  refine T.f_leaf_in.ok sc_leaf_in (fun vs H Q E h => by first | (obtain ⟨_, rfl, _⟩ := h; rfl) | (obtain ⟨_, _, rfl, _⟩ := h; rfl) | (obtain ⟨_, _, _, rfl, _⟩ := h; rfl) | (obtain ⟨_, _, _, _, rfl, _⟩ := h; rfl) | (obtain ⟨_, _, _, _, _, rfl, _⟩ := h; rfl) | (obtain ⟨_, _, _, _, _, _, rfl, _⟩ := h; rfl) | (obtain ⟨_, _, _, _, _, _, _, rfl, _⟩ := h; rfl) | (obtain ⟨_, _, _, _, _, _, _, _, rfl, _⟩ := h; rfl) | (obtain ⟨_, _, _, _, _, _, _, _, _, rfl, _⟩ := h; rfl) | (obtain ⟨_, _, _, _, _, _, _, _, _, _, rfl, _⟩ := h; rfl) | (obtain ⟨_, _, _, _, _, _, _, _, _, _, _, rfl, _⟩ := h; rfl) | (obtain ⟨_, _, _, _, _, _, _, _, _, _, _, _, rfl, _⟩ := h; rfl) | (obtain ⟨_, _, _, _, _, _, _, _, _, _, _, _, _, rfl, _⟩ := h; rfl) | (obtain ⟨_, _, _, _, _, _, _, _, _, _, _, _, _, _, rfl, _⟩ := h; rfl) | (obtain ⟨_, _, _, _, _, _, _, _, _, _, _, _, _, _, _, rfl, _⟩ := h; rfl) | (obtain ⟨_, _, _, _, _, _, _, _, _, _, _, _, _, _, _, _, rfl, _⟩ := h; rfl) | (obtain ⟨rfl, _⟩ := h; rfl)) (fun cdv A outer s H vs Q E hr h => ?_)
  obtain ⟨sc, wl, ws, i, wd, t, m, n, rfl, hw, hs, hg, hf, hm, hn, q⟩ := h
  refine ⟨_, ((pss_cons (ps_asg (pe_tup (pa_cons (pe_meth (pv 0) T.cl_Scan T.m_take_integer G_take_integer (hr.mono (by omega)) T.b_take_integer .nil pass0 (pa_cons pe_int (pa_cons (pe_globI rfl T.c_MOST_HANDS) pa_nil))) (pa_cons (pe_meth (pv 0) T.cl_Scan T.m_take_integer G_take_integer (hr.mono (by omega)) T.b_take_integer .nil pass0 (pa_cons pe_int (pa_cons (pe_globI rfl T.c_MOST_HANDS) pa_nil))) pa_nil))) (kgtup K 2 rfl rfl (pgs_cons (pg_name (i := 2) sc_leaf_in.nd rfl (Or.inl rfl)) (pgs_cons (pg_name (i := 3) sc_leaf_in.nd rfl (Or.inr rfl)) pgs_nil))))
    (pss_cons (ps_if (pt_cmpR op_eq (pv 1) pe_str (nomark _)) (pss_one (ps_ret (pe_make T.mk_Hole G_Hole (hr.mono (by omega)) rfl T.g_Hole T.b_Hole .nil pass0 (pa_cons (pv 2) (pa_cons (pv 3) pa_nil))))) pss_nil)
    (pss_one (ps_ret (pe_make T.mk_End G_End (hr.mono (by omega)) rfl T.g_End T.b_End .nil pass0 (pa_cons (pe_lc (own := [("_", 4)]) rfl sc_leaf_in.nd (pi_range1 rfl T.z_range (pa_cons (pv 2) pa_nil)) (blkOk_by (by kernel_rfl)) (fun _ _ _ _ _ => (pg_name (i := 4) sc_leaf_in.nd rfl (Or.inl rfl))) (fun _ _ _ _ _ => pts_nil) (fun _ _ _ _ _ => (pe_lc (own := [("_", 4)]) rfl sc_leaf_in.nd (pi_range1 rfl T.z_range (pa_cons (pv 3) pa_nil)) (blkOk_by (by kernel_rfl)) (fun _ _ _ _ _ => (pg_name (i := 4) sc_leaf_in.nd rfl (Or.inl rfl))) (fun _ _ _ _ _ => pts_nil) (fun _ _ _ _ _ => (pe_meth0 (pv 0) T.cl_Scan T.m_take_number G_take_number (hr.mono (by omega)) T.b_take_number .nil pass0))))) pa_nil))))))), ?_⟩
  have hs0 := hs
  obtain ⟨dx, h1, h2⟩ := hs
  refine ⟨_, rfl, sc, dx, _, rfl, h1, look_none (by decide +kernel) (by decide +kernel), sc, wl, ws, i, (m : Int), 1, 8, rfl, hs0, hg.head, ⟨by omega, by omega⟩, by omega, by omega, fun H1 k1 s1 => ?_⟩
  have s1' := s1
  obtain ⟨dx1, h11, h12⟩ := s1
  refine ⟨_, rfl, sc, dx1, _, rfl, h11, look_none (by decide +kernel) (by decide +kernel), sc, wl, ws, i + 1, (n : Int), 1, 8, rfl, s1', hg.tail.head, ⟨by omega, by omega⟩, by omega, by omega, fun H2 k2 s2 => ?_⟩
  refine ⟨(by show 2 ≤ sizeLine; decide), fun p hp => ?_⟩
  have s3 := s2.same (same_upd (o := .tup [.int (m : Int), .int (n : Int)]) hp)
  have k3 : Kp (some sc) H (upd H2 p (.tup [.int (m : Int), .int (n : Int)])) := (k1.trans k2).trans (.of (same_upd hp))
  refine ⟨_, _, rfl, SqT.of upd_same, rfl, _, _, rfl, _, _, rfl, rfl, ?_⟩
  generalize upd H2 p (.tup [.int (m : Int), .int (n : Int)]) = H3 at s3 k3 ⊢
  cases wd with
  | hole =>
    obtain ⟨rfl, _⟩ := hf
    refine ⟨_, rfl, rfl, _, rfl, itP (by decide +kernel) ?_⟩
    exact ⟨_, rfl, _, rfl, fun x dx hx hdx hne => ⟨x, dx, m, n, rfl, upd_same, hm, hn, fun H' k pl => ⟨rfl, q x H' (kp_new2 k3 hx hdx hne k) (s3.same (same_new hx hdx hne k)) pl⟩⟩⟩
  | fin =>
    refine ⟨_, rfl, rfl, _, rfl, itN (by decide +kernel) ?_⟩
    have hf0 := hf
    obtain ⟨r, rfl, _, hr1, hr2⟩ := hf
    have hg' : Seg ws (i + 1 + 1) (r.flatMap fun x => x.map Nm.txt) := hg.tail.tail
    refine ⟨_, rfl, _, rfl, by omega, by omega, fun D hD => lc_scan (sc := sc) (wl := wl) (ws := ws) (fun j => i + 1 + 1 + posF (fun x : List Nm => x.map Nm.txt) r j) hD s3 (Nat.lt_of_le_of_lt (show _ ≤ 8 by omega) (by decide)) (fun _ => rfl) (fun j y H' => ∀ x, r[j]? = some x → ∃ a, y = .ref a ∧ RowAt H' D sc a x) (fun j y H1 H2 ys u h1 h2 hl k p x hx => by
      obtain ⟨a, e, h⟩ := p x hx
      exact ⟨a, e, (h.kp hl k).upd h2⟩) ?_ ?_⟩
    · intro j H4 hj k4 s4 hL Qe hq
      have hj' : j < r.length := by omega
      have hrj : r[j]? = some r[j] := List.getElem?_eq_getElem hj'
      obtain ⟨rl, rok⟩ := hr2 _ (List.getElem_mem hj')
      have sg := hg'.at hrj
      obtain ⟨ys0, hL⟩ := hL
      refine ⟨_, rfl, _, rfl, by omega, by omega, fun D2 hD2 => lc_scan (sc := sc) (wl := wl) (ws := ws) (fun u => i + 1 + 1 + posF (fun x : List Nm => x.map Nm.txt) r j + u) hD2 s4 (Nat.lt_of_le_of_lt (show _ ≤ 8 by omega) (by decide)) (fun _ => rfl) (fun u y H' => ∀ z, (r[j])[u]? = some z → Td H' y z.data) (fun u y H1 H2 ys u h1 h2 hl kk p z hz => td_mono h2 hl kk (p z hz)) ?_ ?_⟩
      · intro u H5 hu k5 s5 _ Qf hqf
        have hu' : u < (r[j]).length := by omega
        have s5' := s5
        obtain ⟨dx5, h51, h52⟩ := s5
        refine ⟨_, rfl, sc, dx5, _, rfl, h51, look_none (by decide +kernel) (by decide +kernel), sc, wl, ws, _, (r[j])[u], rfl, s5', Seg.map (f := Nm.txt) sg (List.getElem?_eq_getElem hu'), rok _ (List.getElem_mem hu'), fun v' H6 k6 s6 t6 => hqf _ _ k6 s6 fun z hz => ?_⟩
        rw [List.getElem?_eq_getElem hu'] at hz
        cases hz
        exact t6
      · intro ys H5 k5 s5 hD5 hl5 hP5
        have e : ((n : Int)).toNat = (r[j]).length := by omega
        rw [e] at s5 hl5
        refine hq _ _ k5 ?_ fun x hx => ⟨D2, rfl, ?_⟩
        · rw [posF_succ hrj, List.length_map, ← Nat.add_assoc]
          exact s5
        · rw [hrj] at hx
          cases hx
          exact ⟨fun z => (by subst z; rw [hL] at hD2; cases hD2), (s4.ne hD2).1, ys, hD5, hl5, fun u y n h1 h2 => hP5 u y h1 n h2⟩
    · intro ys H4 k4 s4 hD4 hl4 hP4
      have e : ((m : Int)).toNat = r.length := by omega
      rw [e] at s4 hl4
      rw [posF_all] at s4
      have hld : Ld K H4 (.ref D) (Told.rows r).data := ld_list hD4 hl4 fun j y hy x hx => by
        obtain ⟨a, rfl, h⟩ := hP4 j y hy x hx
        exact h.ld
      exact fun x dx hx hdx hne => ⟨x, dx, .ref D, .rows r, m, n, rfl, upd_same, hld.same (same_two hx hdx hne), hf0, hm, hn, fun H' k pl => ⟨rfl, q x H' (kp_new2 (k3.trans k4) hx hdx hne k) (s4.same (same_new hx hdx hne k)) pl⟩⟩
  | _ => exact absurd hw (by decide)
end
end PL
end
section
set_option maxHeartbeats 4000000
/-! D17: place_in. -/
namespace PL
open PySem PySem.Spec PyProof.Rows L2
section
variable {w : World} {K : PySem.W.Frag} {mg : Str → Option Value} {base : Heap}
def sp_place_in (K : PySem.W.Frag) (n : Nat) : Sp := fun vs H Q _ => ∃ sc wl ws i l t, vs = [.ref sc, .int ((l : Nat) : Int)] ∧ ScAt K H sc wl ws i ∧ Seg ws i (Tr.items t) ∧ WF t ∧ Sz t ∧ t.lev ≤ n ∧ l + t.lev ≤ 11 ∧
  ∀ a H', Kp (some sc) H H' → ScAt K H' sc wl ws (i + t.items.length) → PlAt K H' a t → Q (.ref a) H'
theorem pls_of {H : Hp} {ys : List V} {ps : List Tr} (hl : ys.length = ps.length) (h : ∀ (j : Nat) y, ys[j]? = some y → ∀ p, ps[j]? = some p → ∃ a, y = .ref a ∧ PlAt K H a p) : ∃ as : List Addr, ys = as.map V.ref ∧ Pls K H as ps := by
  have hr : ∀ (j : Nat) y, ys[j]? = some y → ∃ a, y = V.ref a := fun j y hy => by
    have hj : j < ps.length := by rw [← hl]; exact (List.getElem?_eq_some_iff.mp hy).1
    obtain ⟨a, e, _⟩ := h j y hy _ (List.getElem?_eq_getElem hj)
    exact ⟨a, e⟩
  have : ∀ zs : List V, (∀ (j : Nat) y, zs[j]? = some y → ∃ a, y = V.ref a) → ∃ as : List Addr, zs = as.map V.ref := by
    intro zs
    induction zs with
    | nil => exact fun _ => ⟨[], rfl⟩
    | cons z zs ih =>
      intro hz
      obtain ⟨a, rfl⟩ := hz 0 z rfl
      obtain ⟨as, rfl⟩ := ih fun j y hy => hz (j + 1) y (by simpa using hy)
      exact ⟨a :: as, rfl⟩
  obtain ⟨as, rfl⟩ := this ys hr
  rw [List.length_map] at hl
  refine ⟨as, rfl, hl, fun k b p h1 h2 => ?_⟩
  obtain ⟨a, e, hp⟩ := h k (.ref b) (by rw [List.getElem?_map, h1] <;> rfl) p h2
  injection e with e
  subst e
  exact hp
/-- the number behind the word of a place with parts -/
def cntOf (w : Wd) (n m i : Nat) : Nat := if w.isSingle || w.isShows then (if w.isK then m else i) else n
theorem tin_of {w : Wd} {t : Told} {ps : List Tr} {m i : Nat} (hw : w.isLeaf = false) (hf : Fit w t ps m i) (hm : 1 ≤ m ∧ m ≤ 8) (hi : 1 ≤ i ∧ i ≤ 8) : TIn w t (cntOf w ps.length m i) := by
  cases w with
  | fin => exact absurd hw (by decide)
  | hole => exact absurd hw (by decide)
  | draw => obtain ⟨r, rfl, h1, h2, h3, _⟩ := hf; exact ⟨r, rfl, h1.symm, by omega, h3⟩
  | kmove => exact hf.1
  | rmove => exact hf.1
  | khides => obtain ⟨r, p, rfl, rfl, h1, h2, _⟩ := hf; exact ⟨r, rfl, h1.symm, by omega, h2⟩
  | rhides => obtain ⟨r, p, rfl, rfl, h1, h2, _⟩ := hf; exact ⟨r, rfl, h1.symm, by omega, h2⟩
  | ksees => obtain ⟨r, p, rfl, rfl, h1, h2, _⟩ := hf; exact ⟨r, rfl, h1.symm, by omega, h2⟩
  | rsees => obtain ⟨r, p, rfl, rfl, h1, h2, _⟩ := hf; exact ⟨r, rfl, h1.symm, by omega, h2⟩
  | kshows => obtain ⟨c, rfl, h1, h2, h3, _⟩ := hf; exact ⟨c, rfl, h2.symm, h1, by omega, h3.2⟩
  | rshows => obtain ⟨c, rfl, h1, h2, h3, _⟩ := hf; exact ⟨c, rfl, h2.symm, h1, by omega, h3.2⟩
theorem parts_le {w : Wd} {t : Told} {ps : List Tr} {m i : Nat} (hw : w.isLeaf = false) (hf : Fit w t ps m i) : 1 ≤ ps.length ∧ ps.length ≤ 6 := by
  cases w with
  | fin => exact absurd hw (by decide)
  | hole => exact absurd hw (by decide)
  | draw => obtain ⟨r, rfl, h1, h2, h3, _⟩ := hf; exact h2
  | kmove => exact hf.2.1
  | rmove => exact hf.2.1
  | khides => obtain ⟨r, p, rfl, rfl, _⟩ := hf; simp
  | rhides => obtain ⟨r, p, rfl, rfl, _⟩ := hf; simp
  | ksees => obtain ⟨r, p, rfl, rfl, _⟩ := hf; simp
  | rsees => obtain ⟨r, p, rfl, rfl, _⟩ := hf; simp
  | kshows =>
    obtain ⟨c, rfl, h1, h2, h3, h4, _⟩ := hf
    have := congrArg List.length h4
    rw [List.length_map, List.length_map] at this
    omega
  | rshows =>
    obtain ⟨c, rfl, h1, h2, h3, h4, _⟩ := hf
    have := congrArg List.length h4
    rw [List.length_map, List.length_map] at this
    omega
theorem shows_len {w : Wd} {t : Told} {ps : List Tr} {m i : Nat} (hw : w.isShows = true) (hf : Fit w t ps m i) : ∃ c, t = .lots c ∧ (lotsOf c).length = ps.length := by
  cases w <;> first | (exact absurd hw (by decide)) | skip
  all_goals
    obtain ⟨c, rfl, h1, h2, h3, h4, _⟩ := hf
    have := congrArg List.length h4
    rw [List.length_map, List.length_map] at this
    exact ⟨c, rfl, this.symm⟩
abbrev wordsL : List Str := ["end", "hole", "draw", "keeper-move", "rival-move", "keeper-hides", "rival-hides", "keeper-sees", "rival-sees", "keeper-shows", "rival-shows"]
theorem wd_mem (w : Wd) : w.s ∈ wordsL := by
  cases w <;> decide +kernel
theorem Ld.kp {H H' : Hp} {sc wl : Addr} {ws : List Str} {i : Nat} (s : ScAt K H sc wl ws i) (k : Kp (some sc) H H') {v : V} {d : PyData} (h : Ld K H v d) : Ld K H' v d := by
  obtain ⟨dx, e, _⟩ := s
  induction h with
  | int i => exact .int i
  | str z => exact .str z
  | @seq a b xs ds h1 h2 _ ih =>
    have hne : some a ≠ some sc := fun z => by
      injection z with z
      subst z
      cases b <;> (unfold SqP at h1; rw [e] at h1; cases h1)
    refine .seq (b := b) ?_ h2 ih
    cases b <;> (unfold SqP at h1 ⊢; exact k _ _ h1 hne)
def mxOf (w : Wd) : Int := if w = .draw || w.isMove then 6 else 8
theorem ev_most (T : Txt K mg) (wd : Wd) {σ : L2.St} (hσ : σ[2]? = some (some (.str wd.s))) {H : Hp} {R : VK} (h : R (.int (mxOf wd)) H) :
    (tIf (tOr (tTest (tOp rEq (tVar 2) (tC (.str "draw")))) (tTest (tOp (rIn K false) (tVar 2) (tC (.ref (aF K "MOVES")))))) (tC (.int 6)) (tC (.int 8))) σ H R := by
  refine ⟨_, hσ, rfl, _, rfl, ?_⟩
  cases wd with
  | draw => exact itP (by decide +kernel) h
  | kmove => exact itN (by decide +kernel) ⟨_, hσ, _, _, rfl, .inr (T.t_MOVES _), rfl, rfl, _, rfl, itP (by decide +kernel) h⟩
  | rmove => exact itN (by decide +kernel) ⟨_, hσ, _, _, rfl, .inr (T.t_MOVES _), rfl, rfl, _, rfl, itP (by decide +kernel) h⟩
  | _ => exact itN (by decide +kernel) ⟨_, hσ, _, _, rfl, .inr (T.t_MOVES _), rfl, rfl, _, rfl, itN (by decide +kernel) h⟩
theorem ev_many (T : Txt K mg) {wd : Wd} {td : Told} {ps : List Tr} {m k : Nat} (hf : Fit wd td ps m k) (hlf : wd.isLeaf = false) {σ : L2.St} {v : V} (hσ : σ[2]? = some (some (.str wd.s))) (hσ3 : σ[3]? = some (some (.int ((cntOf wd ps.length m k : Nat) : Int)))) (hσ4 : σ[4]? = some (some v)) {H : Hp} {R : VK} (hv : Ld K H v td.data) (h : R (.int ((ps.length : Nat) : Int)) H) :
    (tIf (tTest (tOp (rIn K false) (tVar 2) (tC (.ref (aF K "SINGLE"))))) (tC (.int 1)) (tIf (tTest (tOp (rIn K false) (tVar 2) (tC (.ref (aF K "SHOWS"))))) (tCB (rLenA K) (tCons (tVar 4) tNil)) (tVar 3))) σ H R := by
  refine ⟨_, hσ, _, _, rfl, .inr (T.t_SINGLE _), rfl, rfl, _, rfl, ?_⟩
  by_cases hs : wd.isSingle = true
  · obtain ⟨pt, rfl⟩ := fit_single hs hf
    refine itP ?_ h
    cases wd <;> first | (exact absurd hs (by decide)) | (decide +kernel)
  · refine itN ?_ ⟨_, hσ, _, _, rfl, .inr (T.t_SHOWS _), rfl, rfl, _, rfl, ?_⟩
    · cases wd <;> first | (exact absurd rfl hs) | (decide +kernel)
    by_cases hw : wd.isShows = true
    · obtain ⟨c, rfl, hl⟩ := shows_len hw hf
      obtain ⟨a, b, xs, rfl, g1, g2, g3⟩ := hv.seq_inv
      refine itP ?_ ⟨_, hσ4, a, b, xs, rfl, g1, ?_⟩
      · cases wd <;> first | (exact absurd hw (by decide)) | (decide +kernel)
      · rw [g2, List.length_map, hl]
        exact h
    · refine itN ?_ ⟨_, hσ3, ?_⟩
      · cases wd <;> first | (exact absurd rfl hw) | (decide +kernel)
      · have : cntOf wd ps.length m k = ps.length := by
          unfold cntOf
          rw [Bool.eq_false_iff.mpr hs, Bool.eq_false_iff.mpr hw]
          rfl
        rw [this]
        exact h
theorem ok_place_in (T : Txt K mg) : ∀ n : Nat, FnOk P0 w K mg base CX0 (11 + n) (aF K "place_in") (dF K "place_in") ["scan", "level"] (sp_place_in K n)
  | 0 => ⟨fun vs H Q E h => by (obtain ⟨_, _, _, _, _, t, _, _, _, _, _, h, _⟩ := h; have := lev_pos t; omega), fun A outer s H args us vs Q E _ _ _ _ h => by (obtain ⟨_, _, _, _, _, t, _, _, _, _, _, h, _⟩ := h; have := lev_pos t; omega)⟩
  | n + 1 => by
    have G_place_in := ok_place_in T n
    have G_take_word := ok_take_word (w := w) (base := base) T
    have G_take_integer := ok_take_integer (w := w) (base := base) T
    have G_told_in := ok_told_in (w := w) (base := base) T
    have G_leaf_in := ok_leaf_in (w := w) (base := base) T
    have G_place_of := ok_place_of (w := w) (base := base) T
    refine T.f_place_in.ok sc_place_in (fun vs H Q E h => by (obtain ⟨_, _, _, _, _, _, rfl, _⟩ := h; rfl)) (fun cdv A outer s H vs Q E hr h => ?_)
    obtain ⟨sc, wl, ws, i, l, t, rfl, hs, hg, hwf, hsz, hn, hl, q⟩ := h
    have hr : Room (11 + n) (A.deeper _) := hr
    refine ⟨_, ((pss_cons (ps_if (pt_cmpR op_gt (pv 1) (pe_globI rfl T.c_MOST_LEVELS) (nomark _)) pss_never pss_nil)
    (pss_cons (ps_set (i := 2) sc_place_in.nd rfl (Or.inl rfl) (pe_meth (pv 0) T.cl_Scan T.m_take_word G_take_word (hr.mono (by omega)) T.b_take_word .nil pass0 (pa_cons (pe_glob (v := .ref (aF K "WORDS")) rfl T.g_WORDS rfl) pa_nil)))
    (pss_cons (ps_if (pt_cmpR (kin K rfl) (pv 2) (pe_tup (pa_cons pe_str (pa_cons pe_str pa_nil))) rfl) (pss_one (ps_ret (pe_call G_leaf_in (hr.mono (by omega)) rfl T.g_leaf_in T.f_leaf_in.kp T.b_leaf_in .nil pass0 (pa_cons (pv 0) (pa_cons (pv 2) pa_nil))))) pss_nil)
    (pss_cons (ps_set (i := 3) sc_place_in.nd rfl (Or.inl rfl) (pe_meth (pv 0) T.cl_Scan T.m_take_integer G_take_integer (hr.mono (by omega)) T.b_take_integer .nil pass0 (pa_cons pe_int (pa_cons (pe_ifExp (PW.pt (pw_or (pt_cmpR op_eq (pv 2) pe_str (nomark _)) (pw_or1 (pt_cmpR (kin K rfl) (pv 2) (pe_glob (v := .ref (aF K "MOVES")) rfl T.g_MOVES rfl) rfl)))) (pe_globI rfl T.c_MOST_PARTS) (pe_globI rfl T.c_MOST_HANDS)) pa_nil))))
    (pss_cons (ps_set (i := 4) sc_place_in.nd rfl (Or.inl rfl) (pe_call G_told_in (hr.mono (by omega)) rfl T.g_told_in T.f_told_in.kp T.b_told_in .nil pass0 (pa_cons (pv 0) (pa_cons (pv 2) (pa_cons (pv 3) pa_nil)))))
    (pss_cons (ps_set (i := 3) sc_place_in.nd rfl (Or.inl rfl) (pe_ifExp (pt_cmpR (kin K rfl) (pv 2) (pe_glob (v := .ref (aF K "SINGLE")) rfl T.g_SINGLE rfl) rfl) pe_int (pe_ifExp (pt_cmpR (kin K rfl) (pv 2) (pe_glob (v := .ref (aF K "SHOWS")) rfl T.g_SHOWS rfl) rfl) (pe_callB (klen K rfl) (by rfl) T.z_len bt_len (pa_cons (pv 4) pa_nil)) (pv 3))))
    (pss_cons (ps_par (i := 5) (j := 6) rfl sc_place_in.nd rfl rfl (by decide) rfl rfl (pa_cons (pe_lc (own := [("_", 7)]) rfl sc_place_in.nd (pi_range1 rfl T.z_range (pa_cons (pv 3) pa_nil)) (blkOk_by (by kernel_rfl)) (fun _ _ _ _ _ => (pg_name (i := 7) sc_place_in.nd rfl (Or.inl rfl))) (fun _ _ _ _ _ => pts_nil) (fun _ _ _ _ _ => (pe_call G_place_in (hr.mono (by omega)) rfl T.g_place_in T.f_place_in.kp T.b_place_in .nil pass0 (pa_cons (pv 0) (pa_cons (pe_op op_add (pv 1) pe_int) pa_nil))))) (pa_cons pe_non pa_nil)) (by rfl))
    (pss_cons (ps_try_never (fun _ _ h => h) (pss_one (ps_set (i := 6) sc_place_in.nd rfl (Or.inl rfl) (pe_call G_place_of (hr.mono (by omega)) rfl T.g_place_of T.f_place_of.kp T.b_place_of .nil pass0 (pa_cons (pv 2) (pa_cons (pv 4) (pa_cons (pv 5) pa_nil)))))) pss_nil)
    (pss_one (ps_ret (pv 6)))))))))))), ?_⟩
    have hlp := lev_pos t
    refine ⟨_, rfl, _, _, rfl, rfl, _, rfl, itN (fun c => by have := of_decide_eq_true c; omega) ?_⟩
    match t, hg, hwf, hsz, hn, hl, q with
    | .node wd td ps m k, hg, hwf, hsz, hn, hl, q =>
    rw [Tr.items] at hg
    have hf := hwf.fit
    have hm : 1 ≤ m ∧ m ≤ 8 := hwf.hm
    have hk : 1 ≤ k ∧ k ≤ 8 := hwf.hi
    have hs0 := hs
    obtain ⟨dx, h1, h2⟩ := hs
    refine ⟨_, rfl, sc, dx, _, rfl, h1, look_none (by decide +kernel) (by decide +kernel), sc, wl, ws, i, wd.s, _, wordsL, rfl, hs0, hg.head, T.t_WORDS, wd_mem wd, fun H1 k1 s1 => ?_⟩
    refine ⟨_, rfl, (by show 2 ≤ sizeLine; decide), fun p hp => ?_⟩
    refine ⟨p, _, rfl, .inr (SqT.of upd_same), rfl, rfl, _, rfl, ?_⟩
    have s2 := s1.same (same_upd (o := .tup [.str "end", .str "hole"]) hp)
    have k2 : Kp (some sc) H (upd H1 p (.tup [.str "end", .str "hole"])) := k1.trans (.of (same_upd hp))
    generalize upd H1 p (.tup [.str "end", .str "hole"]) = H2 at s2 k2 ⊢
    by_cases hlf : wd.isLeaf = true
    · have hin : inV (V.str wd.s) [.str "end", .str "hole"] = true := by
        cases wd <;> first | (exact absurd hlf (by decide)) | (decide +kernel)
      refine itP hin ?_
      have hps : ps = [] := by
        cases wd <;> first | (exact absurd hlf (by decide)) | skip
        · obtain ⟨r, _, h, _⟩ := hf; exact h
        · exact hf.2
      subst hps
      have hh : headItems wd 0 m k = [num (m : Int), num (k : Int)] := by
        unfold headItems
        rw [if_pos hlf]
      have hgt := hg.tail
      rw [itemsL, List.append_nil] at hgt
      have hgt' : Seg ws (i + 1) (num (m : Int) :: num (k : Int) :: toldItems wd td) := by
        have : headItems wd ([] : List Tr).length m k ++ toldItems wd td = num (m : Int) :: num (k : Int) :: toldItems wd td := by
          show headItems wd 0 m k ++ _ = _
          rw [hh]
          rfl
        rw [← this]
        exact hgt
      refine ⟨_, rfl, _, rfl, sc, wl, ws, i + 1, wd, td, m, k, rfl, hlf, s2, hgt', hf, hm, hk, fun a H' k3 s3 pl => q a H' (k2.trans k3) ?_ pl⟩
      have : (Tr.items (.node wd td [] m k)).length = 1 + 2 + (toldItems wd td).length := by
        rw [Tr.items, itemsL, List.append_nil]
        show (wd.s :: (headItems wd 0 m k ++ toldItems wd td)).length = _
        rw [hh]
        simp
        omega
      rw [this]
      have e : i + (1 + 2 + (toldItems wd td).length) = i + 1 + 2 + (toldItems wd td).length := by omega
      rw [e]
      exact s3
    · have hlf' : wd.isLeaf = false := Bool.eq_false_iff.mpr hlf
      have hin : inV (V.str wd.s) [.str "end", .str "hole"] = false := by
        cases wd <;> first | (exact absurd rfl hlf) | (decide +kernel)
      refine itN (by show ¬ inV _ _ = true; rw [hin]; decide) ?_
      have hpl := parts_le hlf' hf
      have hh : headItems wd ps.length m k = [num ((cntOf wd ps.length m k : Nat) : Int)] := by
        unfold headItems cntOf
        rw [if_neg hlf]
        split <;> rfl
      have hg1 := hg.tail
      rw [hh] at hg1
      have hg2 := Seg.tail (z := num ((cntOf wd ps.length m k : Nat) : Int)) (b := toldItems wd td ++ itemsL ps) hg1
      have hc : 1 ≤ cntOf wd ps.length m k ∧ ((cntOf wd ps.length m k : Nat) : Int) ≤ mxOf wd := by
        unfold cntOf mxOf
        cases wd <;> simp [Wd.isSingle, Wd.isShows, Wd.isK, Wd.isMove] <;> omega
      have hmx : mxOf wd ≤ 8 := by
        unfold mxOf
        split <;> decide
      have s2' := s2
      obtain ⟨dx2, g1, g2⟩ := s2
      refine ⟨_, rfl, sc, dx2, _, rfl, g1, look_none (by decide +kernel) (by decide +kernel), ?_⟩
      refine ev_most T wd rfl ?_
      refine ⟨sc, wl, ws, i + 1, ((cntOf wd ps.length m k : Nat) : Int), 1, mxOf wd, rfl, s2', Seg.head hg1, ⟨by omega, by omega⟩, by omega, hc.2, fun H3 k3 s3 => ?_⟩
      refine ⟨_, rfl, _, rfl, _, rfl, sc, wl, ws, i + 1 + 1, wd, td, cntOf wd ps.length m k, rfl, s3, tin_of hlf' hf hm hk, hg2.left, fun v H4 k4 s4 hv => ?_⟩
      refine ev_many T hf hlf' rfl rfl rfl hv ?_
      have k24 := (k2.trans k3).trans k4
      have hg3 := hg2.right
      rw [itemsL_flat] at hg3
      refine ⟨_, rfl, _, rfl, by omega, by omega, fun D hD => lc_scan (sc := sc) (wl := wl) (ws := ws) (fun j => i + 1 + 1 + (toldItems wd td).length + posF Tr.items ps j) hD s4 (Nat.lt_of_le_of_lt (show _ ≤ 8 by omega) (by decide)) (fun _ => rfl) (fun j y H' => ∀ p, ps[j]? = some p → ∃ a, y = .ref a ∧ PlAt K H' a p) (fun j y H1 H2 ys u h1 h2 hl k p x hx => by
        obtain ⟨a, e, h⟩ := p x hx
        exact ⟨a, e, (h.im (k.im hl)).im (im_upd (Loose.lst h2))⟩) ?_ ?_⟩
      · intro j H5 hj k5 s5 _ Qe hq
        have hj' : j < ps.length := by omega
        have hpj : ps[j]? = some ps[j] := List.getElem?_eq_getElem hj'
        have hmem := List.getElem_mem hj'
        have hlev := lev_mem hmem
        rw [Tr.lev] at hn hl
        refine ⟨_, rfl, _, rfl, _, _, rfl, rfl, sc, wl, ws, _, l + 1, ps[j], rfl, s5, hg3.at hpj, hwf.sub _ hmem, hsz.sub _ hmem, by omega, by omega, fun a H6 k6 s6 pl => hq _ _ k6 ?_ fun x hx => ?_⟩
        · rw [posF_succ hpj, ← Nat.add_assoc]
          exact s6
        · rw [hpj] at hx
          cases hx
          exact ⟨a, rfl, pl⟩
      · intro ys H5 k5 s5 hD5 hl5 hP5
        have e : ((ps.length : Int)).toNat = ps.length := by omega
        rw [e] at s5 hl5
        rw [posF_all] at s5
        obtain ⟨as, rfl, hP⟩ := pls_of hl5 hP5
        refine ⟨_, _, rfl, ?_⟩
        have hv5 : Ld K H5 v td.data := hv.kp s4 k5
        refine ⟨_, rfl, _, rfl, _, rfl, wd, v, D, true, as, td, ps, m, k, rfl, hlf', hv5, hD5, hP, hf, hm, hk, hsz, fun a H6 e6 pl => ⟨_, rfl, q a H6 ((k24.trans k5).trans (.of e6)) ?_ pl⟩⟩
        have hlen : (Tr.items (.node wd td ps m k)).length = 1 + 1 + (toldItems wd td).length + (ps.flatMap Tr.items).length := by
          rw [Tr.items, hh, itemsL_flat]
          simp
          omega
        rw [hlen]
        have e : i + (1 + 1 + (toldItems wd td).length + (ps.flatMap Tr.items).length) = i + 1 + 1 + (toldItems wd td).length + (ps.flatMap Tr.items).length := by omega
        rw [e]
        exact s5.same e6
end
end PL
end
section
set_option maxHeartbeats 4000000
/-! D18: read. -/
namespace PL
open PySem PySem.Spec PyProof.Rows L2
section
variable {w : World} {K : PySem.W.Frag} {mg : Str → Option Value} {base : Heap}
/-! ### texts of places -/
def Clean (z : Str) : Prop := z.length ≤ 13 ∧ 32 ∉ z.cps.toList
theorem clean_num {n : Int} (h : -60 ≤ n ∧ n ≤ 60) : Clean (num n) := ⟨Nat.le_trans (num_len h) (by decide), (num_clean h).2⟩
theorem clean_txt {n : Nm} (h : n.ok) : Clean n.txt := by
  cases n with
  | i n => exact clean_num h.wide
  | f p q =>
    have h2 : smallI q := ⟨by have := h.2.1; omega, by have := h.2.2.1; omega⟩
    refine ⟨Nat.le_trans (txt_len h) (by decide), fun z => ?_⟩
    have z : 32 ∈ TL.tl (num p ++ (("/" : Str) ++ num q)) := z
    rw [TL.tl_append, TL.tl_append] at z
    rcases List.mem_append.mp z with z | z
    · exact (num_clean h.1.wide).2 z
    · rcases List.mem_append.mp z with z | z
      · exact absurd z (by decide +kernel)
      · exact (num_clean h2.wide).2 z
theorem clean_wd (w : Wd) : Clean w.s := by cases w <;> exact ⟨by decide +kernel, by decide +kernel⟩
theorem told_clean {w : Wd} {t : Told} {ps : List Tr} {m i : Nat} (hf : Fit w t ps m i) (hm : m ≤ 8) (hi : i ≤ 8) : (∀ z ∈ toldItems w t, Clean z) ∧ (toldItems w t).length ≤ 72 := by
  have frow : ∀ (f : List Nm → List Str) (r : List (List Nm)) (b : Nat), (∀ x ∈ r, (f x).length ≤ b ∧ ∀ z ∈ f x, Clean z) → r.length ≤ 8 → (∀ z ∈ r.flatMap f, Clean z) ∧ (r.flatMap f).length ≤ 8 * b := by
    intro f r b h hr
    refine ⟨fun z hz => ?_, ?_⟩
    · obtain ⟨x, hx, hz⟩ := List.mem_flatMap.mp hz
      exact (h x hx).2 z hz
    · have : ∀ r : List (List Nm), (∀ x ∈ r, (f x).length ≤ b) → (r.flatMap f).length ≤ r.length * b := by
        intro r
        induction r with
        | nil => intro _; simp
        | cons x r ih =>
          intro h
          have h1 := ih fun y hy => h y (List.mem_cons_of_mem _ hy)
          have h2 := h x (List.mem_cons_self ..)
          rw [List.flatMap_cons, List.length_append, List.length_cons, Nat.succ_mul]
          omega
      exact Nat.le_trans (this r fun x hx => (h x hx).1) (Nat.mul_le_mul_right _ hr)
  have fsees : ∀ r : List (List Nm), r.length ≤ 8 → (∀ x ∈ r, (1 ≤ x.length ∧ x.length ≤ 8) ∧ ∀ n ∈ x, wtOk n) → (∀ z ∈ r.flatMap rowItems, Clean z) ∧ (r.flatMap rowItems).length ≤ 72 := by
    intro r hr h
    refine frow rowItems r 9 (fun x hx => ?_) hr
    obtain ⟨⟨h1, h2⟩, h3⟩ := h x hx
    refine ⟨by simp [rowItems]; omega, fun z hz => ?_⟩
    rcases List.mem_cons.mp hz with e | e
    · rw [e]; exact clean_num ⟨by omega, by omega⟩
    · obtain ⟨n, hn, rfl⟩ := List.mem_map.mp e
      exact clean_txt (h3 n hn).1
  have flots : ∀ c : List Nat, Rgs c → c.length ≤ 8 → (lotsOf c).length ≤ 6 → (∀ z ∈ c.map fun (k : Nat) => num (k : Int), Clean z) ∧ (c.map fun (k : Nat) => num (k : Int)).length ≤ 72 := by
    intro c hc h8 h6
    refine ⟨fun z hz => ?_, by rw [List.length_map]; omega⟩
    obtain ⟨k, hk, rfl⟩ := List.mem_map.mp hz
    obtain ⟨j, hj⟩ := List.getElem?_of_mem hk
    have := lot_lt hc hj
    exact clean_num ⟨by omega, by omega⟩
  have fints : ∀ r : List Nat, r.length ≤ 8 → (∀ k ∈ r, 1 ≤ k ∧ k ≤ 4) → (∀ z ∈ (r.map fun (k : Nat) => Nm.i (k : Int)).map Nm.txt, Clean z) ∧ ((r.map fun (k : Nat) => Nm.i (k : Int)).map Nm.txt).length ≤ 72 := by
    intro r h8 h
    refine ⟨fun z hz => ?_, by rw [List.length_map, List.length_map]; omega⟩
    obtain ⟨n, hn, rfl⟩ := List.mem_map.mp hz
    obtain ⟨k, hk, rfl⟩ := List.mem_map.mp hn
    have := h k hk
    exact clean_num ⟨by omega, by omega⟩
  cases w with
  | fin =>
    obtain ⟨r, rfl, _, h1, h2⟩ := hf
    obtain ⟨g1, g2⟩ := frow (fun x => x.map Nm.txt) r 8 (fun x hx => ⟨by rw [List.length_map, (h2 x hx).1]; exact hi, fun z hz => by
      obtain ⟨n, hn, rfl⟩ := List.mem_map.mp hz
      exact clean_txt ((h2 x hx).2 n hn)⟩) (by omega)
    exact ⟨g1, Nat.le_trans g2 (by decide)⟩
  | hole => obtain ⟨rfl, _⟩ := hf; exact ⟨fun z h => by simp [toldItems] at h, by simp [toldItems]⟩
  | kmove => obtain ⟨rfl, _⟩ := hf; exact ⟨fun z h => by simp [toldItems] at h, by simp [toldItems]⟩
  | rmove => obtain ⟨rfl, _⟩ := hf; exact ⟨fun z h => by simp [toldItems] at h, by simp [toldItems]⟩
  | draw =>
    obtain ⟨r, rfl, h1, h2, h3, _⟩ := hf
    refine ⟨fun z hz => ?_, by show (r.map Nm.txt).length ≤ 72; rw [List.length_map]; omega⟩
    obtain ⟨n, hn, rfl⟩ := List.mem_map.mp hz
    exact clean_txt (h3 n hn).1
  | khides => obtain ⟨r, p, rfl, _, h1, h2, _⟩ := hf; exact fints r (by omega) h2
  | rhides => obtain ⟨r, p, rfl, _, h1, h2, _⟩ := hf; exact fints r (by omega) h2
  | ksees => obtain ⟨r, p, rfl, _, h1, h2, _⟩ := hf; exact fsees r (by omega) h2
  | rsees => obtain ⟨r, p, rfl, _, h1, h2, _⟩ := hf; exact fsees r (by omega) h2
  | kshows => obtain ⟨c, rfl, h1, h2, h3, _⟩ := hf; exact flots c h1 (by omega) h3.2
  | rshows => obtain ⟨c, rfl, h1, h2, h3, _⟩ := hf; exact flots c h1 (by omega) h3.2
theorem head_clean {w : Wd} {n m i : Nat} (hn : n ≤ 8) (hm : m ≤ 8) (hi : i ≤ 8) : (∀ z ∈ headItems w n m i, Clean z) ∧ (headItems w n m i).length ≤ 2 := by
  have c : ∀ k : Nat, k ≤ 8 → Clean (num (k : Int)) := fun k h => clean_num ⟨by omega, by omega⟩
  unfold headItems
  split
  · refine ⟨fun z hz => ?_, by simp⟩
    have hz : z = num (m : Int) ∨ z = num (i : Int) := by simpa using hz
    rcases hz with e | e
    · rw [e]; exact c m hm
    · rw [e]; exact c i hi
  · split
    · refine ⟨fun z hz => ?_, by simp⟩
      rw [List.mem_singleton.mp hz]
      split
      · exact c m hm
      · exact c i hi
    · refine ⟨fun z hz => ?_, by simp⟩
      rw [List.mem_singleton.mp hz]
      exact c n hn
theorem parts_le6 {w : Wd} {t : Told} {ps : List Tr} {m i : Nat} (hf : Fit w t ps m i) : ps.length ≤ 6 := by
  by_cases h : w.isLeaf = true
  · cases w <;> first | (exact absurd h (by decide)) | skip
    · obtain ⟨r, _, h, _⟩ := hf; rw [h]; simp
    · obtain ⟨_, h⟩ := hf; rw [h]; simp
  · exact (parts_le (Bool.eq_false_iff.mpr h) hf).2
mutual
theorem items_clean : ∀ t : Tr, WF t → (∀ z ∈ t.items, Clean z) ∧ t.items.length ≤ 75 * t.many
  | .node w t ps m i, h => by
    have hf := h.fit
    have hm : 1 ≤ m ∧ m ≤ 8 := h.hm
    have hi : 1 ≤ i ∧ i ≤ 8 := h.hi
    obtain ⟨a1, a2⟩ := told_clean hf hm.2 hi.2
    have h6 := parts_le6 hf
    obtain ⟨b1, b2⟩ := head_clean (w := w) (n := ps.length) (by omega) hm.2 hi.2
    obtain ⟨c1, c2⟩ := itemsL_clean ps h.sub
    rw [Tr.items, Tr.many]
    refine ⟨fun z hz => ?_, ?_⟩
    · rcases List.mem_cons.mp hz with e | e
      · rw [e]; exact clean_wd w
      · rcases List.mem_append.mp e with e | e
        · exact b1 z e
        · rcases List.mem_append.mp e with e | e
          · exact a1 z e
          · exact c1 z e
    · rw [List.length_cons, List.length_append, List.length_append]
      omega
theorem itemsL_clean : ∀ ps : List Tr, (∀ p ∈ ps, WF p) → (∀ z ∈ itemsL ps, Clean z) ∧ (itemsL ps).length ≤ 75 * manyL ps
  | [], _ => by
    rw [itemsL]
    exact ⟨fun z h => by simp at h, by simp⟩
  | p :: r, h => by
    obtain ⟨a1, a2⟩ := items_clean p (h p (List.mem_cons_self ..))
    obtain ⟨b1, b2⟩ := itemsL_clean r fun q hq => h q (List.mem_cons_of_mem _ hq)
    rw [itemsL, manyL]
    refine ⟨fun z hz => ?_, by rw [List.length_append]; omega⟩
    rcases List.mem_append.mp hz with e | e
    · exact a1 z e
    · exact b1 z e
end
def Tr.text (t : Tr) : Str := Txt.join (" " : Str) t.items
theorem items_ne (t : Tr) : t.items ≠ [] := by
  cases t with
  | node w t ps m i => rw [Tr.items]; simp
theorem text_split {t : Tr} (h : WF t) : Txt.split t.text (" " : Str) = t.items :=
  TL.split_join (s := 32) (S := []) (by decide +kernel) (by decide +kernel) (items_ne t) fun p hp => ((items_clean t h).1 p hp).2
theorem sum_clean : ∀ l : List Str, (∀ z ∈ l, Clean z) → (l.map (·.length)).sum ≤ l.length * 13
  | [], _ => by simp
  | x :: l, h => by
    have h1 := sum_clean l fun z hz => h z (List.mem_cons_of_mem _ hz)
    have h2 := (h x (List.mem_cons_self ..)).1
    rw [List.map_cons, List.sum_cons, List.length_cons]
    omega
theorem text_room {t : Tr} (h : WF t) (hs : Sz t) : (t.items.map (·.length)).sum + t.items.length * (" " : Str).length ≤ 130000 := by
  obtain ⟨a, b⟩ := items_clean t h
  have h1 := sum_clean _ a
  have h2 := hs.many
  have h3 : (" " : Str).length = 1 := by decide +kernel
  rw [h3]
  have : t.items.length ≤ 9000 := by omega
  omega
theorem join_le (y : Str) : ∀ parts : List Str, (Txt.join y parts).length ≤ (parts.map (·.length)).sum + parts.length * y.length := by
  intro parts
  rw [TL.join_eq]
  induction parts with
  | nil => exact Nat.zero_le _
  | cons x r ih =>
    cases r with
    | nil =>
      show x.length ≤ _
      simp
    | cons z r =>
      show (x ++ y ++ Str.join y (z :: r)).length ≤ _
      rw [slen_app, slen_app, List.map_cons, List.sum_cons, List.length_cons, Nat.succ_mul]
      omega
theorem text_len {t : Tr} (h : WF t) (hs : Sz t) : t.text.length + 2 ≤ sizeLine := by
  have h1 := text_room h hs
  have h2 := join_le (" " : Str) t.items
  have h3 : (130002 : Nat) ≤ sizeLine := by decide
  unfold Tr.text
  omega
/-! ### read -/
def sp_read (K : PySem.W.Frag) : Sp := fun vs H Q _ => ∃ t, vs = [.str (Tr.text t)] ∧ WF t ∧ Sz t ∧ ∀ a H', Same H H' → PlAt K H' a t → Q (.ref a) H'
theorem ok_read (T : Txt K mg) : FnOk P0 w K mg base CX0 23 (aF K "read") (dF K "read") ["text"] (sp_read K) := by
  have G_Scan := ok_Scan (w := w) (base := base) T
  have G_place_in := ok_place_in (w := w) (base := base) T 10
  have G_finish := ok_finish (w := w) (base := base) T
  refine T.f_read.ok sc_read (fun vs H Q E h => by (obtain ⟨_, rfl, _⟩ := h; rfl)) (fun cdv A outer s H vs Q E hr h => ?_)
  obtain ⟨t, rfl, hwf, hsz, q⟩ := h
  refine ⟨_, ((pss_cons (ps_set (i := 1) sc_read.nd rfl (Or.inl rfl) (pe_make T.mk_Scan G_Scan (hr.mono (by omega)) rfl T.g_Scan T.b_Scan .nil pass0 (pa_cons (pv 0) pa_nil)))
    (pss_cons (ps_set (i := 2) sc_read.nd rfl (Or.inl rfl) (pe_call G_place_in (hr.mono (by omega)) rfl T.g_place_in T.f_place_in.kp T.b_place_in .nil pass0 (pa_cons (pv 1) (pa_cons pe_int pa_nil))))
    (pss_cons (ps_expr (pe_meth0 (pv 1) T.cl_Scan T.m_finish G_finish (hr.mono (by omega)) T.b_finish .nil pass0))
    (pss_cons (ps_if (pt_cmpR op_isN (pv 2) pe_non (nomark _)) pss_never pss_nil)
    (pss_one (ps_ret (pv 2)))))))), ?_⟩
  refine ⟨_, rfl, fun sc dx hsc hdx hne => ⟨sc, dx, t.text, rfl, upd_same, text_len hwf hsz, fun wl H1 k1 s1 => ⟨rfl, ?_⟩⟩⟩
  rw [text_split hwf] at s1
  have e1 : Same H H1 := same_new hsc hdx hne k1
  have hl := hsz.lev
  refine ⟨_, rfl, sc, wl, t.items, 0, 1, t, rfl, s1, fun k z e => by rw [Nat.zero_add]; exact e, hwf, hsz, hl, by omega, fun a H2 k2 s2 pl => ?_⟩
  rw [Nat.zero_add] at s2
  have e2 : Same H H2 := Kp.new ((Kp.of e1).trans k2) hsc
  have s2' := s2
  obtain ⟨dx2, g1, g2⟩ := s2
  refine ⟨_, rfl, sc, dx2, _, rfl, g1, look_none (by decide +kernel) (by decide +kernel), sc, wl, t.items, rfl, s2', ?_⟩
  refine ⟨_, rfl, rfl, _, rfl, itN (fun c => nomatch (of_decide_eq_true c)) ?_⟩
  exact ⟨_, rfl, q a H2 e2 pl⟩
end
end PL
end
section
set_option maxHeartbeats 4000000
/-! D19: numbers_of. -/
namespace PL
open PySem PySem.Spec PyProof.Rows L2
section
variable {w : World} {K : PySem.W.Frag} {mg : Str → Option Value} {base : Heap}
theorem flat_get {α β : Type} (g : α → List β) (r : List α) (d : α) : ((List.range r.length).flatMap fun j => g (r.getD j d)) = r.flatMap g := by
  rw [List.flatMap_def, List.flatMap_def]
  congr 1
  refine List.ext_getElem (by simp) fun k h1 h2 => ?_
  have hk : k < r.length := by simpa using h2
  simp [List.getD_eq_getElem?_getD, List.getElem?_eq_getElem hk]
theorem flat_unique {α : Type} {f : Nat → List α} {n k : Nat} {v : α} (hk : k < n) (h1 : f k = [v]) (h2 : ∀ u, u ≠ k → f u = []) : (List.range n).flatMap f = [v] := by
  induction n with
  | zero => exact absurd hk (Nat.not_lt_zero _)
  | succ n ih =>
    rw [flat_succ]
    by_cases e : k = n
    · subst e
      have : (List.range k).flatMap f = [] := by
        rw [List.flatMap_eq_nil_iff]
        intro u hu
        exact h2 u (by have := List.mem_range.mp hu; omega)
      rw [this, h1]
      rfl
    · rw [ih (by omega), h2 n (fun z => e z.symm)]
      rfl
theorem inV_nat (j : Nat) (l : List Nat) : inV (V.int (j : Int)) (l.map fun (k : Nat) => V.int (k : Int)) = decide (j ∈ l) := by
  unfold inV
  rw [List.any_map, Bool.eq_iff_iff, List.any_eq_true, decide_eq_true_iff]
  constructor
  · rintro ⟨x, hx, h⟩
    have : ((x : Int) == (j : Int)) = true := h
    have e : (x : Int) = (j : Int) := by simpa using this
    have : x = j := by omega
    rw [← this]
    exact hx
  · intro h
    exact ⟨j, h, by show ((j : Int) == (j : Int)) = true; simp⟩
def iAnyR (K : PySem.W.Frag) (R : It → Hp → Prop) (x : V) (H1 : Hp) : Prop := ∃ a b, x = .ref a ∧ (∃ xs, SqB b K H1 a xs) ∧ R (ItB b K a) H1
/-- where what is told is a row of numbers -/
theorem row_of {w : Wd} {t : Told} {ps : List Tr} {m i : Nat} (hw : (w = .fin || w.isSees || w.isShows) = false) (hf : Fit w t ps m i) (hm : m ≤ 8) (hi : i ≤ 8) : ∃ r : List Nm, t.data = .tuple (r.map Nm.data) ∧ toldItems w t = r.map Nm.txt ∧ (∀ n ∈ r, n.ok) ∧ r.length ≤ 8 := by
  have h4 : ∀ r : List Nat, (∀ k ∈ r, 1 ≤ k ∧ k ≤ 4) → ∀ n ∈ r.map fun (k : Nat) => Nm.i (k : Int), n.ok := fun r h n hn => by
    obtain ⟨k, hk, rfl⟩ := List.mem_map.mp hn
    have := h k hk
    exact ⟨by omega, by omega⟩
  cases w with
  | fin => exact absurd hw (by decide)
  | ksees => exact absurd hw (by decide)
  | rsees => exact absurd hw (by decide)
  | kshows => exact absurd hw (by decide)
  | rshows => exact absurd hw (by decide)
  | hole => obtain ⟨rfl, _⟩ := hf; exact ⟨[], rfl, rfl, fun n h => by simp at h, by simp⟩
  | kmove => obtain ⟨rfl, _⟩ := hf; exact ⟨[], rfl, rfl, fun n h => by simp at h, by simp⟩
  | rmove => obtain ⟨rfl, _⟩ := hf; exact ⟨[], rfl, rfl, fun n h => by simp at h, by simp⟩
  | draw => obtain ⟨r, rfl, h1, h2, h3, _⟩ := hf; exact ⟨r, rfl, rfl, fun n hn => (h3 n hn).1, by omega⟩
  | khides => obtain ⟨r, p, rfl, _, h1, h2, _⟩ := hf; exact ⟨_, rfl, rfl, h4 r h2, by rw [List.length_map]; omega⟩
  | rhides => obtain ⟨r, p, rfl, _, h1, h2, _⟩ := hf; exact ⟨_, rfl, rfl, h4 r h2, by rw [List.length_map]; omega⟩
def sp_numbers_of (K : PySem.W.Frag) : Sp := fun vs H Q _ => ∃ a t, vs = [.ref a] ∧ PlAt K H a t ∧ WF t ∧ ∀ p H', H p = none → Same H H' → H' p = some (.lst ((toldItems t.w t.t).map V.str)) → Q (.ref p) H'
theorem ok_numbers_of (T : Txt K mg) : FnOk P0 w K mg base CX0 3 (aF K "numbers_of") (dF K "numbers_of") ["place"] (sp_numbers_of K) := by
  have G_text_in := ok_text_in (w := w) (base := base) T
  have G_how_many := ok_how_many (w := w) (base := base) T
  refine T.f_numbers_of.ok sc_numbers_of (fun vs H Q E h => by first | (obtain ⟨_, rfl, _⟩ := h; rfl) | (obtain ⟨_, _, rfl, _⟩ := h; rfl) | (obtain ⟨_, _, _, rfl, _⟩ := h; rfl) | (obtain ⟨_, _, _, _, rfl, _⟩ := h; rfl) | (obtain ⟨_, _, _, _, _, rfl, _⟩ := h; rfl) | (obtain ⟨_, _, _, _, _, _, rfl, _⟩ := h; rfl) | (obtain ⟨_, _, _, _, _, _, _, rfl, _⟩ := h; rfl) | (obtain ⟨_, _, _, _, _, _, _, _, rfl, _⟩ := h; rfl) | (obtain ⟨_, _, _, _, _, _, _, _, _, rfl, _⟩ := h; rfl) | (obtain ⟨_, _, _, _, _, _, _, _, _, _, rfl, _⟩ := h; rfl) | (obtain ⟨_, _, _, _, _, _, _, _, _, _, _, rfl, _⟩ := h; rfl) | (obtain ⟨_, _, _, _, _, _, _, _, _, _, _, _, rfl, _⟩ := h; rfl) | (obtain ⟨_, _, _, _, _, _, _, _, _, _, _, _, _, rfl, _⟩ := h; rfl) | (obtain ⟨_, _, _, _, _, _, _, _, _, _, _, _, _, _, rfl, _⟩ := h; rfl) | (obtain ⟨_, _, _, _, _, _, _, _, _, _, _, _, _, _, _, rfl, _⟩ := h; rfl) | (obtain ⟨_, _, _, _, _, _, _, _, _, _, _, _, _, _, _, _, rfl, _⟩ := h; rfl) | (obtain ⟨rfl, _⟩ := h; rfl)) (fun cdv A outer s H vs Q E hr h => ?_)
  obtain ⟨a, t, rfl, hp, hwf, q⟩ := h
  refine ⟨_, ((pss_cons (ps_if (pt_cmpR op_eq (kfld K rfl (pv 0) rfl) pe_str (nomark _)) (pss_one (ps_ret (pe_lc2 (own := [("row", 1), ("number", 2)]) (vs1 := [2]) rfl sc_numbers_of.nd (kpi K rfl (kfld K rfl (pv 0) rfl)) (blkOk_by (by kernel_rfl)) (by decide) (fun _ _ _ _ _ => (pg_name (i := 1) sc_numbers_of.nd rfl (Or.inl rfl))) (fun _ _ _ _ _ => pts_nil) (fun _ _ _ _ _ => (kpi K rfl (pv 1))) (fun _ _ _ _ _ => (pg_name (i := 2) sc_numbers_of.nd rfl (Or.inl rfl))) (fun _ _ _ _ _ => pts_nil) (fun _ _ _ _ _ => (pe_call G_text_in (hr.mono (by omega)) rfl T.g_text_in T.f_text_in.kp T.b_text_in .nil pass0 (pa_cons (pv 2) pa_nil)))))) pss_nil)
    (pss_cons (ps_if (pt_cmpR (kin K rfl) (kfld K rfl (pv 0) rfl) (pe_tup (pa_cons pe_str (pa_cons pe_str pa_nil))) rfl) (pss_one (ps_ret (pe_lc2 (own := [("row", 1), ("item", 3)]) (vs1 := [3]) rfl sc_numbers_of.nd (kpi K rfl (kfld K rfl (pv 0) rfl)) (blkOk_by (by kernel_rfl)) (by decide) (fun _ _ _ _ _ => (pg_name (i := 1) sc_numbers_of.nd rfl (Or.inl rfl))) (fun _ _ _ _ _ => pts_nil) (fun _ _ _ _ _ => (kpi K rfl (pe_lst (pa_cons (pe_callTy call_str_int (by rfl) T.z_str bt_str (pa_cons (pe_callB (klen K rfl) (by rfl) T.z_len bt_len (pa_cons (pv 1) pa_nil)) pa_nil)) (kstar K rfl (pe_lc (own := [("number", 2)]) rfl sc_numbers_of.nd (kpi K rfl (pv 1)) (blkOk_by (by kernel_rfl)) (fun _ _ _ _ _ => (pg_name (i := 2) sc_numbers_of.nd rfl (Or.inl rfl))) (fun _ _ _ _ _ => pts_nil) (fun _ _ _ _ _ => (pe_call G_text_in (hr.mono (by omega)) rfl T.g_text_in T.f_text_in.kp T.b_text_in .nil pass0 (pa_cons (pv 2) pa_nil)))) pa_nil))))) (fun _ _ _ _ _ => (pg_name (i := 3) sc_numbers_of.nd rfl (Or.inl rfl))) (fun _ _ _ _ _ => pts_nil) (fun _ _ _ _ _ => (pv 3))))) pss_nil)
    (pss_cons (ps_if (pt_cmpR (kin K rfl) (kfld K rfl (pv 0) rfl) (pe_glob (v := .ref (aF K "SHOWS")) rfl T.g_SHOWS rfl) rfl) (pss_cons (ps_set (i := 4) sc_numbers_of.nd rfl (Or.inl rfl) (pe_call G_how_many (hr.mono (by omega)) rfl T.g_how_many T.f_how_many.kp T.b_how_many .nil pass0 (pa_cons (kfld K rfl (pv 0) rfl) pa_nil)))
    (pss_one (ps_ret (pe_lc2 (own := [("hand", 5), ("at", 6), ("lot", 7)]) (vs1 := [6, 7]) rfl sc_numbers_of.nd (pi_range1 rfl T.z_range (pa_cons (pv 4) pa_nil)) (blkOk_by (by kernel_rfl)) (by decide) (fun _ _ _ _ _ => (pg_name (i := 5) sc_numbers_of.nd rfl (Or.inl rfl))) (fun _ _ _ _ _ => pts_nil) (fun _ _ _ _ _ => (kenum K rfl (by rfl) T.z_enumerate (pa_cons (kfld K rfl (pv 0) rfl) pa_nil))) (fun _ _ _ _ _ => (kgtup K 2 rfl rfl (pgs_cons (pg_name (i := 6) sc_numbers_of.nd rfl (Or.inl rfl)) (pgs_cons (pg_name (i := 7) sc_numbers_of.nd rfl (Or.inl rfl)) pgs_nil)))) (fun _ _ _ _ _ => (pts_one (pt_cmpR (kin K rfl) (pv 5) (pv 7) rfl))) (fun _ _ _ _ _ => (pe_callTy call_str_int (by rfl) T.z_str bt_str (pa_cons (pv 6) pa_nil))))))) pss_nil)
    (pss_one (ps_ret (pe_lc (own := [("number", 2)]) rfl sc_numbers_of.nd (kpi K rfl (kfld K rfl (pv 0) rfl)) (blkOk_by (by kernel_rfl)) (fun _ _ _ _ _ => (pg_name (i := 2) sc_numbers_of.nd rfl (Or.inl rfl))) (fun _ _ _ _ _ => pts_nil) (fun _ _ _ _ _ => (pe_call G_text_in (hr.mono (by omega)) rfl T.g_text_in T.f_text_in.kp T.b_text_in .nil pass0 (pa_cons (pv 2) pa_nil)))))))))), ?_⟩
  match t, hp, hwf, q with
  | .node wd td ps m k, hp, hwf, q =>
  have hf := hwf.fit
  have hm : 1 ≤ m ∧ m ≤ 8 := hwf.hm
  have hk : 1 ≤ k ∧ k ≤ 8 := hwf.hi
  obtain ⟨dx, pa, fs, vt, as, hH, hw, ht, htd, hkk, hri, hpp, hpa, hal, hps, hmm, hl⟩ := hp.inv
  have P := T.pl wd
  replace hw : fs.lookup ("word" : Str) = some (.str wd.s) := hw
  replace hH : H a = some (.ins (cW K wd) dx fs) := hH
  replace htd : Td H vt td.data := htd
  replace q : ∀ p H', H p = none → Same H H' → H' p = some (.lst ((toldItems wd td).map V.str)) → Q (.ref p) H' := q
  cases wd with
  | fin =>
    refine ⟨_, rfl, a, _, _, _, _, rfl, hH, P.cl, P.n_word, hw, rfl, _, rfl, itP (by decide +kernel) ?_⟩
    obtain ⟨r, rfl, _, hr1, hr2⟩ := hf
    obtain ⟨ta, rs, rfl, g1, g2, g3⟩ := htd.tuple_inv
    rw [List.length_map] at g2
    have sq : SqB false K H ta rs := SqT.of g1
    have hfl : ((List.range rs.length).flatMap fun j => (r.getD j []).map fun z : Nm => V.str z.txt) = (toldItems .fin (.rows r)).map V.str := by
      rw [g2, flat_getD]
      show _ = (r.flatMap fun x => x.map Nm.txt).map V.str
      rw [List.map_flatMap, List.flatMap_def, List.map_flatten]
      congr 1
      refine List.map_congr_left fun x _ => ?_
      rw [List.map_map]
      rfl
    have hlen : (toldItems .fin (.rows r)).length ≤ 72 := (told_clean (w := .fin) (t := .rows r) (ps := []) (m := m) (i := k) ⟨r, rfl, rfl, hr1, hr2⟩ hm.2 hk.2).2
    refine ⟨_, rfl, a, _, _, _, _, rfl, hH, P.cl, P.n_told, ht, ta, false, rfl, ⟨_, sq⟩, fun D hD => lc2_flat (walk_B false) hD (fun H' e => Same.sqb e sq) (fun _ => rfl) (fun j => (r.getD j []).map fun z : Nm => V.str z.txt) ?_ ?_ ?_⟩
    · rw [hfl, List.length_map]
      exact Nat.lt_of_le_of_lt hlen (by decide)
    · intro j y H3 acc hj hy e3 hacc R hR
      have hj' : j < r.length := by rw [← g2]; exact (List.getElem?_eq_some_iff.mp hy).1
      obtain ⟨a2, ws, rfl, w1, w2, w3⟩ := (g3 j y (.tuple ((r[j]).map Nm.data)) hy (by rw [List.getElem?_map, List.getElem?_eq_getElem hj'] <;> rfl)).tuple_inv
      rw [List.length_map] at w2
      have w0 : SqP false H a2 ws := w1
      refine ⟨_, rfl, a2, false, rfl, ⟨_, SqT.of (e3 _ _ w1)⟩, hR _ _ (Same.refl _) ?_⟩
      have eo : (r.getD j []).map (fun z : Nm => V.str z.txt) = (List.range ws.length).map fun u => V.str ((r[j]).getD u (.i 0)).txt := by
        rw [List.getD_eq_getElem?_getD, List.getElem?_eq_getElem hj']
        refine List.ext_getElem (by simp [w2]) fun u h1 h2 => ?_
        have hu : u < (r[j]).length := by simpa using h1
        simp [List.getD_eq_getElem?_getD, List.getElem?_eq_getElem hu]
      rw [eo]
      refine in2_seq (w0.same e3) (w0.ne hD) (fun u => V.str ((r[j]).getD u (.i 0)).txt) (fun _ => rfl) fun u y H5 hy5 k5 Ne hNe => ?_
      have hu : u < (r[j]).length := by rw [← w2]; exact (List.getElem?_eq_some_iff.mp hy5).1
      have hd := w3 u y _ hy5 (by rw [List.getElem?_map, List.getElem?_eq_getElem hu] <;> rfl)
      have e5 : Same H H5 := Kp.new ((Kp.of e3).trans k5) hD
      refine ⟨_, rfl, y, (r[j])[u], rfl, (hd.same e5).ld, (hr2 _ (List.getElem_mem hj')).2 _ (List.getElem_mem hu), fun H6 e6 => hNe _ _ e6 ?_⟩
      rw [List.getD_eq_getElem?_getD, List.getElem?_eq_getElem hu]
      rfl
    · intro H3 e3 hD3
      rw [hfl] at hD3
      exact q D H3 hD e3 hD3
  | hole =>
    refine ⟨_, rfl, a, _, _, _, _, rfl, hH, P.cl, P.n_word, hw, rfl, _, rfl, itN (by decide +kernel) ?_⟩
    refine ⟨_, rfl, a, _, _, _, _, rfl, hH, P.cl, P.n_word, hw, (by show 2 ≤ sizeLine; decide), fun p1 hp1 => ?_⟩
    refine ⟨p1, _, rfl, .inr (SqT.of upd_same), rfl, rfl, _, rfl, itN (by decide +kernel) ?_⟩
    have e1 : Same H (upd H p1 (.tup [.str "keeper-sees", .str "rival-sees"])) := same_upd hp1
    generalize upd H p1 (.tup [.str "keeper-sees", .str "rival-sees"]) = H1 at e1 ⊢
    refine ⟨_, rfl, a, _, _, _, _, rfl, e1 _ _ hH, P.cl, P.n_word, hw, _, _, rfl, .inr (T.t_SHOWS _), rfl, rfl, _, rfl, itN (by decide +kernel) ?_⟩
    obtain ⟨rr, er1, er2, er3, er4⟩ := row_of (w := .hole) rfl hf hm.2 hk.2
    have td1 := htd.same e1
    rw [er1] at td1
    obtain ⟨ta, rs, rfl, g1, g2, g3⟩ := td1.tuple_inv
    rw [List.length_map] at g2
    have sq : SqB false K H1 ta rs := SqT.of g1
    refine ⟨_, rfl, a, _, _, _, _, rfl, e1 _ _ hH, P.cl, P.n_told, ht, ta, false, rfl, ⟨_, sq⟩, fun D hD => lc_pure hD sq (by rw [g2]; exact Nat.lt_of_le_of_lt er4 (by decide)) (fun _ => rfl) (fun j y _ => ∀ z, rr[j]? = some z → y = .str z.txt) (fun _ _ _ _ _ h => h) ?_ ?_⟩
    · intro j y H2 hy e2 Qe hq
      have hj : j < rr.length := by rw [← g2]; exact (List.getElem?_eq_some_iff.mp hy).1
      have hd := g3 j y _ hy (by rw [List.getElem?_map, List.getElem?_eq_getElem hj] <;> rfl)
      refine ⟨_, rfl, y, rr[j], rfl, (hd.same e2).ld, er3 _ (List.getElem_mem hj), fun H3 e3 => hq _ _ e3 fun z hz => ?_⟩
      rw [List.getElem?_eq_getElem hj] at hz
      cases hz
      rfl
    · intro ys H2 e2 hD2 hl2 hP2
      have ey : ys = (rr.map Nm.txt).map V.str := by
        rw [ys_map (f := fun z : Nm => V.str z.txt) (hl2.trans g2) hP2, List.map_map]
        rfl
      refine q D H2 (Same.none_of e1 hD) (e1.trans e2) ?_
      rw [hD2, ey, er2]
  | draw =>
    refine ⟨_, rfl, a, _, _, _, _, rfl, hH, P.cl, P.n_word, hw, rfl, _, rfl, itN (by decide +kernel) ?_⟩
    refine ⟨_, rfl, a, _, _, _, _, rfl, hH, P.cl, P.n_word, hw, (by show 2 ≤ sizeLine; decide), fun p1 hp1 => ?_⟩
    refine ⟨p1, _, rfl, .inr (SqT.of upd_same), rfl, rfl, _, rfl, itN (by decide +kernel) ?_⟩
    have e1 : Same H (upd H p1 (.tup [.str "keeper-sees", .str "rival-sees"])) := same_upd hp1
    generalize upd H p1 (.tup [.str "keeper-sees", .str "rival-sees"]) = H1 at e1 ⊢
    refine ⟨_, rfl, a, _, _, _, _, rfl, e1 _ _ hH, P.cl, P.n_word, hw, _, _, rfl, .inr (T.t_SHOWS _), rfl, rfl, _, rfl, itN (by decide +kernel) ?_⟩
    obtain ⟨rr, er1, er2, er3, er4⟩ := row_of (w := .draw) rfl hf hm.2 hk.2
    have td1 := htd.same e1
    rw [er1] at td1
    obtain ⟨ta, rs, rfl, g1, g2, g3⟩ := td1.tuple_inv
    rw [List.length_map] at g2
    have sq : SqB false K H1 ta rs := SqT.of g1
    refine ⟨_, rfl, a, _, _, _, _, rfl, e1 _ _ hH, P.cl, P.n_told, ht, ta, false, rfl, ⟨_, sq⟩, fun D hD => lc_pure hD sq (by rw [g2]; exact Nat.lt_of_le_of_lt er4 (by decide)) (fun _ => rfl) (fun j y _ => ∀ z, rr[j]? = some z → y = .str z.txt) (fun _ _ _ _ _ h => h) ?_ ?_⟩
    · intro j y H2 hy e2 Qe hq
      have hj : j < rr.length := by rw [← g2]; exact (List.getElem?_eq_some_iff.mp hy).1
      have hd := g3 j y _ hy (by rw [List.getElem?_map, List.getElem?_eq_getElem hj] <;> rfl)
      refine ⟨_, rfl, y, rr[j], rfl, (hd.same e2).ld, er3 _ (List.getElem_mem hj), fun H3 e3 => hq _ _ e3 fun z hz => ?_⟩
      rw [List.getElem?_eq_getElem hj] at hz
      cases hz
      rfl
    · intro ys H2 e2 hD2 hl2 hP2
      have ey : ys = (rr.map Nm.txt).map V.str := by
        rw [ys_map (f := fun z : Nm => V.str z.txt) (hl2.trans g2) hP2, List.map_map]
        rfl
      refine q D H2 (Same.none_of e1 hD) (e1.trans e2) ?_
      rw [hD2, ey, er2]
  | kmove =>
    refine ⟨_, rfl, a, _, _, _, _, rfl, hH, P.cl, P.n_word, hw, rfl, _, rfl, itN (by decide +kernel) ?_⟩
    refine ⟨_, rfl, a, _, _, _, _, rfl, hH, P.cl, P.n_word, hw, (by show 2 ≤ sizeLine; decide), fun p1 hp1 => ?_⟩
    refine ⟨p1, _, rfl, .inr (SqT.of upd_same), rfl, rfl, _, rfl, itN (by decide +kernel) ?_⟩
    have e1 : Same H (upd H p1 (.tup [.str "keeper-sees", .str "rival-sees"])) := same_upd hp1
    generalize upd H p1 (.tup [.str "keeper-sees", .str "rival-sees"]) = H1 at e1 ⊢
    refine ⟨_, rfl, a, _, _, _, _, rfl, e1 _ _ hH, P.cl, P.n_word, hw, _, _, rfl, .inr (T.t_SHOWS _), rfl, rfl, _, rfl, itN (by decide +kernel) ?_⟩
    obtain ⟨rr, er1, er2, er3, er4⟩ := row_of (w := .kmove) rfl hf hm.2 hk.2
    have td1 := htd.same e1
    rw [er1] at td1
    obtain ⟨ta, rs, rfl, g1, g2, g3⟩ := td1.tuple_inv
    rw [List.length_map] at g2
    have sq : SqB false K H1 ta rs := SqT.of g1
    refine ⟨_, rfl, a, _, _, _, _, rfl, e1 _ _ hH, P.cl, P.n_told, ht, ta, false, rfl, ⟨_, sq⟩, fun D hD => lc_pure hD sq (by rw [g2]; exact Nat.lt_of_le_of_lt er4 (by decide)) (fun _ => rfl) (fun j y _ => ∀ z, rr[j]? = some z → y = .str z.txt) (fun _ _ _ _ _ h => h) ?_ ?_⟩
    · intro j y H2 hy e2 Qe hq
      have hj : j < rr.length := by rw [← g2]; exact (List.getElem?_eq_some_iff.mp hy).1
      have hd := g3 j y _ hy (by rw [List.getElem?_map, List.getElem?_eq_getElem hj] <;> rfl)
      refine ⟨_, rfl, y, rr[j], rfl, (hd.same e2).ld, er3 _ (List.getElem_mem hj), fun H3 e3 => hq _ _ e3 fun z hz => ?_⟩
      rw [List.getElem?_eq_getElem hj] at hz
      cases hz
      rfl
    · intro ys H2 e2 hD2 hl2 hP2
      have ey : ys = (rr.map Nm.txt).map V.str := by
        rw [ys_map (f := fun z : Nm => V.str z.txt) (hl2.trans g2) hP2, List.map_map]
        rfl
      refine q D H2 (Same.none_of e1 hD) (e1.trans e2) ?_
      rw [hD2, ey, er2]
  | rmove =>
    refine ⟨_, rfl, a, _, _, _, _, rfl, hH, P.cl, P.n_word, hw, rfl, _, rfl, itN (by decide +kernel) ?_⟩
    refine ⟨_, rfl, a, _, _, _, _, rfl, hH, P.cl, P.n_word, hw, (by show 2 ≤ sizeLine; decide), fun p1 hp1 => ?_⟩
    refine ⟨p1, _, rfl, .inr (SqT.of upd_same), rfl, rfl, _, rfl, itN (by decide +kernel) ?_⟩
    have e1 : Same H (upd H p1 (.tup [.str "keeper-sees", .str "rival-sees"])) := same_upd hp1
    generalize upd H p1 (.tup [.str "keeper-sees", .str "rival-sees"]) = H1 at e1 ⊢
    refine ⟨_, rfl, a, _, _, _, _, rfl, e1 _ _ hH, P.cl, P.n_word, hw, _, _, rfl, .inr (T.t_SHOWS _), rfl, rfl, _, rfl, itN (by decide +kernel) ?_⟩
    obtain ⟨rr, er1, er2, er3, er4⟩ := row_of (w := .rmove) rfl hf hm.2 hk.2
    have td1 := htd.same e1
    rw [er1] at td1
    obtain ⟨ta, rs, rfl, g1, g2, g3⟩ := td1.tuple_inv
    rw [List.length_map] at g2
    have sq : SqB false K H1 ta rs := SqT.of g1
    refine ⟨_, rfl, a, _, _, _, _, rfl, e1 _ _ hH, P.cl, P.n_told, ht, ta, false, rfl, ⟨_, sq⟩, fun D hD => lc_pure hD sq (by rw [g2]; exact Nat.lt_of_le_of_lt er4 (by decide)) (fun _ => rfl) (fun j y _ => ∀ z, rr[j]? = some z → y = .str z.txt) (fun _ _ _ _ _ h => h) ?_ ?_⟩
    · intro j y H2 hy e2 Qe hq
      have hj : j < rr.length := by rw [← g2]; exact (List.getElem?_eq_some_iff.mp hy).1
      have hd := g3 j y _ hy (by rw [List.getElem?_map, List.getElem?_eq_getElem hj] <;> rfl)
      refine ⟨_, rfl, y, rr[j], rfl, (hd.same e2).ld, er3 _ (List.getElem_mem hj), fun H3 e3 => hq _ _ e3 fun z hz => ?_⟩
      rw [List.getElem?_eq_getElem hj] at hz
      cases hz
      rfl
    · intro ys H2 e2 hD2 hl2 hP2
      have ey : ys = (rr.map Nm.txt).map V.str := by
        rw [ys_map (f := fun z : Nm => V.str z.txt) (hl2.trans g2) hP2, List.map_map]
        rfl
      refine q D H2 (Same.none_of e1 hD) (e1.trans e2) ?_
      rw [hD2, ey, er2]
  | khides =>
    refine ⟨_, rfl, a, _, _, _, _, rfl, hH, P.cl, P.n_word, hw, rfl, _, rfl, itN (by decide +kernel) ?_⟩
    refine ⟨_, rfl, a, _, _, _, _, rfl, hH, P.cl, P.n_word, hw, (by show 2 ≤ sizeLine; decide), fun p1 hp1 => ?_⟩
    refine ⟨p1, _, rfl, .inr (SqT.of upd_same), rfl, rfl, _, rfl, itN (by decide +kernel) ?_⟩
    have e1 : Same H (upd H p1 (.tup [.str "keeper-sees", .str "rival-sees"])) := same_upd hp1
    generalize upd H p1 (.tup [.str "keeper-sees", .str "rival-sees"]) = H1 at e1 ⊢
    refine ⟨_, rfl, a, _, _, _, _, rfl, e1 _ _ hH, P.cl, P.n_word, hw, _, _, rfl, .inr (T.t_SHOWS _), rfl, rfl, _, rfl, itN (by decide +kernel) ?_⟩
    obtain ⟨rr, er1, er2, er3, er4⟩ := row_of (w := .khides) rfl hf hm.2 hk.2
    have td1 := htd.same e1
    rw [er1] at td1
    obtain ⟨ta, rs, rfl, g1, g2, g3⟩ := td1.tuple_inv
    rw [List.length_map] at g2
    have sq : SqB false K H1 ta rs := SqT.of g1
    refine ⟨_, rfl, a, _, _, _, _, rfl, e1 _ _ hH, P.cl, P.n_told, ht, ta, false, rfl, ⟨_, sq⟩, fun D hD => lc_pure hD sq (by rw [g2]; exact Nat.lt_of_le_of_lt er4 (by decide)) (fun _ => rfl) (fun j y _ => ∀ z, rr[j]? = some z → y = .str z.txt) (fun _ _ _ _ _ h => h) ?_ ?_⟩
    · intro j y H2 hy e2 Qe hq
      have hj : j < rr.length := by rw [← g2]; exact (List.getElem?_eq_some_iff.mp hy).1
      have hd := g3 j y _ hy (by rw [List.getElem?_map, List.getElem?_eq_getElem hj] <;> rfl)
      refine ⟨_, rfl, y, rr[j], rfl, (hd.same e2).ld, er3 _ (List.getElem_mem hj), fun H3 e3 => hq _ _ e3 fun z hz => ?_⟩
      rw [List.getElem?_eq_getElem hj] at hz
      cases hz
      rfl
    · intro ys H2 e2 hD2 hl2 hP2
      have ey : ys = (rr.map Nm.txt).map V.str := by
        rw [ys_map (f := fun z : Nm => V.str z.txt) (hl2.trans g2) hP2, List.map_map]
        rfl
      refine q D H2 (Same.none_of e1 hD) (e1.trans e2) ?_
      rw [hD2, ey, er2]
  | rhides =>
    refine ⟨_, rfl, a, _, _, _, _, rfl, hH, P.cl, P.n_word, hw, rfl, _, rfl, itN (by decide +kernel) ?_⟩
    refine ⟨_, rfl, a, _, _, _, _, rfl, hH, P.cl, P.n_word, hw, (by show 2 ≤ sizeLine; decide), fun p1 hp1 => ?_⟩
    refine ⟨p1, _, rfl, .inr (SqT.of upd_same), rfl, rfl, _, rfl, itN (by decide +kernel) ?_⟩
    have e1 : Same H (upd H p1 (.tup [.str "keeper-sees", .str "rival-sees"])) := same_upd hp1
    generalize upd H p1 (.tup [.str "keeper-sees", .str "rival-sees"]) = H1 at e1 ⊢
    refine ⟨_, rfl, a, _, _, _, _, rfl, e1 _ _ hH, P.cl, P.n_word, hw, _, _, rfl, .inr (T.t_SHOWS _), rfl, rfl, _, rfl, itN (by decide +kernel) ?_⟩
    obtain ⟨rr, er1, er2, er3, er4⟩ := row_of (w := .rhides) rfl hf hm.2 hk.2
    have td1 := htd.same e1
    rw [er1] at td1
    obtain ⟨ta, rs, rfl, g1, g2, g3⟩ := td1.tuple_inv
    rw [List.length_map] at g2
    have sq : SqB false K H1 ta rs := SqT.of g1
    refine ⟨_, rfl, a, _, _, _, _, rfl, e1 _ _ hH, P.cl, P.n_told, ht, ta, false, rfl, ⟨_, sq⟩, fun D hD => lc_pure hD sq (by rw [g2]; exact Nat.lt_of_le_of_lt er4 (by decide)) (fun _ => rfl) (fun j y _ => ∀ z, rr[j]? = some z → y = .str z.txt) (fun _ _ _ _ _ h => h) ?_ ?_⟩
    · intro j y H2 hy e2 Qe hq
      have hj : j < rr.length := by rw [← g2]; exact (List.getElem?_eq_some_iff.mp hy).1
      have hd := g3 j y _ hy (by rw [List.getElem?_map, List.getElem?_eq_getElem hj] <;> rfl)
      refine ⟨_, rfl, y, rr[j], rfl, (hd.same e2).ld, er3 _ (List.getElem_mem hj), fun H3 e3 => hq _ _ e3 fun z hz => ?_⟩
      rw [List.getElem?_eq_getElem hj] at hz
      cases hz
      rfl
    · intro ys H2 e2 hD2 hl2 hP2
      have ey : ys = (rr.map Nm.txt).map V.str := by
        rw [ys_map (f := fun z : Nm => V.str z.txt) (hl2.trans g2) hP2, List.map_map]
        rfl
      refine q D H2 (Same.none_of e1 hD) (e1.trans e2) ?_
      rw [hD2, ey, er2]
  | ksees =>
    refine ⟨_, rfl, a, _, _, _, _, rfl, hH, P.cl, P.n_word, hw, rfl, _, rfl, itN (by decide +kernel) ?_⟩
    refine ⟨_, rfl, a, _, _, _, _, rfl, hH, P.cl, P.n_word, hw, (by show 2 ≤ sizeLine; decide), fun p1 hp1 => ?_⟩
    refine ⟨p1, _, rfl, .inr (SqT.of upd_same), rfl, rfl, _, rfl, itP (by decide +kernel) ?_⟩
    have e1 : Same H (upd H p1 (.tup [.str "keeper-sees", .str "rival-sees"])) := same_upd hp1
    generalize upd H p1 (.tup [.str "keeper-sees", .str "rival-sees"]) = H1 at e1 ⊢
    obtain ⟨r, p0, rfl, _, hr1, hr2, _⟩ := hf
    obtain ⟨ta, rs, rfl, g1, g2, g3⟩ := (htd.same e1).tuple_inv
    rw [List.length_map] at g2
    have sq : SqB false K H1 ta rs := SqT.of g1
    have hfl : ((List.range rs.length).flatMap fun j => (rowItems (r.getD j [])).map V.str) = (r.flatMap rowItems).map V.str := by
      rw [g2, flat_get (fun x => (rowItems x).map V.str) r [], List.map_flatMap]
    have hlen : (r.flatMap rowItems).length ≤ 72 := (told_clean hwf.fit hm.2 hk.2).2
    refine ⟨_, rfl, a, _, _, _, _, rfl, e1 _ _ hH, P.cl, P.n_told, ht, ta, false, rfl, ⟨_, sq⟩, fun D hD => lc2_flat (walk_B false) hD (fun H' e => Same.sqb e sq) (fun _ => rfl) (fun j => (rowItems (r.getD j [])).map V.str) ?_ ?_ ?_⟩
    · rw [hfl, List.length_map]
      exact Nat.lt_of_le_of_lt hlen (by decide)
    · intro j y H3 acc hj hy e3 hacc R hR
      have hj' : j < r.length := by rw [← g2]; exact (List.getElem?_eq_some_iff.mp hy).1
      obtain ⟨⟨l1, l2⟩, l3⟩ := hr2 _ (List.getElem_mem hj')
      obtain ⟨a2, ws, rfl, w1, w2, w3⟩ := ((g3 j y (.tuple ((r[j]).map Nm.data)) hy (by rw [List.getElem?_map, List.getElem?_eq_getElem hj'] <;> rfl)).same e3).tuple_inv
      rw [List.length_map] at w2
      have w0 : SqB false K H3 a2 ws := SqT.of w1
      refine ⟨_, rfl, a2, false, _, rfl, w0, _, rfl, num_log ⟨by omega, by omega⟩, ?_⟩
      refine ⟨_, rfl, a2, false, rfl, ⟨_, w0⟩, fun D2 hD2 => lc_pure hD2 w0 (by rw [w2]; exact Nat.lt_of_le_of_lt l2 (by decide)) (fun _ => rfl) (fun u y _ => ∀ z, (r[j])[u]? = some z → y = .str z.txt) (fun _ _ _ _ _ h => h) ?_ ?_⟩
      · intro u y H5 hy5 e5 Qe hq
        have hu : u < (r[j]).length := by rw [← w2]; exact (List.getElem?_eq_some_iff.mp hy5).1
        have hd := w3 u y _ hy5 (by rw [List.getElem?_map, List.getElem?_eq_getElem hu] <;> rfl)
        refine ⟨_, rfl, y, (r[j])[u], rfl, (hd.same e5).ld, (l3 _ (List.getElem_mem hu)).1, fun H6 e6 => hq _ _ e6 fun z hz => ?_⟩
        rw [List.getElem?_eq_getElem hu] at hz
        cases hz
        rfl
      · intro ys H5 e5 hD5 hl5 hP5
        have ey : ys = ((r[j]).map Nm.txt).map V.str := by
          rw [ys_map (f := fun z : Nm => V.str z.txt) (hl5.trans w2) hP5, List.map_map]
          rfl
        have el : (V.str (num ((ws.length : Nat) : Int)) :: (ys ++ [])) = (rowItems (r.getD j [])).map V.str := by
          rw [ey, List.append_nil, w2, List.getD_eq_getElem?_getD, List.getElem?_eq_getElem hj']
          rfl
        refine ⟨D2, _, rfl, .inr (SqL.of hD5), ?_, fun p hp => ?_⟩
        · show (V.str (num ((ws.length : Nat) : Int)) :: (ys ++ [])).length ≤ _
          rw [List.append_nil, List.length_cons, hl5, w2]
          exact Nat.le_trans (show _ ≤ 9 by omega) (by decide)
        have hp' : upd H5 p (.lst ((rowItems (r.getD j [])).map V.str)) p = some (.lst ((rowItems (r.getD j [])).map V.str)) := upd_same
        show iAnyR K R (.ref p) (upd H5 p (.lst (V.str (num ((ws.length : Nat) : Int)) :: (ys ++ []))))
        rw [el]
        refine ⟨p, true, rfl, ⟨_, SqL.of hp'⟩, hR _ _ (Same.snoc e5 hp) ?_⟩
        have g0 : SqP true (upd H5 p (.lst ((rowItems (r.getD j [])).map V.str))) p ((rowItems (r.getD j [])).map V.str) := hp'
        have ne : p ≠ D := fun z => by
          subst z
          rw [e5 _ _ hacc] at hp
          cases hp
        have := in2_seq (K := K) (te := tVar 3) (vs1 := [3]) (σ2 := (wipe (L2.start ["place", "row", "number", "item", "many", "hand", "at", "lot"] [V.ref a]) [1, 3]).set 1 (some (.ref a2))) (jx := 3) g0 ne (fun u => ((rowItems (r.getD j [])).map V.str).getD u .non) (fun _ => rfl) fun u y H7 hy7 k7 Ne hNe => ⟨_, rfl, hNe _ _ (Same.refl _) (by rw [List.getD_eq_getElem?_getD, hy7] <;> rfl)⟩
        rw [map_getD] at this
        exact this
    · intro H3 e3 hD3
      rw [hfl] at hD3
      exact q D H3 (Same.none_of e1 hD) (e1.trans e3) hD3
  | rsees =>
    refine ⟨_, rfl, a, _, _, _, _, rfl, hH, P.cl, P.n_word, hw, rfl, _, rfl, itN (by decide +kernel) ?_⟩
    refine ⟨_, rfl, a, _, _, _, _, rfl, hH, P.cl, P.n_word, hw, (by show 2 ≤ sizeLine; decide), fun p1 hp1 => ?_⟩
    refine ⟨p1, _, rfl, .inr (SqT.of upd_same), rfl, rfl, _, rfl, itP (by decide +kernel) ?_⟩
    have e1 : Same H (upd H p1 (.tup [.str "keeper-sees", .str "rival-sees"])) := same_upd hp1
    generalize upd H p1 (.tup [.str "keeper-sees", .str "rival-sees"]) = H1 at e1 ⊢
    obtain ⟨r, p0, rfl, _, hr1, hr2, _⟩ := hf
    obtain ⟨ta, rs, rfl, g1, g2, g3⟩ := (htd.same e1).tuple_inv
    rw [List.length_map] at g2
    have sq : SqB false K H1 ta rs := SqT.of g1
    have hfl : ((List.range rs.length).flatMap fun j => (rowItems (r.getD j [])).map V.str) = (r.flatMap rowItems).map V.str := by
      rw [g2, flat_get (fun x => (rowItems x).map V.str) r [], List.map_flatMap]
    have hlen : (r.flatMap rowItems).length ≤ 72 := (told_clean hwf.fit hm.2 hk.2).2
    refine ⟨_, rfl, a, _, _, _, _, rfl, e1 _ _ hH, P.cl, P.n_told, ht, ta, false, rfl, ⟨_, sq⟩, fun D hD => lc2_flat (walk_B false) hD (fun H' e => Same.sqb e sq) (fun _ => rfl) (fun j => (rowItems (r.getD j [])).map V.str) ?_ ?_ ?_⟩
    · rw [hfl, List.length_map]
      exact Nat.lt_of_le_of_lt hlen (by decide)
    · intro j y H3 acc hj hy e3 hacc R hR
      have hj' : j < r.length := by rw [← g2]; exact (List.getElem?_eq_some_iff.mp hy).1
      obtain ⟨⟨l1, l2⟩, l3⟩ := hr2 _ (List.getElem_mem hj')
      obtain ⟨a2, ws, rfl, w1, w2, w3⟩ := ((g3 j y (.tuple ((r[j]).map Nm.data)) hy (by rw [List.getElem?_map, List.getElem?_eq_getElem hj'] <;> rfl)).same e3).tuple_inv
      rw [List.length_map] at w2
      have w0 : SqB false K H3 a2 ws := SqT.of w1
      refine ⟨_, rfl, a2, false, _, rfl, w0, _, rfl, num_log ⟨by omega, by omega⟩, ?_⟩
      refine ⟨_, rfl, a2, false, rfl, ⟨_, w0⟩, fun D2 hD2 => lc_pure hD2 w0 (by rw [w2]; exact Nat.lt_of_le_of_lt l2 (by decide)) (fun _ => rfl) (fun u y _ => ∀ z, (r[j])[u]? = some z → y = .str z.txt) (fun _ _ _ _ _ h => h) ?_ ?_⟩
      · intro u y H5 hy5 e5 Qe hq
        have hu : u < (r[j]).length := by rw [← w2]; exact (List.getElem?_eq_some_iff.mp hy5).1
        have hd := w3 u y _ hy5 (by rw [List.getElem?_map, List.getElem?_eq_getElem hu] <;> rfl)
        refine ⟨_, rfl, y, (r[j])[u], rfl, (hd.same e5).ld, (l3 _ (List.getElem_mem hu)).1, fun H6 e6 => hq _ _ e6 fun z hz => ?_⟩
        rw [List.getElem?_eq_getElem hu] at hz
        cases hz
        rfl
      · intro ys H5 e5 hD5 hl5 hP5
        have ey : ys = ((r[j]).map Nm.txt).map V.str := by
          rw [ys_map (f := fun z : Nm => V.str z.txt) (hl5.trans w2) hP5, List.map_map]
          rfl
        have el : (V.str (num ((ws.length : Nat) : Int)) :: (ys ++ [])) = (rowItems (r.getD j [])).map V.str := by
          rw [ey, List.append_nil, w2, List.getD_eq_getElem?_getD, List.getElem?_eq_getElem hj']
          rfl
        refine ⟨D2, _, rfl, .inr (SqL.of hD5), ?_, fun p hp => ?_⟩
        · show (V.str (num ((ws.length : Nat) : Int)) :: (ys ++ [])).length ≤ _
          rw [List.append_nil, List.length_cons, hl5, w2]
          exact Nat.le_trans (show _ ≤ 9 by omega) (by decide)
        have hp' : upd H5 p (.lst ((rowItems (r.getD j [])).map V.str)) p = some (.lst ((rowItems (r.getD j [])).map V.str)) := upd_same
        show iAnyR K R (.ref p) (upd H5 p (.lst (V.str (num ((ws.length : Nat) : Int)) :: (ys ++ []))))
        rw [el]
        refine ⟨p, true, rfl, ⟨_, SqL.of hp'⟩, hR _ _ (Same.snoc e5 hp) ?_⟩
        have g0 : SqP true (upd H5 p (.lst ((rowItems (r.getD j [])).map V.str))) p ((rowItems (r.getD j [])).map V.str) := hp'
        have ne : p ≠ D := fun z => by
          subst z
          rw [e5 _ _ hacc] at hp
          cases hp
        have := in2_seq (K := K) (te := tVar 3) (vs1 := [3]) (σ2 := (wipe (L2.start ["place", "row", "number", "item", "many", "hand", "at", "lot"] [V.ref a]) [1, 3]).set 1 (some (.ref a2))) (jx := 3) g0 ne (fun u => ((rowItems (r.getD j [])).map V.str).getD u .non) (fun _ => rfl) fun u y H7 hy7 k7 Ne hNe => ⟨_, rfl, hNe _ _ (Same.refl _) (by rw [List.getD_eq_getElem?_getD, hy7] <;> rfl)⟩
        rw [map_getD] at this
        exact this
    · intro H3 e3 hD3
      rw [hfl] at hD3
      exact q D H3 (Same.none_of e1 hD) (e1.trans e3) hD3
  | kshows =>
    refine ⟨_, rfl, a, _, _, _, _, rfl, hH, P.cl, P.n_word, hw, rfl, _, rfl, itN (by decide +kernel) ?_⟩
    refine ⟨_, rfl, a, _, _, _, _, rfl, hH, P.cl, P.n_word, hw, (by show 2 ≤ sizeLine; decide), fun p1 hp1 => ?_⟩
    refine ⟨p1, _, rfl, .inr (SqT.of upd_same), rfl, rfl, _, rfl, itN (by decide +kernel) ?_⟩
    have e1 : Same H (upd H p1 (.tup [.str "keeper-sees", .str "rival-sees"])) := same_upd hp1
    generalize upd H p1 (.tup [.str "keeper-sees", .str "rival-sees"]) = H1 at e1 ⊢
    refine ⟨_, rfl, a, _, _, _, _, rfl, e1 _ _ hH, P.cl, P.n_word, hw, _, _, rfl, .inr (T.t_SHOWS _), rfl, rfl, _, rfl, itP (by decide +kernel) ?_⟩
    obtain ⟨c, rfl, hc, hcl, hl6, _⟩ := hf
    have hc8 : c.length ≤ 8 := by omega
    refine ⟨_, rfl, a, _, _, _, _, rfl, e1 _ _ hH, P.cl, P.n_told, ht, vt, c, rfl, (htd.same e1).ld, hc, hc8, fun H2 e2 => ?_⟩
    have e12 := e1.trans e2
    obtain ⟨ta, rs, rfl, g1, g2, g3⟩ := (htd.same e12).tuple_inv
    rw [List.length_map] at g2
    have hfl : ((List.range ((c.length : Int)).toNat).flatMap fun j => [V.str (num ((c.getD j 0 : Nat) : Int))]) = (toldItems .kshows (.lots c)).map V.str := by
      have e : ((c.length : Int)).toNat = c.length := by omega
      rw [e, flat_one]
      show _ = (c.map fun (k : Nat) => num (k : Int)).map V.str
      rw [List.map_map]
      refine List.ext_getElem (by simp) fun u h1 h2 => ?_
      have hu : u < c.length := by simpa using h2
      simp [List.getD_eq_getElem?_getD, List.getElem?_eq_getElem hu]
    refine ⟨_, rfl, _, rfl, by omega, by omega, fun D hD => lc2_flat walk_rgA hD (fun _ _ => trivial) (fun _ => rfl) (fun j => [V.str (num ((c.getD j 0 : Nat) : Int))]) ?_ ?_ ?_⟩
    · rw [hfl, List.length_map]
      show (c.map fun (k : Nat) => num (k : Int)).length < sizeLine
      rw [List.length_map]
      exact Nat.lt_of_le_of_lt hc8 (by decide)
    · intro j y H3 acc hj hy e3 hacc R hR
      rw [List.getElem?_map, List.getElem?_range hj] at hy
      cases hy
      have hj' : j < c.length := by omega
      have hcj : c[j]? = some c[j] := List.getElem?_eq_getElem hj'
      have e13 := e12.trans e3
      refine ⟨_, rfl, a, _, _, _, _, rfl, e13 _ _ hH, P.cl, P.n_told, ht, ta, rs, rfl, .inr ⟨SqT.of (e3 _ _ g1), hR _ _ (Same.refl _) ?_⟩⟩
      have nD : ta ≠ D := fun z => by subst z; rw [g1] at hD; cases hD
      refine ⟨rs.length, _, _, fun u => if j ∈ (lotsOf c).getD u [] then [V.str (num ((u : Nat) : Int))] else [], walk_enumT, ?_, fun H' k => SqT.of (k _ _ (e3 _ _ g1) fun z => nD (by injection z)), ?_⟩
      · rw [g2]
        obtain ⟨lot, q1, q2⟩ := lots_at hc hcj
        refine flat_unique (k := c[j]) (lot_lt hc hcj) ?_ fun u hu => ?_
        · rw [List.getD_eq_getElem?_getD, q1]
          show (if j ∈ lot then _ else _) = _
          rw [if_pos q2, List.getD_eq_getElem?_getD, hcj]
          rfl
        · refine if_neg fun z => hu ?_
          rw [List.getD_eq_getElem?_getD] at z
          cases eu : (lotsOf c)[u]? with
          | none => rw [eu] at z; simp at z
          | some lot2 =>
            rw [eu] at z
            exact lots_uniq hc hcj eu z
      · rintro u x1 H5 H6 hu k5 ⟨acc5, hacc5⟩ ⟨T1, y1, y2, rfl, hT1, rfl, hy1, hy2⟩ Ne Nn hNe hNn
        cases hy1
        have hu' : u < (lotsOf c).length := by omega
        have hlu : (lotsOf c)[u]? = some (lotsOf c)[u] := List.getElem?_eq_getElem hu'
        have e5 : Same H2 H5 := Kp.new ((Kp.of e3).trans k5) hD
        have e56 : Same H5 (upd H5 T1 (.tup [.int (u : Nat), y2])) := same_upd hT1
        obtain ⟨b2, ws, rfl, w1, w2, w3⟩ := ((g3 u y2 (lotD (lotsOf c)[u]) hy2 (by rw [List.getElem?_map, hlu] <;> rfl)).same (e5.trans e56)).tuple_inv
        rw [List.length_map] at w2
        have ew : ws = ((lotsOf c)[u]).map fun (k : Nat) => V.int (k : Int) := ys_map w2 fun z v hv n hn => by
          have := w3 z v (.int (n : Int)) hv (by rw [List.getElem?_map, hn] <;> rfl)
          cases this
          rfl
        refine ⟨_, _, rfl, SqT.of upd_same, rfl, _, _, rfl, _, _, rfl, rfl, rfl, ?_⟩
        refine ⟨_, rfl, _, rfl, b2, ws, rfl, .inr (SqT.of w1), rfl, ?_, _, rfl, ?_⟩
        · rw [ew, List.all_map]
          exact List.all_eq_true.mpr fun _ _ => rfl
        have hin : inV (.int (0 + (j : Nat))) ws = decide (j ∈ (lotsOf c)[u]) := by
          rw [ew, Int.zero_add]
          exact inV_nat _ _
        show if inV (.int (0 + (j : Nat))) ws = true then _ else _
        rw [hin]
        by_cases hmem : j ∈ (lotsOf c)[u]
        · refine itP (decide_eq_true hmem) ?_
          refine ⟨_, rfl, _, rfl, num_log ⟨by omega, by omega⟩, hNe _ _ e56 ?_⟩
          show (if j ∈ (lotsOf c).getD u [] then [V.str (num ((u : Nat) : Int))] else []) = _
          rw [List.getD_eq_getElem?_getD, hlu]
          exact if_pos hmem
        · refine itN (by rw [decide_eq_false hmem]; decide) ?_
          refine hNn _ e56 ?_
          show (if j ∈ (lotsOf c).getD u [] then [V.str (num ((u : Nat) : Int))] else []) = _
          rw [List.getD_eq_getElem?_getD, hlu]
          exact if_neg hmem
    · intro H3 e3 hD3
      rw [hfl] at hD3
      exact q D H3 (Same.none_of e12 hD) (e12.trans e3) hD3
  | rshows =>
    refine ⟨_, rfl, a, _, _, _, _, rfl, hH, P.cl, P.n_word, hw, rfl, _, rfl, itN (by decide +kernel) ?_⟩
    refine ⟨_, rfl, a, _, _, _, _, rfl, hH, P.cl, P.n_word, hw, (by show 2 ≤ sizeLine; decide), fun p1 hp1 => ?_⟩
    refine ⟨p1, _, rfl, .inr (SqT.of upd_same), rfl, rfl, _, rfl, itN (by decide +kernel) ?_⟩
    have e1 : Same H (upd H p1 (.tup [.str "keeper-sees", .str "rival-sees"])) := same_upd hp1
    generalize upd H p1 (.tup [.str "keeper-sees", .str "rival-sees"]) = H1 at e1 ⊢
    refine ⟨_, rfl, a, _, _, _, _, rfl, e1 _ _ hH, P.cl, P.n_word, hw, _, _, rfl, .inr (T.t_SHOWS _), rfl, rfl, _, rfl, itP (by decide +kernel) ?_⟩
    obtain ⟨c, rfl, hc, hcl, hl6, _⟩ := hf
    have hc8 : c.length ≤ 8 := by omega
    refine ⟨_, rfl, a, _, _, _, _, rfl, e1 _ _ hH, P.cl, P.n_told, ht, vt, c, rfl, (htd.same e1).ld, hc, hc8, fun H2 e2 => ?_⟩
    have e12 := e1.trans e2
    obtain ⟨ta, rs, rfl, g1, g2, g3⟩ := (htd.same e12).tuple_inv
    rw [List.length_map] at g2
    have hfl : ((List.range ((c.length : Int)).toNat).flatMap fun j => [V.str (num ((c.getD j 0 : Nat) : Int))]) = (toldItems .rshows (.lots c)).map V.str := by
      have e : ((c.length : Int)).toNat = c.length := by omega
      rw [e, flat_one]
      show _ = (c.map fun (k : Nat) => num (k : Int)).map V.str
      rw [List.map_map]
      refine List.ext_getElem (by simp) fun u h1 h2 => ?_
      have hu : u < c.length := by simpa using h2
      simp [List.getD_eq_getElem?_getD, List.getElem?_eq_getElem hu]
    refine ⟨_, rfl, _, rfl, by omega, by omega, fun D hD => lc2_flat walk_rgA hD (fun _ _ => trivial) (fun _ => rfl) (fun j => [V.str (num ((c.getD j 0 : Nat) : Int))]) ?_ ?_ ?_⟩
    · rw [hfl, List.length_map]
      show (c.map fun (k : Nat) => num (k : Int)).length < sizeLine
      rw [List.length_map]
      exact Nat.lt_of_le_of_lt hc8 (by decide)
    · intro j y H3 acc hj hy e3 hacc R hR
      rw [List.getElem?_map, List.getElem?_range hj] at hy
      cases hy
      have hj' : j < c.length := by omega
      have hcj : c[j]? = some c[j] := List.getElem?_eq_getElem hj'
      have e13 := e12.trans e3
      refine ⟨_, rfl, a, _, _, _, _, rfl, e13 _ _ hH, P.cl, P.n_told, ht, ta, rs, rfl, .inr ⟨SqT.of (e3 _ _ g1), hR _ _ (Same.refl _) ?_⟩⟩
      have nD : ta ≠ D := fun z => by subst z; rw [g1] at hD; cases hD
      refine ⟨rs.length, _, _, fun u => if j ∈ (lotsOf c).getD u [] then [V.str (num ((u : Nat) : Int))] else [], walk_enumT, ?_, fun H' k => SqT.of (k _ _ (e3 _ _ g1) fun z => nD (by injection z)), ?_⟩
      · rw [g2]
        obtain ⟨lot, q1, q2⟩ := lots_at hc hcj
        refine flat_unique (k := c[j]) (lot_lt hc hcj) ?_ fun u hu => ?_
        · rw [List.getD_eq_getElem?_getD, q1]
          show (if j ∈ lot then _ else _) = _
          rw [if_pos q2, List.getD_eq_getElem?_getD, hcj]
          rfl
        · refine if_neg fun z => hu ?_
          rw [List.getD_eq_getElem?_getD] at z
          cases eu : (lotsOf c)[u]? with
          | none => rw [eu] at z; simp at z
          | some lot2 =>
            rw [eu] at z
            exact lots_uniq hc hcj eu z
      · rintro u x1 H5 H6 hu k5 ⟨acc5, hacc5⟩ ⟨T1, y1, y2, rfl, hT1, rfl, hy1, hy2⟩ Ne Nn hNe hNn
        cases hy1
        have hu' : u < (lotsOf c).length := by omega
        have hlu : (lotsOf c)[u]? = some (lotsOf c)[u] := List.getElem?_eq_getElem hu'
        have e5 : Same H2 H5 := Kp.new ((Kp.of e3).trans k5) hD
        have e56 : Same H5 (upd H5 T1 (.tup [.int (u : Nat), y2])) := same_upd hT1
        obtain ⟨b2, ws, rfl, w1, w2, w3⟩ := ((g3 u y2 (lotD (lotsOf c)[u]) hy2 (by rw [List.getElem?_map, hlu] <;> rfl)).same (e5.trans e56)).tuple_inv
        rw [List.length_map] at w2
        have ew : ws = ((lotsOf c)[u]).map fun (k : Nat) => V.int (k : Int) := ys_map w2 fun z v hv n hn => by
          have := w3 z v (.int (n : Int)) hv (by rw [List.getElem?_map, hn] <;> rfl)
          cases this
          rfl
        refine ⟨_, _, rfl, SqT.of upd_same, rfl, _, _, rfl, _, _, rfl, rfl, rfl, ?_⟩
        refine ⟨_, rfl, _, rfl, b2, ws, rfl, .inr (SqT.of w1), rfl, ?_, _, rfl, ?_⟩
        · rw [ew, List.all_map]
          exact List.all_eq_true.mpr fun _ _ => rfl
        have hin : inV (.int (0 + (j : Nat))) ws = decide (j ∈ (lotsOf c)[u]) := by
          rw [ew, Int.zero_add]
          exact inV_nat _ _
        show if inV (.int (0 + (j : Nat))) ws = true then _ else _
        rw [hin]
        by_cases hmem : j ∈ (lotsOf c)[u]
        · refine itP (decide_eq_true hmem) ?_
          refine ⟨_, rfl, _, rfl, num_log ⟨by omega, by omega⟩, hNe _ _ e56 ?_⟩
          show (if j ∈ (lotsOf c).getD u [] then [V.str (num ((u : Nat) : Int))] else []) = _
          rw [List.getD_eq_getElem?_getD, hlu]
          exact if_pos hmem
        · refine itN (by rw [decide_eq_false hmem]; decide) ?_
          refine hNn _ e56 ?_
          show (if j ∈ (lotsOf c).getD u [] then [V.str (num ((u : Nat) : Int))] else []) = _
          rw [List.getD_eq_getElem?_getD, hlu]
          exact if_neg hmem
    · intro H3 e3 hD3
      rw [hfl] at hD3
      exact q D H3 (Same.none_of e12 hD) (e12.trans e3) hD3
end
end PL
end
section
set_option maxHeartbeats 4000000
/-! D20: items_of. -/
namespace PL
open PySem PySem.Spec PyProof.Rows L2
section
variable {w : World} {K : PySem.W.Frag} {mg : Str → Option Value} {base : Heap}
def sp_items_of (K : PySem.W.Frag) (n : Nat) : Sp := fun vs H Q _ => ∃ a t, vs = [.ref a] ∧ PlAt K H a t ∧ WF t ∧ Sz t ∧ t.lev ≤ n ∧ ∀ p H', H p = none → Same H H' → H' p = some (.lst (t.items.map V.str)) → Q (.ref p) H'
theorem items_small {t : Tr} (h : WF t) (hs : Sz t) : t.items.length ≤ 9000 := by
  have := (items_clean t h).2
  have := hs.many
  omega
theorem ok_items_of (T : Txt K mg) : ∀ n : Nat, FnOk P0 w K mg base CX0 (4 + n) (aF K "items_of") (dF K "items_of") ["place"] (sp_items_of K n)
  | 0 => ⟨fun vs H Q E h => by (obtain ⟨_, t, _, _, _, _, h, _⟩ := h; have := lev_pos t; omega), fun A outer s H args us vs Q E _ _ _ _ h => by (obtain ⟨_, t, _, _, _, _, h, _⟩ := h; have := lev_pos t; omega)⟩
  | n + 1 => by
    have G_items_of := ok_items_of T n
    have G_numbers_of := ok_numbers_of (w := w) (base := base) T
    refine T.f_items_of.ok sc_items_of (fun vs H Q E h => by (obtain ⟨_, _, rfl, _⟩ := h; rfl)) (fun cdv A outer s H vs Q E hr h => ?_)
    obtain ⟨a, t, rfl, hp, hwf, hsz, hn, q⟩ := h
    have hr : Room (4 + n) (A.deeper _) := hr
    refine ⟨_, ((pss_cons (ps_if (pt_cmpR (kin K rfl) (kfld K rfl (pv 0) rfl) (pe_tup (pa_cons pe_str (pa_cons pe_str pa_nil))) rfl) (pss_one (ps_ret (pe_lst (pa_cons (kfld K rfl (pv 0) rfl) (pa_cons (pe_callTy call_str_int (by rfl) T.z_str bt_str (pa_cons (kfld K rfl (pv 0) rfl) pa_nil)) (pa_cons (pe_callTy call_str_int (by rfl) T.z_str bt_str (pa_cons (kfld K rfl (pv 0) rfl) pa_nil)) (kstar K rfl (pe_call G_numbers_of (hr.mono (by omega)) rfl T.g_numbers_of T.f_numbers_of.kp T.b_numbers_of .nil pass0 (pa_cons (pv 0) pa_nil)) pa_nil))))))) pss_nil)
    (pss_cons (ps_set (i := 1) sc_items_of.nd rfl (Or.inl rfl) (pe_callB (klen K rfl) (by rfl) T.z_len bt_len (pa_cons (kfld K rfl (pv 0) rfl) pa_nil)))
    (pss_cons (ps_if (PW.pt (pw_or (pt_cmpR (kin K rfl) (kfld K rfl (pv 0) rfl) (pe_glob (v := .ref (aF K "SINGLE")) rfl T.g_SINGLE rfl) rfl) (pw_or1 (pt_cmpR (kin K rfl) (kfld K rfl (pv 0) rfl) (pe_glob (v := .ref (aF K "SHOWS")) rfl T.g_SHOWS rfl) rfl)))) (pss_one (ps_set (i := 1) sc_items_of.nd rfl (Or.inl rfl) (pe_ifExp (pt_cmpR op_eq (pe_slice sl_str (kfld K rfl (pv 0) rfl) po_none (po_some pe_int)) pe_str (nomark _)) (kfld K rfl (pv 0) rfl) (kfld K rfl (pv 0) rfl)))) pss_nil)
    (pss_one (ps_ret (pe_lst (pa_cons (kfld K rfl (pv 0) rfl) (pa_cons (pe_callTy call_str_int (by rfl) T.z_str bt_str (pa_cons (pv 1) pa_nil)) (kstar K rfl (pe_call G_numbers_of (hr.mono (by omega)) rfl T.g_numbers_of T.f_numbers_of.kp T.b_numbers_of .nil pass0 (pa_cons (pv 0) pa_nil)) (kstar K rfl (pe_lc2 (own := [("part", 2), ("item", 3)]) (vs1 := [3]) rfl sc_items_of.nd (kpi K rfl (kfld K rfl (pv 0) rfl)) (blkOk_by (by kernel_rfl)) (by decide) (fun _ _ _ _ _ => (pg_name (i := 2) sc_items_of.nd rfl (Or.inl rfl))) (fun _ _ _ _ _ => pts_nil) (fun _ _ _ _ _ => (kpi K rfl (pe_call G_items_of (hr.mono (by omega)) rfl T.g_items_of T.f_items_of.kp T.b_items_of .nil pass0 (pa_cons (pv 2) pa_nil)))) (fun _ _ _ _ _ => (pg_name (i := 3) sc_items_of.nd rfl (Or.inl rfl))) (fun _ _ _ _ _ => pts_nil) (fun _ _ _ _ _ => (pv 3))) pa_nil))))))))))), ?_⟩
    match t, hp, hwf, hsz, hn, q with
    | .node wd td ps m k, hp, hwf, hsz, hn, q =>
    have hf := hwf.fit
    have hm : 1 ≤ m ∧ m ≤ 8 := hwf.hm
    have hk : 1 ≤ k ∧ k ≤ 8 := hwf.hi
    have hsm := items_small hwf hsz
    obtain ⟨dx, pa, fs, vt, as, hH, hw, ht, htd, hkk, hri, hpp, hpa, hal, hps, hmm, hl⟩ := hp.inv
    have P := T.pl wd
    replace hw : fs.lookup ("word" : Str) = some (.str wd.s) := hw
    replace hH : H a = some (.ins (cW K wd) dx fs) := hH
    replace hkk : fs.lookup ("keeper_hands" : Str) = some (.int ((m : Nat) : Int)) := hkk
    replace hri : fs.lookup ("rival_hands" : Str) = some (.int ((k : Nat) : Int)) := hri
    replace hal : as.length = ps.length := hal
    rw [Tr.items] at hsm
    refine ⟨_, rfl, a, _, _, _, _, rfl, hH, P.cl, P.n_word, hw, (by show 2 ≤ sizeLine; decide), fun p1 hp1 => ?_⟩
    have e1 : Same H (upd H p1 (.tup [.str "end", .str "hole"])) := same_upd hp1
    refine ⟨p1, _, rfl, .inr (SqT.of upd_same), rfl, rfl, _, rfl, ?_⟩
    generalize upd H p1 (.tup [.str "end", .str "hole"]) = H1 at e1 ⊢
    by_cases hlf : wd.isLeaf = true
    · have hin : inV (V.str wd.s) [.str "end", .str "hole"] = true := by
        cases wd <;> first | (exact absurd hlf (by decide)) | (decide +kernel)
      refine itP hin ?_
      have hpe : ps = [] := by
        cases wd <;> first | (exact absurd hlf (by decide)) | skip
        · obtain ⟨r, _, h, _⟩ := hf; exact h
        · exact hf.2
      subst hpe
      have hh : headItems wd 0 m k = [num (m : Int), num (k : Int)] := by
        unfold headItems
        rw [if_pos hlf]
      refine ⟨_, rfl, a, _, _, _, _, rfl, e1 _ _ hH, P.cl, P.n_word, hw, ?_⟩
      refine ⟨_, rfl, a, _, _, _, _, rfl, e1 _ _ hH, P.cl, P.n_keeper_hands, hkk, _, rfl, num_log ⟨by omega, by omega⟩, ?_⟩
      refine ⟨_, rfl, a, _, _, _, _, rfl, e1 _ _ hH, P.cl, P.n_rival_hands, hri, _, rfl, num_log ⟨by omega, by omega⟩, ?_⟩
      refine ⟨_, rfl, a, _, rfl, hp.same e1, hwf, fun p2 H2 hp2 e2 h2 => ?_⟩
      have ei : (Tr.items (.node wd td [] m k)).map V.str = V.str wd.s :: V.str (num (m : Int)) :: V.str (num (k : Int)) :: ((toldItems wd td).map V.str ++ []) := by
        rw [Tr.items, itemsL, List.append_nil, List.append_nil]
        show (wd.s :: (headItems wd 0 m k ++ toldItems wd td)).map V.str = _
        rw [hh]
        rfl
      refine ⟨p2, _, rfl, .inr (SqL.of h2), ?_, fun p3 hp3 => ?_⟩
      · show (V.str wd.s :: V.str (num (m : Int)) :: V.str (num (k : Int)) :: ((toldItems wd td).map V.str ++ [])).length ≤ sizeLine
        rw [← ei, List.length_map, Tr.items]
        exact Nat.le_trans hsm (by decide)
      · refine q p3 _ (Same.none_of (e1.trans e2) hp3) (Same.snoc (e1.trans e2) hp3) ?_
        rw [upd_same, ei]
        rfl
    · have hlf' : wd.isLeaf = false := Bool.eq_false_iff.mpr hlf
      have hin : inV (V.str wd.s) [.str "end", .str "hole"] = false := by
        cases wd <;> first | (exact absurd rfl hlf) | (decide +kernel)
      refine itN (by show ¬ inV _ _ = true; rw [hin]; decide) ?_
      refine ⟨_, rfl, a, _, _, _, _, rfl, e1 _ _ hH, P.cl, P.n_parts, hpp, pa, false, _, rfl, SqT.of (e1 _ _ hpa), ?_⟩
      have hh : headItems wd ps.length m k = [num ((cntOf wd ps.length m k : Nat) : Int)] := by
        unfold headItems cntOf
        rw [if_neg hlf]
        split <;> rfl
      have hps6 := (parts_le hlf' hf).2
      have hcnt : cntOf wd ps.length m k ≤ 8 := by
        unfold cntOf
        split
        · split <;> omega
        · omega
      rw [hh] at hsm
      have ei : (Tr.items (.node wd td ps m k)).map V.str = V.str wd.s :: V.str (num ((cntOf wd ps.length m k : Nat) : Int)) :: ((toldItems wd td).map V.str ++ ((itemsL ps).map V.str ++ [])) := by
        rw [Tr.items, hh, List.append_nil, List.map_cons, List.singleton_append, List.map_cons, List.map_append]
      have fin : tRet (tLst (tCons (tFld K (tVar 0) "word") (tCons (tCB (fun xs H Q => ∃ i, xs = [V.int i] ∧ i.natAbs.log2 < 1920 ∧ Q (V.str (toString i)) H) (tCons (tVar 1) tNil)) (StX.tStar K (tCall (sp_numbers_of K) [] E0 (tCons (tVar 0) tNil)) (StX.tStar K (tLc2 (iAny K (tFld K (tVar 0) "parts")) (gName 2) tYes (iAny K (tCall (sp_items_of K n) [] E0 (tCons (tVar 2) tNil))) (gName 3) tYes (tVar 3) [2, 3] [3]) tNil))))) { nx := fun _ H' => Q V.non H', rt := Q } [some (.ref a), some (.int ((cntOf wd ps.length m k : Nat) : Int)), none, none] H1 := by
        refine ⟨_, rfl, a, _, _, _, _, rfl, e1 _ _ hH, P.cl, P.n_word, hw, ?_⟩
        refine ⟨_, rfl, _, rfl, num_log ⟨by omega, by omega⟩, ?_⟩
        refine ⟨_, rfl, a, _, rfl, hp.same e1, hwf, fun p2 H2 hp2 e2 h2 => ?_⟩
        refine ⟨p2, _, rfl, .inr (SqL.of h2), ?_⟩
        have e12 := e1.trans e2
        have sq : SqB false K H2 pa (as.map V.ref) := SqT.of (e12 _ _ hpa)
        have PP : Pls K H2 as ps := ⟨hal, fun u b p h1 h2 => (hps u b p h1 h2).same e12⟩
        have hfl : ((List.range (as.map V.ref).length).flatMap fun j => ((ps.getD j (.node .hole .unit [] 0 0)).items).map V.str) = (itemsL ps).map V.str := by
          rw [List.length_map, hal, flat_get (fun p : Tr => p.items.map V.str) ps, itemsL_flat, List.map_flatMap]
        refine ⟨_, rfl, a, _, _, _, _, rfl, e12 _ _ hH, P.cl, P.n_parts, hpp, pa, false, rfl, ⟨_, sq⟩, fun D hD => lc2_flat (walk_B false) hD (fun H' e => Same.sqb e sq) (fun _ => rfl) (fun j => ((ps.getD j (.node .hole .unit [] 0 0)).items).map V.str) ?_ ?_ ?_⟩
        · rw [hfl, List.length_map]
          have : (itemsL ps).length ≤ 9000 := by
            simp only [List.length_cons, List.length_append] at hsm
            omega
          exact Nat.lt_of_le_of_lt this (by decide)
        · intro j y H3 acc hj hy e3 hacc R hR
          obtain ⟨b, p, rfl, hb, hpj, hpl⟩ := (PP.same e3).at hy
          have hmem := List.mem_of_getElem? hpj
          have hlev := lev_mem hmem
          rw [Tr.lev] at hn
          refine ⟨_, rfl, b, p, rfl, hpl, hwf.sub _ hmem, hsz.sub _ hmem, by omega, fun p4 H4 hp4 e4 h4 => ?_⟩
          refine ⟨p4, true, rfl, ⟨_, SqL.of h4⟩, hR _ _ e4 ?_⟩
          have ne : p4 ≠ D := fun z => by
            subst z
            rw [hacc] at hp4
            cases hp4
          have eo : ((ps.getD j (.node .hole .unit [] 0 0)).items).map V.str = p.items.map V.str := by
            rw [List.getD_eq_getElem?_getD, hpj]
            rfl
          rw [eo]
          have g0 : SqP true H4 p4 (p.items.map V.str) := h4
          have := in2_seq (K := K) (te := tVar 3) (vs1 := [3]) (σ2 := [some (.ref a), some (.int ((cntOf wd ps.length m k : Nat) : Int)), some (.ref b), none]) (jx := 3) g0 ne (fun u => (p.items.map V.str).getD u .non) (fun _ => rfl) fun u y H7 hy7 k7 Ne hNe => ⟨_, rfl, hNe _ _ (Same.refl _) (by rw [List.getD_eq_getElem?_getD, hy7] <;> rfl)⟩
          rw [map_getD] at this
          exact this
        · intro H3 e3 hD3
          rw [hfl] at hD3
          refine ⟨D, _, rfl, .inr (SqL.of hD3), ?_, fun p5 hp5 => ?_⟩
          · show (V.str wd.s :: V.str (num ((cntOf wd ps.length m k : Nat) : Int)) :: ((toldItems wd td).map V.str ++ ((itemsL ps).map V.str ++ []))).length ≤ sizeLine
            rw [← ei, List.length_map, Tr.items, hh]
            exact Nat.le_trans hsm (by decide)
          · refine q p5 _ (Same.none_of (e12.trans e3) hp5) (Same.snoc (e12.trans e3) hp5) ?_
            rw [upd_same, ei]
            rfl
      have elen : ((as.map V.ref).length : Int) = ((ps.length : Nat) : Int) := by rw [List.length_map, hal]
      rw [elen]
      -- how many
      have side : wd.isSingle = true ∨ wd.isShows = true → tAsg (tIf (tTest (tOp rEq (tSl rSlS (tFld K (tVar 0) "word") tNoPart (tPart (tC (V.int 6)))) (tC (V.str "keeper")))) (tFld K (tVar 0) "keeper_hands") (tFld K (tVar 0) "rival_hands")) (gName 1) { nx := fun σ H' => tRet (tLst (tCons (tFld K (tVar 0) "word") (tCons (tCB (fun xs H Q => ∃ i, xs = [V.int i] ∧ i.natAbs.log2 < 1920 ∧ Q (V.str (toString i)) H) (tCons (tVar 1) tNil)) (StX.tStar K (tCall (sp_numbers_of K) [] E0 (tCons (tVar 0) tNil)) (StX.tStar K (tLc2 (iAny K (tFld K (tVar 0) "parts")) (gName 2) tYes (iAny K (tCall (sp_items_of K n) [] E0 (tCons (tVar 2) tNil))) (gName 3) tYes (tVar 3) [2, 3] [3]) tNil))))) { nx := fun _ H' => Q V.non H', rt := Q } σ H', rt := Q } [some (.ref a), some (.int ((ps.length : Nat) : Int)), none, none] H1 := fun hs => by
        have hc : cntOf wd ps.length m k = if wd.isK then m else k := by
          unfold cntOf
          rcases hs with z | z <;> simp [z]
        refine ⟨_, rfl, a, _, _, _, _, rfl, e1 _ _ hH, P.cl, P.n_word, hw, _, rfl, wd.s, rfl, Nat.le_trans (clean_wd wd).1 (by decide), rfl, _, rfl, ?_⟩
        by_cases hK : wd.isK = true
        · refine itP ?_ ⟨_, rfl, a, _, _, _, _, rfl, e1 _ _ hH, P.cl, P.n_keeper_hands, hkk, ?_⟩
          · cases wd <;> first | (exact absurd hK (by decide)) | (decide +kernel)
          · rw [hc, if_pos hK] at fin
            exact fin
        · refine itN ?_ ⟨_, rfl, a, _, _, _, _, rfl, e1 _ _ hH, P.cl, P.n_rival_hands, hri, ?_⟩
          · cases wd <;> first | (exact absurd rfl hK) | (rcases hs with z | z <;> exact absurd z (by decide)) | (decide +kernel)
          · rw [hc, if_neg hK] at fin
            exact fin
      refine ⟨_, rfl, a, _, _, _, _, rfl, e1 _ _ hH, P.cl, P.n_word, hw, _, _, rfl, .inr (T.t_SINGLE _), rfl, rfl, _, rfl, ?_⟩
      by_cases hs : wd.isSingle = true
      · refine itP ?_ (side (.inl hs))
        cases wd <;> first | (exact absurd hs (by decide)) | (decide +kernel)
      · refine itN ?_ ?_
        · cases wd <;> first | (exact absurd rfl hs) | (decide +kernel)
        refine ⟨_, rfl, a, _, _, _, _, rfl, e1 _ _ hH, P.cl, P.n_word, hw, _, _, rfl, .inr (T.t_SHOWS _), rfl, rfl, _, rfl, ?_⟩
        by_cases hw2 : wd.isShows = true
        · refine itP ?_ (side (.inr hw2))
          cases wd <;> first | (exact absurd hw2 (by decide)) | (decide +kernel)
        · refine itN ?_ ?_
          · cases wd <;> first | (exact absurd rfl hw2) | (decide +kernel)
          have hc : cntOf wd ps.length m k = ps.length := by
            unfold cntOf
            rw [Bool.eq_false_iff.mpr hs, Bool.eq_false_iff.mpr hw2]
            rfl
          rw [hc] at fin
          exact fin
end
end PL
end
section
set_option maxHeartbeats 4000000
/-! D21: __str__, __eq__. -/
namespace PL
open PySem PySem.Spec PyProof.Rows L2
section
variable {w : World} {K : PySem.W.Frag} {mg : Str → Option Value} {base : Heap}
def sp___str__ (K : PySem.W.Frag) : Sp := fun vs H Q _ => ∃ a t, vs = [.ref a] ∧ PlAt K H a t ∧ WF t ∧ Sz t ∧ ∀ H', Same H H' → Q (.str (Tr.text t)) H'
theorem ok___str__ (T : Txt K mg) : FnOk P0 w K mg base CX0 15 (aM K "Place" "__str__") (dM K "Place" "__str__") ["self"] (sp___str__ K) := by
  have G_items_of := ok_items_of (w := w) (base := base) T 10
  refine T.f_Place___str__.ok sc_Place___str__ (fun vs H Q E h => by (obtain ⟨_, _, rfl, _⟩ := h; rfl)) (fun cdv A outer s H vs Q E hr h => ?_)
  obtain ⟨a, t, rfl, hp, hwf, hsz, q⟩ := h
  refine ⟨_, ((pss_one (ps_ret (kjoin K rfl pe_str (pe_call G_items_of (hr.mono (by omega)) rfl T.g_items_of T.f_items_of.kp T.b_items_of .nil pass0 (pa_cons (pv 0) pa_nil)))))), ?_⟩
  refine ⟨⟨_, rfl⟩, _, rfl, a, t, rfl, hp, hwf, hsz, hsz.lev, fun p H1 hp1 e1 h1 => ?_⟩
  exact ⟨_, p, t.items, rfl, rfl, .inl (SqL.of h1), Nat.le_trans (text_room hwf hsz) (by decide), q H1 e1⟩
/-! ### one place, one tree -/
theorem Td.det {H : Hp} {v : V} {d d' : PyData} (h : Td H v d) (h' : Td H v d') : d = d' := by
  induction h generalizing d' with
  | int i => cases h'; rfl
  | str z => cases h'; rfl
  | @tup a xs ds h1 h2 h3 ih =>
    cases h' with
    | @tup _ ys es g1 g2 g3 =>
      rw [h1] at g1
      cases g1
      congr 1
      refine List.ext_getElem (by omega) fun k k1 k2 => ?_
      have hk : k < xs.length := by omega
      exact ih k xs[k] ds[k] (List.getElem?_eq_getElem hk) (List.getElem?_eq_getElem k1) (g3 k xs[k] es[k] (List.getElem?_eq_getElem hk) (List.getElem?_eq_getElem k2))
theorem PlAt.det {H : Hp} {a : Addr} {t t' : Tr} (h : PlAt K H a t) (h' : PlAt K H a t') : t.data = t'.data := by
  induction h generalizing t' with
  | @mk a dx pa fs vt as w t ps m i h1 h2 h3 h4 h5 h6 h7 h8 h9 h10 h11 h12 ih =>
    cases h' with
    | @mk _ dx' pa' fs' vt' as' w' t' ps' m' i' g1 g2 g3 g4 g5 g6 g7 g8 g9 g10 g11 g12 =>
      rw [h1] at g1
      injection g1 with g1
      injection g1 with _ _ gf
      subst gf
      rw [h2] at g2
      rw [h3] at g3
      rw [h5] at g5
      rw [h6] at g6
      rw [h7] at g7
      cases g3
      cases g7
      rw [h8] at g8
      injection g8 with g8
      injection g8 with g8
      have eas : as = as' := by
        have := congrArg (List.map fun v => match v with | V.ref a => a | _ => 0) g8
        rw [List.map_map, List.map_map] at this
        have id1 : ∀ l : List Addr, l.map ((fun v => match v with | V.ref a => a | _ => 0) ∘ V.ref) = l := fun l => by
          induction l with
          | nil => rfl
          | cons x l ih => rw [List.map_cons, ih] <;> rfl
        rw [id1, id1] at this
        exact this
      subst eas
      have ew : w.s = w'.s := by injection g2 with z; injection z
      have em : (m : Int) = (m' : Int) := by injection g5 with z; injection z
      have ei : (i : Int) = (i' : Int) := by injection g6 with z; injection z
      have et := h4.det g4
      have ep : dataL ps = dataL ps' := by
        rw [dataL_map, dataL_map]
        refine List.ext_getElem (by simp; omega) fun k k1 k2 => ?_
        have hk : k < ps.length := by simpa using k1
        have hk' : k < ps'.length := by simpa using k2
        have ha : k < as.length := by omega
        rw [List.getElem_map, List.getElem_map]
        exact ih k as[k] ps[k] (List.getElem?_eq_getElem ha) (List.getElem?_eq_getElem hk) (g10 k as[k] ps'[k] (List.getElem?_eq_getElem ha) (List.getElem?_eq_getElem hk'))
      rw [Tr.data, Tr.data, ew, em, ei, et, ep]
theorem eqvAll_range : ∀ (xs ys : List PyData) (e : Nat → Bool), (∀ (k : Nat) x y, xs[k]? = some x → ys[k]? = some y → e k = PyData.eqv x y) → ((List.range (min xs.length ys.length)).all e && xs.length == ys.length) = PyData.eqvAll xs ys
  | [], [], e, _ => by simp [PyData.eqvAll]
  | [], y :: ys, e, _ => by simp [PyData.eqvAll]
  | x :: xs, [], e, _ => by simp [PyData.eqvAll]
  | x :: xs, y :: ys, e, h => by
    have ih := eqvAll_range xs ys (fun k => e (k + 1)) fun k x y h1 h2 => h (k + 1) x y (by simpa using h1) (by simpa using h2)
    have h0 := h 0 x y rfl rfl
    simp only [PyData.eqvAll, List.length_cons]
    rw [← ih, ← h0, Nat.succ_min_succ, List.range_succ_eq_map, List.all_cons, List.all_map]
    simp [Function.comp_def, Bool.and_assoc]
theorem eqv_node {w w' : Wd} {t t' : Told} {ps ps' : List Tr} {m m' i i' : Nat} : PyData.eqv (Tr.node w t ps m i).data (Tr.node w' t' ps' m' i').data =
    (w.s == w'.s && (PyData.eqv t.data t'.data && (PyData.eqvAll (dataL ps) (dataL ps') && (((m : Int) == (m' : Int)) && ((i : Int) == (i' : Int)))))) := by
  rw [Tr.data, Tr.data]
  simp only [PyData.eqv, PyData.eqvAll, Bool.and_true]
/-- how a place compares -/
def RPl (K : PySem.W.Frag) (n : Nat) : Addr → V → Hp → Bool → Prop := fun a y H b => ∃ t, PlAt K H a t ∧ t.lev ≤ n ∧
  ((∃ c t', y = .ref c ∧ PlAt K H c t' ∧ t'.lev ≤ n ∧ b = PyData.eqv t.data t'.data) ∨ (∃ z, y = .str z ∧ b = false) ∨ ∃ c xs, y = .ref c ∧ H c = some (.tup xs) ∧ b = false)
def DPl (K : PySem.W.Frag) (n : Nat) : EqvB := fun x y H b => ∃ a c t t', x = .ref a ∧ y = .ref c ∧ PlAt K H a t ∧ PlAt K H c t' ∧ t.lev ≤ n ∧ t'.lev ≤ n ∧ b = PyData.eqv t.data t'.data
theorem DPl.mon (n : Nat) : MonB (DPl K n) := fun x y H H' b e ⟨a, c, t, t', h1, h2, h3, h4, h5, h6, h7⟩ => ⟨a, c, t, t', h1, h2, h3.same e, h4.same e, h5, h6, h7⟩
theorem DPl.ins {n : Nat} {x y : V} {H : Hp} {b : Bool} (h : DPl K n x y H b) : DIns (PC K) (RPl K n) x y H b := by
  obtain ⟨a, c, t, t', rfl, rfl, h3, h4, h5, h6, h7⟩ := h
  obtain ⟨dx, pa, fs, vt, as, hH, _⟩ := h3.inv
  obtain ⟨dx', pa', fs', vt', as', hH', _⟩ := h4.inv
  exact ⟨a, _, dx, fs, rfl, ⟨_, rfl⟩, hH, .inl ⟨c, _, dx', fs', rfl, ⟨_, rfl⟩, hH'⟩, t, h3, h5, .inl ⟨c, t', rfl, h4, h6, h7⟩⟩
theorem DPl.self {n : Nat} {a : Addr} {H : Hp} {b : Bool} (h : DPl K n (.ref a) (.ref a) H b) : b = true := by
  obtain ⟨a', c, t, t', e1, e2, h3, h4, h5, h6, h7⟩ := h
  cases e1
  cases e2
  rw [h7, h3.det h4]
  exact (Shp.tr t').refl
theorem rcb_imp {X : Cx} {n : Nat} {D D' : EqvB} (h : RcB X n D) (hi : ∀ x y H b, D' x y H b → D x y H b) : RcB X n D' := fun A pins s σ H x y u v b sb I rx ry d => h A pins s σ H x y u v b sb I rx ry (hi _ _ _ _ d)
theorem ok___eq__ (T : Txt K mg) : ∀ n : Nat, FnOk P0 w K mg base CX0 (2 + 2 * n) (aM K "Place" "__eq__") (dM K "Place" "__eq__") ["self", "other"] (spEqB (RPl K n))
  | 0 => ⟨fun vs H Q E h => by (obtain ⟨_, _, _, _, ⟨t, _, h, _⟩, _⟩ := h; have := lev_pos t; omega), fun A outer s H args us vs Q E _ _ _ _ h => by (obtain ⟨_, _, _, _, ⟨t, _, h, _⟩, _⟩ := h; have := lev_pos t; omega)⟩
  | n + 1 => by
    have G___eq__ := ok___eq__ T n
    have G_hands_of := ok_hands_of (w := w) (base := base) T
    refine T.f_Place___eq__.ok (k := 2 + 2 * n + 1) sc_Place___eq__ (fun vs H Q E h => by (obtain ⟨_, _, _, rfl, _⟩ := h; rfl)) (fun cdv A outer s H vs Q E hr h => ?_)
    obtain ⟨a, y, b, rfl, ⟨t, hp, hn, hy⟩, q⟩ := h
    refine ⟨_, ((pss_cons (ps_if (PW.pt (pw_or (pt_not (pt_val (pe_callB (kisi K rfl) (by rfl) T.z_isinstance bt_isinstance (pa_cons (pv 1) (pa_cons (pe_glob (v := .ref (aF K "Place")) rfl T.g_Place rfl) pa_nil))))) (pw_or (pt_cmpR op_ne (kfld K rfl (pv 0) rfl) (kfld K rfl (pv 1) rfl) (nomark _)) (pw_or1 (pt_cmpR (kneD K rfl (hr.mono (Nat.zero_le _))) (kfld K rfl (pv 0) rfl) (kfld K rfl (pv 1) rfl) (nomark _)))))) (pss_one (ps_ret pe_bl)) pss_nil)
    (pss_one (ps_ret (pe_and (pe_cmpR (keqD K rfl (hr.mono (Nat.zero_le _))) (pe_call G_hands_of (hr.mono (by omega)) rfl T.g_hands_of T.f_hands_of.kp T.b_hands_of .nil pass0 (pa_cons (pv 0) pa_nil)) (pe_call G_hands_of (hr.mono (by omega)) rfl T.g_hands_of T.f_hands_of.kp T.b_hands_of .nil pass0 (pa_cons (pv 1) pa_nil)) (nomark _)) (pe_one (pe_cmpR (op_eqB (rcB_tup (DPl.mon n) (RcB.eqB (rcb_imp (rcB_ins G___eq__ T.eqc T.b___eq__ pass0) fun _ _ _ _ h => h.ins) (fun _ _ _ _ h => by (obtain ⟨a, c, _, _, e1, e2, _⟩ := h; exact ⟨a, c, e1, e2⟩)) (fun _ _ _ h => h.self))) (hr.mono (by omega))) (kfld K rfl (pv 0) rfl) (kfld K rfl (pv 1) rfl) (nomark _)))))))), ?_⟩
    rcases hy with ⟨c, t', rfl, hp', hn', rfl⟩ | ⟨z, rfl, rfl⟩ | ⟨c, xs, rfl, hx, rfl⟩
    · match t, hp, hn, t', hp', hn', q with
      | .node wd td ps m k, hp, hn, .node wd' td' ps' m' k', hp', hn', q =>
      rw [eqv_node] at q
      have sh := fun d : Told => (Shp.told d).shaped (by decide)
      obtain ⟨C, hty, hkit⟩ := hp'.ty (T := T)
      obtain ⟨dx, pa, fs, vt, as, hH, hw, ht, htd, hkk, hri, hpp, hpa, hal, hps, hmm, hl⟩ := hp.inv
      obtain ⟨dx', pa', fs', vt', as', hH', hw', ht', htd', hkk', hri', hpp', hpa', hal', hps', hmm', hl'⟩ := hp'.inv
      have P := T.pl wd
      have P' := T.pl wd'
      replace hw : fs.lookup ("word" : Str) = some (.str wd.s) := hw
      replace hw' : fs'.lookup ("word" : Str) = some (.str wd'.s) := hw'
      replace hal : as.length = ps.length := hal
      replace hal' : as'.length = ps'.length := hal'
      refine ⟨_, rfl, _, _, _, _, true, rfl, .own _, hty, hkit, true, rfl, ?_⟩
      refine ⟨_, rfl, a, _, _, _, _, rfl, hH, P.cl, P.n_word, hw, _, rfl, c, _, _, _, _, rfl, hH', P'.cl, P'.n_word, hw', rfl, _, rfl, ?_⟩
      by_cases ew : wd.s = wd'.s
      · refine itN (by rw [ew]; simp) ?_
        refine ⟨_, rfl, a, _, _, _, _, rfl, hH, P.cl, P.n_told, ht, _, rfl, c, _, _, _, _, rfl, hH', P'.cl, P'.n_told, ht', td.data, td'.data, htd.dp, htd'.dp, sh td, sh td', _, rfl, ?_⟩
        have ew' : (wd.s == wd'.s) = true := by rw [ew]; exact beq_self_eq_true _
        rw [ew', Bool.true_and] at q
        cases et : PyData.eqv td.data td'.data with
        | false =>
          rw [et, Bool.false_and] at q
          exact itP rfl (q _ (Same.refl _))
        | true =>
          rw [et, Bool.true_and] at q
          refine itN (by decide) ?_
          refine ⟨_, rfl, a, _, rfl, hp, fun p1 H1 e1 g1 => ⟨_, rfl, c, _, rfl, hp'.same e1, fun p2 H2 e2 g2 => ?_⟩⟩
          have e12 := e1.trans e2
          refine ⟨pairD m k, pairD m' k', (td_pair (e2 _ _ g1)).dp, (td_pair g2).dp, pair_shaped _ _, pair_shaped _ _, _, rfl, ?_⟩
          have eh : PyData.eqv (pairD m k) (pairD m' k') = (((m : Int) == (m' : Int)) && ((k : Int) == (k' : Int))) := by
            simp [pairD, PyData.eqv, PyData.eqvAll]
          rw [eh]
          cases ehb : (((m : Int) == (m' : Int)) && ((k : Int) == (k' : Int))) with
          | false =>
            rw [ehb, Bool.and_false] at q
            exact q _ e12
          | true =>
            rw [ehb, Bool.and_true] at q
            refine ⟨_, rfl, a, _, _, _, _, rfl, e12 _ _ hH, P.cl, P.n_parts, hpp, _, rfl, c, _, _, _, _, rfl, e12 _ _ hH', P'.cl, P'.n_parts, hpp', _, ?_, fun H3 e3 => q _ (e12.trans e3)⟩
            rw [Tr.lev] at hn hn'
            refine ⟨pa, pa', as.map V.ref, as'.map V.ref, fun j => match ps[j]?, ps'[j]? with | some x, some y => PyData.eqv x.data y.data | _, _ => true, rfl, rfl, SqT.of (e12 _ _ hpa), SqT.of (e12 _ _ hpa'), fun j x y hx hy => ?_, ?_⟩
            · have PP : Pls K H2 as ps := ⟨hal, fun u b p h1 h2 => (hps u b p h1 h2).same e12⟩
              have PP' : Pls K H2 as' ps' := ⟨hal', fun u b p h1 h2 => (hps' u b p h1 h2).same e12⟩
              obtain ⟨b, p, rfl, hb, hpj, hpl⟩ := PP.at hx
              obtain ⟨b', p', rfl, hb', hpj', hpl'⟩ := PP'.at hy
              have l1 := lev_mem (List.mem_of_getElem? hpj)
              have l2 := lev_mem (List.mem_of_getElem? hpj')
              refine ⟨b, b', p, p', rfl, rfl, hpl, hpl', by omega, by omega, ?_⟩
              show (match ps[j]?, ps'[j]? with | some x, some y => PyData.eqv x.data y.data | _, _ => true) = _
              rw [hpj, hpj']
            · rw [List.length_map, List.length_map, hal, hal', ← eqvAll_range (dataL ps) (dataL ps') (fun j => match ps[j]?, ps'[j]? with | some x, some y => PyData.eqv x.data y.data | _, _ => true) fun j x y hx hy => ?_]
              · rw [dataL_map, dataL_map, List.length_map, List.length_map]
              · rw [dataL_map, List.getElem?_map] at hx hy
                cases e1 : ps[j]? with
                | none => rw [e1] at hx; cases hx
                | some p =>
                  cases e2 : ps'[j]? with
                  | none => rw [e2] at hy; cases hy
                  | some p' =>
                    rw [e1] at hx
                    rw [e2] at hy
                    cases hx
                    cases hy
                    rfl
      · have ew' : (wd.s == wd'.s) = false := beq_eq_false_iff_ne.mpr ew
        rw [ew', Bool.false_and] at q
        refine itP ?_ (q _ (Same.refl _))
        rw [decide_eq_false (fun z => ew (by injection z))]
        rfl
    · exact ⟨_, rfl, _, _, _, _, false, rfl, .own _, .base (.str z), T.ksP, false, rfl, q _ (Same.refl _)⟩
    · exact ⟨_, rfl, _, _, _, _, false, rfl, .own _, .base (.tup hx), T.ktP, false, rfl, q _ (Same.refl _)⟩
end
end PL
end
section
set_option maxHeartbeats 4000000
/-! D22: the desk. -/
namespace PL
open PySem PySem.Spec PyProof.Rows L2
section
variable {w : World} {K : PySem.W.Frag} {mg : Str → Option Value} {base : Heap}
/-- the desk: its cells, how far it is -/
def Desk (H : Hp) (dk ca : Addr) (cs : List Int) (n : Nat) : Prop := ∃ rest : Int, 0 ≤ rest ∧ H dk = some (.lst [.ref ca, .int (n : Int), .int rest]) ∧ H ca = some (.lst (cs.map V.int)) ∧ dk ≠ ca ∧ cs.length ≤ 60
theorem Desk.same {H H' : Hp} (e : Same H H') {dk ca : Addr} {cs : List Int} {n : Nat} (h : Desk H dk ca cs n) : Desk H' dk ca cs n := by
  obtain ⟨r, h0, h1, h2, h3, h4⟩ := h
  exact ⟨r, h0, e _ _ h1, e _ _ h2, h3, h4⟩
theorem Desk.loose {H : Hp} {dk ca : Addr} {cs : List Int} {n : Nat} (h : Desk H dk ca cs n) : ∀ a, some dk = some a → Loose H a := fun a z => by
  obtain ⟨r, h0, h1, h2, h3, h4⟩ := h
  cases z
  exact Loose.lst h1
theorem Desk.put {H : Hp} {dk ca : Addr} {cs : List Int} {n m : Nat} {r : Int} (h : Desk H dk ca cs n) (hr : 0 ≤ r) : Desk (upd H dk (.lst [.ref ca, .int (m : Int), .int r])) dk ca cs m := by
  obtain ⟨_, h0, h1, h2, h3, h4⟩ := h
  exact ⟨r, hr, upd_same, by rw [upd_ne (fun z => h3 z.symm)]; exact h2, h3, h4⟩
/-! ### _law_pick -/
def sp__law_pick (K : PySem.W.Frag) : Sp := fun vs H Q _ => ∃ dk ca cs n m, vs = [.ref dk, .int ((m : Nat) : Int)] ∧ Desk H dk ca cs n ∧ n < 2 ^ 20 ∧ 0 < m ∧ m < 2 ^ 20 ∧
  ∀ (r n' : Nat) H', r < m → Kp (some dk) H H' → Desk H' dk ca cs n' → n' ≤ n + 1 → Q (.int (r : Int)) H'
theorem ok__law_pick (T : Txt K mg) : FnOk P0 w K mg base CX0 1 (aF K "_law_pick") (dF K "_law_pick") ["_law_desk_here", "_law_many"] (sp__law_pick K) := by
  refine T.f__law_pick.ok sc__law_pick (fun vs H Q E h => by first | (obtain ⟨_, rfl, _⟩ := h; rfl) | (obtain ⟨_, _, rfl, _⟩ := h; rfl) | (obtain ⟨_, _, _, rfl, _⟩ := h; rfl) | (obtain ⟨_, _, _, _, rfl, _⟩ := h; rfl) | (obtain ⟨_, _, _, _, _, rfl, _⟩ := h; rfl) | (obtain ⟨_, _, _, _, _, _, rfl, _⟩ := h; rfl) | (obtain ⟨_, _, _, _, _, _, _, rfl, _⟩ := h; rfl) | (obtain ⟨_, _, _, _, _, _, _, _, rfl, _⟩ := h; rfl) | (obtain ⟨_, _, _, _, _, _, _, _, _, rfl, _⟩ := h; rfl) | (obtain ⟨_, _, _, _, _, _, _, _, _, _, rfl, _⟩ := h; rfl) | (obtain ⟨_, _, _, _, _, _, _, _, _, _, _, rfl, _⟩ := h; rfl) | (obtain ⟨_, _, _, _, _, _, _, _, _, _, _, _, rfl, _⟩ := h; rfl) | (obtain ⟨_, _, _, _, _, _, _, _, _, _, _, _, _, rfl, _⟩ := h; rfl) | (obtain ⟨_, _, _, _, _, _, _, _, _, _, _, _, _, _, rfl, _⟩ := h; rfl) | (obtain ⟨_, _, _, _, _, _, _, _, _, _, _, _, _, _, _, rfl, _⟩ := h; rfl) | (obtain ⟨_, _, _, _, _, _, _, _, _, _, _, _, _, _, _, _, rfl, _⟩ := h; rfl) | (obtain ⟨rfl, _⟩ := h; rfl)) (fun cdv A outer s H vs Q E hr h => ?_)
  obtain ⟨dk, ca, cs, n, m, rfl, hd, hn, hm, hm2, q⟩ := h
  refine ⟨_, ((pss_cons (ps_if (pt_cmpR op_gt (pe_ix (kix K rfl) (pv 0) pe_int (fun _ _ => rfl)) pe_int (nomark _)) (pss_cons (ps_set (i := 2) sc__law_pick.nd rfl (Or.inl rfl) (pe_callTy call_int1 (by rfl) T.z_int bt_int (pa_cons (pe_ix (kix K rfl) (pv 0) pe_int (fun _ _ => rfl)) pa_nil)))
    (pss_cons (ps_asg (pe_op op_fdiv (pv 2) (pv 1)) (pg_sub (pv 0) pe_int set_list))
    (pss_one (ps_ret (pe_op op_mod (pe_callTy call_int1 (by rfl) T.z_int bt_int (pa_cons (pv 2) pa_nil)) (pv 1)))))) pss_nil)
    (pss_cons (ps_set (i := 3) sc__law_pick.nd rfl (Or.inl rfl) (pe_ix (kix K rfl) (pv 0) pe_int (fun _ _ => rfl)))
    (pss_cons (ps_asg (pe_op op_add (pv 3) pe_int) (pg_sub (pv 0) pe_int set_list))
    (pss_cons (ps_set (i := 4) sc__law_pick.nd rfl (Or.inl rfl) (pe_op op_add (pe_op op_mul pe_int (pv 3)) pe_int))
    (pss_cons (ps_if (pt_cmpR (kneD K rfl (hr.mono (Nat.zero_le _))) (pe_ix (kix K rfl) (pv 0) pe_int (fun _ _ => rfl)) (pe_lst pa_nil) (nomark _)) (pss_one (ps_set (i := 4) sc__law_pick.nd rfl (Or.inl rfl) (pe_ix (kix K rfl) (pe_ix (kix K rfl) (pv 0) pe_int (fun _ _ => rfl)) (pe_op op_mod (pe_callTy call_int1 (by rfl) T.z_int bt_int (pa_cons (pv 3) pa_nil)) (pe_callB (klen K rfl) (by rfl) T.z_len bt_len (pa_cons (pe_ix (kix K rfl) (pv 0) pe_int (fun _ _ => rfl)) pa_nil))) (fun _ _ => rfl)))) pss_nil)
    (pss_cons (ps_if (PW.pt (pw_and (pt_cmpR op_lt (pv 3) (pe_callB (klen K rfl) (by rfl) T.z_len bt_len (pa_cons (pe_ix (kix K rfl) (pv 0) pe_int (fun _ _ => rfl)) pa_nil)) (nomark _)) (pw_and1 (pt_cmpR op_ge (pe_callB call_abs (by rfl) T.z_abs bt_abs (pa_cons (pv 4) pa_nil)) (pe_op op_pow pe_int pe_int) (nomark _))))) (pss_cons (ps_set (i := 2) sc__law_pick.nd rfl (Or.inl rfl) (pe_op op_add (pe_op op_mul pe_int (pe_op op_sub (pe_callB call_abs (by rfl) T.z_abs bt_abs (pa_cons (pv 4) pa_nil)) (pe_op op_pow pe_int pe_int))) (pe_callTy call_int1 (by rfl) T.z_int bt_int (pa_cons (pe_cmpR op_lt (pv 4) pe_int (nomark _)) pa_nil))))
    (pss_cons (ps_asg (pe_op op_fdiv (pe_callTy call_int1 (by rfl) T.z_int bt_int (pa_cons (pv 2) pa_nil)) (pv 1)) (pg_sub (pv 0) pe_int set_list))
    (pss_one (ps_ret (pe_op op_mod (pe_callTy call_int1 (by rfl) T.z_int bt_int (pa_cons (pv 2) pa_nil)) (pv 1)))))) pss_nil)
    (pss_cons (ps_set (i := 5) sc__law_pick.nd rfl (Or.inl rfl) (pe_op op_mod (pe_callTy call_int1 (by rfl) T.z_int bt_int (pa_cons (pe_op op_pow (pe_op op_add (pe_op op_add (pe_op op_mod (pe_callTy call_int1 (by rfl) T.z_int bt_int (pa_cons (pv 4) pa_nil)) pe_int) (pe_op op_mul pe_int (pv 3))) pe_int) pe_int) pa_nil)) pe_int))
    (pss_cons (ps_set (i := 5) sc__law_pick.nd rfl (Or.inl rfl) (pe_op op_mod (pe_callTy call_int1 (by rfl) T.z_int bt_int (pa_cons (pe_op op_pow (pe_op op_add (pe_op op_add (pe_op op_mul (pv 5) (pe_op op_add (pe_op op_mul pe_int (pv 3)) pe_int)) (pe_op op_mul (pe_op op_mul pe_int (pv 3)) (pv 3))) pe_int) pe_int) pa_nil)) pe_int))
    (pss_one (ps_ret (pe_op op_mod (pe_callTy call_int1 (by rfl) T.z_int bt_int (pa_cons (pe_op op_fdiv (pv 5) pe_int) pa_nil)) (pv 1))))))))))))), ?_⟩
  have hd0 := hd
  obtain ⟨rest, h0, h1, h2, h3, h4⟩ := hd
  have q' : ∀ (i : Int) (n' : Nat) H', 0 ≤ i → i < (m : Int) → Kp (some dk) H H' → Desk H' dk ca cs n' → n' ≤ n + 1 → Q (.int i) H' := fun i n' H' i0 i1 k d l => by
    have := q i.toNat n' H' (by omega) k d l
    rw [Int.toNat_of_nonneg i0] at this
    exact this
  have hmm : (0 : Int) < (m : Int) ∧ (m : Int) < 1073741824 := by omega
  refine ⟨_, rfl, dk, true, _, 2, _, rfl, rfl, SqL.of h1, rfl, _, _, rfl, rfl, _, rfl, ?_⟩
  refine ite2 (fun c => ?_) fun c => ?_
  · have hr0 : 0 < rest := of_decide_eq_true c
    refine ⟨_, rfl, dk, true, _, 2, _, rfl, rfl, SqL.of h1, rfl, .inl ⟨_, rfl, ?_⟩⟩
    refine ⟨_, rfl, _, rfl, _, _, rfl, rfl, hmm, _, rfl, dk, _, _, 2, rfl, rfl, h1, rfl, ?_⟩
    refine ⟨_, rfl, .inl ⟨_, rfl, _, rfl, _, _, rfl, rfl, hmm.1, q' _ n _ (Int.emod_nonneg _ (by omega)) (Int.emod_lt_of_pos _ hmm.1) ((Kp.refl _ _).put) (hd0.put (Int.ediv_nonneg h0 (by omega))) (by omega)⟩⟩
  · refine ⟨_, rfl, dk, true, _, 1, _, rfl, rfl, SqL.of h1, rfl, ?_⟩
    refine ⟨_, rfl, _, _, rfl, rfl, _, rfl, dk, _, _, 1, rfl, rfl, h1, rfl, ?_⟩
    have d1 : Desk (upd H dk (.lst [.ref ca, .int ((n + 1 : Nat) : Int), .int rest])) dk ca cs (n + 1) := hd0.put h0
    have k1 : Kp (some dk) H (upd H dk (.lst [.ref ca, .int ((n + 1 : Nat) : Int), .int rest])) := (Kp.refl _ _).put
    have g1 : upd H dk (.lst [.ref ca, .int ((n + 1 : Nat) : Int), .int rest]) dk = some (.lst [.ref ca, .int ((n + 1 : Nat) : Int), .int rest]) := upd_same
    have g2 : upd H dk (.lst [.ref ca, .int ((n + 1 : Nat) : Int), .int rest]) ca = some (.lst (cs.map V.int)) := by
      rw [upd_ne (fun z => h3 z.symm)]
      exact h2
    show (fun (_ : L2.St) (H1 : Hp) => _) _ (upd H dk (.lst [.ref ca, .int ((n + 1 : Nat) : Int), .int rest]))
    generalize upd H dk (.lst [.ref ca, .int ((n + 1 : Nat) : Int), .int rest]) = H1 at d1 k1 g1 g2 ⊢
    refine ⟨_, rfl, _, _, rfl, rfl, .inl ⟨by decide, by decide⟩, _, _, rfl, rfl, ?_⟩
    have key : ∀ (Rr : L2.St → Hp → Prop) (Qr : VK) (σ : L2.St), σ[0]? = some (some (.ref dk)) → σ[3]? = some (some (.int (n : Int))) → σ.set 4 (some (.int (64192 * (n : Int) + 8056))) = σ → (∀ (cv : Int) H2, Same H1 H2 → Rr (σ.set 4 (some (.int cv))) H2) →
        tIfS (tTest (tOp (rNeD K) (tOp (rIxA K) (tVar 0) (tC (V.int 0))) (tLst tNil))) (tAsg (tOp (rIxA K) (tOp (rIxA K) (tVar 0) (tC (V.int 0))) (tOp (rI (fun _ j => 0 < j) fun i j => V.int (i % j)) (tCB (fun xs H Q => (∃ i, xs = [V.int i] ∧ Q (V.int i) H) ∨ ∃ k, xs = [V.bl k] ∧ Q (V.int (if k = true then 1 else 0)) H) (tCons (tVar 3) tNil)) (tCB (rLenA K) (tCons (tOp (rIxA K) (tVar 0) (tC (V.int 0))) tNil)))) (gName 4)) tNext { nx := Rr, rt := Qr } σ H1 := by
      intro Rr Qr σ s0 s3 s4 hR
      refine ⟨_, s0, dk, true, _, 0, _, rfl, rfl, SqL.of g1, rfl, by decide, fun e he => ?_⟩
      have ee : Same H1 (upd H1 e (.lst [])) := same_upd he
      refine ⟨intsL cs, intsL [], dp_ints (ee _ _ g2), dp_ints (ns := []) upd_same, (int_shp _).shaped (by decide), (int_shp _).shaped (by decide), _, rfl, ?_⟩
      by_cases hcs : cs = []
      · subst hcs
        refine itN (by decide) ?_
        have := hR (64192 * (n : Int) + 8056) _ ee
        rw [s4] at this
        exact this
      · refine itP ?_ ?_
        · cases cs with
          | nil => exact absurd rfl hcs
          | cons x l => simp [intsL, PyData.eqv, PyData.eqvAll]
        have hlen : 0 < cs.length := List.length_pos_iff.mpr hcs
        have z1 := Int.emod_nonneg (n : Int) (show ((cs.length : Nat) : Int) ≠ 0 by omega)
        have z2 := Int.emod_lt_of_pos (n : Int) (show (0 : Int) < ((cs.length : Nat) : Int) by omega)
        obtain ⟨j, hj⟩ := Int.eq_ofNat_of_zero_le z1
        have hi : j < cs.length := by omega
        refine ⟨_, s0, dk, true, _, 0, _, rfl, rfl, SqL.of (ee _ _ g1), rfl, _, s3, .inl ⟨_, rfl, _, s0, dk, true, _, 0, _, rfl, rfl, SqL.of (ee _ _ g1), rfl, ca, true, _, rfl, SqL.of (ee _ _ g2), _, _, rfl, rfl, ?_, ca, true, _, _, .int (cs[j]), rfl, rfl, SqL.of (ee _ _ g2), ?_, ?_⟩⟩
        · rw [List.length_map]; omega
        · rw [List.length_map]
          show atI _ ((n : Int) % ((cs.length : Nat) : Int)) = _
          rw [hj]
          refine atI_nat ?_
          rw [List.getElem?_map, List.getElem?_eq_getElem hi]
          rfl
        · exact hR _ _ ee
    refine key _ _ _ rfl rfl rfl fun cv H2 e2 => ?_
    have d2 := d1.same e2
    have g3 := e2 _ _ g1
    have g4 := e2 _ _ g2
    have k2 := k1.trans (.of e2)
    refine ⟨_, rfl, _, rfl, dk, true, _, 0, _, rfl, rfl, SqL.of g3, rfl, ca, true, _, rfl, SqL.of g4, _, _, rfl, rfl, _, rfl, ?_⟩
    refine ite2 (fun c1 => ?_) fun c1 => ?_
    · refine ⟨_, rfl, cv, rfl, _, _, rfl, rfl, ⟨by decide, by decide, by decide⟩, _, _, rfl, rfl, _, rfl, ?_⟩
      refine ite2 (fun c2 => ?_) fun c2 => ?_
      · refine ⟨_, rfl, cv, rfl, _, _, rfl, rfl, ⟨by decide, by decide, by decide⟩, _, _, rfl, rfl, _, _, rfl, rfl, .inl ⟨by decide, by decide⟩, _, rfl, _, _, rfl, rfl, .inr ⟨_, rfl, _, _, rfl, rfl, ?_⟩⟩
        have hR : ∀ (A P : Int), P ≤ A → ∀ b : Bool, 0 ≤ 2 * (A - P) + (if b = true then 1 else 0) := by
          intro A P h b
          cases b <;> simp <;> omega
        have hR' := hR _ _ (of_decide_eq_true c2) (decide (cv < 0))
        refine ⟨_, rfl, .inl ⟨_, rfl, _, rfl, _, _, rfl, rfl, hmm, _, rfl, dk, _, _, 2, rfl, rfl, g3, rfl, ?_⟩⟩
        refine ⟨_, rfl, .inl ⟨_, rfl, _, rfl, _, _, rfl, rfl, hmm.1, q' _ (n + 1) _ (Int.emod_nonneg _ (by omega)) (Int.emod_lt_of_pos _ hmm.1) (k2.put) (d2.put (Int.ediv_nonneg hR' (by omega))) (Nat.le_refl _)⟩⟩
      · refine ⟨_, rfl, .inl ⟨cv, rfl, _, _, rfl, rfl, (by show (0 : Int) < 2147483629; decide), _, rfl, _, _, rfl, rfl, .inl ⟨by decide, by decide⟩, _, _, rfl, rfl, _, _, rfl, rfl, _, _, rfl, rfl, ⟨by decide, by decide, ?_⟩, .inl ⟨_, rfl, _, _, rfl, rfl, (by show (0 : Int) < 2147483579; decide), ?_⟩⟩⟩
        · have b1 := Int.emod_nonneg cv (show (2147483629 : Int) ≠ 0 by decide)
          have b2 := Int.emod_lt_of_pos cv (show (0 : Int) < 2147483629 by decide)
          show (cv % 2147483629 + 41700 * (n : Int) + 8056).natAbs < 2 ^ 64
          omega
        have c3 := Int.emod_nonneg ((cv % 2147483629 + 41700 * (n : Int) + 8056) ^ (5 : Int).toNat) (show (2147483579 : Int) ≠ 0 by decide)
        have c4 := Int.emod_lt_of_pos ((cv % 2147483629 + 41700 * (n : Int) + 8056) ^ (5 : Int).toNat) (show (0 : Int) < 2147483579 by decide)
        obtain ⟨mx, hmx⟩ : ∃ mx, mx = ((cv % 2147483629 + 41700 * (n : Int) + 8056) ^ (5 : Int).toNat) % 2147483579 := ⟨_, rfl⟩
        rw [← hmx] at c3 c4
        dsimp only
        rw [← hmx]
        have m1 : 0 ≤ mx * (2 * (n : Int) + 5086) := Int.mul_nonneg c3 (by omega)
        have m2 : mx * (2 * (n : Int) + 5086) ≤ 2147483579 * 2102238 := Int.mul_le_mul (by omega) (by omega) (by omega) (by decide)
        have m3 : 0 ≤ 64192 * (n : Int) * (n : Int) := Int.mul_nonneg (by omega) (by omega)
        have m4 : 64192 * (n : Int) * (n : Int) ≤ (64192 * 1048576) * 1048576 := Int.mul_le_mul (by omega) (by omega) (by omega) (by decide)
        refine ⟨_, rfl, _, rfl, _, _, rfl, rfl, .inl ⟨by decide, by decide⟩, _, _, rfl, rfl, _, _, rfl, rfl, .inl ⟨by omega, by omega⟩, _, rfl, _, _, rfl, rfl, .inl ⟨by decide, by decide⟩, _, rfl, _, _, rfl, rfl, .inl ⟨by omega, by omega⟩, _, _, rfl, rfl, _, _, rfl, rfl, _, _, rfl, rfl, ⟨by decide, by decide, ?_⟩, .inl ⟨_, rfl, _, _, rfl, rfl, (by show (0 : Int) < 2147483477; decide), ?_⟩⟩
        · show (mx * (2 * (n : Int) + 5086) + 64192 * (n : Int) * (n : Int) + 41700).natAbs < 2 ^ 64
          omega
        exact ⟨_, rfl, _, _, rfl, rfl, ⟨by decide, by decide⟩, .inl ⟨_, rfl, _, rfl, _, _, rfl, rfl, hmm.1, q' _ (n + 1) _ (Int.emod_nonneg _ (by omega)) (Int.emod_lt_of_pos _ hmm.1) k2 d2 (Nat.le_refl _)⟩⟩
    · refine ⟨_, rfl, .inl ⟨cv, rfl, _, _, rfl, rfl, (by show (0 : Int) < 2147483629; decide), _, rfl, _, _, rfl, rfl, .inl ⟨by decide, by decide⟩, _, _, rfl, rfl, _, _, rfl, rfl, _, _, rfl, rfl, ⟨by decide, by decide, ?_⟩, .inl ⟨_, rfl, _, _, rfl, rfl, (by show (0 : Int) < 2147483579; decide), ?_⟩⟩⟩
      · have b1 := Int.emod_nonneg cv (show (2147483629 : Int) ≠ 0 by decide)
        have b2 := Int.emod_lt_of_pos cv (show (0 : Int) < 2147483629 by decide)
        show (cv % 2147483629 + 41700 * (n : Int) + 8056).natAbs < 2 ^ 64
        omega
      have c3 := Int.emod_nonneg ((cv % 2147483629 + 41700 * (n : Int) + 8056) ^ (5 : Int).toNat) (show (2147483579 : Int) ≠ 0 by decide)
      have c4 := Int.emod_lt_of_pos ((cv % 2147483629 + 41700 * (n : Int) + 8056) ^ (5 : Int).toNat) (show (0 : Int) < 2147483579 by decide)
      obtain ⟨mx, hmx⟩ : ∃ mx, mx = ((cv % 2147483629 + 41700 * (n : Int) + 8056) ^ (5 : Int).toNat) % 2147483579 := ⟨_, rfl⟩
      rw [← hmx] at c3 c4
      dsimp only
      rw [← hmx]
      have m1 : 0 ≤ mx * (2 * (n : Int) + 5086) := Int.mul_nonneg c3 (by omega)
      have m2 : mx * (2 * (n : Int) + 5086) ≤ 2147483579 * 2102238 := Int.mul_le_mul (by omega) (by omega) (by omega) (by decide)
      have m3 : 0 ≤ 64192 * (n : Int) * (n : Int) := Int.mul_nonneg (by omega) (by omega)
      have m4 : 64192 * (n : Int) * (n : Int) ≤ (64192 * 1048576) * 1048576 := Int.mul_le_mul (by omega) (by omega) (by omega) (by decide)
      refine ⟨_, rfl, _, rfl, _, _, rfl, rfl, .inl ⟨by decide, by decide⟩, _, _, rfl, rfl, _, _, rfl, rfl, .inl ⟨by omega, by omega⟩, _, rfl, _, _, rfl, rfl, .inl ⟨by decide, by decide⟩, _, rfl, _, _, rfl, rfl, .inl ⟨by omega, by omega⟩, _, _, rfl, rfl, _, _, rfl, rfl, _, _, rfl, rfl, ⟨by decide, by decide, ?_⟩, .inl ⟨_, rfl, _, _, rfl, rfl, (by show (0 : Int) < 2147483477; decide), ?_⟩⟩
      · show (mx * (2 * (n : Int) + 5086) + 64192 * (n : Int) * (n : Int) + 41700).natAbs < 2 ^ 64
        omega
      exact ⟨_, rfl, _, _, rfl, rfl, ⟨by decide, by decide⟩, .inl ⟨_, rfl, _, rfl, _, _, rfl, rfl, hmm.1, q' _ (n + 1) _ (Int.emod_nonneg _ (by omega)) (Int.emod_lt_of_pos _ hmm.1) k2 d2 (Nat.le_refl _)⟩⟩
end
end PL
end
section
set_option maxHeartbeats 4000000
/-! D23: numbers drawn. -/
namespace PL
open PySem PySem.Spec PyProof.Rows L2
section
variable {w : World} {K : PySem.W.Frag} {mg : Str → Option Value} {base : Heap}
/-! ### _law_one_of -/
def sp__law_one_of (K : PySem.W.Frag) : Sp := fun vs H Q _ => ∃ dk ca cs n p b xs, vs = [.ref dk, .ref p] ∧ Desk H dk ca cs n ∧ n < 2 ^ 20 ∧ SqP b H p xs ∧ p ≠ dk ∧ 0 < xs.length ∧ xs.length < 1000 ∧
  ∀ (r : Nat) v n' H', xs[r]? = some v → Kp (some dk) H H' → Desk H' dk ca cs n' → n' ≤ n + 1 → Q v H'
theorem ok__law_one_of (T : Txt K mg) : FnOk P0 w K mg base CX0 2 (aF K "_law_one_of") (dF K "_law_one_of") ["_law_desk_here", "_law_some"] (sp__law_one_of K) := by
  have G__law_pick := ok__law_pick (w := w) (base := base) T
  refine T.f__law_one_of.ok sc__law_one_of (fun vs H Q E h => by first | (obtain ⟨_, rfl, _⟩ := h; rfl) | (obtain ⟨_, _, rfl, _⟩ := h; rfl) | (obtain ⟨_, _, _, rfl, _⟩ := h; rfl) | (obtain ⟨_, _, _, _, rfl, _⟩ := h; rfl) | (obtain ⟨_, _, _, _, _, rfl, _⟩ := h; rfl) | (obtain ⟨_, _, _, _, _, _, rfl, _⟩ := h; rfl) | (obtain ⟨_, _, _, _, _, _, _, rfl, _⟩ := h; rfl) | (obtain ⟨_, _, _, _, _, _, _, _, rfl, _⟩ := h; rfl) | (obtain ⟨_, _, _, _, _, _, _, _, _, rfl, _⟩ := h; rfl) | (obtain ⟨_, _, _, _, _, _, _, _, _, _, rfl, _⟩ := h; rfl) | (obtain ⟨_, _, _, _, _, _, _, _, _, _, _, rfl, _⟩ := h; rfl) | (obtain ⟨_, _, _, _, _, _, _, _, _, _, _, _, rfl, _⟩ := h; rfl) | (obtain ⟨_, _, _, _, _, _, _, _, _, _, _, _, _, rfl, _⟩ := h; rfl) | (obtain ⟨_, _, _, _, _, _, _, _, _, _, _, _, _, _, rfl, _⟩ := h; rfl) | (obtain ⟨_, _, _, _, _, _, _, _, _, _, _, _, _, _, _, rfl, _⟩ := h; rfl) | (obtain ⟨_, _, _, _, _, _, _, _, _, _, _, _, _, _, _, _, rfl, _⟩ := h; rfl) | (obtain ⟨rfl, _⟩ := h; rfl)) (fun cdv A outer s H vs Q E hr h => ?_)
  obtain ⟨dk, ca, cs, n, p, b, xs, rfl, hd, hn, hp, hne, hl1, hl2, q⟩ := h
  refine ⟨_, ((pss_one (ps_ret (pe_ix (kix K rfl) (pv 1) (pe_call G__law_pick (hr.mono (by omega)) rfl T.g__law_pick T.f__law_pick.kp T.b__law_pick .nil pass0 (pa_cons (pv 0) (pa_cons (pe_callB (klen K rfl) (by rfl) T.z_len bt_len (pa_cons (pv 1) pa_nil)) pa_nil))) (fun _ _ => rfl))))), ?_⟩
  refine ⟨_, rfl, _, rfl, _, rfl, p, b, _, rfl, hp.sq, dk, ca, cs, n, xs.length, rfl, hd, hn, hl1, by omega, fun r n' H1 hr k1 d1 hn' => ?_⟩
  have hp1 : SqP b H1 p xs := by
    have hz : some p ≠ some dk := fun z => hne (by injection z)
    cases b <;> (unfold SqP at hp ⊢; exact k1 _ _ hp hz)
  exact ⟨p, b, xs, (r : Int), xs[r], rfl, rfl, hp1.sq, atI_nat (List.getElem?_eq_getElem hr), q r _ n' H1 (List.getElem?_eq_getElem hr) k1 d1 hn'⟩
/-! ### _law_low -/
def sp__law_low : Sp := fun vs H Q _ => ∃ a b : Int, vs = [.int a, .int b] ∧ 0 < b ∧ b < 1000 ∧ ∀ p H', Same H H' → H' p = some (.tup [.int (a / (Int.gcd a b : Int)), .int (b / (Int.gcd a b : Int))]) → Q (.ref p) H'
theorem ok__law_low (T : Txt K mg) : FnOk P0 w K mg base CX0 1 (aF K "_law_low") (dF K "_law_low") ["_law_above", "_law_below"] (sp__law_low) := by
  refine T.f__law_low.ok sc__law_low (fun vs H Q E h => by first | (obtain ⟨_, rfl, _⟩ := h; rfl) | (obtain ⟨_, _, rfl, _⟩ := h; rfl) | (obtain ⟨_, _, _, rfl, _⟩ := h; rfl) | (obtain ⟨_, _, _, _, rfl, _⟩ := h; rfl) | (obtain ⟨_, _, _, _, _, rfl, _⟩ := h; rfl) | (obtain ⟨_, _, _, _, _, _, rfl, _⟩ := h; rfl) | (obtain ⟨_, _, _, _, _, _, _, rfl, _⟩ := h; rfl) | (obtain ⟨_, _, _, _, _, _, _, _, rfl, _⟩ := h; rfl) | (obtain ⟨_, _, _, _, _, _, _, _, _, rfl, _⟩ := h; rfl) | (obtain ⟨_, _, _, _, _, _, _, _, _, _, rfl, _⟩ := h; rfl) | (obtain ⟨_, _, _, _, _, _, _, _, _, _, _, rfl, _⟩ := h; rfl) | (obtain ⟨_, _, _, _, _, _, _, _, _, _, _, _, rfl, _⟩ := h; rfl) | (obtain ⟨_, _, _, _, _, _, _, _, _, _, _, _, _, rfl, _⟩ := h; rfl) | (obtain ⟨_, _, _, _, _, _, _, _, _, _, _, _, _, _, rfl, _⟩ := h; rfl) | (obtain ⟨_, _, _, _, _, _, _, _, _, _, _, _, _, _, _, rfl, _⟩ := h; rfl) | (obtain ⟨_, _, _, _, _, _, _, _, _, _, _, _, _, _, _, _, rfl, _⟩ := h; rfl) | (obtain ⟨rfl, _⟩ := h; rfl)) (fun cdv A outer s H vs Q E hr h => ?_)
  obtain ⟨a, b, rfl, hb, hb2, q⟩ := h
  refine ⟨_, ((pss_cons (ps_par (i := 2) (j := 3) rfl sc__law_low.nd rfl rfl (by decide) rfl rfl (pa_cons (pe_callB call_abs (by rfl) T.z_abs bt_abs (pa_cons (pv 0) pa_nil)) (pa_cons (pe_callB call_abs (by rfl) T.z_abs bt_abs (pa_cons (pv 1) pa_nil)) pa_nil)) (by rfl))
    (pss_cons (ps_while PassesOwn.never (pt_cmpR op_gt (pv 3) pe_int (nomark _)) (pss_one (ps_par (i := 2) (j := 3) rfl sc__law_low.nd rfl rfl (by decide) rfl rfl (pa_cons (pv 3) (pa_cons (pe_op op_mod (pe_callTy call_int1 (by rfl) T.z_int bt_int (pa_cons (pv 2) pa_nil)) (pv 3)) pa_nil)) (by rfl))))
    (pss_cons (ps_set (i := 4) sc__law_low.nd rfl (Or.inl rfl) (pe_ifExp (pt_cmpR op_lt (pv 1) pe_int (nomark _)) (pe_un un_neg pe_int) pe_int))
    (pss_one (ps_ret (pe_tup (pa_cons (pe_op op_fdiv (pe_op op_mul (pv 4) (pv 0)) (pv 2)) (pa_cons (pe_op op_fdiv (pe_op op_mul (pv 4) (pv 1)) (pv 2)) pa_nil))))))))), ?_⟩
  refine ⟨_, rfl, _, rfl, _, rfl, _, rfl, _, _, rfl, ?_⟩
  refine while_by (fun σ H' => H' = H ∧ ∃ x y : Nat, σ = [some (.int a), some (.int b), some (.int x), some (.int y), none] ∧ Nat.gcd x y = Int.gcd a b) (fun σ _ => match σ with | [_, _, _, some (.int y), _] => y.toNat | _ => 0) ⟨rfl, a.natAbs, b.natAbs, ?_, rfl⟩ ?_ ?_
  · rw [← abs_nat a, ← abs_nat b]
    rfl
  · rintro σ H' ⟨rfl, x, y, rfl, hg⟩
    refine ⟨_, rfl, _, _, rfl, rfl, _, rfl, ?_⟩
    refine ite2 (fun c => ?_) fun c => ?_
    · have hy : 0 < y := by have := of_decide_eq_true c; omega
      refine ⟨_, rfl, _, rfl, .inl ⟨_, rfl, _, rfl, _, _, rfl, rfl, by omega, _, _, rfl, ⟨rfl, y, x % y, ?_, ?_⟩, ?_⟩⟩
      · rfl
      · rw [← hg, Nat.gcd_comm x y, Nat.gcd_rec y x, Nat.gcd_comm]
      · show ((x : Int) % y).toNat < (y : Int).toNat
        have := Nat.mod_lt x hy
        omega
    · have hy : y = 0 := by
        have := of_decide_eq_false (Bool.eq_false_iff.mpr c)
        omega
      subst hy
      rw [Nat.gcd_zero_right] at hg
      have hx : (x : Int) = (Int.gcd a b : Int) := by rw [hg]
      have hgp : 0 < Int.gcd a b := Int.gcd_pos_of_ne_zero_right a (by omega)
      have hgb : Int.gcd a b ≤ b.natAbs := Nat.le_of_dvd (by omega) (Nat.gcd_dvd_right _ _)
      refine ⟨_, rfl, _, _, rfl, rfl, _, rfl, itN (fun c => by have := of_decide_eq_true c; omega) ?_⟩
      refine ⟨_, rfl, _, rfl, _, _, rfl, rfl, .inl ⟨by decide, by decide⟩, _, rfl, _, _, rfl, rfl, ⟨by omega, by omega⟩, _, rfl, _, rfl, _, _, rfl, rfl, .inl ⟨by decide, by decide⟩, _, rfl, _, _, rfl, rfl, ⟨by omega, by omega⟩, (by show 2 ≤ sizeLine; decide), fun p hp => q p _ (same_upd hp) ?_⟩
      rw [upd_same]
      show some (HO.tup [V.int (1 * a / (x : Int)), V.int (1 * b / (x : Int))]) = _
      rw [hx, Int.one_mul, Int.one_mul]
  · rintro σ H' Q1 Q2 h12 ⟨v1, e1, i, j, e2, e3, k, e4, e5⟩
    exact ⟨v1, e1, i, j, e2, e3, k, e4, h12 _ _ e5⟩
/-! ### _law_told -/
def nmOf (p q : Int) : Nm := if q = 1 then .i p else .f p q
def sp__law_told (K : PySem.W.Frag) : Sp := fun vs H Q _ => ∃ t p q, vs = [.ref t] ∧ H t = some (.tup [.int p, .int q]) ∧ ∀ v H', Same H H' → Td H' v (nmOf p q).data → Q v H'
theorem ok__law_told (T : Txt K mg) : FnOk P0 w K mg base CX0 1 (aF K "_law_told") (dF K "_law_told") ["_law_one"] (sp__law_told K) := by
  refine T.f__law_told.ok sc__law_told (fun vs H Q E h => by first | (obtain ⟨_, rfl, _⟩ := h; rfl) | (obtain ⟨_, _, rfl, _⟩ := h; rfl) | (obtain ⟨_, _, _, rfl, _⟩ := h; rfl) | (obtain ⟨_, _, _, _, rfl, _⟩ := h; rfl) | (obtain ⟨_, _, _, _, _, rfl, _⟩ := h; rfl) | (obtain ⟨_, _, _, _, _, _, rfl, _⟩ := h; rfl) | (obtain ⟨_, _, _, _, _, _, _, rfl, _⟩ := h; rfl) | (obtain ⟨_, _, _, _, _, _, _, _, rfl, _⟩ := h; rfl) | (obtain ⟨_, _, _, _, _, _, _, _, _, rfl, _⟩ := h; rfl) | (obtain ⟨_, _, _, _, _, _, _, _, _, _, rfl, _⟩ := h; rfl) | (obtain ⟨_, _, _, _, _, _, _, _, _, _, _, rfl, _⟩ := h; rfl) | (obtain ⟨_, _, _, _, _, _, _, _, _, _, _, _, rfl, _⟩ := h; rfl) | (obtain ⟨_, _, _, _, _, _, _, _, _, _, _, _, _, rfl, _⟩ := h; rfl) | (obtain ⟨_, _, _, _, _, _, _, _, _, _, _, _, _, _, rfl, _⟩ := h; rfl) | (obtain ⟨_, _, _, _, _, _, _, _, _, _, _, _, _, _, _, rfl, _⟩ := h; rfl) | (obtain ⟨_, _, _, _, _, _, _, _, _, _, _, _, _, _, _, _, rfl, _⟩ := h; rfl) | (obtain ⟨rfl, _⟩ := h; rfl)) (fun cdv A outer s H vs Q E hr h => ?_)
  obtain ⟨t, p, qq, rfl, ht, q⟩ := h
  refine ⟨_, ((pss_one (ps_ret (pe_ifExp (pt_cmpR op_eq (pe_ix (kix K rfl) (pv 0) pe_int (fun _ _ => rfl)) pe_int (nomark _)) (pe_ix (kix K rfl) (pv 0) pe_int (fun _ _ => rfl)) (pv 0))))), ?_⟩
  refine ⟨_, rfl, t, false, _, 1, _, rfl, rfl, SqT.of ht, rfl, rfl, _, rfl, ?_⟩
  refine ite2 (fun c => ?_) fun c => ?_
  · have e : qq = 1 := by
      have := of_decide_eq_true c
      injection this
    have en : nmOf p qq = .i p := if_pos e
    rw [en] at q
    exact ⟨_, rfl, t, false, _, 0, _, rfl, rfl, SqT.of ht, rfl, q _ _ (Same.refl _) (.int p)⟩
  · have e : ¬ qq = 1 := fun z => c (by rw [z]; exact decide_eq_true rfl)
    have en : nmOf p qq = .f p qq := if_neg e
    rw [en] at q
    exact ⟨_, rfl, q _ _ (Same.refl _) (td_ints (ns := [p, qq]) ht)⟩
/-! ### _law_number -/
def Nm.okB : Nm → Bool
  | .i n => decide (-30 ≤ n) && decide (n ≤ 30)
  | .f p q => decide (-30 ≤ p) && decide (p ≤ 30) && decide (2 ≤ q) && decide (q ≤ 4) && decide (Int.gcd p q = 1)
theorem Nm.ok_of {n : Nm} (h : n.okB = true) : n.ok := by
  cases n with
  | i n =>
    simp only [Nm.okB, Bool.and_eq_true, decide_eq_true_eq] at h
    exact h
  | f p q =>
    simp only [Nm.okB, Bool.and_eq_true, decide_eq_true_eq] at h
    obtain ⟨⟨⟨⟨a, b⟩, c⟩, d⟩, e⟩ := h
    exact ⟨⟨a, b⟩, c, d, e⟩
theorem nm_ok {a b : Int} (ha : -27 ≤ a ∧ a ≤ 27) (hb : 1 ≤ b ∧ b ≤ 3) : (nmOf (a / (Int.gcd a b : Int)) (b / (Int.gcd a b : Int))).ok := by
  have : ∀ x : Fin 55, ∀ y : Fin 3, (nmOf ((((x : Nat) : Int) - 27) / (Int.gcd (((x : Nat) : Int) - 27) (((y : Nat) : Int) + 1) : Int)) ((((y : Nat) : Int) + 1) / (Int.gcd (((x : Nat) : Int) - 27) (((y : Nat) : Int) + 1) : Int))).okB = true := by decide +kernel
  have h := this ⟨(a + 27).toNat, by omega⟩ ⟨(b - 1).toNat, by omega⟩
  have e1 : (((a + 27).toNat : Nat) : Int) - 27 = a := by omega
  have e2 : (((b - 1).toNat : Nat) : Int) + 1 = b := by omega
  simp only [e1, e2] at h
  exact Nm.ok_of h
def sp__law_number (K : PySem.W.Frag) : Sp := fun vs H Q _ => ∃ dk ca cs n, vs = [.ref dk, .int 9] ∧ Desk H dk ca cs n ∧ n + 1 < 2 ^ 20 ∧ ∀ x v n' H', Nm.ok x → Td H' v x.data → Kp (some dk) H H' → Desk H' dk ca cs n' → n' ≤ n + 2 → Q v H'
theorem ok__law_number (T : Txt K mg) : FnOk P0 w K mg base CX0 3 (aF K "_law_number") (dF K "_law_number") ["_law_desk_here", "_law_most"] (sp__law_number K) := by
  have G__law_one_of := ok__law_one_of (w := w) (base := base) T
  have G__law_pick := ok__law_pick (w := w) (base := base) T
  have G__law_low := ok__law_low (w := w) (base := base) T
  have G__law_told := ok__law_told (w := w) (base := base) T
  refine T.f__law_number.ok sc__law_number (fun vs H Q E h => by first | (obtain ⟨_, rfl, _⟩ := h; rfl) | (obtain ⟨_, _, rfl, _⟩ := h; rfl) | (obtain ⟨_, _, _, rfl, _⟩ := h; rfl) | (obtain ⟨_, _, _, _, rfl, _⟩ := h; rfl) | (obtain ⟨_, _, _, _, _, rfl, _⟩ := h; rfl) | (obtain ⟨_, _, _, _, _, _, rfl, _⟩ := h; rfl) | (obtain ⟨_, _, _, _, _, _, _, rfl, _⟩ := h; rfl) | (obtain ⟨_, _, _, _, _, _, _, _, rfl, _⟩ := h; rfl) | (obtain ⟨_, _, _, _, _, _, _, _, _, rfl, _⟩ := h; rfl) | (obtain ⟨_, _, _, _, _, _, _, _, _, _, rfl, _⟩ := h; rfl) | (obtain ⟨_, _, _, _, _, _, _, _, _, _, _, rfl, _⟩ := h; rfl) | (obtain ⟨_, _, _, _, _, _, _, _, _, _, _, _, rfl, _⟩ := h; rfl) | (obtain ⟨_, _, _, _, _, _, _, _, _, _, _, _, _, rfl, _⟩ := h; rfl) | (obtain ⟨_, _, _, _, _, _, _, _, _, _, _, _, _, _, rfl, _⟩ := h; rfl) | (obtain ⟨_, _, _, _, _, _, _, _, _, _, _, _, _, _, _, rfl, _⟩ := h; rfl) | (obtain ⟨_, _, _, _, _, _, _, _, _, _, _, _, _, _, _, _, rfl, _⟩ := h; rfl) | (obtain ⟨rfl, _⟩ := h; rfl)) (fun cdv A outer s H vs Q E hr h => ?_)
  obtain ⟨dk, ca, cs, n, rfl, hd, hn, q⟩ := h
  refine ⟨_, ((pss_cons (ps_set (i := 2) sc__law_number.nd rfl (Or.inl rfl) (pe_call G__law_one_of (hr.mono (by omega)) rfl T.g__law_one_of T.f__law_one_of.kp T.b__law_one_of .nil pass0 (pa_cons (pv 0) (pa_cons (pe_lst (pa_cons pe_int (pa_cons pe_int (pa_cons pe_int (pa_cons pe_int pa_nil))))) pa_nil))))
    (pss_one (ps_ret (pe_call G__law_told (hr.mono (by omega)) rfl T.g__law_told T.f__law_told.kp T.b__law_told .nil pass0 (pa_cons (pe_call G__law_low (hr.mono (by omega)) rfl T.g__law_low T.f__law_low.kp T.b__law_low .nil pass0 (pa_cons (pe_op op_sub (pe_call G__law_pick (hr.mono (by omega)) rfl T.g__law_pick T.f__law_pick.kp T.b__law_pick .nil pass0 (pa_cons (pv 0) (pa_cons (pe_op op_add (pe_op op_mul (pe_op op_mul pe_int (pv 1)) (pv 2)) pe_int) pa_nil))) (pe_op op_mul (pv 1) (pv 2))) (pa_cons (pv 2) pa_nil))) pa_nil)))))), ?_⟩
  have hdn : H dk ≠ none := by
    obtain ⟨_, _, h1, _⟩ := hd
    rw [h1]
    simp
  refine ⟨_, rfl, by decide, fun p hp => ?_⟩
  have hne : p ≠ dk := fun z => hdn (by rw [← z]; exact hp)
  refine ⟨dk, ca, cs, n, p, true, _, rfl, hd.same (same_upd hp), by omega, upd_same, hne, by decide, by decide, fun r v n1 H1 hv k1 d1 hn1 => ?_⟩
  obtain ⟨b, rfl, hb⟩ : ∃ b : Int, v = .int b ∧ 1 ≤ b ∧ b ≤ 3 := by
    match r, hv with
    | 0, hv => cases hv; exact ⟨1, rfl, by decide⟩
    | 1, hv => cases hv; exact ⟨1, rfl, by decide⟩
    | 2, hv => cases hv; exact ⟨2, rfl, by decide⟩
    | 3, hv => cases hv; exact ⟨3, rfl, by decide⟩
    | r + 4, hv => simp at hv
  have k01 : Kp (some dk) H H1 := (Kp.of (same_upd hp)).trans k1
  obtain ⟨k, rfl⟩ := Int.eq_ofNat_of_zero_le (show 0 ≤ b by omega)
  refine ⟨_, rfl, _, rfl, _, _, rfl, rfl, .inl ⟨by decide, by decide⟩, _, rfl, _, _, rfl, rfl, .inl ⟨by decide, by decide⟩, _, _, rfl, rfl, dk, ca, cs, n1, 18 * k + 1, ?_, d1, by omega, by omega, by omega, fun r2 n2 H2 hr2 k2 d2 hn2 => ?_⟩
  · show [V.ref dk, V.int (2 * 9 * (k : Int) + 1)] = _
    have : (2 * 9 * (k : Int) + 1) = ((18 * k + 1 : Nat) : Int) := by omega
    rw [this]
  refine ⟨_, rfl, _, rfl, _, _, rfl, rfl, .inl ⟨by decide, by decide⟩, _, _, rfl, rfl, _, rfl, (r2 : Int) - 9 * (k : Int), (k : Int), rfl, by omega, by omega, fun p3 H3 e3 h3 => ?_⟩
  refine ⟨p3, _, _, rfl, h3, fun v H4 e4 t4 => ?_⟩
  exact q _ v n2 H4 (nm_ok (by omega) (by omega)) t4 ((k01.trans k2).trans (.of (e3.trans e4))) (d2.same (e3.trans e4)) (by omega)
/-! ### _law_weight -/
def sp__law_weight (K : PySem.W.Frag) : Sp := fun vs H Q _ => ∃ dk ca cs n, vs = [.ref dk] ∧ Desk H dk ca cs n ∧ n < 2 ^ 20 ∧ ∀ x v n' H', wtOk x → Td H' v x.data → Kp (some dk) H H' → Desk H' dk ca cs n' → n' ≤ n + 1 → Q v H'
theorem ok__law_weight (T : Txt K mg) : FnOk P0 w K mg base CX0 3 (aF K "_law_weight") (dF K "_law_weight") ["_law_desk_here"] (sp__law_weight K) := by
  have G__law_one_of := ok__law_one_of (w := w) (base := base) T
  refine T.f__law_weight.ok sc__law_weight (fun vs H Q E h => by first | (obtain ⟨_, rfl, _⟩ := h; rfl) | (obtain ⟨_, _, rfl, _⟩ := h; rfl) | (obtain ⟨_, _, _, rfl, _⟩ := h; rfl) | (obtain ⟨_, _, _, _, rfl, _⟩ := h; rfl) | (obtain ⟨_, _, _, _, _, rfl, _⟩ := h; rfl) | (obtain ⟨_, _, _, _, _, _, rfl, _⟩ := h; rfl) | (obtain ⟨_, _, _, _, _, _, _, rfl, _⟩ := h; rfl) | (obtain ⟨_, _, _, _, _, _, _, _, rfl, _⟩ := h; rfl) | (obtain ⟨_, _, _, _, _, _, _, _, _, rfl, _⟩ := h; rfl) | (obtain ⟨_, _, _, _, _, _, _, _, _, _, rfl, _⟩ := h; rfl) | (obtain ⟨_, _, _, _, _, _, _, _, _, _, _, rfl, _⟩ := h; rfl) | (obtain ⟨_, _, _, _, _, _, _, _, _, _, _, _, rfl, _⟩ := h; rfl) | (obtain ⟨_, _, _, _, _, _, _, _, _, _, _, _, _, rfl, _⟩ := h; rfl) | (obtain ⟨_, _, _, _, _, _, _, _, _, _, _, _, _, _, rfl, _⟩ := h; rfl) | (obtain ⟨_, _, _, _, _, _, _, _, _, _, _, _, _, _, _, rfl, _⟩ := h; rfl) | (obtain ⟨_, _, _, _, _, _, _, _, _, _, _, _, _, _, _, _, rfl, _⟩ := h; rfl) | (obtain ⟨rfl, _⟩ := h; rfl)) (fun cdv A outer s H vs Q E hr h => ?_)
  obtain ⟨dk, ca, cs, n, rfl, hd, hn, q⟩ := h
  refine ⟨_, ((pss_one (ps_ret (pe_call G__law_one_of (hr.mono (by omega)) rfl T.g__law_one_of T.f__law_one_of.kp T.b__law_one_of .nil pass0 (pa_cons (pv 0) (pa_cons (pe_lst (pa_cons pe_int (pa_cons (pe_tup (pa_cons pe_int (pa_cons pe_int pa_nil))) (pa_cons (pe_tup (pa_cons pe_int (pa_cons pe_int pa_nil))) (pa_cons pe_int (pa_cons pe_int (pa_cons (pe_tup (pa_cons pe_int (pa_cons pe_int pa_nil))) (pa_cons pe_int (pa_cons (pe_tup (pa_cons pe_int (pa_cons pe_int pa_nil))) pa_nil))))))))) pa_nil)))))), ?_⟩
  have hdn : H dk ≠ none := by
    obtain ⟨_, _, h1, _⟩ := hd
    rw [h1]
    simp
  refine ⟨_, rfl, (by show 2 ≤ sizeLine; decide), fun p1 hp1 => ⟨(by show 2 ≤ sizeLine; decide), fun p2 hp2 => ⟨(by show 2 ≤ sizeLine; decide), fun p3 hp3 => ⟨(by show 2 ≤ sizeLine; decide), fun p4 hp4 => ⟨(by show 8 ≤ sizeLine; decide), fun p hp => ?_⟩⟩⟩⟩⟩
  have s1 : Td (upd H p1 (.tup [.int 1, .int 2])) (.ref p1) (Nm.f 1 2).data := td_ints (ns := [1, 2]) upd_same
  have e1 : Same H (upd H p1 (.tup [.int 1, .int 2])) := same_upd hp1
  generalize upd H p1 (.tup [.int 1, .int 2]) = H1 at s1 e1 hp2 hp3 hp4 hp ⊢
  have s2 : Td (upd H1 p2 (.tup [.int 1, .int 3])) (.ref p2) (Nm.f 1 3).data := td_ints (ns := [1, 3]) upd_same
  have e2 : Same H1 (upd H1 p2 (.tup [.int 1, .int 3])) := same_upd hp2
  generalize upd H1 p2 (.tup [.int 1, .int 3]) = H2 at s2 e2 hp3 hp4 hp ⊢
  have s3 : Td (upd H2 p3 (.tup [.int 2, .int 3])) (.ref p3) (Nm.f 2 3).data := td_ints (ns := [2, 3]) upd_same
  have e3 : Same H2 (upd H2 p3 (.tup [.int 2, .int 3])) := same_upd hp3
  generalize upd H2 p3 (.tup [.int 2, .int 3]) = H3 at s3 e3 hp4 hp ⊢
  have s4 : Td (upd H3 p4 (.tup [.int 1, .int 4])) (.ref p4) (Nm.f 1 4).data := td_ints (ns := [1, 4]) upd_same
  have e4 : Same H3 (upd H3 p4 (.tup [.int 1, .int 4])) := same_upd hp4
  generalize upd H3 p4 (.tup [.int 1, .int 4]) = H4 at s4 e4 hp ⊢
  have e04 := ((e1.trans e2).trans e3).trans e4
  have hne : p ≠ dk := fun z => by
    cases hh : H dk with
    | none => exact hdn hh
    | some u =>
      rw [z, e04 _ _ hh] at hp
      cases hp
  have e5 : Same H4 (upd H4 p (.lst [V.int 1, V.ref p1, V.ref p2, V.int 0, V.int 2, V.ref p3, V.int 1, V.ref p4])) := same_upd hp
  refine ⟨dk, ca, cs, n, p, true, _, rfl, hd.same (e04.trans e5), hn, upd_same, hne, by show 0 < 8; decide, by show 8 < 1000; decide, fun r v n1 H6 hv k6 d6 hn6 => ?_⟩
  have k06 : Kp (some dk) H H6 := (Kp.of (e04.trans e5)).trans k6
  have im : Im (upd H4 p (.lst [V.int 1, V.ref p1, V.ref p2, V.int 0, V.int 2, V.ref p3, V.int 1, V.ref p4])) H6 := k6.im ((hd.same (e04.trans e5)).loose)
  have w0 : ∀ i : Int, (0 ≤ i ∧ i ≤ 2) → wtOk (.i i) := fun i h => ⟨⟨by omega, by omega⟩, h.1⟩
  match r, hv with
  | 0, hv => cases hv; exact q (.i 1) _ n1 H6 (w0 1 (by decide)) (.int 1) k06 d6 hn6
  | 1, hv => cases hv; exact q (.f 1 2) _ n1 H6 ⟨⟨⟨by decide, by decide⟩, by decide, by decide, by decide⟩, (by show (0 : Int) ≤ 1; decide)⟩ ((s1.same (((e2.trans e3).trans e4).trans e5)).im im) k06 d6 hn6
  | 2, hv => cases hv; exact q (.f 1 3) _ n1 H6 ⟨⟨⟨by decide, by decide⟩, by decide, by decide, by decide⟩, (by show (0 : Int) ≤ 1; decide)⟩ ((s2.same ((e3.trans e4).trans e5)).im im) k06 d6 hn6
  | 3, hv => cases hv; exact q (.i 0) _ n1 H6 (w0 0 (by decide)) (.int 0) k06 d6 hn6
  | 4, hv => cases hv; exact q (.i 2) _ n1 H6 (w0 2 (by decide)) (.int 2) k06 d6 hn6
  | 5, hv => cases hv; exact q (.f 2 3) _ n1 H6 ⟨⟨⟨by decide, by decide⟩, by decide, by decide, by decide⟩, (by show (0 : Int) ≤ 2; decide)⟩ ((s3.same (e4.trans e5)).im im) k06 d6 hn6
  | 6, hv => cases hv; exact q (.i 1) _ n1 H6 (w0 1 (by decide)) (.int 1) k06 d6 hn6
  | 7, hv => cases hv; exact q (.f 1 4) _ n1 H6 ⟨⟨⟨by decide, by decide⟩, by decide, by decide, by decide⟩, (by show (0 : Int) ≤ 1; decide)⟩ ((s4.same e5).im im) k06 d6 hn6
  | r + 8, hv => simp at hv
end
end PL
end
section
set_option maxHeartbeats 4000000
/-! D24: lots, rows drawn. -/
namespace PL
open PySem PySem.Spec PyProof.Rows L2
section
variable {w : World} {K : PySem.W.Frag} {mg : Str → Option Value} {base : Heap}
theorem ixN_nat {n j : Nat} (h : j < n) : ixN n (j : Int) = Option.some j := by
  unfold ixN
  rw [if_pos (by omega), if_pos (by omega)]
  simp
theorem Desk.upd {H : Hp} {dk ca a : Addr} {o : HO} {cs : List Int} {n : Nat} (h : Desk H dk ca cs n) (h1 : a ≠ dk) (h2 : a ≠ ca) : Desk (upd H a o) dk ca cs n := by
  obtain ⟨r, h0, g1, g2, h3, h4⟩ := h
  exact ⟨r, h0, by rw [upd_ne (fun z => h1 z.symm)]; exact g1, by rw [upd_ne (fun z => h2 z.symm)]; exact g2, h3, h4⟩
theorem Desk.ne {H : Hp} {dk ca a : Addr} {cs : List Int} {n : Nat} (h : Desk H dk ca cs n) (ha : H a = none) : a ≠ dk ∧ a ≠ ca := by
  obtain ⟨r, h0, g1, g2, h3, h4⟩ := h
  exact ⟨fun z => by (subst z; rw [g1] at ha; cases ha), fun z => by (subst z; rw [g2] at ha; cases ha)⟩
theorem Desk.some {H : Hp} {dk ca : Addr} {cs : List Int} {n : Nat} (h : Desk H dk ca cs n) : ∀ a, some dk = some a → H a ≠ none := fun a z => by
  cases z
  obtain ⟨r, h0, g1, g2, h3, h4⟩ := h
  rw [g1]
  simp
/-- comprehensions that draw -/
theorem lc_desk {J : It} {N : Nat} {Gd : Hp → Prop} {xs : List V} {ix : Nat} {te : TE} {vs : List Nat} {σ : L2.St} {H1 : Hp} {Qd : Hp → Prop} {D dk ca : Addr} {cs : List Int} (wk : Walk J N Gd (YAt xs)) (c n0 : Nat) (hD : H1 D = none) (hd0 : Desk H1 dk ca cs n0) (hz : N < sizeLine) (hG : ∀ H, Kp (some dk) H1 H → Gd H)
    (hw : ∀ x : V, wipe ((wipe σ vs).set ix (some x)) vs = wipe σ vs) (Pe : Nat → V → Hp → Prop)
    (hmono : ∀ i y H H' ys u, H D = some (.lst ys) → H' D = some (.lst ys) → (∀ a, some dk = some a → Loose H a) → Kp (some dk) H H' → Pe i y H → Pe i y (upd H' D (.lst u)))
    (hs : ∀ (i : Nat) x n' H, i < N → xs[i]? = some x → Kp (some dk) H1 H → Desk H dk ca cs n' → n' ≤ n0 + c * i → (∃ ys, H D = some (.lst ys)) → ∀ Qe : VK, (∀ y n'' H', Kp (some dk) H H' → Desk H' dk ca cs n'' → n'' ≤ n' + c → Pe i y H' → Qe y H') → te ((wipe σ vs).set ix (some x)) H Qe)
    (hd : ∀ ys n' H, Kp (some dk) H1 H → Desk H dk ca cs n' → n' ≤ n0 + c * N → H D = some (.lst ys) → ys.length = N → (∀ i y, ys[i]? = some y → Pe i y H) → Qd H) :
    ∃ W : Nat → Nat → Hp → Prop, (∃ m, W 0 m (upd H1 D (.lst []))) ∧ ∀ i m H, W i m H →
      (J.stop i H ∧ Qd H) ∨ (J.go i H ∧ ∃ Nx : Hp → Prop, (∀ H', Nx H' → ∃ m', m' < m ∧ W (i + 1) m' H') ∧ ∀ x H', J.yld i H x H' → gName ix x (wipe σ vs) H' fun σ2 H2 => wipe σ2 vs = wipe σ vs ∧ tYes σ2 H2 fun b H3 =>
        if b = true then te σ2 H3 fun y H4 => ∃ acc, H4 D = some (.lst acc) ∧ acc.length < sizeLine ∧ Nx (upd H4 D (.lst (acc ++ [y]))) else Nx H3) := by
  have hne := hd0.ne hD
  refine lc_map wk hz hD hw (some dk) hd0.some (fun i H => Kp (some dk) H1 H ∧ ∃ n', Desk H dk ca cs n' ∧ n' ≤ n0 + c * i) Pe ⟨Kp.refl _ _, n0, hd0, by omega⟩ (fun i H u h => ⟨h.1.mut hD, by
    obtain ⟨n', h1, h2⟩ := h.2
    exact ⟨n', h1.upd hne.1 hne.2, h2⟩⟩) (fun i H _ h => hG H h.1) ?_ ?_ ?_
  · intro i j y H H' ys u h1 h2 h3 k p
    obtain ⟨n', h4, h5⟩ := h3.2
    exact hmono i y H H' ys u h1 h2 h4.loose k p
  · intro i x H hi hx h hl Qe hq
    obtain ⟨n', h4, h5⟩ := h.2
    refine hs i x n' H hi hx h.1 h4 h5 hl Qe fun y n'' H' k d l p => hq y H' k ⟨h.1.trans k, n'', d, ?_⟩ p
    rw [Nat.mul_succ]
    omega
  · intro ys H h h1 h2 h3
    obtain ⟨n', h4, h5⟩ := h.2
    exact hd ys n' H h.1 h4 h5 h1 h2 h3
/-! ### _law_lots -/
/-- a list of lists of hands -/
def LLs (H0 H : Hp) (L : Addr) (vs : List V) (M : List (List Nat)) : Prop := vs.length = M.length ∧ ∀ (k : Nat) v l, vs[k]? = some v → M[k]? = some l → ∃ a, v = .ref a ∧ H0 a = none ∧ a ≠ L ∧ H a = some (.lst (List.map (fun (x : Nat) => V.int (x : Int)) l))
theorem LLs.kp {H0 H H' : Hp} {L dk : Addr} {vs : List V} {M : List (List Nat)} (h : LLs H0 H L vs M) (hdk : H0 dk ≠ none) (k : Kp (some dk) H H') : LLs H0 H' L vs M := ⟨h.1, fun u v l h1 h2 => by
  obtain ⟨a, e, e1, e2, e3⟩ := h.2 u v l h1 h2
  exact ⟨a, e, e1, e2, k _ _ e3 fun z => hdk (by injection z with z; rw [← z]; exact e1)⟩⟩
theorem LLs.put {H0 H : Hp} {L : Addr} {vs : List V} {M : List (List Nat)} {o : HO} (h : LLs H0 H L vs M) : LLs H0 (upd H L o) L vs M := ⟨h.1, fun u v l h1 h2 => by
  obtain ⟨a, e, e1, e2, e3⟩ := h.2 u v l h1 h2
  exact ⟨a, e, e1, e2, by rw [upd_ne e2]; exact e3⟩⟩
theorem LLs.snoc {H0 H : Hp} {L e : Addr} {vs : List V} {M : List (List Nat)} {l : List Nat} (h : LLs H0 H L vs M) (h0 : H0 e = none) (hL : e ≠ L) (he : H e = some (.lst (l.map fun (x : Nat) => V.int (x : Int)))) : LLs H0 H L (vs ++ [.ref e]) (M ++ [l]) := by
  refine ⟨by rw [List.length_append, List.length_append, h.1]; rfl, fun u v l' h1 h2 => ?_⟩
  by_cases hu : u < vs.length
  · rw [List.getElem?_append_left hu] at h1
    rw [List.getElem?_append_left (by rw [← h.1]; exact hu)] at h2
    exact h.2 u v l' h1 h2
  · have hu2 : u = vs.length := by
      have := (List.getElem?_eq_some_iff.mp h1).1
      rw [List.length_append, List.length_singleton] at this
      omega
    subst hu2
    rw [List.getElem?_append_right (Nat.le_refl _)] at h1
    rw [List.getElem?_append_right (by rw [h.1]; exact Nat.le_refl _), h.1] at h2
    have e1 : V.ref e = v := by simpa using h1
    have e2 : l = l' := by simpa using h2
    subst e1 e2
    exact ⟨e, rfl, h0, hL, he⟩
theorem LLs.set {H0 H : Hp} {L e : Addr} {vs : List V} {M : List (List Nat)} {l : List Nat} {k : Nat} (h : LLs H0 H L vs M) (h0 : H0 e = none) (hL : e ≠ L) (he : H e = some (.lst (l.map fun (x : Nat) => V.int (x : Int)))) : LLs H0 H L (vs.set k (.ref e)) (M.set k l) := by
  refine ⟨by rw [List.length_set, List.length_set, h.1], fun u v l' h1 h2 => ?_⟩
  rw [List.getElem?_set] at h1 h2
  by_cases hu : k = u
  · subst hu
    rw [if_pos rfl] at h1 h2
    split at h1
    · split at h2
      · cases h1
        cases h2
        exact ⟨e, rfl, h0, hL, he⟩
      · cases h2
    · cases h1
  · rw [if_neg hu] at h1 h2
    exact h.2 u v l' h1 h2
theorem modify_set {α : Type} {l : List α} {k : Nat} {x : α} (f : α → α) (h : l[k]? = some x) : l.modify k f = l.set k (f x) := by
  refine List.ext_getElem? fun i => ?_
  rw [List.getElem?_modify, List.getElem?_set]
  obtain ⟨hk, ex⟩ := List.getElem?_eq_some_iff.mp h
  by_cases e : k = i
  · subst e
    rw [if_pos rfl, if_pos hk, List.getElem?_eq_getElem hk, ex]
    simp
  · rw [if_neg e]
    cases l[i]? <;> simp [e]
def LotInv (H : Hp) (dk ca L : Addr) (cs : List Int) (n m mo : Nat) (j : Nat) (σ : L2.St) (H' : Hp) : Prop :=
  (∃ s4 s5 s6, σ = [some (V.ref dk), some (.int ((m : Nat) : Int)), some (.int ((mo : Nat) : Int)), some (.ref L), s4, s5, s6]) ∧ Kp (some dk) H H' ∧ (∃ n', Desk H' dk ca cs n' ∧ n' ≤ n + j) ∧
    ∃ c vs, Rgs c ∧ c.length = j ∧ (lotsOf c).length ≤ mo ∧ H' L = some (.lst vs) ∧ LLs H H' L vs (lotsOf c)
def sp__law_lots (K : PySem.W.Frag) : Sp := fun vs H Q _ => ∃ dk ca cs n m mo, vs = [.ref dk, .int ((m : Nat) : Int), .int ((mo : Nat) : Int)] ∧ Desk H dk ca cs n ∧ n + 8 < 2 ^ 20 ∧ (1 ≤ m ∧ m ≤ 8) ∧ (1 ≤ mo ∧ mo ≤ 6) ∧
  ∀ c v n' H', Rgs c → c.length = m → 1 ≤ (lotsOf c).length → (lotsOf c).length ≤ mo → Td H' v (Told.lots c).data → Kp (some dk) H H' → Desk H' dk ca cs n' → n' ≤ n + 8 → Q v H'
theorem ok__law_lots (T : Txt K mg) : FnOk P0 w K mg base CX0 2 (aF K "_law_lots") (dF K "_law_lots") ["_law_desk_here", "_law_many", "_law_most"] (sp__law_lots K) := by
  have G__law_pick := ok__law_pick (w := w) (base := base) T
  refine T.f__law_lots.ok sc__law_lots (fun vs H Q E h => by first | (obtain ⟨_, rfl, _⟩ := h; rfl) | (obtain ⟨_, _, rfl, _⟩ := h; rfl) | (obtain ⟨_, _, _, rfl, _⟩ := h; rfl) | (obtain ⟨_, _, _, _, rfl, _⟩ := h; rfl) | (obtain ⟨_, _, _, _, _, rfl, _⟩ := h; rfl) | (obtain ⟨_, _, _, _, _, _, rfl, _⟩ := h; rfl) | (obtain ⟨_, _, _, _, _, _, _, rfl, _⟩ := h; rfl) | (obtain ⟨_, _, _, _, _, _, _, _, rfl, _⟩ := h; rfl) | (obtain ⟨_, _, _, _, _, _, _, _, _, rfl, _⟩ := h; rfl) | (obtain ⟨_, _, _, _, _, _, _, _, _, _, rfl, _⟩ := h; rfl) | (obtain ⟨_, _, _, _, _, _, _, _, _, _, _, rfl, _⟩ := h; rfl) | (obtain ⟨_, _, _, _, _, _, _, _, _, _, _, _, rfl, _⟩ := h; rfl) | (obtain ⟨_, _, _, _, _, _, _, _, _, _, _, _, _, rfl, _⟩ := h; rfl) | (obtain ⟨_, _, _, _, _, _, _, _, _, _, _, _, _, _, rfl, _⟩ := h; rfl) | (obtain ⟨_, _, _, _, _, _, _, _, _, _, _, _, _, _, _, rfl, _⟩ := h; rfl) | (obtain ⟨_, _, _, _, _, _, _, _, _, _, _, _, _, _, _, _, rfl, _⟩ := h; rfl) | (obtain ⟨rfl, _⟩ := h; rfl)) (fun cdv A outer s H vs Q E hr h => ?_)
  obtain ⟨dk, ca, cs, n, m, mo, rfl, hd, hn, hm, hmo, q⟩ := h
  refine ⟨_, ((pss_cons (ps_set (i := 3) sc__law_lots.nd rfl (Or.inl rfl) (pe_lst pa_nil))
    (pss_cons (ps_for PassesOwn.never rfl (pi_range1 rfl T.z_range (pa_cons (pv 1) pa_nil)) (pg_name (i := 4) sc__law_lots.nd rfl (Or.inl rfl)) (pss_cons (ps_set (i := 5) sc__law_lots.nd rfl (Or.inl rfl) (pe_call G__law_pick (hr.mono (by omega)) rfl T.g__law_pick T.f__law_pick.kp T.b__law_pick .nil pass0 (pa_cons (pv 0) (pa_cons (pe_callB (call_min2 rfl) (by rfl) T.z_min bt_min (pa_cons (pe_op op_add (pe_callB (klen K rfl) (by rfl) T.z_len bt_len (pa_cons (pv 3) pa_nil)) pe_int) (pa_cons (pv 2) pa_nil))) pa_nil))))
    (pss_cons (ps_if (pt_cmpR op_eq (pv 5) (pe_callB (klen K rfl) (by rfl) T.z_len bt_len (pa_cons (pv 3) pa_nil)) (nomark _)) (pss_one (ps_expr (kapp K rfl (pv 3) (pe_lst pa_nil)))) pss_nil)
    (pss_one (ps_asg (pe_op op_cat (pe_ix (kix K rfl) (pv 3) (pv 5) (fun _ _ => rfl)) (pe_lst (pa_cons (pv 4) pa_nil))) (pg_sub (pv 3) (pv 5) set_list))))))
    (pss_one (ps_ret (pe_callTy (ktup K rfl) (by rfl) T.z_tuple bt_tuple (pa_cons (pe_lc (own := [("_law_lot", 6)]) rfl sc__law_lots.nd (kpi K rfl (pv 3)) (blkOk_by (by kernel_rfl)) (fun _ _ _ _ _ => (pg_name (i := 6) sc__law_lots.nd rfl (Or.inl rfl))) (fun _ _ _ _ _ => pts_nil) (fun _ _ _ _ _ => (pe_callTy (ktup K rfl) (by rfl) T.z_tuple bt_tuple (pa_cons (pv 6) pa_nil)))) pa_nil))))))), ?_⟩
  refine ⟨by decide, fun L hL => ?_⟩
  have hdk : H dk ≠ none := hd.some dk rfl
  have hLn := hd.ne hL
  refine ⟨_, rfl, _, rfl, by omega, by omega, ?_⟩
  refine for_range (n := ((m : Int)).toNat) (LotInv H dk ca L cs n m mo) ?_ ?_ ?_
  · refine ⟨⟨_, _, _, rfl⟩, .of (same_upd hL), ⟨n, hd.same (same_upd hL), by omega⟩, [], [], trivial, rfl, by show 0 ≤ mo; omega, upd_same, rfl, fun k v l h => by simp at h⟩
  · rintro j σ H1 hj ⟨⟨s4, s5, s6, rfl⟩, k1, ⟨n1, d1, hn1⟩, c, vs, hc, hcl, hcm, hL1, hvs⟩
    have hj8 : j < 8 := by omega
    have zj : (0 : Int) + (j : Nat) = ((j : Nat) : Int) := Int.zero_add _
    obtain ⟨M, hM, hM0, hM1, hM2⟩ : ∃ M : Nat, (if (mo : Int) < ((vs.length : Nat) : Int) + 1 then (mo : Int) else ((vs.length : Nat) : Int) + 1) = (M : Int) ∧ 0 < M ∧ M ≤ mo ∧ M ≤ vs.length + 1 := by
      by_cases h : (mo : Int) < ((vs.length : Nat) : Int) + 1
      · exact ⟨mo, if_pos h, by omega, by omega, by omega⟩
      · exact ⟨vs.length + 1, by rw [if_neg h]; omega, by omega, by omega, by omega⟩
    refine ⟨_, rfl, _, rfl, L, true, _, rfl, SqL.of hL1, _, _, rfl, rfl, _, rfl, _, _, rfl, dk, ca, cs, n1, M, ?_, d1, by omega, hM0, by omega, fun k n2 H2 hk k2 d2 hn2 => ?_⟩
    · show [V.ref dk, V.int (if (mo : Int) < ((vs.length : Nat) : Int) + 1 then (mo : Int) else ((vs.length : Nat) : Int) + 1)] = _
      rw [hM]
    have kL : some L ≠ some dk := fun z => hLn.1 (by injection z)
    have hL2 := k2 _ _ hL1 kL
    have hv2 := hvs.kp hdk k2
    have k12 := k1.trans k2
    have hkl : k ≤ (lotsOf c).length := by rw [← hvs.1]; omega
    have last : ∀ (D : Ends) (H3 : Hp) (vs' : List V) (M' : List (List Nat)) (l : List Nat), D.nx = LotInv H dk ca L cs n m mo (j + 1) → Kp (some dk) H H3 → Desk H3 dk ca cs n2 → H3 L = some (.lst vs') → LLs H H3 L vs' M' → M'[k]? = some l → l.length ≤ 8 → M'.set k (l ++ [j]) = lotsOf (c ++ [k]) → (lotsOf (c ++ [k])).length ≤ mo →
        (tAsg (tOp rCat (tOp (rIxA K) (tVar 3) (tVar 5)) (tLst (tCons (tVar 4) tNil))) (gSub (tVar 3) (tVar 5) rSetL)) D [some (V.ref dk), some (.int ((m : Nat) : Int)), some (.int ((mo : Nat) : Int)), some (.ref L), some (.int ((j : Nat) : Int)), some (.int ((k : Nat) : Int)), s6] H3 := by
      intro D H3 vs' M' l hD k3 d3 hL3 hv3 hMk hl8 hset hlen
      have hkv : k < vs'.length := by rw [hv3.1]; exact (List.getElem?_eq_some_iff.mp hMk).1
      obtain ⟨a, ea, a0, aL, ha⟩ := hv3.2 k vs'[k] l (List.getElem?_eq_getElem hkv) hMk
      refine ⟨_, rfl, _, rfl, L, true, vs', (k : Int), vs'[k], rfl, rfl, SqL.of hL3, atI_nat (List.getElem?_eq_getElem hkv), _, rfl, by show 1 ≤ sizeLine; decide, fun p hp => ?_⟩
      refine ⟨a, p, _, _, ea, rfl, (same_upd hp) _ _ ha, upd_same, ?_, fun p2 hp2 => ?_⟩
      · rw [List.length_map]
        exact Nat.le_trans (show _ ≤ 9 by simp; omega) (by decide)
      have e2 : Same H3 (upd (upd H3 p (.lst [.int ((j : Nat) : Int)])) p2 (.lst ((l.map fun (x : Nat) => V.int (x : Int)) ++ [.int ((j : Nat) : Int)]))) := Same.snoc (same_upd hp) hp2
      have hp20 : H p2 = none := k3.none_of (by
        cases e : H3 p2 with
        | none => rfl
        | some u => rw [(same_upd hp) _ _ e] at hp2; cases hp2) fun x z => by cases z; obtain ⟨_, _, q1, _⟩ := d3; rw [q1]; simp
      have p2L : p2 ≠ L := fun z => by
        subst z
        rw [(same_upd hp) _ _ hL3] at hp2
        cases hp2
      have g2 : (upd (upd H3 p (.lst [.int ((j : Nat) : Int)])) p2 (.lst ((l.map fun (x : Nat) => V.int (x : Int)) ++ [.int ((j : Nat) : Int)]))) p2 = some (.lst ((l ++ [j]).map fun (x : Nat) => V.int (x : Int))) := by
        rw [upd_same, List.map_append]
        rfl
      have hv4 : LLs H (upd (upd H3 p (.lst [.int ((j : Nat) : Int)])) p2 (.lst ((l.map fun (x : Nat) => V.int (x : Int)) ++ [.int ((j : Nat) : Int)]))) L vs' M' := ⟨hv3.1, fun u v l' h1 h2 => by
        obtain ⟨b, e, b0, bL, hb⟩ := hv3.2 u v l' h1 h2
        exact ⟨b, e, b0, bL, e2 _ _ hb⟩⟩
      refine ⟨_, rfl, _, rfl, L, _, _, k, rfl, rfl, e2 _ _ hL3, ixN_nat hkv, ?_⟩
      rw [hD]
      refine ⟨⟨_, _, _, rfl⟩, (k3.trans (.of e2)).mut hL, ⟨n2, (d3.same e2).upd hLn.1 hLn.2, by omega⟩, c ++ [k], _, hc.snoc hkl, by rw [List.length_append, hcl]; rfl, hlen, upd_same, ?_⟩
      rw [← hset]
      exact (hv4.set hp20 p2L g2).put
    refine ⟨_, rfl, _, rfl, L, true, _, rfl, SqL.of hL2, rfl, _, rfl, ?_⟩
    rw [zj]
    have hsn : lotsOf (c ++ [k]) = addLot (lotsOf c) j k := by rw [lotsOf_snoc, hcl]
    refine ite2 (fun ce => ?_) fun ce => ?_
    · have ek : k = (lotsOf c).length := by
        have := of_decide_eq_true ce
        injection this with this
        have := hvs.1
        omega
      refine ⟨_, rfl, .inl ⟨rfl, _, SqL.of hL2⟩, by decide, fun e he => ?_⟩
      have hLe : L ≠ e := ne_of_none hL2 he
      have heH : H e = none := k12.none_of he fun x z => by cases z; obtain ⟨_, _, q1, _⟩ := d2; rw [q1]; simp
      have q1 : upd H2 e (.lst []) L = some (.lst vs) := (same_upd he) _ _ hL2
      refine ⟨L, _, _, rfl, rfl, q1, by rw [hvs.1]; exact Nat.lt_of_le_of_lt (show _ ≤ 6 by omega) (by decide), ?_⟩
      have hv5 : LLs H (upd H2 e (.lst [])) L vs (lotsOf c) := ⟨hv2.1, fun u v l' h1 h2 => by
        obtain ⟨b, e', b0, bL, hb⟩ := hv2.2 u v l' h1 h2
        exact ⟨b, e', b0, bL, (same_upd he) _ _ hb⟩⟩
      have hv6 := (hv5.snoc (l := []) heH (fun z => hLe z.symm) upd_same).put (o := .lst (vs ++ [.ref e]))
      refine last _ _ _ _ [] rfl ((k12.trans (.of (same_upd he))).mut hL) ((d2.same (same_upd he)).upd hLn.1 hLn.2) upd_same hv6 ?_ (by simp) ?_ ?_
      · rw [List.getElem?_append_right (by omega), ek]
        simp
      · rw [hsn, addLot, if_pos ek, ek, List.set_append_right _ _ (Nat.le_refl _)]
        simp
      · rw [hsn, addLot_length, if_pos ek]
        omega
    · have ek : k < (lotsOf c).length := by
        have h1 : ¬ V.int (k : Int) = V.int ((vs.length : Nat) : Int) := fun z => ce (decide_eq_true z)
        have h2 : k ≠ vs.length := fun z => h1 (by rw [z])
        have := hvs.1
        omega
      refine last _ _ _ _ (lotsOf c)[k] rfl k12 d2 hL2 hv2 (List.getElem?_eq_getElem ek) ?_ ?_ ?_
      · have := lot_len hc (List.getElem?_eq_getElem ek)
        omega
      · rw [hsn, addLot, if_neg (by omega), modify_set _ (List.getElem?_eq_getElem ek)]
      · rw [hsn, addLot_length, if_neg (by omega)]
        exact hcm
  · rintro σ H1 ⟨⟨s4, s5, s6, rfl⟩, k1, ⟨n1, d1, hn1⟩, c, vs, hc, hcl, hcm, hL1, hvs⟩
    have hcl' : c.length = m := by omega
    have hz : vs.length < sizeLine := by rw [hvs.1]; exact Nat.lt_of_le_of_lt (show _ ≤ 6 by omega) (by decide)
    have sq : SqB true K H1 L vs := SqL.of hL1
    refine ⟨_, rfl, L, true, rfl, ⟨_, sq⟩, fun D hD => lc_pure hD sq hz (fun _ => rfl) (fun i y H' => ∀ z, (lotsOf c)[i]? = some z → Td H' y (lotD z)) (fun i y H1 H2 e h z hz => (h z hz).im e) ?_ ?_⟩
    · intro i v H2 hx e2 Qe hq
      have hi : i < (lotsOf c).length := by rw [← hvs.1]; exact (List.getElem?_eq_some_iff.mp hx).1
      obtain ⟨a, rfl, a0, aL, ha⟩ := hvs.2 i v _ hx (List.getElem?_eq_getElem hi)
      refine ⟨_, rfl, a, true, _, rfl, SqL.of (e2 _ _ ha), fun t H' e ht n1 n2 => hq _ _ e fun z hz => ?_⟩
      obtain ⟨z1, z2⟩ := n1 rfl
      subst z2
      rw [List.getElem?_eq_getElem hi] at hz
      cases hz
      refine .tup upd_same (by simp) fun u x d hx hd => ?_
      rw [List.getElem?_map] at hx hd
      cases e5 : ((lotsOf c)[i])[u]? with
      | none => rw [e5] at hx; cases hx
      | some y =>
        rw [e5] at hx hd
        cases hx
        cases hd
        exact .int _
    · intro ys H2 e2 hD2 hl2 hP
      refine ⟨_, true, _, rfl, SqL.of hD2, fun t H' e ht n1' _ => ?_⟩
      obtain ⟨z1, z2⟩ := n1' rfl
      subst z2
      have ee : Same H1 (upd H2 t (.tup ys)) := Same.snoc e2 z1
      refine q c _ n1 _ hc hcl' ?_ hcm (td_list (f := lotD) (hl2.trans hvs.1) hP z1) (k1.trans (.of ee)) (d1.same ee) (by omega)
      obtain ⟨x, hx⟩ : ∃ x, c[0]? = some x := ⟨_, List.getElem?_eq_getElem (by omega)⟩
      have := lot_lt hc hx
      omega
/-! ### _law_rows -/
def sumL (r : List (List Nm)) : Nat := (r.map List.length).sum
def RowInv (K : PySem.W.Frag) (H : Hp) (dk ca L : Addr) (cs : List Int) (n m : Nat) (j : Nat) (σ : L2.St) (H' : Hp) : Prop :=
  ∃ (r : List (List Nm)) (vs : List V), (∃ s4 s5 s6, σ = [some (V.ref dk), some (.int ((m : Nat) : Int)), some (.ref L), some (.int ((8 - m - (sumL r - j) : Nat) : Int)), s4, s5, s6]) ∧ Kp (some dk) H H' ∧ (∃ n', Desk H' dk ca cs n' ∧ n' ≤ n + 4 * j) ∧
    r.length = j ∧ j ≤ sumL r ∧ sumL r - j ≤ 8 - m ∧ (∀ x ∈ r, (1 ≤ x.length ∧ x.length ≤ 3) ∧ ∀ y ∈ x, wtOk y) ∧ H' L = some (.lst vs) ∧ vs.length = r.length ∧ ∀ (k : Nat) v x, vs[k]? = some v → r[k]? = some x → Td H' v (.tuple (x.map Nm.data))
def sp__law_rows (K : PySem.W.Frag) : Sp := fun vs H Q _ => ∃ dk ca cs n m, vs = [.ref dk, .int ((m : Nat) : Int)] ∧ Desk H dk ca cs n ∧ n + 32 < 2 ^ 20 ∧ (1 ≤ m ∧ m ≤ 8) ∧
  ∀ (r : List (List Nm)) v n' H', r.length = m → sumL r ≤ 8 → (∀ x ∈ r, (1 ≤ x.length ∧ x.length ≤ 3) ∧ ∀ y ∈ x, wtOk y) → Td H' v (rowsD r) → Kp (some dk) H H' → Desk H' dk ca cs n' → n' ≤ n + 32 → Q v H'
theorem ok__law_rows (T : Txt K mg) : FnOk P0 w K mg base CX0 4 (aF K "_law_rows") (dF K "_law_rows") ["_law_desk_here", "_law_many"] (sp__law_rows K) := by
  have G__law_pick := ok__law_pick (w := w) (base := base) T
  have G__law_weight := ok__law_weight (w := w) (base := base) T
  refine T.f__law_rows.ok sc__law_rows (fun vs H Q E h => by first | (obtain ⟨_, rfl, _⟩ := h; rfl) | (obtain ⟨_, _, rfl, _⟩ := h; rfl) | (obtain ⟨_, _, _, rfl, _⟩ := h; rfl) | (obtain ⟨_, _, _, _, rfl, _⟩ := h; rfl) | (obtain ⟨_, _, _, _, _, rfl, _⟩ := h; rfl) | (obtain ⟨_, _, _, _, _, _, rfl, _⟩ := h; rfl) | (obtain ⟨_, _, _, _, _, _, _, rfl, _⟩ := h; rfl) | (obtain ⟨_, _, _, _, _, _, _, _, rfl, _⟩ := h; rfl) | (obtain ⟨_, _, _, _, _, _, _, _, _, rfl, _⟩ := h; rfl) | (obtain ⟨_, _, _, _, _, _, _, _, _, _, rfl, _⟩ := h; rfl) | (obtain ⟨_, _, _, _, _, _, _, _, _, _, _, rfl, _⟩ := h; rfl) | (obtain ⟨_, _, _, _, _, _, _, _, _, _, _, _, rfl, _⟩ := h; rfl) | (obtain ⟨_, _, _, _, _, _, _, _, _, _, _, _, _, rfl, _⟩ := h; rfl) | (obtain ⟨_, _, _, _, _, _, _, _, _, _, _, _, _, _, rfl, _⟩ := h; rfl) | (obtain ⟨_, _, _, _, _, _, _, _, _, _, _, _, _, _, _, rfl, _⟩ := h; rfl) | (obtain ⟨_, _, _, _, _, _, _, _, _, _, _, _, _, _, _, _, rfl, _⟩ := h; rfl) | (obtain ⟨rfl, _⟩ := h; rfl)) (fun cdv A outer s H vs Q E hr h => ?_)
  obtain ⟨dk, ca, cs, n, m, rfl, hd, hn, hm, q⟩ := h
  refine ⟨_, ((pss_cons (ps_par (i := 2) (j := 3) rfl sc__law_rows.nd rfl rfl (by decide) rfl rfl (pa_cons (pe_lst pa_nil) (pa_cons (pe_op op_sub pe_int (pv 1)) pa_nil)) (by rfl))
    (pss_cons (ps_for PassesOwn.never rfl (pi_range1 rfl T.z_range (pa_cons (pv 1) pa_nil)) (pg_name (i := 4) sc__law_rows.nd rfl (Or.inl rfl)) (pss_cons (ps_set (i := 5) sc__law_rows.nd rfl (Or.inl rfl) (pe_call G__law_pick (hr.mono (by omega)) rfl T.g__law_pick T.f__law_pick.kp T.b__law_pick .nil pass0 (pa_cons (pv 0) (pa_cons (pe_op op_add (pe_callB (call_min2 rfl) (by rfl) T.z_min bt_min (pa_cons (pv 3) (pa_cons pe_int pa_nil))) pe_int) pa_nil))))
    (pss_cons (ps_expr (kapp K rfl (pv 2) (pe_callTy (ktup K rfl) (by rfl) T.z_tuple bt_tuple (pa_cons (pe_lc (own := [("_law_turn", 6)]) rfl sc__law_rows.nd (pi_range1 rfl T.z_range (pa_cons (pe_op op_add pe_int (pv 5)) pa_nil)) (blkOk_by (by kernel_rfl)) (fun _ _ _ _ _ => (pg_name (i := 6) sc__law_rows.nd rfl (Or.inl rfl))) (fun _ _ _ _ _ => pts_nil) (fun _ _ _ _ _ => (pe_call G__law_weight (hr.mono (by omega)) rfl T.g__law_weight T.f__law_weight.kp T.b__law_weight .nil pass0 (pa_cons (pv 0) pa_nil)))) pa_nil))))
    (pss_one (ps_set (i := 3) sc__law_rows.nd rfl (Or.inl rfl) (pe_op op_sub (pv 3) (pv 5)))))))
    (pss_one (ps_ret (pe_callTy (ktup K rfl) (by rfl) T.z_tuple bt_tuple (pa_cons (pv 2) pa_nil))))))), ?_⟩
  have hdk : H dk ≠ none := hd.some dk rfl
  refine ⟨by decide, fun L hL => ?_⟩
  have hLn := hd.ne hL
  refine ⟨_, rfl, _, _, rfl, rfl, _, _, rfl, ?_⟩
  refine ⟨_, rfl, _, rfl, by omega, by omega, ?_⟩
  refine for_range (n := ((m : Int)).toNat) (RowInv K H dk ca L cs n m) ?_ ?_ ?_
  · have e : (8 : Int) - (m : Int) = ((8 - m - (sumL [] - 0) : Nat) : Int) := by
      simp [sumL]
      omega
    refine ⟨[], [], ⟨_, _, _, by rw [← e]; rfl⟩, .of (same_upd hL), ⟨n, hd.same (same_upd hL), by omega⟩, rfl, Nat.zero_le _, by simp [sumL], fun x h => by simp at h, upd_same, rfl, fun k v x h => by simp at h⟩
  · rintro j σ H1 hj ⟨r, vs, ⟨s4, s5, s6, rfl⟩, k1, ⟨n1, d1, hn1⟩, hrl, hs1, hs2, hr, hL1, hvl, hvs⟩
    have hj8 : j < 8 := by omega
    obtain ⟨lf, hlf⟩ : ∃ lf, lf = 8 - m - (sumL r - j) := ⟨_, rfl⟩
    rw [← hlf]
    obtain ⟨M, hM, hM1, hM2⟩ : ∃ M : Nat, (if (2 : Int) < (lf : Int) then (2 : Int) else (lf : Int)) = (M : Int) ∧ M ≤ 2 ∧ M ≤ lf := by
      by_cases h : (2 : Int) < (lf : Int)
      · exact ⟨2, if_pos h, by omega, by omega⟩
      · exact ⟨lf, if_neg h, by omega, by omega⟩
    refine ⟨_, rfl, _, rfl, _, _, rfl, _, _, rfl, rfl, dk, ca, cs, n1, M + 1, ?_, d1, by omega, by omega, by omega, fun k n2 H2 hk k2 d2 hn2 => ?_⟩
    · show [V.ref dk, V.int ((if (2 : Int) < (lf : Int) then (2 : Int) else (lf : Int)) + 1)] = _
      rw [hM]
      rfl
    have kL : some L ≠ some dk := fun z => hLn.1 (by injection z)
    have hL2 := k2 _ _ hL1 kL
    have k12 := k1.trans k2
    have eN : ((1 : Int) + (k : Nat)).toNat = 1 + k := by omega
    refine ⟨_, rfl, .inl ⟨rfl, _, SqL.of hL2⟩, _, rfl, _, _, rfl, rfl, _, rfl, by omega, by omega, fun D hD => lc_desk (cs := cs) walk_rgA 1 n2 hD d2 (by rw [eN]; exact Nat.lt_of_le_of_lt (show _ ≤ 3 by omega) (by decide)) (fun _ _ => trivial) (fun _ => rfl) (fun i y H' => ∃ x, wtOk x ∧ Td H' y x.data) ?_ ?_ ?_⟩
    · rintro i y H3 H4 ys u h1 h2 hl kk ⟨x, hx, p⟩
      exact ⟨x, hx, td_mono h2 hl kk p⟩
    · intro i x n3 H3 hi hx k3 d3 hn3 _ Qe hq
      refine ⟨_, rfl, dk, ca, cs, n3, rfl, d3, by omega, fun y v n4 H4 hy ty k4 d4 hn4 => hq v n4 H4 k4 d4 hn4 ⟨y, hy, ty⟩⟩
    · intro ys n3 H3 k3 d3 hn3 hD3 hl3 hP
      rw [eN] at hn3 hl3
      obtain ⟨x, hxl, hx⟩ : ∃ x : List Nm, x.length = ys.length ∧ (∀ y ∈ x, wtOk y) ∧ ∀ (i : Nat) v z, ys[i]? = some v → x[i]? = some z → Td H3 v z.data := by
        clear hl3 hD3
        induction ys with
        | nil => exact ⟨[], rfl, fun y h => by simp at h, fun i v z h => by simp at h⟩
        | cons y ys ih =>
          obtain ⟨z, hz, tz⟩ := hP 0 y rfl
          obtain ⟨x, h1, h2, h3⟩ := ih fun i v hv => hP (i + 1) v (by simpa using hv)
          refine ⟨z :: x, by rw [List.length_cons, List.length_cons, h1], fun u hu => ?_, fun i v u h4 h5 => ?_⟩
          · rcases List.mem_cons.mp hu with e | e
            · rw [e]; exact hz
            · exact h2 u e
          · cases i with
            | zero => cases h4; cases h5; exact tz
            | succ i => exact h3 i v u (by simpa using h4) (by simpa using h5)
      refine ⟨D, true, _, rfl, SqL.of hD3, fun t H' e ht n1' _ => ?_⟩
      obtain ⟨z1, z2⟩ := n1' rfl
      subst z2
      have hL3 := k3 _ _ hL2 kL
      have et : Same H3 (upd H3 t (.tup ys)) := same_upd z1
      have hL4 := et _ _ hL3
      refine ⟨L, _, _, rfl, rfl, hL4, by rw [hvl, hrl]; exact Nat.lt_of_le_of_lt (show _ ≤ 8 by omega) (by decide), ?_⟩
      refine ⟨_, rfl, _, rfl, _, _, rfl, rfl, ?_⟩
      have hsum : sumL (r ++ [x]) = sumL r + (1 + k) := by
        unfold sumL
        rw [List.map_append, List.sum_append]
        simp
        omega
      have elf : ((lf : Int) - (k : Int)) = ((8 - m - (sumL (r ++ [x]) - (j + 1)) : Nat) : Int) := by
        rw [hsum]
        omega
      have kk := (k12.trans k3).trans (.of et)
      have im13 : Im H1 H3 := (k2.trans k3).im d1.loose
      have imL : Im (upd H3 t (.tup ys)) (upd (upd H3 t (.tup ys)) L (.lst (vs ++ [.ref t]))) := im_upd (Loose.lst hL4)
      refine ⟨r ++ [x], vs ++ [.ref t], ⟨_, _, _, by rw [← elf]; rfl⟩, kk.mut hL, ⟨n3, (d3.same et).upd hLn.1 hLn.2, by omega⟩, by rw [List.length_append, hrl]; rfl, by omega, by omega, fun y hy => ?_, upd_same, by rw [List.length_append, List.length_append, hvl]; rfl, fun u v y h1 h2 => ?_⟩
      · rcases List.mem_append.mp hy with e | e
        · exact hr y e
        · rw [List.mem_singleton.mp e]
          exact ⟨⟨by omega, by omega⟩, hx.1⟩
      · by_cases hu : u < vs.length
        · rw [List.getElem?_append_left hu] at h1
          rw [List.getElem?_append_left (by rw [← hvl]; exact hu)] at h2
          exact (((hvs u v y h1 h2).im im13).same et).im imL
        · have hu2 : u = vs.length := by
            have := (List.getElem?_eq_some_iff.mp h1).1
            rw [List.length_append, List.length_singleton] at this
            omega
          subst hu2
          rw [List.getElem?_append_right (Nat.le_refl _)] at h1
          rw [List.getElem?_append_right (by rw [hvl]; exact Nat.le_refl _), hvl] at h2
          have e1 : V.ref t = v := by simpa using h1
          have e2 : x = y := by simpa using h2
          subst e1 e2
          refine (Td.tup upd_same (by rw [List.length_map, hxl]) fun i v d h5 h6 => ?_ : Td (upd H3 t (.tup ys)) (.ref t) (.tuple (x.map Nm.data))).im imL
          rw [List.getElem?_map] at h6
          cases e7 : x[i]? with
          | none => rw [e7] at h6; cases h6
          | some z =>
            rw [e7] at h6
            cases h6
            exact (hx.2 i v z h5 e7).same et
  · rintro σ H1 ⟨r, vs, ⟨s4, s5, s6, rfl⟩, k1, ⟨n1, d1, hn1⟩, hrl, hs1, hs2, hr, hL1, hvl, hvs⟩
    have em : ((m : Int)).toNat = m := by omega
    rw [em] at hrl hs1 hs2 hn1
    refine ⟨_, rfl, L, true, _, rfl, SqL.of hL1, fun t H' e ht n1' _ => ?_⟩
    obtain ⟨z1, z2⟩ := n1' rfl
    subst z2
    have et : Same H1 (upd H1 t (.tup vs)) := same_upd z1
    refine q r _ n1 _ hrl (by omega) hr (td_list (f := fun x : List Nm => PyData.tuple (x.map Nm.data)) hvl (fun i y hy z hz => hvs i y z hy hz) z1) (k1.trans (.of et)) (d1.same et) (by omega)
end
end PL
end
section
set_option maxHeartbeats 4000000
/-! D25: trees drawn. -/
namespace PL
open PySem PySem.Spec PyProof.Rows L2
section
variable {w : World} {K : PySem.W.Frag} {mg : Str → Option Value} {base : Heap}
def costT : Nat → Nat
  | 0 => 150
  | d + 1 => 150 + 6 * costT d
def mostT : Nat → Nat
  | 0 => 1
  | 1 => 7
  | d + 2 => 1 + 3 * mostT (d + 1)
/-- what a drawn tree is -/
def Drawn (d m i : Nat) (t : Tr) : Prop := WF t ∧ t.m = m ∧ t.i = i ∧ t.lev ≤ d + 1 ∧ t.many ≤ mostT d
def sp__law_tree (K : PySem.W.Frag) (d : Nat) : Sp := fun vs H Q _ => ∃ dk ca cs n m i, vs = [.ref dk, .int ((d : Nat) : Int), .int ((m : Nat) : Int), .int ((i : Nat) : Int)] ∧ Desk H dk ca cs n ∧ n + costT d < 2 ^ 20 ∧ (1 ≤ m ∧ m ≤ 8) ∧ (1 ≤ i ∧ i ≤ 8) ∧
  ∀ t v n' H', Drawn d m i t → Td H' v t.data → Kp (some dk) H H' → Desk H' dk ca cs n' → n' ≤ n + costT d → Q v H'
theorem choose_list {α : Type} {P : α → Prop} {R : V → α → Prop} : ∀ ys : List V, (∀ (i : Nat) y, ys[i]? = some y → ∃ x, P x ∧ R y x) → ∃ xs : List α, xs.length = ys.length ∧ (∀ x ∈ xs, P x) ∧ ∀ (i : Nat) y x, ys[i]? = some y → xs[i]? = some x → R y x
  | [], _ => ⟨[], rfl, fun x h => by simp at h, fun i y x h => by simp at h⟩
  | y :: ys, hP => by
    obtain ⟨z, hz, tz⟩ := hP 0 y rfl
    obtain ⟨x, h1, h2, h3⟩ := choose_list ys fun i v hv => hP (i + 1) v (by simpa using hv)
    refine ⟨z :: x, by rw [List.length_cons, List.length_cons, h1], fun u hu => ?_, fun i v u h4 h5 => ?_⟩
    · rcases List.mem_cons.mp hu with e | e
      · rw [e]; exact hz
      · exact h2 u e
    · cases i with
      | zero => cases h4; cases h5; exact tz
      | succ i => exact h3 i v u (by simpa using h4) (by simpa using h5)
theorem many_le {M : Nat} : ∀ {ts : List Tr}, (∀ t ∈ ts, t.many ≤ M) → manyL ts ≤ ts.length * M
  | [], _ => by rw [manyL]; exact Nat.zero_le _
  | t :: ts, h => by
    have h1 := many_le (ts := ts) fun x hx => h x (List.mem_cons_of_mem _ hx)
    have h2 := h t (List.mem_cons_self ..)
    rw [manyL, List.length_cons, Nat.succ_mul]
    omega
theorem mostT_3 : ∀ d, 1 + 3 * mostT d ≤ mostT (d + 1)
  | 0 => by decide
  | d + 1 => Nat.le_refl _
def moT (d : Nat) : Nat := if d = 0 then 6 else 3
theorem moT_le (d : Nat) : 1 ≤ moT d ∧ moT d ≤ 6 := by
  unfold moT
  split <;> omega
theorem mostT_mo : ∀ d, 1 + moT d * mostT d ≤ mostT (d + 1)
  | 0 => by decide
  | d + 1 => by
    show 1 + 3 * mostT (d + 1) ≤ mostT (d + 2)
    exact Nat.le_refl _
theorem ev_mo {d' : Nat} {σ : L2.St} {H : Hp} {R : VK} (hσ : σ[1]? = some (some (.int ((d' + 1 : Nat) : Int)))) (h : R (.int ((moT d' : Nat) : Int)) H) : (tIf (tTest (tOp rEq (tVar 1) (tC (V.int 1)))) (tC (V.int 6)) (tC (V.int 3))) σ H R := by
  refine ⟨_, hσ, rfl, _, rfl, ?_⟩
  by_cases e : d' = 0
  · subst e
    exact itP (by decide) h
  · refine itN (fun z => ?_) ?_
    · have := of_decide_eq_true z
      injection this with this
      omega
    · unfold moT at h
      rw [if_neg e] at h
      exact h
theorem sumL_pos {r : List (List Nm)} (h : 1 ≤ r.length) (h1 : ∀ x ∈ r, 1 ≤ x.length) : 1 ≤ sumL r := by
  cases r with
  | nil => simp at h
  | cons x r =>
    have := h1 x (List.mem_cons_self ..)
    unfold sumL
    simp only [List.map_cons, List.sum_cons]
    omega
theorem td_nil {H : Hp} {p : Addr} (h : H p = some (.tup [])) : Td H (.ref p) (.tuple []) := .tup h rfl fun k x d h1 => by simp at h1
theorem td_node {H : Hp} {p : Addr} {w : Wd} {t : Told} {ps : List Tr} {m i : Nat} {v u : V} (h : H p = some (.tup [.str w.s, v, u, .int ((m : Nat) : Int), .int ((i : Nat) : Int)])) (hv : Td H v t.data) (hu : Td H u (.tuple (dataL ps))) : Td H (.ref p) (Tr.node w t ps m i).data := by
  rw [Tr.data]
  refine .tup h rfl fun k x d h1 h2 => ?_
  match k, h1, h2 with
  | 0, h1, h2 => cases h1; cases h2; exact .str _
  | 1, h1, h2 => cases h1; cases h2; exact hv
  | 2, h1, h2 => cases h1; cases h2; exact hu
  | 3, h1, h2 => cases h1; cases h2; exact .int _
  | 4, h1, h2 => cases h1; cases h2; exact .int _
  | k + 5, h1, h2 => simp at h1
theorem costT_ge : ∀ d, 150 ≤ costT d
  | 0 => Nat.le_refl _
  | d + 1 => by show 150 ≤ 150 + 6 * costT d; omega
theorem mostT_ge : ∀ d, 1 + 0 ≤ mostT d
  | 0 => Nat.le_refl _
  | 1 => by decide
  | d + 2 => by show 1 + 0 ≤ 1 + 3 * mostT (d + 1); omega
theorem tree_body (T : Txt K mg) (d : Nat) (spR : Sp) (G__law_tree : FnOk P0 w K mg base CX0 (5 + d) (aF K "_law_tree") (dF K "_law_tree") ["_law_desk_here", "_law_deep", "_law_mine", "_law_its"] spR) (hR : ∀ d', d = d' + 1 → spR = sp__law_tree K d') :
    FnOk P0 w K mg base CX0 (6 + d) (aF K "_law_tree") (dF K "_law_tree") ["_law_desk_here", "_law_deep", "_law_mine", "_law_its"] (sp__law_tree K d) := by
  have G__law_one_of := ok__law_one_of (w := w) (base := base) T
  have G__law_pick := ok__law_pick (w := w) (base := base) T
  have G__law_number := ok__law_number (w := w) (base := base) T
  have G__law_weight := ok__law_weight (w := w) (base := base) T
  have G__law_lots := ok__law_lots (w := w) (base := base) T
  have G__law_rows := ok__law_rows (w := w) (base := base) T
  have hlev : 6 + d = 5 + d + 1 := by omega
  rw [hlev]
  refine T.f__law_tree.ok sc__law_tree (fun vs H Q E h => by (obtain ⟨_, _, _, _, _, _, rfl, _⟩ := h; rfl)) (fun cdv A outer s H vs Q E hr h => ?_)
  obtain ⟨dk, ca, cs, n, m, i, rfl, hd, hn, hm, hi, q⟩ := h
  refine ⟨_, ((pss_cons (ps_set (i := 4) sc__law_tree.nd rfl (Or.inl rfl) (pe_call G__law_one_of (hr.mono (by omega)) rfl T.g__law_one_of T.f__law_one_of.kp T.b__law_one_of .nil pass0 (pa_cons (pv 0) (pa_cons (pe_lst (pa_cons pe_str (pa_cons pe_str (pa_cons pe_str (pa_cons pe_str (pa_cons pe_str (pa_cons pe_str (pa_cons pe_str pa_nil)))))))) pa_nil))))
    (pss_cons (ps_if (PW.pt (pw_or (pt_cmpR op_eq (pv 1) pe_int (nomark _)) (pw_or1 (pt_cmpR op_eq (pv 4) pe_str (nomark _))))) (pss_one (ps_ret (pe_call G__law_one_of (hr.mono (by omega)) rfl T.g__law_one_of T.f__law_one_of.kp T.b__law_one_of .nil pass0 (pa_cons (pv 0) (pa_cons (pe_lst (pa_cons (pe_tup (pa_cons pe_str (pa_cons (pe_tup pa_nil) (pa_cons (pe_tup pa_nil) (pa_cons (pv 2) (pa_cons (pv 3) pa_nil)))))) (pa_cons (pe_tup (pa_cons pe_str (pa_cons (pe_callTy (ktup K rfl) (by rfl) T.z_tuple bt_tuple (pa_cons (pe_lc (own := [("_law_i", 6)]) rfl sc__law_tree.nd (pi_range1 rfl T.z_range (pa_cons (pv 2) pa_nil)) (blkOk_by (by kernel_rfl)) (fun _ _ _ _ _ => (pg_name (i := 6) sc__law_tree.nd rfl (Or.inl rfl))) (fun _ _ _ _ _ => pts_nil) (fun _ _ _ _ _ => (pe_callTy (ktup K rfl) (by rfl) T.z_tuple bt_tuple (pa_cons (pe_lc (own := [("_law_j", 5)]) rfl sc__law_tree.nd (pi_range1 rfl T.z_range (pa_cons (pv 3) pa_nil)) (blkOk_by (by kernel_rfl)) (fun _ _ _ _ _ => (pg_name (i := 5) sc__law_tree.nd rfl (Or.inl rfl))) (fun _ _ _ _ _ => pts_nil) (fun _ _ _ _ _ => (pe_call G__law_number (hr.mono (by omega)) rfl T.g__law_number T.f__law_number.kp T.b__law_number .nil pass0 (pa_cons (pv 0) (pa_cons pe_int pa_nil))))) pa_nil)))) pa_nil)) (pa_cons (pe_tup pa_nil) (pa_cons (pv 2) (pa_cons (pv 3) pa_nil)))))) pa_nil))) pa_nil))))) pss_nil)
    (pss_cons (ps_if (pt_cmpR (kin K rfl) (pv 4) (pe_tup (pa_cons pe_str (pa_cons pe_str pa_nil))) rfl) (pss_cons (ps_setLc (i := 7) (own := [("_law_turn", 8)]) rfl sc__law_tree.nd rfl rfl (sw_true rfl rfl rfl (by decide +kernel)) (pi_range1 rfl T.z_range (pa_cons (pe_call G__law_one_of (hr.mono (by omega)) rfl T.g__law_one_of T.f__law_one_of.kp T.b__law_one_of .nil pass0 (pa_cons (pv 0) (pa_cons (pe_lst (pa_cons pe_int (pa_cons pe_int (pa_cons pe_int (pa_cons pe_int pa_nil))))) pa_nil))) pa_nil)) (blkOk_by (by kernel_rfl)) (fun _ _ _ _ _ => (pg_name (i := 8) sc__law_tree.nd rfl (Or.inl rfl))) (fun _ _ _ _ _ => pts_nil) (fun _ _ _ _ _ => (pe_call G__law_tree (hr.mono (by omega)) rfl T.g__law_tree T.f__law_tree.kp T.b__law_tree .nil pass0 (pa_cons (pv 0) (pa_cons (pe_op op_sub (pv 1) pe_int) (pa_cons (pv 2) (pa_cons (pv 3) pa_nil)))))))
    (pss_cons (ps_if (pt_cmpR op_eq (pv 4) pe_str (nomark _)) (pss_one (ps_ret (pe_tup (pa_cons pe_str (pa_cons (pe_callTy (ktup K rfl) (by rfl) T.z_tuple bt_tuple (pa_cons (pe_lc (own := [("_law_part_here", 9)]) rfl sc__law_tree.nd (kpi K rfl (pv 7)) (blkOk_by (by kernel_rfl)) (fun _ _ _ _ _ => (pg_name (i := 9) sc__law_tree.nd rfl (Or.inl rfl))) (fun _ _ _ _ _ => pts_nil) (fun _ _ _ _ _ => (pe_call G__law_weight (hr.mono (by omega)) rfl T.g__law_weight T.f__law_weight.kp T.b__law_weight .nil pass0 (pa_cons (pv 0) pa_nil)))) pa_nil)) (pa_cons (pe_callTy (ktup K rfl) (by rfl) T.z_tuple bt_tuple (pa_cons (pv 7) pa_nil)) (pa_cons (pv 2) (pa_cons (pv 3) pa_nil)))))))) pss_nil)
    (pss_one (ps_ret (pe_tup (pa_cons (pe_call G__law_one_of (hr.mono (by omega)) rfl T.g__law_one_of T.f__law_one_of.kp T.b__law_one_of .nil pass0 (pa_cons (pv 0) (pa_cons (pe_lst (pa_cons pe_str (pa_cons pe_str pa_nil))) pa_nil))) (pa_cons (pe_tup pa_nil) (pa_cons (pe_callTy (ktup K rfl) (by rfl) T.z_tuple bt_tuple (pa_cons (pv 7) pa_nil)) (pa_cons (pv 2) (pa_cons (pv 3) pa_nil)))))))))) pss_nil)
    (pss_cons (ps_set (i := 10) sc__law_tree.nd rfl (Or.inl rfl) (pe_cmpR op_eq (pe_call G__law_pick (hr.mono (by omega)) rfl T.g__law_pick T.f__law_pick.kp T.b__law_pick .nil pass0 (pa_cons (pv 0) (pa_cons pe_int pa_nil))) pe_int (nomark _)))
    (pss_cons (ps_asg (pe_ifExp (pt_val (pv 10)) (pe_tup (pa_cons (pv 2) (pa_cons pe_str pa_nil))) (pe_tup (pa_cons (pv 3) (pa_cons pe_str pa_nil)))) (kgtup K 2 rfl rfl (pgs_cons (pg_name (i := 11) sc__law_tree.nd rfl (Or.inl rfl)) (pgs_cons (pg_name (i := 12) sc__law_tree.nd rfl (Or.inl rfl)) pgs_nil))))
    (pss_cons (ps_if (pt_cmpR op_eq (pv 4) pe_str (nomark _)) (pss_cons (ps_par (i := 13) (j := 7) rfl sc__law_tree.nd rfl rfl (by decide) rfl rfl (pa_cons (pe_call G__law_lots (hr.mono (by omega)) rfl T.g__law_lots T.f__law_lots.kp T.b__law_lots .nil pass0 (pa_cons (pv 0) (pa_cons (pv 11) (pa_cons (pe_ifExp (pt_cmpR op_eq (pv 1) pe_int (nomark _)) pe_int pe_int) pa_nil)))) (pa_cons (pe_lst pa_nil) pa_nil)) (by rfl))
    (pss_cons (ps_for PassesOwn.never rfl (kpi K rfl (pv 13)) (pg_name (i := 14) sc__law_tree.nd rfl (Or.inl rfl)) (pss_one (ps_expr (kapp K rfl (pv 7) (pe_call G__law_tree (hr.mono (by omega)) rfl T.g__law_tree T.f__law_tree.kp T.b__law_tree .nil pass0 (pa_cons (pv 0) (pa_cons (pe_op op_sub (pv 1) pe_int) (pa_cons (pe_ifExp (pt_val (pv 10)) (pe_callB (klen K rfl) (by rfl) T.z_len bt_len (pa_cons (pv 14) pa_nil)) (pv 2)) (pa_cons (pe_ifExp (pt_val (pv 10)) (pv 3) (pe_callB (klen K rfl) (by rfl) T.z_len bt_len (pa_cons (pv 14) pa_nil))) pa_nil)))))))))
    (pss_one (ps_ret (pe_tup (pa_cons (pe_op op_add_str (pv 12) pe_str) (pa_cons (pv 13) (pa_cons (pe_callTy (ktup K rfl) (by rfl) T.z_tuple bt_tuple (pa_cons (pv 7) pa_nil)) (pa_cons (pv 2) (pa_cons (pv 3) pa_nil)))))))))) pss_nil)
    (pss_cons (ps_set (i := 15) sc__law_tree.nd rfl (Or.inl rfl) (pe_call G__law_rows (hr.mono (by omega)) rfl T.g__law_rows T.f__law_rows.kp T.b__law_rows .nil pass0 (pa_cons (pv 0) (pa_cons (pv 11) pa_nil))))
    (pss_cons (ps_set (i := 11) sc__law_tree.nd rfl (Or.inl rfl) (pe_callB (ksum K rfl rfl) (by rfl) T.z_sum bt_sum (pa_cons (pe_lc (own := [("_law_row", 16)]) rfl sc__law_tree.nd (kpi K rfl (pv 15)) (blkOk_by (by kernel_rfl)) (fun _ _ _ _ _ => (pg_name (i := 16) sc__law_tree.nd rfl (Or.inl rfl))) (fun _ _ _ _ _ => pts_nil) (fun _ _ _ _ _ => (pe_callB (klen K rfl) (by rfl) T.z_len bt_len (pa_cons (pv 16) pa_nil)))) pa_nil)))
    (pss_cons (ps_if (pt_cmpR op_eq (pv 4) pe_str (nomark _)) (pss_one (ps_set (i := 15) sc__law_tree.nd rfl (Or.inl rfl) (pe_callTy (ktup K rfl) (by rfl) T.z_tuple bt_tuple (pa_cons (pe_lc (own := [("_law_row", 16)]) rfl sc__law_tree.nd (kpi K rfl (pv 15)) (blkOk_by (by kernel_rfl)) (fun _ _ _ _ _ => (pg_name (i := 16) sc__law_tree.nd rfl (Or.inl rfl))) (fun _ _ _ _ _ => pts_nil) (fun _ _ _ _ _ => (pe_callB (klen K rfl) (by rfl) T.z_len bt_len (pa_cons (pv 16) pa_nil)))) pa_nil)))) pss_nil)
    (pss_cons (ps_set (i := 9) sc__law_tree.nd rfl (Or.inl rfl) (pe_call G__law_tree (hr.mono (by omega)) rfl T.g__law_tree T.f__law_tree.kp T.b__law_tree .nil pass0 (pa_cons (pv 0) (pa_cons (pe_op op_sub (pv 1) pe_int) (pa_cons (pe_ifExp (pt_val (pv 10)) (pv 11) (pv 2)) (pa_cons (pe_ifExp (pt_val (pv 10)) (pv 3) (pv 11)) pa_nil))))))
    (pss_one (ps_ret (pe_tup (pa_cons (pe_op op_add_str (pv 12) (pv 4)) (pa_cons (pv 15) (pa_cons (pe_tup (pa_cons (pv 9) pa_nil)) (pa_cons (pv 2) (pa_cons (pv 3) pa_nil))))))))))))))))))), ?_⟩
  have hcg := costT_ge d
  refine ⟨_, rfl, (by show 7 ≤ sizeLine; decide), fun p0 hp0 => ?_⟩
  refine ⟨dk, ca, cs, n, p0, true, _, rfl, hd.same (same_upd hp0), by omega, upd_same, (hd.ne hp0).1, by show 0 < 7; decide, by show 7 < 1000; decide, fun r0 v n1 H1 hv k1 d1 hn1 => ?_⟩
  replace k1 : Kp (some dk) H H1 := (Kp.of (same_upd hp0)).trans k1
  obtain ⟨z, rfl, hz⟩ : ∃ z : Str, v = .str z ∧ (z = "move" ∨ z = "hides" ∨ z = "sees" ∨ z = "shows" ∨ z = "draw" ∨ z = "end") := by
    match r0, hv with
    | 0, hv => cases hv; exact ⟨_, rfl, by simp⟩
    | 1, hv => cases hv; exact ⟨_, rfl, by simp⟩
    | 2, hv => cases hv; exact ⟨_, rfl, by simp⟩
    | 3, hv => cases hv; exact ⟨_, rfl, by simp⟩
    | 4, hv => cases hv; exact ⟨_, rfl, by simp⟩
    | 5, hv => cases hv; exact ⟨_, rfl, by simp⟩
    | 6, hv => cases hv; exact ⟨_, rfl, by simp⟩
    | r + 7, hv => simp at hv
  refine ⟨_, rfl, rfl, _, rfl, ?_⟩
  refine ite2 (fun cz => ?_) fun cz => ?_
  · refine ⟨_, rfl, by decide, fun p1 hp1 => ⟨by decide, fun p2 hp2 => ⟨_, rfl, _, rfl, (by show 5 ≤ sizeLine; decide), fun p3 hp3 => ?_⟩⟩⟩
    have e13 : Same H1 (upd (upd (upd H1 p1 (.tup [])) p2 (.tup [])) p3 (.tup [.str "hole", .ref p1, .ref p2, .int ((m : Nat) : Int), .int ((i : Nat) : Int)])) := Same.snoc (Same.snoc (same_upd hp1) hp2) hp3
    have t3 : Td (upd (upd (upd H1 p1 (.tup [])) p2 (.tup [])) p3 (.tup [.str "hole", .ref p1, .ref p2, .int ((m : Nat) : Int), .int ((i : Nat) : Int)])) (.ref p3) (Tr.node .hole .unit [] m i).data := by
      refine td_node (t := .unit) upd_same (td_nil ((same_upd hp3) _ _ ((same_upd hp2) _ _ upd_same))) ?_
      rw [dataL]
      exact td_nil ((same_upd hp3) _ _ upd_same)
    generalize upd (upd (upd H1 p1 (.tup [])) p2 (.tup [])) p3 (.tup [.str "hole", .ref p1, .ref p2, .int ((m : Nat) : Int), .int ((i : Nat) : Int)]) = H3 at e13 t3 ⊢
    have d3 := d1.same e13
    have em : ((m : Int)).toNat = m := by omega
    have ei : ((i : Int)).toNat = i := by omega
    refine ⟨_, rfl, _, rfl, by omega, by omega, fun D hD => lc_desk (cs := cs) walk_rgA 16 n1 hD d3 (by rw [em]; exact Nat.lt_of_le_of_lt hm.2 (by decide)) (fun _ _ => trivial) (fun _ => rfl) (fun u y H' => ∃ x : List Nm, (x.length = i ∧ ∀ z ∈ x, z.ok) ∧ Td H' y (.tuple (x.map Nm.data))) ?_ ?_ ?_⟩
    · rintro u y H5 H6 ys uu h1 h2 hl kk ⟨x, hx, p⟩
      exact ⟨x, hx, (p.im (kk.im hl)).im (im_upd (Loose.lst h2))⟩
    · intro u x n5 H5 hu hx k5 d5 hn5 _ Qe hq
      rw [em] at hu
      refine ⟨_, rfl, _, rfl, by omega, by omega, fun D2 hD2 => lc_desk (cs := cs) walk_rgA 2 n5 hD2 d5 (by rw [ei]; exact Nat.lt_of_le_of_lt hi.2 (by decide)) (fun _ _ => trivial) (fun _ => rfl) (fun u y H' => ∃ x : Nm, x.ok ∧ Td H' y x.data) ?_ ?_ ?_⟩
      · rintro u y H5 H6 ys uu h1 h2 hl kk ⟨x, hx, p⟩
        exact ⟨x, hx, td_mono h2 hl kk p⟩
      · intro u2 x2 n6 H6 hu2 hx2 k6 d6 hn6 _ Qf hqf
        rw [ei] at hu2
        exact ⟨_, rfl, dk, ca, cs, n6, rfl, d6, by omega, fun y v n7 H7 hy ty k7 d7 hn7 => hqf v n7 H7 k7 d7 hn7 ⟨y, hy, ty⟩⟩
      · intro ys n6 H6 k6 d6 hn6 hD6 hl6 hP6
        rw [ei] at hn6 hl6
        obtain ⟨x, x1, x2, x3⟩ := choose_list (R := fun v (z : Nm) => Td H6 v z.data) ys hP6
        refine ⟨D2, true, _, rfl, SqL.of hD6, fun t H' e ht n1' _ => ?_⟩
        obtain ⟨z1, z2⟩ := n1' rfl
        subst z2
        exact hq _ n6 _ (k6.trans (.of (same_upd z1))) (d6.same (same_upd z1)) (by omega) ⟨x, ⟨by omega, x2⟩, td_list x1.symm (fun u y hy z hz => x3 u y z hy hz) z1⟩
    · intro ys n5 H5 k5 d5 hn5 hD5 hl5 hP5
      rw [em] at hn5 hl5
      obtain ⟨r, r1, r2, r3⟩ := choose_list (R := fun v (x : List Nm) => Td H5 v (.tuple (x.map Nm.data))) ys hP5
      refine ⟨D, true, _, rfl, SqL.of hD5, fun t H' e ht n1' _ => ?_⟩
      obtain ⟨z1, z2⟩ := n1' rfl
      subst z2
      have tr : Td (upd H5 t (.tup ys)) (.ref t) (Told.rows r).data := td_list (f := fun x : List Nm => PyData.tuple (x.map Nm.data)) r1.symm (fun u y hy z hz => r3 u y z hy hz) z1
      have k35 := k5.trans (.of (same_upd (o := .tup ys) z1))
      have d6 := d5.same (same_upd (o := .tup ys) z1)
      have t36 := t3.im (k35.im d3.loose)
      generalize upd H5 t (.tup ys) = H6 at tr k35 d6 t36 ⊢
      refine ⟨by decide, fun p4 hp4 => ⟨_, rfl, _, rfl, (by show 5 ≤ sizeLine; decide), fun p5 hp5 => ⟨(by show 2 ≤ sizeLine; decide), fun p6 hp6 => ?_⟩⟩⟩
      have e68 : Same H6 (upd (upd H6 p4 (.tup [])) p5 (.tup [.str "end", .ref t, .ref p4, .int ((m : Nat) : Int), .int ((i : Nat) : Int)])) := Same.snoc (same_upd hp4) hp5
      have t8 : Td (upd (upd H6 p4 (.tup [])) p5 (.tup [.str "end", .ref t, .ref p4, .int ((m : Nat) : Int), .int ((i : Nat) : Int)])) (.ref p5) (Tr.node .fin (.rows r) [] m i).data := by
        refine td_node (t := .rows r) upd_same (tr.same e68) ?_
        rw [dataL]
        exact td_nil ((same_upd hp5) _ _ upd_same)
      generalize upd (upd H6 p4 (.tup [])) p5 (.tup [.str "end", .ref t, .ref p4, .int ((m : Nat) : Int), .int ((i : Nat) : Int)]) = H8 at e68 t8 hp6 ⊢
      have d8 := d6.same e68
      have e69 : Same H8 (upd H8 p6 (.lst [.ref p3, .ref p5])) := same_upd hp6
      refine ⟨dk, ca, cs, n5, p6, true, _, rfl, d8.same e69, by omega, upd_same, (d8.ne hp6).1, by show 0 < 2; decide, by show 2 < 1000; decide, fun r9 v n9 H9 hv k9 d9 hn9 => ?_⟩
      have kk : Kp (some dk) H H9 := ((k1.trans (.of e13)).trans k35).trans ((Kp.of (e68.trans e69)).trans k9)
      have im9 : Im H8 H9 := (Im.of e69).trans (k9.im (d8.same e69).loose)
      have hcost : n9 ≤ n + costT d := by
        have := costT_ge d
        omega
      match r9, hv with
      | 0, hv =>
        cases hv
        exact q (.node .hole .unit [] m i) _ n9 H9 ⟨.mk ⟨rfl, rfl⟩ hm hi (fun p hp => by simp at hp), rfl, rfl, by simp [Tr.lev, levL], by rw [Tr.many, manyL]; exact mostT_ge d⟩ ((t36.same e68).im im9) kk d9 hcost
      | 1, hv =>
        cases hv
        exact q (.node .fin (.rows r) [] m i) _ n9 H9 ⟨.mk ⟨r, rfl, rfl, by omega, fun x hx => r2 x hx⟩ hm hi (fun p hp => by simp at hp), rfl, rfl, by simp [Tr.lev, levL], by rw [Tr.many, manyL]; exact mostT_ge d⟩ (t8.im im9) kk d9 hcost
      | r + 2, hv => simp at hv
  have hd0 : d ≠ 0 := fun e => cz (decide_eq_true (by rw [e]; rfl))
  obtain ⟨d', rfl⟩ : ∃ d', d = d' + 1 := ⟨d - 1, by omega⟩
  have eR := hR d' rfl
  subst eR
  refine ⟨_, rfl, rfl, _, rfl, ?_⟩
  refine ite2 (fun cz2 => ?_) fun cz2 => ?_
  · refine ⟨_, rfl, by decide, fun p1 hp1 => ⟨by decide, fun p2 hp2 => ⟨_, rfl, _, rfl, (by show 5 ≤ sizeLine; decide), fun p3 hp3 => ?_⟩⟩⟩
    have e13 : Same H1 (upd (upd (upd H1 p1 (.tup [])) p2 (.tup [])) p3 (.tup [.str "hole", .ref p1, .ref p2, .int ((m : Nat) : Int), .int ((i : Nat) : Int)])) := Same.snoc (Same.snoc (same_upd hp1) hp2) hp3
    have t3 : Td (upd (upd (upd H1 p1 (.tup [])) p2 (.tup [])) p3 (.tup [.str "hole", .ref p1, .ref p2, .int ((m : Nat) : Int), .int ((i : Nat) : Int)])) (.ref p3) (Tr.node .hole .unit [] m i).data := by
      refine td_node (t := .unit) upd_same (td_nil ((same_upd hp3) _ _ ((same_upd hp2) _ _ upd_same))) ?_
      rw [dataL]
      exact td_nil ((same_upd hp3) _ _ upd_same)
    generalize upd (upd (upd H1 p1 (.tup [])) p2 (.tup [])) p3 (.tup [.str "hole", .ref p1, .ref p2, .int ((m : Nat) : Int), .int ((i : Nat) : Int)]) = H3 at e13 t3 ⊢
    have d3 := d1.same e13
    have em : ((m : Int)).toNat = m := by omega
    have ei : ((i : Int)).toNat = i := by omega
    refine ⟨_, rfl, _, rfl, by omega, by omega, fun D hD => lc_desk (cs := cs) walk_rgA 16 n1 hD d3 (by rw [em]; exact Nat.lt_of_le_of_lt hm.2 (by decide)) (fun _ _ => trivial) (fun _ => rfl) (fun u y H' => ∃ x : List Nm, (x.length = i ∧ ∀ z ∈ x, z.ok) ∧ Td H' y (.tuple (x.map Nm.data))) ?_ ?_ ?_⟩
    · rintro u y H5 H6 ys uu h1 h2 hl kk ⟨x, hx, p⟩
      exact ⟨x, hx, (p.im (kk.im hl)).im (im_upd (Loose.lst h2))⟩
    · intro u x n5 H5 hu hx k5 d5 hn5 _ Qe hq
      rw [em] at hu
      refine ⟨_, rfl, _, rfl, by omega, by omega, fun D2 hD2 => lc_desk (cs := cs) walk_rgA 2 n5 hD2 d5 (by rw [ei]; exact Nat.lt_of_le_of_lt hi.2 (by decide)) (fun _ _ => trivial) (fun _ => rfl) (fun u y H' => ∃ x : Nm, x.ok ∧ Td H' y x.data) ?_ ?_ ?_⟩
      · rintro u y H5 H6 ys uu h1 h2 hl kk ⟨x, hx, p⟩
        exact ⟨x, hx, td_mono h2 hl kk p⟩
      · intro u2 x2 n6 H6 hu2 hx2 k6 d6 hn6 _ Qf hqf
        rw [ei] at hu2
        exact ⟨_, rfl, dk, ca, cs, n6, rfl, d6, by omega, fun y v n7 H7 hy ty k7 d7 hn7 => hqf v n7 H7 k7 d7 hn7 ⟨y, hy, ty⟩⟩
      · intro ys n6 H6 k6 d6 hn6 hD6 hl6 hP6
        rw [ei] at hn6 hl6
        obtain ⟨x, x1, x2, x3⟩ := choose_list (R := fun v (z : Nm) => Td H6 v z.data) ys hP6
        refine ⟨D2, true, _, rfl, SqL.of hD6, fun t H' e ht n1' _ => ?_⟩
        obtain ⟨z1, z2⟩ := n1' rfl
        subst z2
        exact hq _ n6 _ (k6.trans (.of (same_upd z1))) (d6.same (same_upd z1)) (by omega) ⟨x, ⟨by omega, x2⟩, td_list x1.symm (fun u y hy z hz => x3 u y z hy hz) z1⟩
    · intro ys n5 H5 k5 d5 hn5 hD5 hl5 hP5
      rw [em] at hn5 hl5
      obtain ⟨r, r1, r2, r3⟩ := choose_list (R := fun v (x : List Nm) => Td H5 v (.tuple (x.map Nm.data))) ys hP5
      refine ⟨D, true, _, rfl, SqL.of hD5, fun t H' e ht n1' _ => ?_⟩
      obtain ⟨z1, z2⟩ := n1' rfl
      subst z2
      have tr : Td (upd H5 t (.tup ys)) (.ref t) (Told.rows r).data := td_list (f := fun x : List Nm => PyData.tuple (x.map Nm.data)) r1.symm (fun u y hy z hz => r3 u y z hy hz) z1
      have k35 := k5.trans (.of (same_upd (o := .tup ys) z1))
      have d6 := d5.same (same_upd (o := .tup ys) z1)
      have t36 := t3.im (k35.im d3.loose)
      generalize upd H5 t (.tup ys) = H6 at tr k35 d6 t36 ⊢
      refine ⟨by decide, fun p4 hp4 => ⟨_, rfl, _, rfl, (by show 5 ≤ sizeLine; decide), fun p5 hp5 => ⟨(by show 2 ≤ sizeLine; decide), fun p6 hp6 => ?_⟩⟩⟩
      have e68 : Same H6 (upd (upd H6 p4 (.tup [])) p5 (.tup [.str "end", .ref t, .ref p4, .int ((m : Nat) : Int), .int ((i : Nat) : Int)])) := Same.snoc (same_upd hp4) hp5
      have t8 : Td (upd (upd H6 p4 (.tup [])) p5 (.tup [.str "end", .ref t, .ref p4, .int ((m : Nat) : Int), .int ((i : Nat) : Int)])) (.ref p5) (Tr.node .fin (.rows r) [] m i).data := by
        refine td_node (t := .rows r) upd_same (tr.same e68) ?_
        rw [dataL]
        exact td_nil ((same_upd hp5) _ _ upd_same)
      generalize upd (upd H6 p4 (.tup [])) p5 (.tup [.str "end", .ref t, .ref p4, .int ((m : Nat) : Int), .int ((i : Nat) : Int)]) = H8 at e68 t8 hp6 ⊢
      have d8 := d6.same e68
      have e69 : Same H8 (upd H8 p6 (.lst [.ref p3, .ref p5])) := same_upd hp6
      refine ⟨dk, ca, cs, n5, p6, true, _, rfl, d8.same e69, by omega, upd_same, (d8.ne hp6).1, by show 0 < 2; decide, by show 2 < 1000; decide, fun r9 v n9 H9 hv k9 d9 hn9 => ?_⟩
      have kk : Kp (some dk) H H9 := ((k1.trans (.of e13)).trans k35).trans ((Kp.of (e68.trans e69)).trans k9)
      have im9 : Im H8 H9 := (Im.of e69).trans (k9.im (d8.same e69).loose)
      have hcost : n9 ≤ n + costT (d' + 1) := by
        have := costT_ge (d' + 1)
        omega
      match r9, hv with
      | 0, hv =>
        cases hv
        exact q (.node .hole .unit [] m i) _ n9 H9 ⟨.mk ⟨rfl, rfl⟩ hm hi (fun p hp => by simp at hp), rfl, rfl, by simp [Tr.lev, levL], by rw [Tr.many, manyL]; exact mostT_ge (d' + 1)⟩ ((t36.same e68).im im9) kk d9 hcost
      | 1, hv =>
        cases hv
        exact q (.node .fin (.rows r) [] m i) _ n9 H9 ⟨.mk ⟨r, rfl, rfl, by omega, fun x hx => r2 x hx⟩ hm hi (fun p hp => by simp at hp), rfl, rfl, by simp [Tr.lev, levL], by rw [Tr.many, manyL]; exact mostT_ge (d' + 1)⟩ (t8.im im9) kk d9 hcost
      | r + 2, hv => simp at hv
  have hz2 : z ≠ "end" := fun e => cz2 (decide_eq_true (by rw [e]))
  have edeep : ((d' + 1 : Nat) : Int) - 1 = ((d' : Nat) : Int) := by omega
  have hC : costT (d' + 1) = 150 + 6 * costT d' := rfl
  have hCg := costT_ge d'
  refine ⟨_, rfl, (by show 2 ≤ sizeLine; decide), fun p1 hp1 => ?_⟩
  refine ⟨p1, _, rfl, .inr (SqT.of upd_same), rfl, rfl, _, rfl, ?_⟩
  have d2 := d1.same (same_upd (o := .tup [.str "move", .str "draw"]) hp1)
  have k2 : Kp (some dk) H (upd H1 p1 (.tup [.str "move", .str "draw"])) := k1.trans (.of (same_upd hp1))
  generalize upd H1 p1 (.tup [.str "move", .str "draw"]) = H2 at d2 k2 ⊢
  by_cases hmd : z = "move" ∨ z = "draw"
  · refine itP (by rcases hmd with e | e <;> (rw [e]; decide +kernel)) ?_
    refine ⟨_, rfl, (by show 4 ≤ sizeLine; decide), fun p2 hp2 => ?_⟩
    have e23 : Same H2 (upd H2 p2 (.lst [.int 2, .int 1, .int 2, .int 3])) := same_upd hp2
    refine ⟨dk, ca, cs, n1, p2, true, _, rfl, d2.same e23, by omega, upd_same, (d2.ne hp2).1, by show 0 < 4; decide, by show 4 < 1000; decide, fun r3 v n3 H3 hv k3 d3 hn3 => ?_⟩
    replace k3 : Kp (some dk) H2 H3 := (Kp.of e23).trans k3
    obtain ⟨b, rfl, hb1, hb3⟩ : ∃ b : Nat, v = .int ((b : Nat) : Int) ∧ 1 ≤ b ∧ b ≤ 3 := by
      match r3, hv with
      | 0, hv => cases hv; exact ⟨2, rfl, by decide⟩
      | 1, hv => cases hv; exact ⟨1, rfl, by decide⟩
      | 2, hv => cases hv; exact ⟨2, rfl, by decide⟩
      | 3, hv => cases hv; exact ⟨3, rfl, by decide⟩
      | r + 4, hv => simp at hv
    have eb : ((b : Int)).toNat = b := by omega
    refine ⟨_, rfl, by omega, by omega, fun D hD => lc_desk (cs := cs) walk_rgA (costT d') n3 hD d3 (by rw [eb]; exact Nat.lt_of_le_of_lt hb3 (by decide)) (fun _ _ => trivial) (fun _ => rfl) (fun u y H' => ∃ t : Tr, Drawn d' m i t ∧ Td H' y t.data) ?_ ?_ ?_⟩
    · rintro u y H5 H6 ys uu h1 h2 hl kk ⟨x, hx, p⟩
      exact ⟨x, hx, (p.im (kk.im hl)).im (im_upd (Loose.lst h2))⟩
    · intro u x n4 H4 hu hx k4 d4 hn4 _ Qe hq
      rw [eb] at hu
      have hCu : costT d' * u ≤ costT d' * 2 := Nat.mul_le_mul_left _ (by omega)
      refine ⟨_, rfl, _, rfl, _, _, rfl, rfl, _, rfl, _, rfl, dk, ca, cs, n4, m, i, ?_, d4, by omega, hm, hi, fun t v n5 H5 ht tv k5 d5 hn5 => hq v n5 H5 k5 d5 hn5 ⟨t, ht, tv⟩⟩
      show [V.ref dk, V.int (((d' + 1 : Nat) : Int) - 1), V.int ((m : Nat) : Int), V.int ((i : Nat) : Int)] = _
      rw [edeep]
    · intro ys n4 H4 k4 d4 hn4 hD4 hl4 hP4
      rw [eb] at hn4 hl4
      have hCb : costT d' * b ≤ costT d' * 3 := Nat.mul_le_mul_left _ (by omega)
      obtain ⟨ts, s1, s2, s3⟩ := choose_list (R := fun v (t : Tr) => Td H4 v t.data) ys hP4
      have htl : ts.length = b := by omega
      have hDk : some D ≠ some dk := fun e => (d3.ne hD).1 (by injection e)
      have hlev : levL ts ≤ d' + 1 := levL_le fun t ht => (s2 t ht).2.2.2.1
      have hmany : 1 + manyL ts ≤ mostT (d' + 1) := by
        have h1 := many_le (M := mostT d') fun t ht => (s2 t ht).2.2.2.2
        have h2 : ts.length * mostT d' ≤ 3 * mostT d' := Nat.mul_le_mul_right _ (by omega)
        have h3 := mostT_3 d'
        omega
      have hwf : ∀ t ∈ ts, WF t := fun t ht => (s2 t ht).1
      have hmi : ∀ t ∈ ts, t.m = m ∧ t.i = i := fun t ht => ⟨(s2 t ht).2.1, (s2 t ht).2.2.1⟩
      have k24 : Kp (some dk) H H4 := (k2.trans k3).trans k4
      refine ⟨_, rfl, rfl, _, rfl, ?_⟩
      refine ite2 (fun cd => ?_) fun cd => ?_
      · refine ⟨_, rfl, D, true, rfl, ⟨_, SqL.of hD4⟩, fun D2 hD2 => lc_desk (cs := cs) (walk_B true) 1 n4 hD2 d4 (by rw [hl4]; exact Nat.lt_of_le_of_lt hb3 (by decide)) (fun H' k => SqL.of (k _ _ hD4 hDk)) (fun _ => rfl) (fun u y H' => ∃ x, wtOk x ∧ Td H' y x.data) ?_ ?_ ?_⟩
        · rintro u y H5 H6 ys uu h1 h2 hl kk ⟨x, hx, p⟩
          exact ⟨x, hx, td_mono h2 hl kk p⟩
        · intro u x n5 H5 hu hx k5 d5 hn5 _ Qe hq
          refine ⟨_, rfl, dk, ca, cs, n5, rfl, d5, by omega, fun y v n6 H6 hy ty k6 d6 hn6 => hq v n6 H6 k6 d6 hn6 ⟨y, hy, ty⟩⟩
        · intro zs n5 H5 k5 d5 hn5 hD5 hl5 hP5
          obtain ⟨r, r1, r2, r3⟩ := choose_list (R := fun v (x : Nm) => Td H5 v x.data) zs hP5
          refine ⟨D2, true, _, rfl, SqL.of hD5, fun t H' e ht n1' _ => ?_⟩
          obtain ⟨z1, z2⟩ := n1' rfl
          subst z2
          have tr : Td (upd H5 t (.tup zs)) (.ref t) (Told.row r).data := td_list (f := Nm.data) r1.symm (fun u y hy z hz => r3 u y z hy hz) z1
          have k46 : Kp (some dk) H4 (upd H5 t (.tup zs)) := k5.trans (.of (same_upd z1))
          have d6 : Desk (upd H5 t (.tup zs)) dk ca cs n5 := d5.same (same_upd z1)
          generalize upd H5 t (.tup zs) = H6 at tr k46 d6 ⊢
          have im46 : Im H4 H6 := k46.im d4.loose
          have hD6 := k46 _ _ hD4 hDk
          refine ⟨_, rfl, D, true, _, rfl, SqL.of hD6, fun t2 H' e ht2 n1' _ => ?_⟩
          obtain ⟨z1, z2⟩ := n1' rfl
          subst z2
          have tp : Td (upd H6 t2 (.tup ys)) (.ref t2) (.tuple (dataL ts)) := by
            rw [dataL_map]
            exact td_list (f := Tr.data) s1.symm (fun u y hy z hz => (s3 u y z hy hz).im im46) z1
          have e67 : Same H6 (upd H6 t2 (.tup ys)) := same_upd z1
          generalize upd H6 t2 (.tup ys) = H7 at tp e67 ⊢
          refine ⟨_, rfl, _, rfl, (by show 5 ≤ sizeLine; decide), fun p9 hp9 => ?_⟩
          have e79 := same_upd (o := .tup [.str "draw", .ref t, .ref t2, .int ((m : Nat) : Int), .int ((i : Nat) : Int)]) hp9
          exact q (.node .draw (.row r) ts m i) _ n5 _ ⟨.mk ⟨r, rfl, by omega, ⟨by omega, by omega⟩, r2, hmi⟩ hm hi hwf, rfl, rfl, by rw [Tr.lev]; omega, by rw [Tr.many]; exact hmany⟩ (td_node (t := .row r) upd_same ((tr.same e67).same e79) (tp.same e79)) ((k24.trans k46).trans (.of (e67.trans e79))) (d6.same (e67.trans e79)) (by omega)
      · refine ⟨_, rfl, (by show 2 ≤ sizeLine; decide), fun p5 hp5 => ?_⟩
        have e45 : Same H4 (upd H4 p5 (.lst [.str "keeper-move", .str "rival-move"])) := same_upd hp5
        refine ⟨dk, ca, cs, n4, p5, true, _, rfl, d4.same e45, by omega, upd_same, (d4.ne hp5).1, by show 0 < 2; decide, by show 2 < 1000; decide, fun r6 v n6 H6 hv k6 d6 hn6 => ?_⟩
        have k46 : Kp (some dk) H4 H6 := (Kp.of e45).trans k6
        obtain ⟨wm, rfl, hwm⟩ : ∃ wm : Wd, v = .str wm.s ∧ (wm = .kmove ∨ wm = .rmove) := by
          match r6, hv with
          | 0, hv => cases hv; exact ⟨.kmove, rfl, .inl rfl⟩
          | 1, hv => cases hv; exact ⟨.rmove, rfl, .inr rfl⟩
          | r + 2, hv => simp at hv
        have im46 : Im H4 H6 := k46.im d4.loose
        have hD6 := k46 _ _ hD4 hDk
        refine ⟨by decide, fun p7 hp7 => ?_⟩
        have e67 : Same H6 (upd H6 p7 (.tup [])) := same_upd hp7
        have tu : Td (upd H6 p7 (.tup [])) (.ref p7) (Told.unit).data := td_nil upd_same
        generalize upd H6 p7 (.tup []) = H7 at e67 tu ⊢
        refine ⟨_, rfl, D, true, _, rfl, SqL.of (e67 _ _ hD6), fun t2 H' e ht2 n1' _ => ?_⟩
        obtain ⟨z1, z2⟩ := n1' rfl
        subst z2
        have tp : Td (upd H7 t2 (.tup ys)) (.ref t2) (.tuple (dataL ts)) := by
          rw [dataL_map]
          exact td_list (f := Tr.data) s1.symm (fun u y hy z hz => ((s3 u y z hy hz).im im46).same e67) z1
        have e78 : Same H7 (upd H7 t2 (.tup ys)) := same_upd z1
        generalize upd H7 t2 (.tup ys) = H8 at tp e78 ⊢
        refine ⟨_, rfl, _, rfl, (by show 5 ≤ sizeLine; decide), fun p9 hp9 => ?_⟩
        have e89 := same_upd (o := .tup [.str wm.s, .ref p7, .ref t2, .int ((m : Nat) : Int), .int ((i : Nat) : Int)]) hp9
        have hfit : Fit wm .unit ts m i := by
          rcases hwm with e | e
          · subst e; exact ⟨rfl, ⟨by omega, by omega⟩, hmi⟩
          · subst e; exact ⟨rfl, ⟨by omega, by omega⟩, hmi⟩
        exact q (.node wm .unit ts m i) _ n6 _ ⟨.mk hfit hm hi hwf, rfl, rfl, by rw [Tr.lev]; omega, by rw [Tr.many]; exact hmany⟩ (td_node (t := .unit) upd_same ((tu.same e78).same e89) (tp.same e89)) ((k24.trans k46).trans (.of ((e67.trans e78).trans e89))) (d6.same ((e67.trans e78).trans e89)) (by omega)
  · have hin : inV (V.str z) [.str "move", .str "draw"] = false := by
      rcases hz with e | e | e | e | e | e
      · exact absurd (.inl e) hmd
      · rw [e]; decide +kernel
      · rw [e]; decide +kernel
      · rw [e]; decide +kernel
      · exact absurd (.inr e) hmd
      · exact absurd e hz2
    refine itN (by show ¬ inV _ _ = true; rw [hin]; decide) ?_
    refine ⟨_, rfl, dk, ca, cs, n1, 2, rfl, d2, by omega, by omega, by omega, fun r3 n3 H3 hr3 k3 d3 hn3 => ⟨rfl, ?_⟩⟩
    generalize decide (V.int ((r3 : Nat) : Int) = V.int 0) = kb
    cases kb with
    | true =>
      refine ⟨_, rfl, _, rfl, itP rfl ⟨_, rfl, (by show 2 ≤ sizeLine; decide), fun p4 hp4 => ?_⟩⟩
      have e34 : Same H3 (upd H3 p4 (.tup [.int ((m : Nat) : Int), .str "keeper-"])) := same_upd hp4
      refine ⟨_, _, rfl, SqT.of upd_same, rfl, _, _, rfl, _, _, rfl, rfl, ?_⟩
      have d4 := d3.same e34
      have k24 : Kp (some dk) H (upd H3 p4 (.tup [.int ((m : Nat) : Int), .str "keeper-"])) := (k2.trans k3).trans (.of e34)
      generalize upd H3 p4 (.tup [.int ((m : Nat) : Int), .str "keeper-"]) = H4 at d4 k24 ⊢
      refine ⟨_, rfl, rfl, _, rfl, ?_⟩
      refine ite2 (fun csh => ?_) fun csh => ?_
      · have ezs : z = "shows" := by
          have := of_decide_eq_true csh
          injection this
        refine ⟨_, rfl, _, rfl, ?_⟩
        refine ev_mo (d' := d') rfl ?_
        have hmo := moT_le d'
        refine ⟨dk, ca, cs, n3, m, moT d', rfl, d4, by omega, hm, hmo, fun c v n5 H5 hc hcl hc1 hcm tv k5 d5 hn5 => ⟨by decide, fun L hL => ⟨_, _, rfl, ?_⟩⟩⟩
        obtain ⟨ta, rs, rfl, g1, g2, g3⟩ := tv.tuple_inv
        rw [List.length_map] at g2
        have hLn := d5.ne hL
        have hcl8 : (lotsOf c).length ≤ 6 := by omega
        refine ⟨_, rfl, ta, false, rfl, ⟨_, SqT.of ((same_upd hL) _ _ g1)⟩, ?_⟩
        refine for_it (walk_B (xs := rs) false) (fun j σ H' => (∃ s14, σ = [some (V.ref dk), some (.int ((d' + 1 : Nat) : Int)), some (.int ((m : Nat) : Int)), some (.int ((i : Nat) : Int)), some (.str z), none, none, some (.ref L), none, none, some (.bl true), some (.int ((m : Nat) : Int)), some (.str "keeper-"), some (.ref ta), s14, none, none]) ∧ Kp (some dk) H5 H' ∧ (∃ n', Desk H' dk ca cs n' ∧ n' ≤ n5 + costT d' * j) ∧
          ∃ (ts : List Tr) (vs : List V), ts.length = j ∧ H' L = some (.lst vs) ∧ vs.length = ts.length ∧ (∀ (k : Nat) v t, vs[k]? = some v → ts[k]? = some t → Td H' v t.data) ∧ (∀ (k : Nat) t l, ts[k]? = some t → (lotsOf c)[k]? = some l → WF t ∧ t.m = l.length ∧ t.i = i ∧ t.lev ≤ d' + 1 ∧ t.many ≤ mostT d')) ?_ ?_ ?_ ?_
        · refine ⟨⟨_, rfl⟩, .of (same_upd hL), ⟨n5, d5.same (same_upd hL), by omega⟩, [], [], rfl, upd_same, rfl, fun k v t h => by simp at h, fun k t l h => by simp at h⟩
        · rintro j σ H' hj ⟨_, k, _⟩
          exact SqT.of (k _ _ g1 fun e => (by obtain ⟨_, _, q1, _⟩ := d5; injection e with e; subst e; rw [q1] at g1; cases g1))
        · rintro j x σ H7 H7' hj ⟨⟨s14, rfl⟩, k7, ⟨n7, d7, hn7⟩, ts, vs, htl, hL7, hvl, hvs, hts⟩ ⟨rfl, hx⟩
          have hj' : j < (lotsOf c).length := by omega
          have hCj : costT d' * j ≤ costT d' * 5 := Nat.mul_le_mul_left _ (by omega)
          have hlj : (lotsOf c)[j]? = some (lotsOf c)[j] := List.getElem?_eq_getElem hj'
          obtain ⟨la, ls, rfl, l1, l2, l3⟩ := (g3 j x (lotD (lotsOf c)[j]) hx (by rw [List.getElem?_map, hlj] <;> rfl)).tuple_inv
          rw [List.length_map] at l2
          have hlen := lot_len hc hlj
          have hne := ((lots_inv hc).asc _ (List.mem_of_getElem? hlj)).1
          obtain ⟨l, hl⟩ : ∃ l, l = (lotsOf c)[j] := ⟨_, rfl⟩
          rw [← hl] at l2 hlen hne hlj
          have hl1 := List.length_pos_iff.mpr hne
          have ga : Kp (some dk) H5 H7' → H7' la = some (.tup ls) := fun k => k _ _ l1 fun e => (by obtain ⟨_, _, q1, _⟩ := d5; injection e with e; subst e; rw [q1] at l1; cases l1)
          refine ⟨_, rfl, .inl ⟨rfl, _, SqL.of hL7⟩, ?_⟩
          refine ⟨_, rfl, _, rfl, _, _, rfl, rfl, ?_⟩
          refine ⟨_, rfl, _, rfl, itP rfl ⟨_, rfl, la, false, _, rfl, SqT.of (ga k7), _, rfl, _, rfl, itP rfl ⟨_, rfl, dk, ca, cs, n7, l.length, i, ?_, d7, by omega, by omega, hi, fun t v2 n8 H8 ht tv2 k8 d8 hn8 => ?_⟩⟩⟩
          · show [V.ref dk, V.int (((d' + 1 : Nat) : Int) - 1), V.int ((ls.length : Nat) : Int), V.int ((i : Nat) : Int)] = _
            rw [edeep, l2]
          · obtain ⟨h1, h2, h3, h4, h5⟩ := ht
            have hL8 := k8 _ _ hL7 fun e => hLn.1 (by injection e)
            refine ⟨L, _, _, rfl, rfl, hL8, by rw [hvl, htl]; exact Nat.lt_of_le_of_lt (show _ ≤ 6 by omega) (by decide), ?_⟩
            have im78 : Im H7' H8 := k8.im d7.loose
            have imL : Im H8 (upd H8 L (.lst (vs ++ [v2]))) := im_upd (Loose.lst hL8)
            refine ⟨⟨_, rfl⟩, (k7.trans k8).mut hL, ⟨n8, d8.upd hLn.1 hLn.2, by rw [Nat.mul_succ]; omega⟩, ts ++ [t], vs ++ [v2], by rw [List.length_append, htl]; rfl, upd_same, by rw [List.length_append, List.length_append, hvl]; rfl, fun u v t' e1 e2 => ?_, fun u t' l' e1 e2 => ?_⟩
            · by_cases hu : u < vs.length
              · rw [List.getElem?_append_left hu] at e1
                rw [List.getElem?_append_left (by omega)] at e2
                exact ((hvs u v t' e1 e2).im im78).im imL
              · have hu2 : u = vs.length := by
                  have := (List.getElem?_eq_some_iff.mp e1).1
                  rw [List.length_append, List.length_singleton] at this
                  omega
                subst hu2
                rw [List.getElem?_append_right (Nat.le_refl _)] at e1
                rw [List.getElem?_append_right (by omega), hvl] at e2
                have z1 : v2 = v := by simpa using e1
                have z2 : t = t' := by simpa using e2
                subst z1 z2
                exact tv2.im imL
            · by_cases hu : u < ts.length
              · rw [List.getElem?_append_left hu] at e1
                exact hts u t' l' e1 e2
              · have hu2 : u = ts.length := by
                  have := (List.getElem?_eq_some_iff.mp e1).1
                  rw [List.length_append, List.length_singleton] at this
                  omega
                subst hu2
                rw [List.getElem?_append_right (Nat.le_refl _)] at e1
                have z2 : t = t' := by simpa using e1
                subst z2
                rw [htl, hlj] at e2
                cases e2
                exact ⟨h1, h2, h3, h4, h5⟩
        · rintro σ H7 ⟨⟨s14, rfl⟩, k7, ⟨n7, d7, hn7⟩, ts, vs, htl, hL7, hvl, hvs, hts⟩
          rw [g2] at htl hn7
          have hCj : costT d' * (lotsOf c).length ≤ costT d' * 6 := Nat.mul_le_mul_left _ hcl8
          refine ⟨_, rfl, _, _, rfl, rfl, by decide +kernel, ?_⟩
          have ew : (("keeper-" : Str) ++ ("shows" : Str)) = Wd.kshows.s := by decide +kernel
          refine ⟨_, rfl, _, rfl, L, true, _, rfl, SqL.of hL7, fun t2 H' e ht2 n1' _ => ?_⟩
          obtain ⟨z1, z2⟩ := n1' rfl
          subst z2
          have im57 : Im H5 H7 := k7.im d5.loose
          have tp : Td (upd H7 t2 (.tup vs)) (.ref t2) (.tuple (dataL ts)) := by
            rw [dataL_map]
            exact td_list (f := Tr.data) hvl (fun u y hy z hz => hvs u y z hy hz) z1
          have e78 : Same H7 (upd H7 t2 (.tup vs)) := same_upd z1
          generalize upd H7 t2 (.tup vs) = H8 at tp e78 ⊢
          refine ⟨_, rfl, _, rfl, (by show 5 ≤ sizeLine; decide), fun p9 hp9 => ?_⟩
          rw [ew]
          have e89 := same_upd (o := .tup [.str Wd.kshows.s, .ref ta, .ref t2, .int ((m : Nat) : Int), .int ((i : Nat) : Int)]) hp9
          have hall : ∀ t ∈ ts, WF t ∧ t.i = i ∧ t.lev ≤ d' + 1 ∧ t.many ≤ mostT d' := fun t ht => by
            obtain ⟨u, hu⟩ := List.getElem?_of_mem ht
            have hu' : u < (lotsOf c).length := by rw [← htl]; exact (List.getElem?_eq_some_iff.mp hu).1
            obtain ⟨a1, a2, a3, a4, a5⟩ := hts u t _ hu (List.getElem?_eq_getElem hu')
            exact ⟨a1, a3, a4, a5⟩
          have hown : ts.map Tr.m = (lotsOf c).map List.length := by
            refine List.ext_getElem (by rw [List.length_map, List.length_map, htl]) fun u u1 u2 => ?_
            have v1 : u < ts.length := by simpa using u1
            have v2 : u < (lotsOf c).length := by simpa using u2
            rw [List.getElem_map, List.getElem_map]
            exact (hts u _ _ (List.getElem?_eq_getElem v1) (List.getElem?_eq_getElem v2)).2.1
          have hlev : levL ts ≤ d' + 1 := levL_le fun t ht => (hall t ht).2.2.1
          have hmany : 1 + manyL ts ≤ mostT (d' + 1) := by
            have h1 := many_le (M := mostT d') fun t ht => (hall t ht).2.2.2
            have h2 : ts.length * mostT d' ≤ moT d' * mostT d' := Nat.mul_le_mul_right _ (by omega)
            have h3 := mostT_mo d'
            omega
          exact q (.node .kshows (.lots c) ts m i) _ n7 _ ⟨.mk ⟨c, rfl, hc, hcl, ⟨hc1, hcl8⟩, hown, fun t ht => (hall t ht).2.1⟩ hm hi fun t ht => (hall t ht).1, rfl, rfl, by rw [Tr.lev]; omega, by rw [Tr.many]; exact hmany⟩ (td_node (t := .lots c) upd_same (((tv.im im57).same e78).same e89) (tp.same e89)) (((k24.trans k5).trans k7).trans (.of (e78.trans e89))) (d7.same (e78.trans e89)) (by omega)
      · have hsh : z ≠ "shows" := fun e => csh (decide_eq_true (by rw [e]))
        refine ⟨_, rfl, _, rfl, dk, ca, cs, n3, m, rfl, d4, by omega, hm, fun r v n5 H5 hrl hrs hrr tv k5 d5 hn5 => ?_⟩
        obtain ⟨ta, rs, rfl, g1, g2, g3⟩ := tv.tuple_inv
        rw [List.length_map] at g2
        have sq : SqB false K H5 ta rs := SqT.of g1
        have hz5 : rs.length < sizeLine := by rw [g2]; exact Nat.lt_of_le_of_lt (show _ ≤ 8 by omega) (by decide)
        have hlens : ∀ (j : Nat) y H6, rs[j]? = some y → Same H5 H6 → ∃ a2 ws, y = .ref a2 ∧ H6 a2 = some (.tup ws) ∧ ∀ z, r[j]? = some z → ws.length = z.length := fun j y H6 hy e6 => by
          have hj : j < r.length := by rw [← g2]; exact (List.getElem?_eq_some_iff.mp hy).1
          obtain ⟨a2, ws, e, w1, w2, w3⟩ := ((g3 j y (.tuple ((r[j]).map Nm.data)) hy (by rw [List.getElem?_map, List.getElem?_eq_getElem hj] <;> rfl)).same e6).tuple_inv
          rw [List.length_map] at w2
          refine ⟨a2, ws, e, w1, fun z hz => ?_⟩
          rw [List.getElem?_eq_getElem hj] at hz
          cases hz
          exact w2
        refine ⟨_, rfl, ta, false, rfl, ⟨_, sq⟩, fun D hD => lc_pure hD sq hz5 (fun _ => rfl) (fun j y _ => ∀ z, r[j]? = some z → y = .int ((List.length z : Nat) : Int)) (fun _ _ _ _ _ h => h) ?_ ?_⟩
        · intro j y H6 hy e6 Qe hq
          obtain ⟨a2, ws, rfl, w1, w2⟩ := hlens j y H6 hy e6
          refine ⟨_, rfl, a2, false, _, rfl, SqT.of w1, hq _ _ (Same.refl _) fun z hz => ?_⟩
          rw [w2 z hz]
        intro ys6 H6 e6 hD6 hl6 hP6
        have ey6 : ys6 = (r.map fun l => ((List.length l : Nat) : Int)).map V.int := by
          rw [ys_map (f := fun l : List Nm => V.int ((List.length l : Nat) : Int)) (hl6.trans g2) hP6, List.map_map]
          rfl
        refine ⟨_, _, rfl, SqL.of (ey6 ▸ hD6), ?_⟩
        have esum : (r.map fun l => ((List.length l : Nat) : Int)).sum = ((sumL r : Nat) : Int) := by
          unfold sumL
          rw [← sum_cast, List.map_map]
          rfl
        dsimp only
        rw [esum]
        have sq6 : SqB false K H6 ta rs := Same.sqb (b := false) e6 sq
        refine ⟨_, rfl, rfl, _, rfl, ?_⟩
        refine ite2 (fun ch => ?_) fun ch => ?_
        · have ezh : z = "hides" := by
            have := of_decide_eq_true ch
            injection this
          subst ezh
          refine ⟨_, rfl, ta, false, rfl, ⟨_, sq6⟩, fun D hD => lc_pure hD sq6 hz5 (fun _ => rfl) (fun j y _ => ∀ z, r[j]? = some z → y = .int ((List.length z : Nat) : Int)) (fun _ _ _ _ _ h => h) ?_ ?_⟩
          · intro j y H7 hy e7 Qe hq
            obtain ⟨a2, ws, rfl, w1, w2⟩ := hlens j y H7 hy (e6.trans e7)
            refine ⟨_, rfl, a2, false, _, rfl, SqT.of w1, hq _ _ (Same.refl _) fun z hz => ?_⟩
            rw [w2 z hz]
          intro ys8 H8 e8 hD8 hl8 hP8
          have ey8 : ys8 = ((r.map List.length).map fun (k : Nat) => (k : Int)).map V.int := by
            rw [ys_map (f := fun l : List Nm => V.int ((List.length l : Nat) : Int)) (hl8.trans g2) hP8, List.map_map, List.map_map]
            rfl
          refine ⟨_, true, _, rfl, SqL.of hD8, fun t7 H' e ht7 n1' _ => ?_⟩
          obtain ⟨z1, z2⟩ := n1' rfl
          subst z2
          have e57 : Same H5 (upd H8 t7 (.tup ys8)) := (e6.trans e8).trans (same_upd z1)
          have tv7 : Td (upd H8 t7 (.tup ys8)) (.ref t7) (Told.row ((r.map List.length).map fun (k : Nat) => Nm.i (k : Int))).data := by
            have : (Told.row ((r.map List.length).map fun (k : Nat) => Nm.i (k : Int))).data = .tuple (((r.map List.length).map fun (k : Nat) => (k : Int)).map PyData.int) := by
              show PyData.tuple (List.map _ _) = PyData.tuple _
              simp only [List.map_map]
              rfl
            rw [this]
            exact td_ints (by rw [upd_same, ey8])
          generalize upd H8 t7 (.tup ys8) = H7 at e57 tv7 ⊢
          generalize V.ref t7 = v7 at tv7 ⊢
          have d7 := d5.same e57
          have hs1 : 1 ≤ sumL r ∧ sumL r ≤ 8 := ⟨sumL_pos (by omega) fun x hx => (hrr x hx).1.1, hrs⟩
          refine ⟨_, rfl, _, rfl, _, _, rfl, rfl, ?_⟩
          refine ⟨_, rfl, _, rfl, itP rfl ⟨_, rfl, _, rfl, _, rfl, itP rfl ⟨_, rfl, dk, ca, cs, n5, sumL r, i, ?_, d7, by omega, ⟨by omega, by omega⟩, hi, fun t v2 n8 H8 ht tv2 k8 d8 hn8 => ?_⟩⟩⟩
          · show [V.ref dk, V.int (((d' + 1 : Nat) : Int) - 1), V.int ((sumL r : Nat) : Int), V.int ((i : Nat) : Int)] = _
            rw [edeep]
          · obtain ⟨h1, h2, h3, h4, h5⟩ := ht
            have ew : (("keeper-" : Str) ++ ("hides" : Str)) = Wd.khides.s := by decide +kernel
            have im78 : Im H7 H8 := k8.im d7.loose
            refine ⟨_, rfl, _, rfl, _, _, rfl, rfl, by decide +kernel, ?_⟩
            refine ⟨_, rfl, _, rfl, (by show 1 ≤ sizeLine; decide), fun p8 hp8 => ⟨_, rfl, _, rfl, (by show 5 ≤ sizeLine; decide), fun p9 hp9 => ?_⟩⟩
            rw [ew]
            have e88 : Same H8 (upd H8 p8 (.tup [v2])) := same_upd hp8
            have tp : Td (upd H8 p8 (.tup [v2])) (.ref p8) (.tuple (dataL [t])) := by
              rw [dataL_map]
              exact td_list (f := Tr.data) (ys := [v2]) (zs := [t]) rfl (fun u y hy z hz => by
                match u, hy, hz with
                | 0, hy, hz => cases hy; cases hz; exact tv2
                | u + 1, hy, hz => simp at hy) hp8
            generalize upd H8 p8 (.tup [v2]) = H9 at e88 tp hp9 ⊢
            have e89 := same_upd (o := .tup [.str Wd.khides.s, v7, .ref p8, .int ((m : Nat) : Int), .int ((i : Nat) : Int)]) hp9
            exact q (.node .khides (.row ((r.map List.length).map fun (k : Nat) => Nm.i (k : Int))) [t] m i) _ n8 _ ⟨.mk ⟨r.map List.length, t, rfl, rfl, by rw [List.length_map]; exact hrl, fun k hk => by (obtain ⟨x, hx, rfl⟩ := List.mem_map.mp hk; have := (hrr x hx).1; omega), h2, h3⟩ hm hi fun t' ht' => by (rw [List.mem_singleton.mp ht']; exact h1), rfl, rfl, by rw [Tr.lev, levL, levL]; simp; omega, by rw [Tr.many, manyL, manyL]; have := mostT_3 d'; omega⟩ (td_node (t := (.row ((r.map List.length).map fun (k : Nat) => Nm.i (k : Int)))) upd_same (((tv7.im im78).same e88).same e89) (tp.same e89)) (((k24.trans k5).trans (.of e57)).trans (k8.trans (.of (e88.trans e89)))) (d8.same (e88.trans e89)) (by omega)
        · have ezs : z = "sees" := by
            rcases hz with e | e | e | e | e | e
            · exact absurd (.inl e) hmd
            · exact absurd (decide_eq_true (by rw [e])) ch
            · exact e
            · exact absurd e hsh
            · exact absurd (.inr e) hmd
            · exact absurd e hz2
          subst ezs
          have e57 := e6
          have tv7 := tv.same e6
          generalize H6 = H7 at e57 tv7 ⊢
          generalize V.ref ta = v7 at tv7 ⊢
          have d7 := d5.same e57
          have hs1 : 1 ≤ sumL r ∧ sumL r ≤ 8 := ⟨sumL_pos (by omega) fun x hx => (hrr x hx).1.1, hrs⟩
          refine ⟨_, rfl, _, rfl, _, _, rfl, rfl, ?_⟩
          refine ⟨_, rfl, _, rfl, itP rfl ⟨_, rfl, _, rfl, _, rfl, itP rfl ⟨_, rfl, dk, ca, cs, n5, sumL r, i, ?_, d7, by omega, ⟨by omega, by omega⟩, hi, fun t v2 n8 H8 ht tv2 k8 d8 hn8 => ?_⟩⟩⟩
          · show [V.ref dk, V.int (((d' + 1 : Nat) : Int) - 1), V.int ((sumL r : Nat) : Int), V.int ((i : Nat) : Int)] = _
            rw [edeep]
          · obtain ⟨h1, h2, h3, h4, h5⟩ := ht
            have ew : (("keeper-" : Str) ++ ("sees" : Str)) = Wd.ksees.s := by decide +kernel
            have im78 : Im H7 H8 := k8.im d7.loose
            refine ⟨_, rfl, _, rfl, _, _, rfl, rfl, by decide +kernel, ?_⟩
            refine ⟨_, rfl, _, rfl, (by show 1 ≤ sizeLine; decide), fun p8 hp8 => ⟨_, rfl, _, rfl, (by show 5 ≤ sizeLine; decide), fun p9 hp9 => ?_⟩⟩
            rw [ew]
            have e88 : Same H8 (upd H8 p8 (.tup [v2])) := same_upd hp8
            have tp : Td (upd H8 p8 (.tup [v2])) (.ref p8) (.tuple (dataL [t])) := by
              rw [dataL_map]
              exact td_list (f := Tr.data) (ys := [v2]) (zs := [t]) rfl (fun u y hy z hz => by
                match u, hy, hz with
                | 0, hy, hz => cases hy; cases hz; exact tv2
                | u + 1, hy, hz => simp at hy) hp8
            generalize upd H8 p8 (.tup [v2]) = H9 at e88 tp hp9 ⊢
            have e89 := same_upd (o := .tup [.str Wd.ksees.s, v7, .ref p8, .int ((m : Nat) : Int), .int ((i : Nat) : Int)]) hp9
            exact q (.node .ksees (.rows r) [t] m i) _ n8 _ ⟨.mk ⟨r, t, rfl, rfl, hrl, fun x hx => ⟨⟨(hrr x hx).1.1, by have := (hrr x hx).1.2; omega⟩, (hrr x hx).2⟩, h2, h3⟩ hm hi fun t' ht' => by (rw [List.mem_singleton.mp ht']; exact h1), rfl, rfl, by rw [Tr.lev, levL, levL]; simp; omega, by rw [Tr.many, manyL, manyL]; have := mostT_3 d'; omega⟩ (td_node (t := (.rows r)) upd_same (((tv7.im im78).same e88).same e89) (tp.same e89)) (((k24.trans k5).trans (.of e57)).trans (k8.trans (.of (e88.trans e89)))) (d8.same (e88.trans e89)) (by omega)
    | false =>
      refine ⟨_, rfl, _, rfl, itN (by decide) ⟨_, rfl, (by show 2 ≤ sizeLine; decide), fun p4 hp4 => ?_⟩⟩
      have e34 : Same H3 (upd H3 p4 (.tup [.int ((i : Nat) : Int), .str "rival-"])) := same_upd hp4
      refine ⟨_, _, rfl, SqT.of upd_same, rfl, _, _, rfl, _, _, rfl, rfl, ?_⟩
      have d4 := d3.same e34
      have k24 : Kp (some dk) H (upd H3 p4 (.tup [.int ((i : Nat) : Int), .str "rival-"])) := (k2.trans k3).trans (.of e34)
      generalize upd H3 p4 (.tup [.int ((i : Nat) : Int), .str "rival-"]) = H4 at d4 k24 ⊢
      refine ⟨_, rfl, rfl, _, rfl, ?_⟩
      refine ite2 (fun csh => ?_) fun csh => ?_
      · have ezs : z = "shows" := by
          have := of_decide_eq_true csh
          injection this
        refine ⟨_, rfl, _, rfl, ?_⟩
        refine ev_mo (d' := d') rfl ?_
        have hmo := moT_le d'
        refine ⟨dk, ca, cs, n3, i, moT d', rfl, d4, by omega, hi, hmo, fun c v n5 H5 hc hcl hc1 hcm tv k5 d5 hn5 => ⟨by decide, fun L hL => ⟨_, _, rfl, ?_⟩⟩⟩
        obtain ⟨ta, rs, rfl, g1, g2, g3⟩ := tv.tuple_inv
        rw [List.length_map] at g2
        have hLn := d5.ne hL
        have hcl8 : (lotsOf c).length ≤ 6 := by omega
        refine ⟨_, rfl, ta, false, rfl, ⟨_, SqT.of ((same_upd hL) _ _ g1)⟩, ?_⟩
        refine for_it (walk_B (xs := rs) false) (fun j σ H' => (∃ s14, σ = [some (V.ref dk), some (.int ((d' + 1 : Nat) : Int)), some (.int ((m : Nat) : Int)), some (.int ((i : Nat) : Int)), some (.str z), none, none, some (.ref L), none, none, some (.bl false), some (.int ((i : Nat) : Int)), some (.str "rival-"), some (.ref ta), s14, none, none]) ∧ Kp (some dk) H5 H' ∧ (∃ n', Desk H' dk ca cs n' ∧ n' ≤ n5 + costT d' * j) ∧
          ∃ (ts : List Tr) (vs : List V), ts.length = j ∧ H' L = some (.lst vs) ∧ vs.length = ts.length ∧ (∀ (k : Nat) v t, vs[k]? = some v → ts[k]? = some t → Td H' v t.data) ∧ (∀ (k : Nat) t l, ts[k]? = some t → (lotsOf c)[k]? = some l → WF t ∧ t.i = l.length ∧ t.m = m ∧ t.lev ≤ d' + 1 ∧ t.many ≤ mostT d')) ?_ ?_ ?_ ?_
        · refine ⟨⟨_, rfl⟩, .of (same_upd hL), ⟨n5, d5.same (same_upd hL), by omega⟩, [], [], rfl, upd_same, rfl, fun k v t h => by simp at h, fun k t l h => by simp at h⟩
        · rintro j σ H' hj ⟨_, k, _⟩
          exact SqT.of (k _ _ g1 fun e => (by obtain ⟨_, _, q1, _⟩ := d5; injection e with e; subst e; rw [q1] at g1; cases g1))
        · rintro j x σ H7 H7' hj ⟨⟨s14, rfl⟩, k7, ⟨n7, d7, hn7⟩, ts, vs, htl, hL7, hvl, hvs, hts⟩ ⟨rfl, hx⟩
          have hj' : j < (lotsOf c).length := by omega
          have hCj : costT d' * j ≤ costT d' * 5 := Nat.mul_le_mul_left _ (by omega)
          have hlj : (lotsOf c)[j]? = some (lotsOf c)[j] := List.getElem?_eq_getElem hj'
          obtain ⟨la, ls, rfl, l1, l2, l3⟩ := (g3 j x (lotD (lotsOf c)[j]) hx (by rw [List.getElem?_map, hlj] <;> rfl)).tuple_inv
          rw [List.length_map] at l2
          have hlen := lot_len hc hlj
          have hne := ((lots_inv hc).asc _ (List.mem_of_getElem? hlj)).1
          obtain ⟨l, hl⟩ : ∃ l, l = (lotsOf c)[j] := ⟨_, rfl⟩
          rw [← hl] at l2 hlen hne hlj
          have hl1 := List.length_pos_iff.mpr hne
          have ga : Kp (some dk) H5 H7' → H7' la = some (.tup ls) := fun k => k _ _ l1 fun e => (by obtain ⟨_, _, q1, _⟩ := d5; injection e with e; subst e; rw [q1] at l1; cases l1)
          refine ⟨_, rfl, .inl ⟨rfl, _, SqL.of hL7⟩, ?_⟩
          refine ⟨_, rfl, _, rfl, _, _, rfl, rfl, ?_⟩
          refine ⟨_, rfl, _, rfl, itN (by decide) ⟨_, rfl, _, rfl, _, rfl, itN (by decide) ⟨_, rfl, la, false, _, rfl, SqT.of (ga k7), dk, ca, cs, n7, m, l.length, ?_, d7, by omega, hm, by omega, fun t v2 n8 H8 ht tv2 k8 d8 hn8 => ?_⟩⟩⟩
          · show [V.ref dk, V.int (((d' + 1 : Nat) : Int) - 1), V.int ((m : Nat) : Int), V.int ((ls.length : Nat) : Int)] = _
            rw [edeep, l2]
          · obtain ⟨h1, h2, h3, h4, h5⟩ := ht
            have hL8 := k8 _ _ hL7 fun e => hLn.1 (by injection e)
            refine ⟨L, _, _, rfl, rfl, hL8, by rw [hvl, htl]; exact Nat.lt_of_le_of_lt (show _ ≤ 6 by omega) (by decide), ?_⟩
            have im78 : Im H7' H8 := k8.im d7.loose
            have imL : Im H8 (upd H8 L (.lst (vs ++ [v2]))) := im_upd (Loose.lst hL8)
            refine ⟨⟨_, rfl⟩, (k7.trans k8).mut hL, ⟨n8, d8.upd hLn.1 hLn.2, by rw [Nat.mul_succ]; omega⟩, ts ++ [t], vs ++ [v2], by rw [List.length_append, htl]; rfl, upd_same, by rw [List.length_append, List.length_append, hvl]; rfl, fun u v t' e1 e2 => ?_, fun u t' l' e1 e2 => ?_⟩
            · by_cases hu : u < vs.length
              · rw [List.getElem?_append_left hu] at e1
                rw [List.getElem?_append_left (by omega)] at e2
                exact ((hvs u v t' e1 e2).im im78).im imL
              · have hu2 : u = vs.length := by
                  have := (List.getElem?_eq_some_iff.mp e1).1
                  rw [List.length_append, List.length_singleton] at this
                  omega
                subst hu2
                rw [List.getElem?_append_right (Nat.le_refl _)] at e1
                rw [List.getElem?_append_right (by omega), hvl] at e2
                have z1 : v2 = v := by simpa using e1
                have z2 : t = t' := by simpa using e2
                subst z1 z2
                exact tv2.im imL
            · by_cases hu : u < ts.length
              · rw [List.getElem?_append_left hu] at e1
                exact hts u t' l' e1 e2
              · have hu2 : u = ts.length := by
                  have := (List.getElem?_eq_some_iff.mp e1).1
                  rw [List.length_append, List.length_singleton] at this
                  omega
                subst hu2
                rw [List.getElem?_append_right (Nat.le_refl _)] at e1
                have z2 : t = t' := by simpa using e1
                subst z2
                rw [htl, hlj] at e2
                cases e2
                exact ⟨h1, h3, h2, h4, h5⟩
        · rintro σ H7 ⟨⟨s14, rfl⟩, k7, ⟨n7, d7, hn7⟩, ts, vs, htl, hL7, hvl, hvs, hts⟩
          rw [g2] at htl hn7
          have hCj : costT d' * (lotsOf c).length ≤ costT d' * 6 := Nat.mul_le_mul_left _ hcl8
          refine ⟨_, rfl, _, _, rfl, rfl, by decide +kernel, ?_⟩
          have ew : (("rival-" : Str) ++ ("shows" : Str)) = Wd.rshows.s := by decide +kernel
          refine ⟨_, rfl, _, rfl, L, true, _, rfl, SqL.of hL7, fun t2 H' e ht2 n1' _ => ?_⟩
          obtain ⟨z1, z2⟩ := n1' rfl
          subst z2
          have im57 : Im H5 H7 := k7.im d5.loose
          have tp : Td (upd H7 t2 (.tup vs)) (.ref t2) (.tuple (dataL ts)) := by
            rw [dataL_map]
            exact td_list (f := Tr.data) hvl (fun u y hy z hz => hvs u y z hy hz) z1
          have e78 : Same H7 (upd H7 t2 (.tup vs)) := same_upd z1
          generalize upd H7 t2 (.tup vs) = H8 at tp e78 ⊢
          refine ⟨_, rfl, _, rfl, (by show 5 ≤ sizeLine; decide), fun p9 hp9 => ?_⟩
          rw [ew]
          have e89 := same_upd (o := .tup [.str Wd.rshows.s, .ref ta, .ref t2, .int ((m : Nat) : Int), .int ((i : Nat) : Int)]) hp9
          have hall : ∀ t ∈ ts, WF t ∧ t.m = m ∧ t.lev ≤ d' + 1 ∧ t.many ≤ mostT d' := fun t ht => by
            obtain ⟨u, hu⟩ := List.getElem?_of_mem ht
            have hu' : u < (lotsOf c).length := by rw [← htl]; exact (List.getElem?_eq_some_iff.mp hu).1
            obtain ⟨a1, a2, a3, a4, a5⟩ := hts u t _ hu (List.getElem?_eq_getElem hu')
            exact ⟨a1, a3, a4, a5⟩
          have hown : ts.map Tr.i = (lotsOf c).map List.length := by
            refine List.ext_getElem (by rw [List.length_map, List.length_map, htl]) fun u u1 u2 => ?_
            have v1 : u < ts.length := by simpa using u1
            have v2 : u < (lotsOf c).length := by simpa using u2
            rw [List.getElem_map, List.getElem_map]
            exact (hts u _ _ (List.getElem?_eq_getElem v1) (List.getElem?_eq_getElem v2)).2.1
          have hlev : levL ts ≤ d' + 1 := levL_le fun t ht => (hall t ht).2.2.1
          have hmany : 1 + manyL ts ≤ mostT (d' + 1) := by
            have h1 := many_le (M := mostT d') fun t ht => (hall t ht).2.2.2
            have h2 : ts.length * mostT d' ≤ moT d' * mostT d' := Nat.mul_le_mul_right _ (by omega)
            have h3 := mostT_mo d'
            omega
          exact q (.node .rshows (.lots c) ts m i) _ n7 _ ⟨.mk ⟨c, rfl, hc, hcl, ⟨hc1, hcl8⟩, hown, fun t ht => (hall t ht).2.1⟩ hm hi fun t ht => (hall t ht).1, rfl, rfl, by rw [Tr.lev]; omega, by rw [Tr.many]; exact hmany⟩ (td_node (t := .lots c) upd_same (((tv.im im57).same e78).same e89) (tp.same e89)) (((k24.trans k5).trans k7).trans (.of (e78.trans e89))) (d7.same (e78.trans e89)) (by omega)
      · have hsh : z ≠ "shows" := fun e => csh (decide_eq_true (by rw [e]))
        refine ⟨_, rfl, _, rfl, dk, ca, cs, n3, i, rfl, d4, by omega, hi, fun r v n5 H5 hrl hrs hrr tv k5 d5 hn5 => ?_⟩
        obtain ⟨ta, rs, rfl, g1, g2, g3⟩ := tv.tuple_inv
        rw [List.length_map] at g2
        have sq : SqB false K H5 ta rs := SqT.of g1
        have hz5 : rs.length < sizeLine := by rw [g2]; exact Nat.lt_of_le_of_lt (show _ ≤ 8 by omega) (by decide)
        have hlens : ∀ (j : Nat) y H6, rs[j]? = some y → Same H5 H6 → ∃ a2 ws, y = .ref a2 ∧ H6 a2 = some (.tup ws) ∧ ∀ z, r[j]? = some z → ws.length = z.length := fun j y H6 hy e6 => by
          have hj : j < r.length := by rw [← g2]; exact (List.getElem?_eq_some_iff.mp hy).1
          obtain ⟨a2, ws, e, w1, w2, w3⟩ := ((g3 j y (.tuple ((r[j]).map Nm.data)) hy (by rw [List.getElem?_map, List.getElem?_eq_getElem hj] <;> rfl)).same e6).tuple_inv
          rw [List.length_map] at w2
          refine ⟨a2, ws, e, w1, fun z hz => ?_⟩
          rw [List.getElem?_eq_getElem hj] at hz
          cases hz
          exact w2
        refine ⟨_, rfl, ta, false, rfl, ⟨_, sq⟩, fun D hD => lc_pure hD sq hz5 (fun _ => rfl) (fun j y _ => ∀ z, r[j]? = some z → y = .int ((List.length z : Nat) : Int)) (fun _ _ _ _ _ h => h) ?_ ?_⟩
        · intro j y H6 hy e6 Qe hq
          obtain ⟨a2, ws, rfl, w1, w2⟩ := hlens j y H6 hy e6
          refine ⟨_, rfl, a2, false, _, rfl, SqT.of w1, hq _ _ (Same.refl _) fun z hz => ?_⟩
          rw [w2 z hz]
        intro ys6 H6 e6 hD6 hl6 hP6
        have ey6 : ys6 = (r.map fun l => ((List.length l : Nat) : Int)).map V.int := by
          rw [ys_map (f := fun l : List Nm => V.int ((List.length l : Nat) : Int)) (hl6.trans g2) hP6, List.map_map]
          rfl
        refine ⟨_, _, rfl, SqL.of (ey6 ▸ hD6), ?_⟩
        have esum : (r.map fun l => ((List.length l : Nat) : Int)).sum = ((sumL r : Nat) : Int) := by
          unfold sumL
          rw [← sum_cast, List.map_map]
          rfl
        dsimp only
        rw [esum]
        have sq6 : SqB false K H6 ta rs := Same.sqb (b := false) e6 sq
        refine ⟨_, rfl, rfl, _, rfl, ?_⟩
        refine ite2 (fun ch => ?_) fun ch => ?_
        · have ezh : z = "hides" := by
            have := of_decide_eq_true ch
            injection this
          subst ezh
          refine ⟨_, rfl, ta, false, rfl, ⟨_, sq6⟩, fun D hD => lc_pure hD sq6 hz5 (fun _ => rfl) (fun j y _ => ∀ z, r[j]? = some z → y = .int ((List.length z : Nat) : Int)) (fun _ _ _ _ _ h => h) ?_ ?_⟩
          · intro j y H7 hy e7 Qe hq
            obtain ⟨a2, ws, rfl, w1, w2⟩ := hlens j y H7 hy (e6.trans e7)
            refine ⟨_, rfl, a2, false, _, rfl, SqT.of w1, hq _ _ (Same.refl _) fun z hz => ?_⟩
            rw [w2 z hz]
          intro ys8 H8 e8 hD8 hl8 hP8
          have ey8 : ys8 = ((r.map List.length).map fun (k : Nat) => (k : Int)).map V.int := by
            rw [ys_map (f := fun l : List Nm => V.int ((List.length l : Nat) : Int)) (hl8.trans g2) hP8, List.map_map, List.map_map]
            rfl
          refine ⟨_, true, _, rfl, SqL.of hD8, fun t7 H' e ht7 n1' _ => ?_⟩
          obtain ⟨z1, z2⟩ := n1' rfl
          subst z2
          have e57 : Same H5 (upd H8 t7 (.tup ys8)) := (e6.trans e8).trans (same_upd z1)
          have tv7 : Td (upd H8 t7 (.tup ys8)) (.ref t7) (Told.row ((r.map List.length).map fun (k : Nat) => Nm.i (k : Int))).data := by
            have : (Told.row ((r.map List.length).map fun (k : Nat) => Nm.i (k : Int))).data = .tuple (((r.map List.length).map fun (k : Nat) => (k : Int)).map PyData.int) := by
              show PyData.tuple (List.map _ _) = PyData.tuple _
              simp only [List.map_map]
              rfl
            rw [this]
            exact td_ints (by rw [upd_same, ey8])
          generalize upd H8 t7 (.tup ys8) = H7 at e57 tv7 ⊢
          generalize V.ref t7 = v7 at tv7 ⊢
          have d7 := d5.same e57
          have hs1 : 1 ≤ sumL r ∧ sumL r ≤ 8 := ⟨sumL_pos (by omega) fun x hx => (hrr x hx).1.1, hrs⟩
          refine ⟨_, rfl, _, rfl, _, _, rfl, rfl, ?_⟩
          refine ⟨_, rfl, _, rfl, itN (by decide) ⟨_, rfl, _, rfl, _, rfl, itN (by decide) ⟨_, rfl, dk, ca, cs, n5, m, sumL r, ?_, d7, by omega, hm, ⟨by omega, by omega⟩, fun t v2 n8 H8 ht tv2 k8 d8 hn8 => ?_⟩⟩⟩
          · show [V.ref dk, V.int (((d' + 1 : Nat) : Int) - 1), V.int ((m : Nat) : Int), V.int ((sumL r : Nat) : Int)] = _
            rw [edeep]
          · obtain ⟨h1, h2, h3, h4, h5⟩ := ht
            have ew : (("rival-" : Str) ++ ("hides" : Str)) = Wd.rhides.s := by decide +kernel
            have im78 : Im H7 H8 := k8.im d7.loose
            refine ⟨_, rfl, _, rfl, _, _, rfl, rfl, by decide +kernel, ?_⟩
            refine ⟨_, rfl, _, rfl, (by show 1 ≤ sizeLine; decide), fun p8 hp8 => ⟨_, rfl, _, rfl, (by show 5 ≤ sizeLine; decide), fun p9 hp9 => ?_⟩⟩
            rw [ew]
            have e88 : Same H8 (upd H8 p8 (.tup [v2])) := same_upd hp8
            have tp : Td (upd H8 p8 (.tup [v2])) (.ref p8) (.tuple (dataL [t])) := by
              rw [dataL_map]
              exact td_list (f := Tr.data) (ys := [v2]) (zs := [t]) rfl (fun u y hy z hz => by
                match u, hy, hz with
                | 0, hy, hz => cases hy; cases hz; exact tv2
                | u + 1, hy, hz => simp at hy) hp8
            generalize upd H8 p8 (.tup [v2]) = H9 at e88 tp hp9 ⊢
            have e89 := same_upd (o := .tup [.str Wd.rhides.s, v7, .ref p8, .int ((m : Nat) : Int), .int ((i : Nat) : Int)]) hp9
            exact q (.node .rhides (.row ((r.map List.length).map fun (k : Nat) => Nm.i (k : Int))) [t] m i) _ n8 _ ⟨.mk ⟨r.map List.length, t, rfl, rfl, by rw [List.length_map]; exact hrl, fun k hk => by (obtain ⟨x, hx, rfl⟩ := List.mem_map.mp hk; have := (hrr x hx).1; omega), h3, h2⟩ hm hi fun t' ht' => by (rw [List.mem_singleton.mp ht']; exact h1), rfl, rfl, by rw [Tr.lev, levL, levL]; simp; omega, by rw [Tr.many, manyL, manyL]; have := mostT_3 d'; omega⟩ (td_node (t := (.row ((r.map List.length).map fun (k : Nat) => Nm.i (k : Int)))) upd_same (((tv7.im im78).same e88).same e89) (tp.same e89)) (((k24.trans k5).trans (.of e57)).trans (k8.trans (.of (e88.trans e89)))) (d8.same (e88.trans e89)) (by omega)
        · have ezs : z = "sees" := by
            rcases hz with e | e | e | e | e | e
            · exact absurd (.inl e) hmd
            · exact absurd (decide_eq_true (by rw [e])) ch
            · exact e
            · exact absurd e hsh
            · exact absurd (.inr e) hmd
            · exact absurd e hz2
          subst ezs
          have e57 := e6
          have tv7 := tv.same e6
          generalize H6 = H7 at e57 tv7 ⊢
          generalize V.ref ta = v7 at tv7 ⊢
          have d7 := d5.same e57
          have hs1 : 1 ≤ sumL r ∧ sumL r ≤ 8 := ⟨sumL_pos (by omega) fun x hx => (hrr x hx).1.1, hrs⟩
          refine ⟨_, rfl, _, rfl, _, _, rfl, rfl, ?_⟩
          refine ⟨_, rfl, _, rfl, itN (by decide) ⟨_, rfl, _, rfl, _, rfl, itN (by decide) ⟨_, rfl, dk, ca, cs, n5, m, sumL r, ?_, d7, by omega, hm, ⟨by omega, by omega⟩, fun t v2 n8 H8 ht tv2 k8 d8 hn8 => ?_⟩⟩⟩
          · show [V.ref dk, V.int (((d' + 1 : Nat) : Int) - 1), V.int ((m : Nat) : Int), V.int ((sumL r : Nat) : Int)] = _
            rw [edeep]
          · obtain ⟨h1, h2, h3, h4, h5⟩ := ht
            have ew : (("rival-" : Str) ++ ("sees" : Str)) = Wd.rsees.s := by decide +kernel
            have im78 : Im H7 H8 := k8.im d7.loose
            refine ⟨_, rfl, _, rfl, _, _, rfl, rfl, by decide +kernel, ?_⟩
            refine ⟨_, rfl, _, rfl, (by show 1 ≤ sizeLine; decide), fun p8 hp8 => ⟨_, rfl, _, rfl, (by show 5 ≤ sizeLine; decide), fun p9 hp9 => ?_⟩⟩
            rw [ew]
            have e88 : Same H8 (upd H8 p8 (.tup [v2])) := same_upd hp8
            have tp : Td (upd H8 p8 (.tup [v2])) (.ref p8) (.tuple (dataL [t])) := by
              rw [dataL_map]
              exact td_list (f := Tr.data) (ys := [v2]) (zs := [t]) rfl (fun u y hy z hz => by
                match u, hy, hz with
                | 0, hy, hz => cases hy; cases hz; exact tv2
                | u + 1, hy, hz => simp at hy) hp8
            generalize upd H8 p8 (.tup [v2]) = H9 at e88 tp hp9 ⊢
            have e89 := same_upd (o := .tup [.str Wd.rsees.s, v7, .ref p8, .int ((m : Nat) : Int), .int ((i : Nat) : Int)]) hp9
            exact q (.node .rsees (.rows r) [t] m i) _ n8 _ ⟨.mk ⟨r, t, rfl, rfl, hrl, fun x hx => ⟨⟨(hrr x hx).1.1, by have := (hrr x hx).1.2; omega⟩, (hrr x hx).2⟩, h3, h2⟩ hm hi fun t' ht' => by (rw [List.mem_singleton.mp ht']; exact h1), rfl, rfl, by rw [Tr.lev, levL, levL]; simp; omega, by rw [Tr.many, manyL, manyL]; have := mostT_3 d'; omega⟩ (td_node (t := (.rows r)) upd_same (((tv7.im im78).same e88).same e89) (tp.same e89)) (((k24.trans k5).trans (.of e57)).trans (k8.trans (.of (e88.trans e89)))) (d8.same (e88.trans e89)) (by omega)
end
end PL
end
section
set_option maxHeartbeats 4000000
/-! D26: trees made into places. -/
namespace PL
open PySem PySem.Spec PyProof.Rows L2
section
variable {w : World} {K : PySem.W.Frag} {mg : Str → Option Value} {base : Heap}
theorem ok__law_tree (T : Txt K mg) : ∀ d : Nat, FnOk P0 w K mg base CX0 (6 + d) (aF K "_law_tree") (dF K "_law_tree") ["_law_desk_here", "_law_deep", "_law_mine", "_law_its"] (sp__law_tree K d)
  | 0 => tree_body T 0 (fun _ _ _ _ => False) ⟨fun _ _ _ _ h => h.elim, fun _ _ _ _ _ _ _ _ _ _ _ _ _ h => h.elim⟩ fun d' e => by omega
  | d + 1 => tree_body T (d + 1) (sp__law_tree K d) ((ok__law_tree T d).mono (by omega)) fun d' e => by
    have : d = d' := by omega
    rw [this]
/-! ### what a tree's tuple holds -/
theorem Td.node {H : Hp} {v : V} {t : Tr} (h : Td H v t.data) : ∃ a v1 b xs, v = .ref a ∧ H a = some (.tup [.str t.w.s, v1, .ref b, .int (t.m : Nat), .int (t.i : Nat)]) ∧ Td H v1 t.t.data ∧ H b = some (.tup xs) ∧ xs.length = t.ps.length ∧ ∀ (k : Nat) x p, xs[k]? = some x → t.ps[k]? = some p → Td H x p.data := by
  match t, h with
  | .node w tt ps m i, h =>
  rw [Tr.data] at h
  obtain ⟨a, xs, rfl, h1, h2, h3⟩ := h.tuple_inv
  match xs, h2, h1, h3 with
  | [x0, x1, x2, x3, x4], _, h1, h3 =>
    have e0 : x0 = .str w.s := by cases h3 0 x0 _ rfl rfl; rfl
    have e3 : x3 = .int ((m : Nat) : Int) := by cases h3 3 x3 _ rfl rfl; rfl
    have e4 : x4 = .int ((i : Nat) : Int) := by cases h3 4 x4 _ rfl rfl; rfl
    subst e0 e3 e4
    obtain ⟨b, ys, e2, g1, g2, g3⟩ := (h3 2 x2 _ rfl rfl).tuple_inv
    subst e2
    refine ⟨a, x1, b, ys, rfl, h1, h3 1 x1 _ rfl rfl, g1, by rw [g2, dataL_map, List.length_map] <;> rfl, fun k x p hx hp => ?_⟩
    exact g3 k x p.data hx (by rw [dataL_map, List.getElem?_map]; show Option.map _ (ps[k]?) = _; rw [show ps[k]? = some p from hp]; rfl)
def sp__law_made (K : PySem.W.Frag) (n : Nat) : Sp := fun vs H Q _ => ∃ a w vt td b xs ps m i, vs = [.ref a] ∧ H a = some (.tup [.str (Wd.s w), vt, .ref b, .int ((m : Nat) : Int), .int ((i : Nat) : Int)]) ∧ Ld K H vt (Told.data td) ∧ H b = some (.tup xs) ∧ xs.length = List.length ps ∧
  (∀ (k : Nat) x p, xs[k]? = some x → ps[k]? = some p → Td H x (Tr.data p)) ∧ WF (.node w td ps m i) ∧ Sz (.node w td ps m i) ∧ (Tr.node w td ps m i).lev ≤ n ∧ ∀ a H', Same H H' → PlAt K H' a (.node w td ps m i) → Q (.ref a) H'
theorem ok__law_made (T : Txt K mg) : ∀ n : Nat, FnOk P0 w K mg base CX0 (9 + n) (aF K "_law_made") (dF K "_law_made") ["_law_tree_here"] (sp__law_made K n)
  | 0 => ⟨fun vs H Q E h => by (obtain ⟨_, w, _, td, _, _, ps, m, i, _, _, _, _, _, _, _, _, h, _⟩ := h; have := lev_pos (.node w td ps m i); omega), fun A outer s H args us vs Q E _ _ _ _ h => by (obtain ⟨_, w, _, td, _, _, ps, m, i, _, _, _, _, _, _, _, _, h, _⟩ := h; have := lev_pos (.node w td ps m i); omega)⟩
  | n + 1 => by
    have G__law_made := ok__law_made T n
    have G_End := ok_End (w := w) (base := base) T
    have G_Hole := ok_Hole (w := w) (base := base) T
    have G_Draw := ok_Draw (w := w) (base := base) T
    have G_KeeperMove := ok_KeeperMove (w := w) (base := base) T
    have G_RivalMove := ok_RivalMove (w := w) (base := base) T
    have G_KeeperHides := ok_KeeperHides (w := w) (base := base) T
    have G_RivalHides := ok_RivalHides (w := w) (base := base) T
    have G_KeeperSees := ok_KeeperSees (w := w) (base := base) T
    have G_RivalSees := ok_RivalSees (w := w) (base := base) T
    have G_KeeperShows := ok_KeeperShows (w := w) (base := base) T
    have G_RivalShows := ok_RivalShows (w := w) (base := base) T
    refine T.f__law_made.ok sc__law_made (fun vs H Q E h => by (obtain ⟨_, _, _, _, _, _, _, _, _, rfl, _⟩ := h; rfl)) (fun cdv A outer s H vs Q E hr h => ?_)
    obtain ⟨a, wd, vt, td, b, xs, ps, m, i, rfl, h1, h2, h3, h4, h5, hwf, hsz, hn, q⟩ := h
    have hr : Room (9 + n) (A.deeper _) := hr
    refine ⟨_, ((pss_cons (ps_asg (pv 0) (kgtup K 5 rfl rfl (pgs_cons (pg_name (i := 1) sc__law_made.nd rfl (Or.inl rfl)) (pgs_cons (pg_name (i := 2) sc__law_made.nd rfl (Or.inl rfl)) (pgs_cons (pg_name (i := 3) sc__law_made.nd rfl (Or.inl rfl)) (pgs_cons (pg_name (i := 4) sc__law_made.nd rfl (Or.inl rfl)) (pgs_cons (pg_name (i := 5) sc__law_made.nd rfl (Or.inl rfl)) pgs_nil)))))))
    (pss_cons (ps_setLc (i := 6) (own := [("_law_part_here", 7)]) rfl sc__law_made.nd rfl rfl (sw_true rfl rfl rfl (by decide +kernel)) (kpi K rfl (pv 3)) (blkOk_by (by kernel_rfl)) (fun _ _ _ _ _ => (pg_name (i := 7) sc__law_made.nd rfl (Or.inl rfl))) (fun _ _ _ _ _ => pts_nil) (fun _ _ _ _ _ => (pe_call G__law_made (hr.mono (by omega)) rfl T.g__law_made T.f__law_made.kp T.b__law_made .nil pass0 (pa_cons (pv 7) pa_nil))))
    (pss_cons (ps_if (pt_cmpR op_eq (pv 1) pe_str (nomark _)) (pss_one (ps_ret (pe_make T.mk_End G_End (hr.mono (by omega)) rfl T.g_End T.b_End .nil pass0 (pa_cons (pv 2) pa_nil)))) pss_nil)
    (pss_cons (ps_if (pt_cmpR op_eq (pv 1) pe_str (nomark _)) (pss_one (ps_ret (pe_make T.mk_Hole G_Hole (hr.mono (by omega)) rfl T.g_Hole T.b_Hole .nil pass0 (pa_cons (pv 4) (pa_cons (pv 5) pa_nil))))) pss_nil)
    (pss_cons (ps_if (pt_cmpR op_eq (pv 1) pe_str (nomark _)) (pss_one (ps_ret (pe_make T.mk_Draw G_Draw (hr.mono (by omega)) rfl T.g_Draw T.b_Draw .nil pass0 (pa_cons (pv 2) (pa_cons (pv 6) pa_nil))))) pss_nil)
    (pss_cons (ps_if (pt_cmpR op_eq (pv 1) pe_str (nomark _)) (pss_one (ps_ret (pe_make T.mk_KeeperMove G_KeeperMove (hr.mono (by omega)) rfl T.g_KeeperMove T.b_KeeperMove .nil pass0 (pa_cons (pv 6) pa_nil)))) pss_nil)
    (pss_cons (ps_if (pt_cmpR op_eq (pv 1) pe_str (nomark _)) (pss_one (ps_ret (pe_make T.mk_RivalMove G_RivalMove (hr.mono (by omega)) rfl T.g_RivalMove T.b_RivalMove .nil pass0 (pa_cons (pv 6) pa_nil)))) pss_nil)
    (pss_cons (ps_if (pt_cmpR op_eq (pv 1) pe_str (nomark _)) (pss_one (ps_ret (pe_make T.mk_KeeperHides G_KeeperHides (hr.mono (by omega)) rfl T.g_KeeperHides T.b_KeeperHides .nil pass0 (pa_cons (pv 2) (pa_cons (pe_ix (kix K rfl) (pv 6) pe_int (fun _ _ => rfl)) pa_nil))))) pss_nil)
    (pss_cons (ps_if (pt_cmpR op_eq (pv 1) pe_str (nomark _)) (pss_one (ps_ret (pe_make T.mk_RivalHides G_RivalHides (hr.mono (by omega)) rfl T.g_RivalHides T.b_RivalHides .nil pass0 (pa_cons (pv 2) (pa_cons (pe_ix (kix K rfl) (pv 6) pe_int (fun _ _ => rfl)) pa_nil))))) pss_nil)
    (pss_cons (ps_if (pt_cmpR op_eq (pv 1) pe_str (nomark _)) (pss_one (ps_ret (pe_make T.mk_KeeperSees G_KeeperSees (hr.mono (by omega)) rfl T.g_KeeperSees T.b_KeeperSees .nil pass0 (pa_cons (pv 2) (pa_cons (pe_ix (kix K rfl) (pv 6) pe_int (fun _ _ => rfl)) pa_nil))))) pss_nil)
    (pss_cons (ps_if (pt_cmpR op_eq (pv 1) pe_str (nomark _)) (pss_one (ps_ret (pe_make T.mk_RivalSees G_RivalSees (hr.mono (by omega)) rfl T.g_RivalSees T.b_RivalSees .nil pass0 (pa_cons (pv 2) (pa_cons (pe_ix (kix K rfl) (pv 6) pe_int (fun _ _ => rfl)) pa_nil))))) pss_nil)
    (pss_one (ps_ret (pe_ifExp (pt_cmpR op_eq (pv 1) pe_str (nomark _)) (pe_make T.mk_KeeperShows G_KeeperShows (hr.mono (by omega)) rfl T.g_KeeperShows T.b_KeeperShows .nil pass0 (pa_cons (pv 2) (pa_cons (pv 6) pa_nil))) (pe_make T.mk_RivalShows G_RivalShows (hr.mono (by omega)) rfl T.g_RivalShows T.b_RivalShows .nil pass0 (pa_cons (pv 2) (pa_cons (pv 6) pa_nil)))))))))))))))))), ?_⟩
    have hf := hwf.fit
    have hm : 1 ≤ m ∧ m ≤ 8 := hwf.hm
    have hi : 1 ≤ i ∧ i ≤ 8 := hwf.hi
    have h6 := parts_le6 hf
    refine ⟨_, rfl, a, _, rfl, SqT.of h1, rfl, _, _, rfl, _, _, rfl, _, _, rfl, _, _, rfl, _, _, rfl, rfl, ?_⟩
    have sq : SqB false K H b xs := SqT.of h3
    refine ⟨_, rfl, b, false, rfl, ⟨_, sq⟩, fun D hD => lc_pure hD sq (by rw [h4]; exact Nat.lt_of_le_of_lt h6 (by decide)) (fun _ => rfl) (fun j y H' => ∀ p, ps[j]? = some p → ∃ a', y = .ref a' ∧ PlAt K H' a' p) (fun j y H1 H2 e h p hp => by
      obtain ⟨a', e', hpl⟩ := h p hp
      exact ⟨a', e', hpl.im e⟩) ?_ ?_⟩
    · intro j x H1 hx e1 Qe hq
      have hj : j < ps.length := by rw [← h4]; exact (List.getElem?_eq_some_iff.mp hx).1
      have hpj : ps[j]? = some ps[j] := List.getElem?_eq_getElem hj
      have hmem := List.getElem_mem hj
      have hlev := lev_mem hmem
      rw [Tr.lev] at hn
      obtain ⟨a2, v2, b2, ys, rfl, g1, g2, g3, g4, g5⟩ := ((h5 j x _ hx hpj).same e1).node
      have hsub := hwf.sub _ hmem
      have hszs := hsz.sub _ hmem
      generalize ps[j] = pj at hpj hlev g1 g2 g4 g5 hsub hszs
      match pj, hpj, hlev, g1, g2, g4, g5, hsub, hszs with
      | .node w' t' ps' m' i', hpj, hlev, g1, g2, g4, g5, hsub, hszs =>
      refine ⟨_, rfl, a2, w', v2, t', b2, ys, ps', m', i', rfl, g1, g2.ld, g3, g4, g5, hsub, hszs, by omega, fun a3 H3 e3 pl => hq _ _ e3 fun p hp => ⟨a3, rfl, ?_⟩⟩
      rw [hpj] at hp
      cases hp
      exact pl
    intro ys H1 e1 hD1 hl1 hP1
    obtain ⟨as, rfl, hP⟩ := pls_of (hl1.trans h4) fun j y hy p hp => hP1 j y hy p hp
    have hD1' := hD1
    have hp : SqP true H1 D (as.map V.ref) := hD1
    have hv := h2.same e1
    cases wd with
    | fin =>
      refine ⟨_, rfl, rfl, _, rfl, itP (by decide +kernel) ?_⟩
      have hpe : ps = [] := by obtain ⟨r, _, h, _⟩ := hf; exact h
      subst hpe
      refine ⟨_, rfl, fun x dx hx hdx hne => ⟨x, dx, vt, td, m, i, rfl, upd_same, hv.same (same_two hx hdx hne), hf, hm, hi, fun H' k pl => ⟨rfl, q x H' (e1.trans (same_new hx hdx hne k)) pl⟩⟩⟩
    | hole =>
      refine ⟨_, rfl, rfl, _, rfl, itN (by decide +kernel) ?_⟩
      refine ⟨_, rfl, rfl, _, rfl, itP (by decide +kernel) ?_⟩
      obtain ⟨rfl, rfl⟩ := hf
      refine ⟨_, rfl, _, rfl, fun x dx hx hdx hne => ⟨x, dx, m, i, rfl, upd_same, hm, hi, fun H' k pl => ⟨rfl, q x H' (e1.trans (same_new hx hdx hne k)) pl⟩⟩⟩
    | draw =>
      refine ⟨_, rfl, rfl, _, rfl, itN (by decide +kernel) ?_⟩
      refine ⟨_, rfl, rfl, _, rfl, itN (by decide +kernel) ?_⟩
      refine ⟨_, rfl, rfl, _, rfl, itP (by decide +kernel) ?_⟩
      refine ⟨_, rfl, _, rfl, fun x dx hx hdx hne => ⟨x, dx, vt, D, true, as, td, ps, m, i, rfl, upd_same, hv.same (same_two hx hdx hne), hp.same (same_two hx hdx hne), hP.same (same_two hx hdx hne), hf, hsz, fun H' k pl => ⟨rfl, q x H' (e1.trans (same_new hx hdx hne k)) pl⟩⟩⟩
    | kmove =>
      refine ⟨_, rfl, rfl, _, rfl, itN (by decide +kernel) ?_⟩
      refine ⟨_, rfl, rfl, _, rfl, itN (by decide +kernel) ?_⟩
      refine ⟨_, rfl, rfl, _, rfl, itN (by decide +kernel) ?_⟩
      refine ⟨_, rfl, rfl, _, rfl, itP (by decide +kernel) ?_⟩
      have ht : td = .unit := hf.1
      subst ht
      refine ⟨_, rfl, fun x dx hx hdx hne => ⟨x, dx, D, true, as, ps, m, i, rfl, upd_same, hp.same (same_two hx hdx hne), hP.same (same_two hx hdx hne), hf, hsz, fun H' k pl => ⟨rfl, q x H' (e1.trans (same_new hx hdx hne k)) pl⟩⟩⟩
    | rmove =>
      refine ⟨_, rfl, rfl, _, rfl, itN (by decide +kernel) ?_⟩
      refine ⟨_, rfl, rfl, _, rfl, itN (by decide +kernel) ?_⟩
      refine ⟨_, rfl, rfl, _, rfl, itN (by decide +kernel) ?_⟩
      refine ⟨_, rfl, rfl, _, rfl, itN (by decide +kernel) ?_⟩
      refine ⟨_, rfl, rfl, _, rfl, itP (by decide +kernel) ?_⟩
      have ht : td = .unit := hf.1
      subst ht
      refine ⟨_, rfl, fun x dx hx hdx hne => ⟨x, dx, D, true, as, ps, m, i, rfl, upd_same, hp.same (same_two hx hdx hne), hP.same (same_two hx hdx hne), hf, hsz, fun H' k pl => ⟨rfl, q x H' (e1.trans (same_new hx hdx hne k)) pl⟩⟩⟩
    | khides =>
      refine ⟨_, rfl, rfl, _, rfl, itN (by decide +kernel) ?_⟩
      refine ⟨_, rfl, rfl, _, rfl, itN (by decide +kernel) ?_⟩
      refine ⟨_, rfl, rfl, _, rfl, itN (by decide +kernel) ?_⟩
      refine ⟨_, rfl, rfl, _, rfl, itN (by decide +kernel) ?_⟩
      refine ⟨_, rfl, rfl, _, rfl, itN (by decide +kernel) ?_⟩
      refine ⟨_, rfl, rfl, _, rfl, itP (by decide +kernel) ?_⟩
      obtain ⟨pt, rfl⟩ := fit_single (by decide) hf
      match as, hP, hD1' with
      | [], hP, _ => exact absurd hP.1 (by simp)
      | _ :: _ :: _, hP, _ => exact absurd hP.1 (by simp)
      | [pa], hP, hD1' =>
        refine ⟨_, rfl, _, rfl, D, true, _, 0, _, rfl, rfl, SqL.of hD1', atI_nat (j := 0) rfl, fun x dx hx hdx hne => ⟨x, dx, vt, pa, td, pt, m, i, rfl, upd_same, hv.same (same_two hx hdx hne), (hP.2 0 pa pt rfl rfl).same (same_two hx hdx hne), hf, hm, hi, hsz, fun H' k pl => ⟨rfl, q x H' (e1.trans (same_new hx hdx hne k)) pl⟩⟩⟩
    | rhides =>
      refine ⟨_, rfl, rfl, _, rfl, itN (by decide +kernel) ?_⟩
      refine ⟨_, rfl, rfl, _, rfl, itN (by decide +kernel) ?_⟩
      refine ⟨_, rfl, rfl, _, rfl, itN (by decide +kernel) ?_⟩
      refine ⟨_, rfl, rfl, _, rfl, itN (by decide +kernel) ?_⟩
      refine ⟨_, rfl, rfl, _, rfl, itN (by decide +kernel) ?_⟩
      refine ⟨_, rfl, rfl, _, rfl, itN (by decide +kernel) ?_⟩
      refine ⟨_, rfl, rfl, _, rfl, itP (by decide +kernel) ?_⟩
      obtain ⟨pt, rfl⟩ := fit_single (by decide) hf
      match as, hP, hD1' with
      | [], hP, _ => exact absurd hP.1 (by simp)
      | _ :: _ :: _, hP, _ => exact absurd hP.1 (by simp)
      | [pa], hP, hD1' =>
        refine ⟨_, rfl, _, rfl, D, true, _, 0, _, rfl, rfl, SqL.of hD1', atI_nat (j := 0) rfl, fun x dx hx hdx hne => ⟨x, dx, vt, pa, td, pt, m, i, rfl, upd_same, hv.same (same_two hx hdx hne), (hP.2 0 pa pt rfl rfl).same (same_two hx hdx hne), hf, hm, hi, hsz, fun H' k pl => ⟨rfl, q x H' (e1.trans (same_new hx hdx hne k)) pl⟩⟩⟩
    | ksees =>
      refine ⟨_, rfl, rfl, _, rfl, itN (by decide +kernel) ?_⟩
      refine ⟨_, rfl, rfl, _, rfl, itN (by decide +kernel) ?_⟩
      refine ⟨_, rfl, rfl, _, rfl, itN (by decide +kernel) ?_⟩
      refine ⟨_, rfl, rfl, _, rfl, itN (by decide +kernel) ?_⟩
      refine ⟨_, rfl, rfl, _, rfl, itN (by decide +kernel) ?_⟩
      refine ⟨_, rfl, rfl, _, rfl, itN (by decide +kernel) ?_⟩
      refine ⟨_, rfl, rfl, _, rfl, itN (by decide +kernel) ?_⟩
      refine ⟨_, rfl, rfl, _, rfl, itP (by decide +kernel) ?_⟩
      obtain ⟨pt, rfl⟩ := fit_single (by decide) hf
      match as, hP, hD1' with
      | [], hP, _ => exact absurd hP.1 (by simp)
      | _ :: _ :: _, hP, _ => exact absurd hP.1 (by simp)
      | [pa], hP, hD1' =>
        refine ⟨_, rfl, _, rfl, D, true, _, 0, _, rfl, rfl, SqL.of hD1', atI_nat (j := 0) rfl, fun x dx hx hdx hne => ⟨x, dx, vt, pa, td, pt, m, i, rfl, upd_same, hv.same (same_two hx hdx hne), (hP.2 0 pa pt rfl rfl).same (same_two hx hdx hne), hf, hm, hi, hsz, fun H' k pl => ⟨rfl, q x H' (e1.trans (same_new hx hdx hne k)) pl⟩⟩⟩
    | rsees =>
      refine ⟨_, rfl, rfl, _, rfl, itN (by decide +kernel) ?_⟩
      refine ⟨_, rfl, rfl, _, rfl, itN (by decide +kernel) ?_⟩
      refine ⟨_, rfl, rfl, _, rfl, itN (by decide +kernel) ?_⟩
      refine ⟨_, rfl, rfl, _, rfl, itN (by decide +kernel) ?_⟩
      refine ⟨_, rfl, rfl, _, rfl, itN (by decide +kernel) ?_⟩
      refine ⟨_, rfl, rfl, _, rfl, itN (by decide +kernel) ?_⟩
      refine ⟨_, rfl, rfl, _, rfl, itN (by decide +kernel) ?_⟩
      refine ⟨_, rfl, rfl, _, rfl, itN (by decide +kernel) ?_⟩
      refine ⟨_, rfl, rfl, _, rfl, itP (by decide +kernel) ?_⟩
      obtain ⟨pt, rfl⟩ := fit_single (by decide) hf
      match as, hP, hD1' with
      | [], hP, _ => exact absurd hP.1 (by simp)
      | _ :: _ :: _, hP, _ => exact absurd hP.1 (by simp)
      | [pa], hP, hD1' =>
        refine ⟨_, rfl, _, rfl, D, true, _, 0, _, rfl, rfl, SqL.of hD1', atI_nat (j := 0) rfl, fun x dx hx hdx hne => ⟨x, dx, vt, pa, td, pt, m, i, rfl, upd_same, hv.same (same_two hx hdx hne), (hP.2 0 pa pt rfl rfl).same (same_two hx hdx hne), hf, hm, hi, hsz, fun H' k pl => ⟨rfl, q x H' (e1.trans (same_new hx hdx hne k)) pl⟩⟩⟩
    | kshows =>
      refine ⟨_, rfl, rfl, _, rfl, itN (by decide +kernel) ?_⟩
      refine ⟨_, rfl, rfl, _, rfl, itN (by decide +kernel) ?_⟩
      refine ⟨_, rfl, rfl, _, rfl, itN (by decide +kernel) ?_⟩
      refine ⟨_, rfl, rfl, _, rfl, itN (by decide +kernel) ?_⟩
      refine ⟨_, rfl, rfl, _, rfl, itN (by decide +kernel) ?_⟩
      refine ⟨_, rfl, rfl, _, rfl, itN (by decide +kernel) ?_⟩
      refine ⟨_, rfl, rfl, _, rfl, itN (by decide +kernel) ?_⟩
      refine ⟨_, rfl, rfl, _, rfl, itN (by decide +kernel) ?_⟩
      refine ⟨_, rfl, rfl, _, rfl, itN (by decide +kernel) ?_⟩
      refine ⟨_, rfl, rfl, _, rfl, itP (by decide +kernel) ?_⟩
      refine ⟨_, rfl, _, rfl, fun x dx hx hdx hne => ⟨x, dx, vt, D, true, as, td, ps, m, i, rfl, upd_same, hv.same (same_two hx hdx hne), hp.same (same_two hx hdx hne), hP.same (same_two hx hdx hne), hf, hm, hi, hsz, fun H' k pl => ⟨rfl, q x H' (e1.trans (same_new hx hdx hne k)) pl⟩⟩⟩
    | rshows =>
      refine ⟨_, rfl, rfl, _, rfl, itN (by decide +kernel) ?_⟩
      refine ⟨_, rfl, rfl, _, rfl, itN (by decide +kernel) ?_⟩
      refine ⟨_, rfl, rfl, _, rfl, itN (by decide +kernel) ?_⟩
      refine ⟨_, rfl, rfl, _, rfl, itN (by decide +kernel) ?_⟩
      refine ⟨_, rfl, rfl, _, rfl, itN (by decide +kernel) ?_⟩
      refine ⟨_, rfl, rfl, _, rfl, itN (by decide +kernel) ?_⟩
      refine ⟨_, rfl, rfl, _, rfl, itN (by decide +kernel) ?_⟩
      refine ⟨_, rfl, rfl, _, rfl, itN (by decide +kernel) ?_⟩
      refine ⟨_, rfl, rfl, _, rfl, itN (by decide +kernel) ?_⟩
      refine ⟨_, rfl, rfl, _, rfl, itN (by decide +kernel) ?_⟩
      refine ⟨_, rfl, _, rfl, fun x dx hx hdx hne => ⟨x, dx, vt, D, true, as, td, ps, m, i, rfl, upd_same, hv.same (same_two hx hdx hne), hp.same (same_two hx hdx hne), hP.same (same_two hx hdx hne), hf, hm, hi, hsz, fun H' k pl => ⟨rfl, q x H' (e1.trans (same_new hx hdx hne k)) pl⟩⟩⟩
end
end PL
end
section
set_option maxHeartbeats 4000000
/-! D27: texts by own walks. -/
namespace PL
open PySem PySem.Spec PyProof.Rows L2
section
variable {w : World} {K : PySem.W.Frag} {mg : Str → Option Value} {base : Heap}
def sp__law_written (K : PySem.W.Frag) : Sp := fun vs H Q _ => ∃ v n, vs = [v] ∧ Td H v (Nm.data n) ∧ n.ok ∧ ∀ H', Same H H' → Q (.str n.txt) H'
theorem ok__law_written (T : Txt K mg) : FnOk P0 w K mg base CX0 1 (aF K "_law_written") (dF K "_law_written") ["_law_number_here"] (sp__law_written K) := by
  refine T.f__law_written.ok sc__law_written (fun vs H Q E h => by first | (obtain ⟨_, rfl, _⟩ := h; rfl) | (obtain ⟨_, _, rfl, _⟩ := h; rfl) | (obtain ⟨_, _, _, rfl, _⟩ := h; rfl) | (obtain ⟨_, _, _, _, rfl, _⟩ := h; rfl) | (obtain ⟨_, _, _, _, _, rfl, _⟩ := h; rfl) | (obtain ⟨_, _, _, _, _, _, rfl, _⟩ := h; rfl) | (obtain ⟨_, _, _, _, _, _, _, rfl, _⟩ := h; rfl) | (obtain ⟨_, _, _, _, _, _, _, _, rfl, _⟩ := h; rfl) | (obtain ⟨_, _, _, _, _, _, _, _, _, rfl, _⟩ := h; rfl) | (obtain ⟨_, _, _, _, _, _, _, _, _, _, rfl, _⟩ := h; rfl) | (obtain ⟨_, _, _, _, _, _, _, _, _, _, _, rfl, _⟩ := h; rfl) | (obtain ⟨_, _, _, _, _, _, _, _, _, _, _, _, rfl, _⟩ := h; rfl) | (obtain ⟨_, _, _, _, _, _, _, _, _, _, _, _, _, rfl, _⟩ := h; rfl) | (obtain ⟨_, _, _, _, _, _, _, _, _, _, _, _, _, _, rfl, _⟩ := h; rfl) | (obtain ⟨_, _, _, _, _, _, _, _, _, _, _, _, _, _, _, rfl, _⟩ := h; rfl) | (obtain ⟨_, _, _, _, _, _, _, _, _, _, _, _, _, _, _, _, rfl, _⟩ := h; rfl) | (obtain ⟨rfl, _⟩ := h; rfl)) (fun cdv A outer s H vs Q E hr h => ?_)
  obtain ⟨v, n, rfl, hv, hn, q⟩ := h
  refine ⟨_, ((pss_one (ps_ret (pe_ifExp (pt_val (pe_callB (kisi K rfl) (by rfl) T.z_isinstance bt_isinstance (pa_cons (pv 0) (pa_cons (pe_bltn (v := .ty "int") (by rfl) T.z_int bt_int rfl) pa_nil)))) (pe_callTy call_str_int (by rfl) T.z_str bt_str (pa_cons (pv 0) pa_nil)) (pe_joined (PJ.cons (pe_fmt (pe_ix (kix K rfl) (pv 0) pe_int (fun _ _ => rfl))) (PJ.cons pe_str (PJ.cons (pe_fmt (pe_ix (kix K rfl) (pv 0) pe_int (fun _ _ => rfl))) PJ.nil)))))))), ?_⟩
  cases n with
  | i n =>
    cases hv
    refine ⟨_, rfl, _, _, _, _, true, rfl, .ty _, .base (.int _), kit_ty (by decide +kernel), true, rfl, ?_⟩
    exact ⟨_, rfl, _, rfl, num_log hn.wide, q _ (Same.refl _)⟩
  | f p d =>
    have h2 : smallI d := ⟨by have := hn.2.1; omega, by have := hn.2.2.1; omega⟩
    obtain ⟨a, xs, rfl, g1, g2, g3⟩ := hv.tuple_inv
    obtain ⟨x, y, rfl⟩ : ∃ x y, xs = [x, y] := by
      match xs, g2 with
      | [x, y], _ => exact ⟨x, y, rfl⟩
    have hx : x = .int p := by cases g3 0 x _ rfl rfl; rfl
    have hy : y = .int d := by cases g3 1 y _ rfl rfl; rfl
    subst hx hy
    refine ⟨_, rfl, _, _, _, _, false, rfl, .ty _, .base (.tup g1), kit_ty (by decide +kernel), false, rfl, ?_⟩
    have l1 := num_len hn.1.wide
    have l2 := num_len h2.wide
    have z : (10 : Nat) ≤ sizeLine := by decide
    have ls : (("/" : Str)).length = 1 := by decide +kernel
    have le : (Str.empty).length = 0 := by decide +kernel
    refine ⟨_, rfl, a, false, _, 0, _, rfl, rfl, SqT.of g1, rfl, .inr ⟨_, rfl, num_log hn.1.wide, _, rfl, ?_, _, rfl, ?_, _, rfl, a, false, _, 1, _, rfl, rfl, SqT.of g1, rfl, .inr ⟨_, rfl, num_log h2.wide, _, rfl, ?_, ?_⟩⟩⟩
    · show (Str.empty ++ num p).length ≤ _
      rw [slen_app, le]
      omega
    · show (Str.empty ++ num p ++ ("/" : Str)).length ≤ _
      rw [slen_app, slen_app, le, ls]
      omega
    · show (Str.empty ++ num p ++ ("/" : Str) ++ num d).length ≤ _
      rw [slen_app, slen_app, slen_app, le, ls]
      omega
    · have e : (Str.empty ++ num p ++ ("/" : Str) ++ num d) = (Nm.f p d).txt := by
        show _ = num p ++ (("/" : Str) ++ num d)
        rw [Str.empty_append, Str.append_assoc]
      show Q (.str (Str.empty ++ num p ++ ("/" : Str) ++ num d)) _
      rw [e]
      exact q _ (Same.refl _)
/-! ### words by their kinds -/
theorem in_leaf (w : Wd) : inV (V.str w.s) [.str "end", .str "hole"] = w.isLeaf := by cases w <;> decide +kernel
theorem in_many (w : Wd) : inV (V.str w.s) [.str "draw", .str "keeper-move", .str "rival-move"] = (w = .draw || w.isMove) := by cases w <;> decide +kernel
theorem in_shows (w : Wd) : inV (V.str w.s) [.str "keeper-shows", .str "rival-shows"] = w.isShows := by cases w <;> decide +kernel
theorem in_rows (w : Wd) : inV (V.str w.s) [.str "end", .str "keeper-sees", .str "rival-sees"] = (w = .fin || w.isSees) := by cases w <;> decide +kernel
def sp__law_items (K : PySem.W.Frag) (n : Nat) : Sp := fun vs H Q _ => ∃ v t, vs = [v] ∧ Td H v (Tr.data t) ∧ WF t ∧ Sz t ∧ t.lev ≤ n ∧ ∀ p H', H p = none → Same H H' → H' p = some (.lst (t.items.map V.str)) → Q (.ref p) H'
theorem fl_bound (O : Nat → List Str) (P : List Str) {N j : Nat} (hP : P.length + ((List.range N).flatMap O).length ≤ 9000) (hj : j + 1 ≤ N) : (P ++ (List.range j).flatMap O).length + (O j).length ≤ 9000 := by
  have h1 := flat_le O hj
  rw [flat_succ, List.length_append] at h1
  rw [List.length_append]
  omega
def FInv (H : Hp) (hd : List (Option V)) (out : Nat → List Str) (hds : List Str) (mn : Nat) (j : Nat) (σ : L2.St) (H' : Hp) : Prop :=
  ∃ (F : Addr) (s8 s9 s12 : Option V), σ = hd ++ [some (.int ((mn : Nat) : Int)), some (.ref F), s8, s9, none, none, s12] ∧ Same H H' ∧ H F = none ∧ H' F = some (.lst ((hds ++ (List.range j).flatMap out).map V.str))
theorem ok__law_items (T : Txt K mg) : ∀ n : Nat, FnOk P0 w K mg base CX0 (2 + n) (aF K "_law_items") (dF K "_law_items") ["_law_tree_here"] (sp__law_items K n)
  | 0 => ⟨fun vs H Q E h => by (obtain ⟨_, t, _, _, _, _, h, _⟩ := h; have := lev_pos t; omega), fun A outer s H args us vs Q E _ _ _ _ h => by (obtain ⟨_, t, _, _, _, _, h, _⟩ := h; have := lev_pos t; omega)⟩
  | n + 1 => by
    have G__law_items := ok__law_items T n
    have G__law_written := ok__law_written (w := w) (base := base) T
    refine T.f__law_items.ok sc__law_items (fun vs H Q E h => by (obtain ⟨_, _, rfl, _⟩ := h; rfl)) (fun cdv A outer s H vs Q E hr h => ?_)
    obtain ⟨v, t, rfl, hv, hwf, hsz, hn, q⟩ := h
    have hr : Room (2 + n) (A.deeper _) := hr
    refine ⟨_, ((pss_cons (ps_asg (pv 0) (kgtup K 5 rfl rfl (pgs_cons (pg_name (i := 1) sc__law_items.nd rfl (Or.inl rfl)) (pgs_cons (pg_name (i := 2) sc__law_items.nd rfl (Or.inl rfl)) (pgs_cons (pg_name (i := 3) sc__law_items.nd rfl (Or.inl rfl)) (pgs_cons (pg_name (i := 4) sc__law_items.nd rfl (Or.inl rfl)) (pgs_cons (pg_name (i := 5) sc__law_items.nd rfl (Or.inl rfl)) pgs_nil)))))))
    (pss_cons (ps_set (i := 6) sc__law_items.nd rfl (Or.inl rfl) (pe_callB (klen K rfl) (by rfl) T.z_len bt_len (pa_cons (pv 3) pa_nil)))
    (pss_cons (ps_if (pt_cmpR (kin K rfl) (pv 1) (pe_tup (pa_cons pe_str (pa_cons pe_str pa_nil))) rfl) (pss_one (ps_set (i := 7) sc__law_items.nd rfl (Or.inl rfl) (pe_lst (pa_cons (pv 1) (pa_cons (pe_callTy call_str_int (by rfl) T.z_str bt_str (pa_cons (pv 4) pa_nil)) (pa_cons (pe_callTy call_str_int (by rfl) T.z_str bt_str (pa_cons (pv 5) pa_nil)) pa_nil)))))) (pss_cons (ps_if (pt_cmpR (knotin K rfl) (pv 1) (pe_tup (pa_cons pe_str (pa_cons pe_str (pa_cons pe_str pa_nil)))) rfl) (pss_one (ps_set (i := 6) sc__law_items.nd rfl (Or.inl rfl) (pe_ifExp (pt_cmpR op_eq (pe_slice sl_str (pv 1) po_none (po_some pe_int)) pe_str (nomark _)) (pv 4) (pv 5)))) pss_nil)
    (pss_one (ps_set (i := 7) sc__law_items.nd rfl (Or.inl rfl) (pe_lst (pa_cons (pv 1) (pa_cons (pe_callTy call_str_int (by rfl) T.z_str bt_str (pa_cons (pv 6) pa_nil)) pa_nil)))))))
    (pss_cons (ps_for PassesOwn.never rfl (kenum K rfl (by rfl) T.z_enumerate (pa_cons (pe_ifExp (pt_cmpR (knotin K rfl) (pv 1) (pe_tup (pa_cons pe_str (pa_cons pe_str pa_nil))) rfl) (pv 2) (pe_listRg rfl rfl T.z_list (prg_1 rfl T.z_range (pv 6)))) pa_nil)) (kgtup K 2 rfl rfl (pgs_cons (pg_name (i := 8) sc__law_items.nd rfl (Or.inl rfl)) (pgs_cons (pg_name (i := 9) sc__law_items.nd rfl (Or.inr rfl)) pgs_nil))) (pss_one (ps_if (pt_cmpR (kin K rfl) (pv 1) (pe_tup (pa_cons pe_str (pa_cons pe_str pa_nil))) rfl) (pss_one (ps_expr (kapp K rfl (pv 7) (pe_callTy call_str_int (by rfl) T.z_str bt_str (pa_cons (pe_ix (kix K rfl) (pe_lc (own := [("_law_number_here", 10), ("_law_lot", 11)]) rfl sc__law_items.nd (kenum K rfl (by rfl) T.z_enumerate (pa_cons (pv 2) pa_nil)) (blkOk_by (by kernel_rfl)) (fun _ _ _ _ _ => (kgtup K 2 rfl rfl (pgs_cons (pg_name (i := 10) sc__law_items.nd rfl (Or.inl rfl)) (pgs_cons (pg_name (i := 11) sc__law_items.nd rfl (Or.inl rfl)) pgs_nil)))) (fun _ _ _ _ _ => (pts_one (pt_cmpR (kin K rfl) (pv 9) (pv 11) rfl))) (fun _ _ _ _ _ => (pv 10))) pe_int (fun _ _ => rfl)) pa_nil))))) (pss_one (ps_if (pt_cmpR (kin K rfl) (pv 1) (pe_tup (pa_cons pe_str (pa_cons pe_str (pa_cons pe_str pa_nil)))) rfl) (pss_one (ps_set (i := 7) sc__law_items.nd rfl (Or.inl rfl) (pe_op op_cat (pe_op op_cat (pv 7) (pe_ifExp (pt_cmpR op_ne (pv 1) pe_str (nomark _)) (pe_lst (pa_cons (pe_callTy call_str_int (by rfl) T.z_str bt_str (pa_cons (pe_callB (klen K rfl) (by rfl) T.z_len bt_len (pa_cons (pv 9) pa_nil)) pa_nil)) pa_nil)) (pe_lst pa_nil))) (pe_lc (own := [("_law_number_here", 10)]) rfl sc__law_items.nd (kpi K rfl (pv 9)) (blkOk_by (by kernel_rfl)) (fun _ _ _ _ _ => (pg_name (i := 10) sc__law_items.nd rfl (Or.inl rfl))) (fun _ _ _ _ _ => pts_nil) (fun _ _ _ _ _ => (pe_call G__law_written (hr.mono (by omega)) rfl T.g__law_written T.f__law_written.kp T.b__law_written .nil pass0 (pa_cons (pv 10) pa_nil))))))) (pss_one (ps_expr (kapp K rfl (pv 7) (pe_call G__law_written (hr.mono (by omega)) rfl T.g__law_written T.f__law_written.kp T.b__law_written .nil pass0 (pa_cons (pv 9) pa_nil))))))))))
    (pss_cons (ps_for PassesOwn.never rfl (kpi K rfl (pv 3)) (pg_name (i := 12) sc__law_items.nd rfl (Or.inl rfl)) (pss_one (ps_set (i := 7) sc__law_items.nd rfl (Or.inl rfl) (pe_op op_cat (pv 7) (pe_call G__law_items (hr.mono (by omega)) rfl T.g__law_items T.f__law_items.kp T.b__law_items .nil pass0 (pa_cons (pv 12) pa_nil))))))
    (pss_one (ps_ret (pv 7))))))))), ?_⟩
    match t, hv, hwf, hsz, hn, q with
    | .node wd td ps m i, hv, hwf, hsz, hn, q =>
    have hf := hwf.fit
    have hm : 1 ≤ m ∧ m ≤ 8 := hwf.hm
    have hi : 1 ≤ i ∧ i ≤ 8 := hwf.hi
    have h6 := parts_le6 hf
    have hsm := items_small hwf hsz
    rw [Tr.items] at hsm q
    obtain ⟨a, vt, b, xs, rfl, h1, h2, h3, h4, h5⟩ := hv.node
    replace h1 : H a = some (.tup [.str wd.s, vt, .ref b, .int ((m : Nat) : Int), .int ((i : Nat) : Int)]) := h1
    replace h2 : Td H vt td.data := h2
    replace h4 : xs.length = ps.length := h4
    replace h5 : ∀ (k : Nat) x p, xs[k]? = some x → ps[k]? = some p → Td H x p.data := h5
    obtain ⟨v0, hv0⟩ : ∃ v0 : V, v0 = .ref a := ⟨_, rfl⟩
    rw [← hv0]
    refine ⟨_, rfl, a, _, hv0, SqT.of h1, rfl, _, _, rfl, _, _, rfl, _, _, rfl, _, _, rfl, _, _, rfl, rfl, ?_⟩
    refine ⟨_, rfl, b, false, _, rfl, SqT.of h3, ?_⟩
    have pre : ∀ (Rr : L2.St → Hp → Prop), (∀ (mn : Nat) F H2, (wd.isShows = true → mn = cntOf wd ps.length m i) → Same H H2 → H F = none → H2 F = some (.lst ((wd.s :: headItems wd ps.length m i).map V.str)) → Rr [some v0, some (.str wd.s), some vt, some (.ref b), some (.int ((m : Nat) : Int)), some (.int ((i : Nat) : Int)), some (.int ((mn : Nat) : Int)), some (.ref F), none, none, none, none, none] H2) →
        (tIfS (tTest (tOp (rIn K false) (tVar 1) (tTup (tCons (tC (V.str "end")) (tCons (tC (V.str "hole")) tNil)))))
          (tAsg (tLst (tCons (tVar 1) (tCons (tCB (fun xs H Q => ∃ i, xs = [V.int i] ∧ i.natAbs.log2 < 1920 ∧ Q (V.str (toString i)) H) (tCons (tVar 4) tNil)) (tCons (tCB (fun xs H Q => ∃ i, xs = [V.int i] ∧ i.natAbs.log2 < 1920 ∧ Q (V.str (toString i)) H) (tCons (tVar 5) tNil)) tNil)))) (gName 7))
          (tSeq (tIfS (tTest (tOp (rIn K true) (tVar 1) (tTup (tCons (tC (V.str "draw")) (tCons (tC (V.str "keeper-move")) (tCons (tC (V.str "rival-move")) tNil))))))
            (tAsg (tIf (tTest (tOp rEq (tSl rSlS (tVar 1) tNoPart (tPart (tC (V.int 7)))) (tC (V.str "keeper-")))) (tVar 4) (tVar 5)) (gName 6)) tNext)
            (tAsg (tLst (tCons (tVar 1) (tCons (tCB (fun xs H Q => ∃ i, xs = [V.int i] ∧ i.natAbs.log2 < 1920 ∧ Q (V.str (toString i)) H) (tCons (tVar 6) tNil)) tNil))) (gName 7)))) { nx := Rr, rt := Q } [some v0, some (.str wd.s), some vt, some (.ref b), some (.int ((m : Nat) : Int)), some (.int ((i : Nat) : Int)), some (.int ((xs.length : Nat) : Int)), none, none, none, none, none, none] H := by
      intro Rr hR
      refine ⟨_, rfl, (by show 2 ≤ sizeLine; decide), fun p1 hp1 => ⟨p1, _, rfl, .inr (SqT.of upd_same), rfl, rfl, _, rfl, ?_⟩⟩
      have e1 : Same H (upd H p1 (.tup [.str "end", .str "hole"])) := same_upd hp1
      generalize upd H p1 (.tup [.str "end", .str "hole"]) = H1 at e1 ⊢
      by_cases hlf : wd.isLeaf = true
      · refine itP (by show inV _ _ = true; rw [in_leaf, hlf]) ?_
        refine ⟨_, rfl, _, rfl, _, rfl, num_log ⟨by omega, by omega⟩, _, rfl, _, rfl, num_log ⟨by omega, by omega⟩, (by show 3 ≤ sizeLine; decide), fun F hF => ?_⟩
        rw [h4]
        refine hR ps.length F _ (fun z => absurd z (by cases wd <;> first | (exact absurd hlf (by decide)) | decide)) (Same.snoc e1 hF) (Same.none_of e1 hF) ?_
        rw [upd_same]
        have : headItems wd ps.length m i = [num ((m : Nat) : Int), num ((i : Nat) : Int)] := by
          unfold headItems
          rw [if_pos hlf]
        rw [this]
        rfl
      · have hlf' : wd.isLeaf = false := Bool.eq_false_iff.mpr hlf
        refine itN (by show ¬ inV _ _ = true; rw [in_leaf, hlf']; decide) ?_
        have hh : headItems wd ps.length m i = [num ((cntOf wd ps.length m i : Nat) : Int)] := by
          unfold headItems cntOf
          rw [if_neg hlf]
          split <;> rfl
        have hcnt : cntOf wd ps.length m i ≤ 8 := by
          unfold cntOf
          split
          · split <;> omega
          · omega
        refine ⟨_, rfl, (by show 3 ≤ sizeLine; decide), fun p2 hp2 => ⟨p2, _, rfl, .inr (SqT.of upd_same), rfl, rfl, _, rfl, ?_⟩⟩
        have e2 : Same H1 (upd H1 p2 (.tup [.str "draw", .str "keeper-move", .str "rival-move"])) := same_upd hp2
        generalize upd H1 p2 (.tup [.str "draw", .str "keeper-move", .str "rival-move"]) = H2 at e2 ⊢
        have e12 := e1.trans e2
        have fin : (tAsg (tLst (tCons (tVar 1) (tCons (tCB (fun xs H Q => ∃ i, xs = [V.int i] ∧ i.natAbs.log2 < 1920 ∧ Q (V.str (toString i)) H) (tCons (tVar 6) tNil)) tNil))) (gName 7)) { nx := Rr, rt := Q } [some v0, some (.str wd.s), some vt, some (.ref b), some (.int ((m : Nat) : Int)), some (.int ((i : Nat) : Int)), some (.int ((cntOf wd ps.length m i : Nat) : Int)), none, none, none, none, none, none] H2 := by
          refine ⟨_, rfl, _, rfl, _, rfl, num_log ⟨by omega, by omega⟩, (by show 2 ≤ sizeLine; decide), fun F hF => ?_⟩
          refine hR (cntOf wd ps.length m i) F _ (fun _ => rfl) (Same.snoc e12 hF) (Same.none_of e12 hF) ?_
          rw [upd_same, hh]
          rfl
        by_cases hmv : (wd = .draw || wd.isMove) = true
        · refine itN (by show ¬ (!inV _ _) = true; rw [in_many, hmv]; decide) ?_
          have hc : cntOf wd ps.length m i = xs.length := by
            rw [h4]
            unfold cntOf
            cases wd <;> first | (exact absurd hmv (by decide)) | rfl
          rw [hc] at fin
          exact fin
        · refine itP (by show (!inV _ _) = true; rw [in_many, Bool.eq_false_iff.mpr hmv]; rfl) ?_
          have hc : cntOf wd ps.length m i = if wd.isK then m else i := by
            unfold cntOf
            cases wd <;> first | (exact absurd rfl hlf) | (exact absurd rfl hmv) | rfl
          refine ⟨_, rfl, _, rfl, wd.s, rfl, Nat.le_trans (clean_wd wd).1 (by decide), rfl, _, rfl, ?_⟩
          by_cases hK : wd.isK = true
          · refine itP ?_ ⟨_, rfl, ?_⟩
            · cases wd <;> first | (exact absurd hK (by decide)) | (decide +kernel)
            · rw [hc, if_pos hK] at fin
              exact fin
          · refine itN ?_ ⟨_, rfl, ?_⟩
            · cases wd <;> first | (exact absurd rfl hK) | (exact absurd rfl hlf) | (exact absurd rfl hmv) | (decide +kernel)
            · rw [hc, if_neg hK] at fin
              exact fin
    refine pre _ fun mn F0 H2 hmn e2 hF0 hF2 => ?_
    clear pre
    have hsm' : (headItems wd ps.length m i).length + (toldItems wd td).length + (itemsL ps).length ≤ 8999 := by
      simp only [List.length_cons, List.length_append] at hsm
      omega
    -- the parts
    have loop2 : ∀ (F : Addr) (s8 s9 s12 : Option V) (H3 : Hp) (vt' : V), Same H H3 → H F = none → H3 F = some (.lst ((wd.s :: headItems wd ps.length m i ++ toldItems wd td).map V.str)) →
        (tSeq (tFor (iAny K (tVar 3)) (gName 12) (tAsg (tOp rCat (tVar 7) (tCall (sp__law_items K n) [] E0 (tCons (tVar 12) tNil))) (gName 7))) (tRet (tVar 7))) { nx := fun _ H' => Q V.non H', rt := Q } [some v0, some (.str wd.s), some vt', some (.ref b), some (.int ((m : Nat) : Int)), some (.int ((i : Nat) : Int)), some (.int ((mn : Nat) : Int)), some (.ref F), s8, s9, none, none, s12] H3 := by
      intro F s8 s9 s12 H3 vt' e3 hF hF3
      refine ⟨_, rfl, b, false, rfl, ⟨_, SqT.of (e3 _ _ h3)⟩, ?_⟩
      have hfl : ((List.range xs.length).flatMap fun j => (ps.getD j (.node .hole .unit [] 0 0)).items) = itemsL ps := by
        rw [h4, flat_get (fun p : Tr => p.items) ps, itemsL_flat]
      refine for_it (walk_B (xs := xs) false) (fun j σ H' => ∃ F s12, σ = [some v0, some (.str wd.s), some vt', some (.ref b), some (.int ((m : Nat) : Int)), some (.int ((i : Nat) : Int)), some (.int ((mn : Nat) : Int)), some (.ref F), s8, s9, none, none, s12] ∧ Same H H' ∧ H F = none ∧ H' F = some (.lst ((wd.s :: headItems wd ps.length m i ++ toldItems wd td ++ (List.range j).flatMap fun j => (ps.getD j (.node .hole .unit [] 0 0)).items).map V.str))) ⟨F, s12, rfl, e3, hF, by rw [hF3]; simp⟩ (fun j σ H' _ h => by (obtain ⟨_, _, _, e, _⟩ := h; exact SqT.of (e _ _ h3))) ?_ ?_
      · rintro j x σ H4 H4' hj ⟨F, s12, rfl, e4, hF, hL⟩ ⟨rfl, hx⟩
        have hj' : j < ps.length := by omega
        have hpj : ps[j]? = some ps[j] := List.getElem?_eq_getElem hj'
        have hmem := List.getElem_mem hj'
        have hlev := lev_mem hmem
        rw [Tr.lev] at hn
        refine ⟨_, rfl, _, rfl, x, ps[j], rfl, (h5 j x _ hx hpj).same e4, hwf.sub _ hmem, hsz.sub _ hmem, by omega, fun p5 H5 hp5 e5 h5' => ?_⟩
        have hle : ((List.range (j + 1)).flatMap fun j => (ps.getD j (.node .hole .unit [] 0 0)).items).length ≤ (itemsL ps).length := by
          rw [← hfl]
          exact flat_le _ (by omega)
        have ej : (ps.getD j (.node .hole .unit [] 0 0)).items = ps[j].items := by rw [List.getD_eq_getElem?_getD, hpj]; rfl
        rw [flat_succ, ej, List.length_append] at hle
        refine ⟨F, p5, _, _, rfl, rfl, e5 _ _ hL, h5', ?_, fun p6 hp6 => ?_⟩
        · rw [List.length_map, List.length_map]
          simp only [List.length_cons, List.length_append]
          exact Nat.le_trans (show _ ≤ 9000 by omega) (by decide)
        · refine ⟨p6, _, rfl, Same.snoc (e4.trans e5) hp6, Same.none_of (e4.trans e5) hp6, ?_⟩
          rw [upd_same, flat_succ, ej, ← List.append_assoc]
          simp only [List.map_append]
      · rintro σ H4 ⟨F, s12, rfl, e4, hF, hL⟩
        rw [hfl] at hL
        refine ⟨_, rfl, q F H4 hF e4 ?_⟩
        rw [hL]
        simp
    refine ⟨_, rfl, (by show 2 ≤ sizeLine; decide), fun p3 hp3 => ⟨p3, _, rfl, .inr (SqT.of upd_same), rfl, rfl, _, rfl, ?_⟩⟩
    have e23 : Same H2 (upd H2 p3 (.tup [.str "keeper-shows", .str "rival-shows"])) := same_upd hp3
    generalize upd H2 p3 (.tup [.str "keeper-shows", .str "rival-shows"]) = H3 at e23 ⊢
    have e3 := e2.trans e23
    have hF3 := e23 _ _ hF2
    by_cases hs : wd.isShows = true
    · refine itN (by show ¬ (!inV _ _) = true; rw [in_shows, hs]; decide) ?_
      obtain ⟨c, rfl, hc, hcl, hcl6⟩ : ∃ c, td = .lots c ∧ Rgs c ∧ c.length = cntOf wd ps.length m i ∧ (lotsOf c).length ≤ 6 := by
        cases wd <;> first | (exact absurd hs (by decide)) | skip
        · obtain ⟨c, rfl, h1, h2, h3, _⟩ := hf; exact ⟨c, rfl, h1, h2, h3.2⟩
        · obtain ⟨c, rfl, h1, h2, h3, _⟩ := hf; exact ⟨c, rfl, h1, h2, h3.2⟩
      have hmn' : mn = c.length := by rw [hmn hs, hcl]
      subst hmn'
      have hc8 : c.length ≤ 8 := by
        rw [hcl]
        unfold cntOf
        split
        · split <;> omega
        · omega
      obtain ⟨ta, ls, rfl, g1, g2, g3⟩ := h2.tuple_inv
      rw [List.length_map] at g2
      have hrl : (rgV 0 ((c.length : Nat) : Int)).length = c.length := by
        rw [rgV_length]
        omega
      have hfl : ((List.range (rgV 0 ((c.length : Nat) : Int)).length).flatMap fun j => [num ((c.getD j 0 : Nat) : Int)]) = toldItems wd (.lots c) := by
        rw [hrl, flat_one]
        show _ = c.map fun (k : Nat) => num (k : Int)
        refine List.ext_getElem (by simp) fun u h1 h2 => ?_
        have hu : u < c.length := by simpa using h1
        simp [List.getD_eq_getElem?_getD, List.getElem?_eq_getElem hu]
      refine ⟨_, rfl, _, rfl, RgOk.of_le (by decide) (by omega) (by decide) (by omega), fun qa hqa => ?_⟩
      have hqF : F0 ≠ qa := ne_of_none hF3 hqa
      have e34 : Same H3 (upd H3 qa (.lst (rgV 0 ((c.length : Nat) : Int)))) := same_upd hqa
      have hq4 : upd H3 qa (.lst (rgV 0 ((c.length : Nat) : Int))) qa = some (.lst (rgV 0 ((c.length : Nat) : Int))) := upd_same
      generalize upd H3 qa (.lst (rgV 0 ((c.length : Nat) : Int))) = H4 at e34 hq4 ⊢
      refine ⟨qa, _, rfl, .inl ⟨SqL.of hq4, ?_⟩⟩
      have hlen : ∀ j, j + 1 ≤ (rgV 0 ((c.length : Nat) : Int)).length → ((wd.s :: headItems wd ps.length m i) ++ (List.range j).flatMap fun j => [num ((c.getD j 0 : Nat) : Int)]).length + ((fun j => [num ((c.getD j 0 : Nat) : Int)]) j).length ≤ 9000 := fun j hj =>
        fl_bound (fun j => [num ((c.getD j 0 : Nat) : Int)]) _ (by rw [List.length_cons, hfl]; omega) hj
      refine for_it walk_enum (fun j σ H' => (∃ s8 s9 s12, σ = [some v0, some (.str wd.s), some (.ref ta), some (.ref b), some (.int ((m : Nat) : Int)), some (.int ((i : Nat) : Int)), some (.int ((c.length : Nat) : Int)), some (.ref F0), s8, s9, none, none, s12]) ∧ Same H H' ∧ H' F0 = some (.lst (((wd.s :: headItems wd ps.length m i) ++ (List.range j).flatMap fun j => [num ((c.getD j 0 : Nat) : Int)]).map V.str)) ∧ H' qa = some (.lst (rgV 0 ((c.length : Nat) : Int)))) ⟨⟨none, none, none, rfl⟩, e3.trans e34, by rw [e34 _ _ hF3]; simp, hq4⟩ (fun j σ H' _ h => SqL.of h.2.2.2) ?_ ?_
      · rintro j x σ H5 H5' hj ⟨⟨s8, s9, s12, rfl⟩, e5, hF5, hq5⟩ ⟨T1, y1, y2, rfl, hT1, rfl, hy1, hy2⟩
        cases hy1
        rw [hrl] at hj
        have hcj : c[j]? = some c[j] := List.getElem?_eq_getElem hj
        have ey2 : y2 = .int ((j : Nat) : Int) := by
          have hy2 : (rgV 0 ((c.length : Nat) : Int))[j]? = some y2 := hy2
          unfold rgV at hy2
          rw [List.getElem?_map, List.getElem?_range (by omega)] at hy2
          have := Option.some.inj hy2
          rw [← this]
          show V.int (0 + ((j : Nat) : Int)) = _
          rw [Int.zero_add]
        subst ey2
        have eT : Same H5 (upd H5 T1 (.tup [.int (j : Nat), .int ((j : Nat) : Int)])) := same_upd hT1
        refine ⟨_, _, rfl, SqT.of upd_same, rfl, _, _, rfl, _, _, rfl, rfl, ?_⟩
        generalize upd H5 T1 (.tup [.int (j : Nat), .int ((j : Nat) : Int)]) = H6 at eT ⊢
        refine ⟨_, rfl, (by show 2 ≤ sizeLine; decide), fun pa hpa => ⟨pa, _, rfl, .inr (SqT.of upd_same), rfl, rfl, _, rfl, itP (by show inV _ _ = true; rw [in_shows, hs]) ?_⟩⟩
        have ea : Same H6 (upd H6 pa (.tup [.str "keeper-shows", .str "rival-shows"])) := same_upd hpa
        generalize upd H6 pa (.tup [.str "keeper-shows", .str "rival-shows"]) = H7 at ea ⊢
        have e57 := eT.trans ea
        have g17 := (e5.trans e57) _ _ g1
        refine ⟨_, rfl, .inl ⟨rfl, _, SqL.of (e57 _ _ hF5)⟩, _, rfl, ta, ls, rfl, .inr ⟨SqT.of g17, fun D hD => ?_⟩⟩
        refine lc_it walk_enumT (fun u H' => Same H7 H' ∧ H' D = some (.lst ((List.range u).flatMap fun u => if j ∈ (lotsOf c).getD u [] then [V.int ((u : Nat) : Int)] else []))) ⟨Same.mut (Same.refl _) hD, upd_same⟩ (fun u H' _ h => SqT.of (h.1 _ _ g17)) ?_ ?_
        · rintro u x H8 H8' hu ⟨e8, hD8⟩ ⟨T2, z1, z2, rfl, hT2, rfl, hz1, hz2⟩
          cases hz1
          have hu' : u < (lotsOf c).length := by omega
          have hlu : (lotsOf c)[u]? = some (lotsOf c)[u] := List.getElem?_eq_getElem hu'
          have eU : Same H8 (upd H8 T2 (.tup [.int (u : Nat), z2])) := same_upd hT2
          obtain ⟨b2, ws, rfl, w1, w2, w3⟩ := ((g3 u z2 (lotD (lotsOf c)[u]) hz2 (by rw [List.getElem?_map, hlu] <;> rfl)).same ((e5.trans e57).trans (e8.trans eU))).tuple_inv
          rw [List.length_map] at w2
          have ew : ws = ((lotsOf c)[u]).map fun (k : Nat) => V.int (k : Int) := ys_map w2 fun z v hv n hn => by
            have := w3 z v (.int (n : Int)) hv (by rw [List.getElem?_map, hn] <;> rfl)
            cases this
            rfl
          have eg : (lotsOf c).getD u [] = (lotsOf c)[u] := by rw [List.getD_eq_getElem?_getD, hlu]; rfl
          refine ⟨_, _, rfl, SqT.of upd_same, rfl, _, _, rfl, _, _, rfl, rfl, rfl, ?_⟩
          refine ⟨_, rfl, _, rfl, b2, ws, rfl, .inr (SqT.of w1), rfl, ?_, _, rfl, ?_⟩
          · rw [ew, List.all_map]
            exact List.all_eq_true.mpr fun _ _ => rfl
          have hin : inV (.int ((j : Nat) : Int)) ws = decide (j ∈ (lotsOf c)[u]) := by
            rw [ew]
            exact inV_nat _ _
          have hD9 : upd H8 T2 (.tup [.int (u : Nat), .ref b2]) D = some (.lst ((List.range u).flatMap fun u => if j ∈ (lotsOf c).getD u [] then [V.int ((u : Nat) : Int)] else [])) := eU _ _ hD8
          show if inV (.int ((j : Nat) : Int)) ws = true then _ else _
          rw [hin]
          by_cases hmem : j ∈ (lotsOf c)[u]
          · refine itP (decide_eq_true hmem) ⟨_, rfl, _, hD9, ?_, Same.mut (e8.trans eU) hD, ?_⟩
            · have : ∀ u : Nat, ((List.range u).flatMap fun u => if j ∈ (lotsOf c).getD u [] then [V.int ((u : Nat) : Int)] else []).length ≤ u := by
                intro u
                induction u with
                | zero => exact Nat.le_refl _
                | succ u ih =>
                  rw [flat_succ, List.length_append]
                  have : (if j ∈ (lotsOf c).getD u [] then [V.int ((u : Nat) : Int)] else []).length ≤ 1 := by split <;> simp
                  omega
              have := this u
              exact Nat.lt_of_le_of_lt (show _ ≤ 6 by omega) (by decide)
            · rw [upd_same, flat_succ, eg, if_pos hmem]
          · refine itN (by rw [decide_eq_false hmem]; decide) ⟨e8.trans eU, ?_⟩
            rw [hD9, flat_succ, eg, if_neg hmem, List.append_nil]
        · rintro H8 ⟨e8, hD8⟩
          have hone : ((List.range ls.length).flatMap fun u => if j ∈ (lotsOf c).getD u [] then [V.int ((u : Nat) : Int)] else []) = [.int ((c[j] : Nat) : Int)] := by
            rw [g2]
            obtain ⟨lot, q1, q2⟩ := lots_at hc hcj
            refine flat_unique (k := c[j]) (lot_lt hc hcj) ?_ fun u hu => ?_
            · rw [List.getD_eq_getElem?_getD, q1]
              exact if_pos q2
            · refine if_neg fun z => hu ?_
              rw [List.getD_eq_getElem?_getD] at z
              cases eu : (lotsOf c)[u]? with
              | none => rw [eu] at z; simp at z
              | some lot2 =>
                rw [eu] at z
                exact lots_uniq hc hcj eu z
          rw [hone] at hD8
          have hF8 := (e57.trans e8) _ _ hF5
          have hz := hlen j (by rw [hrl]; omega)
          have hkl := lot_lt hc hcj
          have ej : num ((c.getD j 0 : Nat) : Int) = num ((c[j] : Nat) : Int) := by rw [List.getD_eq_getElem?_getD, hcj]; rfl
          refine ⟨D, true, _, 0, _, rfl, rfl, SqL.of hD8, rfl, _, rfl, num_log ⟨by omega, by omega⟩, F0, _, _, rfl, rfl, hF8, ?_, ⟨_, _, _, rfl⟩, Same.mut (e5.trans (e57.trans e8)) hF0, ?_, ?_⟩
          · rw [List.length_map]
            exact Nat.lt_of_le_of_lt (show _ ≤ 9000 by omega) (by decide)
          · rw [upd_same, flat_succ, ej, ← List.append_assoc]
            simp only [List.map_append, List.map_cons, List.map_nil]
            rfl
          · rw [upd_ne (fun z => hqF z.symm)]
            exact (e57.trans e8) _ _ hq5
      · rintro σ H5 ⟨⟨s8, s9, s12, rfl⟩, e5, hF5, hq5⟩
        rw [hfl] at hF5
        exact loop2 F0 s8 s9 s12 H5 _ e5 hF0 (by rw [hF5])
    · refine itP (by show (!inV _ _) = true; rw [in_shows, Bool.eq_false_iff.mpr hs]; rfl) ?_
      by_cases hrw : (wd = .fin || wd.isSees) = true
      · obtain ⟨r, rfl, hrok, hr8⟩ : ∃ r, td = .rows r ∧ (∀ x ∈ r, x.length ≤ 8 ∧ ∀ y ∈ x, y.ok) ∧ r.length ≤ 8 := by
          cases wd <;> first | (exact absurd hrw (by decide)) | skip
          · obtain ⟨r, rfl, _, h1, h2⟩ := hf; exact ⟨r, rfl, fun x hx => ⟨by rw [(h2 x hx).1]; exact hi.2, (h2 x hx).2⟩, by omega⟩
          · obtain ⟨r, p, rfl, _, h1, h2, _⟩ := hf; exact ⟨r, rfl, fun x hx => ⟨(h2 x hx).1.2, fun y hy => ((h2 x hx).2 y hy).1⟩, by omega⟩
          · obtain ⟨r, p, rfl, _, h1, h2, _⟩ := hf; exact ⟨r, rfl, fun x hx => ⟨(h2 x hx).1.2, fun y hy => ((h2 x hx).2 y hy).1⟩, by omega⟩
        obtain ⟨ta, rs, rfl, g1, g2, g3⟩ := h2.tuple_inv
        rw [List.length_map] at g2
        have hfl : ((List.range rs.length).flatMap (fun j => (if wd = .fin then [] else [num (((r.getD j []).length : Nat) : Int)]) ++ (r.getD j []).map Nm.txt)) = toldItems wd (.rows r) := by
          rw [g2, flat_get (fun x : List Nm => (if wd = .fin then [] else [num ((x.length : Nat) : Int)]) ++ x.map Nm.txt) r]
          show _ = if wd = .fin then _ else _
          by_cases hw : wd = .fin
          · simp [hw]
          · simp [hw]
        refine ⟨_, rfl, ta, rs, rfl, .inr ⟨SqT.of (e3 _ _ g1), ?_⟩⟩
        have hlen : ∀ j, j + 1 ≤ rs.length → ((wd.s :: headItems wd ps.length m i) ++ (List.range j).flatMap (fun j => (if wd = .fin then [] else [num (((r.getD j []).length : Nat) : Int)]) ++ (r.getD j []).map Nm.txt)).length + ((fun j => (if wd = .fin then [] else [num (((r.getD j []).length : Nat) : Int)]) ++ (r.getD j []).map Nm.txt) j).length ≤ 9000 := fun j hj =>
          fl_bound (fun j => (if wd = .fin then [] else [num (((r.getD j []).length : Nat) : Int)]) ++ (r.getD j []).map Nm.txt) _ (by rw [List.length_cons, hfl]; omega) hj
        refine for_it walk_enumT (FInv H [some v0, some (.str wd.s), some (.ref ta), some (.ref b), some (.int ((m : Nat) : Int)), some (.int ((i : Nat) : Int))] (fun j => (if wd = .fin then [] else [num (((r.getD j []).length : Nat) : Int)]) ++ (r.getD j []).map Nm.txt) (wd.s :: headItems wd ps.length m i) mn) ⟨F0, none, none, none, rfl, e3, hF0, by rw [hF3]; simp⟩ (fun j σ H' _ h => by (obtain ⟨F, _, _, _, _, e, _⟩ := h; exact SqT.of (e _ _ g1))) ?_ ?_
        · rintro j x σ H4 H4' hj ⟨F, s8, s9, s12, rfl, e4, hF, hL⟩ ⟨T1, y1, y2, rfl, hT1, rfl, hy1, hy2⟩
          cases hy1
          have hj' : j < r.length := by omega
          have eT : Same H4 (upd H4 T1 (.tup [.int (j : Nat), y2])) := same_upd hT1
          refine ⟨_, _, rfl, SqT.of upd_same, rfl, _, _, rfl, _, _, rfl, rfl, ?_⟩
          generalize upd H4 T1 (.tup [.int (j : Nat), y2]) = H5 at eT ⊢
          refine ⟨_, rfl, (by show 2 ≤ sizeLine; decide), fun pa hpa => ⟨pa, _, rfl, .inr (SqT.of upd_same), rfl, rfl, _, rfl, itN (by show ¬ inV _ _ = true; rw [in_shows, Bool.eq_false_iff.mpr hs]; decide) ?_⟩⟩
          have ea : Same H5 (upd H5 pa (.tup [.str "keeper-shows", .str "rival-shows"])) := same_upd hpa
          generalize upd H5 pa (.tup [.str "keeper-shows", .str "rival-shows"]) = H6 at ea ⊢
          refine ⟨_, rfl, (by show 3 ≤ sizeLine; decide), fun pb hpb => ⟨pb, _, rfl, .inr (SqT.of upd_same), rfl, rfl, _, rfl, itP (by show inV _ _ = true; rw [in_rows, hrw]) ?_⟩⟩
          have eb : Same H6 (upd H6 pb (.tup [.str "end", .str "keeper-sees", .str "rival-sees"])) := same_upd hpb
          generalize upd H6 pb (.tup [.str "end", .str "keeper-sees", .str "rival-sees"]) = H7 at eb ⊢
          have e47 := (eT.trans ea).trans eb
          have hd := (g3 j y2 (.tuple ((r[j]).map Nm.data)) hy2 (by rw [List.getElem?_map, List.getElem?_eq_getElem hj'] <;> rfl)).same (e4.trans e47)
          obtain ⟨ra, ws, rfl, w1, w2, w3⟩ := hd.tuple_inv
          rw [List.length_map] at w2
          obtain ⟨o8, ook⟩ := hrok _ (List.getElem_mem hj')
          have ej : r.getD j [] = r[j] := by rw [List.getD_eq_getElem?_getD, List.getElem?_eq_getElem hj']; rfl
          have hz := hlen j hj
          simp only [ej, List.length_append, List.length_cons, List.length_map] at hz
          have hL7 := e47 _ _ hL
          have e7 := e4.trans e47
          -- the first part of the sum
          have first : ∀ R : VK, (∀ p H8, Same H7 H8 → H8 p = some (.lst (((wd.s :: headItems wd ps.length m i) ++ (List.range j).flatMap (fun j => (if wd = .fin then [] else [num (((r.getD j []).length : Nat) : Int)]) ++ (r.getD j []).map Nm.txt) ++ (if wd = .fin then [] else [num (((r[j]).length : Nat) : Int)])).map V.str)) → R (.ref p) H8) →
              (tOp rCat (tVar 7) (tIf (tTest (tOp rNe (tVar 1) (tC (V.str "end")))) (tLst (tCons (tCB (fun xs H Q => ∃ i, xs = [V.int i] ∧ i.natAbs.log2 < 1920 ∧ Q (V.str (toString i)) H) (tCons (tCB (rLenA K) (tCons (tVar 9) tNil)) tNil)) tNil)) (tLst tNil))) [some v0, some (.str wd.s), some (.ref ta), some (.ref b), some (.int ((m : Nat) : Int)), some (.int ((i : Nat) : Int)), some (.int ((mn : Nat) : Int)), some (.ref F), some (.int (j : Nat)), some (.ref ra), none, none, s12] H7 R := by
            intro R hR
            refine ⟨_, rfl, _, rfl, rfl, _, rfl, ?_⟩
            by_cases hw : wd = .fin
            · refine itN (by rw [hw]; decide +kernel) ⟨by decide, fun p8 hp8 => ?_⟩
              refine ⟨F, p8, _, _, rfl, rfl, (same_upd hp8) _ _ hL7, upd_same, ?_, fun p9 hp9 => hR p9 _ (Same.snoc (same_upd hp8) hp9) ?_⟩
              · simp only [List.length_append, List.length_cons, List.length_map, List.length_nil]
                exact Nat.le_trans (show _ ≤ 9000 by omega) (by decide)
              · rw [upd_same, if_pos hw]
                simp
            · refine itP ?_ ⟨_, rfl, ra, false, ws, rfl, SqT.of w1, _, rfl, num_log ⟨by omega, by omega⟩, (by show 1 ≤ sizeLine; decide), fun p8 hp8 => ?_⟩
              · cases wd <;> first | (exact absurd rfl hw) | (decide +kernel)
              refine ⟨F, p8, _, _, rfl, rfl, (same_upd hp8) _ _ hL7, upd_same, ?_, fun p9 hp9 => hR p9 _ (Same.snoc (same_upd hp8) hp9) ?_⟩
              · rw [if_neg hw] at hz
                simp only [List.length_cons, List.length_nil, List.length_append, List.length_map] at hz ⊢
                exact Nat.le_trans (show _ ≤ 9000 by omega) (by decide)
              · rw [upd_same, if_neg hw, w2, List.map_append (l₂ := [num (((r[j]).length : Nat) : Int)])]
                rfl
          refine first _ fun p8 H8 e8 h8 => ?_
          have w1' := e8 _ _ w1
          have sqw : SqB false K H8 ra ws := SqT.of w1'
          refine ⟨_, rfl, ra, false, rfl, ⟨_, sqw⟩, fun D hD => lc_pure hD sqw (by rw [w2]; exact Nat.lt_of_le_of_lt o8 (by decide)) (fun _ => rfl) (fun u y _ => ∀ z, (r[j])[u]? = some z → y = .str z.txt) (fun _ _ _ _ _ h => h) ?_ ?_⟩
          · intro u y H9 hy9 e9 Qe hq
            have hu : u < (r[j]).length := by rw [← w2]; exact (List.getElem?_eq_some_iff.mp hy9).1
            have hdd := w3 u y _ hy9 (by rw [List.getElem?_map, List.getElem?_eq_getElem hu] <;> rfl)
            refine ⟨_, rfl, y, (r[j])[u], rfl, (hdd.same e8).same e9, ook _ (List.getElem_mem hu), fun H6 e6 => hq _ _ e6 fun z hz => ?_⟩
            rw [List.getElem?_eq_getElem hu] at hz
            cases hz
            rfl
          · intro ys H9 e9 hD9 hl9 hP9
            have ey : ys = ((r[j]).map Nm.txt).map V.str := by
              rw [ys_map (f := fun z : Nm => V.str z.txt) (hl9.trans w2) hP9, List.map_map]
              rfl
            refine ⟨p8, D, _, _, rfl, rfl, e9 _ _ h8, hD9, ?_, fun p10 hp10 => ?_⟩
            · rw [ey]
              simp only [List.length_append, List.length_cons, List.length_map]
              exact Nat.le_trans (show _ ≤ 9000 by omega) (by decide)
            · have e10 : Same H (upd H9 p10 (.lst (((wd.s :: headItems wd ps.length m i) ++ (List.range j).flatMap (fun j => (if wd = .fin then [] else [num (((r.getD j []).length : Nat) : Int)]) ++ (r.getD j []).map Nm.txt) ++ (if wd = .fin then [] else [num (((r[j]).length : Nat) : Int)])).map V.str ++ ys))) := Same.snoc ((e7.trans e8).trans e9) hp10
              refine ⟨p10, _, _, _, rfl, e10, Same.none_of ((e7.trans e8).trans e9) hp10, ?_⟩
              rw [upd_same, flat_succ, ey]
              simp only [ej, List.map_append, List.append_assoc]
        · rintro σ H4 ⟨F, s8, s9, s12, rfl, e4, hF, hL⟩
          rw [hfl] at hL
          exact loop2 F s8 s9 s12 H4 _ e4 hF (by rw [hL])
      · obtain ⟨rr, er1, er2, er3, er4⟩ := row_of (w := wd) (by cases wd <;> first | (exact absurd rfl hs) | (exact absurd rfl hrw) | rfl) hf hm.2 hi.2
        rw [er1] at h2
        obtain ⟨ta, rs, rfl, g1, g2, g3⟩ := h2.tuple_inv
        rw [List.length_map] at g2
        have hfl : ((List.range rs.length).flatMap fun j => [(rr.getD j (.i 0)).txt]) = toldItems wd td := by
          rw [g2, flat_one, er2]
          refine List.ext_getElem (by simp) fun k h1 h2 => ?_
          have hk : k < rr.length := by simpa using h1
          simp [List.getD_eq_getElem?_getD, List.getElem?_eq_getElem hk]
        refine ⟨_, rfl, ta, rs, rfl, .inr ⟨SqT.of (e3 _ _ g1), ?_⟩⟩
        have hlen : ∀ j, j + 1 ≤ rs.length → ((wd.s :: headItems wd ps.length m i) ++ (List.range j).flatMap (fun j => [(rr.getD j (.i 0)).txt])).length + ((fun j => [(rr.getD j (.i 0)).txt]) j).length ≤ 9000 := fun j hj =>
          fl_bound (fun j => [(rr.getD j (.i 0)).txt]) _ (by rw [List.length_cons, hfl]; omega) hj
        refine for_it walk_enumT (FInv H [some v0, some (.str wd.s), some (.ref ta), some (.ref b), some (.int ((m : Nat) : Int)), some (.int ((i : Nat) : Int))] (fun j => [(rr.getD j (.i 0)).txt]) (wd.s :: headItems wd ps.length m i) mn) ⟨F0, none, none, none, rfl, e3, hF0, by rw [hF3]; simp⟩ (fun j σ H' _ h => by (obtain ⟨F, _, _, _, _, e, _⟩ := h; exact SqT.of (e _ _ g1))) ?_ ?_
        · rintro j x σ H4 H4' hj ⟨F, s8, s9, s12, rfl, e4, hF, hL⟩ ⟨T1, y1, y2, rfl, hT1, rfl, hy1, hy2⟩
          cases hy1
          have hj' : j < rr.length := by omega
          have eT : Same H4 (upd H4 T1 (.tup [.int (j : Nat), y2])) := same_upd hT1
          refine ⟨_, _, rfl, SqT.of upd_same, rfl, _, _, rfl, _, _, rfl, rfl, ?_⟩
          generalize upd H4 T1 (.tup [.int (j : Nat), y2]) = H5 at eT ⊢
          refine ⟨_, rfl, (by show 2 ≤ sizeLine; decide), fun pa hpa => ⟨pa, _, rfl, .inr (SqT.of upd_same), rfl, rfl, _, rfl, itN (by show ¬ inV _ _ = true; rw [in_shows, Bool.eq_false_iff.mpr hs]; decide) ?_⟩⟩
          have ea : Same H5 (upd H5 pa (.tup [.str "keeper-shows", .str "rival-shows"])) := same_upd hpa
          generalize upd H5 pa (.tup [.str "keeper-shows", .str "rival-shows"]) = H6 at ea ⊢
          refine ⟨_, rfl, (by show 3 ≤ sizeLine; decide), fun pb hpb => ⟨pb, _, rfl, .inr (SqT.of upd_same), rfl, rfl, _, rfl, itN (by show ¬ inV _ _ = true; rw [in_rows, Bool.eq_false_iff.mpr hrw]; decide) ?_⟩⟩
          have eb : Same H6 (upd H6 pb (.tup [.str "end", .str "keeper-sees", .str "rival-sees"])) := same_upd hpb
          generalize upd H6 pb (.tup [.str "end", .str "keeper-sees", .str "rival-sees"]) = H7 at eb ⊢
          have e47 := (eT.trans ea).trans eb
          have hd := (g3 j y2 _ hy2 (by rw [List.getElem?_map, List.getElem?_eq_getElem hj'] <;> rfl)).same (e4.trans e47)
          have ej : (rr.getD j (.i 0)).txt = (rr[j]).txt := by rw [List.getD_eq_getElem?_getD, List.getElem?_eq_getElem hj']; rfl
          refine ⟨_, rfl, .inl ⟨rfl, _, SqL.of (e47 _ _ hL)⟩, _, rfl, y2, rr[j], rfl, hd, er3 _ (List.getElem_mem hj'), fun H8 e8 => ?_⟩
          have hL8 := (e47.trans e8) _ _ hL
          have hz := hlen j hj
          refine ⟨F, _, _, rfl, rfl, hL8, ?_, F, _, _, _, rfl, Same.mut (e4.trans (e47.trans e8)) hF, hF, ?_⟩
          · rw [List.length_map]
            exact Nat.lt_of_le_of_lt (show _ ≤ 9000 by omega) (by decide)
          · rw [upd_same, flat_succ, ej, ← List.append_assoc]
            simp only [List.map_append, List.map_cons, List.map_nil]
        · rintro σ H4 ⟨F, s8, s9, s12, rfl, e4, hF, hL⟩
          rw [hfl] at hL
          exact loop2 F s8 s9 s12 H4 _ e4 hF (by rw [hL])
end
end PL
end
section
set_option maxHeartbeats 4000000
/-! D28: listed, near. -/
namespace PL
open PySem PySem.Spec PyProof.Rows L2
section
variable {w : World} {K : PySem.W.Frag} {mg : Str → Option Value} {base : Heap}
/-- lists all the way in, at addresses within P -/
inductive Ll (P : Addr → Prop) (H : Hp) : V → PyData → Prop where
  | int (i : Int) : Ll P H (.int i) (.int i)
  | str (z : Str) : Ll P H (.str z) (.str z)
  | seq {a : Addr} {xs : List V} {ds : List PyData} : P a → H a = some (.lst xs) → xs.length = ds.length → (∀ (k : Nat) x d, xs[k]? = some x → ds[k]? = some d → Ll P H x d) → Ll P H (.ref a) (.tuple ds)
theorem Ll.mono {P P' : Addr → Prop} {H H' : Hp} (hp : ∀ a, P a → P' a) (hh : ∀ a xs, P a → H a = some (.lst xs) → H' a = some (.lst xs)) {v : V} {d : PyData} (h : Ll P H v d) : Ll P' H' v d := by
  induction h with
  | int i => exact .int i
  | str z => exact .str z
  | seq h0 h1 h2 _ ih => exact .seq (hp _ h0) (hh _ _ h0 h1) h2 ih
theorem Ll.ld {P : Addr → Prop} {H : Hp} {v : V} {d : PyData} (h : Ll P H v d) : Ld K H v d := by
  induction h with
  | int i => exact .int i
  | str z => exact .str z
  | seq h0 h1 h2 _ ih => exact .seq (b := true) h1 h2 ih
/-- ints and tuples of such, none too long -/
def Plain : PyData → Prop
  | .int _ => True
  | .tuple ds => PlainL ds ∧ ds.length < 1000
  | _ => False
where PlainL : List PyData → Prop
  | [] => True
  | d :: r => Plain d ∧ PlainL r
theorem plainL_mem : ∀ {ds : List PyData}, Plain.PlainL ds → ∀ d ∈ ds, Plain d
  | [], _, d, h => by simp at h
  | x :: r, hp, d, h => by
    unfold Plain.PlainL at hp
    rcases List.mem_cons.mp h with e | e
    · rw [e]; exact hp.1
    · exact plainL_mem hp.2 d e
theorem plainL_of : ∀ {ds : List PyData}, (∀ d ∈ ds, Plain d) → Plain.PlainL ds
  | [], _ => by unfold Plain.PlainL; trivial
  | x :: r, h => by
    unfold Plain.PlainL
    exact ⟨h x (List.mem_cons_self ..), plainL_of fun d hd => h d (List.mem_cons_of_mem _ hd)⟩
def sp__law_listed (n : Nat) : Sp := fun vs H Q _ => ∃ v d, vs = [v] ∧ Td H v d ∧ Plain d ∧ d.depth ≤ n ∧ ∀ v' H', Same H H' → Ll (fun a => H a = none) H' v' d → Q v' H'
theorem dep_mem : ∀ {ds : List PyData} {d : PyData}, d ∈ ds → d.depth ≤ PyData.depthAll ds
  | [], d, h => by simp at h
  | x :: r, d, h => by
    simp only [PyData.depthAll]
    rcases List.mem_cons.mp h with e | e
    · rw [e]; exact Nat.le_max_left _ _
    · exact Nat.le_trans (dep_mem e) (Nat.le_max_right _ _)
theorem listed_body (T : Txt K mg) (n : Nat) (spR : Sp) (G__law_listed : FnOk P0 w K mg base CX0 n (aF K "_law_listed") (dF K "_law_listed") ["_law_value"] spR) (hR : ∀ n', n = n' + 1 → spR = sp__law_listed n') :
    FnOk P0 w K mg base CX0 (n + 1) (aF K "_law_listed") (dF K "_law_listed") ["_law_value"] (sp__law_listed n) := by
  refine T.f__law_listed.ok sc__law_listed (fun vs H Q E h => by (obtain ⟨_, _, rfl, _⟩ := h; rfl)) (fun cdv A outer s H vs Q E hr h => ?_)
  obtain ⟨v, d, rfl, hv, hpl, hn, q⟩ := h
  refine ⟨_, ((pss_one (ps_ret (pe_ifExp (pt_val (pe_callB (kisiT K rfl) (by rfl) T.z_isinstance bt_isinstance (pa_cons (pv 0) (pa_cons (pe_tup (pa_cons (pe_bltn (v := .ty "list") (by rfl) T.z_list bt_list rfl) (pa_cons (pe_bltn (v := .ty "tuple") (by rfl) T.z_tuple bt_tuple rfl) pa_nil))) pa_nil)))) (pe_lc (own := [("_law_each", 1)]) rfl sc__law_listed.nd (kpi K rfl (pv 0)) (blkOk_by (by kernel_rfl)) (fun _ _ _ _ _ => (pg_name (i := 1) sc__law_listed.nd rfl (Or.inl rfl))) (fun _ _ _ _ _ => pts_nil) (fun _ _ _ _ _ => (pe_call G__law_listed (hr.mono (by omega)) rfl T.g__law_listed T.f__law_listed.kp T.b__law_listed .nil pass0 (pa_cons (pv 1) pa_nil)))) (pv 0))))), ?_⟩
  have two : ∀ t : Value, Paired ClsV [V.ty "list", V.ty "tuple"] [Value.type "list", Value.type "tuple"] := fun _ => .cons (.ty _) (.cons (.ty _) .nil)
  refine ⟨_, rfl, (by show 2 ≤ sizeLine; decide), fun p hp => ?_⟩
  have e1 : Same H (upd H p (.tup [V.ty "list", V.ty "tuple"])) := same_upd hp
  cases hv with
  | str z => exact hpl.elim
  | int i =>
    refine ⟨_, p, _, .type "int", _, false, rfl, upd_same, two .none, .base (.int _), kitAny_cons (kit_ty (by decide +kernel : kitB "int" "list" = some false)) (fun _ => kitAny_cons (kit_ty (by decide +kernel : kitB "int" "tuple" = some false)) (fun _ => kitAny_nil) (fun z => nomatch z)) (fun z => nomatch z), ?_⟩
    exact ⟨_, rfl, _, rfl, q _ _ e1 (.int i)⟩
  | @tup a xs ds h1 h2 h3 =>
    have hds : Plain.PlainL ds ∧ ds.length < 1000 := by
      unfold Plain at hpl
      exact hpl
    have hdep : PyData.depthAll ds + 1 ≤ n := by
      simp only [PyData.depth] at hn
      exact hn
    obtain ⟨n', rfl⟩ : ∃ n', n = n' + 1 := ⟨n - 1, by omega⟩
    have eR := hR n' rfl
    subst eR
    have h1' := e1 _ _ h1
    refine ⟨_, p, _, .type "tuple", _, true, rfl, upd_same, two .none, .base (.tup h1'), kitAny_cons (kit_ty (by decide +kernel : kitB "tuple" "list" = some false)) (fun _ => kitAny_cons (kit_ty (by decide +kernel : kitB "tuple" "tuple" = some true)) (fun z => nomatch z) (fun _ => rfl)) (fun z => nomatch z), ?_⟩
    refine ⟨_, rfl, ?_⟩
    generalize upd H p (.tup [V.ty "list", V.ty "tuple"]) = H1 at e1 h1' ⊢
    have sq : SqB false K H1 a xs := SqT.of h1'
    refine ⟨_, rfl, a, false, rfl, ⟨_, sq⟩, fun D hD => ?_⟩
    refine lc_map (walk_B false) (by rw [h2]; exact Nat.lt_of_lt_of_le hds.2 (by decide)) hD (fun _ => rfl) none (fun _ z => nomatch z) (fun _ H' => Same H1 H') (fun i y H' => ∀ d, ds[i]? = some d → Ll (fun a => H1 a = none ∧ a ≠ D) H' y d) (Same.refl _) (fun _ _ _ e => Same.mut e hD) (fun _ _ _ e => Same.sqb (b := false) e sq) ?_ ?_ ?_
    · intro i j y H2 H3 ys u g1 g2 _ k pe d hd
      exact (pe d hd).mono (fun _ h => h) fun a xs hPa ha => by rw [upd_ne hPa.2]; exact (Kp.same k) _ _ ha
    · intro i x H2 hi hx e2 hl Qe hq
      have hi' : i < ds.length := by omega
      obtain ⟨ys, hl⟩ := hl
      refine ⟨_, rfl, x, ds[i], rfl, (h3 i x _ hx (List.getElem?_eq_getElem hi')).same (e1.trans e2), plainL_mem hds.1 _ (List.getElem_mem hi'), by have := dep_mem (List.getElem_mem hi'); omega, fun v' H3 e3 l3 => hq v' H3 (.of e3) (e2.trans e3) fun d hd => ?_⟩
      rw [List.getElem?_eq_getElem hi'] at hd
      cases hd
      refine l3.mono (fun a ha => ⟨Same.none_of e2 ha, fun z => ?_⟩) fun a xs _ ha => ha
      subst z
      rw [hl] at ha
      cases ha
    · intro ys H2 e2 hD2 hl2 hP
      refine q _ _ (e1.trans e2) (.seq (Same.none_of e1 hD) hD2 (by omega) fun k x d hx hd => (hP k x hx d hd).mono (fun a ha => Same.none_of e1 ha.1) fun a xs _ ha => ha)
theorem ok__law_listed (T : Txt K mg) : ∀ n : Nat, FnOk P0 w K mg base CX0 (n + 1) (aF K "_law_listed") (dF K "_law_listed") ["_law_value"] (sp__law_listed n)
  | 0 => listed_body T 0 (fun _ _ _ _ => False) ⟨fun _ _ _ _ h => h.elim, fun _ _ _ _ _ _ _ _ _ _ _ _ _ h => h.elim⟩ fun d' e => by omega
  | n + 1 => listed_body T (n + 1) (sp__law_listed n) (ok__law_listed T n) fun d' e => by
    have : n = d' := by omega
    rw [this]
end
end PL
end
section
set_option maxHeartbeats 4000000
/-! D29: near. -/
namespace PL
open PySem PySem.Spec PyProof.Rows L2
section
variable {w : World} {K : PySem.W.Frag} {mg : Str → Option Value} {base : Heap}
def NearTo (t t' : Tr) : Prop := WF t' ∧ t'.m = t.m ∧ t'.i = t.i ∧ t'.lev ≤ t.lev + 1 ∧ t'.many ≤ t.many + 6
def sp__law_near (K : PySem.W.Frag) (n : Nat) : Sp := fun vs H Q _ => ∃ dk ca cs k v t, vs = [.ref dk, v] ∧ Desk H dk ca cs k ∧ k + 1100 + 2 * n < 2 ^ 20 ∧ Td H v (Tr.data t) ∧ WF t ∧ t.lev ≤ n ∧ n ≤ 20 ∧
  ∀ t' v' k' H', NearTo t t' → Td H' v' t'.data → Kp (some dk) H H' → Desk H' dk ca cs k' → k' ≤ k + 1100 + 2 * n → Q v' H'
theorem fit_set {w : Wd} {t : Told} {ps : List Tr} {m i k : Nat} {p p' : Tr} (hf : Fit w t ps m i) (hk : ps[k]? = some p) (hm : p'.m = p.m) (hi : p'.i = p.i) : Fit w t (ps.set k p') m i := by
  have hmem := List.mem_of_getElem? hk
  have hall : ∀ {P : Tr → Prop}, (∀ x ∈ ps, P x) → P p' → ∀ x ∈ ps.set k p', P x := fun h h' x hx => by
    rcases List.mem_or_eq_of_mem_set hx with e | e
    · exact h x e
    · rw [e]; exact h'
  have hone : ∀ q, ps = [q] → ps.set k p' = [p'] ∧ p = q := fun q e => by
    subst e
    match k, hk with
    | 0, hk => cases hk; exact ⟨rfl, rfl⟩
    | k + 1, hk => simp at hk
  have hmap : ∀ f : Tr → Nat, f p' = f p → (ps.set k p').map f = ps.map f := fun f e => by
    refine List.ext_getElem? fun j => ?_
    rw [List.getElem?_map, List.getElem?_map, List.getElem?_set]
    by_cases hj : k = j
    · subst hj
      rw [if_pos rfl, hk, if_pos (List.getElem?_eq_some_iff.mp hk).1]
      simp [e]
    · rw [if_neg hj]
  cases w with
  | fin => obtain ⟨r, _, h, _⟩ := hf; subst h; simp at hk
  | hole => obtain ⟨_, h⟩ := hf; subst h; simp at hk
  | draw =>
    obtain ⟨r, rfl, h1, h2, h3, h4⟩ := hf
    exact ⟨r, rfl, by rw [List.length_set]; exact h1, by rw [List.length_set]; exact h2, h3, hall h4 ⟨hm.trans (h4 p hmem).1, hi.trans (h4 p hmem).2⟩⟩
  | kmove => obtain ⟨rfl, h2, h4⟩ := hf; exact ⟨rfl, by rw [List.length_set]; exact h2, hall h4 ⟨hm.trans (h4 p hmem).1, hi.trans (h4 p hmem).2⟩⟩
  | rmove => obtain ⟨rfl, h2, h4⟩ := hf; exact ⟨rfl, by rw [List.length_set]; exact h2, hall h4 ⟨hm.trans (h4 p hmem).1, hi.trans (h4 p hmem).2⟩⟩
  | khides => obtain ⟨r, q, rfl, e, h1, h2, h3, h4⟩ := hf; obtain ⟨e1, e2⟩ := hone q e; subst e2; exact ⟨r, p', rfl, e1, h1, h2, hm.trans h3, hi.trans h4⟩
  | rhides => obtain ⟨r, q, rfl, e, h1, h2, h3, h4⟩ := hf; obtain ⟨e1, e2⟩ := hone q e; subst e2; exact ⟨r, p', rfl, e1, h1, h2, hi.trans h3, hm.trans h4⟩
  | ksees => obtain ⟨r, q, rfl, e, h1, h2, h3, h4⟩ := hf; obtain ⟨e1, e2⟩ := hone q e; subst e2; exact ⟨r, p', rfl, e1, h1, h2, hm.trans h3, hi.trans h4⟩
  | rsees => obtain ⟨r, q, rfl, e, h1, h2, h3, h4⟩ := hf; obtain ⟨e1, e2⟩ := hone q e; subst e2; exact ⟨r, p', rfl, e1, h1, h2, hi.trans h3, hm.trans h4⟩
  | kshows => obtain ⟨c, rfl, h1, h2, h3, h4, h5⟩ := hf; exact ⟨c, rfl, h1, h2, h3, by rw [hmap _ hm]; exact h4, hall h5 (hi.trans (h5 p hmem))⟩
  | rshows => obtain ⟨c, rfl, h1, h2, h3, h4, h5⟩ := hf; exact ⟨c, rfl, h1, h2, h3, by rw [hmap _ hi]; exact h4, hall h5 (hm.trans (h5 p hmem))⟩
theorem lev_set {ps : List Tr} {k : Nat} {p p' : Tr} (hk : ps[k]? = some p) (h : p'.lev ≤ p.lev + 1) : levL (ps.set k p') ≤ levL ps + 1 := levL_le fun x hx => by
  rcases List.mem_or_eq_of_mem_set hx with e | e
  · have := lev_mem e; omega
  · have := lev_mem (List.mem_of_getElem? hk); rw [e]; omega
theorem many_set : ∀ {ps : List Tr} {k : Nat} {p p' : Tr}, ps[k]? = some p → p'.many ≤ p.many + 6 → manyL (ps.set k p') ≤ manyL ps + 6
  | [], k, p, p', hk, h => by simp at hk
  | q :: r, 0, p, p', hk, h => by
    cases hk
    rw [List.set_cons_zero, manyL, manyL]
    omega
  | q :: r, k + 1, p, p', hk, h => by
    rw [List.set_cons_succ, manyL, manyL]
    have := many_set (ps := r) (k := k) (by simpa using hk) h
    omega
theorem cat_any {H : Hp} {a b : Addr} {xs ys : List V} {Q : VK} (ha : H a = some (.tup xs)) (hb : H b = some (.tup ys)) (hl : xs.length + ys.length ≤ sizeLine) (h : ∀ p H', Same H H' → H' p = some (.tup (xs ++ ys)) → Q (.ref p) H') : rCatA K (.ref a) (.ref b) H Q :=
  ⟨a, b, xs, ys, rfl, rfl, SqT.of ha, SqT.of hb, hl, fun e => h b H (Same.refl _) (by rw [hb, e]; rfl), fun _ e => h a H (Same.refl _) (by rw [ha, e, List.append_nil]), fun _ _ p hp => h p _ (same_upd hp) upd_same⟩
theorem sl_take {H : Hp} {b : Addr} {xs : List V} {k : Nat} {Q : VK} (hb : H b = some (.tup xs)) (hk : k < xs.length) (h : ∀ p H', Same H H' → H' p = some (.tup (xs.take k)) → Q (.ref p) H') : rSlA K (.ref b) none (some (k : Int)) H Q := by
  have e : HT.sIx xs.length xs.length (some (k : Int)) = k := by rw [HT.sIx_nat]; omega
  refine ⟨b, xs, rfl, SqT.of hb, fun z => by rw [e] at z; omega, fun _ p hp => h p _ (same_upd hp) ?_⟩
  rw [upd_same, cutV, e]
  rfl
theorem sl_drop {H : Hp} {b : Addr} {xs : List V} {k : Nat} {Q : VK} (hb : H b = some (.tup xs)) (hk : k < xs.length) (h : ∀ p H', Same H H' → H' p = some (.tup (xs.drop (k + 1))) → Q (.ref p) H') : rSlA K (.ref b) (some ((k : Int) + 1)) none H Q := by
  have e : HT.sIx xs.length 0 (some ((k : Int) + 1)) = k + 1 := by
    have : (k : Int) + 1 = ((k + 1 : Nat) : Int) := rfl
    rw [this, HT.sIx_nat]
    omega
  refine ⟨b, xs, rfl, SqT.of hb, fun z => by rw [e] at z; omega, fun _ p hp => h p _ (same_upd hp) ?_⟩
  rw [upd_same, cutV, e]
  congr 2
  exact List.take_of_length_le (by rw [List.length_drop]; exact Nat.le_refl _)
theorem near_body (T : Txt K mg) (n : Nat) (spR : Sp) (G__law_near : FnOk P0 w K mg base CX0 (9 + n) (aF K "_law_near") (dF K "_law_near") ["_law_desk_here", "_law_tree_here"] spR) (hR : ∀ n', n = n' + 1 → spR = sp__law_near K n') :
    FnOk P0 w K mg base CX0 (9 + n + 1) (aF K "_law_near") (dF K "_law_near") ["_law_desk_here", "_law_tree_here"] (sp__law_near K n) := by
  have G__law_pick := ok__law_pick (w := w) (base := base) T
  have G__law_tree := ok__law_tree (w := w) (base := base) T 1
  refine T.f__law_near.ok sc__law_near (fun vs H Q E h => by (obtain ⟨_, _, _, _, _, _, rfl, _⟩ := h; rfl)) (fun cdv A outer s H vs Q E hr h => ?_)
  obtain ⟨dk, ca, cs, k, v, t, rfl, hd, hk, hv, hwf, hn, hn20, q⟩ := h
  refine ⟨_, ((pss_cons (ps_asg (pv 1) (kgtup K 5 rfl rfl (pgs_cons (pg_name (i := 2) sc__law_near.nd rfl (Or.inl rfl)) (pgs_cons (pg_name (i := 3) sc__law_near.nd rfl (Or.inl rfl)) (pgs_cons (pg_name (i := 4) sc__law_near.nd rfl (Or.inl rfl)) (pgs_cons (pg_name (i := 5) sc__law_near.nd rfl (Or.inl rfl)) (pgs_cons (pg_name (i := 6) sc__law_near.nd rfl (Or.inl rfl)) pgs_nil)))))))
    (pss_cons (ps_set (i := 7) sc__law_near.nd rfl (Or.inl rfl) (pe_call G__law_pick (hr.mono (by omega)) rfl T.g__law_pick T.f__law_pick.kp T.b__law_pick .nil pass0 (pa_cons (pv 0) (pa_cons pe_int pa_nil))))
    (pss_cons (ps_if (PW.pt (pw_or (pt_cmpR op_eq (pv 7) pe_int (nomark _)) (pw_or1 (pt_cmpR (keqD K rfl (hr.mono (Nat.zero_le _))) (pv 4) (pe_tup pa_nil) (nomark _))))) (pss_one (ps_ret (pe_ifExp (pt_cmpR op_lt (pv 7) pe_int (nomark _)) (pv 1) (pe_call G__law_tree (hr.mono (by omega)) rfl T.g__law_tree T.f__law_tree.kp T.b__law_tree .nil pass0 (pa_cons (pv 0) (pa_cons pe_int (pa_cons (pv 5) (pa_cons (pv 6) pa_nil)))))))) pss_nil)
    (pss_cons (ps_if (PW.pt (pw_and (pt_cmpR op_eq (pv 7) pe_int (nomark _)) (pw_and1 (pt_cmpR (kin K rfl) (pv 2) (pe_tup (pa_cons pe_str (pa_cons pe_str pa_nil))) rfl)))) (pss_one (ps_ret (pe_tup (pa_cons (pe_ifExp (pt_cmpR op_eq (pv 2) pe_str (nomark _)) pe_str pe_str) (pa_cons (pv 3) (pa_cons (pv 4) (pa_cons (pv 5) (pa_cons (pv 6) pa_nil)))))))) pss_nil)
    (pss_cons (ps_set (i := 8) sc__law_near.nd rfl (Or.inl rfl) (pe_call G__law_pick (hr.mono (by omega)) rfl T.g__law_pick T.f__law_pick.kp T.b__law_pick .nil pass0 (pa_cons (pv 0) (pa_cons (pe_callB (klen K rfl) (by rfl) T.z_len bt_len (pa_cons (pv 4) pa_nil)) pa_nil))))
    (pss_one (ps_ret (pe_tup (pa_cons (pv 2) (pa_cons (pv 3) (pa_cons (pe_op (kcatT K rfl) (pe_op (kcatT K rfl) (pe_slice (kslT K rfl) (pv 4) po_none (po_some (pv 8))) (pe_tup (pa_cons (pe_call G__law_near (hr.mono (by omega)) rfl T.g__law_near T.f__law_near.kp T.b__law_near .nil pass0 (pa_cons (pv 0) (pa_cons (pe_ix (kix K rfl) (pv 4) (pv 8) (fun _ _ => rfl)) pa_nil))) pa_nil))) (pe_slice (kslT K rfl) (pv 4) (po_some (pe_op op_add (pv 8) pe_int)) po_none)) (pa_cons (pv 5) (pa_cons (pv 6) pa_nil)))))))))))))), ?_⟩
  match t, hv, hwf, hn, q with
  | .node wd td ps m i, hv, hwf, hn, q =>
  have hf := hwf.fit
  have hm : 1 ≤ m ∧ m ≤ 8 := hwf.hm
  have hi : 1 ≤ i ∧ i ≤ 8 := hwf.hi
  have h6 := parts_le6 hf
  obtain ⟨a, vt, b, xs, rfl, h1, h2, h3, h4, h5⟩ := hv.node
  replace h1 : H a = some (.tup [.str wd.s, vt, .ref b, .int ((m : Nat) : Int), .int ((i : Nat) : Int)]) := h1
  replace h2 : Td H vt td.data := h2
  replace h4 : xs.length = ps.length := h4
  replace h5 : ∀ (k : Nat) x p, xs[k]? = some x → ps[k]? = some p → Td H x p.data := h5
  obtain ⟨v0, hv0⟩ : ∃ v0 : V, v0 = .ref a := ⟨_, rfl⟩
  rw [← hv0] at hv ⊢
  refine ⟨_, rfl, a, _, hv0, SqT.of h1, rfl, _, _, rfl, _, _, rfl, _, _, rfl, _, _, rfl, _, _, rfl, rfl, ?_⟩
  refine ⟨_, rfl, dk, ca, cs, k, 4, rfl, hd, by omega, by omega, by omega, fun way n1 H1 hway k1 d1 hn1 => ?_⟩
  have im1 : Im H H1 := k1.im hd.loose
  refine ⟨_, rfl, rfl, _, rfl, ?_⟩
  refine ite2 (fun c1 => ?_) fun c1 => ?_
  · refine ⟨_, rfl, _, _, rfl, rfl, _, rfl, ?_⟩
    refine ite2 (fun c2 => ?_) fun c2 => ?_
    · exact ⟨_, rfl, q (.node wd td ps m i) _ n1 H1 ⟨hwf, rfl, rfl, by omega, by omega⟩ (hv.im im1) k1 d1 (by omega)⟩
    · refine ⟨_, rfl, _, rfl, _, rfl, dk, ca, cs, n1, m, i, rfl, d1, by show n1 + 1050 < 2 ^ 20; omega, hm, hi, fun t' v' n2 H2 ht' tv' k2 d2 hn2 => ?_⟩
      obtain ⟨a1, a2, a3, a4, a5⟩ := ht'
      replace hn2 : n2 ≤ n1 + 1050 := hn2
      replace a5 : t'.many ≤ 7 := a5
      exact q t' v' n2 H2 ⟨a1, a2, a3, by have := lev_pos (.node wd td ps m i); omega, by have := many_pos (.node wd td ps m i); omega⟩ tv' (k1.trans k2) d2 (by omega)
  replace h3 := im1.tup _ _ h3
  replace h2 := h2.im im1
  replace h5 : ∀ (k : Nat) x p, xs[k]? = some x → ps[k]? = some p → Td H1 x p.data := fun k x p e1 e2 => (h5 k x p e1 e2).im im1
  have tp0 : Td H1 (.ref b) (.tuple (dataL ps)) := .tup h3 (by rw [dataL_map, List.length_map, h4]) fun u x d hx hd => by
    rw [dataL_map, List.getElem?_map] at hd
    cases e : ps[u]? with
    | none => rw [e] at hd; cases hd
    | some p =>
      rw [e] at hd
      cases hd
      exact h5 u x p hx e
  have hl20 : levL ps ≤ 20 := by rw [Tr.lev] at hn; omega
  refine ⟨_, rfl, by decide, fun p1 hp1 => ?_⟩
  have e11 : Same H1 (upd H1 p1 (.tup [])) := same_upd hp1
  refine ⟨.tuple (dataL ps), .tuple [], (tp0.same e11).dp, (td_nil upd_same : Td (upd H1 p1 (.tup [])) (.ref p1) (.tuple [])).dp, (Shp.tup (Shp.trL ps)).shaped (by omega), (Shp.tup (n := 0) (xs := []) (fun x hx => by simp at hx)).shaped (by decide), _, rfl, ?_⟩
  replace k1 := k1.trans (.of e11)
  replace d1 := d1.same e11
  replace h3 := e11 _ _ h3
  replace h2 := h2.same e11
  replace h5 : ∀ (k : Nat) x p, xs[k]? = some x → ps[k]? = some p → Td (upd H1 p1 (.tup [])) x p.data := fun k x p g1 g2 => (h5 k x p g1 g2).same e11
  replace im1 := im1.trans (.of e11)
  clear e11 tp0
  generalize upd H1 p1 (.tup []) = H1 at k1 d1 h3 h2 h5 im1 ⊢
  by_cases hpe : ps = []
  · refine itP (by rw [hpe, dataL]; simp [PyData.eqv, PyData.eqvAll]) ?_
    refine ⟨_, rfl, _, _, rfl, rfl, _, rfl, ?_⟩
    refine ite2 (fun c2 => ?_) fun c2 => ?_
    · exact ⟨_, rfl, q (.node wd td ps m i) _ n1 H1 ⟨hwf, rfl, rfl, by omega, by omega⟩ (hv.im im1) k1 d1 (by omega)⟩
    · refine ⟨_, rfl, _, rfl, _, rfl, dk, ca, cs, n1, m, i, rfl, d1, by show n1 + 1050 < 2 ^ 20; omega, hm, hi, fun t' v' n2 H2 ht' tv' k2 d2 hn2 => ?_⟩
      obtain ⟨a1, a2, a3, a4, a5⟩ := ht'
      replace hn2 : n2 ≤ n1 + 1050 := hn2
      replace a5 : t'.many ≤ 7 := a5
      exact q t' v' n2 H2 ⟨a1, a2, a3, by have := lev_pos (.node wd td ps m i); omega, by have := many_pos (.node wd td ps m i); omega⟩ tv' (k1.trans k2) d2 (by omega)
  · refine itN ?_ ?_
    · cases ps with
      | nil => exact absurd rfl hpe
      | cons p r => rw [dataL]; simp [PyData.eqv, PyData.eqvAll]
    have hpos := List.length_pos_iff.mpr hpe
    refine ⟨_, rfl, rfl, _, rfl, ?_⟩
    refine ite2 (fun c3 => ?_) fun c3 => ?_
    · refine ⟨_, rfl, (by show 2 ≤ sizeLine; decide), fun p2 hp2 => ⟨p2, _, rfl, .inr (SqT.of upd_same), rfl, rfl, _, rfl, ?_⟩⟩
      have e12 : Same H1 (upd H1 p2 (.tup [.str "keeper-move", .str "rival-move"])) := same_upd hp2
      generalize upd H1 p2 (.tup [.str "keeper-move", .str "rival-move"]) = H2 at e12 ⊢
      refine ite2 (fun c4 => ?_) fun c4 => ?_
      · have hwm : wd = .kmove ∨ wd = .rmove := by
          cases wd <;> first | exact .inl rfl | exact .inr rfl | exact absurd c4 (by decide +kernel)
        obtain ⟨wd', hwd', hw2⟩ : ∃ wd' : Wd, (if V.str wd.s = V.str ("keeper-move" : Str) then ("rival-move" : Str) else "keeper-move") = wd'.s ∧ (wd' = .kmove ∨ wd' = .rmove) := by
          rcases hwm with e | e
          · subst e; exact ⟨.rmove, by decide +kernel, .inr rfl⟩
          · subst e; exact ⟨.kmove, by decide +kernel, .inl rfl⟩
        have fin : ∀ z : Str, z = wd'.s → ∀ p9, H2 p9 = none → Q (.ref p9) (upd H2 p9 (.tup [.str z, vt, .ref b, .int ((m : Nat) : Int), .int ((i : Nat) : Int)])) := by
          rintro z rfl p9 hp9
          have e29 := same_upd (o := .tup [.str wd'.s, vt, .ref b, .int ((m : Nat) : Int), .int ((i : Nat) : Int)]) hp9
          have hfit : Fit wd' td ps m i := by
            rcases hwm with e | e <;> rcases hw2 with e' | e' <;> (subst e e'; exact hf)
          have tp : Td H1 (.ref b) (.tuple (dataL ps)) := .tup h3 (by rw [dataL_map, List.length_map, h4]) fun u x d hx hd => by
            rw [dataL_map, List.getElem?_map] at hd
            cases e : ps[u]? with
            | none => rw [e] at hd; cases hd
            | some p =>
              rw [e] at hd
              cases hd
              exact h5 u x p hx e
          exact q (.node wd' td ps m i) _ n1 _ ⟨.mk hfit hm hi hwf.sub, rfl, rfl, by rw [Tr.lev, Tr.lev]; omega, by rw [Tr.many, Tr.many]; omega⟩ (td_node (t := td) upd_same ((h2.same e12).same e29) ((tp.same e12).same e29)) (k1.trans (.of (e12.trans e29))) (d1.same (e12.trans e29)) (by omega)
        refine ⟨_, rfl, rfl, _, rfl, ?_⟩
        refine ite2 (fun c5 => ?_) fun c5 => ?_
        · refine ⟨_, rfl, _, rfl, _, rfl, _, rfl, (by show 5 ≤ sizeLine; decide), fun p9 hp9 => fin _ ?_ p9 hp9⟩
          rw [← hwd', if_pos (of_decide_eq_true c5)]
        · refine ⟨_, rfl, _, rfl, _, rfl, _, rfl, (by show 5 ≤ sizeLine; decide), fun p9 hp9 => fin _ ?_ p9 hp9⟩
          rw [← hwd', if_neg (fun e => c5 (decide_eq_true e))]
      · replace k1 := k1.trans (.of e12)
        replace d1 := d1.same e12
        replace h3 := e12 _ _ h3
        replace h2 := h2.same e12
        replace h5 : ∀ (k : Nat) x p, xs[k]? = some x → ps[k]? = some p → Td H2 x p.data := fun k x p g1 g2 => (h5 k x p g1 g2).same e12
        clear e12 im1
        generalize H2 = H1 at k1 d1 h3 h2 h5 ⊢
        refine ⟨_, rfl, _, rfl, b, false, _, rfl, SqT.of h3, dk, ca, cs, n1, xs.length, rfl, d1, by omega, by omega, by omega, fun at_ n2 H2 hat k2 d2 hn2 => ?_⟩
        have hpk : ps[at_]? = some ps[at_] := List.getElem?_eq_getElem (by omega)
        have hxk : xs[at_]? = some xs[at_] := List.getElem?_eq_getElem hat
        have im2 : Im H1 H2 := k2.im d1.loose
        have h32 := im2.tup _ _ h3
        have hmem := List.mem_of_getElem? hpk
        have hlevm := lev_mem hmem
        rw [Tr.lev] at hn
        obtain ⟨n', rfl⟩ : ∃ n', n = n' + 1 := ⟨n - 1, by omega⟩
        have eR := hR n' rfl
        subst eR
        refine ⟨_, rfl, _, rfl, ?_⟩
        refine ⟨_, rfl, _, rfl, _, rfl, sl_take h32 hat fun p3 H3 e3 g3 => ?_⟩
        have d3 := d2.same e3
        refine ⟨_, rfl, _, rfl, _, rfl, b, false, xs, (at_ : Int), xs[at_], rfl, rfl, SqT.of (e3 _ _ h32), atI_nat hxk, ?_⟩
        refine ⟨dk, ca, cs, n2, _, ps[at_], rfl, d3, by omega, ((h5 at_ _ _ hxk hpk).im im2).same e3, hwf.sub _ hmem, by omega, by omega, fun t' v' n4 H4 ht' tv' k4 d4 hn4 => ?_⟩
        obtain ⟨a1, a2, a3, a4, a5⟩ := ht'
        have im4 : Im H3 H4 := k4.im d3.loose
        refine ⟨(by show 1 ≤ sizeLine; decide), fun p5 hp5 => ?_⟩
        have e45 : Same H4 (upd H4 p5 (.tup [v'])) := same_upd hp5
        have g5 : upd H4 p5 (.tup [v']) p5 = some (.tup [v']) := upd_same
        generalize upd H4 p5 (.tup [v']) = H5 at e45 g5 ⊢
        refine cat_any (e45 _ _ (im4.tup _ _ g3)) g5 (by rw [List.length_take]; exact Nat.le_trans (show _ ≤ 8 by simp; omega) (by decide)) fun p6 H6 e6 g6 => ?_
        have h36 := e6 _ _ (e45 _ _ (im4.tup _ _ (e3 _ _ h32)))
        refine ⟨_, rfl, _, rfl, _, _, rfl, rfl, _, rfl, ?_⟩
        dsimp only [tNoPart]
        refine sl_drop h36 hat fun p7 H7 e7 g7 => ?_
        refine cat_any (e7 _ _ g6) g7 (by rw [List.length_append, List.length_take, List.length_drop]; exact Nat.le_trans (show _ ≤ 14 by simp; omega) (by decide)) fun p8 H8 e8 g8 => ?_
        refine ⟨_, rfl, _, rfl, (by show 5 ≤ sizeLine; decide), fun p9 hp9 => ?_⟩
        have e48 := ((e45.trans e6).trans e7).trans e8
        have im28 : Im H1 H8 := (im2.trans (.of e3)).trans (im4.trans (.of e48))
        have eset : (xs.take at_ ++ [v']) ++ xs.drop (at_ + 1) = xs.set at_ v' := by
          rw [List.set_eq_take_append_cons_drop, if_pos hat, List.append_assoc]
          rfl
        rw [eset] at g8
        have e89 := same_upd (o := .tup [.str wd.s, vt, .ref p8, .int ((m : Nat) : Int), .int ((i : Nat) : Int)]) hp9
        have tp : Td H8 (.ref p8) (.tuple (dataL (ps.set at_ t'))) := by
          refine .tup g8 (by rw [dataL_map, List.length_map, List.length_set, List.length_set, h4]) fun u x d hx hd => ?_
          rw [dataL_map, List.getElem?_map, List.getElem?_set] at hd
          rw [List.getElem?_set] at hx
          by_cases hu : at_ = u
          · subst hu
            rw [if_pos rfl, if_pos hat] at hx
            rw [if_pos rfl, if_pos (by omega)] at hd
            cases hx
            cases hd
            exact tv'.same e48
          · rw [if_neg hu] at hx hd
            cases e : ps[u]? with
            | none => rw [e] at hd; cases hd
            | some p =>
              rw [e] at hd
              cases hd
              exact (h5 u x p hx e).im im28
        have hsub : ∀ x ∈ ps.set at_ t', WF x := fun x hx => by
          rcases List.mem_or_eq_of_mem_set hx with e | e
          · exact hwf.sub _ e
          · rw [e]; exact a1
        have l1 := lev_set hpk a4
        have l2 := many_set hpk a5
        exact q (.node wd td (ps.set at_ t') m i) _ n4 _ ⟨.mk (fit_set hf hpk a2 a3) hm hi hsub, rfl, rfl, by rw [Tr.lev, Tr.lev]; omega, by rw [Tr.many, Tr.many]; omega⟩ (td_node (t := td) upd_same (((h2.im im28)).same e89) (tp.same e89)) ((((k1.trans k2).trans (.of e3)).trans k4).trans (.of (e48.trans e89))) (d4.same (e48.trans e89)) (by omega)
    · clear im1
      refine ⟨_, rfl, _, rfl, b, false, _, rfl, SqT.of h3, dk, ca, cs, n1, xs.length, rfl, d1, by omega, by omega, by omega, fun at_ n2 H2 hat k2 d2 hn2 => ?_⟩
      have hpk : ps[at_]? = some ps[at_] := List.getElem?_eq_getElem (by omega)
      have hxk : xs[at_]? = some xs[at_] := List.getElem?_eq_getElem hat
      have im2 : Im H1 H2 := k2.im d1.loose
      have h32 := im2.tup _ _ h3
      have hmem := List.mem_of_getElem? hpk
      have hlevm := lev_mem hmem
      rw [Tr.lev] at hn
      obtain ⟨n', rfl⟩ : ∃ n', n = n' + 1 := ⟨n - 1, by omega⟩
      have eR := hR n' rfl
      subst eR
      refine ⟨_, rfl, _, rfl, ?_⟩
      refine ⟨_, rfl, _, rfl, _, rfl, sl_take h32 hat fun p3 H3 e3 g3 => ?_⟩
      have d3 := d2.same e3
      refine ⟨_, rfl, _, rfl, _, rfl, b, false, xs, (at_ : Int), xs[at_], rfl, rfl, SqT.of (e3 _ _ h32), atI_nat hxk, ?_⟩
      refine ⟨dk, ca, cs, n2, _, ps[at_], rfl, d3, by omega, ((h5 at_ _ _ hxk hpk).im im2).same e3, hwf.sub _ hmem, by omega, by omega, fun t' v' n4 H4 ht' tv' k4 d4 hn4 => ?_⟩
      obtain ⟨a1, a2, a3, a4, a5⟩ := ht'
      have im4 : Im H3 H4 := k4.im d3.loose
      refine ⟨(by show 1 ≤ sizeLine; decide), fun p5 hp5 => ?_⟩
      have e45 : Same H4 (upd H4 p5 (.tup [v'])) := same_upd hp5
      have g5 : upd H4 p5 (.tup [v']) p5 = some (.tup [v']) := upd_same
      generalize upd H4 p5 (.tup [v']) = H5 at e45 g5 ⊢
      refine cat_any (e45 _ _ (im4.tup _ _ g3)) g5 (by rw [List.length_take]; exact Nat.le_trans (show _ ≤ 8 by simp; omega) (by decide)) fun p6 H6 e6 g6 => ?_
      have h36 := e6 _ _ (e45 _ _ (im4.tup _ _ (e3 _ _ h32)))
      refine ⟨_, rfl, _, rfl, _, _, rfl, rfl, _, rfl, ?_⟩
      dsimp only [tNoPart]
      refine sl_drop h36 hat fun p7 H7 e7 g7 => ?_
      refine cat_any (e7 _ _ g6) g7 (by rw [List.length_append, List.length_take, List.length_drop]; exact Nat.le_trans (show _ ≤ 14 by simp; omega) (by decide)) fun p8 H8 e8 g8 => ?_
      refine ⟨_, rfl, _, rfl, (by show 5 ≤ sizeLine; decide), fun p9 hp9 => ?_⟩
      have e48 := ((e45.trans e6).trans e7).trans e8
      have im28 : Im H1 H8 := (im2.trans (.of e3)).trans (im4.trans (.of e48))
      have eset : (xs.take at_ ++ [v']) ++ xs.drop (at_ + 1) = xs.set at_ v' := by
        rw [List.set_eq_take_append_cons_drop, if_pos hat, List.append_assoc]
        rfl
      rw [eset] at g8
      have e89 := same_upd (o := .tup [.str wd.s, vt, .ref p8, .int ((m : Nat) : Int), .int ((i : Nat) : Int)]) hp9
      have tp : Td H8 (.ref p8) (.tuple (dataL (ps.set at_ t'))) := by
        refine .tup g8 (by rw [dataL_map, List.length_map, List.length_set, List.length_set, h4]) fun u x d hx hd => ?_
        rw [dataL_map, List.getElem?_map, List.getElem?_set] at hd
        rw [List.getElem?_set] at hx
        by_cases hu : at_ = u
        · subst hu
          rw [if_pos rfl, if_pos hat] at hx
          rw [if_pos rfl, if_pos (by omega)] at hd
          cases hx
          cases hd
          exact tv'.same e48
        · rw [if_neg hu] at hx hd
          cases e : ps[u]? with
          | none => rw [e] at hd; cases hd
          | some p =>
            rw [e] at hd
            cases hd
            exact (h5 u x p hx e).im im28
      have hsub : ∀ x ∈ ps.set at_ t', WF x := fun x hx => by
        rcases List.mem_or_eq_of_mem_set hx with e | e
        · exact hwf.sub _ e
        · rw [e]; exact a1
      have l1 := lev_set hpk a4
      have l2 := many_set hpk a5
      exact q (.node wd td (ps.set at_ t') m i) _ n4 _ ⟨.mk (fit_set hf hpk a2 a3) hm hi hsub, rfl, rfl, by rw [Tr.lev, Tr.lev]; omega, by rw [Tr.many, Tr.many]; omega⟩ (td_node (t := td) upd_same (((h2.im im28)).same e89) (tp.same e89)) ((((k1.trans k2).trans (.of e3)).trans k4).trans (.of (e48.trans e89))) (d4.same (e48.trans e89)) (by omega)
theorem ok__law_near (T : Txt K mg) : ∀ n : Nat, FnOk P0 w K mg base CX0 (9 + n + 1) (aF K "_law_near") (dF K "_law_near") ["_law_desk_here", "_law_tree_here"] (sp__law_near K n)
  | 0 => near_body T 0 (fun _ _ _ _ => False) ⟨fun _ _ _ _ h => h.elim, fun _ _ _ _ _ _ _ _ _ _ _ _ _ h => h.elim⟩ fun d' e => by omega
  | n + 1 => near_body T (n + 1) (sp__law_near K n) (ok__law_near T n) fun d' e => by
    have : n = d' := by omega
    rw [this]
end
end PL
end
section
set_option maxHeartbeats 4000000
/-! D30: kept right. -/
namespace PL
open PySem PySem.Spec PyProof.Rows L2
section
variable {w : World} {K : PySem.W.Frag} {mg : Str → Option Value} {base : Heap}
theorem plain_tup {ds : List PyData} (h : ∀ d ∈ ds, Plain d) (hl : ds.length < 1000) : Plain (.tuple ds) := by
  unfold Plain
  exact ⟨plainL_of h, hl⟩
theorem plain_int (i : Int) : Plain (.int i) := by unfold Plain; trivial
theorem plain_nm (n : Nm) : Plain n.data := by
  cases n with
  | i n => exact plain_int n
  | f p q =>
    refine plain_tup (fun d hd => ?_) (by show 2 < 1000; decide)
    rcases List.mem_cons.mp hd with e | e
    · rw [e]; exact plain_int p
    · rw [List.mem_singleton.mp e]; exact plain_int q
theorem told_plain {w : Wd} {t : Told} {ps : List Tr} {m i : Nat} (hf : Fit w t ps m i) (hm : m ≤ 8) (hi : i ≤ 8) : Plain t.data := by
  have hrow : ∀ r : List Nm, r.length < 1000 → Plain (Told.row r).data := fun r h => plain_tup (fun d hd => by
    obtain ⟨n, _, rfl⟩ := List.mem_map.mp hd
    exact plain_nm n) (by rw [List.length_map]; exact h)
  have hrows : ∀ r : List (List Nm), r.length < 1000 → (∀ x ∈ r, x.length < 1000) → Plain (Told.rows r).data := fun r h h2 => plain_tup (fun d hd => by
    obtain ⟨x, hx, rfl⟩ := List.mem_map.mp hd
    exact hrow x (h2 x hx)) (by rw [List.length_map]; exact h)
  have hlots : ∀ c : List Nat, Rgs c → c.length ≤ 8 → Plain (Told.lots c).data := fun c hc h => plain_tup (fun d hd => by
    obtain ⟨x, hx, rfl⟩ := List.mem_map.mp hd
    obtain ⟨k, hk⟩ := List.getElem?_of_mem hx
    have := lot_len hc hk
    exact plain_tup (fun d hd => by
      obtain ⟨n, _, rfl⟩ := List.mem_map.mp hd
      exact plain_int _) (by rw [List.length_map]; omega)) (by rw [List.length_map]; have := lots_le hc; omega)
  cases w with
  | fin => obtain ⟨r, rfl, _, h1, h2⟩ := hf; exact hrows r (by omega) fun x hx => by rw [(h2 x hx).1]; omega
  | hole => obtain ⟨rfl, _⟩ := hf; exact plain_tup (fun d h => by simp at h) (by simp)
  | kmove => obtain ⟨rfl, _⟩ := hf; exact plain_tup (fun d h => by simp at h) (by simp)
  | rmove => obtain ⟨rfl, _⟩ := hf; exact plain_tup (fun d h => by simp at h) (by simp)
  | draw => obtain ⟨r, rfl, h1, h2, h3, _⟩ := hf; exact hrow r (by omega)
  | khides => obtain ⟨r, p, rfl, _, h1, h2, _⟩ := hf; exact hrow _ (by rw [List.length_map]; omega)
  | rhides => obtain ⟨r, p, rfl, _, h1, h2, _⟩ := hf; exact hrow _ (by rw [List.length_map]; omega)
  | ksees => obtain ⟨r, p, rfl, _, h1, h2, _⟩ := hf; exact hrows r (by omega) fun x hx => by have := (h2 x hx).1; omega
  | rsees => obtain ⟨r, p, rfl, _, h1, h2, _⟩ := hf; exact hrows r (by omega) fun x hx => by have := (h2 x hx).1; omega
  | kshows => obtain ⟨c, rfl, h1, h2, h3, _⟩ := hf; exact hlots c h1 (by omega)
  | rshows => obtain ⟨c, rfl, h1, h2, h3, _⟩ := hf; exact hlots c h1 (by omega)
theorem in_nokeep (w : Wd) : inV (V.str w.s) [.str "hole", .str "keeper-move", .str "rival-move"] = (w = .hole || w.isMove) := by cases w <;> decide +kernel
theorem in_deep (w : Wd) : inV (V.str w.s) [.str "end", .str "keeper-sees", .str "rival-sees", .str "keeper-shows", .str "rival-shows"] = (w = .fin || w.isSees || w.isShows) := by cases w <;> decide +kernel
/-- told in rows or lots: not empty, its first a tuple -/
theorem told_deep {w : Wd} {t : Told} {ps : List Tr} {m i : Nat} (hw : (w = .fin || w.isSees || w.isShows) = true) (hf : Fit w t ps m i) (hm : 1 ≤ m ∧ m ≤ 8) (hi : 1 ≤ i ∧ i ≤ 8) : ∃ es ds, t.data = .tuple (.tuple es :: ds) := by
  have hrows : ∀ r : List (List Nm), 1 ≤ r.length → ∃ es ds, (Told.rows r).data = .tuple (.tuple es :: ds) := fun r h => by
    cases r with
    | nil => simp at h
    | cons x r => exact ⟨_, _, rfl⟩
  have hlots : ∀ c : List Nat, 1 ≤ (lotsOf c).length → ∃ es ds, (Told.lots c).data = .tuple (.tuple es :: ds) := fun c h => by
    rw [lots_data]
    cases e : lotsOf c with
    | nil => rw [e] at h; simp at h
    | cons x r => exact ⟨_, _, rfl⟩
  cases w with
  | fin => obtain ⟨r, rfl, _, h1, h2⟩ := hf; exact hrows r (by omega)
  | ksees => obtain ⟨r, p, rfl, _, h1, h2, _⟩ := hf; exact hrows r (by omega)
  | rsees => obtain ⟨r, p, rfl, _, h1, h2, _⟩ := hf; exact hrows r (by omega)
  | kshows => obtain ⟨c, rfl, h1, h2, h3, _⟩ := hf; exact hlots c h3.1
  | rshows => obtain ⟨c, rfl, h1, h2, h3, _⟩ := hf; exact hlots c h3.1
  | _ => exact absurd hw (by decide)
theorem PlAt.str {H : Hp} {a : Addr} {t : Tr} (h : PlAt K H a t) (hwf : WF t) (hsz : Sz t) {Q : VK} {E : XK} (q : ∀ H', Same H H' → Q (.str t.text) H') : rStrO (PC K) (sp___str__ K) E [.ref a] H Q := by
  obtain ⟨dx, pa, fs, vt, as, hH, _⟩ := h.inv
  exact ⟨a, _, dx, fs, rfl, ⟨_, rfl⟩, hH, a, t, rfl, h, hwf, hsz, fun H' e => ⟨_, rfl, q H' e⟩⟩
theorem PlAt.eqd {H : Hp} {a c : Addr} {t t' : Tr} {n : Nat} (h : PlAt K H a t) (h' : PlAt K H c t') (hn : t.lev ≤ n) (hn' : t'.lev ≤ n) : DIns (PC K) (RPl K n) (.ref a) (.ref c) H (PyData.eqv t.data t'.data) :=
  DPl.ins ⟨a, c, t, t', rfl, rfl, h, h', hn, hn', rfl⟩
theorem Tr.eqv_self (t : Tr) : PyData.eqv t.data t.data = true := (Shp.tr t).refl
/-- what made is handed for a tree's tuple -/
theorem made_of {H : Hp} {v : V} {t : Tr} {n : Nat} {Q : VK} {E : XK} (hv : Td H v t.data) (hwf : WF t) (hsz : Sz t) (hn : t.lev ≤ n) (q : ∀ a H', Same H H' → PlAt K H' a t → Q (.ref a) H') : sp__law_made K n [v] H Q E := by
  match t, hv, hwf, hsz, hn, q with
  | .node w' t' ps' m' i', hv, hwf, hsz, hn, q =>
  obtain ⟨a2, v2, b2, ys, rfl, g1, g2, g3, g4, g5⟩ := hv.node
  exact ⟨a2, w', v2, t', b2, ys, ps', m', i', rfl, g1, g2.ld, g3, g4, g5, hwf, hsz, hn, q⟩
def sp__law_kept_right : Sp := fun vs H Q _ => ∃ v t, vs = [v] ∧ Td H v (Tr.data t) ∧ WF t ∧ Sz t ∧ ∀ H', Same H H' → Q (.bl true) H'
theorem ok__law_kept_right (T : Txt K mg) : FnOk P0 w K mg base CX0 25 (aF K "_law_kept_right") (dF K "_law_kept_right") ["_law_tree_here"] sp__law_kept_right := by
  have G__law_listed := ok__law_listed (w := w) (base := base) T 3
  have G__law_items := ok__law_items (w := w) (base := base) T 10
  have G__law_made := ok__law_made (w := w) (base := base) T 10
  have G___str__ := ok___str__ (w := w) (base := base) T
  have G___eq__ := ok___eq__ (w := w) (base := base) T 10
  refine T.f__law_kept_right.ok sc__law_kept_right (fun vs H Q E h => by (obtain ⟨_, _, rfl, _⟩ := h; rfl)) (fun cdv A outer s H vs Q E hr h => ?_)
  obtain ⟨v, t, rfl, hv, hwf, hsz, q⟩ := h
  refine ⟨_, ((pss_cons (ps_asg (pv 0) (kgtup K 5 rfl rfl (pgs_cons (pg_name (i := 1) sc__law_kept_right.nd rfl (Or.inl rfl)) (pgs_cons (pg_name (i := 2) sc__law_kept_right.nd rfl (Or.inl rfl)) (pgs_cons (pg_name (i := 3) sc__law_kept_right.nd rfl (Or.inl rfl)) (pgs_cons (pg_name (i := 4) sc__law_kept_right.nd rfl (Or.inl rfl)) (pgs_cons (pg_name (i := 5) sc__law_kept_right.nd rfl (Or.inl rfl)) pgs_nil)))))))
    (pss_cons (ps_if (pt_cmpR (kin K rfl) (pv 1) (pe_tup (pa_cons pe_str (pa_cons pe_str (pa_cons pe_str pa_nil)))) rfl) (pss_one (ps_ret pe_bl)) pss_nil)
    (pss_cons (ps_par (i := 6) (j := 7) rfl sc__law_kept_right.nd rfl rfl (by decide) rfl rfl (pa_cons (pe_call G__law_listed (hr.mono (by omega)) rfl T.g__law_listed T.f__law_listed.kp T.b__law_listed .nil pass0 (pa_cons (pv 2) pa_nil)) (pa_cons (kjoin K rfl pe_str (pe_call G__law_items (hr.mono (by omega)) rfl T.g__law_items T.f__law_items.kp T.b__law_items .nil pass0 (pa_cons (pv 0) pa_nil))) pa_nil)) (by rfl))
    (pss_cons (ps_set (i := 8) sc__law_kept_right.nd rfl (Or.inl rfl) (pe_call G__law_made (hr.mono (by omega)) rfl T.g__law_made T.f__law_made.kp T.b__law_made .nil pass0 (pa_cons (pe_tup (pa_cons (pv 1) (pa_cons (pv 6) (pa_cons (pv 3) (pa_cons (pv 4) (pa_cons (pv 5) pa_nil)))))) pa_nil)))
    (pss_cons (ps_if (pt_cmpR (kin K rfl) (pv 1) (pe_tup (pa_cons pe_str (pa_cons pe_str (pa_cons pe_str (pa_cons pe_str (pa_cons pe_str pa_nil)))))) rfl) (pss_one (ps_expr (kapp K rfl (pe_ix (kix K rfl) (pv 6) pe_int (fun _ _ => rfl)) pe_int))) pss_nil)
    (pss_cons (ps_expr (kapp K rfl (pv 6) pe_int))
    (pss_one (ps_ret (pe_and (pe_cmpR op_eq (pe_callTy (call_strO G___str__ T.stc T.b___str__ pass0 (hr.mono (by omega))) (by rfl) T.z_str bt_str (pa_cons (pv 8) pa_nil)) (pv 7) (nomark _)) (pe_one (pe_cmpR (op_eqB (rcB_ins G___eq__ T.eqc T.b___eq__ pass0) (hr.mono (by omega))) (pv 8) (pe_call G__law_made (hr.mono (by omega)) rfl T.g__law_made T.f__law_made.kp T.b__law_made .nil pass0 (pa_cons (pv 0) pa_nil)) (nomark _))))))))))))), ?_⟩
  match t, hv, hwf, hsz, q with
  | .node wd td ps m i, hv, hwf, hsz, q =>
  have hf := hwf.fit
  have hm : 1 ≤ m ∧ m ≤ 8 := hwf.hm
  have hi : 1 ≤ i ∧ i ≤ 8 := hwf.hi
  obtain ⟨a, vt, b, xs, rfl, h1, h2, h3, h4, h5⟩ := hv.node
  replace h1 : H a = some (.tup [.str wd.s, vt, .ref b, .int ((m : Nat) : Int), .int ((i : Nat) : Int)]) := h1
  replace h2 : Td H vt td.data := h2
  replace h4 : xs.length = ps.length := h4
  replace h5 : ∀ (k : Nat) x p, xs[k]? = some x → ps[k]? = some p → Td H x p.data := h5
  obtain ⟨v0, hv0⟩ : ∃ v0 : V, v0 = .ref a := ⟨_, rfl⟩
  rw [← hv0] at hv ⊢
  refine ⟨_, rfl, a, _, hv0, SqT.of h1, rfl, _, _, rfl, _, _, rfl, _, _, rfl, _, _, rfl, _, _, rfl, rfl, ?_⟩
  refine ⟨_, rfl, (by show 3 ≤ sizeLine; decide), fun p1 hp1 => ⟨p1, _, rfl, .inr (SqT.of upd_same), rfl, rfl, _, rfl, ?_⟩⟩
  have e1 : Same H (upd H p1 (.tup [.str "hole", .str "keeper-move", .str "rival-move"])) := same_upd hp1
  generalize upd H p1 (.tup [.str "hole", .str "keeper-move", .str "rival-move"]) = H1 at e1 ⊢
  by_cases hk : (wd = .hole || wd.isMove) = true
  · exact itP (by show inV _ _ = true; rw [in_nokeep, hk]) (q _ e1)
  refine itN (by show ¬ inV _ _ = true; rw [in_nokeep, Bool.eq_false_iff.mpr hk]; decide) ?_
  refine ⟨_, rfl, vt, td.data, rfl, h2.same e1, told_plain hf hm.2 hi.2, (Shp.told td).2, fun vh H2 e2 l2 => ?_⟩
  refine ⟨⟨_, rfl⟩, _, rfl, v0, _, rfl, hv.same (e1.trans e2), hwf, hsz, hsz.lev, fun p3 H3 hp3 e3 h3' => ?_⟩
  refine ⟨_, p3, _, rfl, rfl, .inl (SqL.of h3'), Nat.le_trans (text_room hwf hsz) (by decide), _, _, rfl, ?_⟩
  have e13 := (e1.trans e2).trans e3
  refine ⟨_, rfl, _, rfl, _, rfl, _, rfl, _, rfl, (by show 5 ≤ sizeLine; decide), fun p4 hp4 => ?_⟩
  have e34 := same_upd (o := .tup [.str wd.s, vh, .ref b, .int ((m : Nat) : Int), .int ((i : Nat) : Int)]) hp4
  have e14 := e13.trans e34
  have lh := (l2.mono (P' := fun a => H a = none) (fun a ha => Same.none_of e1 ha) (fun a xs _ ha => (e3.trans e34) _ _ ha))
  refine ⟨p4, wd, vh, td, b, xs, ps, m, i, rfl, upd_same, lh.ld, e14 _ _ h3, h4, fun k x p g1 g2 => (h5 k x p g1 g2).same e14, hwf, hsz, hsz.lev, fun pl H5 e5 hpl => ?_⟩
  have lh5 := lh.mono (P' := fun a => H a = none) (fun a ha => ha) (fun a xs _ ha => e5 _ _ ha)
  have e15 := e14.trans e5
  obtain ⟨ds, hds⟩ : ∃ ds, td.data = .tuple ds := by cases td <;> exact ⟨_, rfl⟩
  rw [hds] at lh5
  obtain ⟨hl, ys, rfl, hn0, hl5, hyl, hys⟩ : ∃ hl ys, vh = .ref hl ∧ H hl = none ∧ H5 hl = some (.lst ys) ∧ ys.length = ds.length ∧ ∀ (k : Nat) x d, ys[k]? = some x → ds[k]? = some d → Ll (fun a => H a = none) H5 x d := by
    cases lh5 with
    | seq g0 g1 g2 g3 => exact ⟨_, _, rfl, g0, g1, g2, g3⟩
  have hpd : Plain (.tuple ds) := by
    rw [← hds]
    exact told_plain hf hm.2 hi.2
  have hdl : ds.length < 1000 := by
    unfold Plain at hpd
    exact hpd.2
  have fin : ∀ H7, Same H H7 → Im H5 H7 → (∃ ys, H7 hl = some (.lst ys) ∧ ys.length < sizeLine) →
      (tSeq (tDrop (tBM K "list" rAppend (tVar 6) (tCons (tC (V.int 1)) tNil))) (tRet (tAndV (tOp rEq (tCB (rStrO (PC K) (sp___str__ K) E0) (tCons (tVar 8) tNil)) (tVar 7)) (tOp (rEqB (DIns (PC K) (RPl K 10))) (tVar 8) (tCall (sp__law_made K 10) [] E0 (tCons (tVar 0) tNil)))))) { nx := fun _ H' => Q V.non H', rt := Q } [some v0, some (.str wd.s), some vt, some (.ref b), some (.int ((m : Nat) : Int)), some (.int ((i : Nat) : Int)), some (.ref hl), some (.str (Txt.join (" " : Str) (Tr.node wd td ps m i).items)), some (.ref pl)] H7 := by
    rintro H7 e7 im7 ⟨zs, hz, hzl⟩
    refine ⟨_, rfl, .inl ⟨rfl, _, SqL.of hz⟩, hl, _, _, rfl, rfl, hz, hzl, ?_⟩
    have im8 : Im H7 (upd H7 hl (.lst (zs ++ [.int 1]))) := im_upd (Loose.lst hz)
    have e8 : Same H (upd H7 hl (.lst (zs ++ [.int 1]))) := Same.mut e7 hn0
    have hpl8 := (hpl.im im7).im im8
    refine ⟨_, rfl, ?_⟩
    dsimp only [tNil]
    refine hpl8.str hwf hsz fun H9 e9 => ?_
    refine ⟨_, rfl, rfl, _, rfl, itP (decide_eq_true rfl) ?_⟩
    refine ⟨_, rfl, _, rfl, ?_⟩
    dsimp only [tNil]
    refine made_of (hv.same (e8.trans e9)) hwf hsz hsz.lev fun a2 H10 e10 pl2 => ?_
    refine ⟨_, ((hpl8.same e9).same e10).eqd pl2 hsz.lev hsz.lev, fun H11 e11 => ?_⟩
    rw [Tr.eqv_self]
    exact q _ (((e8.trans e9).trans e10).trans e11)
  refine ⟨_, rfl, (by show 5 ≤ sizeLine; decide), fun p6 hp6 => ⟨p6, _, rfl, .inr (SqT.of upd_same), rfl, rfl, _, rfl, ?_⟩⟩
  have e56 : Same H5 (upd H5 p6 (.tup [.str "end", .str "keeper-sees", .str "rival-sees", .str "keeper-shows", .str "rival-shows"])) := same_upd hp6
  generalize upd H5 p6 (.tup [.str "end", .str "keeper-sees", .str "rival-sees", .str "keeper-shows", .str "rival-shows"]) = H6 at e56 ⊢
  have hl6 := e56 _ _ hl5
  by_cases hw : (wd = .fin || wd.isSees || wd.isShows) = true
  · refine itP (by show inV _ _ = true; rw [in_deep, hw]) ?_
    obtain ⟨es, dr, hdd⟩ := told_deep hw hf hm hi
    rw [hds] at hdd
    injection hdd with hdd
    subst hdd
    obtain ⟨y0, hy0⟩ : ∃ y, ys[0]? = some y := ⟨_, List.getElem?_eq_getElem (by rw [hyl]; simp)⟩
    have l0 := hys 0 y0 _ hy0 rfl
    have hes : es.length < 1000 := by
      have := plainL_mem (by unfold Plain at hpd; exact hpd.1) _ (List.mem_cons_self ..)
      unfold Plain at this
      exact this.2
    obtain ⟨a0, zs, rfl, hn1, ha0, hzl⟩ : ∃ a0 zs, y0 = .ref a0 ∧ H a0 = none ∧ H5 a0 = some (.lst zs) ∧ zs.length = es.length := by
      cases l0 with
      | seq g0 g1 g2 g3 => exact ⟨_, _, rfl, g0, g1, g2⟩
    have ha6 := e56 _ _ ha0
    refine ⟨_, rfl, hl, true, ys, 0, _, rfl, rfl, SqL.of hl6, atI_nat (j := 0) hy0, .inl ⟨rfl, _, SqL.of ha6⟩, a0, _, _, rfl, rfl, ha6, by rw [hzl]; exact Nat.lt_of_lt_of_le hes (by decide), ?_⟩
    refine fin _ (Same.mut (e15.trans e56) hn1) ((Im.of e56).trans (im_upd (Loose.lst ha6))) ?_
    by_cases hh : hl = a0
    · subst hh
      exact ⟨_, upd_same, by rw [List.length_append, hzl]; exact Nat.lt_of_lt_of_le (show _ < 1001 by simp; omega) (by decide)⟩
    · exact ⟨ys, by rw [upd_ne hh]; exact hl6, by rw [hyl]; exact Nat.lt_of_lt_of_le hdl (by decide)⟩
  · refine itN (by show ¬ inV _ _ = true; rw [in_deep, Bool.eq_false_iff.mpr hw]; decide) ?_
    exact fin H6 (e15.trans e56) (.of e56) ⟨ys, hl6, by rw [hyl]; exact Nat.lt_of_lt_of_le hdl (by decide)⟩
end
end PL
end
section
set_option maxHeartbeats 4000000
/-! D31: the law. -/
namespace PL
open PySem PySem.Spec PyProof.Rows L2
section
variable {w : World} {K : PySem.W.Frag} {mg : Str → Option Value} {base : Heap}
def g0 (us ws : List Value) : List Value := match us with | [] => ws | _ => []
def gV0 (vs zs : List V) : List V := match vs with | [] => zs | _ => []
theorem kb_read (T : Txt K mg) : KBinds K (dF K "read") ["text"] ["text"] g0 gV0 := by
  obtain ⟨oc, od, kV, doc, pm, an, cdv, ct, osl, e, lk, hcd⟩ := T.f_read.ex
  refine ⟨fun s us ws _ hl => ?_, fun {vs us zs ws} h1 h2 => ?_⟩
  · match us, ws, hl with
    | [], [u], _ =>
      rw [e]
      exact BindsTo.of_eq rfl
    | [], [], hl => exact absurd hl (by decide)
    | [], _ :: _ :: _, hl => exact absurd hl (by simp [g0])
    | _ :: _, _, hl => exact absurd hl (by simp [g0])
  · cases h1 with
    | nil => exact h2
    | cons _ _ => exact .nil
def sp__law_desk (K : PySem.W.Frag) : Sp := fun vs H Q _ => ∃ sa ns, vs = [.ref sa] ∧ SqL K H sa (List.map V.int ns) ∧ ∀ dk ca cs H', Same H H' → H dk = none → Desk H' dk ca cs 0 → Q (.ref dk) H'
theorem ok__law_desk (T : Txt K mg) : FnOk P0 w K mg base CX0 1 (aF K "_law_desk") (dF K "_law_desk") ["_law_script"] (sp__law_desk K) := by
  refine T.f__law_desk.ok sc__law_desk (fun vs H Q E h => by first | (obtain ⟨_, rfl, _⟩ := h; rfl) | (obtain ⟨_, _, rfl, _⟩ := h; rfl) | (obtain ⟨_, _, _, rfl, _⟩ := h; rfl) | (obtain ⟨_, _, _, _, rfl, _⟩ := h; rfl) | (obtain ⟨_, _, _, _, _, rfl, _⟩ := h; rfl) | (obtain ⟨_, _, _, _, _, _, rfl, _⟩ := h; rfl) | (obtain ⟨_, _, _, _, _, _, _, rfl, _⟩ := h; rfl) | (obtain ⟨_, _, _, _, _, _, _, _, rfl, _⟩ := h; rfl) | (obtain ⟨_, _, _, _, _, _, _, _, _, rfl, _⟩ := h; rfl) | (obtain ⟨_, _, _, _, _, _, _, _, _, _, rfl, _⟩ := h; rfl) | (obtain ⟨_, _, _, _, _, _, _, _, _, _, _, rfl, _⟩ := h; rfl) | (obtain ⟨_, _, _, _, _, _, _, _, _, _, _, _, rfl, _⟩ := h; rfl) | (obtain ⟨_, _, _, _, _, _, _, _, _, _, _, _, _, rfl, _⟩ := h; rfl) | (obtain ⟨_, _, _, _, _, _, _, _, _, _, _, _, _, _, rfl, _⟩ := h; rfl) | (obtain ⟨_, _, _, _, _, _, _, _, _, _, _, _, _, _, _, rfl, _⟩ := h; rfl) | (obtain ⟨_, _, _, _, _, _, _, _, _, _, _, _, _, _, _, _, rfl, _⟩ := h; rfl) | (obtain ⟨rfl, _⟩ := h; rfl)) (fun cdv A outer s H vs Q E hr h => ?_)
  obtain ⟨sa, ns, rfl, hs, q⟩ := h
  refine ⟨_, ((pss_one (ps_ret (pe_lst (pa_cons (pe_lc (own := [("_law_cell", 1)]) rfl sc__law_desk.nd (kpi K rfl (pe_slice (ksl K rfl) (pv 0) po_none (po_some pe_int))) (blkOk_by (by kernel_rfl)) (fun _ _ _ _ _ => (pg_name (i := 1) sc__law_desk.nd rfl (Or.inl rfl))) (fun _ _ _ _ _ => pts_nil) (fun _ _ _ _ _ => (pe_callTy call_int1 (by rfl) T.z_int bt_int (pa_cons (pv 1) pa_nil)))) (pa_cons pe_int (pa_cons pe_int pa_nil))))))), ?_⟩
  have ecut : cutV (ns.map V.int) none (some 58) = (ns.take 58).map V.int := by
    unfold cutV
    have e1 : HT.sIx (ns.map V.int).length (ns.map V.int).length (some ((58 : Nat) : Int)) = min 58 (ns.map V.int).length := HT.sIx_nat _ _ _
    have e1 : HT.sIx (ns.map V.int).length (ns.map V.int).length (some 58) = min 58 (ns.map V.int).length := e1
    rw [e1]
    show ((ns.map V.int).drop 0).take _ = _
    rw [List.drop_zero, List.map_take]
    show List.take (min 58 _ - 0) _ = _
    rw [Nat.sub_zero, List.take_eq_take_iff]
    omega
  have hlc : (ns.take 58).length ≤ 58 := by rw [List.length_take]; omega
  refine ⟨_, rfl, _, rfl, sa, _, rfl, hs, fun p1 hp1 => ?_⟩
  rw [ecut]
  have e1 : Same H (upd H p1 (.lst ((ns.take 58).map V.int))) := same_upd hp1
  have h1 : upd H p1 (.lst ((ns.take 58).map V.int)) p1 = some (.lst ((ns.take 58).map V.int)) := upd_same
  generalize upd H p1 (.lst ((ns.take 58).map V.int)) = H1 at e1 h1 ⊢
  have sq : SqB true K H1 p1 ((ns.take 58).map V.int) := SqL.of h1
  refine ⟨p1, true, rfl, ⟨_, sq⟩, fun D hD => lc_pure hD sq (by rw [List.length_map]; exact Nat.lt_of_le_of_lt hlc (by decide)) (fun _ => rfl) (fun j y _ => ∀ z, (ns.take 58)[j]? = some z → y = .int z) (fun _ _ _ _ _ h => h) ?_ ?_⟩
  · intro j x H2 hx e2 Qe hq
    rw [List.getElem?_map] at hx
    cases e : (ns.take 58)[j]? with
    | none => rw [e] at hx; cases hx
    | some z =>
      rw [e] at hx
      cases hx
      refine ⟨_, rfl, .inl ⟨z, rfl, hq _ _ (Same.refl _) fun z' hz' => ?_⟩⟩
      rw [e] at hz'
      cases hz'
      rfl
  · intro ys H2 e2 hD2 hl2 hP
    have ey : ys = (ns.take 58).map V.int := ys_map (f := V.int) (hl2.trans (List.length_map _)) hP
    subst ey
    refine ⟨(by show 3 ≤ sizeLine; decide), fun dk hdk => ?_⟩
    have e3 := same_upd (o := .lst [.ref D, .int 0, .int 0]) hdk
    refine q dk D (ns.take 58) _ ((e1.trans e2).trans e3) (Same.none_of (e1.trans e2) hdk) ⟨0, by decide, upd_same, e3 _ _ hD2, fun z => ?_, by omega⟩
    subst z
    rw [hD2] at hdk
    cases hdk
theorem PlAt.eq_str {H : Hp} {a : Addr} {t : Tr} {n : Nat} (h : PlAt K H a t) (hn : t.lev ≤ n) (z : Str) : DIns (PC K) (RPl K n) (.ref a) (.str z) H false := by
  obtain ⟨dx, pa, fs, vt, as, hH, _⟩ := h.inv
  exact ⟨a, _, dx, fs, rfl, ⟨_, rfl⟩, hH, .inr (.inl ⟨_, rfl⟩), t, h, hn, .inr (.inl ⟨_, rfl, rfl⟩)⟩
theorem PlAt.eq_tup {H : Hp} {a c : Addr} {t : Tr} {n : Nat} {xs : List V} (h : PlAt K H a t) (hn : t.lev ≤ n) (hc : H c = some (.tup xs)) : DIns (PC K) (RPl K n) (.ref a) (.ref c) H false := by
  obtain ⟨dx, pa, fs, vt, as, hH, _⟩ := h.inv
  exact ⟨a, _, dx, fs, rfl, ⟨_, rfl⟩, hH, .inr (.inr ⟨c, xs, rfl, hc⟩), t, h, hn, .inr (.inr ⟨c, xs, rfl, hc, rfl⟩)⟩
def endT (z : Int) : Tr := .node .fin (.rows [[.i z]]) [] 1 1
def holeT (m n : Nat) : Tr := .node .hole .unit [] m n
theorem end_make {z : Int} (hz : smallI z) {σ : L2.St} {H : Hp} {Q : VK} (q : ∀ a H', Same H H' → PlAt K H' a (endT z) → Q (.ref a) H') :
    tMake (aF K "End") (sp_End K) [] E0 (tCons (tLst (tCons (tLst (tCons (tC (V.int z)) tNil)) tNil)) tNil) σ H Q := by
  refine ⟨(by show 1 ≤ sizeLine; decide), fun p1 hp1 => ⟨(by show 1 ≤ sizeLine; decide), fun p2 hp2 => ?_⟩⟩
  have e1 : Same H (upd H p1 (.lst [.int z])) := same_upd hp1
  have h1 : upd H p1 (.lst [.int z]) p1 = some (.lst [.int z]) := upd_same
  generalize upd H p1 (.lst [.int z]) = H1 at e1 h1 hp2 ⊢
  have e2 : Same H1 (upd H1 p2 (.lst [.ref p1])) := same_upd hp2
  have h2 : upd H1 p2 (.lst [.ref p1]) p2 = some (.lst [.ref p1]) := upd_same
  generalize upd H1 p2 (.lst [.ref p1]) = H2 at e2 h2 ⊢
  have hld : Ld K H2 (.ref p2) (Told.rows [[.i z]]).data := .seq (b := true) h2 rfl fun k x d hx hd => by
    match k, hx, hd with
    | 0, hx, hd =>
      cases hx
      cases hd
      exact .seq (b := true) (e2 _ _ h1) rfl fun k x d hx hd => by
        match k, hx, hd with
        | 0, hx, hd => cases hx; cases hd; exact .int z
        | k + 1, hx, hd => simp at hx
    | k + 1, hx, hd => simp at hx
  exact fun x dx hx hdx hne => ⟨x, dx, .ref p2, .rows [[.i z]], 1, 1, rfl, upd_same, hld.same (same_two hx hdx hne), ⟨_, rfl, rfl, rfl, fun y hy => by
    rw [List.mem_singleton.mp hy]
    exact ⟨rfl, fun n hn => by rw [List.mem_singleton.mp hn]; exact hz⟩⟩, by decide, by decide, fun H' k pl => ⟨rfl, q x H' ((e1.trans e2).trans (same_new hx hdx hne k)) pl⟩⟩
theorem hole_make {m n : Nat} (hm : 1 ≤ m ∧ m ≤ 8) (hn : 1 ≤ n ∧ n ≤ 8) {σ : L2.St} {H : Hp} {Q : VK} (q : ∀ a H', Same H H' → PlAt K H' a (holeT m n) → Q (.ref a) H') :
    tMake (aF K "Hole") (sp_Hole K) [] E0 (tCons (tC (V.int ((m : Nat) : Int))) (tCons (tC (V.int ((n : Nat) : Int))) tNil)) σ H Q :=
  fun x dx hx hdx hne => ⟨x, dx, m, n, rfl, upd_same, hm, hn, fun H' k pl => ⟨rfl, q x H' (same_new hx hdx hne k) pl⟩⟩
def LawInv (H : Hp) (dk ca sa : Addr) (cs : List Int) (j : Nat) (σ : L2.St) (H' : Hp) : Prop :=
  (∃ s2 s3 s4 s5 s6 s7, σ = [some (V.ref sa), some (.ref dk), s2, s3, s4, s5, s6, s7]) ∧ Kp (some dk) H H' ∧ ∃ n', Desk H' dk ca cs n' ∧ n' ≤ 45000 * j
def sp_tree3 (K : PySem.W.Frag) : Sp := fun vs H Q E => ∃ d, d ≤ 3 ∧ sp__law_tree K d vs H Q E
theorem ok_tree3 (T : Txt K mg) : FnOk P0 w K mg base CX0 9 (aF K "_law_tree") (dF K "_law_tree") ["_law_desk_here", "_law_deep", "_law_mine", "_law_its"] (sp_tree3 K) :=
  ⟨fun vs H Q E ⟨d, _, h⟩ => (ok__law_tree (w := w) (base := base) T d).len vs H Q E h, fun A outer s H args us vs Q E hr he hb hv ⟨d, hd, h⟩ => ((ok__law_tree (w := w) (base := base) T d).mono (by omega)).run A outer s H args us vs Q E hr he hb hv h⟩
theorem costT_3 : ∀ d, d ≤ 3 → costT d ≤ 38850
  | 0, _ => by decide
  | 1, _ => by decide
  | 2, _ => by decide
  | 3, _ => by decide
theorem mostT_all : ∀ d, d ≤ 3 → mostT d ≤ 67
  | 0, _ => by decide
  | 1, _ => by decide
  | 2, _ => by decide
  | 3, _ => by decide
def sp_law (K : PySem.W.Frag) : Sp := fun vs H Q _ => ∃ sa ns, vs = [.ref sa] ∧ SqL K H sa (List.map V.int ns) ∧ ∀ H', Same H H' → Q (.bl true) H'
theorem ok_law (T : Txt K mg) : FnOk P0 w K mg base CX0 27 (aF K "law") (dF K "law") ["_law_script"] (sp_law K) := by
  have G__law_desk := ok__law_desk (w := w) (base := base) T
  have G__law_pick := ok__law_pick (w := w) (base := base) T
  have G__law_tree := ok_tree3 (w := w) (base := base) T
  have G__law_items := ok__law_items (w := w) (base := base) T 10
  have G__law_made := ok__law_made (w := w) (base := base) T 10
  have G__law_kept_right := ok__law_kept_right (w := w) (base := base) T
  have G__law_near := ok__law_near (w := w) (base := base) T 10
  have G_read := ok_read (w := w) (base := base) T
  have G_End := ok_End (w := w) (base := base) T
  have G_Hole := ok_Hole (w := w) (base := base) T
  have G___str__ := ok___str__ (w := w) (base := base) T
  have G___eq__ := ok___eq__ (w := w) (base := base) T 10
  have kb_read := kb_read T
  refine T.f_law.ok sc_law (fun vs H Q E h => by (obtain ⟨_, _, rfl, _⟩ := h; rfl)) (fun cdv A outer s H vs Q E hr h => ?_)
  obtain ⟨sa, ns, rfl, hs, q⟩ := h
  refine ⟨_, ((pss_cons (ps_set (i := 1) sc_law.nd rfl (Or.inl rfl) (pe_call G__law_desk (hr.mono (by omega)) rfl T.g__law_desk T.f__law_desk.kp T.b__law_desk .nil pass0 (pa_cons (pv 0) pa_nil)))
    (pss_cons (ps_for PassesOwn.never rfl (pi_range1 rfl T.z_range (pa_cons pe_int pa_nil)) (pg_name (i := 2) sc_law.nd rfl (Or.inl rfl)) (pss_cons (ps_set (i := 3) sc_law.nd rfl (Or.inl rfl) (pe_call G__law_tree (hr.mono (by omega)) rfl T.g__law_tree T.f__law_tree.kp T.b__law_tree .nil pass0 (pa_cons (pv 1) (pa_cons (pe_call G__law_pick (hr.mono (by omega)) rfl T.g__law_pick T.f__law_pick.kp T.b__law_pick .nil pass0 (pa_cons (pv 1) (pa_cons pe_int pa_nil))) (pa_cons (pe_op op_add pe_int (pe_call G__law_pick (hr.mono (by omega)) rfl T.g__law_pick T.f__law_pick.kp T.b__law_pick .nil pass0 (pa_cons (pv 1) (pa_cons pe_int pa_nil)))) (pa_cons (pe_op op_add pe_int (pe_call G__law_pick (hr.mono (by omega)) rfl T.g__law_pick T.f__law_pick.kp T.b__law_pick .nil pass0 (pa_cons (pv 1) (pa_cons pe_int pa_nil)))) pa_nil))))))
    (pss_cons (ps_par (i := 4) (j := 5) rfl sc_law.nd rfl rfl (by decide) rfl rfl (pa_cons (pe_call G__law_made (hr.mono (by omega)) rfl T.g__law_made T.f__law_made.kp T.b__law_made .nil pass0 (pa_cons (pv 3) pa_nil)) (pa_cons (kjoin K rfl pe_str (pe_call G__law_items (hr.mono (by omega)) rfl T.g__law_items T.f__law_items.kp T.b__law_items .nil pass0 (pa_cons (pv 3) pa_nil))) pa_nil)) (by rfl))
    (pss_cons (ps_if (PW.pt (pw_or (pt_cmpR op_ne (pe_callTy (call_strO G___str__ T.stc T.b___str__ pass0 (hr.mono (by omega))) (by rfl) T.z_str bt_str (pa_cons (pv 4) pa_nil)) (pv 5) (nomark _)) (pw_or1 (pt_not (pt_val (pe_call G__law_kept_right (hr.mono (by omega)) rfl T.g__law_kept_right T.f__law_kept_right.kp T.b__law_kept_right .nil pass0 (pa_cons (pv 3) pa_nil))))))) (pss_one (ps_ret pe_bl)) pss_nil)
    (pss_cons (ps_set (i := 6) sc_law.nd rfl (Or.inl rfl) (pe_callK0 G_read (hr.mono (by omega)) rfl T.g_read T.f_read.kp kb_read pass0 (pk_cons (pv 5) pk_nil)))
    (pss_cons (ps_if (PW.pt (pw_or (pt_cmpR (op_neB G___eq__ T.eqc T.b___eq__ pass0 (hr.mono (by omega))) (pv 6) (pv 4) (nomark _)) (pw_or (pt_not (pt_cmpR (op_eqB (rcB_ins G___eq__ T.eqc T.b___eq__ pass0) (hr.mono (by omega))) (pv 6) (pv 4) (nomark _))) (pw_or (pt_cmpR op_ne (pe_callTy (call_strO G___str__ T.stc T.b___str__ pass0 (hr.mono (by omega))) (by rfl) T.z_str bt_str (pa_cons (pv 6) pa_nil)) (pv 5) (nomark _)) (pw_or (pt_cmpR (op_eqB (rcB_ins G___eq__ T.eqc T.b___eq__ pass0) (hr.mono (by omega))) (pv 4) (pv 5) (nomark _)) (pw_or1 (pt_cmpR (op_eqB (rcB_ins G___eq__ T.eqc T.b___eq__ pass0) (hr.mono (by omega))) (pv 4) (pv 3) (nomark _)))))))) (pss_one (ps_ret pe_bl)) pss_nil)
    (pss_cons (ps_set (i := 7) sc_law.nd rfl (Or.inl rfl) (pe_call G__law_near (hr.mono (by omega)) rfl T.g__law_near T.f__law_near.kp T.b__law_near .nil pass0 (pa_cons (pv 1) (pa_cons (pv 3) pa_nil))))
    (pss_one (ps_if (PW.pt (pw_or (pt_cmpR op_ne (pe_callB call_reprB (by rfl) T.z_repr bt_repr (pa_cons (pe_cmpR (op_eqB (rcB_ins G___eq__ T.eqc T.b___eq__ pass0) (hr.mono (by omega))) (pe_call G__law_made (hr.mono (by omega)) rfl T.g__law_made T.f__law_made.kp T.b__law_made .nil pass0 (pa_cons (pv 7) pa_nil)) (pv 4) (nomark _)) pa_nil)) (pe_callB call_reprB (by rfl) T.z_repr bt_repr (pa_cons (pe_cmpR (keqD K rfl (hr.mono (Nat.zero_le _))) (pv 7) (pv 3) (nomark _)) pa_nil)) (nomark _)) (pw_or1 (pt_cmpR op_ne (pe_callB call_reprB (by rfl) T.z_repr bt_repr (pa_cons (pe_cmpR (op_neB G___eq__ T.eqc T.b___eq__ pass0 (hr.mono (by omega))) (pv 4) (pe_call G__law_made (hr.mono (by omega)) rfl T.g__law_made T.f__law_made.kp T.b__law_made .nil pass0 (pa_cons (pv 7) pa_nil)) (nomark _)) pa_nil)) (pe_callB call_reprB (by rfl) T.z_repr bt_repr (pa_cons (pe_cmpR (kneD K rfl (hr.mono (Nat.zero_le _))) (pv 7) (pv 3) (nomark _)) pa_nil)) (nomark _))))) (pss_one (ps_ret pe_bl)) pss_nil)))))))))
    (pss_one (ps_ret (pe_and (pe_cmpR (op_neB G___eq__ T.eqc T.b___eq__ pass0 (hr.mono (by omega))) (pe_make T.mk_End G_End (hr.mono (by omega)) rfl T.g_End T.b_End .nil pass0 (pa_cons (pe_lst (pa_cons (pe_lst (pa_cons pe_int pa_nil)) pa_nil)) pa_nil)) (pe_make T.mk_End G_End (hr.mono (by omega)) rfl T.g_End T.b_End .nil pass0 (pa_cons (pe_lst (pa_cons (pe_lst (pa_cons pe_int pa_nil)) pa_nil)) pa_nil)) (nomark _)) (pe_and (pe_cmpR (op_neB G___eq__ T.eqc T.b___eq__ pass0 (hr.mono (by omega))) (pe_make T.mk_Hole G_Hole (hr.mono (by omega)) rfl T.g_Hole T.b_Hole .nil pass0 (pa_cons pe_int (pa_cons pe_int pa_nil))) (pe_make T.mk_Hole G_Hole (hr.mono (by omega)) rfl T.g_Hole T.b_Hole .nil pass0 (pa_cons pe_int (pa_cons pe_int pa_nil))) (nomark _)) (pe_one (pe_not (pe_cmpR (op_eqB (rcB_ins G___eq__ T.eqc T.b___eq__ pass0) (hr.mono (by omega))) (pe_make T.mk_Hole G_Hole (hr.mono (by omega)) rfl T.g_Hole T.b_Hole .nil pass0 (pa_cons pe_int (pa_cons pe_int pa_nil))) (pe_make T.mk_End G_End (hr.mono (by omega)) rfl T.g_End T.b_End .nil pass0 (pa_cons (pe_lst (pa_cons (pe_lst (pa_cons pe_int pa_nil)) pa_nil)) pa_nil)) (nomark _))))))))))), ?_⟩
  refine ⟨_, rfl, sa, ns, rfl, hs, fun dk ca cs H1 e1 hdk0 d1 => ?_⟩
  have hdk1 : H dk = none := hdk0
  refine ⟨3, rfl, by decide, by decide, ?_⟩
  refine for_range (n := (3 : Int).toNat) (LawInv H1 dk ca sa cs) ⟨⟨_, _, _, _, _, _, rfl⟩, Kp.refl _ _, 0, d1, Nat.zero_le _⟩ ?_ ?_
  · rintro j σ Ha hj ⟨⟨s2, s3, s4, s5, s6, s7, rfl⟩, ka, n1, da, hn1⟩
    have hj3 : j < 3 := hj
    have cast1 : ∀ r : Nat, (1 : Int) + (r : Int) = ((1 + r : Nat) : Int) := fun r => by omega
    refine ⟨_, rfl, _, rfl, dk, ca, cs, n1, 4, rfl, da, by omega, by omega, by omega, fun r1 n2 H2 hr1 k2 d2 hn2 => ?_⟩
    refine ⟨_, rfl, dk, ca, cs, n2, 3, rfl, d2, by omega, by omega, by omega, fun r2 n3 H3 hr2 k3 d3 hn3 => ⟨_, _, rfl, rfl, ?_⟩⟩
    refine ⟨_, rfl, dk, ca, cs, n3, 3, rfl, d3, by omega, by omega, by omega, fun r3 n4 H4 hr3 k4 d4 hn4 => ⟨_, _, rfl, rfl, ?_⟩⟩
    have hcost := costT_3 r1 (by omega)
    refine ⟨r1, by omega, dk, ca, cs, n4, 1 + r2, 1 + r3, ?_, d4, by omega, ⟨by omega, by omega⟩, ⟨by omega, by omega⟩, fun t v n5 H5 ht tv k5 d5 hn5 => ?_⟩
    · show [V.ref dk, V.int ((r1 : Nat) : Int), V.int (1 + ((r2 : Nat) : Int)), V.int (1 + ((r3 : Nat) : Int))] = _
      rw [cast1, cast1]
    obtain ⟨hwf, _, _, hlev, hmany⟩ := ht
    have hm67 := mostT_all r1 (by omega)
    have hsz : Sz t := ⟨by omega, by omega⟩
    have hl10 : t.lev ≤ 10 := hsz.lev
    have kA : Kp (some dk) H1 H5 := (((ka.trans k2).trans k3).trans k4).trans k5
    -- the place and the text
    refine ⟨_, rfl, ?_⟩
    dsimp only [tNil]
    refine made_of tv hwf hsz hl10 fun pl H6 e6 hpl => ?_
    refine ⟨⟨_, rfl⟩, _, rfl, v, t, rfl, tv.same e6, hwf, hsz, hl10, fun p7 H7 hp7 e7 h7 => ?_⟩
    refine ⟨_, p7, t.items, rfl, rfl, .inl (SqL.of h7), Nat.le_trans (text_room hwf hsz) (by decide), _, _, rfl, ?_⟩
    have e57 := e6.trans e7
    refine ⟨_, rfl, ?_⟩
    dsimp only [tNil]
    refine (hpl.same e7).str hwf hsz fun H8 e8 => ?_
    refine ⟨_, rfl, rfl, _, rfl, itN (nT rfl) ?_⟩
    have e58 := e57.trans e8
    refine ⟨_, rfl, v, t, rfl, tv.same e58, hwf, hsz, fun H9 e9 => ⟨_, rfl, ?_⟩⟩
    have e59 := e58.trans e9
    -- read again
    refine ⟨_, rfl, t, rfl, hwf, hsz, fun rd H10 e10 hrd => ?_⟩
    have e510 := e59.trans e10
    have hpl10 : PlAt K H10 pl t := hpl.same (((e7.trans e8).trans e9).trans e10)
    refine ⟨_, rfl, _, rfl, _, hrd.eqd hpl10 hl10 hl10, fun H11 e11 => ⟨_, rfl, itN (by rw [Tr.eqv_self]; decide) ?_⟩⟩
    refine ⟨_, rfl, _, rfl, _, (hrd.same e11).eqd (hpl10.same e11) hl10 hl10, fun H12 e12 => ⟨_, rfl, itN (by rw [Tr.eqv_self]; decide) ?_⟩⟩
    refine ⟨_, rfl, ?_⟩
    dsimp only [tNil]
    refine ((hrd.same e11).same e12).str hwf hsz fun H13 e13 => ?_
    refine ⟨_, rfl, rfl, _, rfl, itN (nT rfl) ?_⟩
    have e1013 := (e11.trans e12).trans e13
    have hpl13 := hpl10.same e1013
    refine ⟨_, rfl, _, rfl, _, hpl13.eq_str hl10 _, fun H14 e14 => ⟨_, rfl, itN (by decide) ?_⟩⟩
    have e514 := (e510.trans e1013).trans e14
    obtain ⟨ta, tvv, tb, txs, rfl, gt1, _⟩ := tv.node
    refine ⟨_, rfl, _, rfl, _, (hpl13.same e14).eq_tup hl10 (e514 _ _ gt1), fun H15 e15 => ⟨_, rfl, itN (by decide) ?_⟩⟩
    have e515 := e514.trans e15
    have hpl15 := (hpl13.same e14).same e15
    -- a near one
    refine ⟨_, rfl, _, rfl, dk, ca, cs, n5, _, t, rfl, d5.same e515, by omega, tv.same e515, hwf, hl10, by decide, fun t' v' n6 H16 ht' tv' k16 d16 hn6 => ?_⟩
    obtain ⟨hwf', _, _, hlev', hmany'⟩ := ht'
    have hsz' : Sz t' := ⟨by omega, by omega⟩
    have hl10' : t'.lev ≤ 10 := hsz'.lev
    have im16 := k16.im (d5.same e515).loose
    have hpl16 := hpl15.im im16
    have tv16 := (tv.same e515).im im16
    refine ⟨_, rfl, ?_⟩
    dsimp only [tNil]
    refine made_of tv' hwf' hsz' hl10' fun pl' H17 e17 hpl' => ?_
    refine ⟨_, rfl, _, hpl'.eqd (hpl16.same e17) hl10' hl10, fun H18 e18 => ⟨_, rfl, ?_⟩⟩
    have e1618 := e17.trans e18
    have shp := fun t : Tr => fun h : t.lev ≤ 10 => (Shp.tr t).shaped (by omega)
    refine ⟨_, rfl, _, rfl, t'.data, t.data, (tv'.same e1618).dp, (tv16.same e1618).dp, shp _ hl10', shp _ hl10, _, rfl, rfl, _, rfl, itN (nT rfl) ?_⟩
    refine ⟨_, rfl, _, rfl, ?_⟩
    dsimp only [tNil]
    refine made_of (tv'.same e1618) hwf' hsz' hl10' fun pl2 H19 e19 hpl2 => ?_
    refine ⟨_, ((hpl16.same e1618).same e19).eqd hpl2 hl10 hl10', fun H20 e20 => ⟨_, rfl, ?_⟩⟩
    have e1620 := (e1618.trans e19).trans e20
    refine ⟨_, rfl, _, rfl, t'.data, t.data, (tv'.same e1620).dp, (tv16.same e1620).dp, shp _ hl10', shp _ hl10, _, rfl, rfl, _, rfl, itN ?_ ?_⟩
    · rw [PySem.W.eqv_comm]
      exact nT rfl
    · refine ⟨⟨_, _, _, _, _, _, rfl⟩, (kA.trans (.of e515)).trans (k16.trans (.of e1620)), n6, d16.same e1620, by omega⟩
  · rintro σ Ha ⟨⟨s2, s3, s4, s5, s6, s7, rfl⟩, ka, n1, da, hn1⟩
    have eHa : Same H Ha := Kp.new ((Kp.of e1).trans ka) hdk1
    dsimp only [tRet, tAndV, tOp]
    refine end_make (z := 1) ⟨by decide, by decide⟩ fun a1 H2 e2 g2 => ?_
    refine end_make (z := 2) ⟨by decide, by decide⟩ fun a2 H3 e3 g3 => ?_
    refine ⟨_, (g2.same e3).eqd g3 (by decide) (by decide), fun H4 e4 => ⟨_, rfl, itP (by decide +kernel) ?_⟩⟩
    refine hole_make (m := 1) (n := 2) (by decide) (by decide) fun a3 H5 e5 g5 => ?_
    refine hole_make (m := 2) (n := 1) (by decide) (by decide) fun a4 H6 e6 g6 => ?_
    refine ⟨_, (g5.same e6).eqd g6 (by decide) (by decide), fun H7 e7 => ⟨_, rfl, itP (by decide +kernel) ?_⟩⟩
    dsimp only [tNotV, tOp]
    refine hole_make (m := 1) (n := 1) (by decide) (by decide) fun a5 H8 e8 g8 => ?_
    refine end_make (z := 0) ⟨by decide, by decide⟩ fun a6 H9 e9 g9 => ?_
    refine ⟨_, (g8.same e9).eqd g9 (by decide) (by decide), fun H10 e10 => ⟨_, rfl, ?_⟩⟩
    have ef : PyData.eqv (holeT 1 1).data (endT 0).data = false := by decide +kernel
    rw [ef]
    exact q _ (((((((((eHa.trans e2).trans e3).trans e4).trans e5).trans e6).trans e7).trans e8).trans e9).trans e10)
end
end PL
end
section
set_option maxHeartbeats 0
namespace PL
open PySem PySem.Spec PyProof.Rows L2
theorem facts_law {w : World} {K : PySem.W.Frag} {h : Heap} {mg : Str → Option Value} {f : Addr} (X : K.In h) (G : h.Ns mainGlobals mg) (hfa : mg ("law" : Str) = some (.ref f)) (c : SaysP K) :
    ∃ fd : FuncData, (∀ (s : Shared) (v : Value), BindsTo s fd ⟨[v], []⟩ [("_law_script", v)]) ∧ ∀ base : Heap, K.In base → base.Ns mainGlobals mg → FnOk P0 w K mg base CX0 27 f fd ["_law_script"] (sp_law K) := by
  have T : Txt K mg := txt_of X G c
  have e := hfa.symm.trans T.g_law
  cases e
  refine ⟨dF K "law", fun s v => ?_, fun base _ _ => ok_law T⟩
  obtain ⟨oc, od, kV, doc, pm, an, cdv, ct, osl, e, lk, hcd⟩ := T.f_law.ex
  rw [e]
  exact BindsTo.of_eq rfl
end PL
open PySem PySem.W PySem.Calls PyProof.Rows
theorem PySem.Challenge.cw_planless_k12_whole_texts_of_places_holds : PySem.Challenge.rw_planless_k12_whole_texts_of_places.Holds := by
  w_on; o_law
  refine HandSHeadRun.head_any (r := OpenLaw.row PySem.Challenge.rw_planless_k12_whole_texts_of_places) (q := view (OpenLaw.row PySem.Challenge.rw_planless_k12_whole_texts_of_places).prog [97]) (H := PL.hkP) (ob := PL.obH) (M := 20000) (loose := PL.namesL) (d := HandSHeadRun.topDef (OpenLaw.row PySem.Challenge.rw_planless_k12_whole_texts_of_places).prog 97) (kwd := []) PL.obH_eq
    (by kernel_rfl) (fun s => by kernel_rfl) PL.runP (by kernel_rfl) (by kernel_rfl) (by kernel_rfl) (by rfl) (by first | assumption | decide +kernel) (by decide +kernel) ⟨rfl, rfl, rfl, rfl, rfl, by decide +kernel⟩ ?hw ?hc
  case hw => w_witness2
  case hc =>
    refine L2.walk_ofE (l := PySem.Challenge.rw_planless_k12_whole_texts_of_places) (n := 63) (k := 27) (x := "_law_script") (CX := L2.CX0) rfl (by decide) (by kernel_rfl) ⟨rfl, by decide, by decide⟩ ?F (fun _ _ _ _ z => z)
    intro w mg fa h Y G hmg0
    obtain ⟨K, KX, c⟩ := Y
    have hmg : mg ("law" : PySem.Str) = some (.ref fa) := by
      have e : (HandSHeadRun.topDef (OpenLaw.row PySem.Challenge.rw_planless_k12_whole_texts_of_places).prog 97).name = ("law" : PySem.Str) := by kernel_rfl
      rw [← e]
      exact hmg0
    obtain ⟨fd, hb, hF⟩ := PL.facts_law (w := w) KX G hmg c
    exact ⟨K, fd, PL.sp_law K, KX, hb, fun H a ns hl _ hS => ⟨a, ns, rfl, hS, fun _ _ => rfl⟩, hF⟩
end
