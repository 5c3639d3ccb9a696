import PyProof.Rows.All
import Wide.All
import OpenK.AllK
import Wide.FinOn
import HandS.ForMost
import KE.GoesEnum
import HandS.Lambda
import HandS.SortKw
import KE.SortKeyHeap
import HandS.SetBool
import PyProof.Rows.SortStr
import HandS.IsInst
import HandS.NoneIn
import HandS.Wide
import HandS.DictComp
import HandS.More
import PySem.Challenge.RW_crosskeep_k05_whole_deal_is_its_parts
import KE.DataEq
import HandS.Walk
import HandS.EndTab
set_option Elab.async false
set_option linter.all false
set_option maxRecDepth 100000
set_option maxHeartbeats 4000000
/-! The mathematics of law k05: rows, deeds, parts, their joining. No program here. -/
namespace CK
open PySem PySem.Spec PyProof.Rows L2

/-! ### texts in their order -/
theorem ris_pw : ∀ (l : List Str) (p : Str), risingS p l = true → (p :: l).Pairwise (fun a b => a.cps.toList ≤ b.cps.toList)
  | [], p, _ => List.pairwise_singleton _ p
  | x :: r, p, h => by
    have h' : (!ltCps x.cps.toList p.cps.toList && risingS x r) = true := h
    rw [Bool.and_eq_true] at h'
    have ih := ris_pw r x h'.2
    have hx : p.cps.toList ≤ x.cps.toList := by
      have q := h'.1
      rw [PyProof.Rows.ltCps_eq] at q
      simp only [Bool.not_eq_true', decide_eq_false_iff_not] at q
      exact q
    refine List.pairwise_cons.mpr ⟨fun b hb => ?_, ih⟩
    rcases List.mem_cons.mp hb with e | e
    · rw [e]; exact hx
    · exact List.le_trans hx ((List.pairwise_cons.mp ih).1 b e)
theorem sorted_pw {l : List Str} (h : sortedS l = true) : l.Pairwise (fun a b => a.cps.toList ≤ b.cps.toList) := by
  cases l with
  | nil => exact List.Pairwise.nil
  | cons x r => exact ris_pw r x h
theorem str_ext {a b : Str} (h : a.cps.toList = b.cps.toList) : a = b := by
  cases a with | mk x => cases b with | mk y =>
  congr
  exact Array.toList_inj.mp h
theorem sorted_one {xs ys : List Str} (h1 : sortedS xs = true) (h2 : sortedS ys = true) (p : xs.Perm ys) : xs = ys :=
  p.eq_of_pairwise (fun a b _ _ h h' => str_ext (List.le_antisymm h h')) (sorted_pw h1) (sorted_pw h2)

/-! ### rows -/
abbrev Rows := List (Key × V)
def val (r : Rows) (k : Str) : Option V := valV r (Sum.inr k)
def look (r : Rows) (k : Str) : V := (val r k).getD .non
def put (r : Rows) (k : Str) (v : V) : Rows := putK r (Sum.inr k) v
def drop (r : Rows) (k : Str) : Rows := dropK r (Sum.inr k)
/-- an int or a text -/
def isVal : V → Bool
  | .int _ => true
  | .str _ => true
  | _ => false
/-- .. or None -/
def isOpt : V → Bool
  | .non => true
  | v => isVal v
theorem opt_of {v : V} (h : isVal v = true) : isOpt v = true := by cases v <;> first | rfl | exact h
structure Good (r : Rows) : Prop where
  nd : (r.map (·.1)).Nodup
  tx : ∀ p ∈ r, ∃ k, p.1 = Sum.inr k
  vs : ∀ p ∈ r, isVal p.2 = true
theorem Good.nil : Good [] := ⟨by simp, (fun _ h => by cases h), (fun _ h => by cases h)⟩

theorem valV_drop {κ : Type} [DecidableEq κ] (k j : κ) : ∀ r : List (κ × V), valV (dropK r k) j = if j = k then none else valV r j
  | [] => by simp [dropK, valV]
  | p :: r => by
    have ih := valV_drop k j r
    by_cases e : p.1 = k
    · rw [dropK_pos e, ih]
      by_cases h : j = k
      · rw [if_pos h, if_pos h]
      · rw [if_neg h, if_neg h, valV_neg (fun z => h (z.symm.trans e))]
    · rw [dropK_neg e]
      by_cases h : p.1 = j
      · rw [valV_pos h, valV_pos h, if_neg (fun z => e (h.trans z))]
      · rw [valV_neg h, valV_neg h, ih]
theorem val_put (r : Rows) (k j : Str) (v : V) : val (put r k v) j = if j = k then some v else val r j := by
  unfold val put
  rw [valV_put]
  by_cases h : j = k
  · rw [if_pos h, if_pos (by rw [h])]
  · rw [if_neg h, if_neg (fun z => h (Sum.inr.inj z))]
theorem val_drop (r : Rows) (k j : Str) : val (drop r k) j = if j = k then none else val r j := by
  unfold val drop
  rw [valV_drop]
  by_cases h : j = k
  · rw [if_pos h, if_pos (by rw [h])]
  · rw [if_neg h, if_neg (fun z => h (Sum.inr.inj z))]
theorem mem_of_valV {κ : Type} [DecidableEq κ] {k : κ} {v : V} : ∀ {r : List (κ × V)}, valV r k = some v → (k, v) ∈ r
  | [], h => by simp [valV] at h
  | p :: r, h => by
    by_cases e : p.1 = k
    · rw [valV_pos e] at h
      have e2 := Option.some.inj h
      rw [← e, ← e2]
      exact List.mem_cons_self
    · rw [valV_neg e] at h
      exact List.mem_cons_of_mem _ (mem_of_valV h)
theorem Good.val {r : Rows} (g : Good r) {k : Str} {v : V} (h : val r k = some v) : isVal v = true := g.vs _ (mem_of_valV h)
theorem Good.look {r : Rows} (g : Good r) (k : Str) : isOpt (look r k) = true := by
  unfold CK.look
  cases h : CK.val r k with
  | none => rfl
  | some v => exact opt_of (g.val h)
theorem Good.none_iff {r : Rows} (g : Good r) (k : Str) : CK.look r k = .non ↔ CK.val r k = none := by
  unfold CK.look
  cases h : CK.val r k with
  | none => simp
  | some v =>
    have q := g.val h
    constructor
    · intro e
      have e' : v = .non := e
      rw [e'] at q
      cases q
    · intro e; cases e
theorem Good.look_inj {r r' : Rows} (g : Good r) (g' : Good r') {k : Str} (h : CK.look r k = CK.look r' k) : CK.val r k = CK.val r' k := by
  cases h1 : CK.val r k with
  | none =>
    have q : CK.look r' k = .non := by rw [← h]; exact (g.none_iff k).mpr h1
    exact ((g'.none_iff k).mp q).symm
  | some v =>
    cases h2 : CK.val r' k with
    | none =>
      have q := (g'.none_iff k).mpr h2
      rw [← h] at q
      rw [(g.none_iff k).mp q] at h1
      cases h1
    | some v' =>
      unfold CK.look at h
      rw [h1, h2] at h
      exact congrArg some h
theorem putK_mem {κ : Type} [DecidableEq κ] {r : List (κ × V)} {k : κ} {v : V} {p : κ × V} (h : p ∈ putK r k v) : p = (k, v) ∨ p ∈ r := by
  unfold putK at h
  split at h
  · obtain ⟨q, hq, e⟩ := List.mem_map.mp h
    split at e
    · rename_i hk
      left
      rw [← e, hk]
    · right
      rw [← e]
      exact hq
  · rcases List.mem_append.mp h with h | h
    · exact .inr h
    · exact .inl (List.mem_singleton.mp h)
theorem nd_putK' {κ : Type} [DecidableEq κ] {r : List (κ × V)} (k : κ) (v : V) (h : (r.map (·.1)).Nodup) : ((putK r k v).map (·.1)).Nodup := by
  cases q : valV r k with
  | none => exact nd_putK v h q
  | some x =>
    unfold putK
    rw [valV_any, q, if_pos (show (some x).isSome = true from rfl), List.map_map]
    have e : ((fun kv : κ × V => kv.1) ∘ fun kv => if kv.1 = k then (kv.1, v) else kv) = fun kv => kv.1 := by
      funext kv
      show (if kv.1 = k then (kv.1, v) else kv).1 = kv.1
      split <;> rfl
    rw [e]
    exact h
theorem Good.put {r : Rows} (g : Good r) (k : Str) {v : V} (hv : isVal v = true) : Good (CK.put r k v) := by
  refine ⟨nd_putK' _ _ g.nd, fun p hp => ?_, fun p hp => ?_⟩
  · rcases putK_mem hp with e | e
    · exact ⟨k, by rw [e]⟩
    · exact g.tx p e
  · rcases putK_mem hp with e | e
    · rw [e]; exact hv
    · exact g.vs p e
theorem Good.drop {r : Rows} (g : Good r) (k : Str) : Good (CK.drop r k) :=
  ⟨nd_dropK g.nd, fun p hp => g.tx p (dropK_mem hp), fun p hp => g.vs p (dropK_mem hp)⟩
theorem drop_absent {r : Rows} {k : Str} (h : val r k = none) : drop r k = r := dropK_no (valV_not h)

/-! ### deeds -/
inductive Deed where
  | get (k : Str)
  | put (k : Str) (v : V)
  | del (k : Str)
  | add (k : Str) (n : Int)
def Deed.key : Deed → Str
  | .get k => k
  | .put k _ => k
  | .del k => k
  | .add k _ => k
def big : Int := 1000000000000000
def Deed.Ok : Deed → Prop
  | .put _ v => isVal v = true
  | .add _ n => -1000000000 ≤ n ∧ n ≤ 1000000000
  | _ => True
def addTo (r : Rows) (k : Str) (n : Int) : V × Rows :=
  match val r k with
  | none => (.int n, put r k (.int n))
  | some (.int i) => if -big ≤ i + n ∧ i + n ≤ big then (.int (i + n), put r k (.int (i + n))) else (.non, r)
  | _ => (.non, r)
def doDeed (r : Rows) : Deed → V × Rows
  | .get k => (look r k, r)
  | .put k v => (look r k, put r k v)
  | .del k => (look r k, drop r k)
  | .add k n => addTo r k n
theorem addTo_good {r : Rows} (g : Good r) (k : Str) (n : Int) : Good (addTo r k n).2 ∧ isOpt (addTo r k n).1 = true := by
  unfold addTo
  split
  · exact ⟨g.put k rfl, rfl⟩
  · split
    · exact ⟨g.put k rfl, rfl⟩
    · exact ⟨g, rfl⟩
  · exact ⟨g, rfl⟩
theorem doDeed_good {r : Rows} (g : Good r) {d : Deed} (h : d.Ok) : Good (doDeed r d).2 := by
  cases d with
  | get k => exact g
  | put k v => exact g.put k h
  | del k => exact g.drop k
  | add k n => exact (addTo_good g k n).1
theorem doDeed_opt {r : Rows} (g : Good r) (d : Deed) : isOpt (doDeed r d).1 = true := by
  cases d with
  | get k => exact g.look k
  | put k v => exact g.look k
  | del k => exact g.look k
  | add k n => exact (addTo_good g k n).2
theorem addTo_out (r : Rows) (k : Str) (n : Int) {j : Str} (h : j ≠ k) : val (addTo r k n).2 j = val r j := by
  unfold addTo
  split
  · rw [val_put, if_neg h]
  · split
    · rw [val_put, if_neg h]
    · rfl
  · rfl
theorem doDeed_out (r : Rows) (d : Deed) {j : Str} (h : j ≠ d.key) : val (doDeed r d).2 j = val r j := by
  cases d with
  | get k => rfl
  | put k v => exact (val_put r k j v).trans (if_neg h)
  | del k => exact (val_drop r k j).trans (if_neg h)
  | add k n => exact addTo_out r k n h
theorem addTo_same {r r' : Rows} (k : Str) (n : Int) (h : val r k = val r' k) : (addTo r k n).1 = (addTo r' k n).1 ∧ val (addTo r k n).2 k = val (addTo r' k n).2 k := by
  unfold addTo
  rw [← h]
  split
  · exact ⟨rfl, by rw [val_put, val_put, if_pos rfl, if_pos rfl]⟩
  · split
    · exact ⟨rfl, by rw [val_put, val_put, if_pos rfl, if_pos rfl]⟩
    · exact ⟨rfl, h⟩
  · exact ⟨rfl, h⟩
theorem doDeed_same {r r' : Rows} (d : Deed) (h : val r d.key = val r' d.key) : (doDeed r d).1 = (doDeed r' d).1 ∧ val (doDeed r d).2 d.key = val (doDeed r' d).2 d.key := by
  cases d with
  | get k => exact ⟨congrArg (·.getD .non) h, h⟩
  | put k v => exact ⟨congrArg (·.getD .non) h, by
      show val (put r k v) k = val (put r' k v) k
      rw [val_put, val_put, if_pos rfl, if_pos rfl]⟩
  | del k => exact ⟨congrArg (·.getD .non) h, by
      show val (drop r k) k = val (drop r' k) k
      rw [val_drop, val_drop, if_pos rfl, if_pos rfl]⟩
  | add k n => exact addTo_same k n h

/-! ### deeds in a row -/
def answ (r : Rows) : List Deed → List V
  | [] => []
  | d :: ds => (doDeed r d).1 :: answ (doDeed r d).2 ds
def fin (r : Rows) : List Deed → Rows
  | [] => r
  | d :: ds => fin (doDeed r d).2 ds
/-- from the other end, as loops see it -/
theorem fin_snoc (d : Deed) : ∀ (ds : List Deed) (r : Rows), fin r (ds ++ [d]) = (doDeed (fin r ds) d).2
  | [], _ => rfl
  | e :: ds, r => fin_snoc d ds (doDeed r e).2
theorem answ_snoc (d : Deed) : ∀ (ds : List Deed) (r : Rows), answ r (ds ++ [d]) = answ r ds ++ [(doDeed (fin r ds) d).1]
  | [], _ => rfl
  | e :: ds, r => congrArg ((doDeed r e).1 :: ·) (answ_snoc d ds (doDeed r e).2)
theorem answ_length : ∀ (ds : List Deed) (r : Rows), (answ r ds).length = ds.length
  | [], _ => rfl
  | d :: ds, r => congrArg (· + 1) (answ_length ds (doDeed r d).2)
theorem fin_good : ∀ (ds : List Deed) {r : Rows}, Good r → (∀ d ∈ ds, d.Ok) → Good (fin r ds)
  | [], _, g, _ => g
  | d :: ds, r, g, h => fin_good ds (doDeed_good g (h d List.mem_cons_self)) fun e he => h e (List.mem_cons_of_mem _ he)
theorem answ_opt : ∀ (ds : List Deed) {r : Rows}, Good r → (∀ d ∈ ds, d.Ok) → ∀ v ∈ answ r ds, isOpt v = true
  | [], _, _, _, _, h => nomatch h
  | d :: ds, r, g, h, v, hv => by
    rcases List.mem_cons.mp hv with e | e
    · rw [e]; exact doDeed_opt g d
    · exact answ_opt ds (doDeed_good g (h d List.mem_cons_self)) (fun e he => h e (List.mem_cons_of_mem _ he)) v e
theorem fin_out : ∀ (ds : List Deed) (r : Rows) {j : Str}, (∀ d ∈ ds, j ≠ d.key) → val (fin r ds) j = val r j
  | [], _, _, _ => rfl
  | d :: ds, r, j, h => (fin_out ds _ fun e he => h e (List.mem_cons_of_mem _ he)).trans (doDeed_out r d (h d List.mem_cons_self))
theorem doDeed_len (r : Rows) (d : Deed) : (doDeed r d).2.length ≤ r.length + 1 := by
  cases d with
  | get k => exact Nat.le_succ _
  | put k v => exact length_putK _ _ _
  | del k => exact Nat.le_succ_of_le (dropK_le _ _)
  | add k n =>
    show (addTo r k n).2.length ≤ _
    unfold addTo
    split
    · exact length_putK _ _ _
    · split
      · exact length_putK _ _ _
      · exact Nat.le_succ _
    · exact Nat.le_succ _
theorem fin_len : ∀ (ds : List Deed) (r : Rows), (fin r ds).length ≤ r.length + ds.length
  | [], _ => Nat.le_refl _
  | d :: ds, r => by
    have h1 := fin_len ds (doDeed r d).2
    have h2 := doDeed_len r d
    show (fin (doDeed r d).2 ds).length ≤ r.length + (ds.length + 1)
    omega

/-! ### positions -/
def en {α : Type} (i : Nat) : List α → List (Nat × α)
  | [] => []
  | x :: xs => (i, x) :: en (i + 1) xs
theorem en_length {α : Type} : ∀ (xs : List α) (i : Nat), (en i xs).length = xs.length
  | [], _ => rfl
  | _ :: xs, i => congrArg (· + 1) (en_length xs (i + 1))
theorem en_map {α β : Type} (f : α → β) : ∀ (xs : List α) (i : Nat), (en i xs).map (fun p => (p.1, f p.2)) = en i (xs.map f)
  | [], _ => rfl
  | x :: xs, i => congrArg ((i, f x) :: ·) (en_map f xs (i + 1))
theorem en_snd {α : Type} : ∀ (xs : List α) (i : Nat), (en i xs).map (·.2) = xs
  | [], _ => rfl
  | x :: xs, i => congrArg (x :: ·) (en_snd xs (i + 1))
theorem en_ge {α : Type} : ∀ (xs : List α) (i : Nat) (p : Nat × α), p ∈ en i xs → i ≤ p.1
  | x :: xs, i, p, h => by
    rcases List.mem_cons.mp h with e | e
    · rw [e]; exact Nat.le_refl _
    · exact Nat.le_trans (Nat.le_succ i) (en_ge xs (i + 1) p e)
theorem en_pw {α : Type} : ∀ (xs : List α) (i : Nat), (en i xs).Pairwise (fun a b => a.1 < b.1)
  | [], _ => List.Pairwise.nil
  | x :: xs, i => List.pairwise_cons.mpr ⟨fun p hp => en_ge xs (i + 1) p hp, en_pw xs (i + 1)⟩
theorem en_snoc {α : Type} (x : α) : ∀ (xs : List α) (i : Nat), en i (xs ++ [x]) = en i xs ++ [(i + xs.length, x)]
  | [], i => rfl
  | y :: ys, i => by
    show (i, y) :: en (i + 1) (ys ++ [x]) = (i, y) :: (en (i + 1) ys ++ [(i + (ys.length + 1), x)])
    rw [en_snoc x ys (i + 1), show i + 1 + ys.length = i + (ys.length + 1) by omega]
theorem en_get {α : Type} : ∀ (xs : List α) (i j : Nat), (en i xs)[j]? = xs[j]?.map fun x => (i + j, x)
  | [], _, _ => by simp [en]
  | x :: xs, i, 0 => rfl
  | x :: xs, i, j + 1 => by
    show (en (i + 1) xs)[j]? = _
    rw [en_get xs (i + 1) j, List.getElem?_cons_succ, show i + 1 + j = i + (j + 1) by omega]

/-! ### lists split by sets -/
def cnt (sets : List (List Str)) (k : Str) : Nat := sets.countP fun S => decide (k ∈ S)
theorem split_cons {α : Type} (key : α → Str) (x : α) (l : List α) : ∀ (sets : List (List Str)) (n : Nat), cnt sets (key x) = n →
    (sets.flatMap fun S => (x :: l).filter fun y => decide (key y ∈ S)).Perm (List.replicate n x ++ sets.flatMap fun S => l.filter fun y => decide (key y ∈ S))
  | [], n, h => by
    have e : n = 0 := h.symm
    subst e
    exact List.Perm.refl _
  | S :: sets, n, h => by
    rw [List.flatMap_cons, List.flatMap_cons, List.filter_cons]
    by_cases hk : key x ∈ S
    · have hc : cnt sets (key x) + 1 = n := by
        rw [← h]
        unfold cnt
        rw [List.countP_cons, if_pos (by simpa using hk)]
      have ih := split_cons key x l sets (cnt sets (key x)) rfl
      rw [if_pos (by simpa using hk), ← hc, List.replicate_succ, List.cons_append, List.cons_append]
      refine List.Perm.cons x ?_
      refine (List.Perm.append_left _ ih).trans ?_
      rw [← List.append_assoc, ← List.append_assoc]
      exact List.Perm.append_right _ List.perm_append_comm
    · have hc : cnt sets (key x) = n := by
        rw [← h]
        unfold cnt
        rw [List.countP_cons, if_neg (by simpa using hk), Nat.add_zero]
      have ih := split_cons key x l sets n hc
      rw [if_neg (by simpa using hk)]
      refine (List.Perm.append_left _ ih).trans ?_
      rw [← List.append_assoc, ← List.append_assoc]
      exact List.Perm.append_right _ List.perm_append_comm
theorem split_perm {α : Type} (key : α → Str) (sets : List (List Str)) : ∀ (l : List α), (∀ x ∈ l, cnt sets (key x) = 1) →
    (sets.flatMap fun S => l.filter fun y => decide (key y ∈ S)).Perm l
  | [], _ => by
    have e : ∀ sets : List (List Str), (sets.flatMap fun S => ([] : List α).filter fun y => decide (key y ∈ S)) = [] := by
      intro sets
      induction sets with
      | nil => rfl
      | cons S r ih => rw [List.flatMap_cons, ih]; rfl
    rw [e]
  | x :: l, h => by
    have q := split_cons key x l sets 1 (h x List.mem_cons_self)
    refine q.trans ?_
    show (x :: sets.flatMap fun S => l.filter fun y => decide (key y ∈ S)).Perm (x :: l)
    exact List.Perm.cons x (split_perm key sets l fun y hy => h y (List.mem_cons_of_mem _ hy))

/-! ### sorted by position -/
/-- a list whose positions ascend is what any arrangement of it is sorted to -/
theorem by_pos {α : Type} {l s t : List (Nat × α)} (ht : t.Pairwise (fun a b => a.1 < b.1)) (hp : l.Perm t) (hs : s.Perm l) (hw : s.Pairwise fun a b => a.1 ≤ b.1) : s = t := by
  have hst : s.Perm t := hs.trans hp
  refine hst.eq_of_pairwise (le := fun a b => a.1 ≤ b.1) (fun a b ha hb h1 h2 => ?_) hw (ht.imp fun h => Nat.le_of_lt h)
  have e : a.1 = b.1 := Nat.le_antisymm h1 h2
  have ha' : a ∈ t := hst.mem_iff.mp ha
  obtain ⟨i, hi, ea⟩ := List.getElem_of_mem ha'
  obtain ⟨j, hj, eb⟩ := List.getElem_of_mem hb
  have pw := List.pairwise_iff_getElem.mp ht
  rcases Nat.lt_trichotomy i j with h | h | h
  · have q := pw i j hi hj h
    rw [ea, eb] at q
    omega
  · subst h
    rw [← ea, ← eb]
  · have q := pw j i hj hi h
    rw [ea, eb] at q
    omega
end CK
/-! Law k05's mathematics, further: parts tried apart and joined are the whole deal. -/
namespace CK
open PySem PySem.Spec PyProof.Rows L2

/-- ks: the texts of l, each once, in order -/
structure Keys (ks l : List Str) : Prop where
  nd : ks.Nodup
  so : sortedS ks = true
  mem : ∀ k, k ∈ ks ↔ k ∈ l
theorem Keys.one {ks js l : List Str} (a : Keys ks l) (b : Keys js l) : ks = js :=
  sorted_one a.so b.so ((List.perm_ext_iff_of_nodup a.nd b.nd).mpr fun k => (a.mem k).trans (b.mem k).symm)
theorem nodup_len : ∀ (l D : List Str), l.Nodup → (∀ x ∈ l, x ∈ D) → l.length ≤ D.length
  | [], _, _, _ => Nat.zero_le _
  | x :: l, D, nd, h => by
    obtain ⟨h1, h2⟩ := List.nodup_cons.mp nd
    have hx : x ∈ D := h x List.mem_cons_self
    have q := nodup_len l (D.erase x) h2 fun y hy => by
      have ne : y ≠ x := fun e => h1 (e ▸ hy)
      exact (List.mem_erase_of_ne ne).mpr (h y (List.mem_cons_of_mem _ hy))
    have e := List.length_erase_of_mem hx
    have pos : 0 < D.length := List.length_pos_of_mem hx
    rw [List.length_cons]
    omega
theorem Keys.len {ks l : List Str} (a : Keys ks l) : ks.length ≤ l.length := nodup_len ks l a.nd fun x hx => (a.mem x).mp hx

/-! ### one part -/
abbrev Ch := List (Nat × Str × V)
abbrev De := List (Nat × Deed)
structure Tried where
  held : Bool
  vals : List (Nat × V)
  ans : List (Nat × V)
  wr : List (Str × V)
def part1 (checks : List (Str × V)) (S : List Str) : Ch := (en 0 checks).filter fun c => decide (c.2.1 ∈ S)
def part2 (deeds : List Deed) (S : List Str) : De := (en 0 deeds).filter fun d => decide (d.2.key ∈ S)
def names (ch : Ch) (de : De) : List Str := ch.map (·.2.1) ++ de.map (·.2.key)
/-- what stands at ks, in their turn -/
def after (r : Rows) : List Str → Rows
  | ks => ks.foldl (fun a k => match val r k with | some v => put a k v | none => a) []
def vals (r : Rows) (ch : Ch) : List (Nat × V) := ch.map fun c => (c.1, look r c.2.1)
def wants (ch : Ch) : List (Nat × V) := ch.map fun c => (c.1, c.2.2)
def ans (r : Rows) (de : De) : List (Nat × V) := (de.map (·.1)).zip (answ r (de.map (·.2)))
def changed (r a : Rows) (ks : List Str) : List Str := ks.filter fun k => decide (look a k ≠ look r k)
def tryP (r : Rows) (ch : Ch) (de : De) (ks : List Str) : Tried :=
  if vals r ch = wants ch then
    { held := true, vals := vals r ch, ans := ans (after r ks) de,
      wr := (changed r (fin (after r ks) (de.map (·.2))) ks).map fun k => (k, look (fin (after r ks) (de.map (·.2))) k) }
  else { held := false, vals := vals r ch, ans := [], wr := [] }

theorem after_val' (r : Rows) : ∀ (ks : List Str) (a : Rows) (k : Str), val (ks.foldl (fun a k => match val r k with | some v => put a k v | none => a) a) k = if k ∈ ks ∧ (val r k).isSome = true then val r k else val a k
  | [], a, k => by simp
  | j :: ks, a, k => by
    rw [List.foldl_cons, after_val' r ks]
    by_cases h : k ∈ ks ∧ (val r k).isSome = true
    · rw [if_pos h, if_pos ⟨List.mem_cons_of_mem _ h.1, h.2⟩]
    · rw [if_neg h]
      cases e : val r j with
      | none =>
        dsimp only
        rw [if_neg]
        intro ⟨h1, h2⟩
        rcases List.mem_cons.mp h1 with z | z
        · rw [z, e] at h2; cases h2
        · exact h ⟨z, h2⟩
      | some v =>
        dsimp only
        rw [val_put]
        by_cases hk : k = j
        · rw [if_pos hk, if_pos ⟨by rw [hk]; exact List.mem_cons_self, by rw [hk, e]; rfl⟩, hk, e]
        · rw [if_neg hk, if_neg]
          intro ⟨h1, h2⟩
          rcases List.mem_cons.mp h1 with z | z
          · exact hk z
          · exact h ⟨z, h2⟩
theorem after_val (r : Rows) (ks : List Str) (k : Str) : val (after r ks) k = if k ∈ ks then val r k else none := by
  unfold after
  rw [after_val']
  by_cases h : k ∈ ks
  · rw [if_pos h]
    cases e : val r k with
    | none => rw [if_neg (by simp)]; rfl
    | some v => rw [if_pos ⟨h, rfl⟩]
  · rw [if_neg h, if_neg (fun z => h z.1)]
    rfl
theorem after_snoc (r : Rows) (ks : List Str) (k : Str) : after r (ks ++ [k]) = match val r k with | some v => put (after r ks) k v | none => after r ks := by
  unfold after
  rw [List.foldl_append]
  rfl
theorem after_good {r : Rows} (g : Good r) (ks : List Str) : Good (after r ks) := by
  have h : ∀ (ks : List Str) (a : Rows), Good a → Good (ks.foldl (fun a k => match val r k with | some v => put a k v | none => a) a) := by
    intro ks
    induction ks with
    | nil => intro a ga; exact ga
    | cons k ks ih =>
      intro a ga
      rw [List.foldl_cons]
      refine ih _ ?_
      cases e : val r k with
      | none => exact ga
      | some v => exact ga.put k (g.val e)
  exact h ks [] Good.nil
theorem after_len (r : Rows) (ks : List Str) : (after r ks).length ≤ ks.length := by
  have h : ∀ (ks : List Str) (a : Rows), (ks.foldl (fun a k => match val r k with | some v => put a k v | none => a) a).length ≤ a.length + ks.length := by
    intro ks
    induction ks with
    | nil => intro a; exact Nat.le_refl _
    | cons k ks ih =>
      intro a
      rw [List.foldl_cons]
      refine Nat.le_trans (ih _) ?_
      rw [List.length_cons]
      cases e : val r k with
      | none => dsimp only; omega
      | some v =>
        dsimp only
        have q := length_putK a (Sum.inr k) v
        have q' : (put a k v).length ≤ a.length + 1 := q
        omega
  have q := h ks []
  rw [List.length_nil, Nat.zero_add] at q
  exact q

/-! ### a part's run against the whole run -/
/-- the whole run, each deed with its place and its answer -/
def run (i : Nat) (r : Rows) : List Deed → List (Nat × Deed × V)
  | [] => []
  | d :: ds => (i, d, (doDeed r d).1) :: run (i + 1) (doDeed r d).2 ds
theorem run_ans : ∀ (ds : List Deed) (i : Nat) (r : Rows), (run i r ds).map (fun x => (x.1, x.2.2)) = en i (answ r ds)
  | [], _, _ => rfl
  | d :: ds, i, r => congrArg ((i, (doDeed r d).1) :: ·) (run_ans ds (i + 1) (doDeed r d).2)
theorem run_key : ∀ (ds : List Deed) (i : Nat) (r : Rows) (x : Nat × Deed × V), x ∈ run i r ds → x.2.1 ∈ ds
  | d :: ds, i, r, x, h => by
    rcases List.mem_cons.mp h with e | e
    · rw [e]; exact List.mem_cons_self
    · exact List.mem_cons_of_mem _ (run_key ds _ _ x e)
def Agree (S : List Str) (r a : Rows) : Prop := ∀ k ∈ S, val r k = val a k
theorem sub_run (S : List Str) : ∀ (ds : List Deed) (i : Nat) (r a : Rows), Agree S r a →
    ans a ((en i ds).filter fun d => decide (d.2.key ∈ S)) = ((run i r ds).filter fun x => decide (x.2.1.key ∈ S)).map (fun x => (x.1, x.2.2)) ∧
    Agree S (fin r ds) (fin a (((en i ds).filter fun d => decide (d.2.key ∈ S)).map (·.2)))
  | [], i, r, a, h => ⟨rfl, h⟩
  | d :: ds, i, r, a, h => by
    show ans a (((i, d) :: en (i + 1) ds).filter fun d => decide (d.2.key ∈ S)) = (((i, d, (doDeed r d).1) :: run (i + 1) (doDeed r d).2 ds).filter fun x => decide (x.2.1.key ∈ S)).map (fun x => (x.1, x.2.2)) ∧
      Agree S (fin (doDeed r d).2 ds) (fin a ((((i, d) :: en (i + 1) ds).filter fun d => decide (d.2.key ∈ S)).map (·.2)))
    rw [List.filter_cons, List.filter_cons]
    by_cases hk : d.key ∈ S
    · rw [if_pos (by simpa using hk), if_pos (by simpa using hk)]
      obtain ⟨e1, e2⟩ := doDeed_same d (h d.key hk)
      have ag : Agree S (doDeed r d).2 (doDeed a d).2 := fun k m => by
        by_cases e : k = d.key
        · rw [e]; exact e2
        · rw [doDeed_out r d e, doDeed_out a d e]; exact h k m
      obtain ⟨q1, q2⟩ := sub_run S ds (i + 1) _ _ ag
      refine ⟨?_, q2⟩
      show (i, (doDeed a d).1) :: ans (doDeed a d).2 _ = (i, (doDeed r d).1) :: _
      rw [q1, e1]
    · rw [if_neg (by simpa using hk), if_neg (by simpa using hk)]
      have ag : Agree S (doDeed r d).2 a := fun k m => by
        rw [doDeed_out r d (fun e => hk (e ▸ m))]
        exact h k m
      exact sub_run S ds (i + 1) _ _ ag

/-! ### writes -/
def wr1 (r : Rows) (w : Str × V) : Rows := if w.2 = .non then drop r w.1 else put r w.1 w.2
def writes (r : Rows) (ws : List (Str × V)) : Rows := ws.foldl wr1 r
theorem wr1_good {r : Rows} (g : Good r) {w : Str × V} (h : isOpt w.2 = true) : Good (wr1 r w) := by
  unfold wr1
  split
  · exact g.drop _
  · rename_i n
    refine g.put _ ?_
    cases e : w.2 <;> rw [e] at h n <;> first | exact absurd rfl n | rfl | cases h
theorem wr1_look {r : Rows} (w : Str × V) (k : Str) : look (wr1 r w) k = if k = w.1 then w.2 else look r k := by
  unfold wr1 look
  by_cases h : w.2 = .non
  · rw [if_pos h, val_drop]
    by_cases e : k = w.1
    · rw [if_pos e, if_pos e, h]; rfl
    · rw [if_neg e, if_neg e]
  · rw [if_neg h, val_put]
    by_cases e : k = w.1
    · rw [if_pos e, if_pos e]; rfl
    · rw [if_neg e, if_neg e]
theorem writes_good : ∀ (ws : List (Str × V)) {r : Rows}, Good r → (∀ w ∈ ws, isOpt w.2 = true) → Good (writes r ws)
  | [], _, g, _ => g
  | w :: ws, r, g, h => writes_good ws (wr1_good g (h w List.mem_cons_self)) fun v hv => h v (List.mem_cons_of_mem _ hv)
theorem writes_out : ∀ (ws : List (Str × V)) (r : Rows) (k : Str), k ∉ ws.map (·.1) → look (writes r ws) k = look r k
  | [], _, _, _ => rfl
  | w :: ws, r, k, h => by
    rw [List.map_cons, List.mem_cons, not_or] at h
    show look (writes (wr1 r w) ws) k = _
    rw [writes_out ws _ k h.2, wr1_look, if_neg h.1]
theorem writes_in : ∀ (ws : List (Str × V)) (r : Rows) (w : Str × V), (ws.map (·.1)).Nodup → w ∈ ws → look (writes r ws) w.1 = w.2
  | [], _, _, _, h => nomatch h
  | u :: ws, r, w, nd, h => by
    rw [List.map_cons, List.nodup_cons] at nd
    show look (writes (wr1 r u) ws) w.1 = _
    rcases List.mem_cons.mp h with e | e
    · rw [e, writes_out ws _ u.1 nd.1, wr1_look, if_pos rfl]
    · exact writes_in ws _ w nd.2 e
theorem writes_append (r : Rows) (a b : List (Str × V)) : writes r (a ++ b) = writes (writes r a) b := List.foldl_append
theorem wr1_len (r : Rows) (w : Str × V) : (wr1 r w).length ≤ r.length + 1 := by
  unfold wr1
  split
  · exact Nat.le_succ_of_le (dropK_le _ _)
  · exact length_putK _ _ _
theorem writes_len : ∀ (ws : List (Str × V)) (r : Rows), (writes r ws).length ≤ r.length + ws.length
  | [], _ => Nat.le_refl _
  | w :: ws, r => by
    have h1 := writes_len ws (wr1 r w)
    have h2 := wr1_len r w
    show (writes (wr1 r w) ws).length ≤ r.length + (ws.length + 1)
    omega
theorem writes_snoc (r : Rows) (ws : List (Str × V)) (w : Str × V) : writes r (ws ++ [w]) = wr1 (writes r ws) w := by
  rw [writes_append]; rfl

/-! ### all parts -/
/-- what stands at the keys of S alone -/
def known (r : Rows) (S : List Str) : Rows := after r S
structure Split (checks : List (Str × V)) (deeds : List Deed) (sets : List (List Str)) : Prop where
  one : ∀ k, (k ∈ checks.map (·.1) ∨ k ∈ deeds.map Deed.key) → cnt sets k = 1
/-- what a part's trying gives -/
def TP (r : Rows) (checks : List (Str × V)) (deeds : List Deed) (S : List Str) (t : Tried) : Prop :=
  ∃ ks, Keys ks (names (part1 checks S) (part2 deeds S)) ∧ t = tryP (known r S) (part1 checks S) (part2 deeds S) ks
theorem mem_part1 {checks : List (Str × V)} {S : List Str} {c : Nat × Str × V} (h : c ∈ part1 checks S) : c.2 ∈ checks ∧ c.2.1 ∈ S := by
  obtain ⟨h1, h2⟩ := List.mem_filter.mp h
  refine ⟨?_, of_decide_eq_true h2⟩
  have q := List.mem_map_of_mem (f := fun p : Nat × (Str × V) => p.2) h1
  rw [en_snd] at q
  exact q
theorem mem_part2 {deeds : List Deed} {S : List Str} {d : Nat × Deed} (h : d ∈ part2 deeds S) : d.2 ∈ deeds ∧ d.2.key ∈ S := by
  obtain ⟨h1, h2⟩ := List.mem_filter.mp h
  refine ⟨?_, of_decide_eq_true h2⟩
  have q := List.mem_map_of_mem (f := fun p : Nat × Deed => p.2) h1
  rw [en_snd] at q
  exact q
theorem names_in {checks : List (Str × V)} {deeds : List Deed} {S : List Str} {k : Str} (h : k ∈ names (part1 checks S) (part2 deeds S)) :
    k ∈ S ∧ (k ∈ checks.map (·.1) ∨ k ∈ deeds.map Deed.key) := by
  rcases List.mem_append.mp h with h | h
  · obtain ⟨c, hc, e⟩ := List.mem_map.mp h
    obtain ⟨h1, h2⟩ := mem_part1 hc
    exact ⟨by rw [← e]; exact h2, .inl (List.mem_map.mpr ⟨c.2, h1, e⟩)⟩
  · obtain ⟨c, hc, e⟩ := List.mem_map.mp h
    obtain ⟨h1, h2⟩ := mem_part2 hc
    exact ⟨by rw [← e]; exact h2, .inr (List.mem_map.mpr ⟨c.2, h1, e⟩)⟩
theorem in_names {checks : List (Str × V)} {deeds : List Deed} {S : List Str} {k : Str} (hS : k ∈ S) (h : k ∈ checks.map (·.1) ∨ k ∈ deeds.map Deed.key) :
    k ∈ names (part1 checks S) (part2 deeds S) := by
  rcases h with h | h
  · obtain ⟨c, hc, e⟩ := List.mem_map.mp h
    have q : c ∈ (en 0 checks).map (·.2) := by rw [en_snd]; exact hc
    obtain ⟨p, hp, ep⟩ := List.mem_map.mp q
    refine List.mem_append_left _ (List.mem_map.mpr ⟨p, List.mem_filter.mpr ⟨hp, decide_eq_true ?_⟩, ?_⟩)
    · rw [ep, e]; exact hS
    · rw [ep]; exact e
  · obtain ⟨c, hc, e⟩ := List.mem_map.mp h
    have q : c ∈ (en 0 deeds).map (·.2) := by rw [en_snd]; exact hc
    obtain ⟨p, hp, ep⟩ := List.mem_map.mp q
    refine List.mem_append_right _ (List.mem_map.mpr ⟨p, List.mem_filter.mpr ⟨hp, decide_eq_true ?_⟩, ?_⟩)
    · rw [ep, e]; exact hS
    · rw [ep]; exact e
theorem known_look (r : Rows) {S : List Str} {k : Str} (h : k ∈ S) : look (known r S) k = look r k := by
  unfold look known
  rw [after_val, if_pos h]
theorem vals_known (r : Rows) (checks : List (Str × V)) (S : List Str) : vals (known r S) (part1 checks S) = (part1 checks S).map fun c => (c.1, look r c.2.1) :=
  List.map_congr_left fun c hc => by rw [known_look r (mem_part1 hc).2]
/-- a part's own rows ahead of its deeds agree with the whole rows at the keys that it names -/
theorem start_agree (r : Rows) {S ks : List Str} {l : List Str} (K : Keys ks l) (hS : ∀ k ∈ l, k ∈ S) : Agree ks r (after (known r S) ks) := fun k hk => by
  rw [after_val, if_pos hk]
  show val r k = val (after r S) k
  rw [after_val, if_pos (hS k ((K.mem k).mp hk))]
def heldB (r : Rows) (checks : List (Str × V)) : Bool := decide (checks.map (fun c => look r c.1) = checks.map (·.2))
theorem tp_held {r : Rows} {checks : List (Str × V)} {deeds : List Deed} {S : List Str} {t : Tried} (h : TP r checks deeds S t) :
    t.held = decide (∀ c ∈ part1 checks S, look r c.2.1 = c.2.2) ∧ t.vals = (part1 checks S).map fun c => (c.1, look r c.2.1) := by
  obtain ⟨ks, K, rfl⟩ := h
  have e : (vals (known r S) (part1 checks S) = wants (part1 checks S)) ↔ ∀ c ∈ part1 checks S, look r c.2.1 = c.2.2 := by
    rw [vals_known]
    unfold wants
    rw [List.map_inj_left]
    constructor
    · intro h c hc
      exact (Prod.mk.inj (h c hc)).2
    · intro h c hc
      rw [h c hc]
  unfold tryP
  split
  · rename_i hh
    exact ⟨(decide_eq_true (e.mp hh)).symm, vals_known r checks S⟩
  · rename_i hh
    exact ⟨(decide_eq_false fun z => hh (e.mpr z)).symm, vals_known r checks S⟩
/-- the deeds' filter by S is the filter by the part's own keys -/
theorem part_filter {deeds : List Deed} {checks : List (Str × V)} {S ks : List Str} (K : Keys ks (names (part1 checks S) (part2 deeds S))) :
    part2 deeds S = (en 0 deeds).filter fun d => decide (d.2.key ∈ ks) := by
  refine List.filter_congr fun d hd => ?_
  have hm : d.2 ∈ deeds := by
    have q := List.mem_map_of_mem (f := fun p : Nat × Deed => p.2) hd
    rw [en_snd] at q
    exact q
  have e : d.2.key ∈ S ↔ d.2.key ∈ ks := by
    rw [K.mem]
    exact ⟨fun h => in_names h (.inr (List.mem_map.mpr ⟨d.2, hm, rfl⟩)), fun h => (names_in h).1⟩
  exact decide_eq_decide.mpr e
theorem run_filter {deeds : List Deed} {checks : List (Str × V)} {S ks : List Str} (r : Rows) (K : Keys ks (names (part1 checks S) (part2 deeds S))) :
    ((run 0 r deeds).filter fun x => decide (x.2.1.key ∈ ks)) = (run 0 r deeds).filter fun x => decide (x.2.1.key ∈ S) := by
  refine List.filter_congr fun x hx => ?_
  have hm := run_key deeds 0 r x hx
  have e : x.2.1.key ∈ ks ↔ x.2.1.key ∈ S := by
    rw [K.mem]
    exact ⟨fun h => (names_in h).1, fun h => in_names h (.inr (List.mem_map.mpr ⟨x.2.1, hm, rfl⟩))⟩
  exact decide_eq_decide.mpr e
/-- a part that holds: its answers are those of the whole run at its places, its writes what the whole run changes at its keys -/
theorem tp_done {r : Rows} {checks : List (Str × V)} {deeds : List Deed} {S : List Str} {t : Tried} (h : TP r checks deeds S t) (hh : t.held = true) :
    t.ans = ((run 0 r deeds).filter fun x => decide (x.2.1.key ∈ S)).map (fun x => (x.1, x.2.2)) ∧
    ∃ ks, Keys ks (names (part1 checks S) (part2 deeds S)) ∧ t.wr = (ks.filter fun k => decide (look (fin r deeds) k ≠ look r k)).map fun k => (k, look (fin r deeds) k) := by
  obtain ⟨ks, K, rfl⟩ := h
  unfold tryP at hh ⊢
  split
  · have inS : ∀ k ∈ ks, k ∈ S := fun k hk => (names_in ((K.mem k).mp hk)).1
    have ag := start_agree r (S := S) K fun k hk => (names_in hk).1
    obtain ⟨q1, q2⟩ := sub_run ks deeds 0 r _ ag
    rw [← part_filter K] at q1 q2
    rw [run_filter r K] at q1
    refine ⟨q1, ks, K, ?_⟩
    have lk : ∀ k ∈ ks, look (fin (after (known r S) ks) ((part2 deeds S).map (·.2))) k = look (fin r deeds) k := fun k hk => by
      unfold look
      rw [← q2 k hk]
    have lr : ∀ k ∈ ks, look (known r S) k = look r k := fun k hk => known_look r (inS k hk)
    have e : changed (known r S) (fin (after (known r S) ks) ((part2 deeds S).map (·.2))) ks = ks.filter fun k => decide (look (fin r deeds) k ≠ look r k) :=
      List.filter_congr fun k hk => by rw [lk k hk, lr k hk]
    show (changed (known r S) (fin (after (known r S) ks) ((part2 deeds S).map (·.2))) ks).map _ = _
    rw [e]
    exact List.map_congr_left fun k hk => by rw [lk k (List.mem_filter.mp hk).1]
  · rename_i z
    rw [if_neg z] at hh
    cases hh
/-- one for one -/
inductive All2 {α β : Type} (R : α → β → Prop) : List α → List β → Prop
  | nil : All2 R [] []
  | cons {a : α} {b : β} {l : List α} {m : List β} : R a b → All2 R l m → All2 R (a :: l) (b :: m)
theorem All2.flat {α β γ : Type} {R : α → β → Prop} {f : α → List γ} {g : β → List γ} (h : ∀ a b, R a b → f a = g b) : ∀ {l : List α} {m : List β}, All2 R l m → l.flatMap f = m.flatMap g
  | _, _, .nil => rfl
  | _, _, .cons r t => by rw [List.flatMap_cons, List.flatMap_cons, h _ _ r, All2.flat h t]
theorem All2.mem {α β : Type} {R : α → β → Prop} : ∀ {l : List α} {m : List β}, All2 R l m → ∀ b ∈ m, ∃ a ∈ l, R a b
  | _, _, .nil, _, h => nomatch h
  | _, _, .cons r t, b, h => by
    rcases List.mem_cons.mp h with e | e
    · exact ⟨_, List.mem_cons_self, e ▸ r⟩
    · obtain ⟨a, ha, q⟩ := t.mem b e
      exact ⟨a, List.mem_cons_of_mem _ ha, q⟩
theorem All2.mem' {α β : Type} {R : α → β → Prop} : ∀ {l : List α} {m : List β}, All2 R l m → ∀ a ∈ l, ∃ b ∈ m, R a b
  | _, _, .nil, _, h => nomatch h
  | _, _, .cons r t, b, h => by
    rcases List.mem_cons.mp h with e | e
    · exact ⟨_, List.mem_cons_self, e ▸ r⟩
    · obtain ⟨a, ha, q⟩ := t.mem' b e
      exact ⟨a, List.mem_cons_of_mem _ ha, q⟩
theorem All2.snoc {α β : Type} {R : α → β → Prop} {a : α} {b : β} (h : R a b) : ∀ {l : List α} {m : List β}, All2 R l m → All2 R (l ++ [a]) (m ++ [b])
  | _, _, .nil => .cons h .nil
  | _, _, .cons r t => .cons r (All2.snoc h t)
theorem All2.length {α β : Type} {R : α → β → Prop} : ∀ {l : List α} {m : List β}, All2 R l m → l.length = m.length
  | _, _, .nil => rfl
  | _, _, .cons _ t => congrArg (· + 1) t.length

section
variable {r : Rows} {checks : List (Str × V)} {deeds : List Deed} {sets : List (List Str)} {ts : List Tried}
theorem join_vals (hp : Split checks deeds sets) (ht : All2 (fun S t => TP r checks deeds S t) sets ts) :
    (ts.flatMap (·.vals)).Perm (en 0 (checks.map fun c => look r c.1)) := by
  have e := ht.flat (f := fun S => (part1 checks S).map fun c => (c.1, look r c.2.1)) (g := (·.vals)) fun S t h => (tp_held h).2.symm
  rw [← e, ← en_map, ← List.map_flatMap]
  refine List.Perm.map _ ?_
  exact split_perm (fun c : Nat × Str × V => c.2.1) sets (en 0 checks) fun x hx => hp.one _ (.inl (by
    have q := List.mem_map_of_mem (f := fun p : Nat × (Str × V) => p.2) hx
    rw [en_snd] at q
    exact List.mem_map_of_mem (f := fun c : Str × V => c.1) q))
theorem cnt_has {sets : List (List Str)} {k : Str} (h : cnt sets k = 1) : ∃ S ∈ sets, k ∈ S := by
  have q : 0 < sets.countP fun S => decide (k ∈ S) := by
    have q : sets.countP (fun S => decide (k ∈ S)) = 1 := h
    omega
  obtain ⟨S, hS, e⟩ := List.countP_pos_iff.mp q
  exact ⟨S, hS, of_decide_eq_true e⟩
theorem join_held (hp : Split checks deeds sets) (ht : All2 (fun S t => TP r checks deeds S t) sets ts) :
    (∀ t ∈ ts, t.held = true) ↔ heldB r checks = true := by
  unfold heldB
  rw [decide_eq_true_eq, List.map_inj_left]
  constructor
  · intro h c hc
    obtain ⟨S, hS, hk⟩ := cnt_has (hp.one c.1 (.inl (List.mem_map.mpr ⟨c, hc, rfl⟩)))
    obtain ⟨t, htm, tp⟩ := ht.mem' S hS
    have q := (tp_held tp).1
    rw [h t htm] at q
    have q := of_decide_eq_true q.symm
    have hc' : c ∈ (en 0 checks).map (·.2) := by rw [en_snd]; exact hc
    obtain ⟨p, hpm, ep⟩ := List.mem_map.mp hc'
    have z := q p (List.mem_filter.mpr ⟨hpm, decide_eq_true (by rw [ep]; exact hk)⟩)
    rw [ep] at z
    exact z
  · intro h t htm
    obtain ⟨S, hS, tp⟩ := ht.mem t htm
    rw [(tp_held tp).1]
    exact decide_eq_true fun c hc => h c.2 (mem_part1 hc).1
theorem join_ans (hp : Split checks deeds sets) (ht : All2 (fun S t => TP r checks deeds S t) sets ts) (hh : ∀ t ∈ ts, t.held = true) :
    (ts.flatMap (·.ans)).Perm (en 0 (answ r deeds)) := by
  have h2 : All2 (fun S t => TP r checks deeds S t ∧ t.held = true) sets ts := by
    clear hp
    induction ht with
    | nil => exact .nil
    | cons a b ih => exact .cons ⟨a, hh _ List.mem_cons_self⟩ (ih fun t h => hh t (List.mem_cons_of_mem _ h))
  have e := h2.flat (f := fun S => ((run 0 r deeds).filter fun x => decide (x.2.1.key ∈ S)).map (fun x => (x.1, x.2.2))) (g := (·.ans)) fun S t h => (tp_done h.1 h.2).1.symm
  rw [← e, ← run_ans, ← List.map_flatMap]
  refine List.Perm.map _ ?_
  exact split_perm (fun x : Nat × Deed × V => x.2.1.key) sets (run 0 r deeds) fun x hx => hp.one _ (.inr (List.mem_map.mpr ⟨x.2.1, run_key deeds 0 r x hx, rfl⟩))
end
end CK
/-! enumerate(t) of a tuple, as a walk of the hand layer. -/
namespace CK
open PySem PySem.Spec PyProof.Rows L2
open Sem (wp)

theorem meets_enum1 {v : Value} {o : Obj} {H : Heap → Prop} (B : Begins v o H) :
    Meets (Builtin.«enumerate.__new__» ⟨[.type "enumerate", v], []⟩) (fun _ R s => H s.heap ∧
      R (.ok (.ret (.ref (s.heap.push o).objs.size)))
        { s with heap := (s.heap.push o).push { cls := .type "enumerate", data := .fields #[.none, .bool false, .ref s.heap.objs.size, rawInt 0, .none, .none] } }) := by
  refine .of_wp fun prog w A R s h => ?_
  obtain ⟨hp, g, d, tk, os⟩ := s
  obtain ⟨h1, h⟩ := h
  have hsub := sub_enumerate
  have it1 : ∀ {A' : Around} {E Q : Value → Shared → Prop}, Q (.ref hp.objs.size) ⟨hp.push o, g, d, tk, os⟩ →
      wpAny (model prog w) A' (pyIter v) Q E ⟨hp, g, d, tk, os⟩ := fun q => B.iter prog w _ _ ⟨hp, g, d, tk, os⟩ _ h1 q
  wp_walk using it1
  refine wpAny_stack_any fun st => wpAny_pure ?_
  split
  · rename_i c _ _ _ _ _
    cases (c == Value.type "enumerate") <;> (wp_walk using it1; exact ⟨_, rfl, h⟩)
  · wp_walk using it1
    exact ⟨_, rfl, h⟩

section
variable {prog : Program} {w : World} {A : Around} {E : Value → Shared → Prop} {s : Shared}
theorem call_enum_tup {t : Addr} {items : Array Value} {Q : Value → Shared → Prop} (hT : s.heap.IsTuple t items)
    (h : ∀ h', IsEnum h' (s.heap.objs.size + 1) s.heap.objs.size 0 .none → h'.IsTupleIter s.heap.objs.size t 0 →
      (∀ b o, s.heap.get? b = some o → h'.get? b = some o) → Q (.ref (s.heap.objs.size + 1)) { s with heap := h' }) :
    wpAny (model prog w) A (call (.type "enumerate") [.ref t]) Q E s := by
  have B := begins_tuple t items
  refine callType_new F.called_enumerate (by decide) (F.typeCall_enumerate_1 _) (F.newCall_enumerate_1 _) (fun obj => F.args_object_init_2 obj _)
    F.entry_enumerate_new (meets_enum1 B) ⟨hT, ?_⟩
  generalize ho : ({ cls := .type "tuple_iterator", data := .fields #[.ref t, .int 0 0] } : Obj) = o
  have hz : (s.heap.push o).objs.size = s.heap.objs.size + 1 := Heap.size_push ..
  show _ ∧ _
  rw [hz]
  have g2 := Heap.get?_push_size (s.heap.push o)
    (o := { cls := .type "enumerate", data := .fields #[.none, .bool false, .ref s.heap.objs.size, rawInt 0, .none, .none] }) rfl
  rw [hz] at g2
  refine ⟨⟨_, g2, rfl⟩, h _ g2 ⟨o, Heap.get?_push_of_some _ (Heap.get?_push_size _ (by rw [← ho]; rfl)), ?_, ?_⟩
    fun b o' x => Heap.get?_push_of_some _ (Heap.get?_push_of_some _ x)⟩
  · rw [← ho]
  · rw [← ho]; rfl
end

/-- the tuple at a, each item in a new pair with its place -/
def IteT (K : PySem.W.Frag) (a : Addr) : It where
  go := fun i H => ∃ (xs : List V) (x : V), SqT K H a xs ∧ xs[i]? = some x
  yld := fun i H v H' => ∃ T x, v = .ref T ∧ H T = none ∧ H' = upd H T (.tup [.int (i : Nat), x]) ∧ ∀ xs, SqT K H a xs → xs[i]? = some x
  stop := fun i H => ∃ xs : List V, SqT K H a xs ∧ xs.length = i

theorem turn_enumT {P : Program} {w : World} {K : PySem.W.Frag} {elts : List Expr} {kk : Nat} {tpos : Pos} (a e it : Addr) :
    Turn P w K (.Tuple elts kk tpos) (IteT K a) [e, it] e (fun i h => (∃ old, IsEnum h e it ((i : Nat) : Int) old) ∧ h.IsTupleIter it a i ∧ e ≠ it) where
  mem := List.mem_cons_self
  obj := by
    intro i h st b hb
    obtain ⟨⟨old, he⟩, ⟨o, ho, hc, hd⟩, _⟩ := st
    rcases List.mem_cons.mp hb with z | z
    · exact ⟨_, by rw [z]; exact he, fun v q => by cases q⟩
    · have z := List.mem_singleton.mp z
      exact ⟨o, by rw [z]; exact ho, fun v q => by rw [hd] at q; cases q⟩
  keep := by
    intro i h h' st k
    obtain ⟨⟨old, he⟩, hi, hne⟩ := st
    exact ⟨⟨old, k e (by simp) _ he⟩, hi.at fun o q => k it (by simp) o q, hne⟩
  item := by
    intro X hP hw hK hc i pins s σ H E I hf st hg
    subst hP hw hK
    obtain ⟨⟨old, he⟩, hit, hne⟩ := st
    obtain ⟨xs, x, hq, hx⟩ := hg
    obtain ⟨its, rv, p, hz⟩ := I.tuple hq
    obtain ⟨u, hu, ru⟩ := rv.get hx
    have pT : s.heap.IsTuple a its.toArray := p
    have hel : e < s.heap.objs.size := Heap.lt_size he
    have hil : it < s.heap.objs.size := by obtain ⟨_, q, _⟩ := hit; exact Heap.lt_size q
    have nea : a ≠ e := by
      intro z
      obtain ⟨o, ho, hc', _⟩ := pT
      rw [z] at ho
      have he' : s.heap.get? e = some _ := he
      rw [ho] at he'
      have c2 : Value.type "tuple" = Value.type "enumerate" := hc'.symm.trans (congrArg Obj.cls (Option.some.inj he'))
      exact absurd c2 (by decide)
    have nia : a ≠ it := by
      intro z
      obtain ⟨o, ho, hc', _⟩ := pT
      obtain ⟨o2, ho2, hc2, _⟩ := hit
      rw [z, ho2] at ho
      have c2 : Value.type "tuple_iterator" = Value.type "tuple" := hc2.symm.trans ((congrArg Obj.cls (Option.some.inj ho)).trans hc')
      exact absurd c2 (by decide)
    have D := Draws.tuple (prog := X.prog) (w := X.w) (A := X.A.in1) (by rw [show X.A.in1.handled = X.A.handled from rfl]; exact I.ok.hd hc) it a nia its.toArray
    have hsz : i < its.toArray.size := by
      rw [List.size_toArray, ← rv.length]
      exact (List.getElem?_eq_some_iff.mp hx).1
    refine wpAny_pyNext_enum_itemD D he ⟨hit, pT⟩ hsz hne (by simp [hne, Ne.symm nea]) fun y h' tk hy ho hst hT hs2 hk => ?_
    have ey : y = u := by
      have q : its.toArray[i]? = some y := hy
      rw [List.getElem?_toArray, hu] at q
      exact (Option.some.inj q).symm
    subst ey
    refine ⟨_, rfl, wpAny_letOwnedTupleGo_enum (s := { s with heap := h', toks := tk + 1 }) ho fun h'' he' sb => ?_⟩
    have hT2 : h''.get? s.heap.objs.size = some { cls := .type "tuple", data := .seq #[.int i tk, y] } := (sb.2 _ (Nat.ne_of_gt hel)).trans hT
    have new : ObjOk X.prog X.w (upd H s.heap.objs.size (.tup [.int (i : Nat), x])) h'' s.heap.objs.size (.tup [.int (i : Nat), x]) :=
      ⟨by show 2 ≤ sizeLine; decide, [.int i tk, y], .cons ⟨_, rfl⟩ (.cons ru .nil), ⟨_, hT2, rfl, _, rfl⟩⟩
    have I1 : Inv X pins σ (upd H s.heap.objs.size (.tup [.int (i : Nat), x])) { s with heap := h'', toks := tk + 1 } := by
      refine I.turnedNew (ch := [e, it]) (fun b ob hb q => ?_) hf (Nat.le_refl _) new
      have b1 : b ≠ e := fun z => hb (by simp [z])
      have b2 : b ≠ it := fun z => hb (by simp [z])
      exact (sb.2 b b1).trans (hk b ob b1 b2 q)
    refine ⟨.ref s.heap.objs.size, _, I1, rfl, ⟨_, x, rfl, I.hok.fresh (Nat.le_refl _), rfl, fun ys hy => by rw [I.tuple_inj hy hq]; exact hx⟩, ⟨⟨y, ?_⟩, ?_, hne⟩, ?_⟩
    · rw [show ((i + 1 : Nat) : Int) = (i : Int) + 1 by omega]
      exact he'
    · exact hst.1.at fun o q => (sb.2 it (Ne.symm hne)).trans q
    · intro b hb
      have hb' : b < s.heap.objs.size := by
        rcases List.mem_cons.mp hb with z | z
        · rw [z]; exact hel
        · rw [List.mem_singleton.mp z]; exact hil
      rw [upd_ne (Nat.ne_of_lt hb')]
      exact (hf b hb).1
  done := by
    intro X hP hw hK hc i pins s σ H E I hf st hg
    subst hP hw hK
    obtain ⟨⟨old, he⟩, hit, hne⟩ := st
    obtain ⟨xs, hq, hx⟩ := hg
    obtain ⟨its, rv, p, hz⟩ := I.tuple hq
    obtain ⟨f0, f1, f2, f3, f4, f5⟩ := hf it (by simp)
    have pT : s.heap.IsTuple a its.toArray := p
    have nia : a ≠ it := by
      intro z
      obtain ⟨o, ho, hc', _⟩ := pT
      obtain ⟨o2, ho2, hc2, _⟩ := hit
      rw [z, ho2] at ho
      have c2 : Value.type "tuple_iterator" = Value.type "tuple" := hc2.symm.trans ((congrArg Obj.cls (Option.some.inj ho)).trans hc')
      exact absurd c2 (by decide)
    have hsz : its.toArray.size = i := by rw [List.size_toArray, ← rv.length]; exact hx
    have D := Draws.tuple (prog := X.prog) (w := X.w) (A := X.A.in1) (by rw [show X.A.in1.handled = X.A.handled from rfl]; exact I.ok.hd hc) it a nia its.toArray
    refine wpAny_pyNext_enum_endD D he ⟨?_, pT⟩ fun h' eb => ⟨rfl, I.turned (t' := s.toks) (fun b o hb q => eb b o hb q) f0 f1 f3 f4 f5⟩
    rw [hsz]
    exact hit
  self := by
    intro A i s Q E st h
    obtain ⟨⟨_, he⟩, _⟩ := st
    exact wpAny_pyIter_enum he h
end CK
/-! sorted(xs, key=lambda row: row[0]) of a list of tuples whose first items are ints; xs.extend(t) of a tuple. -/
namespace CK
open PySem PySem.Spec PyProof.Rows L2 LamX

section
variable {prog : Program} {w : World} {A : Around} {s : Shared}
/-- what the lambda's scope tells: one name, its parameter -/
structure RowScope (scope : Scope) (x : Str) : Prop where
  kind : scope.kind = .function
  co : scope.isCoroutine = false
  gen : scope.isGenerator = false
  names : scope.names = [(x, .local)]
theorem row0_call {f c' t : Addr} {qual x : Str} {params : Arguments} {scope : Scope} {pm ctv : Value} {p1 p2 p3 : Pos} {j : Nat} {items : List Value} {k : Int} {tk : Tok}
    (hroom : A.depth < recursionLimit) (hlim : s.heap.NoLimit) (S : RowScope scope x)
    (hf : s.heap.get? f = some (PySem.W.kla_obj "<lambda>" qual params (.Subscript (.Name x p1) (.Constant (.int 0) j p2) p3) scope [] pm c' ctv)) (hc : s.heap.CodeRec (.ref c') qual)
    (hbind : ∀ v, bindArgs (PySem.W.kla_fn "<lambda>" qual params (.Subscript (.Name x p1) (.Constant (.int 0) j p2) p3) scope [] pm (.ref c') ctv) ⟨[v], []⟩ = pure [(x, v)])
    (hx : (x == ("__debug__" : Str)) = false) (hT : IsTup s.heap t items.toArray) (h0 : items[0]? = some (.int k tk)) :
    wpAny (model prog w) A (call (.ref f) [.ref t]) (PySem.W.KeyPure (.int k) s) (fun _ _ => False) s := by
  refine wpAny_call (PySem.W.kla_callFunE hroom hf rfl S.co S.gen rfl hc ?_)
  rw [hbind]
  have lk : scope.names.lookup x = some .local := by rw [S.names]; simp
  refine wpAny_pure (wpAny_newFunctionEnv (fun y hy => ?_) (fun y hy => ?_) (fun h₁ hns hsb => ⟨hlim.fresh _ hsb, ?_⟩) S.kind)
  · rw [S.names] at hy
    rw [List.mem_singleton.mp hy]
    intro z; cases z
  · rw [List.mem_singleton.mp hy]
    exact lk
  · have kp : ∀ b o, s.heap.get? b = some o → h₁.get? b = some o := fun b o e => hsb.extBut b o (Nat.ne_of_lt (Heap.lt_size e)) (Heap.get?_push_of_some _ e)
    refine PySem.W.kla_codeExpr ?_
    refine Subscript_ ?_
    refine wpAny_Name ?_ hx
    refine wpAny_loadName_local (v := .ref t) S.kind lk hns ?_ ?_
    · show List.lookup x ([(x, Value.ref t)] : List (Str × Value)).reverse = some (.ref t)
      simp
    · refine wpAny_Constant_int ?_
      have hT' : IsTup h₁ t items.toArray := by
        obtain ⟨o, ho, hr⟩ := hT
        exact ⟨o, kp _ _ ho, hr⟩
      have hl : 0 < items.length := (List.getElem?_eq_some_iff.mp h0).1
      refine item_tupleT (k := 0) (j := 0) (x := .int k tk) hT' (by decide) (by decide) (seqIndex_of (by decide) (by omega)) h0 ?_ ?_
      · exact ⟨h₁, _, rfl, kp, Reads.int k tk⟩
      · exact rfl
end

/-! ### sorted by it -/
/-- each item is a tuple that begins with its number -/
def RowKeys (K : PySem.W.Frag) (H : Hp) (bs : List (V × Int)) : Prop := ∀ p ∈ bs, ∃ t xs, p.1 = V.ref t ∧ SqT K H t (V.int p.2 :: xs)
def byKey (bs : List (V × Int)) : List (V × Int) := bs.mergeSort fun a b => decide (a.2 ≤ b.2)
def tSortRow (K : PySem.W.Frag) (T : List (Addr × Str)) (te : TE) : TE := fun σ H Q => te σ H fun x H1 => ∃ (a : Addr) (bs : List (V × Int)), x = .ref a ∧ SqL K H1 a (bs.map (·.1)) ∧ RowKeys K H1 bs ∧ Tabs T H1 ∧
  ∀ H2 p, ExtN H1 H2 → Tabs T H2 → H2 p = none → Q (.ref p) (upd H2 p (.lst ((byKey bs).map (·.1))))
theorem extL {K : PySem.W.Frag} {H H' : Hp} {a : Addr} {xs : List V} (e : ExtN H H') (h : SqL K H a xs) : SqL K H' a xs := by
  rcases h with (h | ⟨o, h⟩) | h
  · exact .inl (.inl (e _ _ h fun ps z => by cases z))
  · exact .inl (.inr ⟨o, e _ _ h fun ps z => by cases z⟩)
  · exact .inr h
theorem extT {K : PySem.W.Frag} {H H' : Hp} {a : Addr} {xs : List V} (e : ExtN H H') (h : SqT K H a xs) : SqT K H' a xs := by
  rcases h with (h | ⟨o, h⟩) | h
  · exact .inl (.inl (e _ _ h fun ps z => by cases z))
  · exact .inl (.inr ⟨o, e _ _ h fun ps z => by cases z⟩)
  · exact .inr h
theorem each_of_vals : ∀ {bs : List (V × Int)} {us : List Value}, Vals (bs.map (·.1)) us → PySem.W.EachIs (fun u (b : V × Int) => RelV b.1 u) us bs
  | [], _, h => by cases h; exact .nil
  | b :: bs, _, h => by
    cases h with
    | cons r t => exact .cons r (each_of_vals t)
theorem vals_of_each : ∀ {bs : List (V × Int)} {us : List Value}, PySem.W.EachIs (fun u (b : V × Int) => RelV b.1 u) us bs → Vals (bs.map (·.1)) us
  | _, _, .nil => .nil
  | _, _, .cons r t => .cons r (vals_of_each t)
section
variable {X : Cx}
theorem pe_sortRow {T : List (Addr × Str)} {c P : Addr} {k : Nat} {e : Expr} {te : TE} {x : Str} {params : Arguments} {scope : Scope} {p p1 p2 p3 lpos kpos pos : Pos} {j : Nat}
    (hg : Gl X "sorted") (hm : X.mg "sorted" = none) (he : PE X e te) (TB : TabB X.base X.mg c P) (hcode : X.env.code = .ref c) (hmT : (P, X.env.qual ++ "<lambda>") ∈ T) (hu : ∀ p ∈ T, p.1 = P → p.2 = X.env.qual ++ "<lambda>")
    (hr : Room (k + 1) X.A) (S : RowScope scope x) (hdef : defaultsOf params X.env = ([], [])) (hx : (x == ("__debug__" : Str)) = false)
    (hbind : ∀ (q : Str) (pm cv ctv : Value) (v : Value), bindArgs (PySem.W.kla_fn "<lambda>" q params (.Subscript (.Name x p1) (.Constant (.int 0) j p2) p3) scope [] pm cv ctv) ⟨[v], []⟩ = pure [(x, v)])
    (he1 : backTo pos (starEach [e] X.env) = (false, eval e X.env) :: backTo pos (starEach [] X.env) := by rfl) :
    PE X (.Call (.Name "sorted" p) [e] [⟨some "key", .Lambda params (.Subscript (.Name x p1) (.Constant (.int 0) j p2) p3) scope lpos, kpos⟩] pos) (tSortRow X.K T te) := by
  refine ⟨fun pins s σ H Q I h => ?_⟩
  refine wpAny_Call_Name_kw (ld_blt I hg hm boot_sorted ?_)
  have hfree : ∀ y ∈ scope.names, y.2 = .free → ∃ c, X.env.cells.lookup y.1 = some c := fun y hy z => by
    rw [S.names] at hy
    rw [List.mem_singleton.mp hy] at z
    cases z
  have hclo : cloFrom X.env.cells scope.names [] = [] := by rw [S.names]; rfl
  refine PyProof.Rows.callWith_kw (e := e) (rest := []) ?_ he1 (by rw [he1]; rfl) rfl rfl
  rw [he1]
  refine Calls.spliced_cons (thn (he.run pins s σ H _ I h) fun v s1 ⟨y, H1, I1, r1, q1⟩ => Calls.spliced_nil ?_)
  obtain ⟨a, bs, ey, hL, hK, hT, q⟩ := q1
  subst ey
  cases r1
  show wpAny _ _ (evalAll ((do let v ← eval (.Lambda params (.Subscript (.Name x p1) (.Constant (.int 0) j p2) p3) scope lpos) X.env; standAt pos; pure v) :: [])) _ _ s1
  refine wpAny_evalAll_cons (wpAny_bind (lam_make2 I1 TB hcode hmT hu hT hdef hfree fun f c' pm ctv H2 s2 I2 eN T2 hf hfn hfr hco => wpAny_bind (wpAny_standAt (wpAny_pure (wpAny_evalAll_nil ?_)))))
  show wpAny _ _ (call (.builtin "sorted") [.ref a] [(Str.ofString "key", .ref f)]) _ _ s2
  rw [hclo] at hf
  have hL2 := extL eN hL
  obtain ⟨its, rv, pl, hz⟩ := I2.list hL2
  rw [List.length_map] at hz
  have hl : s2.heap.IsList a its.toArray := pl.isList
  obtain ⟨⟨oc, vs, tq, hoc, hdc, hvc⟩, _, _⟩ := I2.hok c' _ hco
  have hru := hr.un
  have hrd := hr.dp
  refine PySem.W.sorted_key_data (b := false) (fun b : V × Int => .int b.2) hl (each_of_vals rv) (PySem.W.AllAlike.of fun _ _ => rfl) (PySem.W.Sortable.others fun _ => ⟨(fun z => by cases z), (fun _ z => by cases z)⟩) hz
    (fun b _ => ?_) (PyProof.Rows.ksk_s1 _ _) (fun _ => PyProof.Rows.ksk_l1 _ _) (fun _ => PyProof.Rows.ksk_t1 _ _) (fun u b hR hb h tk kp => ?_) fun out cc h' tk kp hnew hD hlen eo => ?_
  · show X.A.units + 2 + 0 < cLine
    omega
  · obtain ⟨t, xs, eb, hq⟩ := hK b hb
    rw [eb] at hR
    obtain rfl : u = Value.ref t := hR
    obtain ⟨its2, rv2, pt, _⟩ := I2.tuple (extT eN hq)
    obtain ⟨v0, hv0, tk0, ev0⟩ := rv2.get (i := 0) rfl
    subst ev0
    have pt' : IsTup h t its2.toArray := by
      obtain ⟨o, ho, hrr⟩ := pt
      exact ⟨o, kp _ _ ho, hrr⟩
    refine row0_call (s := { s2 with heap := h, toks := tk }) ?_ (I2.nolimit.keeps kp) S (kp _ _ hf) ⟨c', oc, vs, tq, rfl, kp _ _ hoc, hdc, hvc⟩ (fun v => hbind _ _ _ _ v) hx pt' hv0
    show X.A.depth < recursionLimit
    omega
  · rw [PySem.W.dataLe_int (β := V × Int) (fun b => b.2)] at eo
    have rv3 : Vals ((byKey bs).map (·.1)) out := vals_of_each eo
    have hz3 : ((byKey bs).map (·.1)).length ≤ sizeLine := by
      rw [rv3.length, hlen]
      exact hz
    have hp : s2.heap.objs.size ≤ s2.heap.objs.size + 1 := Nat.le_succ _
    have n2 : H2 (s2.heap.objs.size + 1) = none := I2.hok.fresh hp
    have new : ObjOk X.prog X.w (upd H2 (s2.heap.objs.size + 1) (.lst ((byKey bs).map (·.1)))) h' (s2.heap.objs.size + 1) (.lst ((byKey bs).map (·.1))) := ⟨hz3, out, cc, rv3, hD⟩
    exact ⟨.ref _, _, I2.laid (t' := tk) kp hp new, rfl, q H2 _ eN T2 n2⟩

/-! ### xs.extend(t), t a tuple -/
theorem ext_tuple (l : Addr) (items : Array Value) (n : Nat) (b : Addr) (items2 : Array Value) (n2 : Nat) (dd : Option Addr) (sl : Array (Option Value)) (hs0 : ¬(!items.isEmpty && Builtin.List.listTooLong (items.size + items2.size)) = true)
    (hs1 : items.size ≤ sizeLine) (hs2 : items.size + items2.size ≤ sizeLine + 1) :
    Meets (Builtin.«list.extend» ⟨[.ref l, .ref b], []⟩) (fun _ R s => s.heap.get? l = some { cls := .type "list", dict := none, data := .seq items n, slots := #[] } ∧
      s.heap.get? b = some { cls := .type "tuple", dict := dd, data := .seq items2 n2, slots := sl } ∧ R (.ok (.ret Value.none)) { s with heap := s.heap.update l (Obj.mapSeq fun x => x ++ items2), toks := s.toks }) := by
  refine .of_wp fun prog w A R s h => ?_
  obtain ⟨hp, g, d, tk, os⟩ := s
  obtain ⟨hl, hb, h⟩ := h
  have f2 := sub_tuple_tuple
  have f3 := sub_list_list
  have f4 := sub_tuple_list
  have f5 := sub_list_tuple
  have hz' : (items ++ items2).size ≤ sizeLine + 1 := by rw [Array.size_append]; exact hs2
  wp_walk using (wpAny_updateSeq hl rfl (hz := hs1) (_hz' := hz')), AutoSeq1.wpAny_loadPart' hl, AutoSeq1.wpAny_loadPart' hb
  exact ⟨_, rfl, h⟩
def rExtT (K : PySem.W.Frag) : V → List V → Hp → VK → Prop := fun x vs H Q => ∃ l b xs zs, x = .ref l ∧ vs = [.ref b] ∧ H l = some (.lst xs) ∧ SqT K H b zs ∧ xs.length + zs.length ≤ sizeLine ∧ Q .non (upd H l (.lst (xs ++ zs)))
theorem mt_extT : MtM X "list.extend" (rExtT X.K) := by
  intro pins s σ H x vs v us Q I rx rv h
  obtain ⟨l, b, xs, zs, rfl, rfl, hH, hB, hz, q⟩ := h
  cases rx
  obtain ⟨u, rfl, ru⟩ := rv.one
  cases ru
  obtain ⟨z, its, n, r, hl, e⟩ := I.lstM hH
  obtain ⟨its2, r2, ⟨⟨oc, dd, od, sl⟩, e2, hc, n2, hd⟩, _⟩ := I.tuple hB
  simp only at hc hd
  subst hc hd
  have hl2 := r2.length
  have hsz : its.toArray.size + its2.toArray.size ≤ sizeLine := by rw [List.size_toArray, List.size_toArray]; omega
  have hlong : ¬ (!its.toArray.isEmpty && Builtin.List.listTooLong (its.toArray.size + its2.toArray.size)) = true := by
    rw [notLongL hsz, Bool.and_false]
    exact Bool.false_ne_true
  refine call_meets F.slot_list_extend ⟨_, e, rfl⟩ F.entry_list_extend (F.args_list_extend_2 _ _)
    (ext_tuple l its.toArray n b its2.toArray n2 dd sl hlong (by rw [List.size_toArray]; omega) (by omega)) ⟨e, e2, ?_⟩
  refine ⟨.non, _, I.lset (its' := its ++ its2) hH e (by simp) (r.append r2) ?_, rfl, q⟩
  rw [List.length_append]
  omega
end
end CK
/-! Sets of texts: made by a comprehension, sorted. The members are told as a list L without doubles, up to its order. -/
namespace CK
open PySem PySem.Spec PyProof.Rows L2 PpSet

def txtOf (e : Int × Value) : Str :=
  match e.2 with
  | .str x _ => x
  | _ => Str.empty
def TxtEntry (w : World) (e : Int × Value) : Prop := ∃ x tk, e = (hashStr w x, Value.str x tk)
structure TxtRaw (w : World) (es : Array (Int × Value)) (t : SetTable) (L : List Str) : Prop where
  ent : ∀ e ∈ es.toList, TxtEntry w e
  perm : (es.toList.map txtOf).Perm L
  nd : L.Nodup
  small : es.size < scanBound
  fits : t.fits es.size = true
  ris : Ris t.place.toList
  led : w.params.followText "set-order" = true ∨ t.led = true
def TextSet (w : World) (h : Heap) (a : Addr) (L : List Str) : Prop :=
  ∃ o es ep t, h.get? a = some o ∧ o.ExactSet ∧ o.data = .set es ep t ∧ TxtRaw w es t L
section
variable {P : Program} {w : World}
theorem ent_is {e : Int × Value} (g : TxtEntry w e) (k : Str) : (PySem.strKind P w).is k e.2 = true ↔ txtOf e = k := by
  obtain ⟨x, tk, rfl⟩ := g
  show ((PySem.strKind P w).is k (.str x tk) = true) ↔ x = k
  constructor
  · intro h
    exact (PySem.strKind P w).inj (.str x tk) x k (PySem.strKind_is P w x tk) h
  · intro h
    rw [h]
    exact PySem.strKind_is P w k tk
theorem ent_elems {l : List (Int × Value)} (g : ∀ e ∈ l, TxtEntry w e) : ElemsOf (PySem.strKind P w) l := by
  intro e he
  obtain ⟨x, tk, rfl⟩ := g e he
  exact ⟨⟨x, PySem.strKind_is P w x tk, rfl⟩, rfl⟩
theorem TxtRaw.size {es : Array (Int × Value)} {t : SetTable} {L : List Str} (R : TxtRaw w es t L) : es.size = L.length := by
  rw [← R.perm.length_eq, List.length_map, Array.length_toList]
theorem TxtRaw.mem {es : Array (Int × Value)} {t : SetTable} {L : List Str} (R : TxtRaw w es t L) (k : Str) : k ∈ L ↔ ∃ e ∈ es.toList, (PySem.strKind P w).is k e.2 = true := by
  rw [← R.perm.mem_iff, List.mem_map]
  exact ⟨fun ⟨e, he, q⟩ => ⟨e, he, (ent_is (R.ent e he) k).mpr q⟩, fun ⟨e, he, q⟩ => ⟨e, he, (ent_is (R.ent e he) k).mp q⟩⟩
theorem TextSet.at {h h' : Heap} {a : Addr} {L : List Str} (R : TextSet w h a L) (k : ∀ o, h.get? a = some o → h'.get? a = some o) : TextSet w h' a L :=
  let ⟨o, es, ep, t, ho, r⟩ := R
  ⟨o, es, ep, t, k o ho, r⟩
theorem TextSet.setOf {h : Heap} {a : Addr} {L : List Str} (R : TextSet w h a L) : h.SetOf (PySem.strKind P w) a (fun k => decide (k ∈ L)) L.length := by
  obtain ⟨o, es, ep, t, ho, hx, hd, r⟩ := R
  exact ⟨o, es, ep, t, ho, hx, hd, ent_elems r.ent, fun k => by rw [decide_eq_true_eq]; exact r.mem k, r.small, r.fits, r.size⟩
end

section
variable {P : Program} {w : World} {A : Around} {E : Value → Shared → Prop} {s : Shared} {a : Addr} {L : List Str}
/-- the store behind an entry that is laid new -/
theorem txt_tail {g : Bool → Sem Unit} (hg : ∀ (b : Bool) (s₁ : Shared) (Q' : Unit → Shared → Prop), Q' () s₁ → wpAny (model P w) A (g b) Q' E s₁)
    {o : Obj} {es es1 : Array (Int × Value)} {ep : Nat} {t t2 : SetTable} (ho : s.heap.get? a = some o) (hex : o.ExactSet) (hd : o.data = .set es ep t) (R1 : TxtRaw w es1 t2 L) {dm : Bool} {Q : Option Bool → Shared → Prop}
    (hQ : ∀ h', Heap.SameBut a s.heap h' → TextSet w h' a L → Q (some true) { s with heap := h' }) :
    wpAny (model P w) A (do
        storeSet a es1 t2
        if (!dm && t2.tooFull) = true then do
            g (relayAll t2 es1 (SetTable.grown es1.size)).2.2
            storeSet a (relayAll t2 es1 (SetTable.grown es1.size)).1 (relayAll t2 es1 (SetTable.grown es1.size)).2.1
            pure (some true)
          else pure (some true)) Q E s := by
  have at1 := storeB_at (es' := es1) (t' := t2) ho hd
  have sb := Heap.SameBut.update s.heap a (Obj.putSet es1 t2)
  refine wpAny_bind (wpAny_storeSet_of ho hd ?_ (fits_of_scanBound R1.small))
  by_cases full : (!dm && t2.tooFull) = true
  · rw [if_pos full]
    have p1 := relayAll_perm t2 es1 (SetTable.grown es1.size)
    have p2 := relayAll_fits t2 es1 (SetTable.grown es1.size)
    have p3 := relayAll_ris t2 es1 (SetTable.grown es1.size)
    have p4 := relayAll_led t2 es1 (SetTable.grown es1.size)
    revert p1 p2 p3 p4
    rcases relayAll t2 es1 (SetTable.grown es1.size) with ⟨es2, t3, gave⟩
    intro p1 p2 p3 p4
    dsimp only at p1 p2 p3 p4 ⊢
    have e2 : es2.size = es1.size := by
      have q := p1.length_eq
      rw [Array.length_toList, Array.length_toList] at q
      exact q
    have R2 : TxtRaw w es2 t3 L := ⟨fun e he => R1.ent e (p1.mem_iff.mp he), (p1.map txtOf).trans R1.perm, R1.nd, by rw [e2]; exact R1.small, p2, p3, R1.led.imp id fun z => by rw [p4]; exact z⟩
    refine wpAny_bind (hg _ _ _ (wpAny_bind (wpAny_storeSet_of at1 rfl ?_ (fits_of_scanBound R2.small))))
    exact wpAny_pure (hQ _ (sb.trans (Heap.SameBut.update _ a _)) ⟨_, es2, _, t3, storeB_at (es' := es2) (t' := t3) at1 rfl, hex, rfl, R2⟩)
  · rw [if_neg full]
    exact wpAny_pure (hQ _ sb ⟨_, es1, _, t2, at1, hex, rfl, R1⟩)

theorem txt_addHashed {k : Str} {tk : Tok} {Q : Bool → Shared → Prop} (R : TextSet w s.heap a L) (room : L.length + 1 < scanBound)
    (h1 : k ∈ L → Q false s) (h2 : k ∉ L → ∀ h', Heap.SameBut a s.heap h' → TextSet w h' a (k :: L) → Q true { s with heap := h' }) :
    wpAny (model P w) A (setAddHashed a (.str k tk) ((PySem.strKind P w).hash k)) Q E s := by
  obtain ⟨o, es, ep, t, ho, hex, hd, r⟩ := R
  have isk : (PySem.strKind P w).is k (.str k tk) = true := PySem.strKind_is P w k tk
  have hel : ElemsOf (PySem.strKind P w) es.toList := ent_elems r.ent
  have sc : (Value.str k tk).scannable = true := rfl
  unfold setAddHashed setAddHashedIn
  refine wpAny_holding (wpAny_bind (wpAny_setState_of ho hd r.fits ?_))
  dsimp only
  rw [byScan_of sc r.small hel]
  simp only [↓reduceIte]
  unfold setAddByScan
  refine wpAny_bind (wpAny_bind (wpAny_rule (wpAny_bind (wpAny_setScan_of isk ho hd r.fits hel ?_))))
  cases fi : List.findIdx? (fun e => (PySem.strKind P w).is k e.2) es.toList with
  | some j =>
    dsimp only
    obtain ⟨hj, pj, _⟩ := List.findIdx?_eq_some_iff_getElem.mp fi
    exact wpAny_pure (wpAny_pure (h1 ((r.mem (P := P) k).mpr ⟨es.toList[j], List.getElem_mem hj, pj⟩)))
  | none =>
    dsimp only
    have nk : k ∉ L := fun z => by
      obtain ⟨e, he, q⟩ := (r.mem (P := P) k).mp z
      have c := List.findIdx?_eq_none_iff.mp fi e he
      rw [q] at c
      cases c
    have gw : ∀ (b : Bool) {s₁ : Shared} {Q' : Unit → Shared → Prop}, Q' () s₁ → wpAny (model P w) A (match b with | true => rule "set.scan.the-table-gave-way" | false => pure ()) Q' E s₁ := by
      intro b s₁ Q' q
      cases b
      · exact wpAny_pure q
      · exact wpAny_rule q
    have p1 := layNew_perm t es ((PySem.strKind P w).hash k) (.str k tk)
    have p2 := layNew_fits t es ((PySem.strKind P w).hash k) (.str k tk)
    have p3 := layNew_ris t es ((PySem.strKind P w).hash k) (.str k tk) r.ris
    have p4 := layNew_led t es ((PySem.strKind P w).hash k) (.str k tk)
    revert p1 p2 p3 p4
    rcases layNew t es ((PySem.strKind P w).hash k) (.str k tk) with ⟨es1, t1, dm, gave⟩
    intro p1 p2 p3 p4
    dsimp only at p1 p2 p3 p4 ⊢
    rw [Array.toList_push] at p1
    have q1 : es1.toList.Perm ((hashStr w k, Value.str k tk) :: es.toList) := p1.trans (List.perm_append_singleton _ _)
    have z1 : es1.size = L.length + 1 := by
      have q := q1.length_eq
      rw [Array.length_toList, List.length_cons, Array.length_toList, r.size] at q
      exact q
    have raw : ∀ t' : SetTable, t'.fits es1.size = true → Ris t'.place.toList → (w.params.followText "set-order" = true ∨ t'.led = true) → TxtRaw w es1 t' (k :: L) := fun t' f1 f2 f3 =>
      ⟨fun e he => by
        rcases List.mem_cons.mp (q1.mem_iff.mp he) with z | z
        · exact ⟨k, tk, z⟩
        · exact r.ent e z, (q1.map txtOf).trans (List.Perm.cons k r.perm), List.nodup_cons.mpr ⟨nk, r.nd⟩, by rw [z1]; exact room, f1, f2, f3⟩
    have led1 : w.params.followText "set-order" = true ∨ t1.led = true := r.led.imp id fun z => by rw [p4]; exact z
    refine wpAny_bind (gw _ ?_)
    split
    · refine wpAny_bind ?_
      rw [hashByValue_scannable 8 sc]
      refine wpAny_pure ?_
      refine txt_tail (L := k :: L) ?_ ho hex hd (raw _ ?_ ?_ ?_) ?_
      · intro b s₁ Q' q; cases b <;> first | exact wpAny_pure q | exact wpAny_rule q
      · first | (split <;> first | exact p2 | exact SetTable.fits_plain_off p2) | exact p2
      · first | (split <;> exact p3) | exact p3
      · first | (split <;> exact led1) | exact led1
      · intro h' sb R'; exact wpAny_pure (h2 nk h' sb R')
    · refine wpAny_bind (wpAny_pure ?_)
      simp only [↓reduceIte]
      refine txt_tail (L := k :: L) ?_ ho hex hd (raw _ p2 p3 led1) ?_
      · intro b s₁ Q' q; cases b <;> first | exact wpAny_pure q | exact wpAny_rule q
      · intro h' sb R'; exact wpAny_pure (h2 nk h' sb R')

theorem txt_add {k : Str} {tk : Tok} {Q : Value → Shared → Prop} (R : TextSet w s.heap a L) (room : L.length + 1 < scanBound)
    (h1 : k ∈ L → Q .none { s with toks := s.toks + 1 }) (h2 : k ∉ L → ∀ h', Heap.SameBut a s.heap h' → TextSet w h' a (k :: L) → Q .none { s with heap := h', toks := s.toks + 1 }) :
    wpAny (model P w) A (call (.builtin "set.add") [.ref a, .str k tk]) Q E s := by
  have tS := (R.setOf (P := P)).typeIs
  refine wpAny_call_entry F.slot_set_add tS F.entry_set_add ?_ (F.args_set_add_2 _ _)
  unfold Builtin.«set.add» Builtin.Frozenset.oneOther
  simp only [List.isEmpty_nil, bind_assoc]
  unfold Builtin.Frozenset.addrOf setAdd
  refine wpAny_bind (wpAny_pure ?_)
  try dsimp only
  refine wpAny_bind (wpAny_pure ?_)
  try dsimp only
  refine wpAny_bind (wpAny_holding (wpAny_bind ((PySem.strKind P w).pyHash (PySem.strKind_is P w k tk) ?_)))
  refine txt_addHashed (s := { s with toks := s.toks + 1 }) R room (fun m => ?_) fun m h' sb R' => ?_
  · exact wpAny_pure ⟨_, rfl, h1 m⟩
  · exact wpAny_pure ⟨_, rfl, h2 m h' sb R'⟩
theorem txt_fresh {h : Heap} (w : World) : TextSet w (h.push { cls := .type "set", dict := none, data := .set #[] 0 (.fresh 0 0 (!w.params.followText "set-order")) }) h.objs.size [] := by
  refine ⟨_, #[], 0, _, Heap.get?_push_size _ rfl, ⟨rfl, rfl, rfl⟩, rfl, ⟨by simp, List.Perm.refl _, List.nodup_nil, by decide, by rfl, List.Pairwise.nil, ?_⟩⟩
  show _ ∨ (!w.params.followText "set-order") = true
  cases w.params.followText "set-order"
  · exact .inr rfl
  · exact .inl rfl

/-! ### sorted -/
theorem strs_of_ents : ∀ (l : List Value), (∀ v ∈ l, ∃ x tk, v = Value.str x tk) → StrsAre l (l.map fun v => txtOf (0, v))
  | [], _ => .nil
  | v :: l, h => by
    obtain ⟨x, tk, rfl⟩ := h v List.mem_cons_self
    exact .cons x tk (strs_of_ents l fun u hu => h u (List.mem_cons_of_mem _ hu))
theorem sorted_txt {Q : Value → Shared → Prop} (R : TextSet w s.heap a L) (hh : A.handled = none) (h64 : L.length < 64)
    (hQ : ∀ s' p (out : Array Value) (c : Nat) (ys : List Str), (∀ b o, s.heap.get? b = some o → s'.heap.get? b = some o) → s'.gens = s.gens → s'.os = s.os → s.heap.objs.size ≤ p →
      s'.heap.get? p = some (seqObj "list" out c) → StrsAre out.toList ys → ys.Perm L → sortedS ys = true → Q (.ref p) s') :
    wpAny (model P w) A (call (.builtin "sorted") [.ref a]) Q E s := by
  obtain ⟨o, es, ep, t, ho, hex, hd, r⟩ := R
  refine Calls.call_function_entry kind_sorted plain_sorted entry_sorted (args_sorted1 _) ?_
  unfold Builtin.«sorted»
  refine wpAny_bind (m := checkCount "sorted" 1 1 _) (wpAny_pure ?_)
  refine wpAny_bind (collect_set (A := A.in1) hh ⟨o, ho, hex.1, hd⟩ r.fits r.small r.ris r.led fun s1 vs k1 hz g1 o1 pm => ?_)
  have lv : vs.length = L.length := by rw [pm.length_eq, List.length_map, Array.length_toList]; exact r.size
  have hS : StrsAre vs (vs.map fun v => txtOf (0, v)) := strs_of_ents vs fun v hv => by
    obtain ⟨e, he, q⟩ := List.mem_map.mp (pm.mem_iff.mp hv)
    obtain ⟨x, tk, rfl⟩ := r.ent e he
    exact ⟨x, tk, q.symm⟩
  have pk : (vs.map fun v => txtOf (0, v)).Perm L := by
    have q := pm.map fun v => txtOf (0, v)
    rw [List.map_map] at q
    exact q.trans r.perm
  refine wpAny_bind (wpAny_newList ?_ (by rw [lv, sizeLine_eq]; omega))
  have hoL : (s1.heap.push (seqObj "list" vs.toArray 0)).get? s1.heap.objs.size = some (seqObj "list" vs.toArray 0) := Heap.get?_push_size _ rfl
  refine wpAny_bind (wpAny_holding (wpAny_call_entry slot_list_sort ⟨_, hoL, rfl⟩ entry_list_sort
    (list_sort_treeK strKind_oneLt hoL hS.keysOf (fun v₁ v₂ rest e => keyKind_strs (by rw [← e]; exact hS)) (by rw [lv]; exact h64) fun st' hp hs => ⟨_, rfl, ?_⟩) (args_list_sort _)))
  obtain ⟨ys, q1, q2, q3⟩ := sorted_out_str hS hp hs
  obtain ⟨c, hc⟩ := sortedHeap_at (vs := vs) (out := (arrOf st').map (·.2)) hoL
  refine wpAny_pure ⟨_, rfl, hQ _ s1.heap.objs.size _ c ys (fun b u e => ?_) g1 o1 hz hc q1 (q2.trans pk) q3⟩
  have q := k1 b u e
  have hlt := Heap.lt_size q
  show (sortedHeap (s1.heap.push (seqObj "list" vs.toArray 0)) s1.heap.objs.size vs _).get? b = some u
  rw [sortedHeap_old (Nat.ne_of_lt hlt) (by rw [size_push']; exact Nat.lt_succ_of_lt hlt)]
  exact Heap.get?_push_of_some _ q
end

/-! ### as tracked things -/
def TxtO (w : World) (a : Addr) (L : List Str) : HO := .ext fun h => TextSet w h a L
theorem txtO_new {w : World} {P : Program} {H : Hp} {h : Heap} {a : Addr} {L : List Str} (R : TextSet w h a L) : ObjOk P w H h a (TxtO w a L) := by
  have ⟨o, _, _, _, ho, _⟩ := R
  exact ⟨R, ⟨o, ho⟩, fun h1 h2 p k => TextSet.at p k⟩
section
variable {X : Cx}
theorem txtO_get {pins : List (Addr × Obj)} {σ : L2.St} {H : Hp} {s : Shared} {a : Addr} {L : List Str} (I : Inv X pins σ H s) (ha : H a = some (TxtO X.w a L)) : TextSet X.w s.heap a L := (I.hok a _ ha).1
def addL (L : List Str) (k : Str) : List Str := if k ∈ L then L else k :: L
theorem txtO_add {pins : List (Addr × Obj)} {σ : L2.St} {H : Hp} {s : Shared} {E : Value → Shared → Prop} {D : Addr} {L : List Str} {k : Str} {tk : Tok} {Q : Value → Shared → Prop} (I : Inv X pins σ H s) (hD : H D = some (TxtO X.w D L)) (room : L.length + 1 < scanBound)
    (h : ∀ s', Inv X pins σ (upd H D (TxtO X.w D (addL L k))) s' → Q .none s') : wpAny (model X.prog X.w) X.A (call (.builtin "set.add") [.ref D, .str k tk]) Q E s := by
  refine txt_add (txtO_get I hD) room (fun m => ?_) fun m h' sb new => ?_
  · have e : upd H D (TxtO X.w D (addL L k)) = H := by
      funext b
      by_cases hb : b = D
      · rw [hb, upd_same, hD]
        unfold addL
        rw [if_pos m]
      · rw [upd_ne hb]
    have q := h { s with toks := s.toks + 1 }
    rw [e] at q
    exact q (I.tok _)
  · have he : ∃ u, h'.get? D = some u := by
      have ⟨o, _, _, _, ho, _⟩ := new
      exact ⟨o, ho⟩
    have e : addL L k = k :: L := by unfold addL; rw [if_neg m]
    rw [e] at h
    exact h _ (I.write (e := D) (t' := s.toks + 1) (by rw [hD]; trivial) (.inl rfl) (fun b u hb hu => (sb.2 b hb).trans hu) he (txtO_new new))
/-- sorted(s) of a set of fewer than 64 texts -/
theorem cr_sortedTxt (hc : X.calm = true) : CallR X (.builtin "sorted") (fun vs H Q => ∃ (a : Addr) (L : List Str), vs = [V.ref a] ∧ H a = some (TxtO X.w a L) ∧ L.length < 64 ∧
    ∀ (ys : List Str) (p : Addr), ys.Perm L → L.Nodup → sortedS ys = true → H p = none → Q (.ref p) (upd H p (.lst (ys.map V.str)))) := by
  intro pins s σ H vs us Q I r h
  obtain ⟨a, L, rfl, ha, h64, q⟩ := h
  have R := txtO_get I ha
  have nd : L.Nodup := by
    obtain ⟨_, _, _, _, _, _, _, rr⟩ := R
    exact rr.nd
  rw [Vals.ref1 r]
  refine sorted_txt R (I.ok.hd hc) h64 fun s' p out c ys k g o hp hg hi hm hs => ?_
  have hlen : (ys.map V.str).length ≤ sizeLine := by rw [List.length_map, hm.length_eq, sizeLine_eq]; omega
  have hn : H p = none := I.hok.fresh hp
  have J : Inv X pins σ (upd H p (.lst (ys.map V.str))) { s with heap := s'.heap, gens := s'.gens, drawn := s'.drawn, toks := s'.toks } :=
    I.call (ch := []) (Un.laid k hp hn) (I.hok.laid k hp ⟨hlen, out.toList, c, vals_of_strs hi, hg⟩) (by rw [g]; exact I.bare) (fun _ z => nomatch z)
  have e : s' = { s with heap := s'.heap, gens := s'.gens, drawn := s'.drawn, toks := s'.toks } := by
    cases s'
    cases s
    cases o
    rfl
  rw [e]
  exact ⟨.ref p, _, J, rfl, q ys p hm nd hs hn⟩
end
end CK
/-! {elt for target in iter}, elt a text: the set of what comes, as a list without doubles. -/
namespace CK
open PySem PySem.Spec PyProof.Rows L2 PpSet

section
variable {X : Cx}
/-- one turn, from the abstract heap H: the item, the target, the element; then Nx of the heap with one text more in D -/
def ScTurn (w : World) (g : TG) (te : TE) (vs : List Nat) (σ : L2.St) (D : Addr) (Nx : Hp → Prop) (x : V) (H : Hp) : Prop :=
  g x (wipe σ vs) H fun σ2 H2 => wipe σ2 vs = wipe σ vs ∧ te σ2 H2 fun y H4 => ∃ (k : Str) (L : List Str), y = .str k ∧ H4 D = some (TxtO w D L) ∧ L.length + 1 < scanBound ∧ Nx (upd H4 D (TxtO w D (addL L k)))
def tScT (w : World) (wi : TI) (g : TG) (te : TE) (vs : List Nat) : TE := fun σ H Q => wi σ H fun J H1 => ∀ D, H1 D = none → ∃ W : Nat → Nat → Hp → Prop, (∃ m, W 0 m (upd H1 D (TxtO w D []))) ∧
  ∀ i m H, W i m H → (J.stop i H ∧ Q (.ref D) H) ∨ (J.go i H ∧ ∃ Nx : Hp → Prop, (∀ H', Nx H' → ∃ m', m' < m ∧ W (i + 1) m' H') ∧ ∀ x H', J.yld i H x H' → ScTurn w g te vs σ D Nx x H')

theorem sct_core {pins : List (Addr × Obj)} {s : Shared} {σ : L2.St} {H : Hp} {Q : VK} {elt tg iter : Expr} {scope : Scope} {own : List (PySem.Str × Nat)} {pos pos' : Pos} {wi : TI} {g : TG} {te : TE}
    {use : Option (Value → Sem Unit)} {Qf : Value → Shared → Prop} (hc : X.calm = true) (hN : X.N.Nodup) (I : Inv X pins σ H s) (hi : PI X tg iter wi) (ok : BlkOk X.N X.env.scope scope own)
    (hg : ∀ s H C cl fp, PG (X.blk s H scope (compEnvC scope cl C X.env) fp) tg g) (he : ∀ s H C cl fp, PE (X.blk s H scope (compEnvC scope cl C X.env) fp) elt te)
    (hs : ∀ x, foldedSetIterable iter X.env x = pure x) (h : tScT X.w wi g te (own.map (·.2)) σ H Q)
    (back : ∀ D C s' m H', Inv X pins σ H' s' → Q (.ref D) H' → s'.heap.Ns C m → FpOk X pins H' C → compPost (model X.prog X.w) X.A X.xe use Qf (.ref D) C (.ok .next) s') :
    wpAny (model X.prog X.w) X.A (comprehension (.SetComp elt [⟨tg, iter, [], 0⟩] scope pos) scope X.env pos' (newSet (.type "set")) false (eval iter X.env) use) Qf X.xe s := by
  have caught : ∀ y ∈ scope.names, y.2 = .free → ∃ c, X.env.cells.lookup y.1 = some c := by
    intro y hy e
    exact (ok.free y hy e).elim (fun k => I.ok.has _ (.inl k)) fun k => I.ok.has _ (.inr k)
  refine wpAny_comprehension_free (use := use) rfl hs (closure_ok caught) ok.kind (fun y hy e => by rw [ok.uniq y hy, e]) (thn (hi.run pins s σ H _ I h) fun xv s1 hx => thn hx fun itv s2 h2 => ?_)
  obtain ⟨it, fp, tn, J, H2, e, I2, T, st2, f2, q⟩ := h2
  subst e
  refine newSet_ok (newEnv_comp ?_)
  generalize hD : s2.heap.objs.size = D
  have nD : H2 D = none := I2.hok.fresh (Nat.le_of_eq hD)
  obtain ⟨W, ⟨m0, w0⟩, turn⟩ := q D nD
  generalize hob : ({ cls := .type "set", dict := none, data := .set #[] 0 (.fresh 0 0 (!X.w.params.followText "set-order")) } : Obj) = ob
  generalize hs3 : ({ s2 with heap := s2.heap.push ob } : Shared) = s3
  have h3 : s3.heap = s2.heap.push ob := by rw [← hs3]
  have I3 : Inv X pins σ (upd H2 D (TxtO X.w D [])) s3 := by
    rw [← hs3]
    refine I2.laid (t' := s2.toks) (fun b o e => Heap.get?_push_of_some _ e) (Nat.le_of_eq hD) ?_
    rw [← hD, ← hob]
    exact txtO_new (txt_fresh X.w)
  generalize hH3 : upd H2 D (TxtO X.w D []) = H3 at I3 w0
  have lt2 : ∀ b ∈ fp, b < s2.heap.objs.size := fun b hb => let ⟨o, e, _⟩ := T.obj _ _ st2 b hb; Heap.lt_size e
  have f3 : ∀ b ∈ fp, FpOk X pins H3 b ∧ b < s3.heap.objs.size := by
    intro b hb
    have l := lt2 b hb
    refine ⟨⟨?_, (f2 b hb).2⟩, by rw [h3, Heap.size_push]; exact Nat.lt_succ_of_lt l⟩
    rw [← hH3, upd_ne (by rw [← hD]; exact Nat.ne_of_lt l)]
    exact (f2 b hb).1
  have st3 : tn 0 s3.heap := T.keep _ _ _ st2 fun b _ o e => by rw [h3]; exact Heap.get?_push_of_some _ e
  have I4 := block_start I3 ok hN f3
  generalize hcl : cellsFrom (s3.heap.objs.size + 1) scope.names (cloFrom X.env.cells scope.names []) = cl at I4 ⊢
  have pg := hg s3 H3 s3.heap.objs.size cl fp
  have pe := he s3 H3 s3.heap.objs.size cl fp
  show codeAny _ _ (.compStart (.SetComp elt [⟨tg, iter, [], 0⟩] scope pos) 0 (.ref it) (.ref D) (compEnvC scope cl s3.heap.objs.size X.env)) (compPost (model X.prog X.w) X.A X.xe use Qf (.ref D) s3.heap.objs.size)
    { s3 with heap := pushCells (s3.heap.push { cls := .type "dict", data := .dict #[] }) scope.names }
  generalize hce : compEnvC scope cl s3.heap.objs.size X.env = ce at I4 pg pe ⊢
  have cL : ce.locals = s3.heap.objs.size := by rw [← hce]; rfl
  generalize hs4 : ({ s3 with heap := pushCells (s3.heap.push { cls := .type "dict", data := .dict #[] }) scope.names } : Shared) = s4 at I4 ⊢
  have st4 : tn 0 s4.heap := T.keep _ _ _ st3 fun b _ o e => by rw [← hs4]; exact pushCells_keeps _ _ _ _ (Heap.get?_push_of_some _ e)
  let Y := X.blk s3 H3 scope ce fp
  let vs := own.map (·.2)
  have ours : ∀ {σ' : L2.St} {H' : Hp} {s' : Shared}, Inv Y [] σ' H' s' → (∀ b ∈ fp, H' b = none) → ∀ b ∈ fp, FpOk Y [] H' b := fun {σ' H' s'} I' hn b hb =>
    ⟨hn b hb, (I'.ok.exf b hb).1, I'.ok.exfs b hb, .inl hb, fun x c e => (I'.ok.exf b hb).2 x c e, fun p hp => absurd (show p ∈ ([] : List (Addr × Obj)) ++ [] from hp) (by simp)⟩
  let Hold : Nat → Shared → Prop := fun n s' => ∃ i H', Inv Y [] (wipe σ vs) H' s' ∧ tn i s'.heap ∧ (∀ b ∈ fp, H' b = none) ∧ W i n H'
  have loop : codeAny (model X.prog X.w) X.A (.compLoop (.SetComp elt [⟨tg, iter, [], 0⟩] scope pos) 0 (.ref it) (.ref D) ce) (compPost (model X.prog X.w) X.A X.xe use Qf (.ref D) s3.heap.objs.size) s4 := by
    refine compLoopS_any Hold ?_ m0 ⟨0, H3, I4, st4, fun b hb => (f3 b hb).1.1, w0⟩
    rintro n s5 ⟨i, H5, I5, st5, n5, w5⟩
    rcases turn i n H5 w5 with ⟨stop, qq⟩ | ⟨go, Nx, hNx, step⟩
    · refine thnF (T.done Y rfl rfl rfl hc i [] s5 _ H5 (fun _ _ => False) I5 (ours I5 n5) st5 stop) fun r s6 ⟨hr, I6⟩ => ?_
      subst hr
      have I7 : Inv X pins σ H5 s6 := I3.call' (ch := fp) I6.os I6.base I6.hok I6.bare fun b hb => let z := (f3 b hb).1.2; ⟨z.2.2.1, z.1, z.2.2.2.1, z.2.2.2.2⟩
      have nC : H5 s3.heap.objs.size = none := by
        have z : H5 ce.locals = none := I6.free
        rwa [cL] at z
      obtain ⟨m, hn, _⟩ := I6.loc
      have hn : s6.heap.Ns ce.locals m := hn
      rw [cL] at hn
      exact back D s3.heap.objs.size s6 m H5 I7 qq hn (I3.fpOk (Nat.le_refl _) nC)
    · refine thnF (T.item Y rfl rfl rfl hc i [] s5 _ H5 (fun _ _ => False) I5 (ours I5 n5) st5 go) fun r s6 ⟨u, hr, h6⟩ => ?_
      subst hr
      refine thnF h6 fun _ s7 ⟨x, H7, I7, r7, y7, st7, n7⟩ => ?_
      have I7' := I7.pinned (ours I7 n7) (T.obj _ _ st7)
      refine thnF (pg.run _ s7 _ H7 x u _ I7' r7 (step x H7 y7)) fun _ s8 ⟨σ8, H8, I8, hw8, q8⟩ => ?_
      refine wpAny_tests_nil ?_
      simp only [if_true]
      refine thnF (pe.run _ s8 σ8 H8 _ I8 q8) fun z s10 ⟨yv, H10, I10, r10, k, L, ey, hD10, hz10, nx⟩ => ?_
      subst ey
      obtain ⟨tk, rfl⟩ := (show ∃ tk, z = Value.str k tk from r10)
      refine txtO_add (X := Y) I10 hD10 hz10 fun s' I' => ?_
      -- the turn's end
      obtain ⟨m', hm, w'⟩ := hNx _ nx
      have still : ∀ b ∈ fp, ∀ o, s7.heap.get? b = some o → s'.heap.get? b = some o ∧ upd H10 D (TxtO Y.w D (addL L k)) b = none := fun b hb o e =>
        let z := I'.pin (b, o) (List.mem_append_right _ (List.mem_append_right _ (mem_pinsAt hb e)))
        ⟨z.1, z.2.1⟩
      refine ⟨m', hm, i + 1, _, (I'.unpinned (pins := [])).weak ?_ (fun j v e => ?_), T.keep _ _ _ st7 fun b hb o e => (still b hb o e).1, fun b hb => ?_, w'⟩
      · rw [← hw8, wipe_length]
      · rw [← hw8] at e
        exact (wipe_some e).1
      · obtain ⟨o, e, _⟩ := T.obj _ _ st7 b hb
        exact (still b hb o e).2
  exact codeAny_compStart_set loop (T.self X.A 0 _ _ _ st4 loop)
theorem pe_sct {elt tg iter : Expr} {scope : Scope} {own : List (PySem.Str × Nat)} {pos : Pos} {wi : TI} {g : TG} {te : TE} (hc : X.calm = true) (hN : X.N.Nodup) (hi : PI X tg iter wi) (ok : BlkOk X.N X.env.scope scope own)
    (hg : ∀ s H C cl fp, PG (X.blk s H scope (compEnvC scope cl C X.env) fp) tg g) (he : ∀ s H C cl fp, PE (X.blk s H scope (compEnvC scope cl C X.env) fp) elt te)
    (hs : ∀ x, foldedSetIterable iter X.env x = pure x := by intro _; rfl) : PE X (.SetComp elt [⟨tg, iter, [], 0⟩] scope pos) (tScT X.w wi g te (own.map (·.2))) := by
  refine ⟨fun pins s σ H Q I h => ?_⟩
  rw [PpSet.eval_SetComp]
  refine sct_core hc hN I hi ok hg he hs h fun D C s' m H' I' q hn f => ⟨m, hn, fun h'' sb => ?_⟩
  obtain ⟨f0, f1, f2, f3, f4, f5⟩ := f
  exact ⟨.ref D, H', I'.turned (t' := s'.toks) (fun b o hb e => (sb.2 b hb).trans e) f0 f1 f3 f4 f5, rfl, q⟩
end
/-- {key for key in named}: named a list of texts that stays -/
def gather (l : List Str) : List Str := l.foldl addL []
theorem gather_snoc (l : List Str) (k : Str) : gather (l ++ [k]) = addL (gather l) k := by unfold gather; rw [List.foldl_append]; rfl
theorem gather_mem : ∀ (l : List Str) (k : Str), k ∈ gather l ↔ k ∈ l := by
  have add : ∀ (L : List Str) (j k : Str), k ∈ addL L j ↔ k ∈ L ∨ k = j := by
    intro L j k
    unfold addL
    split
    · rename_i h
      exact ⟨.inl, fun z => z.elim id fun e => e ▸ h⟩
    · rw [List.mem_cons]
      exact Or.comm
  have go : ∀ (l L : List Str) (k : Str), k ∈ l.foldl addL L ↔ k ∈ L ∨ k ∈ l := by
    intro l
    induction l with
    | nil => intro L k; simp
    | cons j l ih =>
      intro L k
      rw [List.foldl_cons, ih, add, List.mem_cons, or_assoc]
  intro l k
  have q := go l [] k
  show k ∈ l.foldl addL [] ↔ k ∈ l
  simpa using q
theorem gather_len (l : List Str) : (gather l).length ≤ l.length := by
  have go : ∀ (l L : List Str), (l.foldl addL L).length ≤ L.length + l.length := by
    intro l
    induction l with
    | nil => intro L; exact Nat.le_refl _
    | cons j l ih =>
      intro L
      rw [List.foldl_cons]
      have q := ih (addL L j)
      have h : (addL L j).length ≤ L.length + 1 := by
        unfold addL
        split
        · exact Nat.le_succ _
        · exact Nat.le_refl _
      rw [List.length_cons]
      omega
  have q := go l []
  rw [List.length_nil, Nat.zero_add] at q
  exact q
theorem sct_list {w : World} {K : PySem.W.Frag} {a : Addr} {l : List Str} {i : Nat} {σ : L2.St} {H1 : Hp} {Q : VK} (hi : i < σ.length) (hL : SqL K H1 a (l.map V.str)) (small : l.length < 1000)
    (fin : ∀ D, H1 D = none → Q (.ref D) (upd H1 D (TxtO w D (gather l)))) :
    ∀ D, H1 D = none → ∃ W : Nat → Nat → Hp → Prop, (∃ m, W 0 m (upd H1 D (TxtO w D []))) ∧
      ∀ j m H, W j m H → ((Itl K a).stop j H ∧ Q (.ref D) H) ∨ ((Itl K a).go j H ∧ ∃ Nx : Hp → Prop, (∀ H', Nx H' → ∃ m', m' < m ∧ W (j + 1) m' H') ∧ ∀ x H', (Itl K a).yld j H x H' → ScTurn w (gName i) (tVar i) [i] σ D Nx x H') := by
  intro D nD
  have sb : Same H1 (upd H1 D (TxtO w D [])) := fun b o e => by rw [upd_ne (ne_of_none e nD)]; exact e
  have seq : ∀ L, SqL K (upd H1 D (TxtO w D L)) a (l.map V.str) := fun L => Same.seq (fun b o e => by rw [upd_ne (ne_of_none e nD)]; exact e) hL
  refine ⟨fun j m H => m = l.length - j ∧ j ≤ l.length ∧ H = upd H1 D (TxtO w D (gather (l.take j))), ⟨l.length, by simp, Nat.zero_le _, rfl⟩, ?_⟩
  rintro j m H ⟨rfl, hj, rfl⟩
  by_cases hlt : j < l.length
  · have gj : (l.map V.str)[j]? = some (.str l[j]) := by rw [List.getElem?_map, List.getElem?_eq_getElem hlt]; rfl
    refine .inr ⟨⟨_, _, seq _, gj⟩, fun H' => H' = upd H1 D (TxtO w D (gather (l.take (j + 1)))), fun H' e => ⟨l.length - (j + 1), by omega, rfl, hlt, e⟩, fun x H' y => ?_⟩
    obtain ⟨rfl, yx⟩ := y
    have ex : x = .str l[j] := Option.some.inj ((yx _ (seq _)).symm.trans gj)
    subst ex
    refine ⟨?_, .str l[j], ?_, l[j], gather (l.take j), rfl, upd_same, ?_, ?_⟩
    · show ((wipe σ [i]).set i (some (.str l[j]))).set i none = (σ.set i none)
      show ((σ.set i none).set i (some (.str l[j]))).set i none = σ.set i none
      rw [List.set_set, List.set_set]
    · show ((wipe σ [i]).set i (some (.str l[j])))[i]? = _
      rw [List.getElem?_set_self (by rw [wipe_length]; exact hi)]
    · have q := gather_len (l.take j)
      rw [List.length_take] at q
      unfold scanBound
      omega
    · rw [upd_upd, ← gather_snoc, List.take_add_one, List.getElem?_eq_getElem hlt]
      rfl
  · have e : j = l.length := by omega
    subst e
    refine .inl ⟨⟨_, seq _, by rw [List.length_map]; exact Nat.le_refl _⟩, ?_⟩
    rw [List.take_length]
    exact fin D nD
end CK
/-! The text of law k05 by its places: each def with its names by slot; data as it stands in the heap. -/
namespace CK
open PySem PySem.Spec PyProof.Rows L2
def topS (i : Nat) : Stmt := PySem.Challenge.pw_crosskeep_k05_whole_deal_is_its_parts.main.body.getD i (.Pass ⟨0, 0, 0, 0⟩)
abbrev s_isInteger : Stmt := topS 3
abbrev s_isValue : Stmt := topS 4
abbrev s_applyAdd : Stmt := topS 6
abbrev s_applyDeed : Stmt := topS 7
abbrev s_partOf : Stmt := topS 9
abbrev s_keysOfPart : Stmt := topS 10
abbrev s_tryPart : Stmt := topS 11
abbrev s_writeRows : Stmt := topS 12
abbrev s_joinParts : Stmt := topS 13
abbrev s_keysOf : Stmt := topS 15
abbrev s_doDeal : Stmt := topS 16
abbrev s_row : Stmt := topS 18
abbrev s_digits : Stmt := topS 19
abbrev s_sign : Stmt := topS 20
abbrev s_text : Stmt := topS 21
abbrev s_key : Stmt := topS 22
abbrev s_value : Stmt := topS 23
abbrev s_deed : Stmt := topS 24
abbrev s_done : Stmt := topS 25
abbrev s_same : Stmt := topS 26
abbrev s_copy : Stmt := topS 27
abbrev s_keys : Stmt := topS 28
abbrev s_rows : Stmt := topS 29
abbrev s_deal : Stmt := topS 30
abbrev s_dealDone : Stmt := topS 31
abbrev s_sameAnswer : Stmt := topS 32
abbrev s_split : Stmt := topS 34
abbrev s_triedParts : Stmt := topS 35
abbrev s_law : Stmt := topS 36
theorem sc_isInteger : FnScope ["data"] ["data"] (defScope s_isInteger) := ⟨rfl, rfl, rfl, by decide +kernel, rfl, by decide +kernel, by decide +kernel⟩
theorem sc_isValue : FnScope ["data"] ["data"] (defScope s_isValue) := ⟨rfl, rfl, rfl, by decide +kernel, rfl, by decide +kernel, by decide +kernel⟩
theorem sc_applyAdd : FnScope ["rows", "key", "number", "before"] ["rows", "key", "number"] (defScope s_applyAdd) := ⟨rfl, rfl, rfl, by decide +kernel, rfl, by decide +kernel, by decide +kernel⟩
theorem sc_applyDeed : FnScope ["rows", "deed", "key", "before"] ["rows", "deed"] (defScope s_applyDeed) := ⟨rfl, rfl, rfl, by decide +kernel, rfl, by decide +kernel, by decide +kernel⟩
theorem sc_partOf : FnScope ["deal", "keys", "checks", "deeds", "at", "key", "value", "deed"] ["deal", "keys"] (defScope s_partOf) := ⟨rfl, rfl, rfl, by decide +kernel, rfl, by decide +kernel, by decide +kernel⟩
theorem sc_keysOfPart : FnScope ["part", "named", "at", "key", "value", "deed"] ["part"] (defScope s_keysOfPart) := ⟨rfl, rfl, rfl, by decide +kernel, rfl, by decide +kernel, by decide +kernel⟩
theorem sc_tryPart : FnScope ["rows", "part", "key", "values", "after", "answers", "changed", "at", "value", "deed"] ["rows", "part"] (defScope s_tryPart) := ⟨rfl, rfl, rfl, by decide +kernel, rfl, by decide +kernel, by decide +kernel⟩
theorem sc_writeRows : FnScope ["rows", "writes", "key", "value"] ["rows", "writes"] (defScope s_writeRows) := ⟨rfl, rfl, rfl, by decide +kernel, rfl, by decide +kernel, by decide +kernel⟩
theorem sc_joinParts : FnScope ["tried", "values", "answers", "done", "held", "some_values", "some_answers", "writes", "at", "answer", "value"] ["tried"] (defScope s_joinParts) := ⟨rfl, rfl, rfl, by decide +kernel, rfl, by decide +kernel, by decide +kernel⟩
theorem sc_keysOf : FnScope ["deal", "checks", "deeds", "named", "key", "value", "deed"] ["deal"] (defScope s_keysOf) := ⟨rfl, rfl, rfl, by decide +kernel, rfl, by decide +kernel, by decide +kernel⟩
theorem sc_doDeal : FnScope ["rows", "deal", "checks", "deeds", "values", "key", "value", "deed"] ["rows", "deal"] (defScope s_doDeal) := ⟨rfl, rfl, rfl, by decide +kernel, rfl, by decide +kernel, by decide +kernel⟩
theorem sc_row : FnScope ["_law_script", "_law_k", "_law_cell", "_law_first", "_law_second"] ["_law_script", "_law_k"] (defScope s_row) := ⟨rfl, rfl, rfl, by decide +kernel, rfl, by decide +kernel, by decide +kernel⟩
theorem sc_digits : FnScope ["_law_row_here", "_law_sizes", "_law_digits_here", "_law_size"] ["_law_row_here", "_law_sizes"] (defScope s_digits) := ⟨rfl, rfl, rfl, by decide +kernel, rfl, by decide +kernel, by decide +kernel⟩
theorem sc_sign : FnScope ["_law_number", "_law_signs"] ["_law_number"] (defScope s_sign) := ⟨rfl, rfl, rfl, by decide +kernel, rfl, by decide +kernel, by decide +kernel⟩
theorem sc_text : FnScope ["_law_row_here", "_law_count", "_law_text_here", "_law_rest", "_law_k"] ["_law_row_here", "_law_count"] (defScope s_text) := ⟨rfl, rfl, rfl, by decide +kernel, rfl, by decide +kernel, by decide +kernel⟩
theorem sc_key : FnScope ["_law_row_here", "_law_most", "_law_signs", "_law_count", "_law_rest", "_law_key_here", "_law_k"] ["_law_row_here", "_law_most"] (defScope s_key) := ⟨rfl, rfl, rfl, by decide +kernel, rfl, by decide +kernel, by decide +kernel⟩
theorem sc_value : FnScope ["_law_row_here", "_law_kind", "_law_sign_here", "_law_more", "_law_number"] ["_law_row_here"] (defScope s_value) := ⟨rfl, rfl, rfl, by decide +kernel, rfl, by decide +kernel, by decide +kernel⟩
theorem sc_deed : FnScope ["_law_keys_here", "_law_row_here", "_law_kind", "_law_at", "_law_sign_here", "_law_number", "_law_key_here"] ["_law_keys_here", "_law_row_here"] (defScope s_deed) := ⟨rfl, rfl, rfl, by decide +kernel, rfl, by decide +kernel, by decide +kernel⟩
theorem sc_done : FnScope ["_law_rows_here", "_law_deed_here", "_law_key_here", "_law_before"] ["_law_rows_here", "_law_deed_here"] (defScope s_done) := ⟨rfl, rfl, rfl, by decide +kernel, rfl, by decide +kernel, by decide +kernel⟩
theorem sc_same : FnScope ["_law_actual", "_law_due"] ["_law_actual", "_law_due"] (defScope s_same) := ⟨rfl, rfl, rfl, by decide +kernel, rfl, by decide +kernel, by decide +kernel⟩
theorem sc_copy : FnScope ["_law_rows_here", "_law_twin", "_law_key_here"] ["_law_rows_here"] (defScope s_copy) := ⟨rfl, rfl, rfl, by decide +kernel, rfl, by decide +kernel, by decide +kernel⟩
theorem sc_keys : FnScope ["_law_script", "_law_at", "_law_most", "_law_keys_here", "_law_count", "_law_k", "_law_key_here"] ["_law_script", "_law_at", "_law_most"] (defScope s_keys) := ⟨rfl, rfl, rfl, by decide +kernel, rfl, by decide +kernel, by decide +kernel⟩
theorem sc_rows : FnScope ["_law_script", "_law_at", "_law_keys_here", "_law_rows_here", "_law_k"] ["_law_script", "_law_at", "_law_keys_here"] (defScope s_rows) := ⟨rfl, rfl, rfl, by decide +kernel, rfl, by decide +kernel, by decide +kernel⟩
theorem sc_deal : FnScope ["_law_keys_here", "_law_rows_here", "_law_row_here", "_law_more", "_law_checks", "_law_deeds", "_law_many_checks", "_law_many_deeds", "_law_right", "_law_k", "_law_at", "_law_kind", "_law_value_here", "_law_key_here", "_law_check"] ["_law_keys_here", "_law_rows_here", "_law_row_here", "_law_more"] (defScope s_deal) := ⟨rfl, rfl, rfl, by decide +kernel, rfl, by decide +kernel, by decide +kernel⟩
theorem sc_dealDone : FnScope ["_law_rows_here", "_law_deal_here", "_law_values", "_law_held", "_law_key_here", "_law_value_here", "_law_answers", "_law_deed_here"] ["_law_rows_here", "_law_deal_here"] (defScope s_dealDone) := ⟨rfl, rfl, rfl, by decide +kernel, rfl, by decide +kernel, by decide +kernel⟩
theorem sc_sameAnswer : FnScope ["_law_actual", "_law_due", "_law_k"] ["_law_actual", "_law_due"] (defScope s_sameAnswer) := ⟨rfl, rfl, rfl, by decide +kernel, rfl, by decide +kernel, by decide +kernel⟩
theorem sc_split : FnScope ["_law_keys_here", "_law_row_here", "_law_many", "_law_sets", "_law_k", "_law_chosen"] ["_law_keys_here", "_law_row_here", "_law_many"] (defScope s_split) := ⟨rfl, rfl, rfl, by decide +kernel, rfl, by decide +kernel, by decide +kernel⟩
theorem sc_triedParts : FnScope ["_law_rows_here", "_law_deal_here", "_law_sets", "_law_tried", "_law_named", "_law_keys_here", "_law_part_here", "_law_known", "_law_key_here"] ["_law_rows_here", "_law_deal_here", "_law_sets"] (defScope s_triedParts) := ⟨rfl, rfl, rfl, by decide +kernel, rfl, by decide +kernel, by decide +kernel⟩
theorem sc_law : FnScope ["_law_script", "_law_keys_here", "_law_rows_here", "_law_k", "_law_deal_here", "_law_many", "_law_turn", "_law_names", "_law_pair", "_law_tried", "_law_model", "_law_due", "_law_passed", "_law_whole", "_law_some"] ["_law_script"] (defScope s_law) := ⟨rfl, rfl, rfl, by decide +kernel, rfl, by decide +kernel, by decide +kernel⟩
end CK
/-! Law k05: data as it stands in the heap: tuples of None, ints, texts, nested; what keeps it; == of it. -/
namespace CK
open PySem PySem.Spec PyProof.Rows L2

/-! ### data in tuples alone -/
mutual
inductive At (K : PySem.W.Frag) (H : Hp) : V → PyData → Prop
  | non : At K H .non .none
  | int (i : Int) : At K H (.int i) (.int i)
  | str (x : Str) : At K H (.str x) (.str x)
  | tup {a : Addr} {xs : List V} {ds : List PyData} : SqT K H a xs → AtAll K H xs ds → At K H (.ref a) (.tuple ds)
inductive AtAll (K : PySem.W.Frag) (H : Hp) : List V → List PyData → Prop
  | nil : AtAll K H [] []
  | cons {v : V} {vs : List V} {d : PyData} {ds : List PyData} : At K H v d → AtAll K H vs ds → AtAll K H (v :: vs) (d :: ds)
end
/-- tuples stay -/
def TK (K : PySem.W.Frag) (H H' : Hp) : Prop := ∀ a xs, SqT K H a xs → SqT K H' a xs
section
variable {K : PySem.W.Frag} {H H' : Hp}
mutual
theorem At.keep (k : TK K H H') : ∀ (d : PyData) (v : V), At K H v d → At K H' v d
  | .none, _, h => by cases h; exact .non
  | .int i, _, h => by cases h; exact .int i
  | .str x, _, h => by cases h; exact .str x
  | .tuple ds, _, h => by
    cases h with
    | tup h1 h2 => exact .tup (k _ _ h1) (AtAll.keep k ds _ h2)
  | .bool _, _, h => by cases h
  | .list _, _, h => by cases h
  | .dict _, _, h => by cases h
theorem AtAll.keep (k : TK K H H') : ∀ (ds : List PyData) (vs : List V), AtAll K H vs ds → AtAll K H' vs ds
  | [], _, h => by cases h; exact .nil
  | d :: ds, _, h => by
    cases h with
    | cons h1 h2 => exact .cons (At.keep k d _ h1) (AtAll.keep k ds _ h2)
end
mutual
theorem At.dp : ∀ (d : PyData) (v : V), At K H v d → Dp K H v d
  | .none, _, h => by cases h; exact .non
  | .int i, _, h => by cases h; exact .int i
  | .str x, _, h => by cases h; exact .str x
  | .tuple ds, _, h => by
    cases h with
    | tup h1 h2 => exact .tup h1 (AtAll.dp ds _ h2)
  | .bool _, _, h => by cases h
  | .list _, _, h => by cases h
  | .dict _, _, h => by cases h
theorem AtAll.dp : ∀ (ds : List PyData) (vs : List V), AtAll K H vs ds → DpAll K H vs ds
  | [], _, h => by cases h; exact .nil
  | d :: ds, _, h => by
    cases h with
    | cons h1 h2 => exact .cons (At.dp d _ h1) (AtAll.dp ds _ h2)
end
theorem AtAll.length : ∀ {vs : List V} {ds : List PyData}, AtAll K H vs ds → vs.length = ds.length
  | _, [], h => by cases h; rfl
  | _, d :: ds, h => by
    cases h with
    | cons _ h2 => exact congrArg (· + 1) h2.length
theorem AtAll.get : ∀ {vs : List V} {ds : List PyData} {i : Nat} {v : V}, AtAll K H vs ds → vs[i]? = some v → ∃ d, ds[i]? = some d ∧ At K H v d
  | _, [], i, v, h, e => by cases h; simp at e
  | _, d :: ds, 0, v, h, e => by
    cases h with
    | cons h1 h2 => exact ⟨d, rfl, by rw [← Option.some.inj e]; exact h1⟩
  | _, d :: ds, i + 1, v, h, e => by
    cases h with
    | cons h1 h2 => exact AtAll.get (ds := ds) h2 (by simpa using e)
theorem AtAll.append : ∀ {vs ws : List V} {ds es : List PyData}, AtAll K H vs ds → AtAll K H ws es → AtAll K H (vs ++ ws) (ds ++ es)
  | _, _, [], _, h, q => by cases h; exact q
  | _, _, d :: ds, _, h, q => by
    cases h with
    | cons h1 h2 => exact .cons h1 (AtAll.append h2 q)
theorem AtAll.snoc {vs : List V} {ds : List PyData} {v : V} {d : PyData} (h : AtAll K H vs ds) (q : At K H v d) : AtAll K H (vs ++ [v]) (ds ++ [d]) := h.append (.cons q .nil)
theorem at_tup {v : V} {ds : List PyData} (h : At K H v (.tuple ds)) : ∃ a xs, v = .ref a ∧ SqT K H a xs ∧ AtAll K H xs ds := by
  cases h with
  | tup h1 h2 => exact ⟨_, _, rfl, h1, h2⟩
theorem at_str {v : V} {x : Str} (h : At K H v (.str x)) : v = .str x := by cases h; rfl
theorem at_int {v : V} {i : Int} (h : At K H v (.int i)) : v = .int i := by cases h; rfl
theorem all2 {vs : List V} {d e : PyData} (h : AtAll K H vs [d, e]) : ∃ v w, vs = [v, w] ∧ At K H v d ∧ At K H w e := by
  cases h with
  | cons h1 h2 => cases h2 with
    | cons h2 h3 => cases h3; exact ⟨_, _, rfl, h1, h2⟩
theorem all3 {vs : List V} {d e f : PyData} (h : AtAll K H vs [d, e, f]) : ∃ v w u, vs = [v, w, u] ∧ At K H v d ∧ At K H w e ∧ At K H u f := by
  cases h with
  | cons h1 h2 =>
    obtain ⟨v, w, rfl, q1, q2⟩ := all2 h2
    exact ⟨_, _, _, rfl, h1, q1, q2⟩
theorem all4 {vs : List V} {d e f g : PyData} (h : AtAll K H vs [d, e, f, g]) : ∃ v w u x, vs = [v, w, u, x] ∧ At K H v d ∧ At K H w e ∧ At K H u f ∧ At K H x g := by
  cases h with
  | cons h1 h2 =>
    obtain ⟨v, w, u, rfl, q1, q2, q3⟩ := all3 h2
    exact ⟨_, _, _, _, rfl, h1, q1, q2, q3⟩
theorem AtAll.of_map {α : Type} {f : α → PyData} {g : α → V} : ∀ {l : List α}, (∀ x ∈ l, At K H (g x) (f x)) → AtAll K H (l.map g) (l.map f)
  | [], _ => .nil
  | x :: l, h => .cons (h x List.mem_cons_self) (AtAll.of_map fun y hy => h y (List.mem_cons_of_mem _ hy))
theorem AtAll.at_map {α : Type} {f : α → PyData} {vs : List V} {l : List α} {i : Nat} {v : V} (h : AtAll K H vs (l.map f)) (e : vs[i]? = some v) : ∃ x, l[i]? = some x ∧ At K H v (f x) := by
  obtain ⟨d, hd, q⟩ := h.get e
  rw [List.getElem?_map] at hd
  cases hx : l[i]? with
  | none => rw [hx] at hd; simp at hd
  | some x =>
    rw [hx] at hd
    have ed : f x = d := Option.some.inj hd
    exact ⟨x, rfl, by rw [ed]; exact q⟩
end

/-! ### frames -/
/-- all but what stands at r stays -/
def But (r : Addr) (H H' : Hp) : Prop := ∀ b o, b ≠ r → H b = some o → H' b = some o
section
variable {K : PySem.W.Frag} {H H' H'' : Hp} {r p : Addr} {o : HO}
theorem But.refl (r : Addr) (H : Hp) : But r H H := fun _ _ _ h => h
theorem But.trans (a : But r H H') (b : But r H' H'') : But r H H'' := fun c o n h => b c o n (a c o n h)
theorem _root_.L2.Same.but (a : Same H H') (r : Addr) : But r H H' := fun c o _ h => a c o h
theorem But.put (a : But r H H') : But r H (L2.upd H' r o) := fun c u n h => by rw [upd_ne n]; exact a c u n h
theorem same_new (h : H p = none) : Same H (upd H p o) := fun b u e => by rw [upd_ne (ne_of_none e h)]; exact e
theorem _root_.L2.Same.new (a : Same H H') (h : H' p = none) : Same H (upd H' p o) := a.trans (same_new h)
theorem But.new (a : But r H H') (h : H' p = none) : But r H (upd H' p o) := a.trans (Same.but (same_new h) r)
theorem _root_.L2.Same.tk (a : Same H H') : TK K H H' := fun b xs h => by
  rcases h with (h | ⟨o, h⟩) | h
  · exact .inl (.inl (a _ _ h))
  · exact .inl (.inr ⟨o, a _ _ h⟩)
  · exact .inr h
theorem But.tk (a : But r H H') (m : Mut (H r)) : TK K H H' := fun b xs h => by
  rcases h with (h | ⟨o, h⟩) | h
  · exact .inl (.inl (a _ _ (fun z => by rw [← z, h] at m; exact m) h))
  · exact .inl (.inr ⟨o, a _ _ (fun z => by rw [← z, h] at m; exact m) h⟩)
  · exact .inr h
theorem TK.refl : TK K H H := fun _ _ h => h
theorem TK.trans (a : TK K H H') (b : TK K H' H'') : TK K H H'' := fun c o h => b c o (a c o h)
theorem tk_upd (m : Mut (H r)) : TK K H (upd H r o) := But.tk (r := r) (fun b u n e => by rw [upd_ne n]; exact e) m
theorem tk_new (h : H p = none) : TK K H (upd H p o) := Same.tk (same_new h)
theorem ext_tk (e : LamX.ExtN H H') : TK K H H' := fun _ _ h => extT e h
/-- behind Same, what was none was none -/
theorem _root_.L2.Same.none (a : Same H H') (h : H' p = Option.none) : H p = Option.none := Same.free a h
/-- a list that stays -/
theorem But.seqL {xs : List V} {a : Addr} (e : But r H H') (n : a ≠ r) (h : SqL K H a xs) : SqL K H' a xs := by
  rcases h with (h | ⟨o, h⟩) | h
  · exact .inl (.inl (e _ _ n h))
  · exact .inl (.inr ⟨o, e _ _ n h⟩)
  · exact .inr h
end

/-! ### the shapes -/
def dV : V → PyData
  | .int i => .int i
  | .str s => .str s
  | _ => .none
def dDeed : Deed → PyData
  | .get k => .tuple [.str "get", .str k]
  | .put k v => .tuple [.str "put", .str k, dV v]
  | .del k => .tuple [.str "del", .str k]
  | .add k n => .tuple [.str "add", .str k, .int n]
def dCheck (c : Str × V) : PyData := .tuple [.str c.1, dV c.2]
def dDeal (checks : List (Str × V)) (deeds : List Deed) : PyData := .tuple [.tuple (checks.map dCheck), .tuple (deeds.map dDeed)]
def dCh (c : Nat × Str × V) : PyData := .tuple [.int (c.1 : Int), .str c.2.1, dV c.2.2]
def dDe (d : Nat × Deed) : PyData := .tuple [.int (d.1 : Int), dDeed d.2]
def dPart (ch : Ch) (de : De) : PyData := .tuple [.tuple (ch.map dCh), .tuple (de.map dDe)]
def dPair (p : Nat × V) : PyData := .tuple [.int (p.1 : Int), dV p.2]
def dPairs (ps : List (Nat × V)) : PyData := .tuple (ps.map dPair)
def dWr (w : Str × V) : PyData := .tuple [.str w.1, dV w.2]
def dWrs (ws : List (Str × V)) : PyData := .tuple (ws.map dWr)
def dTried (t : Tried) : PyData := .tuple [.int (if t.held = true then 1 else 0), dPairs t.vals, dPairs t.ans, dWrs t.wr]
def word (b : Bool) : Str := if b = true then "done" else "unheld"
def dAns (b : Bool) (vs : List V) : PyData := .tuple [.str (word b), .tuple (vs.map dV)]
section
variable {K : PySem.W.Frag} {H : Hp}
theorem at_dV {v : V} (h : isOpt v = true) : At K H v (dV v) := by
  cases v <;> first | exact .non | exact .int _ | exact .str _ | cases h
theorem of_dV {v x : V} (h : isOpt v = true) (q : At K H x (dV v)) : x = v := by
  cases v <;> first | (cases q; rfl) | cases h
end

/-! ### == of such data -/
mutual
def pl : PyData → Bool
  | .none => true
  | .int _ => true
  | .str _ => true
  | .tuple ds => plAll ds
  | .list ds => plAll ds
  | _ => false
def plAll : List PyData → Bool
  | [] => true
  | d :: ds => pl d && plAll ds
end
mutual
theorem eqv_is : ∀ (d e : PyData), pl d = true → pl e = true → (PyData.eqv d e = true ↔ d = e)
  | .none, e, _, h => by cases e <;> simp_all [PyData.eqv, pl]
  | .int i, e, _, h => by cases e <;> simp_all [PyData.eqv, pl]
  | .str i, e, _, h => by cases e <;> simp_all [PyData.eqv, pl]
  | .bool i, e, h, _ => by simp [pl] at h
  | .dict i, e, h, _ => by simp [pl] at h
  | .tuple ds, e, h, h' => by
    cases e with
    | tuple es =>
      rw [pl] at h h'
      rw [PyData.eqv, eqvAll_is ds es h h']
      exact ⟨fun z => by rw [z], fun z => by injection z⟩
    | _ => simp [PyData.eqv]
  | .list ds, e, h, h' => by
    cases e with
    | list es =>
      rw [pl] at h h'
      rw [PyData.eqv, eqvAll_is ds es h h']
      exact ⟨fun z => by rw [z], fun z => by injection z⟩
    | _ => simp [PyData.eqv]
theorem eqvAll_is : ∀ (ds es : List PyData), plAll ds = true → plAll es = true → (PyData.eqvAll ds es = true ↔ ds = es)
  | [], [], _, _ => by simp [PyData.eqvAll]
  | [], _ :: _, _, _ => by simp [PyData.eqvAll]
  | _ :: _, [], _, _ => by simp [PyData.eqvAll]
  | d :: ds, e :: es, h, h' => by
    rw [plAll, Bool.and_eq_true] at h h'
    rw [PyData.eqvAll, Bool.and_eq_true, eqv_is d e h.1 h'.1, eqvAll_is ds es h.2 h'.2, List.cons.injEq]
end
theorem eqv_dec {d e : PyData} (h : pl d = true) (h' : pl e = true) : PyData.eqv d e = true ↔ d = e := eqv_is d e h h'
theorem plAll_map {α : Type} {f : α → PyData} : ∀ (l : List α), (∀ x, pl (f x) = true) → plAll (l.map f) = true
  | [], _ => rfl
  | x :: l, h => by rw [List.map_cons, plAll, h x, plAll_map l h]; rfl
theorem pl_dV (v : V) : pl (dV v) = true := by cases v <;> rfl
theorem pl_dPair (p : Nat × V) : pl (dPair p) = true := by
  show (pl (.int (p.1 : Int)) && (pl (dV p.2) && true)) = true
  rw [pl_dV]; rfl
theorem pl_dPairs (ps : List (Nat × V)) : pl (dPairs ps) = true := by
  show plAll (ps.map dPair) = true
  exact plAll_map ps pl_dPair
theorem pl_vs (vs : List V) : pl (.tuple (vs.map dV)) = true := by
  show plAll (vs.map dV) = true
  exact plAll_map vs pl_dV
theorem pl_dAns (b : Bool) (vs : List V) : pl (dAns b vs) = true := by
  show (pl (.str (word b)) && (pl (.tuple (vs.map dV)) && true)) = true
  rw [pl_vs]; rfl
/-! depth -/
theorem dep_map {α : Type} {f : α → PyData} {n : Nat} : ∀ (l : List α), (∀ x, (f x).depth ≤ n) → PyData.depthAll (l.map f) ≤ n
  | [], _ => Nat.zero_le _
  | x :: l, h => by
    rw [List.map_cons, PyData.depthAll]
    exact Nat.max_le.mpr ⟨h x, dep_map l h⟩
theorem dep_dV (v : V) : (dV v).depth ≤ 0 := by cases v <;> exact Nat.le_refl _
theorem dep_dPair (p : Nat × V) : (dPair p).depth ≤ 1 := by
  show PyData.depthAll [.int (p.1 : Int), dV p.2] + 1 ≤ 1
  have h := dep_dV p.2
  simp only [PyData.depthAll, PyData.depth]
  omega
theorem dep_dPairs (ps : List (Nat × V)) : (dPairs ps).depth ≤ 2 := Nat.succ_le_succ (dep_map ps dep_dPair)
theorem dep_vs (vs : List V) : (PyData.tuple (vs.map dV)).depth ≤ 1 := Nat.succ_le_succ (dep_map vs dep_dV)
theorem dep_dAns (b : Bool) (vs : List V) : (dAns b vs).depth ≤ 2 := by
  show PyData.depthAll [.str (word b), .tuple (vs.map dV)] + 1 ≤ 2
  have h := dep_vs vs
  simp only [PyData.depthAll, PyData.depth] at h ⊢
  omega
mutual
theorem plain_of_pl : ∀ d : PyData, pl d = true → d.plain = true
  | .none, _ => rfl
  | .int _, _ => rfl
  | .str _, _ => rfl
  | .tuple ds, h => plainAll_of_pl ds h
  | .list ds, h => plainAll_of_pl ds h
  | .bool _, h => by cases h
  | .dict _, h => by cases h
theorem plainAll_of_pl : ∀ ds : List PyData, plAll ds = true → PyData.plainAll ds = true
  | [], _ => rfl
  | d :: ds, h => by
    rw [plAll, Bool.and_eq_true] at h
    rw [PyData.plainAll, plain_of_pl d h.1, plainAll_of_pl ds h.2]; rfl
end
/-- ==, != of two such data, where the left one is not deep -/
def rEqP (K : PySem.W.Frag) : R2 := fun x y H Q => ∃ d e, Dp K H x d ∧ Dp K H y e ∧ pl d = true ∧ pl e = true ∧ d.depth ≤ 60 ∧ (d = e → Q (.bl true) H) ∧ (d ≠ e → Q (.bl false) H)
def rNeP (K : PySem.W.Frag) : R2 := fun x y H Q => ∃ d e, Dp K H x d ∧ Dp K H y e ∧ pl d = true ∧ pl e = true ∧ d.depth ≤ 60 ∧ (d = e → Q (.bl false) H) ∧ (d ≠ e → Q (.bl true) H)
section
variable {X : Cx}
theorem op_eqP (hu : X.A.units + 64 < cLine) : OpR X (compareOp .Eq) (rEqP X.K) := by
  intro pins s σ H x y v u Q I rx ry h
  obtain ⟨d, e, hd, he, sd, se, dep, q1, q2⟩ := h
  obtain ⟨as, r1⟩ := Dp.reads I d x v hd rx
  obtain ⟨bs, r2⟩ := Dp.reads I e y u he ry
  refine SeqAt.eq_plain r1 r2 (plain_of_pl d sd) (plain_of_pl e se) (by have := Nat.min_le_left d.depth e.depth; omega) ⟨.bl _, H, I, rfl, ?_⟩
  by_cases z : d = e
  · rw [(eqv_dec sd se).mpr z]; exact q1 z
  · rw [Bool.eq_false_iff.mpr fun c => z ((eqv_dec sd se).mp c)]; exact q2 z
theorem op_neP (hu : X.A.units + 64 < cLine) : OpR X (compareOp .NotEq) (rNeP X.K) := by
  intro pins s σ H x y v u Q I rx ry h
  obtain ⟨d, e, hd, he, sd, se, dep, q1, q2⟩ := h
  obtain ⟨as, r1⟩ := Dp.reads I d x v hd rx
  obtain ⟨bs, r2⟩ := Dp.reads I e y u he ry
  refine SeqAt.ne_plain r1 r2 (plain_of_pl d sd) (plain_of_pl e se) (by have := Nat.min_le_left d.depth e.depth; omega) ⟨.bl _, H, I, rfl, ?_⟩
  by_cases z : d = e
  · rw [(eqv_dec sd se).mpr z]; exact q1 z
  · rw [Bool.eq_false_iff.mpr fun c => z ((eqv_dec sd se).mp c)]; exact q2 z
end
end CK
/-! Law k05: is_integer, is_value, apply_add, apply_deed. -/
namespace CK
open PySem PySem.Spec PyProof.Rows L2
section
variable {P : Program} {w : World} {K : PySem.W.Frag} {mg : Str → Option Value} {base : Heap}

/-! ### isinstance of flat values -/
def tyOf : V → String
  | .int _ => "int"
  | .str _ => "str"
  | _ => "NoneType"
theorem ty_flat {H : Hp} {v : V} (h : isOpt v = true) : TyX K H v (.type (tyOf v)) := by
  cases v <;> first | exact .base .non | exact .base (.int _) | exact .base (.str _) | cases h
theorem isi_int {v : V} (h : isOpt v = true) : PySem.W.kitOne K (.type (tyOf v)) (.type "int") = some (decide (tyOf v = "int")) := by
  cases v with
  | non => exact (kit_ty (a := "NoneType") (b := "int") (r := false) (by decide +kernel)).trans (congrArg some (decide_eq_false (show ¬ ("NoneType" : String) = "int" by decide)).symm)
  | int i => exact (kit_ty (a := "int") (b := "int") (r := true) (by decide +kernel)).trans (congrArg some (decide_eq_true rfl).symm)
  | str i => exact (kit_ty (a := "str") (b := "int") (r := false) (by decide +kernel)).trans (congrArg some (decide_eq_false (show ¬ ("str" : String) = "int" by decide)).symm)
  | _ => cases h
theorem isi_bool {v : V} (h : isOpt v = true) : PySem.W.kitOne K (.type (tyOf v)) (.type "bool") = some false := by
  cases v with
  | non => exact kit_ty (a := "NoneType") (b := "bool") (by decide +kernel)
  | int i => exact kit_ty (a := "int") (b := "bool") (by decide +kernel)
  | str i => exact kit_ty (a := "str") (b := "bool") (by decide +kernel)
  | _ => cases h
theorem isi_str {v : V} (h : isOpt v = true) : PySem.W.kitOne K (.type (tyOf v)) (.type "str") = some (decide (tyOf v = "str")) := by
  cases v with
  | non => exact (kit_ty (a := "NoneType") (b := "str") (r := false) (by decide +kernel)).trans (congrArg some (decide_eq_false (show ¬ ("NoneType" : String) = "str" by decide)).symm)
  | int i => exact (kit_ty (a := "int") (b := "str") (r := false) (by decide +kernel)).trans (congrArg some (decide_eq_false (show ¬ ("int" : String) = "str" by decide)).symm)
  | str i => exact (kit_ty (a := "str") (b := "str") (r := true) (by decide +kernel)).trans (congrArg some (decide_eq_true rfl).symm)
  | _ => cases h
def isInt : V → Bool
  | .int _ => true
  | _ => false
theorem isInt_ty {v : V} (h : isOpt v = true) : decide (tyOf v = "int") = isInt v := by cases v <;> first | rfl | decide | cases h
def isStr : V → Bool
  | .str _ => true
  | _ => false
theorem isStr_ty {v : V} (h : isOpt v = true) : decide (tyOf v = "str") = isStr v := by cases v <;> first | rfl | decide | cases h

def spIsInteger : Sp := fun vs H Q _ => ∃ v, vs = [v] ∧ isOpt v = true ∧ Q (.bl (isInt v)) H
theorem ok_isInteger {f : Addr} {fd : FuncData} {k : Nat} (F : Fun K "is_integer" "is_integer" s_isInteger f fd) (m1 : mg "isinstance" = none) (m2 : mg "int" = none) (m3 : mg "bool" = none) :
    FnOk P w K mg base CX0 (k + 1) f fd ["data"] spIsInteger := by
  refine F.ok sc_isInteger (fun vs H Q E h => ?_) (fun cdv A outer s H vs Q E hr h => ?_)
  · obtain ⟨v, rfl, _⟩ := h
    rfl
  · obtain ⟨v, rfl, hv, q⟩ := h
    refine ⟨_, pss_one (ps_ret (pe_and (pe_callB call_isi (by rfl) m1 (by decide +kernel) (pa_cons (pv 0) (pa_cons (pe_bltn (v := .ty "int") (by rfl) m2 (by decide +kernel) rfl) pa_nil)))
      (pe_one (pe_not (pe_callB call_isi (by rfl) m1 (by decide +kernel) (pa_cons (pv 0) (pa_cons (pe_bltn (v := .ty "bool") (by rfl) m3 (by decide +kernel) rfl) pa_nil))))))), ?_⟩
    refine ⟨v, rfl, v, .ty "int", _, _, _, rfl, .ty _, ty_flat hv, isi_int hv, _, rfl, ite2 (fun e => ?_) (fun e => ?_)⟩
    · refine ⟨v, rfl, v, .ty "bool", _, _, _, rfl, .ty _, ty_flat hv, isi_bool hv, _, rfl, ?_⟩
      rw [isInt_ty hv] at e
      rw [e] at q
      exact q
    · have e' : isInt v = false := by
        rw [isInt_ty hv] at e
        exact Bool.eq_false_iff.mpr e
      rw [e'] at q
      exact q

/-! ### is_value -/
def inBig (i : Int) : Bool := decide (-big ≤ i) && decide (i ≤ big)
/-- only ints are asked here -/
def spIsValue : Sp := fun vs H Q _ => ∃ i, vs = [.int i] ∧ Q (.bl (inBig i)) H
theorem ok_isValue {f fI : Addr} {fd fdI : FuncData} {k : Nat} (F : Fun K "is_value" "is_value" s_isValue f fd) (GI : FnOk P w K mg base CX0 (k + 1) fI fdI ["data"] spIsInteger) (kI : PySem.W.keepIn K (.ref fI) = true) (bI : Binds K fdI ["data"] [])
    (gI : mg "is_integer" = some (.ref fI)) {tM : Tok} (gM : mg "MOST_VALUE" = some (.int big tM)) :
    FnOk P w K mg base CX0 (k + 2) f fd ["data"] spIsValue := by
  refine F.ok sc_isValue (fun vs H Q E h => ?_) (fun cdv A outer s H vs Q E hr h => ?_)
  · obtain ⟨v, rfl, _⟩ := h
    rfl
  · obtain ⟨i, rfl, q⟩ := h
    refine ⟨_, pss_cons (ps_if (pt_val (pe_call GI hr (by rfl) gI kI bI .nil pass0 (pa_cons (pv 0) pa_nil)))
      (pss_one (ps_ret (pe_chain op_le op_le (pe_un un_neg (pe_glob (v := .int big) (by rfl) gM ⟨_, rfl⟩)) (pv 0) (pe_glob (v := .int big) (by rfl) gM ⟨_, rfl⟩)))) pss_nil) pss_never, ?_⟩
    refine ⟨.int i, rfl, .int i, rfl, rfl, true, rfl, iteT ?_⟩
    refine ⟨big, rfl, .int i, rfl, -big, i, rfl, rfl, _, rfl, ite2 (fun e => ?_) (fun e => ?_)⟩
    · refine ⟨i, big, rfl, rfl, ?_⟩
      unfold inBig at q
      rw [e, Bool.true_and] at q
      exact q
    · unfold inBig at q
      rw [Bool.eq_false_iff.mpr e, Bool.false_and] at q
      exact q

/-! ### apply_add, apply_deed -/
def spApplyAdd : Sp := fun vs H Q _ => ∃ (r : Addr) (kvs : Rows) (k : Str) (n : Int), vs = [.ref r, .str k, .int n] ∧ H r = some (.dK kvs) ∧ Good kvs ∧ kvs.length < 100000 ∧ (-1000000000 ≤ n ∧ n ≤ 1000000000) ∧
  Q (addTo kvs k n).1 (upd H r (.dK (addTo kvs k n).2))
theorem upd_self {H : Hp} {a : Addr} {o : HO} (h : H a = some o) : upd H a o = H := by
  funext b
  by_cases e : b = a
  · rw [e, upd_same, h]
  · rw [upd_ne e]
theorem ok_applyAdd {f fI fV : Addr} {fd fdI fdV : FuncData} {k : Nat} (F : Fun K "apply_add" "apply_add" s_applyAdd f fd) (GI : FnOk P w K mg base CX0 (k + 1) fI fdI ["data"] spIsInteger) (kI : PySem.W.keepIn K (.ref fI) = true) (bI : Binds K fdI ["data"] [])
    (gI : mg "is_integer" = some (.ref fI)) (GV : FnOk P w K mg base CX0 (k + 2) fV fdV ["data"] spIsValue) (kV' : PySem.W.keepIn K (.ref fV) = true) (bV : Binds K fdV ["data"] []) (gV : mg "is_value" = some (.ref fV)) :
    FnOk P w K mg base CX0 (k + 3) f fd ["rows", "key", "number"] spApplyAdd := by
  refine F.ok sc_applyAdd (fun vs H Q E h => ?_) (fun cdv A outer s H vs Q E hr h => ?_)
  · obtain ⟨r, kvs, k, n, rfl, _⟩ := h
    rfl
  · obtain ⟨r, kvs, k, n, rfl, hH, g, hlen, hn, q⟩ := h
    have hl : kvs.length < sizeLine := by rw [sizeLine_eq]; omega
    refine ⟨_, pss_cons (ps_set (i := 3) sc_applyAdd.nd rfl (.inl rfl) (pe_dget2 (hu_of hr) (pv 0) (pv 1) pe_int ⟨rfl, rfl, rfl, rfl⟩))
      (pss_cons (ps_if (PW.pt (pw_or (pt_not (pt_val (pe_call GI (hr.mono (by omega)) (by rfl) gI kI bI .nil pass0 (pa_cons (pv 3) pa_nil))))
          (pw_or1 (pt_not (pt_val (pe_call GV hr (by rfl) gV kV' bV .nil pass0 (pa_cons (pe_op op_add (pv 3) (pv 2)) pa_nil)))))))
        (pss_one (ps_ret pe_non)) pss_nil)
      (pss_cons (ps_dput (hu_of hr) (pv 0) (pv 1) (pe_op op_add (pv 3) (pv 2)) rfl)
      (pss_one (ps_ret (pe_dget (hu_of hr) (pv 0) (pv 1) (fun _ _ => rfl)))))), ?_⟩
    -- before = rows.get(key, 0)
    refine ⟨.ref r, rfl, r, rfl, .inl ⟨kvs, .inl hH⟩, .str k, rfl, val kvs k, DGet.k (k := Sum.inr k) hH, ?_⟩
    -- what is stored and given out, from the int that stood there
    have store : ∀ i : Int, (val kvs k).getD (.int 0) = .int i → addTo kvs k n = (if -big ≤ i + n ∧ i + n ≤ big then (.int (i + n), put kvs k (.int (i + n))) else (.non, kvs)) := by
      intro i e
      unfold addTo
      cases hv : val kvs k with
      | none =>
        rw [hv] at e
        have e0 : (0 : Int) = i := V.int.inj e
        rw [← e0, Int.zero_add, if_pos]
        unfold big
        omega
      | some v =>
        rw [hv] at e
        have e' : v = .int i := e
        rw [e']
    cases hb : (val kvs k).getD (.int 0) with
    | int i =>
      refine ⟨_, hb ▸ rfl, .int i, rfl, rfl, true, rfl, iteF ?_⟩
      refine ⟨_, rfl, .int n, rfl, i, n, rfl, rfl, i + n, rfl, inBig (i + n), rfl, ?_⟩
      have st := store i hb
      cases hi : inBig (i + n) with
      | true =>
        refine iteF ?_
        unfold inBig at hi
        rw [Bool.and_eq_true, decide_eq_true_eq, decide_eq_true_eq] at hi
        rw [if_pos hi] at st
        rw [st] at q
        refine ⟨.int i, rfl, .int n, rfl, i, n, rfl, rfl, .ref r, rfl, .str k, rfl, r, _, rfl, DPut.k (k := Sum.inr k) hH hl, ?_⟩
        refine ⟨.ref r, rfl, .str k, rfl, r, .int (i + n), rfl, ?_, q⟩
        have dg := DGet.k (H := upd H r (.dK (putK kvs (Sum.inr k) (.int (i + n))))) (a := r) (kvs := putK kvs (Sum.inr k) (.int (i + n))) (k := Sum.inr k) upd_same
        rw [valV_put, if_pos rfl] at dg
        exact dg
      | false =>
        refine iteT ?_
        unfold inBig at hi
        rw [if_neg (fun z => by rw [decide_eq_true z.1, decide_eq_true z.2] at hi; cases hi)] at st
        rw [st, upd_self hH] at q
        exact q
    | str x =>
      refine ⟨_, hb ▸ rfl, .str x, rfl, rfl, false, rfl, iteT ?_⟩
      have st : addTo kvs k n = (.non, kvs) := by
        unfold addTo
        cases hv : val kvs k with
        | none => rw [hv] at hb; cases hb
        | some v =>
          rw [hv] at hb
          have e' : v = .str x := hb
          rw [e']
      rw [st, upd_self hH] at q
      exact q
    | _ =>
      exfalso
      cases hv : val kvs k with
      | none => rw [hv] at hb; cases hb
      | some v =>
        rw [hv] at hb
        have e' := g.val hv
        have hb' : v = _ := hb
        rw [hb'] at e'
        cases e'

def spApplyDeed (K : PySem.W.Frag) : Sp := fun vs H Q _ => ∃ (r : Addr) (kvs : Rows) (x : V) (d : Deed), vs = [.ref r, x] ∧ H r = some (.dK kvs) ∧ Good kvs ∧ kvs.length < 100000 ∧ At K H x (dDeed d) ∧ d.Ok ∧
  Q (doDeed kvs d).1 (upd H r (.dK (doDeed kvs d).2))
theorem str_ne {a b : Str} (h : a ≠ b) : decide (V.str a = V.str b) = false := decide_eq_false fun z => h (V.str.inj z)
theorem ok_applyDeed {f fA : Addr} {fd fdA : FuncData} {k : Nat} (F : Fun K "apply_deed" "apply_deed" s_applyDeed f fd) (GA : FnOk P w K mg base CX0 (k + 3) fA fdA ["rows", "key", "number"] spApplyAdd) (kA : PySem.W.keepIn K (.ref fA) = true)
    (bA : Binds K fdA ["rows", "key", "number"] []) (gA : mg "apply_add" = some (.ref fA)) :
    FnOk P w K mg base CX0 (k + 4) f fd ["rows", "deed"] (spApplyDeed K) := by
  refine F.ok sc_applyDeed (fun vs H Q E h => ?_) (fun cdv A outer s H vs Q E hr h => ?_)
  · obtain ⟨r, kvs, x, d, rfl, _⟩ := h
    rfl
  · obtain ⟨r, kvs, x, d, rfl, hH, g, hlen, hd, ok, q⟩ := h
    have hl : kvs.length < sizeLine := by rw [sizeLine_eq]; omega
    refine ⟨_, pss_cons (ps_set (i := 2) sc_applyDeed.nd rfl (.inl rfl) (pe_ix ix_tup (pv 1) pe_int (fun _ _ => rfl)))
      (pss_cons (ps_set (i := 3) sc_applyDeed.nd rfl (.inl rfl) (pe_dget1 (hu_of hr) (pv 0) (pv 2) ⟨rfl, rfl, rfl, rfl⟩))
      (pss_cons (ps_if (pt_cmpR op_eq (pe_ix ix_tup (pv 1) pe_int (fun _ _ => rfl)) pe_str (nomark _))
        (pss_one (ps_ret (pe_call GA hr (by rfl) gA kA bA .nil pass0 (pa_cons (pv 0) (pa_cons (pv 2) (pa_cons (pe_ix ix_tup (pv 1) pe_int (fun _ _ => rfl)) pa_nil)))))) pss_nil)
      (pss_cons (ps_if (pt_cmpR op_eq (pe_ix ix_tup (pv 1) pe_int (fun _ _ => rfl)) pe_str (nomark _))
        (pss_one (ps_dput (hu_of hr) (pv 0) (pv 2) (pe_ix ix_tup (pv 1) pe_int (fun _ _ => rfl)) rfl))
        (pss_one (ps_if (PW.pt (pw_and (pt_cmpR op_eq (pe_ix ix_tup (pv 1) pe_int (fun _ _ => rfl)) pe_str (nomark _)) (pw_and1 (pt_cmp (pc_din (hu_of hr) (pv 2) (pv 0))))))
          (pss_one (ps_ddel (pv 0) (pv 2))) pss_nil)))
      (pss_one (ps_ret (pv 3)))))), ?_⟩
    obtain ⟨a, xs, ex, hT, hA⟩ : ∃ a xs, x = .ref a ∧ SqT K H a xs ∧ ∃ ds, dDeed d = .tuple ds ∧ AtAll K H xs ds := by
      cases d <;> (obtain ⟨a, xs, e1, e2, e3⟩ := at_tup hd; exact ⟨a, xs, e1, e2, _, rfl, e3⟩)
    subst ex
    -- what stands in the tuple
    obtain ⟨word, more, exs⟩ : ∃ word more, xs = .str word :: .str d.key :: more ∧ ((∃ k, d = .get k ∧ word = "get") ∨ (∃ k v, d = .put k v ∧ word = "put" ∧ more = [v]) ∨ (∃ k, d = .del k ∧ word = "del") ∨ ∃ k n, d = .add k n ∧ word = "add" ∧ more = [.int n]) := by
      obtain ⟨ds, e, hA⟩ := hA
      cases d with
      | get k =>
        cases e
        obtain ⟨v, u, e1, q1, q2⟩ := all2 hA
        exact ⟨"get", [], by rw [e1, at_str q1, at_str q2]; rfl, .inl ⟨k, rfl, rfl⟩⟩
      | put k z =>
        cases e
        obtain ⟨v, u, y, e1, q1, q2, q3⟩ := all3 hA
        exact ⟨"put", [z], by rw [e1, at_str q1, at_str q2, of_dV (opt_of ok) q3]; rfl, .inr (.inl ⟨k, z, rfl, rfl, rfl⟩)⟩
      | del k =>
        cases e
        obtain ⟨v, u, e1, q1, q2⟩ := all2 hA
        exact ⟨"del", [], by rw [e1, at_str q1, at_str q2]; rfl, .inr (.inr (.inl ⟨k, rfl, rfl⟩))⟩
      | add k n =>
        cases e
        obtain ⟨v, u, y, e1, q1, q2, q3⟩ := all3 hA
        exact ⟨"add", [.int n], by rw [e1, at_str q1, at_str q2, at_int q3]; rfl, .inr (.inr (.inr ⟨k, n, rfl, rfl, rfl⟩))⟩
    obtain ⟨exs, kind⟩ := exs
    have g0 : atI xs 0 = some (.str word) := atI_nat (j := 0) (by rw [exs]; rfl)
    have g1 : atI xs 1 = some (.str d.key) := atI_nat (j := 1) (by rw [exs]; rfl)
    -- key = deed[1]; before = rows.get(key)
    refine ⟨.ref a, rfl, a, xs, 1, .str d.key, rfl, rfl, hT, g1, ?_⟩
    refine ⟨.ref r, rfl, r, rfl, .inl ⟨kvs, .inl hH⟩, .str d.key, rfl, val kvs d.key, DGet.k (k := Sum.inr d.key) hH, ?_⟩
    refine ⟨.ref a, rfl, a, xs, 0, .str word, rfl, rfl, hT, g0, rfl, _, rfl, ?_⟩
    rcases kind with ⟨k, rfl, rfl⟩ | ⟨k, v, rfl, rfl, rfl⟩ | ⟨k, rfl, rfl⟩ | ⟨k, n, rfl, rfl, rfl⟩
    · rw [str_ne (by decide)]
      refine iteF ⟨.ref a, rfl, a, xs, 0, _, rfl, rfl, hT, g0, rfl, _, rfl, ?_⟩
      rw [str_ne (by decide)]
      refine iteF ⟨.ref a, rfl, a, xs, 0, _, rfl, rfl, hT, g0, rfl, _, rfl, ?_⟩
      rw [str_ne (by decide)]
      refine iteF (iteF ?_)
      refine ⟨_, rfl, ?_⟩
      have q' : Q (look kvs k) (upd H r (.dK kvs)) := q
      rw [upd_self hH] at q'
      exact q'
    · rw [str_ne (by decide)]
      refine iteF ⟨.ref a, rfl, a, xs, 0, _, rfl, rfl, hT, g0, rfl, _, rfl, ?_⟩
      rw [decide_eq_true rfl]
      refine iteT ⟨.ref a, rfl, a, xs, 2, v, rfl, rfl, hT, atI_nat (j := 2) (by rw [exs]; rfl), .ref r, rfl, .str k, rfl, r, _, rfl, DPut.k (k := Sum.inr k) hH hl, ?_⟩
      exact ⟨_, rfl, q⟩
    · rw [str_ne (by decide)]
      refine iteF ⟨.ref a, rfl, a, xs, 0, _, rfl, rfl, hT, g0, rfl, _, rfl, ?_⟩
      rw [str_ne (by decide)]
      refine iteF ⟨.ref a, rfl, a, xs, 0, _, rfl, rfl, hT, g0, rfl, _, rfl, ?_⟩
      rw [decide_eq_true rfl]
      refine iteT ⟨.str k, rfl, .ref r, rfl, r, val kvs k, rfl, DGet.k (k := Sum.inr k) hH, _, rfl, ?_⟩
      have q' : Q (look kvs k) (upd H r (.dK (drop kvs k))) := q
      cases hv : val kvs k with
      | none =>
        refine iteF ⟨_, rfl, ?_⟩
        rw [drop_absent hv, upd_self hH] at q'
        exact q'
      | some v =>
        refine iteT ⟨.ref r, rfl, .str k, rfl, r, kvs, Sum.inr k, rfl, hH, rfl, ?_, ?_⟩
        · have hv' : valV kvs (Sum.inr k) = some v := hv
          rw [hv']; rfl
        · exact ⟨_, rfl, q'⟩
    · rw [decide_eq_true rfl]
      refine iteT ⟨.ref r, rfl, .str k, rfl, .ref a, rfl, a, xs, 2, .int n, rfl, rfl, hT, atI_nat (j := 2) (by rw [exs]; rfl), ?_⟩
      exact ⟨r, kvs, k, n, rfl, hH, g, hlen, ok, q⟩
end
end CK
/-! List comprehensions whose elements are data (At): the source and all that was tracked stay. -/
namespace CK
open PySem PySem.Spec PyProof.Rows L2
section
variable {K : PySem.W.Frag} {H1 : Hp} {D : Addr} {σ : L2.St} {vs : List Nat} {g : TG} {tt : TT} {te : TE} {Qd : Hp → Prop} {α : Type} {l : List α} {e : α → PyData} {p : α → Bool}
/-- what one turn owes: from H', behind the iterator's step -/
def TurnOwes (K : PySem.W.Frag) (vs : List Nat) (σ : L2.St) (g : TG) (tt : TT) (te : TE) (e : α → PyData) (p : α → Bool) (z : α) (x : V) (H' : Hp) : Prop :=
  ∀ (Q : VK) (N : Hp → Prop), (p z = true → ∀ y H4, Same H' H4 → At K H4 y (e z) → Q y H4) → (p z = false → ∀ H4, Same H' H4 → N H4) →
    g x (wipe σ vs) H' fun σ2 H2 => wipe σ2 vs = wipe σ vs ∧ tt σ2 H2 fun b H3 => if b = true then te σ2 H3 Q else N H3
theorem lcG {J : It} (nD : H1 D = none) (small : l.length < 1000000) (hgo : ∀ i H, Same H1 H → i < l.length → J.go i H) (hstop : ∀ H, Same H1 H → J.stop l.length H)
    (turn : ∀ i z H x H', l[i]? = some z → Same H1 H → J.yld i H x H' → Same H H' ∧ TurnOwes K vs σ g tt te e p z x H')
    (fin : ∀ Hf acc, Same H1 Hf → Hf D = some (.lst acc) → AtAll K Hf acc ((l.filter p).map e) → Qd Hf) :
    ∃ W : Nat → Nat → Hp → Prop, (∃ m, W 0 m (upd H1 D (.lst []))) ∧ ∀ i m H, W i m H →
      (J.stop i H ∧ Qd H) ∨ (J.go i H ∧ ∃ Nx : Hp → Prop, (∀ H', Nx H' → ∃ m', m' < m ∧ W (i + 1) m' H') ∧ ∀ x H', J.yld i H x H' → g x (wipe σ vs) H' fun σ2 H2 => wipe σ2 vs = wipe σ vs ∧ tt σ2 H2 fun b H3 =>
        if b = true then te σ2 H3 fun y H4 => ∃ acc, H4 D = some (.lst acc) ∧ acc.length < sizeLine ∧ Nx (upd H4 D (.lst (acc ++ [y]))) else Nx H3) := by
  let Pv : Nat → Hp → Prop := fun i H => Same H1 H ∧ ∃ acc, H D = some (.lst acc) ∧ AtAll K H acc (((l.take i).filter p).map e)
  refine ⟨fun i m H => m = l.length - i ∧ i ≤ l.length ∧ Pv i H, ⟨l.length, by simp, Nat.zero_le _, same_new nD, [], upd_same, .nil⟩, ?_⟩
  rintro i m H ⟨rfl, hi, sm, acc, hD, hA⟩
  by_cases hlt : i < l.length
  · refine .inr ⟨hgo i H sm hlt, Pv (i + 1), fun H' q => ⟨l.length - (i + 1), by omega, rfl, hlt, q⟩, fun x H' y => ?_⟩
    have ez : l[i]? = some l[i] := List.getElem?_eq_getElem hlt
    obtain ⟨sm', owes⟩ := turn i l[i] H x H' ez sm y
    have etake : l.take (i + 1) = l.take i ++ [l[i]] := by rw [List.take_add_one, ez]; rfl
    refine owes _ _ (fun hp y' H4 sm4 hy => ?_) (fun hp H4 sm4 => ?_)
    · have hD4 : H4 D = some (.lst acc) := sm4 _ _ (sm' _ _ hD)
      have hz : acc.length < sizeLine := by
        rw [hA.length, List.length_map, sizeLine_eq]
        have q := List.length_filter_le p (l.take i)
        rw [List.length_take] at q
        omega
      have tk : TK K H4 (upd H4 D (.lst (acc ++ [y']))) := tk_upd (by rw [hD4]; trivial)
      refine ⟨acc, hD4, hz, fun b o h => ?_, acc ++ [y'], upd_same, ?_⟩
      · rw [upd_ne (ne_of_none h nD)]
        exact sm4 _ _ (sm' _ _ (sm _ _ h))
      · rw [etake, List.filter_append, List.map_append, List.filter_cons, if_pos hp]
        exact ((hA.keep ((sm'.trans sm4).tk.trans tk)).snoc (hy.keep tk))
    · refine ⟨sm.trans (sm'.trans sm4), acc, sm4 _ _ (sm' _ _ hD), ?_⟩
      rw [etake, List.filter_append, List.filter_cons, if_neg (by rw [hp]; exact Bool.false_ne_true)]
      rw [show ([] : List α).filter p = [] from rfl, List.append_nil]
      exact hA.keep (sm'.trans sm4).tk
  · have ei : i = l.length := by omega
    subst ei
    rw [List.take_length] at hA
    exact .inl ⟨hstop H sm, fin H acc sm hD hA⟩
/-- over a tuple of data -/
theorem lcT {a : Addr} {xs : List V} {f : α → PyData} (hT : SqT K H1 a xs) (hA : AtAll K H1 xs (l.map f)) (nD : H1 D = none) (small : l.length < 1000000)
    (turn : ∀ z x H, z ∈ l → Same H1 H → At K H x (f z) → TurnOwes K vs σ g tt te e p z x H)
    (fin : ∀ Hf acc, Same H1 Hf → Hf D = some (.lst acc) → AtAll K Hf acc ((l.filter p).map e) → Qd Hf) :
    ∃ W : Nat → Nat → Hp → Prop, (∃ m, W 0 m (upd H1 D (.lst []))) ∧ ∀ i m H, W i m H →
      ((Itt K a).stop i H ∧ Qd H) ∨ ((Itt K a).go i H ∧ ∃ Nx : Hp → Prop, (∀ H', Nx H' → ∃ m', m' < m ∧ W (i + 1) m' H') ∧ ∀ x H', (Itt K a).yld i H x H' → g x (wipe σ vs) H' fun σ2 H2 => wipe σ2 vs = wipe σ vs ∧ tt σ2 H2 fun b H3 =>
        if b = true then te σ2 H3 fun y H4 => ∃ acc, H4 D = some (.lst acc) ∧ acc.length < sizeLine ∧ Nx (upd H4 D (.lst (acc ++ [y]))) else Nx H3) := by
  have len : xs.length = l.length := by rw [hA.length, List.length_map]
  refine lcG (K := K) (e := e) (p := p) nD small (fun i H sm hi => ?_) (fun H sm => ⟨xs, sm.tk _ _ hT, Nat.le_of_eq len⟩) (fun i z H x H' hz sm y => ?_) fin
  · have hx : i < xs.length := by omega
    exact ⟨xs, xs[i], sm.tk _ _ hT, List.getElem?_eq_getElem hx⟩
  · obtain ⟨rfl, q⟩ := y
    obtain ⟨z', hz', qz⟩ := hA.at_map (q xs (sm.tk _ _ hT))
    rw [hz] at hz'
    rw [← Option.some.inj hz'] at qz
    exact ⟨Same.refl _, turn z x H' (List.mem_of_getElem? hz) sm (qz.keep sm.tk)⟩
/-- over a list of data -/
theorem lcL {a : Addr} {xs : List V} {f : α → PyData} (hT : SqL K H1 a xs) (hA : AtAll K H1 xs (l.map f)) (nD : H1 D = none) (small : l.length < 1000000)
    (turn : ∀ z x H, z ∈ l → Same H1 H → At K H x (f z) → TurnOwes K vs σ g tt te e p z x H)
    (fin : ∀ Hf acc, Same H1 Hf → Hf D = some (.lst acc) → AtAll K Hf acc ((l.filter p).map e) → Qd Hf) :
    ∃ W : Nat → Nat → Hp → Prop, (∃ m, W 0 m (upd H1 D (.lst []))) ∧ ∀ i m H, W i m H →
      ((Itl K a).stop i H ∧ Qd H) ∨ ((Itl K a).go i H ∧ ∃ Nx : Hp → Prop, (∀ H', Nx H' → ∃ m', m' < m ∧ W (i + 1) m' H') ∧ ∀ x H', (Itl K a).yld i H x H' → g x (wipe σ vs) H' fun σ2 H2 => wipe σ2 vs = wipe σ vs ∧ tt σ2 H2 fun b H3 =>
        if b = true then te σ2 H3 fun y H4 => ∃ acc, H4 D = some (.lst acc) ∧ acc.length < sizeLine ∧ Nx (upd H4 D (.lst (acc ++ [y]))) else Nx H3) := by
  have len : xs.length = l.length := by rw [hA.length, List.length_map]
  refine lcG (K := K) (e := e) (p := p) nD small (fun i H sm hi => ?_) (fun H sm => ⟨xs, sm.seq hT, Nat.le_of_eq len⟩) (fun i z H x H' hz sm y => ?_) fin
  · have hx : i < xs.length := by omega
    exact ⟨xs, xs[i], sm.seq hT, List.getElem?_eq_getElem hx⟩
  · obtain ⟨rfl, q⟩ := y
    obtain ⟨z', hz', qz⟩ := hA.at_map (q xs (sm.seq hT))
    rw [hz] at hz'
    rw [← Option.some.inj hz'] at qz
    exact ⟨Same.refl _, turn z x H' (List.mem_of_getElem? hz) sm (qz.keep sm.tk)⟩
/-- over enumerate of a tuple of data: the pair that comes is new -/
theorem lcE {a : Addr} {xs : List V} {f : α → PyData} {e : Nat × α → PyData} {p : Nat × α → Bool} (hT : SqT K H1 a xs) (hA : AtAll K H1 xs (l.map f)) (nD : H1 D = none) (small : l.length < 1000000)
    (turn : ∀ i z T x H, z ∈ l → Same H1 H → At K H x (f z) → H T = some (.tup [.int (i : Nat), x]) → TurnOwes K vs σ g tt te e p (i, z) (.ref T) H)
    (fin : ∀ Hf acc, Same H1 Hf → Hf D = some (.lst acc) → AtAll K Hf acc (((en 0 l).filter p).map e) → Qd Hf) :
    ∃ W : Nat → Nat → Hp → Prop, (∃ m, W 0 m (upd H1 D (.lst []))) ∧ ∀ i m H, W i m H →
      ((IteT K a).stop i H ∧ Qd H) ∨ ((IteT K a).go i H ∧ ∃ Nx : Hp → Prop, (∀ H', Nx H' → ∃ m', m' < m ∧ W (i + 1) m' H') ∧ ∀ x H', (IteT K a).yld i H x H' → g x (wipe σ vs) H' fun σ2 H2 => wipe σ2 vs = wipe σ vs ∧ tt σ2 H2 fun b H3 =>
        if b = true then te σ2 H3 fun y H4 => ∃ acc, H4 D = some (.lst acc) ∧ acc.length < sizeLine ∧ Nx (upd H4 D (.lst (acc ++ [y]))) else Nx H3) := by
  have len : xs.length = l.length := by rw [hA.length, List.length_map]
  have el : (en 0 l).length = l.length := en_length l 0
  refine lcG (K := K) (l := en 0 l) (e := e) (p := p) nD (by rw [el]; exact small) (fun i H sm hi => ?_) (fun H sm => ⟨xs, sm.tk _ _ hT, by rw [el]; exact len⟩) (fun i z H x H' hz sm y => ?_) fin
  · rw [el] at hi
    have hx : i < xs.length := by omega
    exact ⟨xs, xs[i], sm.tk _ _ hT, List.getElem?_eq_getElem hx⟩
  · obtain ⟨T, x', rfl, nT, rfl, q⟩ := y
    obtain ⟨z', hz', qz⟩ := hA.at_map (q xs (sm.tk _ _ hT))
    rw [en_get, hz'] at hz
    have ez : (0 + i, z') = z := Option.some.inj hz
    rw [Nat.zero_add] at ez
    subst ez
    have smT : Same H (upd H T (.tup [.int (i : Nat), x'])) := same_new nT
    exact ⟨smT, turn i z' T x' _ (List.mem_of_getElem? hz') (sm.trans smT) (qz.keep (sm.trans smT).tk) upd_same⟩
end
/-- iter(enumerate(t)), t a tuple -/
def iEnumT (K : PySem.W.Frag) (ta : TA) : TI := fun σ H R => ta σ H fun vs H1 => ∃ a xs, vs = [.ref a] ∧ SqT K H1 a xs ∧ R (IteT K a) H1
theorem pi_enumT {X : Cx} {e : Expr} {ta : TA} {p pos tpos : Pos} {elts : List Expr} {kk : Nat} (hg : Gl X "enumerate") (hm : X.mg "enumerate" = none) (ha : PA X [e] ta) (hs : starEach [e] X.env = [(false, eval e X.env)] := by rfl) :
    PI X (.Tuple elts kk tpos) (.Call (.Name "enumerate" p) [e] [] pos) (iEnumT X.K ta) := by
  refine ⟨fun pins s σ H R I h => ?_⟩
  refine Call_ (ld_blt I hg hm boot_enumerate (PyProof.Rows.callWith_type1 (thn (ha.run pos pins s σ H _ I h) fun us s1 ⟨vs, H1, I1, r1, q1⟩ => ?_) hs rfl))
  obtain ⟨a, xs, ex, hq, q⟩ := q1
  subst ex
  obtain rfl := Vals.ref1 r1
  obtain ⟨its, rv, pt, hz⟩ := I1.tuple hq
  refine call_enum_tup pt fun h' he hit hk => wpAny_pyIter_enum he ?_
  have I2 : Inv X pins σ H1 { s1 with heap := h' } := I1.kept (t' := s1.toks) hk
  refine ⟨s1.heap.objs.size + 1, [s1.heap.objs.size + 1, s1.heap.objs.size], _, _, H1, rfl, I2, turn_enumT a (s1.heap.objs.size + 1) s1.heap.objs.size, ⟨⟨.none, he⟩, hit, Nat.succ_ne_self _⟩, fun b hb => ?_, q⟩
  have hle : s1.heap.objs.size ≤ b := by
    rcases List.mem_cons.mp hb with z | z
    · rw [z]; exact Nat.le_add_right _ _
    · rw [List.mem_singleton.mp z]; exact Nat.le_refl _
  exact I1.fpOk hle (I1.hok.fresh hle)
end CK
/-! Law k05: part_of, keys_of_part, keys_of. -/
namespace CK
open PySem PySem.Spec PyProof.Rows L2
theorem flat_texts (S : List Str) : (S.map V.str).all flatV = true := by
  rw [List.all_map]
  exact List.all_eq_true.mpr fun _ _ => rfl
theorem inV_texts (k : Str) (S : List Str) : inV (.str k) (S.map V.str) = decide (k ∈ S) := by
  unfold inV
  rw [List.any_map, Bool.eq_iff_iff, List.any_eq_true, decide_eq_true_eq]
  constructor
  · rintro ⟨x, hx, e⟩
    have e' : (x == k) = true := e
    rw [← beq_iff_eq.mp e']
    exact hx
  · intro h
    exact ⟨k, h, beq_self_eq_true k⟩
/-- sound deals -/
structure DealOk (checks : List (Str × V)) (deeds : List Deed) : Prop where
  opt : ∀ c ∈ checks, isOpt c.2 = true
  ok : ∀ d ∈ deeds, d.Ok
  few1 : checks.length ≤ 4
  few2 : deeds.length ≤ 6
section
variable {K : PySem.W.Frag} {H : Hp}
/-- a deed's tuple: its word, its key -/
theorem at_deed {x : V} {d : Deed} (ok : d.Ok) (h : At K H x (dDeed d)) : ∃ a w more, x = .ref a ∧ SqT K H a (.str w :: .str d.key :: more) := by
  cases d with
  | get k =>
    obtain ⟨a, xs, rfl, hT, hA⟩ := at_tup h
    obtain ⟨v, u, e1, q1, q2⟩ := all2 hA
    rw [e1, at_str q1, at_str q2] at hT
    exact ⟨a, _, _, rfl, hT⟩
  | put k z =>
    obtain ⟨a, xs, rfl, hT, hA⟩ := at_tup h
    obtain ⟨v, u, y, e1, q1, q2, q3⟩ := all3 hA
    rw [e1, at_str q1, at_str q2] at hT
    exact ⟨a, _, _, rfl, hT⟩
  | del k =>
    obtain ⟨a, xs, rfl, hT, hA⟩ := at_tup h
    obtain ⟨v, u, e1, q1, q2⟩ := all2 hA
    rw [e1, at_str q1, at_str q2] at hT
    exact ⟨a, _, _, rfl, hT⟩
  | add k n =>
    obtain ⟨a, xs, rfl, hT, hA⟩ := at_tup h
    obtain ⟨v, u, y, e1, q1, q2, q3⟩ := all3 hA
    rw [e1, at_str q1, at_str q2] at hT
    exact ⟨a, _, _, rfl, hT⟩
theorem at_check {x : V} {c : Str × V} (o : isOpt c.2 = true) (h : At K H x (dCheck c)) : ∃ a, x = .ref a ∧ SqT K H a [.str c.1, c.2] := by
  obtain ⟨a, xs, rfl, hT, hA⟩ := at_tup h
  obtain ⟨v, u, e1, q1, q2⟩ := all2 hA
  rw [e1, at_str q1, of_dV o q2] at hT
  exact ⟨a, rfl, hT⟩
theorem at_ch {x : V} {c : Nat × Str × V} (o : isOpt c.2.2 = true) (h : At K H x (dCh c)) : ∃ a, x = .ref a ∧ SqT K H a [.int (c.1 : Int), .str c.2.1, c.2.2] := by
  obtain ⟨a, xs, rfl, hT, hA⟩ := at_tup h
  obtain ⟨v, u, y, e1, q1, q2, q3⟩ := all3 hA
  rw [e1, at_int q1, at_str q2, of_dV o q3] at hT
  exact ⟨a, rfl, hT⟩
theorem at_de {x : V} {d : Nat × Deed} (h : At K H x (dDe d)) : ∃ a y, x = .ref a ∧ SqT K H a [.int (d.1 : Int), y] ∧ At K H y (dDeed d.2) := by
  obtain ⟨a, xs, rfl, hT, hA⟩ := at_tup h
  obtain ⟨v, u, e1, q1, q2⟩ := all2 hA
  rw [e1, at_int q1] at hT
  exact ⟨a, u, rfl, hT, q2⟩
theorem at_two {x : V} {ds es : List PyData} (h : At K H x (.tuple [.tuple ds, .tuple es])) : ∃ a b c xs ys, x = .ref a ∧ SqT K H a [.ref b, .ref c] ∧ SqT K H b xs ∧ AtAll K H xs ds ∧ SqT K H c ys ∧ AtAll K H ys es := by
  obtain ⟨a, xs, rfl, hT, hA⟩ := at_tup h
  obtain ⟨v, u, e1, q1, q2⟩ := all2 hA
  obtain ⟨b, ys, rfl, h1, h2⟩ := at_tup q1
  obtain ⟨c, zs, rfl, h3, h4⟩ := at_tup q2
  rw [e1] at hT
  exact ⟨a, b, c, ys, zs, rfl, hT, h1, h2, h3, h4⟩
end
section
variable {P : Program} {w : World} {K : PySem.W.Frag} {mg : Str → Option Value} {base : Heap}
abbrev N_partOf : List Str := ["deal", "keys", "checks", "deeds", "at", "key", "value", "deed"]
def spPartOf (K : PySem.W.Frag) : Sp := fun vs H Q _ => ∃ (x : V) (l : Addr) (S : List Str) (checks : List (Str × V)) (deeds : List Deed), vs = [x, .ref l] ∧ At K H x (dDeal checks deeds) ∧ DealOk checks deeds ∧ SqL K H l (S.map V.str) ∧
  ∀ H' y, Same H H' → At K H' y (dPart (part1 checks S) (part2 deeds S)) → Q y H'
theorem ok_partOf {f : Addr} {fd : FuncData} {k : Nat} (F : Fun K "part_of" "part_of" s_partOf f fd) (mE : mg "enumerate" = none) (mT : mg "tuple" = none) :
    FnOk P w K mg base CX0 (k + 1) f fd ["deal", "keys"] (spPartOf K) := by
  refine F.ok sc_partOf (fun vs H Q E h => ?_) (fun cdv A outer s H vs Q E hr h => ?_)
  · obtain ⟨x, l, S, checks, deeds, rfl, _⟩ := h
    rfl
  · obtain ⟨x, l, S, checks, deeds, rfl, hx, dok, hL, q⟩ := h
    refine ⟨_, pss_cons (ps_setLc (i := 2) (own := [("at", 4), ("key", 5), ("value", 6)]) (g := gTup K 2 (gCons (gName 4) (gCons (gTup K 2 (gCons (gName 5) (gCons (gName 6) gNil))) gNil))) rfl sc_partOf.nd rfl rfl (sw_true rfl rfl rfl (by decide +kernel))
        (pi_enumT (by rfl) mE (pa_cons (pe_ix ix_tup (pv 0) pe_int (fun _ _ => rfl)) pa_nil)) (blkOk_by (N := N_partOf) (sc := defScope s_partOf) (by decide +kernel))
        (fun _ _ _ _ _ => pg_tup rfl (pgs_cons (pg_name (i := 4) sc_partOf.nd rfl (Or.inl rfl)) (pgs_cons (pg_tup rfl (pgs_cons (pg_name (i := 5) sc_partOf.nd rfl (Or.inl rfl)) (pgs_cons (pg_name (i := 6) sc_partOf.nd rfl (Or.inl rfl)) pgs_nil))) pgs_nil)))
        (fun _ _ _ _ _ => pts_one (pt_cmpR (r := rIn K false) op_in_seq (pv 5) (pv 1) (by rfl)))
        (fun _ _ _ _ _ => pe_tup (pa_cons (pv 4) (pa_cons (pv 5) (pa_cons (pv 6) pa_nil)))))
      (pss_cons (ps_setLc (i := 3) (own := [("at", 4), ("deed", 7)]) (g := gTup K 2 (gCons (gName 4) (gCons (gName 7) gNil))) rfl sc_partOf.nd rfl rfl (sw_true rfl rfl rfl (by decide +kernel))
        (pi_enumT (by rfl) mE (pa_cons (pe_ix ix_tup (pv 0) pe_int (fun _ _ => rfl)) pa_nil)) (blkOk_by (N := N_partOf) (sc := defScope s_partOf) (by decide +kernel))
        (fun _ _ _ _ _ => pg_tup rfl (pgs_cons (pg_name (i := 4) sc_partOf.nd rfl (Or.inl rfl)) (pgs_cons (pg_name (i := 7) sc_partOf.nd rfl (Or.inl rfl)) pgs_nil)))
        (fun _ _ _ _ _ => pts_one (pt_cmpR (r := rIn K false) op_in_seq (pe_ix (r := rIxT K) ix_tup (pv 7) pe_int (fun _ _ => rfl)) (pv 1) (by rfl)))
        (fun _ _ _ _ _ => pe_tup (pa_cons (pv 4) (pa_cons (pv 7) pa_nil))))
      (pss_one (ps_ret (pe_tup (pa_cons (pe_callTy call_tuple_of (by rfl) mT (by decide +kernel) (pa_cons (pv 2) pa_nil)) (pa_cons (pe_callTy call_tuple_of (by rfl) mT (by decide +kernel) (pa_cons (pv 3) pa_nil)) pa_nil)))))), ?_⟩
    obtain ⟨a, b, c, xs, ys, rfl, hT, hTb, hAb, hTc, hAc⟩ := at_two hx
    have small1 : checks.length < 1000000 := by have := dok.few1; omega
    have small2 : deeds.length < 1000000 := by have := dok.few2; omega
    -- checks
    refine ⟨.ref a, rfl, a, _, 0, .ref b, rfl, rfl, hT, atI_nat (j := 0) rfl, b, xs, rfl, hTb, fun D nD => ?_⟩
    refine lcE (K := K) (e := dCh) (p := fun c => decide (c.2.1 ∈ S)) hTb hAb nD small1 (fun i z T x H2 hz sm hx2 hT2 => ?_) (fun H2 acc sm hD hA => ?_)
    · obtain ⟨a2, rfl, hq⟩ := at_check (dok.opt z hz) hx2
      intro Q2 N2 hy hn
      refine ⟨T, _, rfl, SqT.of hT2, rfl, .int (i : Nat), [.ref a2], rfl, .ref a2, [], rfl, a2, _, rfl, hq, rfl, .str z.1, [z.2], rfl, z.2, [], rfl, rfl, rfl, rfl, ?_⟩
      refine ⟨.str z.1, rfl, .ref l, rfl, l, _, rfl, .inl (sm.seq hL), rfl, flat_texts S, _, rfl, ?_⟩
      rw [show (if false = true then !inV (V.str z.1) (S.map V.str) else inV (V.str z.1) (S.map V.str)) = decide (z.1 ∈ S) from inV_texts z.1 S]
      refine ite2 (fun e => ?_) (fun e => ?_)
      · refine ⟨.int (i : Nat), rfl, .str z.1, rfl, z.2, rfl, by show 3 ≤ sizeLine; decide, fun p np => ?_⟩
        exact hy e _ _ (same_new np) (.tup (SqT.of upd_same) (.cons (.int _) (.cons (.str _) (.cons (at_dV (dok.opt z hz)) .nil))))
      · exact hn (Bool.eq_false_iff.mpr e) _ (Same.refl _)
    · -- deeds
      refine ⟨.ref a, rfl, a, _, 1, .ref c, rfl, rfl, sm.tk _ _ hT, atI_nat (j := 1) rfl, c, ys, rfl, sm.tk _ _ hTc, fun D2 nD2 => ?_⟩
      refine lcE (K := K) (e := dDe) (p := fun d => decide (d.2.key ∈ S)) (sm.tk _ _ hTc) (hAc.keep sm.tk) nD2 small2 (fun i z T x H3 hz sm3 hx3 hT3 => ?_) (fun H3 acc2 sm3 hD3 hA3 => ?_)
      · obtain ⟨a2, wd, more, rfl, hq⟩ := at_deed (dok.ok z hz) hx3
        intro Q2 N2 hy hn
        refine ⟨T, _, rfl, SqT.of hT3, rfl, .int (i : Nat), [.ref a2], rfl, .ref a2, [], rfl, rfl, rfl, ?_⟩
        refine ⟨.ref a2, rfl, a2, _, 1, .str z.key, rfl, rfl, hq, atI_nat (j := 1) rfl, .ref l, rfl, l, _, rfl, .inl (sm3.seq (sm.seq hL)), rfl, flat_texts S, _, rfl, ?_⟩
        rw [show (if false = true then !inV (V.str z.key) (S.map V.str) else inV (V.str z.key) (S.map V.str)) = decide (z.key ∈ S) from inV_texts z.key S]
        refine ite2 (fun e => ?_) (fun e => ?_)
        · refine ⟨.int (i : Nat), rfl, .ref a2, rfl, by show 2 ≤ sizeLine; decide, fun p np => ?_⟩
          exact hy e _ _ (same_new np) (.tup (SqT.of upd_same) (.cons (.int _) (.cons (hx3.keep (tk_new np)) .nil)))
        · exact hn (Bool.eq_false_iff.mpr e) _ (Same.refl _)
      · -- the pair
        refine ⟨.ref D, rfl, D, acc, rfl, .inl ⟨SqL.of (sm3 _ _ hD), fun t1 n1 => ?_⟩⟩
        refine ⟨.ref D2, rfl, D2, acc2, rfl, .inl ⟨SqL.of (same_new n1 _ _ hD3), fun t2 n2 => ?_⟩⟩
        refine ⟨by show 2 ≤ sizeLine; decide, fun t3 n3 => q _ _ (((sm.trans sm3).new n1).new n2 |>.new n3) ?_⟩
        have k1 := tk_new (K := K) (o := .tup acc) n1
        have k2 := tk_new (K := K) (o := .tup acc2) n2
        have k3 := tk_new (K := K) (o := .tup [.ref t1, .ref t2]) n3
        refine .tup (SqT.of upd_same) (.cons (.tup (k3 _ _ (k2 _ _ (SqT.of upd_same))) ?_) (.cons (.tup (k3 _ _ (SqT.of upd_same)) ?_) .nil))
        · exact hA.keep (sm3.tk.trans (k1.trans (k2.trans k3)))
        · exact hA3.keep (k1.trans (k2.trans k3))
end
end CK
/-! Law k05: keys_of_part, keys_of. -/
namespace CK
open PySem PySem.Spec PyProof.Rows L2
theorem texts_of {K : PySem.W.Frag} {H : Hp} {α : Type} {f : α → Str} : ∀ {l : List α} {acc : List V}, AtAll K H acc (l.map fun z => .str (f z)) → acc = (l.map f).map V.str
  | [], _, h => by cases h; rfl
  | z :: l, _, h => by
    cases h with
    | cons h1 h2 =>
      rw [at_str h1, texts_of h2]
      rfl
theorem sct_listD {w : World} {K : PySem.W.Frag} {a D : Addr} {l : List Str} {i : Nat} {σ : L2.St} {H1 : Hp} {Qd : Hp → Prop} (hi : i < σ.length) (hL : SqL K H1 a (l.map V.str)) (small : l.length < 1000) (nD : H1 D = none)
    (fin : Qd (upd H1 D (TxtO w D (gather l)))) :
    ∃ W : Nat → Nat → Hp → Prop, (∃ m, W 0 m (upd H1 D (TxtO w D []))) ∧
      ∀ j m H, W j m H → ((Itl K a).stop j H ∧ Qd H) ∨ ((Itl K a).go j H ∧ ∃ Nx : Hp → Prop, (∀ H', Nx H' → ∃ m', m' < m ∧ W (j + 1) m' H') ∧ ∀ x H', (Itl K a).yld j H x H' → ScTurn w (gName i) (tVar i) [i] σ D Nx x H') :=
  sct_list (Q := fun v H => v = .ref D → Qd H) hi hL small (fun D' _ e => by injection e with e; subst e; exact fin) D nD |>.imp fun W h => ⟨h.1, fun j m H w => (h.2 j m H w).imp (fun z => ⟨z.1, z.2 rfl⟩) id⟩
section
variable {P : Program} {w : World} {K : PySem.W.Frag} {mg : Str → Option Value} {base : Heap}
theorem keys_of_gather {ys l : List Str} (p : ys.Perm (gather l)) (nd : (gather l).Nodup) (so : sortedS ys = true) : Keys ys l :=
  ⟨p.nodup_iff.mpr nd, so, fun k => p.mem_iff.trans (gather_mem l k)⟩
abbrev N_keysOfPart : List Str := ["part", "named", "at", "key", "value", "deed"]
def spKeysOfPart (K : PySem.W.Frag) : Sp := fun vs H Q _ => ∃ (x : V) (ch : Ch) (de : De), vs = [x] ∧ At K H x (dPart ch de) ∧ (∀ c ∈ ch, isOpt c.2.2 = true) ∧ (∀ d ∈ de, d.2.Ok) ∧ ch.length ≤ 4 ∧ de.length ≤ 6 ∧
  ∀ H' p ks, Same H H' → Keys ks (names ch de) → SqT K H' p (ks.map V.str) → Q (.ref p) H'
theorem ok_keysOfPart {f : Addr} {fd : FuncData} {k : Nat} (F : Fun K "keys_of_part" "keys_of_part" s_keysOfPart f fd) (mS : mg "sorted" = none) (mT : mg "tuple" = none) :
    FnOk P w K mg base CX0 (k + 1) f fd ["part"] (spKeysOfPart K) := by
  refine F.ok sc_keysOfPart (fun vs H Q E h => ?_) (fun cdv A outer s H vs Q E hr h => ?_)
  · obtain ⟨x, ch, de, rfl, _⟩ := h
    rfl
  · obtain ⟨x, ch, de, rfl, hx, oc, od, few1, few2, q⟩ := h
    refine ⟨_, pss_cons (ps_set (i := 1) sc_keysOfPart.nd rfl (.inl rfl) (pe_op op_cat
        (pe_lc (own := [("at", 2), ("key", 3), ("value", 4)]) (g := gTup K 3 (gCons (gName 2) (gCons (gName 3) (gCons (gName 4) gNil)))) (tt := tYes) rfl sc_keysOfPart.nd (pi_tup (pe_ix ix_tup (pv 0) pe_int (fun _ _ => rfl)))
          (blkOk_by (N := N_keysOfPart) (sc := defScope s_keysOfPart) (by decide +kernel))
          (fun _ _ _ _ _ => pg_tup rfl (pgs_cons (pg_name (i := 2) sc_keysOfPart.nd rfl (Or.inl rfl)) (pgs_cons (pg_name (i := 3) sc_keysOfPart.nd rfl (Or.inl rfl)) (pgs_cons (pg_name (i := 4) sc_keysOfPart.nd rfl (Or.inl rfl)) pgs_nil))))
          (fun _ _ _ _ _ => pts_nil) (fun _ _ _ _ _ => pv 3))
        (pe_lc (own := [("at", 2), ("deed", 5)]) (g := gTup K 2 (gCons (gName 2) (gCons (gName 5) gNil))) (tt := tYes) rfl sc_keysOfPart.nd (pi_tup (pe_ix ix_tup (pv 0) pe_int (fun _ _ => rfl)))
          (blkOk_by (N := N_keysOfPart) (sc := defScope s_keysOfPart) (by decide +kernel))
          (fun _ _ _ _ _ => pg_tup rfl (pgs_cons (pg_name (i := 2) sc_keysOfPart.nd rfl (Or.inl rfl)) (pgs_cons (pg_name (i := 5) sc_keysOfPart.nd rfl (Or.inl rfl)) pgs_nil)))
          (fun _ _ _ _ _ => pts_nil) (fun _ _ _ _ _ => pe_ix (r := rIxT K) ix_tup (pv 5) pe_int (fun _ _ => rfl)))))
      (pss_one (ps_ret (pe_callTy call_tuple_of (by rfl) mT (by decide +kernel) (pa_cons (pe_callB (cr_sortedTxt rfl) (by rfl) mS (by decide +kernel) (pa_cons
        (pe_sct (own := [("key", 3)]) (g := gName 3) rfl sc_keysOfPart.nd (pi_list (pv 1)) (blkOk_by (N := N_keysOfPart) (sc := defScope s_keysOfPart) (by decide +kernel))
          (fun _ _ _ _ _ => pg_name (i := 3) sc_keysOfPart.nd rfl (Or.inl rfl)) (fun _ _ _ _ _ => pv 3)) pa_nil)) pa_nil)))), ?_⟩
    obtain ⟨a, b, c, xs, ys, rfl, hT, hTb, hAb, hTc, hAc⟩ := at_two hx
    refine ⟨.ref a, rfl, a, _, 0, .ref b, rfl, rfl, hT, atI_nat (j := 0) rfl, b, rfl, ⟨_, hTb⟩, fun D1 n1 => ?_⟩
    refine lcT (K := K) (e := fun z : Nat × Str × V => .str z.2.1) (p := fun _ => true) hTb hAb n1 (by omega) (fun z x H2 hz sm hx2 => ?_) (fun H2 acc1 sm1 hD1 hA1 => ?_)
    · obtain ⟨a2, rfl, hq⟩ := at_ch (oc z hz) hx2
      intro Q2 N2 hy hn
      refine ⟨a2, _, rfl, hq, rfl, _, _, rfl, _, _, rfl, _, _, rfl, rfl, rfl, ?_⟩
      exact ⟨.str z.2.1, rfl, hy rfl _ _ (Same.refl _) (.str _)⟩
    · refine ⟨.ref a, rfl, a, _, 1, .ref c, rfl, rfl, sm1.tk _ _ hT, atI_nat (j := 1) rfl, c, rfl, ⟨_, sm1.tk _ _ hTc⟩, fun D2 n2 => ?_⟩
      refine lcT (K := K) (e := fun z : Nat × Deed => .str z.2.key) (p := fun _ => true) (sm1.tk _ _ hTc) (hAc.keep sm1.tk) n2 (by omega) (fun z x H3 hz sm hx2 => ?_) (fun H3 acc2 sm2 hD2 hA2 => ?_)
      · obtain ⟨a2, y, rfl, hq, hy2⟩ := at_de hx2
        obtain ⟨a3, wd, more, rfl, hq3⟩ := at_deed (od z hz) hy2
        intro Q2 N2 hy hn
        refine ⟨a2, _, rfl, hq, rfl, _, _, rfl, _, _, rfl, rfl, rfl, ?_⟩
        exact ⟨.ref a3, rfl, a3, _, 1, .str z.2.key, rfl, rfl, hq3, atI_nat (j := 1) rfl, hy rfl _ _ (Same.refl _) (.str _)⟩
      · have f1 : ch.filter (fun _ => true) = ch := List.filter_eq_self.mpr fun _ _ => rfl
        have f2 : de.filter (fun _ => true) = de := List.filter_eq_self.mpr fun _ _ => rfl
        rw [f1] at hA1
        rw [f2] at hA2
        have e1 := texts_of hA1
        have e2 := texts_of hA2
        have eN : acc1 ++ acc2 = (names ch de).map V.str := by rw [e1, e2, ← List.map_append]; rfl
        have lenN : (names ch de).length ≤ 10 := by unfold names; rw [List.length_append, List.length_map, List.length_map]; omega
        have len12 : acc1.length + acc2.length ≤ sizeLine := by
          have z := congrArg List.length eN
          rw [List.length_append, List.length_map] at z
          rw [sizeLine_eq]
          omega
        refine ⟨D1, D2, acc1, acc2, rfl, rfl, sm2 _ _ hD1, hD2, len12, fun D3 n3 => ?_⟩
        have hL : SqL K (upd H3 D3 (.lst (acc1 ++ acc2))) D3 ((names ch de).map V.str) := by rw [eN]; exact SqL.of upd_same
        refine ⟨.ref D3, rfl, D3, rfl, ⟨_, hL⟩, fun D4 n4 => ?_⟩
        refine sct_listD (K := K) (i := 3) ?_ hL (by omega) n4 ?_
        · show 3 < 6; decide
        refine ⟨D4, gather (names ch de), rfl, upd_same, ?_, fun ks p5 hp nd so n5 => ?_⟩
        · have z := gather_len (names ch de)
          omega
        · refine ⟨p5, _, rfl, .inl ⟨SqL.of upd_same, fun p6 n6 => ?_⟩⟩
          exact q _ p6 ks (((((sm1.trans sm2).new n3).new n4).new n5).new n6) (keys_of_gather hp nd so) (SqT.of upd_same)

abbrev N_keysOf : List Str := ["deal", "checks", "deeds", "named", "key", "value", "deed"]
def allNames (checks : List (Str × V)) (deeds : List Deed) : List Str := checks.map (·.1) ++ deeds.map Deed.key
def spKeysOf (K : PySem.W.Frag) : Sp := fun vs H Q _ => ∃ (x : V) (checks : List (Str × V)) (deeds : List Deed), vs = [x] ∧ At K H x (dDeal checks deeds) ∧ DealOk checks deeds ∧
  ∀ H' p ks, Same H H' → Keys ks (allNames checks deeds) → SqT K H' p (ks.map V.str) → Q (.ref p) H'
theorem ok_keysOf {f : Addr} {fd : FuncData} {k : Nat} (F : Fun K "keys_of" "keys_of" s_keysOf f fd) (mS : mg "sorted" = none) (mT : mg "tuple" = none) :
    FnOk P w K mg base CX0 (k + 1) f fd ["deal"] (spKeysOf K) := by
  refine F.ok sc_keysOf (fun vs H Q E h => ?_) (fun cdv A outer s H vs Q E hr h => ?_)
  · obtain ⟨x, ch, de, rfl, _⟩ := h
    rfl
  · obtain ⟨x, checks, deeds, rfl, hx, dok, q⟩ := h
    have few1 := dok.few1
    have few2 := dok.few2
    refine ⟨_, pss_cons (ps_asg (pv 0) (pg_tup (by rfl) (pgs_cons (pg_name (i := 1) sc_keysOf.nd rfl (.inl rfl)) (pgs_cons (pg_name (i := 2) sc_keysOf.nd rfl (.inl rfl)) pgs_nil))))
      (pss_cons (ps_set (i := 3) sc_keysOf.nd rfl (.inl rfl) (pe_op op_cat
        (pe_lc (own := [("key", 4), ("value", 5)]) (g := gTup K 2 (gCons (gName 4) (gCons (gName 5) gNil))) (tt := tYes) rfl sc_keysOf.nd (pi_tup (pv 1))
          (blkOk_by (N := N_keysOf) (sc := defScope s_keysOf) (by decide +kernel))
          (fun _ _ _ _ _ => pg_tup rfl (pgs_cons (pg_name (i := 4) sc_keysOf.nd rfl (Or.inl rfl)) (pgs_cons (pg_name (i := 5) sc_keysOf.nd rfl (Or.inl rfl)) pgs_nil)))
          (fun _ _ _ _ _ => pts_nil) (fun _ _ _ _ _ => pv 4))
        (pe_lc (own := [("deed", 6)]) (g := gName 6) (tt := tYes) rfl sc_keysOf.nd (pi_tup (pv 2))
          (blkOk_by (N := N_keysOf) (sc := defScope s_keysOf) (by decide +kernel))
          (fun _ _ _ _ _ => pg_name (i := 6) sc_keysOf.nd rfl (Or.inl rfl))
          (fun _ _ _ _ _ => pts_nil) (fun _ _ _ _ _ => pe_ix (r := rIxT K) ix_tup (pv 6) pe_int (fun _ _ => rfl)))))
      (pss_one (ps_ret (pe_callTy call_tuple_of (by rfl) mT (by decide +kernel) (pa_cons (pe_callB (cr_sortedTxt rfl) (by rfl) mS (by decide +kernel) (pa_cons
        (pe_sct (own := [("key", 4)]) (g := gName 4) rfl sc_keysOf.nd (pi_list (pv 3)) (blkOk_by (N := N_keysOf) (sc := defScope s_keysOf) (by decide +kernel))
          (fun _ _ _ _ _ => pg_name (i := 4) sc_keysOf.nd rfl (Or.inl rfl)) (fun _ _ _ _ _ => pv 4)) pa_nil)) pa_nil))))), ?_⟩
    obtain ⟨a, b, c, xs, ys, rfl, hT, hTb, hAb, hTc, hAc⟩ := at_two hx
    refine ⟨.ref a, rfl, a, _, rfl, hT, rfl, .ref b, [.ref c], rfl, .ref c, [], rfl, rfl, ?_⟩
    refine ⟨.ref b, rfl, b, rfl, ⟨_, hTb⟩, fun D1 n1 => ?_⟩
    refine lcT (K := K) (e := fun z : Str × V => .str z.1) (p := fun _ => true) hTb hAb n1 (by omega) (fun z x H2 hz sm hx2 => ?_) (fun H2 acc1 sm1 hD1 hA1 => ?_)
    · obtain ⟨a2, rfl, hq⟩ := at_check (dok.opt z hz) hx2
      intro Q2 N2 hy hn
      refine ⟨a2, _, rfl, hq, rfl, _, _, rfl, _, _, rfl, rfl, rfl, ?_⟩
      exact ⟨.str z.1, rfl, hy rfl _ _ (Same.refl _) (.str _)⟩
    · refine ⟨.ref c, rfl, c, rfl, ⟨_, sm1.tk _ _ hTc⟩, fun D2 n2 => ?_⟩
      refine lcT (K := K) (e := fun z : Deed => .str z.key) (p := fun _ => true) (sm1.tk _ _ hTc) (hAc.keep sm1.tk) n2 (by omega) (fun z x H3 hz sm hx2 => ?_) (fun H3 acc2 sm2 hD2 hA2 => ?_)
      · obtain ⟨a3, wd, more, rfl, hq3⟩ := at_deed (dok.ok z hz) hx2
        intro Q2 N2 hy hn
        refine ⟨rfl, ?_⟩
        exact ⟨.ref a3, rfl, a3, _, 1, .str z.key, rfl, rfl, hq3, atI_nat (j := 1) rfl, hy rfl _ _ (Same.refl _) (.str _)⟩
      · have f1 : checks.filter (fun _ => true) = checks := List.filter_eq_self.mpr fun _ _ => rfl
        have f2 : deeds.filter (fun _ => true) = deeds := List.filter_eq_self.mpr fun _ _ => rfl
        rw [f1] at hA1
        rw [f2] at hA2
        have e1 := texts_of hA1
        have e2 := texts_of hA2
        have eN : acc1 ++ acc2 = (allNames checks deeds).map V.str := by rw [e1, e2, ← List.map_append]; rfl
        have lenN : (allNames checks deeds).length ≤ 10 := by unfold allNames; rw [List.length_append, List.length_map, List.length_map]; omega
        have len12 : acc1.length + acc2.length ≤ sizeLine := by
          have z := congrArg List.length eN
          rw [List.length_append, List.length_map] at z
          rw [sizeLine_eq]
          omega
        refine ⟨D1, D2, acc1, acc2, rfl, rfl, sm2 _ _ hD1, hD2, len12, fun D3 n3 => ?_⟩
        have hL : SqL K (upd H3 D3 (.lst (acc1 ++ acc2))) D3 ((allNames checks deeds).map V.str) := by rw [eN]; exact SqL.of upd_same
        refine ⟨.ref D3, rfl, D3, rfl, ⟨_, hL⟩, fun D4 n4 => ?_⟩
        refine sct_listD (K := K) (i := 4) ?_ hL (by omega) n4 ?_
        · show 4 < 7; decide
        refine ⟨D4, gather (allNames checks deeds), rfl, upd_same, ?_, fun ks p5 hp nd so n5 => ?_⟩
        · have z := gather_len (allNames checks deeds)
          omega
        · refine ⟨p5, _, rfl, .inl ⟨SqL.of upd_same, fun p6 n6 => ?_⟩⟩
          exact q _ p6 ks (((((sm1.trans sm2).new n3).new n4).new n5).new n6) (keys_of_gather hp nd so) (SqT.of upd_same)
end
end CK
/-! Law k05: the law's drawing helpers, where only the kind of what is drawn matters. -/
namespace CK
open PySem PySem.Spec PyProof.Rows L2
/-- a def as its callers use it -/
structure Use (P : Program) (w : World) (K : PySem.W.Frag) (mg : Str → Option Value) (base : Heap) (x : Str) (k : Nat) (ps : List Str) (sp : Sp) : Prop where
  ex : ∃ f fd, FnOk P w K mg base CX0 k f fd ps sp ∧ PySem.W.keepIn K (.ref f) = true ∧ Binds K fd ps [] ∧ mg x = some (.ref f)
theorem pe_use {X : Cx} {x : Str} {k : Nat} {ps : List Str} {sp : Sp} {e : Expr} {es : List Expr} {t : TA} {p pos : Pos} (U : Use X.prog X.w X.K X.mg X.base x k ps sp) (hr : Room k X.A) (hg : Gl X x) (ha : PA X (e :: es) t)
    (hdb : (x == ("__debug__" : Str)) = false := by decide) (he : starEach (e :: es) X.env = (false, eval e X.env) :: starEach es X.env := by rfl) (hpl : (backTo pos (starEach es X.env)).any (·.1) = false := by rfl) :
    PE X (.Call (.Name x p) (e :: es) [] pos) (tCall sp [] E0 t) := by
  obtain ⟨f, fd, F, hk, hb, hm⟩ := U.ex
  exact pe_call F hr hg hm hk hb .nil pass0 ha hdb he hpl
theorem atI_in {α : Type} {xs : List α} {i : Int} (h0 : 0 ≤ i) (h1 : i < xs.length) : ∃ c ∈ xs, atI xs i = some c := by
  obtain ⟨n, rfl⟩ := Int.eq_ofNat_of_zero_le h0
  have hn : n < xs.length := by omega
  exact ⟨xs[n], List.getElem_mem hn, atI_nat (List.getElem?_eq_getElem hn)⟩
theorem atI_ints {is : List Int} {i : Int} (h0 : 0 ≤ i) (h1 : i < is.length) : ∃ n ∈ is, atI (is.map V.int) i = some (.int n) := by
  obtain ⟨c, hc, e⟩ := atI_in (xs := is.map V.int) h0 (by rw [List.length_map]; exact h1)
  obtain ⟨n, hn, rfl⟩ := List.mem_map.mp hc
  exact ⟨n, hn, e⟩
theorem lt_len {α β : Type} {f : α → β} {xs : List α} {x : Int} (h : x < ((xs.map f).length : Int)) : x < (xs.length : Int) := by
  have e : (xs.map f).length = xs.length := List.length_map _
  omega
theorem mod_in (n : Int) {m : Int} (h : 0 < m) : 0 ≤ n % m ∧ n % m < m := ⟨Int.emod_nonneg _ (by omega), Int.emod_lt_of_pos _ h⟩
/-- what digits come -/
abbrev Dig (ds sizes : List Int) : Prop := All2 (fun d s => 0 ≤ d ∧ d < s) ds sizes
theorem dig2 {ds : List Int} {a b : Int} (h : Dig ds [a, b]) : ∃ x y, ds = [x, y] ∧ (0 ≤ x ∧ x < a) ∧ (0 ≤ y ∧ y < b) := by
  cases h with
  | cons h1 h => cases h with
    | cons h2 h => cases h; exact ⟨_, _, rfl, h1, h2⟩
theorem dig3 {ds : List Int} {a b c : Int} (h : Dig ds [a, b, c]) : ∃ x y z, ds = [x, y, z] ∧ (0 ≤ x ∧ x < a) ∧ (0 ≤ y ∧ y < b) ∧ (0 ≤ z ∧ z < c) := by
  cases h with
  | cons h1 h =>
    obtain ⟨y, z, rfl, q1, q2⟩ := dig2 h
    exact ⟨_, _, _, rfl, h1, q1, q2⟩
theorem dig4 {ds : List Int} {a b c d : Int} (h : Dig ds [a, b, c, d]) : ∃ x y z u, ds = [x, y, z, u] ∧ (0 ≤ x ∧ x < a) ∧ (0 ≤ y ∧ y < b) ∧ (0 ≤ z ∧ z < c) ∧ (0 ≤ u ∧ u < d) := by
  cases h with
  | cons h1 h =>
    obtain ⟨y, z, u, rfl, q1, q2, q3⟩ := dig3 h
    exact ⟨_, _, _, _, rfl, h1, q1, q2, q3⟩
section
variable {P : Program} {w : World} {K : PySem.W.Frag} {mg : Str → Option Value} {base : Heap}

/-! ### _law_row -/
def spRow (K : PySem.W.Frag) : Sp := fun vs H Q _ => ∃ (a : Addr) (ns : List Int) (i : Int), vs = [.ref a, .int i] ∧ SqL K H a (ns.map V.int) ∧ ∀ r : Int, Q (.int r) H
theorem ok_row {f : Addr} {fd : FuncData} {k : Nat} (F : Fun K "_law_row" "_law_row" s_row f fd) (mL : mg "len" = none) (mI : mg "int" = none) :
    FnOk P w K mg base CX0 (k + 1) f fd ["_law_script", "_law_k"] (spRow K) := by
  refine F.ok sc_row (fun vs H Q E h => ?_) (fun cdv A outer s H vs Q E hr h => ?_)
  · obtain ⟨a, ns, i, rfl, _⟩ := h
    rfl
  · obtain ⟨a, ns, i, rfl, hS, q⟩ := h
    refine ⟨_, pss_cons (ps_set (i := 2) sc_row.nd rfl (.inl rfl) pe_int)
      (pss_cons (ps_if (pt_cmpR op_gt (pe_callB call_len_seq (by rfl) mL (by decide +kernel) (pa_cons (pv 0) pa_nil)) pe_int (nomark _))
        (pss_one (ps_set (i := 2) sc_row.nd rfl (.inl rfl) (pe_ix (r := rIxL K) ix_list (pv 0) (pe_op op_mod (pe_callTy call_int1 (by rfl) mI (by decide +kernel) (pa_cons (pv 1) pa_nil)) (pe_callB call_len_seq (by rfl) mL (by decide +kernel) (pa_cons (pv 0) pa_nil))) (fun _ _ => rfl)))) pss_nil)
      (pss_cons (ps_if (pt_cmpR op_lt (pv 2) pe_int (nomark _)) (pss_one (ps_set (i := 2) sc_row.nd rfl (.inl rfl) (pe_op op_sub pe_int (pe_op op_mul pe_int (pv 2))))) pss_nil)
      (pss_cons (ps_if (PW.pt (pw_and (pt_cmpR op_ge (pv 2) (pe_op op_pow pe_int pe_int) (nomark _)) (pw_and1 (pt_cmpR op_lt (pv 1) (pe_callB call_len_seq (by rfl) mL (by decide +kernel) (pa_cons (pv 0) pa_nil)) (nomark _)))))
        (pss_one (ps_ret (pv 2))) pss_nil)
      (pss_cons (ps_set (i := 3) sc_row.nd rfl (.inl rfl) (pe_op op_mod (pe_callTy call_int1 (by rfl) mI (by decide +kernel) (pa_cons (pe_op op_add (pe_op op_add (pe_op op_mul (pv 2) pe_int) (pe_op op_mul (pe_op op_add (pv 1) pe_int) pe_int)) (pe_callB call_len_seq (by rfl) mL (by decide +kernel) (pa_cons (pv 0) pa_nil))) pa_nil)) pe_int))
      (pss_cons (ps_set (i := 4) sc_row.nd rfl (.inl rfl) (pe_op op_mod (pe_callTy call_int1 (by rfl) mI (by decide +kernel) (pa_cons (pe_op op_add (pe_op op_add (pe_op op_mul (pv 3) (pv 3)) (pe_op op_mul (pv 2) pe_int)) (pv 1)) pa_nil)) pe_int))
      (pss_one (ps_ret (pe_op op_add (pe_op op_mul (pv 4) pe_int) (pe_op op_mod (pe_callTy call_int1 (by rfl) mI (by decide +kernel) (pa_cons (pe_op op_mul (pv 3) pe_int) pa_nil)) pe_int))))))))), ?_⟩
    refine ⟨.ref a, rfl, a, _, rfl, .inl hS, _, _, rfl, rfl, _, rfl, ite2 (fun e => ?_) (fun _ => ?_)⟩
    · have pos : (0 : Int) < ((ns.map V.int).length : Int) := of_decide_eq_true e
      have b := mod_in i pos
      obtain ⟨v, _, hv⟩ := atI_ints (is := ns) b.1 (lt_len b.2)
      refine ⟨.ref a, rfl, .int i, rfl, .inl ⟨i, rfl, .ref a, rfl, a, _, rfl, .inl hS, i, _, rfl, rfl, pos, a, _, _, .int v, rfl, rfl, hS, hv, ?_⟩⟩
      refine ⟨.int v, rfl, _, _, rfl, rfl, _, rfl, ite2 (fun _ => ⟨_, rfl, _, _, rfl, rfl, .inl ⟨by decide, by decide⟩, _, _, rfl, rfl, ?_⟩) (fun _ => ?_)⟩
      all_goals refine ⟨_, rfl, _, _, rfl, rfl, ⟨by decide, by decide, by decide⟩, _, _, rfl, rfl, _, rfl, ite2 (fun _ => ⟨_, rfl, .ref a, rfl, a, _, rfl, .inl hS, _, _, rfl, rfl, _, rfl, ite2 (fun _ => ⟨_, rfl, q _⟩) (fun _ => ?_)⟩) (fun _ => iteF ?_)⟩
      all_goals refine ⟨_, rfl, _, _, rfl, rfl, .inr ⟨by decide, by decide⟩, _, rfl, _, _, rfl, rfl, _, _, rfl, rfl, .inr ⟨by decide, by decide⟩, _, _, rfl, rfl, .ref a, rfl, a, _, rfl, .inl hS, _, _, rfl, rfl, .inl ⟨_, rfl, _, _, rfl, rfl, (by show (0 : Int) < _; decide), ?_⟩⟩
      all_goals refine ⟨_, rfl, _, rfl, _, _, rfl, rfl, .inl ⟨Int.lt_of_lt_of_le (by decide) (mod_in _ (by decide)).1, Int.lt_trans (mod_in _ (by decide)).2 (by decide)⟩, _, rfl, _, _, rfl, rfl, .inr ⟨by decide, by decide⟩, _, _, rfl, rfl, _, rfl, _, _, rfl, rfl, .inl ⟨_, rfl, _, _, rfl, rfl, (by show (0 : Int) < _; decide), ?_⟩⟩
      all_goals exact ⟨_, rfl, _, _, rfl, rfl, .inr ⟨by decide, by decide⟩, _, rfl, _, _, rfl, rfl, .inr ⟨by decide, by decide⟩, .inl ⟨_, rfl, _, _, rfl, rfl, (by show (0 : Int) < _; decide), _, _, rfl, rfl, q _⟩⟩
    · refine ⟨.int 0, rfl, _, _, rfl, rfl, _, rfl, ite2 (fun _ => ⟨_, rfl, _, _, rfl, rfl, .inl ⟨by decide, by decide⟩, _, _, rfl, rfl, ?_⟩) (fun _ => ?_)⟩
      all_goals refine ⟨_, rfl, _, _, rfl, rfl, ⟨by decide, by decide, by decide⟩, _, _, rfl, rfl, _, rfl, ite2 (fun _ => ⟨_, rfl, .ref a, rfl, a, _, rfl, .inl hS, _, _, rfl, rfl, _, rfl, ite2 (fun _ => ⟨_, rfl, q _⟩) (fun _ => ?_)⟩) (fun _ => iteF ?_)⟩
      all_goals refine ⟨_, rfl, _, _, rfl, rfl, .inr ⟨by decide, by decide⟩, _, rfl, _, _, rfl, rfl, _, _, rfl, rfl, .inr ⟨by decide, by decide⟩, _, _, rfl, rfl, .ref a, rfl, a, _, rfl, .inl hS, _, _, rfl, rfl, .inl ⟨_, rfl, _, _, rfl, rfl, (by show (0 : Int) < _; decide), ?_⟩⟩
      all_goals refine ⟨_, rfl, _, rfl, _, _, rfl, rfl, .inl ⟨Int.lt_of_lt_of_le (by decide) (mod_in _ (by decide)).1, Int.lt_trans (mod_in _ (by decide)).2 (by decide)⟩, _, rfl, _, _, rfl, rfl, .inr ⟨by decide, by decide⟩, _, _, rfl, rfl, _, rfl, _, _, rfl, rfl, .inl ⟨_, rfl, _, _, rfl, rfl, (by show (0 : Int) < _; decide), ?_⟩⟩
      all_goals exact ⟨_, rfl, _, _, rfl, rfl, .inr ⟨by decide, by decide⟩, _, rfl, _, _, rfl, rfl, .inr ⟨by decide, by decide⟩, .inl ⟨_, rfl, _, _, rfl, rfl, (by show (0 : Int) < _; decide), _, _, rfl, rfl, q _⟩⟩

/-! ### _law_digits -/
def spDigits (K : PySem.W.Frag) : Sp := fun vs H Q _ => ∃ (r : Int) (a : Addr) (sizes : List Int), vs = [.int r, .ref a] ∧ SqL K H a (sizes.map V.int) ∧ (∀ s ∈ sizes, 0 < s ∧ s < 2 ^ 60) ∧ sizes.length ≤ 10 ∧
  ∀ H' p ds, Same H H' → H' p = some (.lst (ds.map V.int)) → Dig ds sizes → Q (.ref p) H'
theorem ok_digits {f : Addr} {fd : FuncData} {k : Nat} (F : Fun K "_law_digits" "_law_digits" s_digits f fd) (mI : mg "int" = none) :
    FnOk P w K mg base CX0 (k + 1) f fd ["_law_row_here", "_law_sizes"] (spDigits K) := by
  refine F.ok sc_digits (fun vs H Q E h => ?_) (fun cdv A outer s H vs Q E hr h => ?_)
  · obtain ⟨r, a, sizes, rfl, _⟩ := h
    rfl
  · obtain ⟨r, a, sizes, rfl, hS, hb, hl, q⟩ := h
    refine ⟨_, pss_cons (ps_set (i := 2) sc_digits.nd rfl (.inl rfl) (pe_lst pa_nil))
      (pss_cons (ps_for PassesOwn.never rfl (pi_list (pv 1)) (pg_name (i := 3) sc_digits.nd rfl (Or.inl rfl))
        (pss_cons (ps_expr (pe_bm PySem.F.plainAttrs_list PySem.F.slot_list_append PySem.F.type_list_append mt_append (pv 2) (pa_cons (pe_op op_mod (pe_callTy call_int1 (by rfl) mI (by decide +kernel) (pa_cons (pv 0) pa_nil)) (pv 3)) pa_nil)))
        (pss_one (ps_set (i := 0) sc_digits.nd rfl (.inl rfl) (pe_op op_fdivW (pv 0) (pv 3))))))
      (pss_one (ps_ret (pv 2)))), ?_⟩
    refine ⟨Nat.zero_le _, fun D nD => ⟨.ref a, rfl, a, rfl, ⟨_, Same.seq (same_new nD) hS⟩, ?_⟩⟩
    refine for_list (xs := sizes.map V.int) (fun i σ H2 => ∃ row ds y, σ = [some (.int row), some (.ref a), some (.ref D), y] ∧ Same H H2 ∧ H2 D = some (.lst (ds.map V.int)) ∧ Dig ds (sizes.take i))
      ⟨r, [], none, rfl, same_new nD, upd_same, .nil⟩ (fun i σ H2 _ ⟨_, _, _, _, sm, _⟩ => sm.seq hS) (fun i x σ H2 hx ⟨row, ds, y, e, sm, hD, dg⟩ => ?_) (fun σ H2 ⟨row, ds, y, e, sm, hD, dg⟩ => ?_)
    · subst e
      rw [List.getElem?_map] at hx
      cases hz : sizes[i]? with
      | none => rw [hz] at hx; cases hx
      | some z =>
        rw [hz] at hx
        have ex : V.int z = x := Option.some.inj hx
        subst ex
        have bz := hb z (List.mem_of_getElem? hz)
        have lds : ds.length < sizeLine := by
          have := dg.length
          rw [List.length_take] at this
          rw [sizeLine_eq]
          omega
        refine ⟨.ref D, rfl, .inl ⟨rfl, _, .inl (.inl hD)⟩, .int row, rfl, .inl ⟨row, rfl, .int z, rfl, row, z, rfl, rfl, bz.1, D, ds.map V.int, _, rfl, rfl, hD, by rw [List.length_map]; exact lds, ?_⟩⟩
        refine ⟨.int row, rfl, .int z, rfl, row, z, rfl, rfl, wide_div (b := 60) bz.1 (by have := bz.2; omega) (by decide) (by decide), ?_⟩
        refine ⟨_, ds ++ [row % z], _, rfl, fun b o hb' => ?_, ?_, ?_⟩
        · rw [upd_ne (ne_of_none hb' nD)]
          exact sm b o hb'
        · rw [upd_same, List.map_append]; rfl
        · rw [List.take_add_one, hz]
          exact All2.snoc (R := fun (d s : Int) => 0 ≤ d ∧ d < s) (mod_in row bz.1) dg
    · subst e
      rw [List.length_map, List.take_length] at dg
      exact ⟨.ref D, rfl, q _ _ ds sm hD dg⟩
end
end CK
/-! Law k05: drawn signs, texts, keys, values, deeds. -/
namespace CK
open PySem PySem.Spec PyProof.Rows L2
theorem atI_get {α : Type} {xs : List α} {i : Int} {d : α} (h0 : 0 ≤ i) (h1 : i < xs.length) : atI xs i = some ((atI xs i).getD d) := by
  obtain ⟨c, _, e⟩ := atI_in h0 h1
  rw [e]; rfl
theorem str_app_len (a b : Str) : (a ++ b).length = a.length + b.length := by
  show (a.cps ++ b.cps).size = _
  exact Array.size_append
theorem cut8 (z : Str) : (cutS z none (some 8)).length ≤ 8 := by
  show (((z.cps.toList.drop (HT.sIx z.length 0 none)).take (HT.sIx z.length z.length (some 8) - HT.sIx z.length 0 none)).toArray).size ≤ 8
  have e : HT.sIx z.length z.length (some ((8 : Nat) : Int)) = min 8 z.length := HT.sIx_nat _ _ 8
  rw [List.size_toArray, List.length_take]
  have e' : HT.sIx z.length z.length (some 8) = min 8 z.length := e
  rw [e']
  omega
section
variable {P : Program} {w : World} {K : PySem.W.Frag} {mg : Str → Option Value} {base : Heap}

def spSign : Sp := fun vs H Q _ => ∃ (n : Int), vs = [.int n] ∧ ∀ s : Str, s.length = 1 → Q (.str s) H
theorem ok_sign {f : Addr} {fd : FuncData} {k : Nat} (F : Fun K "_law_sign" "_law_sign" s_sign f fd) (mI : mg "int" = none) : FnOk P w K mg base CX0 (k + 1) f fd ["_law_number"] spSign := by
  refine F.ok sc_sign (fun vs H Q E h => ?_) (fun cdv A outer s H vs Q E hr h => ?_)
  · obtain ⟨n, rfl, _⟩ := h
    rfl
  · obtain ⟨n, rfl, q⟩ := h
    refine ⟨_, pss_cons (ps_set (i := 1) sc_sign.nd rfl (.inl rfl) pe_str)
      (pss_one (ps_ret (pe_ix (r := rIxS) ix_str (pv 1) (pe_op op_mod (pe_callTy call_int1 (by rfl) mI (by decide +kernel) (pa_cons (pv 0) pa_nil)) pe_int) (fun _ _ => rfl)))), ?_⟩
    have b := mod_in n (m := 94) (by decide)
    exact ⟨_, rfl, .int n, rfl, .inl ⟨n, rfl, _, _, rfl, rfl, (by show (0 : Int) < _; decide), _, _, _, rfl, rfl, (by rw [sizeLine_eq]; decide +kernel), atI_get (d := 0) b.1 (Int.lt_of_lt_of_le b.2 (by decide +kernel)), q _ rfl⟩⟩

def spText : Sp := fun vs H Q _ => ∃ (r n : Int), vs = [.int r, .int n] ∧ 0 ≤ n ∧ n ≤ 100 ∧ ∀ s : Str, Q (.str s) H
theorem ok_text {f : Addr} {fd : FuncData} {k : Nat} (F : Fun K "_law_text" "_law_text" s_text f fd) (U : Use P w K mg base "_law_sign" (k + 1) ["_law_number"] spSign) (mI : mg "int" = none) (mR : mg "range" = none) :
    FnOk P w K mg base CX0 (k + 2) f fd ["_law_row_here", "_law_count"] spText := by
  refine F.ok sc_text (fun vs H Q E h => ?_) (fun cdv A outer s H vs Q E hr h => ?_)
  · obtain ⟨r, n, rfl, _⟩ := h
    rfl
  · obtain ⟨r, n, rfl, h0, h1, q⟩ := h
    refine ⟨_, pss_cons (ps_set (i := 2) sc_text.nd rfl (.inl rfl) pe_str)
      (pss_cons (ps_set (i := 3) sc_text.nd rfl (.inl rfl) (pe_callTy call_int1 (by rfl) mI (by decide +kernel) (pa_cons (pv 0) pa_nil)))
      (pss_cons (ps_for PassesOwn.never rfl (pi_range1 rfl mR (pa_cons (pv 1) pa_nil)) (pg_name (i := 4) sc_text.nd rfl (Or.inl rfl))
        (pss_cons (ps_set (i := 2) sc_text.nd rfl (.inl rfl) (pe_op op_add_str (pv 2) (pe_use U hr (by rfl) (pa_cons (pe_op op_fdiv (pv 3) pe_int) pa_nil))))
        (pss_one (ps_set (i := 3) sc_text.nd rfl (.inl rfl) (pe_op op_add (pe_op op_add (pe_op op_fdiv (pv 3) pe_int) (pe_op op_mul (pe_op op_mod (pv 3) pe_int) pe_int)) (pv 4))))))
      (pss_one (ps_ret (pv 2))))), ?_⟩
    refine ⟨.int r, rfl, .inl ⟨r, rfl, .int n, rfl, n, rfl, by omega, by omega, ?_⟩⟩
    refine for_range (n := n.toNat) (fun i σ H2 => ∃ s rest y, σ = [some (.int r), some (.int n), some (.str s), some (.int rest), y] ∧ s.length = i ∧ H2 = H)
      ⟨_, r, none, rfl, (by decide +kernel), rfl⟩ (fun i σ H2 hi ⟨s, rest, y, e, hs, eH⟩ => ?_) (fun σ H2 ⟨s, rest, y, e, hs, eH⟩ => ?_)
    · subst e eH
      refine ⟨.str s, rfl, .int rest, rfl, _, _, rfl, rfl, ⟨by decide, by decide⟩, _, rfl, fun c hc => ⟨s, c, rfl, rfl, ?_, ?_⟩⟩
      · rw [sizeLine_eq]; omega
      · refine ⟨_, rfl, _, _, rfl, rfl, ⟨by decide, by decide⟩, _, rfl, _, _, rfl, rfl, (by show (0 : Int) < _; decide), _, _, rfl, rfl, .inr ⟨by decide, by decide⟩, _, _, rfl, rfl, _, rfl, _, _, rfl, rfl, ?_⟩
        exact ⟨_, _, _, rfl, by rw [str_app_len, hs, hc], rfl⟩
    · subst e eH
      exact ⟨_, rfl, q _⟩

def spKey : Sp := fun vs H Q _ => ∃ (r n : Int), vs = [.int r, .int n] ∧ 0 < n ∧ n ≤ 100 ∧ ∀ s : Str, s.length ≤ n.toNat → Q (.str s) H
theorem ok_key {f : Addr} {fd : FuncData} {k : Nat} (F : Fun K "_law_key" "_law_key" s_key f fd) (mI : mg "int" = none) (mR : mg "range" = none) :
    FnOk P w K mg base CX0 (k + 1) f fd ["_law_row_here", "_law_most"] spKey := by
  refine F.ok sc_key (fun vs H Q E h => ?_) (fun cdv A outer s H vs Q E hr h => ?_)
  · obtain ⟨r, n, rfl, _⟩ := h
    rfl
  · obtain ⟨r, n, rfl, h0, h1, q⟩ := h
    refine ⟨_, pss_cons (ps_set (i := 2) sc_key.nd rfl (.inl rfl) pe_str)
      (pss_cons (ps_set (i := 3) sc_key.nd rfl (.inl rfl) (pe_op op_add pe_int (pe_op op_mod (pe_callTy call_int1 (by rfl) mI (by decide +kernel) (pa_cons (pv 0) pa_nil)) (pv 1))))
      (pss_cons (ps_set (i := 4) sc_key.nd rfl (.inl rfl) (pe_op op_fdiv (pe_callTy call_int1 (by rfl) mI (by decide +kernel) (pa_cons (pv 0) pa_nil)) pe_int))
      (pss_cons (ps_set (i := 5) sc_key.nd rfl (.inl rfl) pe_str)
      (pss_cons (ps_for PassesOwn.never rfl (pi_range1 rfl mR (pa_cons (pv 3) pa_nil)) (pg_name (i := 6) sc_key.nd rfl (Or.inl rfl))
        (pss_cons (ps_set (i := 5) sc_key.nd rfl (.inl rfl) (pe_op op_add_str (pv 5) (pe_ix (r := rIxS) ix_str (pv 2) (pe_op op_mod (pe_callTy call_int1 (by rfl) mI (by decide +kernel) (pa_cons (pv 4) pa_nil)) pe_int) (fun _ _ => rfl))))
        (pss_one (ps_set (i := 4) sc_key.nd rfl (.inl rfl) (pe_op op_add (pe_op op_fdiv (pv 4) pe_int) (pe_op op_mul pe_int (pv 6)))))))
      (pss_one (ps_ret (pv 5))))))), ?_⟩
    have bn := mod_in r h0
    refine ⟨.int r, rfl, .inl ⟨r, rfl, _, rfl, _, _, rfl, rfl, h0, _, _, rfl, rfl, _, rfl, .inl ⟨r, rfl, _, _, rfl, rfl, ⟨by decide, by decide⟩, ?_⟩⟩⟩
    refine ⟨.int (1 + r % n), rfl, _, rfl, by omega, by omega, ?_⟩
    refine for_range (n := (1 + r % n).toNat) (fun i σ H2 => ∃ g s rest y, σ = [some (.int r), some (.int n), some (.str g), some (.int (1 + r % n)), some (.int rest), some (.str s), y] ∧ (36 ≤ g.cps.toList.length ∧ g.length ≤ 1000) ∧ s.length = i ∧ H2 = H)
      ⟨_, _, _, none, rfl, (by decide +kernel), (by decide +kernel), rfl⟩ (fun i σ H2 hi ⟨g, s, rest, y, e, eg, hs, eH⟩ => ?_) (fun σ H2 ⟨g, s, rest, y, e, eg, hs, eH⟩ => ?_)
    · subst e eH
      have b := mod_in rest (m := 36) (by decide)
      obtain ⟨c, _, hc⟩ := atI_in (xs := g.cps.toList) b.1 (by have := eg.1; have := b.2; omega)
      refine ⟨.str s, rfl, .str g, rfl, .int rest, rfl, .inl ⟨rest, rfl, _, _, rfl, rfl, (by show (0 : Int) < _; decide), _, _, c, rfl, rfl, (by have := eg.2; rw [sizeLine_eq]; omega), hc, s, _, rfl, rfl, ?_, ?_⟩⟩
      · rw [sizeLine_eq]
        show s.length + 1 ≤ _
        omega
      · refine ⟨_, rfl, _, _, rfl, rfl, ⟨by decide, by decide⟩, _, rfl, _, _, rfl, rfl, .inl ⟨by decide, by decide⟩, _, _, rfl, rfl, ?_⟩
        exact ⟨g, _, _, _, rfl, eg, by rw [str_app_len, hs]; rfl, rfl⟩
    · subst e eH
      exact ⟨_, rfl, q _ (by omega)⟩

/-! ### _law_value -/
def spValue : Sp := fun vs H Q _ => ∃ (r : Int), vs = [.int r] ∧ ∀ H' v, Same H H' → isVal v = true → Q v H'
theorem ok_value {f : Addr} {fd : FuncData} {k : Nat} (F : Fun K "_law_value" "_law_value" s_value f fd) (UD : Use P w K mg base "_law_digits" (k + 1) ["_law_row_here", "_law_sizes"] (spDigits K))
    (UT : Use P w K mg base "_law_text" (k + 2) ["_law_row_here", "_law_count"] spText) : FnOk P w K mg base CX0 (k + 3) f fd ["_law_row_here"] spValue := by
  refine F.ok sc_value (fun vs H Q E h => ?_) (fun cdv A outer s H vs Q E hr h => ?_)
  · obtain ⟨r, rfl, _⟩ := h
    rfl
  · obtain ⟨r, rfl, q⟩ := h
    refine ⟨_, pss_cons (ps_asg (pe_use UD (hr.mono (by omega)) (by rfl) (pa_cons (pv 0) (pa_cons (pe_lst (pa_cons pe_int (pa_cons pe_int (pa_cons (pe_op op_pow pe_int pe_int) pa_nil)))) pa_nil)))
        (pg_unl rfl (pgs_cons (pg_name (i := 1) sc_value.nd rfl (Or.inl rfl)) (pgs_cons (pg_name (i := 2) sc_value.nd rfl (Or.inl rfl)) (pgs_cons (pg_name (i := 3) sc_value.nd rfl (Or.inl rfl)) pgs_nil)))))
      (pss_cons (ps_if (pt_cmpR op_eq (pv 1) pe_int (nomark _)) (pss_one (ps_ret (pe_use UT hr (by rfl) (pa_cons (pe_op op_fdiv (pv 3) pe_int) (pa_cons (pe_op op_mod (pv 3) pe_int) pa_nil))))) pss_nil)
      (pss_cons (ps_set (i := 4) sc_value.nd rfl (.inl rfl) (pe_ix (r := rIxL K) ix_list (pe_lst (pa_cons pe_int (pa_cons (pe_op op_mod (pv 3) pe_int) (pa_cons (pe_op op_mod (pv 3) pe_int) (pa_cons (pv 3) (pa_cons (pe_op op_sub (pe_op op_pow pe_int pe_int) (pe_op op_mod (pv 3) pe_int)) pa_nil)))))) (pv 1) (fun _ _ => rfl)))
      (pss_cons (ps_if (pt_cmpR op_eq (pv 2) pe_int (nomark _)) (pss_one (ps_ret (pe_un un_neg (pv 4)))) pss_nil)
      (pss_one (ps_ret (pv 4)))))), ?_⟩
    refine ⟨.int r, rfl, _, _, rfl, rfl, ⟨by decide, by decide, by decide⟩, by show 3 ≤ sizeLine; decide, fun D nD => ?_⟩
    refine ⟨r, D, [5, 2, 1000000000000000], rfl, SqL.of upd_same, (by decide), (by decide), fun H2 E ds sm hE dg => ?_⟩
    obtain ⟨x, y, z, rfl, bx, by', bz⟩ := dig3 dg
    refine ⟨E, _, rfl, SqL.of hE, rfl, _, _, rfl, _, _, rfl, _, _, rfl, rfl, ?_⟩
    refine ⟨.int x, rfl, rfl, _, rfl, ite2 (fun _ => ?_) (fun _ => ?_)⟩
    · refine ⟨.int z, rfl, _, _, rfl, rfl, ⟨by decide, by decide⟩, _, rfl, _, _, rfl, rfl, (by show (0 : Int) < _; decide), ?_⟩
      have b := mod_in z (m := 21) (by decide)
      exact ⟨_, _, rfl, b.1, by omega, fun s => q _ _ ((same_new nD).trans sm) rfl⟩
    · refine ⟨.int z, rfl, _, _, rfl, rfl, (by show (0 : Int) < _; decide), _, rfl, _, _, rfl, rfl, (by show (0 : Int) < _; decide), _, rfl, _, _, rfl, rfl, ⟨by decide, by decide, by decide⟩, _, rfl, _, _, rfl, rfl, (by show (0 : Int) < _; decide), _, _, rfl, rfl, by show 5 ≤ sizeLine; decide, fun L nL => ?_⟩
      obtain ⟨n, _, hn⟩ := atI_ints (is := [0, z % 7, z % 2000, z, 10 ^ (15 : Int).toNat - z % 3]) bx.1 bx.2
      refine ⟨.int x, rfl, L, _, x, .int n, rfl, rfl, SqL.of upd_same, hn, ?_⟩
      have smL := ((same_new nD).trans sm).new (o := .lst [.int 0, .int (z % 7), .int (z % 2000), .int z, .int (10 ^ (15 : Int).toNat - z % 3)]) nL
      refine ⟨.int y, rfl, rfl, _, rfl, ite2 (fun _ => ?_) (fun _ => ?_)⟩
      · exact ⟨.int n, rfl, n, rfl, q _ _ smL rfl⟩
      · exact ⟨.int n, rfl, q _ _ smL rfl⟩
end
end CK
/-! Law k05: drawn deeds, keys, rows, deals. -/
namespace CK
open PySem PySem.Spec PyProof.Rows L2
/-- no keys but ks -/
def KeysIn (r : Rows) (ks : List Str) : Prop := ∀ s, (val r s).isSome = true → s ∈ ks
theorem valV_some_of {κ : Type} [DecidableEq κ] {k : κ} {r : List (κ × V)} (h : k ∈ r.map (·.1)) : (valV r k).isSome = true := by
  cases e : valV r k with
  | some v => rfl
  | none => exact absurd h (valV_not e)
theorem nodup_of_map {α β : Type} {f : α → β} : ∀ {l : List α}, (l.map f).Nodup → l.Nodup
  | [], _ => List.nodup_nil
  | x :: l, h => by
    rw [List.map_cons, List.nodup_cons] at h
    exact List.nodup_cons.mpr ⟨fun z => h.1 (List.mem_map_of_mem z), nodup_of_map h.2⟩
theorem Good.names {r : Rows} (g : Good r) : ∃ l : List Str, r.map (·.1) = l.map Sum.inr ∧ l.Nodup := by
  have go : ∀ r : Rows, (∀ p ∈ r, ∃ k, p.1 = Sum.inr k) → ∃ l : List Str, r.map (·.1) = l.map Sum.inr := by
    intro r
    induction r with
    | nil => exact fun _ => ⟨[], rfl⟩
    | cons p r ih =>
      intro h
      obtain ⟨k, e⟩ := h p List.mem_cons_self
      obtain ⟨l, el⟩ := ih fun q hq => h q (List.mem_cons_of_mem _ hq)
      exact ⟨k :: l, by rw [List.map_cons, List.map_cons, e, el]⟩
  obtain ⟨l, e⟩ := go r g.tx
  have nd := g.nd
  rw [e] at nd
  exact ⟨l, e, nodup_of_map nd⟩
theorem Good.mem_names {r : Rows} (g : Good r) {l : List Str} (e : r.map (·.1) = l.map Sum.inr) (s : Str) : s ∈ l ↔ (CK.val r s).isSome = true := by
  constructor
  · intro h
    exact valV_some_of (by rw [e]; exact List.mem_map_of_mem h)
  · intro h
    cases hv : CK.val r s with
    | none => rw [hv] at h; cases h
    | some v =>
      have m := List.mem_map_of_mem (f := fun p : Key × V => p.1) (mem_of_valV hv)
      rw [e] at m
      obtain ⟨s', hs', e'⟩ := List.mem_map.mp m
      have e'' : s' = s := Sum.inr.inj e'
      rw [← e'']
      exact hs'
theorem KeysIn.len {r : Rows} (g : Good r) {ks : List Str} (h : KeysIn r ks) : r.length ≤ ks.length := by
  obtain ⟨l, e, nd⟩ := g.names
  have q := nodup_len l ks nd fun x hx => h x ((g.mem_names e x).mp hx)
  have q2 := congrArg List.length e
  rw [List.length_map, List.length_map] at q2
  omega
theorem KeysIn.put {r : Rows} {ks : List Str} (h : KeysIn r ks) {k : Str} (hk : k ∈ ks) (v : V) : KeysIn (CK.put r k v) ks := fun s hs => by
  rw [val_put] at hs
  by_cases e : s = k
  · rw [e]; exact hk
  · rw [if_neg e] at hs; exact h s hs
section
variable {P : Program} {w : World} {K : PySem.W.Frag} {mg : Str → Option Value} {base : Heap}

/-! ### _law_deed -/
def spDrawDeed (K : PySem.W.Frag) : Sp := fun vs H Q _ => ∃ (a : Addr) (ks : List Str) (r : Int), vs = [.ref a, .int r] ∧ SqL K H a (ks.map V.str) ∧ 0 < ks.length ∧ ks.length ≤ 1000 ∧
  ∀ H' x d, Same H H' → At K H' x (dDeed d) → d.Ok → d.key ∈ ks → Q x H'
theorem ok_deed {f : Addr} {fd : FuncData} {k : Nat} (F : Fun K "_law_deed" "_law_deed" s_deed f fd) (UD : Use P w K mg base "_law_digits" (k + 1) ["_law_row_here", "_law_sizes"] (spDigits K))
    (UV : Use P w K mg base "_law_value" (k + 3) ["_law_row_here"] spValue) (mL : mg "len" = none) : FnOk P w K mg base CX0 (k + 4) f fd ["_law_keys_here", "_law_row_here"] (spDrawDeed K) := by
  refine F.ok sc_deed (fun vs H Q E h => ?_) (fun cdv A outer s H vs Q E hr h => ?_)
  · obtain ⟨a, ks, r, rfl, _⟩ := h
    rfl
  · obtain ⟨a, ks, r, rfl, hS, h0, h1, q⟩ := h
    refine ⟨_, pss_cons (ps_asg (pe_use UD (hr.mono (by omega)) (by rfl) (pa_cons (pv 1) (pa_cons (pe_lst (pa_cons pe_int (pa_cons (pe_callB call_len_seq (by rfl) mL (by decide +kernel) (pa_cons (pv 0) pa_nil)) (pa_cons pe_int (pa_cons (pe_op op_add (pe_op op_pow pe_int pe_int) pe_int) pa_nil))))) pa_nil)))
        (pg_unl rfl (pgs_cons (pg_name (i := 2) sc_deed.nd rfl (Or.inl rfl)) (pgs_cons (pg_name (i := 3) sc_deed.nd rfl (Or.inl rfl)) (pgs_cons (pg_name (i := 4) sc_deed.nd rfl (Or.inl rfl)) (pgs_cons (pg_name (i := 5) sc_deed.nd rfl (Or.inl rfl)) pgs_nil))))))
      (pss_cons (ps_set (i := 6) sc_deed.nd rfl (.inl rfl) (pe_ix (r := rIxL K) ix_list (pv 0) (pv 3) (fun _ _ => rfl)))
      (pss_cons (ps_if (pt_cmpR op_lt (pv 2) pe_int (nomark _)) (pss_one (ps_ret (pe_tup (pa_cons pe_str (pa_cons (pv 6) pa_nil))))) pss_nil)
      (pss_cons (ps_if (pt_cmpR op_lt (pv 2) pe_int (nomark _)) (pss_one (ps_ret (pe_tup (pa_cons pe_str (pa_cons (pv 6) (pa_cons (pe_use UV hr (by rfl) (pa_cons (pe_op op_fdivW (pv 1) (pe_op op_pow pe_int pe_int)) pa_nil)) pa_nil)))))) pss_nil)
      (pss_cons (ps_if (pt_cmpR op_eq (pv 2) pe_int (nomark _)) (pss_one (ps_ret (pe_tup (pa_cons pe_str (pa_cons (pv 6) pa_nil))))) pss_nil)
      (pss_cons (ps_set (i := 5) sc_deed.nd rfl (.inl rfl) (pe_ix (r := rIxL K) ix_list (pe_lst (pa_cons (pv 5) (pa_cons (pe_op op_mod (pv 5) pe_int) (pa_cons (pe_op op_pow pe_int pe_int) pa_nil)))) (pe_op op_sub (pv 2) pe_int) (fun _ _ => rfl)))
      (pss_cons (ps_if (pt_cmpR op_eq (pv 4) pe_int (nomark _)) (pss_one (ps_set (i := 5) sc_deed.nd rfl (.inl rfl) (pe_un un_neg (pv 5)))) pss_nil)
      (pss_one (ps_ret (pe_tup (pa_cons pe_str (pa_cons (pv 6) (pa_cons (pv 5) pa_nil)))))))))))), ?_⟩
    have hlen : (ks.map V.str).length = ks.length := List.length_map _
    refine ⟨.int r, rfl, .ref a, rfl, a, _, rfl, .inl hS, _, _, rfl, rfl, ⟨by decide, by decide, by decide⟩, _, _, rfl, rfl, by show 4 ≤ sizeLine; decide, fun D nD => ?_⟩
    refine ⟨r, D, [8, ((ks.map V.str).length : Int), 2, 10 ^ (9 : Int).toNat + 1], rfl, SqL.of upd_same, ?_, (by show 4 ≤ 10; decide), fun H2 E ds sm hE dg => ?_⟩
    · intro s hs
      rcases List.mem_cons.mp hs with e | hs
      · rw [e]; decide
      rcases List.mem_cons.mp hs with e | hs
      · rw [e, hlen]; omega
      rcases List.mem_cons.mp hs with e | hs
      · rw [e]; decide
      rw [List.mem_singleton.mp hs]; decide
    obtain ⟨x, y, z, u, rfl, bx, by', bz, bu⟩ := dig4 dg
    have sm1 : Same H H2 := (same_new nD).trans sm
    refine ⟨E, _, rfl, SqL.of hE, rfl, _, _, rfl, _, _, rfl, _, _, rfl, _, _, rfl, rfl, ?_⟩
    obtain ⟨kk, hkk, hk⟩ := atI_in (xs := ks) by'.1 (by have := by'.2; rw [hlen] at this; exact this)
    have hk' : atI (ks.map V.str) y = some (.str kk) := by
      obtain ⟨n, rfl⟩ := Int.eq_ofNat_of_zero_le by'.1
      have hn : n < ks.length := by have := by'.2; rw [hlen] at this; omega
      rw [show atI ks (n : Int) = some ks[n] from atI_nat (List.getElem?_eq_getElem hn)] at hk
      refine atI_nat ?_
      rw [List.getElem?_map, List.getElem?_eq_getElem hn, ← Option.some.inj hk]; rfl
    refine ⟨.ref a, rfl, .int y, rfl, a, _, y, _, rfl, rfl, sm1.seq hS, hk', ?_⟩
    refine ⟨.int x, rfl, _, _, rfl, rfl, _, rfl, ite2 (fun _ => ?_) (fun _ => ?_)⟩
    · refine ⟨.str kk, rfl, by show 2 ≤ sizeLine; decide, fun p np => ?_⟩
      exact q _ _ (.get kk) (sm1.new np) (.tup (SqT.of upd_same) (.cons (.str _) (.cons (.str _) .nil))) trivial hkk
    refine ⟨.int x, rfl, _, _, rfl, rfl, _, rfl, ite2 (fun _ => ?_) (fun _ => ?_)⟩
    · refine ⟨.str kk, rfl, .int r, rfl, _, _, rfl, rfl, ⟨by decide, by decide, by decide⟩, _, _, rfl, rfl, wide_div (b := 60) (by show (0 : Int) < 10 ^ (11 : Int).toNat; decide) (by show (10 ^ (11 : Int).toNat : Int).natAbs < 2 ^ 60; decide) (by decide) (by decide), ?_⟩
      refine ⟨_, rfl, fun H3 v sm3 hv => ⟨by show 3 ≤ sizeLine; decide, fun p np => ?_⟩⟩
      exact q _ _ (.put kk v) ((sm1.trans sm3).new np) (.tup (SqT.of upd_same) (.cons (.str _) (.cons (.str _) (.cons (at_dV (opt_of hv)) .nil)))) hv hkk
    refine ⟨.int x, rfl, rfl, _, rfl, ite2 (fun _ => ?_) (fun _ => ?_)⟩
    · refine ⟨.str kk, rfl, by show 2 ≤ sizeLine; decide, fun p np => ?_⟩
      exact q _ _ (.del kk) (sm1.new np) (.tup (SqT.of upd_same) (.cons (.str _) (.cons (.str _) .nil))) trivial hkk
    rename_i n1 n2 n3
    have g2 : ¬ x < 4 := fun z => n2 (decide_eq_true z)
    have g3 : ¬ x = 4 := fun z => n3 (decide_eq_true (congrArg V.int z))
    have bu9 := mod_in u (m := 9) (by decide)
    refine ⟨.int u, rfl, .int u, rfl, _, _, rfl, rfl, (by show (0 : Int) < _; decide), _, _, rfl, rfl, ⟨by decide, by decide, by decide⟩, by show 3 ≤ sizeLine; decide, fun L nL => ?_⟩
    obtain ⟨n, hn, hn'⟩ := atI_ints (is := [u, u % 9, 10 ^ (9 : Int).toNat]) (i := x - 5) (by omega) (by show x - 5 < 3; omega)
    have e9 : (10 ^ (9 : Int).toNat : Int) = 1000000000 := by decide
    have bn : 0 ≤ n ∧ n ≤ 1000000000 := by
      rw [e9] at bu hn
      rcases List.mem_cons.mp hn with e | hn
      · omega
      rcases List.mem_cons.mp hn with e | hn
      · omega
      rw [List.mem_singleton.mp hn]; decide
    have smL := sm1.new (o := .lst [.int u, .int (u % 9), .int (10 ^ (9 : Int).toNat)]) nL
    refine ⟨.int x, rfl, _, _, rfl, rfl, L, _, _, .int n, rfl, rfl, SqL.of upd_same, hn', ?_⟩
    refine ⟨.int z, rfl, rfl, _, rfl, ite2 (fun _ => ⟨.int n, rfl, n, rfl, ?_⟩) (fun _ => ?_)⟩
    · refine ⟨.str kk, rfl, .int (-n), rfl, by show 3 ≤ sizeLine; decide, fun p np => ?_⟩
      exact q _ _ (.add kk (-n)) (smL.new np) (.tup (SqT.of upd_same) (.cons (.str _) (.cons (.str _) (.cons (.int _) .nil)))) (by show _ ∧ _; omega) hkk
    · refine ⟨.str kk, rfl, .int n, rfl, by show 3 ≤ sizeLine; decide, fun p np => ?_⟩
      exact q _ _ (.add kk n) (smL.new np) (.tup (SqT.of upd_same) (.cons (.str _) (.cons (.str _) (.cons (.int _) .nil)))) (by show _ ∧ _; omega) hkk
end
end CK
/-! Law k05: drawn keys, rows, deals. -/
namespace CK
open PySem PySem.Spec PyProof.Rows L2
theorem atI_texts {ks : List Str} {i : Int} (h0 : 0 ≤ i) (h1 : i < ks.length) : ∃ k ∈ ks, atI (ks.map V.str) i = some (.str k) := by
  obtain ⟨n, rfl⟩ := Int.eq_ofNat_of_zero_le h0
  have hn : n < ks.length := by omega
  refine ⟨ks[n], List.getElem_mem hn, atI_nat ?_⟩
  rw [List.getElem?_map, List.getElem?_eq_getElem hn]; rfl
section
variable {P : Program} {w : World} {K : PySem.W.Frag} {mg : Str → Option Value} {base : Heap}

/-! ### _law_keys -/
def spDrawKeys (K : PySem.W.Frag) : Sp := fun vs H Q _ => ∃ (a : Addr) (ns : List Int) (i m : Int), vs = [.ref a, .int i, .int m] ∧ SqL K H a (ns.map V.int) ∧ 0 < m ∧ m ≤ 100 ∧
  ∀ H' p (ks : List Str), Same H H' → H p = none → H' p = some (.lst (ks.map V.str)) → ks.Nodup → 0 < ks.length → ks.length ≤ m.toNat → (∀ s ∈ ks, s.length ≤ 8) → Q (.ref p) H'
theorem ok_keys {f : Addr} {fd : FuncData} {k : Nat} (F : Fun K "_law_keys" "_law_keys" s_keys f fd) (UR : Use P w K mg base "_law_row" (k + 1) ["_law_script", "_law_k"] (spRow K))
    (UK : Use P w K mg base "_law_key" (k + 1) ["_law_row_here", "_law_most"] spKey) (mI : mg "int" = none) (mR : mg "range" = none) : FnOk P w K mg base CX0 (k + 2) f fd ["_law_script", "_law_at", "_law_most"] (spDrawKeys K) := by
  refine F.ok sc_keys (fun vs H Q E h => ?_) (fun cdv A outer s H vs Q E hr h => ?_)
  · obtain ⟨a, ns, i, m, rfl, _⟩ := h
    rfl
  · obtain ⟨a, ns, at', m, rfl, hS, h0, h1, q⟩ := h
    refine ⟨_, pss_cons (ps_set (i := 3) sc_keys.nd rfl (.inl rfl) (pe_lst pa_nil))
      (pss_cons (ps_set (i := 4) sc_keys.nd rfl (.inl rfl) (pe_op op_add pe_int (pe_op op_mod (pe_callTy call_int1 (by rfl) mI (by decide +kernel) (pa_cons (pe_use UR hr (by rfl) (pa_cons (pv 0) (pa_cons (pv 1) pa_nil))) pa_nil)) (pv 2))))
      (pss_cons (ps_for PassesOwn.never rfl (pi_range1 rfl mR (pa_cons (pv 4) pa_nil)) (pg_name (i := 5) sc_keys.nd rfl (Or.inl rfl))
        (pss_cons (ps_set (i := 6) sc_keys.nd rfl (.inl rfl) (pe_use UK hr (by rfl) (pa_cons (pe_use UR hr (by rfl) (pa_cons (pv 0) (pa_cons (pe_op op_add (pe_op op_add (pv 1) pe_int) (pv 5)) pa_nil))) (pa_cons pe_int pa_nil))))
        (pss_cons (ps_if (pt_cmpR op_eq (pe_op op_mod (pv 5) pe_int) pe_int (nomark _)) (pss_one (ps_set (i := 6) sc_keys.nd rfl (.inl rfl) (pe_slice sl_str (pe_op op_add_str (pe_ix (r := rIxL K) ix_list (pv 3) pe_int (fun _ _ => rfl)) (pv 6)) po_none (po_some pe_int)))) pss_nil)
        (pss_one (ps_if (pt_cmpR (r := rIn K true) op_notIn_seq (pv 6) (pv 3) (by rfl))
          (pss_one (ps_expr (pe_bm PySem.F.plainAttrs_list PySem.F.slot_list_append PySem.F.type_list_append mt_append (pv 3) (pa_cons (pv 6) pa_nil)))) pss_nil)))))
      (pss_one (ps_ret (pv 3))))), ?_⟩
    refine ⟨Nat.zero_le _, fun D nD => ?_⟩
    have sm0 : Same H (upd H D (.lst [])) := same_new nD
    refine ⟨.ref a, rfl, .int at', rfl, a, ns, at', rfl, sm0.seq hS, fun r => .inl ⟨r, rfl, .int m, rfl, _, _, rfl, rfl, h0, _, _, rfl, rfl, ?_⟩⟩
    have bm := mod_in r h0
    refine ⟨.int (1 + r % m), rfl, _, rfl, by omega, by omega, ?_⟩
    refine for_range (n := (1 + r % m).toNat) (fun i σ H2 => ∃ (ks : List Str) (y z : Option V), σ = [some (.ref a), some (.int at'), some (.int m), some (.ref D), some (.int (1 + r % m)), y, z] ∧ Same H H2 ∧ H2 D = some (.lst (ks.map V.str)) ∧ ks.Nodup ∧ (1 ≤ i → 0 < ks.length) ∧ ks.length ≤ i ∧ ∀ s ∈ ks, s.length ≤ 8)
      ⟨[], none, none, rfl, sm0, upd_same, List.nodup_nil, fun h => absurd h (by decide), Nat.le_refl _, fun _ h => nomatch h⟩
      (fun i σ H2 hi ⟨ks, y, z, e, sm, hD, nd, ne, le, l8⟩ => ?_) (fun σ H2 ⟨ks, y, z, e, sm, hD, nd, ne, le, l8⟩ => ?_)
    · subst e
      have hlen : (ks.map V.str).length < sizeLine := by rw [List.length_map, sizeLine_eq]; omega
      -- what the turn ends with, from the key that was made
      have last : ∀ kk : Str, kk.length ≤ 8 → ∀ b : Bool, b = (if true = true then !inV (V.str kk) (ks.map V.str) else inV (V.str kk) (ks.map V.str)) →
          (b = true → ∃ ks' : List Str, upd H2 D (.lst (ks.map V.str ++ [.str kk])) D = some (.lst (ks'.map V.str)) ∧ ks'.Nodup ∧ (1 ≤ i + 1 → 0 < ks'.length) ∧ ks'.length ≤ i + 1 ∧ ∀ s ∈ ks', s.length ≤ 8) ∧ (b = false → 0 < ks.length) := by
        intro kk hkk b hb
        rw [if_pos rfl, inV_texts] at hb
        refine ⟨fun e => ?_, fun e => ?_⟩
        · have nm : kk ∉ ks := fun z => by rw [decide_eq_true z, e] at hb; cases hb
          refine ⟨ks ++ [kk], by rw [upd_same, List.map_append]; rfl, ?_, fun _ => by rw [List.length_append]; exact Nat.succ_pos _, by rw [List.length_append]; exact Nat.succ_le_succ le, fun s hs => ?_⟩
          · rw [List.nodup_append]
            exact ⟨nd, List.nodup_cons.mpr ⟨(fun z => nomatch z), List.nodup_nil⟩, fun a ha b hb e => nm (by rw [← List.mem_singleton.mp hb, ← e]; exact ha)⟩
          · rcases List.mem_append.mp hs with h | h
            · exact l8 s h
            · rw [List.mem_singleton.mp h]; exact hkk
        · have m : kk ∈ ks := by
            by_cases z : kk ∈ ks
            · exact z
            · rw [decide_eq_false z, e] at hb; cases hb
          exact List.length_pos_of_mem m
      have keepSm : ∀ xs, Same H (upd H2 D (.lst xs)) := fun xs b o hb => by rw [upd_ne (ne_of_none hb nD)]; exact sm b o hb
      refine ⟨.ref a, rfl, .int at', rfl, _, _, rfl, rfl, _, rfl, _, _, rfl, rfl, a, ns, _, rfl, sm.seq hS, fun r2 => ?_⟩
      refine ⟨r2, 8, rfl, by decide, by decide, fun k1 hk1 => ?_⟩
      refine ⟨_, rfl, _, _, rfl, rfl, (by show (0 : Int) < _; decide), rfl, _, rfl, ite2 (fun e3 => ?_) (fun _ => ?_)⟩
      · have pos : 0 < ks.length := by
          refine ne ?_
          have e3' : (0 + (i : Int)) % 3 = 2 := V.int.inj (of_decide_eq_true e3)
          omega
        obtain ⟨k0, hk0, e0⟩ := atI_texts (ks := ks) (i := 0) (by decide) (by omega)
        refine ⟨.ref D, rfl, D, _, 0, .str k0, rfl, rfl, SqL.of hD, e0, .str k1, rfl, k0, k1, rfl, rfl, ?_, 8, rfl, _, rfl, ?_, ?_⟩
        · have := l8 k0 hk0
          rw [sizeLine_eq]
          have : k1.length ≤ 8 := hk1
          omega
        · have := l8 k0 hk0
          have : k1.length ≤ 8 := hk1
          rw [str_app_len, sizeLine_eq]
          omega
        · have L := last (cutS (k0 ++ k1) none (some 8)) (cut8 _) _ rfl
          refine ⟨_, rfl, .ref D, rfl, D, _, rfl, .inl (SqL.of hD), rfl, flat_texts ks, _, rfl, ite2 (fun e => ?_) (fun e => ?_)⟩
          · obtain ⟨ks', q1, q2, q3, q4, q5⟩ := L.1 e
            exact ⟨.ref D, rfl, .inl ⟨rfl, _, .inl (.inl hD)⟩, _, rfl, D, _, _, rfl, rfl, hD, hlen, ks', _, _, rfl, keepSm _, q1, q2, q3, q4, q5⟩
          · exact ⟨ks, _, _, rfl, sm, hD, nd, fun _ => L.2 (Bool.eq_false_iff.mpr e), Nat.le_succ_of_le le, l8⟩
      · have L := last k1 hk1 _ rfl
        refine ⟨_, rfl, .ref D, rfl, D, _, rfl, .inl (SqL.of hD), rfl, flat_texts ks, _, rfl, ite2 (fun e => ?_) (fun e => ?_)⟩
        · obtain ⟨ks', q1, q2, q3, q4, q5⟩ := L.1 e
          exact ⟨.ref D, rfl, .inl ⟨rfl, _, .inl (.inl hD)⟩, _, rfl, D, _, _, rfl, rfl, hD, hlen, ks', _, _, rfl, keepSm _, q1, q2, q3, q4, q5⟩
        · exact ⟨ks, _, _, rfl, sm, hD, nd, fun _ => L.2 (Bool.eq_false_iff.mpr e), Nat.le_succ_of_le le, l8⟩
    · subst e
      exact ⟨.ref D, rfl, q H2 D ks sm nD hD nd (ne (by omega)) (by omega) l8⟩

/-! ### _law_rows -/
def spDrawRows (K : PySem.W.Frag) : Sp := fun vs H Q _ => ∃ (a b : Addr) (ns : List Int) (ks : List Str) (i : Int), vs = [.ref a, .int i, .ref b] ∧ SqL K H a (ns.map V.int) ∧ SqL K H b (ks.map V.str) ∧ ks.length ≤ 1000 ∧
  ∀ H' p kvs, Same H H' → H p = none → H' p = some (.dK kvs) → Good kvs → KeysIn kvs ks → Q (.ref p) H'
theorem ok_rows {f : Addr} {fd : FuncData} {k : Nat} (F : Fun K "_law_rows" "_law_rows" s_rows f fd) (UR : Use P w K mg base "_law_row" (k + 1) ["_law_script", "_law_k"] (spRow K))
    (UV : Use P w K mg base "_law_value" (k + 3) ["_law_row_here"] spValue) (mI : mg "int" = none) (mR : mg "range" = none) (mL : mg "len" = none) : FnOk P w K mg base CX0 (k + 4) f fd ["_law_script", "_law_at", "_law_keys_here"] (spDrawRows K) := by
  refine F.ok sc_rows (fun vs H Q E h => ?_) (fun cdv A outer s H vs Q E hr h => ?_)
  · obtain ⟨a, b, ns, ks, i, rfl, _⟩ := h
    rfl
  · obtain ⟨a, b, ns, ks, at', rfl, hS, hB, hl, q⟩ := h
    refine ⟨_, pss_cons (ps_set (i := 3) sc_rows.nd rfl (.inl rfl) pe_dnewK)
      (pss_cons (ps_for PassesOwn.never rfl (pi_range1 rfl mR (pa_cons (pe_callB call_len_seq (by rfl) mL (by decide +kernel) (pa_cons (pv 2) pa_nil)) pa_nil)) (pg_name (i := 4) sc_rows.nd rfl (Or.inl rfl))
        (pss_one (ps_if (pt_cmpR op_gt (pe_op op_mod (pe_op op_fdiv (pe_callTy call_int1 (by rfl) mI (by decide +kernel) (pa_cons (pe_use UR (hr.mono (by omega)) (by rfl) (pa_cons (pv 0) (pa_cons (pv 1) pa_nil))) pa_nil)) (pe_op op_add (pv 4) pe_int)) pe_int) pe_int (nomark _))
          (pss_one (ps_dput (hu_of hr) (pv 3) (pe_ix (r := rIxL K) ix_list (pv 2) (pv 4) (fun _ _ => rfl)) (pe_use UV hr (by rfl) (pa_cons (pe_use UR (hr.mono (by omega)) (by rfl) (pa_cons (pv 0) (pa_cons (pe_op op_add (pe_op op_add (pv 1) pe_int) (pv 4)) pa_nil))) pa_nil)) rfl)) pss_nil)))
      (pss_one (ps_ret (pv 3)))), ?_⟩
    intro D nD
    have sm0 : Same H (upd H D (.dK [])) := same_new nD
    have hlen : (ks.map V.str).length = ks.length := List.length_map _
    refine ⟨.ref b, rfl, b, _, rfl, .inl (sm0.seq hB), _, rfl, by omega, by omega, ?_⟩
    refine for_range (n := ((ks.map V.str).length : Int).toNat) (fun i σ H2 => ∃ kvs y, σ = [some (.ref a), some (.int at'), some (.ref b), some (.ref D), y] ∧ Same H H2 ∧ H2 D = some (.dK kvs) ∧ Good kvs ∧ KeysIn kvs ks)
      ⟨[], none, rfl, sm0, upd_same, Good.nil, fun s h => by cases h⟩ (fun i σ H2 hi ⟨kvs, y, e, sm, hD, g, ki⟩ => ?_) (fun σ H2 ⟨kvs, y, e, sm, hD, g, ki⟩ => ?_)
    · subst e
      have hi' : i < ks.length := by rw [hlen] at hi; omega
      refine ⟨.ref a, rfl, .int at', rfl, a, ns, at', rfl, sm.seq hS, fun r => .inl ⟨r, rfl, _, rfl, _, _, rfl, rfl, _, _, rfl, rfl, ⟨by show (0 : Int) < 0 + (i : Int) + 1; omega, by show 0 + (i : Int) + 1 < 1073741824; omega⟩, _, _, rfl, rfl, (by show (0 : Int) < _; decide), _, _, rfl, rfl, _, rfl, ite2 (fun _ => ?_) (fun _ => ?_)⟩⟩
      · refine ⟨.ref a, rfl, .int at', rfl, _, _, rfl, rfl, _, rfl, _, _, rfl, rfl, a, ns, _, rfl, sm.seq hS, fun r2 => ?_⟩
        refine ⟨r2, rfl, fun H3 v sm3 hv => ?_⟩
        obtain ⟨kk, hkk, ek⟩ := atI_texts (ks := ks) (i := 0 + (i : Int)) (by omega) (by omega)
        have hD3 := sm3 _ _ hD
        refine ⟨.ref D, rfl, .ref b, rfl, _, rfl, b, _, _, .str kk, rfl, rfl, (sm.trans sm3).seq hB, ek, D, _, rfl, DPut.k (k := Sum.inr kk) hD3 ?_, ?_⟩
        · have := ki.len g
          rw [sizeLine_eq]
          omega
        · refine ⟨CK.put kvs kk v, _, rfl, fun c o hc => ?_, upd_same, g.put kk hv, ki.put hkk v⟩
          rw [upd_ne (ne_of_none hc nD)]
          exact sm3 _ _ (sm _ _ hc)
      · exact ⟨kvs, _, rfl, sm, hD, g, ki⟩
    · subst e
      exact ⟨.ref D, rfl, q H2 D kvs sm nD hD g ki⟩
end
end CK
/-! Law k05: drawn deals. -/
namespace CK
open PySem PySem.Spec PyProof.Rows L2
section
variable {P : Program} {w : World} {K : PySem.W.Frag} {mg : Str → Option Value} {base : Heap}
def spDrawDeal (K : PySem.W.Frag) : Sp := fun vs H Q _ => ∃ (a d : Addr) (ks : List Str) (kvs : Rows) (r m : Int), vs = [.ref a, .ref d, .int r, .int m] ∧ SqL K H a (ks.map V.str) ∧ 0 < ks.length ∧ ks.length ≤ 1000 ∧ H d = some (.dK kvs) ∧ Good kvs ∧
  ∀ H' x (checks : List (Str × V)) (deeds : List Deed), Same H H' → At K H' x (dDeal checks deeds) → DealOk checks deeds → (∀ s ∈ allNames checks deeds, s ∈ ks) → Q x H'
theorem ok_deal {f : Addr} {fd : FuncData} {k : Nat} (F : Fun K "_law_deal" "_law_deal" s_deal f fd) (UD : Use P w K mg base "_law_digits" (k + 1) ["_law_row_here", "_law_sizes"] (spDigits K))
    (UE : Use P w K mg base "_law_deed" (k + 4) ["_law_keys_here", "_law_row_here"] (spDrawDeed K)) (mR : mg "range" = none) (mL : mg "len" = none) (mT : mg "tuple" = none) :
    FnOk P w K mg base CX0 (k + 5) f fd ["_law_keys_here", "_law_rows_here", "_law_row_here", "_law_more"] (spDrawDeal K) := by
  refine F.ok sc_deal (fun vs H Q E h => ?_) (fun cdv A outer s H vs Q E hr h => ?_)
  · obtain ⟨a, d, ks, kvs, r, m, rfl, _⟩ := h
    rfl
  · obtain ⟨a, d, ks, kvs, r, m, rfl, hS, h0, h1, hD, gd, q⟩ := h
    refine ⟨_, pss_cons (ps_set (i := 4) sc_deal.nd rfl (.inl rfl) (pe_lst pa_nil))
      (pss_cons (ps_set (i := 5) sc_deal.nd rfl (.inl rfl) (pe_lst pa_nil))
      (pss_cons (ps_asg (pe_use UD (hr.mono (by omega)) (by rfl) (pa_cons (pv 2) (pa_cons (pe_lst (pa_cons pe_int (pa_cons pe_int (pa_cons pe_int pa_nil)))) pa_nil)))
        (pg_unl rfl (pgs_cons (pg_name (i := 6) sc_deal.nd rfl (Or.inl rfl)) (pgs_cons (pg_name (i := 7) sc_deal.nd rfl (Or.inl rfl)) (pgs_cons (pg_name (i := 8) sc_deal.nd rfl (Or.inl rfl)) pgs_nil)))))
      (pss_cons (ps_if (pt_cmpR op_eq (pe_op op_add (pv 6) (pv 7)) pe_int (nomark _)) (pss_one (ps_set (i := 7) sc_deal.nd rfl (.inl rfl) pe_int)) pss_nil)
      (pss_cons (ps_for PassesOwn.never rfl (pi_range1 rfl mR (pa_cons (pv 6) pa_nil)) (pg_name (i := 9) sc_deal.nd rfl (Or.inl rfl))
        (pss_cons (ps_asg (pe_use UD (hr.mono (by omega)) (by rfl) (pa_cons (pe_op op_fdiv (pv 2) (pe_op op_add pe_int (pe_op op_mul pe_int (pv 9)))) (pa_cons (pe_lst (pa_cons (pe_callB call_len_seq (by rfl) mL (by decide +kernel) (pa_cons (pv 0) pa_nil)) (pa_cons pe_int (pa_cons (pe_op op_pow pe_int pe_int) pa_nil)))) pa_nil)))
          (pg_unl rfl (pgs_cons (pg_name (i := 10) sc_deal.nd rfl (Or.inl rfl)) (pgs_cons (pg_name (i := 11) sc_deal.nd rfl (Or.inl rfl)) (pgs_cons (pg_name (i := 12) sc_deal.nd rfl (Or.inl rfl)) pgs_nil)))))
        (pss_cons (ps_set (i := 13) sc_deal.nd rfl (.inl rfl) (pe_ix (r := rIxL K) ix_list (pv 0) (pv 10) (fun _ _ => rfl)))
        (pss_cons (ps_set (i := 14) sc_deal.nd rfl (.inl rfl) (pe_dget1 (hu_of hr) (pv 1) (pv 13) ⟨rfl, rfl, rfl, rfl⟩))
        (pss_cons (ps_if (PW.pt (pw_and (pt_cmpR op_eq (pv 8) pe_int (nomark _)) (pw_and1 (pt_cmpR op_lt (pv 11) pe_int (nomark _)))))
          (pss_one (ps_set (i := 14) sc_deal.nd rfl (.inl rfl) (pe_ix (r := rIxL K) ix_list (pe_lst (pa_cons pe_non (pa_cons (pv 12) pa_nil))) (pv 11) (fun _ _ => rfl)))) pss_nil)
        (pss_one (ps_expr (pe_bm PySem.F.plainAttrs_list PySem.F.slot_list_append PySem.F.type_list_append mt_append (pv 4) (pa_cons (pe_tup (pa_cons (pv 13) (pa_cons (pv 14) pa_nil))) pa_nil)))))))))
      (pss_cons (ps_for PassesOwn.never rfl (pi_range1 rfl mR (pa_cons (pv 7) pa_nil)) (pg_name (i := 9) sc_deal.nd rfl (Or.inl rfl))
        (pss_one (ps_expr (pe_bm PySem.F.plainAttrs_list PySem.F.slot_list_append PySem.F.type_list_append mt_append (pv 5) (pa_cons (pe_use UE hr (by rfl) (pa_cons (pv 0) (pa_cons (pe_op op_add (pe_op op_fdiv (pv 3) (pe_op op_add (pv 9) pe_int)) (pe_op op_mul (pv 9) (pv 2))) pa_nil))) pa_nil)))))
      (pss_one (ps_ret (pe_tup (pa_cons (pe_callTy call_tuple_of (by rfl) mT (by decide +kernel) (pa_cons (pv 4) pa_nil)) (pa_cons (pe_callTy call_tuple_of (by rfl) mT (by decide +kernel) (pa_cons (pv 5) pa_nil)) pa_nil)))))))))), ?_⟩
    have hlen : (ks.map V.str).length = ks.length := List.length_map _
    refine ⟨Nat.zero_le _, fun C nC => ⟨Nat.zero_le _, fun D nD => ?_⟩⟩
    have smC : Same H (upd H C (.lst [])) := same_new nC
    have smD : Same H (upd (upd H C (.lst [])) D (.lst [])) := smC.new nD
    have nCD : C ≠ D := ne_of_none upd_same nD
    have eC : (upd (upd H C (.lst [])) D (.lst [])) C = some (.lst []) := by rw [upd_ne nCD, upd_same]
    have fC : ∀ {H2 : Hp} {o : HO}, Same H H2 → Same H (upd H2 C o) := fun sm b o hb => by rw [upd_ne (ne_of_none hb nC)]; exact sm b o hb
    have nD' : H D = none := by
      cases e : H D with
      | none => rfl
      | some o => rw [smC _ _ e] at nD; cases nD
    have fD : ∀ {H2 : Hp} {o : HO}, Same H H2 → Same H (upd H2 D o) := fun sm b o hb => by rw [upd_ne (ne_of_none hb nD')]; exact sm b o hb
    refine ⟨.int r, rfl, by show 3 ≤ sizeLine; decide, fun L nL => ?_⟩
    refine ⟨r, L, [5, 7, 3], rfl, SqL.of upd_same, (by decide), (by decide), fun H2 E ds sm hE dg => ?_⟩
    obtain ⟨x, y, z, rfl, bx, by', bz⟩ := dig3 dg
    have sm2 : Same H H2 := (smD.new nL).trans sm
    have hC2 : H2 C = some (.lst []) := sm _ _ (same_new nL _ _ eC)
    have hD2 : H2 D = some (.lst []) := sm _ _ (same_new nL _ _ upd_same)
    refine ⟨E, _, rfl, SqL.of hE, rfl, _, _, rfl, _, _, rfl, _, _, rfl, rfl, ?_⟩
    -- behind the choice of how many deeds
    refine ⟨.int x, rfl, .int y, rfl, _, _, rfl, rfl, rfl, _, rfl, ?_⟩
    have two : ∀ Z : Int → Prop, (∀ y, 0 ≤ y ∧ y < 7 → Z y) → Z 1 ∧ Z y := fun Z h => ⟨h 1 (by decide), h y by'⟩
    refine ite2 (fun _ => ?_) (fun _ => ?_)
    all_goals
      refine ⟨.int x, rfl, _, rfl, by omega, by omega, ?_⟩
      refine for_range (n := x.toNat) (fun i σ H3 => ∃ (y9 y10 y11 y12 y13 y14 : Option V) (yy : Int), σ = [some (.ref a), some (.ref d), some (.int r), some (.int m), some (.ref C), some (.ref D), some (.int x), some (.int yy), some (.int z), y9, y10, y11, y12, y13, y14] ∧ (0 ≤ yy ∧ yy < 7) ∧ Same H H3 ∧ H3 D = some (.lst []) ∧
          ∃ (acc : List V) (checks : List (Str × V)), H3 C = some (.lst acc) ∧ AtAll K H3 acc (checks.map dCheck) ∧ checks.length = i ∧ (∀ c ∈ checks, isOpt c.2 = true) ∧ ∀ c ∈ checks, c.1 ∈ ks)
        ⟨_, _, _, _, _, _, _, rfl, (by first | exact by' | exact ⟨by decide, by decide⟩), sm2, hD2, [], [], hC2, .nil, rfl, (fun _ h => nomatch h), (fun _ h => nomatch h)⟩
        (fun i σ H3 hi ⟨y9, y10, y11, y12, y13, y14, yy, e, byy, sm3, hD3, acc, checks, hC3, hA, hl, ho, hk⟩ => ?_) (fun σ H3 ⟨y9, y10, y11, y12, y13, y14, yy, e, byy, sm3, hD3, acc, checks, hC3, hA, hl, ho, hk⟩ => ?_)
    case refine_1.refine_1 | refine_2.refine_1 =>
      subst e
      refine ⟨.int r, rfl, _, rfl, _, _, rfl, rfl, .inl ⟨by decide, by decide⟩, _, _, rfl, rfl, _, _, rfl, rfl, ⟨by show (0 : Int) < 107 + 10 * (0 + (i : Int)); omega, by show 107 + 10 * (0 + (i : Int)) < 1073741824; omega⟩, ?_⟩
      refine ⟨.ref a, rfl, a, _, rfl, .inl (sm3.seq hS), _, _, rfl, rfl, ⟨by decide, by decide, by decide⟩, by show 3 ≤ sizeLine; decide, fun L3 nL3 => ?_⟩
      refine ⟨_, L3, [((ks.map V.str).length : Int), 8, 10 ^ (9 : Int).toNat], rfl, SqL.of upd_same, ?_, (by show 3 ≤ 10; decide), fun H4 E4 ds4 sm4 hE4 dg4 => ?_⟩
      · intro s hs
        rcases List.mem_cons.mp hs with e | hs
        · rw [e, hlen]; omega
        rcases List.mem_cons.mp hs with e | hs
        · rw [e]; decide
        rw [List.mem_singleton.mp hs]; decide
      obtain ⟨at', kind, val', rfl, b1, b2, b3⟩ := dig3 dg4
      have smL : Same H3 H4 := (same_new nL3).trans sm4
      obtain ⟨kk, hkk, ek⟩ := atI_texts (ks := ks) b1.1 (by have := b1.2; rw [hlen] at this; exact this)
      refine ⟨E4, _, rfl, SqL.of hE4, rfl, _, _, rfl, _, _, rfl, _, _, rfl, rfl, ?_⟩
      refine ⟨.ref a, rfl, .int at', rfl, a, _, _, .str kk, rfl, rfl, (sm3.trans smL).seq hS, ek, ?_⟩
      have hd4 := smL _ _ (sm3 _ _ hD)
      refine ⟨.ref d, rfl, d, rfl, .inl ⟨kvs, .inl hd4⟩, .str kk, rfl, val kvs kk, DGet.k (k := Sum.inr kk) hd4, ?_⟩
      -- the check is appended
      have app : ∀ (H5 : Hp) (v : V), Same H4 H5 → isOpt v = true → ∀ t, H5 t = none → ∃ acc', (upd H5 t (.tup [.str kk, v])) C = some (.lst acc') ∧ acc'.length < sizeLine ∧ Same H (upd (upd H5 t (.tup [.str kk, v])) C (.lst (acc' ++ [.ref t]))) ∧
          (upd (upd H5 t (.tup [.str kk, v])) C (.lst (acc' ++ [.ref t]))) D = some (.lst []) ∧ ∃ (acc2 : List V) (checks2 : List (Str × V)), (upd (upd H5 t (.tup [.str kk, v])) C (.lst (acc' ++ [.ref t]))) C = some (.lst acc2) ∧
            AtAll K (upd (upd H5 t (.tup [.str kk, v])) C (.lst (acc' ++ [.ref t]))) acc2 (checks2.map dCheck) ∧ checks2.length = i + 1 ∧ (∀ c ∈ checks2, isOpt c.2 = true) ∧ ∀ c ∈ checks2, c.1 ∈ ks := by
        intro H5 v sm5 hv t nt
        have smT : Same H3 (upd H5 t (.tup [.str kk, v])) := (smL.trans sm5).new nt
        have hCT := smT _ _ hC3
        have tk : TK K (upd H5 t (.tup [.str kk, v])) (upd (upd H5 t (.tup [.str kk, v])) C (.lst (acc ++ [.ref t]))) := tk_upd (by rw [hCT]; trivial)
        refine ⟨acc, hCT, by rw [hA.length, List.length_map, sizeLine_eq]; omega, fC (sm3.trans smT), by rw [upd_ne nCD.symm]; exact smT _ _ hD3, acc ++ [.ref t], checks ++ [(kk, v)], upd_same, ?_, by rw [List.length_append]; exact congrArg (· + 1) hl, fun c hc => ?_, fun c hc => ?_⟩
        · rw [List.map_append]
          exact ((hA.keep smT.tk).snoc (.tup (SqT.of upd_same) (.cons (.str _) (.cons (at_dV hv) .nil)))).keep tk
        · rcases List.mem_append.mp hc with h | h
          · exact ho c h
          · rw [List.mem_singleton.mp h]; exact hv
        · rcases List.mem_append.mp hc with h | h
          · exact hk c h
          · rw [List.mem_singleton.mp h]; exact hkk
      refine ⟨.int z, rfl, rfl, _, rfl, ite2 (fun _ => ⟨.int kind, rfl, _, _, rfl, rfl, _, rfl, ite2 (fun e2 => ?_) (fun _ => ?_)⟩) (fun _ => iteF ?_)⟩
      · have lt2 : kind < 2 := of_decide_eq_true e2
        refine ⟨.int val', rfl, by show 2 ≤ sizeLine; decide, fun L5 nL5 => ?_⟩
        obtain ⟨v, hv, ev⟩ := atI_in (xs := [V.non, .int val']) (i := kind) b2.1 (by show kind < 2; exact lt2)
        have ov : isOpt v = true := by
          rcases List.mem_cons.mp hv with e | hv
          · rw [e]; rfl
          · rw [List.mem_singleton.mp hv]; rfl
        refine ⟨.int kind, rfl, L5, _, _, v, rfl, rfl, SqL.of upd_same, ev, ?_⟩
        refine ⟨.ref C, rfl, .inl ⟨rfl, _, .inl (.inl (same_new nL5 _ _ (smL _ _ hC3)))⟩, .str kk, rfl, v, rfl, by show 2 ≤ sizeLine; decide, fun t nt => ?_⟩
        obtain ⟨acc', p1, p2, p3, p4, p5⟩ := app _ v (same_new nL5) ov t nt
        exact ⟨C, acc', .ref t, rfl, rfl, p1, p2, _, _, _, _, _, _, yy, rfl, byy, p3, p4, p5⟩
      · refine ⟨.ref C, rfl, .inl ⟨rfl, _, .inl (.inl (smL _ _ hC3))⟩, .str kk, rfl, _, rfl, by show 2 ≤ sizeLine; decide, fun t nt => ?_⟩
        obtain ⟨acc', p1, p2, p3, p4, p5⟩ := app _ _ (Same.refl _) (gd.look kk) t nt
        exact ⟨C, acc', .ref t, rfl, rfl, p1, p2, _, _, _, _, _, _, yy, rfl, byy, p3, p4, p5⟩
      · refine ⟨.ref C, rfl, .inl ⟨rfl, _, .inl (.inl (smL _ _ hC3))⟩, .str kk, rfl, _, rfl, by show 2 ≤ sizeLine; decide, fun t nt => ?_⟩
        obtain ⟨acc', p1, p2, p3, p4, p5⟩ := app _ _ (Same.refl _) (gd.look kk) t nt
        exact ⟨C, acc', .ref t, rfl, rfl, p1, p2, _, _, _, _, _, _, yy, rfl, byy, p3, p4, p5⟩
    all_goals
      subst e
      refine ⟨.int yy, rfl, _, rfl, by omega, by omega, ?_⟩
      refine for_range (n := yy.toNat) (fun i σ H4 => ∃ (y9 : Option V), σ = [some (.ref a), some (.ref d), some (.int r), some (.int m), some (.ref C), some (.ref D), some (.int x), some (.int yy), some (.int z), y9, y10, y11, y12, y13, y14] ∧ Same H H4 ∧ H4 C = some (.lst acc) ∧ AtAll K H4 acc (checks.map dCheck) ∧
          ∃ (acc2 : List V) (deeds : List Deed), H4 D = some (.lst acc2) ∧ AtAll K H4 acc2 (deeds.map dDeed) ∧ deeds.length = i ∧ (∀ c ∈ deeds, c.Ok) ∧ ∀ c ∈ deeds, c.key ∈ ks)
        ⟨_, rfl, sm3, hC3, hA, [], [], hD3, .nil, rfl, (fun _ h => nomatch h), (fun _ h => nomatch h)⟩
        (fun i σ H4 hi ⟨y9, e, sm4, hC4, hA4, acc2, deeds, hD4, hB, hl2, ho2, hk2⟩ => ?_) (fun σ H4 ⟨y9, e, sm4, hC4, hA4, acc2, deeds, hD4, hB, hl2, ho2, hk2⟩ => ?_)
      · subst e
        refine ⟨.ref D, rfl, .inl ⟨rfl, _, .inl (.inl hD4)⟩, .ref a, rfl, .int m, rfl, _, rfl, _, _, rfl, rfl, _, _, rfl, rfl, ⟨by show (0 : Int) < 0 + (i : Int) + 1; omega, by show 0 + (i : Int) + 1 < 1073741824; omega⟩, _, rfl, .int r, rfl, _, _, rfl, rfl, .inl ⟨by omega, by omega⟩, _, _, rfl, rfl, ?_⟩
        refine ⟨a, ks, _, rfl, sm4.seq hS, h0, h1, fun H5 t dd sm5 ht ok' hkk => ?_⟩
        have hD5 := sm5 _ _ hD4
        have tk : TK K H5 (upd H5 D (.lst (acc2 ++ [t]))) := tk_upd (by rw [hD5]; trivial)
        refine ⟨D, acc2, t, rfl, rfl, hD5, by rw [hB.length, List.length_map, sizeLine_eq]; omega, _, rfl, fD (sm4.trans sm5), by rw [upd_ne nCD]; exact sm5 _ _ hC4, hA4.keep (sm5.tk.trans tk), acc2 ++ [t], deeds ++ [dd], upd_same, ?_, by rw [List.length_append]; exact congrArg (· + 1) hl2, fun c hc => ?_, fun c hc => ?_⟩
        · rw [List.map_append]
          exact ((hB.keep sm5.tk).snoc ht).keep tk
        · rcases List.mem_append.mp hc with h | h
          · exact ho2 c h
          · rw [List.mem_singleton.mp h]; exact ok'
        · rcases List.mem_append.mp hc with h | h
          · exact hk2 c h
          · rw [List.mem_singleton.mp h]; exact hkk
      · subst e
        refine ⟨.ref C, rfl, C, acc, rfl, .inl ⟨SqL.of hC4, fun t1 n1 => ?_⟩⟩
        refine ⟨.ref D, rfl, D, acc2, rfl, .inl ⟨SqL.of (same_new n1 _ _ hD4), fun t2 n2 => ?_⟩⟩
        refine ⟨by show 2 ≤ sizeLine; decide, fun t3 n3 => q _ _ checks deeds (((sm4.new n1).new n2).new n3) ?_ ⟨ho, ho2, by omega, by omega⟩ (fun s hs => ?_)⟩
        · have k1 := tk_new (K := K) (o := .tup acc) n1
          have k2 := tk_new (K := K) (o := .tup acc2) n2
          have k3 := tk_new (K := K) (o := .tup [.ref t1, .ref t2]) n3
          exact .tup (SqT.of upd_same) (.cons (.tup (k3 _ _ (k2 _ _ (SqT.of upd_same))) (hA4.keep (k1.trans (k2.trans k3)))) (.cons (.tup (k3 _ _ (SqT.of upd_same)) (hB.keep (k1.trans (k2.trans k3)))) .nil))
        · rcases List.mem_append.mp hs with h | h
          · obtain ⟨c, hc, rfl⟩ := List.mem_map.mp h
            exact hk c hc
          · obtain ⟨c, hc, rfl⟩ := List.mem_map.mp h
            exact hk2 c hc
end
end CK
/-! Law k05: _law_done, do_deal, _law_deal_done. -/
namespace CK
open PySem PySem.Spec PyProof.Rows L2
theorem zip_map1 {α β γ : Type} (f : α → γ) : ∀ (l : List α) (A : List β), (l.zip A).map (fun p => (f p.1, p.2)) = (l.map f).zip A
  | [], _ => rfl
  | _ :: _, [] => rfl
  | x :: l, y :: A => congrArg ((f x, y) :: ·) (zip_map1 f l A)
theorem zip_snd {α β : Type} : ∀ (l : List α) (A : List β), l.length = A.length → (l.zip A).map (fun p => p.2) = A
  | [], [], _ => rfl
  | [], _ :: _, h => nomatch h
  | _ :: _, [], h => nomatch h
  | x :: l, y :: A, h => congrArg (y :: ·) (zip_snd l A (Nat.succ.inj h))
theorem zip_snoc {α β : Type} (x : α) (y : β) : ∀ (l : List α) (A : List β), l.length = A.length → (l ++ [x]).zip (A ++ [y]) = l.zip A ++ [(x, y)]
  | [], [], _ => rfl
  | [], _ :: _, h => nomatch h
  | _ :: _, [], h => nomatch h
  | z :: l, u :: A, h => congrArg ((z, u) :: ·) (zip_snoc x y l A (Nat.succ.inj h))
theorem dV_inj {a b : V} (ha : isOpt a = true) (hb : isOpt b = true) (h : dV a = dV b) : a = b := by
  cases a <;> cases b <;> first | rfl | (injection h with h; rw [h]; done) | (cases ha; done) | (cases hb; done) | (cases h; done)
theorem dV_maps {α : Type} {f g : α → V} : ∀ {l : List α}, (∀ x ∈ l, isOpt (f x) = true) → (∀ x ∈ l, isOpt (g x) = true) → (l.map (fun x => dV (f x)) = l.map (fun x => dV (g x)) ↔ l.map f = l.map g)
  | [], _, _ => ⟨fun _ => rfl, fun _ => rfl⟩
  | x :: l, h1, h2 => by
    have ih := dV_maps (f := f) (g := g) (l := l) (fun y hy => h1 y (List.mem_cons_of_mem _ hy)) (fun y hy => h2 y (List.mem_cons_of_mem _ hy))
    simp only [List.map_cons, List.cons.injEq]
    rw [ih]
    exact ⟨fun ⟨a, b⟩ => ⟨dV_inj (h1 x List.mem_cons_self) (h2 x List.mem_cons_self) a, b⟩, fun ⟨a, b⟩ => ⟨congrArg dV a, b⟩⟩
theorem scal_opt {a b : V} (ha : isOpt a = true) (hb : isOpt b = true) : scal a b = true := by
  cases a <;> cases b <;> first | rfl | (cases ha; done) | (cases hb; done)
/-- what the whole deal answers, what rows it leaves -/
def due (kvs : Rows) (checks : List (Str × V)) (deeds : List Deed) : List V := if heldB kvs checks = true then answ kvs deeds else checks.map fun c => look kvs c.1
def rest (kvs : Rows) (checks : List (Str × V)) (deeds : List Deed) : Rows := if heldB kvs checks = true then fin kvs deeds else kvs
section
variable {K : PySem.W.Frag} {H1 : Hp} {D : Addr} {σ : L2.St} {vs : List Nat} {g : TG} {te : TE} {Qd : Hp → Prop} {α : Type} {l : List α}
/-- a comprehension that does a deed on the rows at r at each turn -/
theorem lcD {a r : Addr} {xs : List V} {f : α → PyData} {dd : α → Deed} {e : α × V → PyData} {kvs : Rows} (hT : SqT K H1 a xs) (hA : AtAll K H1 xs (l.map f)) (nD : H1 D = none) (hr : H1 r = some (.dK kvs)) (small : l.length < 1000000)
    (turn : ∀ i z x H, l[i]? = some z → But r H1 H → H r = some (.dK (fin kvs ((l.take i).map dd))) → At K H x (f z) → ∀ Q : VK, (∀ y H4, But r H H4 → H4 r = some (.dK (doDeed (fin kvs ((l.take i).map dd)) (dd z)).2) → At K H4 y (e (z, (doDeed (fin kvs ((l.take i).map dd)) (dd z)).1)) → Q y H4) →
      g x (wipe σ vs) H fun σ2 H2 => wipe σ2 vs = wipe σ vs ∧ te σ2 H2 Q)
    (done : ∀ Hf acc, But r H1 Hf → Hf r = some (.dK (fin kvs (l.map dd))) → Hf D = some (.lst acc) → AtAll K Hf acc ((l.zip (answ kvs (l.map dd))).map e) → Qd Hf) :
    ∃ W : Nat → Nat → Hp → Prop, (∃ m, W 0 m (upd H1 D (.lst []))) ∧ ∀ i m H, W i m H →
      ((Itt K a).stop i H ∧ Qd H) ∨ ((Itt K a).go i H ∧ ∃ Nx : Hp → Prop, (∀ H', Nx H' → ∃ m', m' < m ∧ W (i + 1) m' H') ∧ ∀ x H', (Itt K a).yld i H x H' → g x (wipe σ vs) H' fun σ2 H2 => wipe σ2 vs = wipe σ vs ∧ tYes σ2 H2 fun b H3 =>
        if b = true then te σ2 H3 fun y H4 => ∃ acc, H4 D = some (.lst acc) ∧ acc.length < sizeLine ∧ Nx (upd H4 D (.lst (acc ++ [y]))) else Nx H3) := by
  have len : xs.length = l.length := by rw [hA.length, List.length_map]
  have nr : D ≠ r := fun z => by rw [z, hr] at nD; cases nD
  refine lc_it (walk_tup (K := K) (a := a) (xs := xs)) (fun i H => But r H1 H ∧ H r = some (.dK (fin kvs ((l.take i).map dd))) ∧ ∃ acc, H D = some (.lst acc) ∧ AtAll K H acc (((l.take i).zip (answ kvs ((l.take i).map dd))).map e))
    ⟨(same_new nD).but r, ?_, [], upd_same, .nil⟩ (fun i H _ ⟨bt, _⟩ => bt.tk (by rw [hr]; trivial) _ _ hT) (fun i x H H' hi ⟨bt, er, acc, hD, hAcc⟩ y => ?_) (fun H ⟨bt, er, acc, hD, hAcc⟩ => ?_)
  · rw [upd_ne nr.symm]; exact hr
  · obtain ⟨rfl, ex⟩ := y
    have hi' : i < l.length := by omega
    obtain ⟨z, hz, qz⟩ := hA.at_map ex
    have tk := bt.tk (K := K) (by rw [hr]; trivial)
    have etake : l.take (i + 1) = l.take i ++ [z] := by rw [List.take_add_one, hz]; rfl
    refine turn i z x H' hz bt er (qz.keep tk) _ (fun y H4 b4 er4 hy => ?_)
    have hD4 : H4 D = some (.lst acc) := b4 _ _ nr hD
    have tk4 := b4.tk (K := K) (by rw [er]; trivial)
    have tkD : TK K H4 (upd H4 D (.lst (acc ++ [y]))) := tk_upd (by rw [hD4]; trivial)
    have la : (l.take i).length = (answ kvs ((l.take i).map dd)).length := by rw [answ_length, List.length_map]
    refine ⟨acc, hD4, ?_, fun b o nb hb => ?_, ?_, acc ++ [y], upd_same, ?_⟩
    · rw [hAcc.length, List.length_map, List.length_zip, ← la, Nat.min_self, List.length_take, sizeLine_eq]
      omega
    · rw [upd_ne (ne_of_none hb nD)]
      exact b4 _ _ nb (bt _ _ nb hb)
    · rw [upd_ne nr.symm, er4, etake, List.map_append, List.map_cons, List.map_nil, fin_snoc]
    · rw [etake, List.map_append, List.map_cons, List.map_nil, answ_snoc, zip_snoc _ _ _ _ la, List.map_append]
      exact (((hAcc.keep tk4).snoc hy).keep tkD)
  · rw [len, List.take_length] at er hAcc
    exact done H acc bt er hD hAcc
end
theorem ty_tup {K : PySem.W.Frag} {H : Hp} {a : Addr} {xs : List V} (h : SqT K H a xs) : TyX K H (.ref a) (.type "tuple") := by
  rcases h with (h | ⟨o, h⟩) | ⟨o, its, n, h, c, _⟩
  · exact .base (.tup h)
  · exact .fTuple h
  · exact .kTuple h c
section
variable {P : Program} {w : World} {K : PySem.W.Frag} {mg : Str → Option Value} {base : Heap}

/-! ### do_deal -/
def spDealt (K : PySem.W.Frag) : Sp := fun vs H Q _ => ∃ (r : Addr) (kvs : Rows) (x : V) (checks : List (Str × V)) (deeds : List Deed), vs = [.ref r, x] ∧ H r = some (.dK kvs) ∧ Good kvs ∧ kvs.length < 1000 ∧ At K H x (dDeal checks deeds) ∧ DealOk checks deeds ∧
  ∀ H' y, But r H H' → H' r = some (.dK (rest kvs checks deeds)) → At K H' y (dAns (heldB kvs checks) (due kvs checks deeds)) → Q y H'
abbrev N_doDeal : List Str := ["rows", "deal", "checks", "deeds", "values", "key", "value", "deed"]
theorem at_ans {H : Hp} {p t : Addr} {b : Bool} {vs : List V} (hT : SqT K H p [.str (word b), .ref t]) (hA : At K H (.ref t) (.tuple (vs.map dV))) : At K H (.ref p) (dAns b vs) :=
  .tup hT (.cons (.str _) (.cons hA .nil))
theorem ok_doDeal {f : Addr} {fd : FuncData} {k : Nat} (F : Fun K "do_deal" "do_deal" s_doDeal f fd) (UA : Use P w K mg base "apply_deed" (k + 4) ["rows", "deed"] (spApplyDeed K)) (mT : mg "tuple" = none) :
    FnOk P w K mg base CX0 (k + 5) f fd ["rows", "deal"] (spDealt K) := by
  refine F.ok sc_doDeal (fun vs H Q E h => ?_) (fun cdv A outer s H vs Q E hr h => ?_)
  · obtain ⟨r, kvs, x, checks, deeds, rfl, _⟩ := h
    rfl
  · obtain ⟨r, kvs, x, checks, deeds, rfl, hH, gd, hl, hx, dok, q⟩ := h
    refine ⟨_, pss_cons (ps_asg (pv 1) (pg_tup rfl (pgs_cons (pg_name (i := 2) sc_doDeal.nd rfl (Or.inl rfl)) (pgs_cons (pg_name (i := 3) sc_doDeal.nd rfl (Or.inl rfl)) pgs_nil))))
      (pss_cons (ps_set (i := 4) sc_doDeal.nd rfl (.inl rfl) (pe_callTy call_tuple_of (by rfl) mT (by decide +kernel) (pa_cons
        (pe_lc (own := [("key", 5), ("value", 6)]) (g := gTup K 2 (gCons (gName 5) (gCons (gName 6) gNil))) (tt := tYes) rfl sc_doDeal.nd (pi_tup (pv 2)) (blkOk_by (N := N_doDeal) (sc := defScope s_doDeal) (by decide +kernel))
          (fun _ _ _ _ _ => pg_tup rfl (pgs_cons (pg_name (i := 5) sc_doDeal.nd rfl (Or.inl rfl)) (pgs_cons (pg_name (i := 6) sc_doDeal.nd rfl (Or.inl rfl)) pgs_nil)))
          (fun _ _ _ _ _ => pts_nil) (fun _ _ _ _ _ => pe_dget1 (hu_of hr) (pv 0) (pv 5) ⟨rfl, rfl, rfl, rfl⟩)) pa_nil)))
      (pss_cons (ps_if (pt_cmpR (r := rNeP K) (op_neP hr.units) (pv 4) (pe_callTy call_tuple_of (by rfl) mT (by decide +kernel) (pa_cons
          (pe_lc (own := [("key", 5), ("value", 6)]) (g := gTup K 2 (gCons (gName 5) (gCons (gName 6) gNil))) (tt := tYes) rfl sc_doDeal.nd (pi_tup (pv 2)) (blkOk_by (N := N_doDeal) (sc := defScope s_doDeal) (by decide +kernel))
            (fun _ _ _ _ _ => pg_tup rfl (pgs_cons (pg_name (i := 5) sc_doDeal.nd rfl (Or.inl rfl)) (pgs_cons (pg_name (i := 6) sc_doDeal.nd rfl (Or.inl rfl)) pgs_nil)))
            (fun _ _ _ _ _ => pts_nil) (fun _ _ _ _ _ => pv 6)) pa_nil)) (nomark _))
        (pss_one (ps_ret (pe_tup (pa_cons pe_str (pa_cons (pv 4) pa_nil))))) pss_nil)
      (pss_one (ps_ret (pe_tup (pa_cons pe_str (pa_cons (pe_callTy call_tuple_of (by rfl) mT (by decide +kernel) (pa_cons
        (pe_lc (own := [("deed", 7)]) (g := gName 7) (tt := tYes) rfl sc_doDeal.nd (pi_tup (pv 3)) (blkOk_by (N := N_doDeal) (sc := defScope s_doDeal) (by decide +kernel))
          (fun _ _ _ _ _ => pg_name (i := 7) sc_doDeal.nd rfl (Or.inl rfl))
          (fun _ _ _ _ _ => pts_nil) (fun _ _ _ _ _ => pe_use UA hr (by rfl) (pa_cons (pv 0) (pa_cons (pv 7) pa_nil)))) pa_nil)) pa_nil))))))), ?_⟩
    obtain ⟨a, b, c, xs, ys, rfl, hT, hTb, hAb, hTc, hAc⟩ := at_two hx
    have fw1 := dok.few1
    have fw2 := dok.few2
    refine ⟨.ref a, rfl, a, _, rfl, hT, rfl, _, _, rfl, _, _, rfl, rfl, ?_⟩
    -- the values that stand
    refine ⟨.ref b, rfl, b, rfl, ⟨_, hTb⟩, fun D1 n1 => ?_⟩
    have all1 : checks.filter (fun _ => true) = checks := List.filter_eq_self.mpr fun _ _ => rfl
    refine lcT (K := K) (e := fun z : Str × V => dV (look kvs z.1)) (p := fun _ => true) hTb hAb n1 (by omega) (fun z y H2 hz sm hy => ?_) (fun H2 acc1 sm1 hD1 hA1 => ?_)
    · obtain ⟨a2, rfl, hq⟩ := at_check (dok.opt z hz) hy
      intro Q2 N2 hy hn
      refine ⟨a2, _, rfl, hq, rfl, _, _, rfl, _, _, rfl, rfl, rfl, ?_⟩
      have hd := sm _ _ hH
      refine ⟨.ref r, rfl, r, rfl, .inl ⟨kvs, .inl hd⟩, .str z.1, rfl, val kvs z.1, DGet.k (k := Sum.inr z.1) hd, ?_⟩
      exact hy rfl _ _ (Same.refl _) (at_dV (gd.look z.1))
    rw [all1] at hA1
    refine ⟨D1, _, rfl, .inl ⟨SqL.of hD1, fun t1 nt1 => ?_⟩⟩
    have smt1 : Same H (upd H2 t1 (.tup acc1)) := sm1.new nt1
    have at1 : At K (upd H2 t1 (.tup acc1)) (.ref t1) (.tuple (checks.map fun z => dV (look kvs z.1))) := .tup (SqT.of upd_same) (hA1.keep (tk_new nt1))
    refine ⟨.ref t1, rfl, .ref b, rfl, b, rfl, ⟨_, smt1.tk _ _ hTb⟩, fun D3 n3 => ?_⟩
    -- the values that are wanted
    refine lcT (K := K) (e := fun z : Str × V => dV z.2) (p := fun _ => true) (smt1.tk _ _ hTb) (hAb.keep smt1.tk) n3 (by omega) (fun z y H4 hz sm hy => ?_) (fun H4 acc3 sm3 hD3 hA3 => ?_)
    · obtain ⟨a2, rfl, hq⟩ := at_check (dok.opt z hz) hy
      intro Q2 N2 hy hn
      refine ⟨a2, _, rfl, hq, rfl, _, _, rfl, _, _, rfl, rfl, rfl, ?_⟩
      exact ⟨_, rfl, hy rfl _ _ (Same.refl _) (at_dV (dok.opt z hz))⟩
    rw [all1] at hA3
    refine ⟨D3, _, rfl, .inl ⟨SqL.of hD3, fun t3 nt3 => ?_⟩⟩
    have smt3 : Same (upd H2 t1 (.tup acc1)) (upd H4 t3 (.tup acc3)) := sm3.new nt3
    have at3 : At K (upd H4 t3 (.tup acc3)) (.ref t3) (.tuple (checks.map fun z => dV z.2)) := .tup (SqT.of upd_same) (hA3.keep (tk_new nt3))
    have at1' := at1.keep smt3.tk
    have dp1 := dep_vs (checks.map fun z => look kvs z.1)
    rw [List.map_map] at dp1
    have eqh : PyData.tuple (checks.map fun z => dV (look kvs z.1)) = .tuple (checks.map fun z => dV z.2) ↔ heldB kvs checks = true := by
      unfold heldB
      rw [decide_eq_true_eq, ← dV_maps (f := fun z : Str × V => look kvs z.1) (g := fun z => z.2) (fun z _ => gd.look z.1) (fun z hz => dok.opt z hz)]
      exact ⟨fun h => by injection h, fun h => by rw [h]⟩
    refine ⟨_, _, at1'.dp, at3.dp, ?_, ?_, Nat.le_trans dp1 (by decide), fun e => ?_, fun e => ?_⟩
    · have := pl_vs (checks.map fun z => look kvs z.1)
      rw [List.map_map] at this
      exact this
    · have := pl_vs (checks.map fun z => z.2)
      rw [List.map_map] at this
      exact this
    · -- it holds: the deeds
      have held := eqh.mp e
      have sm5 : Same H (upd H4 t3 (.tup acc3)) := smt1.trans smt3
      refine ⟨_, rfl, ?_⟩
      refine ⟨.ref c, rfl, c, rfl, ⟨_, sm5.tk _ _ hTc⟩, fun D5 n5 => ?_⟩
      refine lcD (K := K) (f := dDeed) (dd := fun d => d) (e := fun p : Deed × V => dV p.2) (sm5.tk _ _ hTc) (hAc.keep sm5.tk) n5 (sm5 _ _ hH) (by omega) (fun i z y H6 hz bt er hy => ?_) (fun H6 acc bt er hD hA => ?_)
      · intro Q2 hq
        have hm := List.mem_of_getElem? hz
        have gi : Good (fin kvs ((deeds.take i).map fun d => d)) := fin_good _ gd fun d hd => by
          obtain ⟨d', h', rfl⟩ := List.mem_map.mp hd
          exact dok.ok _ (List.mem_of_mem_take h')
        have fl := fin_len ((deeds.take i).map fun d => d) kvs
        rw [List.length_map, List.length_take] at fl
        refine ⟨rfl, .ref r, rfl, _, rfl, r, _, _, z, rfl, er, gi, by omega, hy, dok.ok z hm, ?_⟩
        exact hq _ _ (fun b o nb hb => by rw [upd_ne nb]; exact hb) upd_same (at_dV (doDeed_opt gi z))
      · rw [List.map_id'] at er hA
        refine ⟨D5, acc, rfl, .inl ⟨SqL.of hD, fun t6 n6 => ⟨by show 2 ≤ sizeLine; decide, fun p np => q _ _ ?_ ?_ ?_⟩⟩⟩
        · exact ((((sm5.but r).trans bt).new n6).new np)
        · rw [show rest kvs checks deeds = fin kvs deeds from if_pos held]
          exact same_new np _ _ (same_new n6 _ _ er)
        · rw [held, show due kvs checks deeds = answ kvs deeds from if_pos held]
          refine at_ans (t := t6) (SqT.of upd_same) ?_
          refine .tup (tk_new np _ _ (SqT.of upd_same)) ?_
          have e2 : (deeds.zip (answ kvs deeds)).map (fun p : Deed × V => dV p.2) = (answ kvs deeds).map dV := by
            have z := congrArg (List.map dV) (zip_snd deeds (answ kvs deeds) (answ_length _ _).symm)
            rw [List.map_map] at z
            exact z
          rw [e2] at hA
          exact hA.keep ((tk_new n6).trans (tk_new np))
    · have nh : heldB kvs checks = false := Bool.eq_false_iff.mpr fun z => e (eqh.mpr z)
      refine ⟨_, rfl, _, rfl, by show 2 ≤ sizeLine; decide, fun p np => q _ _ ?_ ?_ ?_⟩
      · exact (((smt1.trans smt3).new np).but r)
      · rw [show rest kvs checks deeds = kvs from if_neg (by rw [nh]; exact Bool.false_ne_true)]
        exact ((smt1.trans smt3).new np) _ _ hH
      · rw [nh, show due kvs checks deeds = checks.map (fun c => look kvs c.1) from if_neg (by rw [nh]; exact Bool.false_ne_true)]
        refine at_ans (t := t1) (SqT.of upd_same) ?_
        rw [List.map_map]
        exact at1'.keep (tk_new np)
end
end CK
/-! Law k05: _law_done, _law_deal_done. -/
namespace CK
open PySem PySem.Spec PyProof.Rows L2
section
variable {P : Program} {w : World} {K : PySem.W.Frag} {mg : Str → Option Value} {base : Heap}
/-- a deed's tuple, its word and what more stands in it -/
theorem at_deed' {H : Hp} {x : V} {d : Deed} (ok : d.Ok) (hd : At K H x (dDeed d)) : ∃ a word more, x = .ref a ∧ SqT K H a (.str word :: .str d.key :: more) ∧
    ((∃ k, d = .get k ∧ word = "get") ∨ (∃ k v, d = .put k v ∧ word = "put" ∧ more = [v]) ∨ (∃ k, d = .del k ∧ word = "del") ∨ ∃ k n, d = .add k n ∧ word = "add" ∧ more = [.int n]) := by
  cases d with
  | get k =>
    obtain ⟨a, xs, rfl, hT, hA⟩ := at_tup hd
    obtain ⟨v, u, e1, q1, q2⟩ := all2 hA
    rw [e1, at_str q1, at_str q2] at hT
    exact ⟨a, _, _, rfl, hT, .inl ⟨k, rfl, rfl⟩⟩
  | put k z =>
    obtain ⟨a, xs, rfl, hT, hA⟩ := at_tup hd
    obtain ⟨v, u, y, e1, q1, q2, q3⟩ := all3 hA
    rw [e1, at_str q1, at_str q2, of_dV (opt_of ok) q3] at hT
    exact ⟨a, _, _, rfl, hT, .inr (.inl ⟨k, z, rfl, rfl, rfl⟩)⟩
  | del k =>
    obtain ⟨a, xs, rfl, hT, hA⟩ := at_tup hd
    obtain ⟨v, u, e1, q1, q2⟩ := all2 hA
    rw [e1, at_str q1, at_str q2] at hT
    exact ⟨a, _, _, rfl, hT, .inr (.inr (.inl ⟨k, rfl, rfl⟩))⟩
  | add k n =>
    obtain ⟨a, xs, rfl, hT, hA⟩ := at_tup hd
    obtain ⟨v, u, y, e1, q1, q2, q3⟩ := all3 hA
    rw [e1, at_str q1, at_str q2, at_int q3] at hT
    exact ⟨a, _, _, rfl, hT, .inr (.inr (.inr ⟨k, n, rfl, rfl, rfl⟩))⟩

theorem ok_done {f : Addr} {fd : FuncData} {k : Nat} (F : Fun K "_law_done" "_law_done" s_done f fd) (m1 : mg "isinstance" = none) (m2 : mg "str" = none) :
    FnOk P w K mg base CX0 (k + 1) f fd ["_law_rows_here", "_law_deed_here"] (spApplyDeed K) := by
  refine F.ok sc_done (fun vs H Q E h => ?_) (fun cdv A outer s H vs Q E hr h => ?_)
  · obtain ⟨r, kvs, x, d, rfl, _⟩ := h
    rfl
  · obtain ⟨r, kvs, x, d, rfl, hH, g, hlen, hd, ok, q⟩ := h
    have hl : kvs.length < sizeLine := by rw [sizeLine_eq]; omega
    refine ⟨_, pss_cons (ps_set (i := 2) sc_done.nd rfl (.inl rfl) (pe_ix (r := rIxT K) ix_tup (pv 1) pe_int (fun _ _ => rfl)))
      (pss_cons (ps_set (i := 3) sc_done.nd rfl (.inl rfl) (pe_dget1 (hu_of hr) (pv 0) (pv 2) ⟨rfl, rfl, rfl, rfl⟩))
      (pss_cons (ps_if (pt_cmpR op_eq (pe_ix (r := rIxT K) ix_tup (pv 1) pe_int (fun _ _ => rfl)) pe_str (nomark _))
        (pss_one (ps_dput (hu_of hr) (pv 0) (pv 2) (pe_ix (r := rIxT K) ix_tup (pv 1) pe_int (fun _ _ => rfl)) rfl)) pss_nil)
      (pss_cons (ps_if (PW.pt (pw_and (pt_cmpR op_eq (pe_ix (r := rIxT K) ix_tup (pv 1) pe_int (fun _ _ => rfl)) pe_str (nomark _)) (pw_and1 (pt_cmp (pc_din (hu_of hr) (pv 2) (pv 0))))))
        (pss_one (ps_expr (pe_dpop1 (pv 0) (pv 2) ⟨rfl, rfl, rfl, rfl⟩))) pss_nil)
      (pss_cons (ps_if (pt_cmpR op_eq (pe_ix (r := rIxT K) ix_tup (pv 1) pe_int (fun _ _ => rfl)) pe_str (nomark _))
        (pss_cons (ps_if (pt_cmp (pc_isN (pv 3)))
          (pss_cons (ps_dput (hu_of hr) (pv 0) (pv 2) (pe_ix (r := rIxT K) ix_tup (pv 1) pe_int (fun _ _ => rfl)) rfl)
            (pss_one (ps_ret (pe_ix (r := rIxT K) ix_tup (pv 1) pe_int (fun _ _ => rfl))))) pss_nil)
        (pss_cons (ps_if (PW.pt (pw_or (pt_val (pe_callB call_isi (by rfl) m1 (by decide +kernel) (pa_cons (pv 3) (pa_cons (pe_bltn (v := .ty "str") (by rfl) m2 (by decide +kernel) rfl) pa_nil))))
            (pw_or (pt_cmpR op_gt (pe_op op_add (pv 3) (pe_ix (r := rIxT K) ix_tup (pv 1) pe_int (fun _ _ => rfl))) (pe_op op_pow pe_int pe_int) (nomark _))
            (pw_or1 (pt_cmpR op_lt (pe_op op_add (pv 3) (pe_ix (r := rIxT K) ix_tup (pv 1) pe_int (fun _ _ => rfl))) (pe_un un_neg (pe_op op_pow pe_int pe_int)) (nomark _))))))
          (pss_one (ps_ret pe_non)) pss_nil)
        (pss_cons (ps_dput (hu_of hr) (pv 0) (pv 2) (pe_op op_add (pv 3) (pe_ix (r := rIxT K) ix_tup (pv 1) pe_int (fun _ _ => rfl))) rfl)
        (pss_one (ps_ret (pe_op op_add (pv 3) (pe_ix (r := rIxT K) ix_tup (pv 1) pe_int (fun _ _ => rfl)))))))) pss_nil)
      (pss_one (ps_ret (pv 3))))))), ?_⟩
    obtain ⟨a, word, more, rfl, hT, kind⟩ := at_deed' ok hd
    have g0 : atI (.str word :: .str d.key :: more) 0 = some (.str word) := atI_nat (j := 0) rfl
    have g1 : atI (.str word :: .str d.key :: more) 1 = some (.str d.key) := atI_nat (j := 1) rfl
    refine ⟨.ref a, rfl, a, _, 1, .str d.key, rfl, rfl, hT, g1, ?_⟩
    refine ⟨.ref r, rfl, r, rfl, .inl ⟨kvs, .inl hH⟩, .str d.key, rfl, val kvs d.key, DGet.k (k := Sum.inr d.key) hH, ?_⟩
    refine ⟨.ref a, rfl, a, _, 0, .str word, rfl, rfl, hT, g0, rfl, _, rfl, ?_⟩
    rcases kind with ⟨k, rfl, rfl⟩ | ⟨k, v, rfl, rfl, rfl⟩ | ⟨k, rfl, rfl⟩ | ⟨k, n, rfl, rfl, rfl⟩
    · rw [str_ne (by decide)]
      refine iteF ⟨.ref a, rfl, a, _, 0, _, rfl, rfl, hT, g0, rfl, _, rfl, ?_⟩
      rw [str_ne (by decide)]
      refine iteF (iteF ⟨.ref a, rfl, a, _, 0, _, rfl, rfl, hT, g0, rfl, _, rfl, ?_⟩)
      rw [str_ne (by decide)]
      refine iteF ⟨_, rfl, ?_⟩
      have q' : Q (look kvs k) (upd H r (.dK kvs)) := q
      rw [upd_self hH] at q'
      exact q'
    · rw [decide_eq_true rfl]
      refine iteT ⟨.ref a, rfl, a, _, 2, v, rfl, rfl, hT, atI_nat (j := 2) rfl, .ref r, rfl, .str k, rfl, r, _, rfl, DPut.k (k := Sum.inr k) hH hl, ?_⟩
      have hT' : SqT K (upd H r (.dK (putK kvs (Sum.inr k) v))) a (.str "put" :: .str k :: [v]) := tk_upd (by rw [hH]; trivial) _ _ hT
      refine ⟨.ref a, rfl, a, _, 0, _, rfl, rfl, hT', g0, rfl, _, rfl, ?_⟩
      rw [str_ne (by decide)]
      refine iteF (iteF ⟨.ref a, rfl, a, _, 0, _, rfl, rfl, hT', g0, rfl, _, rfl, ?_⟩)
      rw [str_ne (by decide)]
      exact iteF ⟨_, rfl, q⟩
    · rw [str_ne (by decide)]
      refine iteF ⟨.ref a, rfl, a, _, 0, _, rfl, rfl, hT, g0, rfl, _, rfl, ?_⟩
      rw [decide_eq_true rfl]
      refine iteT ⟨.str k, rfl, .ref r, rfl, r, val kvs k, rfl, DGet.k (k := Sum.inr k) hH, _, rfl, ?_⟩
      have q' : Q (look kvs k) (upd H r (.dK (drop kvs k))) := q
      cases hv : val kvs k with
      | none =>
        refine iteF ⟨.ref a, rfl, a, _, 0, _, rfl, rfl, hT, g0, rfl, _, rfl, ?_⟩
        rw [str_ne (by decide)]
        refine iteF ⟨_, rfl, ?_⟩
        rw [drop_absent hv, upd_self hH] at q'
        exact q'
      | some v =>
        refine iteT ⟨.ref r, rfl, r, rfl, .inl ⟨kvs, .inl hH⟩, .str k, rfl, kvs, Sum.inr k, v, hH, rfl, hv, ?_⟩
        have hT' : SqT K (upd H r (.dK (dropK kvs (Sum.inr k)))) a (.str "del" :: .str k :: more) := tk_upd (by rw [hH]; trivial) _ _ hT
        refine ⟨.ref a, rfl, a, _, 0, _, rfl, rfl, hT', g0, rfl, _, rfl, ?_⟩
        rw [str_ne (by decide)]
        exact iteF ⟨_, rfl, q'⟩
    · rw [str_ne (by decide)]
      refine iteF ⟨.ref a, rfl, a, _, 0, _, rfl, rfl, hT, g0, rfl, _, rfl, ?_⟩
      rw [str_ne (by decide)]
      refine iteF (iteF ⟨.ref a, rfl, a, _, 0, _, rfl, rfl, hT, g0, rfl, _, rfl, ?_⟩)
      rw [decide_eq_true rfl]
      have g2 : atI (.str "add" :: .str k :: [V.int n]) 2 = some (.int n) := atI_nat (j := 2) rfl
      refine iteT ?_
      have q' : Q (addTo kvs k n).1 (upd H r (.dK (addTo kvs k n).2)) := q
      unfold addTo at q'
      have store : ∀ v : V, SqT K (upd H r (.dK (putK kvs (Sum.inr k) v))) a (.str "add" :: .str k :: [V.int n]) := fun v => tk_upd (by rw [hH]; trivial) _ _ hT
      cases hv : val kvs k with
      | none =>
        rw [hv] at q'
        have hv' : val kvs (Deed.add k n).key = none := hv
        rw [hv']
        refine ⟨_, rfl, true, rfl, ?_⟩
        refine iteT ⟨.ref a, rfl, a, _, 2, _, rfl, rfl, hT, g2, .ref r, rfl, .str k, rfl, r, _, rfl, DPut.k (k := Sum.inr k) hH hl, ?_⟩
        exact ⟨.ref a, rfl, a, _, 2, _, rfl, rfl, store _, g2, q'⟩
      | some v =>
        have iv := g.val hv
        rw [hv] at q'
        have hv' : val kvs (Deed.add k n).key = some v := hv
        rw [hv']
        cases v with
        | int i =>
          have q2 : Q (if -big ≤ i + n ∧ i + n ≤ big then (V.int (i + n), put kvs k (.int (i + n))) else (.non, kvs)).1 (upd H r (.dK (if -big ≤ i + n ∧ i + n ≤ big then (V.int (i + n), put kvs k (.int (i + n))) else (.non, kvs)).2)) := q'
          refine ⟨_, rfl, false, rfl, ?_⟩
          refine iteF ⟨.int i, rfl, .int i, .ty "str", _, _, _, rfl, .ty _, ty_flat (v := .int i) rfl, isi_str rfl, false, rfl, ?_⟩
          refine iteF ⟨.int i, rfl, .ref a, rfl, a, _, 2, .int n, rfl, rfl, hT, g2, i, n, rfl, rfl, _, _, rfl, rfl, ⟨by decide, by decide, by decide⟩, _, _, rfl, rfl, _, rfl, ite2 (fun e => ?_) (fun e => ?_)⟩
          · have e' : big < i + n := of_decide_eq_true e
            rw [if_neg (fun z => by omega), upd_self hH] at q2
            exact iteT q2
          · have e' : ¬ big < i + n := fun z => e (decide_eq_true z)
            refine ⟨.int i, rfl, .ref a, rfl, a, _, 2, .int n, rfl, rfl, hT, g2, i, n, rfl, rfl, _, _, rfl, rfl, ⟨by decide, by decide, by decide⟩, _, rfl, _, _, rfl, rfl, _, rfl, ite2 (fun e2 => ?_) (fun e2 => ?_)⟩
            · have e2' : i + n < -big := of_decide_eq_true e2
              rw [if_neg (fun z => by omega), upd_self hH] at q2
              exact q2
            · have e2' : ¬ i + n < -big := fun z => e2 (decide_eq_true z)
              rw [if_pos ⟨by omega, by omega⟩] at q2
              refine ⟨.int i, rfl, .ref a, rfl, a, _, 2, .int n, rfl, rfl, hT, g2, i, n, rfl, rfl, .ref r, rfl, .str k, rfl, r, _, rfl, DPut.k (k := Sum.inr k) hH hl, ?_⟩
              exact ⟨.int i, rfl, .ref a, rfl, a, _, 2, .int n, rfl, rfl, store _, g2, i, n, rfl, rfl, q2⟩
        | str z =>
          refine ⟨_, rfl, false, rfl, ?_⟩
          refine iteF ⟨.str z, rfl, .str z, .ty "str", _, _, _, rfl, .ty _, ty_flat (v := .str z) rfl, isi_str rfl, true, rfl, ?_⟩
          have q2 : Q .non (upd H r (.dK kvs)) := q'
          rw [upd_self hH] at q2
          exact iteT (iteT q2)
        | _ => cases iv
end
end CK
/-! Law k05: _law_deal_done, _law_same, _law_same_answer, _law_copy, write_rows. -/
namespace CK
open PySem PySem.Spec PyProof.Rows L2
theorem valV_mem {κ : Type} [DecidableEq κ] {k : κ} {v : V} : ∀ {r : List (κ × V)}, (r.map (·.1)).Nodup → (k, v) ∈ r → valV r k = some v
  | p :: r, nd, h => by
    rw [List.map_cons, List.nodup_cons] at nd
    rcases List.mem_cons.mp h with e | h
    · rw [← e]; exact valV_pos rfl
    · rw [valV_neg (fun e => nd.1 (by rw [e]; exact List.mem_map_of_mem (f := fun p : κ × V => p.1) h))]
      exact valV_mem nd.2 h
theorem valV_no {κ : Type} [DecidableEq κ] {k : κ} {r : List (κ × V)} (h : ¬ k ∈ r.map (·.1)) : valV r k = none := by
  cases e : valV r k with
  | none => rfl
  | some v => exact absurd (valV_in e) h
section
variable {K : PySem.W.Frag} {H : Hp}
theorem vs_of : ∀ {vs ys : List V}, AtAll K H ys (vs.map dV) → (∀ v ∈ vs, isOpt v = true) → ys = vs
  | [], _, h, _ => by cases h; rfl
  | v :: vs, _, h, o => by
    cases h with
    | cons h1 h2 =>
      rw [of_dV (o v List.mem_cons_self) h1, vs_of h2 fun u hu => o u (List.mem_cons_of_mem _ hu)]
theorem at_vs {vs : List V} (o : ∀ v ∈ vs, isOpt v = true) : AtAll K H vs (vs.map dV) := by
  have z := AtAll.of_map (K := K) (H := H) (f := dV) (g := fun v => v) (l := vs) fun v hv => at_dV (o v hv)
  rw [List.map_id'] at z
  exact z
end
section
variable {P : Program} {w : World} {K : PySem.W.Frag} {mg : Str → Option Value} {base : Heap}
theorem ok_dealDone {f : Addr} {fd : FuncData} {k : Nat} (F : Fun K "_law_deal_done" "_law_deal_done" s_dealDone f fd) (UA : Use P w K mg base "_law_done" (k + 1) ["_law_rows_here", "_law_deed_here"] (spApplyDeed K)) (mT : mg "tuple" = none) :
    FnOk P w K mg base CX0 (k + 2) f fd ["_law_rows_here", "_law_deal_here"] (spDealt K) := by
  refine F.ok sc_dealDone (fun vs H Q E h => ?_) (fun cdv A outer s H vs Q E hr h => ?_)
  · obtain ⟨r, kvs, x, checks, deeds, rfl, _⟩ := h
    rfl
  · obtain ⟨r, kvs, x, checks, deeds, rfl, hH, gd, hl, hx, dok, q⟩ := h
    refine ⟨_, pss_cons (ps_set (i := 2) sc_dealDone.nd rfl (.inl rfl) (pe_lst pa_nil))
      (pss_cons (ps_set (i := 3) sc_dealDone.nd rfl (.inl rfl) pe_bl)
      (pss_cons (ps_for PassesOwn.never rfl (pi_tup (pe_ix (r := rIxT K) ix_tup (pv 1) pe_int (fun _ _ => rfl))) (pg_tup rfl (pgs_cons (pg_name (i := 4) sc_dealDone.nd rfl (Or.inl rfl)) (pgs_cons (pg_name (i := 5) sc_dealDone.nd rfl (Or.inl rfl)) pgs_nil)))
        (pss_cons (ps_expr (pe_bm PySem.F.plainAttrs_list PySem.F.slot_list_append PySem.F.type_list_append mt_append (pv 2) (pa_cons (pe_dget1 (hu_of hr) (pv 0) (pv 4) ⟨rfl, rfl, rfl, rfl⟩) pa_nil)))
        (pss_one (ps_set (i := 3) sc_dealDone.nd rfl (.inl rfl) (pe_and (pv 3) (pe_one (pe_cmpR op_eq (pe_dget1 (hu_of hr) (pv 0) (pv 4) ⟨rfl, rfl, rfl, rfl⟩) (pv 5) (nomark _))))))))
      (pss_cons (ps_if (pt_not (pt_val (pv 3))) (pss_one (ps_ret (pe_tup (pa_cons pe_str (pa_cons (pe_callTy call_tuple_of (by rfl) mT (by decide +kernel) (pa_cons (pv 2) pa_nil)) pa_nil))))) pss_nil)
      (pss_cons (ps_set (i := 6) sc_dealDone.nd rfl (.inl rfl) (pe_lst pa_nil))
      (pss_cons (ps_for PassesOwn.never rfl (pi_tup (pe_ix (r := rIxT K) ix_tup (pv 1) pe_int (fun _ _ => rfl))) (pg_name (i := 7) sc_dealDone.nd rfl (Or.inl rfl))
        (pss_one (ps_expr (pe_bm PySem.F.plainAttrs_list PySem.F.slot_list_append PySem.F.type_list_append mt_append (pv 6) (pa_cons (pe_use UA hr (by rfl) (pa_cons (pv 0) (pa_cons (pv 7) pa_nil))) pa_nil)))))
      (pss_one (ps_ret (pe_tup (pa_cons pe_str (pa_cons (pe_callTy call_tuple_of (by rfl) mT (by decide +kernel) (pa_cons (pv 6) pa_nil)) pa_nil)))))))))), ?_⟩
    obtain ⟨a, b, c, xs, ys, rfl, hT, hTb, hAb, hTc, hAc⟩ := at_two hx
    have fw1 := dok.few1
    have fw2 := dok.few2
    have lx : xs.length = checks.length := by rw [hAb.length, List.length_map]
    have ly : ys.length = deeds.length := by rw [hAc.length, List.length_map]
    refine ⟨Nat.zero_le _, fun V1 n1 => ?_⟩
    have sm1 : Same H (upd H V1 (.lst [])) := same_new n1
    refine ⟨.ref a, rfl, a, _, 0, .ref b, rfl, rfl, sm1.tk _ _ hT, atI_nat (j := 0) rfl, b, rfl, ⟨_, sm1.tk _ _ hTb⟩, ?_⟩
    refine for_tup (xs := xs) (fun i σ H2 => ∃ (y4 y5 y6 y7 : Option V) (bb : Bool), σ = [some (.ref r), some (.ref a), some (.ref V1), some (.bl bb), y4, y5, y6, y7] ∧ Same H H2 ∧ H2 V1 = some (.lst ((checks.take i).map fun c => look kvs c.1)) ∧ bb = decide ((checks.take i).map (fun c => look kvs c.1) = (checks.take i).map (·.2)))
      ⟨none, none, none, none, true, rfl, sm1, upd_same, rfl⟩ (fun i σ H2 _ ⟨_, _, _, _, _, _, sm, _⟩ => sm.tk _ _ hTb)
      (fun i x σ H2 hx ⟨y4, y5, y6, y7, bb, e, sm, hV, hb⟩ => ?_) (fun σ H2 ⟨y4, y5, y6, y7, bb, e, sm, hV, hb⟩ => ?_)
    · subst e
      obtain ⟨z, hz, qz⟩ := hAb.at_map hx
      have mz := List.mem_of_getElem? hz
      obtain ⟨a2, rfl, hq⟩ := at_check (dok.opt z mz) (qz.keep sm.tk)
      have hd := sm _ _ hH
      have etake : checks.take (i + 1) = checks.take i ++ [z] := by rw [List.take_add_one, hz]; rfl
      have nV : V1 ≠ r := fun e => by rw [e, hH] at n1; cases n1
      have smV : ∀ l, Same H (upd H2 V1 (.lst l)) := fun l b o hb' => by rw [upd_ne (ne_of_none hb' n1)]; exact sm b o hb'
      refine ⟨a2, _, rfl, hq, rfl, _, _, rfl, _, _, rfl, rfl, ?_⟩
      refine ⟨.ref V1, rfl, .inl ⟨rfl, _, .inl (.inl hV)⟩, .ref r, rfl, r, rfl, .inl ⟨kvs, .inl hd⟩, .str z.1, rfl, val kvs z.1, DGet.k (k := Sum.inr z.1) hd, V1, _, _, rfl, rfl, hV, ?_, ?_⟩
      · rw [List.length_map, List.length_take, sizeLine_eq]; omega
      have hd2 := smV ((checks.take i).map (fun c => look kvs c.1) ++ [look kvs z.1]) _ _ hH
      have ev : (upd H2 V1 (.lst ((checks.take i).map (fun c => look kvs c.1) ++ [look kvs z.1]))) V1 = some (.lst ((checks.take (i + 1)).map fun c => look kvs c.1)) := by
        rw [upd_same, etake, List.map_append]; rfl
      have edec : decide ((checks.take (i + 1)).map (fun c => look kvs c.1) = (checks.take (i + 1)).map (·.2)) = (bb && decide (look kvs z.1 = z.2)) := by
        rw [etake, List.map_append, List.map_append, hb, Bool.eq_iff_iff, decide_eq_true_eq, Bool.and_eq_true, decide_eq_true_eq, decide_eq_true_eq]
        constructor
        · intro h
          have h' := List.append_inj h (by rw [List.length_map, List.length_map])
          refine ⟨h'.1, ?_⟩
          have h2 := h'.2
          simp only [List.map_cons, List.map_nil, List.cons.injEq, and_true] at h2
          exact h2
        · rintro ⟨h1, h2⟩
          rw [h1]
          simp only [List.map_cons, List.map_nil, h2]
      refine ⟨.bl bb, rfl, bb, rfl, ?_⟩
      cases bb with
      | true =>
        refine iteT ⟨.ref r, rfl, r, rfl, .inl ⟨kvs, .inl hd2⟩, .str z.1, rfl, val kvs z.1, DGet.k (k := Sum.inr z.1) hd2, z.2, rfl, scal_opt (gd.look z.1) (dok.opt z mz), ?_⟩
        exact ⟨_, _, _, _, _, rfl, smV _, ev, by rw [edec, Bool.true_and]; rfl⟩
      | false =>
        refine iteF ⟨_, _, _, _, _, rfl, smV _, ev, by rw [edec, Bool.false_and]⟩
    · subst e
      rw [lx, List.take_length] at hV hb
      have hb' : bb = heldB kvs checks := hb
      refine ⟨.bl bb, rfl, bb, rfl, ?_⟩
      cases bb with
      | false =>
        refine ⟨_, rfl, _, _, rfl, .inl ⟨SqL.of hV, fun t nt => ⟨by show 2 ≤ sizeLine; decide, fun p np => q _ _ ?_ ?_ ?_⟩⟩⟩
        · exact (((sm.new nt).new np).but r)
        · rw [show rest kvs checks deeds = kvs from if_neg (by rw [← hb']; exact Bool.false_ne_true)]
          exact ((sm.new nt).new np) _ _ hH
        · rw [← hb', show due kvs checks deeds = checks.map (fun c => look kvs c.1) from if_neg (by rw [← hb']; exact Bool.false_ne_true)]
          refine at_ans (t := t) (SqT.of upd_same) ?_
          exact .tup (tk_new np _ _ (SqT.of upd_same)) (at_vs fun v hv => by
            obtain ⟨c, _, rfl⟩ := List.mem_map.mp hv
            exact gd.look c.1)
      | true =>
        refine ⟨Nat.zero_le _, fun W nW => ?_⟩
        have smW : Same H (upd H2 W (.lst [])) := sm.new nW
        have nWr : W ≠ r := fun e => by rw [e, sm _ _ hH] at nW; cases nW
        refine ⟨.ref a, rfl, a, _, 1, .ref c, rfl, rfl, smW.tk _ _ hT, atI_nat (j := 1) rfl, c, rfl, ⟨_, smW.tk _ _ hTc⟩, ?_⟩
        refine for_tup (xs := ys) (fun i σ H3 => ∃ (y7 : Option V), σ = [some (.ref r), some (.ref a), some (.ref V1), some (.bl true), y4, y5, some (.ref W), y7] ∧ But r H H3 ∧ H3 r = some (.dK (fin kvs (deeds.take i))) ∧ H3 W = some (.lst (answ kvs (deeds.take i))))
          ⟨_, rfl, smW.but r, smW _ _ hH, upd_same⟩ (fun i σ H3 _ ⟨_, _, bt, _⟩ => bt.tk (by rw [hH]; trivial) _ _ hTc)
          (fun i x σ H3 hx ⟨y7', e, bt, er, hW⟩ => ?_) (fun σ H3 ⟨y7', e, bt, er, hW⟩ => ?_)
        · subst e
          obtain ⟨z, hz, qz⟩ := hAc.at_map hx
          have mz := List.mem_of_getElem? hz
          have gi : Good (fin kvs (deeds.take i)) := fin_good _ gd fun d hd => dok.ok _ (List.mem_of_mem_take hd)
          have fl := fin_len (deeds.take i) kvs
          rw [List.length_take] at fl
          have etake : deeds.take (i + 1) = deeds.take i ++ [z] := by rw [List.take_add_one, hz]; rfl
          have nW' : H W = none := by
            cases e : H W with
            | none => rfl
            | some o => rw [sm _ _ e] at nW; cases nW
          refine ⟨.ref W, rfl, .inl ⟨rfl, _, .inl (.inl hW)⟩, .ref r, rfl, x, rfl, r, _, x, z, rfl, er, gi, by omega, qz.keep (bt.tk (by rw [hH]; trivial)), dok.ok z mz, ?_⟩
          refine ⟨W, _, _, rfl, rfl, (by rw [upd_ne nWr]; exact hW), ?_, ?_⟩
          · rw [answ_length, List.length_take, sizeLine_eq]; omega
          · refine ⟨_, rfl, fun b o nb hb' => ?_, ?_, ?_⟩
            · rw [upd_ne (ne_of_none hb' nW'), upd_ne nb]
              exact bt _ _ nb hb'
            · rw [upd_ne nWr.symm, upd_same, etake, fin_snoc]
            · rw [upd_same, etake, answ_snoc]
        · subst e
          rw [ly, List.take_length] at er hW
          refine ⟨_, rfl, _, _, rfl, .inl ⟨SqL.of hW, fun t nt => ⟨by show 2 ≤ sizeLine; decide, fun p np => q _ _ ?_ ?_ ?_⟩⟩⟩
          · exact ((bt.new nt).new np)
          · rw [show rest kvs checks deeds = fin kvs deeds from if_pos hb'.symm]
            exact same_new np _ _ (same_new nt _ _ er)
          · rw [← hb', show due kvs checks deeds = answ kvs deeds from if_pos hb'.symm]
            refine at_ans (t := t) (SqT.of upd_same) ?_
            exact .tup (tk_new np _ _ (SqT.of upd_same)) (at_vs (answ_opt deeds gd dok.ok))

/-! ### _law_same, _law_same_answer -/
def spSame : Sp := fun vs H Q _ => ∃ v, vs = [v, v] ∧ isOpt v = true ∧ Q (.bl true) H
theorem ok_same {f : Addr} {fd : FuncData} {k : Nat} (F : Fun K "_law_same" "_law_same" s_same f fd) (m1 : mg "isinstance" = none) (m2 : mg "int" = none) (m3 : mg "bool" = none) (m4 : mg "str" = none) :
    FnOk P w K mg base CX0 (k + 1) f fd ["_law_actual", "_law_due"] spSame := by
  refine F.ok sc_same (fun vs H Q E h => ?_) (fun cdv A outer s H vs Q E hr h => ?_)
  · obtain ⟨v, rfl, _⟩ := h
    rfl
  · obtain ⟨v, rfl, hv, q⟩ := h
    refine ⟨_, pss_cons (ps_if (pt_cmp (pc_isN (pv 1))) (pss_one (ps_ret (pe_cmp (pc_isN (pv 0))))) pss_nil)
      (pss_cons (ps_if (pt_val (pe_callB call_isi (by rfl) m1 (by decide +kernel) (pa_cons (pv 1) (pa_cons (pe_bltn (v := .ty "str") (by rfl) m4 (by decide +kernel) rfl) pa_nil))))
        (pss_one (ps_ret (pe_and (pe_callB call_isi (by rfl) m1 (by decide +kernel) (pa_cons (pv 0) (pa_cons (pe_bltn (v := .ty "str") (by rfl) m4 (by decide +kernel) rfl) pa_nil))) (pe_one (pe_cmpR op_eq (pv 0) (pv 1) (nomark _)))))) pss_nil)
      (pss_one (ps_ret (pe_and (pe_callB call_isi (by rfl) m1 (by decide +kernel) (pa_cons (pv 0) (pa_cons (pe_bltn (v := .ty "int") (by rfl) m2 (by decide +kernel) rfl) pa_nil)))
        (pe_and (pe_not (pe_callB call_isi (by rfl) m1 (by decide +kernel) (pa_cons (pv 0) (pa_cons (pe_bltn (v := .ty "bool") (by rfl) m3 (by decide +kernel) rfl) pa_nil)))) (pe_one (pe_cmpR op_eq (pv 0) (pv 1) (nomark _)))))))), ?_⟩
    cases v with
    | non => exact ⟨_, rfl, true, rfl, iteT ⟨_, rfl, q⟩⟩
    | int i =>
      refine ⟨_, rfl, false, rfl, iteF ⟨_, rfl, .int i, .ty "str", _, _, _, rfl, .ty _, ty_flat (v := .int i) rfl, isi_str rfl, false, rfl, iteF ?_⟩⟩
      refine ⟨_, rfl, .int i, .ty "int", _, _, _, rfl, .ty _, ty_flat (v := .int i) rfl, isi_int rfl, true, rfl, iteT ?_⟩
      refine ⟨_, rfl, .int i, .ty "bool", _, _, _, rfl, .ty _, ty_flat (v := .int i) rfl, isi_bool rfl, false, rfl, true, rfl, iteT ?_⟩
      refine ⟨_, rfl, _, rfl, rfl, ?_⟩
      rw [decide_eq_true rfl]
      exact q
    | str i =>
      refine ⟨_, rfl, false, rfl, iteF ⟨_, rfl, .str i, .ty "str", _, _, _, rfl, .ty _, ty_flat (v := .str i) rfl, isi_str rfl, true, rfl, iteT ?_⟩⟩
      refine ⟨_, rfl, .str i, .ty "str", _, _, _, rfl, .ty _, ty_flat (v := .str i) rfl, isi_str rfl, true, rfl, iteT ?_⟩
      refine ⟨_, rfl, _, rfl, rfl, ?_⟩
      rw [decide_eq_true rfl]
      exact q
    | _ => cases hv
end
end CK
/-! Law k05: _law_same_answer, _law_copy, write_rows. -/
namespace CK
open PySem PySem.Spec PyProof.Rows L2
section
variable {P : Program} {w : World} {K : PySem.W.Frag} {mg : Str → Option Value} {base : Heap}
theorem at_ansD {H : Hp} {x : V} {b : Bool} {vs : List V} (o : ∀ v ∈ vs, isOpt v = true) (h : At K H x (dAns b vs)) : ∃ p t, x = .ref p ∧ SqT K H p [.str (word b), .ref t] ∧ SqT K H t vs := by
  obtain ⟨p, xs, rfl, hT, hA⟩ := at_tup h
  obtain ⟨v, u, e1, q1, q2⟩ := all2 hA
  obtain ⟨t, ys, rfl, hT2, hA2⟩ := at_tup q2
  rw [e1, at_str q1] at hT
  rw [vs_of hA2 o] at hT2
  exact ⟨p, t, rfl, hT, hT2⟩
def spSameAnswer (K : PySem.W.Frag) : Sp := fun vs H Q _ => ∃ (x y : V) (b : Bool) (us : List V), vs = [x, y] ∧ At K H x (dAns b us) ∧ At K H y (dAns b us) ∧ (∀ v ∈ us, isOpt v = true) ∧ us.length ≤ 1000 ∧ Q (.bl true) H
theorem ok_sameAnswer {f : Addr} {fd : FuncData} {k : Nat} (F : Fun K "_law_same_answer" "_law_same_answer" s_sameAnswer f fd) (US : Use P w K mg base "_law_same" (k + 1) ["_law_actual", "_law_due"] spSame)
    (m1 : mg "isinstance" = none) (m2 : mg "tuple" = none) (mL : mg "len" = none) (mR : mg "range" = none) : FnOk P w K mg base CX0 (k + 2) f fd ["_law_actual", "_law_due"] (spSameAnswer K) := by
  refine F.ok sc_sameAnswer (fun vs H Q E h => ?_) (fun cdv A outer s H vs Q E hr h => ?_)
  · obtain ⟨x, y, b, us, rfl, _⟩ := h
    rfl
  · obtain ⟨x, y, b, us, rfl, hx, hy, ho, hl, q⟩ := h
    refine ⟨_, pss_cons (ps_if (PW.pt (pw_or (pt_not (pt_val (pe_callB call_isi (by rfl) m1 (by decide +kernel) (pa_cons (pv 0) (pa_cons (pe_bltn (v := .ty "tuple") (by rfl) m2 (by decide +kernel) rfl) pa_nil)))))
        (pw_or (pt_cmpR op_ne (pe_callB call_len_seq (by rfl) mL (by decide +kernel) (pa_cons (pv 0) pa_nil)) pe_int (nomark _))
        (pw_or (pt_cmpR op_ne (pe_ix (r := rIxT K) ix_tup (pv 0) pe_int (fun _ _ => rfl)) (pe_ix (r := rIxT K) ix_tup (pv 1) pe_int (fun _ _ => rfl)) (nomark _))
        (pw_or1 (pt_not (pt_val (pe_callB call_isi (by rfl) m1 (by decide +kernel) (pa_cons (pe_ix (r := rIxT K) ix_tup (pv 0) pe_int (fun _ _ => rfl)) (pa_cons (pe_bltn (v := .ty "tuple") (by rfl) m2 (by decide +kernel) rfl) pa_nil))))))))))
        (pss_one (ps_ret pe_bl)) pss_nil)
      (pss_cons (ps_if (pt_cmpR op_ne (pe_callB call_len_seq (by rfl) mL (by decide +kernel) (pa_cons (pe_ix (r := rIxT K) ix_tup (pv 0) pe_int (fun _ _ => rfl)) pa_nil)) (pe_callB call_len_seq (by rfl) mL (by decide +kernel) (pa_cons (pe_ix (r := rIxT K) ix_tup (pv 1) pe_int (fun _ _ => rfl)) pa_nil)) (nomark _))
        (pss_one (ps_ret pe_bl)) pss_nil)
      (pss_cons (ps_for PassesOwn.never rfl (pi_range1 rfl mR (pa_cons (pe_callB call_len_seq (by rfl) mL (by decide +kernel) (pa_cons (pe_ix (r := rIxT K) ix_tup (pv 1) pe_int (fun _ _ => rfl)) pa_nil)) pa_nil)) (pg_name (i := 2) sc_sameAnswer.nd rfl (Or.inl rfl))
        (pss_one (ps_if (pt_not (pt_val (pe_use US hr (by rfl) (pa_cons (pe_ix (r := rIxT K) ix_tup (pe_ix (r := rIxT K) ix_tup (pv 0) pe_int (fun _ _ => rfl)) (pv 2) (fun _ _ => rfl)) (pa_cons (pe_ix (r := rIxT K) ix_tup (pe_ix (r := rIxT K) ix_tup (pv 1) pe_int (fun _ _ => rfl)) (pv 2) (fun _ _ => rfl)) pa_nil)))))
          (pss_one (ps_ret pe_bl)) pss_nil)))
      (pss_one (ps_ret pe_bl)))), ?_⟩
    obtain ⟨a, t, rfl, hT, hU⟩ := at_ansD ho hx
    obtain ⟨a', t', rfl, hT', hU'⟩ := at_ansD ho hy
    have g0 : ∀ z, atI [V.str (word b), z] 0 = some (.str (word b)) := fun z => atI_nat (j := 0) rfl
    have g1 : ∀ z, atI [V.str (word b), z] 1 = some z := fun z => atI_nat (j := 1) rfl
    have kt : PySem.W.kitOne K (.type "tuple") (.type "tuple") = some true := kit_ty (by decide +kernel)
    refine ⟨.ref a, rfl, .ref a, .ty "tuple", _, _, _, rfl, .ty _, ty_tup hT, kt, true, rfl, iteF ?_⟩
    refine ⟨.ref a, rfl, a, _, rfl, .inr hT, rfl, _, rfl, ?_⟩
    rw [show (!decide ((V.int (([V.str (word b), V.ref t].length : Nat) : Int)) = V.int 2)) = false from rfl]
    refine iteF ⟨.ref a, rfl, a, _, 0, _, rfl, rfl, hT, g0 _, .ref a', rfl, a', _, 0, _, rfl, rfl, hT', g0 _, rfl, _, rfl, ?_⟩
    rw [show (!decide (V.str (word b) = V.str (word b))) = false by rw [decide_eq_true rfl]; rfl]
    refine iteF ⟨.ref a, rfl, a, _, 1, _, rfl, rfl, hT, g1 _, .ref t, .ty "tuple", _, _, _, rfl, .ty _, ty_tup hU, kt, true, rfl, iteF ?_⟩
    refine ⟨.ref a, rfl, a, _, 1, _, rfl, rfl, hT, g1 _, t, us, rfl, .inr hU, .ref a', rfl, a', _, 1, _, rfl, rfl, hT', g1 _, t', us, rfl, .inr hU', rfl, _, rfl, ?_⟩
    rw [show (!decide (V.int (us.length : Int) = V.int (us.length : Int))) = false by rw [decide_eq_true rfl]; rfl]
    refine iteF ⟨.ref a', rfl, a', _, 1, _, rfl, rfl, hT', g1 _, t', us, rfl, .inr hU', _, rfl, by omega, by omega, ?_⟩
    refine for_range (n := (us.length : Int).toNat) (fun i σ H2 => ∃ (y2 : Option V), σ = [some (.ref a), some (.ref a'), y2] ∧ H2 = H)
      ⟨none, rfl, rfl⟩ (fun i σ H2 hi ⟨y2, e, eH⟩ => ?_) (fun σ H2 ⟨y2, e, eH⟩ => ?_)
    · subst e eH
      have hi' : i < us.length := by omega
      have gi : atI us (0 + (i : Int)) = some us[i] := by rw [Int.zero_add]; exact atI_nat (List.getElem?_eq_getElem hi')
      refine ⟨.ref a, rfl, a, _, 1, _, rfl, rfl, hT, g1 _, _, rfl, t, us, _, us[i], rfl, rfl, hU, gi, .ref a', rfl, a', _, 1, _, rfl, rfl, hT', g1 _, _, rfl, t', us, _, us[i], rfl, rfl, hU', gi, ?_⟩
      exact ⟨us[i], rfl, ho _ (List.getElem_mem hi'), true, rfl, iteF ⟨_, rfl, rfl⟩⟩
    · subst e eH
      exact q

/-! ### _law_copy -/
def spCopy : Sp := fun vs H Q _ => ∃ (r : Addr) (kvs : Rows), vs = [.ref r] ∧ H r = some (.dK kvs) ∧ Good kvs ∧ kvs.length < 1000 ∧ ∀ H' p, Same H H' → H p = none → H' p = some (.dK kvs) → Q (.ref p) H'
theorem ok_copy {f : Addr} {fd : FuncData} {k : Nat} (F : Fun K "_law_copy" "_law_copy" s_copy f fd) : FnOk P w K mg base CX0 (k + 1) f fd ["_law_rows_here"] spCopy := by
  refine F.ok sc_copy (fun vs H Q E h => ?_) (fun cdv A outer s H vs Q E hr h => ?_)
  · obtain ⟨r, kvs, rfl, _⟩ := h
    rfl
  · obtain ⟨r, kvs, rfl, hH, gd, hl, q⟩ := h
    refine ⟨_, pss_cons (ps_set (i := 1) sc_copy.nd rfl (.inl rfl) pe_dnewK)
      (pss_cons (ps_lock (ps_for PassesOwn.never rfl (pi_keys (pv 0)) (pg_name (i := 2) sc_copy.nd rfl (Or.inl rfl))
        (pss_one (ps_dput (hu_of hr) (pv 1) (pv 2) (pe_dget (hu_of hr) (pv 0) (pv 2) (fun _ _ => rfl)) rfl))))
      (pss_one (ps_ret (pv 1)))), ?_⟩
    intro D nD
    have nDr : D ≠ r := fun e => by rw [e, hH] at nD; cases nD
    have hr1 : (upd H D (.dK [])) r = some (.dK kvs) := by rw [upd_ne nDr.symm]; exact hH
    refine ⟨r, .dK kvs, hr1, trivial, fun od => ?_⟩
    refine ⟨.ref r, rfl, r, od, rfl, .inl ⟨kvs, upd_same, ?_⟩⟩
    refine for_it walk_keys (fun i σ H2 => ∃ (y2 : Option V), σ = [some (.ref r), some (.ref D), y2] ∧ H2 r = some (.frz od (.dK kvs)) ∧ H2 D = some (.dK (kvs.take i)) ∧ But r H H2)
      ⟨none, rfl, upd_same, by rw [upd_ne nDr, upd_same]; rfl, fun b o nb hb => by rw [upd_ne nb, upd_ne (ne_of_none hb nD)]; exact hb⟩
      (fun i σ H2 _ ⟨_, _, h, _⟩ => h) (fun i x σ H2 H3 hi ⟨y2, e, er, eD, bt⟩ y => ?_) (fun σ H2 ⟨y2, e, er, eD, bt⟩ => ?_)
    · obtain ⟨rfl, kk, v, hkv, rfl⟩ := y
      subst e
      have nd := gd.nd
      have mem := List.mem_of_getElem? hkv
      have ev : valV kvs kk = some v := valV_mem nd mem
      have etake : kvs.take (i + 1) = kvs.take i ++ [(kk, v)] := by rw [List.take_add_one, hkv]; rfl
      have nn : valV (kvs.take i) kk = none := by
        refine valV_no fun z => ?_
        have nd' : ((kvs.take (i + 1)).map (·.1)).Nodup := by
          rw [List.map_take]
          exact (List.take_sublist _ _).nodup nd
        rw [etake, List.map_append, List.nodup_append] at nd'
        exact nd'.2.2 kk z kk (by simp) rfl
      refine ⟨.ref r, rfl, kV kk, rfl, r, v, rfl, .inl ⟨kvs, kk, .inr ⟨od, er⟩, rfl, ev.symm⟩, .ref D, rfl, kV kk, rfl, D, _, rfl, DPut.k (k := kk) eD ?_, ?_⟩
      · rw [List.length_take, sizeLine_eq]; omega
      · rw [putK_new v nn, ← etake]
        exact ⟨_, rfl, by rw [upd_ne nDr.symm]; exact er, upd_same, fun b o nb hb => by rw [upd_ne (ne_of_none hb nD)]; exact bt b o nb hb⟩
    · subst e
      rw [List.take_length] at eD
      refine ⟨er, .ref D, rfl, q _ D (fun b o hb => ?_) nD (by rw [upd_ne nDr]; exact eD)⟩
      by_cases e : b = r
      · subst e
        rw [upd_same, ← hb, hH]
      · rw [upd_ne e]
        exact bt b o e hb

/-! ### write_rows -/
def spWrite (K : PySem.W.Frag) : Sp := fun vs H Q _ => ∃ (r : Addr) (kvs : Rows) (x : V) (ws : List (Str × V)), vs = [.ref r, x] ∧ H r = some (.dK kvs) ∧ Good kvs ∧ kvs.length < 1000 ∧ At K H x (dWrs ws) ∧ (∀ v ∈ ws, isOpt v.2 = true) ∧ ws.length ≤ 1000 ∧
  ∀ H', But r H H' → H' r = some (.dK (writes kvs ws)) → Q .non H'
theorem at_wr {H : Hp} {x : V} {c : Str × V} (o : isOpt c.2 = true) (h : At K H x (dWr c)) : ∃ a, x = .ref a ∧ SqT K H a [.str c.1, c.2] := by
  obtain ⟨a, xs, rfl, hT, hA⟩ := at_tup h
  obtain ⟨v, u, e1, q1, q2⟩ := all2 hA
  rw [e1, at_str q1, of_dV o q2] at hT
  exact ⟨a, rfl, hT⟩
theorem ok_writeRows {f : Addr} {fd : FuncData} {k : Nat} (F : Fun K "write_rows" "write_rows" s_writeRows f fd) : FnOk P w K mg base CX0 (k + 1) f fd ["rows", "writes"] (spWrite K) := by
  refine F.ok sc_writeRows (fun vs H Q E h => ?_) (fun cdv A outer s H vs Q E hr h => ?_)
  · obtain ⟨r, kvs, x, ws, rfl, _⟩ := h
    rfl
  · obtain ⟨r, kvs, x, ws, rfl, hH, gd, hl, hx, ho, hw, q⟩ := h
    refine ⟨_, pss_one (ps_for PassesOwn.never rfl (pi_tup (pv 1)) (pg_tup rfl (pgs_cons (pg_name (i := 2) sc_writeRows.nd rfl (Or.inl rfl)) (pgs_cons (pg_name (i := 3) sc_writeRows.nd rfl (Or.inl rfl)) pgs_nil)))
        (pss_one (ps_if (pt_cmp (pc_notN (pv 3))) (pss_one (ps_dput (hu_of hr) (pv 0) (pv 2) (pv 3) rfl))
          (pss_one (ps_if (pt_cmp (pc_din (hu_of hr) (pv 2) (pv 0))) (pss_one (ps_ddel (pv 0) (pv 2))) pss_nil))))), ?_⟩
    obtain ⟨a, xs, rfl, hT, hA⟩ := at_tup hx
    have lx : xs.length = ws.length := by rw [hA.length, List.length_map]
    refine ⟨.ref a, rfl, a, rfl, ⟨_, hT⟩, ?_⟩
    refine for_tup (xs := xs) (fun i σ H2 => ∃ (y2 y3 : Option V), σ = [some (.ref r), some (.ref a), y2, y3] ∧ But r H H2 ∧ H2 r = some (.dK (writes kvs (ws.take i))))
      ⟨none, none, rfl, But.refl _ _, hH⟩ (fun i σ H2 _ ⟨_, _, _, bt, _⟩ => bt.tk (by rw [hH]; trivial) _ _ hT)
      (fun i x σ H2 hx ⟨y2, y3, e, bt, er⟩ => ?_) (fun σ H2 ⟨y2, y3, e, bt, er⟩ => ?_)
    · subst e
      obtain ⟨z, hz, qz⟩ := hA.at_map hx
      have mz := List.mem_of_getElem? hz
      obtain ⟨a2, rfl, hq⟩ := at_wr (ho z mz) (qz.keep (bt.tk (by rw [hH]; trivial)))
      have etake : ws.take (i + 1) = ws.take i ++ [z] := by rw [List.take_add_one, hz]; rfl
      have wl := writes_len (ws.take i) kvs
      rw [List.length_take] at wl
      refine ⟨a2, _, rfl, hq, rfl, _, _, rfl, _, _, rfl, rfl, ?_⟩
      have put : ∀ H3 o, H3 = upd H2 r o → o = .dK (writes kvs (ws.take (i + 1))) → But r H H3 ∧ H3 r = some (.dK (writes kvs (ws.take (i + 1)))) := fun H3 o e1 e2 => by
        subst e1 e2
        exact ⟨fun b o nb hb => by rw [upd_ne nb]; exact bt b o nb hb, upd_same⟩
      by_cases hz2 : z.2 = .non
      · have e1 : writes kvs (ws.take (i + 1)) = drop (writes kvs (ws.take i)) z.1 := by rw [etake, writes_snoc]; exact if_pos hz2
        refine ⟨z.2, rfl, false, by rw [hz2]; rfl, iteF ?_⟩
        refine ⟨.str z.1, rfl, .ref r, rfl, r, val (writes kvs (ws.take i)) z.1, rfl, DGet.k (k := Sum.inr z.1) er, _, rfl, ?_⟩
        cases hv : val (writes kvs (ws.take i)) z.1 with
        | none =>
          refine iteF ⟨_, _, rfl, bt, ?_⟩
          rw [e1, drop_absent hv]
          exact er
        | some v =>
          refine iteT ⟨.ref r, rfl, .str z.1, rfl, r, _, Sum.inr z.1, rfl, er, rfl, ?_, ?_⟩
          · have hv' : valV (writes kvs (ws.take i)) (Sum.inr z.1) = some v := hv
            rw [hv']; rfl
          · exact ⟨_, _, rfl, put _ _ rfl (by rw [e1]; rfl)⟩
      · have e1 : writes kvs (ws.take (i + 1)) = CK.put (writes kvs (ws.take i)) z.1 z.2 := by rw [etake, writes_snoc]; exact if_neg hz2
        refine ⟨z.2, rfl, true, by rw [decide_eq_false hz2]; rfl, iteT ?_⟩
        refine ⟨z.2, rfl, .ref r, rfl, .str z.1, rfl, r, _, rfl, DPut.k (k := Sum.inr z.1) er ?_, ?_⟩
        · rw [sizeLine_eq]; omega
        · exact ⟨_, _, rfl, put _ _ rfl (by rw [e1]; rfl)⟩
    · subst e
      rw [lx, List.take_length] at er
      exact q _ bt er
end
end CK
/-! Law k05: try_part. -/
namespace CK
open PySem PySem.Spec PyProof.Rows L2
theorem dPair_inj {p q : Nat × V} (h1 : isOpt p.2 = true) (h2 : isOpt q.2 = true) (h : dPair p = dPair q) : p = q := by
  obtain ⟨a, x⟩ := p
  obtain ⟨b, y⟩ := q
  unfold dPair at h
  injection h with h
  have e1 : (PyData.int (a : Int)) = .int (b : Int) := (List.cons.inj h).1
  have e2 : dV x = dV y := (List.cons.inj (List.cons.inj h).2).1
  injection e1 with e1
  rw [dV_inj (a := x) (b := y) h1 h2 e2, Int.ofNat_inj.mp e1]
theorem dPairs_inj : ∀ {ps qs : List (Nat × V)}, (∀ p ∈ ps, isOpt p.2 = true) → (∀ p ∈ qs, isOpt p.2 = true) → ps.map dPair = qs.map dPair → ps = qs
  | [], [], _, _, _ => rfl
  | [], _ :: _, _, _, h => nomatch h
  | _ :: _, [], _, _, h => nomatch h
  | p :: ps, q :: qs, h1, h2, h => by
    have h' := List.cons.inj h
    rw [dPair_inj (h1 p List.mem_cons_self) (h2 q List.mem_cons_self) h'.1, dPairs_inj (fun x hx => h1 x (List.mem_cons_of_mem _ hx)) (fun x hx => h2 x (List.mem_cons_of_mem _ hx)) h'.2]
theorem pairs_eq {r : Rows} (g : Good r) {ch : Ch} (oc : ∀ c ∈ ch, isOpt c.2.2 = true) : dPairs (vals r ch) = dPairs (wants ch) ↔ vals r ch = wants ch := by
  constructor
  · intro h
    unfold dPairs at h
    injection h with h
    refine dPairs_inj (fun p hp => ?_) (fun p hp => ?_) h
    · obtain ⟨c, _, rfl⟩ := List.mem_map.mp hp
      exact g.look _
    · obtain ⟨c, hc, rfl⟩ := List.mem_map.mp hp
      exact oc c hc
  · intro h; rw [h]
section
variable {P : Program} {w : World} {K : PySem.W.Frag} {mg : Str → Option Value} {base : Heap}
def spTry (K : PySem.W.Frag) : Sp := fun vs H Q _ => ∃ (r : Addr) (kvs : Rows) (x : V) (ch : Ch) (de : De), vs = [.ref r, x] ∧ H r = some (.dK kvs) ∧ Good kvs ∧ kvs.length < 1000 ∧ At K H x (dPart ch de) ∧
  (∀ c ∈ ch, isOpt c.2.2 = true) ∧ (∀ d ∈ de, d.2.Ok) ∧ ch.length ≤ 4 ∧ de.length ≤ 6 ∧
  ∀ H' y t, Same H H' → (∀ ks, Keys ks (names ch de) → t = tryP kvs ch de ks) → At K H' y (dTried t) → Q y H'
abbrev N_tryPart : List Str := ["rows", "part", "key", "values", "after", "answers", "changed", "at", "value", "deed"]
theorem ok_tryPart {f : Addr} {fd : FuncData} {k : Nat} (F : Fun K "try_part" "try_part" s_tryPart f fd) (UA : Use P w K mg base "apply_deed" (k + 4) ["rows", "deed"] (spApplyDeed K))
    (UK : Use P w K mg base "keys_of_part" (k + 1) ["part"] (spKeysOfPart K)) (mT : mg "tuple" = none) :
    FnOk P w K mg base CX0 (k + 5) f fd ["rows", "part"] (spTry K) := by
  refine F.ok sc_tryPart (fun vs H Q E h => ?_) (fun cdv A outer s H vs Q E hr h => ?_)
  · obtain ⟨r, kvs, x, ch, de, rfl, _⟩ := h
    rfl
  · obtain ⟨r, kvs, x, ch, de, rfl, hH, gd, hl, hx, oc, od, fw1, fw2, q⟩ := h
    refine ⟨_, pss_cons (ps_set (i := 3) sc_tryPart.nd rfl (.inl rfl) (pe_callTy call_tuple_of (by rfl) mT (by decide +kernel) (pa_cons
        (pe_lc (own := [("at", 7), ("key", 2), ("value", 8)]) (g := gTup K 3 (gCons (gName 7) (gCons (gName 2) (gCons (gName 8) gNil)))) (tt := tYes) rfl sc_tryPart.nd (pi_tup (pe_ix (r := rIxT K) ix_tup (pv 1) pe_int (fun _ _ => rfl))) (blkOk_by (N := N_tryPart) (sc := defScope s_tryPart) (by decide +kernel))
          (fun _ _ _ _ _ => pg_tup rfl (pgs_cons (pg_name (i := 7) sc_tryPart.nd rfl (Or.inl rfl)) (pgs_cons (pg_name (i := 2) sc_tryPart.nd rfl (Or.inl rfl)) (pgs_cons (pg_name (i := 8) sc_tryPart.nd rfl (Or.inl rfl)) pgs_nil))))
          (fun _ _ _ _ _ => pts_nil) (fun _ _ _ _ _ => pe_tup (pa_cons (pv 7) (pa_cons (pe_dget1 (hu_of hr) (pv 0) (pv 2) ⟨rfl, rfl, rfl, rfl⟩) pa_nil)))) pa_nil)))
      (pss_cons (ps_if (pt_cmpR (r := rNeP K) (op_neP hr.units) (pv 3) (pe_callTy call_tuple_of (by rfl) mT (by decide +kernel) (pa_cons
          (pe_lc (own := [("at", 7), ("key", 2), ("value", 8)]) (g := gTup K 3 (gCons (gName 7) (gCons (gName 2) (gCons (gName 8) gNil)))) (tt := tYes) rfl sc_tryPart.nd (pi_tup (pe_ix (r := rIxT K) ix_tup (pv 1) pe_int (fun _ _ => rfl))) (blkOk_by (N := N_tryPart) (sc := defScope s_tryPart) (by decide +kernel))
            (fun _ _ _ _ _ => pg_tup rfl (pgs_cons (pg_name (i := 7) sc_tryPart.nd rfl (Or.inl rfl)) (pgs_cons (pg_name (i := 2) sc_tryPart.nd rfl (Or.inl rfl)) (pgs_cons (pg_name (i := 8) sc_tryPart.nd rfl (Or.inl rfl)) pgs_nil))))
            (fun _ _ _ _ _ => pts_nil) (fun _ _ _ _ _ => pe_tup (pa_cons (pv 7) (pa_cons (pv 8) pa_nil)))) pa_nil)) (nomark _))
        (pss_one (ps_ret (pe_tup (pa_cons pe_int (pa_cons (pv 3) (pa_cons (pe_tup pa_nil) (pa_cons (pe_tup pa_nil) pa_nil))))))) pss_nil)
      (pss_cons (ps_set (i := 4) sc_tryPart.nd rfl (.inr rfl) pe_dnewK)
      (pss_cons (ps_for PassesOwn.never rfl (pi_tup (pe_use UK (hr.mono (by omega)) (by rfl) (pa_cons (pv 1) pa_nil))) (pg_name (i := 2) sc_tryPart.nd rfl (Or.inl rfl))
        (pss_one (ps_if (pt_cmp (pc_din (hu_of hr) (pv 2) (pv 0))) (pss_one (ps_dput (hu_of hr) (pv 4) (pv 2) (pe_dget (hu_of hr) (pv 0) (pv 2) (fun _ _ => rfl)) rfl)) pss_nil)))
      (pss_cons (ps_set (i := 5) sc_tryPart.nd rfl (.inl rfl) (pe_callTy call_tuple_of (by rfl) mT (by decide +kernel) (pa_cons
        (pe_lc (own := [("at", 7), ("deed", 9)]) (g := gTup K 2 (gCons (gName 7) (gCons (gName 9) gNil))) (tt := tYes) rfl sc_tryPart.nd (pi_tup (pe_ix (r := rIxT K) ix_tup (pv 1) pe_int (fun _ _ => rfl))) (blkOk_by (N := N_tryPart) (sc := defScope s_tryPart) (by decide +kernel))
          (fun _ _ _ _ _ => pg_tup rfl (pgs_cons (pg_name (i := 7) sc_tryPart.nd rfl (Or.inl rfl)) (pgs_cons (pg_name (i := 9) sc_tryPart.nd rfl (Or.inl rfl)) pgs_nil)))
          (fun _ _ _ _ _ => pts_nil) (fun _ _ _ _ _ => pe_tup (pa_cons (pv 7) (pa_cons (pe_use UA hr (by rfl) (pa_cons (pv 4) (pa_cons (pv 9) pa_nil))) pa_nil)))) pa_nil)))
      (pss_cons (ps_setLc (i := 6) (own := [("key", 2)]) (g := gName 2) rfl sc_tryPart.nd rfl rfl (sw_true rfl rfl rfl (by decide +kernel))
        (pi_tup (pe_use UK (hr.mono (by omega)) (by rfl) (pa_cons (pv 1) pa_nil))) (blkOk_by (N := N_tryPart) (sc := defScope s_tryPart) (by decide +kernel))
        (fun _ _ _ _ _ => pg_name (i := 2) sc_tryPart.nd rfl (Or.inl rfl))
        (fun _ _ _ _ _ => pts_one (pt_cmpR op_ne (pe_dget1 (hu_of hr) (pv 4) (pv 2) ⟨rfl, rfl, rfl, rfl⟩) (pe_dget1 (hu_of hr) (pv 0) (pv 2) ⟨rfl, rfl, rfl, rfl⟩) (nomark _)))
        (fun _ _ _ _ _ => pv 2))
      (pss_one (ps_ret (pe_tup (pa_cons pe_int (pa_cons (pv 3) (pa_cons (pv 5) (pa_cons (pe_callTy call_tuple_of (by rfl) mT (by decide +kernel) (pa_cons
        (pe_lc (own := [("key", 2)]) (g := gName 2) (tt := tYes) rfl sc_tryPart.nd (pi_list (pv 6)) (blkOk_by (N := N_tryPart) (sc := defScope s_tryPart) (by decide +kernel))
          (fun _ _ _ _ _ => pg_name (i := 2) sc_tryPart.nd rfl (Or.inl rfl))
          (fun _ _ _ _ _ => pts_nil) (fun _ _ _ _ _ => pe_tup (pa_cons (pv 2) (pa_cons (pe_dget1 (hu_of hr) (pv 4) (pv 2) ⟨rfl, rfl, rfl, rfl⟩) pa_nil)))) pa_nil)) pa_nil)))))))))))), ?_⟩
    obtain ⟨a, b, c, xs, ys, rfl, hT, hTb, hAb, hTc, hAc⟩ := at_two hx
    -- what stands
    refine ⟨.ref a, rfl, a, _, 0, .ref b, rfl, rfl, hT, atI_nat (j := 0) rfl, b, rfl, ⟨_, hTb⟩, fun D1 n1 => ?_⟩
    have all1 : ch.filter (fun _ => true) = ch := List.filter_eq_self.mpr fun _ _ => rfl
    refine lcT (K := K) (e := fun z : Nat × Str × V => dPair (z.1, look kvs z.2.1)) (p := fun _ => true) hTb hAb n1 (by omega) (fun z y H2 hz sm hy => ?_) (fun H2 acc1 sm1 hD1 hA1 => ?_)
    · obtain ⟨a2, rfl, hq⟩ := at_ch (oc z hz) hy
      intro Q2 N2 hy hn
      refine ⟨a2, _, rfl, hq, rfl, _, _, rfl, _, _, rfl, _, _, rfl, rfl, rfl, ?_⟩
      have hd := sm _ _ hH
      refine ⟨_, rfl, .ref r, rfl, r, rfl, .inl ⟨kvs, .inl hd⟩, .str z.2.1, rfl, val kvs z.2.1, DGet.k (k := Sum.inr z.2.1) hd, by show 2 ≤ sizeLine; decide, fun p np => ?_⟩
      exact hy rfl _ _ (same_new np) (.tup (SqT.of upd_same) (.cons (.int _) (.cons (at_dV (gd.look z.2.1)) .nil)))
    rw [all1] at hA1
    refine ⟨D1, _, rfl, .inl ⟨SqL.of hD1, fun t1 nt1 => ?_⟩⟩
    have smt1 : Same H (upd H2 t1 (.tup acc1)) := sm1.new nt1
    have at1 : At K (upd H2 t1 (.tup acc1)) (.ref t1) (dPairs (vals kvs ch)) := .tup (SqT.of upd_same) (by
      unfold vals
      rw [List.map_map]
      exact hA1.keep (tk_new nt1))
    refine ⟨.ref t1, rfl, .ref a, rfl, a, _, 0, .ref b, rfl, rfl, smt1.tk _ _ hT, atI_nat (j := 0) rfl, b, rfl, ⟨_, smt1.tk _ _ hTb⟩, fun D3 n3 => ?_⟩
    -- what is wanted
    refine lcT (K := K) (e := fun z : Nat × Str × V => dPair (z.1, z.2.2)) (p := fun _ => true) (smt1.tk _ _ hTb) (hAb.keep smt1.tk) n3 (by omega) (fun z y H4 hz sm hy => ?_) (fun H4 acc3 sm3 hD3 hA3 => ?_)
    · obtain ⟨a2, rfl, hq⟩ := at_ch (oc z hz) hy
      intro Q2 N2 hy hn
      refine ⟨a2, _, rfl, hq, rfl, _, _, rfl, _, _, rfl, _, _, rfl, rfl, rfl, ?_⟩
      refine ⟨_, rfl, _, rfl, by show 2 ≤ sizeLine; decide, fun p np => ?_⟩
      exact hy rfl _ _ (same_new np) (.tup (SqT.of upd_same) (.cons (.int _) (.cons (at_dV (oc z hz)) .nil)))
    rw [all1] at hA3
    refine ⟨D3, _, rfl, .inl ⟨SqL.of hD3, fun t3 nt3 => ?_⟩⟩
    have smt3 : Same (upd H2 t1 (.tup acc1)) (upd H4 t3 (.tup acc3)) := sm3.new nt3
    have at3 : At K (upd H4 t3 (.tup acc3)) (.ref t3) (dPairs (wants ch)) := .tup (SqT.of upd_same) (by
      unfold wants
      rw [List.map_map]
      exact hA3.keep (tk_new nt3))
    have at1' := at1.keep smt3.tk
    have sm5 : Same H (upd H4 t3 (.tup acc3)) := smt1.trans smt3
    refine ⟨_, _, at1'.dp, at3.dp, pl_dPairs _, pl_dPairs _, Nat.le_trans (dep_dPairs _) (by decide), fun e => ?_, fun e => ?_⟩
    rotate_left
    · -- not held
      have nh : ¬ vals kvs ch = wants ch := fun z => e ((pairs_eq gd oc).mpr z)
      refine ⟨_, rfl, _, rfl, Nat.zero_le _, fun p1 np1 => ⟨Nat.zero_le _, fun p2 np2 => ⟨by show 4 ≤ sizeLine; decide, fun p np => ?_⟩⟩⟩
      refine q _ _ { held := false, vals := vals kvs ch, ans := [], wr := [] } (((sm5.new np1).new np2).new np) (fun ks _ => (if_neg nh).symm) ?_
      have k1 := tk_new (K := K) (o := .tup []) np1
      have k2 := tk_new (K := K) (o := .tup []) np2
      have k3 := tk_new (K := K) (o := .tup [.int 0, .ref t1, .ref p1, .ref p2]) np
      exact .tup (SqT.of upd_same) (.cons (.int 0) (.cons (at1'.keep (k1.trans (k2.trans k3))) (.cons (.tup ((k2.trans k3) _ _ (SqT.of upd_same)) .nil) (.cons (.tup (k3 _ _ (SqT.of upd_same)) .nil) .nil))))
    · -- held
      have held := (pairs_eq gd oc).mp e
      refine ⟨_, rfl, fun A' nA => ?_⟩
      have nA' : H A' = none := sm5.none nA
      have smA : Same H (upd (upd H4 t3 (.tup acc3)) A' (.dK [])) := sm5.new nA
      have at1A := at1'.keep (tk_new (K := K) (o := .dK []) nA)
      refine ⟨.ref a, rfl, .ref a, ch, de, rfl, hx.keep smA.tk, oc, od, fw1, fw2, fun H6 kp ks sm6 hks hkp => ?_⟩
      have lks : ks.length ≤ 10 := by
        have z := hks.len
        unfold names at z
        rw [List.length_append, List.length_map, List.length_map] at z
        omega
      have nr : A' ≠ r := fun e => by rw [e, sm5 _ _ hH] at nA; cases nA
      refine ⟨kp, rfl, ⟨_, hkp⟩, ?_⟩
      have stay : ∀ {H7 : Hp} {o : HO}, Same H H7 → Same H (upd H7 A' o) := fun sm b o hb => by rw [upd_ne (ne_of_none hb nA')]; exact sm b o hb
      refine for_tup (xs := ks.map V.str) (fun i σ H7 => ∃ (y2 : Option V), σ = [some (.ref r), some (.ref a), y2, some (.ref t1), some (.ref A'), none, none, none, none, none] ∧ Same H H7 ∧ TK K H6 H7 ∧ H7 A' = some (.dK (after kvs (ks.take i))))
        ⟨_, rfl, smA.trans sm6, TK.refl, sm6 _ _ upd_same⟩ (fun i σ H7 _ ⟨_, _, _, tk, _⟩ => tk _ _ hkp)
        (fun i x σ H7 hx7 ⟨y2, e, sm7, tk7, eA⟩ => ?_) (fun σ H7 ⟨y2, e, sm7, tk7, eA⟩ => ?_)
      · subst e
        rw [List.getElem?_map] at hx7
        cases hz : ks[i]? with
        | none => rw [hz] at hx7; cases hx7
        | some z =>
          rw [hz] at hx7
          have ex : V.str z = x := Option.some.inj hx7
          subst ex
          have hd := sm7 _ _ hH
          have etake : ks.take (i + 1) = ks.take i ++ [z] := by rw [List.take_add_one, hz]; rfl
          have ea := after_snoc kvs (ks.take i) z
          refine ⟨.str z, rfl, .ref r, rfl, r, val kvs z, rfl, DGet.k (k := Sum.inr z) hd, _, rfl, ?_⟩
          cases hv : val kvs z with
          | none =>
            rw [hv] at ea
            exact iteF ⟨_, rfl, sm7, tk7, by rw [etake, ea]; exact eA⟩
          | some v =>
            rw [hv] at ea
            have dg := DGet.k (k := Sum.inr z) hd
            rw [show valV kvs (Sum.inr z) = some v from hv] at dg
            have al := after_len kvs (ks.take i)
            rw [List.length_take] at al
            refine iteT ⟨.ref r, rfl, .str z, rfl, r, v, rfl, dg, .ref A', rfl, .str z, rfl, A', _, rfl, DPut.k (k := Sum.inr z) eA (by rw [sizeLine_eq]; omega), ?_⟩
            exact ⟨_, rfl, stay sm7, tk7.trans (tk_upd (by rw [eA]; trivial)), by rw [etake, ea]; exact upd_same⟩
      · subst e
        rw [List.length_map, List.take_length] at eA
        have at17 := at1A.keep (sm6.tk.trans tk7)
        -- the deeds
        refine ⟨.ref a, rfl, a, _, 1, .ref c, rfl, rfl, sm7.tk _ _ hT, atI_nat (j := 1) rfl, c, rfl, ⟨_, sm7.tk _ _ hTc⟩, fun D5 n5 => ?_⟩
        have ga : Good (after kvs ks) := after_good gd ks
        have la := after_len kvs ks
        refine lcD (K := K) (f := dDe) (dd := fun d : Nat × Deed => d.2) (e := fun p : (Nat × Deed) × V => dPair (p.1.1, p.2)) (sm7.tk _ _ hTc) (hAc.keep sm7.tk) n5 eA (by omega) (fun i z y H8 hz bt er hy => ?_) (fun H8 acc bt er hD hA => ?_)
        · intro Q2 hq
          have hm := List.mem_of_getElem? hz
          obtain ⟨a2, y2', rfl, hq2, hy2⟩ := at_de hy
          have gi : Good (fin (after kvs ks) ((de.take i).map fun d => d.2)) := fin_good _ ga fun d hd => by
            obtain ⟨d', h', rfl⟩ := List.mem_map.mp hd
            exact od _ (List.mem_of_mem_take h')
          have fl := fin_len ((de.take i).map fun d => d.2) (after kvs ks)
          rw [List.length_map, List.length_take] at fl
          refine ⟨a2, _, rfl, hq2, rfl, _, _, rfl, _, _, rfl, rfl, rfl, ?_⟩
          refine ⟨_, rfl, .ref A', rfl, _, rfl, A', _, _, z.2, rfl, er, gi, by omega, hy2, od z hm, ?_⟩
          refine ⟨by show 2 ≤ sizeLine; decide, fun p np => hq _ _ (fun b o nb hb => ?_) ?_ ?_⟩
          · have hb2 : (upd H8 A' (.dK (doDeed (fin (after kvs ks) ((de.take i).map fun d => d.2)) z.2).2)) b = some o := by rw [upd_ne nb]; exact hb
            rw [upd_ne (ne_of_none hb2 np)]
            exact hb2
          · exact same_new np _ _ upd_same
          · exact .tup (SqT.of upd_same) (.cons (.int _) (.cons (at_dV (doDeed_opt gi z.2)) .nil))
        · have btH : Same H H8 := fun b o hb => bt b o (ne_of_none hb nA') (sm7 b o hb)
          have tk8 : TK K H7 H8 := bt.tk (by rw [eA]; trivial)
          refine ⟨D5, acc, rfl, .inl ⟨SqL.of hD, fun t5 n5' => ?_⟩⟩
          have smt5 : Same H (upd H8 t5 (.tup acc)) := btH.new n5'
          have eans : (de.zip (answ (after kvs ks) (de.map fun d => d.2))).map (fun p : (Nat × Deed) × V => dPair (p.1.1, p.2)) = (ans (after kvs ks) de).map dPair := by
            have z := congrArg (List.map dPair) (zip_map1 (fun d : Nat × Deed => d.1) de (answ (after kvs ks) (de.map fun d => d.2)))
            rw [List.map_map] at z
            exact z
          rw [eans] at hA
          have at5 : At K (upd H8 t5 (.tup acc)) (.ref t5) (dPairs (ans (after kvs ks) de)) := .tup (SqT.of upd_same) (hA.keep (tk_new n5'))
          have at18 := at17.keep (tk8.trans (tk_new (K := K) (o := .tup acc) n5'))
          have eA8 : (upd H8 t5 (.tup acc)) A' = some (.dK (fin (after kvs ks) (de.map fun d => d.2))) := same_new n5' _ _ er
          -- what changed
          refine ⟨.ref a, rfl, .ref a, ch, de, rfl, hx.keep smt5.tk, oc, od, fw1, fw2, fun H9 kp2 ks2 sm9 hks2 hkp2 => ?_⟩
          have ek : ks2 = ks := hks2.one hks
          subst ek
          refine ⟨kp2, rfl, ⟨_, hkp2⟩, fun D6 n6 => ?_⟩
          have eA9 := sm9 _ _ eA8
          have gf : Good (fin (after kvs ks2) (de.map fun d => d.2)) := fin_good _ ga fun d hd => by
            obtain ⟨d', h', rfl⟩ := List.mem_map.mp hd
            exact od _ h'
          have hAk : AtAll K H9 (ks2.map V.str) (ks2.map fun k => PyData.str k) := AtAll.of_map fun k _ => .str k
          refine lcT (K := K) (f := fun k : Str => PyData.str k) (e := fun k : Str => PyData.str k) (p := fun k => decide (look (fin (after kvs ks2) (de.map fun d => d.2)) k ≠ look kvs k)) hkp2 hAk n6 (by omega) (fun z y H10 hz sm10 hy => ?_) (fun H10 acc6 sm10 hD6 hA6 => ?_)
          · rw [at_str hy]
            intro Q2 N2 hy2 hn2
            have eA10 := sm10 _ _ eA9
            have hd10 := (smt5.trans (sm9.trans sm10)) _ _ hH
            refine ⟨rfl, .ref A', rfl, A', rfl, .inl ⟨_, .inl eA10⟩, .str z, rfl, _, DGet.k (k := Sum.inr z) eA10, .ref r, rfl, r, rfl, .inl ⟨kvs, .inl hd10⟩, .str z, rfl, val kvs z, DGet.k (k := Sum.inr z) hd10, ?_⟩
            refine ⟨scal_opt (gf.look z) (gd.look z), _, rfl, ?_⟩
            have eb : (!decide ((valV (fin (after kvs ks2) (de.map fun d => d.2)) (Sum.inr z)).getD .non = (val kvs z).getD .non)) = decide (look (fin (after kvs ks2) (de.map fun d => d.2)) z ≠ look kvs z) := by
              show (!decide (look (fin (after kvs ks2) (de.map fun d => d.2)) z = look kvs z)) = _
              rw [← decide_not]
            rw [eb]
            refine ite2 (fun e => ⟨.str z, rfl, hy2 e _ _ (Same.refl _) (.str z)⟩) (fun e => hn2 (Bool.eq_false_iff.mpr e) _ (Same.refl _))
          · have eacc : acc6 = (changed kvs (fin (after kvs ks2) (de.map fun d => d.2)) ks2).map V.str := by
              have z := texts_of (f := fun k : Str => k) hA6
              rw [List.map_id'] at z
              exact z
            refine ⟨_, rfl, _, rfl, .ref D6, rfl, D6, rfl, ⟨_, SqL.of hD6⟩, fun D7 n7 => ?_⟩
            have eA10 := sm10 _ _ eA9
            have hAc6 : AtAll K H10 acc6 ((changed kvs (fin (after kvs ks2) (de.map fun d => d.2)) ks2).map fun k => PyData.str k) := by
              rw [eacc]
              exact AtAll.of_map fun k _ => .str k
            have lch : (changed kvs (fin (after kvs ks2) (de.map fun d => d.2)) ks2).length ≤ ks2.length := List.length_filter_le _ _
            have all7 : (changed kvs (fin (after kvs ks2) (de.map fun d => d.2)) ks2).filter (fun _ => true) = changed kvs (fin (after kvs ks2) (de.map fun d => d.2)) ks2 := List.filter_eq_self.mpr fun _ _ => rfl
            refine lcL (K := K) (f := fun k : Str => PyData.str k) (e := fun k : Str => dWr (k, look (fin (after kvs ks2) (de.map fun d => d.2)) k)) (p := fun _ => true) (SqL.of hD6) hAc6 n7 (by omega) (fun z y H11 hz sm11 hy => ?_) (fun H11 acc7 sm11 hD7 hA7 => ?_)
            · rw [at_str hy]
              intro Q2 N2 hy2 hn2
              have eA11 := sm11 _ _ eA10
              refine ⟨rfl, .str z, rfl, .ref A', rfl, A', rfl, .inl ⟨_, .inl eA11⟩, .str z, rfl, _, DGet.k (k := Sum.inr z) eA11, by show 2 ≤ sizeLine; decide, fun p np => ?_⟩
              exact hy2 rfl _ _ (same_new np) (.tup (SqT.of upd_same) (.cons (.str _) (.cons (at_dV (gf.look z)) .nil)))
            · rw [all7] at hA7
              refine ⟨D7, acc7, rfl, .inl ⟨SqL.of hD7, fun t7 n7' => ⟨by show 4 ≤ sizeLine; decide, fun p np => ?_⟩⟩⟩
              have k7 := tk_new (K := K) (o := .tup acc7) n7'
              have kp' := tk_new (K := K) (o := .tup [.int 1, .ref t1, .ref t5, .ref t7]) np
              have smF : Same (upd H8 t5 (.tup acc)) (upd (upd H11 t7 (.tup acc7)) p (.tup [.int 1, .ref t1, .ref t5, .ref t7])) := (((sm9.trans sm10).trans sm11).new n7').new np
              refine q _ _ (tryP kvs ch de ks2) (smt5.trans smF) (fun ks3 h3 => by rw [h3.one hks2]) ?_
              have et : tryP kvs ch de ks2 = { held := true, vals := vals kvs ch, ans := ans (after kvs ks2) de, wr := (changed kvs (fin (after kvs ks2) (de.map (·.2))) ks2).map fun k => (k, look (fin (after kvs ks2) (de.map (·.2))) k) } := if_pos held
              rw [et]
              refine .tup (SqT.of upd_same) (.cons (.int 1) (.cons (at18.keep smF.tk) (.cons (at5.keep smF.tk) (.cons (.tup (kp' _ _ (SqT.of upd_same)) ?_) .nil))))
              show AtAll K _ acc7 (((changed kvs (fin (after kvs ks2) (de.map (·.2))) ks2).map fun k => (k, look (fin (after kvs ks2) (de.map (·.2))) k)).map dWr)
              rw [List.map_map]
              exact hA7.keep (k7.trans kp')
end
end CK
/-! Law k05: _law_split. -/
namespace CK
open PySem PySem.Spec PyProof.Rows L2
theorem nodup_idx {α : Type} {l : List α} (nd : l.Nodup) {i j : Nat} (hi : i < l.length) (hj : j < l.length) (e : l[i] = l[j]) : i = j := by
  have pw := List.pairwise_iff_getElem.mp nd
  rcases Nat.lt_trichotomy i j with h | h | h
  · exact absurd e (pw i j hi hj h)
  · exact h
  · exact absurd e.symm (pw j i hj hi h)
theorem cnt_cons (L : List Str) (Ls : List (List Str)) (k : Str) : cnt (L :: Ls) k = cnt Ls k + (if k ∈ L then 1 else 0) := by
  unfold cnt
  rw [List.countP_cons]
  by_cases h : k ∈ L
  · rw [if_pos h, if_pos (decide_eq_true h)]
  · rw [if_neg h, if_neg (by rw [decide_eq_false h]; exact Bool.false_ne_true)]
theorem cnt_set (k kk : Str) : ∀ (Ls : List (List Str)) (j : Nat) (L : List Str), Ls[j]? = some L → cnt Ls kk = 0 → cnt (Ls.set j (L ++ [kk])) k = cnt Ls k + (if k = kk then 1 else 0)
  | [], _, _, h, _ => by simp at h
  | M :: Ls, 0, L, h, z => by
    have e : M = L := Option.some.inj h
    subst e
    rw [List.set_cons_zero, cnt_cons, cnt_cons]
    rw [cnt_cons] at z
    have nm : kk ∉ M := fun c => by rw [if_pos c] at z; omega
    by_cases e : k = kk
    · subst e
      rw [if_pos (List.mem_append_right _ (List.mem_singleton.mpr rfl)), if_neg nm, if_pos rfl]
    · rw [if_neg e]
      by_cases c : k ∈ M
      · rw [if_pos (List.mem_append_left _ c), if_pos c]
      · rw [if_neg c, if_neg (fun d => (List.mem_append.mp d).elim c fun d => e (List.mem_singleton.mp d))]
  | M :: Ls, j + 1, L, h, z => by
    rw [List.set_cons_succ, cnt_cons, cnt_cons]
    rw [cnt_cons] at z
    have ih := cnt_set k kk Ls j L (by simpa using h) (by omega)
    rw [ih]
    omega
theorem cnt_zero {Ls : List (List Str)} {k : Str} (h : ∀ L ∈ Ls, k ∉ L) : cnt Ls k = 0 := by
  unfold cnt
  rw [List.countP_eq_zero]
  intro L hL
  rw [decide_eq_false (h L hL)]
  exact Bool.false_ne_true
theorem cnt_pos {Ls : List (List Str)} {k : Str} {L : List Str} (hL : L ∈ Ls) (h : k ∈ L) : 0 < cnt Ls k := List.countP_pos_iff.mpr ⟨L, hL, decide_eq_true h⟩
/-- the lists at as hold Ls -/
def Hold (H : Hp) (as : List Addr) (Ls : List (List Str)) : Prop := as.length = Ls.length ∧ ∀ (j : Nat) (a : Addr) (L : List Str), as[j]? = some a → Ls[j]? = some L → H a = some (.lst (L.map V.str))
theorem Hold.same {H H' : Hp} {as : List Addr} {Ls : List (List Str)} (h : Hold H as Ls) (s : Same H H') : Hold H' as Ls := ⟨h.1, fun j a L h1 h2 => s _ _ (h.2 j a L h1 h2)⟩
section
variable {P : Program} {w : World} {K : PySem.W.Frag} {mg : Str → Option Value} {base : Heap}
def spSplit (K : PySem.W.Frag) : Sp := fun vs H Q _ => ∃ (a : Addr) (ks : List Str) (r m : Int), vs = [.ref a, .int r, .int m] ∧ SqL K H a (ks.map V.str) ∧ ks.Nodup ∧ ks.length ≤ 100 ∧ 1 ≤ m ∧ m ≤ 4 ∧
  ∀ H' p (as : List Addr) (Ls : List (List Str)), Same H H' → H' p = some (.lst (as.map V.ref)) → Hold H' as Ls → Ls.length ≤ 4 → (∀ L ∈ Ls, L.length ≤ 100) → (∀ k ∈ ks, cnt Ls k = 1) → Q (.ref p) H'
theorem ok_split {f : Addr} {fd : FuncData} {k : Nat} (F : Fun K "_law_split" "_law_split" s_split f fd) (mI : mg "int" = none) (mR : mg "range" = none) (mL : mg "len" = none) :
    FnOk P w K mg base CX0 (k + 1) f fd ["_law_keys_here", "_law_row_here", "_law_many"] (spSplit K) := by
  refine F.ok sc_split (fun vs H Q E h => ?_) (fun cdv A outer s H vs Q E hr h => ?_)
  · obtain ⟨a, ks, r, m, rfl, _⟩ := h
    rfl
  · obtain ⟨a, ks, r, m, rfl, hS, nd, hl, m0, m1, q⟩ := h
    refine ⟨_, pss_cons (ps_set (i := 3) sc_split.nd rfl (.inl rfl) (pe_lst pa_nil))
      (pss_cons (ps_for PassesOwn.never rfl (pi_range1 (by rfl) mR (pa_cons (pv 2) pa_nil)) (pg_name (i := 4) sc_split.nd rfl (Or.inl rfl))
        (pss_one (ps_expr (pe_bm PySem.F.plainAttrs_list PySem.F.slot_list_append PySem.F.type_list_append mt_append (pv 3) (pa_cons (pe_lst pa_nil) pa_nil)))))
      (pss_cons (ps_for PassesOwn.never rfl (pi_range1 (by rfl) mR (pa_cons (pe_callB call_len_seq (by rfl) mL (by decide +kernel) (pa_cons (pv 0) pa_nil)) pa_nil)) (pg_name (i := 4) sc_split.nd rfl (Or.inl rfl))
        (pss_cons (ps_set (i := 5) sc_split.nd rfl (.inl rfl) (pe_ix (r := rIxL K) ix_list (pv 3) (pe_op op_mod (pe_op op_fdiv (pe_callTy call_int1 (by rfl) mI (by decide +kernel) (pa_cons (pv 1) pa_nil)) (pe_op op_add (pe_op op_mul pe_int (pv 4)) pe_int)) (pv 2)) (fun _ _ => rfl)))
        (pss_one (ps_expr (pe_bm PySem.F.plainAttrs_list PySem.F.slot_list_append PySem.F.type_list_append mt_append (pv 5) (pa_cons (pe_ix (r := rIxL K) ix_list (pv 0) (pv 4) (fun _ _ => rfl)) pa_nil))))))
      (pss_one (ps_ret (pv 3))))), ?_⟩
    refine ⟨Nat.zero_le _, fun S nS => ?_⟩
    have keepS : ∀ {H2 : Hp} {o : HO}, Same H H2 → Same H (upd H2 S o) := fun sm b o hb => by rw [upd_ne (ne_of_none hb nS)]; exact sm b o hb
    refine ⟨.int m, rfl, m, rfl, by omega, by omega, ?_⟩
    refine for_range (n := m.toNat) (fun i σ H2 => ∃ (y4 : Option V) (as : List Addr), σ = [some (.ref a), some (.int r), some (.int m), some (.ref S), y4, none] ∧ Same H H2 ∧ as.length = i ∧ H2 S = some (.lst (as.map V.ref)) ∧ as.Nodup ∧ ∀ b ∈ as, b ≠ S ∧ H b = none ∧ H2 b = some (.lst []))
      ⟨none, [], rfl, same_new nS, rfl, upd_same, List.nodup_nil, fun _ h => nomatch h⟩ (fun i σ H2 hi ⟨y4, as, e, sm, la, eS, nda, hb⟩ => ?_) (fun σ H2 ⟨y4, as, e, sm, la, eS, nda, hb⟩ => ?_)
    · subst e
      refine ⟨.ref S, rfl, .inl ⟨rfl, _, .inl (.inl eS)⟩, Nat.zero_le _, fun L nL => ?_⟩
      have nLS : L ≠ S := fun z => by rw [z, eS] at nL; cases nL
      have nLH : H L = none := sm.none nL
      have eS2 : (upd H2 L (.lst [])) S = some (.lst (as.map V.ref)) := same_new nL _ _ eS
      refine ⟨S, as.map V.ref, .ref L, rfl, rfl, eS2, by rw [List.length_map, sizeLine_eq]; omega, _, as ++ [L], rfl, keepS (sm.new nL), by rw [List.length_append]; exact congrArg (· + 1) la, by rw [upd_same, List.map_append]; rfl, ?_, fun b hb' => ?_⟩
      · rw [List.nodup_append]
        refine ⟨nda, List.nodup_cons.mpr ⟨(fun z => nomatch z), List.nodup_nil⟩, fun x hx y hy e => ?_⟩
        rw [List.mem_singleton.mp hy] at e
        have := (hb x hx).2.2
        rw [e, nL] at this
        cases this
      · rcases List.mem_append.mp hb' with h | h
        · obtain ⟨h1, h2, h3⟩ := hb b h
          exact ⟨h1, h2, by rw [upd_ne h1]; exact same_new nL _ _ h3⟩
        · rw [List.mem_singleton.mp h]
          exact ⟨nLS, nLH, by rw [upd_ne nLS, upd_same]⟩
    · subst e
      have hlen : (ks.map V.str).length = ks.length := List.length_map _
      refine ⟨.ref a, rfl, a, _, rfl, .inl (sm.seq hS), _, rfl, by omega, by omega, ?_⟩
      refine for_range (n := ((ks.map V.str).length : Int).toNat) (fun i σ H3 => ∃ (y4 y5 : Option V) (Ls : List (List Str)), σ = [some (.ref a), some (.int r), some (.int m), some (.ref S), y4, y5] ∧ Same H H3 ∧ H3 S = some (.lst (as.map V.ref)) ∧ Hold H3 as Ls ∧
          (∀ k, cnt Ls k = if k ∈ ks.take i then 1 else 0) ∧ ∀ L ∈ Ls, L.length ≤ i)
        ⟨_, _, as.map fun _ => [], rfl, sm, eS, ⟨(List.length_map _).symm, fun j b L h1 h2 => ?_⟩, fun k => ?_, fun L hL => ?_⟩
        (fun i σ H3 hi ⟨y4', y5, Ls, e, sm3, eS3, hold, hc, hb3⟩ => ?_) (fun σ H3 ⟨y4', y5, Ls, e, sm3, eS3, hold, hc, hb3⟩ => ?_)
      · rw [List.getElem?_map, h1] at h2
        have e : [] = L := Option.some.inj h2
        subst e
        exact (hb b (List.mem_of_getElem? h1)).2.2
      · rw [List.take_zero, if_neg (fun h => nomatch h)]
        refine cnt_zero fun L hL => ?_
        obtain ⟨_, _, rfl⟩ := List.mem_map.mp hL
        exact fun h => nomatch h
      · obtain ⟨_, _, rfl⟩ := List.mem_map.mp hL
        exact Nat.le_refl _
      · subst e
        have hi' : i < ks.length := by rw [hlen] at hi; omega
        have bm := mod_in (r / (3 * (0 + (i : Int)) + 1)) (m := m) (by omega)
        obtain ⟨j, ej⟩ := Int.eq_ofNat_of_zero_le bm.1
        have hj : j < as.length := by omega
        have hjL : j < Ls.length := by rw [← hold.1]; exact hj
        have g1 : atI (as.map V.ref) (r / (3 * (0 + (i : Int)) + 1) % m) = some (.ref as[j]) := by
          rw [ej]
          refine atI_nat ?_
          rw [List.getElem?_map, List.getElem?_eq_getElem hj]; rfl
        have g2 : atI (ks.map V.str) (0 + (i : Int)) = some (.str ks[i]) := by
          rw [Int.zero_add]
          refine atI_nat ?_
          rw [List.getElem?_map, List.getElem?_eq_getElem hi']; rfl
        have eL : H3 as[j] = some (.lst ((Ls[j]).map V.str)) := hold.2 j _ _ (List.getElem?_eq_getElem hj) (List.getElem?_eq_getElem hjL)
        have bL := hb3 Ls[j] (List.getElem_mem hjL)
        have haj := hb as[j] (List.getElem_mem hj)
        refine ⟨.ref S, rfl, .int r, rfl, .inl ⟨r, rfl, .int (0 + (i : Int)), rfl, _, _, rfl, rfl, .inl ⟨by decide, by decide⟩, _, _, rfl, rfl, _, _, rfl, rfl, ⟨by show (0 : Int) < 3 * (0 + (i : Int)) + 1; omega, by show 3 * (0 + (i : Int)) + 1 < 1073741824; omega⟩, .int m, rfl, _, _, rfl, rfl, by show 0 < m; omega, S, _, _, .ref as[j], rfl, rfl, SqL.of eS3, g1, ?_⟩⟩
        refine ⟨.ref as[j], rfl, .inl ⟨rfl, _, .inl (.inl eL)⟩, .ref a, rfl, .int (0 + (i : Int)), rfl, a, _, _, .str ks[i], rfl, rfl, sm3.seq hS, g2, as[j], _, _, rfl, rfl, eL, ?_, ?_⟩
        · rw [List.length_map, sizeLine_eq]; omega
        have etake : ks.take (i + 1) = ks.take i ++ [ks[i]] := by rw [List.take_add_one, List.getElem?_eq_getElem hi']; rfl
        have fresh : ks[i] ∉ ks.take i := fun z => by
          have nd' : (ks.take (i + 1)).Nodup := (List.take_sublist _ _).nodup nd
          rw [etake, List.nodup_append] at nd'
          exact nd'.2.2 _ z _ (List.mem_singleton.mpr rfl) rfl
        have c0 : cnt Ls ks[i] = 0 := by rw [hc, if_neg fresh]
        refine ⟨_, _, Ls.set j (Ls[j] ++ [ks[i]]), rfl, fun b o hb' => ?_, ?_, ⟨by rw [List.length_set]; exact hold.1, fun j' b L h1 h2 => ?_⟩, fun k => ?_, fun L hL => ?_⟩
        · rw [upd_ne (ne_of_none hb' haj.2.1)]
          exact sm3 b o hb'
        · rw [upd_ne haj.1.symm]; exact eS3
        · by_cases e : j' = j
          · subst e
            rw [List.getElem?_set_self hjL] at h2
            rw [List.getElem?_eq_getElem hj] at h1
            rw [← Option.some.inj h1, ← Option.some.inj h2, upd_same, List.map_append]; rfl
          · rw [List.getElem?_set_ne (fun z => e z.symm)] at h2
            have nb : b ≠ as[j] := fun z => by
              have hj' : j' < as.length := (List.getElem?_eq_some_iff.mp h1).1
              have eb := (List.getElem?_eq_some_iff.mp h1).2
              exact e (nodup_idx nda hj' hj (eb.trans z))
            rw [upd_ne nb]
            exact hold.2 j' b L h1 h2
        · rw [cnt_set k ks[i] Ls j _ (List.getElem?_eq_getElem hjL) c0, hc, etake]
          by_cases e : k = ks[i]
          · rw [if_pos e, e, if_neg fresh, if_pos (List.mem_append_right _ (List.mem_singleton.mpr rfl))]
          · rw [if_neg e]
            by_cases c : k ∈ ks.take i
            · rw [if_pos c, if_pos (List.mem_append_left _ c)]
            · rw [if_neg c, if_neg (fun d => (List.mem_append.mp d).elim c fun d => e (List.mem_singleton.mp d))]
        · rcases List.mem_or_eq_of_mem_set hL with h | h
          · exact Nat.le_succ_of_le (hb3 L h)
          · rw [h, List.length_append]; exact Nat.succ_le_succ bL
      · subst e
        have ez : ((ks.map V.str).length : Int).toNat = ks.length := by rw [hlen]; exact Int.toNat_natCast _
        rw [ez] at hc hb3
        rw [List.take_length] at hc
        refine ⟨.ref S, rfl, q H3 S as Ls sm3 eS3 hold (by rw [← hold.1, la]; omega) (fun L hL => Nat.le_trans (hb3 L hL) hl) (fun k hk => by rw [hc, if_pos hk])⟩
end
end CK
/-! Law k05: _law_tried_parts. -/
namespace CK
open PySem PySem.Spec PyProof.Rows L2
theorem part1_len (checks : List (Str × V)) (S : List Str) : (part1 checks S).length ≤ checks.length := by
  have z := List.length_filter_le (fun c : Nat × Str × V => decide (c.2.1 ∈ S)) (en 0 checks)
  rw [en_length] at z
  exact z
theorem part2_len (deeds : List Deed) (S : List Str) : (part2 deeds S).length ≤ deeds.length := by
  have z := List.length_filter_le (fun c : Nat × Deed => decide (c.2.key ∈ S)) (en 0 deeds)
  rw [en_length] at z
  exact z
theorem names_len {checks : List (Str × V)} {deeds : List Deed} (dok : DealOk checks deeds) (S : List Str) : (names (part1 checks S) (part2 deeds S)).length ≤ 10 := by
  unfold names
  rw [List.length_append, List.length_map, List.length_map]
  have := part1_len checks S
  have := part2_len deeds S
  have := dok.few1
  have := dok.few2
  omega
/-- the keys that a part names -/
abbrev KsOf (checks : List (Str × V)) (deeds : List Deed) (S ks : List Str) : Prop := Keys ks (names (part1 checks S) (part2 deeds S))
section
variable {P : Program} {w : World} {K : PySem.W.Frag} {mg : Str → Option Value} {base : Heap}
def spTriedParts (K : PySem.W.Frag) : Sp := fun vs H Q _ => ∃ (r p : Addr) (kvs : Rows) (x : V) (checks : List (Str × V)) (deeds : List Deed) (as : List Addr) (Ls : List (List Str)), vs = [.ref r, x, .ref p] ∧
  H r = some (.dK kvs) ∧ Good kvs ∧ kvs.length < 1000 ∧ At K H x (dDeal checks deeds) ∧ DealOk checks deeds ∧ H p = some (.lst (as.map V.ref)) ∧ Hold H as Ls ∧ Ls.length ≤ 4 ∧ (∀ L ∈ Ls, L.length ≤ 100) ∧
  ∀ H' o t n xs ts kss, Same H H' → H' o = some (.lst [.ref t, .ref n]) → H' t = some (.lst xs) → AtAll K H' xs (ts.map dTried) → All2 (fun S t => TP kvs checks deeds S t) Ls ts →
    H' n = some (.lst (kss.flatten.map V.str)) → All2 (fun S ks => KsOf checks deeds S ks) Ls kss → Q (.ref o) H'
theorem ok_triedParts {f : Addr} {fd : FuncData} {k : Nat} (F : Fun K "_law_tried_parts" "_law_tried_parts" s_triedParts f fd) (UP : Use P w K mg base "part_of" (k + 1) ["deal", "keys"] (spPartOf K))
    (UK : Use P w K mg base "keys_of_part" (k + 1) ["part"] (spKeysOfPart K)) (UT : Use P w K mg base "try_part" (k + 5) ["rows", "part"] (spTry K)) :
    FnOk P w K mg base CX0 (k + 6) f fd ["_law_rows_here", "_law_deal_here", "_law_sets"] (spTriedParts K) := by
  refine F.ok sc_triedParts (fun vs H Q E h => ?_) (fun cdv A outer s H vs Q E hr h => ?_)
  · obtain ⟨r, p, kvs, x, checks, deeds, as, Ls, rfl, _⟩ := h
    rfl
  · obtain ⟨r, p, kvs, x, checks, deeds, as, Ls, rfl, hH, gd, hl, hx, dok, hP, hold, few, short, q⟩ := h
    refine ⟨_, pss_cons (ps_set (i := 3) sc_triedParts.nd rfl (.inl rfl) (pe_lst pa_nil))
      (pss_cons (ps_set (i := 4) sc_triedParts.nd rfl (.inl rfl) (pe_lst pa_nil))
      (pss_cons (ps_for PassesOwn.never rfl (pi_list (pv 2)) (pg_name (i := 5) sc_triedParts.nd rfl (Or.inl rfl))
        (pss_cons (ps_set (i := 6) sc_triedParts.nd rfl (.inl rfl) (pe_use UP (hr.mono (by omega)) (by rfl) (pa_cons (pv 1) (pa_cons (pv 5) pa_nil))))
        (pss_cons (ps_set (i := 7) sc_triedParts.nd rfl (.inl rfl) pe_dnewK)
        (pss_cons (ps_for PassesOwn.never rfl (pi_list (pv 5)) (pg_name (i := 8) sc_triedParts.nd rfl (Or.inl rfl))
          (pss_one (ps_if (pt_cmp (pc_din (hu_of hr) (pv 8) (pv 0))) (pss_one (ps_dput (hu_of hr) (pv 7) (pv 8) (pe_dget (hu_of hr) (pv 0) (pv 8) (fun _ _ => rfl)) rfl)) pss_nil)))
        (pss_cons (ps_expr (pe_bm PySem.F.plainAttrs_list PySem.F.slot_list_append PySem.F.type_list_append mt_append (pv 3) (pa_cons (pe_use UT hr (by rfl) (pa_cons (pv 7) (pa_cons (pv 6) pa_nil))) pa_nil)))
        (pss_one (ps_for PassesOwn.never rfl (pi_tup (pe_use UK (hr.mono (by omega)) (by rfl) (pa_cons (pv 6) pa_nil))) (pg_name (i := 8) sc_triedParts.nd rfl (Or.inl rfl))
          (pss_one (ps_expr (pe_bm PySem.F.plainAttrs_list PySem.F.slot_list_append PySem.F.type_list_append mt_append (pv 4) (pa_cons (pv 8) pa_nil)))))))))))
      (pss_one (ps_ret (pe_lst (pa_cons (pv 3) (pa_cons (pv 4) pa_nil))))))), ?_⟩
    refine ⟨Nat.zero_le _, fun T nT => ⟨Nat.zero_le _, fun N nN => ?_⟩⟩
    have smT : Same H (upd H T (.lst [])) := same_new nT
    have smN : Same H (upd (upd H T (.lst [])) N (.lst [])) := smT.new nN
    have nTN : T ≠ N := ne_of_none upd_same nN
    have nN' : H N = none := smT.none nN
    have kT : ∀ {H2 : Hp} {o : HO}, Same H H2 → Same H (upd H2 T o) := fun sm b o hb => by rw [upd_ne (ne_of_none hb nT)]; exact sm b o hb
    have kN : ∀ {H2 : Hp} {o : HO}, Same H H2 → Same H (upd H2 N o) := fun sm b o hb => by rw [upd_ne (ne_of_none hb nN')]; exact sm b o hb
    refine ⟨.ref p, rfl, p, rfl, ⟨_, SqL.of (smN _ _ hP)⟩, ?_⟩
    refine for_list (xs := as.map V.ref) (fun i σ H2 => ∃ (y5 y6 y7 y8 : Option V) (xs : List V) (ts : List Tried) (kss : List (List Str)), σ = [some (.ref r), some x, some (.ref p), some (.ref T), some (.ref N), y5, y6, y7, y8] ∧ Same H H2 ∧
        H2 T = some (.lst xs) ∧ AtAll K H2 xs (ts.map dTried) ∧ All2 (fun S t => TP kvs checks deeds S t) (Ls.take i) ts ∧ H2 N = some (.lst (kss.flatten.map V.str)) ∧ All2 (fun S ks => KsOf checks deeds S ks) (Ls.take i) kss ∧ kss.flatten.length ≤ 10 * i)
      ⟨none, none, none, none, [], [], [], rfl, smN, by rw [upd_ne nTN, upd_same], .nil, .nil, upd_same, .nil, Nat.le_refl _⟩
      (fun i σ H2 _ ⟨_, _, _, _, _, _, _, _, sm, _⟩ => SqL.of (sm _ _ hP))
      (fun i z σ H2 hz ⟨y5, y6, y7, y8, xs, ts, kss, e, sm, eT, hA, hTP, eN, hKs, hlen⟩ => ?_) (fun σ H2 ⟨y5, y6, y7, y8, xs, ts, kss, e, sm, eT, hA, hTP, eN, hKs, hlen⟩ => ?_)
    · subst e
      rw [List.getElem?_map] at hz
      cases ha : as[i]? with
      | none => rw [ha] at hz; cases hz
      | some la =>
        rw [ha] at hz
        have ez : V.ref la = z := Option.some.inj hz
        subst ez
        have hi : i < Ls.length := by rw [← hold.1]; exact (List.getElem?_eq_some_iff.mp ha).1
        have hLi : Ls[i]? = some Ls[i] := List.getElem?_eq_getElem hi
        have etake : Ls.take (i + 1) = Ls.take i ++ [Ls[i]] := by rw [List.take_add_one, hLi]; rfl
        have eL := hold.2 i la _ ha hLi
        have bL := short Ls[i] (List.getElem_mem hi)
        generalize Ls[i] = S at hLi etake eL bL
        have lts : ts.length ≤ 4 := by
          have := hTP.length
          rw [List.length_take] at this
          omega
        -- part_of
        refine ⟨x, rfl, .ref la, rfl, x, la, S, checks, deeds, rfl, hx.keep sm.tk, dok, SqL.of (sm _ _ eL), fun H3 pt sm3 hpt => ?_⟩
        intro Kn nKn
        have smK : Same H2 (upd H3 Kn (.dK [])) := sm3.new nKn
        have nK2 : H2 Kn = none := sm3.none nKn
        have nKr : Kn ≠ r := fun e => by rw [e, sm _ _ hH] at nK2; cases nK2
        refine ⟨.ref la, rfl, la, rfl, ⟨_, SqL.of (smK _ _ (sm _ _ eL))⟩, ?_⟩
        refine for_list (xs := S.map V.str) (fun j σ H4 => ∃ (y8 : Option V), σ = [some (.ref r), some x, some (.ref p), some (.ref T), some (.ref N), some (.ref la), some pt, some (.ref Kn), y8] ∧ Same H3 H4 ∧ H4 Kn = some (.dK (after kvs (S.take j))))
          ⟨_, rfl, same_new nKn, upd_same⟩ (fun j σ H4 _ ⟨_, _, s4, _⟩ => SqL.of (s4 _ _ (sm3 _ _ (sm _ _ eL))))
          (fun j z σ H4 hz4 ⟨y8', e, s4, eK⟩ => ?_) (fun σ H4 ⟨y8', e, s4, eK⟩ => ?_)
        · subst e
          rw [List.getElem?_map] at hz4
          cases hk : S[j]? with
          | none => rw [hk] at hz4; cases hz4
          | some kk =>
            rw [hk] at hz4
            have ex : V.str kk = z := Option.some.inj hz4
            subst ex
            have hd := s4 _ _ (sm3 _ _ (sm _ _ hH))
            have etk : S.take (j + 1) = S.take j ++ [kk] := by rw [List.take_add_one, hk]; rfl
            have ea := after_snoc kvs (S.take j) kk
            refine ⟨.str kk, rfl, .ref r, rfl, r, val kvs kk, rfl, DGet.k (k := Sum.inr kk) hd, _, rfl, ?_⟩
            cases hv : val kvs kk with
            | none =>
              rw [hv] at ea
              exact iteF ⟨_, rfl, s4, by rw [etk, ea]; exact eK⟩
            | some v =>
              rw [hv] at ea
              have dg := DGet.k (k := Sum.inr kk) hd
              rw [show valV kvs (Sum.inr kk) = some v from hv] at dg
              have al := after_len kvs (S.take j)
              rw [List.length_take] at al
              refine iteT ⟨.ref r, rfl, .str kk, rfl, r, v, rfl, dg, .ref Kn, rfl, .str kk, rfl, Kn, _, rfl, DPut.k (k := Sum.inr kk) eK (by rw [sizeLine_eq]; omega), ?_⟩
              exact ⟨_, rfl, fun b o hb => by rw [upd_ne (ne_of_none hb nKn)]; exact s4 b o hb, by rw [etk, ea]; exact upd_same⟩
        · subst e
          rw [List.length_map, List.take_length] at eK
          have s24 : Same H2 H4 := sm3.trans s4
          have pl1 := part1_len checks S
          have pl2 := part2_len deeds S
          have fw1 := dok.few1
          have fw2 := dok.few2
          have o1 : ∀ c ∈ part1 checks S, isOpt c.2.2 = true := fun c hc => dok.opt _ (mem_part1 hc).1
          have o2 : ∀ d ∈ part2 deeds S, d.2.Ok := fun d hd => dok.ok _ (mem_part2 hd).1
          have al := after_len kvs S
          -- try_part
          refine ⟨.ref T, rfl, .inl ⟨rfl, _, .inl (.inl (s24 _ _ eT))⟩, .ref Kn, rfl, pt, rfl, ?_⟩
          refine ⟨Kn, after kvs S, pt, part1 checks S, part2 deeds S, rfl, eK, after_good gd S, by omega, hpt.keep s4.tk, o1, o2, by omega, by omega, fun H5 y t s5 htk hy => ?_⟩
          have s25 : Same H2 H5 := s24.trans s5
          have eT5 := s25 _ _ eT
          refine ⟨T, xs, y, rfl, rfl, eT5, by rw [hA.length, List.length_map, sizeLine_eq]; omega, ?_⟩
          have tk6 : TK K H5 (upd H5 T (.lst (xs ++ [y]))) := tk_upd (by rw [eT5]; trivial)
          have hA6 : AtAll K (upd H5 T (.lst (xs ++ [y]))) (xs ++ [y]) ((ts ++ [t]).map dTried) := by
            rw [List.map_append]
            exact ((hA.keep s25.tk).snoc hy).keep tk6
          have sm6 : Same H (upd H5 T (.lst (xs ++ [y]))) := kT (sm.trans s25)
          have eN6 : (upd H5 T (.lst (xs ++ [y]))) N = some (.lst (kss.flatten.map V.str)) := by rw [upd_ne nTN.symm]; exact s25 _ _ eN
          -- keys_of_part
          refine ⟨pt, rfl, pt, part1 checks S, part2 deeds S, rfl, ((hpt.keep s4.tk).keep s5.tk).keep tk6, o1, o2, by omega, by omega, fun H7 kp ks s7 hks hkp => ?_⟩
          have lks : ks.length ≤ 10 := Nat.le_trans hks.len (names_len dok S)
          refine ⟨kp, rfl, ⟨_, hkp⟩, ?_⟩
          refine for_tup (xs := ks.map V.str) (fun j σ H8 => ∃ (y8 : Option V), σ = [some (.ref r), some x, some (.ref p), some (.ref T), some (.ref N), some (.ref la), some pt, some (.ref Kn), y8] ∧ Same H H8 ∧ TK K H7 H8 ∧ H8 T = some (.lst (xs ++ [y])) ∧ H8 N = some (.lst ((kss.flatten ++ ks.take j).map V.str)))
            ⟨_, rfl, sm6.trans s7, TK.refl, s7 _ _ upd_same, by rw [List.take_zero, List.append_nil]; exact s7 _ _ eN6⟩ (fun j σ H8 _ ⟨_, _, _, tk, _⟩ => tk _ _ hkp)
            (fun j z σ H8 hz8 ⟨y8'', e, sm8, tk8, eT8, eN8⟩ => ?_) (fun σ H8 ⟨y8'', e, sm8, tk8, eT8, eN8⟩ => ?_)
          · subst e
            rw [List.getElem?_map] at hz8
            cases hk : ks[j]? with
            | none => rw [hk] at hz8; cases hz8
            | some kk =>
              rw [hk] at hz8
              have ex : V.str kk = z := Option.some.inj hz8
              subst ex
              have etk : ks.take (j + 1) = ks.take j ++ [kk] := by rw [List.take_add_one, hk]; rfl
              refine ⟨.ref N, rfl, .inl ⟨rfl, _, .inl (.inl eN8)⟩, .str kk, rfl, N, _, _, rfl, rfl, eN8, ?_, ?_⟩
              · rw [List.length_map, List.length_append, List.length_take, sizeLine_eq]; omega
              · exact ⟨_, rfl, kN sm8, tk8.trans (tk_upd (by rw [eN8]; trivial)), by rw [upd_ne nTN]; exact eT8, by rw [upd_same, etk, ← List.append_assoc, List.map_append (l₁ := kss.flatten ++ ks.take j)]; rfl⟩
          · subst e
            rw [List.length_map, List.take_length] at eN8
            refine ⟨_, _, _, _, xs ++ [y], ts ++ [t], kss ++ [ks], rfl, sm8, eT8, hA6.keep (s7.tk.trans tk8), ?_, ?_, ?_, ?_⟩
            · rw [etake]
              exact All2.snoc (R := fun S t => TP kvs checks deeds S t) ⟨ks, hks, htk ks hks⟩ hTP
            · rw [List.flatten_append, List.flatten_singleton]; exact eN8
            · rw [etake]
              exact All2.snoc (R := fun S ks => KsOf checks deeds S ks) hks hKs
            · rw [List.flatten_append, List.flatten_singleton, List.length_append]; omega
    · subst e
      rw [List.length_map, hold.1, List.take_length] at hTP hKs
      refine ⟨_, rfl, _, rfl, by show 2 ≤ sizeLine; decide, fun o no => ?_⟩
      have so := same_new (o := .lst [.ref T, .ref N]) no
      exact q _ o T N xs ts kss (sm.trans so) upd_same (so _ _ eT) (hA.keep so.tk) hTP (so _ _ eN) hKs
end
end CK
/-! Law k05: join_parts. -/
namespace CK
open PySem PySem.Spec PyProof.Rows L2 LamX
/-! ### sorted by place -/
section
variable {K : PySem.W.Frag} {H : Hp}
def placed (xs : List V) (ps : List (Nat × V)) : List (V × Int) := (xs.zip ps).map fun t => (t.1, (t.2.1 : Int))
theorem zip_fst {α β : Type} : ∀ (l : List α) (A : List β), l.length = A.length → (l.zip A).map (fun p => p.1) = l
  | [], [], _ => rfl
  | [], _ :: _, h => nomatch h
  | _ :: _, [], h => nomatch h
  | x :: l, y :: A, h => congrArg (x :: ·) (zip_fst l A (Nat.succ.inj h))
theorem at_zip {f : Nat × V → PyData} : ∀ {ps : List (Nat × V)} {xs : List V}, AtAll K H xs (ps.map f) → ∀ t ∈ xs.zip ps, At K H t.1 (f t.2)
  | [], _, h, t, ht => by cases h; cases ht
  | p :: ps, _, h, t, ht => by
    cases h with
    | cons h1 h2 =>
      rcases List.mem_cons.mp ht with e | ht
      · rw [e]; exact h1
      · exact at_zip h2 t ht
theorem placed_fst {xs : List V} {ps : List (Nat × V)} (h : xs.length = ps.length) : (placed xs ps).map (·.1) = xs := by
  unfold placed
  rw [List.map_map]
  exact zip_fst xs ps h
theorem at_pair {x : V} {p : Nat × V} (o : isOpt p.2 = true) (h : At K H x (dPair p)) : ∃ a, x = .ref a ∧ SqT K H a [.int (p.1 : Int), p.2] := by
  obtain ⟨a, xs, rfl, hT, hA⟩ := at_tup h
  obtain ⟨v, u, e1, q1, q2⟩ := all2 hA
  rw [e1, at_int q1, of_dV o q2] at hT
  exact ⟨a, rfl, hT⟩
theorem placed_keys {xs : List V} {ps : List (Nat × V)} (o : ∀ p ∈ ps, isOpt p.2 = true) (h : AtAll K H xs (ps.map dPair)) : RowKeys K H (placed xs ps) := by
  intro b hb
  obtain ⟨t, ht, rfl⟩ := List.mem_map.mp hb
  obtain ⟨a, e, hT⟩ := at_pair (o t.2 (List.of_mem_zip ht).2) (at_zip h t ht)
  exact ⟨a, _, e, hT⟩
theorem placed_sort {xs : List V} {ps : List (Nat × V)} {us : List V} (h : AtAll K H xs (ps.map dPair)) (pm : ps.Perm (en 0 us)) : AtAll K H ((byKey (placed xs ps)).map (·.1)) ((en 0 us).map dPair) := by
  have len : xs.length = ps.length := by rw [h.length, List.length_map]
  let le : V × (Nat × V) → V × (Nat × V) → Bool := fun a b => decide ((a.2.1 : Int) ≤ (b.2.1 : Int))
  have em : byKey (placed xs ps) = ((xs.zip ps).mergeSort le).map fun t => (t.1, (t.2.1 : Int)) := by
    unfold byKey placed
    exact (List.map_mergeSort (r := le) (s := fun a b : V × Int => decide (a.2 ≤ b.2)) (f := fun t : V × (Nat × V) => (t.1, (t.2.1 : Int))) fun a _ b _ => rfl).symm
  have pL : ((xs.zip ps).mergeSort le).Perm (xs.zip ps) := List.mergeSort_perm _ _
  have sw : ((xs.zip ps).mergeSort le).Pairwise fun a b => le a b = true := by
    refine List.pairwise_mergeSort (fun a b c h1 h2 => ?_) (fun a b => ?_) _
    · have h1' := of_decide_eq_true h1
      have h2' := of_decide_eq_true h2
      exact decide_eq_true (Int.le_trans h1' h2')
    · show (decide _ || decide _) = true
      rw [Bool.or_eq_true, decide_eq_true_eq, decide_eq_true_eq]
      omega
  have es : ((xs.zip ps).mergeSort le).map (·.2) = en 0 us := by
    refine by_pos (en_pw us 0) pm ?_ ?_
    · have z := pL.map (·.2)
      rw [zip_snd xs ps len] at z
      exact z
    · rw [List.pairwise_map]
      exact sw.imp fun h => Int.ofNat_le.mp (of_decide_eq_true h)
  rw [em, List.map_map, ← es, List.map_map]
  exact AtAll.of_map fun t ht => at_zip h t (pL.mem_iff.mp ht)
end
/-- a list or a tuple, walked -/
theorem pi_seq {X : Cx} {tg l : Expr} {tl : TE} (hl : PE X l tl) : PI X tg l (fun σ H R => iList X.K tl σ H R ∨ iTup X.K tl σ H R) :=
  ⟨fun pins s σ H R I h => h.elim ((pi_list hl).run pins s σ H R I) ((pi_tup hl).run pins s σ H R I)⟩
theorem at_tried {K : PySem.W.Frag} {H : Hp} {x : V} {t : Tried} (h : At K H x (dTried t)) : ∃ a p1 p2 p3 ys zs, x = .ref a ∧ SqT K H a [.int (if t.held = true then 1 else 0), .ref p1, .ref p2, p3] ∧ SqT K H p1 ys ∧ AtAll K H ys (t.vals.map dPair) ∧
    SqT K H p2 zs ∧ AtAll K H zs (t.ans.map dPair) ∧ At K H p3 (dWrs t.wr) := by
  obtain ⟨a, xs, rfl, hT, hA⟩ := at_tup h
  obtain ⟨v, u, y, z, e1, q1, q2, q3, q4⟩ := all4 hA
  obtain ⟨p1, ys, rfl, h1, h2⟩ := at_tup q2
  obtain ⟨p2, zs, rfl, h3, h4⟩ := at_tup q3
  rw [e1, at_int q1] at hT
  exact ⟨a, p1, p2, z, ys, zs, rfl, hT, h1, h2, h3, h4, q4⟩
/-- join_parts' table -/
def qJ : Str := Str.ofString "join_parts.<locals>." ++ Str.ofString "<lambda>"
section
variable {P : Program} {w : World} {K : PySem.W.Frag} {mg : Str → Option Value} {base : Heap}
def spJoin (K : PySem.W.Frag) (T : List (Addr × Str)) : Sp := fun vs H Q _ => ∃ (a : Addr) (xs : List V) (ts : List Tried) (us : List V) (b : Bool), vs = [.ref a] ∧ (SqL K H a xs ∨ SqT K H a xs) ∧ AtAll K H xs (ts.map dTried) ∧
  (∀ t ∈ ts, (∀ p ∈ t.vals, isOpt p.2 = true) ∧ (∀ p ∈ t.ans, isOpt p.2 = true) ∧ t.vals.length ≤ 10 ∧ t.ans.length ≤ 10) ∧ ts.length ≤ 10 ∧ b = decide (∀ t ∈ ts, t.held = true) ∧
  (b = true → (ts.flatMap (·.ans)).Perm (en 0 us)) ∧ (b = false → (ts.flatMap (·.vals)).Perm (en 0 us)) ∧ Tabs T H ∧
  ∀ H' y, ExtN H H' → Tabs T H' → At K H' y (dAns b us) → Q y H'
abbrev N_joinParts : List Str := ["tried", "values", "answers", "done", "held", "some_values", "some_answers", "writes", "at", "answer", "value"]
theorem opt_perm {ps : List (Nat × V)} {us : List V} (o : ∀ p ∈ ps, isOpt p.2 = true) (pm : ps.Perm (en 0 us)) : ∀ p ∈ en 0 us, isOpt p.2 = true := fun p hp => o p (pm.mem_iff.mpr hp)
theorem ok_joinParts {f c Pt : Addr} {oc : Value} {od an : Option Addr} {osl : Array (Option Value)} {kV doc pm ct : Value} {k : Nat}
    (lk : K.lookup f = some ⟨oc, od, .func (PySem.W.fnOf "join_parts" "join_parts" (defArgs s_joinParts) (defBody s_joinParts) (defScope s_joinParts) .none kV doc pm an (.ref c) ct), osl⟩) (hcd : PySem.W.codeIn K (.ref c) "join_parts" = true)
    (TB : LamX.TabB base mg c Pt) (mT : mg "tuple" = none) (mS : mg "sorted" = none) :
    FnOk P w K mg base CX0 (k + 2) f (PySem.W.fnOf "join_parts" "join_parts" (defArgs s_joinParts) (defBody s_joinParts) (defScope s_joinParts) .none kV doc pm an (.ref c) ct) ["tried"] (spJoin K [(Pt, qJ)]) := by
  refine fn_of lk hcd sc_joinParts (fun vs H Q E h => ?_) (fun A outer s H vs Q E hr h => ?_)
  · obtain ⟨a, xs, ts, us, b, rfl, _⟩ := h
    rfl
  · obtain ⟨a, xs, ts, us, b, rfl, hS, hA, hts, few, hb, pm1, pm2, tb, q⟩ := h
    refine ⟨_, PSs.nox (pss_cons (ps_set (i := 1) sc_joinParts.nd rfl (.inl rfl) (pe_lst pa_nil))
      (pss_cons (ps_set (i := 2) sc_joinParts.nd rfl (.inl rfl) (pe_lst pa_nil))
      (pss_cons (ps_set (i := 3) sc_joinParts.nd rfl (.inl rfl) pe_bl)
      (pss_cons (ps_for PassesOwn.never rfl (pi_seq (pv 0)) (pg_tup rfl (pgs_cons (pg_name (i := 4) sc_joinParts.nd rfl (Or.inl rfl)) (pgs_cons (pg_name (i := 5) sc_joinParts.nd rfl (Or.inl rfl)) (pgs_cons (pg_name (i := 6) sc_joinParts.nd rfl (Or.inl rfl)) (pgs_cons (pg_name (i := 7) sc_joinParts.nd rfl (Or.inl rfl)) pgs_nil)))))
        (pss_cons (ps_set (i := 3) sc_joinParts.nd rfl (.inl rfl) (pe_and (pv 3) (pe_one (pe_cmpR op_eq (pv 4) pe_int (nomark _)))))
        (pss_cons (ps_expr (pe_bm PySem.F.plainAttrs_list PySem.F.slot_list_extend PySem.F.type_list_extend mt_extT (pv 1) (pa_cons (pv 5) pa_nil)))
        (pss_one (ps_expr (pe_bm PySem.F.plainAttrs_list PySem.F.slot_list_extend PySem.F.type_list_extend mt_extT (pv 2) (pa_cons (pv 6) pa_nil)))))))
      (pss_cons (ps_if (pt_val (pv 3))
        (pss_one (ps_ret (pe_tup (pa_cons pe_str (pa_cons (pe_callTy call_tuple_of (by rfl) mT (by decide +kernel) (pa_cons
          (pe_lc (own := [("at", 8), ("answer", 9)]) (g := gTup K 2 (gCons (gName 8) (gCons (gName 9) gNil))) (tt := tYes) rfl sc_joinParts.nd
            (pi_list (pe_sortRow (T := [(Pt, qJ)]) (x := "row") (by rfl) mS (pv 2) TB (by rfl) (by rw [List.mem_singleton]; rfl) (fun p hp _ => by rw [List.mem_singleton.mp hp]; rfl) hr ⟨rfl, rfl, rfl, rfl⟩ (by rfl) (by decide) (fun _ _ _ _ _ => rfl)))
            (blkOk_by (N := N_joinParts) (sc := defScope s_joinParts) (by decide +kernel))
            (fun _ _ _ _ _ => pg_tup rfl (pgs_cons (pg_name (i := 8) sc_joinParts.nd rfl (Or.inl rfl)) (pgs_cons (pg_name (i := 9) sc_joinParts.nd rfl (Or.inl rfl)) pgs_nil)))
            (fun _ _ _ _ _ => pts_nil) (fun _ _ _ _ _ => pv 9)) pa_nil)) pa_nil))))) pss_nil)
      (pss_one (ps_ret (pe_tup (pa_cons pe_str (pa_cons (pe_callTy call_tuple_of (by rfl) mT (by decide +kernel) (pa_cons
          (pe_lc (own := [("at", 8), ("value", 10)]) (g := gTup K 2 (gCons (gName 8) (gCons (gName 10) gNil))) (tt := tYes) rfl sc_joinParts.nd
            (pi_list (pe_sortRow (T := [(Pt, qJ)]) (x := "row") (by rfl) mS (pv 1) TB (by rfl) (by rw [List.mem_singleton]; rfl) (fun p hp _ => by rw [List.mem_singleton.mp hp]; rfl) hr ⟨rfl, rfl, rfl, rfl⟩ (by rfl) (by decide) (fun _ _ _ _ _ => rfl)))
            (blkOk_by (N := N_joinParts) (sc := defScope s_joinParts) (by decide +kernel))
            (fun _ _ _ _ _ => pg_tup rfl (pgs_cons (pg_name (i := 8) sc_joinParts.nd rfl (Or.inl rfl)) (pgs_cons (pg_name (i := 10) sc_joinParts.nd rfl (Or.inl rfl)) pgs_nil)))
            (fun _ _ _ _ _ => pts_nil) (fun _ _ _ _ _ => pv 10)) pa_nil)) pa_nil)))))))))), ?_⟩
    refine ⟨Nat.zero_le _, fun V1 n1 => ⟨Nat.zero_le _, fun W n2 => ?_⟩⟩
    have sm1 : Same H (upd H V1 (.lst [])) := same_new n1
    have sm2 : Same H (upd (upd H V1 (.lst [])) W (.lst [])) := sm1.new n2
    have nVW : V1 ≠ W := ne_of_none upd_same n2
    have n2' : H W = none := sm1.none n2
    have kV1 : ∀ {H2 : Hp} {o : HO}, Same H H2 → Same H (upd H2 V1 o) := fun sm b o hb => by rw [upd_ne (ne_of_none hb n1)]; exact sm b o hb
    have kW : ∀ {H2 : Hp} {o : HO}, Same H H2 → Same H (upd H2 W o) := fun sm b o hb => by rw [upd_ne (ne_of_none hb n2')]; exact sm b o hb
    have lx : xs.length = ts.length := by rw [hA.length, List.length_map]
    -- the loop's invariant and its turn
    let Pv : Nat → L2.St → Hp → Prop := fun i σ H2 => ∃ (y4 y5 y6 y7 : Option V) (bb : Bool) (vs as : List V), σ = [some (.ref a), some (.ref V1), some (.ref W), some (.bl bb), y4, y5, y6, y7, none, none, none] ∧ Same H H2 ∧ bb = decide (∀ t ∈ ts.take i, t.held = true) ∧
      H2 V1 = some (.lst vs) ∧ AtAll K H2 vs (((ts.take i).flatMap (·.vals)).map dPair) ∧ H2 W = some (.lst as) ∧ AtAll K H2 as (((ts.take i).flatMap (·.ans)).map dPair) ∧ vs.length ≤ 10 * i ∧ as.length ≤ 10 * i
    have start : Pv 0 [some (.ref a), some (.ref V1), some (.ref W), some (.bl true), none, none, none, none, none, none, none] (upd (upd H V1 (.lst [])) W (.lst [])) := by
      refine ⟨none, none, none, none, true, [], [], rfl, sm2, ?_, by rw [upd_ne nVW, upd_same], .nil, upd_same, .nil, Nat.le_refl _, Nat.le_refl _⟩
      exact (decide_eq_true fun t ht => nomatch ht).symm
    have turn : ∀ (i : Nat) (x : V) (H2 : Hp) (σ : L2.St), xs[i]? = some x → Pv i σ H2 → ∃ (y4 y5 y6 y7 : Option V) (bb : Bool) (vs as : List V) (q1 p1 p2 : Addr) (p3 : V) (h : Int) (ys zs : List V),
        σ = [some (.ref a), some (.ref V1), some (.ref W), some (.bl bb), y4, y5, y6, y7, none, none, none] ∧ x = .ref q1 ∧ SqT K H2 q1 [.int h, .ref p1, .ref p2, p3] ∧ H2 V1 = some (.lst vs) ∧ SqT K H2 p1 ys ∧ vs.length + ys.length ≤ sizeLine ∧
        (upd H2 V1 (.lst (vs ++ ys))) W = some (.lst as) ∧ SqT K (upd H2 V1 (.lst (vs ++ ys))) p2 zs ∧ as.length + zs.length ≤ sizeLine ∧ ∀ b2, b2 = (bb && decide (V.int h = V.int 1)) →
          Pv (i + 1) [some (.ref a), some (.ref V1), some (.ref W), some (.bl b2), some (.int h), some (.ref p1), some (.ref p2), some p3, none, none, none] (upd (upd H2 V1 (.lst (vs ++ ys))) W (.lst (as ++ zs))) := by
      rintro i x H2 σ hx ⟨y4, y5, y6, y7, bb, vs, as, rfl, sm, hbb, eV, hV, eW, hW, l1, l2⟩
      obtain ⟨t, ht, qt⟩ := hA.at_map hx
      have mt := List.mem_of_getElem? ht
      obtain ⟨o1, o2, lv, la⟩ := hts t mt
      obtain ⟨q1, p1, p2, p3, ys, zs, rfl, hT, h1, h2, h3, h4, h5⟩ := at_tried (qt.keep sm.tk)
      have hi : i < ts.length := (List.getElem?_eq_some_iff.mp ht).1
      have etake : ts.take (i + 1) = ts.take i ++ [t] := by rw [List.take_add_one, ht]; rfl
      have ly : ys.length ≤ 10 := by rw [h2.length, List.length_map]; exact lv
      have lz : zs.length ≤ 10 := by rw [h4.length, List.length_map]; exact la
      have tk1 : TK K H2 (upd H2 V1 (.lst (vs ++ ys))) := tk_upd (by rw [eV]; trivial)
      have eW1 : (upd H2 V1 (.lst (vs ++ ys))) W = some (.lst as) := by rw [upd_ne nVW.symm]; exact eW
      have tk2 : TK K (upd H2 V1 (.lst (vs ++ ys))) (upd (upd H2 V1 (.lst (vs ++ ys))) W (.lst (as ++ zs))) := tk_upd (by rw [eW1]; trivial)
      refine ⟨y4, y5, y6, y7, bb, vs, as, q1, p1, p2, p3, _, ys, zs, rfl, rfl, hT, eV, h1, by rw [sizeLine_eq]; omega, eW1, tk1 _ _ h3, by rw [sizeLine_eq]; omega, fun b2 hb2 => ?_⟩
      refine ⟨_, _, _, _, b2, vs ++ ys, as ++ zs, rfl, kW (kV1 sm), ?_, by rw [upd_ne nVW, upd_same], ?_, upd_same, ?_, by rw [List.length_append]; omega, by rw [List.length_append]; omega⟩
      · rw [hb2, hbb, Bool.eq_iff_iff, Bool.and_eq_true, decide_eq_true_eq, decide_eq_true_eq, decide_eq_true_eq, etake]
        have eh : (V.int (if t.held = true then 1 else 0) = V.int 1) ↔ t.held = true := by
          cases t.held with
          | true => exact ⟨fun _ => rfl, fun _ => rfl⟩
          | false => exact ⟨fun z => by injection z with z; exact absurd z (by decide), fun z => nomatch z⟩
        rw [eh]
        constructor
        · rintro ⟨z1, z2⟩ u hu
          rcases List.mem_append.mp hu with h | h
          · exact z1 u h
          · rw [List.mem_singleton.mp h]; exact z2
        · intro z
          exact ⟨fun u hu => z u (List.mem_append_left _ hu), z t (List.mem_append_right _ (List.mem_singleton.mpr rfl))⟩
      · rw [etake, List.flatMap_append, List.map_append, List.flatMap_singleton]
        exact (hV.append h2).keep (tk1.trans tk2)
      · rw [etake, List.flatMap_append, List.map_append, List.flatMap_singleton]
        exact (hW.append h4).keep (tk1.trans tk2)
    have stay : ∀ (i : Nat) (σ : L2.St) (H2 : Hp), Pv i σ H2 → Same H H2 := fun i σ H2 ⟨_, _, _, _, _, _, _, _, sm, _⟩ => sm
    refine hS.elim (fun h => .inl ⟨.ref a, rfl, a, rfl, ⟨_, sm2.seq h⟩, for_list (xs := xs) Pv start (fun i σ H2 _ p => (stay i σ H2 p).seq h) (fun i x σ H2 hx p => ?t1) (fun σ H2 p => ?d1)⟩)
      (fun h => .inr ⟨.ref a, rfl, a, rfl, ⟨_, sm2.tk _ _ h⟩, for_tup (xs := xs) Pv start (fun i σ H2 _ p => (stay i σ H2 p).tk _ _ h) (fun i x σ H2 hx p => ?t2) (fun σ H2 p => ?d2)⟩)
    case t1 | t2 =>
      obtain ⟨y4, y5, y6, y7, bb, vs, as, q1, p1, p2, p3, h, ys, zs, rfl, rfl, hT, eV, h1, l1, eW, h3, l2, nx⟩ := turn i x H2 σ hx p
      refine ⟨q1, _, rfl, hT, rfl, _, _, rfl, _, _, rfl, _, _, rfl, _, _, rfl, rfl, .bl bb, rfl, bb, rfl, ?_⟩
      cases bb with
      | true =>
        refine iteT ⟨.int h, rfl, rfl, .ref V1, rfl, .inl ⟨rfl, _, .inl (.inl eV)⟩, .ref p1, rfl, V1, p1, vs, ys, rfl, rfl, eV, h1, l1, ?_⟩
        exact ⟨.ref W, rfl, .inl ⟨rfl, _, .inl (.inl eW)⟩, .ref p2, rfl, W, p2, as, zs, rfl, rfl, eW, h3, l2, nx _ (by rw [Bool.true_and])⟩
      | false =>
        refine iteF ⟨.ref V1, rfl, .inl ⟨rfl, _, .inl (.inl eV)⟩, .ref p1, rfl, V1, p1, vs, ys, rfl, rfl, eV, h1, l1, ?_⟩
        exact ⟨.ref W, rfl, .inl ⟨rfl, _, .inl (.inl eW)⟩, .ref p2, rfl, W, p2, as, zs, rfl, rfl, eW, h3, l2, nx _ (by rw [Bool.false_and])⟩
    case d1 | d2 =>
      obtain ⟨y4, y5, y6, y7, bb, vs, as, rfl, sm, hbb, eV, hV, eW, hW, l1, l2⟩ := p
      rw [lx, List.take_length] at hbb hV hW
      have ebb : bb = b := hbb.trans hb.symm
      subst ebb
      have tb2 : Tabs [(Pt, qJ)] H2 := tb.ext sm
      have all7 : (en 0 us).filter (fun _ => true) = en 0 us := List.filter_eq_self.mpr fun _ _ => rfl
      have edv : (en 0 us).map (fun p => dV p.2) = us.map dV := by
        have z := congrArg (List.map dV) (en_snd us 0)
        rw [List.map_map] at z
        exact z
      refine ⟨.bl bb, rfl, bb, rfl, ?_⟩
      cases bb with
      | true =>
        have pm := pm1 rfl
        have oo : ∀ p ∈ ts.flatMap (·.ans), isOpt p.2 = true := fun p hp => by
          obtain ⟨t, ht, hp'⟩ := List.mem_flatMap.mp hp
          exact (hts t ht).2.1 p hp'
        have ou := opt_perm oo pm
        have len : as.length = (ts.flatMap (·.ans)).length := by rw [hW.length, List.length_map]
        have small : (en 0 us).length < 1000000 := by
          have := pm.length_eq
          omega
        have pk : RowKeys K H2 (placed as (ts.flatMap (·.ans))) := placed_keys oo hW
        refine iteT ⟨.ref W, rfl, W, placed as (ts.flatMap Tried.ans), rfl, ?_, pk, tb2, fun H3 p3 eN tb3 np3 => ?_⟩
        · rw [placed_fst len]; exact SqL.of eW
        have sp := same_new (o := .lst ((byKey (placed as (ts.flatMap (·.ans)))).map (·.1))) np3
        have hA3 := (placed_sort hW pm).keep (TK.trans (K := K) (ext_tk eN) sp.tk)
        refine ⟨p3, rfl, ⟨_, SqL.of upd_same⟩, fun D nD => ?_⟩
        refine lcL (K := K) (f := dPair) (e := fun p : Nat × V => dV p.2) (p := fun _ => true) (SqL.of upd_same) hA3 nD small (fun z x Hx hz smx hx => ?_) (fun Hf acc smf hD hAf => ?_)
        · obtain ⟨a2, rfl, hq⟩ := at_pair (ou z hz) hx
          intro Q2 N2 hy hn
          refine ⟨a2, _, rfl, hq, rfl, _, _, rfl, _, _, rfl, rfl, rfl, ?_⟩
          exact ⟨z.2, rfl, hy rfl _ _ (Same.refl _) (at_dV (ou z hz))⟩
        · rw [all7, edv] at hAf
          refine ⟨D, acc, rfl, .inl ⟨SqL.of hD, fun t nt => ⟨by show 2 ≤ sizeLine; decide, fun y ny => q _ _ ?_ ?_ ?_⟩⟩⟩
          · exact ((ExtN.of sm).trans eN).trans (ExtN.of (((sp.trans smf).new nt).new ny))
          · exact tb3.ext (((sp.trans smf).new nt).new ny)
          · exact at_ans (b := true) (t := t) (SqT.of upd_same) (.tup (tk_new ny _ _ (SqT.of upd_same)) (hAf.keep ((tk_new nt).trans (tk_new ny))))
      | false =>
        have pm := pm2 rfl
        have oo : ∀ p ∈ ts.flatMap (·.vals), isOpt p.2 = true := fun p hp => by
          obtain ⟨t, ht, hp'⟩ := List.mem_flatMap.mp hp
          exact (hts t ht).1 p hp'
        have ou := opt_perm oo pm
        have len : vs.length = (ts.flatMap (·.vals)).length := by rw [hV.length, List.length_map]
        have small : (en 0 us).length < 1000000 := by
          have := pm.length_eq
          omega
        have pk : RowKeys K H2 (placed vs (ts.flatMap (·.vals))) := placed_keys oo hV
        refine iteF ⟨.ref V1, rfl, V1, placed vs (ts.flatMap Tried.vals), rfl, ?_, pk, tb2, fun H3 p3 eN tb3 np3 => ?_⟩
        · rw [placed_fst len]; exact SqL.of eV
        have sp := same_new (o := .lst ((byKey (placed vs (ts.flatMap (·.vals)))).map (·.1))) np3
        have hA3 := (placed_sort hV pm).keep (TK.trans (K := K) (ext_tk eN) sp.tk)
        refine ⟨p3, rfl, ⟨_, SqL.of upd_same⟩, fun D nD => ?_⟩
        refine lcL (K := K) (f := dPair) (e := fun p : Nat × V => dV p.2) (p := fun _ => true) (SqL.of upd_same) hA3 nD small (fun z x Hx hz smx hx => ?_) (fun Hf acc smf hD hAf => ?_)
        · obtain ⟨a2, rfl, hq⟩ := at_pair (ou z hz) hx
          intro Q2 N2 hy hn
          refine ⟨a2, _, rfl, hq, rfl, _, _, rfl, _, _, rfl, rfl, rfl, ?_⟩
          exact ⟨z.2, rfl, hy rfl _ _ (Same.refl _) (at_dV (ou z hz))⟩
        · rw [all7, edv] at hAf
          refine ⟨D, acc, rfl, .inl ⟨SqL.of hD, fun t nt => ⟨by show 2 ≤ sizeLine; decide, fun y ny => q _ _ ?_ ?_ ?_⟩⟩⟩
          · exact ((ExtN.of sm).trans eN).trans (ExtN.of (((sp.trans smf).new nt).new ny))
          · exact tb3.ext (((sp.trans smf).new nt).new ny)
          · exact at_ans (b := false) (t := t) (SqT.of upd_same) (.tup (tk_new ny _ _ (SqT.of upd_same)) (hAf.keep ((tk_new nt).trans (tk_new ny))))
end
end CK
/-! Law k05's mathematics, last: the keys of all parts; the writes of all parts; turning. No program here. -/
namespace CK
open PySem PySem.Spec PyProof.Rows L2
theorem All2.append {α β : Type} {R : α → β → Prop} : ∀ {l : List α} {m : List β} {l' : List α} {m' : List β}, All2 R l m → All2 R l' m' → All2 R (l ++ l') (m ++ m')
  | _, _, _, _, .nil, h => h
  | _, _, _, _, .cons r t, h => .cons r (All2.append t h)
theorem All2.take {α β : Type} {R : α → β → Prop} : ∀ {l : List α} {m : List β} (n : Nat), All2 R l m → All2 R (l.take n) (m.take n)
  | _, _, 0, h => by rw [List.take_zero, List.take_zero]; exact .nil
  | _, _, n + 1, .nil => .nil
  | _, _, n + 1, .cons r t => .cons r (All2.take n t)
theorem All2.drop {α β : Type} {R : α → β → Prop} : ∀ {l : List α} {m : List β} (n : Nat), All2 R l m → All2 R (l.drop n) (m.drop n)
  | _, _, 0, h => h
  | _, _, n + 1, .nil => .nil
  | _, _, n + 1, .cons r t => All2.drop n t
theorem turn_perm {α : Type} (l : List α) (j : Nat) : (l.drop j ++ l.take j).Perm l := by
  have z := (List.perm_append_comm (l₁ := l.drop j) (l₂ := l.take j))
  rw [List.take_append_drop] at z
  exact z
theorem cnt_perm {Ls Ms : List (List Str)} (h : Ls.Perm Ms) (k : Str) : cnt Ls k = cnt Ms k := h.countP_eq _
section
variable {r : Rows} {checks : List (Str × V)} {deeds : List Deed}
theorem all_mem (k : Str) : k ∈ allNames checks deeds ↔ (k ∈ checks.map (·.1) ∨ k ∈ deeds.map Deed.key) := by
  unfold allNames
  rw [List.mem_append]
theorem count_nodup {k : Str} {l : List Str} (nd : l.Nodup) : l.count k = if k ∈ l then 1 else 0 := by
  by_cases h : k ∈ l
  · rw [if_pos h]
    exact Nat.le_antisymm (List.nodup_iff_count.mp nd k) (List.count_pos_iff.mpr h)
  · rw [if_neg h]
    exact List.count_eq_zero.mpr h
/-- each key of the deal stands in the keys of the parts as often as sets hold it -/
theorem count_parts (k : Str) : ∀ {Ls : List (List Str)} {kss : List (List Str)}, All2 (fun S ks => KsOf checks deeds S ks) Ls kss → kss.flatten.count k = if k ∈ allNames checks deeds then cnt Ls k else 0
  | _, _, .nil => by
    show ([] : List Str).count k = _
    rw [List.count_nil]
    split
    · rfl
    · rfl
  | _, _, .cons (a := S) (b := ks) (l := Ls) (m := kss) h t => by
    have ih := count_parts k t
    rw [List.flatten_cons, List.count_append, ih, count_nodup h.nd, cnt_cons]
    by_cases e : k ∈ allNames checks deeds
    · rw [if_pos e, if_pos e]
      have z : k ∈ ks ↔ k ∈ S := (h.mem k).trans ⟨fun q => (names_in q).1, fun q => in_names q ((all_mem k).mp e)⟩
      by_cases c : k ∈ S
      · rw [if_pos c, if_pos (z.mpr c)]; omega
      · rw [if_neg c, if_neg (fun d => c (z.mp d))]; omega
    · rw [if_neg e, if_neg e, if_neg (fun d => e ((all_mem k).mpr (names_in ((h.mem k).mp d)).2))]
/-- the keys of all parts are those of the deal -/
theorem parts_keys {Ls kss : List (List Str)} {nk : List Str} (h : All2 (fun S ks => KsOf checks deeds S ks) Ls kss) (hk : Keys nk (allNames checks deeds)) (one : ∀ k ∈ nk, cnt Ls k = 1) : kss.flatten.Perm nk := by
  refine List.perm_iff_count.mpr fun k => ?_
  rw [count_parts k h, count_nodup hk.nd]
  by_cases e : k ∈ allNames checks deeds
  · have m := (hk.mem k).mpr e
    rw [if_pos e, if_pos m, one k m]
  · rw [if_neg e, if_neg (fun d => e ((hk.mem k).mp d))]
/-- writes that tell one function's values -/
theorem writes_fn (f : Str → V) : ∀ (ws : List (Str × V)) (r : Rows) (k : Str), (∀ w ∈ ws, w.2 = f w.1) → look (writes r ws) k = if k ∈ ws.map (·.1) then f k else look r k
  | [], r, k, _ => by rw [if_neg (fun h => nomatch h)]; rfl
  | w :: ws, r, k, h => by
    have ih := writes_fn f ws (wr1 r w) k fun u hu => h u (List.mem_cons_of_mem _ hu)
    show look (writes (wr1 r w) ws) k = _
    rw [ih, wr1_look, List.map_cons]
    by_cases e : k ∈ ws.map (·.1)
    · rw [if_pos e, if_pos (List.mem_cons_of_mem _ e)]
    · rw [if_neg e]
      by_cases c : k = w.1
      · rw [if_pos c, if_pos (by rw [c]; exact List.mem_cons_self), c]
        exact h w List.mem_cons_self
      · rw [if_neg c, if_neg (fun z => (List.mem_cons.mp z).elim c e)]
/-- all writes of held parts leave what the deal leaves -/
theorem parts_writes {Ls : List (List Str)} {ts : List Tried} (hp : Split checks deeds Ls) (ht : All2 (fun S t => TP r checks deeds S t) Ls ts) (hh : ∀ t ∈ ts, t.held = true) (k : Str) :
    look (writes r (ts.flatMap Tried.wr)) k = look (fin r deeds) k := by
  rw [writes_fn (fun k => look (fin r deeds) k) (ts.flatMap Tried.wr) r k]
  · by_cases e : k ∈ (ts.flatMap Tried.wr).map (·.1)
    · rw [if_pos e]
    · rw [if_neg e]
      by_cases c : k ∈ deeds.map Deed.key
      · obtain ⟨S, hS, hkS⟩ := cnt_has (hp.one k (.inr c))
        obtain ⟨t, htm, tp⟩ := ht.mem' S hS
        obtain ⟨_, ks, hks, ew⟩ := tp_done tp (hh t htm)
        have mk : k ∈ ks := (hks.mem k).mpr (in_names hkS (.inr c))
        by_cases d : look (fin r deeds) k = look r k
        · exact d.symm
        · refine absurd ?_ e
          refine List.mem_map.mpr ⟨(k, look (fin r deeds) k), List.mem_flatMap.mpr ⟨t, htm, ?_⟩, rfl⟩
          rw [ew]
          exact List.mem_map.mpr ⟨k, List.mem_filter.mpr ⟨mk, decide_eq_true d⟩, rfl⟩
      · show look r k = look (fin r deeds) k
        unfold look
        rw [fin_out deeds r fun d hd z => c (by rw [z]; exact List.mem_map_of_mem hd)]
  · intro w hw
    obtain ⟨t, htm, hw'⟩ := List.mem_flatMap.mp hw
    obtain ⟨S, hS, tp⟩ := ht.mem t htm
    obtain ⟨_, ks, hks, ew⟩ := tp_done tp (hh t htm)
    rw [ew] at hw'
    obtain ⟨j, _, rfl⟩ := List.mem_map.mp hw'
    rfl
/-- what a tried part's data is like -/
theorem tp_opt (g : Good r) (dok : DealOk checks deeds) {S : List Str} {t : Tried} (h : TP r checks deeds S t) :
    (∀ p ∈ t.vals, isOpt p.2 = true) ∧ (∀ p ∈ t.ans, isOpt p.2 = true) ∧ (∀ p ∈ t.wr, isOpt p.2 = true) ∧ t.vals.length ≤ 10 ∧ t.ans.length ≤ 10 ∧ t.wr.length ≤ 10 := by
  obtain ⟨ks, hks, rfl⟩ := h
  have gk : Good (known r S) := after_good g S
  have fw1 := dok.few1
  have fw2 := dok.few2
  have l1 := part1_len checks S
  have l2 := part2_len deeds S
  have lk : ks.length ≤ 10 := Nat.le_trans hks.len (names_len dok S)
  have ov : ∀ p ∈ vals (known r S) (part1 checks S), isOpt p.2 = true := fun p hp => by
    obtain ⟨c, _, rfl⟩ := List.mem_map.mp hp
    exact gk.look _
  have od : ∀ d ∈ (part2 deeds S).map (·.2), d.Ok := fun d hd => by
    obtain ⟨e, he, rfl⟩ := List.mem_map.mp hd
    exact dok.ok _ (mem_part2 he).1
  have ga : Good (after (known r S) ks) := after_good gk ks
  unfold tryP
  split
  · refine ⟨ov, fun p hp => ?_, fun p hp => ?_, ?_, ?_, ?_⟩
    · exact answ_opt _ ga od _ (List.of_mem_zip hp).2
    · obtain ⟨k, _, rfl⟩ := List.mem_map.mp hp
      exact (fin_good _ ga od).look k
    · show (vals _ _).length ≤ 10
      unfold vals
      rw [List.length_map]; omega
    · show (ans _ _).length ≤ 10
      unfold ans
      rw [List.length_zip, List.length_map, answ_length, List.length_map, Nat.min_self]; omega
    · show (List.map _ _).length ≤ 10
      rw [List.length_map]
      exact Nat.le_trans (List.length_filter_le _ _) lk
  · refine ⟨ov, (fun _ h => nomatch h), (fun _ h => nomatch h), ?_, Nat.zero_le _, Nat.zero_le _⟩
    show (vals _ _).length ≤ 10
    unfold vals
    rw [List.length_map]; omega
end
/-- two sound rows that look alike have the same keys and values -/
theorem look_val {a b : Rows} (ga : Good a) (gb : Good b) (h : ∀ k, look a k = look b k) (k : Str) : val a k = val b k := ga.look_inj gb (h k)
theorem same_names {a b : Rows} (ga : Good a) (gb : Good b) (h : ∀ k, look a k = look b k) {l m : List Str} (ea : a.map (·.1) = l.map Sum.inr) (eb : b.map (·.1) = m.map Sum.inr) (nl : l.Nodup) (nm : m.Nodup) : l.Perm m :=
  (List.perm_ext_iff_of_nodup nl nm).mpr fun k => by rw [ga.mem_names ea, gb.mem_names eb, look_val ga gb h]
theorem same_len {a b : Rows} (ga : Good a) (gb : Good b) (h : ∀ k, look a k = look b k) : a.length = b.length := by
  obtain ⟨l, ea, nl⟩ := ga.names
  obtain ⟨m, eb, nm⟩ := gb.names
  have p := (same_names ga gb h ea eb nl nm).length_eq
  have q1 := congrArg List.length ea
  have q2 := congrArg List.length eb
  rw [List.length_map, List.length_map] at q1 q2
  omega
theorem flat_isVal {v : V} (h : isVal v = true) : flatB v = true := by
  cases v <;> first | rfl | (cases h; done)
theorem same_mem {a b : Rows} (ga : Good a) (gb : Good b) (h : ∀ k, look a k = look b k) : ∀ p ∈ a, valV b p.1 = some p.2 ∧ flatB p.2 = true := fun p hp => by
  refine ⟨?_, flat_isVal (ga.vs p hp)⟩
  obtain ⟨k, ek⟩ := ga.tx p hp
  have e1 : valV a p.1 = some p.2 := valV_mem ga.nd hp
  have e2 := look_val ga gb h k
  unfold val at e2
  rw [ek] at e1 ⊢
  rw [← e2, e1]
theorem KeysIn.same {a b : Rows} {ks : List Str} (ga : Good a) (gb : Good b) (h : ∀ k, look a k = look b k) (hb : KeysIn b ks) : KeysIn a ks := fun s hs => hb s (by rw [← look_val ga gb h]; exact hs)
theorem KeysIn.fin {r : Rows} {ks : List Str} (h : KeysIn r ks) {deeds : List Deed} (hd : ∀ d ∈ deeds, d.key ∈ ks) : KeysIn (fin r deeds) ks := fun s hs => by
  by_cases c : s ∈ deeds.map Deed.key
  · obtain ⟨d, hd', rfl⟩ := List.mem_map.mp c
    exact hd d hd'
  · rw [fin_out deeds r fun d hd' z => c (by rw [z]; exact List.mem_map_of_mem hd')] at hs
    exact h s hs
/-! slices -/
theorem cut_from (xs : List V) (j : Nat) : cutV xs (some (j : Int)) none = xs.drop j := by
  unfold cutV
  rw [HT.sIx_nat, HT.sIx_none]
  by_cases h : j ≤ xs.length
  · rw [Nat.min_eq_left h]
    refine List.take_of_length_le ?_
    rw [List.length_drop]
    exact Nat.le_refl _
  · rw [Nat.min_eq_right (by omega), List.drop_of_length_le (Nat.le_refl _), List.drop_of_length_le (by omega)]
    rw [Nat.sub_self, List.take_zero]
theorem cut_to (xs : List V) (j : Nat) : cutV xs none (some (j : Int)) = xs.take j := by
  unfold cutV
  rw [HT.sIx_nat, HT.sIx_none, Nat.sub_zero, List.drop_zero]
  by_cases h : j ≤ xs.length
  · rw [Nat.min_eq_left h]
  · rw [Nat.min_eq_right (by omega), List.take_of_length_le (Nat.le_refl _), List.take_of_length_le (by omega)]
theorem pl_tried (t : Tried) : pl (dTried t) = true := by
  have h4 : pl (dWrs t.wr) = true := by
    show plAll (t.wr.map dWr) = true
    exact plAll_map _ fun w => by
      show (pl (.str w.1) && (pl (dV w.2) && true)) = true
      rw [pl_dV]; rfl
  show (pl (.int (if t.held = true then 1 else 0)) && (pl (dPairs t.vals) && (pl (dPairs t.ans) && (pl (dWrs t.wr) && true)))) = true
  rw [pl_dPairs, pl_dPairs, h4]; rfl
theorem dep_tried (t : Tried) : (dTried t).depth ≤ 3 := by
  have h1 := dep_dPairs t.vals
  have h2 := dep_dPairs t.ans
  have h4 : (dWrs t.wr).depth ≤ 2 := Nat.succ_le_succ (dep_map t.wr fun w => by
    show PyData.depthAll [.str w.1, dV w.2] + 1 ≤ 1
    have h := dep_dV w.2
    simp only [PyData.depthAll, PyData.depth]
    omega)
  show PyData.depthAll [.int (if t.held = true then 1 else 0), dPairs t.vals, dPairs t.ans, dWrs t.wr] + 1 ≤ 3
  simp only [PyData.depthAll, PyData.depth]
  omega
end CK
/-! Law k05: the law's own def. -/
namespace CK
open PySem PySem.Spec PyProof.Rows L2 LamX
section
variable {K : PySem.W.Frag} {H H' H0 : Hp} {r m : Addr}
theorem _root_.L2.Same.but_new (sm : Same H0 H) (n : H0 m = none) (b : But m H H') : Same H0 H' := fun c o h => b c o (ne_of_none h n) (sm c o h)
theorem But.seqD {kvs : Rows} {a : Addr} {xs : List V} (e : But r H H') (hr : H r = some (.dK kvs)) (h : SqL K H a xs) : SqL K H' a xs := by
  rcases h with (h | ⟨o, h⟩) | h
  · exact .inl (.inl (e _ _ (fun z => by rw [z, hr] at h; cases h) h))
  · exact .inl (.inr ⟨o, e _ _ (fun z => by rw [z, hr] at h; cases h) h⟩)
  · exact .inr h
theorem But.tabs {kvs : Rows} {T : List (Addr × Str)} (e : But r H H') (hr : H r = some (.dK kvs)) (t : Tabs T H) : Tabs T H' := fun p hp => by
  obtain ⟨ps, h1, h2, h3⟩ := t p hp
  refine ⟨ps, e _ _ (fun z => by rw [z, hr] at h1; cases h1) h1, h2, fun pos cv hc => ?_⟩
  obtain ⟨c, e1, e2⟩ := h3 pos cv hc
  exact ⟨c, e1, e _ _ (fun z => by rw [z, hr] at e2; cases e2) e2⟩
theorem dp_texts : ∀ l : List Str, DpAll K H (l.map V.str) (l.map PyData.str)
  | [] => .nil
  | x :: l => .cons (.str x) (dp_texts l)
theorem dp_text (l : List Str) {a : Addr} (h : SqL K H a (l.map V.str)) : Dp K H (.ref a) (.list (l.map PyData.str)) := .lst h (dp_texts l)
end
theorem at_turn {K : PySem.W.Frag} {H : Hp} {xs : List V} {ds : List PyData} (h : AtAll K H xs ds) (j : Nat) : AtAll K H (xs.drop j ++ xs.take j) (ds.drop j ++ ds.take j) := by
  have go : ∀ (ds : List PyData) (xs : List V) (j : Nat), AtAll K H xs ds → AtAll K H (xs.drop j) (ds.drop j) ∧ AtAll K H (xs.take j) (ds.take j) := by
    intro ds
    induction ds with
    | nil => intro xs j h; cases h; exact ⟨by rw [List.drop_nil, List.drop_nil]; exact .nil, by rw [List.take_nil, List.take_nil]; exact .nil⟩
    | cons d ds ih =>
      intro xs j h
      cases h with
      | cons h1 h2 =>
        cases j with
        | zero => exact ⟨.cons h1 h2, by rw [List.take_zero, List.take_zero]; exact .nil⟩
        | succ j => exact ⟨(ih _ j h2).1, .cons h1 (ih _ j h2).2⟩
  exact (go ds xs j h).1.append (go ds xs j h).2
theorem pl_texts (l : List Str) : pl (.list (l.map PyData.str)) = true := by
  show plAll (l.map PyData.str) = true
  exact plAll_map l fun _ => rfl
theorem dep_texts (l : List Str) : (PyData.list (l.map PyData.str)).depth ≤ 60 := Nat.le_trans (Nat.succ_le_succ (dep_map (n := 0) l fun _ => Nat.le_refl _)) (by decide)
theorem pl_trieds (ts : List Tried) : pl (.list (ts.map dTried)) = true := by
  show plAll (ts.map dTried) = true
  exact plAll_map ts pl_tried
theorem dep_trieds (ts : List Tried) : (PyData.list (ts.map dTried)).depth ≤ 60 := Nat.le_trans (Nat.succ_le_succ (dep_map ts dep_tried)) (by decide)
section
variable {P : Program} {w : World} {K : PySem.W.Frag} {mg : Str → Option Value} {base : Heap}
def spLaw (K : PySem.W.Frag) (Pt : Addr) : Sp := fun vs H Q _ => ∃ (a : Addr) (ns : List Int), vs = [.ref a] ∧ SqL K H a (ns.map V.int) ∧ H Pt = some (.tbl #[]) ∧ ∀ H', Q (.bl true) H'
theorem ok_law {f Pt : Addr} {fd : FuncData} {k : Nat} (F : Fun K "law" "law" s_law f fd)
    (UR : Use P w K mg base "_law_row" (k + 1) ["_law_script", "_law_k"] (spRow K)) (UD : Use P w K mg base "_law_digits" (k + 1) ["_law_row_here", "_law_sizes"] (spDigits K))
    (UKS : Use P w K mg base "_law_keys" (k + 2) ["_law_script", "_law_at", "_law_most"] (spDrawKeys K)) (URS : Use P w K mg base "_law_rows" (k + 4) ["_law_script", "_law_at", "_law_keys_here"] (spDrawRows K))
    (UDL : Use P w K mg base "_law_deal" (k + 5) ["_law_keys_here", "_law_rows_here", "_law_row_here", "_law_more"] (spDrawDeal K)) (UKO : Use P w K mg base "keys_of" (k + 1) ["deal"] (spKeysOf K))
    (USP : Use P w K mg base "_law_split" (k + 1) ["_law_keys_here", "_law_row_here", "_law_many"] (spSplit K)) (UTP : Use P w K mg base "_law_tried_parts" (k + 6) ["_law_rows_here", "_law_deal_here", "_law_sets"] (spTriedParts K))
    (UC : Use P w K mg base "_law_copy" (k + 1) ["_law_rows_here"] spCopy) (UDD : Use P w K mg base "_law_deal_done" (k + 2) ["_law_rows_here", "_law_deal_here"] (spDealt K))
    (USA : Use P w K mg base "_law_same_answer" (k + 2) ["_law_actual", "_law_due"] (spSameAnswer K)) (UJ : Use P w K mg base "join_parts" (k + 2) ["tried"] (spJoin K [(Pt, qJ)]))
    (UDO : Use P w K mg base "do_deal" (k + 5) ["rows", "deal"] (spDealt K)) (UW : Use P w K mg base "write_rows" (k + 1) ["rows", "writes"] (spWrite K))
    (mR : mg "range" = none) (mLi : mg "list" = none) (mS : mg "sorted" = none) (mT : mg "tuple" = none) :
    FnOk P w K mg base CX0 (k + 7) f fd ["_law_script"] (spLaw K Pt) := by
  refine F.ok sc_law (fun vs H Q E h => ?_) (fun cdv A outer s H vs Q E hr h => ?_)
  · obtain ⟨a, ns, rfl, _⟩ := h
    rfl
  · obtain ⟨a0, ns, rfl, hS, hPt, q⟩ := h
    refine ⟨_, pss_cons (ps_set (i := 1) sc_law.nd rfl (.inl rfl) (pe_use UKS (hr.mono (by omega)) (by rfl) (pa_cons (pv 0) (pa_cons pe_int (pa_cons pe_int pa_nil)))))
      (pss_cons (ps_set (i := 2) sc_law.nd rfl (.inl rfl) (pe_use URS (hr.mono (by omega)) (by rfl) (pa_cons (pv 0) (pa_cons pe_int (pa_cons (pv 1) pa_nil)))))
      (pss_cons (ps_for PassesOwn.never rfl (pi_range1 (by rfl) mR (pa_cons pe_int pa_nil)) (pg_name (i := 3) sc_law.nd rfl (Or.inl rfl))
        (pss_cons (ps_set (i := 4) sc_law.nd rfl (.inl rfl) (pe_use UDL (hr.mono (by omega)) (by rfl) (pa_cons (pv 1) (pa_cons (pv 2) (pa_cons (pe_use UR (hr.mono (by omega)) (by rfl) (pa_cons (pv 0) (pa_cons (pe_op op_add pe_int (pv 3)) pa_nil))) (pa_cons (pe_use UR (hr.mono (by omega)) (by rfl) (pa_cons (pv 0) (pa_cons (pe_op op_add pe_int (pv 3)) pa_nil))) pa_nil))))))
        (pss_cons (ps_asg (pe_use UD (hr.mono (by omega)) (by rfl) (pa_cons (pe_use UR (hr.mono (by omega)) (by rfl) (pa_cons (pv 0) (pa_cons (pe_op op_add pe_int (pv 3)) pa_nil))) (pa_cons (pe_lst (pa_cons pe_int (pa_cons pe_int pa_nil))) pa_nil)))
          (pg_unl rfl (pgs_cons (pg_name (i := 5) sc_law.nd rfl (Or.inl rfl)) (pgs_cons (pg_name (i := 6) sc_law.nd rfl (Or.inl rfl)) pgs_nil))))
        (pss_cons (ps_set (i := 7) sc_law.nd rfl (.inl rfl) (pe_callTy call_list_of (by rfl) mLi (by decide +kernel) (pa_cons (pe_use UKO (hr.mono (by omega)) (by rfl) (pa_cons (pv 4) pa_nil)) pa_nil)))
        (pss_cons (ps_set (i := 8) sc_law.nd rfl (.inl rfl) (pe_use UTP hr (by rfl) (pa_cons (pv 2) (pa_cons (pv 4) (pa_cons (pe_use USP (hr.mono (by omega)) (by rfl) (pa_cons (pv 7) (pa_cons (pe_op op_fdiv (pe_use UR (hr.mono (by omega)) (by rfl) (pa_cons (pv 0) (pa_cons (pe_op op_add pe_int (pv 3)) pa_nil))) pe_int) (pa_cons (pe_op op_add pe_int (pv 5)) pa_nil)))) pa_nil)))))
        (pss_cons (ps_if (pt_cmpR (r := rNeP K) (op_neP hr.units) (pe_callB cr_sortedS (by rfl) mS (by decide +kernel) (pa_cons (pe_ix (r := rIxL K) ix_list (pv 8) pe_int (fun _ _ => rfl)) pa_nil)) (pv 7) (nomark _)) (pss_one (ps_ret pe_bl)) pss_nil)
        (pss_cons (ps_set (i := 9) sc_law.nd rfl (.inl rfl) (pe_op op_cat (pe_slice sl_list (pe_ix (r := rIxL K) ix_list (pv 8) pe_int (fun _ _ => rfl)) (po_some (pv 6)) po_none) (pe_slice sl_list (pe_ix (r := rIxL K) ix_list (pv 8) pe_int (fun _ _ => rfl)) po_none (po_some (pv 6)))))
        (pss_cons (ps_set (i := 10) sc_law.nd rfl (.inl rfl) (pe_use UC (hr.mono (by omega)) (by rfl) (pa_cons (pv 2) pa_nil)))
        (pss_cons (ps_set (i := 11) sc_law.nd rfl (.inl rfl) (pe_use UDD (hr.mono (by omega)) (by rfl) (pa_cons (pv 10) (pa_cons (pv 4) pa_nil))))
        (pss_cons (ps_set (i := 12) sc_law.nd rfl (.inl rfl) (pe_callTy call_list_of (by rfl) mLi (by decide +kernel) (pa_cons (pv 9) pa_nil)))
        (pss_cons (ps_if (PW.pt (pw_or (pt_not (pt_val (pe_use USA (hr.mono (by omega)) (by rfl) (pa_cons (pe_use UJ (hr.mono (by omega)) (by rfl) (pa_cons (pv 12) pa_nil)) (pa_cons (pv 11) pa_nil)))))
            (pw_or (pt_cmpR (r := rNeP K) (op_neP hr.units) (pe_use UJ (hr.mono (by omega)) (by rfl) (pa_cons (pe_callTy call_tuple_of (by rfl) mT (by decide +kernel) (pa_cons (pv 9) pa_nil)) pa_nil)) (pv 11) (nomark _))
            (pw_or1 (pt_cmpR (r := rNeP K) (op_neP hr.units) (pv 12) (pv 9) (nomark _)))))) (pss_one (ps_ret pe_bl)) pss_nil)
        (pss_cons (ps_set (i := 13) sc_law.nd rfl (.inl rfl) (pe_use UC (hr.mono (by omega)) (by rfl) (pa_cons (pv 2) pa_nil)))
        (pss_cons (ps_if (PW.pt (pw_or (pt_cmpR (r := rNeP K) (op_neP hr.units) (pe_use UDO (hr.mono (by omega)) (by rfl) (pa_cons (pv 13) (pa_cons (pv 4) pa_nil))) (pv 11) (nomark _)) (pw_or1 (pt_cmpR (op_ne_dictA (Nat.lt_of_succ_lt (hu_of hr))) (pv 13) (pv 10) (nomark _))))) (pss_one (ps_ret pe_bl)) pss_nil)
        (pss_cons (ps_if (pt_cmpR op_eq (pe_ix (r := rIxT K) ix_tup (pv 11) pe_int (fun _ _ => rfl)) pe_str (nomark _))
          (pss_one (ps_for PassesOwn.never rfl (pi_list (pv 9)) (pg_name (i := 14) sc_law.nd rfl (Or.inl rfl)) (pss_one (ps_expr (pe_use UW (hr.mono (by omega)) (by rfl) (pa_cons (pv 2) (pa_cons (pe_ix (r := rIxT K) ix_tup (pv 14) pe_int (fun _ _ => rfl)) pa_nil))))))) pss_nil)
        (pss_one (ps_if (PW.pt (pw_or (pt_cmpR (op_ne_dictA (Nat.lt_of_succ_lt (hu_of hr))) (pv 2) (pv 10) (nomark _)) (pw_or1 (pt_cmpR (r := rNeP K) (op_neP hr.units) (pe_callB (call_sortedD rfl) (by rfl) mS (by decide +kernel) (pa_cons (pv 2) pa_nil)) (pe_callB (call_sortedD rfl) (by rfl) mS (by decide +kernel) (pa_cons (pv 10) pa_nil)) (nomark _)))))
          (pss_one (ps_ret pe_bl)) pss_nil))))))))))))))))
      (pss_one (ps_ret pe_bl)))), ?_⟩
    -- keys, rows
    refine ⟨.ref a0, rfl, a0, ns, 0, 8, rfl, hS, by decide, by decide, fun H1 kp ks sm1 nk1 ek nd lp le l8 => ?_⟩
    have le8 : ks.length ≤ 8 := le
    refine ⟨.ref a0, rfl, .ref kp, rfl, a0, kp, ns, ks, 10, rfl, sm1.seq hS, SqL.of ek, by omega, fun H2 r kvs0 sm2 nr er g0 ki0 => ?_⟩
    have t0 : Tabs [(Pt, qJ)] H2 := fun p hp => by
      rw [List.mem_singleton.mp hp]
      exact TabS.nil (sm2 _ _ (sm1 _ _ hPt))
    refine ⟨12, rfl, by decide, by decide, ?_⟩
    refine for_range (n := (12 : Int).toNat) (fun i σ H3 => ∃ (y3 y4 y5 y6 y7 y8 y9 y10 y11 y12 y13 y14 : Option V) (kvs : Rows), σ = [some (.ref a0), some (.ref kp), some (.ref r), y3, y4, y5, y6, y7, y8, y9, y10, y11, y12, y13, y14] ∧
        SqL K H3 a0 (ns.map V.int) ∧ H3 kp = some (.lst (ks.map V.str)) ∧ H3 r = some (.dK kvs) ∧ Good kvs ∧ KeysIn kvs ks ∧ Tabs [(Pt, qJ)] H3)
      ⟨none, none, none, none, none, none, none, none, none, none, none, none, kvs0, rfl, sm2.seq (sm1.seq hS), sm2 _ _ ek, er, g0, ki0, t0⟩
      (fun i σ H3 hi ⟨y3, y4, y5, y6, y7, y8, y9, y10, y11, y12, y13, y14, kvs, e, hS3, ek3, er3, g, ki, tb3⟩ => ?_) (fun σ H3 ⟨y3, y4, y5, y6, y7, y8, y9, y10, y11, y12, y13, y14, kvs, e, hS3, ek3, er3, g, ki, tb3⟩ => ?_)
    · subst e
      have lk := ki.len g
      -- the deal
      refine ⟨.ref kp, rfl, .ref r, rfl, .ref a0, rfl, _, rfl, _, _, rfl, rfl, a0, ns, _, rfl, hS3, fun r1 => ?_⟩
      refine ⟨.ref a0, rfl, _, rfl, _, _, rfl, rfl, a0, ns, _, rfl, hS3, fun r2 => ?_⟩
      refine ⟨kp, r, ks, kvs, r1, r2, rfl, SqL.of ek3, lp, by omega, er3, g, fun H4 x checks deeds sm4 hx dok inks => ?_⟩
      -- how many sets, how far it is turned
      refine ⟨.ref a0, rfl, _, rfl, _, _, rfl, rfl, a0, ns, _, rfl, sm4.seq hS3, fun r3 => ⟨by show 2 ≤ sizeLine; decide, fun L nL => ?_⟩⟩
      refine ⟨r3, L, [4, 4], rfl, SqL.of upd_same, (by decide), (by decide), fun H5 E5 ds sm5 hE5 dg => ?_⟩
      obtain ⟨many, turn, rfl, bm, bt⟩ := dig2 dg
      have s5 : Same H4 H5 := (same_new nL).trans sm5
      refine ⟨E5, _, rfl, SqL.of hE5, rfl, _, _, rfl, _, _, rfl, rfl, ?_⟩
      -- the deal's keys
      refine ⟨x, rfl, x, checks, deeds, rfl, hx.keep s5.tk, dok, fun H6 p6 nk sm6 hnk hp6 => ?_⟩
      have lnk : nk.length ≤ 10 := by
        have z := hnk.len
        unfold allNames at z
        rw [List.length_append, List.length_map, List.length_map] at z
        have := dok.few1
        have := dok.few2
        omega
      refine ⟨p6, _, rfl, .inr hp6, fun l7 n7 => ?_⟩
      have s7 : Same H3 (upd H6 l7 (.lst (nk.map V.str))) := ((sm4.trans s5).trans sm6).new n7
      -- split, tried
      refine ⟨.ref r, rfl, x, rfl, .ref l7, rfl, .ref a0, rfl, _, rfl, _, _, rfl, rfl, a0, ns, _, rfl, s7.seq hS3, fun r4 => ?_⟩
      refine ⟨_, _, rfl, rfl, ⟨by decide, by decide⟩, .int many, rfl, _, _, rfl, rfl, ?_⟩
      refine ⟨l7, nk, _, 1 + many, rfl, SqL.of upd_same, hnk.nd, by omega, by omega, by omega, fun H8 p8 as Ls sm8 hp8 hold few short one => ?_⟩
      have s8 := s7.trans sm8
      have hx8 : At K H8 x (dDeal checks deeds) := (((hx.keep s5.tk).keep sm6.tk).keep (tk_new n7)).keep sm8.tk
      refine ⟨r, p8, kvs, x, checks, deeds, as, Ls, rfl, s8 _ _ er3, g, by omega, hx8, dok, hp8, hold, few, short, fun H9 o t n xs ts kss sm9 ho ht hA hTP hn hKs => ?_⟩
      have s9 := s8.trans sm9
      have pk := parts_keys hKs hnk one
      have lpk := pk.length_eq
      -- sorted(pair[1]) != names
      have g1 : atI [V.ref t, V.ref n] 1 = some (.ref n) := atI_nat (j := 1) rfl
      have g0' : atI [V.ref t, V.ref n] 0 = some (.ref t) := atI_nat (j := 0) rfl
      refine ⟨.ref o, rfl, o, _, 1, .ref n, rfl, rfl, SqL.of ho, g1, n, kss.flatten, rfl, SqL.of hn, by omega, fun ys p10 hp10 so np10 => ?_⟩
      have eys : ys = nk := sorted_one so hnk.so (hp10.trans pk)
      subst eys
      have s10 : Same H3 (upd H9 p10 (.lst (ys.map V.str))) := s9.new np10
      have hl7 : (upd H9 p10 (.lst (ys.map V.str))) l7 = some (.lst (ys.map V.str)) := same_new np10 _ _ (sm9 _ _ (sm8 _ _ upd_same))
      refine ⟨.ref l7, rfl, _, _, dp_text ys (SqL.of upd_same), dp_text ys (SqL.of hl7), pl_texts ys, pl_texts ys, dep_texts ys, fun _ => ⟨false, rfl, iteF ?_⟩, fun c => absurd rfl c⟩
      -- tried, turned
      have ho10 := same_new (o := .lst (ys.map V.str)) np10 _ _ ho
      have ht10 := same_new (o := .lst (ys.map V.str)) np10 _ _ ht
      refine ⟨.ref o, rfl, o, _, 0, .ref t, rfl, rfl, SqL.of ho10, g0', .int turn, rfl, turn, rfl, t, xs, rfl, SqL.of ht10, fun p11 np11 => ?_⟩
      have s11 := same_new (o := .lst (cutV xs (some turn) none)) np11
      refine ⟨.ref o, rfl, o, _, 0, .ref t, rfl, rfl, SqL.of (s11 _ _ ho10), g0', .int turn, rfl, turn, rfl, t, xs, rfl, SqL.of (s11 _ _ ht10), fun p12 np12 => ?_⟩
      have s12 := same_new (o := .lst (cutV xs none (some turn))) np12
      obtain ⟨j, ej⟩ := Int.eq_ofNat_of_zero_le bt.1
      have lxs : xs.length = ts.length := by rw [hA.length, List.length_map]
      have lts : ts.length ≤ 4 := by rw [← hTP.length]; exact few
      have c1 : cutV xs (some turn) none = xs.drop j := by rw [ej]; exact cut_from xs j
      have c2 : cutV xs none (some turn) = xs.take j := by rw [ej]; exact cut_to xs j
      refine ⟨p11, p12, _, _, rfl, rfl, s12 _ _ upd_same, upd_same, ?_, fun z nz => ?_⟩
      · rw [c1, c2, List.length_drop, List.length_take, sizeLine_eq]; omega
      rw [c1] at s11 s12 nz
      rw [c2] at s12 nz
      rw [c1, c2]
      -- from here on: what was tried, as it is passed
      have smz : Same H3 (upd (upd (upd (upd H9 p10 (.lst (ys.map V.str))) p11 (.lst (xs.drop j))) p12 (.lst (xs.take j))) z (.lst (xs.drop j ++ xs.take j))) := ((s10.trans s11).trans s12).new nz
      have sm9z : Same H9 (upd (upd (upd (upd H9 p10 (.lst (ys.map V.str))) p11 (.lst (xs.drop j))) p12 (.lst (xs.take j))) z (.lst (xs.drop j ++ xs.take j))) := (((same_new np10).trans s11).trans s12).new nz
      have hTP' : All2 (fun S t => TP kvs checks deeds S t) (Ls.drop j ++ Ls.take j) (ts.drop j ++ ts.take j) := (hTP.drop j).append (hTP.take j)
      have hA' : AtAll K (upd (upd (upd (upd H9 p10 (.lst (ys.map V.str))) p11 (.lst (xs.drop j))) p12 (.lst (xs.take j))) z (.lst (xs.drop j ++ xs.take j))) (xs.drop j ++ xs.take j) ((ts.drop j ++ ts.take j).map dTried) := by
        refine AtAll.keep sm9z.tk _ _ ?_
        rw [List.map_append, List.map_drop, List.map_take]
        exact at_turn hA j
      have hxz := (hx8.keep sm9.tk).keep sm9z.tk
      have hz : (upd (upd (upd (upd H9 p10 (.lst (ys.map V.str))) p11 (.lst (xs.drop j))) p12 (.lst (xs.take j))) z (.lst (xs.drop j ++ xs.take j))) z = some (.lst (xs.drop j ++ xs.take j)) := upd_same
      generalize (upd (upd (upd (upd H9 p10 (.lst (ys.map V.str))) p11 (.lst (xs.drop j))) p12 (.lst (xs.take j))) z (.lst (xs.drop j ++ xs.take j))) = HZ at smz hA' hxz hz ⊢
      have hp : Split checks deeds (Ls.drop j ++ Ls.take j) := ⟨fun k hk => by
        rw [cnt_perm (turn_perm Ls j)]
        exact one k ((hnk.mem k).mpr ((all_mem k).mpr hk))⟩
      have lts' : (ts.drop j ++ ts.take j).length ≤ 4 := by rw [(turn_perm ts j).length_eq]; exact lts
      have lxs' : (xs.drop j ++ xs.take j).length ≤ 4 := by rw [(turn_perm xs j).length_eq]; omega
      generalize ts.drop j ++ ts.take j = tz at hTP' hA' lts'
      generalize Ls.drop j ++ Ls.take j = Lz at hTP' hp
      generalize xs.drop j ++ xs.take j = xz at hA' hz lxs'
      -- the model, what is due
      refine ⟨.ref r, rfl, r, kvs, rfl, smz _ _ er3, g, by omega, fun HM m smm nm em => ?_⟩
      have sM := smz.trans smm
      refine ⟨.ref m, rfl, x, rfl, m, kvs, x, checks, deeds, rfl, em, g, by omega, hxz.keep smm.tk, dok, fun HD y bd ed hy => ?_⟩
      have sD : Same H3 HD := sM.but_new (smz.none nm) bd
      have szD : Same HZ HD := smm.but_new nm bd
      have hzD := szD _ _ hz
      refine ⟨.ref z, rfl, z, xz, rfl, .inl (SqL.of hzD), fun pz npz => ?_⟩
      have sp := same_new (o := .lst xz) npz
      have sA : Same H3 (upd HD pz (.lst xz)) := sD.trans sp
      have szA : Same HZ (upd HD pz (.lst xz)) := szD.trans sp
      have hts : ∀ t ∈ tz, (∀ p ∈ t.vals, isOpt p.2 = true) ∧ (∀ p ∈ t.ans, isOpt p.2 = true) ∧ t.vals.length ≤ 10 ∧ t.ans.length ≤ 10 := fun t ht => by
        obtain ⟨S, _, tp⟩ := hTP'.mem t ht
        obtain ⟨q1, q2, _, q4, q5, _⟩ := tp_opt g dok tp
        exact ⟨q1, q2, q4, q5⟩
      have hwr : ∀ t ∈ tz, (∀ p ∈ t.wr, isOpt p.2 = true) ∧ t.wr.length ≤ 10 := fun t ht => by
        obtain ⟨S, _, tp⟩ := hTP'.mem t ht
        obtain ⟨_, _, q3, _, _, q6⟩ := tp_opt g dok tp
        exact ⟨q3, q6⟩
      have hb : heldB kvs checks = decide (∀ t ∈ tz, t.held = true) := by
        rw [Bool.eq_iff_iff, decide_eq_true_eq]
        exact (join_held hp hTP').symm
      have pm1 : heldB kvs checks = true → (tz.flatMap (·.ans)).Perm (en 0 (due kvs checks deeds)) := fun e => by
        rw [show due kvs checks deeds = answ kvs deeds from if_pos e]
        exact join_ans hp hTP' ((join_held hp hTP').mpr e)
      have pm2 : heldB kvs checks = false → (tz.flatMap (·.vals)).Perm (en 0 (due kvs checks deeds)) := fun e => by
        rw [show due kvs checks deeds = checks.map (fun c => look kvs c.1) from if_neg (by rw [e]; exact Bool.false_ne_true)]
        exact join_vals hp hTP'
      have odue : ∀ v ∈ due kvs checks deeds, isOpt v = true := fun v hv => by
        unfold due at hv
        split at hv
        · exact answ_opt deeds g dok.ok v hv
        · obtain ⟨c, _, rfl⟩ := List.mem_map.mp hv
          exact g.look c.1
      have ldue : (due kvs checks deeds).length ≤ 1000 := by
        have := dok.few1
        have := dok.few2
        unfold due
        split
        · rw [answ_length]; omega
        · rw [List.length_map]; omega
      -- join_parts of the list
      refine ⟨.ref pz, rfl, pz, xz, tz, due kvs checks deeds, heldB kvs checks, rfl, .inl (SqL.of upd_same), hA'.keep szA.tk, hts, by omega, hb, pm1, pm2, tb3.ext sA, fun HB y1 eB tbB hy1 => ?_⟩
      have hyB : At K HB y (dAns (heldB kvs checks) (due kvs checks deeds)) := (hy.keep sp.tk).keep (ext_tk eB)
      refine ⟨y, rfl, y1, y, heldB kvs checks, due kvs checks deeds, rfl, hy1, hyB, odue, ldue, true, rfl, iteF ?_⟩
      -- join_parts of the tuple
      have hzB : HB z = some (.lst xz) := eB _ _ (szA _ _ hz) (fun ps c => by cases c)
      have hAB : AtAll K HB xz (tz.map dTried) := (hA'.keep szA.tk).keep (ext_tk eB)
      refine ⟨.ref z, rfl, z, xz, rfl, .inl ⟨SqL.of hzB, fun tt ntt => ?_⟩⟩
      have st := same_new (o := .tup xz) ntt
      refine ⟨tt, xz, tz, due kvs checks deeds, heldB kvs checks, rfl, .inr (SqT.of upd_same), hAB.keep st.tk, hts, by omega, hb, pm1, pm2, tbB.ext st, fun HC y2 eC tbC hy2 => ?_⟩
      have eAC : ExtN (upd HD pz (.lst xz)) HC := eB.trans ((ExtN.of st).trans eC)
      have eDC : ExtN HD HC := (ExtN.of sp).trans eAC
      have eZC : ExtN HZ HC := (ExtN.of szD).trans eDC
      have e3C : ExtN H3 HC := (ExtN.of sD).trans eDC
      have hyC : At K HC y (dAns (heldB kvs checks) (due kvs checks deeds)) := hy.keep (ext_tk eDC)
      have hzC : HC z = some (.lst xz) := eZC _ _ hz (fun ps c => by cases c)
      have hpzC : HC pz = some (.lst xz) := eAC _ _ upd_same (fun ps c => by cases c)
      have hAC : AtAll K HC xz (tz.map dTried) := hA'.keep (ext_tk eZC)
      have hxC : At K HC x (dDeal checks deeds) := hxz.keep (ext_tk eZC)
      have erC : HC r = some (.dK kvs) := e3C _ _ er3 (fun ps c => by cases c)
      have ekC : HC kp = some (.lst (ks.map V.str)) := e3C _ _ ek3 (fun ps c => by cases c)
      have emC : HC m = some (.dK (rest kvs checks deeds)) := eDC _ _ ed (fun ps c => by cases c)
      have hSC : SqL K HC a0 (ns.map V.int) := extL e3C hS3
      have dep2 : (dAns (heldB kvs checks) (due kvs checks deeds)).depth ≤ 60 := Nat.le_trans (dep_dAns _ _) (by decide)
      refine ⟨y, rfl, _, _, hy2.dp, hyC.dp, pl_dAns _ _, pl_dAns _ _, dep2, fun _ => ⟨false, rfl, iteF ?_⟩, fun c => absurd rfl c⟩
      refine ⟨.ref pz, rfl, .ref z, rfl, _, _, Dp.lst (SqL.of hpzC) hAC.dp, Dp.lst (SqL.of hzC) hAC.dp, pl_trieds tz, pl_trieds tz, dep_trieds tz, fun _ => ⟨false, rfl, iteF ?_⟩, fun c => absurd rfl c⟩
      -- the whole deal
      refine ⟨.ref r, rfl, r, kvs, rfl, erC, g, by omega, fun HW ww smw nw ew => ?_⟩
      refine ⟨.ref ww, rfl, x, rfl, ww, kvs, x, checks, deeds, rfl, ew, g, by omega, hxC.keep smw.tk, dok, fun HE y3' be ee hy3 => ?_⟩
      have sE : Same HC HE := smw.but_new nw be
      have hyE := hyC.keep sE.tk
      refine ⟨y, rfl, _, _, hy3.dp, hyE.dp, pl_dAns _ _, pl_dAns _ _, dep2, fun _ => ⟨false, rfl, iteF ?_⟩, fun c => absurd rfl c⟩
      have emE := sE _ _ emC
      have gB : Good (rest kvs checks deeds) := by
        unfold rest
        split
        · exact fin_good deeds g dok.ok
        · exact g
      have kiB : KeysIn (rest kvs checks deeds) ks := by
        unfold rest
        split
        · exact ki.fin fun d hd => inks _ (List.mem_append_right _ (List.mem_map_of_mem hd))
        · exact ki
      refine ⟨.ref ww, rfl, .ref m, rfl, ww, m, _, _, rfl, rfl, ee, emE, rfl, same_mem gB gB (fun _ => rfl), false, rfl, iteF ?_⟩
      -- the writes
      obtain ⟨py, ty, rfl, hTy, hUy⟩ := at_ansD odue hyE
      refine ⟨.ref py, rfl, py, _, 0, .str (word (heldB kvs checks)), rfl, rfl, hTy, atI_nat (j := 0) rfl, rfl, _, rfl, ?_⟩
      have hzE := sE _ _ hzC
      have hAE := hAC.keep sE.tk
      have erE := sE _ _ erC
      have ekE := sE _ _ ekC
      have hSE := sE.seq hSC
      have tbE := tbC.ext sE
      by_cases hbt : heldB kvs checks = true
      · rw [show decide (V.str (word (heldB kvs checks)) = V.str (Str.ofString "done")) = true by rw [hbt]; exact decide_eq_true rfl]
        have allheld := (join_held hp hTP').mpr hbt
        have lz : xz.length = tz.length := by rw [hAE.length, List.length_map]
        refine iteT ⟨.ref z, rfl, z, rfl, ⟨_, SqL.of hzE⟩, ?_⟩
        refine for_list (xs := xz) (fun j' σ H5 => ∃ (y14 : Option V), σ = [some (.ref a0), some (.ref kp), some (.ref r), some (.int (0 + (i : Int))), some x, some (.int many), some (.int turn), some (.ref l7), some (.ref o), some (.ref z), some (.ref m), some (.ref py), some (.ref pz), some (.ref ww), y14] ∧
            But r HE H5 ∧ H5 r = some (.dK (writes kvs ((tz.take j').flatMap Tried.wr))) ∧ ((tz.take j').flatMap Tried.wr).length ≤ 10 * j')
          ⟨_, rfl, But.refl _ _, erE, Nat.le_refl _⟩ (fun j' σ H5 _ ⟨_, _, b5, _⟩ => b5.seqD erE (SqL.of hzE))
          (fun j' u σ H5 hu ⟨y14', e, b5, er5, len5⟩ => ?_) (fun σ H5 ⟨y14', e, b5, er5, len5⟩ => ?_)
        · subst e
          obtain ⟨t', ht', qt⟩ := hAE.at_map hu
          have mt := List.mem_of_getElem? ht'
          have hj' : j' < tz.length := (List.getElem?_eq_some_iff.mp ht').1
          obtain ⟨q1, p1, p2, p3, _, _, rfl, hT, _, _, _, _, h5⟩ := at_tried (qt.keep (b5.tk (by rw [erE]; trivial)))
          have etake : tz.take (j' + 1) = tz.take j' ++ [t'] := by rw [List.take_add_one, ht']; rfl
          have ow : ∀ w' ∈ (tz.take j').flatMap Tried.wr, isOpt w'.2 = true := fun w' hw' => by
            obtain ⟨t2, ht2, hw2⟩ := List.mem_flatMap.mp hw'
            exact (hwr t2 (List.mem_of_mem_take ht2)).1 w' hw2
          have g5 := writes_good _ g ow
          have wl := writes_len ((tz.take j').flatMap Tried.wr) kvs
          refine ⟨.ref r, rfl, .ref q1, rfl, q1, _, 3, p3, rfl, rfl, hT, atI_nat (j := 3) rfl, ?_⟩
          refine ⟨r, _, p3, t'.wr, rfl, er5, g5, by omega, h5, (hwr t' mt).1, Nat.le_trans (hwr t' mt).2 (by decide), fun H6 b6 e6 => ?_⟩
          refine ⟨_, rfl, b5.trans b6, ?_, ?_⟩
          · rw [e6, etake, List.flatMap_append, List.flatMap_singleton, writes_append]
          · rw [etake, List.flatMap_append, List.flatMap_singleton, List.length_append]
            have := (hwr t' mt).2
            omega
        · subst e
          rw [lz, List.take_length] at er5
          have ow : ∀ w' ∈ tz.flatMap Tried.wr, isOpt w'.2 = true := fun w' hw' => by
            obtain ⟨t2, ht2, hw2⟩ := List.mem_flatMap.mp hw'
            exact (hwr t2 ht2).1 w' hw2
          have gA := writes_good _ g ow
          have lookA : ∀ k, look (writes kvs (tz.flatMap Tried.wr)) k = look (rest kvs checks deeds) k := fun k => by
            rw [show rest kvs checks deeds = fin kvs deeds from if_pos hbt]
            exact parts_writes hp hTP' allheld k
          have nmr : m ≠ r := fun e => by rw [e, smz _ _ er3] at nm; cases nm
          have nkr : kp ≠ r := fun e => by rw [e, er3] at ek3; cases ek3
          have em5 := b5 _ _ nmr emE
          have ek5 := b5 _ _ nkr ekE
          have hS5 := b5.seqD erE hSE
          have tb5 := b5.tabs erE tbE
          generalize writes kvs (tz.flatMap Tried.wr) = A at gA lookA er5
          have kiA : KeysIn A ks := KeysIn.same gA gB lookA kiB
          have lA := kiA.len gA
          have lB := kiB.len gB
          obtain ⟨l1, el1, nl1⟩ := gA.names
          obtain ⟨l2, el2, nl2⟩ := gB.names
          have ll1 := congrArg List.length el1
          have ll2 := congrArg List.length el2
          rw [List.length_map, List.length_map] at ll1 ll2
          refine ⟨.ref r, rfl, .ref m, rfl, r, m, A, _, rfl, rfl, er5, em5, same_len gA gB lookA, same_mem gA gB lookA, false, rfl, iteF ?_⟩
          refine ⟨.ref r, rfl, r, A, l1, rfl, .inl er5, el1, by omega, fun ys1 q1 pm1' so1 nq1 => ?_⟩
          have sq1 := same_new (o := .lst (ys1.map V.str)) nq1
          refine ⟨.ref m, rfl, m, _, l2, rfl, .inl (sq1 _ _ em5), el2, by omega, fun ys2 q2 pm2' so2 nq2 => ?_⟩
          have sq2 := same_new (o := .lst (ys2.map V.str)) nq2
          have e12 : ys1 = ys2 := sorted_one so1 so2 (pm1'.trans ((same_names gA gB lookA el1 el2 nl1 nl2).trans pm2'.symm))
          subst e12
          refine ⟨_, _, dp_text ys1 (SqL.of (sq2 _ _ upd_same)), dp_text ys1 (SqL.of upd_same), pl_texts ys1, pl_texts ys1, dep_texts ys1, fun _ => ⟨false, rfl, iteF ?_⟩, fun c => absurd rfl c⟩
          have sq := sq1.trans sq2
          exact ⟨_, _, _, _, _, _, _, _, _, _, _, _, A, rfl, sq.seq hS5, sq _ _ ek5, sq _ _ er5, gA, kiA, tb5.ext sq⟩
      · have hbf : heldB kvs checks = false := Bool.eq_false_iff.mpr hbt
        rw [show decide (V.str (word (heldB kvs checks)) = V.str (Str.ofString "done")) = false by rw [hbf]; exact str_ne (by decide)]
        have erst : rest kvs checks deeds = kvs := if_neg hbt
        refine iteF ?_
        have gA := g
        have lookA : ∀ k, look kvs k = look (rest kvs checks deeds) k := fun k => by rw [erst]
        have em5 := emE
        have ek5 := ekE
        have er5 := erE
        have hS5 := hSE
        have tb5 := tbE
        have kiA : KeysIn kvs ks := KeysIn.same gA gB lookA kiB
        have lA := kiA.len gA
        have lB := kiB.len gB
        obtain ⟨l1, el1, nl1⟩ := gA.names
        obtain ⟨l2, el2, nl2⟩ := gB.names
        have ll1 := congrArg List.length el1
        have ll2 := congrArg List.length el2
        rw [List.length_map, List.length_map] at ll1 ll2
        refine ⟨.ref r, rfl, .ref m, rfl, r, m, kvs, _, rfl, rfl, er5, em5, same_len gA gB lookA, same_mem gA gB lookA, false, rfl, iteF ?_⟩
        refine ⟨.ref r, rfl, r, kvs, l1, rfl, .inl er5, el1, by omega, fun ys1 q1 pm1' so1 nq1 => ?_⟩
        have sq1 := same_new (o := .lst (ys1.map V.str)) nq1
        refine ⟨.ref m, rfl, m, _, l2, rfl, .inl (sq1 _ _ em5), el2, by omega, fun ys2 q2 pm2' so2 nq2 => ?_⟩
        have sq2 := same_new (o := .lst (ys2.map V.str)) nq2
        have e12 : ys1 = ys2 := sorted_one so1 so2 (pm1'.trans ((same_names gA gB lookA el1 el2 nl1 nl2).trans pm2'.symm))
        subst e12
        refine ⟨_, _, dp_text ys1 (SqL.of (sq2 _ _ upd_same)), dp_text ys1 (SqL.of upd_same), pl_texts ys1, pl_texts ys1, dep_texts ys1, fun _ => ⟨false, rfl, iteF ?_⟩, fun c => absurd rfl c⟩
        have sq := sq1.trans sq2
        exact ⟨_, _, _, _, _, _, _, _, _, _, _, _, kvs, rfl, sq.seq hS5, sq _ _ ek5, sq _ _ er5, gA, kiA, tb5.ext sq⟩
    · subst e
      exact q H3
end
end CK
/-! Law k05: what the top has written; the walk's head. -/
namespace CK
open PySem PySem.Spec PyProof.Rows L2 LamX
/-- a def of the text under its name -/
structure DefOk (K : PySem.W.Frag) (mg : Str → Option Value) (x : Str) (st : Stmt) : Prop where
  ex : ∃ f fd, Fun K x x st f fd ∧ mg x = some (.ref f)
theorem def_mk {K : PySem.W.Frag} {h : Heap} {mg : Str → Option Value} {x : Str} {st : Stmt} {f : Addr} {oc : Value} {od an : Option Addr} {osl : Array (Option Value)} {kV doc pm cdv ct : Value} (X : K.In h) (G : h.Ns mainGlobals mg)
    (a : PySem.W.nsIn K mainGlobals x = some (some (.ref f))) (l : K.lookup f = some ⟨oc, od, .func (PySem.W.fnOf x x (defArgs st) (defBody st) (defScope st) .none kV doc pm an cdv ct), osl⟩)
    (c : PySem.W.codeIn K cdv x = true) (k : PySem.W.keepIn K (.ref f) = true) : DefOk K mg x st := ⟨⟨f, _, fun_mk (st := st) l c k, PySem.W.mg_of X G a⟩⟩
/-- the same for a def whose code object and its table are told -/
structure DefT (K : PySem.W.Frag) (mg : Str → Option Value) (x : Str) (st : Stmt) (c : Addr) : Prop where
  ex : ∃ (f : Addr) (oc : Value) (od an : Option Addr) (osl : Array (Option Value)) (kV doc pm ct : Value), K.lookup f = some ⟨oc, od, .func (PySem.W.fnOf x x (defArgs st) (defBody st) (defScope st) .none kV doc pm an (.ref c) ct), osl⟩ ∧
    PySem.W.codeIn K (.ref c) x = true ∧ PySem.W.keepIn K (.ref f) = true ∧ mg x = some (.ref f)
theorem deft_mk {K : PySem.W.Frag} {h : Heap} {mg : Str → Option Value} {x : Str} {st : Stmt} {f c : Addr} {oc : Value} {od an : Option Addr} {osl : Array (Option Value)} {kV doc pm ct : Value} (X : K.In h) (G : h.Ns mainGlobals mg)
    (a : PySem.W.nsIn K mainGlobals x = some (some (.ref f))) (l : K.lookup f = some ⟨oc, od, .func (PySem.W.fnOf x x (defArgs st) (defBody st) (defScope st) .none kV doc pm an (.ref c) ct), osl⟩)
    (e : PySem.W.codeIn K (.ref c) x = true) (k : PySem.W.keepIn K (.ref f) = true) : DefT K mg x st c := ⟨⟨f, _, _, _, _, _, _, _, _, l, e, k, PySem.W.mg_of X G a⟩⟩
theorem DefOk.use {P : Program} {w : World} {K : PySem.W.Frag} {mg : Str → Option Value} {base : Heap} {x : Str} {st : Stmt} {k : Nat} {ps : List Str} {sp : Sp} (D : DefOk K mg x st)
    (h : ∀ (kV doc pm : Value) (an : Option Addr) (cdv ct : Value) (us : List Value), us.length = ps.length → bindArgs (PySem.W.fnOf x x (defArgs st) (defBody st) (defScope st) .none kV doc pm an cdv ct) ⟨us, []⟩ = pure (ps.zip us))
    (ok : ∀ f fd, Fun K x x st f fd → FnOk P w K mg base CX0 k f fd ps sp) : Use P w K mg base x k ps sp := by
  obtain ⟨f, fd, F, g⟩ := D.ex
  exact ⟨⟨f, fd, ok f fd F, F.kp, F.binds h, g⟩⟩
theorem lit_int {h : Heap} {v : Value} {i : Int} {as : List Addr} (r : PySem.W.ReadsLit h v (.int i) as) : ∃ t, v = .int i t := by
  cases r
  exact ⟨_, rfl⟩
theorem most_of {q : Program} {mg : Str → Option Value} {h : Heap} (X : PySem.W.XL q [("MOST_VALUE", .int 1000000000000000)] mg h) : ∃ t, mg "MOST_VALUE" = some (.int big t) := by
  obtain ⟨v, hv, r⟩ := X.2.val ("MOST_VALUE", .int 1000000000000000) (List.mem_singleton.mpr rfl)
  obtain ⟨t, rfl⟩ := lit_int r
  exact ⟨t, hv⟩
theorem all_mk {P : Program} {w : World} {K : PySem.W.Frag} {mg : Str → Option Value} {fa c Pt : Addr} {tM : Tok} (hfa : mg "law" = some (.ref fa)) (gM : mg "MOST_VALUE" = some (.int big tM))
    (D0 : DefOk K mg "is_integer" s_isInteger)
    (D1 : DefOk K mg "is_value" s_isValue)
    (D2 : DefOk K mg "apply_add" s_applyAdd)
    (D3 : DefOk K mg "apply_deed" s_applyDeed)
    (D4 : DefOk K mg "part_of" s_partOf)
    (D5 : DefOk K mg "keys_of_part" s_keysOfPart)
    (D6 : DefOk K mg "try_part" s_tryPart)
    (D7 : DefOk K mg "write_rows" s_writeRows)
    (D8 : DefOk K mg "keys_of" s_keysOf)
    (D9 : DefOk K mg "do_deal" s_doDeal)
    (D10 : DefOk K mg "_law_row" s_row)
    (D11 : DefOk K mg "_law_digits" s_digits)
    (D12 : DefOk K mg "_law_sign" s_sign)
    (D13 : DefOk K mg "_law_text" s_text)
    (D14 : DefOk K mg "_law_key" s_key)
    (D15 : DefOk K mg "_law_value" s_value)
    (D16 : DefOk K mg "_law_deed" s_deed)
    (D17 : DefOk K mg "_law_done" s_done)
    (D18 : DefOk K mg "_law_same" s_same)
    (D19 : DefOk K mg "_law_copy" s_copy)
    (D20 : DefOk K mg "_law_keys" s_keys)
    (D21 : DefOk K mg "_law_rows" s_rows)
    (D22 : DefOk K mg "_law_deal" s_deal)
    (D23 : DefOk K mg "_law_deal_done" s_dealDone)
    (D24 : DefOk K mg "_law_same_answer" s_sameAnswer)
    (D25 : DefOk K mg "_law_split" s_split)
    (D26 : DefOk K mg "_law_tried_parts" s_triedParts)
    (DJ : DefT K mg "join_parts" s_joinParts c)
    (DL : DefOk K mg "law" s_law)
    (z_len : mg "len" = none)
    (z_int : mg "int" = none)
    (z_range : mg "range" = none)
    (z_isinstance : mg "isinstance" = none)
    (z_str : mg "str" = none)
    (z_bool : mg "bool" = none)
    (z_tuple : mg "tuple" = none)
    (z_list : mg "list" = none)
    (z_sorted : mg "sorted" = none)
    (z_enumerate : mg "enumerate" = none) :
    ∃ fd : FuncData, (∀ (s : Shared) (v : Value), BindsTo s fd ⟨[v], []⟩ [("_law_script", v)]) ∧ ∀ base : Heap, LamX.TabB base mg c Pt → FnOk P w K mg base CX0 7 fa fd ["_law_script"] (spLaw K Pt) := by
  obtain ⟨fl, fdl, FL, gl⟩ := DL.ex
  have e := hfa.symm.trans gl
  cases e
  refine ⟨fdl, fun s v => ?_, fun base TB => ?_⟩
  · obtain ⟨oc, od, kV, doc, pm, an, cdv, ct, osl, rfl, lk, hcd⟩ := FL.ex
    exact .of_eq rfl
  obtain ⟨fI, fdI, FI, gI⟩ := D0.ex
  have bI := FI.binds (ps := ["data"]) (fun _ _ _ _ _ _ us hl => match us, hl with | [_], _ => rfl)
  obtain ⟨fV, fdV, FV, gV⟩ := D1.ex
  have bV := FV.binds (ps := ["data"]) (fun _ _ _ _ _ _ us hl => match us, hl with | [_], _ => rfl)
  obtain ⟨fA, fdA, FA, gA⟩ := D2.ex
  have bA := FA.binds (ps := ["rows", "key", "number"]) (fun _ _ _ _ _ _ us hl => match us, hl with | [_, _, _], _ => rfl)
  have GI := ok_isInteger (P := P) (w := w) (base := base) (k := 0) FI z_isinstance z_int z_bool
  have GV := ok_isValue (P := P) (w := w) (base := base) (k := 0) FV GI FI.kp bI gI gM
  have GA := ok_applyAdd (P := P) (w := w) (base := base) (k := 0) FA GI FI.kp bI gI GV FV.kp bV gV
  have Udeed : Use P w K mg base "apply_deed" 4 ["rows", "deed"] (spApplyDeed K) := D3.use (fun _ _ _ _ _ _ us hl => match us, hl with | [_, _], _ => rfl) fun f fd F => ok_applyDeed (k := 0) F GA FA.kp bA gA
  have Upart : Use P w K mg base "part_of" 1 ["deal", "keys"] (spPartOf K) := D4.use (fun _ _ _ _ _ _ us hl => match us, hl with | [_, _], _ => rfl) fun f fd F => ok_partOf (k := 0) F z_enumerate z_tuple
  have Ukop : Use P w K mg base "keys_of_part" 1 ["part"] (spKeysOfPart K) := D5.use (fun _ _ _ _ _ _ us hl => match us, hl with | [_], _ => rfl) fun f fd F => ok_keysOfPart (k := 0) F z_sorted z_tuple
  have Utry : Use P w K mg base "try_part" 5 ["rows", "part"] (spTry K) := D6.use (fun _ _ _ _ _ _ us hl => match us, hl with | [_, _], _ => rfl) fun f fd F => ok_tryPart (k := 0) F Udeed Ukop z_tuple
  have Uwr : Use P w K mg base "write_rows" 1 ["rows", "writes"] (spWrite K) := D7.use (fun _ _ _ _ _ _ us hl => match us, hl with | [_, _], _ => rfl) fun f fd F => ok_writeRows (k := 0) F 
  have Uko : Use P w K mg base "keys_of" 1 ["deal"] (spKeysOf K) := D8.use (fun _ _ _ _ _ _ us hl => match us, hl with | [_], _ => rfl) fun f fd F => ok_keysOf (k := 0) F z_sorted z_tuple
  have Udo : Use P w K mg base "do_deal" 5 ["rows", "deal"] (spDealt K) := D9.use (fun _ _ _ _ _ _ us hl => match us, hl with | [_, _], _ => rfl) fun f fd F => ok_doDeal (k := 0) F Udeed z_tuple
  have Urow : Use P w K mg base "_law_row" 1 ["_law_script", "_law_k"] (spRow K) := D10.use (fun _ _ _ _ _ _ us hl => match us, hl with | [_, _], _ => rfl) fun f fd F => ok_row (k := 0) F z_len z_int
  have Udig : Use P w K mg base "_law_digits" 1 ["_law_row_here", "_law_sizes"] (spDigits K) := D11.use (fun _ _ _ _ _ _ us hl => match us, hl with | [_, _], _ => rfl) fun f fd F => ok_digits (k := 0) F z_int
  have Usign : Use P w K mg base "_law_sign" 1 ["_law_number"] spSign := D12.use (fun _ _ _ _ _ _ us hl => match us, hl with | [_], _ => rfl) fun f fd F => ok_sign (k := 0) F z_int
  have Utext : Use P w K mg base "_law_text" 2 ["_law_row_here", "_law_count"] spText := D13.use (fun _ _ _ _ _ _ us hl => match us, hl with | [_, _], _ => rfl) fun f fd F => ok_text (k := 0) F Usign z_int z_range
  have Ukey : Use P w K mg base "_law_key" 1 ["_law_row_here", "_law_most"] spKey := D14.use (fun _ _ _ _ _ _ us hl => match us, hl with | [_, _], _ => rfl) fun f fd F => ok_key (k := 0) F z_int z_range
  have Uval : Use P w K mg base "_law_value" 3 ["_law_row_here"] spValue := D15.use (fun _ _ _ _ _ _ us hl => match us, hl with | [_], _ => rfl) fun f fd F => ok_value (k := 0) F Udig Utext
  have Ued : Use P w K mg base "_law_deed" 4 ["_law_keys_here", "_law_row_here"] (spDrawDeed K) := D16.use (fun _ _ _ _ _ _ us hl => match us, hl with | [_, _], _ => rfl) fun f fd F => ok_deed (k := 0) F Udig Uval z_len
  have Udone : Use P w K mg base "_law_done" 1 ["_law_rows_here", "_law_deed_here"] (spApplyDeed K) := D17.use (fun _ _ _ _ _ _ us hl => match us, hl with | [_, _], _ => rfl) fun f fd F => ok_done (k := 0) F z_isinstance z_str
  have Usame : Use P w K mg base "_law_same" 1 ["_law_actual", "_law_due"] spSame := D18.use (fun _ _ _ _ _ _ us hl => match us, hl with | [_, _], _ => rfl) fun f fd F => ok_same (k := 0) F z_isinstance z_int z_bool z_str
  have Ucopy : Use P w K mg base "_law_copy" 1 ["_law_rows_here"] spCopy := D19.use (fun _ _ _ _ _ _ us hl => match us, hl with | [_], _ => rfl) fun f fd F => ok_copy (k := 0) F 
  have Ukeys : Use P w K mg base "_law_keys" 2 ["_law_script", "_law_at", "_law_most"] (spDrawKeys K) := D20.use (fun _ _ _ _ _ _ us hl => match us, hl with | [_, _, _], _ => rfl) fun f fd F => ok_keys (k := 0) F Urow Ukey z_int z_range
  have Urows : Use P w K mg base "_law_rows" 4 ["_law_script", "_law_at", "_law_keys_here"] (spDrawRows K) := D21.use (fun _ _ _ _ _ _ us hl => match us, hl with | [_, _, _], _ => rfl) fun f fd F => ok_rows (k := 0) F Urow Uval z_int z_range z_len
  have Udeal : Use P w K mg base "_law_deal" 5 ["_law_keys_here", "_law_rows_here", "_law_row_here", "_law_more"] (spDrawDeal K) := D22.use (fun _ _ _ _ _ _ us hl => match us, hl with | [_, _, _, _], _ => rfl) fun f fd F => ok_deal (k := 0) F Udig Ued z_range z_len z_tuple
  have Udd : Use P w K mg base "_law_deal_done" 2 ["_law_rows_here", "_law_deal_here"] (spDealt K) := D23.use (fun _ _ _ _ _ _ us hl => match us, hl with | [_, _], _ => rfl) fun f fd F => ok_dealDone (k := 0) F Udone z_tuple
  have Usa : Use P w K mg base "_law_same_answer" 2 ["_law_actual", "_law_due"] (spSameAnswer K) := D24.use (fun _ _ _ _ _ _ us hl => match us, hl with | [_, _], _ => rfl) fun f fd F => ok_sameAnswer (k := 0) F Usame z_isinstance z_tuple z_len z_range
  have Usplit : Use P w K mg base "_law_split" 1 ["_law_keys_here", "_law_row_here", "_law_many"] (spSplit K) := D25.use (fun _ _ _ _ _ _ us hl => match us, hl with | [_, _, _], _ => rfl) fun f fd F => ok_split (k := 0) F z_int z_range z_len
  have Utp : Use P w K mg base "_law_tried_parts" 6 ["_law_rows_here", "_law_deal_here", "_law_sets"] (spTriedParts K) := D26.use (fun _ _ _ _ _ _ us hl => match us, hl with | [_, _, _], _ => rfl) fun f fd F => ok_triedParts (k := 0) F Upart Ukop Utry
  have Uj : Use P w K mg base "join_parts" 2 ["tried"] (spJoin K [(Pt, qJ)]) := by
    obtain ⟨f, oc, od, an, osl, kV, doc, pm, ct, l, e, k, g⟩ := DJ.ex
    exact ⟨⟨f, _, ok_joinParts (k := 0) l e TB z_tuple z_sorted, k, .all fun us hl => match us, hl with | [_], _ => rfl, g⟩⟩
  exact ok_law (k := 0) FL Urow Udig Ukeys Urows Udeal Uko Usplit Utp Ucopy Udd Usa Uj Udo Uwr z_range z_list z_sorted z_tuple
/-- the row's walk: with what the top's loose names hold -/
theorem walk {l : PySem.W.OpenLaw} {q : Program} {loose : List Str} {lv : List (Str × PySem.W.WData)} {YP : World → Heap → Prop} {d : DefRec} {K : Params → PySem.W.Frag} (hn : l.most = some 63) (hdf : d.params.defaults = [])
    (hY : ∀ (w : World) (h : Heap), YP w h → (K w.params).In h)
    (F : ∀ (w : World) (mg : Str → Option Value) (fa : Addr) (h : Heap), YP w h → (K w.params).In h → h.Ns mainGlobals mg → PySem.W.XL q lv mg h → mg d.name = some (.ref fa) → LamX.LawAtS l w (K w.params) CX0 7 63 "_law_script" mg fa h) :
    PySem.W.WalkO q loose (PySem.W.XL q lv) YP l.row.toRowW d [] (fun f vs => PySem.call f vs) := by
  refine Att.attach_callB hn hdf fun w s₀ s₁ mg mb fa o pm cd doc a vs ns G Y ho hd hcd hmg hobj hints hlen hbits hg => ?_
  have KX := hY w _ Y
  obtain ⟨fd, cs, sp, hT, nT, C, hb, hsp, hF⟩ := F w mg fa _ Y KX G.T.g G.X hmg
  exact LamX.law_callTs KX G.T.g G.T.b G.T.builtins G.T.nolimit hg hT nT C G.T.bmain hobj hints (Nat.le_trans hlen (by decide)) ⟨rfl, by decide, by decide⟩ hF hb (fun H hH hS => hsp H a ns hlen hbits hH hS) fun H e s' z => z
theorem law_at {l : PySem.W.OpenLaw} {w : World} {K : PySem.W.Frag} {mg : Str → Option Value} {fa c Pt : Addr} {tM : Tok} {h : Heap} (hfa : mg "law" = some (.ref fa)) (gM : mg "MOST_VALUE" = some (.int big tM))
    (tabs : ∀ P ∈ [Pt], h.get? P = some (PySem.W.tabObj #[])) (nT : K.lookup Pt = none) (X : K.In h) (hd : PySem.W.codeHdIn K c Pt = true)
    (D0 : DefOk K mg "is_integer" s_isInteger)
    (D1 : DefOk K mg "is_value" s_isValue)
    (D2 : DefOk K mg "apply_add" s_applyAdd)
    (D3 : DefOk K mg "apply_deed" s_applyDeed)
    (D4 : DefOk K mg "part_of" s_partOf)
    (D5 : DefOk K mg "keys_of_part" s_keysOfPart)
    (D6 : DefOk K mg "try_part" s_tryPart)
    (D7 : DefOk K mg "write_rows" s_writeRows)
    (D8 : DefOk K mg "keys_of" s_keysOf)
    (D9 : DefOk K mg "do_deal" s_doDeal)
    (D10 : DefOk K mg "_law_row" s_row)
    (D11 : DefOk K mg "_law_digits" s_digits)
    (D12 : DefOk K mg "_law_sign" s_sign)
    (D13 : DefOk K mg "_law_text" s_text)
    (D14 : DefOk K mg "_law_key" s_key)
    (D15 : DefOk K mg "_law_value" s_value)
    (D16 : DefOk K mg "_law_deed" s_deed)
    (D17 : DefOk K mg "_law_done" s_done)
    (D18 : DefOk K mg "_law_same" s_same)
    (D19 : DefOk K mg "_law_copy" s_copy)
    (D20 : DefOk K mg "_law_keys" s_keys)
    (D21 : DefOk K mg "_law_rows" s_rows)
    (D22 : DefOk K mg "_law_deal" s_deal)
    (D23 : DefOk K mg "_law_deal_done" s_dealDone)
    (D24 : DefOk K mg "_law_same_answer" s_sameAnswer)
    (D25 : DefOk K mg "_law_split" s_split)
    (D26 : DefOk K mg "_law_tried_parts" s_triedParts)
    (DJ : DefT K mg "join_parts" s_joinParts c)
    (DL : DefOk K mg "law" s_law)
    (z_len : mg "len" = none)
    (z_int : mg "int" = none)
    (z_range : mg "range" = none)
    (z_isinstance : mg "isinstance" = none)
    (z_str : mg "str" = none)
    (z_bool : mg "bool" = none)
    (z_tuple : mg "tuple" = none)
    (z_list : mg "list" = none)
    (z_sorted : mg "sorted" = none)
    (z_enumerate : mg "enumerate" = none) :
    LamX.LawAtS l w K CX0 7 63 "_law_script" mg fa h := by
  obtain ⟨fd, hb, hF⟩ := all_mk (P := l.prog) (w := w) (Pt := Pt) hfa gM D0 D1 D2 D3 D4 D5 D6 D7 D8 D9 D10 D11 D12 D13 D14 D15 D16 D17 D18 D19 D20 D21 D22 D23 D24 D25 D26 DJ DL z_len z_int z_range z_isinstance z_str z_bool z_tuple z_list z_sorted z_enumerate
  refine ⟨fd, [(c, Pt)], spLaw K Pt, fun p hp => ?_, fun p hp => ?_, fun p hp => ?_, hb, fun H a ns _ _ hT hS => ⟨a, ns, rfl, hS, hT (c, Pt) (List.mem_singleton.mpr rfl), fun _ => rfl⟩, fun base _ _ TB => hF base (TB (c, Pt) (List.mem_singleton.mpr rfl))⟩
  · rw [List.mem_singleton.mp hp]
    exact tabs Pt (List.mem_singleton.mpr rfl)
  · rw [List.mem_singleton.mp hp]
    exact nT
  · rw [List.mem_singleton.mp hp]
    exact PySem.W.codeHd_of_K X hd
end CK
open PySem PySem.W PyProof.Rows
set_option maxRecDepth 100000 in
set_option maxHeartbeats 0 in
theorem PySem.Challenge.cw_crosskeep_k05_whole_deal_is_its_parts_holds : PySem.Challenge.rw_crosskeep_k05_whole_deal_is_its_parts.Holds := by
  w_on; o_law; k_head; (case hw => w_witness2)
  k_fill
  refine CK.walk (l := PySem.Challenge.rw_crosskeep_k05_whole_deal_is_its_parts) rfl rfl (fun w h Y => PySem.W.km_in_of Y) ?F
  case F =>
    intro w mg fa h Y KX G XX hmg
    obtain ⟨tM, gM⟩ := CK.most_of XX
    have tabs := PySem.W.km_tabs_of Y
    refine' CK.law_at (Pt := 66) hmg gM tabs ?nT KX ?hd (CK.def_mk KX G ?a0 ?l0 ?c0 ?k0) (CK.def_mk KX G ?a1 ?l1 ?c1 ?k1) (CK.def_mk KX G ?a2 ?l2 ?c2 ?k2) (CK.def_mk KX G ?a3 ?l3 ?c3 ?k3) (CK.def_mk KX G ?a4 ?l4 ?c4 ?k4) (CK.def_mk KX G ?a5 ?l5 ?c5 ?k5) (CK.def_mk KX G ?a6 ?l6 ?c6 ?k6) (CK.def_mk KX G ?a7 ?l7 ?c7 ?k7) (CK.def_mk KX G ?a8 ?l8 ?c8 ?k8) (CK.def_mk KX G ?a9 ?l9 ?c9 ?k9) (CK.def_mk KX G ?a10 ?l10 ?c10 ?k10) (CK.def_mk KX G ?a11 ?l11 ?c11 ?k11) (CK.def_mk KX G ?a12 ?l12 ?c12 ?k12) (CK.def_mk KX G ?a13 ?l13 ?c13 ?k13) (CK.def_mk KX G ?a14 ?l14 ?c14 ?k14) (CK.def_mk KX G ?a15 ?l15 ?c15 ?k15) (CK.def_mk KX G ?a16 ?l16 ?c16 ?k16) (CK.def_mk KX G ?a17 ?l17 ?c17 ?k17) (CK.def_mk KX G ?a18 ?l18 ?c18 ?k18) (CK.def_mk KX G ?a19 ?l19 ?c19 ?k19) (CK.def_mk KX G ?a20 ?l20 ?c20 ?k20) (CK.def_mk KX G ?a21 ?l21 ?c21 ?k21) (CK.def_mk KX G ?a22 ?l22 ?c22 ?k22) (CK.def_mk KX G ?a23 ?l23 ?c23 ?k23) (CK.def_mk KX G ?a24 ?l24 ?c24 ?k24) (CK.def_mk KX G ?a25 ?l25 ?c25 ?k25) (CK.def_mk KX G ?a26 ?l26 ?c26 ?k26) (CK.deft_mk KX G ?aJ ?lJ ?cJ ?kJ) (CK.def_mk KX G ?aL ?lL ?cL ?kL) (PySem.W.mg_none_of KX G ?z_len) (PySem.W.mg_none_of KX G ?z_int) (PySem.W.mg_none_of KX G ?z_range) (PySem.W.mg_none_of KX G ?z_isinstance) (PySem.W.mg_none_of KX G ?z_str) (PySem.W.mg_none_of KX G ?z_bool) (PySem.W.mg_none_of KX G ?z_tuple) (PySem.W.mg_none_of KX G ?z_list) (PySem.W.mg_none_of KX G ?z_sorted) (PySem.W.mg_none_of KX G ?z_enumerate)
    (case a0 => k_is); (case l0 => k_is); (case c0 => k_is); (case k0 => k_is)
    (case a1 => k_is); (case l1 => k_is); (case c1 => k_is); (case k1 => k_is)
    (case a2 => k_is); (case l2 => k_is); (case c2 => k_is); (case k2 => k_is)
    (case a3 => k_is); (case l3 => k_is); (case c3 => k_is); (case k3 => k_is)
    (case a4 => k_is); (case l4 => k_is); (case c4 => k_is); (case k4 => k_is)
    (case a5 => k_is); (case l5 => k_is); (case c5 => k_is); (case k5 => k_is)
    (case a6 => k_is); (case l6 => k_is); (case c6 => k_is); (case k6 => k_is)
    (case a7 => k_is); (case l7 => k_is); (case c7 => k_is); (case k7 => k_is)
    (case a8 => k_is); (case l8 => k_is); (case c8 => k_is); (case k8 => k_is)
    (case a9 => k_is); (case l9 => k_is); (case c9 => k_is); (case k9 => k_is)
    (case a10 => k_is); (case l10 => k_is); (case c10 => k_is); (case k10 => k_is)
    (case a11 => k_is); (case l11 => k_is); (case c11 => k_is); (case k11 => k_is)
    (case a12 => k_is); (case l12 => k_is); (case c12 => k_is); (case k12 => k_is)
    (case a13 => k_is); (case l13 => k_is); (case c13 => k_is); (case k13 => k_is)
    (case a14 => k_is); (case l14 => k_is); (case c14 => k_is); (case k14 => k_is)
    (case a15 => k_is); (case l15 => k_is); (case c15 => k_is); (case k15 => k_is)
    (case a16 => k_is); (case l16 => k_is); (case c16 => k_is); (case k16 => k_is)
    (case a17 => k_is); (case l17 => k_is); (case c17 => k_is); (case k17 => k_is)
    (case a18 => k_is); (case l18 => k_is); (case c18 => k_is); (case k18 => k_is)
    (case a19 => k_is); (case l19 => k_is); (case c19 => k_is); (case k19 => k_is)
    (case a20 => k_is); (case l20 => k_is); (case c20 => k_is); (case k20 => k_is)
    (case a21 => k_is); (case l21 => k_is); (case c21 => k_is); (case k21 => k_is)
    (case a22 => k_is); (case l22 => k_is); (case c22 => k_is); (case k22 => k_is)
    (case a23 => k_is); (case l23 => k_is); (case c23 => k_is); (case k23 => k_is)
    (case a24 => k_is); (case l24 => k_is); (case c24 => k_is); (case k24 => k_is)
    (case a25 => k_is); (case l25 => k_is); (case c25 => k_is); (case k25 => k_is)
    (case a26 => k_is); (case l26 => k_is); (case c26 => k_is); (case k26 => k_is)
    (case aJ => k_is); (case lJ => k_is); (case cJ => k_is); (case kJ => k_is)
    (case aL => k_is); (case lL => k_is); (case cL => k_is); (case kL => k_is)
    (case z_len => k_is); (case z_int => k_is); (case z_range => k_is); (case z_isinstance => k_is); (case z_str => k_is); (case z_bool => k_is); (case z_tuple => k_is); (case z_list => k_is); (case z_sorted => k_is); (case z_enumerate => k_is)
    (case nT => first | k_is | kernel_rfl | rfl)
    (case hd => first | kernel_rfl | k_is | rfl)
