import PyProof.Rows.All
import Wide.All
import OpenK.AllK
import Wide.FinOn
import KE.KStateDown
import KE.KDictPairs
import KE.DataMinMax
import KE.KExcSuper
import PyProof.TupleCall
import PyProof.Rows.MatchSeqLen
import HandS.ForMost
import HandS.Exc
import HandS.TryOnly
import HandS.ExcOwn
import HandS.WordsExc
import HandS.Property
import HandS.ClsMeth
import HandS.Star
import HandS.Strs
import HandS.SetBool
import HandS.Sort
import HandS.SortRule
import HandS.SortInts
import HandS.TupAny
import HandS.TupMul
import HandS.Style
import HandS.IsInst
import HandS.Codes
import HandS.OwnEq
import HandS.Wide
import HandS.Flow
import HandS.Evl
import HandS.Walk
import HandS.Defaults
import HandS.ExcInit
import HandS.ExcSuper
import HandS.CallLocal
import HandS.HeadNt
import HandS.HeadEnd
import HandS.Head2
import PySem.Challenge.RW_heapeffects_k28_whole_separating_heaps
import KE.GoesMore
import KE.GoesEnum
import HandS.SortKw
import HandS.Head0
import HandS.Head1
set_option maxHeartbeats 1000000
namespace HX
/-! ### bags: entries (number, count) in ascending order -/
abbrev Bg := List (Int × Int)
def ge : Bg → Int → Int
  | [], _ => 0
  | p :: r, x => (if x ≤ p.1 then p.2 else 0) + ge r x
def tot : Bg → Int
  | [] => 0
  | p :: r => p.2 + tot r
def cnt (b : Bg) (t : Int) : Int := ge b t - ge b (t + 1)
def Asc (b : Bg) : Prop := b.Pairwise fun p q => p.1 < q.1
structure WF (b : Bg) : Prop where
  asc : Asc b
  pos : ∀ p ∈ b, 1 ≤ p.2
theorem WF.nil : WF [] := ⟨List.Pairwise.nil, fun _ h => nomatch h⟩
theorem WF.tail {p : Int × Int} {b : Bg} (h : WF (p :: b)) : WF b := ⟨(List.pairwise_cons.mp h.asc).2, fun q hq => h.pos q (List.mem_cons_of_mem _ hq)⟩
theorem WF.head {p : Int × Int} {b : Bg} (h : WF (p :: b)) : ∀ q ∈ b, p.1 < q.1 := (List.pairwise_cons.mp h.asc).1
theorem WF.cons {p : Int × Int} {b : Bg} (h : WF b) (h1 : 1 ≤ p.2) (h2 : ∀ q ∈ b, p.1 < q.1) : WF (p :: b) := ⟨List.pairwise_cons.mpr ⟨h2, h.asc⟩, fun q hq => by
  rcases List.mem_cons.mp hq with e | e
  · rw [e]; exact h1
  · exact h.pos q e⟩
theorem ge_nil (x : Int) : ge [] x = 0 := rfl
theorem ge_cons (p : Int × Int) (b : Bg) (x : Int) : ge (p :: b) x = (if x ≤ p.1 then p.2 else 0) + ge b x := rfl
theorem tot_cons (p : Int × Int) (b : Bg) : tot (p :: b) = p.2 + tot b := rfl
theorem ge_append (a b : Bg) (x : Int) : ge (a ++ b) x = ge a x + ge b x := by
  induction a with
  | nil => rw [List.nil_append, ge_nil, Int.zero_add]
  | cons p a ih => rw [List.cons_append, ge_cons, ge_cons, ih]; omega
theorem tot_append (a b : Bg) : tot (a ++ b) = tot a + tot b := by
  induction a with
  | nil => rw [List.nil_append]; simp [tot]
  | cons p a ih => rw [List.cons_append, tot_cons, tot_cons, ih]; omega
theorem ge_perm {a b : Bg} (h : a.Perm b) (x : Int) : ge a x = ge b x := by
  induction h with
  | nil => rfl
  | cons p _ ih => rw [ge_cons, ge_cons, ih]
  | swap p q l => rw [ge_cons, ge_cons, ge_cons, ge_cons]; omega
  | trans _ _ i j => exact i.trans j
theorem ge_all {b : Bg} {x : Int} (h : ∀ p ∈ b, x ≤ p.1) : ge b x = tot b := by
  induction b with
  | nil => rfl
  | cons p b ih =>
    rw [ge_cons, tot_cons, if_pos (h p List.mem_cons_self), ih fun q hq => h q (List.mem_cons_of_mem _ hq)]
theorem ge_none {b : Bg} {x : Int} (h : ∀ p ∈ b, p.1 < x) : ge b x = 0 := by
  induction b with
  | nil => rfl
  | cons p b ih =>
    have h1 := h p List.mem_cons_self
    rw [ge_cons, if_neg (by omega), ih fun q hq => h q (List.mem_cons_of_mem _ hq)] <;> rfl
theorem low_of (b : Bg) : ∃ z : Int, ∀ p ∈ b, z ≤ p.1 := by
  induction b with
  | nil => exact ⟨0, fun _ h => nomatch h⟩
  | cons p b ih =>
    obtain ⟨z, hz⟩ := ih
    refine ⟨min z p.1, fun q hq => ?_⟩
    rcases List.mem_cons.mp hq with e | e
    · rw [e]; omega
    · have := hz q e; omega
theorem high_of (b : Bg) : ∃ z : Int, ∀ p ∈ b, p.1 < z := by
  induction b with
  | nil => exact ⟨0, fun _ h => nomatch h⟩
  | cons p b ih =>
    obtain ⟨z, hz⟩ := ih
    refine ⟨max z (p.1 + 1), fun q hq => ?_⟩
    rcases List.mem_cons.mp hq with e | e
    · rw [e]; omega
    · have := hz q e; omega
theorem tot_low (b : Bg) : ∃ z : Int, ∀ x, x ≤ z → ge b x = tot b := by
  obtain ⟨z, hz⟩ := low_of b
  exact ⟨z, fun x hx => ge_all fun p hp => by have := hz p hp; omega⟩
theorem ge_high (b : Bg) : ∃ z : Int, ∀ x, z ≤ x → ge b x = 0 := by
  obtain ⟨z, hz⟩ := high_of b
  exact ⟨z, fun x hx => ge_none fun p hp => by have := hz p hp; omega⟩
/-- totals of what is said by ge -/
theorem tot_add {a b c : Bg} (h : ∀ x, ge c x = ge a x + ge b x) : tot c = tot a + tot b := by
  obtain ⟨z1, h1⟩ := tot_low a
  obtain ⟨z2, h2⟩ := tot_low b
  obtain ⟨z3, h3⟩ := tot_low c
  have e := h (min z1 (min z2 z3))
  rw [h1 _ (by omega), h2 _ (by omega), h3 _ (by omega)] at e
  exact e
theorem tot_eq {a c : Bg} (h : ∀ x, ge c x = ge a x) : tot c = tot a := by
  obtain ⟨z1, h1⟩ := tot_low a
  obtain ⟨z3, h3⟩ := tot_low c
  have e := h (min z1 z3)
  rw [h1 _ (by omega), h3 _ (by omega)] at e
  exact e
theorem tot_min {a c : Bg} {k : Int} (h : ∀ x, ge c x = min k (ge a x)) : tot c = min k (tot a) := by
  obtain ⟨z1, h1⟩ := tot_low a
  obtain ⟨z3, h3⟩ := tot_low c
  have e := h (min z1 z3)
  rw [h1 _ (by omega), h3 _ (by omega)] at e
  exact e
theorem ge_nonneg {b : Bg} (h : ∀ p ∈ b, 0 ≤ p.2) (x : Int) : 0 ≤ ge b x := by
  induction b with
  | nil => exact Int.le_refl _
  | cons p b ih =>
    have h1 := h p List.mem_cons_self
    have h2 := ih fun q hq => h q (List.mem_cons_of_mem _ hq)
    rw [ge_cons]
    split <;> omega
theorem ge_anti {b : Bg} (h : ∀ p ∈ b, 0 ≤ p.2) {x y : Int} (hxy : x ≤ y) : ge b y ≤ ge b x := by
  induction b with
  | nil => exact Int.le_refl _
  | cons p b ih =>
    have h1 := h p List.mem_cons_self
    have h2 := ih fun q hq => h q (List.mem_cons_of_mem _ hq)
    rw [ge_cons, ge_cons]
    split <;> split <;> omega
theorem WF.nn {b : Bg} (h : WF b) : ∀ p ∈ b, 0 ≤ p.2 := fun p hp => by have := h.pos p hp; omega
theorem WF.ge0 {b : Bg} (h : WF b) (x : Int) : 0 ≤ ge b x := ge_nonneg h.nn x
theorem WF.anti {b : Bg} (h : WF b) {x y : Int} (hxy : x ≤ y) : ge b y ≤ ge b x := ge_anti h.nn hxy
theorem WF.tot0 {b : Bg} (h : WF b) : 0 ≤ tot b := by
  obtain ⟨z, hz⟩ := tot_low b
  rw [← hz z (Int.le_refl _)]
  exact h.ge0 z
theorem WF.le_tot {b : Bg} (h : WF b) (x : Int) : ge b x ≤ tot b := by
  obtain ⟨z, hz⟩ := tot_low b
  rw [← hz (min x z) (by omega)]
  exact h.anti (by omega)
theorem cnt_nonneg {b : Bg} (h : WF b) (t : Int) : 0 ≤ cnt b t := by
  have := h.anti (show t ≤ t + 1 by omega)
  unfold cnt
  omega
theorem cnt_cons (p : Int × Int) (b : Bg) (t : Int) : cnt (p :: b) t = (if t = p.1 then p.2 else 0) + cnt b t := by
  unfold cnt
  rw [ge_cons, ge_cons]
  split <;> split <;> split <;> omega
theorem cnt_none {b : Bg} {t : Int} (h : ∀ p ∈ b, p.1 ≠ t) : cnt b t = 0 := by
  induction b with
  | nil => rfl
  | cons p b ih =>
    have h1 := h p List.mem_cons_self
    rw [cnt_cons, if_neg (fun e => h1 e.symm), ih fun q hq => h q (List.mem_cons_of_mem _ hq)] <;> rfl
/-- keys without doubles: the count of an entry -/
theorem cnt_mem {b : Bg} (hn : (b.map (·.1)).Nodup) {p : Int × Int} (hp : p ∈ b) : cnt b p.1 = p.2 := by
  induction b with
  | nil => exact nomatch hp
  | cons q b ih =>
    rw [List.map_cons, List.nodup_cons] at hn
    rw [cnt_cons]
    rcases List.mem_cons.mp hp with e | e
    · subst e
      rw [if_pos rfl, cnt_none fun r hr z => hn.1 (List.mem_map.mpr ⟨r, hr, z⟩), Int.add_zero]
    · have ne : p.1 ≠ q.1 := fun z => hn.1 (List.mem_map.mpr ⟨p, e, z⟩)
      rw [if_neg ne, ih hn.2 e, Int.zero_add]
theorem asc_nodup {b : Bg} (h : Asc b) : (b.map (·.1)).Nodup := by
  rw [List.nodup_iff_pairwise_ne, List.pairwise_map]
  exact h.imp fun {a c} z => by omega
theorem WF.nodup {b : Bg} (h : WF b) : (b.map (·.1)).Nodup := asc_nodup h.asc
theorem WF.cnt_mem {b : Bg} (h : WF b) {p : Int × Int} (hp : p ∈ b) : cnt b p.1 = p.2 := HX.cnt_mem h.nodup hp
theorem cnt_of_ge {a b : Bg} (h : ∀ x, ge a x = ge b x) (t : Int) : cnt a t = cnt b t := by unfold cnt; rw [h, h]
/-- a bag is what ge says of it -/
theorem ge_ext : ∀ {a b : Bg}, WF a → WF b → (∀ x, ge a x = ge b x) → a = b
  | [], [], _, _, _ => rfl
  | [], q :: b, _, hb, h => by
    have h1 := cnt_of_ge h q.1
    rw [hb.cnt_mem List.mem_cons_self] at h1
    have h2 := hb.pos q List.mem_cons_self
    have h3 : cnt [] q.1 = 0 := rfl
    omega
  | p :: a, [], ha, _, h => by
    have h1 := cnt_of_ge h p.1
    rw [ha.cnt_mem List.mem_cons_self] at h1
    have h2 := ha.pos p List.mem_cons_self
    have h3 : cnt [] p.1 = 0 := rfl
    omega
  | p :: a, q :: b, ha, hb, h => by
    have p1 := ha.pos p List.mem_cons_self
    have q1 := hb.pos q List.mem_cons_self
    have cp := cnt_of_ge h p.1
    have cq := cnt_of_ge h q.1
    rw [ha.cnt_mem List.mem_cons_self] at cp
    rw [hb.cnt_mem List.mem_cons_self] at cq
    have e1 : p.1 = q.1 := by
      rcases Int.lt_trichotomy p.1 q.1 with z | z | z
      · rw [cnt_none (b := q :: b) (t := p.1) (fun r hr => by
          rcases List.mem_cons.mp hr with e | e
          · rw [e]; omega
          · have := hb.head r e; omega)] at cp
        omega
      · exact z
      · rw [cnt_none (b := p :: a) (t := q.1) (fun r hr => by
          rcases List.mem_cons.mp hr with e | e
          · rw [e]; omega
          · have := ha.head r e; omega)] at cq
        omega
    have e2 : p.2 = q.2 := by
      have c1 : cnt (q :: b) p.1 = q.2 := by rw [e1]; exact hb.cnt_mem List.mem_cons_self
      exact cp.trans c1
    have e : p = q := Prod.ext e1 e2
    subst e
    rw [ge_ext ha.tail hb.tail fun x => by have := h x; rw [ge_cons, ge_cons] at this; omega]

/-! ### dicts of counts -/
/-- d[k] = v -/
def putI : Bg → Int → Int → Bg
  | [], k, v => [(k, v)]
  | p :: r, k, v => if p.1 = k then (k, v) :: r else p :: putI r k v
def lookI : Bg → Int → Option Int
  | [], _ => none
  | p :: r, k => if p.1 = k then some p.2 else lookI r k
theorem lookI_none {b : Bg} {k : Int} (h : lookI b k = none) : ∀ p ∈ b, p.1 ≠ k := by
  induction b with
  | nil => exact fun _ h => nomatch h
  | cons p b ih =>
    unfold lookI at h
    intro q hq
    by_cases e : p.1 = k
    · rw [if_pos e] at h; cases h
    · rw [if_neg e] at h
      rcases List.mem_cons.mp hq with z | z
      · rw [z]; exact e
      · exact ih h q z
theorem lookI_cnt {b : Bg} (hn : (b.map (·.1)).Nodup) (k : Int) : (lookI b k).getD 0 = cnt b k := by
  induction b with
  | nil => rfl
  | cons p b ih =>
    rw [List.map_cons, List.nodup_cons] at hn
    unfold lookI
    rw [cnt_cons]
    by_cases e : p.1 = k
    · rw [if_pos e, if_pos e.symm, cnt_none fun r hr z => hn.1 (List.mem_map.mpr ⟨r, hr, z.trans e.symm⟩), Int.add_zero]
      rfl
    · rw [if_neg e, if_neg (fun z => e z.symm), ih hn.2, Int.zero_add]
theorem putI_keys {b : Bg} {k v : Int} : ∀ q ∈ putI b k v, q.1 = k ∨ ∃ p ∈ b, p.1 = q.1 := by
  induction b with
  | nil =>
    intro q hq
    left
    have : q = (k, v) := by simpa [putI] using hq
    rw [this]
  | cons p b ih =>
    intro q hq
    unfold putI at hq
    by_cases e : p.1 = k
    · rw [if_pos e] at hq
      rcases List.mem_cons.mp hq with z | z
      · left; rw [z]
      · right; exact ⟨q, List.mem_cons_of_mem _ z, rfl⟩
    · rw [if_neg e] at hq
      rcases List.mem_cons.mp hq with z | z
      · right; exact ⟨p, List.mem_cons_self, by rw [z]⟩
      · rcases ih q z with y | ⟨r, hr, y⟩
        · left; exact y
        · right; exact ⟨r, List.mem_cons_of_mem _ hr, y⟩
theorem putI_nodup {b : Bg} (hn : (b.map (·.1)).Nodup) (k v : Int) : ((putI b k v).map (·.1)).Nodup := by
  induction b with
  | nil => simp [putI]
  | cons p b ih =>
    rw [List.map_cons, List.nodup_cons] at hn
    unfold putI
    by_cases e : p.1 = k
    · rw [if_pos e, List.map_cons, List.nodup_cons]
      exact ⟨by rw [← e]; exact hn.1, hn.2⟩
    · rw [if_neg e, List.map_cons, List.nodup_cons]
      refine ⟨fun z => ?_, ih hn.2⟩
      obtain ⟨q, hq, eq⟩ := List.mem_map.mp z
      rcases putI_keys q hq with y | ⟨r, hr, y⟩
      · exact e (eq.symm.trans y)
      · exact hn.1 (List.mem_map.mpr ⟨r, hr, y.trans eq⟩)
theorem putI_ge {b : Bg} (hn : (b.map (·.1)).Nodup) (k v x : Int) : ge (putI b k v) x = ge b x + (if x ≤ k then v - cnt b k else 0) := by
  induction b with
  | nil =>
    have : cnt [] k = 0 := rfl
    rw [this]
    simp [putI, ge]
  | cons p b ih =>
    rw [List.map_cons, List.nodup_cons] at hn
    unfold putI
    rw [cnt_cons]
    by_cases e : p.1 = k
    · rw [if_pos e, if_pos e.symm, cnt_none fun r hr z => hn.1 (List.mem_map.mpr ⟨r, hr, z.trans e.symm⟩), ge_cons, ge_cons]
      dsimp only
      rw [e]
      split <;> omega
    · have e' : ¬ k = p.1 := fun z => e z.symm
      rw [if_neg e, if_neg e', ge_cons, ge_cons, ih hn.2]
      split <;> split <;> omega
theorem putI_vals {b : Bg} {k v : Int} {Pr : Int → Prop} (h : ∀ p ∈ b, Pr p.2) (hv : Pr v) : ∀ p ∈ putI b k v, Pr p.2 := by
  induction b with
  | nil =>
    intro q hq
    have : q = (k, v) := by simpa [putI] using hq
    rw [this]; exact hv
  | cons p b ih =>
    intro q hq
    unfold putI at hq
    by_cases e : p.1 = k
    · rw [if_pos e] at hq
      rcases List.mem_cons.mp hq with z | z
      · rw [z]; exact hv
      · exact h q (List.mem_cons_of_mem _ z)
    · rw [if_neg e] at hq
      rcases List.mem_cons.mp hq with z | z
      · rw [z]; exact h p List.mem_cons_self
      · exact ih (fun r hr => h r (List.mem_cons_of_mem _ hr)) q z
theorem putI_len (b : Bg) (k v : Int) : (putI b k v).length ≤ b.length + 1 := by
  induction b with
  | nil => exact Nat.le_refl _
  | cons p b ih =>
    unfold putI
    split
    · simp
    · simp only [List.length_cons]; omega
/-- the sorted entries with a count above 0 -/
theorem filter_ge {b : Bg} (h : ∀ p ∈ b, 0 ≤ p.2) (x : Int) : ge (b.filter fun p => decide (0 < p.2)) x = ge b x := by
  induction b with
  | nil => rfl
  | cons p b ih =>
    have h1 := h p List.mem_cons_self
    have h2 := ih fun q hq => h q (List.mem_cons_of_mem _ hq)
    rw [List.filter_cons]
    by_cases z : 0 < p.2
    · rw [if_pos (decide_eq_true z), ge_cons, ge_cons, h2]
    · rw [if_neg (by simp; omega), ge_cons, h2]
      split <;> omega
theorem sorted_wf {b ys : Bg} (hn : (b.map (·.1)).Nodup) (h : ∀ p ∈ b, 0 ≤ p.2) (hp : ys.Perm (b.filter fun p => decide (0 < p.2))) (hs : ys.Pairwise fun p q => p.1 ≤ q.1) :
    WF ys ∧ ∀ x, ge ys x = ge b x := by
  have n1 : ((b.filter fun p => decide (0 < p.2)).map (·.1)).Nodup := hn.sublist ((List.filter_sublist).map _)
  have n2 : (ys.map (·.1)).Nodup := (hp.map _).nodup_iff.mpr n1
  refine ⟨⟨?_, fun p hpy => ?_⟩, fun x => (ge_perm hp x).trans (filter_ge h x)⟩
  · have n3 : ys.Pairwise fun p q => p.1 ≠ q.1 := by
      rw [List.nodup_iff_pairwise_ne, List.pairwise_map] at n2
      exact n2
    exact (hs.and n3).imp fun {a c} z => by
      obtain ⟨z1, z2⟩ := z
      omega
  · have := of_decide_eq_true (List.mem_filter.mp (hp.mem_iff.mp hpy)).2
    omega

/-! ### drop, scale -/
def dropB : Bg → Int → Bg
  | [], _ => []
  | p :: r, k => if min k p.2 < p.2 then (p.1, p.2 - min k p.2) :: dropB r (k - min k p.2) else dropB r (k - min k p.2)
theorem dropB_keys {b : Bg} {k : Int} : ∀ q ∈ dropB b k, ∃ p ∈ b, p.1 = q.1 := by
  induction b generalizing k with
  | nil => exact fun _ h => nomatch h
  | cons p b ih =>
    intro q hq
    unfold dropB at hq
    split at hq
    · rcases List.mem_cons.mp hq with z | z
      · exact ⟨p, List.mem_cons_self, by rw [z]⟩
      · obtain ⟨r, hr, y⟩ := ih q z
        exact ⟨r, List.mem_cons_of_mem _ hr, y⟩
    · obtain ⟨r, hr, y⟩ := ih q hq
      exact ⟨r, List.mem_cons_of_mem _ hr, y⟩
theorem dropB_wf {b : Bg} (h : WF b) {k : Int} : WF (dropB b k) := by
  induction b generalizing k with
  | nil => exact WF.nil
  | cons p b ih =>
    unfold dropB
    split
    · refine (ih h.tail).cons (by dsimp only; omega) fun q hq => ?_
      obtain ⟨r, hr, y⟩ := dropB_keys q hq
      rw [← y]
      exact h.head r hr
    · exact ih h.tail
theorem dropB_ge {b : Bg} (h : WF b) {k : Int} (hk : 0 ≤ k) (x : Int) : ge (dropB b k) x = min (max 0 (tot b - k)) (ge b x) := by
  induction b generalizing k with
  | nil => simp [dropB, ge, tot]; omega
  | cons p b ih =>
    have p1 := h.pos p List.mem_cons_self
    have t0 := h.tail.tot0
    have g0 := h.tail.ge0 x
    have gt := h.tail.le_tot x
    have ih' := ih h.tail (k := k - min k p.2) (by omega)
    have ga : x ≤ p.1 → ge b x = tot b := fun z => ge_all fun q hq => by have := h.head q hq; omega
    unfold dropB
    split
    · rw [ge_cons, ge_cons, tot_cons, ih']
      dsimp only
      by_cases z : x ≤ p.1
      · rw [if_pos z, if_pos z]
        have := ga z
        omega
      · rw [if_neg z, if_neg z]
        omega
    · rw [ge_cons, tot_cons, ih']
      by_cases z : x ≤ p.1
      · rw [if_pos z]
        have := ga z
        omega
      · rw [if_neg z]
        omega
end HX

set_option Elab.async false
set_option linter.all false
set_option maxRecDepth 100000
set_option maxHeartbeats 4000000
namespace HX
open PySem PySem.Spec PyProof.Rows L2 Evl
def top (i : Nat) : Stmt := PySem.Challenge.pw_heapeffects_k28_whole_separating_heaps.main.body.getD i (.Pass ⟨0, 0, 0, 0⟩)

/-! ### a def as a whole: what its callers ask -/
/-- the module's name x is a def that keeps the promise sp, by at most level k -/
structure Is (P : Program) (w : World) (K : PySem.W.Frag) (mg : Str → Option Value) (base : Heap) (CX : CXT) (k : Nat) (x : Str) (ps : List Str) (sp : Sp) : Prop where
  ex : ∃ (f : Addr) (fd : FuncData), FnOk P w K mg base CX k f fd ps sp ∧ mg x = some (.ref f) ∧ PySem.W.keepIn K (.ref f) = true ∧ Binds K fd ps []
section
variable {X : Cx} {CX : CXT} {k : Nat} {x : Str} {ps : List Str} {sp : Sp} {E : XK} {e : Expr} {es : List Expr} {t : TA} {p pos : Pos}
/-- f(e, ..) -/
theorem pe_cal (G : Is X.prog X.w X.K X.mg X.base CX k x ps sp) (hr : Room k X.A) (hg : Gl X x) (hx : Passes CX X E) (ha : PA X (e :: es) t)
    (hdb : (x == ("__debug__" : Str)) = false := by decide) (he : starEach (e :: es) X.env = (false, eval e X.env) :: starEach es X.env := by rfl) (hpl : (backTo pos (starEach es X.env)).any (·.1) = false := by rfl) :
    PE X (.Call (.Name x p) (e :: es) [] pos) (tCall sp [] E t) := by
  obtain ⟨f, fd, F, gm, kp, b⟩ := G.ex
  exact pe_call F hr hg gm kp b .nil hx ha hdb he hpl
/-- what is never reached -/
theorem pe_never {e : Expr} : PE X e (fun _ _ _ => False) := ⟨fun _ _ _ _ _ _ h => h.elim⟩
/-- cls(e, ..), a class of one's own held by a local name -/
def tMakeL (i : Nat) (C : Addr) (sp : Sp) (E : XK) (t : TA) : TE := fun σ H Q => σ[i]? = some (some (.ref C)) ∧ tMake C sp [] E t σ H Q
theorem pe_makeL {i : Nat} {C f : Addr} {fd : FuncData} (M : Mk X.K C f) (F : FnOk X.prog X.w X.K X.mg X.base CX k f fd ps sp) (hr : Room (k + 1) X.A) (hN : X.N[i]? = some x) (hv : Vis X.env.scope x) (hb : Binds X.K fd ps []) (hx : Passes CX X E)
    (ha : PA X (e :: es) t) (hdb : (x == ("__debug__" : Str)) = false := by decide) (hcd : (x == ("__classdict__" : Str)) = false := by decide)
    (he : starEach (e :: es) X.env = (false, eval e X.env) :: starEach es X.env := by rfl) (hpl : (backTo pos (starEach es X.env)).any (·.1) = false := by rfl) :
    PE X (.Call (.Name x p) (e :: es) [] pos) (tMakeL i C sp E t) := by
  refine ⟨fun pins s σ H Q I h => ?_⟩
  obtain ⟨hs, ht⟩ := h
  refine wpAny_Call_Name_kw (thn ((pe_var (pos := p) hN hv hdb hcd).run pins s σ H (fun v H1 => v = .ref C ∧ H1 = H) I ⟨.ref C, hs, rfl, rfl⟩) fun u s1 ⟨v, H1, I1, r1, q1⟩ => ?_)
  obtain ⟨rfl, rfl⟩ := q1
  cases r1
  refine PySem.W.callWith_K (h₀ := X.base) I.ok.mod.kin M.kp (thn (ha.run pos pins s1 σ _ _ I1 ht) fun us s2 ⟨vs, H2, I2, r, q⟩ => ⟨I2.kIn, ?_⟩) he hpl
  exact run_make M F hr hb .nil hx I2 r q
end
end HX

set_option Elab.async false
set_option linter.all false
set_option maxRecDepth 100000
set_option maxHeartbeats 4000000
namespace HX
open PySem PySem.Spec PyProof.Rows L2 Evl
/-! ### match over a tuple: patterns of names, a guard -/
abbrev TM := Addr → List V → TS
structure PM (X : Cx) (cs : List MatchCase) (t : TM) : Prop where
  run : ∀ (pins : List (Addr × Obj)) (s : Shared) (σ : L2.St) (H : Hp) (D : Ends) (a : Addr) (xs : List V) (first : Bool), Inv X pins σ H s → SqT X.K H a xs → t a xs D σ H →
    wpAny (model X.prog X.w) X.A (matchCases cs X.env (.ref a) first) (SP X pins D) X.xe s
inductive Caps : List Pattern → List Str → Prop
  | nil : Caps [] []
  | cons {x : Str} {pos : Pos} {ps : List Pattern} {xs : List Str} : Caps ps xs → Caps (.MatchAs none (some x) pos :: ps) (x :: xs)
theorem Caps.len {ps : List Pattern} {xs : List Str} (c : Caps ps xs) : ps.length = xs.length := by
  induction c with
  | nil => rfl
  | cons _ ih => rw [List.length_cons, List.length_cons, ih]
def setAll : L2.St → List Nat → List V → L2.St
  | σ, i :: is, x :: xs => setAll (σ.set i (some x)) is xs
  | σ, _, _ => σ
def SlotOf (X : Cx) (x : Str) (i : Nat) : Prop := X.N[i]? = some x ∧ X.env.scope.names.lookup x = some .local
section
variable {X : Cx} {pins : List (Addr × Obj)} {s : Shared} {H : Hp}
theorem matchEach_caps {A : Around} {E : Value → Shared → Prop} {M : Model} {env : Env} {Q : Option (List (Str × Value)) → Shared → Prop} {ps : List Pattern} {names : List Str} (c : Caps ps names) :
    ∀ {us : List Value} {s : Shared}, us.length = names.length → Q (some (names.zip us)) s → wpAny M A (matchEach ps env us) Q E s := by
  induction c generalizing Q with
  | nil =>
    intro us s _ q
    exact wpAny_matchEach_nil q
  | @cons x pos ps xs c ih =>
    intro us s hl q
    cases us with
    | nil => cases hl
    | cons u us =>
      refine wpAny_matchEach_cons (wpAny_matchPattern_Capture ?_) rfl
      show wpAny M A (matchEach ps env us) _ E s
      exact ih (by simpa using hl) q
theorem bind_all {E : Value → Shared → Prop} {names : List Str} {is : List Nat} (hN : X.N.Nodup) (p : Paired (SlotOf X) names is) : ∀ {xs : List V} {us : List Value} {σ : L2.St} {s : Shared} {Q : Unit → Shared → Prop}, Inv X pins σ H s → Vals xs us → xs.length = names.length →
    (∀ s', Inv X pins (setAll σ is xs) H s' → Q () s') →
    wpAny (model X.prog X.w) X.A (assignInOrder ((names.zip us).map fun (n, _) => bindName X.env n) ((names.zip us).map (·.2))) Q E s := by
  induction p with
  | nil =>
    intro xs us σ s Q I r hl h
    cases r with
    | nil => exact wpAny_assignInOrder_none (h s I)
    | cons _ _ => cases hl
  | @cons x i names is hx p ih =>
    intro xs us σ s Q I r hl h
    cases r with
    | nil => cases hl
    | @cons v u vs us rv rt =>
      show wpAny _ _ (assignInOrder (bindName X.env x :: (names.zip us).map fun (n, _) => bindName X.env n) (u :: (names.zip us).map (·.2))) _ _ _
      refine wpAny_assignInOrder_more ?_
      unfold bindName
      refine wpAny_bind (wpAny_holding (wpAny_point ?_))
      refine wpAny_bind (store_ok I hN hx.1 (.inl hx.2) rv (fun s1 I1 => wpAny_point ?_) (.inr hx.2))
      exact ih I1 rt (by simpa using hl) h
variable {ps : List Pattern} {names : List Str} {is : List Nat} {pos : Pos} {g : Expr} {body : List Stmt} {rest : List MatchCase} {tg : TT} {tb : TS} {tr : TM}
theorem pm_none {cs : List MatchCase} : PM X cs (fun _ _ _ _ _ => False) := ⟨fun _ _ _ _ _ _ _ _ _ _ h => h.elim⟩
theorem fits_of {n : Nat} (h : n ≤ sizeLine) : (n : Int) < 2 ^ 63 := by
  rw [sizeLine_eq] at h
  omega
theorem pm_seq (hc : X.calm = true) (hN : X.N.Nodup) (c : Caps ps names) (p : Paired (SlotOf X) names is) (hg : PT X g tg) (hb : PSs X body tb) (hr : PM X rest tr)
    (hstar : ps.findIdx? (·.isStar) = none := by rfl) (hwild : (ps.all fun p => p.isWildcard || (p.isStar && p.names.isEmpty)) = false := by rfl) :
    PM X (⟨.MatchSequence ps pos, some g, body⟩ :: rest) (fun a xs D σ H => if xs.length = names.length then tg (setAll σ is xs) H (fun b H1 => if b = true then tb D (setAll σ is xs) H1 else SqT X.K H1 a xs ∧ tr a xs D (setAll σ is xs) H1) else tr a xs D σ H) := by
  refine ⟨fun pins s σ H D a xs first I hq h => ?_⟩
  obtain ⟨its, rv, ht, hz⟩ := I.tuple hq
  have hl := rv.length
  have hfit : ((its.toArray.size : Nat) : Int) < 2 ^ 63 := by
    rw [List.size_toArray, ← hl]
    exact fits_of hz
  refine wpAny_matchCases_cons ?_
  by_cases hn : xs.length = names.length
  · rw [if_pos hn] at h
    have hs : its.toArray.size = ps.length := by rw [List.size_toArray, ← hl, hn, c.len]
    refine matchSeq_tuple_hit ht hfit hs ?_ hstar hwild
    rw [← hs]
    have I0 := I.tok (s.toks + 1 + 1)
    refine unpackItems_tuple (I.ok.hd hc) ht fun h' hx => ?_
    have I1 : Inv X pins σ H { s with heap := h', toks := s.toks + 1 + 1 } := I0.kept (t' := s.toks + 1 + 1) fun b o e => hx b o (Nat.ne_of_lt (Heap.lt_size e)) e
    refine matchEach_caps c (by simp [← hl, hn]) ?_
    dsimp only
    refine bind_all hN p I1 (by simpa using rv) hn fun s2 I2 => ?_
    refine thn (hg.run pins s2 _ H _ I2 h) fun b s3 ⟨H3, I3, q⟩ => ?_
    cases b with
    | true => exact hb.run pins s3 _ H3 D I3 q
    | false =>
      obtain ⟨q1, q2⟩ := q
      exact hr.run pins s3 _ H3 D a xs false I3 q1 q2
  · rw [if_neg hn] at h
    have hs : its.toArray.size ≠ ps.length := by rw [List.size_toArray, ← hl, c.len]; exact hn
    exact matchSeq_tuple_miss ht hfit hs (hr.run pins _ σ H D a xs false (I.tok (s.toks + 1 + 1)) hq h) hstar hwild
theorem pm_seq0 (hc : X.calm = true) (hN : X.N.Nodup) (c : Caps ps names) (p : Paired (SlotOf X) names is) (hb : PSs X body tb) (hr : PM X rest tr)
    (hstar : ps.findIdx? (·.isStar) = none := by rfl) (hwild : (ps.all fun p => p.isWildcard || (p.isStar && p.names.isEmpty)) = false := by rfl) :
    PM X (⟨.MatchSequence ps pos, none, body⟩ :: rest) (fun a xs D σ H => if xs.length = names.length then tb D (setAll σ is xs) H else tr a xs D σ H) := by
  refine ⟨fun pins s σ H D a xs first I hq h => ?_⟩
  obtain ⟨its, rv, ht, hz⟩ := I.tuple hq
  have hl := rv.length
  have hfit : ((its.toArray.size : Nat) : Int) < 2 ^ 63 := by
    rw [List.size_toArray, ← hl]
    exact fits_of hz
  refine wpAny_matchCases_cons ?_
  by_cases hn : xs.length = names.length
  · rw [if_pos hn] at h
    have hs : its.toArray.size = ps.length := by rw [List.size_toArray, ← hl, hn, c.len]
    refine matchSeq_tuple_hit ht hfit hs ?_ hstar hwild
    rw [← hs]
    have I0 := I.tok (s.toks + 1 + 1)
    refine unpackItems_tuple (I.ok.hd hc) ht fun h' hx => ?_
    have I1 : Inv X pins σ H { s with heap := h', toks := s.toks + 1 + 1 } := I0.kept (t' := s.toks + 1 + 1) fun b o e => hx b o (Nat.ne_of_lt (Heap.lt_size e)) e
    refine matchEach_caps c (by simp [← hl, hn]) ?_
    dsimp only
    refine bind_all hN p I1 (by simpa using rv) hn fun s2 I2 => ?_
    exact hb.run pins s2 _ H D I2 h
  · rw [if_neg hn] at h
    have hs : its.toArray.size ≠ ps.length := by rw [List.size_toArray, ← hl, c.len]; exact hn
    exact matchSeq_tuple_miss ht hfit hs (hr.run pins _ σ H D a xs false (I.tok (s.toks + 1 + 1)) hq h) hstar hwild
def tMatch (K : PySem.W.Frag) (te : TE) (t : TM) : TS := fun D σ H => te σ H fun v H1 => ∃ a xs, v = .ref a ∧ SqT K H1 a xs ∧ t a xs D σ H1
theorem ps_match {e : Expr} {cs : List MatchCase} {te : TE} {t : TM} (he : PE X e te) (hm : PM X cs t) : PS X (.Match e cs pos) (tMatch X.K te t) := by
  refine ⟨fun pins s σ H D I h => ?_⟩
  refine wpAny_Match (thn (he.run pins s σ H _ I h) fun u s1 ⟨v, H1, I1, r, a, xs, ev, hq, q⟩ => ?_)
  subst ev
  obtain rfl : u = Value.ref a := r
  exact hm.run pins s1 σ H1 D a xs true I1 hq q
end
end HX

set_option Elab.async false
set_option linter.all false
set_option maxRecDepth 100000
set_option maxHeartbeats 4000000
namespace HX
open PySem PySem.Spec PyProof.Rows L2 Evl
/-! ### tuples whose object is known to have no dict of its own -/
def PlO (o : Obj) : Prop := o.cls = .type "tuple" ∧ o.dict = none
def PlT (K : PySem.W.Frag) (H : Hp) (a : Addr) (xs : List V) : Prop :=
  (∃ o, H a = some (.frz o (.tup xs)) ∧ PlO o) ∨ ∃ (o : Obj) (its : Array Value) (n : Nat), K.lookup a = some o ∧ PlO o ∧ o.data = .seq its n ∧ its.size ≤ sizeLine ∧ Vals xs its.toList
theorem PlT.sq {K : PySem.W.Frag} {H : Hp} {a : Addr} {xs : List V} (h : PlT K H a xs) : SqT K H a xs := by
  rcases h with ⟨o, h, _⟩ | ⟨o, its, n, h, p, d, z, r⟩
  · exact .inl (.inr ⟨o, h⟩)
  · exact .inr ⟨o, its, n, h, p.1, d, z, r⟩
theorem PlT.up {K : PySem.W.Frag} {H H' : Hp} {a : Addr} {xs : List V} (h : PlT K H a xs) (e : Ex H H') : PlT K H' a xs := by
  rcases h with ⟨o, h, p⟩ | h
  · exact .inl ⟨o, e _ _ h, p⟩
  · exact .inr h
/-- such a tuple may stand at p: what is wanted of it -/
def NewF (xs : List V) (H : Hp) (Q : VK) : Prop := ∀ p o, H p = none → PlO o → Q (.ref p) (upd H p (.frz o (.tup xs)))
section
variable {X : Cx} {pins : List (Addr × Obj)} {σ : L2.St} {H : Hp} {s : Shared}
theorem laidF {xs : List V} {us : List Value} {Q : VK} {t' : Nat} (I : Inv X pins σ H s) (r : Vals xs us) (z : xs.length ≤ sizeLine) (q : NewF xs H Q) :
    EP X pins σ Q (.ref s.heap.objs.size) { s with heap := s.heap.push { cls := .type "tuple", data := .seq us.toArray }, toks := t' } := by
  have hf : H s.heap.objs.size = none := I.hok.fresh (Nat.le_refl _)
  refine ⟨.ref s.heap.objs.size, upd H s.heap.objs.size (.frz { cls := .type "tuple", data := .seq us.toArray } (.tup xs)), I.laid (t' := t') (fun b u e => Heap.get?_push_of_some _ e) (Nat.le_refl _) ?_, rfl, q _ _ hf ⟨rfl, rfl⟩⟩
  exact ⟨Heap.get?_push_size _ rfl, z, us, r, ⟨_, Heap.get?_push_size _ rfl, rfl, _, rfl⟩⟩
def tTupF (t : TA) : TE := fun σ H Q => t σ H fun xs H1 => xs.length ≤ sizeLine ∧ NewF xs H1 Q
theorem pe_tupF {es : List Expr} {x1 : Nat} {pos : Pos} {t : TA} (h : PA X es t) : PE X (.Tuple es x1 pos) (tTupF t) := by
  refine ⟨fun pins s σ H Q I hq => ?_⟩
  refine wpAny_Tuple_spliced (thn (h.run pos pins s σ H _ I hq) fun us s1 ⟨xs, H1, I1, r, z, q⟩ => ⟨by rw [← r.length]; exact z, ?_⟩)
  exact laidF (t' := s1.toks) I1 r z q
/-- tuple(list) -/
theorem call_tupleF : CallR X (.type "tuple") (fun xs H Q => ∃ p ys, xs = [.ref p] ∧ SqL X.K H p ys ∧ NewF ys H Q) := by
  intro pins s σ H xs us Q I r h
  obtain ⟨p, ys, rfl, hq, q⟩ := h
  obtain ⟨u, rfl, rx⟩ := vals1 r
  cases rx
  obtain ⟨its, r', pl, hz⟩ := I.list hq
  have hlen := r'.length
  refine call_tuple_list pl.isList (fun h' kp => ?_) (by simp only [List.size_toArray] <;> omega)
  have I1 : Inv X pins σ H { s with heap := h' } := I.kept (t' := s.toks) kp
  exact laidF (s := { s with heap := h' }) (t' := s.toks) I1 r' hz q
/-- t[lo:hi], not the whole -/
theorem sl_tupF : SlR X (fun x lo hi H Q => ∃ a xs, x = .ref a ∧ SqT X.K H a xs ∧ ¬ (HT.sIx xs.length 0 lo = 0 ∧ HT.sIx xs.length xs.length hi = xs.length) ∧ NewF (cutV xs lo hi) H Q) := by
  intro pins s σ H x v vl vu lo hi sl Q I rx hs pl pu h
  obtain ⟨a, xs, rfl, hx, hw, q⟩ := h
  cases rx
  obtain ⟨its, r, ht, hz⟩ := I.tuple hx
  have hlen : its.toArray.size = xs.length := by rw [List.size_toArray]; exact r.length.symm
  refine ⟨"tuple", _, PyProof.Rows.slot_tuple_getitem.lookup, ht.typeIs, ?_⟩
  refine HT.getItem_tuple_cut ht hs pl pu (by rw [hlen]; exact hw) ?_ (by rw [hlen]; exact hz)
  rw [hlen]
  exact laidF (t' := s.toks) I ((r.drop (HT.sIx xs.length 0 lo)).take (HT.sIx xs.length xs.length hi - HT.sIx xs.length 0 lo)) (Nat.le_trans (cutV_length xs lo hi) hz) q
end
end HX

set_option Elab.async false
set_option linter.all false
set_option maxRecDepth 100000
set_option maxHeartbeats 4000000
namespace HX
open PySem PySem.Spec PyProof.Rows L2 Evl
/-! ### dict(a tuple of pairs) -/
section
variable {X : Cx} {pins : List (Addr × Obj)} {σ : L2.St} {H : Hp} {s : Shared}
theorem PlT.at_ {a : Addr} {xs : List V} (I : Inv X pins σ H s) (h : PlT X.K H a xs) : ∃ (o : Obj) (its : List Value) (n : Nat), s.heap.get? a = some o ∧ o.cls = .type "tuple" ∧ o.dict = none ∧ o.data = .seq its.toArray n ∧ Vals xs its ∧ xs.length ≤ sizeLine := by
  rcases h with ⟨o, h, p⟩ | ⟨o, its, n, h, p, d, z, r⟩
  · obtain ⟨e, z, its, r, o2, e2, c, n, d⟩ := (show ObjOk X.prog X.w H s.heap a (.frz o (.tup xs)) from I.hok a _ h)
    have q : o = o2 := Option.some.inj (e.symm.trans e2)
    subst q
    exact ⟨o, its, n, e, p.1, p.2, d, r, z⟩
  · refine ⟨o, its.toList, n, I.kIn a o h, p.1, p.2, by simpa using d, r, ?_⟩
    have e := r.length
    simp only [Array.length_toList] at e
    omega
theorem pairs_of2 (I : Inv X pins σ H s) : ∀ {ps : List Addr} {kvs : List (Key × V)}, Paired (fun p kv => SqT X.K H p [kV kv.1, kv.2]) ps kvs →
    ∃ (prs : List (Key × Value)) (vps : List (Value × Value)), KV kvs prs ∧ prs.length = ps.length ∧ vps.length = ps.length ∧
      ∀ (j : Nat) (k v : Value), vps[j]? = some (k, v) → (∃ b, ps[j]? = some b ∧ IsTup s.heap b #[k, v]) ∧ ∃ key, prs[j]? = some (key, v) ∧ keyIs key k = true
  | _, _, .nil => ⟨[], [], .nil, rfl, rfl, fun j k v e => by simp at e⟩
  | _, _, .cons (a := p) (b := kv) h t => by
    obtain ⟨prs, vps, r, hl, hl2, hp⟩ := pairs_of2 I t
    obtain ⟨its, rv, ht, _⟩ := I.tuple h
    obtain ⟨u, y, ei, ru, ry⟩ := vals2 rv
    subst ei
    refine ⟨(kv.1, y) :: prs, (u, y) :: vps, .cons ⟨rfl, ry⟩ r, by rw [List.length_cons, List.length_cons, hl], by rw [List.length_cons, List.length_cons, hl2], fun j k v e => ?_⟩
    cases j with
    | zero =>
      have e' : (u, y) = (k, v) := Option.some.inj e
      injection e' with e1 e2
      subst e1 e2
      exact ⟨⟨p, rfl, ht⟩, kv.1, rfl, kV_is (P := X.prog) (w := X.w) ru⟩
    | succ j =>
      obtain ⟨⟨b, e1, e2⟩, key, e3, e4⟩ := hp j k v (by simpa using e)
      exact ⟨⟨b, by simpa using e1, e2⟩, key, by simpa using e3, e4⟩
theorem call_dictT (hcalm : X.calm = true) : CallR X (.type "dict") (fun xs H Q => ∃ (a : Addr) (ps : List Addr) (kvs : List (Key × V)), xs = [.ref a] ∧ PlT X.K H a (ps.map V.ref) ∧ Paired (fun p kv => SqT X.K H p [kV kv.1, kv.2]) ps kvs ∧
    ∀ p, H p = none → Q (.ref p) (upd H p (.dK (mergeK [] kvs)))) := by
  intro pins s σ H xs us Q I r q
  obtain ⟨a, ps, kvs, ex, hq, hp, q⟩ := q
  subst ex
  obtain ⟨u, eu, rx⟩ := vals1 r
  subst eu
  cases rx
  obtain ⟨o, its, n, ho, hc, hd, hdat, rv, hz⟩ := hq.at_ I
  have ei := refs_at rv
  subst ei
  rw [List.length_map] at hz
  obtain ⟨prs, vps, rel, hl, hl2, hpr⟩ := pairs_of2 I hp
  refine call_dict_pairs (knd := mixKind X.prog X.w) (kvs := prs) (PairArg.tuple a (ps.map Value.ref).toArray (fun j => ps.getD j 0) vps) (I.ok.hd hcalm) ⟨⟨o, n, ho, hc, hd, hdat⟩, by simp [hl2], fun j k v e => ?_⟩ ⟨by rw [hl, hl2], fun i key v e => ?_⟩ (by rw [hl2]; exact hz) fun h' tk hd' k => ?_
  · obtain ⟨⟨b, e1, e2⟩, _⟩ := hpr j k v e
    have e3 : ps.getD j 0 = b := by rw [List.getD_eq_getElem?_getD, e1]; rfl
    dsimp only
    rw [e3]
    exact ⟨by simp [e1], .inl e2⟩
  · obtain ⟨_, k', e3, e4⟩ := hpr i key v e
    exact ⟨k', e3, e4⟩
  · have hm : (s.heap.objs.size == sysModules) = false := beq_eq_false_iff_ne.mpr (Nat.ne_of_gt I.big)
    have hlen : (mergeK [] kvs).length ≤ sizeLine := by
      refine Nat.le_trans (length_mergeK kvs []) ?_
      rw [List.length_nil, Nat.zero_add, rel.length, hl]
      exact hz
    exact ⟨.ref s.heap.objs.size, upd H s.heap.objs.size (.dK (mergeK [] kvs)), I.laid (t' := tk) (fun b o e => k b o (by simp) e) (Nat.le_refl _) (show ObjOk X.prog X.w _ _ _ (.dK (mergeK [] kvs)) from ⟨hlen, hm, merged [] prs, KV.merge rel .nil, hd'⟩), rfl, q _ (I.hok.fresh (Nat.le_refl _))⟩
end
end HX

set_option Elab.async false
set_option linter.all false
set_option maxRecDepth 100000
set_option maxHeartbeats 4000000
namespace HX
open PySem PySem.Spec PyProof.Rows L2 Evl
open AutoSeq1 (wpAny_loadPart')
/-! ### enumerate(a tuple) -/
theorem meets_enumT (l : Addr) (items : Array Value) (n : Nat) (dct : Option Addr) (sl : Array (Option Value)) :
    Meets (Builtin.«enumerate.__new__» ⟨[.type "enumerate", .ref l], []⟩) (fun _ R s => s.heap.get? l = some { cls := .type "tuple", dict := dct, data := .seq items n, slots := sl } ∧
      R (.ok (.ret (.ref (s.heap.push { cls := .type "tuple_iterator", data := .fields #[.ref l, .int 0 0] }).objs.size)))
        { s with heap := (s.heap.push { cls := .type "tuple_iterator", data := .fields #[.ref l, .int 0 0] }).push { cls := .type "enumerate", data := .fields #[.none, .bool false, .ref s.heap.objs.size, rawInt 0, .none, .none] } }) :=
  .of_wp fun prog w A R s h => by
    obtain ⟨hp, g, d, tk, os⟩ := s; obtain ⟨hl, h⟩ := h
    have hsub := sub_enumerate
    have hL : Heap.IsTuple (Shared.heap ⟨hp, g, d, tk, os⟩) l items := ⟨_, hl, rfl, n, rfl⟩
    wp_walk using wpAny_loadPart' hl
    refine wpAny_stack_any fun st => wpAny_pure ?_
    split
    · rename_i c _ _ _ _ _
      cases (c == Value.type "enumerate")
      · wp_walk using wpAny_loadPart' hl, wpAny_pyIter_tuple hL
        exact ⟨_, rfl, h⟩
      · wp_walk using wpAny_loadPart' hl, wpAny_pyIter_tuple hL
        exact ⟨_, rfl, h⟩
    · wp_walk using wpAny_loadPart' hl, wpAny_pyIter_tuple hL
      exact ⟨_, rfl, h⟩
theorem call_enumT {prog : Program} {w : World} {A : Around} {E : Value → Shared → Prop} {s : Shared} {l : Addr} {items : Array Value} {Q : Value → Shared → Prop} (hL : IsTup s.heap l items)
    (h : ∀ h', IsEnum h' (s.heap.objs.size + 1) s.heap.objs.size 0 .none → h'.IsTupleIter s.heap.objs.size l 0 → h'.objs.size = s.heap.objs.size + 2 →
      (∀ b o, s.heap.get? b = some o → h'.get? b = some o) → Q (.ref (s.heap.objs.size + 1)) { s with heap := h' }) :
    wpAny (model prog w) A (call (.type "enumerate") [.ref l]) Q E s := by
  obtain ⟨⟨c, dct, dt, sl⟩, hl, hc, n, hd⟩ := hL
  replace hc : c = .type "tuple" := hc
  replace hd : dt = .seq items n := hd
  subst hc hd
  refine callType_new F.called_enumerate (by decide) (F.typeCall_enumerate_1 _) (F.newCall_enumerate_1 _) (fun obj => F.args_object_init_2 obj _) F.entry_enumerate_new
    (meets_enumT l items n dct sl) ⟨hl, ?_⟩
  have hz : (s.heap.push { cls := .type "tuple_iterator", data := .fields #[.ref l, .int 0 0] }).objs.size = s.heap.objs.size + 1 := Heap.size_push ..
  show _ ∧ _
  rw [hz]
  have he : IsEnum ((s.heap.push { cls := .type "tuple_iterator", data := .fields #[.ref l, .int 0 0] }).push
      { cls := .type "enumerate", data := .fields #[.none, .bool false, .ref s.heap.objs.size, rawInt 0, .none, .none] }) (s.heap.objs.size + 1) s.heap.objs.size 0 .none := by
    have := Heap.get?_push_size (s.heap.push { cls := .type "tuple_iterator", data := .fields #[.ref l, .int 0 0] })
      (o := { cls := .type "enumerate", data := .fields #[.none, .bool false, .ref s.heap.objs.size, rawInt 0, .none, .none] }) rfl
    rw [hz] at this; exact this
  refine ⟨⟨_, he, rfl⟩, h _ he ⟨_, Heap.get?_push_of_some _ (Heap.get?_push_size _ rfl), rfl, rfl⟩ (by rw [Heap.size_push, hz]) fun b o x => Heap.get?_push_of_some _ (Heap.get?_push_of_some _ x)⟩
/-- the tuple at a as it stands at each turn, each item in a new pair -/
def IteT (K : PySem.W.Frag) (a : Addr) : It :=
  ⟨fun i H => ∃ (xs : List V) (x : V), SqT K H a xs ∧ xs[i]? = some x, fun i H v H' => ∃ T x, v = .ref T ∧ H T = none ∧ H' = upd H T (.tup [.int (i : Nat), x]) ∧ ∀ xs, SqT K H a xs → xs[i]? = some x, fun i H => ∃ xs : List V, SqT K H a xs ∧ xs.length ≤ i⟩
theorem turn_enumT {P : Program} {w : World} {K : PySem.W.Frag} {elts : List Expr} {kk : Nat} {tpos : Pos} (a e it : Addr) :
    Turn P w K (.Tuple elts kk tpos) (IteT K a) [e, it] e (fun i h => (∃ old, IsEnum h e it ((i : Nat) : Int) old) ∧ h.IsTupleIter it a i ∧ e ≠ it ∧ a ≠ it ∧ e ≠ a) where
  mem := by simp
  obj := fun i h st b hb => by
    obtain ⟨⟨old, he⟩, ⟨o, ho, hc, hd⟩, _⟩ := st
    have e' : b = e ∨ b = it := by simpa using hb
    rcases e' with z | z
    · rw [z]; exact ⟨_, he, fun v q => nomatch q⟩
    · rw [z]; exact ⟨o, ho, fun v q => by rw [hd] at q; cases q⟩
  keep := fun i h h' st k => let ⟨⟨old, he⟩, hi, hne⟩ := st; ⟨⟨old, k e (by simp) _ he⟩, hi.at fun o q => k it (by simp) o q, hne⟩
  item := by
    intro X hP hw hK hc i pins s σ H E I hf st hg
    subst hP hw hK
    obtain ⟨⟨old, he⟩, hit, hne, hai, hea⟩ := st
    obtain ⟨xs, x, hq, hx⟩ := hg
    obtain ⟨its, rv, p, hz⟩ := I.tuple hq
    obtain ⟨u, hu, ru⟩ := rv.get hx
    have hel : e < s.heap.objs.size := Heap.lt_size he
    have hil : it < s.heap.objs.size := by obtain ⟨_, q, _⟩ := hit; exact Heap.lt_size q
    have hlt : i < its.toArray.size := by
      have := (List.getElem?_eq_some_iff.mp hu).1
      simpa using this
    have hh : X.A.in1.handled = none := I.ok.hd hc
    refine wpAny_pyNext_enum_itemD (Draws.tuple (prog := X.prog) (w := X.w) (A := X.A.in1) hh it a hai its.toArray) he ⟨hit, p⟩ hlt hne (by simp [hne, hea]) fun x0 h' tk hx0 ho hst' hT hsz hk => ?_
    have e0 : x0 = u := by
      have : its[i]? = some x0 := by simpa using hx0
      rw [hu] at this
      exact (Option.some.inj this).symm
    subst e0
    refine ⟨_, rfl, wpAny_letOwnedTupleGo_enum (s := { s with heap := h', toks := tk + 1 }) ho fun h'' he' sb => ?_⟩
    have hT2 : h''.get? s.heap.objs.size = some { cls := .type "tuple", data := .seq #[.int i tk, x0] } := (sb.2 _ (Nat.ne_of_gt hel)).trans hT
    have new : ObjOk X.prog X.w (upd H s.heap.objs.size (.tup [.int (i : Nat), x])) h'' s.heap.objs.size (.tup [.int (i : Nat), x]) :=
      ⟨by show 2 ≤ sizeLine; decide, [.int i tk, x0], .cons ⟨_, rfl⟩ (.cons ru .nil), ⟨_, hT2, rfl, _, rfl⟩⟩
    have I1 : Inv X pins σ (upd H s.heap.objs.size (.tup [.int (i : Nat), x])) { s with heap := h'', toks := tk + 1 } :=
      I.turnedNew (ch := [e, it]) (fun b ob hb q => (sb.2 b (fun z => hb (by simp [z]))).trans (hk b ob (fun z => hb (by simp [z])) (fun z => hb (by simp [z])) q)) hf (Nat.le_refl _) new
    refine ⟨.ref s.heap.objs.size, _, I1, rfl, ⟨_, x, rfl, I.hok.fresh (Nat.le_refl _), rfl, fun ys hy => by rw [I.tuple_inj hy hq]; exact hx⟩, ⟨⟨x0, ?_⟩, hst'.1.at fun o q => (sb.2 it (Ne.symm hne)).trans q, hne, hai, hea⟩, fun b hb => ?_⟩
    · have e1 : ((i + 1 : Nat) : Int) = (i : Int) + 1 := by omega
      rw [e1]; exact he'
    · have hb' : b < s.heap.objs.size := by
        have e' : b = e ∨ b = it := by simpa using hb
        rcases e' with z | z
        · rw [z]; exact hel
        · rw [z]; exact hil
      rw [upd_ne (Nat.ne_of_lt hb')]
      exact (hf b hb).1
  done := by
    intro X hP hw hK hc i pins s σ H E I hf st hg
    subst hP hw hK
    obtain ⟨⟨old, he⟩, hit, hne, hai, hea⟩ := st
    obtain ⟨xs, hq, hx⟩ := hg
    obtain ⟨its, rv, p, hz⟩ := I.tuple hq
    obtain ⟨f0, f1, f2, f3, f4, f5⟩ := hf it (by simp)
    have hl := rv.length
    have hT : s.TypeIs (.ref e) "enumerate" := ⟨_, he, rfl⟩
    unfold pyNext
    refine wpAny_bind (wpAny_attempt (wpAny_callSpecial?_slot (name := Str.ofString "__next__") hT F.slot_enumerate_next
      (wpAny_call_entry F.slot_enumerate_next hT F.entry_enumerate_next ?_ (F.args_enumerate_next_1 _))))
    show wpAny _ _ (field (.ref e) 2 >>= _) _ _ _
    refine wpAny_bind (wpAny_field he rfl (x := .ref it) rfl ?_)
    refine wpAny_bind (wpAny_nextOf_tuple_end (I.ok.hd hc) hit p (by simp; omega) fun h' x he' hx' => ?_)
    obtain ⟨o, ho, hc'⟩ := hx'
    refine wpAny_bind (wpAny_isInstance (T := "StopIteration") (b := true) ⟨o, ho, hc'⟩ isSubtype_stop ?_)
    exact wpAny_pure ⟨rfl, I.turned (t' := s.toks) (fun b o hb q => he' b o hb q) f0 f1 f3 f4 f5⟩
  self := fun A i s Q E st h => let ⟨⟨_, he⟩, _⟩ := st; wpAny_pyIter_enum he h
def iEnumT (K : PySem.W.Frag) (ta : TA) : TI := fun σ H R => ta σ H fun vs H1 => ∃ a xs, vs = [.ref a] ∧ SqT K H1 a xs ∧ R (IteT K a) H1
theorem pi_enumT {X : Cx} {e : Expr} {ta : TA} {p pos tpos : Pos} {elts : List Expr} {kk : Nat} (hg : Gl X "enumerate") (hm : X.mg "enumerate" = none) (ha : PA X [e] ta) (hs : starEach [e] X.env = [(false, eval e X.env)] := by rfl) :
    PI X (.Tuple elts kk tpos) (.Call (.Name "enumerate" p) [e] [] pos) (iEnumT X.K ta) := by
  refine ⟨fun pins s σ H R I h => ?_⟩
  refine Call_ (ld_blt I hg hm boot_enumerate (PyProof.Rows.callWith_type1 (thn (ha.run pos pins s σ H _ I h) fun us s1 ⟨vs, H1, I1, r1, q1⟩ => ?_) hs rfl))
  obtain ⟨a, xs, ex, hq, q⟩ := q1
  subst ex
  cases r1 with
  | cons r rr =>
    cases rr
    cases r
    obtain ⟨its, rv, p', hz⟩ := I1.tuple hq
    refine call_enumT p' fun h' he hit hsz hk => wpAny_pyIter_enum he ?_
    have I2 : Inv X pins σ H1 { s1 with heap := h' } := I1.kept (t' := s1.toks) hk
    have hal : a < s1.heap.objs.size := by obtain ⟨_, q, _⟩ := p'; exact Heap.lt_size q
    refine ⟨s1.heap.objs.size + 1, [s1.heap.objs.size + 1, s1.heap.objs.size], _, _, H1, rfl, I2, turn_enumT a (s1.heap.objs.size + 1) s1.heap.objs.size, ⟨⟨.none, he⟩, hit, Nat.succ_ne_self _, Nat.ne_of_lt hal, Nat.ne_of_gt (Nat.lt_succ_of_lt hal)⟩, fun b hb => ?_, q⟩
    have e' : b = s1.heap.objs.size + 1 ∨ b = s1.heap.objs.size := by simpa using hb
    have hle : s1.heap.objs.size ≤ b := by
      rcases e' with z | z
      · rw [z]; exact Nat.le_add_right _ _
      · rw [z]; exact Nat.le_refl _
    exact I1.fpOk hle (I1.hok.fresh hle)
end HX

set_option Elab.async false
set_option linter.all false
set_option maxRecDepth 100000
set_option maxHeartbeats 4000000
namespace HX
open PySem PySem.Spec PyProof.Rows L2 Evl
/-! ### min(a list of ints, default=d) -/
theorem dp_ints {K : PySem.W.Frag} {H : Hp} : ∀ ns : List Int, DpAll K H (ns.map V.int) (ns.map PyData.int)
  | [] => .nil
  | n :: ns => .cons (.int n) (dp_ints ns)
theorem depth_ints : ∀ ns : List Int, PyData.depthAll (ns.map PyData.int) ≤ 1
  | [] => by simp [PyData.depthAll]
  | n :: ns => by
    have := depth_ints ns
    simp [PyData.depthAll, PyData.depth]
    omega
theorem min_of {n m : Int} {ns : List Int} (h : ns.foldl min n = m) : m ∈ n :: ns ∧ ∀ y ∈ n :: ns, m ≤ y := by
  induction ns generalizing n with
  | nil =>
    have e : n = m := h
    subst e
    exact ⟨List.mem_cons_self, fun y hy => by
      have : y = n := by simpa using hy
      omega⟩
  | cons k r ih =>
    obtain ⟨h1, h2⟩ := ih (n := min n k) h
    refine ⟨?_, fun y hy => ?_⟩
    · rcases List.mem_cons.mp h1 with e | e
      · by_cases c : n ≤ k
        · have : m = n := by omega
          rw [this]; exact List.mem_cons_self
        · have : m = k := by omega
          rw [this]; exact List.mem_cons_of_mem _ List.mem_cons_self
      · exact List.mem_cons_of_mem _ (List.mem_cons_of_mem _ e)
    · have h3 := h2 (min n k) List.mem_cons_self
      rcases List.mem_cons.mp hy with e | e
      · omega
      · rcases List.mem_cons.mp e with e | e
        · omega
        · exact h2 y (List.mem_cons_of_mem _ e)
section
variable {X : Cx}
def rMinDf (K : PySem.W.Frag) : List V → List V → Hp → VK → Prop := fun vs zs H Q => ∃ (a : Addr) (ns : List Int) (d : Int), vs = [.ref a] ∧ zs = [.int d] ∧ SqL K H a (ns.map V.int) ∧ (ns = [] → Q (.int d) H) ∧ ∀ m, m ∈ ns → (∀ y ∈ ns, m ≤ y) → Q (.int m) H
theorem cr_minDf (hc : X.calm = true) (hu : X.A.units + 64 < cLine) : CallRK X (.builtin "min") [Str.ofString "default"] (rMinDf X.K) := by
  intro pins s σ H vs zs us ws Q I r rz h
  obtain ⟨a, ns, d, rfl, rfl, hs, h0, h1⟩ := h
  obtain rfl := Vals.ref1 r
  obtain ⟨w1, rfl, e1⟩ := vals1 rz
  obtain ⟨its, rv, hl, hz⟩ := I.list hs
  obtain ⟨as, hr⟩ := Dp.readsAll I (ns.map PyData.int) _ its (dp_ints ns) rv
  have ha : PySem.W.AlikeAll (ns.map PyData.int) := by
    refine ⟨fun x hx y hy => ?_, fun x hx => ?_⟩
    · obtain ⟨i, _, rfl⟩ := List.mem_map.mp hx
      obtain ⟨j, _, rfl⟩ := List.mem_map.mp hy
      rfl
    · obtain ⟨i, _, rfl⟩ := List.mem_map.mp hx
      exact fun z => nomatch z
  refine PySem.W.min_list_default (I.ok.hd hc) hl.isList (by simpa using hr) ha (by have := depth_ints ns; omega) (fun e h' tk hk => ?_) fun y ys i v h' tk bs e hv hrd hk => ?_
  · have en : ns = [] := List.map_eq_nil_iff.mp e
    exact ⟨.int d, H, I.kept (t' := tk) hk, e1, h0 en⟩
  · cases ns with
    | nil => cases e
    | cons n ns =>
      rw [List.map_cons] at e
      injection e with e2 e3
      subst e2 e3
      rw [PySem.W.minD_ints] at hrd
      obtain ⟨m1, m2⟩ := min_of (n := n) (ns := ns) rfl
      have hv2 : ∃ t, v = .int (ns.foldl min n) t := by
        cases hrd
        exact ⟨_, rfl⟩
      obtain ⟨t, rfl⟩ := hv2
      exact ⟨.int (ns.foldl min n), H, I.kept (t' := tk) hk, ⟨_, rfl⟩, h1 _ m1 m2⟩
end
end HX

set_option Elab.async false
set_option linter.all false
set_option maxRecDepth 100000
set_option maxHeartbeats 4000000
namespace HX
open PySem PySem.Spec PyProof.Rows L2 Evl
/-! ### {e for target in a tuple}, e an int: the shape of the library's rule for sets of truth values, for ints and without tests -/
section
variable {X : Cx}
theorem addI_ok {pins : List (Addr × Obj)} {σ : L2.St} {H : Hp} {s : Shared} {E : Value → Shared → Prop} {D : Addr} {S : Int → Bool} {n : Nat} {k : Int} {tk : Tok} {Q : Value → Shared → Prop} (I : Inv X pins σ H s) (hD : H D = some (SetO X.w D S n)) (room : n + 1 < scanBound)
    (h : ∀ s', Inv X pins σ (upd H D (SetO X.w D (fun j => S j || decide (j = k)) (if S k = true then n else n + 1))) s' → Q .none s') :
    wpAny (model X.prog X.w) X.A (call (.builtin "set.add") [.ref D, .int k tk]) Q E s := by
  refine setR_add (setO_get I hD) room fun h' sb new => ?_
  obtain ⟨o, es, ep, t, ho, more⟩ := new
  refine h _ (I.write (x := D) (e := D) (t' := s.toks + 1) (by rw [hD]; trivial) (.inl rfl) (fun b u ne hu => (sb.2 b ne).trans hu) ⟨o, ho⟩ ?_)
  exact setO_new ⟨o, es, ep, t, ho, more⟩
/-- what is wanted of the set at D behind one more turn -/
def ScNx (w : World) (D : Addr) (y : V) (H : Hp) (N : Hp → Prop) : Prop :=
  ∃ (k : Int) (S : Int → Bool) (n : Nat), y = .int k ∧ H D = some (SetO w D S n) ∧ n + 1 < scanBound ∧ N (upd H D (SetO w D (fun j => S j || decide (j = k)) (if S k = true then n else n + 1)))
def ScW (w : World) (J : It) (g : TG) (te : TE) (vs : List Nat) (σ : L2.St) (Q : VK) (D : Addr) (H0 : Hp) : Prop :=
  ∃ W : Nat → Nat → Hp → Prop, (∃ m, W 0 m (upd H0 D (SetO w D (fun _ => false) 0))) ∧ ∀ i m H, W i m H →
    (J.stop i H ∧ Q (.ref D) H) ∨ (J.go i H ∧ ∃ Nx : Hp → Prop, (∀ H', Nx H' → ∃ m', m' < m ∧ W (i + 1) m' H') ∧
      ∀ x H', J.yld i H x H' → g x (wipe σ vs) H' fun σ2 H2 => wipe σ2 vs = wipe σ vs ∧ te σ2 H2 fun y H4 => ScNx w D y H4 Nx)
def tScI (w : World) (wi : TI) (g : TG) (te : TE) (vs : List Nat) : TE := fun σ H Q => wi σ H fun J H1 => ∀ D, H1 D = none → ScW w J g te vs σ Q D H1
theorem pe_scI {elt tg iter : Expr} {scope : Scope} {own : List (Str × Nat)} {pos : Pos} {wi : TI} {g : TG} {te : TE} (hc : X.calm = true) (hN : X.N.Nodup) (hi : PI X tg iter wi) (ok : BlkOk X.N X.env.scope scope own)
    (hg : ∀ (s : Shared) (H : Hp) (C : Addr) (cl : List (Str × Addr)) (fp : List Addr), PG (X.blk s H scope (compEnvC scope cl C X.env) fp) tg g)
    (he : ∀ (s : Shared) (H : Hp) (C : Addr) (cl : List (Str × Addr)) (fp : List Addr), PE (X.blk s H scope (compEnvC scope cl C X.env) fp) elt te) (hs : ∀ x, foldedSetIterable iter X.env x = pure x := by intro _; rfl) :
    PE X (.SetComp elt [⟨tg, iter, [], 0⟩] scope pos) (tScI X.w wi g te (own.map (·.2))) := by
  refine ⟨fun pins s σ H Q I h => ?_⟩
  rw [PpSet.eval_SetComp]
  have clo : ∀ y ∈ scope.names, y.2 = .free → ∃ c, X.env.cells.lookup y.1 = some c := fun y hy e => (ok.free y hy e).elim (fun k => I.ok.has _ (.inl k)) fun k => I.ok.has _ (.inr k)
  refine wpAny_comprehension_free rfl hs (closure_ok clo) ok.kind (fun y hy e => by rw [ok.uniq y hy, e]) (thn (hi.run pins s σ H _ I h) fun xv s1 hx => thn hx fun itv s2 h2 => ?_)
  obtain ⟨it, fp, tn, J, H2, e, I2, T, st2, f2, q⟩ := h2
  subst e
  refine PpSet.newSet_ok (newEnv_comp ?_)
  have big : s2.heap.objs.size ≤ s2.heap.objs.size := Nat.le_refl _
  have hDn : H2 s2.heap.objs.size = none := I2.hok.fresh big
  obtain ⟨W, ⟨m0, w0⟩, turn⟩ := q s2.heap.objs.size hDn
  have hin : ∀ b ∈ fp, b < s2.heap.objs.size := fun b hb => let ⟨_, e, _⟩ := T.obj _ _ st2 b hb; Heap.lt_size e
  have gone : ∀ b o, s2.heap.get? b = some o → (s2.heap.push { cls := .type "set", dict := none, data := .set #[] 0 (.fresh 0 0 (!X.w.params.followText "set-order")) }).get? b = some o := fun b o e => Heap.get?_push_of_some _ e
  generalize hD : s2.heap.objs.size = D at hDn w0 turn hin ⊢
  have I3 : Inv X pins σ (upd H2 D (SetO X.w D (fun _ => false) 0)) { s2 with heap := s2.heap.push { cls := .type "set", dict := none, data := .set #[] 0 (.fresh 0 0 (!X.w.params.followText "set-order")) } } := by
    refine I2.laid (t' := s2.toks) gone (Nat.le_of_eq hD) (setO_new ?_)
    rw [← hD]
    exact setR_fresh X.w
  have sz : (s2.heap.push { cls := .type "set", dict := none, data := .set #[] 0 (.fresh 0 0 (!X.w.params.followText "set-order")) }).objs.size = D + 1 := by rw [Heap.size_push, hD]
  have st3 : tn 0 (s2.heap.push { cls := .type "set", dict := none, data := .set #[] 0 (.fresh 0 0 (!X.w.params.followText "set-order")) }) := T.keep _ _ _ st2 fun b _ o e => gone b o e
  generalize hs3 : ({ s2 with heap := s2.heap.push { cls := .type "set", dict := none, data := .set #[] 0 (.fresh 0 0 (!X.w.params.followText "set-order")) } } : Shared) = s3 at I3 ⊢
  replace sz : s3.heap.objs.size = D + 1 := by rw [← hs3]; exact sz
  replace st3 : tn 0 s3.heap := by rw [← hs3]; exact st3
  have f3 : ∀ b ∈ fp, FpOk X pins (upd H2 D (SetO X.w D (fun _ => false) 0)) b ∧ b < s3.heap.objs.size := fun b hb => by
    have lt := hin b hb
    refine ⟨⟨?_, (f2 b hb).2⟩, by rw [sz]; exact Nat.lt_succ_of_lt lt⟩
    rw [upd_ne (Nat.ne_of_lt lt)]
    exact (f2 b hb).1
  have I4 := block_start I3 ok hN f3
  have pg := hg s3 (upd H2 D (SetO X.w D (fun _ => false) 0)) s3.heap.objs.size (cellsFrom (s3.heap.objs.size + 1) scope.names (cloFrom X.env.cells scope.names [])) fp
  have pe := he s3 (upd H2 D (SetO X.w D (fun _ => false) 0)) s3.heap.objs.size (cellsFrom (s3.heap.objs.size + 1) scope.names (cloFrom X.env.cells scope.names [])) fp
  have nfp : ∀ b ∈ fp, (upd H2 D (SetO X.w D (fun _ => false) 0)) b = none := fun b hb => (f3 b hb).1.1
  show codeAny _ _ (.compStart (.SetComp elt [⟨tg, iter, [], 0⟩] scope pos) 0 (.ref it) (.ref D) (compEnvC scope (cellsFrom (s3.heap.objs.size + 1) scope.names (cloFrom X.env.cells scope.names [])) s3.heap.objs.size X.env)) _ { s3 with heap := pushCells (s3.heap.push { cls := .type "dict", data := .dict #[] }) scope.names }
  generalize hce : compEnvC scope (cellsFrom (s3.heap.objs.size + 1) scope.names (cloFrom X.env.cells scope.names [])) s3.heap.objs.size X.env = ce at I4 pg pe ⊢
  have cL : ce.locals = s3.heap.objs.size := by subst hce; rfl
  generalize upd H2 D (SetO X.w D (fun _ => false) 0) = H3 at I3 I4 pg pe w0 nfp f3
  have st4 : tn 0 (pushCells (s3.heap.push { cls := .type "dict", data := .dict #[] }) scope.names) := T.keep _ _ _ st3 fun b _ o e => pushCells_keeps _ _ _ _ (Heap.get?_push_of_some _ e)
  generalize hs4 : ({ s3 with heap := pushCells (s3.heap.push { cls := .type "dict", data := .dict #[] }) scope.names } : Shared) = s4 at I4 ⊢
  replace st4 : tn 0 s4.heap := by rw [← hs4]; exact st4
  have stat : ∀ {σ' : L2.St} {H' : Hp} {s' : Shared}, Inv (X.blk s3 H3 scope ce fp) [] σ' H' s' → (∀ b ∈ fp, H' b = none) → ∀ b ∈ fp, FpOk (X.blk s3 H3 scope ce fp) [] H' b := fun {σ' H' s'} I' hn b hb =>
    ⟨hn b hb, (I'.ok.exf b hb).1, I'.ok.exfs b hb, .inl hb, fun x c e => (I'.ok.exf b hb).2 x c e, fun p hp => absurd (show p ∈ ([] : List (Addr × Obj)) ++ [] from hp) (by simp)⟩
  have loop : codeAny (model X.prog X.w) X.A (.compLoop (.SetComp elt [⟨tg, iter, [], 0⟩] scope pos) 0 (.ref it) (.ref D) ce) (compPost (model X.prog X.w) X.A X.xe none (EP X pins σ Q) (.ref D) s3.heap.objs.size) s4 := by
    refine PpSet.compLoopS_any (fun n s' => ∃ i H', Inv (X.blk s3 H3 scope ce fp) [] (wipe σ (own.map (·.2))) H' s' ∧ tn i s'.heap ∧ (∀ b ∈ fp, H' b = none) ∧ W i n H') ?_ m0 ⟨0, H3, I4, st4, nfp, w0⟩
    rintro n s5 ⟨i, H5, I5, st5, n5, w5⟩
    rcases turn i n H5 w5 with ⟨stop, qq⟩ | ⟨go, Nx, hNx, step⟩
    · have td := T.done (X.blk s3 H3 scope ce fp) rfl rfl rfl hc i [] s5 _ H5 (fun _ _ => False) I5 (stat I5 n5) st5 stop
      refine thnF td fun r s6 ⟨hr, I6⟩ => ?_
      subst hr
      have I7 : Inv X pins σ H5 s6 := I3.call' (ch := fp) I6.os I6.base I6.hok I6.bare fun b hb => let z := (f3 b hb).1.2; ⟨z.2.2.1, z.1, z.2.2.2.1, z.2.2.2.2⟩
      have nC : H5 s3.heap.objs.size = none := by rw [← cL]; exact I6.free
      obtain ⟨m, hn, _⟩ := I6.loc
      replace hn : s6.heap.Ns ce.locals m := hn
      rw [cL] at hn
      obtain ⟨f0, f1, g2, g3, g4, g5⟩ := I3.fpOk (Nat.le_refl _) nC
      exact ⟨m, hn, fun h'' sb => ⟨.ref D, H5, I7.turned (t' := s6.toks) (fun b o hb e => (sb.2 b hb).trans e) f0 f1 g3 g4 g5, rfl, qq⟩⟩
    · have ti := T.item (X.blk s3 H3 scope ce fp) rfl rfl rfl hc i [] s5 _ H5 (fun _ _ => False) I5 (stat I5 n5) st5 go
      refine thnF ti fun r s6 ⟨u, hr, h6⟩ => ?_
      subst hr
      refine thnF h6 fun _ s7 ⟨x, H7, I7, r7, y7, st7, n7⟩ => ?_
      have I7' := I7.pinned (stat I7 n7) (T.obj _ _ st7)
      refine thnF (pg.run _ s7 _ H7 x u _ I7' r7 (step x H7 y7)) fun _ s8 ⟨σ8, H8, I8, hw8, q8⟩ => ?_
      refine wpAny_pure ?_
      simp only [if_true]
      refine thnF (pe.run _ s8 σ8 H8 _ I8 q8) fun z s10 ⟨yv, H10, I10, r10, k0, S0, n0, ey, hD10, hz10, nx⟩ => ?_
      subst ey
      obtain ⟨tk, rfl⟩ := r10
      refine addI_ok (X := X.blk s3 H3 scope ce fp) I10 hD10 hz10 fun s11 I11 => ?_
      obtain ⟨m', hm, w'⟩ := hNx _ nx
      have pin' : ∀ b ∈ fp, ∀ o, s7.heap.get? b = some o → s11.heap.get? b = some o ∧ _ := fun b hb o e => let z := I11.pin (b, o) (List.mem_append_right _ (List.mem_append_right _ (mem_pinsAt hb e))); ⟨z.1, z.2.1⟩
      have hl : (wipe σ (own.map (·.2))).length = σ8.length := by rw [← hw8, wipe_length]
      refine ⟨m', hm, i + 1, _, (I11.unpinned (pins := [])).weak hl (fun j v e => ?_), T.keep _ _ _ st7 fun b hb o e => (pin' b hb o e).1, fun b hb => ?_, w'⟩
      · rw [← hw8] at e
        exact (wipe_some e).1
      · obtain ⟨o, e, _⟩ := T.obj _ _ st7 b hb
        exact (pin' b hb o e).2
  exact PpSet.codeAny_compStart_set loop (T.self X.A 0 _ _ _ st4 loop)
end
/-- over a tuple that stays -/
theorem sc_tupI {w : World} {K : PySem.W.Frag} {a : Addr} {xs : List V} {g : TG} {te : TE} {vs : List Nat} {σ : L2.St} {H1 : Hp} {D : Addr} {Q : VK} (Pv : Nat → Hp → Prop) (h0 : Pv 0 (upd H1 D (SetO w D (fun _ => false) 0))) (hl : ∀ i H, i ≤ xs.length → Pv i H → SqT K H a xs)
    (hs : ∀ i x H, xs[i]? = some x → Pv i H → g x (wipe σ vs) H fun σ2 H2 => wipe σ2 vs = wipe σ vs ∧ te σ2 H2 fun y H4 => ScNx w D y H4 (Pv (i + 1))) (hd : ∀ H, Pv xs.length H → Q (.ref D) H) : ScW w (Itt K a) g te vs σ Q D H1 := by
  refine ⟨fun i m H => m + i = xs.length ∧ Pv i H, ⟨xs.length, rfl, h0⟩, fun i m H ⟨e, p⟩ => ?_⟩
  have q := hl i H (by omega) p
  by_cases lt : i < xs.length
  · refine .inr ⟨⟨xs, xs[i], q, List.getElem?_eq_getElem lt⟩, Pv (i + 1), fun H' p' => ⟨m - 1, by omega, by omega, p'⟩, fun x H' y => ?_⟩
    obtain ⟨e2, y⟩ := y
    subst e2
    exact hs i x _ (y xs q) p
  · have e2 : i = xs.length := by omega
    subst e2
    exact .inl ⟨⟨xs, q, Nat.le_refl _⟩, hd H p⟩
end HX

set_option Elab.async false
set_option linter.all false
set_option maxRecDepth 100000
set_option maxHeartbeats 4000000
namespace HX
open PySem PySem.Spec PyProof.Rows L2 Evl
/-! ### sum(a list of no or one list, []) -/
theorem args_sum2 (a b : Value) : argsOk "sum" ⟨[a, b], []⟩ := by unfold argsOk; kernel_rfl
theorem sub_l_str : isSubtype (.type "list") (.type "str") = pure false := by rw [isSubtype_type]; kernel_rfl
theorem sub_l_bytes : isSubtype (.type "list") (.type "bytes") = pure false := by rw [isSubtype_type]; kernel_rfl
theorem sub_l_bytearray : isSubtype (.type "list") (.type "bytearray") = pure false := by rw [isSubtype_type]; kernel_rfl
abbrev lsO (vs : List Value) : Obj := { cls := .type "list", data := .seq vs.toArray }
abbrev stO (v : Value) (n : Nat) : Obj := { cls := .type "list", dict := none, data := .seq #[v] n, slots := #[] }
section
variable {prog : Program} {w : World} {A : Around} {E : Value → Shared → Prop} {R : Result → Shared → Prop}
/-- all items drawn: the total as it stands -/
theorem sum_end {I a S : Addr} {items : Array Value} {s : Shared} {v : Value} {n : Nat} (hh : A.handled = none) (hne : a ≠ I) (st : s.heap.IsListIter I a items.size ∧ s.heap.IsList a items) (hS : s.heap.get? S = some (stO v n)) (hv : ∀ x t, v ≠ .float x t)
    (hQ : ∀ h' tk, (∀ b o, b ≠ I → s.heap.get? b = some o → h'.get? b = some o) → R (.ok (.ret v)) { s with heap := h', toks := tk }) :
    codeAny (model prog w) A (.builtin "sum.loop" ⟨[.ref I, .ref S, rawInt 2, rawInt 0], []⟩) R s := by
  have W := Walks.list (prog := prog) (w := w) (A := A.in1) hh I a hne items
  refine codeAny_builtin F.entry_sum_loop ?_
  rw [Around.under_plainId F.plain_sum_loop _]
  show wpAny _ A.in1 (seqItems? (.ref S) >>= _) _ _ s
  refine wpAny_bind (wpAny_seqItems hS rfl ?_)
  show wpAny _ A.in1 (tryCatch (pyNext (.ref I)) _ >>= _) _ _ s
  refine wpAny_bind (wpAny_tryCatch (W.done s _ _ st fun h' tk hk => ?_))
  have fin := hQ h' tk fun b o ne e => hk b o (by simpa using ne) e
  cases v with
  | float x t => exact absurd rfl (hv x t)
  | _ => exact wpAny_pure fin
/-- one list drawn -/
theorem sum_one {I a S b l : Addr} {s : Shared} {n nb nl : Nat} {vs ws : List Value} (hh : A.handled = none) (hne : a ≠ I) (st : s.heap.IsListIter I a 0 ∧ s.heap.IsList a #[.ref l]) (hS : s.heap.get? S = some (stO (.ref b) n)) (hSI : S ≠ I) (hSa : S ≠ a) (hbI : b ≠ I) (hlI : l ≠ I)
    (hb : s.heap.get? b = some { cls := .type "list", data := .seq vs.toArray nb }) (hl : s.heap.get? l = some { cls := .type "list", data := .seq ws.toArray nl }) (hz : vs.length + ws.length ≤ sizeLine)
    (hQ : ∀ (h1 h' : Heap) (tk : Nat), h1.objs.size ≠ I → h1.objs.size ≠ S → (∀ c o, c ≠ I → s.heap.get? c = some o → h1.get? c = some o) → (∀ c o, c ≠ I → c ≠ S → (h1.push (lsO (vs ++ ws))).get? c = some o → h'.get? c = some o) → R (.ok (.ret (.ref h1.objs.size))) { s with heap := h', toks := tk }) :
    codeAny (model prog w) A (.builtin "sum.loop" ⟨[.ref I, .ref S, rawInt 2, rawInt 0], []⟩) R s := by
  have W := Walks.list (prog := prog) (w := w) (A := A.in1) hh I a hne #[.ref l]
  refine codeAny_builtin F.entry_sum_loop ?_
  rw [Around.under_plainId F.plain_sum_loop _]
  show wpAny _ A.in1 (seqItems? (.ref S) >>= _) _ _ s
  refine wpAny_bind (wpAny_seqItems hS rfl ?_)
  show wpAny _ A.in1 (tryCatch (pyNext (.ref I)) _ >>= _) _ _ s
  refine wpAny_bind (wpAny_tryCatch (W.item 0 s _ _ (by simp) st fun v h1 tk hP st1 hk => ?_))
  have ev : v = .ref l := by
    have : (#[Value.ref l])[0]? = some v := hP
    simpa using this.symm
  subst ev
  have k1 : ∀ c o, c ≠ I → s.heap.get? c = some o → h1.get? c = some o := fun c o ne e => hk c o (by simpa using ne) e
  show wpAny _ A.in1 ((holding [Value.ref l] (binaryOp .Add (.ref b) (.ref l))).attempt >>= _) _ _ _
  refine wpAny_bind (wpAny_attempt (wpAny_holding (PySem.P.add_list (k1 b _ hbI hb) (k1 l _ hlI hl) ?_ (by simpa using hz))))
  have ea : vs.toArray ++ ws.toArray = (vs ++ ws).toArray := by simp
  rw [ea]
  have hS1 : (h1.push (lsO (vs ++ ws))).get? S = some (stO (.ref b) n) := Heap.get?_push_of_some _ (k1 S _ hSI hS)
  show wpAny _ A.in1 (updateSeq S (fun _ => #[.ref h1.objs.size]) >>= _) _ _ _
  refine wpAny_bind (wpAny_updateSeq hS1 rfl ?_)
  have hS2 := Heap.get?_update_self (Obj.mapSeq fun _ => #[Value.ref h1.objs.size]) hS1 rfl
  refine wpAny_bind (wpAny_letGo ?_)
  refine wpAny_bind (wpAny_updateSeq hS2 rfl (wpAny_pure ⟨plainId_quiet F.plain_sum_loop _, ?_⟩))
  have hS3 := Heap.get?_update_self (Obj.mapSeq fun _ => #[Value.ref h1.objs.size]) hS2 rfl
  have k2 : ∀ c o, c ≠ S → (h1.push (lsO (vs ++ ws))).get? c = some o → (((h1.push (lsO (vs ++ ws))).update S (Obj.mapSeq fun _ => #[Value.ref h1.objs.size])).update S (Obj.mapSeq fun _ => #[Value.ref h1.objs.size])).get? c = some o := fun c o ne e =>
    (Heap.get?_update_other _ _ (Ne.symm ne)).trans ((Heap.get?_update_other _ _ (Ne.symm ne)).trans e)
  refine sum_end (v := .ref h1.objs.size) hh hne (items := #[.ref l]) ⟨st1.1.at fun o e => k2 _ _ (Ne.symm hSI) (Heap.get?_push_of_some _ e), st1.2.at fun o e => k2 _ _ (Ne.symm hSa) (Heap.get?_push_of_some _ e)⟩ hS3 (fun _ _ z => nomatch z) fun h' tk' hk' => ?_
  have nI : h1.objs.size ≠ I := by
    obtain ⟨o, ho, _⟩ := st1.1
    exact Nat.ne_of_gt (Heap.lt_size ho)
  exact hQ h1 h' tk' nI (Nat.ne_of_gt (Heap.lt_size (k1 S _ hSI hS))) k1 fun c o c1 c2 e => hk' c o c1 (k2 c o c2 e)
theorem call_sum2 {a b : Addr} {s : Shared} {nb : Nat} {vs : List Value} {items : Array Value} {Q : Value → Shared → Prop} (ha : s.heap.IsList a items) (hb : s.heap.get? b = some { cls := .type "list", data := .seq vs.toArray nb })
    (h : ∀ s2 S, s2 = { s with heap := (s.heap.push { cls := .type "list_iterator", data := .fields #[.ref a, .int 0 0] }).push (stO (.ref b) 0) } → S = (s.heap.push { cls := .type "list_iterator", data := .fields #[.ref a, .int 0 0] }).objs.size →
      codeAny (model prog w) A (.builtin "sum.loop" ⟨[.ref s.heap.objs.size, .ref S, rawInt 2, rawInt 0], []⟩) (wants Q E) s2) : wpAny (model prog w) A (call (.builtin "sum") [.ref a, .ref b]) Q E s := by
  refine call_function_tree F.kind_sum F.plain_sum F.entry_sum (args_sum2 _ _) ?_
  unfold Builtin.«sum»
  simp only [List.length_cons, List.length_nil]
  rw [if_neg (by decide)]
  refine wpAny_bind (wpAny_of_eq (show Builtin.Builtins.bindParams "sum" ["start"] 0 ⟨[.ref b], []⟩ = pure [some (.ref b)] from rfl) ?_)
  refine wpAny_bind (wpAny_pyIter_list ha ?_)
  refine wpAny_bind (wpAny_pure ?_)
  have tb : ({ s with heap := s.heap.push { cls := .type "list_iterator", data := .fields #[.ref a, .int 0 0] } } : Shared).TypeIs (.ref b) "list" := ⟨_, Heap.get?_push_of_some _ hb, rfl⟩
  simp only [List.forIn_cons, List.forIn_nil]
  refine wpAny_bind (wpAny_bind (wpAny_bind (wpAny_isInstance (T := "list") (b := false) tb sub_l_str ?_)))
  simp only [Bool.false_eq_true, if_false]
  refine wpAny_pure (wpAny_bind (wpAny_bind (wpAny_isInstance (T := "list") (b := false) tb sub_l_bytes ?_)))
  simp only [Bool.false_eq_true, if_false]
  refine wpAny_pure (wpAny_bind (wpAny_bind (wpAny_isInstance (T := "list") (b := false) tb sub_l_bytearray ?_)))
  simp only [Bool.false_eq_true, if_false]
  refine wpAny_pure (wpAny_pure ?_)
  refine wpAny_bind (wpAny_newObj_type ?_)
  refine wpAny_pure ⟨plainId_quiet F.plain_sum_loop _, ?_⟩
  exact h _ _ rfl rfl
end
/-- sum(ls, []) -/
def rSumL (K : PySem.W.Frag) : List V → Hp → VK → Prop := fun vs H Q => ∃ (a b : Addr), vs = [.ref a, .ref b] ∧ H b = some (.lst []) ∧
  ((SqL K H a [] ∧ Q (.ref b) H) ∨ ∃ l xs, SqL K H a [.ref l] ∧ H l = some (.lst xs) ∧ ∀ p, H p = none → Q (.ref p) (upd H p (.lst xs)))
section
variable {X : Cx}
theorem cr_sumL (hc : X.calm = true) : CallR X (.builtin "sum") (rSumL X.K) := by
  intro pins s σ H vs us Q I r h
  obtain ⟨a, b, rfl, hb, h⟩ := h
  obtain ⟨u1, u2, rfl, r1, r2⟩ := vals2 r
  obtain rfl : u1 = Value.ref a := r1
  obtain rfl : u2 = Value.ref b := r2
  have hh : X.A.handled = none := I.ok.hd hc
  obtain ⟨_, itb, nb, rb, _, eb⟩ := I.lstM hb
  cases rb
  have kp : ∀ c o, s.heap.get? c = some o → ((s.heap.push { cls := .type "list_iterator", data := .fields #[.ref a, .int 0 0] }).push (stO (.ref b) 0)).get? c = some o := fun c o e => Heap.get?_push_of_some _ (Heap.get?_push_of_some _ e)
  have sz1 : (s.heap.push { cls := .type "list_iterator", data := .fields #[.ref a, .int 0 0] }).objs.size = s.heap.objs.size + 1 := Heap.size_push ..
  have itr : ((s.heap.push { cls := .type "list_iterator", data := .fields #[.ref a, .int 0 0] }).push (stO (.ref b) 0)).IsListIter s.heap.objs.size a 0 := ⟨_, Heap.get?_push_of_some _ (Heap.get?_push_size _ rfl), rfl, rfl⟩
  have stt : ((s.heap.push { cls := .type "list_iterator", data := .fields #[.ref a, .int 0 0] }).push (stO (.ref b) 0)).get? (s.heap.push { cls := .type "list_iterator", data := .fields #[.ref a, .int 0 0] }).objs.size = some (stO (.ref b) 0) := Heap.get?_push_size _ rfl
  have lt_ne : ∀ {c o}, s.heap.get? c = some o → c ≠ s.heap.objs.size ∧ c ≠ (s.heap.push { cls := .type "list_iterator", data := .fields #[.ref a, .int 0 0] }).objs.size := fun {c o} e => ⟨Nat.ne_of_lt (Heap.lt_size e), by rw [sz1]; exact Nat.ne_of_lt (Nat.lt_succ_of_lt (Heap.lt_size e))⟩
  have SI : (s.heap.push { cls := .type "list_iterator", data := .fields #[.ref a, .int 0 0] }).objs.size ≠ s.heap.objs.size := by rw [sz1]; exact Nat.succ_ne_self _
  rcases h with ⟨hq, q⟩ | ⟨l, xs, hq, hl, q⟩
  · obtain ⟨its, rv, pl, hz⟩ := I.list hq
    cases rv
    obtain ⟨o, n, ho, _⟩ := id pl
    refine call_sum2 pl.isList eb fun s2 S e2 eS => ?_
    subst e2 eS
    refine sum_end (items := #[]) (v := .ref b) hh (lt_ne ho).1 ⟨itr, pl.isList.at fun o e => kp _ _ e⟩ stt (fun _ _ z => nomatch z) fun h' tk hk => ?_
    exact ⟨.ref b, H, I.kept (t' := tk) (fun c o e => hk c o (lt_ne e).1 (kp c o e)), rfl, q⟩
  · obtain ⟨its, rv, pl, hz⟩ := I.list hq
    obtain ⟨u, eu, ru⟩ := vals1 rv
    subst eu
    obtain rfl : u = Value.ref l := ru
    obtain ⟨o, n, ho, _⟩ := id pl
    obtain ⟨zl, itl, nl, rl, _, el⟩ := I.lstM hl
    refine call_sum2 pl.isList eb fun s2 S e2 eS => ?_
    subst e2 eS
    refine sum_one (vs := []) (ws := itl) hh (lt_ne ho).1 ⟨itr, pl.isList.at fun o e => kp _ _ e⟩ stt SI (lt_ne ho).2.symm (lt_ne eb).1 (lt_ne el).1 (kp _ _ eb) (kp _ _ el) (by rw [List.length_nil, Nat.zero_add, ← rl.length]; exact zl) fun h1 h' tk nI nS k1 k2 => ?_
    have I1 : Inv X pins σ H { s with heap := h1, toks := tk } := I.kept (t' := tk) fun c o e => k1 c o (lt_ne e).1 (kp c o e)
    have hp := I1.fresh
    have fI : FpOk X pins H s.heap.objs.size := I.fpOk (Nat.le_refl _) (I.hok.fresh (Nat.le_refl _))
    have fS : FpOk X pins H (s.heap.push { cls := .type "list_iterator", data := .fields #[.ref a, .int 0 0] }).objs.size := by
      rw [sz1]
      exact I.fpOk (Nat.le_succ _) (I.hok.fresh (Nat.le_succ _))
    have new : ObjOk X.prog X.w (upd H h1.objs.size (.lst xs)) h' h1.objs.size (.lst xs) := ⟨zl, itl, 0, rl, k2 _ _ nI nS (Heap.get?_push_size _ rfl)⟩
    have I2 : Inv X pins σ (upd H h1.objs.size (.lst xs)) { s with heap := h', toks := tk } :=
      I1.turnedNew (t' := tk) (ch := [s.heap.objs.size, (s.heap.push { cls := .type "list_iterator", data := .fields #[.ref a, .int 0 0] }).objs.size])
        (fun c o hc' e => k2 c o (fun z => hc' (by simp [z])) (fun z => hc' (by simp [z])) (Heap.get?_push_of_some _ e))
        (fun c hc' => by
          rcases List.mem_cons.mp hc' with z | z
          · rw [z]; exact fI
          · rw [List.mem_singleton.mp z]; exact fS) (Nat.le_refl _) new
    exact ⟨.ref h1.objs.size, _, I2, rfl, q _ hp⟩
end
end HX

set_option Elab.async false
set_option linter.all false
set_option maxRecDepth 100000
set_option maxHeartbeats 4000000
namespace HX
open PySem PySem.Spec PyProof.Rows L2 Evl
open PySem.W (Frag)
/-! ### EmptyHeap(index): its class stands over LookupError, its __init__ calls super().__init__ and stores one field -/
abbrev sEh : Stmt := inClass (top 7) 0
abbrev lkTail : List Value := [.type "LookupError", .type "Exception", .type "BaseException", .type "object"]
abbrev ehFn (kV doc pm : Value) (an : Option Addr) (cdv ct : Value) (cc : Addr) : FuncData := PySem.W.ksFn "__init__" "EmptyHeap.__init__" (defArgs sEh) (defBody sEh) (defScope sEh) .none kV doc pm an cdv ct cc
/-- what the written part says of it -/
structure EhT (K : Frag) (mg : Str → Option Value) (C fI cc cda : Addr) : Prop where
  gC : mg "EmptyHeap" = some (.ref C)
  gS : mg "super" = none
  cls : ∃ nm q N bs sn sub ab col dd k0 k1 k2 k3 k5, K.lookup C = some (excClassObj nm q C N bs lkTail true sn sub ab col dd k0 k1 k2 k3 k5 "LookupError.__new__")
  sa : PySem.W.findIn K (.ref C) "__setattr__" = some (some (.builtin "object.__setattr__"))
  noN : PySem.W.findIn K (.ref C) "index" = some none
  iC : PySem.W.findIn K (.ref C) "__init__" = some (some (.ref fI))
  tC : PySem.W.typeIn K (.ref fI) = some (.type "function")
  kC : PySem.W.keepIn K (.ref C) = true
  exC : PySem.W.subIn K (.ref C) (.type "BaseException") = some true
  lkC : PySem.W.subIn K (.ref C) (.type "LookupError") = some true
  tyC : PySem.W.typeIn K (.ref C) = some (.type "type")
  te : PySem.W.exmOne K (.ref C) (.ref C) = some true
  fn : ∃ (oc : Value) (od : Option Addr) (kV doc pm : Value) (an : Option Addr) (ct : Value) (osl : Array (Option Value)), K.lookup fI = some ⟨oc, od, .func (ehFn kV doc pm an (.ref cda) ct cc), osl⟩ ∧ PySem.W.codeIn K (.ref cda) "EmptyHeap.__init__" = true
  code : ∃ ccl cdd vs ccs file tf, K.lookup cda = some ⟨ccl, cdd, .fields vs, ccs⟩ ∧ vs[2]? = some (.str file tf) ∧ ((PySem.Challenge.pw_heapeffects_k28_whole_separating_heaps.main.file : Str) == file) = true
  cell : ∃ cl cld csl, K.lookup cc = some ⟨cl, cld, .cell (some (.ref C)), csl⟩
  stat : PySem.W.nsIn K cStatics "thirdparty.any" = some none
section
open PySem.W
variable {prog : Program} {w : World} {A : Around} {E : Value → Shared → Prop} {R : Result → Shared → Prop} {hp : Heap} {g : Array GenState} {d : Drawn} {t : Nat} {os : OsState}
/-- self.name = v on an exception over LookupError that has no dict yet -/
theorem osa_lk {K : Frag} {name : Str} {tk : Tok} {v : Value} {x C : Addr} {fv : Array Value} {cd : ClassData} (X : K.In hp) (hx : hp.get? x = some { cls := .ref C, data := .fields fv }) (hcd : clsIn K C = some cd) (hm : cd.mro = .ref C :: lkTail) (hh : cd.hasDict = true)
    (ha : findIn K (.ref C) name = some none)
    (hq : ∀ h' tk' dx, (∀ b o, b ≠ x → hp.get? b = some o → h'.get? b = some o) → hp.objs.size ≤ dx → dx ≠ x → h'.get? x = some { cls := .ref C, dict := some dx, data := .fields fv } →
      h'.Ns1 dx (fun y => if y = name then some v else none) → R (.ok (.ret .none)) ⟨h', g, d, tk', os⟩) :
    codeAny (model prog w) A (.call (.builtin "object.__setattr__") ⟨[.ref x, .str name tk, v], []⟩) R ⟨hp, g, d, t, os⟩ := by
  have I : InstAt hp x { cls := .ref C, data := .fields fv } C none := ⟨hx, rfl, rfl, trivial⟩
  have nx : x ≠ hp.objs.size := Nat.ne_of_lt (Heap.lt_size hx)
  have ob : mroIn K C (.type "object") = some true := by
    unfold mroIn
    rw [hcd, Option.bind_some, hm]
    rfl
  have SF := F.store_object
  have sub : Looks (model prog w) hp (isInstance (.ref x) (.type "object")) true := I.type.andThen (looks_mroIn X ob)
  refine codeAny_call_builtin SF.slot.plain SF.entry (@check_slot (model prog w) _ _ ⟨hp, g, d, t, os⟩ "object.__setattr__" "object" "__setattr__" (.ref x) [.str name tk, v] [] _ SF.kind SF.split sub (SF.args (.ref x) (.str name tk) v) ?_)
  have lm : Looks (model prog w) hp (mroOf (.ref C)) cd.mro := (looks_clsIn X hcd).andThen .now
  have lc : Looks (model prog w) hp (classData C) cd := looks_clsIn X hcd
  have pass : refuseLoop (.ref x) "__setattr__" cd.mro = pure () := by
    rw [hm, refuseLoop_ref]
    exact F.store_LookupError.passes _
  rw [osa_eq, refuse_eq]
  refine wpAny_bind (wpAny_bind (I.type.at (wpAny_bind (lm.at ?_))))
  rw [pass]
  refine wpAny_pure (wpAny_bind (I.type.at (wpAny_bind ((looks_findIn X ha).at (wpAny_bind ((Looks.now : Looks (model prog w) hp (Builtin.ObjectAttr.storeTaker? none) none).at ?_))))))
  show wpAny _ _ (Builtin.ObjectAttr.storeInOwnDict (.ref x) (.ref C) (.str name tk) name v false) _ _ _
  obtain ⟨nm, bs, mro, ns, qn, hd, sn, sb, ab, col, del⟩ := cd
  dsimp only at hh
  subst hh
  unfold Builtin.ObjectAttr.storeInOwnDict Builtin.ObjectAttr.ownDictForStores
  repeat (first | with_reducible refine HandSPX.store_in_new ?_ ?_ | with_reducible refine wpAny_loadPart_at hx ?_ | with_reducible refine lc.at ?_ | wp_step)
  · exact ⟨_, #[], _, (Heap.get?_update_ne _ _ _ _ nx.symm).trans (Heap.get?_push_at rfl rfl), rfl, fun e he => absurd he (by simp), fun _ => rfl⟩
  · intro h' tk' hn' hs
    have hx1 : (hp.push { cls := .type "dict", data := .dict #[] }).get? x = some { cls := .ref C, data := .fields fv } := Heap.get?_push_of_some _ hx
    exact hq h' tk' hp.objs.size (fun b o hb ho => (hs.2 b (Nat.ne_of_lt (Heap.lt_size ho))).trans ((Heap.get?_update_ne _ _ _ _ hb).trans (Heap.get?_push_of_some _ ho))) (Nat.le_refl _) nx.symm
      ((hs.2 x nx).trans (Heap.get?_update_self _ hx1 rfl)) hn'
/-- LookupError.__init__ bound to the exception at e, called -/
theorem call_lk {nm q : Str} {C N : Addr} {bs : List Value} {sn : List Str} {sub : List Value} {ab : Bool} {col : Option Bool} {dd : Option Addr} {k0 k1 k2 k3 k5 : Option Value} {u e t0 : Addr} {rest : List Value} {Q : Value → Shared → Prop}
    (hC : hp.get? C = some (excClassObj nm q C N bs lkTail true sn sub ab col dd k0 k1 k2 k3 k5 "LookupError.__new__")) (he : hp.get? e = some (HandSPX.excO C t0)) (hu : hp.get? u = some (kxs_mw "LookupError.__init__" e)) (hz : rest.length ≤ sizeLine)
    (hq : ∀ h' t1, (∀ b o, b ≠ e → hp.get? b = some o → h'.get? b = some o) → h'.get? e = some (HandSPX.excO C t1) → Q .none ⟨h', g, d, t, os⟩) :
    wpAny (model prog w) A (call (.ref u) rest) Q E ⟨hp, g, d, t, os⟩ := by
  refine wpAny_call (codeAny_of_tree ?_)
  show wpAny _ A.in1 (callAny (.ref u) ⟨rest, []⟩) _ _ _
  simp only [callAny]
  refine wpAny_bind (wpAny_load hu ?_)
  simp only [kxs_mw, show (Value.type "method-wrapper" == Value.type "method" || Value.type "method-wrapper" == Value.type "builtin_function_or_method" || Value.type "method-wrapper" == Value.type "method-wrapper") = true by decide, if_true]
  refine KFB.if_so (by decide) ?_
  refine wpAny_bind (check_bound_init F.excBase_LookupError.toExcCallFacts hC he rfl ?_)
  refine wpAny_bind (wpAny_pure (wpAny_pure ?_))
  refine ⟨plainId_quiet F.excBase_LookupError.init.plain _, codeAny_builtin F.excBase_LookupError.initEntry ?_⟩
  exact exc_init_tree (cls := .ref C) (t0 := t0) (dv := none) (c2 := .none) (c3 := .none) (b4 := .bool false) he hz fun h' k hx _ => hq h' _ k hx
/-- what the making leaves of it -/
structure EhEnd (h h' : Heap) (x C dx : Addr) (v : Value) : Prop where
  keep : ∀ b o, b ≠ x → h.get? b = some o → h'.get? b = some o
  obj : ∃ t1, h'.get? x = some { cls := .ref C, dict := some dx, data := .fields #[.ref t1, .none, .none, .none, .bool false, .none] }
  big : h.objs.size ≤ dx
  ne : dx ≠ x
  ns : h'.Ns1 dx (fun y => if y = "index" then some v else none)
theorem eh_init {K : Frag} {mg mb : Str → Option Value} {C fI cc cda x t0 : Addr} {v : Value} {s : Shared} (T : EhT K mg C fI cc cda) (hpr : prog = PySem.Challenge.pw_heapeffects_k28_whole_separating_heaps) (X : K.In s.heap) (hlim : s.heap.NoLimit) (hG : s.heap.Ns mainGlobals mg) (hB : s.heap.Ns builtinsNs mb) (hb : mb "super" = some (.type "super"))
    (hx : s.heap.get? x = some (HandSPX.excO C t0)) (hnx : K.lookup x = none) (room : A.depth < recursionLimit) (hq : ∀ h' tk dx, EhEnd s.heap h' x C dx v → R (.ok (.ret .none)) { s with heap := h', toks := tk }) :
    codeAny (model prog w) A (.call (.ref fI) ⟨[.ref x, v], []⟩) R s := by
  subst hpr
  obtain ⟨oc, od, kV, doc, pm, an, ct, osl, ho, hcd⟩ := T.fn
  obtain ⟨nm, q, N, bs, sn, sub, ab, col, dd, k0, k1, k2, k3, k5, hC⟩ := T.cls
  obtain ⟨ccl, cdd, vs, ccs, file, tf, hcode, hvs, hfile⟩ := T.code
  obtain ⟨cl, cld, csl, hcell⟩ := T.cell
  have hcl : clsIn K C = some { name := nm, bases := bs, mro := .ref C :: lkTail, ns := N, qualname := q, hasDict := true, slotNames := sn, subclasses := sub, abstract := ab, collection := col, hasDel := false } := by unfold clsIn; rw [hC] <;> rfl
  have hself : mroIn K C (.ref C) = some true := by
    unfold mroIn
    rw [hcl, Option.bind_some]
    simp
  have nxC : x ≠ C := fun z => by
    rw [z, X _ _ hC] at hx
    cases hx
  refine ks_codeAny_call_defAt (fd := ehFn kV doc pm an (.ref cda) ct cc) (body := defBody sEh) (binds := [("self", .ref x), ("index", v)]) room (X _ _ ho) rfl hlim (codeRec_of X hcd) rfl (BindsTo.of_eq (by first | rfl | with_unfolding_all rfl)) (show ∀ y ∈ (defScope sEh).names, y.2 ≠ .cell by decide +kernel) (fun y hy => ?_) (fun h₁ hns k => ?_) rfl rfl rfl
  · have e : y.1 = "self" ∨ y.1 = "index" := by
      rcases List.mem_cons.mp hy with e | e
      · exact .inl (by rw [e])
      · exact .inr (by rw [List.mem_singleton.mp e])
    rcases e with e | e <;> (rw [e]; show List.lookup _ (defScope sEh).names = _; decide +kernel)
  have kx := k _ _ hx
  have X1 : K.In h₁ := X.keeps k
  have hD : h₁.get? C = some (excClassObj nm q C N bs lkTail true sn sub ab col dd k0 k1 k2 k3 k5 "LookupError.__new__") := X1 _ _ hC
  have lt1 : s.heap.objs.size < h₁.objs.size := by obtain ⟨o, es, ep, e, _⟩ := hns; exact Heap.lt_size e
  obtain ⟨hh, g, d, tk, os⟩ := s
  have e1 : (defScope sEh).names.lookup ("super" : Str) = some .globalImplicit := by decide +kernel
  have e2 : (defScope sEh).names.lookup ("__class__" : Str) = some .free := by decide +kernel
  have e3 : (defScope sEh).names.lookup ("self" : Str) = some .local := by decide +kernel
  have e4 : (defScope sEh).names.lookup ("index" : Str) = some .local := by decide +kernel
  have hI : InstAt hh x (HandSPX.excO C t0) C none := ⟨hx, rfl, rfl, trivial⟩
  refine ks_wpAt_execs_cons ?_
  refine ks_wpAt_Expr_any ?_
  refine ks_wpAt_MethodCall ?_
  refine ks_wpAt_super_base (f := fI) (cc := cda) e1 e2 (by decide) rfl (k _ _ (X _ _ ho)) rfl rfl rfl (X1 _ _ hcode) rfl hvs hfile (by decide +kernel) ?_
  refine ks_loadName_global rfl e1 (Calls.loadGlobal_builtin (hG.keeps k) T.gS (hB.keeps k) hb ⟨rfl, ?_⟩)
  refine wpAny_loadName_free rfl e2 rfl ⟨_, X1 _ _ hcell, rfl⟩ ?_
  refine wpAny_loadName_local rfl e3 hns rfl ?_
  refine ks_wpAny_isType_cls hD rfl ⟨rfl, ?_⟩
  refine ks_wpAny_call_super hD rfl kx rfl (fun c e => by cases e) (looks_mroIn X1 hself) (fun h2 o2 k2 => ?_)
  have X2 : K.In h2 := X1.keeps k2
  have J2 : InstAt h2 x (HandSPX.excO C t0) C none := ⟨k2 _ _ kx, rfl, rfl, trivial⟩
  refine kxs_getMethod kxs_LookupError (K := K) (l := lkTail) o2 (looks_opaque X2 T.stat) ((looks_clsIn X2 hcl).andThen .now) (by simp [List.dropWhile_cons]) X2 (by kernel_rfl) (J2.type.andThen (looks_subIn X2 T.lkC)) nxC (by decide) ?_
  have mw : (h2.push (kxs_mw "LookupError.__init__" x)).get? h2.objs.size = some (kxs_mw "LookupError.__init__" x) := Heap.get?_push_size _ rfl
  have k3 : ∀ b o, hh.get? b = some o → (h2.push (kxs_mw "LookupError.__init__" x)).get? b = some o := fun b o e => Heap.get?_push_of_some _ (k2 _ _ (k _ _ e))
  have nL : h2.objs.size ≠ hh.objs.size := by
    obtain ⟨o, es, ep, e, _⟩ := hns
    exact Nat.ne_of_gt (Heap.lt_size (k2 _ _ e))
  refine kxs_callWith1 (i := "LookupError.__init__") (x := x) (h₀ := ⟨#[], h2.life⟩) (L := hh.objs.size) (news := [(h2.objs.size, kxs_mw "LookupError.__init__" x)]) (fun p hp => by
    rw [List.mem_singleton.mp hp]
    exact ⟨mw, nL, Heap.get?_none_of_le (Nat.zero_le _)⟩) List.mem_cons_self ?_
  refine args_cons (Calls.Constant_str (args_nil ?_))
  refine ⟨mw, ?_⟩
  refine call_lk (k3 _ _ (X _ _ hC)) (k3 _ _ hx) mw (by show 1 ≤ sizeLine; decide) fun h4 t1 k4 hx4 => ?_
  show PySem.wpAt _ _ _ (execs _ _) _ _ _
  have keep : ∀ b o, b ≠ x → hh.get? b = some o → h4.get? b = some o := fun b o ne e => k4 b o ne (k3 b o e)
  have X4 : K.In h4 := fun b o e => keep b o (fun z => by rw [z, hnx] at e; cases e) (X b o e)
  have neL : hh.objs.size ≠ x := Nat.ne_of_gt (Heap.lt_size hx)
  have hns4 : h4.Ns hh.objs.size fun y => List.lookup y ([("self", Value.ref x), ("index", v)] : List (Str × Value)).reverse := by
    obtain ⟨o, es, ep, e, r⟩ := hns
    exact ⟨o, es, ep, k4 _ _ neL (Heap.get?_push_of_some _ (k2 _ _ e)), r⟩
  refine wpAt_of_wpAny (wpAny_execs_cons (plainObj_wpAny_Assign_Attribute ?_))
  refine wpAny_Name (wpAny_loadName_local rfl e4 hns4 rfl ?_) (by decide)
  refine wpAny_Name (wpAny_loadName_local rfl e3 hns4 rfl ?_) (by decide)
  refine set_plain X4 (ox := HandSPX.excO C t1) (od := none) ⟨hx4, rfl, rfl, trivial⟩ T.sa ?_
  refine osa_lk X4 hx4 hcl rfl rfl T.noN fun h5 tk5 dx k5 dn dne hx5 hn5 => ?_
  show wpAny _ _ (execs _ _) _ _ _
  refine wpAny_execs_nil (hq h5 tk5 dx ⟨fun b o ne e => k5 b o ne (keep b o ne e), ⟨t1, hx5⟩, ?_, dne, hn5⟩)
  have z : hh.objs.size < h4.objs.size := hns4.lt
  exact Nat.le_of_lt (Nat.lt_of_lt_of_le z dn)
end
end HX

set_option Elab.async false
set_option linter.all false
set_option maxRecDepth 100000
set_option maxHeartbeats 4000000
namespace HX
open PySem PySem.Spec PyProof.Rows L2 Evl
abbrev PW : Program := PySem.Challenge.pw_heapeffects_k28_whole_separating_heaps
/-- a made EmptyHeap: at e, its own dict at d -/
structure EhMade (h h' : Heap) (e C d : Addr) (v : Value) : Prop where
  keep : ∀ b o, h.get? b = some o → h'.get? b = some o
  new : h.objs.size ≤ e
  obj : ∃ t1, h'.get? e = some { cls := .ref C, dict := some d, data := .fields #[.ref t1, .none, .none, .none, .bool false, .none] }
  big : h.objs.size ≤ d
  ne : d ≠ e
  ns : h'.Ns1 d (fun y => if y = "index" then some v else none)
theorem eh_made {w : World} {A : Around} {R : Result → Shared → Prop} {s : Shared} {K : PySem.W.Frag} {mg mb : Str → Option Value} {C fI cc cda : Addr} {v : Value} (T : EhT K mg C fI cc cda) (X : K.In s.heap) (hlim : s.heap.NoLimit) (hG : s.heap.Ns mainGlobals mg) (hB : s.heap.Ns builtinsNs mb)
    (hb : mb "super" = some (.type "super")) (room : A.depth + 1 < recursionLimit) (hq : ∀ h' tk e d, EhMade s.heap h' e C d v → R (.ok (.ret (.ref e))) { s with heap := h', toks := tk }) :
    codeAny (model PW w) A (.call (.ref C) ⟨[v], []⟩) R s := by
  obtain ⟨nm, q, N, bs, sn, sub, ab, col, dd, k0, k1, k2, k3, k5, hC⟩ := T.cls
  obtain ⟨hp, g, dr, tk, os⟩ := s
  have k : ∀ b o, hp.get? b = some o → ((hp.push (PySem.W.kdv_tup [v])).push (HandSPX.excO C hp.objs.size)).get? b = some o := fun b o e => Heap.get?_push_of_some _ (Heap.get?_push_of_some _ e)
  have s1 : (hp.push (PySem.W.kdv_tup [v])).objs.size = hp.objs.size + 1 := Heap.size_push ..
  have hget : ((hp.push (PySem.W.kdv_tup [v])).push (HandSPX.excO C hp.objs.size)).get? (hp.objs.size + 1) = some (HandSPX.excO C hp.objs.size) := by
    rw [← s1]
    exact Heap.get?_push_size _ rfl
  have hnx : K.lookup (hp.objs.size + 1) = none := by
    cases e : K.lookup (hp.objs.size + 1) with
    | none => rfl
    | some o => exact absurd (Heap.lt_size (X _ _ e)) (Nat.not_lt.mpr (Nat.le_succ _))
  refine HandSPX.call_own F.excBase_LookupError (fun _ => rfl) (X _ _ hC) (PySem.W.looks_findIn X T.iC) (fun self => PySem.W.bind_fn X self T.tC) (by show 1 ≤ sizeLine; decide) ?_
  refine eh_init (s := ⟨(hp.push (PySem.W.kdv_tup [v])).push (HandSPX.excO C hp.objs.size), g, dr, tk, os⟩) T rfl (X.keeps k) (hlim.keeps k) (hG.keeps k) (hB.keeps k) hb hget hnx (by show A.depth + 1 < recursionLimit; exact room) fun h' tk' dx M => ?_
  have old : ∀ b o, hp.get? b = some o → h'.get? b = some o := fun b o e => M.keep b o (Nat.ne_of_lt (Nat.lt_succ_of_lt (Heap.lt_size e))) (k b o e)
  have big : hp.objs.size ≤ dx := by
    have q := M.big
    have s2 : ((hp.push (PySem.W.kdv_tup [v])).push (HandSPX.excO C hp.objs.size)).objs.size = hp.objs.size + 1 + 1 := by rw [Heap.size_push, s1]
    replace q : ((hp.push (PySem.W.kdv_tup [v])).push (HandSPX.excO C hp.objs.size)).objs.size ≤ dx := q
    rw [s2] at q
    exact Nat.le_trans (Nat.le_trans (Nat.le_succ _) (Nat.le_succ _)) q
  exact ⟨rfl, hq h' tk' (hp.objs.size + 1) dx ⟨old, Nat.le_succ _, M.obj, big, M.ne, M.ns⟩⟩
theorem relO_index {v : V} {v' : Value} (r : RelV v v') (f : Str) : RelO (List.lookup f [(("index" : Str), v)]) (if f = "index" then some v' else none) := by
  rw [lookup_put]
  by_cases h : f = "index"
  · rw [if_pos h, if_pos h]
    exact r
  · rw [if_neg h, if_neg h]
    exact True.intro
section
variable {X : Cx} {C fI cc cda : Addr}
def tMkEh (C : Addr) (ta : TA) : L2.St → Hp → XK → Prop := fun σ H Q => ta σ H fun vs H1 => ∃ v, vs = [v] ∧ ∀ d, H1 d = none → Q (.ref C) (some d) (upd H1 d (.xd [(("index" : Str), v)]))
theorem pmk_eh {a : Expr} {ta : TA} {p pos : Pos} {k : Nat} (hpr : X.prog = PW) (T : EhT X.K X.mg C fI cc cda) (hr : Room k X.A) (ha : PA X [a] ta) (hg : Gl X "EmptyHeap" := by rfl)
    (he : starEach (a :: []) X.env = (false, eval a X.env) :: starEach [] X.env := by rfl) (hpl : (backTo pos (starEach [] X.env)).any (·.1) = false := by rfl) :
    PMk X (.Call (.Name "EmptyHeap" p) [a] [] pos) (tMkEh C ta) := by
  intro pins s σ H Q I h
  refine wpAny_Call_Name_kw (ld_glob I hg T.gC ?_)
  refine PySem.W.callWith_K (h₀ := X.base) I.ok.mod.kin T.kC (thn (ha.run pos pins s σ H _ I h) fun us s1 hh => ?_) he hpl
  obtain ⟨vs, H1, I1, r1, v, ev, q1⟩ := hh
  subst ev
  refine ⟨I1.kIn, ?_⟩
  obtain ⟨v', eu, rv⟩ := vals1 r1
  subst eu
  show wpAny _ _ (call (.ref C) [v']) _ _ _
  obtain ⟨mb, b1, b2⟩ := I1.mod.blt
  have hb : mb "super" = some (.type "super") := (b2 _ (by decide)).trans PyProof.Rows.Boot.«super»
  have hG := I1.mod.glob.keeps I1.bk
  have hB := b1.keeps I1.bk
  have hlim := I1.nolimit
  rw [hpr]
  obtain ⟨hp, g, dr, tk, os⟩ := s1
  refine wpAny_call (eh_made T I1.kIn hlim hG hB hb (by have := hr.dp; omega) fun h' tk' e d M => ?_)
  obtain ⟨t1, hoe⟩ := M.obj
  obtain ⟨G', g1, g2⟩ := restrict h' fun b => decide (b ≠ e)
  have gk : ∀ b, b ≠ e → G'.get? b = h'.get? b := fun b hb => g1 b (decide_eq_true hb)
  have gone : G'.get? e = none := g2 e (by simp)
  have old : ∀ b o, hp.get? b = some o → G'.get? b = some o := fun b o q => (gk b (Nat.ne_of_lt (Nat.lt_of_lt_of_le (Heap.lt_size q) M.new))).trans (M.keep b o q)
  have ns := M.ns
  have ob : ObjOk X.prog X.w (upd H1 d (.xd [(("index" : Str), v)])) G' d (.xd [(("index" : Str), v)]) := ⟨_, ns.at (fun o q => (gk d M.ne).trans q), fun f => relO_index rv f⟩
  have J : Inv X pins σ (upd H1 d (.xd [(("index" : Str), v)])) ⟨G', g, dr, tk', os⟩ := I1.laid (t' := tk') old M.big ob
  refine ⟨e, _, _, ⟨G', g, dr, tk', os⟩, _, .ref C, some d, rfl, J, fun b o q => ?_, gone, hoe, ⟨rfl, rfl⟩, rfl, rfl, ?_, rfl, I1.bare, raises_own T.exC T.tyC, q1 d (I1.hok.fresh M.big)⟩
  · by_cases z : b = e
    · rw [z] at q
      rw [gone] at q
      cases q
    · exact (gk b z).symm.trans q
  · rw [upd_ne (Ne.symm M.ne)]
    exact I1.hok.fresh M.new
end
end HX

set_option Elab.async false
set_option linter.all false
set_option maxRecDepth 100000
set_option maxHeartbeats 4000000
namespace HX
open PySem PySem.Spec PyProof.Rows L2 Evl
/-! ### bags in the heap -/
def EntT (K : PySem.W.Frag) (H : Hp) : Addr → Int × Int → Prop := fun p e => SqT K H p [.int e.1, .int e.2]
def IsBag (K : PySem.W.Frag) (H : Hp) (a : Addr) (b : Bg) : Prop := ∃ ps : List Addr, PlT K H a (ps.map V.ref) ∧ Paired (EntT K H) ps b
theorem paired_up {α β : Type} {F G : α → β → Prop} (h : ∀ a b, F a b → G a b) : ∀ {xs : List α} {ys : List β}, Paired F xs ys → Paired G xs ys
  | _, _, .nil => .nil
  | _, _, .cons p t => .cons (h _ _ p) (paired_up h t)
theorem paired_get {α β : Type} {F : α → β → Prop} : ∀ {xs : List α} {ys : List β}, Paired F xs ys → ∀ {i : Nat} {x : α}, xs[i]? = some x → ∃ y, ys[i]? = some y ∧ F x y
  | _, _, .nil, i, x, h => by simp at h
  | _, _, .cons p t, 0, x, h => by
    have e := Option.some.inj h
    subst e
    exact ⟨_, rfl, p⟩
  | _, _, .cons p t, i + 1, x, h => paired_get t (i := i) h
theorem paired_len {α β : Type} {F : α → β → Prop} : ∀ {xs : List α} {ys : List β}, Paired F xs ys → xs.length = ys.length
  | _, _, .nil => rfl
  | _, _, .cons p t => congrArg (· + 1) (paired_len t)
theorem paired_app {α β : Type} {F : α → β → Prop} : ∀ {xs : List α} {ys : List β} {xs' : List α} {ys' : List β}, Paired F xs ys → Paired F xs' ys' → Paired F (xs ++ xs') (ys ++ ys')
  | _, _, _, _, .nil, q => q
  | _, _, _, _, .cons p t, q => .cons p (paired_app t q)
section
variable {K : PySem.W.Frag} {H H' : Hp} {a : Addr} {b : Bg}
theorem EntT.up {p : Addr} {e : Int × Int} (h : EntT K H p e) (x : Ex H H') : EntT K H' p e := ex_t x h
theorem IsBag.up (h : IsBag K H a b) (x : Ex H H') : IsBag K H' a b := by
  obtain ⟨ps, h1, h2⟩ := h
  exact ⟨ps, h1.up x, paired_up (fun _ _ q => EntT.up q x) h2⟩
theorem IsBag.sq (h : IsBag K H a b) : ∃ ps : List Addr, SqT K H a (ps.map V.ref) ∧ ps.length = b.length ∧ Paired (EntT K H) ps b := by
  obtain ⟨ps, h1, h2⟩ := h
  exact ⟨ps, h1.sq, paired_len h2, h2⟩
theorem ex_self (H : Hp) : Ex H H := fun _ _ h => h
end
/-- the new frozen tuple -/
theorem plt_new {K : PySem.W.Frag} {H : Hp} {p : Addr} {o : Obj} {xs : List V} (h : PlO o) : PlT K (upd H p (.frz o (.tup xs))) p xs := .inl ⟨o, upd_same, h⟩
theorem IsBag.new {K : PySem.W.Frag} {H : Hp} {p : Addr} {o : Obj} {ps : List Addr} {b : Bg} (h : PlO o) (hp : H p = none) (hb : Paired (EntT K H) ps b) : IsBag K (upd H p (.frz o (.tup (ps.map V.ref)))) p b :=
  ⟨ps, plt_new h, paired_up (fun _ _ q => EntT.up q (Ex.new hp)) hb⟩
/-- what a def that makes a bag promises -/
def RetB (K : PySem.W.Frag) (H : Hp) (Q : VK) (φ : Bg → Prop) : Prop := ∀ a b H', Ex H H' → IsBag K H' a b → φ b → Q (.ref a) H'
def RetV (H : Hp) (Q : VK) (v : V) : Prop := ∀ H', Ex H H' → Q v H'
theorem RetB.up {K : PySem.W.Frag} {H H1 : Hp} {Q : VK} {φ : Bg → Prop} (h : RetB K H Q φ) (e : Ex H H1) : RetB K H1 Q φ := fun a b H' e' => h a b H' (e.trans e')
/-! ### loops over bags -/
theorem for_bag {K : PySem.W.Frag} {a : Addr} {b : Bg} {ps : List Addr} {g : TG} {tb : TS} {D : Ends} {σ : L2.St} {H H0 : Hp} (hb : SqT K H0 a (ps.map V.ref)) (hp : Paired (EntT K H0) ps b) (Inv : Bg → Bg → L2.St → Hp → Prop) (h0 : Inv [] b σ H) (hx : ∀ d t σ' H', Inv d t σ' H' → Ex H0 H')
    (hs : ∀ d e t p σ' H', b = d ++ e :: t → EntT K H' p e → Inv d (e :: t) σ' H' → g (.ref p) σ' H' fun σ2 H2 => tb { D with nx := Inv (d ++ [e]) t, ct := Inv (d ++ [e]) t, bk := D.nx } σ2 H2) (hd : ∀ σ' H', Inv b [] σ' H' → D.nx σ' H') :
    ∃ W : Nat → Nat → L2.St → Hp → Prop, (∃ m, W 0 m σ H) ∧ ∀ i m σ H, W i m σ H →
      ((Itt K a).stop i H ∧ D.nx σ H) ∨ ((Itt K a).go i H ∧ ∃ N : L2.St → Hp → Prop, (∀ σ' H', N σ' H' → ∃ m', m' < m ∧ W (i + 1) m' σ' H') ∧ ∀ x H', (Itt K a).yld i H x H' → g x σ H' fun σ2 H2 => tb { D with nx := N, ct := N, bk := D.nx } σ2 H2) := by
  have hl : (ps.map V.ref).length = b.length := by rw [List.length_map]; exact paired_len hp
  refine for_tup (K := K) (a := a) (xs := ps.map V.ref) (fun i σ H => Inv (b.take i) (b.drop i) σ H) ?_ ?_ ?_ ?_
  · exact h0
  · exact fun i σ' H' _ q => ex_t (hx _ _ _ _ q) hb
  · intro i x σ' H' hi q
    rw [List.getElem?_map] at hi
    cases hpi : ps[i]? with
    | none => rw [hpi] at hi; cases hi
    | some p =>
      rw [hpi] at hi
      have e := Option.some.inj hi
      subst e
      obtain ⟨y, hy, hF⟩ := paired_get hp hpi
      have hlt : i < b.length := (List.getElem?_eq_some_iff.mp hy).1
      have hd1 : b.drop i = y :: b.drop (i + 1) := by
        rw [List.drop_eq_getElem_cons hlt]
        exact congrArg (· :: _) (List.getElem?_eq_some_iff.mp hy).2
      have ht1 : b.take (i + 1) = b.take i ++ [y] := by rw [List.take_add_one, hy]; rfl
      have r := hs (b.take i) y (b.drop (i + 1)) p σ' H' (by rw [← hd1, List.take_append_drop]) (hF.up (hx _ _ _ _ q)) (by rw [← hd1]; exact q)
      show g (.ref p) σ' H' fun σ2 H2 => tb { D with nx := Inv (b.take (i + 1)) (b.drop (i + 1)), ct := Inv (b.take (i + 1)) (b.drop (i + 1)), bk := D.nx } σ2 H2
      rw [ht1]
      exact r
  · intro σ' H' q
    rw [hl] at q
    rw [List.take_length, List.drop_length] at q
    exact hd σ' H' q
theorem lc_bag {K : PySem.W.Frag} {a : Addr} {b : Bg} {ps : List Addr} {g : TG} {tt : TT} {te : TE} {vs : List Nat} {σ : L2.St} {H1 H0 : Hp} {D : Addr} {Qd : Hp → Prop} (hb : SqT K H0 a (ps.map V.ref)) (hp : Paired (EntT K H0) ps b) (Inv : Bg → Bg → Hp → Prop) (h0 : Inv [] b (upd H1 D (.lst []))) (hx : ∀ d t H', Inv d t H' → Ex H0 H')
    (hs : ∀ d e t p H, b = d ++ e :: t → EntT K H p e → Inv d (e :: t) H → g (.ref p) (wipe σ vs) H fun σ2 H2 => wipe σ2 vs = wipe σ vs ∧ tt σ2 H2 fun r H3 =>
      if r = true then te σ2 H3 fun y H4 => ∃ acc, H4 D = some (.lst acc) ∧ acc.length < sizeLine ∧ Inv (d ++ [e]) t (upd H4 D (.lst (acc ++ [y]))) else Inv (d ++ [e]) t H3) (hd : ∀ H, Inv b [] H → Qd H) :
    ∃ W : Nat → Nat → Hp → Prop, (∃ m, W 0 m (upd H1 D (.lst []))) ∧ ∀ i m H, W i m H →
      ((Itt K a).stop i H ∧ Qd H) ∨ ((Itt K a).go i H ∧ ∃ Nx : Hp → Prop, (∀ H', Nx H' → ∃ m', m' < m ∧ W (i + 1) m' H') ∧ ∀ x H', (Itt K a).yld i H x H' → g x (wipe σ vs) H' fun σ2 H2 => wipe σ2 vs = wipe σ vs ∧ tt σ2 H2 fun b H3 =>
        if b = true then te σ2 H3 fun y H4 => ∃ acc, H4 D = some (.lst acc) ∧ acc.length < sizeLine ∧ Nx (upd H4 D (.lst (acc ++ [y]))) else Nx H3) := by
  have hl : (ps.map V.ref).length = b.length := by rw [List.length_map]; exact paired_len hp
  refine lc_tup (K := K) (a := a) (xs := ps.map V.ref) (fun i H => Inv (b.take i) (b.drop i) H) ?_ ?_ ?_ ?_
  · exact h0
  · exact fun i H' _ q => ex_t (hx _ _ _ q) hb
  · intro i x H' hi q
    rw [List.getElem?_map] at hi
    cases hpi : ps[i]? with
    | none => rw [hpi] at hi; cases hi
    | some p =>
      rw [hpi] at hi
      have e := Option.some.inj hi
      subst e
      obtain ⟨y, hy, hF⟩ := paired_get hp hpi
      have hlt : i < b.length := (List.getElem?_eq_some_iff.mp hy).1
      have hd1 : b.drop i = y :: b.drop (i + 1) := by
        rw [List.drop_eq_getElem_cons hlt]
        exact congrArg (· :: _) (List.getElem?_eq_some_iff.mp hy).2
      have ht1 : b.take (i + 1) = b.take i ++ [y] := by rw [List.take_add_one, hy]; rfl
      have r := hs (b.take i) y (b.drop (i + 1)) p H' (by rw [← hd1, List.take_append_drop]) (hF.up (hx _ _ _ q)) (by rw [← hd1]; exact q)
      show g (.ref p) (wipe σ vs) H' fun σ2 H2 => wipe σ2 vs = wipe σ vs ∧ tt σ2 H2 fun r H3 =>
        if r = true then te σ2 H3 fun y H4 => ∃ acc, H4 D = some (.lst acc) ∧ acc.length < sizeLine ∧ Inv (b.take (i + 1)) (b.drop (i + 1)) (upd H4 D (.lst (acc ++ [y]))) else Inv (b.take (i + 1)) (b.drop (i + 1)) H3
      rw [ht1]
      exact r
  · intro H' q
    rw [hl] at q
    rw [List.take_length, List.drop_length] at q
    exact hd H' q
/-! ### defs -/
structure Df (K : PySem.W.Frag) (mg : Str → Option Value) (x : Str) (st : Stmt) (ps : List Str) : Prop where
  ex : ∃ (f : Addr) (fd : FuncData), Fun K x x st f fd ∧ mg x = some (.ref f) ∧ PySem.W.keepIn K (.ref f) = true ∧ Binds K fd ps []
theorem Df.is {P : Program} {w : World} {K : PySem.W.Frag} {mg : Str → Option Value} {base : Heap} {CX : CXT} {k : Nat} {x : Str} {st : Stmt} {ps : List Str} {sp : Sp} (D : Df K mg x st ps) (h : ∀ f fd, Fun K x x st f fd → FnOk P w K mg base CX k f fd ps sp) : Is P w K mg base CX k x ps sp := by
  obtain ⟨f, fd, F, h1, h2, h3⟩ := D.ex
  exact ⟨f, fd, h f fd F, h1, h2, h3⟩
/-- the names of built-ins that the text leaves alone -/
structure Nms (mg : Str → Option Value) : Prop where
  isinstance : mg "isinstance" = none
  int : mg "int" = none
  bool : mg "bool" = none
  tuple : mg "tuple" = none
  len : mg "len" = none
  sorted : mg "sorted" = none
  dict : mg "dict" = none
  sum : mg "sum" = none
  min : mg "min" = none
  max : mg "max" = none
  any : mg "any" = none
  abs : mg "abs" = none
  list : mg "list" = none
  enumerate : mg "enumerate" = none
  range : mg "range" = none
/-- the dict of a bag -/
def kvb (b : Bg) : List (Key × V) := b.map fun e => (Sum.inl e.1, V.int e.2)
theorem kvb_len (b : Bg) : (kvb b).length = b.length := List.length_map ..
theorem valV_kvb (n : Int) : ∀ b : Bg, valV (kvb b) (Sum.inl n) = (lookI b n).map V.int
  | [] => rfl
  | p :: b => by
    by_cases h : p.1 = n
    · rw [show kvb (p :: b) = (Sum.inl p.1, V.int p.2) :: kvb b from rfl, valV_pos (by rw [h])]
      unfold lookI
      rw [if_pos h]
      rfl
    · rw [show kvb (p :: b) = (Sum.inl p.1, V.int p.2) :: kvb b from rfl, valV_neg (fun q => h (Sum.inl.inj q)), valV_kvb n b]
      conv => rhs; unfold lookI
      rw [if_neg h]
theorem putK_cons_ne {p : Key × V} {r : List (Key × V)} {k : Key} {v : V} (h : ¬ p.1 = k) : putK (p :: r) k v = p :: putK r k v := by
  unfold putK
  rw [List.any_cons, decide_eq_false h, Bool.false_or]
  by_cases q : (r.any fun kv => decide (kv.1 = k)) = true
  · rw [if_pos q, if_pos q, List.map_cons, if_neg h]
  · rw [if_neg q, if_neg q]
    rfl
theorem putK_cons_eq {p : Key × V} {r : List (Key × V)} {k : Key} {v : V} (h : p.1 = k) (hr : ∀ q ∈ r, ¬ q.1 = k) : putK (p :: r) k v = (k, v) :: r := by
  unfold putK
  rw [List.any_cons, decide_eq_true h, Bool.true_or, if_pos rfl, List.map_cons, if_pos h, h]
  congr 1
  have : ∀ l : List (Key × V), (∀ q ∈ l, ¬ q.1 = k) → l.map (fun kv => if kv.1 = k then (kv.1, v) else kv) = l := by
    intro l hl
    induction l with
    | nil => rfl
    | cons z l ih => rw [List.map_cons, if_neg (hl z List.mem_cons_self), ih fun q hq => hl q (List.mem_cons_of_mem _ hq)]
  have t := this r hr
  rw [h] at *
  exact t
theorem putK_kvb (n v : Int) : ∀ b : Bg, (b.map (·.1)).Nodup → putK (kvb b) (Sum.inl n) (V.int v) = kvb (putI b n v)
  | [], _ => rfl
  | p :: b, hn => by
    rw [List.map_cons, List.nodup_cons] at hn
    show putK ((Sum.inl p.1, V.int p.2) :: kvb b) (Sum.inl n) (V.int v) = kvb (putI (p :: b) n v)
    conv => rhs; unfold putI
    by_cases h : p.1 = n
    · rw [if_pos h, putK_cons_eq (by rw [h])]
      · rfl
      · intro q hq e
        obtain ⟨z, hz, hz2⟩ := List.mem_map.mp hq
        rw [← hz2] at e
        exact hn.1 (h ▸ (Sum.inl.inj e) ▸ List.mem_map.mpr ⟨z, hz, rfl⟩)
    · rw [if_neg h, putK_cons_ne (fun q => h (Sum.inl.inj q)), putK_kvb n v b hn.2]
      rfl
/-- nothing is lost of pairs with keys of their own -/
theorem merge_kvb : ∀ (m b : Bg), ((b ++ m).map (·.1)).Nodup → mergeK (kvb b) (kvb m) = kvb (b ++ m)
  | [], b, _ => by rw [List.append_nil]; rfl
  | p :: m, b, hn => by
    have e : putK (kvb b) (Sum.inl p.1) (V.int p.2) = kvb (b ++ [p]) := by
      unfold putK
      rw [if_neg]
      · unfold kvb
        rw [List.map_append]
        rfl
      · intro h
        obtain ⟨q, hq, e⟩ := List.any_eq_true.mp h
        obtain ⟨z, hz, hz2⟩ := List.mem_map.mp hq
        rw [← hz2] at e
        have e2 : z.1 = p.1 := Sum.inl.inj (of_decide_eq_true e)
        rw [List.map_append, List.map_cons] at hn
        have := (List.nodup_append.mp hn).2.2 z.1 (List.mem_map.mpr ⟨z, hz, rfl⟩) p.1 List.mem_cons_self
        exact this e2
    show mergeK (putK (kvb b) (Sum.inl p.1) (V.int p.2)) (kvb m) = _
    rw [e, merge_kvb m (b ++ [p]) (by simpa using hn)]
    simp
theorem merge_nil {m : Bg} (h : (m.map (·.1)).Nodup) : mergeK [] (kvb m) = kvb m := merge_kvb m [] (by simpa using h)
end HX

set_option Elab.async false
set_option linter.all false
set_option maxRecDepth 100000
set_option maxHeartbeats 4000000
namespace HX
open PySem PySem.Spec PyProof.Rows L2 Evl
theorem bt_isinstance : bootBuiltins "isinstance" = some (.builtin "isinstance") := by decide +kernel
theorem bt_int : bootBuiltins "int" = some (.type "int") := by decide +kernel
theorem bt_bool : bootBuiltins "bool" = some (.type "bool") := by decide +kernel
theorem bt_tuple : bootBuiltins "tuple" = some (.type "tuple") := by decide +kernel
theorem bt_len : bootBuiltins "len" = some (.builtin "len") := by decide +kernel
theorem bt_sorted : bootBuiltins "sorted" = some (.builtin "sorted") := by decide +kernel
theorem bt_dict : bootBuiltins "dict" = some (.type "dict") := by decide +kernel
theorem bt_sum : bootBuiltins "sum" = some (.builtin "sum") := by decide +kernel
theorem bt_min : bootBuiltins "min" = some (.builtin "min") := by decide +kernel
theorem bt_max : bootBuiltins "max" = some (.builtin "max") := by decide +kernel
theorem bt_any : bootBuiltins "any" = some (.builtin "any") := by decide +kernel
theorem bt_abs : bootBuiltins "abs" = some (.builtin "abs") := by decide +kernel
theorem bt_list : bootBuiltins "list" = some (.type "list") := by decide +kernel
theorem bt_enumerate : bootBuiltins "enumerate" = some (.type "enumerate") := by decide +kernel
theorem bt_range : bootBuiltins "range" = some (.type "range") := by decide +kernel
theorem ty_tup {K : PySem.W.Frag} {H : Hp} {a : Addr} {xs : List V} (h : SqT K H a xs) : TyX K H (.ref a) (.type "tuple") := by
  rcases h with (h | ⟨o, h⟩) | ⟨o, its, n, h, c, _⟩
  · exact .base (.tup h)
  · exact .fTuple h
  · exact .kTuple h c
theorem kit_ii {K : PySem.W.Frag} : PySem.W.kitOne K (.type "int") (.type "int") = some true := kit_ty (by decide +kernel)
theorem kit_ib {K : PySem.W.Frag} : PySem.W.kitOne K (.type "int") (.type "bool") = some false := kit_ty (by decide +kernel)
theorem kit_tt {K : PySem.W.Frag} : PySem.W.kitOne K (.type "tuple") (.type "tuple") = some true := kit_ty (by decide +kernel)
section
variable {P : Program} {w : World} {K : PySem.W.Frag} {mg : Str → Option Value} {base : Heap}
/-! ### is_integer, is_count -/
def spInt : Sp := fun vs H Q _ => ∃ i : Int, vs = [.int i] ∧ Q (.bl true) H
theorem sc9 : FnScope ["value"] ["value"] (defScope (top 9)) := ⟨rfl, rfl, rfl, by decide +kernel, rfl, by decide +kernel, by decide +kernel⟩
theorem ok_isint (D : Df K mg "is_integer" (top 9) ["value"]) (T : Nms mg) : Is P w K mg base CX0 1 "is_integer" ["value"] spInt := D.is fun f fd F => by
  refine F.ok sc9 (fun vs H Q E h => ?_) (fun cdv A outer s H vs Q E hr h => ?_)
  · obtain ⟨i, rfl, _⟩ := h
    rfl
  · obtain ⟨i, rfl, q⟩ := h
    refine ⟨_, pss_one (ps_ret (pe_and (pe_callB call_isi (by rfl) T.isinstance bt_isinstance (pa_cons (pv 0) (pa_cons (pe_bltn (v := .ty "int") (by rfl) T.int bt_int rfl) pa_nil)))
      (pe_one (pe_not (pe_callB call_isi (by rfl) T.isinstance bt_isinstance (pa_cons (pv 0) (pa_cons (pe_bltn (v := .ty "bool") (by rfl) T.bool bt_bool rfl) pa_nil))))))), ?_⟩
    refine ⟨_, rfl, .int i, _, _, _, _, rfl, .ty _, .base (.int i), kit_ii, _, rfl, iteT ?_⟩
    exact ⟨_, rfl, .int i, _, _, _, _, rfl, .ty _, .base (.int i), kit_ib, _, rfl, q⟩
def spCnt : Sp := fun vs H Q _ => ∃ i : Int, vs = [.int i] ∧ Q (.bl (decide (i ≥ 0))) H
theorem sc10 : FnScope ["value"] ["value"] (defScope (top 10)) := ⟨rfl, rfl, rfl, by decide +kernel, rfl, by decide +kernel, by decide +kernel⟩
theorem ok_iscount (D : Df K mg "is_count" (top 10) ["value"]) (T : Nms mg) (G1 : Is P w K mg base CX0 1 "is_integer" ["value"] spInt) : Is P w K mg base CX0 2 "is_count" ["value"] spCnt := D.is fun f fd F => by
  refine F.ok sc10 (fun vs H Q E h => ?_) (fun cdv A outer s H vs Q E hr h => ?_)
  · obtain ⟨i, rfl, _⟩ := h
    rfl
  · obtain ⟨i, rfl, q⟩ := h
    refine ⟨_, pss_one (ps_ret (pe_and (pe_cal G1 hr rfl pass0 (pa_cons (pv 0) pa_nil)) (pe_one (pe_cmpR op_ge (pv 0) pe_int (nomark _))))), ?_⟩
    exact ⟨_, rfl, i, rfl, _, rfl, iteT ⟨_, rfl, _, _, rfl, rfl, q⟩⟩
/-! ### check_count -/
def spCkc : Sp := fun vs H Q _ => ∃ i : Int, vs = [.int i] ∧ 0 ≤ i ∧ Q .non H
theorem sc12 : FnScope ["value"] ["value"] (defScope (top 12)) := ⟨rfl, rfl, rfl, by decide +kernel, rfl, by decide +kernel, by decide +kernel⟩
theorem ok_ckcount (D : Df K mg "check_count" (top 12) ["value"]) (T : Nms mg) (G2 : Is P w K mg base CX0 2 "is_count" ["value"] spCnt) : Is P w K mg base CX0 3 "check_count" ["value"] spCkc := D.is fun f fd F => by
  refine F.ok sc12 (fun vs H Q E h => ?_) (fun cdv A outer s H vs Q E hr h => ?_)
  · obtain ⟨i, rfl, _⟩ := h
    rfl
  · obtain ⟨i, rfl, hi, q⟩ := h
    refine ⟨_, pss_one (ps_if (pt_not (pt_val (pe_cal G2 hr rfl pass0 (pa_cons (pv 0) pa_nil)))) (pss_one ps_never) pss_nil), ?_⟩
    refine ⟨_, rfl, i, rfl, _, rfl, ?_⟩
    rw [decide_eq_true (show i ≥ 0 from hi)]
    exact iteF q
/-! ### is_bag -/
def spBag (K : PySem.W.Frag) : Sp := fun vs H Q _ => ∃ a b, vs = [.ref a] ∧ IsBag K H a b ∧ WF b ∧ b.length ≤ 1000 ∧ ∀ H', Ex H H' → Q (.bl true) H'
theorem sc11 : FnScope ["value", "numbers", "entry", "number", "count"] ["value"] (defScope (top 11)) := ⟨rfl, rfl, rfl, by decide +kernel, rfl, by decide +kernel, by decide +kernel⟩
end
end HX

set_option Elab.async false
set_option linter.all false
set_option maxRecDepth 100000
set_option maxHeartbeats 4000000
namespace HX
open PySem PySem.Spec PyProof.Rows L2 Evl
/-! ### data: lists of ints, bags, parts; their == -/
def dE (e : Int × Int) : PyData := .tuple [.int e.1, .int e.2]
def dB (b : Bg) : PyData := .tuple (b.map dE)
def dP (i : Bg) (r : Int) (s : Bg) : PyData := .tuple [dB i, .int r, dB s]
def dI (ns : List Int) : PyData := .list (ns.map .int)
/-- laid and at most n deep -/
def okD (n : Nat) (d : PyData) : Prop := d.canLay0 = true ∧ d.depth ≤ n
theorem okD.shaped {n : Nat} {d : PyData} (h : okD n d) (hn : n ≤ 64) : SeqAt.shaped d = true := Bool.and_eq_true_iff.mpr ⟨h.1, decide_eq_true (Nat.le_trans h.2 hn)⟩
theorem okAll {n : Nat} : ∀ {ds : List PyData}, (∀ d ∈ ds, okD n d) → PyData.canLayAll0 ds = true ∧ PyData.depthAll ds ≤ n
  | [], _ => ⟨by simp [PyData.canLayAll0], by simp [PyData.depthAll]⟩
  | d :: ds, h => by
    obtain ⟨h1, h2⟩ := okAll (ds := ds) fun e he => h e (List.mem_cons_of_mem _ he)
    obtain ⟨g1, g2⟩ := h d List.mem_cons_self
    exact ⟨by simp only [PyData.canLayAll0]; rw [g1, h1]; rfl, by simp only [PyData.depthAll]; omega⟩
theorem okD.tuple {n : Nat} {ds : List PyData} (h : ∀ d ∈ ds, okD n d) : okD (n + 1) (.tuple ds) := ⟨by simp only [PyData.canLay0]; exact (okAll h).1, by simp only [PyData.depth]; have := (okAll h).2; omega⟩
theorem okD.list {n : Nat} {ds : List PyData} (h : ∀ d ∈ ds, okD n d) : okD (n + 1) (.list ds) := ⟨by simp only [PyData.canLay0]; exact (okAll h).1, by simp only [PyData.depth]; have := (okAll h).2; omega⟩
theorem okD.int (i : Int) : okD 0 (.int i) := ⟨by simp [PyData.canLay0], by simp [PyData.depth]⟩
theorem okD.non : okD 0 .none := ⟨by simp [PyData.canLay0], by simp [PyData.depth]⟩
theorem okD.le {n m : Nat} {d : PyData} (h : okD n d) (hm : n ≤ m) : okD m d := ⟨h.1, Nat.le_trans h.2 hm⟩
theorem ok_dE (e : Int × Int) : okD 1 (dE e) := okD.tuple fun d hd => by
  rcases List.mem_cons.mp hd with z | z
  · rw [z]; exact okD.int _
  · rw [List.mem_singleton.mp z]; exact okD.int _
theorem ok_dB (b : Bg) : okD 2 (dB b) := okD.tuple fun d hd => by
  obtain ⟨e, _, q⟩ := List.mem_map.mp hd
  rw [← q]
  exact ok_dE e
theorem ok_dP (i : Bg) (r : Int) (s : Bg) : okD 3 (dP i r s) := okD.tuple fun d hd => by
  rcases List.mem_cons.mp hd with z | z
  · rw [z]; exact ok_dB i
  · rcases List.mem_cons.mp z with z | z
    · rw [z]; exact (okD.int _).le (by decide)
    · rw [List.mem_singleton.mp z]; exact ok_dB s
theorem ok_dI (ns : List Int) : okD 1 (dI ns) := okD.list fun d hd => by
  obtain ⟨e, _, q⟩ := List.mem_map.mp hd
  rw [← q]
  exact okD.int e
theorem eqv_int (i j : Int) : PyData.eqv (.int i) (.int j) = decide (i = j) := by
  simp only [PyData.eqv]
  by_cases h : i = j <;> simp [h]
theorem eqv_dE (e f : Int × Int) : PyData.eqv (dE e) (dE f) = decide (e = f) := by
  obtain ⟨a, b⟩ := e
  obtain ⟨c, d⟩ := f
  simp only [dE, PyData.eqv, PyData.eqvAll]
  by_cases h : a = c <;> by_cases h2 : b = d <;> simp [h, h2]
theorem eqvAll_map {α : Type} [DecidableEq α] {f : α → PyData} (hf : ∀ x y, PyData.eqv (f x) (f y) = decide (x = y)) : ∀ xs ys : List α, PyData.eqvAll (xs.map f) (ys.map f) = decide (xs = ys)
  | [], [] => by simp [PyData.eqvAll]
  | [], _ :: _ => by simp [PyData.eqvAll]
  | _ :: _, [] => by simp [PyData.eqvAll]
  | x :: xs, y :: ys => by
    simp only [List.map_cons, PyData.eqvAll]
    rw [hf, eqvAll_map hf xs ys]
    by_cases h : x = y <;> simp [h]
theorem eqv_dB (a b : Bg) : PyData.eqv (dB a) (dB b) = decide (a = b) := by
  simp only [dB, PyData.eqv]
  exact eqvAll_map eqv_dE a b
theorem eqv_dI (a b : List Int) : PyData.eqv (dI a) (dI b) = decide (a = b) := by
  simp only [dI, PyData.eqv]
  exact eqvAll_map eqv_int a b
theorem eqv_dP (i j : Bg) (r q : Int) (s t : Bg) : PyData.eqv (dP i r s) (dP j q t) = decide (i = j ∧ r = q ∧ s = t) := by
  simp only [dP, PyData.eqv, PyData.eqvAll]
  rw [eqv_dB, eqv_dB]
  by_cases h : i = j <;> by_cases h2 : r = q <;> by_cases h3 : s = t <;> simp [h, h2, h3]
section
variable {K : PySem.W.Frag} {H : Hp}
theorem dp_ent {p : Addr} {e : Int × Int} (h : EntT K H p e) : Dp K H (.ref p) (dE e) := .tup h (.cons (.int _) (.cons (.int _) .nil))
theorem dpAll_ents : ∀ {ps : List Addr} {b : Bg}, Paired (EntT K H) ps b → DpAll K H (ps.map V.ref) (b.map dE)
  | _, _, .nil => .nil
  | _, _, .cons h t => .cons (dp_ent h) (dpAll_ents t)
theorem dp_bag {a : Addr} {b : Bg} (h : IsBag K H a b) : Dp K H (.ref a) (dB b) := by
  obtain ⟨ps, h1, h2⟩ := h
  exact .tup h1.sq (dpAll_ents h2)
theorem dpAll_ints : ∀ ns : List Int, DpAll K H (ns.map V.int) (ns.map PyData.int)
  | [] => .nil
  | n :: ns => .cons (.int n) (dpAll_ints ns)
theorem dp_il {a : Addr} {ns : List Int} (h : SqL K H a (ns.map V.int)) : Dp K H (.ref a) (dI ns) := .lst h (dpAll_ints ns)
end
theorem snocD {α : Type} (d : List α) : d = [] ∨ ∃ d0 e0, d = d0 ++ [e0] := by
  rcases List.eq_nil_or_concat d with h | ⟨d0, e0, h⟩
  · exact .inl h
  · exact .inr ⟨d0, e0, by rw [h, List.concat_eq_append]⟩
theorem iteB {c : Bool} {A B : Prop} (e : c = true) (h : A) : if c = true then A else B := by rw [if_pos e]; exact h
theorem iteC {c : Bool} {A B : Prop} (e : c = false) (h : B) : if c = true then A else B := by rw [e]; exact iteF h
/-! ### is_bag, check_bag -/
section
variable {P : Program} {w : World} {K : PySem.W.Frag} {mg : Str → Option Value} {base : Heap}
theorem pair_decomp {b d t : Bg} {e : Int × Int} (h : WF b) (hb : b = d ++ e :: t) : 1 ≤ e.2 ∧ ∀ q ∈ d, q.1 < e.1 := by
  subst hb
  refine ⟨h.pos e (by simp), fun q hq => ?_⟩
  exact (List.pairwise_append.mp h.asc).2.2 q hq e List.mem_cons_self
theorem ok_isbag (D : Df K mg "is_bag" (top 11) ["value"]) (T : Nms mg) (G_is_integer : Is P w K mg base CX0 1 "is_integer" ["value"] spInt) : Is P w K mg base CX0 2 "is_bag" ["value"] (spBag K) := D.is fun f fd F => by
  refine F.ok sc11 (fun vs H Q E h => ?_) (fun cdv A outer s H vs Q E hr h => ?_)
  · obtain ⟨a, b, rfl, _⟩ := h
    rfl
  · obtain ⟨a, b, rfl, hB, hW, hl, k⟩ := h
    have nd := sc11.nd
    refine ⟨_, (pss_cons (ps_if (pt_not (pt_val (pe_callB call_isi (by rfl) T.isinstance bt_isinstance (pa_cons (pv 0) (pa_cons (pe_bltn (v := .ty "tuple") (by rfl) T.tuple bt_tuple rfl) pa_nil))))) (pss_one (ps_ret pe_bl)) pss_nil)
      (pss_cons (ps_set (i := 1) nd rfl (Or.inl rfl) (pe_lst pa_nil))
      (pss_cons (ps_for PassesOwn.never rfl (pi_tup (pv 0)) (pg_name (i := 2) nd rfl (Or.inl rfl)) (pss_cons (ps_if (PW.pt (pw_or (pt_not (pt_val (pe_callB call_isi (by rfl) T.isinstance bt_isinstance (pa_cons (pv 2) (pa_cons (pe_bltn (v := .ty "tuple") (by rfl) T.tuple bt_tuple rfl) pa_nil))))) (pw_or1 (pt_cmpR op_ne (pe_callB call_len_seq (by rfl) T.len bt_len (pa_cons (pv 2) pa_nil)) pe_int (nomark _))))) (pss_one (ps_ret pe_bl)) pss_nil)
      (pss_cons (ps_asg (pv 2) (pg_tup (by rfl) (pgs_cons (pg_name (i := 3) nd rfl (Or.inl rfl)) (pgs_cons (pg_name (i := 4) nd rfl (Or.inl rfl)) pgs_nil))))
      (pss_cons (ps_if (PW.pt (pw_or (pt_not (pt_val (pe_cal G_is_integer hr rfl pass0 (pa_cons (pv 3) pa_nil)))) (pw_or (pt_not (pt_val (pe_cal G_is_integer hr rfl pass0 (pa_cons (pv 4) pa_nil)))) (pw_or1 (pt_cmpR op_lt (pv 4) pe_int (nomark _)))))) (pss_one (ps_ret pe_bl)) pss_nil)
      (pss_cons (ps_if (PW.pt (pw_and (pt_cmpR (op_neD hr.units) (pv 1) (pe_lst pa_nil) (nomark _)) (pw_and1 (pt_cmpR op_le (pv 3) (pe_ix ix_list (pv 1) (pe_un un_neg pe_int) (fun _ _ => rfl)) (nomark _))))) (pss_one (ps_ret pe_bl)) pss_nil)
      (pss_one (ps_expr (pe_bm PySem.F.plainAttrs_list PySem.F.slot_list_append PySem.F.type_list_append mt_append (pv 1) (pa_cons (pv 3) pa_nil)))))))))
      (pss_one (ps_ret pe_bl))))), ?_⟩
    obtain ⟨ps, hq, hlen, hp⟩ := hB.sq
    refine ⟨_, rfl, .ref a, _, _, _, _, rfl, .ty _, ty_tup hq, kit_tt, _, rfl, iteF ?_⟩
    refine ⟨Nat.zero_le _, fun l hl0 => ?_⟩
    refine ⟨_, rfl, a, rfl, ⟨_, ex_t (Ex.new hl0) hq⟩, for_bag (H0 := H) hq hp (fun d t σ H' => ∃ v1 v2 v3, σ = [some (.ref a), some (.ref l), v1, v2, v3] ∧ Ex H H' ∧ H' l = some (.lst ((d.map (·.1)).map V.int)) ∧ d.length + t.length = b.length) ⟨none, none, none, rfl, Ex.new hl0, upd_same, by simp⟩ (fun d t σ H' h => let ⟨_, _, _, _, e, _⟩ := h; e) ?_ ?_⟩
    · rintro d e t p σ H' hbd hE ⟨v1, v2, v3, rfl, ex, hL, hdt⟩
      obtain ⟨hpos, hasc⟩ := pair_decomp hW hbd
      refine ⟨_, rfl, .ref p, _, _, _, _, rfl, .ty _, ty_tup hE, kit_tt, _, rfl, iteF ?_⟩
      refine ⟨_, rfl, p, _, rfl, .inr hE, rfl, _, rfl, iteF ?_⟩
      refine ⟨_, rfl, p, _, rfl, hE, rfl, _, _, rfl, _, _, rfl, rfl, ?_⟩
      refine ⟨_, rfl, _, rfl, _, rfl, iteF ?_⟩
      refine ⟨_, rfl, _, rfl, _, rfl, iteF ?_⟩
      refine ⟨_, rfl, _, _, rfl, rfl, _, rfl, ite2 (fun h => absurd (of_decide_eq_true h) (by omega)) fun _ => ?_⟩
      refine ⟨_, rfl, Nat.zero_le _, fun m hm => ?_⟩
      have hlm : l ≠ m := ne_of_none hL hm
      have hL2 : upd H' m (.lst []) l = some (.lst ((d.map (·.1)).map V.int)) := by rw [upd_ne hlm]; exact hL
      refine ⟨dI (d.map (·.1)), dI [], dp_il (sq_of hL2), dp_il (ns := []) (sq_of upd_same), (ok_dI _).shaped (by decide), (ok_dI _).shaped (by decide), _, rfl, ?_⟩
      rw [eqv_dI]
      have ex2 : Ex H (upd H' m (.lst [])) := ex.trans (Ex.new hm)
      have hll : l ≠ p ∨ True := .inr True.intro
      rcases snocD d with rfl | ⟨d0, e0, rfl⟩
      · refine iteF ⟨_, rfl, .inl ⟨rfl, _, sq_of hL2⟩, _, rfl, l, _, _, rfl, rfl, hL2, (by show 0 < sizeLine; decide), ?_⟩
        exact ⟨_, _, _, rfl, ex2.mut hl0, upd_same, by simp at hdt ⊢; omega⟩
      · have en : (!decide (List.map (fun x => x.1) (d0 ++ [e0]) = [])) = true := by simp
        refine iteB en ⟨_, rfl, _, rfl, _, rfl, l, _, _, V.int e0.1, rfl, rfl, sq_of hL2, ?_, _, _, rfl, rfl, _, rfl, ?_⟩
        · rw [List.map_append, List.map_append]
          exact atI_last _ _
        · have q := hasc e0 (by simp)
          refine ite2 (fun h => absurd (of_decide_eq_true h) (by omega)) fun _ => ?_
          refine ⟨_, rfl, .inl ⟨rfl, _, sq_of hL2⟩, _, rfl, l, _, _, rfl, rfl, hL2, ?_, ?_⟩
          · refine small1000 ?_
            simp only [List.length_map]
            simp only [List.length_cons] at hdt
            omega
          · refine ⟨_, _, _, rfl, ex2.mut hl0, ?_, by simp only [List.length_append, List.length_cons, List.length_nil] at hdt ⊢; omega⟩
            rw [upd_same]
            simp
    · rintro σ H' ⟨v1, v2, v3, rfl, ex, hL, hdt⟩
      exact k H' ex
/-! ### check_bag -/
def spCkb (K : PySem.W.Frag) : Sp := fun vs H Q _ => ∃ a b, vs = [.ref a] ∧ IsBag K H a b ∧ WF b ∧ b.length ≤ 1000 ∧ ∀ H', Ex H H' → Q .non H'
theorem sc13 : FnScope ["value"] ["value"] (defScope (top 13)) := ⟨rfl, rfl, rfl, by decide +kernel, rfl, by decide +kernel, by decide +kernel⟩
theorem ok_ckbag (D : Df K mg "check_bag" (top 13) ["value"]) (T : Nms mg) (G_is_bag : Is P w K mg base CX0 2 "is_bag" ["value"] (spBag K)) : Is P w K mg base CX0 3 "check_bag" ["value"] (spCkb K) := D.is fun f fd F => by
  refine F.ok sc13 (fun vs H Q E h => ?_) (fun cdv A outer s H vs Q E hr h => ?_)
  · obtain ⟨a, b, rfl, _⟩ := h
    rfl
  · obtain ⟨a, b, rfl, hB, hW, hl, k⟩ := h
    refine ⟨_, (pss_one (ps_if (pt_not (pt_val (pe_cal G_is_bag hr rfl pass0 (pa_cons (pv 0) pa_nil)))) (pss_one ps_never) pss_nil)), ?_⟩
    exact ⟨_, rfl, a, b, rfl, hB, hW, hl, fun H' e => ⟨_, rfl, iteF (k H' e)⟩⟩
end
end HX

set_option Elab.async false
set_option linter.all false
set_option maxRecDepth 100000
set_option maxHeartbeats 4000000
namespace HX
open PySem PySem.Spec PyProof.Rows L2 Evl
/-- all numbers within -10 .. 10, and a bag -/
structure OkB (b : Bg) : Prop where
  wf : WF b
  rng : ∀ p ∈ b, -10 ≤ p.1 ∧ p.1 ≤ 10
theorem asc_len : ∀ (b : Bg) (lo hi : Int), Asc b → (∀ p ∈ b, lo ≤ p.1 ∧ p.1 ≤ hi) → lo ≤ hi + 1 → (b.length : Int) ≤ hi - lo + 1
  | [], lo, hi, _, _, h => by simp; omega
  | p :: b, lo, hi, ha, hr, h => by
    have h1 := hr p List.mem_cons_self
    have h2 := asc_len b (p.1 + 1) hi (List.pairwise_cons.mp ha).2 (fun q hq => by
      have := (List.pairwise_cons.mp ha).1 q hq
      have := hr q (List.mem_cons_of_mem _ hq)
      omega) (by omega)
    rw [List.length_cons]
    omega
theorem OkB.len {b : Bg} (h : OkB b) : b.length ≤ 21 := by
  have := asc_len b (-10) 10 h.wf.asc h.rng (by decide)
  omega
theorem OkB.len1000 {b : Bg} (h : OkB b) : b.length ≤ 1000 := Nat.le_trans h.len (by decide)
theorem OkB.nil : OkB [] := ⟨WF.nil, fun _ h => nomatch h⟩
theorem lc_items {d : Addr} {o : Obj} {b : Bg} {g : TG} {tt : TT} {te : TE} {vs : List Nat} {σ : L2.St} {H1 : Hp} {D : Addr} {Qd : Hp → Prop} (Inv : Bg → Bg → Hp → Prop) (h0 : Inv [] b (upd H1 D (.lst []))) (hx : ∀ a t H', Inv a t H' → H' d = some (.frz o (.dK (kvb b))))
    (hs : ∀ a e t T H, b = a ++ e :: t → H T = none → Inv a (e :: t) H → g (.ref T) (wipe σ vs) (upd H T (.tup [.int e.1, .int e.2])) fun σ2 H2 => wipe σ2 vs = wipe σ vs ∧ tt σ2 H2 fun r H3 =>
      if r = true then te σ2 H3 fun y H4 => ∃ acc, H4 D = some (.lst acc) ∧ acc.length < sizeLine ∧ Inv (a ++ [e]) t (upd H4 D (.lst (acc ++ [y]))) else Inv (a ++ [e]) t H3) (hd : ∀ H, Inv b [] H → Qd H) :
    ∃ W : Nat → Nat → Hp → Prop, (∃ m, W 0 m (upd H1 D (.lst []))) ∧ ∀ i m H, W i m H →
      ((Iti d o (kvb b)).stop i H ∧ Qd H) ∨ ((Iti d o (kvb b)).go i H ∧ ∃ Nx : Hp → Prop, (∀ H', Nx H' → ∃ m', m' < m ∧ W (i + 1) m' H') ∧ ∀ x H', (Iti d o (kvb b)).yld i H x H' → g x (wipe σ vs) H' fun σ2 H2 => wipe σ2 vs = wipe σ vs ∧ tt σ2 H2 fun b H3 =>
        if b = true then te σ2 H3 fun y H4 => ∃ acc, H4 D = some (.lst acc) ∧ acc.length < sizeLine ∧ Nx (upd H4 D (.lst (acc ++ [y]))) else Nx H3) := by
  refine ⟨fun i m H => m = b.length - i ∧ i ≤ b.length ∧ Inv (b.take i) (b.drop i) H, ⟨b.length, by simp, Nat.zero_le _, h0⟩, ?_⟩
  rintro i m H ⟨rfl, hi, p⟩
  have q := hx _ _ _ p
  by_cases hlt : i < b.length
  · refine .inr ⟨⟨q, by rw [kvb_len]; exact hlt⟩, fun H' => Inv (b.take (i + 1)) (b.drop (i + 1)) H', fun H' p' => ⟨b.length - (i + 1), by omega, rfl, hlt, p'⟩, fun x H' y => ?_⟩
    obtain ⟨T, k, v, e1, e2, e3, e4⟩ := y
    subst e2
    have hg : (kvb b)[i]? = some (Sum.inl b[i].1, V.int b[i].2) := by
      unfold kvb
      rw [List.getElem?_map, List.getElem?_eq_getElem hlt]
      rfl
    rw [hg] at e1
    have e5 := Option.some.inj e1
    injection e5 with e6 e7
    subst e6
    subst e7
    have hd1 : b.drop i = b[i] :: b.drop (i + 1) := List.drop_eq_getElem_cons hlt
    have ht1 : b.take (i + 1) = b.take i ++ [b[i]] := by rw [List.take_add_one, List.getElem?_eq_getElem hlt]; rfl
    have r := hs (b.take i) b[i] (b.drop (i + 1)) T H (by rw [← hd1, List.take_append_drop]) e3 (by rw [← hd1]; exact p)
    rw [e4]
    show g (.ref T) (wipe σ vs) (upd H T (.tup [.int b[i].1, .int b[i].2])) fun σ2 H2 => wipe σ2 vs = wipe σ vs ∧ tt σ2 H2 fun r H3 =>
        if r = true then te σ2 H3 fun y H4 => ∃ acc, H4 D = some (.lst acc) ∧ acc.length < sizeLine ∧ Inv (b.take (i + 1)) (b.drop (i + 1)) (upd H4 D (.lst (acc ++ [y]))) else Inv (b.take (i + 1)) (b.drop (i + 1)) H3
    rw [ht1]
    exact r
  · have e : i = b.length := by omega
    subst e
    rw [List.take_length, List.drop_length] at p
    exact .inl ⟨⟨q, by rw [kvb_len]; exact Nat.le_refl _⟩, hd H p⟩
/-- the values -/
theorem lc_vals {d : Addr} {o : Obj} {b : Bg} {g : TG} {tt : TT} {te : TE} {vs : List Nat} {σ : L2.St} {H1 : Hp} {D : Addr} {Qd : Hp → Prop} (Inv : Bg → Bg → Hp → Prop) (h0 : Inv [] b (upd H1 D (.lst []))) (hx : ∀ a t H', Inv a t H' → H' d = some (.frz o (.dK (kvb b))))
    (hs : ∀ a e t H, b = a ++ e :: t → Inv a (e :: t) H → g (.int e.2) (wipe σ vs) H fun σ2 H2 => wipe σ2 vs = wipe σ vs ∧ tt σ2 H2 fun r H3 =>
      if r = true then te σ2 H3 fun y H4 => ∃ acc, H4 D = some (.lst acc) ∧ acc.length < sizeLine ∧ Inv (a ++ [e]) t (upd H4 D (.lst (acc ++ [y]))) else Inv (a ++ [e]) t H3) (hd : ∀ H, Inv b [] H → Qd H) :
    ∃ W : Nat → Nat → Hp → Prop, (∃ m, W 0 m (upd H1 D (.lst []))) ∧ ∀ i m H, W i m H →
      ((Itd d o (kvb b)).stop i H ∧ Qd H) ∨ ((Itd d o (kvb b)).go i H ∧ ∃ Nx : Hp → Prop, (∀ H', Nx H' → ∃ m', m' < m ∧ W (i + 1) m' H') ∧ ∀ x H', (Itd d o (kvb b)).yld i H x H' → g x (wipe σ vs) H' fun σ2 H2 => wipe σ2 vs = wipe σ vs ∧ tt σ2 H2 fun b H3 =>
        if b = true then te σ2 H3 fun y H4 => ∃ acc, H4 D = some (.lst acc) ∧ acc.length < sizeLine ∧ Nx (upd H4 D (.lst (acc ++ [y]))) else Nx H3) := by
  refine ⟨fun i m H => m = b.length - i ∧ i ≤ b.length ∧ Inv (b.take i) (b.drop i) H, ⟨b.length, by simp, Nat.zero_le _, h0⟩, ?_⟩
  rintro i m H ⟨rfl, hi, p⟩
  have q := hx _ _ _ p
  by_cases hlt : i < b.length
  · refine .inr ⟨⟨q, by rw [kvb_len]; exact hlt⟩, fun H' => Inv (b.take (i + 1)) (b.drop (i + 1)) H', fun H' p' => ⟨b.length - (i + 1), by omega, rfl, hlt, p'⟩, fun x H' y => ?_⟩
    obtain ⟨e4, k, e1⟩ := y
    subst e4
    have hg : (kvb b)[i]? = some (Sum.inl b[i].1, V.int b[i].2) := by
      unfold kvb
      rw [List.getElem?_map, List.getElem?_eq_getElem hlt]
      rfl
    rw [hg] at e1
    have e5 := Option.some.inj e1
    injection e5 with e6 e7
    subst e7
    have hd1 : b.drop i = b[i] :: b.drop (i + 1) := List.drop_eq_getElem_cons hlt
    have ht1 : b.take (i + 1) = b.take i ++ [b[i]] := by rw [List.take_add_one, List.getElem?_eq_getElem hlt]; rfl
    have r := hs (b.take i) b[i] (b.drop (i + 1)) _ (by rw [← hd1, List.take_append_drop]) (by rw [← hd1]; exact p)
    rw [ht1]
    exact r
  · have e : i = b.length := by omega
    subst e
    rw [List.take_length, List.drop_length] at p
    exact .inl ⟨⟨q, by rw [kvb_len]; exact Nat.le_refl _⟩, hd H p⟩
/-- which pair stands at a value -/
def keyOf (H : Hp) : V → Int × Int
  | .ref t => match H t with
    | some (.tup [.int i, .int j]) => (i, j)
    | _ => (0, 0)
  | _ => (0, 0)
def TupT (H : Hp) : Addr → Int × Int → Prop := fun p e => H p = some (.tup [.int e.1, .int e.2])
theorem keyOf_at {H : Hp} {p : Addr} {e : Int × Int} (h : TupT H p e) : keyOf H (.ref p) = e := by
  show (match H p with | some (.tup [.int i, .int j]) => (i, j) | _ => (0, 0)) = e
  rw [show H p = some (.tup [.int e.1, .int e.2]) from h]
theorem TupT.up {H H' : Hp} {p : Addr} {e : Int × Int} (h : TupT H p e) (x : Ex H H') : TupT H' p e := x _ _ h
theorem TupT.ent {K : PySem.W.Frag} {H : Hp} {p : Addr} {e : Int × Int} (h : TupT H p e) : EntT K H p e := .inl (.inl h)
theorem keys_map {H : Hp} : ∀ {rs : List Addr} {b : Bg}, Paired (TupT H) rs b → (rs.map V.ref).map (keyOf H) = b
  | _, _, .nil => rfl
  | _, _, .cons h t => by
    rw [List.map_cons, List.map_cons, keyOf_at h, keys_map t]
theorem paired_perm {H : Hp} {xs ys : List V} (hp : ys.Perm xs) (h : ∀ x ∈ xs, ∃ t, x = V.ref t ∧ TupT H t (keyOf H x)) : ∃ rs : List Addr, ys = rs.map V.ref ∧ Paired (TupT H) rs (ys.map (keyOf H)) := by
  have h2 : ∀ x ∈ ys, ∃ t, x = V.ref t ∧ TupT H t (keyOf H x) := fun x hx => h x (hp.mem_iff.mp hx)
  clear hp h
  induction ys with
  | nil => exact ⟨[], rfl, .nil⟩
  | cons y ys ih =>
    obtain ⟨rs, e1, e2⟩ := ih fun x hx => h2 x (List.mem_cons_of_mem _ hx)
    obtain ⟨t, rfl, ht⟩ := h2 _ List.mem_cons_self
    exact ⟨t :: rs, by rw [e1, List.map_cons], .cons ht e2⟩
theorem paired_all {H : Hp} : ∀ {rs : List Addr} {b : Bg}, Paired (TupT H) rs b → ∀ x ∈ rs.map V.ref, ∃ t, x = V.ref t ∧ TupT H t (keyOf H x)
  | _, _, .nil, x, hx => nomatch hx
  | _, _, .cons (a := r) h t, x, hx => by
    rw [List.map_cons] at hx
    rcases List.mem_cons.mp hx with z | z
    · rw [z, keyOf_at h]
      exact ⟨_, rfl, h⟩
    · exact paired_all t x z
section
variable {P : Program} {w : World} {K : PySem.W.Frag} {mg : Str → Option Value} {base : Heap}
/-! ### from_counts -/
structure CntB (b : Bg) : Prop where
  nd : (b.map (·.1)).Nodup
  nn : ∀ p ∈ b, 0 ≤ p.2
  rng : ∀ p ∈ b, -10 ≤ p.1 ∧ p.1 ≤ 10
  len : b.length ≤ 1000
def spFrom (K : PySem.W.Frag) : Sp := fun vs H Q _ => ∃ d b, vs = [.ref d] ∧ H d = some (.dK (kvb b)) ∧ CntB b ∧ RetB K H Q fun c => OkB c ∧ ∀ x, ge c x = ge b x
theorem sc14 : FnScope ["counts", "number", "count"] ["counts"] (defScope (top 14)) := ⟨rfl, rfl, rfl, by decide +kernel, rfl, by decide +kernel, by decide +kernel⟩
theorem ok_fromc (D : Df K mg "from_counts" (top 14) ["counts"]) (T : Nms mg) : Is P w K mg base CX0 1 "from_counts" ["counts"] (spFrom K) := D.is fun f fd F => by
  refine F.ok sc14 (fun vs H Q E h => ?_) (fun cdv A outer s H vs Q E hr h => ?_)
  · obtain ⟨a, b, rfl, _⟩ := h
    rfl
  · obtain ⟨d, b, rfl, hd, hB, k⟩ := h
    have nd := sc14.nd
    refine ⟨_, (pss_one (ps_ret (pe_callTy call_tupleF (by rfl) T.tuple bt_tuple (pa_cons (pe_callB cr_sortedPO (by rfl) T.sorted bt_sorted (pa_cons (pe_lock (pe_lc (own := [("number", 1), ("count", 2)]) (g := gTup K 2 (gCons (gName 1) (gCons (gName 2) gNil))) rfl nd (pi_items (pv 0)) (blkOk_by (own := [("number", 1), ("count", 2)]) (N := ["counts", "number", "count"]) (sc := defScope (top 14)) (by decide +kernel)) (fun _ _ _ _ _ => (pg_tup (by rfl) (pgs_cons (pg_name (i := 1) nd rfl (Or.inl rfl)) (pgs_cons (pg_name (i := 2) nd rfl (Or.inl rfl)) pgs_nil)))) (fun _ _ _ _ _ => (pts_one (pt_cmpR op_gt (pv 2) pe_int (nomark _)))) (fun _ _ _ _ _ => (pe_tup (pa_cons (pv 1) (pa_cons (pv 2) pa_nil)))))) pa_nil)) pa_nil)))), ?_⟩
    refine ⟨d, _, hd, True.intro, fun od => ⟨_, rfl, d, od, _, rfl, upd_same, fun L hL => ?_⟩⟩
    have hLd : L ≠ d := fun z => by rw [z, upd_same] at hL; cases hL
    have hL0 : H L = none := by rw [upd_ne hLd] at hL; exact hL
    refine lc_items (b := b) (fun a t H' => H' d = some (.frz od (.dK (kvb b))) ∧ (∀ x o, x ≠ d → H x = some o → H' x = some o) ∧ a.length + t.length = b.length ∧ ∃ rs : List Addr, H' L = some (.lst (rs.map V.ref)) ∧ Paired (TupT H') rs (a.filter fun p => decide (0 < p.2)))
      ⟨by rw [upd_ne hLd.symm, upd_same], fun x o hx e => by rw [upd_ne (ne_of_none e hL0), upd_ne hx]; exact e, by simp, [], upd_same, .nil⟩ (fun a t H' h => h.1) ?_ ?_
    · rintro a e t T H' hab hT ⟨g1, g2, g3, rs, g4, g5⟩
      have hTd : d ≠ T := ne_of_none g1 hT
      have hTL : L ≠ T := ne_of_none g4 hT
      have eT : Ex H' (upd H' T (.tup [.int e.1, .int e.2])) := Ex.new hT
      have hrl : rs.length ≤ b.length := by
        have q := paired_len g5
        have := List.length_filter_le (fun p : Int × Int => decide (0 < p.2)) a
        simp only [List.length_cons] at g3
        omega
      refine ⟨T, _, rfl, st_of upd_same, rfl, _, _, rfl, _, _, rfl, rfl, rfl, _, rfl, _, _, rfl, rfl, _, rfl, ite2 (fun hc => ?_) (fun hc => ?_)⟩
      · refine ⟨_, rfl, _, rfl, (by show 2 ≤ sizeLine; decide), fun p hp => ?_⟩
        have hpL : L ≠ p := ne_of_none (eT _ _ g4) hp
        have hpd : d ≠ p := ne_of_none (eT _ _ g1) hp
        have ep := eT.trans (Ex.new (o := .tup [.int e.1, .int e.2]) hp)
        have hm : TupT (upd (upd H' T (.tup [.int e.1, .int e.2])) p (.tup [.int e.1, .int e.2])) p e := upd_same
        have up2 : ∀ {r : Addr} {e' : Int × Int} (H2 : Hp) (l : HO), H2 L = some (.lst (rs.map V.ref)) → TupT H2 r e' → TupT (upd H2 L l) r e' := fun {r e'} H2 l q z => by
          have : r ≠ L := fun y => by
            rw [y] at z
            have z2 := q.symm.trans z
            cases z2
          show upd H2 L l r = _
          rw [upd_ne this]
          exact z
        refine ⟨_, ep _ _ g4, ?_, ?_, ?_, ?_, rs ++ [p], ?_, ?_⟩
        · rw [List.length_map]
          exact small1000 (Nat.le_trans hrl hB.len)
        · rw [upd_ne hLd.symm]
          exact ep _ _ g1
        · intro x o hx e'
          rw [upd_ne (ne_of_none e' hL0)]
          exact ep _ _ (g2 x o hx e')
        · simp only [List.length_append, List.length_cons, List.length_nil] at g3 ⊢
          omega
        · rw [upd_same, List.map_append]
          rfl
        · rw [List.filter_append, List.filter_cons, if_pos hc]
          refine paired_app (paired_up (fun _ _ q => up2 _ _ (ep _ _ g4) (TupT.up q ep)) g5) (.cons (up2 _ _ (ep _ _ g4) hm) .nil)
      · refine ⟨eT _ _ g1, fun x o hx e' => eT _ _ (g2 x o hx e'), by simp only [List.length_append, List.length_cons, List.length_nil] at g3 ⊢; omega, rs, eT _ _ g4, ?_⟩
        rw [List.filter_append, List.filter_cons, if_neg hc, List.filter_nil, List.append_nil]
        exact paired_up (fun _ _ q => TupT.up q eT) g5
    · rintro H' ⟨g1, g2, g3, rs, g4, g5⟩
      refine ⟨g1, ?_⟩
      have e2 : Ex H (upd H' d (.dK (kvb b))) := fun x o e => by
        by_cases z : x = d
        · rw [z, upd_same]
          rw [z, hd] at e
          exact e
        · rw [upd_ne z]
          exact g2 x o z e
      have g4' : upd H' d (.dK (kvb b)) L = some (.lst (rs.map V.ref)) := by rw [upd_ne hLd]; exact g4
      have g5' : Paired (TupT (upd H' d (.dK (kvb b)))) rs (b.filter fun p => decide (0 < p.2)) := paired_up (fun r e q => by
        have : r ≠ d := fun y => by
          rw [y] at q
          have z2 := g1.symm.trans q
          cases z2
        show upd H' d _ r = _
        rw [upd_ne this]
        exact q) g5
      refine ⟨L, _, keyOf (upd H' d (.dK (kvb b))), rfl, sq_of g4', paired_all g5', fun ys p hsr hst hp => ?_⟩
      obtain ⟨rs', er, pr⟩ := paired_perm hst.perm (paired_all g5')
      subst er
      refine ⟨p, _, rfl, sq_of upd_same, fun q o hq hpl => ?_⟩
      have e3 : Ex (upd H' d (.dK (kvb b))) (upd (upd H' d (.dK (kvb b))) p (.lst (rs'.map V.ref))) := Ex.new hp
      have kp : ((rs'.map V.ref).map (keyOf (upd H' d (.dK (kvb b))))).Perm (b.filter fun p => decide (0 < p.2)) := by
        have := hst.perm.map (keyOf (upd H' d (.dK (kvb b))))
        rw [keys_map g5'] at this
        exact this
      have ks : ((rs'.map V.ref).map (keyOf (upd H' d (.dK (kvb b))))).Pairwise fun p q => p.1 ≤ q.1 := by
        rw [List.pairwise_map]
        refine hsr.imp fun {x y} hxy => ?_
        have := SrtO.lexB_no.mp hxy
        omega
      obtain ⟨w1, w2⟩ := sorted_wf hB.nd hB.nn kp ks
      refine k q ((rs'.map V.ref).map (keyOf (upd H' d (.dK (kvb b))))) _ ((e2.trans e3).trans (Ex.new hq)) ?_ ⟨⟨w1, fun p hp => hB.rng p (List.mem_filter.mp (kp.mem_iff.mp hp)).1⟩, w2⟩
      exact IsBag.new hpl hq (paired_up (fun _ _ q => (TupT.up q e3).ent) pr)
end
end HX

set_option Elab.async false
set_option linter.all false
set_option maxRecDepth 100000
set_option maxHeartbeats 4000000
namespace HX
open PySem PySem.Spec PyProof.Rows L2 Evl
theorem paired_kvb {K : PySem.W.Frag} {H : Hp} : ∀ {ps : List Addr} {b : Bg}, Paired (EntT K H) ps b → Paired (fun p (kv : Key × V) => SqT K H p [kV kv.1, kv.2]) ps (kvb b)
  | _, _, .nil => .nil
  | _, _, .cons h t => .cons h (paired_kvb t)
section
variable {P : Program} {w : World} {K : PySem.W.Frag} {mg : Str → Option Value} {base : Heap}
/-- the dict that is counted in -/
structure CntI (b1 d c : Bg) (sg : Int) : Prop where
  nd : (c.map (·.1)).Nodup
  rng : ∀ p ∈ c, -10 ≤ p.1 ∧ p.1 ≤ 10
  len : c.length ≤ b1.length + d.length
  ge : ∀ x, ge c x = ge b1 x + sg * ge d x
theorem CntI.start {b1 : Bg} (h : OkB b1) (sg : Int) : CntI b1 [] b1 sg := ⟨h.wf.nodup, h.rng, by simp, fun x => by rw [ge_nil]; omega⟩
theorem CntI.step {b1 d c : Bg} {sg : Int} {e : Int × Int} (h : CntI b1 d c sg) (he : -10 ≤ e.1 ∧ e.1 ≤ 10) : CntI b1 (d ++ [e]) (putI c e.1 ((lookI c e.1).getD 0 + sg * e.2)) sg := by
  refine ⟨putI_nodup h.nd _ _, fun p hp => ?_, ?_, fun x => ?_⟩
  · rcases putI_keys p hp with z | ⟨q, hq, z⟩
    · rw [z]; exact he
    · rw [← z]; exact h.rng q hq
  · have := putI_len c e.1 ((lookI c e.1).getD 0 + sg * e.2)
    have := h.len
    rw [List.length_append, List.length_singleton]
    omega
  · rw [putI_ge h.nd, h.ge, lookI_cnt h.nd, ge_append, ge_cons, ge_nil, Int.mul_add, Int.mul_add]
    split <;> omega
def spAdd (K : PySem.W.Frag) : Sp := fun vs H Q _ => ∃ a1 a2 b1 b2, vs = [.ref a1, .ref a2] ∧ IsBag K H a1 b1 ∧ IsBag K H a2 b2 ∧ OkB b1 ∧ OkB b2 ∧ RetB K H Q fun c => OkB c ∧ ∀ x, ge c x = ge b1 x + ge b2 x
theorem sc15 : FnScope ["first", "second", "counts", "number", "count"] ["first", "second"] (defScope (top 15)) := ⟨rfl, rfl, rfl, by decide +kernel, rfl, by decide +kernel, by decide +kernel⟩
theorem ok_add (D : Df K mg "add" (top 15) ["first", "second"]) (T : Nms mg) (G_from_counts : Is P w K mg base CX0 1 "from_counts" ["counts"] (spFrom K)) : Is P w K mg base CX0 2 "add" ["first", "second"] (spAdd K) := D.is fun f fd F => by
  refine F.ok sc15 (fun vs H Q E h => ?_) (fun cdv A outer s H vs Q E hr h => ?_)
  · obtain ⟨_, _, _, _, rfl, _⟩ := h
    rfl
  · obtain ⟨a1, a2, b1, b2, rfl, h1, h2, o1, o2, k⟩ := h
    have nd := sc15.nd
    refine ⟨_, (pss_cons (ps_set (i := 2) nd rfl (Or.inl rfl) (pe_callTy (call_dictT rfl) (by rfl) T.dict bt_dict (pa_cons (pv 0) pa_nil)))
      (pss_cons (ps_for PassesOwn.never rfl (pi_tup (pv 1)) (pg_tup (by rfl) (pgs_cons (pg_name (i := 3) nd rfl (Or.inl rfl)) (pgs_cons (pg_name (i := 4) nd rfl (Or.inl rfl)) pgs_nil))) (pss_one (ps_dput (hu_of hr) (pv 2) (pv 3) (pe_op op_add (pe_dget2 (hu_of hr) (pv 2) (pv 3) pe_int ⟨rfl, rfl, rfl, rfl⟩) (pv 4)) rfl)))
      (pss_one (ps_ret (pe_cal G_from_counts hr rfl pass0 (pa_cons (pv 2) pa_nil)))))), ?_⟩
    obtain ⟨ps, g1, g2⟩ := h1
    refine ⟨_, rfl, a1, ps, kvb b1, rfl, g1, paired_kvb g2, fun d hd => ?_⟩
    rw [merge_nil o1.wf.nodup]
    have e0 := Ex.new (o := .dK (kvb b1)) hd
    obtain ⟨qs, hq, hlen, hp⟩ := h2.sq
    refine ⟨_, rfl, a2, rfl, ⟨_, ex_t e0 hq⟩, for_bag (H0 := H) hq hp (fun dn t σ H' => ∃ v3 v4 c, σ = [some (.ref a1), some (.ref a2), some (.ref d), v3, v4] ∧ Ex H H' ∧ H' d = some (.dK (kvb c)) ∧ CntI b1 dn c 1) ⟨none, none, b1, rfl, e0, upd_same, CntI.start o1 1⟩ (fun _ _ _ _ h => let ⟨_, _, _, _, e, _⟩ := h; e) ?_ ?_⟩
    · rintro dn e t p σ H' hbd hE ⟨v3, v4, c, rfl, ex, hdc, ci⟩
      have hmem : e ∈ b2 := by rw [hbd]; simp
      refine ⟨p, _, rfl, hE, rfl, _, _, rfl, _, _, rfl, rfl, ?_⟩
      refine ⟨_, rfl, d, rfl, .inl ⟨_, .inl hdc⟩, _, rfl, _, DGet.k (k := Sum.inl e.1) hdc, ?_⟩
      rw [valV_kvb]
      have eg : ((lookI c e.1).map V.int).getD (V.int 0) = V.int ((lookI c e.1).getD 0) := by cases lookI c e.1 <;> rfl
      rw [eg]
      refine ⟨_, rfl, _, _, rfl, rfl, _, rfl, _, rfl, d, _, rfl, DPut.k (k := Sum.inl e.1) hdc ?_, ?_⟩
      · rw [kvb_len]
        have := ci.len
        have := o1.len
        have := o2.len
        have hl2 : b2.length = dn.length + (t.length + 1) := by rw [hbd]; simp
        exact small1000 (by omega)
      · rw [putK_kvb _ _ _ ci.nd]
        refine ⟨_, _, _, rfl, ex.mut hd, upd_same, ?_⟩
        have := ci.step (o2.rng e hmem)
        rw [Int.one_mul] at this
        exact this
    · rintro σ H' ⟨v3, v4, c, rfl, ex, hdc, ci⟩
      refine ⟨_, rfl, d, c, rfl, hdc, ⟨ci.nd, fun p hp => ?_, ci.rng, by have := ci.len; have := o1.len; have := o2.len; omega⟩, fun a c' H2 e2 hb hc => k a c' H2 (ex.trans e2) hb ⟨hc.1, fun x => by rw [hc.2, ci.ge, Int.one_mul]⟩⟩
      rw [← cnt_mem ci.nd hp]
      have e3 : cnt c p.1 = cnt b1 p.1 + cnt b2 p.1 := by
        unfold cnt
        rw [ci.ge, ci.ge]
        omega
      rw [e3]
      have := cnt_nonneg o1.wf p.1
      have := cnt_nonneg o2.wf p.1
      omega
def spSub (K : PySem.W.Frag) : Sp := fun vs H Q _ => ∃ a1 a2 b1 b2, vs = [.ref a1, .ref a2] ∧ IsBag K H a1 b1 ∧ IsBag K H a2 b2 ∧ OkB b1 ∧ OkB b2 ∧ (∀ t, cnt b2 t ≤ cnt b1 t) ∧ RetB K H Q fun c => OkB c ∧ ∀ x, ge c x = ge b1 x - ge b2 x
theorem sc16 : FnScope ["bag", "other", "counts", "number", "count"] ["bag", "other"] (defScope (top 16)) := ⟨rfl, rfl, rfl, by decide +kernel, rfl, by decide +kernel, by decide +kernel⟩
theorem ok_subtract (D : Df K mg "subtract" (top 16) ["bag", "other"]) (T : Nms mg) (G_from_counts : Is P w K mg base CX0 1 "from_counts" ["counts"] (spFrom K)) : Is P w K mg base CX0 2 "subtract" ["bag", "other"] (spSub K) := D.is fun f fd F => by
  refine F.ok sc16 (fun vs H Q E h => ?_) (fun cdv A outer s H vs Q E hr h => ?_)
  · obtain ⟨_, _, _, _, rfl, _⟩ := h
    rfl
  · obtain ⟨a1, a2, b1, b2, rfl, h1, h2, o1, o2, hle, k⟩ := h
    have nd := sc16.nd
    refine ⟨_, (pss_cons (ps_set (i := 2) nd rfl (Or.inl rfl) (pe_callTy (call_dictT rfl) (by rfl) T.dict bt_dict (pa_cons (pv 0) pa_nil)))
      (pss_cons (ps_for PassesOwn.never rfl (pi_tup (pv 1)) (pg_tup (by rfl) (pgs_cons (pg_name (i := 3) nd rfl (Or.inl rfl)) (pgs_cons (pg_name (i := 4) nd rfl (Or.inl rfl)) pgs_nil))) (pss_one (ps_dput (hu_of hr) (pv 2) (pv 3) (pe_op op_sub (pe_dget2 (hu_of hr) (pv 2) (pv 3) pe_int ⟨rfl, rfl, rfl, rfl⟩) (pv 4)) rfl)))
      (pss_one (ps_ret (pe_ifExp (pt_val (pe_callB (cr_any rfl) (by rfl) T.any bt_any (pa_cons (pe_lock (pe_lc (own := [("count", 4)]) (g := gName 4) rfl nd (pi_values (pv 2)) (blkOk_by (own := [("count", 4)]) (N := ["bag", "other", "counts", "number", "count"]) (sc := defScope (top 16)) (by decide +kernel)) (fun _ _ _ _ _ => (pg_name (i := 4) nd rfl (Or.inl rfl))) (fun _ _ _ _ _ => pts_nil) (fun _ _ _ _ _ => (pe_cmpR op_lt (pv 4) pe_int (nomark _))))) pa_nil))) pe_non (pe_cal G_from_counts hr rfl pass0 (pa_cons (pv 2) pa_nil))))))), ?_⟩
    obtain ⟨ps, g1, g2⟩ := h1
    refine ⟨_, rfl, a1, ps, kvb b1, rfl, g1, paired_kvb g2, fun d hd => ?_⟩
    rw [merge_nil o1.wf.nodup]
    have e0 := Ex.new (o := .dK (kvb b1)) hd
    obtain ⟨qs, hq, hlen, hp⟩ := h2.sq
    refine ⟨_, rfl, a2, rfl, ⟨_, ex_t e0 hq⟩, for_bag (H0 := H) hq hp (fun dn t σ H' => ∃ v3 v4 c, σ = [some (.ref a1), some (.ref a2), some (.ref d), v3, v4] ∧ Ex H H' ∧ H' d = some (.dK (kvb c)) ∧ CntI b1 dn c (-1)) ⟨none, none, b1, rfl, e0, upd_same, CntI.start o1 (-1)⟩ (fun _ _ _ _ h => let ⟨_, _, _, _, e, _⟩ := h; e) ?_ ?_⟩
    · rintro dn e t p σ H' hbd hE ⟨v3, v4, c, rfl, ex, hdc, ci⟩
      have hmem : e ∈ b2 := by rw [hbd]; simp
      refine ⟨p, _, rfl, hE, rfl, _, _, rfl, _, _, rfl, rfl, ?_⟩
      refine ⟨_, rfl, d, rfl, .inl ⟨_, .inl hdc⟩, _, rfl, _, DGet.k (k := Sum.inl e.1) hdc, ?_⟩
      rw [valV_kvb]
      have eg : ((lookI c e.1).map V.int).getD (V.int 0) = V.int ((lookI c e.1).getD 0) := by cases lookI c e.1 <;> rfl
      rw [eg]
      refine ⟨_, rfl, _, _, rfl, rfl, _, rfl, _, rfl, d, _, rfl, DPut.k (k := Sum.inl e.1) hdc ?_, ?_⟩
      · rw [kvb_len]
        have := ci.len
        have := o1.len
        have := o2.len
        have hl2 : b2.length = dn.length + (t.length + 1) := by rw [hbd]; simp
        exact small1000 (by omega)
      · rw [putK_kvb _ _ _ ci.nd]
        refine ⟨_, _, _, rfl, ex.mut hd, upd_same, ?_⟩
        have := ci.step (o2.rng e hmem)
        have z : (lookI c e.1).getD 0 - e.2 = (lookI c e.1).getD 0 + -1 * e.2 := by omega
        rw [z]
        exact this
    · rintro σ H' ⟨v3, v4, c, rfl, ex, hdc, ci⟩
      have hcl : c.length ≤ 1000 := by have := ci.len; have := o1.len; have := o2.len; omega
      have hnn : ∀ p ∈ c, 0 ≤ p.2 := fun p hp => by
        rw [← cnt_mem ci.nd hp]
        have e3 : cnt c p.1 = cnt b1 p.1 - cnt b2 p.1 := by
          unfold cnt
          rw [ci.ge, ci.ge]
          omega
        rw [e3]
        have := hle p.1
        omega
      refine ⟨d, _, hdc, True.intro, fun od => ⟨_, rfl, d, od, _, rfl, upd_same, fun L hL => ?_⟩⟩
      have hLd : L ≠ d := fun z => by rw [z, upd_same] at hL; cases hL
      have hL0 : H' L = none := by rw [upd_ne hLd] at hL; exact hL
      have hLH : H L = none := fresh_back ex hL0
      refine lc_vals (b := c) (fun a t H2 => H2 d = some (.frz od (.dK (kvb c))) ∧ Ex H H2 ∧ a.length + t.length = c.length ∧ H2 L = some (.lst ((a.map fun _ => false).map V.bl)))
        ⟨by rw [upd_ne hLd.symm, upd_same], (ex.mut hd).mut hLH, by simp, upd_same⟩ (fun a t H' h => h.1) ?_ ?_
      · rintro a e t H2 hab ⟨q1, q2, q3, q4⟩
        have he : 0 ≤ e.2 := hnn e (by rw [hab]; simp)
        have z : decide (e.2 < 0) = false := decide_eq_false (by omega)
        refine ⟨rfl, _, rfl, _, _, rfl, rfl, _, q4, ?_, ?_, ?_, ?_, ?_⟩
        · rw [List.length_map, List.length_map]
          simp only [List.length_cons] at q3
          exact small1000 (by omega)
        · rw [upd_ne hLd.symm]
          exact q1
        · exact q2.mut hLH
        · simp only [List.length_append, List.length_cons, List.length_nil] at q3 ⊢
          omega
        · rw [upd_same]
          show some (HO.lst (List.map V.bl (List.map (fun x => false) a) ++ [V.bl (decide (e.2 < 0))])) = _
          rw [z]
          simp
      · rintro H2 ⟨q1, q2, q3, q4⟩
        have q5 : Ex H (upd H2 d (.dK (kvb c))) := q2.mut hd
        refine ⟨q1, L, _, rfl, sq_of (by rw [upd_ne hLd]; exact q4), _, rfl, ?_⟩
        have za : (c.map fun _ => false).any id = false := by simp
        refine iteC za ?_
        refine ⟨_, rfl, d, c, rfl, upd_same, ⟨ci.nd, hnn, ci.rng, hcl⟩, fun a c' H3 e3 hb hc => k a c' H3 (q5.trans e3) hb ⟨hc.1, fun x => by rw [hc.2, ci.ge]; omega⟩⟩
/-! ### total -/
def spTot (K : PySem.W.Frag) : Sp := fun vs H Q _ => ∃ a b, vs = [.ref a] ∧ IsBag K H a b ∧ b.length ≤ 1000 ∧ ∀ H', Ex H H' → Q (.int (tot b)) H'
theorem tot_sum : ∀ b : Bg, (b.map (·.2)).sum = tot b
  | [] => rfl
  | p :: b => by rw [List.map_cons, List.sum_cons, tot_sum b, tot_cons]
theorem sc17 : FnScope ["bag", "number", "count"] ["bag"] (defScope (top 17)) := ⟨rfl, rfl, rfl, by decide +kernel, rfl, by decide +kernel, by decide +kernel⟩
theorem ok_total (D : Df K mg "total" (top 17) ["bag"]) (T : Nms mg) : Is P w K mg base CX0 1 "total" ["bag"] (spTot K) := D.is fun f fd F => by
  refine F.ok sc17 (fun vs H Q E h => ?_) (fun cdv A outer s H vs Q E hr h => ?_)
  · obtain ⟨_, _, rfl, _⟩ := h
    rfl
  · obtain ⟨a, b, rfl, hB, hl, k⟩ := h
    have nd := sc17.nd
    refine ⟨_, (pss_one (ps_ret (pe_callB (cr_sum rfl) (by rfl) T.sum bt_sum (pa_cons (pe_lc (own := [("number", 1), ("count", 2)]) (g := gTup K 2 (gCons (gName 1) (gCons (gName 2) gNil))) rfl nd (pi_tup (pv 0)) (blkOk_by (own := [("number", 1), ("count", 2)]) (N := ["bag", "number", "count"]) (sc := defScope (top 17)) (by decide +kernel)) (fun _ _ _ _ _ => (pg_tup (by rfl) (pgs_cons (pg_name (i := 1) nd rfl (Or.inl rfl)) (pgs_cons (pg_name (i := 2) nd rfl (Or.inl rfl)) pgs_nil)))) (fun _ _ _ _ _ => pts_nil) (fun _ _ _ _ _ => (pv 2))) pa_nil)))), ?_⟩
    obtain ⟨ps, hq, hlen, hp⟩ := hB.sq
    refine ⟨_, rfl, a, rfl, ⟨_, hq⟩, fun L hL => ?_⟩
    refine lc_bag (H0 := H) hq hp (fun d t H' => Ex H H' ∧ H' L = some (.lst ((d.map (·.2)).map V.int)) ∧ d.length + t.length = b.length) ⟨Ex.new hL, upd_same, by simp⟩ (fun _ _ _ h => h.1) ?_ ?_
    · rintro d e t p H' hbd hE ⟨ex, hL', hdt⟩
      refine ⟨p, _, rfl, hE, rfl, _, _, rfl, _, _, rfl, rfl, rfl, _, rfl, _, hL', ?_, ex.mut hL, ?_, ?_⟩
      · rw [List.length_map, List.length_map]
        simp only [List.length_cons] at hdt
        exact small1000 (by omega)
      · rw [upd_same]
        simp
      · simp only [List.length_append, List.length_cons, List.length_nil] at hdt ⊢
        omega
    · rintro H' ⟨ex, hL', _⟩
      refine ⟨L, _, rfl, sq_of hL', ?_⟩
      rw [tot_sum]
      exact k H' ex
end
end HX

set_option Elab.async false
set_option linter.all false
set_option maxRecDepth 100000
set_option maxHeartbeats 4000000
namespace HX
open PySem PySem.Spec PyProof.Rows L2 Evl
section
variable {P : Program} {w : World} {K : PySem.W.Frag} {mg : Str → Option Value} {base : Heap}
theorem bag_nil {K : PySem.W.Frag} {H : Hp} {p : Addr} {o : Obj} (h : PlO o) : IsBag K (upd H p (.frz o (.tup []))) p [] := ⟨[], plt_new h, .nil⟩
/-! ### scale, of one entry of one -/
def spScale (K : PySem.W.Frag) : Sp := fun vs H Q _ => ∃ a c n, vs = [.ref a, .int c] ∧ IsBag K H a [(n, 1)] ∧ RetB K H Q fun r => r = if 0 < c then [(n, c)] else []
theorem sc18 : FnScope ["bag", "count", "number", "many"] ["bag", "count"] (defScope (top 18)) := ⟨rfl, rfl, rfl, by decide +kernel, rfl, by decide +kernel, by decide +kernel⟩
theorem ok_scale (D : Df K mg "scale" (top 18) ["bag", "count"]) (T : Nms mg) : Is P w K mg base CX0 1 "scale" ["bag", "count"] (spScale K) := D.is fun f fd F => by
  refine F.ok sc18 (fun vs H Q E h => ?_) (fun cdv A outer s H vs Q E hr h => ?_)
  · obtain ⟨_, _, _, rfl, _⟩ := h
    rfl
  · obtain ⟨a, c, n, rfl, hB, k⟩ := h
    have nd := sc18.nd
    refine ⟨_, (pss_one (ps_ret (pe_ifExp (pt_cmpR op_gt (pv 1) pe_int (nomark _)) (pe_callTy call_tupleF (by rfl) T.tuple bt_tuple (pa_cons (pe_lc (own := [("number", 2), ("many", 3)]) (g := gTup K 2 (gCons (gName 2) (gCons (gName 3) gNil))) rfl nd (pi_tup (pv 0)) (blkOk_by (own := [("number", 2), ("many", 3)]) (N := ["bag", "count", "number", "many"]) (sc := defScope (top 18)) (by decide +kernel)) (fun _ _ _ _ _ => (pg_tup (by rfl) (pgs_cons (pg_name (i := 2) nd rfl (Or.inl rfl)) (pgs_cons (pg_name (i := 3) nd rfl (Or.inl rfl)) pgs_nil)))) (fun _ _ _ _ _ => pts_nil) (fun _ _ _ _ _ => (pe_tup (pa_cons (pv 2) (pa_cons (pe_op op_mul (pv 3) (pv 1)) pa_nil))))) pa_nil)) (pe_tupF pa_nil)))), ?_⟩
    obtain ⟨ps, hq, hlen, hp⟩ := hB.sq
    refine ⟨_, rfl, _, _, rfl, rfl, _, rfl, ite2 (fun hc => ?_) (fun hc => ?_)⟩
    · have hc' : 0 < c := of_decide_eq_true hc
      refine ⟨_, rfl, a, rfl, ⟨_, hq⟩, fun L hL => ?_⟩
      refine lc_bag (H0 := H) hq hp (fun d t H' => Ex H H' ∧ d.length + t.length = 1 ∧ ∃ rs : List Addr, H' L = some (.lst (rs.map V.ref)) ∧ Paired (TupT H') rs (d.map fun e => (e.1, c * e.2))) ⟨Ex.new hL, rfl, [], upd_same, .nil⟩ (fun _ _ _ h => h.1) ?_ ?_
      · rintro d e t p H' hbd hE ⟨ex, hdt, rs, g4, g5⟩
        have hd0 : d = [] := by
          cases d with
          | nil => rfl
          | cons x y =>
            simp only [List.length_cons] at hdt
            omega
        subst hd0
        have he : e = (n, 1) := by
          injection hbd with q _
          exact q.symm
        subst he
        cases g5
        refine ⟨p, _, rfl, hE, rfl, _, _, rfl, _, _, rfl, rfl, rfl, _, rfl, _, rfl, _, rfl, _, _, rfl, rfl, .inl ⟨(by show -(2 ^ 64) < (1 : Int); decide), (by show (1 : Int) < 2 ^ 64; decide)⟩, (by show 2 ≤ sizeLine; decide), fun q hq2 => ⟨_, Ex.new hq2 _ _ g4, (by show 0 < sizeLine; decide), (ex.trans (Ex.new hq2)).mut hL, ?_, [q], upd_same, .cons ?_ .nil⟩⟩
        · simp only [List.length_append, List.length_cons, List.length_nil] at hdt ⊢
          omega
        have hLq : q ≠ L := fun z => by rw [z, g4] at hq2; cases hq2
        show upd _ L _ q = some (.tup [.int n, .int (c * 1)])
        rw [upd_ne hLq, upd_same, Int.mul_one]
        show some (HO.tup [V.int n, V.int (1 * c)]) = _
        rw [Int.one_mul]
      · rintro H' ⟨ex, _, rs, g4, g5⟩
        refine ⟨L, _, rfl, sq_of g4, fun q o hq2 hpl => ?_⟩
        refine k q [(n, c)] _ (ex.trans (Ex.new hq2)) (IsBag.new hpl hq2 (paired_up (fun _ _ z => TupT.ent z) ?_)) (by rw [if_pos hc'])
        rw [List.map_cons, Int.mul_one] at g5
        exact g5
    · exact ⟨Nat.zero_le _, fun q o hq2 hpl => k q [] _ (Ex.new hq2) (bag_nil hpl) (by rw [if_neg fun z => hc (decide_eq_true z)])⟩
/-! ### drop -/
def spDrop (K : PySem.W.Frag) : Sp := fun vs H Q _ => ∃ a b c, vs = [.ref a, .int c] ∧ IsBag K H a b ∧ b.length ≤ 1000 ∧ RetB K H Q fun r => r = dropB b c
theorem sc19 : FnScope ["bag", "count", "left", "kept", "number", "many", "dropped"] ["bag", "count"] (defScope (top 19)) := ⟨rfl, rfl, rfl, by decide +kernel, rfl, by decide +kernel, by decide +kernel⟩
theorem ok_drop (D : Df K mg "drop" (top 19) ["bag", "count"]) (T : Nms mg) : Is P w K mg base CX0 1 "drop" ["bag", "count"] (spDrop K) := D.is fun f fd F => by
  refine F.ok sc19 (fun vs H Q E h => ?_) (fun cdv A outer s H vs Q E hr h => ?_)
  · obtain ⟨_, _, _, rfl, _⟩ := h
    rfl
  · obtain ⟨a, b, c, rfl, hB, hl, k⟩ := h
    have nd := sc19.nd
    refine ⟨_, (pss_cons (ps_par (i := 2) (j := 3) (by rfl) nd rfl rfl (by decide) rfl rfl (pa_cons (pv 1) (pa_cons (pe_lst pa_nil) pa_nil)) (by rfl))
      (pss_cons (ps_for PassesOwn.never rfl (pi_tup (pv 0)) (pg_tup (by rfl) (pgs_cons (pg_name (i := 4) nd rfl (Or.inl rfl)) (pgs_cons (pg_name (i := 5) nd rfl (Or.inl rfl)) pgs_nil))) (pss_cons (ps_set (i := 6) nd rfl (Or.inl rfl) (pe_callB (call_min2 rfl) (by rfl) T.min bt_min (pa_cons (pv 2) (pa_cons (pv 5) pa_nil))))
      (pss_cons (ps_aug (i := 2) nd rfl (Or.inl rfl) (pv 6) ip_sub)
      (pss_one (ps_if (pt_cmpR op_gt (pv 5) (pv 6) (nomark _)) (pss_one (ps_expr (pe_bm PySem.F.plainAttrs_list PySem.F.slot_list_append PySem.F.type_list_append mt_append (pv 3) (pa_cons (pe_tup (pa_cons (pv 4) (pa_cons (pe_op op_sub (pv 5) (pv 6)) pa_nil))) pa_nil)))) pss_nil)))))
      (pss_one (ps_ret (pe_callTy call_tupleF (by rfl) T.tuple bt_tuple (pa_cons (pv 3) pa_nil)))))), ?_⟩
    obtain ⟨ps, hq, hlen, hp⟩ := hB.sq
    refine ⟨_, rfl, Nat.zero_le _, fun L hL => ⟨_, _, rfl, ?_⟩⟩
    refine ⟨_, rfl, a, rfl, ⟨_, ex_t (Ex.new hL) hq⟩, for_bag (H0 := H) hq hp (fun d t σ H' => ∃ z v4 v5 v6, σ = [some (.ref a), some (.int c), some (.int z), some (.ref L), v4, v5, v6] ∧ Ex H H' ∧ d.length + t.length = b.length ∧ ∃ (rs : List Addr) (kb : Bg), H' L = some (.lst (rs.map V.ref)) ∧ Paired (TupT H') rs kb ∧ kb.length ≤ d.length ∧ dropB b c = kb ++ dropB t z)
      ⟨c, none, none, none, rfl, Ex.new hL, by simp, [], [], upd_same, .nil, Nat.le_refl _, rfl⟩ (fun _ _ _ _ h => let ⟨_, _, _, _, _, e, _⟩ := h; e) ?_ ?_⟩
    · rintro d e t p σ H' hbd hE ⟨z, v4, v5, v6, rfl, ex, hdt, rs, kb, g4, g5, g6, g7⟩
      refine ⟨p, _, rfl, hE, rfl, _, _, rfl, _, _, rfl, rfl, ?_⟩
      refine ⟨_, rfl, _, rfl, _, _, rfl, ?_⟩
      have em : (if e.2 < z then e.2 else z) = min z e.2 := by split <;> omega
      rw [em]
      refine ⟨_, rfl, _, rfl, _, _, rfl, rfl, ?_⟩
      refine ⟨_, rfl, _, rfl, _, _, rfl, rfl, _, rfl, ite2 (fun hc => ?_) (fun hc => ?_)⟩
      · have hc' : min z e.2 < e.2 := of_decide_eq_true hc
        refine ⟨_, rfl, .inl ⟨rfl, _, sq_of g4⟩, _, rfl, _, rfl, _, rfl, _, _, rfl, rfl, (by show 2 ≤ sizeLine; decide), fun q hq2 => ⟨L, _, _, rfl, rfl, Ex.new hq2 _ _ g4, ?_, ?_⟩⟩
        · rw [List.length_map, paired_len g5]
          simp only [List.length_cons] at hdt
          exact small1000 (by omega)
        · have hLq : q ≠ L := fun z => by rw [z, g4] at hq2; cases hq2
          have e1 := Ex.new (o := .tup [.int e.1, .int (e.2 - min z e.2)]) hq2
          refine ⟨z - min z e.2, _, _, _, rfl, (ex.trans e1).mut hL, by simp only [List.length_append, List.length_cons, List.length_nil] at hdt ⊢; omega, rs ++ [q], kb ++ [(e.1, e.2 - min z e.2)], by rw [upd_same, List.map_append]; rfl, paired_app (paired_up (fun r e' y => ?_) g5) (.cons (show upd _ L _ q = _ by rw [upd_ne hLq, upd_same]) .nil), by rw [List.length_append, List.length_append]; exact Nat.add_le_add_right g6 1, ?_⟩
          · have hrL : r ≠ L := fun z => by
              rw [z] at y
              have := g4.symm.trans y
              cases this
            show upd _ L _ r = _
            rw [upd_ne hrL]
            exact e1 _ _ y
          · rw [g7, List.append_assoc]
            congr 1
            conv => lhs; unfold dropB
            rw [if_pos hc']
            rfl
      · have hc' : ¬ min z e.2 < e.2 := fun y => hc (decide_eq_true y)
        refine ⟨z - min z e.2, _, _, _, rfl, ex, by simp only [List.length_append, List.length_cons, List.length_nil] at hdt ⊢; omega, rs, kb, g4, g5, by rw [List.length_append]; omega, ?_⟩
        rw [g7]
        congr 1
        conv => lhs; unfold dropB
        rw [if_neg hc']
    · rintro σ H' ⟨z, v4, v5, v6, rfl, ex, hdt, rs, kb, g4, g5, g6, g7⟩
      refine ⟨_, rfl, L, _, rfl, sq_of g4, fun q o hq2 hpl => k q kb _ (ex.trans (Ex.new hq2)) (IsBag.new hpl hq2 (paired_up (fun _ _ z => TupT.ent z) g5)) ?_⟩
      rw [g7]
      exact (List.append_nil _).symm
end
end HX

set_option Elab.async false
set_option linter.all false
set_option maxRecDepth 100000
set_option maxHeartbeats 4000000
namespace HX
open PySem PySem.Spec PyProof.Rows L2 Evl
/-! ### loops over tuples and lists whose items are told by a growing fact -/
section
variable {K : PySem.W.Frag} {β : Type} {F : Hp → Addr → β → Prop}
theorem take_get {β : Type} {b : List β} {i : Nat} {y : β} (hy : b[i]? = some y) : b.drop i = y :: b.drop (i + 1) ∧ b.take (i + 1) = b.take i ++ [y] := by
  have hlt : i < b.length := (List.getElem?_eq_some_iff.mp hy).1
  constructor
  · rw [List.drop_eq_getElem_cons hlt]
    exact congrArg (· :: _) (List.getElem?_eq_some_iff.mp hy).2
  · rw [List.take_add_one, hy]
    rfl
theorem get_ref {ps : List Addr} {i : Nat} {x : V} (hi : (ps.map V.ref)[i]? = some x) : ∃ p, x = V.ref p ∧ ps[i]? = some p := by
  rw [List.getElem?_map] at hi
  cases hpi : ps[i]? with
  | none => rw [hpi] at hi; cases hi
  | some p =>
    rw [hpi] at hi
    exact ⟨p, (Option.some.inj hi).symm, rfl⟩
theorem for_tupP {a : Addr} {b : List β} {ps : List Addr} {g : TG} {tb : TS} {D : Ends} {σ : L2.St} {H H0 : Hp} (up : ∀ {H H' p e}, Ex H H' → F H p e → F H' p e) (hb : SqT K H0 a (ps.map V.ref)) (hp : Paired (F H0) ps b) (Inv : List β → List β → L2.St → Hp → Prop) (h0 : Inv [] b σ H) (hx : ∀ d t σ' H', Inv d t σ' H' → Ex H0 H')
    (hs : ∀ d e t p σ' H', b = d ++ e :: t → F H' p e → Inv d (e :: t) σ' H' → g (.ref p) σ' H' fun σ2 H2 => tb { D with nx := Inv (d ++ [e]) t, ct := Inv (d ++ [e]) t, bk := D.nx } σ2 H2) (hd : ∀ σ' H', Inv b [] σ' H' → D.nx σ' H') :
    ∃ W : Nat → Nat → L2.St → Hp → Prop, (∃ m, W 0 m σ H) ∧ ∀ i m σ H, W i m σ H →
      ((Itt K a).stop i H ∧ D.nx σ H) ∨ ((Itt K a).go i H ∧ ∃ N : L2.St → Hp → Prop, (∀ σ' H', N σ' H' → ∃ m', m' < m ∧ W (i + 1) m' σ' H') ∧ ∀ x H', (Itt K a).yld i H x H' → g x σ H' fun σ2 H2 => tb { D with nx := N, ct := N, bk := D.nx } σ2 H2) := by
  have hl : (ps.map V.ref).length = b.length := by rw [List.length_map]; exact paired_len hp
  refine for_tup (K := K) (a := a) (xs := ps.map V.ref) (fun i σ H => Inv (b.take i) (b.drop i) σ H) ?_ ?_ ?_ ?_
  · exact h0
  · exact fun i σ' H' _ q => ex_t (hx _ _ _ _ q) hb
  · intro i x σ' H' hi q
    obtain ⟨p, rfl, hpi⟩ := get_ref hi
    obtain ⟨y, hy, hF⟩ := paired_get hp hpi
    obtain ⟨hd1, ht1⟩ := take_get hy
    have r := hs (b.take i) y (b.drop (i + 1)) p σ' H' (by rw [← hd1, List.take_append_drop]) (up (hx _ _ _ _ q) hF) (by rw [← hd1]; exact q)
    show g (.ref p) σ' H' fun σ2 H2 => tb { D with nx := Inv (b.take (i + 1)) (b.drop (i + 1)), ct := Inv (b.take (i + 1)) (b.drop (i + 1)), bk := D.nx } σ2 H2
    rw [ht1]
    exact r
  · intro σ' H' q
    rw [hl] at q
    rw [List.take_length, List.drop_length] at q
    exact hd σ' H' q
theorem for_listP {a : Addr} {b : List β} {ps : List Addr} {g : TG} {tb : TS} {D : Ends} {σ : L2.St} {H H0 : Hp} (up : ∀ {H H' p e}, Ex H H' → F H p e → F H' p e) (hb : SqL K H0 a (ps.map V.ref)) (hp : Paired (F H0) ps b) (Inv : List β → List β → L2.St → Hp → Prop) (h0 : Inv [] b σ H) (hx : ∀ d t σ' H', Inv d t σ' H' → Ex H0 H')
    (hs : ∀ d e t p σ' H', b = d ++ e :: t → F H' p e → Inv d (e :: t) σ' H' → g (.ref p) σ' H' fun σ2 H2 => tb { D with nx := Inv (d ++ [e]) t, ct := Inv (d ++ [e]) t, bk := D.nx } σ2 H2) (hd : ∀ σ' H', Inv b [] σ' H' → D.nx σ' H') :
    ∃ W : Nat → Nat → L2.St → Hp → Prop, (∃ m, W 0 m σ H) ∧ ∀ i m σ H, W i m σ H →
      ((Itl K a).stop i H ∧ D.nx σ H) ∨ ((Itl K a).go i H ∧ ∃ N : L2.St → Hp → Prop, (∀ σ' H', N σ' H' → ∃ m', m' < m ∧ W (i + 1) m' σ' H') ∧ ∀ x H', (Itl K a).yld i H x H' → g x σ H' fun σ2 H2 => tb { D with nx := N, ct := N, bk := D.nx } σ2 H2) := by
  have hl : (ps.map V.ref).length = b.length := by rw [List.length_map]; exact paired_len hp
  refine for_list (K := K) (a := a) (xs := ps.map V.ref) (fun i σ H => Inv (b.take i) (b.drop i) σ H) ?_ ?_ ?_ ?_
  · exact h0
  · exact fun i σ' H' _ q => ex_l (hx _ _ _ _ q) hb
  · intro i x σ' H' hi q
    obtain ⟨p, rfl, hpi⟩ := get_ref hi
    obtain ⟨y, hy, hF⟩ := paired_get hp hpi
    obtain ⟨hd1, ht1⟩ := take_get hy
    have r := hs (b.take i) y (b.drop (i + 1)) p σ' H' (by rw [← hd1, List.take_append_drop]) (up (hx _ _ _ _ q) hF) (by rw [← hd1]; exact q)
    show g (.ref p) σ' H' fun σ2 H2 => tb { D with nx := Inv (b.take (i + 1)) (b.drop (i + 1)), ct := Inv (b.take (i + 1)) (b.drop (i + 1)), bk := D.nx } σ2 H2
    rw [ht1]
    exact r
  · intro σ' H' q
    rw [hl] at q
    rw [List.take_length, List.drop_length] at q
    exact hd σ' H' q
/-- enumerate of a tuple: (place, item), a new pair each -/
theorem for_enT {a : Addr} {b : List β} {ps : List Addr} {g : TG} {tb : TS} {D : Ends} {σ : L2.St} {H H0 : Hp} (up : ∀ {H H' p e}, Ex H H' → F H p e → F H' p e) (hb : SqT K H0 a (ps.map V.ref)) (hp : Paired (F H0) ps b) (Inv : List β → List β → L2.St → Hp → Prop) (h0 : Inv [] b σ H) (hx : ∀ d t σ' H', Inv d t σ' H' → Ex H0 H')
    (hs : ∀ d e t p σ' H' T, b = d ++ e :: t → F H' p e → Inv d (e :: t) σ' H' → H' T = none → g (.ref T) σ' (upd H' T (.tup [.int (d.length : Nat), .ref p])) fun σ2 H2 => tb { D with nx := Inv (d ++ [e]) t, ct := Inv (d ++ [e]) t, bk := D.nx } σ2 H2) (hd : ∀ σ' H', Inv b [] σ' H' → D.nx σ' H') :
    ∃ W : Nat → Nat → L2.St → Hp → Prop, (∃ m, W 0 m σ H) ∧ ∀ i m σ H, W i m σ H →
      ((IteT K a).stop i H ∧ D.nx σ H) ∨ ((IteT K a).go i H ∧ ∃ N : L2.St → Hp → Prop, (∀ σ' H', N σ' H' → ∃ m', m' < m ∧ W (i + 1) m' σ' H') ∧ ∀ x H', (IteT K a).yld i H x H' → g x σ H' fun σ2 H2 => tb { D with nx := N, ct := N, bk := D.nx } σ2 H2) := by
  have hl : (ps.map V.ref).length = b.length := by rw [List.length_map]; exact paired_len hp
  refine ⟨fun i m σ H => m = b.length - i ∧ i ≤ b.length ∧ Inv (b.take i) (b.drop i) σ H, ⟨b.length, by simp, Nat.zero_le _, h0⟩, ?_⟩
  rintro i m σ H ⟨rfl, hi, p⟩
  have q := ex_t (hx _ _ _ _ p) hb
  by_cases hlt : i < b.length
  · have hg : (ps.map V.ref)[i]? = some (ps.map V.ref)[i] := List.getElem?_eq_getElem (by rw [hl]; exact hlt)
    refine .inr ⟨⟨_, _, q, hg⟩, Inv (b.take (i + 1)) (b.drop (i + 1)), fun σ' H' p' => ⟨b.length - (i + 1), by omega, rfl, hlt, p'⟩, fun x H' y => ?_⟩
    obtain ⟨T, z, e1, e2, e3, e4⟩ := y
    subst e1
    obtain ⟨pp, e5, hpi⟩ := get_ref (e4 _ q)
    subst e5
    obtain ⟨y, hy, hF⟩ := paired_get hp hpi
    obtain ⟨hd1, ht1⟩ := take_get hy
    have r := hs (b.take i) y (b.drop (i + 1)) pp σ H T (by rw [← hd1, List.take_append_drop]) (up (hx _ _ _ _ p) hF) (by rw [← hd1]; exact p) e2
    rw [e3]
    show g (.ref T) σ _ fun σ2 H2 => tb { D with nx := Inv (b.take (i + 1)) (b.drop (i + 1)), ct := Inv (b.take (i + 1)) (b.drop (i + 1)), bk := D.nx } σ2 H2
    rw [ht1]
    rw [List.length_take, Nat.min_eq_left (Nat.le_of_lt hlt)] at r
    exact r
  · have e : i = b.length := by omega
    subst e
    rw [List.take_length, List.drop_length] at p
    exact .inl ⟨⟨_, q, by rw [hl]; exact Nat.le_refl _⟩, hd σ H p⟩
end
/-! ### a def with a star parameter -/
structure IsR (P : Program) (w : World) (K : PySem.W.Frag) (mg : Str → Option Value) (base : Heap) (CX : CXT) (k : Nat) (x : Str) (sp : Sp) : Prop where
  ex : ∃ f : Addr, FnR P w K mg base CX k f sp ∧ mg x = some (.ref f) ∧ PySem.W.keepIn K (.ref f) = true
section
variable {X : Cx} {CX : CXT} {k : Nat} {x : Str} {sp : Sp} {E : XK} {e : Expr} {es : List Expr} {t : TA} {p pos : Pos}
theorem pe_calR (G : IsR X.prog X.w X.K X.mg X.base CX k x sp) (hr : Room k X.A) (hg : Gl X x) (hx : Passes CX X E) (ha : PA X (e :: es) t)
    (hdb : (x == ("__debug__" : Str)) = false := by decide) (he : starEach (e :: es) X.env = (false, eval e X.env) :: starEach es X.env := by rfl) (hpl : (backTo pos (starEach es X.env)).any (·.1) = false := by rfl) :
    PE X (.Call (.Name x p) (e :: es) [] pos) (fun σ H Q => t σ H fun vs H1 => sp vs H1 Q E) := by
  obtain ⟨f, F, gm, kp⟩ := G.ex
  refine ⟨fun pins s σ H Q I h => ?_⟩
  refine wpAny_Call_Name_kw (ld_glob I hg gm ?_ hdb)
  refine PySem.W.callWith_K (h₀ := X.base) I.ok.mod.kin kp (thn (ha.run pos pins s σ H _ I h) fun us s1 ⟨vs, H1, I1, r, q⟩ => ⟨I1.kIn, ?_⟩) he hpl
  exact wpAny_call (run_fnR F hr hx I1 r q)
end
section
variable {P : Program} {w : World} {K : PySem.W.Frag} {mg : Str → Option Value} {base : Heap}
/-! ### size_of, difference, union -/
def spSize (K : PySem.W.Frag) : Sp := fun vs H Q _ => ∃ a b, vs = [.ref a] ∧ IsBag K H a b ∧ WF b ∧ b.length ≤ 1000 ∧ ∀ H', Ex H H' → Q (.int (tot b)) H'
theorem sc20 : FnScope ["bag"] ["bag"] (defScope (top 20)) := ⟨rfl, rfl, rfl, by decide +kernel, rfl, by decide +kernel, by decide +kernel⟩
theorem ok_size (D : Df K mg "size_of" (top 20) ["bag"]) (T : Nms mg) (G_check_bag : Is P w K mg base CX0 3 "check_bag" ["value"] (spCkb K)) (G_total : Is P w K mg base CX0 1 "total" ["bag"] (spTot K)) : Is P w K mg base CX0 4 "size_of" ["bag"] (spSize K) := D.is fun f fd F => by
  refine F.ok sc20 (fun vs H Q E h => ?_) (fun cdv A outer s H vs Q E hr h => ?_)
  · obtain ⟨_, _, rfl, _⟩ := h
    rfl
  · obtain ⟨a, b, rfl, hB, hw, hl, k⟩ := h
    have hr1 : Room 1 _ := hr.mono (by decide)
    refine ⟨_, (pss_cons (ps_expr (pe_cal G_check_bag hr rfl pass0 (pa_cons (pv 0) pa_nil)))
      (pss_one (ps_ret (pe_cal G_total hr1 rfl pass0 (pa_cons (pv 0) pa_nil))))), ?_⟩
    exact ⟨_, rfl, a, b, rfl, hB, hw, hl, fun H1 e1 => ⟨_, rfl, a, b, rfl, hB.up e1, hl, fun H2 e2 => k H2 (e1.trans e2)⟩⟩
def spDiff (K : PySem.W.Frag) : Sp := fun vs H Q _ => ∃ a1 a2 b1 b2, vs = [.ref a1, .ref a2] ∧ IsBag K H a1 b1 ∧ IsBag K H a2 b2 ∧ OkB b1 ∧ OkB b2 ∧ (∀ t, cnt b2 t ≤ cnt b1 t) ∧ RetB K H Q fun c => OkB c ∧ ∀ x, ge c x = ge b1 x - ge b2 x
theorem sc22 : FnScope ["bag", "other"] ["bag", "other"] (defScope (top 22)) := ⟨rfl, rfl, rfl, by decide +kernel, rfl, by decide +kernel, by decide +kernel⟩
theorem ok_diff (D : Df K mg "difference" (top 22) ["bag", "other"]) (T : Nms mg) (G_check_bag : Is P w K mg base CX0 3 "check_bag" ["value"] (spCkb K)) (G_subtract : Is P w K mg base CX0 2 "subtract" ["bag", "other"] (spSub K)) : Is P w K mg base CX0 4 "difference" ["bag", "other"] (spDiff K) := D.is fun f fd F => by
  refine F.ok sc22 (fun vs H Q E h => ?_) (fun cdv A outer s H vs Q E hr h => ?_)
  · obtain ⟨_, _, _, _, rfl, _⟩ := h
    rfl
  · obtain ⟨a1, a2, b1, b2, rfl, h1, h2, o1, o2, hle, k⟩ := h
    have hr1 : Room 2 _ := hr.mono (by decide)
    refine ⟨_, (pss_cons (ps_expr (pe_cal G_check_bag hr rfl pass0 (pa_cons (pv 0) pa_nil)))
      (pss_cons (ps_expr (pe_cal G_check_bag hr rfl pass0 (pa_cons (pv 1) pa_nil)))
      (pss_one (ps_ret (pe_cal G_subtract hr1 rfl pass0 (pa_cons (pv 0) (pa_cons (pv 1) pa_nil))))))), ?_⟩
    exact ⟨_, rfl, a1, b1, rfl, h1, o1.wf, o1.len1000, fun H1 e1 => ⟨_, rfl, a2, b2, rfl, h2.up e1, o2.wf, o2.len1000, fun H2 e2 => ⟨_, rfl, _, rfl, a1, a2, b1, b2, rfl, h1.up (e1.trans e2), h2.up (e1.trans e2), o1, o2, hle, k.up (e1.trans e2)⟩⟩⟩
/-- of two bags -/
def spUni (K : PySem.W.Frag) : Sp := fun vs H Q _ => ∃ a1 a2 b1 b2, vs = [.ref a1, .ref a2] ∧ IsBag K H a1 b1 ∧ IsBag K H a2 b2 ∧ OkB b1 ∧ OkB b2 ∧ RetB K H Q fun c => OkB c ∧ ∀ x, ge c x = ge b1 x + ge b2 x
def spUni1 (K : PySem.W.Frag) : Sp := fun vs H Q _ => ∃ t a1 a2 b1 b2, vs = [.ref t] ∧ H t = some (.tup [.ref a1, .ref a2]) ∧ IsBag K H a1 b1 ∧ IsBag K H a2 b2 ∧ OkB b1 ∧ OkB b2 ∧ RetB K H Q fun c => OkB c ∧ ∀ x, ge c x = ge b1 x + ge b2 x
theorem sc21 : FnScope ["bags", "result", "bag"] ["bags"] (defScope (top 21)) := ⟨rfl, rfl, rfl, by decide +kernel, rfl, by decide +kernel, by decide +kernel⟩
structure DfS (K : PySem.W.Frag) (mg : Str → Option Value) (x pv : Str) (st : Stmt) : Prop where
  ex : ∃ (f : Addr) (fd : FuncData), Fun K x x st f fd ∧ mg x = some (.ref f) ∧ PySem.W.keepIn K (.ref f) = true
theorem ok_union (D : DfS K mg "union" "bags" (top 21)) (T : Nms mg) (G_check_bag : Is P w K mg base CX0 3 "check_bag" ["value"] (spCkb K)) (G_add : Is P w K mg base CX0 2 "add" ["first", "second"] (spAdd K)) : IsR P w K mg base CX0 4 "union" (spUni K) := by
  obtain ⟨f, fd, F, gm, kp⟩ := D.ex
  obtain ⟨oc, od, kV, doc, pm, an, cdv, ct, osl, rfl, lk, hcd⟩ := F.ex
  refine ⟨f, ?_, gm, kp⟩
  have key := StX.fn_star (P := P) (w := w) (mg := mg) (base := base) (k := 3) (ps := []) (pv := "bags") (sp := spUni1 K) lk hcd sc21 StX.cxUp_none (fun us rest hl => by
    cases us with
    | nil => cases rest <;> rfl
    | cons _ _ => cases hl) (fun A outer s H vs Q E hr h => by
      obtain ⟨t, a1, a2, b1, b2, rfl, ht, h1, h2, o1, o2, k⟩ := h
      have nd := sc21.nd
      have hr1 : Room 2 _ := hr.mono (by decide)
      refine ⟨_, PSs.nox ((pss_cons (ps_set (i := 1) nd rfl (Or.inl rfl) (pe_tupF pa_nil))
      (pss_cons (ps_for PassesOwn.never rfl (pi_tup (pv 0)) (pg_name (i := 2) nd rfl (Or.inl rfl)) (pss_cons (ps_expr (pe_cal G_check_bag hr rfl pass0 (pa_cons (pv 2) pa_nil)))
      (pss_one (ps_set (i := 1) nd rfl (Or.inl rfl) (pe_cal G_add hr1 rfl pass0 (pa_cons (pv 1) (pa_cons (pv 2) pa_nil)))))))
      (pss_one (ps_ret (pv 1)))))), ?_⟩
      refine ⟨(by show 0 ≤ sizeLine; decide), fun q o hq hpl => ?_⟩
      have e0 := Ex.new (o := .frz o (.tup [])) hq
      refine ⟨_, rfl, t, rfl, ⟨_, st_of (e0 _ _ ht)⟩, for_tupP (F := fun H p b => IsBag K H p b ∧ OkB b) (ps := [a1, a2]) (b := [b1, b2]) (H0 := H) (fun e h => ⟨h.1.up e, h.2⟩) (st_of ht) (.cons ⟨h1, o1⟩ (.cons ⟨h2, o2⟩ .nil)) (fun d _ σ H' => ∃ r c v, σ = [some (.ref t), some (.ref r), v] ∧ Ex H H' ∧ IsBag K H' r c ∧ OkB c ∧ ∀ x, ge c x = (d.map fun b => ge b x).sum) ⟨q, [], none, rfl, e0, bag_nil hpl, OkB.nil, fun x => rfl⟩ (fun _ _ _ _ h => let ⟨_, _, _, _, e, _⟩ := h; e) ?_ ?_⟩
      · rintro d e tl p σ H' hbd ⟨hE, oE⟩ ⟨r, c, v, rfl, ex, hc, oc', hg⟩
        refine ⟨_, rfl, p, e, rfl, hE, oE.wf, oE.len1000, fun H1 e1 => ?_⟩
        refine ⟨_, rfl, _, rfl, r, p, c, e, rfl, hc.up e1, hE.up e1, oc', oE, fun a c' H2 e2 hb hcc => ⟨a, c', _, rfl, (ex.trans e1).trans e2, hb, hcc.1, fun x => ?_⟩⟩
        rw [hcc.2, hg]
        simp [List.sum_append]
      · rintro σ H' ⟨r, c, v, rfl, ex, hc, oc', hg⟩
        refine ⟨_, rfl, k r c H' ex hc ⟨oc', fun x => ?_⟩⟩
        rw [hg]
        simp)
  intro A outer s H us vs Q E hr e0 r hsp
  obtain ⟨a1, a2, b1, b2, rfl, h1, h2, o1, o2, k⟩ := hsp
  exact key A outer s H us _ Q E hr e0 r ⟨[], [.ref a1, .ref a2], rfl, rfl, (by show 2 ≤ sizeLine; decide), fun p hp => ⟨p, a1, a2, b1, b2, rfl, upd_same, h1.up (Ex.new hp), h2.up (Ex.new hp), o1, o2, k.up (Ex.new hp)⟩⟩
end
end HX

set_option Elab.async false
set_option linter.all false
set_option maxRecDepth 100000
set_option maxHeartbeats 4000000
namespace HX
/-! ### what steps do, as numbers alone -/
inductive Stp
  | ins (n : Int)
  | rem
deriving DecidableEq
structure AS where
  gI : Int → Int
  r : Int
  gS : Int → Int
  tS : Int
def AS.zero : AS := ⟨fun _ => 0, 0, fun _ => 0, 0⟩
def AS.step (A : AS) : Stp → AS
  | .ins m => ⟨fun x => A.gI x + (if x ≤ m then 1 else 0), A.r, fun x => A.gS x + (if x ≤ m then 1 else 0), A.tS + 1⟩
  | .rem => ⟨A.gI, A.r + 1, fun x => min (max 0 (A.tS - 1)) (A.gS x), max 0 (A.tS - 1)⟩
def absE (ss : List Stp) : AS := ss.foldl AS.step AS.zero
theorem absE_snoc (ss : List Stp) (s : Stp) : absE (ss ++ [s]) = (absE ss).step s := by
  unfold absE
  rw [List.foldl_append]
  rfl
/-- a valid effect -/
structure Vld (I : Bg) (r : Int) (S : Bg) : Prop where
  oI : OkB I
  oS : OkB S
  le : ∀ t, cnt S t ≤ cnt I t
  r0 : 0 ≤ r
  tt : tot I - tot S ≤ r
/-- the effect of steps -/
structure EffOf (ss : List Stp) (I : Bg) (r : Int) (S : Bg) : Prop where
  v : Vld I r S
  gI : ∀ x, ge I x = (absE ss).gI x
  er : r = (absE ss).r
  gS : ∀ x, ge S x = (absE ss).gS x
  tS : tot S = (absE ss).tS
theorem EffOf.zero : EffOf [] [] 0 [] := ⟨⟨OkB.nil, OkB.nil, fun _ => Int.le_refl _, by decide, by decide⟩, fun _ => rfl, rfl, fun _ => rfl, rfl⟩
def stpI : Stp → Bg
  | .ins n => [(n, 1)]
  | .rem => []
def stpR : Stp → Int
  | .ins _ => 0
  | .rem => 1
def StpOk : Stp → Prop
  | .ins n => -5 ≤ n ∧ n ≤ 5
  | .rem => True
theorem stpI_ok {s : Stp} (h : StpOk s) : OkB (stpI s) := by
  cases s with
  | ins n =>
    refine ⟨WF.nil.cons (by show (1 : Int) ≤ 1; decide) (fun q hq => nomatch hq), fun p hp => ?_⟩
    rw [List.mem_singleton.mp hp]
    have h' : -5 ≤ n ∧ n ≤ 5 := h
    exact ⟨by show -10 ≤ n; omega, by show n ≤ 10; omega⟩
  | rem => exact OkB.nil
theorem stpR0 (s : Stp) : 0 ≤ stpR s := by
  cases s with
  | ins n => exact Int.le_refl 0
  | rem => exact Int.zero_le_ofNat 1
theorem okB_drop {b : Bg} (h : OkB b) (k : Int) : OkB (dropB b k) := ⟨dropB_wf h.wf, fun p hp => by
  obtain ⟨q, hq, e⟩ := dropB_keys p hp
  rw [← e]
  exact h.rng q hq⟩
/-- one step more -/
theorem EffOf.step {ss : List Stp} {I1 S1 I S : Bg} {r1 : Int} {s : Stp} (h : EffOf ss I1 r1 S1) (oI : OkB I) (oS : OkB S) (hI : ∀ x, ge I x = ge I1 x + ge (stpI s) x)
    (hS : ∀ x, ge S x = ge (stpI s) x + min (max 0 (tot S1 + tot (stpI s) - tot (stpI s) - stpR s)) (ge S1 x + ge (stpI s) x - ge (stpI s) x)) : EffOf (ss ++ [s]) I (r1 + stpR s) S := by
  have hS' : ∀ x, ge S x = ge (stpI s) x + min (max 0 (tot S1 - stpR s)) (ge S1 x) := fun x => by
    rw [hS x]
    congr 2
    · congr 1
      omega
    · omega
  have tI : tot I = tot I1 + tot (stpI s) := tot_add hI
  have tS0 := h.v.oS.wf.tot0
  have r0 := stpR0 s
  have tS : tot S = tot (stpI s) + max 0 (tot S1 - stpR s) := by
    obtain ⟨z1, hz1⟩ := tot_low S
    obtain ⟨z2, hz2⟩ := tot_low S1
    obtain ⟨z3, hz3⟩ := tot_low (stpI s)
    have e := hS' (min z1 (min z2 z3))
    rw [hz1 _ (by omega), hz2 _ (by omega), hz3 _ (by omega)] at e
    omega
  refine ⟨⟨oI, oS, fun t => ?_, by have := h.v.r0; omega, by have := h.v.tt; omega⟩, fun x => ?_, ?_, fun x => ?_, ?_⟩
  · have a1 := hI t
    have a2 := hI (t + 1)
    have b1 := hS' t
    have b2 := hS' (t + 1)
    have c1 := h.v.le t
    have c2 := h.v.oS.wf.anti (x := t) (y := t + 1) (by omega)
    unfold cnt at c1 ⊢
    omega
  · rw [absE_snoc, hI, h.gI]
    cases s with
    | ins m => show _ = (absE ss).gI x + _; rw [show ge (stpI (.ins m)) x = (if x ≤ m then 1 else 0) + 0 from rfl, Int.add_zero]
    | rem => show _ = (absE ss).gI x; rw [show ge (stpI .rem) x = 0 from rfl, Int.add_zero]
  · rw [absE_snoc, h.er]
    cases s with
    | ins m => show (absE ss).r + 0 = (absE ss).r; omega
    | rem => rfl
  · have p1 := h.v.oS.wf.le_tot x
    have p2 := h.v.oS.wf.ge0 x
    rw [absE_snoc, hS' x, h.gS, ← h.gS]
    cases s with
    | ins m =>
      show _ = (absE ss).gS x + _
      rw [show ge (stpI (.ins m)) x = (if x ≤ m then 1 else 0) + 0 from rfl, ← h.gS, show stpR (.ins m) = 0 from rfl]
      omega
    | rem =>
      show _ = min (max 0 ((absE ss).tS - 1)) ((absE ss).gS x)
      rw [show ge (stpI .rem) x = 0 from rfl, show stpR .rem = 1 from rfl, ← h.gS, ← h.tS]
      omega
  · rw [absE_snoc, tS, h.tS]
    have := h.tS
    cases s with
    | ins m =>
      show _ = (absE ss).tS + 1
      rw [show tot (stpI (.ins m)) = 1 from rfl, show stpR (.ins m) = 0 from rfl]
      omega
    | rem =>
      show _ = max 0 ((absE ss).tS - 1)
      rw [show tot (stpI .rem) = 0 from rfl, show stpR .rem = 1 from rfl]
      omega
end HX

set_option Elab.async false
set_option linter.all false
set_option maxRecDepth 100000
set_option maxHeartbeats 4000000
namespace HX
open PySem PySem.Spec PyProof.Rows L2 Evl
def stpV : Stp → List V
  | .ins n => [.str "insert", .int n, .int 1]
  | .rem => [.str "remove", .int 1]
def IsStp (K : PySem.W.Frag) (H : Hp) (p : Addr) (s : Stp) : Prop := SqT K H p (stpV s) ∧ StpOk s
theorem IsStp.up {K : PySem.W.Frag} {H H' : Hp} {p : Addr} {s : Stp} (e : Ex H H') (h : IsStp K H p s) : IsStp K H' p s := ⟨ex_t e h.1, h.2⟩
def PrgT (K : PySem.W.Frag) (H : Hp) (a : Addr) (ss : List Stp) : Prop := ∃ ps : List Addr, SqT K H a (ps.map V.ref) ∧ Paired (IsStp K H) ps ss
theorem PrgT.up {K : PySem.W.Frag} {H H' : Hp} {a : Addr} {ss : List Stp} (h : PrgT K H a ss) (e : Ex H H') : PrgT K H' a ss := by
  obtain ⟨ps, h1, h2⟩ := h
  exact ⟨ps, ex_t e h1, paired_up (fun _ _ q => q.up e) h2⟩
def IsParts (K : PySem.W.Frag) (H : Hp) (t : Addr) (I : Bg) (r : Int) (S : Bg) : Prop := ∃ i s, SqT K H t [.ref i, .int r, .ref s] ∧ IsBag K H i I ∧ IsBag K H s S
theorem IsParts.up {K : PySem.W.Frag} {H H' : Hp} {t : Addr} {I S : Bg} {r : Int} (h : IsParts K H t I r S) (e : Ex H H') : IsParts K H' t I r S := by
  obtain ⟨i, s, h1, h2, h3⟩ := h
  exact ⟨i, s, ex_t e h1, h2.up e, h3.up e⟩
theorem plt_sq {K : PySem.W.Frag} {H : Hp} {p : Addr} {o : Obj} {xs : List V} : SqT K (upd H p (.frz o (.tup xs))) p xs := .inl (.inr ⟨o, upd_same⟩)
structure Idn (K : PySem.W.Frag) (mg : Str → Option Value) (i : Addr) : Prop where
  gl : mg "IDENTITY" = some (.ref i)
  at_ : ∀ H, IsParts K H i [] 0 []
section
variable {P : Program} {w : World} {K : PySem.W.Frag} {mg : Str → Option Value} {base : Heap}
theorem iteP {c A B : Prop} [Decidable c] (h : c) (a : A) : if c then A else B := by rw [if_pos h]; exact a
theorem iteN {c A B : Prop} [Decidable c] (h : ¬ c) (b : B) : if c then A else B := by rw [if_neg h]; exact b
/-! ### is_step, find_invalid, check_program -/
def spIsStep (K : PySem.W.Frag) : Sp := fun vs H Q _ => ∃ p s d, vs = [.ref p, .int d] ∧ IsStp K H p s ∧ Q (.bl true) H
theorem sc25 : FnScope ["step", "depth", "word", "number", "count", "inner"] ["step", "depth"] (defScope (top 25)) := ⟨rfl, rfl, rfl, by decide +kernel, rfl, by decide +kernel, by decide +kernel⟩
theorem ok_isstep (D : Df K mg "is_step" (top 25) ["step", "depth"]) (T : Nms mg) (G_is_integer : Is P w K mg base CX0 1 "is_integer" ["value"] spInt) (G_is_count : Is P w K mg base CX0 2 "is_count" ["value"] spCnt) : Is P w K mg base CX0 3 "is_step" ["step", "depth"] (spIsStep K) := D.is fun f fd F => by
  refine F.ok sc25 (fun vs H Q E h => ?_) (fun cdv A outer s H vs Q E hr h => ?_)
  · obtain ⟨_, _, _, rfl, _⟩ := h
    rfl
  · obtain ⟨p, s, d, rfl, hS, k⟩ := h
    have nd := sc25.nd
    have hr1 : Room 1 _ := hr.mono (by decide)
    refine ⟨_, (pss_one (ps_match (pv 0) (pm_seq (is := [2, 3, 4]) rfl nd (.cons (.cons (.cons .nil))) (.cons ⟨rfl, rfl⟩ (.cons ⟨rfl, rfl⟩ (.cons ⟨rfl, rfl⟩ .nil))) (pt_cmpR op_eq (pv 2) pe_str (nomark _)) (pss_one (ps_ret (pe_and (pe_callB call_isi (by rfl) T.isinstance bt_isinstance (pa_cons (pv 0) (pa_cons (pe_bltn (v := .ty "tuple") (by rfl) T.tuple bt_tuple rfl) pa_nil))) (pe_and (pe_cal G_is_integer hr1 rfl pass0 (pa_cons (pv 3) pa_nil)) (pe_one (pe_cal G_is_count hr rfl pass0 (pa_cons (pv 4) pa_nil))))))) (pm_seq (is := [2, 4]) rfl nd (.cons (.cons .nil)) (.cons ⟨rfl, rfl⟩ (.cons ⟨rfl, rfl⟩ .nil)) (pt_cmpR op_eq (pv 2) pe_str (nomark _)) (pss_one (ps_ret (pe_and (pe_callB call_isi (by rfl) T.isinstance bt_isinstance (pa_cons (pv 0) (pa_cons (pe_bltn (v := .ty "tuple") (by rfl) T.tuple bt_tuple rfl) pa_nil))) (pe_one (pe_cal G_is_count hr rfl pass0 (pa_cons (pv 4) pa_nil)))))) pm_none)))), ?_⟩
    refine ⟨_, rfl, p, _, rfl, hS.1, ?_⟩
    cases s with
    | ins n =>
      refine iteP (c := (3 : Nat) = 3) rfl ?_
      refine ⟨_, rfl, rfl, _, rfl, iteB (decide_eq_true rfl) ?_⟩
      refine ⟨_, rfl, .ref p, _, _, _, _, rfl, .ty _, ty_tup hS.1, kit_tt, _, rfl, iteT ?_⟩
      exact ⟨_, rfl, n, rfl, _, rfl, iteT ⟨_, rfl, 1, rfl, k⟩⟩
    | rem =>
      refine iteN (c := (2 : Nat) = 3) (by decide) ?_
      refine iteP (c := (2 : Nat) = 2) rfl ?_
      refine ⟨_, rfl, rfl, _, rfl, iteB (decide_eq_true rfl) ?_⟩
      refine ⟨_, rfl, .ref p, _, _, _, _, rfl, .ty _, ty_tup hS.1, kit_tt, _, rfl, iteT ?_⟩
      exact ⟨_, rfl, 1, rfl, k⟩
def spFindI (K : PySem.W.Frag) : Sp := fun vs H Q _ => ∃ a ss d, vs = [.ref a, .int d] ∧ PrgT K H a ss ∧ ∀ H', Ex H H' → Q .non H'
theorem sc26 : FnScope ["program", "depth", "index", "step", "path"] ["program", "depth"] (defScope (top 26)) := ⟨rfl, rfl, rfl, by decide +kernel, rfl, by decide +kernel, by decide +kernel⟩
theorem str_ne {a b : Str} (h : a ≠ b) : decide (V.str a = V.str b) = false := decide_eq_false fun z => h (V.str.inj z)
theorem ok_findi (D : Df K mg "find_invalid" (top 26) ["program", "depth"]) (T : Nms mg) (G_is_step : Is P w K mg base CX0 3 "is_step" ["step", "depth"] (spIsStep K)) : Is P w K mg base CX0 4 "find_invalid" ["program", "depth"] (spFindI K) := D.is fun f fd F => by
  refine F.ok sc26 (fun vs H Q E h => ?_) (fun cdv A outer s H vs Q E hr h => ?_)
  · obtain ⟨_, _, _, rfl, _⟩ := h
    rfl
  · obtain ⟨a, ss, d, rfl, ⟨ps, h1, h2⟩, k⟩ := h
    have nd := sc26.nd
    refine ⟨_, (pss_cons (ps_for PassesOwn.never rfl (pi_enumT (by rfl) T.enumerate (pa_cons (pv 0) pa_nil)) (pg_tup (by rfl) (pgs_cons (pg_name (i := 2) nd rfl (Or.inl rfl)) (pgs_cons (pg_name (i := 3) nd rfl (Or.inl rfl)) pgs_nil))) (pss_cons (ps_if (pt_not (pt_val (pe_cal G_is_step hr rfl pass0 (pa_cons (pv 3) (pa_cons (pv 1) pa_nil))))) (pss_one ps_never) pss_nil)
      (pss_cons (ps_set (i := 4) nd rfl (Or.inl rfl) (pe_ifExp (pt_cmpR op_eq (pe_ix ix_tup (pv 3) pe_int (fun _ _ => rfl)) pe_str (nomark _)) pe_never pe_non))
      (pss_one (ps_if (pt_cmpR op_notN (pv 4) pe_non (nomark _)) (pss_one ps_never) pss_nil)))))
      (pss_one (ps_ret pe_non))), ?_⟩
    refine ⟨_, rfl, a, _, rfl, h1, for_enT (F := IsStp K) (H0 := H) (fun e h => IsStp.up e h) h1 h2 (fun _ _ σ H' => Ex H H' ∧ ∃ v2 v3 v4, σ = [some (.ref a), some (.int d), v2, v3, v4]) ⟨ex_self H, none, none, none, rfl⟩ (fun _ _ _ _ h => h.1) ?_ ?_⟩
    · rintro dn e t p σ H' TT hbd hE ⟨ex, v2, v3, v4, rfl⟩ hT
      have eT := Ex.new (o := .tup [.int (dn.length : Nat), .ref p]) hT
      have hE' := IsStp.up eT hE
      refine ⟨TT, _, rfl, st_of upd_same, rfl, _, _, rfl, _, _, rfl, rfl, ?_⟩
      refine ⟨_, rfl, _, rfl, p, e, d, rfl, hE', _, rfl, iteF ?_⟩
      have fin : ∀ H2, Ex H' H2 → ∃ v2 v3 v4, [some (V.ref a), some (.int d), some (.int (dn.length : Nat)), some (.ref p), some .non] = [some (V.ref a), some (.int d), v2, v3, v4] := fun _ _ => ⟨_, _, _, rfl⟩
      cases e with
      | ins n => exact ⟨_, rfl, p, _, _, V.str "insert", rfl, rfl, hE'.1, rfl, rfl, _, rfl, iteC (str_ne (by decide +kernel)) ⟨_, rfl, rfl, _, rfl, iteF ⟨ex.trans eT, _, _, _, rfl⟩⟩⟩
      | rem => exact ⟨_, rfl, p, _, _, V.str "remove", rfl, rfl, hE'.1, rfl, rfl, _, rfl, iteC (str_ne (by decide +kernel)) ⟨_, rfl, rfl, _, rfl, iteF ⟨ex.trans eT, _, _, _, rfl⟩⟩⟩
    · rintro σ H' ⟨ex, _⟩
      exact k H' ex
def spCkp (K : PySem.W.Frag) : Sp := fun vs H Q _ => ∃ a ss, vs = [.ref a] ∧ PrgT K H a ss ∧ ∀ H', Ex H H' → Q .non H'
theorem sc27 : FnScope ["program", "path"] ["program"] (defScope (top 27)) := ⟨rfl, rfl, rfl, by decide +kernel, rfl, by decide +kernel, by decide +kernel⟩
theorem ok_ckp (D : Df K mg "check_program" (top 27) ["program"]) (T : Nms mg) (G_find_invalid : Is P w K mg base CX0 4 "find_invalid" ["program", "depth"] (spFindI K)) : Is P w K mg base CX0 5 "check_program" ["program"] (spCkp K) := D.is fun f fd F => by
  refine F.ok sc27 (fun vs H Q E h => ?_) (fun cdv A outer s H vs Q E hr h => ?_)
  · obtain ⟨_, _, rfl, _⟩ := h
    rfl
  · obtain ⟨a, ss, rfl, hP, k⟩ := h
    have nd := sc27.nd
    refine ⟨_, (pss_cons (ps_set (i := 1) nd rfl (Or.inl rfl) (pe_ifExp (pt_val (pe_callB call_isi (by rfl) T.isinstance bt_isinstance (pa_cons (pv 0) (pa_cons (pe_bltn (v := .ty "tuple") (by rfl) T.tuple bt_tuple rfl) pa_nil)))) (pe_cal G_find_invalid hr rfl pass0 (pa_cons (pv 0) (pa_cons pe_int pa_nil))) pe_never))
      (pss_one (ps_if (pt_cmpR op_notN (pv 1) pe_non (nomark _)) (pss_one ps_never) pss_nil))), ?_⟩
    obtain ⟨ps, h1, h2⟩ := hP
    refine ⟨_, rfl, .ref a, _, _, _, _, rfl, .ty _, ty_tup h1, kit_tt, _, rfl, iteT ?_⟩
    exact ⟨_, rfl, a, ss, _, rfl, ⟨ps, h1, h2⟩, fun H' e => ⟨_, rfl, rfl, _, rfl, iteF (k H' e)⟩⟩
/-! ### join_parts, step_parts, program_parts, find_fault -/
def spJoin (K : PySem.W.Frag) : Sp := fun vs H Q _ => ∃ t1 t2 I1 r1 S1 I2 r2 S2, vs = [.ref t1, .ref t2] ∧ IsParts K H t1 I1 r1 S1 ∧ IsParts K H t2 I2 r2 S2 ∧ OkB I1 ∧ OkB S1 ∧ OkB I2 ∧ OkB S2 ∧ (∀ t, cnt S2 t ≤ cnt I2 t) ∧ 0 ≤ r2 ∧
  ∀ t I S H', Ex H H' → IsParts K H' t I (r1 + r2) S → OkB I → OkB S → (∀ x, ge I x = ge I1 x + ge I2 x) → (∀ x, ge S x = ge S2 x + min (max 0 (tot S1 + tot I2 - tot S2 - r2)) (ge S1 x + ge I2 x - ge S2 x)) → Q (.ref t) H'
theorem sc30 : FnScope ["first", "second", "inserted", "removals", "survivors", "left"] ["first", "second"] (defScope (top 30)) := ⟨rfl, rfl, rfl, by decide +kernel, rfl, by decide +kernel, by decide +kernel⟩
theorem ok_join (D : Df K mg "join_parts" (top 30) ["first", "second"]) (T : Nms mg) (G_add : Is P w K mg base CX0 2 "add" ["first", "second"] (spAdd K)) (G_subtract : Is P w K mg base CX0 2 "subtract" ["bag", "other"] (spSub K)) (G_drop : Is P w K mg base CX0 1 "drop" ["bag", "count"] (spDrop K)) : Is P w K mg base CX0 3 "join_parts" ["first", "second"] (spJoin K) := D.is fun f fd F => by
  refine F.ok sc30 (fun vs H Q E h => ?_) (fun cdv A outer s H vs Q E hr h => ?_)
  · obtain ⟨_, _, _, _, _, _, _, _, rfl, _⟩ := h
    rfl
  · obtain ⟨t1, t2, I1, r1, S1, I2, r2, S2, rfl, ⟨i1, s1, a1, a2, a3⟩, ⟨i2, s2, b1, b2, b3⟩, o1, o2, o3, o4, hle, hr0, k⟩ := h
    have nd := sc30.nd
    have hr1 : Room 1 _ := hr.mono (by decide)
    refine ⟨_, (pss_cons (ps_asg (pv 1) (pg_tup (by rfl) (pgs_cons (pg_name (i := 2) nd rfl (Or.inl rfl)) (pgs_cons (pg_name (i := 3) nd rfl (Or.inl rfl)) (pgs_cons (pg_name (i := 4) nd rfl (Or.inl rfl)) pgs_nil)))))
      (pss_cons (ps_set (i := 5) nd rfl (Or.inl rfl) (pe_cal G_drop hr1 rfl pass0 (pa_cons (pe_cal G_add hr rfl pass0 (pa_cons (pe_ix ix_tup (pv 0) pe_int (fun _ _ => rfl)) (pa_cons (pe_cal G_subtract hr rfl pass0 (pa_cons (pv 2) (pa_cons (pv 4) pa_nil))) pa_nil))) (pa_cons (pv 3) pa_nil))))
      (pss_one (ps_ret (pe_tupF (pa_cons (pe_cal G_add hr rfl pass0 (pa_cons (pe_ix ix_tup (pv 0) pe_int (fun _ _ => rfl)) (pa_cons (pv 2) pa_nil))) (pa_cons (pe_op op_add (pe_ix ix_tup (pv 0) pe_int (fun _ _ => rfl)) (pv 3)) (pa_cons (pe_cal G_add hr rfl pass0 (pa_cons (pv 4) (pa_cons (pv 5) pa_nil))) pa_nil)))))))), ?_⟩
    refine ⟨_, rfl, t2, _, rfl, b1, rfl, _, _, rfl, _, _, rfl, _, _, rfl, rfl, ?_⟩
    refine ⟨_, rfl, t1, _, _, .ref s1, rfl, rfl, a1, rfl, _, rfl, _, rfl, i2, s2, I2, S2, rfl, b2, b3, o3, o4, hle, fun c1 C1 H1 e1 hc1 ⟨p1, p2⟩ => ?_⟩
    refine ⟨s1, c1, S1, C1, rfl, a3.up e1, hc1, o2, p1, fun c2 C2 H2 e2 hc2 ⟨p3, p4⟩ => ?_⟩
    refine ⟨_, rfl, c2, C2, r2, rfl, hc2, p3.len1000, fun c3 C3 H3 e3 hc3 p5 => ?_⟩
    have E3 := (e1.trans e2).trans e3
    refine ⟨_, rfl, t1, _, _, .ref i1, rfl, rfl, ex_t E3 a1, rfl, _, rfl, i1, i2, I1, I2, rfl, a2.up E3, b2.up E3, o1, o3, fun c4 C4 H4 e4 hc4 ⟨p6, p7⟩ => ?_⟩
    refine ⟨_, rfl, t1, _, _, .int r1, rfl, rfl, ex_t (E3.trans e4) a1, rfl, _, rfl, _, _, rfl, rfl, ?_⟩
    have E4 := E3.trans e4
    have o5 : OkB C3 := by rw [p5]; exact okB_drop p3 _
    refine ⟨_, rfl, _, rfl, s2, c3, S2, C3, rfl, b3.up E4, hc3.up e4, o4, o5, fun c5 C5 H5 e5 hc5 ⟨p8, p9⟩ => ?_⟩
    refine ⟨(by show 3 ≤ sizeLine; decide), fun q o hq hpl => ?_⟩
    have e6 := Ex.new (o := .frz o (.tup [.ref c4, .int (r1 + r2), .ref c5])) hq
    refine k q C4 C5 _ ((E4.trans e5).trans e6) ⟨c4, c5, plt_sq, hc4.up (e5.trans e6), hc5.up e6⟩ p6 p8 p7 fun x => ?_
    rw [p9, p5, dropB_ge p3.wf hr0, p4, p2]
    have tC1 : tot C1 = tot I2 - tot S2 := by
      obtain ⟨z1, hz1⟩ := tot_low C1
      obtain ⟨z2, hz2⟩ := tot_low I2
      obtain ⟨z3, hz3⟩ := tot_low S2
      have e := p2 (min z1 (min z2 z3))
      rw [hz1 _ (by omega), hz2 _ (by omega), hz3 _ (by omega)] at e
      exact e
    have tC2 : tot C2 = tot S1 + tot C1 := tot_add p4
    rw [tC2, tC1]
    congr 2
    · congr 1
      omega
    · omega
def spStp (K : PySem.W.Frag) : Sp := fun vs H Q _ => ∃ p s, vs = [.ref p] ∧ IsStp K H p s ∧ ∀ t H', Ex H H' → IsParts K H' t (stpI s) (stpR s) (stpI s) → Q (.ref t) H'
theorem sc32 : FnScope ["step", "word", "number", "count", "bag", "inner"] ["step"] (defScope (top 32)) := ⟨rfl, rfl, rfl, by decide +kernel, rfl, by decide +kernel, by decide +kernel⟩
theorem ok_stp (D : Df K mg "step_parts" (top 32) ["step"]) (T : Nms mg) (G_scale : Is P w K mg base CX0 1 "scale" ["bag", "count"] (spScale K)) : Is P w K mg base CX0 2 "step_parts" ["step"] (spStp K) := D.is fun f fd F => by
  refine F.ok sc32 (fun vs H Q E h => ?_) (fun cdv A outer s H vs Q E hr h => ?_)
  · obtain ⟨_, _, rfl, _⟩ := h
    rfl
  · obtain ⟨p, s, rfl, hS, k⟩ := h
    have nd := sc32.nd
    refine ⟨_, (pss_one (ps_match (pv 0) (pm_seq (is := [1, 2, 3]) rfl nd (.cons (.cons (.cons .nil))) (.cons ⟨rfl, rfl⟩ (.cons ⟨rfl, rfl⟩ (.cons ⟨rfl, rfl⟩ .nil))) (pt_cmpR op_eq (pv 1) pe_str (nomark _)) (pss_cons (ps_set (i := 4) nd rfl (Or.inl rfl) (pe_cal G_scale hr rfl pass0 (pa_cons (pe_tupF (pa_cons (pe_tupF (pa_cons (pv 2) (pa_cons pe_int pa_nil))) pa_nil)) (pa_cons (pv 3) pa_nil))))
      (pss_one (ps_ret (pe_tupF (pa_cons (pv 4) (pa_cons pe_int (pa_cons (pv 4) pa_nil))))))) (pm_seq0 (is := [1, 3]) rfl nd (.cons (.cons .nil)) (.cons ⟨rfl, rfl⟩ (.cons ⟨rfl, rfl⟩ .nil)) (pss_one (ps_ret (pe_tupF (pa_cons (pe_tupF pa_nil) (pa_cons (pv 3) (pa_cons (pe_tupF pa_nil) pa_nil)))))) pm_none)))), ?_⟩
    refine ⟨_, rfl, p, _, rfl, hS.1, ?_⟩
    cases s with
    | ins n =>
      refine iteP (c := (3 : Nat) = 3) rfl ?_
      refine ⟨_, rfl, rfl, _, rfl, iteB (decide_eq_true rfl) ?_⟩
      refine ⟨_, rfl, (by show 2 ≤ sizeLine; decide), fun q o hq hpl => ⟨(by show 1 ≤ sizeLine; decide), fun q2 o2 hq2 hpl2 => ⟨_, rfl, q2, 1, n, rfl, ?_, fun c C H1 e1 hc pc => ?_⟩⟩⟩
      · exact ⟨[q], plt_new hpl2, .cons (ex_t (Ex.new hq2) plt_sq) .nil⟩
      · have e2 : Ex H H1 := ((Ex.new hq).trans (Ex.new hq2)).trans e1
        rw [if_pos (by decide)] at pc
        subst pc
        refine ⟨_, rfl, _, rfl, (by show 3 ≤ sizeLine; decide), fun q3 o3 hq3 hpl3 => k q3 _ (e2.trans (Ex.new hq3)) ⟨c, c, plt_sq, hc.up (Ex.new hq3), hc.up (Ex.new hq3)⟩⟩
    | rem =>
      refine iteN (c := (2 : Nat) = 3) (by decide) ?_
      refine iteP (c := (2 : Nat) = 2) rfl ?_
      refine ⟨(by show 0 ≤ sizeLine; decide), fun q o hq hpl => ⟨_, rfl, (by show 0 ≤ sizeLine; decide), fun q2 o2 hq2 hpl2 => ⟨(by show 3 ≤ sizeLine; decide), fun q3 o3 hq3 hpl3 => ?_⟩⟩⟩
      exact k q3 _ (((Ex.new hq).trans (Ex.new hq2)).trans (Ex.new hq3)) ⟨q, q2, plt_sq, (bag_nil hpl).up ((Ex.new hq2).trans (Ex.new hq3)), (bag_nil hpl2).up (Ex.new hq3)⟩
def spPrg (K : PySem.W.Frag) : Sp := fun vs H Q _ => ∃ a ss, vs = [.ref a] ∧ PrgT K H a ss ∧ ∀ t I r S H', Ex H H' → IsParts K H' t I r S → EffOf ss I r S → Q (.ref t) H'
theorem sc33 : FnScope ["program", "parts", "step"] ["program"] (defScope (top 33)) := ⟨rfl, rfl, rfl, by decide +kernel, rfl, by decide +kernel, by decide +kernel⟩
theorem ok_prg {idn : Addr} (D : Df K mg "program_parts" (top 33) ["program"]) (T : Nms mg) (TI : Idn K mg idn) (G_join_parts : Is P w K mg base CX0 3 "join_parts" ["first", "second"] (spJoin K)) (G_step_parts : Is P w K mg base CX0 2 "step_parts" ["step"] (spStp K)) : Is P w K mg base CX0 4 "program_parts" ["program"] (spPrg K) := D.is fun f fd F => by
  refine F.ok sc33 (fun vs H Q E h => ?_) (fun cdv A outer s H vs Q E hr h => ?_)
  · obtain ⟨_, _, rfl, _⟩ := h
    rfl
  · obtain ⟨a, ss, rfl, hP, k⟩ := h
    have nd := sc33.nd
    have hr1 : Room 2 _ := hr.mono (by decide)
    obtain ⟨ps, h1, h2⟩ := hP
    refine ⟨_, (pss_cons (ps_set (i := 1) nd rfl (Or.inl rfl) (pe_glob (v := .ref idn) rfl TI.gl rfl))
      (pss_cons (ps_for PassesOwn.never rfl (pi_tup (pv 0)) (pg_name (i := 2) nd rfl (Or.inl rfl)) (pss_one (ps_set (i := 1) nd rfl (Or.inl rfl) (pe_cal G_join_parts hr rfl pass0 (pa_cons (pv 1) (pa_cons (pe_cal G_step_parts hr1 rfl pass0 (pa_cons (pv 2) pa_nil)) pa_nil))))))
      (pss_one (ps_ret (pv 1))))), ?_⟩
    refine ⟨_, rfl, a, rfl, ⟨_, h1⟩, for_tupP (F := IsStp K) (H0 := H) (fun e h => IsStp.up e h) h1 h2 (fun d _ σ H' => Ex H H' ∧ ∃ t I r S v, σ = [some (.ref a), some (.ref t), v] ∧ IsParts K H' t I r S ∧ EffOf d I r S) ⟨ex_self H, idn, [], 0, [], none, rfl, TI.at_ H, EffOf.zero⟩ (fun _ _ _ _ h => h.1) ?_ ?_⟩
    · rintro d e tl p σ H' hbd hE ⟨ex, t, I, r, S, v, rfl, hp, he⟩
      refine ⟨_, rfl, _, rfl, p, e, rfl, hE, fun t2 H1 e1 hp2 => ?_⟩
      refine ⟨t, t2, I, r, S, stpI e, stpR e, stpI e, rfl, hp.up e1, hp2, he.v.oI, he.v.oS, stpI_ok hE.2, stpI_ok hE.2, fun _ => Int.le_refl _, stpR0 e, fun t3 I3 S3 H2 e2 hp3 oI oS gI gS => ?_⟩
      exact ⟨(ex.trans e1).trans e2, t3, I3, _, S3, _, rfl, hp3, he.step oI oS gI gS⟩
    · rintro σ H' ⟨ex, t, I, r, S, v, rfl, hp, he⟩
      exact ⟨_, rfl, k t I r S H' ex hp he⟩
def spFault (K : PySem.W.Frag) : Sp := fun vs H Q _ => ∃ i s I r S, vs = [.ref i, .int r, .ref s] ∧ IsBag K H i I ∧ IsBag K H s S ∧ Vld I r S ∧ ∀ H', Ex H H' → Q .non H'
theorem sc34 : FnScope ["inserted", "removals", "survivors", "consumed"] ["inserted", "removals", "survivors"] (defScope (top 34)) := ⟨rfl, rfl, rfl, by decide +kernel, rfl, by decide +kernel, by decide +kernel⟩
theorem tot_sub {I S C : Bg} (h : ∀ x, ge C x = ge I x - ge S x) : tot C = tot I - tot S := by
  obtain ⟨z1, hz1⟩ := tot_low C
  obtain ⟨z2, hz2⟩ := tot_low I
  obtain ⟨z3, hz3⟩ := tot_low S
  have e := h (min z1 (min z2 z3))
  rw [hz1 _ (by omega), hz2 _ (by omega), hz3 _ (by omega)] at e
  exact e
theorem ok_fault (D : Df K mg "find_fault" (top 34) ["inserted", "removals", "survivors"]) (T : Nms mg) (G_subtract : Is P w K mg base CX0 2 "subtract" ["bag", "other"] (spSub K)) (G_total : Is P w K mg base CX0 1 "total" ["bag"] (spTot K)) : Is P w K mg base CX0 3 "find_fault" ["inserted", "removals", "survivors"] (spFault K) := D.is fun f fd F => by
  refine F.ok sc34 (fun vs H Q E h => ?_) (fun cdv A outer s H vs Q E hr h => ?_)
  · obtain ⟨_, _, _, _, _, rfl, _⟩ := h
    rfl
  · obtain ⟨i, s, I, r, S, rfl, h1, h2, v, k⟩ := h
    have nd := sc34.nd
    have hr1 : Room 1 _ := hr.mono (by decide)
    refine ⟨_, (pss_cons (ps_set (i := 3) nd rfl (Or.inl rfl) (pe_cal G_subtract hr rfl pass0 (pa_cons (pv 0) (pa_cons (pv 2) pa_nil))))
      (pss_cons (ps_if (pt_cmpR op_isN (pv 3) pe_non (nomark _)) (pss_one (ps_ret pe_str)) pss_nil)
      (pss_one (ps_ret (pe_ifExp (pt_cmpR op_gt (pe_cal G_total hr1 rfl pass0 (pa_cons (pv 3) pa_nil)) (pv 1) (nomark _)) pe_str pe_non))))), ?_⟩
    refine ⟨_, rfl, _, rfl, i, s, I, S, rfl, h1, h2, v.oI, v.oS, v.le, fun c C H1 e1 hc ⟨p1, p2⟩ => ?_⟩
    refine ⟨_, rfl, rfl, _, rfl, iteF ?_⟩
    refine ⟨_, rfl, c, C, rfl, hc, p1.len1000, fun H2 e2 => ⟨_, rfl, _, _, rfl, rfl, _, rfl, ?_⟩⟩
    refine iteC (decide_eq_false ?_) (k H2 (e1.trans e2))
    rw [tot_sub p2]
    have := v.tt
    omega
end
end HX

set_option Elab.async false
set_option linter.all false
set_option maxRecDepth 100000
set_option maxHeartbeats 4000000
namespace HX
open PySem PySem.Spec PyProof.Rows L2 Evl
/-! ### methods, properties, == of the class Effect -/
structure EfC (K : PySem.W.Frag) (mg : Str → Option Value) (C : Addr) : Prop where
  cl : Cls K C
  op : NoAttr K C "own_parts"
  gl : mg "Effect" = some (.ref C)
  isc : C8.InsC K C
structure DfM (K : PySem.W.Frag) (C : Addr) (m q : Str) (st : Stmt) (ps : List Str) : Prop where
  ex : ∃ (f : Addr) (fd : FuncData), Fun K m q st f fd ∧ Meth K C m f ∧ Binds K fd ps []
structure IsM (P : Program) (w : World) (K : PySem.W.Frag) (mg : Str → Option Value) (base : Heap) (CX : CXT) (k : Nat) (C : Addr) (m : Str) (ps : List Str) (sp : Sp) : Prop where
  ex : ∃ (f : Addr) (fd : FuncData), FnOk P w K mg base CX k f fd ps sp ∧ Meth K C m f ∧ Binds K fd ps []
theorem DfM.is {P : Program} {w : World} {K : PySem.W.Frag} {mg : Str → Option Value} {base : Heap} {CX : CXT} {k : Nat} {C : Addr} {m q : Str} {st : Stmt} {ps : List Str} {sp : Sp} (D : DfM K C m q st ps) (h : ∀ f fd, Fun K m q st f fd → FnOk P w K mg base CX k f fd ps sp) : IsM P w K mg base CX k C m ps sp := by
  obtain ⟨f, fd, F, h1, h2⟩ := D.ex
  exact ⟨f, fd, h f fd F, h1, h2⟩
structure DfP (K : PySem.W.Frag) (C : Addr) (m q : Str) (st : Stmt) : Prop where
  ex : ∃ (p g : Addr) (fd : FuncData), Fun K m q st g fd ∧ PropOf K C m p g ∧ Binds K fd ["self"] []
structure IsP (P : Program) (w : World) (K : PySem.W.Frag) (mg : Str → Option Value) (base : Heap) (k : Nat) (C : Addr) (m : Str) (sp : Sp) : Prop where
  ex : ∃ (p g : Addr) (fd : FuncData), FnOk P w K mg base CX0 k g fd ["self"] sp ∧ PropOf K C m p g ∧ Binds K fd ["self"] []
theorem DfP.is {P : Program} {w : World} {K : PySem.W.Frag} {mg : Str → Option Value} {base : Heap} {k : Nat} {C : Addr} {m q : Str} {st : Stmt} {sp : Sp} (D : DfP K C m q st) (h : ∀ f fd, Fun K m q st f fd → FnOk P w K mg base CX0 k f fd ["self"] sp) : IsP P w K mg base k C m sp := by
  obtain ⟨p, g, fd, F, h1, h2⟩ := D.ex
  exact ⟨p, g, fd, h g fd F, h1, h2⟩
/-- making an Effect -/
structure DfI (K : PySem.W.Frag) (C : Addr) (q : Str) (st : Stmt) (ps : List Str) : Prop where
  ex : ∃ (f : Addr) (fd : FuncData), Fun K "__init__" q st f fd ∧ Mk K C f ∧ Binds K fd ps []
structure IsI (P : Program) (w : World) (K : PySem.W.Frag) (mg : Str → Option Value) (base : Heap) (k : Nat) (C : Addr) (ps : List Str) (sp : Sp) : Prop where
  ex : ∃ (f : Addr) (fd : FuncData), FnOk P w K mg base CX0 k f fd ps sp ∧ Mk K C f ∧ Binds K fd ps []
/-- a classmethod -/
structure DfC (K : PySem.W.Frag) (C : Addr) (mc : Value) (m q : Str) (st : Stmt) (ps : List Str) : Prop where
  rd : ClX.CRead K C mc
  ex : ∃ (p g : Addr) (fd : FuncData), Fun K m q st g fd ∧ ClX.CMet K C mc m p g ∧ Binds K fd ps []
structure IsC (P : Program) (w : World) (K : PySem.W.Frag) (mg : Str → Option Value) (base : Heap) (k : Nat) (C : Addr) (mc : Value) (m : Str) (sp : Sp) : Prop where
  rd : ClX.CRead K C mc
  ex : ∃ (p g : Addr), FnR P w K mg base CX0 k g sp ∧ ClX.CMet K C mc m p g
section
variable {X : Cx} {CX : CXT} {k : Nat} {C : Addr} {m x : Str} {mc : Value} {ps : List Str} {sp : Sp} {E : XK} {o e : Expr} {es : List Expr} {ta : TE} {t : TA} {p pos apos : Pos}
theorem pe_cm {pl : Sem Bool} (G : IsM X.prog X.w X.K X.mg X.base CX k C m ps sp) (c : Cls X.K C) (hr : Room k X.A) (hx : Passes CX X E) (he : PE X o ta) (ha : PA X (e :: es) t)
    (hst : starEach (e :: es) X.env = (false, eval e X.env) :: starEach es X.env := by rfl) (hpl : (backTo pos (starEach es X.env)).any (·.1) = false := by rfl)
    (ht : eval (.Call (.Attribute o m apos) (e :: es) [] pos) X.env = (do
      let ov ← eval o X.env
      standAt apos.atName
      let (f, first) ← holding [ov] (getMethod ov m pl)
      callWith pos f first (backTo pos (starEach (e :: es) X.env)) (backToKw pos (keywordEach [] X.env))) := by rfl) :
    PE X (.Call (.Attribute o m apos) (e :: es) [] pos) (tMeth C m sp [] E ta t) := by
  obtain ⟨f, fd, F, hm, hb⟩ := G.ex
  exact pe_meth (pl := pl) he c hm F hr hb .nil hx ha hst hpl ht
theorem pe_pr (G : IsP X.prog X.w X.K X.mg X.base k C m sp) (c : Cls X.K C) (hr : Room (k + 1) X.A) (he : PE X o ta) (hab : attributeBase o m X.env (eval o X.env) = eval o X.env := by rfl) :
    PE X (.Attribute o m pos) (tProp C sp [] E0 ta) := by
  obtain ⟨pp, g, fd, F, hp, hb⟩ := G.ex
  exact pe_prop he c hp F hr hb .nil pass0 hab
theorem pe_mkI (G : IsI X.prog X.w X.K X.mg X.base k C ps sp) (hr : Room (k + 1) X.A) (hg : Gl X x) (hm : X.mg x = some (.ref C)) (ha : PA X (e :: es) t)
    (hdb : (x == ("__debug__" : Str)) = false := by decide) (he : starEach (e :: es) X.env = (false, eval e X.env) :: starEach es X.env := by rfl) (hpl : (backTo pos (starEach es X.env)).any (·.1) = false := by rfl) :
    PE X (.Call (.Name x p) (e :: es) [] pos) (tMake C sp [] E0 t) := by
  obtain ⟨f, fd, F, hM, hb⟩ := G.ex
  exact pe_make hM F hr hg hm hb .nil pass0 ha hdb he hpl
theorem pe_mkL {i : Nat} (G : IsI X.prog X.w X.K X.mg X.base k C ps sp) (hr : Room (k + 1) X.A) (hN : X.N[i]? = some x) (hv : Vis X.env.scope x) (ha : PA X (e :: es) t)
    (hdb : (x == ("__debug__" : Str)) = false := by decide) (hcd : (x == ("__classdict__" : Str)) = false := by decide)
    (he : starEach (e :: es) X.env = (false, eval e X.env) :: starEach es X.env := by rfl) (hpl : (backTo pos (starEach es X.env)).any (·.1) = false := by rfl) :
    PE X (.Call (.Name x p) (e :: es) [] pos) (tMakeL i C sp E0 t) := by
  obtain ⟨f, fd, F, hM, hb⟩ := G.ex
  exact pe_makeL hM F hr hN hv hb pass0 ha hdb hcd he hpl
theorem pe_ccm {pl : Sem Bool} (G : IsC X.prog X.w X.K X.mg X.base k C mc m sp) (hr : Room k X.A) (he : PE X o ta) (ha : PA X (e :: es) t)
    (hst : starEach (e :: es) X.env = (false, eval e X.env) :: starEach es X.env := by rfl) (hpl : (backTo pos (starEach es X.env)).any (·.1) = false := by rfl)
    (ht : eval (.Call (.Attribute o m apos) (e :: es) [] pos) X.env = (do
      let ov ← eval o X.env
      standAt apos.atName
      let (f, first) ← holding [ov] (getMethod ov m pl)
      callWith pos f first (backTo pos (starEach (e :: es) X.env)) (backToKw pos (keywordEach [] X.env))) := by rfl) :
    PE X (.Call (.Attribute o m apos) (e :: es) [] pos) (ClX.tCMeth C sp E0 ta t) := by
  obtain ⟨pp, g, F, hc⟩ := G.ex
  exact ClX.pe_cmeth (pl := pl) he G.rd hc F hr pass0 ha hst hpl ht
/-- a == b, instances of a class with its own __eq__ that answers a bool -/
def rEqI (C : Addr) (sp : Sp) : R2 := fun x y H Q => ∃ a b dx dy fs gs, x = .ref a ∧ y = .ref b ∧ H a = some (.ins C dx fs) ∧ H b = some (.ins C dy gs) ∧ sp [.ref a, .ref b] H (fun v H' => (∃ k, v = .bl k) ∧ Q v H') E0
theorem op_eqI {n : Nat} (G : IsM X.prog X.w X.K X.mg X.base CX0 n C "__eq__" ps sp) (hr : Room n X.A) : OpR X (compareOp .Eq) (rEqI C sp) := by
  intro pins s σ H x y u v Q I rx ry d
  obtain ⟨f, fd, F, hm, hb⟩ := G.ex
  obtain ⟨a, b, dx, dy, fs, gs, rfl, rfl, ha, hb', hsp⟩ := d
  cases rx
  cases ry
  obtain ⟨mA, J, _⟩ := ins_get I.hok ha
  obtain ⟨mB, J', _⟩ := ins_get I.hok hb'
  obtain ⟨od, J, _⟩ := J.look
  obtain ⟨od', J', _⟩ := J'.look
  obtain ⟨m, hF⟩ := I.fr
  show wpAny (model X.prog X.w) X.A (richCompare .Eq (.ref a) (.ref b)) (EP X pins σ Q) X.xe s
  refine PySem.W.cmp_K (op := .Eq) (tb := .ref C) hr.units0 hF I.ok.mod.kin J J'.type (by simp [PySem.W.notFirst]) hm.at_ hm.fn ?_
  have hl := F.len _ _ _ _ hsp
  have r2 : Vals [V.ref a, V.ref b] [Value.ref a, Value.ref b] := .cons rfl (.cons rfl .nil)
  refine wpAny_call (codeAny_mono (F.run X.A X.stack s H ⟨[.ref a, .ref b], []⟩ [.ref a, .ref b] [.ref a, .ref b] _ E0 hr I.env0 (by
    have := hb s [.ref a, .ref b] I.kIn (by simpa using hl)
    simpa using this) r2 hsp) fun r s' hq => ?_)
  cases r with
  | error e => exact pass0 pins σ H s e s' I hq
  | ok fl =>
    cases fl with
    | ret w =>
      obtain ⟨z, H', I', rz, ⟨k, ez⟩, q⟩ := I.after hq
      subst ez
      cases rz
      exact ⟨.bl k, H', I', rfl, q⟩
    | next => exact False.elim hq
    | brk => exact False.elim hq
    | cont => exact False.elim hq
end
/-! ### effects in the heap -/
def IsEff (K : PySem.W.Frag) (C : Addr) (H : Hp) (e : Addr) (I : Bg) (r : Int) (S : Bg) : Prop := ∃ dx t, H e = some (.ins C dx [("own_parts", .ref t)]) ∧ IsParts K H t I r S
theorem IsEff.up {K : PySem.W.Frag} {C : Addr} {H H' : Hp} {e : Addr} {I S : Bg} {r : Int} (h : IsEff K C H e I r S) (x : Ex H H') : IsEff K C H' e I r S := by
  obtain ⟨dx, t, h1, h2⟩ := h
  exact ⟨dx, t, x _ _ h1, h2.up x⟩
/-- all but one place -/
def Ex1 (e : Addr) (H H' : Hp) : Prop := ∀ b o, b ≠ e → H b = some o → H' b = some o
section
variable {w : World} {K : PySem.W.Frag} {mg : Str → Option Value} {base : Heap} {C : Addr}
def spInitE (K : PySem.W.Frag) (C : Addr) : Sp := fun vs H Q _ => ∃ e i s dx I r S, vs = [.ref e, .ref i, .int r, .ref s] ∧ H e = some (.ins C dx []) ∧ IsBag K H i I ∧ IsBag K H s S ∧ Vld I r S ∧ ∀ H', Ex1 e H H' → IsEff K C H' e I r S → Q .non H'
theorem sc351 : FnScope ["self", "inserted", "removals", "survivors", "fault"] ["self", "inserted", "removals", "survivors"] (defScope (inClass (top 35) 1)) := ⟨rfl, rfl, rfl, by decide +kernel, rfl, by decide +kernel, by decide +kernel⟩
theorem dne {H : Hp} {a : Addr} {C dx : Addr} {fs : List (Str × V)} {K : PySem.W.Frag} {xs : List V} (h : H a = some (.ins C dx fs)) {p : Addr} {o : Obj} (hp : H p = some (.frz o (.tup xs))) : p ≠ a := fun z => by
  rw [z, h] at hp
  cases hp
theorem bag_at1 {H H' : Hp} {e C dx : Addr} {fs : List (Str × V)} (he : H e = some (.ins C dx fs)) (hk : Ex1 e H H') {a : Addr} {b : Bg} (h : IsBag K H a b) : IsBag K H' a b := by
  obtain ⟨ps, h1, h2⟩ := h
  refine ⟨ps, ?_, paired_up (fun p x q => ?_) h2⟩
  · rcases h1 with ⟨o, h, p⟩ | h
    · exact .inl ⟨o, hk _ _ (fun z => by rw [z, he] at h; cases h) h, p⟩
    · exact .inr h
  · rcases q with (h | ⟨o, h⟩) | h
    · exact .inl (.inl (hk _ _ (fun z => by rw [z, he] at h; cases h) h))
    · exact .inl (.inr ⟨o, hk _ _ (fun z => by rw [z, he] at h; cases h) h⟩)
    · exact .inr h
theorem ok_initE (D : DfI K C "Effect.__init__" (inClass (top 35) 1) ["self", "inserted", "removals", "survivors"]) (T : Nms mg) (TE : EfC K mg C) (G_check_bag : Is PW w K mg base CX0 3 "check_bag" ["value"] (spCkb K)) (G_check_count : Is PW w K mg base CX0 3 "check_count" ["value"] spCkc) (G_find_fault : Is PW w K mg base CX0 3 "find_fault" ["inserted", "removals", "survivors"] (spFault K)) : IsI PW w K mg base 4 C ["self", "inserted", "removals", "survivors"] (spInitE K C) := by
  obtain ⟨f, fd, F, hM, hb⟩ := D.ex
  refine ⟨f, fd, ?_, hM, hb⟩
  refine F.ok sc351 (fun vs H Q E h => ?_) (fun cdv A outer s H vs Q E hr h => ?_)
  · obtain ⟨_, _, _, _, _, _, _, rfl, _⟩ := h
    rfl
  · obtain ⟨e, i, s, dx, I, r, S, rfl, he, hI, hS, v, k⟩ := h
    have nd := sc351.nd
    refine ⟨_, (pss_cons (ps_expr (pe_cal G_check_bag hr rfl pass0 (pa_cons (pv 1) pa_nil)))
      (pss_cons (ps_expr (pe_cal G_check_count hr rfl pass0 (pa_cons (pv 2) pa_nil)))
      (pss_cons (ps_expr (pe_cal G_check_bag hr rfl pass0 (pa_cons (pv 3) pa_nil)))
      (pss_cons (ps_set (i := 4) nd rfl (Or.inl rfl) (pe_cal G_find_fault hr rfl pass0 (pa_cons (pv 1) (pa_cons (pv 2) (pa_cons (pv 3) pa_nil)))))
      (pss_cons (ps_if (pt_cmpR op_notN (pv 4) pe_non (nomark _)) (pss_one ps_never) pss_nil)
      (pss_one (ps_fld (pv 0) (pe_tupF (pa_cons (pv 1) (pa_cons (pv 2) (pa_cons (pv 3) pa_nil)))) rfl))))))), ?_⟩
    refine ⟨_, rfl, i, I, rfl, hI, v.oI.wf, v.oI.len1000, fun H1 e1 => ⟨_, rfl, r, rfl, v.r0, ?_⟩⟩
    refine ⟨_, rfl, s, S, rfl, hS.up e1, v.oS.wf, v.oS.len1000, fun H2 e2 => ?_⟩
    refine ⟨_, rfl, _, rfl, _, rfl, i, s, I, r, S, rfl, hI.up (e1.trans e2), hS.up (e1.trans e2), v, fun H3 e3 => ?_⟩
    refine ⟨_, rfl, rfl, _, rfl, iteF ?_⟩
    refine ⟨_, rfl, _, rfl, _, rfl, (by show 3 ≤ sizeLine; decide), fun t o ht hpl => ?_⟩
    have E3 := (e1.trans e2).trans e3
    have e4 := E3.trans (Ex.new (o := .frz o (.tup [.ref i, .int r, .ref s])) ht)
    have he4 := e4 _ _ he
    refine ⟨_, rfl, e, C, dx, _, rfl, he4, TE.cl, TE.op, (by show 0 < 1000; decide), ?_⟩
    have hk : Ex1 e (upd H3 t (.frz o (.tup [.ref i, .int r, .ref s]))) (upd (upd H3 t (.frz o (.tup [.ref i, .int r, .ref s]))) e (.ins C dx [("own_parts", .ref t)])) := fun b o hb h => by
      rw [upd_ne hb]
      exact h
    have hte : t ≠ e := fun z => by
      rw [z, E3 _ _ he] at ht
      cases ht
    refine k _ (fun b o hb h => hk b o hb (e4 _ _ h)) ⟨dx, t, upd_same, i, s, .inl (.inr ⟨o, by rw [upd_ne hte]; exact upd_same⟩), bag_at1 he4 hk (hI.up e4), bag_at1 he4 hk (hS.up e4)⟩
end
end HX

set_option Elab.async false
set_option linter.all false
set_option maxRecDepth 100000
set_option maxHeartbeats 4000000
namespace HX
open PySem PySem.Spec PyProof.Rows L2 Evl
section
variable {w : World} {K : PySem.W.Frag} {mg : Str → Option Value} {base : Heap} {C Ce fIe cce cde : Addr}
theorem mk_use {H1 : Hp} {x dx i s : Addr} {I S : Bg} {r : Int} {Q : VK} {E : XK} (hx : H1 x = none) (hd : H1 dx = none) (hne : dx ≠ x) (hI : IsBag K H1 i I) (hS : IsBag K H1 s S) (v : Vld I r S)
    (k : ∀ e H', Ex H1 H' → IsEff K C H' e I r S → Q (.ref e) H') : spInitE K C (.ref x :: ([.ref i, .int r, .ref s] ++ [])) (upd (upd H1 dx (.own x)) x (.ins C dx [])) (fun v H2 => v = .non ∧ Q (.ref x) H2) E := by
  have e1 : Ex H1 (upd (upd H1 dx (.own x)) x (.ins C dx [])) := fun b o h => by
    rw [upd_ne (ne_of_none h hx), upd_ne (ne_of_none h hd)]
    exact h
  exact ⟨x, i, s, dx, I, r, S, rfl, upd_same, hI.up e1, hS.up e1, v, fun H' hk he => ⟨rfl, k x H' (fun b o h => hk b o (ne_of_none h hx) (e1 b o h)) he⟩⟩
theorem lk_op (t : Addr) : List.lookup ("own_parts" : Str) [(("own_parts" : Str), V.ref t)] = some (.ref t) := by simp
/-! ### of -/
def spOf (K : PySem.W.Frag) (C : Addr) : Sp := fun vs H Q _ => ∃ a ss, vs = [.ref C, .ref a] ∧ PrgT K H a ss ∧ ∀ e I r S H', Ex H H' → IsEff K C H' e I r S → EffOf ss I r S → Q (.ref e) H'
theorem sc353 : FnScope ["cls", "program", "inserted", "removals", "survivors"] ["cls", "program"] (defScope (inClass (top 35) 3)) := ⟨rfl, rfl, rfl, by decide +kernel, rfl, by decide +kernel, by decide +kernel⟩
theorem ok_of {mc : Value} (D : DfC K C mc "of" "Effect.of" (inClass (top 35) 3) ["cls", "program"]) (T : Nms mg) (G_check_program : Is PW w K mg base CX0 5 "check_program" ["program"] (spCkp K)) (G_program_parts : Is PW w K mg base CX0 4 "program_parts" ["program"] (spPrg K)) (GI : IsI PW w K mg base 4 C ["self", "inserted", "removals", "survivors"] (spInitE K C)) : IsC PW w K mg base 6 C mc "of" (spOf K C) := by
  obtain ⟨p, g, fd, F, hc, hb⟩ := D.ex
  refine ⟨D.rd, p, g, ?_, hc⟩
  have key : FnOk PW w K mg base CX0 6 g fd ["cls", "program"] (spOf K C) := by
    refine F.ok sc353 (fun vs H Q E h => ?_) (fun cdv A outer s H vs Q E hr h => ?_)
    · obtain ⟨_, _, rfl, _⟩ := h
      rfl
    · obtain ⟨a, ss, rfl, hP, k⟩ := h
      have nd := sc353.nd
      have hr1 : Room 4 _ := hr.mono (by decide)
      refine ⟨_, (pss_cons (ps_expr (pe_cal G_check_program hr rfl pass0 (pa_cons (pv 1) pa_nil)))
      (pss_cons (ps_asg (pe_cal G_program_parts hr1 rfl pass0 (pa_cons (pv 1) pa_nil)) (pg_tup (by rfl) (pgs_cons (pg_name (i := 2) nd rfl (Or.inl rfl)) (pgs_cons (pg_name (i := 3) nd rfl (Or.inl rfl)) (pgs_cons (pg_name (i := 4) nd rfl (Or.inl rfl)) pgs_nil)))))
      (pss_one (ps_ret (pe_mkL (i := 0) GI hr rfl (Or.inl rfl) (pa_cons (pv 2) (pa_cons (pv 3) (pa_cons (pv 4) pa_nil)))))))), ?_⟩
      refine ⟨_, rfl, a, ss, rfl, hP, fun H1 e1 => ?_⟩
      refine ⟨_, rfl, a, ss, rfl, hP.up e1, fun t I r S H2 e2 ⟨i, s, h1, h2, h3⟩ he => ?_⟩
      refine ⟨t, _, rfl, h1, rfl, _, _, rfl, _, _, rfl, _, _, rfl, rfl, ?_⟩
      refine ⟨rfl, _, rfl, _, rfl, _, rfl, fun x dx hx hd hne => ?_⟩
      exact mk_use hx hd hne h2 h3 he.v fun e H' e3 hE => k e I r S H' ((e1.trans e2).trans e3) hE he
  have := key.raw hb .nil
  exact this.imp fun vs H Q E h => by rw [List.append_nil]; exact h
/-! ### the parts -/
def spPI (K : PySem.W.Frag) (C : Addr) : Sp := fun vs H Q _ => ∃ e I r S, vs = [.ref e] ∧ IsEff K C H e I r S ∧ ∀ i, IsBag K H i I → Q (.ref i) H
def spPR (K : PySem.W.Frag) (C : Addr) : Sp := fun vs H Q _ => ∃ e I r S, vs = [.ref e] ∧ IsEff K C H e I r S ∧ Q (.int r) H
def spPS (K : PySem.W.Frag) (C : Addr) : Sp := fun vs H Q _ => ∃ e I r S, vs = [.ref e] ∧ IsEff K C H e I r S ∧ ∀ i, IsBag K H i S → Q (.ref i) H
theorem sc355 : FnScope ["self"] ["self"] (defScope (inClass (top 35) 5)) := ⟨rfl, rfl, rfl, by decide +kernel, rfl, by decide +kernel, by decide +kernel⟩
theorem sc356 : FnScope ["self"] ["self"] (defScope (inClass (top 35) 6)) := ⟨rfl, rfl, rfl, by decide +kernel, rfl, by decide +kernel, by decide +kernel⟩
theorem sc357 : FnScope ["self"] ["self"] (defScope (inClass (top 35) 7)) := ⟨rfl, rfl, rfl, by decide +kernel, rfl, by decide +kernel, by decide +kernel⟩
theorem ok_pI (D : DfP K C "inserted" "Effect.inserted" (inClass (top 35) 5)) (TE : EfC K mg C) : IsP PW w K mg base 1 C "inserted" (spPI K C) := D.is fun f fd F => by
  refine F.ok sc355 (fun vs H Q E h => ?_) (fun cdv A outer s H vs Q E hr h => ?_)
  · obtain ⟨_, _, _, _, rfl, _⟩ := h
    rfl
  · obtain ⟨e, I, r, S, rfl, ⟨dx, t, he, i, s, h1, h2, h3⟩, k⟩ := h
    refine ⟨_, (pss_one (ps_ret (pe_ix ix_tup (pe_fld (pv 0) rfl) pe_int (fun _ _ => rfl)))), ?_⟩
    exact ⟨_, rfl, e, C, dx, _, _, rfl, he, TE.cl, TE.op, lk_op t, t, _, _, .ref i, rfl, rfl, h1, rfl, k i h2⟩
theorem ok_pR (D : DfP K C "removals" "Effect.removals" (inClass (top 35) 6)) (TE : EfC K mg C) : IsP PW w K mg base 1 C "removals" (spPR K C) := D.is fun f fd F => by
  refine F.ok sc356 (fun vs H Q E h => ?_) (fun cdv A outer s H vs Q E hr h => ?_)
  · obtain ⟨_, _, _, _, rfl, _⟩ := h
    rfl
  · obtain ⟨e, I, r, S, rfl, ⟨dx, t, he, i, s, h1, h2, h3⟩, k⟩ := h
    refine ⟨_, (pss_one (ps_ret (pe_ix ix_tup (pe_fld (pv 0) rfl) pe_int (fun _ _ => rfl)))), ?_⟩
    exact ⟨_, rfl, e, C, dx, _, _, rfl, he, TE.cl, TE.op, lk_op t, t, _, _, .int r, rfl, rfl, h1, rfl, k⟩
theorem ok_pS (D : DfP K C "survivors" "Effect.survivors" (inClass (top 35) 7)) (TE : EfC K mg C) : IsP PW w K mg base 1 C "survivors" (spPS K C) := D.is fun f fd F => by
  refine F.ok sc357 (fun vs H Q E h => ?_) (fun cdv A outer s H vs Q E hr h => ?_)
  · obtain ⟨_, _, _, _, rfl, _⟩ := h
    rfl
  · obtain ⟨e, I, r, S, rfl, ⟨dx, t, he, i, s, h1, h2, h3⟩, k⟩ := h
    refine ⟨_, (pss_one (ps_ret (pe_ix ix_tup (pe_fld (pv 0) rfl) pe_int (fun _ _ => rfl)))), ?_⟩
    exact ⟨_, rfl, e, C, dx, _, _, rfl, he, TE.cl, TE.op, lk_op t, t, _, _, .ref s, rfl, rfl, h1, rfl, k s h3⟩
def spPC (K : PySem.W.Frag) (C : Addr) : Sp := fun vs H Q _ => ∃ e I r S, vs = [.ref e] ∧ IsEff K C H e I r S ∧ Vld I r S ∧ RetB K H Q fun c => OkB c ∧ ∀ x, ge c x = ge I x - ge S x
theorem sc358 : FnScope ["self"] ["self"] (defScope (inClass (top 35) 8)) := ⟨rfl, rfl, rfl, by decide +kernel, rfl, by decide +kernel, by decide +kernel⟩
theorem ok_pC (D : DfP K C "consumed" "Effect.consumed" (inClass (top 35) 8)) (TE : EfC K mg C) (G_subtract : Is PW w K mg base CX0 2 "subtract" ["bag", "other"] (spSub K)) : IsP PW w K mg base 3 C "consumed" (spPC K C) := D.is fun f fd F => by
  refine F.ok sc358 (fun vs H Q E h => ?_) (fun cdv A outer s H vs Q E hr h => ?_)
  · obtain ⟨_, _, _, _, rfl, _⟩ := h
    rfl
  · obtain ⟨e, I, r, S, rfl, ⟨dx, t, he, i, s, h1, h2, h3⟩, v, k⟩ := h
    refine ⟨_, (pss_one (ps_ret (pe_cal G_subtract hr rfl pass0 (pa_cons (pe_ix ix_tup (pe_fld (pv 0) rfl) pe_int (fun _ _ => rfl)) (pa_cons (pe_ix ix_tup (pe_fld (pv 0) rfl) pe_int (fun _ _ => rfl)) pa_nil))))), ?_⟩
    refine ⟨_, rfl, e, C, dx, _, _, rfl, he, TE.cl, TE.op, lk_op t, t, _, _, .ref i, rfl, rfl, h1, rfl, ?_⟩
    refine ⟨_, rfl, e, C, dx, _, _, rfl, he, TE.cl, TE.op, lk_op t, t, _, _, .ref s, rfl, rfl, h1, rfl, ?_⟩
    exact ⟨i, s, I, S, rfl, h2, h3, v.oI, v.oS, v.le, k⟩
def spPN (K : PySem.W.Frag) (C : Addr) : Sp := fun vs H Q _ => ∃ e I r S, vs = [.ref e] ∧ IsEff K C H e I r S ∧ Vld I r S ∧ ∀ H', Ex H H' → Q (.int (r - tot I + tot S)) H'
theorem sc359 : FnScope ["self"] ["self"] (defScope (inClass (top 35) 9)) := ⟨rfl, rfl, rfl, by decide +kernel, rfl, by decide +kernel, by decide +kernel⟩
theorem ok_pN (D : DfP K C "needed" "Effect.needed" (inClass (top 35) 9)) (TE : EfC K mg C) (G_total : Is PW w K mg base CX0 1 "total" ["bag"] (spTot K)) : IsP PW w K mg base 2 C "needed" (spPN K C) := D.is fun f fd F => by
  refine F.ok sc359 (fun vs H Q E h => ?_) (fun cdv A outer s H vs Q E hr h => ?_)
  · obtain ⟨_, _, _, _, rfl, _⟩ := h
    rfl
  · obtain ⟨e, I, r, S, rfl, hE, v, k⟩ := h
    obtain ⟨dx, t, he, i, s, h1, h2, h3⟩ := hE
    refine ⟨_, (pss_one (ps_ret (pe_op op_add (pe_op op_sub (pe_ix ix_tup (pe_fld (pv 0) rfl) pe_int (fun _ _ => rfl)) (pe_cal G_total hr rfl pass0 (pa_cons (pe_ix ix_tup (pe_fld (pv 0) rfl) pe_int (fun _ _ => rfl)) pa_nil))) (pe_cal G_total hr rfl pass0 (pa_cons (pe_ix ix_tup (pe_fld (pv 0) rfl) pe_int (fun _ _ => rfl)) pa_nil))))), ?_⟩
    refine ⟨_, rfl, e, C, dx, _, _, rfl, he, TE.cl, TE.op, lk_op t, t, _, _, .int r, rfl, rfl, h1, rfl, ?_⟩
    refine ⟨_, rfl, e, C, dx, _, _, rfl, he, TE.cl, TE.op, lk_op t, t, _, _, .ref i, rfl, rfl, h1, rfl, ?_⟩
    refine ⟨i, I, rfl, h2, v.oI.len1000, fun H1 e1 => ⟨_, _, rfl, rfl, ?_⟩⟩
    refine ⟨_, rfl, e, C, dx, _, _, rfl, e1 _ _ he, TE.cl, TE.op, lk_op t, t, _, _, .ref s, rfl, rfl, ex_t e1 h1, rfl, ?_⟩
    exact ⟨s, S, rfl, h3.up e1, v.oS.len1000, fun H2 e2 => ⟨_, _, rfl, rfl, k H2 (e1.trans e2)⟩⟩
/-! ### ==, check_effects -/
def spEqE (K : PySem.W.Frag) (C : Addr) : Sp := fun vs H Q _ => ∃ a b I r S J q U, vs = [.ref a, .ref b] ∧ IsEff K C H a I r S ∧ IsEff K C H b J q U ∧ ∀ H', Ex H H' → Q (.bl (decide (I = J ∧ r = q ∧ S = U))) H'
theorem dp_parts {H : Hp} {t : Addr} {I S : Bg} {r : Int} (h : IsParts K H t I r S) : Dp K H (.ref t) (dP I r S) := by
  obtain ⟨i, s, h1, h2, h3⟩ := h
  exact .tup h1 (.cons (dp_bag h2) (.cons (.int r) (.cons (dp_bag h3) .nil)))
theorem sc35e : FnScope ["self", "other"] ["self", "other"] (defScope (inClass (top 35) 15)) := ⟨rfl, rfl, rfl, by decide +kernel, rfl, by decide +kernel, by decide +kernel⟩
theorem ok_eqE (D : DfM K C "__eq__" "Effect.__eq__" (inClass (top 35) 15) ["self", "other"]) (T : Nms mg) (TE : EfC K mg C) : IsM PW w K mg base CX0 1 C "__eq__" ["self", "other"] (spEqE K C) := D.is fun f fd F => by
  refine F.ok sc35e (fun vs H Q E h => ?_) (fun cdv A outer s H vs Q E hr h => ?_)
  · obtain ⟨_, _, _, _, _, _, _, _, rfl, _⟩ := h
    rfl
  · obtain ⟨a, b, I, r, S, J, q, U, rfl, ⟨dx, t, he, hp⟩, ⟨dy, u, hf, hq⟩, k⟩ := h
    refine ⟨_, (pss_one (ps_ret (pe_and (pe_callB (C8.call_isC TE.isc) (by rfl) T.isinstance bt_isinstance (pa_cons (pv 1) (pa_cons (pe_glob (v := .ref C) rfl TE.gl rfl) pa_nil))) (pe_one (pe_cmpR (op_eqD hr.units) (pe_fld (pv 0) rfl) (pe_fld (pv 1) rfl) (nomark _)))))), ?_⟩
    refine ⟨_, rfl, b, dy, _, rfl, hf, _, rfl, iteT ?_⟩
    refine ⟨_, rfl, a, C, dx, _, _, rfl, he, TE.cl, TE.op, lk_op t, ?_⟩
    refine ⟨_, rfl, b, C, dy, _, _, rfl, hf, TE.cl, TE.op, lk_op u, ?_⟩
    refine ⟨_, _, dp_parts hp, dp_parts hq, (ok_dP _ _ _).shaped (by decide), (ok_dP _ _ _).shaped (by decide), ?_⟩
    rw [eqv_dP]
    exact k H (ex_self H)
def spCke (K : PySem.W.Frag) (C : Addr) : Sp := fun vs H Q _ => ∃ l a b dx dy fs gs, vs = [.ref l] ∧ H l = some (.lst [.ref a, .ref b]) ∧ H a = some (.ins C dx fs) ∧ H b = some (.ins C dy gs) ∧ Q .non H
theorem sc36 : FnScope ["values", "value"] ["values"] (defScope (top 36)) := ⟨rfl, rfl, rfl, by decide +kernel, rfl, by decide +kernel, by decide +kernel⟩
theorem ok_cke (D : Df K mg "check_effects" (top 36) ["values"]) (T : Nms mg) (TE : EfC K mg C) : Is PW w K mg base CX0 1 "check_effects" ["values"] (spCke K C) := D.is fun f fd F => by
  refine F.ok sc36 (fun vs H Q E h => ?_) (fun cdv A outer s H vs Q E hr h => ?_)
  · obtain ⟨_, _, _, _, _, _, _, rfl, _⟩ := h
    rfl
  · obtain ⟨l, a, b, dx, dy, fs, gs, rfl, hl, ha, hb, k⟩ := h
    have nd := sc36.nd
    refine ⟨_, (pss_one (ps_for PassesOwn.never rfl (pi_list (pv 0)) (pg_name (i := 1) nd rfl (Or.inl rfl)) (pss_one (ps_if (pt_not (pt_val (pe_callB (C8.call_isC TE.isc) (by rfl) T.isinstance bt_isinstance (pa_cons (pv 1) (pa_cons (pe_glob (v := .ref C) rfl TE.gl rfl) pa_nil))))) (pss_one ps_never) pss_nil)))), ?_⟩
    refine ⟨_, rfl, l, rfl, ⟨_, sq_of hl⟩, for_list (K := K) (xs := [.ref a, .ref b]) (fun _ σ H' => H' = H ∧ ∃ v, σ = [some (.ref l), v]) ⟨rfl, _, rfl⟩ (fun _ _ H' _ h => by rw [h.1]; exact sq_of hl) ?_ ?_⟩
    · rintro i x σ H' hi ⟨rfl, v, rfl⟩
      have hx : ∃ y dz hs, x = V.ref y ∧ H' y = some (.ins C dz hs) := by
        match i, hi with
        | 0, h => exact ⟨a, dx, fs, (Option.some.inj h).symm, ha⟩
        | 1, h => exact ⟨b, dy, gs, (Option.some.inj h).symm, hb⟩
      obtain ⟨y, dz, hs, rfl, hy⟩ := hx
      exact ⟨_, rfl, y, dz, hs, rfl, hy, _, rfl, iteF ⟨rfl, _, rfl⟩⟩
    · rintro σ H' ⟨rfl, _⟩
      exact k
/-! ### pool, apply -/
def spPool (K : PySem.W.Frag) (C Ce : Addr) : Sp := fun vs H Q E => ∃ e h I r S b, vs = [.ref e, .ref h] ∧ IsEff K C H e I r S ∧ Vld I r S ∧ IsBag K H h b ∧ OkB b ∧
  (tot b < r - tot I + tot S → ∀ d H', Ex H H' → E (.ref Ce) (some d) H') ∧ (r - tot I + tot S ≤ tot b → RetB K H Q fun c => OkB c ∧ ∀ x, ge c x = ge b x + (ge I x - ge S x))
theorem sc35p : FnScope ["self", "bag"] ["self", "bag"] (defScope (inClass (top 35) 10)) := ⟨rfl, rfl, rfl, by decide +kernel, rfl, by decide +kernel, by decide +kernel⟩
theorem ok_pool (D : DfM K C "pool" "Effect.pool" (inClass (top 35) 10) ["self", "bag"]) (T : Nms mg) (TE : EfC K mg C) (TH : EhT K mg Ce fIe cce cde) (G_check_bag : Is PW w K mg base CX0 3 "check_bag" ["value"] (spCkb K)) (G_total : Is PW w K mg base CX0 1 "total" ["bag"] (spTot K)) (G_add : Is PW w K mg base CX0 2 "add" ["first", "second"] (spAdd K))
    (P_needed : IsP PW w K mg base 2 C "needed" (spPN K C)) (P_consumed : IsP PW w K mg base 3 C "consumed" (spPC K C)) : IsM PW w K mg base (L2.CX PW w) 5 C "pool" ["self", "bag"] (spPool K C Ce) := D.is fun f fd F => by
  refine F.okX sc35p (fun vs H Q E h => ?_) (fun cdv A outer s H vs Q E hr h => ?_)
  · obtain ⟨_, _, _, _, _, _, rfl, _⟩ := h
    rfl
  · obtain ⟨e, h, I, r, S, b, rfl, hE, v, hb, ob, hlo, hhi⟩ := h
    have hr1 : Room 1 _ := hr.mono (by decide)
    have hr2 : Room 2 _ := hr.mono (by decide)
    have hr3 : Room 3 _ := hr.mono (by decide)
    refine ⟨_, (pss_cons (ps_expr (pe_cal G_check_bag hr3 rfl pass0 (pa_cons (pv 1) pa_nil)))
      (pss_cons (ps_if (pt_cmpR op_lt (pe_cal G_total hr1 rfl pass0 (pa_cons (pv 1) pa_nil)) (pe_pr P_needed TE.cl hr3 (pv 0)) (nomark _)) (pss_one (ps_raise rfl (takes_of rfl rfl rfl rfl) (pmk_eh rfl TH hr (pa_cons pe_non pa_nil)))) pss_nil)
      (pss_one (ps_ret (pe_cal G_add hr2 rfl pass0 (pa_cons (pv 1) (pa_cons (pe_pr P_consumed TE.cl hr (pv 0)) pa_nil))))))), ?_⟩
    refine ⟨_, rfl, h, b, rfl, hb, ob.wf, ob.len1000, fun H1 e1 => ?_⟩
    refine ⟨_, rfl, h, b, rfl, hb.up e1, ob.len1000, fun H2 e2 => ?_⟩
    have hE2 := hE.up (e1.trans e2)
    obtain ⟨dx, t, he, hp⟩ := id hE2
    refine ⟨_, rfl, e, dx, _, rfl, he, e, I, r, S, rfl, hE2, v, fun H3 e3 => ?_⟩
    have E3 := (e1.trans e2).trans e3
    refine ⟨_, _, rfl, rfl, _, rfl, ite2 (fun hc => ?_) (fun hc => ?_)⟩
    · exact ⟨_, rfl, fun d hd => hlo (of_decide_eq_true hc) d _ (E3.trans (Ex.new hd))⟩
    · have hn : r - tot I + tot S ≤ tot b := by
        have : ¬ tot b < r - tot I + tot S := fun z => hc (decide_eq_true z)
        omega
      have hE3 := hE.up E3
      obtain ⟨dx', t', he', hp'⟩ := id hE3
      refine ⟨_, rfl, _, rfl, e, dx', _, rfl, he', e, I, r, S, rfl, hE3, v, fun c Cc H4 e4 hc4 ⟨p1, p2⟩ => ?_⟩
      exact ⟨h, c, b, Cc, rfl, hb.up (E3.trans e4), hc4, ob, p1, fun a c' H5 e5 hc5 ⟨p3, p4⟩ => hhi hn a c' H5 ((E3.trans e4).trans e5) hc5 ⟨p3, fun x => by rw [p4, p2]⟩⟩
def spApply (K : PySem.W.Frag) (C Ce : Addr) : Sp := fun vs H Q E => ∃ e h I r S b, vs = [.ref e, .ref h] ∧ IsEff K C H e I r S ∧ Vld I r S ∧ IsBag K H h b ∧ OkB b ∧
  (tot b < r - tot I + tot S → ∀ d H', Ex H H' → E (.ref Ce) (some d) H') ∧ (r - tot I + tot S ≤ tot b → RetB K H Q fun c => OkB c ∧ ∀ x, ge c x = ge S x + min (max 0 (tot b + (tot I - tot S) - r)) (ge b x + (ge I x - ge S x)))
theorem sc35a : FnScope ["self", "bag"] ["self", "bag"] (defScope (inClass (top 35) 11)) := ⟨rfl, rfl, rfl, by decide +kernel, rfl, by decide +kernel, by decide +kernel⟩
theorem ok_apply (D : DfM K C "apply" "Effect.apply" (inClass (top 35) 11) ["self", "bag"]) (T : Nms mg) (TE : EfC K mg C) (G_drop : Is PW w K mg base CX0 1 "drop" ["bag", "count"] (spDrop K)) (G_add : Is PW w K mg base CX0 2 "add" ["first", "second"] (spAdd K))
    (P_survivors : IsP PW w K mg base 1 C "survivors" (spPS K C)) (P_removals : IsP PW w K mg base 1 C "removals" (spPR K C)) (M_pool : IsM PW w K mg base (L2.CX PW w) 5 C "pool" ["self", "bag"] (spPool K C Ce)) : IsM PW w K mg base (L2.CX PW w) 6 C "apply" ["self", "bag"] (spApply K C Ce) := D.is fun f fd F => by
  refine F.okX sc35a (fun vs H Q E h => ?_) (fun cdv A outer s H vs Q E hr h => ?_)
  · obtain ⟨_, _, _, _, _, _, rfl, _⟩ := h
    rfl
  · obtain ⟨e, h, I, r, S, b, rfl, hE, v, hb, ob, hlo, hhi⟩ := h
    have hr1 : Room 1 _ := hr.mono (by decide)
    have hr2 : Room 2 _ := hr.mono (by decide)
    refine ⟨_, (pss_one (ps_ret (pe_cal G_add hr2 rfl pass0 (pa_cons (pe_pr P_survivors TE.cl hr2 (pv 0)) (pa_cons (pe_cal G_drop hr1 rfl pass0 (pa_cons (pe_cm (E := E) M_pool TE.cl hr (passes_call (takes_of rfl rfl rfl rfl) fun _ _ _ _ h => h) (pv 0) (pa_cons (pv 1) pa_nil)) (pa_cons (pe_pr P_removals TE.cl hr2 (pv 0)) pa_nil))) pa_nil))))), ?_⟩
    obtain ⟨dx, t, he, i, s, h1, h2, h3⟩ := id hE
    refine ⟨_, rfl, e, dx, _, rfl, he, e, I, r, S, rfl, hE, fun s' hs' => ?_⟩
    refine ⟨_, rfl, e, dx, _, rfl, he, (by simp; decide), _, rfl, e, h, I, r, S, b, rfl, hE, v, hb, ob, hlo, fun hn c Cc H1 e1 hc ⟨p1, p2⟩ => ?_⟩
    have hE1 := hE.up e1
    obtain ⟨dx1, t1, he1, _⟩ := id hE1
    refine ⟨_, rfl, e, dx1, _, rfl, he1, e, I, r, S, rfl, hE1, ?_⟩
    refine ⟨c, Cc, r, rfl, hc, p1.len1000, fun d Dd H2 e2 hd pd => ?_⟩
    have od : OkB Dd := by rw [pd]; exact okB_drop p1 _
    refine ⟨s', d, S, Dd, rfl, hs'.up (e1.trans e2), hd, v.oS, od, fun a c' H3 e3 hc3 ⟨p3, p4⟩ => hhi hn a c' H3 ((e1.trans e2).trans e3) hc3 ⟨p3, fun x => ?_⟩⟩
    have tc : tot Cc = tot b + (tot I - tot S) := by
      obtain ⟨z1, hz1⟩ := tot_low Cc
      obtain ⟨z2, hz2⟩ := tot_low I
      obtain ⟨z3, hz3⟩ := tot_low S
      obtain ⟨z4, hz4⟩ := tot_low b
      have e := p2 (min (min z1 z4) (min z2 z3))
      rw [hz1 _ (by omega), hz2 _ (by omega), hz3 _ (by omega), hz4 _ (by omega)] at e
      exact e
    rw [p4, pd, dropB_ge p1.wf v.r0, tc, p2]
end
end HX

set_option Elab.async false
set_option linter.all false
set_option maxRecDepth 100000
set_option maxHeartbeats 4000000
namespace HX
open PySem PySem.Spec PyProof.Rows L2 Evl
/-- within a comprehension: the rules with K named -/
theorem ix_tupK {X : Cx} {K : PySem.W.Frag} (h : X.K = K) : IxR X (rIxT K) := by subst h; exact ix_tup
theorem ix_listK {X : Cx} {K : PySem.W.Frag} (h : X.K = K) : IxR X (rIxL K) := by subst h; exact ix_list
theorem op_neDK {X : Cx} {K : PySem.W.Frag} (h : X.K = K) (hu : X.A.units + 64 < cLine) : OpR X (compareOp .NotEq) (rNeD K) := by subst h; exact op_neD hu
theorem for_ints {K : PySem.W.Frag} {a : Addr} {b : List Int} {g : TG} {tb : TS} {D : Ends} {σ : L2.St} {H : Hp} (Inv : List Int → List Int → L2.St → Hp → Prop) (h0 : Inv [] b σ H) (hx : ∀ d t σ' H', Inv d t σ' H' → SqL K H' a (b.map V.int))
    (hs : ∀ d e t σ' H', b = d ++ e :: t → Inv d (e :: t) σ' H' → g (.int e) σ' H' fun σ2 H2 => tb { D with nx := Inv (d ++ [e]) t, ct := Inv (d ++ [e]) t, bk := D.nx } σ2 H2) (hd : ∀ σ' H', Inv b [] σ' H' → D.nx σ' H') :
    ∃ W : Nat → Nat → L2.St → Hp → Prop, (∃ m, W 0 m σ H) ∧ ∀ i m σ H, W i m σ H →
      ((Itl K a).stop i H ∧ D.nx σ H) ∨ ((Itl K a).go i H ∧ ∃ N : L2.St → Hp → Prop, (∀ σ' H', N σ' H' → ∃ m', m' < m ∧ W (i + 1) m' σ' H') ∧ ∀ x H', (Itl K a).yld i H x H' → g x σ H' fun σ2 H2 => tb { D with nx := N, ct := N, bk := D.nx } σ2 H2) := by
  have hl : (b.map V.int).length = b.length := List.length_map ..
  refine for_list (K := K) (a := a) (xs := b.map V.int) (fun i σ H => Inv (b.take i) (b.drop i) σ H) ?_ ?_ ?_ ?_
  · exact h0
  · exact fun i σ' H' _ q => hx _ _ _ _ q
  · intro i x σ' H' hi q
    rw [List.getElem?_map] at hi
    cases hy : b[i]? with
    | none => rw [hy] at hi; cases hi
    | some y =>
      rw [hy] at hi
      have e := Option.some.inj hi
      subst e
      obtain ⟨hd1, ht1⟩ := take_get hy
      have r := hs (b.take i) y (b.drop (i + 1)) σ' H' (by rw [← hd1, List.take_append_drop]) (by rw [← hd1]; exact q)
      show g (.int y) σ' H' fun σ2 H2 => tb { D with nx := Inv (b.take (i + 1)) (b.drop (i + 1)), ct := Inv (b.take (i + 1)) (b.drop (i + 1)), bk := D.nx } σ2 H2
      rw [ht1]
      exact r
  · intro σ' H' q
    rw [hl] at q
    rw [List.take_length, List.drop_length] at q
    exact hd σ' H' q
theorem cat_use {K : PySem.W.Frag} {H : Hp} {a b : Addr} {xs ys : List V} {Q : VK} (h1 : SqT K H a xs) (h2 : SqT K H b ys) (hl : xs.length + ys.length ≤ sizeLine) (k : ∀ c H', Ex H H' → SqT K H' c (xs ++ ys) → Q (.ref c) H') : rCatA K (.ref a) (.ref b) H Q :=
  ⟨a, b, xs, ys, rfl, rfl, h1, h2, hl, fun e => k b H (ex_self H) (by rw [e]; exact h2), fun _ e => k a H (ex_self H) (by rw [e, List.append_nil]; exact h1), fun _ _ p hp => k p _ (Ex.new hp) (st_of upd_same)⟩
/-! ### where two bags differ -/
structure Differ (b1 b2 : Bg) (place : Int) : Prop where
  ex : ∃ t, (∀ x, t < x → ge b1 x = ge b2 x) ∧ ge b1 t ≠ ge b2 t ∧ place = 1 + min (ge b1 t) (ge b2 t)
/-- no number from x up to y -/
theorem ge_gap {b : Bg} {x y : Int} (h : ∀ p ∈ b, ¬ (x ≤ p.1 ∧ p.1 < y)) (hxy : x ≤ y) : ge b x = ge b y := by
  induction b with
  | nil => rfl
  | cons p b ih =>
    rw [ge_cons, ge_cons, ih fun q hq => h q (List.mem_cons_of_mem _ hq)]
    have := h p List.mem_cons_self
    by_cases h1 : x ≤ p.1
    · rw [if_pos h1, if_pos (by omega)]
    · rw [if_neg h1, if_neg (by omega)]
structure DifI (b1 b2 : Bg) (d t : List Int) (place : Int) : Prop where
  eq : ∀ x, (∀ q ∈ t, q < x) → ge b1 x = ge b2 x
  pl : ∀ x, (∀ q ∈ t, q < x) → (∀ q ∈ d, x ≤ q) → place = 1 + ge b1 x
theorem DifI.start {b1 b2 : Bg} {t : List Int} (h1 : ∀ p ∈ b1, p.1 ∈ t) (h2 : ∀ p ∈ b2, p.1 ∈ t) : DifI b1 b2 [] t 1 :=
  ⟨fun x hx => by rw [ge_none fun p hp => hx _ (h1 p hp), ge_none fun p hp => hx _ (h2 p hp)], fun x hx _ => by rw [ge_none fun p hp => hx _ (h1 p hp)]; rfl⟩
theorem DifI.at_ {b1 b2 : Bg} {d t : List Int} {m place : Int} (h : DifI b1 b2 d (m :: t) place) (hd : ∀ q ∈ d, m < q) (ht : ∀ q ∈ t, q < m) : ge b1 (m + 1) = ge b2 (m + 1) ∧ place = 1 + ge b1 (m + 1) := by
  have a : ∀ q ∈ m :: t, q < m + 1 := fun q hq => by
    rcases List.mem_cons.mp hq with z | z
    · omega
    · have := ht q z; omega
  exact ⟨h.eq _ a, h.pl _ a fun q hq => by have := hd q hq; omega⟩
theorem DifI.step {b1 b2 : Bg} {d t : List Int} {m place : Int} (h : DifI b1 b2 d (m :: t) place) (hd : ∀ q ∈ d, m < q) (ht : ∀ q ∈ t, q < m) (h1 : ∀ p ∈ b1, p.1 ∈ d ++ m :: t) (h2 : ∀ p ∈ b2, p.1 ∈ d ++ m :: t) (hc : cnt b1 m = cnt b2 m) : DifI b1 b2 (d ++ [m]) t (place + cnt b1 m) := by
  obtain ⟨e1, e2⟩ := h.at_ hd ht
  have gap : ∀ (b : Bg), (∀ p ∈ b, p.1 ∈ d ++ m :: t) → ∀ x, (∀ q ∈ t, q < x) → x ≤ m → ge b x = ge b m := fun b hb x hx hm => ge_gap (fun p hp ⟨q1, q2⟩ => by
    rcases List.mem_append.mp (hb p hp) with z | z
    · have := hd _ z; omega
    · rcases List.mem_cons.mp z with z | z
      · omega
      · have := hx _ z; omega) hm
  unfold cnt at hc ⊢
  refine ⟨fun x hx => ?_, fun x hx hx2 => ?_⟩
  · by_cases hm : x ≤ m
    · rw [gap b1 h1 x hx hm, gap b2 h2 x hx hm]
      omega
    · exact h.eq x fun q hq => by
        rcases List.mem_cons.mp hq with z | z
        · omega
        · exact hx q z
  · have hm : x ≤ m := hx2 m (by simp)
    rw [gap b1 h1 x hx hm]
    omega
theorem DifI.found {b1 b2 : Bg} {d t : List Int} {m place : Int} (h : DifI b1 b2 d (m :: t) place) (hd : ∀ q ∈ d, m < q) (ht : ∀ q ∈ t, q < m) (hc : cnt b1 m ≠ cnt b2 m) : Differ b1 b2 (place + min (cnt b1 m) (cnt b2 m)) := by
  obtain ⟨e1, e2⟩ := h.at_ hd ht
  refine ⟨m, fun x hx => h.eq x fun q hq => ?_, ?_, ?_⟩
  · rcases List.mem_cons.mp hq with z | z
    · omega
    · have := ht q z; omega
  · unfold cnt at hc; omega
  · unfold cnt at hc ⊢; omega
section
variable {w : World} {K : PySem.W.Frag} {mg : Str → Option Value} {base : Heap} {C Ce fIe cce cde : Addr}
def spFd (K : PySem.W.Frag) : Sp := fun vs H Q _ => ∃ a1 a2 b1 b2, vs = [.ref a1, .ref a2] ∧ IsBag K H a1 b1 ∧ IsBag K H a2 b2 ∧ OkB b1 ∧ OkB b2 ∧ b1 ≠ b2 ∧ ∀ p H', Ex H H' → Differ b1 b2 p → Q (.int p) H'
theorem sc39 : FnScope ["first", "second", "number", "numbers", "count", "place", "one", "other"] ["first", "second"] (defScope (top 39)) := ⟨rfl, rfl, rfl, by decide +kernel, rfl, by decide +kernel, by decide +kernel⟩
theorem get_cnt {b : Bg} (h : (b.map (·.1)).Nodup) (n : Int) : ((valV (kvb b) (Sum.inl n)).getD (V.int 0)) = V.int (cnt b n) := by
  rw [valV_kvb, ← lookI_cnt h]
  cases lookI b n <;> rfl
theorem ok_fd (D : Df K mg "first_difference" (top 39) ["first", "second"]) (T : Nms mg) : Is PW w K mg base CX0 1 "first_difference" ["first", "second"] (spFd K) := D.is fun f fd F => by
  refine F.ok sc39 (fun vs H Q E h => ?_) (fun cdv A outer s H vs Q E hr h => ?_)
  · obtain ⟨_, _, _, _, rfl, _⟩ := h
    rfl
  · obtain ⟨a1, a2, b1, b2, rfl, h1, h2, o1, o2, hne, k⟩ := h
    have nd := sc39.nd
    refine ⟨_, (pss_cons (ps_set (i := 3) nd rfl (Or.inl rfl) (pe_revL (pe_callB (cr_sortedSet rfl) (by rfl) T.sorted bt_sorted (pa_cons (pe_scI (own := [("number", 2), ("count", 4)]) (g := gTup K 2 (gCons (gName 2) (gCons (gName 4) gNil))) rfl nd (pi_tup (pe_op op_catA (pv 0) (pv 1))) (blkOk_by (own := [("number", 2), ("count", 4)]) (N := ["first", "second", "number", "numbers", "count", "place", "one", "other"]) (sc := defScope (top 39)) (by decide +kernel)) (fun _ _ _ _ _ => (pg_tup (by rfl) (pgs_cons (pg_name (i := 2) nd rfl (Or.inl rfl)) (pgs_cons (pg_name (i := 4) nd rfl (Or.inl rfl)) pgs_nil)))) (fun _ _ _ _ _ => (pv 2))) pa_nil))))
      (pss_cons (ps_set (i := 5) nd rfl (Or.inl rfl) pe_int)
      (pss_cons (ps_for PassesOwn.never rfl (pi_list (pv 3)) (pg_name (i := 2) nd rfl (Or.inl rfl)) (pss_cons (ps_par (i := 6) (j := 7) (by rfl) nd rfl rfl (by decide) rfl rfl (pa_cons (pe_dget2 (hu_of hr) (pe_callTy (call_dictT rfl) (by rfl) T.dict bt_dict (pa_cons (pv 0) pa_nil)) (pv 2) pe_int ⟨rfl, rfl, rfl, rfl⟩) (pa_cons (pe_dget2 (hu_of hr) (pe_callTy (call_dictT rfl) (by rfl) T.dict bt_dict (pa_cons (pv 1) pa_nil)) (pv 2) pe_int ⟨rfl, rfl, rfl, rfl⟩) pa_nil)) (by rfl))
      (pss_cons (ps_if (pt_cmpR op_ne (pv 6) (pv 7) (nomark _)) (pss_one (ps_ret (pe_op op_add (pv 5) (pe_callB (call_min2 rfl) (by rfl) T.min bt_min (pa_cons (pv 6) (pa_cons (pv 7) pa_nil)))))) pss_nil)
      (pss_one (ps_aug (i := 5) nd rfl (Or.inl rfl) (pv 6) ip_add)))))
      (pss_one (ps_ret (pv 5)))))), ?_⟩
    obtain ⟨ps, hq1, hl1, hp1⟩ := h1.sq
    obtain ⟨qs, hq2, hl2, hp2⟩ := h2.sq
    have L1 := o1.len
    have L2' := o2.len
    refine ⟨_, rfl, _, rfl, cat_use hq1 hq2 (Nat.le_trans (by simp only [List.length_map]; omega) (by decide : 42 ≤ sizeLine)) fun c H1 e1 hc => ⟨c, rfl, ⟨_, hc⟩, fun D hD => ?_⟩⟩
    rw [← List.map_append] at hc
    have hpp : Paired (EntT K H1) (ps ++ qs) (b1 ++ b2) := paired_up (fun _ _ q => EntT.up q e1) (paired_app hp1 hp2)
    have hll := paired_len hpp
    have s0 : ∀ k : Int, (false = true) ↔ ∃ p ∈ (b1 ++ b2).take 0, p.1 = k := fun k => by simp
    refine sc_tupI (K := K) (xs := (ps ++ qs).map V.ref) (fun i H' => Ex H1 H' ∧ ∃ S n, H' D = some (SetO w D S n) ∧ n ≤ i ∧ ∀ k, S k = true ↔ ∃ p ∈ (b1 ++ b2).take i, p.1 = k) ⟨Ex.new hD, fun _ => false, 0, upd_same, Nat.le_refl _, s0⟩ (fun i H' _ q => ex_t q.1 hc) ?_ ?_
    · rintro i x H' hi ⟨ex, S, n, hS, hn, hk⟩
      obtain ⟨p, rfl, hpi⟩ := get_ref hi
      obtain ⟨y, hy, hF⟩ := paired_get hpp hpi
      obtain ⟨hd1, ht1⟩ := take_get hy
      have hilt : i < (b1 ++ b2).length := (List.getElem?_eq_some_iff.mp hy).1
      rw [List.length_append] at hilt
      refine ⟨p, _, rfl, EntT.up hF ex, rfl, _, _, rfl, _, _, rfl, rfl, rfl, _, rfl, y.1, S, n, rfl, hS, ?_, ex.mut hD, _, _, upd_same, ?_, fun k => ?_⟩
      · exact Nat.lt_of_lt_of_le (show n + 1 < 50 by omega) (by decide)
      · split <;> omega
      · rw [ht1, Bool.or_eq_true, hk, decide_eq_true_eq]
        constructor
        · rintro (⟨p, hp, e⟩ | e)
          · exact ⟨p, List.mem_append_left _ hp, e⟩
          · exact ⟨y, by simp, e.symm⟩
        · rintro ⟨p, hp, e⟩
          rcases List.mem_append.mp hp with z | z
          · exact .inl ⟨p, z, e⟩
          · right
            rw [List.mem_singleton.mp z] at e
            exact e.symm
    · rintro H' ⟨ex, S, n, hS, hn, hk⟩
      have hlx : ((ps ++ qs).map V.ref).length = (b1 ++ b2).length := by rw [List.length_map]; exact hll
      rw [hlx, List.take_length] at hk
      refine ⟨D, S, n, rfl, hS, ?_, fun ns l hs hm hlen hl => ?_⟩
      · rw [hlx, List.length_append] at hn
        omega
      refine ⟨l, _, rfl, sq_of upd_same, fun r hr' => ?_⟩
      have E1 : Ex H (upd (upd H' l (.lst (ns.map V.int))) r (.lst (ns.map V.int).reverse)) := ((e1.trans ex).trans (Ex.new hl)).trans (Ex.new hr')
      have hrev : (ns.map V.int).reverse = ns.reverse.map V.int := (List.map_reverse ..).symm
      rw [hrev] at E1 ⊢
      have hdesc : ns.reverse.Pairwise (· > ·) := by rw [List.pairwise_reverse]; exact hs
      have m1 : ∀ p ∈ b1, p.1 ∈ ns.reverse := fun p hp => List.mem_reverse.mpr ((hm _).mpr ((hk _).mpr ⟨p, List.mem_append_left _ hp, rfl⟩))
      have m2 : ∀ p ∈ b2, p.1 ∈ ns.reverse := fun p hp => List.mem_reverse.mpr ((hm _).mpr ((hk _).mpr ⟨p, List.mem_append_right _ hp, rfl⟩))
      refine ⟨_, rfl, r, rfl, ⟨_, sq_of upd_same⟩, for_ints (b := ns.reverse) (fun d t σ H2 => Ex H H2 ∧ SqL K H2 r (ns.reverse.map V.int) ∧ ∃ v2 v4 v6 v7 pl, σ = [some (.ref a1), some (.ref a2), v2, some (.ref r), v4, some (.int pl), v6, v7] ∧ DifI b1 b2 d t pl) ⟨E1, sq_of upd_same, _, _, _, _, 1, rfl, DifI.start m1 m2⟩ (fun _ _ _ _ h => h.2.1) ?_ ?_⟩
      · rintro d e t σ H2 hbd ⟨ex2, hr2, v2, v4, v6, v7, pl, rfl, di⟩
        rw [hbd] at hdesc
        have hd2 := List.pairwise_append.mp hdesc
        have hd : ∀ q ∈ d, e < q := fun q hq => hd2.2.2 q hq e List.mem_cons_self
        have ht : ∀ q ∈ t, q < e := (List.pairwise_cons.mp hd2.2.1).1
        obtain ⟨ps1, g1, g2⟩ := h1.up ex2
        refine ⟨_, rfl, a1, ps1, kvb b1, rfl, g1, paired_kvb g2, fun x1 hx1 => ?_⟩
        rw [merge_nil o1.wf.nodup]
        refine ⟨_, rfl, .inl ⟨_, .inl upd_same⟩, _, rfl, _, DGet.k (k := Sum.inl e) upd_same, ?_⟩
        rw [get_cnt o1.wf.nodup]
        have ex3 := ex2.trans (Ex.new (o := .dK (kvb b1)) hx1)
        obtain ⟨ps2, g3, g4⟩ := h2.up ex3
        refine ⟨_, rfl, a2, ps2, kvb b2, rfl, g3, paired_kvb g4, fun x2 hx2 => ?_⟩
        rw [merge_nil o2.wf.nodup]
        refine ⟨_, rfl, .inl ⟨_, .inl upd_same⟩, _, rfl, _, DGet.k (k := Sum.inl e) upd_same, ?_⟩
        rw [get_cnt o2.wf.nodup]
        have ex4 := ex3.trans (Ex.new (o := .dK (kvb b2)) hx2)
        refine ⟨_, _, rfl, ?_⟩
        refine ⟨_, rfl, _, rfl, rfl, _, rfl, ?_⟩
        by_cases hcc : cnt b1 e = cnt b2 e
        · refine iteC (by rw [hcc, decide_eq_true rfl]; rfl) ?_
          refine ⟨_, rfl, _, rfl, _, _, rfl, rfl, ex4, ex_l ((Ex.new hx1).trans (Ex.new hx2)) hr2, _, _, _, _, _, rfl, di.step hd ht (fun p hp => hbd ▸ m1 p hp) (fun p hp => hbd ▸ m2 p hp) hcc⟩
        · refine iteB (by rw [decide_eq_false fun z => hcc (V.int.inj z)]; rfl) ?_
          refine ⟨_, rfl, _, rfl, _, rfl, _, _, rfl, _, _, rfl, rfl, ?_⟩
          have em : (if cnt b2 e < cnt b1 e then cnt b2 e else cnt b1 e) = min (cnt b1 e) (cnt b2 e) := by split <;> omega
          rw [em]
          exact k _ _ ex4 (di.found hd ht hcc)
      · rintro σ H2 ⟨ex2, hr2, v2, v4, v6, v7, pl, rfl, di⟩
        exact absurd (ge_ext o1.wf o2.wf fun x => di.eq x fun q hq => nomatch hq) hne
/-! ### lowest, separating_heap -/
def Rg5 (b : Bg) : Prop := ∀ p ∈ b, -5 ≤ p.1 ∧ p.1 ≤ 5
def spLow (K : PySem.W.Frag) : Sp := fun vs H Q _ => ∃ l a1 a2 b1 b2, vs = [.ref l] ∧ H l = some (.lst [.ref a1, .ref a2]) ∧ IsBag K H a1 b1 ∧ IsBag K H a2 b2 ∧ OkB b1 ∧ OkB b2 ∧ Rg5 b1 ∧ Rg5 b2 ∧
  ∀ z H', Ex H H' → (∀ p ∈ b1, z < p.1) → (∀ p ∈ b2, z < p.1) → -6 ≤ z → z ≤ 5 → Q (.int z) H'
theorem sc38 : FnScope ["bags", "bag"] ["bags"] (defScope (top 38)) := ⟨rfl, rfl, rfl, by decide +kernel, rfl, by decide +kernel, by decide +kernel⟩
/-- the lowest numbers of the bags that have any -/
def lows : List Bg → List Int
  | [] => []
  | [] :: r => lows r
  | (p :: _) :: r => p.1 :: lows r
theorem lows_snoc (d : List Bg) (b : Bg) : lows (d ++ [b]) = lows d ++ (match b with | [] => [] | p :: _ => [p.1]) := by
  induction d with
  | nil => cases b <;> rfl
  | cons x d ih => cases x with
    | nil => exact ih
    | cons p q => exact congrArg (p.1 :: ·) ih
theorem lows_len (d : List Bg) : (lows d).length ≤ d.length := by
  induction d with
  | nil => exact Nat.le_refl _
  | cons x d ih => cases x with
    | nil => exact Nat.le_succ_of_le ih
    | cons p q => exact Nat.succ_le_succ ih
theorem lows_of {ls : List Bg} {b : Bg} {p : Int × Int} (hb : b ∈ ls) (hw : WF b) (hp : p ∈ b) : ∃ m ∈ lows ls, m ≤ p.1 := by
  induction ls with
  | nil => exact nomatch hb
  | cons x ls ih =>
    rcases List.mem_cons.mp hb with z | z
    · subst z
      cases b with
      | nil => exact nomatch hp
      | cons q r =>
        refine ⟨q.1, List.mem_cons_self, ?_⟩
        rcases List.mem_cons.mp hp with z | z
        · rw [z]; exact Int.le_refl _
        · exact Int.le_of_lt (hw.head p z)
    · obtain ⟨m, hm, h⟩ := ih z
      cases x with
      | nil => exact ⟨m, hm, h⟩
      | cons q r => exact ⟨m, List.mem_cons_of_mem _ hm, h⟩
theorem lows_mem {ls : List Bg} {m : Int} (h : m ∈ lows ls) : ∃ b ∈ ls, ∃ p ∈ b, p.1 = m := by
  induction ls with
  | nil => exact nomatch h
  | cons x ls ih =>
    cases x with
    | nil =>
      obtain ⟨b, hb, q⟩ := ih h
      exact ⟨b, List.mem_cons_of_mem _ hb, q⟩
    | cons q r =>
      rcases List.mem_cons.mp h with z | z
      · exact ⟨_, List.mem_cons_self, q, List.mem_cons_self, z.symm⟩
      · obtain ⟨b, hb, q⟩ := ih z
        exact ⟨b, List.mem_cons_of_mem _ hb, q⟩
theorem lc_listP {K : PySem.W.Frag} {β : Type} {F : Hp → Addr → β → Prop} {a : Addr} {b : List β} {ps : List Addr} {g : TG} {tt : TT} {te : TE} {vs : List Nat} {σ : L2.St} {H1 H0 : Hp} {D : Addr} {Qd : Hp → Prop} (up : ∀ {H H' p e}, Ex H H' → F H p e → F H' p e) (hb : SqL K H0 a (ps.map V.ref)) (hp : Paired (F H0) ps b) (Inv : List β → List β → Hp → Prop) (h0 : Inv [] b (upd H1 D (.lst []))) (hx : ∀ d t H', Inv d t H' → Ex H0 H')
    (hs : ∀ d e t p H, b = d ++ e :: t → F H p e → Inv d (e :: t) H → g (.ref p) (wipe σ vs) H fun σ2 H2 => wipe σ2 vs = wipe σ vs ∧ tt σ2 H2 fun r H3 =>
      if r = true then te σ2 H3 fun y H4 => ∃ acc, H4 D = some (.lst acc) ∧ acc.length < sizeLine ∧ Inv (d ++ [e]) t (upd H4 D (.lst (acc ++ [y]))) else Inv (d ++ [e]) t H3) (hd : ∀ H, Inv b [] H → Qd H) :
    ∃ W : Nat → Nat → Hp → Prop, (∃ m, W 0 m (upd H1 D (.lst []))) ∧ ∀ i m H, W i m H →
      ((Itl K a).stop i H ∧ Qd H) ∨ ((Itl K a).go i H ∧ ∃ Nx : Hp → Prop, (∀ H', Nx H' → ∃ m', m' < m ∧ W (i + 1) m' H') ∧ ∀ x H', (Itl K a).yld i H x H' → g x (wipe σ vs) H' fun σ2 H2 => wipe σ2 vs = wipe σ vs ∧ tt σ2 H2 fun b H3 =>
        if b = true then te σ2 H3 fun y H4 => ∃ acc, H4 D = some (.lst acc) ∧ acc.length < sizeLine ∧ Nx (upd H4 D (.lst (acc ++ [y]))) else Nx H3) := by
  have hl : (ps.map V.ref).length = b.length := by rw [List.length_map]; exact paired_len hp
  refine lc_list (K := K) (a := a) (xs := ps.map V.ref) (fun i H => Inv (b.take i) (b.drop i) H) ?_ ?_ ?_ ?_
  · exact h0
  · exact fun i H' _ q => ex_l (hx _ _ _ q) hb
  · intro i x H' hi q
    obtain ⟨p, rfl, hpi⟩ := get_ref hi
    obtain ⟨y, hy, hF⟩ := paired_get hp hpi
    obtain ⟨hd1, ht1⟩ := take_get hy
    have r := hs (b.take i) y (b.drop (i + 1)) p H' (by rw [← hd1, List.take_append_drop]) (up (hx _ _ _ q) hF) (by rw [← hd1]; exact q)
    show g (.ref p) (wipe σ vs) H' fun σ2 H2 => wipe σ2 vs = wipe σ vs ∧ tt σ2 H2 fun r H3 =>
        if r = true then te σ2 H3 fun y H4 => ∃ acc, H4 D = some (.lst acc) ∧ acc.length < sizeLine ∧ Inv (b.take (i + 1)) (b.drop (i + 1)) (upd H4 D (.lst (acc ++ [y]))) else Inv (b.take (i + 1)) (b.drop (i + 1)) H3
    rw [ht1]
    exact r
  · intro H' q
    rw [hl] at q
    rw [List.take_length, List.drop_length] at q
    exact hd H' q
theorem ok_low (D : Df K mg "lowest" (top 38) ["bags"]) (T : Nms mg) : Is PW w K mg base CX0 1 "lowest" ["bags"] (spLow K) := D.is fun f fd F => by
  refine F.ok sc38 (fun vs H Q E h => ?_) (fun cdv A outer s H vs Q E hr h => ?_)
  · obtain ⟨_, _, _, _, _, rfl, _⟩ := h
    rfl
  · obtain ⟨l, a1, a2, b1, b2, rfl, hl, h1, h2, o1, o2, r1, r2, k⟩ := h
    have nd := sc38.nd
    refine ⟨_, (pss_one (ps_ret (pe_op op_sub (pe_callBK (cr_minDf rfl hr.units) (by rfl) T.min bt_min (pa_cons (pe_lc (own := [("bag", 1)]) (g := gName 1) rfl nd (pi_list (pv 0)) (blkOk_by (own := [("bag", 1)]) (N := ["bags", "bag"]) (sc := defScope (top 38)) (by decide +kernel)) (fun _ _ _ _ _ => (pg_name (i := 1) nd rfl (Or.inl rfl))) (fun _ _ _ _ _ => (pts_one (pt_cmpR (op_neDK (K := K) rfl hr.units) (pv 1) (pe_tupF pa_nil) (nomark _)))) (fun _ _ _ _ _ => (pe_ix (ix_tupK (K := K) rfl) (pe_ix (ix_tupK (K := K) rfl) (pv 1) pe_int (fun _ _ => rfl)) pe_int (fun _ _ => rfl)))) pa_nil) (pk_cons pe_int pk_nil)) pe_int))), ?_⟩
    refine ⟨_, rfl, l, rfl, ⟨_, sq_of hl⟩, fun L hL => ?_⟩
    have eL := Ex.new (o := .lst []) hL
    refine lc_listP (F := fun H p b => IsBag K H p b ∧ OkB b) (ps := [a1, a2]) (b := [b1, b2]) (H0 := H) (fun e h => ⟨h.1.up e, h.2⟩) (sq_of hl) (.cons ⟨h1, o1⟩ (.cons ⟨h2, o2⟩ .nil)) (fun d t H' => Ex H H' ∧ H' L = some (.lst ((lows d).map V.int)) ∧ d.length + t.length = 2) ⟨eL, upd_same, rfl⟩ (fun _ _ _ h => h.1) ?_ ?_
    · rintro d e t p H' hbd ⟨hE, oE⟩ ⟨ex, hL', hdt⟩
      have hll := lows_len d
      refine ⟨rfl, _, rfl, (by show 0 ≤ sizeLine; decide), fun m o hm hpl => ?_⟩
      have em := Ex.new (o := .frz o (.tup [])) hm
      have hE2 := hE.up em
      refine ⟨dB e, dB [], dp_bag hE2, dp_bag (bag_nil hpl), (ok_dB _).shaped (by decide), (ok_dB _).shaped (by decide), _, rfl, ?_⟩
      rw [eqv_dB]
      cases e with
      | nil =>
        refine iteC (by rw [decide_eq_true rfl]; rfl) ⟨ex.trans em, ?_, ?_⟩
        · rw [lows_snoc, List.append_nil]
          exact em _ _ hL'
        · simp only [List.length_append, List.length_cons, List.length_nil] at hdt ⊢
          omega
      | cons x r =>
        refine iteB (by rw [decide_eq_false (by intro z; cases z)]; rfl) ?_
        obtain ⟨qs, g1, g2, g3⟩ := hE2.sq
        cases g3 with
        | @cons q _ qs' _ hq hqs =>
          refine ⟨_, rfl, p, _, _, .ref q, rfl, rfl, g1, atI_nat (j := 0) rfl, q, _, _, .int x.1, rfl, rfl, hq, rfl, _, em _ _ hL', ?_, (ex.trans em).mut hL, ?_, ?_⟩
          · rw [List.length_map]
            simp only [List.length_cons] at hdt
            exact small1000 (by omega)
          · rw [upd_same, lows_snoc, List.map_append]
            rfl
          · simp only [List.length_append, List.length_cons, List.length_nil] at hdt ⊢
            omega
    · rintro H' ⟨ex, hL', _⟩
      refine ⟨L, lows [b1, b2], 1, rfl, rfl, sq_of hL', fun he => ?_, fun m hm hle => ?_⟩
      · refine ⟨_, _, rfl, rfl, k _ H' ex (fun p hp => ?_) (fun p hp => ?_) (by decide) (by decide)⟩
        · obtain ⟨m, hm, _⟩ := lows_of (ls := [b1, b2]) (b := b1) (by simp) o1.wf hp
          rw [he] at hm
          cases hm
        · obtain ⟨m, hm, _⟩ := lows_of (ls := [b1, b2]) (b := b2) (by simp) o2.wf hp
          rw [he] at hm
          cases hm
      · have hr5 : -5 ≤ m ∧ m ≤ 5 := by
          obtain ⟨b, hb, p, hp, e⟩ := lows_mem hm
          rw [← e]
          rcases List.mem_cons.mp hb with z | z
          · subst z; exact r1 p hp
          · rw [List.mem_singleton.mp z] at hp; exact r2 p hp
        refine ⟨_, _, rfl, rfl, k _ H' ex (fun p hp => ?_) (fun p hp => ?_) (by omega) (by omega)⟩
        · obtain ⟨m', hm', h⟩ := lows_of (ls := [b1, b2]) (b := b1) (by simp) o1.wf hp
          have := hle m' hm'
          omega
        · obtain ⟨m', hm', h⟩ := lows_of (ls := [b1, b2]) (b := b2) (by simp) o2.wf hp
          have := hle m' hm'
          omega
/-- which size the heap has that tells two effects apart -/
structure SepSz (I1 : Bg) (r1 : Int) (S1 : Bg) (I2 : Bg) (r2 : Int) (S2 : Bg) (size : Int) : Prop where
  ne : (r1 - tot I1 + tot S1 ≠ r2 - tot I2 + tot S2 ∨ S1 ≠ S2) → size = min (r1 - tot I1 + tot S1) (r2 - tot I2 + tot S2)
  eq : r1 - tot I1 + tot S1 = r2 - tot I2 + tot S2 → S1 = S2 → ∃ t, (∀ x, t < x → ge I1 x - ge S1 x = ge I2 x - ge S2 x) ∧ ge I1 t - ge S1 t ≠ ge I2 t - ge S2 t ∧ size = r1 - tot I1 + tot S1 + 1 + min (ge I1 t - ge S1 t) (ge I2 t - ge S2 t)
structure SepZ (I1 I2 : Bg) (z : Int) : Prop where
  l1 : ∀ p ∈ I1, z < p.1
  l2 : ∀ p ∈ I2, z < p.1
  lo : -6 ≤ z
  hi : z ≤ 5
def heapB (z size : Int) : Bg := if 0 < size then [(z, size)] else []
def spSep (K : PySem.W.Frag) (C : Addr) : Sp := fun vs H Q _ => ∃ e1 e2 I1 r1 S1 I2 r2 S2, vs = [.ref e1, .ref e2] ∧ IsEff K C H e1 I1 r1 S1 ∧ IsEff K C H e2 I2 r2 S2 ∧ Vld I1 r1 S1 ∧ Vld I2 r2 S2 ∧ Rg5 I1 ∧ Rg5 I2 ∧
  ((I1 = I2 ∧ r1 = r2 ∧ S1 = S2) → ∀ H', Ex H H' → Q .non H') ∧ (¬ (I1 = I2 ∧ r1 = r2 ∧ S1 = S2) → ∀ a z size H', Ex H H' → IsBag K H' a (heapB z size) → SepZ I1 I2 z → SepSz I1 r1 S1 I2 r2 S2 size → Q (.ref a) H')
theorem sc40 : FnScope ["first", "second", "size"] ["first", "second"] (defScope (top 40)) := ⟨rfl, rfl, rfl, by decide +kernel, rfl, by decide +kernel, by decide +kernel⟩
theorem ok_sep (D : Df K mg "separating_heap" (top 40) ["first", "second"]) (T : Nms mg) (TE : EfC K mg C) (G_check_effects : Is PW w K mg base CX0 1 "check_effects" ["values"] (spCke K C)) (G_scale : Is PW w K mg base CX0 1 "scale" ["bag", "count"] (spScale K)) (G_lowest : Is PW w K mg base CX0 1 "lowest" ["bags"] (spLow K)) (G_first_difference : Is PW w K mg base CX0 1 "first_difference" ["first", "second"] (spFd K))
    (M_eq : IsM PW w K mg base CX0 1 C "__eq__" ["self", "other"] (spEqE K C)) (P_needed : IsP PW w K mg base 2 C "needed" (spPN K C)) (P_consumed : IsP PW w K mg base 3 C "consumed" (spPC K C)) (P_inserted : IsP PW w K mg base 1 C "inserted" (spPI K C)) (P_survivors : IsP PW w K mg base 1 C "survivors" (spPS K C)) : Is PW w K mg base CX0 5 "separating_heap" ["first", "second"] (spSep K C) := D.is fun f fd F => by
  refine F.ok sc40 (fun vs H Q E h => ?_) (fun cdv A outer s H vs Q E hr h => ?_)
  · obtain ⟨_, _, _, _, _, _, _, _, rfl, _⟩ := h
    rfl
  · obtain ⟨e1, e2, I1, r1, S1, I2, r2, S2, rfl, hE1, hE2, v1, v2, g1, g2, kq, kn⟩ := h
    have nd := sc40.nd
    have hr1 : Room 1 _ := hr.mono (by decide)
    have hr2 : Room 2 _ := hr.mono (by decide)
    have hr3 : Room 3 _ := hr.mono (by decide)
    refine ⟨_, (pss_cons (ps_expr (pe_cal G_check_effects hr1 rfl pass0 (pa_cons (pe_lst (pa_cons (pv 0) (pa_cons (pv 1) pa_nil))) pa_nil)))
      (pss_cons (ps_if (pt_cmpR (op_eqI M_eq hr1) (pv 0) (pv 1) (nomark _)) (pss_one (ps_ret pe_non)) pss_nil)
      (pss_cons (ps_set (i := 2) nd rfl (Or.inl rfl) (pe_callB (call_min2 rfl) (by rfl) T.min bt_min (pa_cons (pe_pr P_needed TE.cl hr3 (pv 0)) (pa_cons (pe_pr P_needed TE.cl hr3 (pv 1)) pa_nil))))
      (pss_cut (ps_if (PW.pt (pw_and (pt_cmpR op_eq (pe_pr P_needed TE.cl hr3 (pv 0)) (pe_pr P_needed TE.cl hr3 (pv 1)) (nomark _)) (pw_and1 (pt_cmpR (op_eqD hr.units) (pe_pr P_survivors TE.cl hr2 (pv 0)) (pe_pr P_survivors TE.cl hr2 (pv 1)) (nomark _))))) (pss_one (ps_aug (i := 2) nd rfl (Or.inl rfl) (pe_cal G_first_difference hr1 rfl pass0 (pa_cons (pe_pr P_consumed TE.cl hr (pv 0)) (pa_cons (pe_pr P_consumed TE.cl hr (pv 1)) pa_nil))) ip_add)) pss_nil) (pss_one (ps_ret (pe_cal G_scale hr1 rfl pass0 (pa_cons (pe_tupF (pa_cons (pe_tupF (pa_cons (pe_cal G_lowest hr1 rfl pass0 (pa_cons (pe_lst (pa_cons (pe_pr P_inserted TE.cl hr2 (pv 0)) (pa_cons (pe_pr P_inserted TE.cl hr2 (pv 1)) pa_nil))) pa_nil)) (pa_cons pe_int pa_nil))) pa_nil)) (pa_cons (pv 2) pa_nil))))))))), ?_⟩
    obtain ⟨dx1, t1, he1, _⟩ := id hE1
    obtain ⟨dx2, t2, he2, _⟩ := id hE2
    refine ⟨_, rfl, _, rfl, (by show 2 ≤ sizeLine; decide), fun l hl => ⟨l, e1, e2, _, _, _, _, rfl, upd_same, Ex.new hl _ _ he1, Ex.new hl _ _ he2, ?_⟩⟩
    have x1 := Ex.new (o := .lst [.ref e1, .ref e2]) hl
    refine ⟨_, rfl, _, rfl, e1, e2, _, _, _, _, rfl, rfl, x1 _ _ he1, x1 _ _ he2, e1, e2, I1, r1, S1, I2, r2, S2, rfl, hE1.up x1, hE2.up x1, fun H1 y1 => ⟨⟨_, rfl⟩, _, rfl, ?_⟩⟩
    have x2 := x1.trans y1
    by_cases hq : I1 = I2 ∧ r1 = r2 ∧ S1 = S2
    · exact iteB (decide_eq_true hq) (kq hq H1 x2)
    · refine iteC (decide_eq_false hq) ?_
      refine ⟨_, rfl, e1, dx1, _, rfl, x2 _ _ he1, e1, I1, r1, S1, rfl, hE1.up x2, v1, fun H2 y2 => ?_⟩
      have x3 := x2.trans y2
      refine ⟨_, rfl, e2, dx2, _, rfl, x3 _ _ he2, e2, I2, r2, S2, rfl, hE2.up x3, v2, fun H3 y3 => ⟨_, _, rfl, ?_⟩⟩
      have x4 := x3.trans y3
      have em : (if r2 - tot I2 + tot S2 < r1 - tot I1 + tot S1 then r2 - tot I2 + tot S2 else r1 - tot I1 + tot S1) = min (r1 - tot I1 + tot S1) (r2 - tot I2 + tot S2) := by split <;> omega
      rw [em]
      refine ⟨fun σ' H' => ∃ size, σ' = [some (.ref e1), some (.ref e2), some (.int size)] ∧ Ex H H' ∧ SepSz I1 r1 S1 I2 r2 S2 size, ?_, ?_⟩
      · refine ⟨_, rfl, e1, dx1, _, rfl, x4 _ _ he1, e1, I1, r1, S1, rfl, hE1.up x4, v1, fun H4 y4 => ?_⟩
        have x5 := x4.trans y4
        refine ⟨_, rfl, e2, dx2, _, rfl, x5 _ _ he2, e2, I2, r2, S2, rfl, hE2.up x5, v2, fun H5 y5 => ⟨rfl, _, rfl, ?_⟩⟩
        have x6 := x5.trans y5
        by_cases hn : r1 - tot I1 + tot S1 = r2 - tot I2 + tot S2
        · refine iteB (decide_eq_true (congrArg V.int hn)) ?_
          refine ⟨_, rfl, e1, dx1, _, rfl, x6 _ _ he1, e1, I1, r1, S1, rfl, hE1.up x6, fun s1 hs1 => ?_⟩
          refine ⟨_, rfl, e2, dx2, _, rfl, x6 _ _ he2, e2, I2, r2, S2, rfl, hE2.up x6, fun s2 hs2 => ?_⟩
          refine ⟨dB S1, dB S2, dp_bag hs1, dp_bag hs2, (ok_dB _).shaped (by decide), (ok_dB _).shaped (by decide), _, rfl, ?_⟩
          rw [eqv_dB]
          by_cases hs : S1 = S2
          · refine iteB (decide_eq_true hs) ?_
            refine ⟨_, rfl, _, rfl, e1, dx1, _, rfl, x6 _ _ he1, e1, I1, r1, S1, rfl, hE1.up x6, v1, fun c1 C1 H6 y6 hc1 ⟨p1, p2⟩ => ?_⟩
            have x7 := x6.trans y6
            refine ⟨_, rfl, e2, dx2, _, rfl, x7 _ _ he2, e2, I2, r2, S2, rfl, hE2.up x7, v2, fun c2 C2 H7 y7 hc2 ⟨p3, p4⟩ => ?_⟩
            have hCC : C1 ≠ C2 := fun z => hq (by
              have hI : I1 = I2 := ge_ext v1.oI.wf v2.oI.wf fun x => by
                have a := p2 x
                have b := p4 x
                rw [z] at a
                rw [hs] at a
                omega
              rw [hI, hs] at hn
              exact ⟨hI, by omega, hs⟩)
            refine ⟨c1, c2, C1, C2, rfl, hc1.up y7, hc2, p1, p3, hCC, fun pl H8 y8 ⟨t, q1, q2, q3⟩ => ⟨_, _, rfl, rfl, _, rfl, (x7.trans y7).trans y8, ⟨fun h => absurd h (by rintro (h | h); exact h hn; exact h hs), fun _ _ => ⟨t, fun x hx => by rw [← p2, ← p4]; exact q1 x hx, by rw [← p2, ← p4]; exact q2, ?_⟩⟩⟩⟩
            rw [← p2, ← p4, q3]
            show min (r1 - tot I1 + tot S1) (r2 - tot I2 + tot S2) + (1 + min (ge C1 t) (ge C2 t)) = _
            omega
          · exact iteC (decide_eq_false hs) ⟨_, rfl, x6, ⟨fun _ => rfl, fun _ h => absurd h hs⟩⟩
        · exact iteC (decide_eq_false fun z => hn (V.int.inj z)) ⟨_, rfl, x6, ⟨fun _ => rfl, fun h => absurd h hn⟩⟩
      · rintro σ' H4 ⟨size, rfl, x5, hsz⟩
        refine ⟨_, rfl, e1, dx1, _, rfl, x5 _ _ he1, e1, I1, r1, S1, rfl, hE1.up x5, fun i1 hi1 => ?_⟩
        refine ⟨_, rfl, e2, dx2, _, rfl, x5 _ _ he2, e2, I2, r2, S2, rfl, hE2.up x5, fun i2 hi2 => ?_⟩
        refine ⟨(by show 2 ≤ sizeLine; decide), fun m hm => ?_⟩
        have ym := Ex.new (o := .lst [.ref i1, .ref i2]) hm
        refine ⟨m, i1, i2, I1, I2, rfl, upd_same, hi1.up ym, hi2.up ym, v1.oI, v2.oI, g1, g2, fun z H5 y5 z1 z2 z3 z4 => ?_⟩
        have x6 := (x5.trans ym).trans y5
        refine ⟨(by show 2 ≤ sizeLine; decide), fun q o hq2 hpl => ⟨(by show 1 ≤ sizeLine; decide), fun q2 o2 hq3 hpl2 => ⟨_, rfl, q2, size, z, rfl, ?_, fun c Cc H6 y6 hc pc => ?_⟩⟩⟩
        · exact ⟨[q], plt_new hpl2, .cons (ex_t (Ex.new hq3) plt_sq) .nil⟩
        · subst pc
          exact kn hq c z size H6 (((x6.trans (Ex.new hq2)).trans (Ex.new hq3)).trans y6) hc ⟨z1, z2, z3, z4⟩ hsz
end
end HX

set_option Elab.async false
set_option linter.all false
set_option maxRecDepth 100000
set_option maxHeartbeats 4000000
namespace HX
open PySem PySem.Spec PyProof.Rows L2 Evl
/-! ### the pool of numbers -/
def PoolO (o : HO) : Prop := ∃ u v : Int, o = .lst [.int u, .int v] ∧ 0 ≤ u ∧ 0 ≤ v ∧ v < 2147483647
def Pl (p : Addr) (H : Hp) : Prop := ∃ o, H p = some o ∧ PoolO o
theorem Ex1.of {p : Addr} {H H' : Hp} (e : Ex H H') : Ex1 p H H' := fun b o _ h => e b o h
theorem Ex1.trans {p : Addr} {H H1 H2 : Hp} (a : Ex1 p H H1) (b : Ex1 p H1 H2) : Ex1 p H H2 := fun x o hx h => b x o hx (a x o hx h)
theorem Ex1.self {p : Addr} {H : Hp} {o : HO} : Ex1 p H (upd H p o) := fun b x hb h => by rw [upd_ne hb]; exact h
theorem Pl.up {p : Addr} {H H' : Hp} (h : Pl p H) (e : Ex H H') : Pl p H' := by
  obtain ⟨o, h1, h2⟩ := h
  exact ⟨o, e _ _ h1, h2⟩
theorem Pl.ne {p q : Addr} {H : Hp} (h : Pl p H) (hq : H q = none) : q ≠ p := fun z => by
  obtain ⟨o, h1, _⟩ := h
  rw [z, h1] at hq
  cases hq
theorem Pl.rd {K : PySem.W.Frag} {p : Addr} {H H' : Hp} (h : Pl p H) (e : Ex1 p H H') {a : Addr} {xs : List V} (q : SqT K H a xs) : SqT K H' a xs := by
  obtain ⟨o, h1, u, v, ho, _⟩ := h
  subst ho
  rcases q with (q | ⟨o, q⟩) | q
  · exact .inl (.inl (e _ _ (fun z => by rw [z, h1] at q; cases q) q))
  · exact .inl (.inr ⟨o, e _ _ (fun z => by rw [z, h1] at q; cases q) q⟩)
  · exact .inr q
theorem Pl.bag {K : PySem.W.Frag} {p : Addr} {H H' : Hp} (h : Pl p H) (e : Ex1 p H H') {a : Addr} {b : Bg} (q : IsBag K H a b) : IsBag K H' a b := by
  obtain ⟨ps, h1, h2⟩ := q
  refine ⟨ps, ?_, paired_up (fun _ _ z => h.rd e z) h2⟩
  obtain ⟨o, g1, u, v, ho, _⟩ := h
  subst ho
  rcases h1 with ⟨o, q, z⟩ | q
  · exact .inl ⟨o, e _ _ (fun z => by rw [z, g1] at q; cases q) q, z⟩
  · exact .inr q
theorem Pl.eff {K : PySem.W.Frag} {C : Addr} {p : Addr} {H H' : Hp} (h : Pl p H) (e : Ex1 p H H') {a : Addr} {I S : Bg} {r : Int} (q : IsEff K C H a I r S) : IsEff K C H' a I r S := by
  obtain ⟨dx, t, h1, i, s, h2, h3, h4⟩ := q
  refine ⟨dx, t, ?_, i, s, h.rd e h2, h.bag e h3, h.bag e h4⟩
  obtain ⟨o, g1, u, v, ho, _⟩ := h
  subst ho
  exact e _ _ (fun z => by rw [z, g1] at h1; cases h1) h1
theorem lt_wide {m : Int} (h0 : 0 < m) (h : m < 10 ^ 31) : m.natAbs < 2 ^ 200 := by
  have : m < 2 ^ 200 := Int.lt_trans h (by decide)
  omega
section
variable {P : Program} {w : World} {K : PySem.W.Frag} {mg : Str → Option Value} {base : Heap}
def spDraw : Sp := fun vs H Q _ => ∃ p m, vs = [.ref p, .int m] ∧ Pl p H ∧ 0 < m ∧ m < 10 ^ 31 ∧ ∀ f o, 0 ≤ f → f < m → PoolO o → Q (.int f) (upd H p o)
theorem sc43 : FnScope ["_law_pool_here", "_law_many", "_law_found"] ["_law_pool_here", "_law_many"] (defScope (top 43)) := ⟨rfl, rfl, rfl, by decide +kernel, rfl, by decide +kernel, by decide +kernel⟩
theorem ok_draw (D : Df K mg "_law_draw" (top 43) ["_law_pool_here", "_law_many"]) (T : Nms mg) : Is P w K mg base CX0 1 "_law_draw" ["_law_pool_here", "_law_many"] spDraw := D.is fun f fd F => by
  refine F.ok sc43 (fun vs H Q E h => ?_) (fun cdv A outer s H vs Q E hr h => ?_)
  · obtain ⟨_, _, rfl, _⟩ := h
    rfl
  · obtain ⟨p, m, rfl, ⟨_, hp, u, v, rfl, hu, hv, hv2⟩, hm, hm2, k⟩ := h
    have nd := sc43.nd
    refine ⟨_, (pss_cons (ps_if (pt_cmpR op_gt (pe_ix ix_list (pv 0) pe_int (fun _ _ => rfl)) pe_int (nomark _)) (pss_cons (ps_set (i := 2) nd rfl (Or.inl rfl) (pe_op op_mod (pe_ix ix_list (pv 0) pe_int (fun _ _ => rfl)) (pv 1)))
      (pss_cons (ps_asg (pe_op op_fdivW (pe_ix ix_list (pv 0) pe_int (fun _ _ => rfl)) (pv 1)) (pg_sub (pv 0) pe_int set_list))
      (pss_one (ps_ret (pv 2))))) pss_nil)
      (pss_cons (ps_asg (pe_op op_mod (pe_op op_add (pe_op op_mul (pe_ix ix_list (pv 0) pe_int (fun _ _ => rfl)) pe_int) pe_int) pe_int) (pg_sub (pv 0) pe_int set_list))
      (pss_one (ps_ret (pe_op op_mod (pe_op op_fdiv (pe_op op_mod (pe_op op_mul (pe_ix ix_list (pv 0) pe_int (fun _ _ => rfl)) (pe_ix ix_list (pv 0) pe_int (fun _ _ => rfl))) pe_int) pe_int) (pv 1)))))), ?_⟩
    refine ⟨_, rfl, p, _, _, .int u, rfl, rfl, sq_of hp, rfl, _, _, rfl, rfl, _, rfl, ite2 (fun hc => ?_) (fun hc => ?_)⟩
    · refine ⟨_, rfl, p, _, _, .int u, rfl, rfl, sq_of hp, rfl, _, rfl, _, _, rfl, rfl, hm, ?_⟩
      refine ⟨_, rfl, p, _, _, .int u, rfl, rfl, sq_of hp, rfl, _, rfl, _, _, rfl, rfl, wide_div hm (lt_wide hm hm2) (by decide) (by decide), ?_⟩
      refine ⟨_, rfl, p, _, _, 0, rfl, rfl, hp, rfl, ?_⟩
      exact ⟨_, rfl, k _ _ (Int.emod_nonneg _ (by omega)) (Int.emod_lt_of_pos _ hm) ⟨_, _, rfl, Int.ediv_nonneg hu (by omega), hv, hv2⟩⟩
    · refine ⟨_, rfl, p, _, _, .int v, rfl, rfl, sq_of hp, rfl, _, _, rfl, rfl, .inr ⟨by decide, by decide⟩, _, _, rfl, rfl, _, _, rfl, rfl, (by show (0 : Int) < 2147483647; decide), ?_⟩
      refine ⟨_, rfl, p, _, _, 1, rfl, rfl, hp, rfl, ?_⟩
      have n0 : 0 ≤ (v * 48271 + 11) % 2147483647 := Int.emod_nonneg _ (by decide)
      have n1 : (v * 48271 + 11) % 2147483647 < 2147483647 := Int.emod_lt_of_pos _ (by decide)
      refine ⟨_, rfl, p, _, _, .int ((v * 48271 + 11) % 2147483647), rfl, rfl, sq_of upd_same, rfl, _, rfl, p, _, _, .int ((v * 48271 + 11) % 2147483647), rfl, rfl, sq_of upd_same, rfl, _, _, rfl, rfl, .inl ⟨by omega, by omega⟩, ?_⟩
      refine ⟨_, _, rfl, rfl, (by show (0 : Int) < 2147483629; decide), _, _, rfl, rfl, ⟨by decide, by decide⟩, _, rfl, _, _, rfl, rfl, hm, ?_⟩
      exact k _ _ (Int.emod_nonneg _ (by omega)) (Int.emod_lt_of_pos _ hm) ⟨_, _, rfl, hu, n0, n1⟩
/-! ### the pool's making -/
def spPoolL (K : PySem.W.Frag) : Sp := fun vs H Q _ => ∃ (a : Addr) (ns : List Int) (k : Nat), vs = [.ref a, .int (k : Int)] ∧ SqL K H a (ns.map V.int) ∧ ns.length ≤ 63 ∧ k < 4 ∧ ∀ p o H', Ex H H' → H' p = some o → PoolO o → H p = none → Q (.ref p) H'
theorem cutV_ints (ns : List Int) (lo hi : Option Int) : ∃ ms : List Int, cutV (ns.map V.int) lo hi = ms.map V.int := ⟨(ns.drop (HT.sIx (ns.map V.int).length 0 lo)).take (HT.sIx (ns.map V.int).length (ns.map V.int).length hi - HT.sIx (ns.map V.int).length 0 lo), by
  unfold cutV
  rw [List.map_take, List.map_drop]⟩
theorem poolNum {m : Int} (h1 : 0 ≤ m) (h2 : m < 2147483647) : 0 ≤ m * m % 2147483629 ∧ m * m % 2147483629 < 2147483647 := ⟨Int.emod_nonneg _ (by decide), Int.lt_trans (Int.emod_lt_of_pos _ (by decide)) (by decide)⟩
theorem sc42 : FnScope ["_law_script", "_law_k", "_law_cell", "_law_great", "_law_mixed"] ["_law_script", "_law_k"] (defScope (top 42)) := ⟨rfl, rfl, rfl, by decide +kernel, rfl, by decide +kernel, by decide +kernel⟩
theorem ok_poolL (D : Df K mg "_law_pool" (top 42) ["_law_script", "_law_k"]) (T : Nms mg) : Is P w K mg base CX0 1 "_law_pool" ["_law_script", "_law_k"] (spPoolL K) := D.is fun f fd F => by
  refine F.ok sc42 (fun vs H Q E h => ?_) (fun cdv A outer s H vs Q E hr h => ?_)
  · obtain ⟨_, _, _, rfl, _⟩ := h
    rfl
  · obtain ⟨a, ns, kk, rfl, hs, hl, hk, k⟩ := h
    have nd := sc42.nd
    refine ⟨_, (pss_cons (ps_set (i := 2) nd rfl (Or.inl rfl) (pe_op op_add (pe_op op_mul pe_int (pe_callB (cr_sum rfl) (by rfl) T.sum bt_sum (pa_cons (pe_slice sl_list (pv 0) po_none (po_some pe_int)) pa_nil))) (pv 1)))
      (pss_cut (ps_if (pt_cmpR op_lt (pv 1) (pe_callB call_len_seq (by rfl) T.len bt_len (pa_cons (pv 0) pa_nil)) (nomark _)) (pss_one (ps_set (i := 2) nd rfl (Or.inl rfl) (pe_ix ix_list (pv 0) (pv 1) (fun _ _ => rfl)))) pss_nil) (pss_cons (ps_set (i := 3) nd rfl (Or.inl rfl) (pe_callB call_abs (by rfl) T.abs bt_abs (pa_cons (pv 2) pa_nil)))
      (pss_cons (ps_set (i := 4) nd rfl (Or.inl rfl) (pe_op op_mod (pe_op op_mul (pe_op op_add (pe_op op_add (pe_op op_add (pe_op op_mod (pv 3) pe_int) (pe_op op_mul (pe_op op_mul pe_int (pv 1)) (pv 1))) (pe_op op_mul pe_int (pv 1))) pe_int) pe_int) pe_int))
      (pss_one (ps_ret (pe_lst (pa_cons (pe_op op_mul (pv 3) (pe_callTy call_int1 (by rfl) T.int bt_int (pa_cons (pe_cmpR op_ge (pv 3) (pe_op op_pow pe_int pe_int) (nomark _)) pa_nil))) (pa_cons (pe_op op_mod (pe_op op_mul (pv 4) (pv 4)) pe_int) pa_nil))))))))), ?_⟩
    obtain ⟨ms, hms⟩ := cutV_ints ns none (some 63)
    refine ⟨_, rfl, _, rfl, a, _, rfl, hs, fun q hq => ⟨q, ms, rfl, ?_, ?_⟩⟩
    · rw [hms]
      exact sq_of upd_same
    have e1 : Ex H (upd H q (.lst (cutV (ns.map V.int) none (some 63)))) := Ex.new hq
    refine ⟨_, _, rfl, rfl, .inl ⟨by decide, by decide⟩, _, rfl, _, _, rfl, rfl, ?_⟩
    refine ⟨fun σ' H' => ∃ c : Int, σ' = [some (.ref a), some (.int (kk : Int)), some (.int c), none, none] ∧ Ex H H', ?_, ?_⟩
    · refine ⟨_, rfl, _, rfl, a, _, rfl, .inl (ex_l e1 hs), _, _, rfl, rfl, _, rfl, ite2 (fun hc => ?_) (fun hc => ⟨_, rfl, e1⟩)⟩
      have hlt : kk < ns.length := by
        have := of_decide_eq_true hc
        simp only [List.length_map] at this
        omega
      refine ⟨_, rfl, _, rfl, a, _, _, .int ns[kk], rfl, rfl, ex_l e1 hs, atI_nat ?_, _, rfl, e1⟩
      rw [List.getElem?_map, List.getElem?_eq_getElem hlt]
      rfl
    · rintro σ' H' ⟨c, rfl, ex⟩
      refine ⟨_, rfl, _, rfl, ?_⟩
      generalize hg : (if c < 0 then -c else c) = g
      have hg0 : 0 ≤ g := by rw [← hg]; split <;> omega
      have k0 : (0 : Int) ≤ (kk : Int) := by omega
      have k4 : (kk : Int) < 4 := by omega
      refine ⟨_, rfl, _, _, rfl, rfl, (by show (0 : Int) < 2147483629; decide), _, rfl, _, _, rfl, rfl, .inl ⟨by decide, by decide⟩, _, rfl, _, _, rfl, rfl, .inr ⟨by omega, by omega⟩, _, _, rfl, rfl, _, rfl, _, _, rfl, rfl, .inl ⟨by decide, by decide⟩, _, _, rfl, rfl, _, _, rfl, rfl, _, _, rfl, rfl, .inr ⟨by decide, by decide⟩, _, _, rfl, rfl, (by show (0 : Int) < 2147483647; decide), ?_⟩
      have m0 : 0 ≤ (g % 2147483629 + 7919 * (kk : Int) * (kk : Int) + 31 * (kk : Int) + 17) * 48271 % 2147483647 := Int.emod_nonneg _ (by decide)
      have m1 : (g % 2147483629 + 7919 * (kk : Int) * (kk : Int) + 31 * (kk : Int) + 17) * 48271 % 2147483647 < 2147483647 := Int.emod_lt_of_pos _ (by decide)
      refine ⟨_, rfl, _, rfl, _, _, rfl, rfl, ⟨by decide, by decide, by decide⟩, _, _, rfl, rfl, .inr ⟨_, rfl, _, _, rfl, rfl, .inr ?_, _, rfl, _, rfl, _, _, rfl, rfl, .inl ⟨by omega, by omega⟩, _, _, rfl, rfl, (by show (0 : Int) < 2147483629; decide), (by show 2 ≤ sizeLine; decide), fun l hl => ?_⟩⟩
      · split <;> exact ⟨by decide, by decide⟩
      · refine k l _ _ (ex.trans (Ex.new hl)) upd_same ⟨_, _, rfl, ?_, poolNum m0 m1⟩ (fresh_back ex hl)
        refine Int.mul_nonneg hg0 ?_
        split <;> decide
end
end HX

set_option Elab.async false
set_option linter.all false
set_option maxRecDepth 100000
set_option maxHeartbeats 4000000
namespace HX
open PySem PySem.Spec PyProof.Rows L2 Evl
def PrgL (K : PySem.W.Frag) (H : Hp) (l : Addr) (ss : List Stp) : Prop := ∃ ps : List Addr, H l = some (.lst (ps.map V.ref)) ∧ Paired (IsStp K H) ps ss
theorem IsStp.x1 {K : PySem.W.Frag} {p : Addr} {H H' : Hp} (h : Pl p H) (e : Ex1 p H H') {a : Addr} {s : Stp} (q : IsStp K H a s) : IsStp K H' a s := ⟨h.rd e q.1, q.2⟩
theorem PrgL.up {K : PySem.W.Frag} {H H' : Hp} {l : Addr} {ss : List Stp} (h : PrgL K H l ss) (e : Ex H H') : PrgL K H' l ss := by
  obtain ⟨ps, h1, h2⟩ := h
  exact ⟨ps, e _ _ h1, paired_up (fun _ _ q => q.up e) h2⟩
theorem PrgL.x1 {K : PySem.W.Frag} {p : Addr} {H H' : Hp} (hp : Pl p H) (e : Ex1 p H H') {l : Addr} {ss : List Stp} (h : PrgL K H l ss) (hl : l ≠ p) : PrgL K H' l ss := by
  obtain ⟨ps, h1, h2⟩ := h
  exact ⟨ps, e _ _ hl h1, paired_up (fun _ _ q => q.x1 hp e) h2⟩
section
variable {P : Program} {w : World} {K : PySem.W.Frag} {mg : Str → Option Value} {base : Heap}
def spRand (K : PySem.W.Frag) : Sp := fun vs H Q _ => ∃ p m, vs = [.ref p, .int m, .int 3] ∧ Pl p H ∧ 0 ≤ m ∧ m ≤ 5 ∧ ∀ l ss H', Ex1 p H H' → Pl p H' → PrgL K H' l ss → l ≠ p → ss.length ≤ 5 → Q (.ref l) H'
theorem sc44 : FnScope ["_law_pool_here", "_law_many", "_law_most", "_law_found", "_law_turn", "_law_number"] ["_law_pool_here", "_law_many", "_law_most"] (defScope (top 44)) := ⟨rfl, rfl, rfl, by decide +kernel, rfl, by decide +kernel, by decide +kernel⟩
theorem ok_rand (D : Df K mg "_law_random_steps" (top 44) ["_law_pool_here", "_law_many", "_law_most"]) (T : Nms mg) (G_law_draw : Is P w K mg base CX0 1 "_law_draw" ["_law_pool_here", "_law_many"] spDraw) : Is P w K mg base CX0 2 "_law_random_steps" ["_law_pool_here", "_law_many", "_law_most"] (spRand K) := D.is fun f fd F => by
  refine F.ok sc44 (fun vs H Q E h => ?_) (fun cdv A outer s H vs Q E hr h => ?_)
  · obtain ⟨_, _, rfl, _⟩ := h
    rfl
  · obtain ⟨p, m, rfl, hP, hm0, hm5, k⟩ := h
    have nd := sc44.nd
    refine ⟨_, (pss_cons (ps_set (i := 3) nd rfl (Or.inl rfl) (pe_lst pa_nil))
      (pss_cons (ps_for PassesOwn.never rfl (pi_range1 (by rfl) T.range (pa_cons (pv 1) pa_nil)) (pg_name (i := 4) nd rfl (Or.inl rfl)) (pss_cons (ps_set (i := 5) nd rfl (Or.inl rfl) (pe_op op_sub (pe_cal G_law_draw hr rfl pass0 (pa_cons (pv 0) (pa_cons (pv 2) pa_nil))) (pe_op op_fdivN (pv 2) pe_int)))
      (pss_one (ps_expr (pe_bm PySem.F.plainAttrs_list PySem.F.slot_list_append PySem.F.type_list_append mt_append (pv 3) (pa_cons (pe_ix ix_list (pe_lst (pa_cons (pe_tup (pa_cons pe_str (pa_cons (pv 5) (pa_cons pe_int pa_nil)))) (pa_cons (pe_tup (pa_cons pe_str (pa_cons pe_int pa_nil))) pa_nil))) (pe_cal G_law_draw hr rfl pass0 (pa_cons (pv 0) (pa_cons pe_int pa_nil))) (fun _ _ => rfl)) pa_nil))))))
      (pss_one (ps_ret (pv 3))))), ?_⟩
    refine ⟨Nat.zero_le _, fun L hL => ?_⟩
    have hLp := hP.ne hL
    have e0 := Ex.new (o := .lst []) hL
    refine ⟨_, rfl, m, rfl, by omega, by omega, for_range (lo := 0) (n := m.toNat) (fun i σ H' => ∃ v4 v5 ps ss, σ = [some (.ref p), some (.int m), some (.int 3), some (.ref L), v4, v5] ∧ Ex1 p H H' ∧ Pl p H' ∧ H' L = some (.lst (ps.map V.ref)) ∧ Paired (IsStp K H') ps ss ∧ ss.length = i)
      ⟨none, none, [], [], rfl, Ex1.of e0, hP.up e0, upd_same, .nil, rfl⟩ ?_ ?_⟩
    · rintro i σ H' hi ⟨v4, v5, ps, ss, rfl, ex, hP', hl, hps, hlen⟩
      refine ⟨_, rfl, _, rfl, p, 3, rfl, hP', by decide, by decide, fun d o hd0 hd3 ho => ?_⟩
      have hps1 := paired_up (fun _ _ q => IsStp.x1 hP' Ex1.self q) (G := IsStp K (upd H' p o)) hps
      have ex1 : Ex1 p H (upd H' p o) := ex.trans Ex1.self
      have hP1 : Pl p (upd H' p o) := ⟨o, upd_same, ho⟩
      have hl1 : upd H' p o L = some (.lst (ps.map V.ref)) := by rw [upd_ne hLp]; exact hl
      refine ⟨_, rfl, _, _, rfl, rfl, ⟨by decide, by decide⟩, _, _, rfl, rfl, ?_⟩
      have hf : Int.fdiv 3 2 = 1 := by decide
      refine ⟨_, rfl, .inl ⟨rfl, _, sq_of hl1⟩, _, rfl, (by show 3 ≤ sizeLine; decide), fun t1 ht1 => ⟨(by show 2 ≤ sizeLine; decide), fun t2 ht2 => ⟨(by show 2 ≤ sizeLine; decide), fun M hM => ?_⟩⟩⟩
      have y1 := Ex.new (o := .tup [.str "insert", .int (d - Int.fdiv 3 2), .int 1]) ht1
      have y2 := y1.trans (Ex.new (o := .tup [.str "remove", .int 1]) ht2)
      have y3 := y2.trans (Ex.new (o := .lst [.ref t1, .ref t2]) hM)
      have hP2 := hP1.up y3
      have hMp := (hP1.up y2).ne hM
      refine ⟨_, rfl, p, 2, rfl, hP2, by decide, by decide, fun f' o' hf0 hf2 ho' => ?_⟩
      have g1 : IsStp K (upd (upd (upd (upd H' p o) t1 (.tup [.str "insert", .int (d - Int.fdiv 3 2), .int 1])) t2 (.tup [.str "remove", .int 1])) M (.lst [.ref t1, .ref t2])) t1 (.ins (d - 1)) := by
        refine ⟨st_of ?_, ⟨by omega, by omega⟩⟩
        rw [← hf]
        exact ((Ex.new (o := .tup [.str "remove", .int 1]) ht2).trans (Ex.new (o := .lst [.ref t1, .ref t2]) hM)) _ _ upd_same
      have g2 : IsStp K (upd (upd (upd (upd H' p o) t1 (.tup [.str "insert", .int (d - Int.fdiv 3 2), .int 1])) t2 (.tup [.str "remove", .int 1])) M (.lst [.ref t1, .ref t2])) t2 .rem :=
        ⟨st_of ((Ex.new (o := .lst [.ref t1, .ref t2]) hM) _ _ upd_same), True.intro⟩
      have fin : ∀ tt s, (tt = t1 ∧ s = Stp.ins (d - 1)) ∨ (tt = t2 ∧ s = Stp.rem) → ∀ H3, H3 = upd (upd (upd (upd (upd H' p o) t1 (.tup [.str "insert", .int (d - Int.fdiv 3 2), .int 1])) t2 (.tup [.str "remove", .int 1])) M (.lst [.ref t1, .ref t2])) p o' →
          H3 L = some (.lst (ps.map V.ref)) ∧ (Ex1 p H (upd H3 L (.lst (ps.map V.ref ++ [.ref tt]))) ∧ Pl p (upd H3 L (.lst (ps.map V.ref ++ [.ref tt]))) ∧ Paired (IsStp K (upd H3 L (.lst (ps.map V.ref ++ [.ref tt])))) (ps ++ [tt]) (ss ++ [s])) := by
        rintro tt s hts H3 rfl
        have q1 : ∀ {a s}, IsStp K (upd (upd (upd (upd H' p o) t1 (.tup [.str "insert", .int (d - Int.fdiv 3 2), .int 1])) t2 (.tup [.str "remove", .int 1])) M (.lst [.ref t1, .ref t2])) a s → IsStp K (upd (upd (upd (upd (upd H' p o) t1 (.tup [.str "insert", .int (d - Int.fdiv 3 2), .int 1])) t2 (.tup [.str "remove", .int 1])) M (.lst [.ref t1, .ref t2])) p o') a s := fun q => IsStp.x1 hP2 Ex1.self q
        have hL3 : upd (upd (upd (upd (upd H' p o) t1 (.tup [.str "insert", .int (d - Int.fdiv 3 2), .int 1])) t2 (.tup [.str "remove", .int 1])) M (.lst [.ref t1, .ref t2])) p o' L = some (.lst (ps.map V.ref)) := by
          rw [upd_ne hLp]
          exact y3 _ _ hl1
        have lw : ∀ {a s}, IsStp K (upd (upd (upd (upd (upd H' p o) t1 (.tup [.str "insert", .int (d - Int.fdiv 3 2), .int 1])) t2 (.tup [.str "remove", .int 1])) M (.lst [.ref t1, .ref t2])) p o') a s → ∀ l, IsStp K (upd (upd (upd (upd (upd (upd H' p o) t1 (.tup [.str "insert", .int (d - Int.fdiv 3 2), .int 1])) t2 (.tup [.str "remove", .int 1])) M (.lst [.ref t1, .ref t2])) p o') L (.lst l)) a s := fun {a s} q l => ⟨by
          rcases q.1 with (h | ⟨o, h⟩) | h
          · exact .inl (.inl (by rw [upd_ne (fun z => by rw [z, hL3] at h; cases h)]; exact h))
          · exact .inl (.inr ⟨o, by rw [upd_ne (fun z => by rw [z, hL3] at h; cases h)]; exact h⟩)
          · exact .inr h, q.2⟩
        refine ⟨hL3, fun b ob hb h => ?_, ?_, ?_⟩
        · have hbL : b ≠ L := fun z => by rw [z, hL] at h; cases h
          rw [upd_ne hbL, upd_ne hb]
          exact y3 _ _ (ex1 b ob hb h)
        · refine ⟨o', ?_, ho'⟩
          rw [upd_ne hLp.symm, upd_same]
        · refine paired_app (paired_up (fun _ _ q => lw (q1 (q.up y3)) _) hps1) (.cons ?_ .nil)
          rcases hts with ⟨rfl, rfl⟩ | ⟨rfl, rfl⟩
          · exact lw (q1 g1) _
          · exact lw (q1 g2) _
      have hM3 : SqL K (upd (upd (upd (upd (upd H' p o) t1 (.tup [.str "insert", .int (d - Int.fdiv 3 2), .int 1])) t2 (.tup [.str "remove", .int 1])) M (.lst [.ref t1, .ref t2])) p o') M [.ref t1, .ref t2] := sq_of (by rw [upd_ne hMp]; exact upd_same)
      have hsz : (ps.map V.ref).length < sizeLine := by
        rw [List.length_map, paired_len hps, hlen]
        exact small1000 (by omega)
      have hcase : f' = 0 ∨ f' = 1 := by omega
      rcases hcase with rfl | rfl
      · obtain ⟨z1, z2, z3, z4⟩ := fin t1 _ (.inl ⟨rfl, rfl⟩) _ rfl
        exact ⟨M, _, _, .ref t1, rfl, rfl, hM3, rfl, L, _, _, rfl, rfl, z1, hsz, _, _, _, _, rfl, z2, z3, by rw [upd_same, List.map_append]; rfl, z4, by rw [List.length_append, hlen]; rfl⟩
      · obtain ⟨z1, z2, z3, z4⟩ := fin t2 _ (.inr ⟨rfl, rfl⟩) _ rfl
        exact ⟨M, _, _, .ref t2, rfl, rfl, hM3, rfl, L, _, _, rfl, rfl, z1, hsz, _, _, _, _, rfl, z2, z3, by rw [upd_same, List.map_append]; rfl, z4, by rw [List.length_append, hlen]; rfl⟩
    · rintro σ H' ⟨v4, v5, ps, ss, rfl, ex, hP', hl, hps, hlen⟩
      exact ⟨_, rfl, k L ss H' ex hP' ⟨ps, hl, hps⟩ hLp (by omega)⟩
end
end HX

set_option Elab.async false
set_option linter.all false
set_option maxRecDepth 100000
set_option maxHeartbeats 4000000
namespace HX
/-! ### the run over a list, and separation, in plain numbers -/
def geL : List Int → Int → Int
  | [], _ => 0
  | y :: ys, x => (if x ≤ y then 1 else 0) + geL ys x
theorem geL_nonneg : ∀ (xs : List Int) (x : Int), 0 ≤ geL xs x
  | [], _ => Int.le_refl 0
  | y :: ys, x => by
    have := geL_nonneg ys x
    unfold geL
    split <;> omega
theorem geL_len : ∀ (xs : List Int) (x : Int), geL xs x ≤ xs.length
  | [], _ => Int.le_refl 0
  | y :: ys, x => by
    have := geL_len ys x
    unfold geL
    rw [List.length_cons]
    split <;> omega
theorem geL_perm {xs ys : List Int} (h : xs.Perm ys) (x : Int) : geL xs x = geL ys x := by
  induction h with
  | nil => rfl
  | cons a _ ih => unfold geL; rw [ih]
  | swap a b l => unfold geL; unfold geL; omega
  | trans _ _ h1 h2 => rw [h1, h2]
theorem geL_app : ∀ (xs ys : List Int) (x : Int), geL (xs ++ ys) x = geL xs x + geL ys x
  | [], ys, x => by show geL ys x = 0 + geL ys x; omega
  | a :: xs, ys, x => by
    show (if x ≤ a then 1 else 0) + geL (xs ++ ys) x = (if x ≤ a then 1 else 0) + geL xs x + geL ys x
    rw [geL_app xs ys x]
    omega
theorem geL_all : ∀ {xs : List Int} {x : Int}, (∀ y ∈ xs, x ≤ y) → geL xs x = xs.length
  | [], _, _ => rfl
  | a :: xs, x, h => by
    show (if x ≤ a then 1 else 0) + geL xs x = _
    rw [if_pos (h a List.mem_cons_self), geL_all fun y hy => h y (List.mem_cons_of_mem _ hy), List.length_cons]
    omega
theorem geL_ext : ∀ {xs ys : List Int}, xs.Pairwise (· ≤ ·) → ys.Pairwise (· ≤ ·) → (∀ x, geL xs x = geL ys x) → xs = ys
  | [], [], _, _, _ => rfl
  | [], b :: ys, _, _, h => by
    have := h b
    have h2 := geL_nonneg ys b
    unfold geL at this
    rw [if_pos (Int.le_refl b)] at this
    omega
  | a :: xs, [], _, _, h => by
    have := h a
    have h2 := geL_nonneg xs a
    unfold geL at this
    rw [if_pos (Int.le_refl a)] at this
    omega
  | a :: xs, b :: ys, hx, hy, h => by
    have hx1 := List.pairwise_cons.mp hx
    have hy1 := List.pairwise_cons.mp hy
    have la : geL (a :: xs) a = (a :: xs).length := geL_all fun y hy => by
      rcases List.mem_cons.mp hy with z | z
      · omega
      · exact hx1.1 y z
    have lb : geL (b :: ys) b = (b :: ys).length := geL_all fun y hy => by
      rcases List.mem_cons.mp hy with z | z
      · omega
      · exact hy1.1 y z
    have ha := h a
    have hb := h b
    have l1 := geL_len (b :: ys) a
    have l2 := geL_len (a :: xs) b
    have e : a = b := by
      rw [la] at ha
      rw [lb] at hb
      have hl : (a :: xs).length = (b :: ys).length := by omega
      have q1 : b ≤ a ∨ a < b := by omega
      rcases q1 with q | q
      · by_cases z : a ≤ b
        · omega
        · -- geL (b::ys) a = full length, so a ≤ b
          have t := geL_len ys a
          unfold geL at ha
          rw [if_neg z] at ha
          simp only [List.length_cons] at ha hl
          omega
      · have t := geL_len xs b
        unfold geL at hb
        rw [if_neg (show ¬ b ≤ a by omega)] at hb
        simp only [List.length_cons] at hb hl
        omega
    subst e
    congr 1
    refine geL_ext hx1.2 hy1.2 fun x => ?_
    have := h x
    unfold geL at this
    omega
/-- the number of insertions; how many a heap must have -/
def tIn (ss : List Stp) : Int := ss.foldl (fun n s => match s with | .ins _ => n + 1 | .rem => n) 0
theorem tIn_snoc (ss : List Stp) (s : Stp) : tIn (ss ++ [s]) = match s with | .ins _ => tIn ss + 1 | .rem => tIn ss := by
  unfold tIn
  rw [List.foldl_append]
  rfl
def need (ss : List Stp) : Int := (absE ss).r - tIn ss + (absE ss).tS
theorem list_snoc {α : Type} {p : List α → Prop} (h0 : p []) (h1 : ∀ xs x, p xs → p (xs ++ [x])) (xs : List α) : p xs := by
  have : ∀ ys : List α, p ys.reverse := fun ys => by
    induction ys with
    | nil => exact h0
    | cons a ys ih => rw [List.reverse_cons]; exact h1 _ _ ih
  have q := this xs.reverse
  rw [List.reverse_reverse] at q
  exact q
structure AInv (ss : List Stp) : Prop where
  t0 : 0 ≤ (absE ss).tS
  s0 : ∀ x, 0 ≤ (absE ss).gS x
  st : ∀ x, (absE ss).gS x ≤ (absE ss).tS
  si : ∀ x, (absE ss).gS x ≤ (absE ss).gI x
  rl : (absE ss).r ≤ ss.length
theorem ainv (ss : List Stp) : AInv ss := by
  induction ss using list_snoc with
  | h0 => exact ⟨Int.le_refl _, fun _ => Int.le_refl _, fun _ => Int.le_refl _, fun _ => Int.le_refl _, Int.le_refl _⟩
  | h1 ss s ih =>
    refine ⟨?_, fun x => ?_, fun x => ?_, fun x => ?_, ?_⟩ <;> rw [absE_snoc]
    · cases s with
      | ins m => have := ih.t0; show 0 ≤ (absE ss).tS + 1; omega
      | rem => show 0 ≤ max 0 ((absE ss).tS - 1); omega
    · have := ih.s0 x
      cases s with
      | ins m => show 0 ≤ (absE ss).gS x + _; split <;> omega
      | rem => show 0 ≤ min (max 0 ((absE ss).tS - 1)) ((absE ss).gS x); omega
    · have := ih.st x
      cases s with
      | ins m => show (absE ss).gS x + _ ≤ (absE ss).tS + 1; split <;> omega
      | rem => show min (max 0 ((absE ss).tS - 1)) ((absE ss).gS x) ≤ max 0 ((absE ss).tS - 1); omega
    · have := ih.si x
      cases s with
      | ins m => show (absE ss).gS x + _ ≤ (absE ss).gI x + _; omega
      | rem => show min (max 0 ((absE ss).tS - 1)) ((absE ss).gS x) ≤ (absE ss).gI x; omega
    · have := ih.rl
      rw [List.length_append, List.length_singleton]
      cases s with
      | ins m => show (absE ss).r ≤ _; omega
      | rem => show (absE ss).r + 1 ≤ _; omega
theorem need_ins (ss : List Stp) (m : Int) : need (ss ++ [.ins m]) = need ss := by
  unfold need
  rw [absE_snoc, tIn_snoc]
  show (absE ss).r - (tIn ss + 1) + ((absE ss).tS + 1) = _
  omega
theorem need_rem (ss : List Stp) : need (ss ++ [.rem]) = (absE ss).r + 1 - tIn ss + max 0 ((absE ss).tS - 1) := by
  unfold need
  rw [absE_snoc, tIn_snoc]
  rfl
theorem need_mono (ss ts : List Stp) : need ss ≤ need (ss ++ ts) := by
  induction ts using list_snoc with
  | h0 => rw [List.append_nil]; exact Int.le_refl _
  | h1 ts t ih =>
    rw [← List.append_assoc]
    cases t with
    | ins m => rw [need_ins]; exact ih
    | rem =>
      rw [need_rem]
      have := (ainv (ss ++ ts)).t0
      unfold need at ih ⊢
      omega
/-- what stands in the run behind the steps ss -/
structure RunI (xs : List Int) (ss : List Stp) (L : List Int) : Prop where
  srt : L.Pairwise (· ≤ ·)
  nd : need ss ≤ xs.length
  len : (L.length : Int) = (absE ss).tS + (xs.length - need ss)
  ge : ∀ x, geL L x = (absE ss).gS x + min (xs.length - need ss) (geL xs x + ((absE ss).gI x - (absE ss).gS x))
theorem RunI.start {xs L : List Int} (hs : L.Pairwise (· ≤ ·)) (hp : L.Perm xs) : RunI xs [] L := by
  refine ⟨hs, ?_, ?_, fun x => ?_⟩
  · show (0 : Int) ≤ _; omega
  · rw [hp.length_eq]; show _ = (0 : Int) + (xs.length - (0 - 0 + 0)); omega
  · rw [geL_perm hp]
    show geL xs x = 0 + min ((xs.length : Int) - (0 - 0 + 0)) (geL xs x + (0 - 0))
    have := geL_len xs x
    omega
theorem RunI.ins {xs L L' : List Int} {ss : List Stp} {m : Int} (h : RunI xs ss L) (hs : L'.Pairwise (· ≤ ·)) (hp : L'.Perm (L ++ [m])) : RunI xs (ss ++ [.ins m]) L' := by
  refine ⟨hs, by rw [need_ins]; exact h.nd, ?_, fun x => ?_⟩
  · rw [hp.length_eq, need_ins, absE_snoc, List.length_append, List.length_singleton]
    have := h.len
    show _ = (absE ss).tS + 1 + _
    omega
  · rw [geL_perm hp, geL_app, need_ins, absE_snoc, h.ge]
    show _ + ((if x ≤ m then 1 else 0) + 0) = (absE ss).gS x + (if x ≤ m then 1 else 0) + min _ (geL xs x + ((absE ss).gI x + (if x ≤ m then 1 else 0) - ((absE ss).gS x + (if x ≤ m then 1 else 0))))
    split <;> omega
theorem tail_ge {a : Int} {L : List Int} (h : (a :: L).Pairwise (· ≤ ·)) (x : Int) : geL L x = min (((a :: L).length : Int) - 1) (geL (a :: L) x) := by
  have h1 := List.pairwise_cons.mp h
  have hl := geL_len L x
  have e : geL (a :: L) x = (if x ≤ a then 1 else 0) + geL L x := rfl
  rw [e, List.length_cons]
  by_cases z : x ≤ a
  · rw [if_pos z, geL_all fun y hy => Int.le_trans z (h1.1 y hy)]
    omega
  · rw [if_neg z]
    omega
theorem RunI.rem {xs L : List Int} {a : Int} {ss : List Stp} (h : RunI xs ss (a :: L)) : RunI xs (ss ++ [.rem]) L := by
  have i := ainv ss
  have hl := h.len
  rw [List.length_cons] at hl
  have hn := h.nd
  have hnd : need ss = (absE ss).r - tIn ss + (absE ss).tS := rfl
  have i0 := i.t0
  refine ⟨(List.pairwise_cons.mp h.srt).2, ?_, ?_, fun x => ?_⟩
  · rw [need_rem]; omega
  · rw [need_rem, absE_snoc]
    show _ = max 0 ((absE ss).tS - 1) + _
    omega
  · rw [tail_ge h.srt, h.ge, need_rem, absE_snoc]
    show min _ _ = min (max 0 ((absE ss).tS - 1)) ((absE ss).gS x) + min _ (geL xs x + ((absE ss).gI x - min (max 0 ((absE ss).tS - 1)) ((absE ss).gS x)))
    rw [List.length_cons]
    have := i.s0 x
    have := i.st x
    have := i.si x
    have := geL_nonneg xs x
    omega
theorem RunI.fail {xs : List Int} {ss ts : List Stp} (h : RunI xs ss []) : (xs.length : Int) < need ((ss ++ [.rem]) ++ ts) := by
  have m := need_mono (ss ++ [.rem]) ts
  have hl := h.len
  have i := (ainv ss).t0
  have hn := h.nd
  have hnd : need ss = (absE ss).r - tIn ss + (absE ss).tS := rfl
  rw [need_rem] at m
  simp only [List.length_nil] at hl
  omega
def RunRes (xs : List Int) (ss : List Stp) : Option (List Int) → Prop
  | none => (xs.length : Int) < need ss
  | some L => RunI xs ss L
/-! ### effects of steps -/
theorem abs_rng {ss : List Stp} (h : ∀ s ∈ ss, StpOk s) : (∀ x, 5 < x → (absE ss).gI x = 0) ∧ ∀ x, x ≤ -5 → (absE ss).gI x = tIn ss := by
  induction ss using list_snoc with
  | h0 => exact ⟨fun _ _ => rfl, fun _ _ => rfl⟩
  | h1 ss s ih =>
    obtain ⟨h1, h2⟩ := ih fun s hs => h s (List.mem_append_left _ hs)
    have hs : StpOk s := h s (by simp)
    cases s with
    | ins m =>
      have hm : -5 ≤ m ∧ m ≤ 5 := hs
      refine ⟨fun x hx => ?_, fun x hx => ?_⟩ <;> rw [absE_snoc]
      · show (absE ss).gI x + (if x ≤ m then 1 else 0) = 0
        rw [h1 x hx, if_neg (by omega)]
        rfl
      · show (absE ss).gI x + (if x ≤ m then 1 else 0) = _
        rw [h2 x hx, if_pos (by omega), tIn_snoc]
    | rem =>
      refine ⟨fun x hx => ?_, fun x hx => ?_⟩ <;> rw [absE_snoc]
      · exact h1 x hx
      · rw [tIn_snoc]
        exact h2 x hx
theorem EffOf.tI {ss : List Stp} {I S : Bg} {r : Int} (h : EffOf ss I r S) (hs : ∀ s ∈ ss, StpOk s) : tot I = tIn ss := by
  obtain ⟨z, hz⟩ := tot_low I
  have := hz (min z (-5)) (by omega)
  rw [h.gI, (abs_rng hs).2 _ (by omega)] at this
  exact this.symm
theorem EffOf.need {ss : List Stp} {I S : Bg} {r : Int} (h : EffOf ss I r S) (hs : ∀ s ∈ ss, StpOk s) : r - tot I + tot S = need ss := by
  rw [h.tI hs, h.er, h.tS]
  rfl
theorem EffOf.rg {ss : List Stp} {I S : Bg} {r : Int} (h : EffOf ss I r S) (hs : ∀ s ∈ ss, StpOk s) : Rg5 I := fun p hp => by
  have c := h.v.oI.wf.cnt_mem hp
  have p0 := h.v.oI.wf.pos p hp
  obtain ⟨a1, a2⟩ := abs_rng hs
  unfold cnt at c
  rw [h.gI, h.gI] at c
  refine ⟨?_, ?_⟩
  · by_cases z : -5 ≤ p.1
    · exact z
    · rw [a2 _ (by omega), a2 _ (by omega)] at c
      omega
  · by_cases z : p.1 ≤ 5
    · exact z
    · rw [a1 _ (by omega), a1 _ (by omega)] at c
      omega
/-! ### separation -/
/-- what an effect makes of a heap of that size and those numbers -/
def Out (I : Bg) (r : Int) (S : Bg) (len : Int) (g : Int → Int) : Option (Int → Int) :=
  if len < r - tot I + tot S then none else some fun x => ge S x + min (len - (r - tot I + tot S)) (g x + (ge I x - ge S x))
section
variable {I I1 I2 S S1 S2 : Bg} {r r1 r2 : Int}
theorem Vld.anti (v : Vld I r S) {x y : Int} (h : x ≤ y) : ge I y - ge S y ≤ ge I x - ge S x := by
  obtain ⟨n, rfl⟩ : ∃ n : Nat, y = x + n := ⟨(y - x).toNat, by omega⟩
  clear h
  induction n with
  | zero => simp
  | succ n ih =>
    have := v.le (x + n)
    unfold cnt at this
    have e : x + ((n + 1 : Nat) : Int) = x + n + 1 := by omega
    rw [e]
    omega
theorem Vld.c0 (v : Vld I r S) (x : Int) : 0 ≤ ge I x - ge S x := by
  obtain ⟨z1, h1⟩ := ge_high I
  obtain ⟨z2, h2⟩ := ge_high S
  have := v.anti (x := x) (y := max x (max z1 z2)) (by omega)
  rw [h1 _ (by omega), h2 _ (by omega)] at this
  omega
theorem Vld.ct (v : Vld I r S) (x : Int) : ge I x - ge S x ≤ tot I - tot S := by
  obtain ⟨z1, h1⟩ := tot_low I
  obtain ⟨z2, h2⟩ := tot_low S
  have := v.anti (x := min x (min z1 z2)) (y := x) (by omega)
  rw [h1 (min x (min z1 z2)) (by omega), h2 (min x (min z1 z2)) (by omega)] at this
  exact this
theorem Vld.n0 (v : Vld I r S) : 0 ≤ r - tot I + tot S := by have := v.tt; omega
theorem Vld.nr (v : Vld I r S) : r - tot I + tot S ≤ r := by
  have := v.ct 0
  have := v.c0 0
  omega
/-- no survivor outside of what is inserted -/
theorem Vld.mem (v : Vld I r S) {p : Int × Int} (hp : p ∈ S) : ∃ q ∈ I, q.1 = p.1 := by
  have c := v.oS.wf.cnt_mem hp
  have p0 := v.oS.wf.pos p hp
  have l := v.le p.1
  by_cases h : ∃ q ∈ I, q.1 = p.1
  · exact h
  · have := cnt_none (b := I) (t := p.1) fun q hq e => h ⟨q, hq, e⟩
    omega
theorem SepSz.pos (v1 : Vld I1 r1 S1) (v2 : Vld I2 r2 S2) {size : Int} (h : SepSz I1 r1 S1 I2 r2 S2 size) : 0 ≤ size ∧ (size ≤ r1 ∨ size ≤ r2) := by
  have a1 := v1.n0
  have a2 := v2.n0
  have b1 := v1.nr
  have b2 := v2.nr
  by_cases hn : r1 - tot I1 + tot S1 = r2 - tot I2 + tot S2 ∧ S1 = S2
  · obtain ⟨t, q1, q2, q3⟩ := h.eq hn.1 hn.2
    have := v1.c0 t
    have := v2.c0 t
    have := v1.ct t
    have := v2.ct t
    have := hn.1
    omega
  · have := h.ne (by
      by_cases z : r1 - tot I1 + tot S1 = r2 - tot I2 + tot S2
      · exact .inr fun q => hn ⟨z, q⟩
      · exact .inl z)
    omega
theorem out_same (v1 : Vld I1 r1 S1) (v2 : Vld I2 r2 S2) {size : Int} (h : SepSz I1 r1 S1 I2 r2 S2 size) {len : Int} {g : Int → Int} (hl : len < size) (g0 : ∀ x, 0 ≤ g x) : Out I1 r1 S1 len g = Out I2 r2 S2 len g := by
  unfold Out
  by_cases hn : r1 - tot I1 + tot S1 = r2 - tot I2 + tot S2 ∧ S1 = S2
  · obtain ⟨t, q1, q2, q3⟩ := h.eq hn.1 hn.2
    rw [hn.1]
    by_cases hf : len < r2 - tot I2 + tot S2
    · rw [if_pos hf, if_pos hf]
    · rw [if_neg hf, if_neg hf]
      congr 1
      funext x
      have e := hn.2
      subst e
      congr 1
      by_cases hx : t < x
      · rw [q1 x hx]
      · have a1 := v1.anti (x := x) (y := t) (by omega)
        have a2 := v2.anti (x := x) (y := t) (by omega)
        have := g0 x
        omega
  · have := h.ne (by
      by_cases z : r1 - tot I1 + tot S1 = r2 - tot I2 + tot S2
      · exact .inr fun q => hn ⟨z, q⟩
      · exact .inl z)
    rw [if_pos (by omega), if_pos (by omega)]
theorem out_differ (v1 : Vld I1 r1 S1) (v2 : Vld I2 r2 S2) {size z : Int} (h : SepSz I1 r1 S1 I2 r2 S2 size) (hz : SepZ I1 I2 z) : Out I1 r1 S1 size (fun x => if x ≤ z then size else 0) ≠ Out I2 r2 S2 size (fun x => if x ≤ z then size else 0) := by
  intro he
  unfold Out at he
  have c1 := v1.c0
  have c2 := v2.c0
  have p0 := (h.pos v1 v2).1
  by_cases hn : r1 - tot I1 + tot S1 = r2 - tot I2 + tot S2 ∧ S1 = S2
  · obtain ⟨t, q1, q2, q3⟩ := h.eq hn.1 hn.2
    have d1 := c1 t
    have d2 := c2 t
    have hn1 := hn.1
    rw [if_neg (by omega), if_neg (by omega)] at he
    have e := congrFun (Option.some.inj he) t
    have hzt : ¬ t ≤ z := fun w => q2 (by
      have k1 : ∀ x, x ≤ z + 1 → ge I1 x = tot I1 := fun x hx => ge_all fun p hp => by have := hz.l1 p hp; omega
      have k2 : ∀ x, x ≤ z + 1 → ge I2 x = tot I2 := fun x hx => ge_all fun p hp => by have := hz.l2 p hp; omega
      have k3 : ∀ x, x ≤ z + 1 → ge S1 x = tot S1 := fun x hx => ge_all fun p hp => by
        obtain ⟨q, hq, e⟩ := v1.mem hp
        have := hz.l1 q hq; omega
      have k4 : ∀ x, x ≤ z + 1 → ge S2 x = tot S2 := fun x hx => ge_all fun p hp => by
        obtain ⟨q, hq, e⟩ := v2.mem hp
        have := hz.l2 q hq; omega
      have a := q1 (t + 1) (by omega)
      rw [k1 _ (by omega), k2 _ (by omega), k3 _ (by omega), k4 _ (by omega)] at a
      rw [k1 _ (by omega), k2 _ (by omega), k3 _ (by omega), k4 _ (by omega)]
      exact a)
    dsimp only at e
    rw [if_neg hzt, hn.2] at e
    rw [hn.2] at q2 q3 d1 hn1
    omega
  · have hs := h.ne (by
      by_cases z : r1 - tot I1 + tot S1 = r2 - tot I2 + tot S2
      · exact .inr fun q => hn ⟨z, q⟩
      · exact .inl z)
    by_cases hn1 : r1 - tot I1 + tot S1 = r2 - tot I2 + tot S2
    · rw [if_neg (by omega), if_neg (by omega)] at he
      refine hn ⟨hn1, ge_ext v1.oS.wf v2.oS.wf fun x => ?_⟩
      have e := congrFun (Option.some.inj he) x
      dsimp only at e
      have := c1 x
      have := c2 x
      have : 0 ≤ (if x ≤ z then size else 0) := by split <;> omega
      omega
    · by_cases hlt : r1 - tot I1 + tot S1 < r2 - tot I2 + tot S2
      · rw [if_neg (by omega), if_pos (by omega)] at he
        cases he
      · rw [if_pos (by omega), if_neg (by omega)] at he
        cases he
end
/-! ### what apply and the run give -/
def AppRes (I : Bg) (r : Int) (S : Bg) (b : Bg) : Option Bg → Prop
  | none => tot b < r - tot I + tot S
  | some c => OkB c ∧ r - tot I + tot S ≤ tot b ∧ ∀ x, ge c x = ge S x + min (max 0 (tot b + (tot I - tot S) - r)) (ge b x + (ge I x - ge S x))
theorem app_out {I S b : Bg} {r : Int} {o : Option Bg} (h : AppRes I r S b o) : o.map ge = Out I r S (tot b) (ge b) := by
  unfold Out
  cases o with
  | none =>
    have h' : tot b < r - tot I + tot S := h
    rw [if_pos h']
    rfl
  | some c =>
    obtain ⟨h1, h2, h3⟩ := h
    rw [if_neg (by omega)]
    show some (ge c) = _
    congr 1
    funext x
    rw [h3]
    congr 1
    omega
theorem app_eq {I1 S1 I2 S2 b : Bg} {r1 r2 : Int} {o1 o2 : Option Bg} (h1 : AppRes I1 r1 S1 b o1) (h2 : AppRes I2 r2 S2 b o2) : o1 = o2 ↔ Out I1 r1 S1 (tot b) (ge b) = Out I2 r2 S2 (tot b) (ge b) := by
  rw [← app_out h1, ← app_out h2]
  constructor
  · intro h; rw [h]
  · intro h
    cases o1 with
    | none => cases o2 with
      | none => rfl
      | some c => cases h
    | some c => cases o2 with
      | none => cases h
      | some d =>
        congr 1
        exact ge_ext h1.1.wf h2.1.wf fun x => congrFun (Option.some.inj h) x
theorem run_out {ss : List Stp} {I S : Bg} {r : Int} {xs : List Int} {o : Option (List Int)} (he : EffOf ss I r S) (hs : ∀ s ∈ ss, StpOk s) (h : RunRes xs ss o) : o.map geL = Out I r S xs.length (geL xs) := by
  unfold Out
  rw [he.need hs]
  cases o with
  | none =>
    have h' : (xs.length : Int) < need ss := h
    rw [if_pos h']
    rfl
  | some L =>
    have h' : RunI xs ss L := h
    rw [if_neg (by have := h'.nd; omega)]
    show some (geL L) = _
    congr 1
    funext x
    rw [h'.ge, he.gI, he.gS]
theorem run_eq {s1 s2 : List Stp} {I1 S1 I2 S2 : Bg} {r1 r2 : Int} {xs : List Int} {o1 o2 : Option (List Int)} (e1 : EffOf s1 I1 r1 S1) (e2 : EffOf s2 I2 r2 S2) (k1 : ∀ s ∈ s1, StpOk s) (k2 : ∀ s ∈ s2, StpOk s) (h1 : RunRes xs s1 o1) (h2 : RunRes xs s2 o2) :
    o1 = o2 ↔ Out I1 r1 S1 xs.length (geL xs) = Out I2 r2 S2 xs.length (geL xs) := by
  rw [← run_out e1 k1 h1, ← run_out e2 k2 h2]
  constructor
  · intro h; rw [h]
  · intro h
    cases o1 with
    | none => cases o2 with
      | none => rfl
      | some c => cases h
    | some c => cases o2 with
      | none => cases h
      | some d =>
        congr 1
        exact geL_ext (show RunI xs s1 c from h1).srt (show RunI xs s2 d from h2).srt fun x => congrFun (Option.some.inj h) x
theorem heapB_tot {z size : Int} (h : 0 ≤ size) : tot (heapB z size) = size := by
  unfold heapB
  split
  · show size + 0 = size; omega
  · show (0 : Int) = size; omega
theorem heapB_ge {z size : Int} (h : 0 ≤ size) : ge (heapB z size) = fun x => if x ≤ z then size else 0 := by
  funext x
  unfold heapB
  split
  · show (if x ≤ z then size else 0) + 0 = _; omega
  · show (0 : Int) = _; split <;> omega
theorem heapB_ok {z size : Int} (hz : -10 ≤ z ∧ z ≤ 10) : OkB (heapB z size) := by
  unfold heapB
  split
  · refine ⟨WF.nil.cons (by show 1 ≤ size; omega) (fun q hq => nomatch hq), fun p hp => ?_⟩
    rw [List.mem_singleton.mp hp]
    exact hz
  · exact OkB.nil
theorem geL_rep (z : Int) : ∀ n : Nat, geL (List.replicate n z) = fun x => if x ≤ z then (n : Int) else 0
  | 0 => by funext x; show (0 : Int) = _; split <;> rfl
  | n + 1 => by
    funext x
    show (if x ≤ z then 1 else 0) + geL (List.replicate n z) x = _
    rw [geL_rep z n]
    dsimp only
    split <;> omega
end HX

set_option Elab.async false
set_option linter.all false
set_option maxRecDepth 100000
set_option maxHeartbeats 4000000
namespace HX
open PySem PySem.Spec PyProof.Rows L2 Evl
/-- enumerate of a list: (place, item), a new pair each -/
theorem for_enL {K : PySem.W.Frag} {β : Type} {F : Hp → Addr → β → Prop} {a : Addr} {b : List β} {ps : List Addr} {g : TG} {tb : TS} {D : Ends} {σ : L2.St} {H H0 : Hp} (up : ∀ {H H' p e}, Ex H H' → F H p e → F H' p e) (hb : SqL K H0 a (ps.map V.ref)) (hp : Paired (F H0) ps b) (Inv : List β → List β → L2.St → Hp → Prop) (h0 : Inv [] b σ H) (hx : ∀ d t σ' H', Inv d t σ' H' → Ex H0 H')
    (hs : ∀ d e t p σ' H' T, b = d ++ e :: t → F H' p e → Inv d (e :: t) σ' H' → H' T = none → g (.ref T) σ' (upd H' T (.tup [.int (d.length : Nat), .ref p])) fun σ2 H2 => tb { D with nx := Inv (d ++ [e]) t, ct := Inv (d ++ [e]) t, bk := D.nx } σ2 H2) (hd : ∀ σ' H', Inv b [] σ' H' → D.nx σ' H') :
    ∃ W : Nat → Nat → L2.St → Hp → Prop, (∃ m, W 0 m σ H) ∧ ∀ i m σ H, W i m σ H →
      ((Ite K a).stop i H ∧ D.nx σ H) ∨ ((Ite K a).go i H ∧ ∃ N : L2.St → Hp → Prop, (∀ σ' H', N σ' H' → ∃ m', m' < m ∧ W (i + 1) m' σ' H') ∧ ∀ x H', (Ite K a).yld i H x H' → g x σ H' fun σ2 H2 => tb { D with nx := N, ct := N, bk := D.nx } σ2 H2) := by
  have hl : (ps.map V.ref).length = b.length := by rw [List.length_map]; exact paired_len hp
  refine ⟨fun i m σ H => m = b.length - i ∧ i ≤ b.length ∧ Inv (b.take i) (b.drop i) σ H, ⟨b.length, by simp, Nat.zero_le _, h0⟩, ?_⟩
  rintro i m σ H ⟨rfl, hi, p⟩
  have q := ex_l (hx _ _ _ _ p) hb
  by_cases hlt : i < b.length
  · have hg : (ps.map V.ref)[i]? = some (ps.map V.ref)[i] := List.getElem?_eq_getElem (by rw [hl]; exact hlt)
    refine .inr ⟨⟨_, _, q, hg⟩, Inv (b.take (i + 1)) (b.drop (i + 1)), fun σ' H' p' => ⟨b.length - (i + 1), by omega, rfl, hlt, p'⟩, fun x H' y => ?_⟩
    obtain ⟨T, z, e1, e2, e3, e4⟩ := y
    subst e1
    obtain ⟨pp, e5, hpi⟩ := get_ref (e4 _ q)
    subst e5
    obtain ⟨y, hy, hF⟩ := paired_get hp hpi
    obtain ⟨hd1, ht1⟩ := take_get hy
    have r := hs (b.take i) y (b.drop (i + 1)) pp σ H T (by rw [← hd1, List.take_append_drop]) (up (hx _ _ _ _ p) hF) (by rw [← hd1]; exact p) e2
    rw [e3]
    show g (.ref T) σ _ fun σ2 H2 => tb { D with nx := Inv (b.take (i + 1)) (b.drop (i + 1)), ct := Inv (b.take (i + 1)) (b.drop (i + 1)), bk := D.nx } σ2 H2
    rw [ht1]
    rw [List.length_take, Nat.min_eq_left (Nat.le_of_lt hlt)] at r
    exact r
  · have e : i = b.length := by omega
    subst e
    rw [List.take_length, List.drop_length] at p
    exact .inl ⟨⟨_, q, by rw [hl]; exact Nat.le_refl _⟩, hd σ H p⟩
theorem tS_le (d : List Stp) : (absE d).tS ≤ d.length := by
  induction d using list_snoc with
  | h0 => exact Int.le_refl _
  | h1 d s ih =>
    have i := (ainv d).t0
    rw [absE_snoc, List.length_append, List.length_singleton]
    cases s with
    | ins m => show (absE d).tS + 1 ≤ _; omega
    | rem => show max 0 ((absE d).tS - 1) ≤ _; omega
theorem cut_tail (a : Int) (L : List Int) : cutV ((a :: L).map V.int) (some 1) none = L.map V.int := by
  unfold cutV
  have e1 : HT.sIx ((a :: L).map V.int).length 0 (some 1) = 1 := by
    show (if (1 : Int) < 0 then ((1 : Int) + (((a :: L).map V.int).length : Int)).toNat else min (1 : Int).toNat ((a :: L).map V.int).length) = 1
    rw [if_neg (by decide), List.length_map, List.length_cons]
    show min 1 (L.length + 1) = 1
    omega
  rw [e1]
  show ((V.int a :: L.map V.int).drop 1).take _ = _
  rw [List.drop_succ_cons, List.drop_zero]
  refine List.take_of_length_le ?_
  show _ ≤ HT.sIx _ _ none - 1
  rw [show HT.sIx ((a :: L).map V.int).length ((a :: L).map V.int).length none = ((a :: L).map V.int).length from rfl, List.length_map, List.length_map, List.length_cons]
  omega
def OptL (K : PySem.W.Frag) (H : Hp) (v : V) : Option (List Int) → Prop
  | none => v = .non
  | some L => ∃ q, v = .ref q ∧ SqL K H q (L.map V.int)
section
variable {P : Program} {w : World} {K : PySem.W.Frag} {mg : Str → Option Value} {base : Heap}
def spRun (K : PySem.W.Frag) : Sp := fun vs H Q _ => ∃ a l xs ss, vs = [.ref a, .ref l] ∧ SqL K H a (xs.map V.int) ∧ PrgL K H l ss ∧ ss.length ≤ 5 ∧ xs.length ≤ 100 ∧ ∀ R r0 x H' o, Ex H H' → H' R = some (.lst [r0, x]) → RunRes xs ss o → OptL K H' r0 o → Q (.ref R) H'
theorem sc45 : FnScope ["_law_numbers", "_law_steps", "_law_left", "_law_taken", "_law_position", "_law_step"] ["_law_numbers", "_law_steps"] (defScope (top 45)) := ⟨rfl, rfl, rfl, by decide +kernel, rfl, by decide +kernel, by decide +kernel⟩
theorem ok_run (D : Df K mg "_law_run" (top 45) ["_law_numbers", "_law_steps"]) (T : Nms mg) : Is P w K mg base CX0 1 "_law_run" ["_law_numbers", "_law_steps"] (spRun K) := D.is fun f fd F => by
  refine F.ok sc45 (fun vs H Q E h => ?_) (fun cdv A outer s H vs Q E hr h => ?_)
  · obtain ⟨_, _, _, _, rfl, _⟩ := h
    rfl
  · obtain ⟨a, l, xs, ss, rfl, hX, hS, hsl, hxl, k⟩ := h
    have nd := sc45.nd
    refine ⟨_, (pss_cons (ps_par (i := 2) (j := 3) (by rfl) nd rfl rfl (by decide) rfl rfl (pa_cons (pe_callB cr_sortedI (by rfl) T.sorted bt_sorted (pa_cons (pv 0) pa_nil)) (pa_cons (pe_lst pa_nil) pa_nil)) (by rfl))
      (pss_cons (ps_for PassesOwn.never rfl (pi_enum (by rfl) T.enumerate (pa_cons (pv 1) pa_nil)) (pg_tup (by rfl) (pgs_cons (pg_name (i := 4) nd rfl (Or.inl rfl)) (pgs_cons (pg_name (i := 5) nd rfl (Or.inl rfl)) pgs_nil))) (pss_one (ps_if (pt_cmpR op_eq (pe_ix ix_tup (pv 5) pe_int (fun _ _ => rfl)) pe_str (nomark _)) (pss_one (ps_set (i := 2) nd rfl (Or.inl rfl) (pe_callB cr_sortedI (by rfl) T.sorted bt_sorted (pa_cons (pe_op op_cat (pv 2) (pe_lst (pa_cons (pe_ix ix_tup (pv 5) pe_int (fun _ _ => rfl)) pa_nil))) pa_nil)))) (pss_one (ps_if (pt_cmpR (op_eqD hr.units) (pv 2) (pe_lst pa_nil) (nomark _)) (pss_one (ps_ret (pe_lst (pa_cons pe_non (pa_cons (pv 4) pa_nil))))) (pss_cons (ps_expr (pe_bm PySem.F.plainAttrs_list PySem.F.slot_list_append PySem.F.type_list_append mt_append (pv 3) (pa_cons (pe_ix ix_list (pv 2) pe_int (fun _ _ => rfl)) pa_nil)))
      (pss_one (ps_set (i := 2) nd rfl (Or.inl rfl) (pe_slice sl_list (pv 2) (po_some pe_int) po_none)))))))))
      (pss_one (ps_ret (pe_lst (pa_cons (pv 2) (pa_cons (pv 3) pa_nil))))))), ?_⟩
    refine ⟨_, rfl, a, xs, rfl, hX, fun L0 q hp hs hq => ⟨Nat.zero_le _, fun tk htk => ⟨_, _, rfl, ?_⟩⟩⟩
    have e1 := Ex.new (o := .lst (L0.map V.int)) hq
    have htk0 : H tk = none := fresh_back e1 htk
    have e2 := e1.trans (Ex.new (o := .lst []) htk)
    obtain ⟨ps, hl, hps⟩ := hS
    refine ⟨_, rfl, l, _, rfl, sq_of (e2 _ _ hl), for_enL (K := K) (F := IsStp K) (H0 := H) (fun e h => IsStp.up e h) (sq_of hl) hps (fun d t σ H' => ∃ q L ys v4 v5, σ = [some (.ref a), some (.ref l), some (.ref q), some (.ref tk), v4, v5] ∧ Ex H H' ∧ H' q = some (.lst (L.map V.int)) ∧ H' tk = some (.lst ys) ∧ ys.length ≤ d.length ∧ d.length + t.length = ss.length ∧ q ≠ tk ∧ RunI xs d L)
      ⟨q, L0, [], none, none, rfl, e2, Ex.new htk _ _ upd_same, upd_same, Nat.le_refl _, by simp, (fun z => by rw [z] at hq; rw [← z, upd_same] at htk; cases htk), RunI.start hs hp⟩ (fun _ _ _ _ h => let ⟨_, _, _, _, _, _, e, _⟩ := h; e) ?_ ?_⟩
    · rintro d e t p σ H' TT hbd hE ⟨q, L, ys, v4, v5, rfl, ex, hq', htk', hyl, hdt, hqt, ri⟩ hT
      have eT := Ex.new (o := .tup [.int (d.length : Nat), .ref p]) hT
      have hE' := IsStp.up eT hE
      have hLl : L.length ≤ 105 := by
        have h1 := ri.len
        have h2 := (ainv d)
        have h3 := h2.rl
        have h4 := tS_le d
        have h5 : need d = (absE d).r - tIn d + (absE d).tS := rfl
        have h6 : 0 ≤ need d := need_mono [] d
        simp only [List.length_cons] at hdt
        omega
      refine ⟨TT, _, rfl, st_of upd_same, rfl, _, _, rfl, _, _, rfl, rfl, ?_⟩
      cases e with
      | ins n =>
        refine ⟨_, rfl, p, _, _, V.str "insert", rfl, rfl, hE'.1, rfl, rfl, _, rfl, iteB (decide_eq_true rfl) ?_⟩
        refine ⟨_, rfl, _, rfl, p, _, _, V.int n, rfl, rfl, hE'.1, rfl, (by show 1 ≤ sizeLine; decide), fun m hm => ⟨q, m, _, _, rfl, rfl, Ex.new hm _ _ (eT _ _ hq'), upd_same, ?_, fun c hc => ⟨c, L ++ [n], rfl, ?_, fun L' q' hp' hs' hq2 => ?_⟩⟩⟩
        · rw [List.length_map]
          exact Nat.le_trans (show L.length + 1 ≤ 1000 by omega) (by decide)
        · rw [List.map_append]
          exact sq_of upd_same
        · have y := ((eT.trans (Ex.new (o := .lst [.int n]) hm)).trans (Ex.new (o := .lst (L.map V.int ++ [.int n])) hc)).trans (Ex.new (o := .lst (L'.map V.int)) hq2)
          have htk2 := y _ _ htk'
          exact ⟨q', L', ys, _, _, rfl, ex.trans y, upd_same, htk2, by rw [List.length_append]; omega, by simp only [List.length_append, List.length_cons, List.length_nil] at hdt ⊢; omega, (fun z => by
            have := ((eT.trans (Ex.new (o := .lst [.int n]) hm)).trans (Ex.new (o := .lst (L.map V.int ++ [.int n])) hc)) _ _ htk'
            rw [← z, hq2] at this
            cases this), ri.ins hs' hp'⟩
      | rem =>
        refine ⟨_, rfl, p, _, _, V.str "remove", rfl, rfl, hE'.1, rfl, rfl, _, rfl, iteC (str_ne (by decide +kernel)) ?_⟩
        refine ⟨_, rfl, Nat.zero_le _, fun m hm => ?_⟩
        have y := eT.trans (Ex.new (o := .lst []) hm)
        refine ⟨dI L, dI [], dp_il (sq_of (y _ _ hq')), dp_il (ns := []) (sq_of upd_same), (ok_dI _).shaped (by decide), (ok_dI _).shaped (by decide), _, rfl, ?_⟩
        rw [eqv_dI]
        cases L with
        | nil =>
          refine iteB (decide_eq_true rfl) ?_
          refine ⟨_, rfl, (by show 2 ≤ sizeLine; decide), fun R hR => ?_⟩
          refine k R .non _ _ none ((ex.trans y).trans (Ex.new hR)) upd_same ?_ rfl
          show (xs.length : Int) < need ss
          rw [hbd]
          have := ri.fail (ts := t)
          rw [List.append_assoc] at this
          exact this
        | cons x L =>
          refine iteC (decide_eq_false (by intro z; cases z)) ?_
          have hqy := y _ _ hq'
          have hty := y _ _ htk'
          refine ⟨_, rfl, .inl ⟨rfl, _, sq_of hty⟩, _, rfl, q, _, _, V.int x, rfl, rfl, sq_of hqy, atI_nat (j := 0) rfl, tk, _, _, rfl, rfl, hty, ?_, ?_⟩
          · simp only [List.length_cons] at hdt
            exact small1000 (by omega)
          · have hq3 : upd (upd (upd H' TT (.tup [.int (d.length : Nat), .ref p])) m (.lst [])) tk (.lst (ys ++ [V.int x])) q = some (.lst ((x :: L).map V.int)) := by rw [upd_ne hqt]; exact hqy
            refine ⟨_, rfl, _, rfl, q, _, rfl, sq_of hq3, fun q' hq' => ?_⟩
            rw [cut_tail]
            have htq : tk ≠ q' := fun z => by
              rw [← z, upd_same] at hq'
              cases hq'
            refine ⟨q', L, ys ++ [V.int x], _, _, rfl, ((ex.trans y).mut htk0).trans (Ex.new hq'), upd_same, by rw [upd_ne htq, upd_same], by rw [List.length_append, List.length_append]; exact Nat.add_le_add_right hyl 1, by simp only [List.length_append, List.length_cons, List.length_nil] at hdt ⊢; omega, htq.symm, ri.rem⟩
    · rintro σ H' ⟨q, L, ys, v4, v5, rfl, ex, hq', htk', hyl, hdt, hqt, ri⟩
      exact ⟨_, rfl, _, rfl, (by show 2 ≤ sizeLine; decide), fun R hR => k R _ _ _ (some L) (ex.trans (Ex.new hR)) upd_same ri ⟨q, rfl, sq_of (Ex.new hR _ _ hq')⟩⟩
end
end HX

set_option Elab.async false
set_option linter.all false
set_option maxRecDepth 100000
set_option maxHeartbeats 4000000
namespace HX
open PySem PySem.Spec PyProof.Rows L2 Evl
def OptB (K : PySem.W.Frag) (H : Hp) (v : V) : Option Bg → Prop
  | none => v = .non
  | some b => ∃ q, v = .ref q ∧ IsBag K H q b
section
variable {w : World} {K : PySem.W.Frag} {mg : Str → Option Value} {base : Heap} {C Ce fIe cce cde : Addr}
/-! ### _law_applied -/
def spAppd (K : PySem.W.Frag) (C : Addr) : Sp := fun vs H Q _ => ∃ e h I r S b, vs = [.ref e, .ref h] ∧ IsEff K C H e I r S ∧ Vld I r S ∧ IsBag K H h b ∧ OkB b ∧ ∀ v o H', Ex H H' → AppRes I r S b o → OptB K H' v o → Q v H'
theorem sc51 : FnScope ["_law_effect", "_law_entries"] ["_law_effect", "_law_entries"] (defScope (top 51)) := ⟨rfl, rfl, rfl, by decide +kernel, rfl, by decide +kernel, by decide +kernel⟩
theorem ok_appd (D : Df K mg "_law_applied" (top 51) ["_law_effect", "_law_entries"]) (TE : EfC K mg C) (TH : EhT K mg Ce fIe cce cde) (M_apply : IsM PW w K mg base (L2.CX PW w) 6 C "apply" ["self", "bag"] (spApply K C Ce)) : Is PW w K mg base CX0 7 "_law_applied" ["_law_effect", "_law_entries"] (spAppd K C) := D.is fun f fd F => by
  refine F.ok sc51 (fun vs H Q E h => ?_) (fun cdv A outer s H vs Q E hr h => ?_)
  · obtain ⟨_, _, _, _, _, _, rfl, _⟩ := h
    rfl
  · obtain ⟨e, h, I, r, S, b, rfl, hE, v, hb, ob, k⟩ := h
    refine ⟨_, pss_one (ps_try_only rfl rfl ⟨rfl, by decide, .inl TH.gC⟩ takes0 (fun W pn xe tk _ => pss_one (ps_ret (pe_cm (E := fun cls d H => ∀ σ, W cls d σ H) M_apply TE.cl hr (passes_call tk fun cls d σ H h => h σ) (pv 0) (pa_cons (pv 1) pa_nil)))) (fun a oe cls d pn _ _ => pss_one (ps_ret pe_non))), ?_⟩
    obtain ⟨dx, t, he, _⟩ := id hE
    refine ⟨_, rfl, e, dx, _, rfl, he, (by simp; decide), _, rfl, e, h, I, r, S, b, rfl, hE, v, hb, ob, fun hlt d H' e1 σ => ?_, fun hn c Cc H1 e1 hc ⟨p1, p2⟩ => ?_⟩
    · exact ⟨true, TH.te, fun _ a ha => k .non none H' e1 hlt rfl, fun q => nomatch q⟩
    · exact k (.ref c) (some Cc) H1 e1 ⟨p1, hn, p2⟩ ⟨c, rfl, hc⟩
/-! ### _law_list -/
def spLst (K : PySem.W.Frag) : Sp := fun vs H Q _ => ∃ a z size, vs = [.ref a] ∧ IsBag K H a (heapB z size) ∧ 0 ≤ size ∧ size ≤ 100 ∧ ∀ l H', Ex H H' → H' l = some (.lst ((List.replicate size.toNat z).map V.int)) → Q (.ref l) H'
theorem sc47 : FnScope ["_law_entries", "_law_number", "_law_many"] ["_law_entries"] (defScope (top 47)) := ⟨rfl, rfl, rfl, by decide +kernel, rfl, by decide +kernel, by decide +kernel⟩
theorem ok_lst (D : Df K mg "_law_list" (top 47) ["_law_entries"]) (T : Nms mg) : Is PW w K mg base CX0 1 "_law_list" ["_law_entries"] (spLst K) := D.is fun f fd F => by
  refine F.ok sc47 (fun vs H Q E h => ?_) (fun cdv A outer s H vs Q E hr h => ?_)
  · obtain ⟨_, _, _, rfl, _⟩ := h
    rfl
  · obtain ⟨a, z, size, rfl, hB, h0, h100, k⟩ := h
    have nd := sc47.nd
    refine ⟨_, (pss_one (ps_ret (pe_callB (cr_sumL rfl) (by rfl) T.sum bt_sum (pa_cons (pe_lc (own := [("_law_number", 1), ("_law_many", 2)]) (g := gTup K 2 (gCons (gName 1) (gCons (gName 2) gNil))) rfl nd (pi_tup (pv 0)) (blkOk_by (own := [("_law_number", 1), ("_law_many", 2)]) (N := ["_law_entries", "_law_number", "_law_many"]) (sc := defScope (top 47)) (by decide +kernel)) (fun _ _ _ _ _ => (pg_tup (by rfl) (pgs_cons (pg_name (i := 1) nd rfl (Or.inl rfl)) (pgs_cons (pg_name (i := 2) nd rfl (Or.inl rfl)) pgs_nil)))) (fun _ _ _ _ _ => pts_nil) (fun _ _ _ _ _ => (pe_op op_rep (pe_lst (pa_cons (pv 1) pa_nil)) (pv 2)))) (pa_cons (pe_lst pa_nil) pa_nil))))), ?_⟩
    obtain ⟨ps, hq, hlen, hp⟩ := hB.sq
    refine ⟨_, rfl, a, rfl, ⟨_, hq⟩, fun L hL => ?_⟩
    refine lc_bag (H0 := H) hq hp (fun d t H' => Ex H H' ∧ d ++ t = heapB z size ∧ ((d = [] ∧ H' L = some (.lst [])) ∨ (d = heapB z size ∧ d ≠ [] ∧ ∃ m, H' L = some (.lst [.ref m]) ∧ H' m = some (.lst ((List.replicate size.toNat z).map V.int))))) ⟨Ex.new hL, rfl, .inl ⟨rfl, upd_same⟩⟩ (fun _ _ _ h => h.1) ?_ ?_
    · rintro d e t p H' hbd hE ⟨ex, hdt, hcase⟩
      have hs : 0 < size := by
        by_cases y : 0 < size
        · exact y
        · unfold heapB at hbd
          rw [if_neg y] at hbd
          cases d <;> cases hbd
      have hbz : heapB z size = [(z, size)] := by unfold heapB; rw [if_pos hs]
      rw [hbz] at hdt hbd
      have hd0 : d = [] ∧ e = (z, size) ∧ t = [] := by
        cases d with
        | nil =>
          injection hdt with q1 q2
          exact ⟨rfl, q1, q2⟩
        | cons x y =>
          injection hdt with q1 q2
          cases y <;> cases q2
      obtain ⟨rfl, rfl, rfl⟩ := hd0
      have hL' : H' L = some (.lst []) := by
        rcases hcase with ⟨_, q⟩ | ⟨_, q, _⟩
        · exact q
        · exact absurd rfl q
      refine ⟨p, _, rfl, hE, rfl, _, _, rfl, _, _, rfl, rfl, rfl, _, rfl, (by show 1 ≤ sizeLine; decide), fun x hx => ⟨_, rfl, x, size, _, rfl, rfl, upd_same, by omega, by omega, ?_, fun m hm => ?_⟩⟩
      · exact Nat.le_trans (show 1 * size.toNat ≤ 100 by omega) (by decide)
      · have y := (Ex.new (o := .lst [.int z]) hx).trans (Ex.new (o := .lst (List.replicate size.toNat [V.int z]).flatten) hm)
        refine ⟨_, y _ _ hL', (by show 0 < sizeLine; decide), (ex.trans y).mut hL, hbz.symm, .inr ⟨hbz.symm, by simp, m, upd_same, ?_⟩⟩
        have hmL : m ≠ L := fun q => by
          have := (Ex.new (o := .lst [.int z]) hx) _ _ hL'
          rw [← q, hm] at this
          cases this
        rw [upd_ne hmL, upd_same]
        congr 2
        rw [List.map_replicate]
        exact List.flatten_replicate_singleton
    · rintro H' ⟨ex, hdt, hcase⟩
      refine ⟨Nat.zero_le _, fun x hx => ?_⟩
      have y := Ex.new (o := .lst []) hx
      refine ⟨L, x, rfl, upd_same, ?_⟩
      rcases hcase with ⟨q1, q2⟩ | ⟨q1, q2, m, q3, q4⟩
      · have hs : ¬ 0 < size := fun z0 => by unfold heapB at q1; rw [if_pos z0] at q1; cases q1
        refine .inl ⟨sq_of (y _ _ q2), k x _ (ex.trans y) ?_⟩
        have : size.toNat = 0 := by omega
        rw [this]
        exact upd_same
      · exact .inr ⟨m, _, sq_of (y _ _ q3), y _ _ q4, fun l hl => k l _ ((ex.trans y).trans (Ex.new hl)) upd_same⟩
end
end HX

set_option Elab.async false
set_option linter.all false
set_option maxRecDepth 100000
set_option maxHeartbeats 4000000
namespace HX
open PySem PySem.Spec PyProof.Rows L2 Evl
theorem cutV_mem (ns : List Int) (lo hi : Option Int) : ∃ ms : List Int, cutV (ns.map V.int) lo hi = ms.map V.int ∧ ∀ y ∈ ms, y ∈ ns := ⟨(ns.drop (HT.sIx (ns.map V.int).length 0 lo)).take (HT.sIx (ns.map V.int).length (ns.map V.int).length hi - HT.sIx (ns.map V.int).length 0 lo), by
  unfold cutV
  rw [List.map_take, List.map_drop], fun y hy => List.mem_of_mem_drop (List.mem_of_mem_take hy)⟩
/-- a list of i numbers from -2 to 3 -/
def Hp6 (H : Hp) (i : Nat) (p : Addr) : Prop := ∃ xs : List Int, H p = some (.lst (xs.map V.int)) ∧ xs.length = i ∧ ∀ y ∈ xs, -2 ≤ y ∧ y ≤ 3
theorem Hp6.up {H H' : Hp} {i : Nat} {p : Addr} (h : Hp6 H i p) (e : Ex H H') : Hp6 H' i p := by
  obtain ⟨xs, h1, h2⟩ := h
  exact ⟨xs, e _ _ h1, h2⟩
theorem paired_self {α : Type} {F : α → Prop} : ∀ {xs : List α}, (∀ x ∈ xs, F x) → Paired (fun a b => a = b ∧ F a) xs xs
  | [], _ => .nil
  | x :: xs, h => .cons ⟨rfl, h x List.mem_cons_self⟩ (paired_self fun y hy => h y (List.mem_cons_of_mem _ hy))
section
variable {w : World} {K : PySem.W.Frag} {mg : Str → Option Value} {base : Heap} {C Ce fIe cce cde : Addr}
def spHeaps : Sp := fun vs H Q _ => ∃ n : Int, vs = [.int n] ∧ 0 ≤ n ∧ n ≤ 4 ∧ ∀ (l : Addr) (ps : List Addr) (H' : Hp), Ex H H' → H' l = some (.lst (ps.map V.ref)) → (∀ p ∈ ps, Hp6 H' n.toNat p) → Q (.ref l) H'
theorem sc49 : FnScope ["_law_size", "_law_found", "_law_turn", "_law_longer", "_law_one", "_law_number"] ["_law_size"] (defScope (top 49)) := ⟨rfl, rfl, rfl, by decide +kernel, rfl, by decide +kernel, by decide +kernel⟩
theorem ok_heaps (D : Df K mg "_law_heaps" (top 49) ["_law_size"]) (T : Nms mg) : Is PW w K mg base CX0 1 "_law_heaps" ["_law_size"] spHeaps := D.is fun f fd F => by
  refine F.ok sc49 (fun vs H Q E h => ?_) (fun cdv A outer s H vs Q E hr h => ?_)
  · obtain ⟨_, rfl, _⟩ := h
    rfl
  · obtain ⟨n, rfl, hn0, hn4, k⟩ := h
    have nd := sc49.nd
    refine ⟨_, (pss_cons (ps_set (i := 1) nd rfl (Or.inl rfl) (pe_lst (pa_cons (pe_lst pa_nil) pa_nil)))
      (pss_cons (ps_for PassesOwn.never rfl (pi_range1 (by rfl) T.range (pa_cons (pv 0) pa_nil)) (pg_name (i := 2) nd rfl (Or.inl rfl)) (pss_cons (ps_set (i := 3) nd rfl (Or.inl rfl) (pe_lst pa_nil))
      (pss_cons (ps_for PassesOwn.never rfl (pi_list (pv 1)) (pg_name (i := 4) nd rfl (Or.inr rfl)) (pss_one (ps_set (i := 3) nd rfl (Or.inl rfl) (pe_op op_cat (pv 3) (pe_lc (own := [("_law_number", 5)]) (g := gName 5) rfl nd (pi_range2 (by rfl) T.range (pa_cons (pe_callB (cr_max rfl) (by rfl) T.max bt_max (pa_cons (pe_op op_cat (pe_lst (pa_cons (pe_un un_neg pe_int) pa_nil)) (pe_slice sl_list (pv 4) (po_some (pe_un un_neg pe_int)) po_none)) pa_nil)) (pa_cons pe_int pa_nil))) (blkOk_by (own := [("_law_number", 5)]) (N := ["_law_size", "_law_found", "_law_turn", "_law_longer", "_law_one", "_law_number"]) (sc := defScope (top 49)) (by decide +kernel)) (fun _ _ _ _ _ => (pg_name (i := 5) nd rfl (Or.inl rfl))) (fun _ _ _ _ _ => pts_nil) (fun _ _ _ _ _ => (pe_op op_cat (pv 4) (pe_lst (pa_cons (pv 5) pa_nil)))))))))
      (pss_one (ps_set (i := 1) nd rfl (Or.inl rfl) (pv 3))))))
      (pss_one (ps_ret (pv 1))))), ?_⟩
    refine ⟨Nat.zero_le _, fun x0 hx0 => ⟨(by show 1 ≤ sizeLine; decide), fun F0 hF0 => ?_⟩⟩
    have e0 := (Ex.new (o := .lst []) hx0).trans (Ex.new (o := .lst [.ref x0]) hF0)
    refine ⟨_, rfl, n, rfl, by omega, by omega, for_range (lo := 0) (n := n.toNat) (fun i σ H' => ∃ (F : Addr) (ps : List Addr) (v2 v3 v4 v5 : Option V), σ = [some (.int n), some (.ref F), v2, v3, v4, v5] ∧ Ex H H' ∧ H' F = some (.lst (ps.map V.ref)) ∧ (∀ p ∈ ps, Hp6 H' i p) ∧ ps.length ≤ 6 ^ i)
      ⟨F0, [x0], none, none, none, none, rfl, e0, upd_same, fun p hp => ⟨[], by rw [List.mem_singleton.mp hp]; exact Ex.new hF0 _ _ upd_same, rfl, fun _ h => nomatch h⟩, Nat.le_refl _⟩ ?_ ?_⟩
    · rintro i σ H' hi ⟨F, ps, v2, v3, v4, v5, rfl, ex, hF, hps, hpl⟩
      have hi4 : i < 4 := by omega
      have h216 : (6 : Nat) ^ i ≤ 216 := by
        match i, hi4 with
        | 0, _ => decide
        | 1, _ => decide
        | 2, _ => decide
        | 3, _ => decide
      refine ⟨Nat.zero_le _, fun Lg hLg => ?_⟩
      have e1 := Ex.new (o := .lst []) hLg
      have hps1 : ∀ p ∈ ps, Hp6 (upd H' Lg (.lst [])) i p := fun p hp => (hps p hp).up e1
      refine ⟨_, rfl, F, rfl, ⟨_, sq_of (e1 _ _ hF)⟩, for_listP (K := K) (F := fun H a b => a = b ∧ Hp6 H i a) (b := ps) (H0 := upd H' Lg (.lst [])) (fun e h => ⟨h.1, h.2.up e⟩) (sq_of (e1 _ _ hF)) (paired_self hps1) (fun d t σ H2 => ∃ (Lx : Addr) (qs : List Addr) (v4 v5 : Option V), σ = [some (.int n), some (.ref F), some (.int (0 + (i : Int))), some (.ref Lx), v4, v5] ∧ Ex (upd H' Lg (.lst [])) H2 ∧ Ex H' H2 ∧ H2 Lx = some (.lst (qs.map V.ref)) ∧ (∀ q ∈ qs, Hp6 H2 (i + 1) q) ∧ qs.length ≤ 6 * d.length ∧ d.length + t.length = ps.length) ?_ ?_ ?_ ?_⟩
      · exact ⟨Lg, [], _, _, rfl, ex_self _, e1, upd_same, fun _ h => (nomatch h), Nat.zero_le _, by simp⟩
      · rintro d t σ H2 ⟨_, _, _, _, _, e, _⟩
        exact e
      · rintro d e t p σ H2 hbd ⟨rfl, hE⟩ ⟨Lg2, qs, v4', v5', rfl, x1, x2, hL2, hqs, hql, hdt⟩
        obtain ⟨xs, g1, g2, g3⟩ := hE
        have hd216 : d.length ≤ 216 := by simp only [List.length_cons] at hdt; omega
        refine ⟨_, rfl, 2, rfl, (by show 1 ≤ sizeLine; decide), fun m1 hm1 => ⟨_, rfl, 1, rfl, _, rfl, p, _, rfl, sq_of (Ex.new hm1 _ _ g1), fun m2 hm2 => ?_⟩⟩
        obtain ⟨ms, hms, hmem⟩ := cutV_mem xs (some (-1)) none
        have y1 := Ex.new (o := .lst [.int (-2)]) hm1
        have y2 := y1.trans (Ex.new (o := .lst (cutV (xs.map V.int) (some (-1)) none)) hm2)
        have hm2' : upd (upd H2 m1 (.lst [.int (-2)])) m2 (.lst (cutV (xs.map V.int) (some (-1)) none)) m2 = some (.lst (ms.map V.int)) := by rw [upd_same, hms]
        refine ⟨m1, m2, _, _, rfl, rfl, Ex.new hm2 _ _ upd_same, hm2', ?_, fun m3 hm3 => ⟨m3, -2 :: ms, rfl, sq_of ?_, (by simp), fun m hm hle => ?_⟩⟩
        · rw [List.length_map]
          have hml : (ms.map V.int).length ≤ (xs.map V.int).length := by rw [← hms]; exact cutV_length _ _ _
          rw [List.length_map, List.length_map] at hml
          exact Nat.le_trans (show 1 + ms.length ≤ 100 by omega) (by decide)
        · rw [upd_same]
          rfl
        have hm1' : -2 ≤ m ∧ m ≤ 3 := by
          rcases List.mem_cons.mp hm with z | z
          · omega
          · exact g3 m (hmem m z)
        have y3 := y2.trans (Ex.new (o := .lst ([V.int (-2)] ++ ms.map V.int)) hm3)
        refine ⟨m, 4, rfl, ⟨by omega, by omega, by decide, by decide⟩, fun D hD => ?_⟩
        refine lc_range (lo := m) (n := (4 - m).toNat) (fun j H' => Ex (upd (upd (upd H2 m1 (.lst [.int (-2)])) m2 (.lst (cutV (xs.map V.int) (some (-1)) none))) m3 (.lst ([V.int (-2)] ++ ms.map V.int))) H' ∧ ∃ rs : List Addr, H' D = some (.lst (rs.map V.ref)) ∧ (∀ r ∈ rs, Hp6 H' (i + 1) r) ∧ rs.length = j) ⟨Ex.new hD, [], upd_same, fun _ h => (nomatch h), rfl⟩ ?_ ?_
        · rintro j H3 hj ⟨x3, rs, hD3, hrs, hrl⟩
          have g1' := x3 _ _ (y3 _ _ g1)
          refine ⟨rfl, _, rfl, _, rfl, (by show 1 ≤ sizeLine; decide), fun m4 hm4 => ⟨p, m4, _, _, rfl, rfl, Ex.new hm4 _ _ g1', upd_same, ?_, fun m5 hm5 => ?_⟩⟩
          · rw [List.length_map]
            exact Nat.le_trans (show xs.length + 1 ≤ 100 by omega) (by decide)
          · have y4 := (Ex.new (o := .lst [.int (m + (j : Int))]) hm4).trans (Ex.new (o := .lst (xs.map V.int ++ [.int (m + (j : Int))])) hm5)
            have hD4 := y4 _ _ hD3
            have hDn : (upd (upd (upd H2 m1 (.lst [.int (-2)])) m2 (.lst (cutV (xs.map V.int) (some (-1)) none))) m3 (.lst ([V.int (-2)] ++ ms.map V.int))) D = none := hD
            have up2 : ∀ {r : Addr} {l : List V}, r ≠ D → Hp6 (upd (upd H3 m4 (.lst [.int (m + (j : Int))])) m5 (.lst (xs.map V.int ++ [.int (m + (j : Int))]))) (i + 1) r → Hp6 (upd (upd (upd H3 m4 (.lst [.int (m + (j : Int))])) m5 (.lst (xs.map V.int ++ [.int (m + (j : Int))]))) D (.lst l)) (i + 1) r := fun {r l} hr ⟨zs, a, b⟩ => ⟨zs, by rw [upd_ne hr]; exact a, b⟩
            have neD : ∀ r, Hp6 H3 (i + 1) r → r ≠ D := fun r ⟨zs, a, b, c⟩ z => by
              rw [z, hD3] at a
              have a2 := HO.lst.inj (Option.some.inj a)
              cases rs with
              | nil =>
                cases zs with
                | nil => cases b
                | cons _ _ => cases a2
              | cons r0 rs0 =>
                cases zs with
                | nil => cases b
                | cons z0 zs0 => cases a2
            have hm5D : m5 ≠ D := fun z => by
              have := (Ex.new (o := .lst [.int (m + (j : Int))]) hm4) _ _ hD3
              rw [← z, hm5] at this
              cases this
            refine ⟨_, hD4, ?_, (x3.trans y4).mut hDn, rs ++ [m5], ?_, fun r hr => ?_, by rw [List.length_append, hrl]; rfl⟩
            · rw [List.length_map]
              exact small1000 (by omega)
            · rw [upd_same, List.map_append]
              rfl
            · rcases List.mem_append.mp hr with z | z
              · exact up2 (neD r (hrs r z)) ((hrs r z).up y4)
              · rw [List.mem_singleton.mp z]
                refine up2 hm5D ⟨xs ++ [m + (j : Int)], ?_, by rw [List.length_append, g2]; rfl, fun y hy => ?_⟩
                · rw [upd_same, List.map_append]
                  rfl
                · rcases List.mem_append.mp hy with q | q
                  · exact g3 y q
                  · rw [List.mem_singleton.mp q]
                    omega
        · rintro H3 ⟨x3, rs, hD3, hrs, hrl⟩
          have y4 := y3.trans x3
          refine ⟨Lg2, D, _, _, rfl, rfl, y4 _ _ hL2, hD3, ?_, fun m6 hm6 => ?_⟩
          · rw [List.length_map, List.length_map]
            exact Nat.le_trans (show qs.length + rs.length ≤ 2000 by omega) (by decide)
          · have y5 := y4.trans (Ex.new (o := .lst (qs.map V.ref ++ rs.map V.ref)) hm6)
            refine ⟨m6, qs ++ rs, _, _, rfl, x1.trans y5, x2.trans y5, by rw [upd_same, List.map_append], fun q hq => ?_, ?_, by simp only [List.length_append, List.length_cons, List.length_nil] at hdt ⊢; omega⟩
            · rcases List.mem_append.mp hq with z | z
              · exact (hqs q z).up y5
              · exact (hrs q z).up (Ex.new hm6)
            · rw [List.length_append, List.length_append, List.length_singleton]
              omega
      · rintro σ H2 ⟨Lg2, qs, v4', v5', rfl, x1, x2, hL2, hqs, hql, hdt⟩
        refine ⟨_, rfl, Lg2, qs, _, _, _, _, rfl, ex.trans x2, hL2, hqs, ?_⟩
        rw [Nat.pow_succ]
        simp only [List.length_nil, Nat.add_zero] at hdt
        omega
    · rintro σ H' ⟨F, ps, v2, v3, v4, v5, rfl, ex, hF, hps, hpl⟩
      exact ⟨_, rfl, k F ps H' ex hF hps⟩
end
end HX

set_option Elab.async false
set_option linter.all false
set_option maxRecDepth 100000
set_option maxHeartbeats 4000000
namespace HX
open PySem PySem.Spec PyProof.Rows L2 Evl
/-! ### steps as data -/
def dS : Stp → PyData
  | .ins n => .tuple [.str "insert", .int n, .int 1]
  | .rem => .tuple [.str "remove", .int 1]
theorem okD_str1 : okD 0 (.str "insert") := ⟨by simp only [PyData.canLay0]; decide +kernel, by simp [PyData.depth]⟩
theorem okD_str2 : okD 0 (.str "remove") := ⟨by simp only [PyData.canLay0]; decide +kernel, by simp [PyData.depth]⟩
theorem ok_dS (s : Stp) : okD 1 (dS s) := by
  cases s with
  | ins n =>
    refine okD.tuple fun d hd => ?_
    rcases List.mem_cons.mp hd with z | z
    · rw [z]; exact okD_str1
    · rcases List.mem_cons.mp z with z | z
      · rw [z]; exact okD.int _
      · rw [List.mem_singleton.mp z]; exact okD.int _
  | rem =>
    refine okD.tuple fun d hd => ?_
    rcases List.mem_cons.mp hd with z | z
    · rw [z]; exact okD_str2
    · rw [List.mem_singleton.mp z]; exact okD.int _
theorem ok_dSs (ss : List Stp) : okD 2 (.list (ss.map dS)) := okD.list fun d hd => by
  obtain ⟨e, _, q⟩ := List.mem_map.mp hd
  rw [← q]
  exact ok_dS e
theorem eqv_dSs (ss : List Stp) : PyData.eqv (.list (ss.map dS)) (.list []) = ss.isEmpty := by
  cases ss with
  | nil => simp [PyData.eqv, PyData.eqvAll]
  | cons _ _ => simp [PyData.eqv, PyData.eqvAll]
theorem dpAll_stps {K : PySem.W.Frag} {H : Hp} : ∀ {ps : List Addr} {ss : List Stp}, Paired (IsStp K H) ps ss → DpAll K H (ps.map V.ref) (ss.map dS)
  | _, _, .nil => .nil
  | _, _, .cons (b := s) h t => .cons (by
      cases s with
      | ins n => exact .tup h.1 (.cons (.str _) (.cons (.int _) (.cons (.int _) .nil)))
      | rem => exact .tup h.1 (.cons (.str _) (.cons (.int _) .nil))) (dpAll_stps t)
theorem paired_erase {α β : Type} {F : α → β → Prop} : ∀ {xs : List α} {ys : List β}, Paired F xs ys → ∀ k, Paired F (xs.eraseIdx k) (ys.eraseIdx k)
  | _, _, .nil, _ => .nil
  | _, _, .cons _ t, 0 => t
  | _, _, .cons h t, k + 1 => .cons h (paired_erase t k)
theorem erase_map {α β : Type} (f : α → β) : ∀ (xs : List α) (k : Nat), (xs.map f).eraseIdx k = (xs.eraseIdx k).map f
  | [], _ => rfl
  | _ :: _, 0 => rfl
  | x :: xs, k + 1 => congrArg (f x :: ·) (erase_map f xs k)
section
variable {w : World} {K : PySem.W.Frag} {mg : Str → Option Value} {base : Heap} {C Ce fIe cce cde : Addr}
def spShuf (K : PySem.W.Frag) : Sp := fun vs H Q _ => ∃ p l ss, vs = [.ref p, .ref l] ∧ Pl p H ∧ PrgL K H l ss ∧ l ≠ p ∧ ss.length ≤ 5 ∧ ∀ l' ss' H', Ex1 p H H' → Pl p H' → PrgL K H' l' ss' → l' ≠ p → ss'.length ≤ 5 → Q (.ref l') H'
theorem IsStp.wr {K : PySem.W.Frag} {H : Hp} {L : Addr} {xs ys : List V} (hL : H L = some (.lst xs)) {a : Addr} {s : Stp} (h : IsStp K H a s) : IsStp K (upd H L (.lst ys)) a s := ⟨by
  rcases h.1 with (h | ⟨o, h⟩) | h
  · exact .inl (.inl (by rw [upd_ne (fun z => by rw [z, hL] at h; cases h)]; exact h))
  · exact .inl (.inr ⟨o, by rw [upd_ne (fun z => by rw [z, hL] at h; cases h)]; exact h⟩)
  · exact .inr h, h.2⟩
theorem sc50 : FnScope ["_law_pool_here", "_law_steps", "_law_left", "_law_found"] ["_law_pool_here", "_law_steps"] (defScope (top 50)) := ⟨rfl, rfl, rfl, by decide +kernel, rfl, by decide +kernel, by decide +kernel⟩
theorem ok_shuf (D : Df K mg "_law_shuffled" (top 50) ["_law_pool_here", "_law_steps"]) (T : Nms mg) (G_law_draw : Is PW w K mg base CX0 1 "_law_draw" ["_law_pool_here", "_law_many"] spDraw) : Is PW w K mg base CX0 2 "_law_shuffled" ["_law_pool_here", "_law_steps"] (spShuf K) := D.is fun f fd F => by
  refine F.ok sc50 (fun vs H Q E h => ?_) (fun cdv A outer s H vs Q E hr h => ?_)
  · obtain ⟨_, _, _, rfl, _⟩ := h
    rfl
  · obtain ⟨p, l, ss, rfl, hP, ⟨ps, hl, hps⟩, hlp, hsl, k⟩ := h
    have nd := sc50.nd
    refine ⟨_, (pss_cons (ps_par (i := 2) (j := 3) (by rfl) nd rfl rfl (by decide) rfl rfl (pa_cons (pe_callTy call_list_of (by rfl) T.list bt_list (pa_cons (pv 1) pa_nil)) (pa_cons (pe_lst pa_nil) pa_nil)) (by rfl))
      (pss_cons (ps_while PassesOwn.never (pt_cmpR (op_neD hr.units) (pv 2) (pe_lst pa_nil) (nomark _)) (pss_one (ps_expr (pe_bm PySem.F.plainAttrs_list PySem.F.slot_list_append PySem.F.type_list_append mt_append (pv 3) (pa_cons (pe_bm PySem.F.plainAttrs_list PySem.F.slot_list_pop PySem.F.type_list_pop mt_popAt (pv 2) (pa_cons (pe_cal G_law_draw hr rfl pass0 (pa_cons (pv 0) (pa_cons (pe_callB call_len_seq (by rfl) T.len bt_len (pa_cons (pv 2) pa_nil)) pa_nil))) pa_nil)) pa_nil)))))
      (pss_one (ps_ret (pv 3))))), ?_⟩
    refine ⟨_, rfl, l, _, rfl, .inl (sq_of hl), fun L0 hL0 => ⟨Nat.zero_le _, fun F0 hF0 => ⟨_, _, rfl, ?_⟩⟩⟩
    have e1 := Ex.new (o := .lst (ps.map V.ref)) hL0
    have hF00 : H F0 = none := fresh_back e1 hF0
    have e2 := e1.trans (Ex.new (o := .lst []) hF0)
    refine ⟨fun m σ H' => ∃ (ps1 qs1 : List Addr) (s1 s2 : List Stp), σ = [some (.ref p), some (.ref l), some (.ref L0), some (.ref F0)] ∧ Ex1 p H H' ∧ Pl p H' ∧ H' L0 = some (.lst (ps1.map V.ref)) ∧ H' F0 = some (.lst (qs1.map V.ref)) ∧ Paired (IsStp K H') ps1 s1 ∧ Paired (IsStp K H') qs1 s2 ∧ ps1.length = m ∧ m + qs1.length ≤ 5,
      ⟨ps.length, ps, [], ss, [], rfl, Ex1.of e2, hP.up e2, Ex.new hF0 _ _ upd_same, upd_same, paired_up (fun _ _ q => q.up e2) hps, .nil, rfl, by rw [paired_len hps]; exact hsl⟩, ?_⟩
    have hLp : L0 ≠ p := hP.ne hL0
    have hFp : F0 ≠ p := hP.ne hF00
    have hLF : L0 ≠ F0 := fun z => by rw [← z, upd_same] at hF0; cases hF0
    rintro m σ H' ⟨ps1, qs1, s1, s2, rfl, ex, hP', hL', hF', hp1, hp2, hm, hq⟩
    refine ⟨_, rfl, Nat.zero_le _, fun x hx => ?_⟩
    have y := Ex.new (o := .lst []) hx
    have hLy := y _ _ hL'
    have hFy := y _ _ hF'
    have hp1y := paired_up (fun _ _ q => IsStp.up y q) (G := IsStp K (upd H' x (.lst []))) hp1
    have hp2y := paired_up (fun _ _ q => IsStp.up y q) (G := IsStp K (upd H' x (.lst []))) hp2
    refine ⟨.list (s1.map dS), .list (([] : List Stp).map dS), .lst (sq_of hLy) (dpAll_stps hp1y), .lst (sq_of (xs := []) upd_same) .nil, (ok_dSs _).shaped (by decide), (ok_dSs []).shaped (by decide), _, rfl, ?_⟩
    rw [show (PyData.list (([] : List Stp).map dS)) = .list [] from rfl, eqv_dSs]
    cases s1 with
    | nil =>
      refine iteC rfl ?_
      have : ps1 = [] := by cases hp1; rfl
      subst this
      exact ⟨_, rfl, k F0 s2 _ (ex.trans (Ex1.of y)) (hP'.up y) ⟨qs1, hFy, hp2y⟩ hFp (by rw [← paired_len hp2]; omega)⟩
    | cons sa s1 =>
      refine iteB rfl ?_
      refine ⟨fun σ' H2 => ∃ m', m' < m ∧ ∃ (ps1 qs1 : List Addr) (s1 s2 : List Stp), σ' = [some (.ref p), some (.ref l), some (.ref L0), some (.ref F0)] ∧ Ex1 p H H2 ∧ Pl p H2 ∧ H2 L0 = some (.lst (ps1.map V.ref)) ∧ H2 F0 = some (.lst (qs1.map V.ref)) ∧ Paired (IsStp K H2) ps1 s1 ∧ Paired (IsStp K H2) qs1 s2 ∧ ps1.length = m' ∧ m' + qs1.length ≤ 5, fun σ' H2 h => h, ?_⟩
      have hmpos : 0 < m := by rw [← hm, paired_len hp1]; exact Nat.succ_pos _
      refine ⟨_, rfl, .inl ⟨rfl, _, sq_of hFy⟩, _, rfl, .inl ⟨rfl, _, sq_of hLy⟩, _, rfl, _, rfl, L0, _, rfl, .inl (sq_of hLy), p, _, rfl, hP'.up y, ?_, ?_, fun f' o hf0 hfm ho => ?_⟩
      · rw [List.length_map, hm]
        omega
      · rw [List.length_map, hm]
        have : (m : Int) < 10 := by omega
        exact Int.lt_trans this (by decide)
      rw [List.length_map, hm] at hfm
      have hfn : f'.toNat < ps1.length := by omega
      have hLz : upd (upd H' x (.lst [])) p o L0 = some (.lst (ps1.map V.ref)) := by rw [upd_ne hLp]; exact hLy
      have hFz : upd (upd H' x (.lst [])) p o F0 = some (.lst (qs1.map V.ref)) := by rw [upd_ne hFp]; exact hFy
      have hix : ixN (ps1.map V.ref).length f' = some f'.toNat := by
        unfold ixN
        rw [if_pos hf0, List.length_map, if_pos (by omega)]
      obtain ⟨hseq, _⟩ := ixN_seq hix
      have hget : (ps1.map V.ref)[f'.toNat]? = some (V.ref ps1[f'.toNat]) := by rw [List.getElem?_map, List.getElem?_eq_getElem hfn]; rfl
      have hp1z := paired_up (fun _ _ q => IsStp.wr hLz (ys := (ps1.map V.ref).eraseIdx f'.toNat) (IsStp.x1 (hP'.up y) (Ex1.self (o := o)) q)) (G := IsStp K (upd (upd (upd H' x (.lst [])) p o) L0 (.lst ((ps1.map V.ref).eraseIdx f'.toNat)))) hp1y
      have hp2z := paired_up (fun _ _ q => IsStp.wr hLz (ys := (ps1.map V.ref).eraseIdx f'.toNat) (IsStp.x1 (hP'.up y) (Ex1.self (o := o)) q)) (G := IsStp K (upd (upd (upd H' x (.lst [])) p o) L0 (.lst ((ps1.map V.ref).eraseIdx f'.toNat)))) hp2y
      have hFw : upd (upd (upd H' x (.lst [])) p o) L0 (.lst ((ps1.map V.ref).eraseIdx f'.toNat)) F0 = some (.lst (qs1.map V.ref)) := by rw [upd_ne hLF.symm]; exact hFz
      obtain ⟨sx, hsx, hst⟩ := paired_get hp1z (List.getElem?_eq_getElem hfn)
      refine ⟨L0, _, f', f'.toNat, .ref ps1[f'.toNat], rfl, rfl, hLz, by omega, by omega, hseq, hget, F0, _, _, rfl, rfl, hFw, ?_, ?_⟩
      · rw [List.length_map]
        exact small1000 (by omega)
      · refine ⟨m - 1, by omega, ps1.eraseIdx f'.toNat, qs1 ++ [ps1[f'.toNat]], (sa :: s1).eraseIdx f'.toNat, s2 ++ [sx], rfl, fun b ob hb h => ?_, ⟨o, ?_, ho⟩, ?_, ?_, paired_up (fun _ _ q => IsStp.wr hFw q) (paired_erase hp1z _), paired_up (fun _ _ q => IsStp.wr hFw q) (paired_app hp2z (.cons hst .nil)), ?_, ?_⟩
        · have b1 : b ≠ F0 := fun z => by rw [z, hF00] at h; cases h
          have b2 : b ≠ L0 := fun z => by rw [z, hL0] at h; cases h
          rw [upd_ne b1, upd_ne b2, upd_ne hb]
          exact y _ _ (ex b ob hb h)
        · rw [upd_ne hFp.symm, upd_ne hLp.symm, upd_same]
        · rw [upd_ne hLF, upd_same, erase_map]
        · rw [upd_same, List.map_append]
          rfl
        · rw [List.length_eraseIdx_of_lt hfn, hm]
        · rw [List.length_append, List.length_singleton]
          omega
end
end HX

set_option Elab.async false
set_option linter.all false
set_option maxRecDepth 100000
set_option maxHeartbeats 4000000
namespace HX
open PySem PySem.Spec PyProof.Rows L2 Evl
def dO : Option (List Int) → PyData
  | none => .none
  | some L => dI L
theorem ok_dO (o : Option (List Int)) : okD 1 (dO o) := by
  cases o with
  | none => exact okD.non.le (by decide)
  | some L => exact ok_dI L
theorem eqv_dO (a b : Option (List Int)) : PyData.eqv (dO a) (dO b) = decide (a = b) := by
  cases a with
  | none => cases b with
    | none => simp [dO, PyData.eqv]
    | some L => simp [dO, dI, PyData.eqv]
  | some L => cases b with
    | none => simp [dO, dI, PyData.eqv]
    | some M =>
      show PyData.eqv (dI L) (dI M) = _
      rw [eqv_dI]
      by_cases h : L = M <;> simp [h]
section
variable {w : World} {K : PySem.W.Frag} {mg : Str → Option Value} {base : Heap} {C Ce fIe cce cde : Addr}
theorem dp_opt {H : Hp} {v : V} {o : Option (List Int)} (h : OptL K H v o) : Dp K H v (dO o) := by
  cases o with
  | none =>
    have : v = .non := h
    subst this
    exact .non
  | some L =>
    obtain ⟨q, rfl, hq⟩ := h
    exact dp_il hq
theorem OptL.up {H H' : Hp} {v : V} {o : Option (List Int)} (h : OptL K H v o) (e : Ex H H') : OptL K H' v o := by
  cases o with
  | none => exact h
  | some L =>
    obtain ⟨q, h1, h2⟩ := h
    exact ⟨q, h1, ex_l e h2⟩
theorem stp_all {H : Hp} : ∀ {ps : List Addr} {ss : List Stp}, Paired (IsStp K H) ps ss → ∀ s ∈ ss, StpOk s
  | _, _, .nil, s, h => nomatch h
  | _, _, .cons h t, s, hs => by
    rcases List.mem_cons.mp hs with z | z
    · rw [z]; exact h.2
    · exact stp_all t s z
theorem PrgL.all {H : Hp} {l : Addr} {ss : List Stp} (h : PrgL K H l ss) : ∀ s ∈ ss, StpOk s := by
  obtain ⟨ps, _, hp⟩ := h
  exact stp_all hp
def spSmall (K : PySem.W.Frag) : Sp := fun vs H Q _ => ∃ l1 l2 s1 s2, vs = [.ref l1, .ref l2] ∧ PrgL K H l1 s1 ∧ PrgL K H l2 s2 ∧ s1.length ≤ 5 ∧ s2.length ≤ 5 ∧ ∀ H', Ex H H' → Q (.bl true) H'
theorem sc52 : FnScope ["_law_one", "_law_two", "_law_first", "_law_second", "_law_heap", "_law_numbers", "_law_size", "_law_some"] ["_law_one", "_law_two"] (defScope (top 52)) := ⟨rfl, rfl, rfl, by decide +kernel, rfl, by decide +kernel, by decide +kernel⟩
theorem ok_small {mc : Value} (D : Df K mg "_law_small_holds" (top 52) ["_law_one", "_law_two"]) (T : Nms mg) (TE : EfC K mg C) (C_of : IsC PW w K mg base 6 C mc "of" (spOf K C)) (M_eq : IsM PW w K mg base CX0 1 C "__eq__" ["self", "other"] (spEqE K C)) (G_separating_heap : Is PW w K mg base CX0 5 "separating_heap" ["first", "second"] (spSep K C))
    (G_law_list : Is PW w K mg base CX0 1 "_law_list" ["_law_entries"] (spLst K)) (G_law_run : Is PW w K mg base CX0 1 "_law_run" ["_law_numbers", "_law_steps"] (spRun K)) (G_law_heaps : Is PW w K mg base CX0 1 "_law_heaps" ["_law_size"] spHeaps) : Is PW w K mg base CX0 7 "_law_small_holds" ["_law_one", "_law_two"] (spSmall K) := D.is fun f fd F => by
  refine F.ok sc52 (fun vs H Q E h => ?_) (fun cdv A outer s H vs Q E hr h => ?_)
  · obtain ⟨_, _, _, _, rfl, _⟩ := h
    rfl
  · obtain ⟨l1, l2, s1, s2, rfl, hS1, hS2, hn1, hn2, k⟩ := h
    have nd := sc52.nd
    have hr1 : Room 1 _ := hr.mono (by decide)
    have hr5 : Room 5 _ := hr.mono (by decide)
    refine ⟨_, (pss_cons (ps_par (i := 2) (j := 3) (by rfl) nd rfl rfl (by decide) rfl rfl (pa_cons (pe_ccm C_of hr (pe_glob (v := .ref C) rfl TE.gl rfl) (pa_cons (pe_callTy call_tupleF (by rfl) T.tuple bt_tuple (pa_cons (pv 0) pa_nil)) pa_nil)) (pa_cons (pe_ccm C_of hr (pe_glob (v := .ref C) rfl TE.gl rfl) (pa_cons (pe_callTy call_tupleF (by rfl) T.tuple bt_tuple (pa_cons (pv 1) pa_nil)) pa_nil)) pa_nil)) (by rfl))
      (pss_cons (ps_set (i := 4) nd rfl (Or.inl rfl) (pe_cal G_separating_heap hr5 rfl pass0 (pa_cons (pv 2) (pa_cons (pv 3) pa_nil))))
      (pss_cons (ps_if (pt_cmpR (op_eqI M_eq hr1) (pv 2) (pv 3) (nomark _)) (pss_one (ps_ret (pe_cmpR op_isN (pv 4) pe_non (nomark _)))) pss_nil)
      (pss_cons (ps_set (i := 5) nd rfl (Or.inl rfl) (pe_cal G_law_list hr1 rfl pass0 (pa_cons (pv 4) pa_nil)))
      (pss_cons (ps_if (pt_cmpR (op_eqD hr.units) (pe_ix ix_list (pe_cal G_law_run hr1 rfl pass0 (pa_cons (pv 5) (pa_cons (pv 0) pa_nil))) pe_int (fun _ _ => rfl)) (pe_ix ix_list (pe_cal G_law_run hr1 rfl pass0 (pa_cons (pv 5) (pa_cons (pv 1) pa_nil))) pe_int (fun _ _ => rfl)) (nomark _)) (pss_one (ps_ret pe_bl)) pss_nil)
      (pss_cons (ps_for PassesOwn.never rfl (pi_range1 (by rfl) T.range (pa_cons (pe_callB call_len_seq (by rfl) T.len bt_len (pa_cons (pv 5) pa_nil)) pa_nil)) (pg_name (i := 6) nd rfl (Or.inl rfl)) (pss_one (ps_for PassesOwn.never rfl (pi_list (pe_cal G_law_heaps hr1 rfl pass0 (pa_cons (pv 6) pa_nil))) (pg_name (i := 7) nd rfl (Or.inl rfl)) (pss_one (ps_if (pt_cmpR (op_neD hr.units) (pe_ix ix_list (pe_cal G_law_run hr1 rfl pass0 (pa_cons (pv 7) (pa_cons (pv 0) pa_nil))) pe_int (fun _ _ => rfl)) (pe_ix ix_list (pe_cal G_law_run hr1 rfl pass0 (pa_cons (pv 7) (pa_cons (pv 1) pa_nil))) pe_int (fun _ _ => rfl)) (nomark _)) (pss_one (ps_ret pe_bl)) pss_nil)))))
      (pss_one (ps_ret pe_bl)))))))), ?_⟩
    obtain ⟨ps1, hl1, hp1⟩ := id hS1
    obtain ⟨ps2, hl2, hp2⟩ := id hS2
    have ka1 := hS1.all
    have ka2 := hS2.all
    refine ⟨rfl, _, rfl, l1, _, rfl, sq_of hl1, fun t1 o1 ht1 hpl1 => ?_⟩
    have y1 := Ex.new (o := .frz o1 (.tup (ps1.map V.ref))) ht1
    refine ⟨t1, s1, rfl, ⟨ps1, plt_sq, paired_up (fun _ _ q => q.up y1) hp1⟩, fun e1 I1 r1 S1 H1 x1 hE1 he1 => ?_⟩
    have X1 := y1.trans x1
    refine ⟨rfl, _, rfl, l2, _, rfl, sq_of (X1 _ _ hl2), fun t2 o2 ht2 hpl2 => ?_⟩
    have y2 := Ex.new (o := .frz o2 (.tup (ps2.map V.ref))) ht2
    refine ⟨t2, s2, rfl, ⟨ps2, plt_sq, paired_up (fun _ _ q => q.up (X1.trans y2)) hp2⟩, fun e2 I2 r2 S2 H2 x2 hE2 he2 => ?_⟩
    have X2 := (X1.trans y2).trans x2
    have hE1' := hE1.up (y2.trans x2)
    refine ⟨_, _, rfl, ?_⟩
    obtain ⟨dx1, u1, hi1, _⟩ := id hE1'
    obtain ⟨dx2, u2, hi2, _⟩ := id hE2
    refine ⟨_, rfl, _, rfl, e1, e2, I1, r1, S1, I2, r2, S2, rfl, hE1', hE2, he1.v, he2.v, he1.rg ka1, he2.rg ka2, fun hq H3 x3 => ?_, fun hq a z size H3 x3 hB hz hsz => ?_⟩
    · refine ⟨_, rfl, _, rfl, e1, e2, _, _, _, _, rfl, rfl, x3 _ _ hi1, x3 _ _ hi2, e1, e2, I1, r1, S1, I2, r2, S2, rfl, hE1'.up x3, hE2.up x3, fun H4 x4 => ⟨⟨_, rfl⟩, _, rfl, iteB (decide_eq_true hq) ?_⟩⟩
      exact ⟨_, rfl, rfl, k H4 ((X2.trans x3).trans x4)⟩
    · refine ⟨_, rfl, _, rfl, e1, e2, _, _, _, _, rfl, rfl, x3 _ _ hi1, x3 _ _ hi2, e1, e2, I1, r1, S1, I2, r2, S2, rfl, hE1'.up x3, hE2.up x3, fun H4 x4 => ⟨⟨_, rfl⟩, _, rfl, iteC (decide_eq_false hq) ?_⟩⟩
      obtain ⟨p0, pr⟩ := hsz.pos he1.v he2.v
      have hs5 : size ≤ 5 := by
        have a1 := (ainv s1).rl
        have a2 := (ainv s2).rl
        have b1 := he1.er
        have b2 := he2.er
        omega
      have X4 := (X2.trans x3).trans x4
      refine ⟨_, rfl, a, z, size, rfl, hB.up x4, p0, by omega, fun nl H5 x5 hnl => ?_⟩
      have X5 := X4.trans x5
      have hrl : (List.replicate size.toNat z).length ≤ 100 := by rw [List.length_replicate]; omega
      refine ⟨_, rfl, _, rfl, nl, l1, _, s1, rfl, sq_of hnl, hS1.up X5, hn1, hrl, fun R1 q1 z1 H6 o1 x6 hR1 hr1' ho1 => ?_⟩
      refine ⟨R1, _, _, q1, rfl, rfl, sq_of hR1, rfl, _, rfl, _, rfl, nl, l2, _, s2, rfl, sq_of (x6 _ _ hnl), hS2.up (X5.trans x6), hn2, hrl, fun R2 q2 z2 H7 o2 x7 hR2 hr2' ho2 => ?_⟩
      refine ⟨R2, _, _, q2, rfl, rfl, sq_of hR2, rfl, dO o1, dO o2, dp_opt (ho1.up x7), dp_opt ho2, (ok_dO _).shaped (by decide), (ok_dO _).shaped (by decide), _, rfl, ?_⟩
      rw [eqv_dO]
      have hz10 : ((size.toNat : Nat) : Int) = size := by omega
      have hne : o1 ≠ o2 := fun h => by
        have := (run_eq he1 he2 ka1 ka2 hr1' hr2').mp h
        rw [List.length_replicate, geL_rep, hz10] at this
        exact out_differ he1.v he2.v hsz hz this
      refine iteC (decide_eq_false hne) ?_
      have X7 := (X5.trans x6).trans x7
      refine ⟨_, rfl, nl, _, rfl, .inl (sq_of (x7 _ _ (x6 _ _ hnl))), _, rfl, ?_, ?_, for_range (lo := 0) (n := (((List.replicate size.toNat z).map V.int).length : Int).toNat) (fun i σ H' => Ex H H' ∧ ∃ v6 v7, σ = [some (.ref l1), some (.ref l2), some (.ref e1), some (.ref e2), some (.ref a), some (.ref nl), v6, v7]) ⟨X7, none, none, rfl⟩ ?_ ?_⟩
      · rw [List.length_map, List.length_replicate]
        omega
      · rw [List.length_map, List.length_replicate]
        omega
      · rintro i σ H' hi ⟨ex, v6, v7, rfl⟩
        rw [List.length_map, List.length_replicate] at hi
        refine ⟨_, rfl, (0 + (i : Int)), rfl, by omega, by omega, fun hl ps H8 x8 hhl hps => ?_⟩
        have hi' : (0 + (i : Int)).toNat = i := by omega
        rw [hi'] at hps
        refine ⟨hl, rfl, ⟨_, sq_of hhl⟩, for_listP (K := K) (F := fun H a b => a = b ∧ Hp6 H i a) (b := ps) (H0 := H8) (fun e h => ⟨h.1, h.2.up e⟩) (sq_of hhl) (paired_self hps) (fun d t σ H9 => Ex H8 H9 ∧ ∃ v7, σ = [some (.ref l1), some (.ref l2), some (.ref e1), some (.ref e2), some (.ref a), some (.ref nl), some (.int (0 + (i : Int))), v7]) ⟨ex_self _, v7, rfl⟩ (fun _ _ _ _ h => h.1) ?_ ?_⟩
        · rintro d e t p σ H9 hbd ⟨rfl, xs, g1, g2, g3⟩ ⟨x9, v7', rfl⟩
          have X9 := (ex.trans x8).trans x9
          refine ⟨_, rfl, _, rfl, p, l1, xs, s1, rfl, sq_of g1, hS1.up X9, hn1, by omega, fun R1 q1 z1 H10 o1 x10 hR1 hr1' ho1 => ?_⟩
          refine ⟨R1, _, _, q1, rfl, rfl, sq_of hR1, rfl, _, rfl, _, rfl, p, l2, xs, s2, rfl, sq_of (x10 _ _ g1), hS2.up (X9.trans x10), hn2, by omega, fun R2 q2 z2 H11 o2 x11 hR2 hr2' ho2 => ?_⟩
          refine ⟨R2, _, _, q2, rfl, rfl, sq_of hR2, rfl, dO o1, dO o2, dp_opt (ho1.up x11), dp_opt ho2, (ok_dO _).shaped (by decide), (ok_dO _).shaped (by decide), _, rfl, ?_⟩
          rw [eqv_dO]
          have heq : o1 = o2 := (run_eq he1 he2 ka1 ka2 hr1' hr2').mpr (out_same he1.v he2.v hsz (by omega) (geL_nonneg xs))
          rw [decide_eq_true heq]
          exact iteF ⟨(x9.trans x10).trans x11, _, rfl⟩
        · rintro σ H9 ⟨x9, v7', rfl⟩
          exact ⟨(ex.trans x8).trans x9, _, _, rfl⟩
      · rintro σ H' ⟨ex, _⟩
        exact k H' ex
end
end HX

set_option Elab.async false
set_option linter.all false
set_option maxRecDepth 100000
set_option maxHeartbeats 4000000
namespace HX
open PySem PySem.Spec PyProof.Rows L2 Evl
/-! ### a tuple times 0 or 1 -/
theorem tuple_mul1 (l : Addr) (items : Array Value) (n : Nat) (dd : Option Addr) (sl : Array (Option Value)) (u : Tok) (c1 : (items.isEmpty || (1 : Int) == 1) = true) :
    Meets (Builtin.«tuple.__mul__» ⟨[.ref l, .int 1 u], []⟩) (fun _ R s => s.heap.get? l = some { cls := .type "tuple", dict := dd, data := .seq items n, slots := sl } ∧ R (.ok (.ret (Value.ref l))) { s with heap := s.heap, toks := s.toks }) :=
  .of_wp fun prog w A R s h => by
    obtain ⟨hp, g, d, tk, os⟩ := s
    obtain ⟨hl, h⟩ := h
    have f1 := AutoSeq1.idx_int
    wp_walk using wpAny_loadPart' hl
    exact ⟨_, rfl, h⟩
theorem tuple_mul0 (l : Addr) (items : Array Value) (n : Nat) (dd : Option Addr) (sl : Array (Option Value)) (u : Tok) (c1 : ¬ (items.isEmpty || (0 : Int) == 1) = true) :
    Meets (Builtin.«tuple.__mul__» ⟨[.ref l, .int 0 u], []⟩) (fun _ R s => s.heap.get? l = some { cls := .type "tuple", dict := dd, data := .seq items n, slots := sl } ∧ R (.ok (.ret (Value.ref s.heap.objs.size))) { s with heap := s.heap.push { cls := Value.type "tuple", data := Data.seq #[] }, toks := s.toks }) :=
  .of_wp fun prog w A R s h => by
    obtain ⟨hp, g, d, tk, os⟩ := s
    obtain ⟨hl, h⟩ := h
    have f1 := AutoSeq1.idx_int
    wp_walk using wpAny_loadPart' hl
    refine wpAny_ite_false (decide_eq_false c1) ?_
    wp_walk using wpAny_loadPart' hl
    exact ⟨_, rfl, h⟩
/-- t * int(b) for a tuple t with items: t itself, or the empty tuple -/
def rRep01 (K : PySem.W.Frag) : R2 := fun x y H Q => ∃ l k xs, x = .ref l ∧ y = .int k ∧ SqT K H l xs ∧ xs ≠ [] ∧ ((k = 1 ∧ Q (.ref l) H) ∨ (k = 0 ∧ NewF [] H Q))
section
variable {X : Cx}
theorem op_rep01 : OpR X (binaryOp .Mult) (rRep01 X.K) := by
  intro pins s σ H x y v u Q I rx ry h
  obtain ⟨l, k, xs, rfl, rfl, hT, hne, h⟩ := h
  cases rx
  obtain ⟨t, rfl⟩ := ry
  obtain ⟨its, r, ⟨⟨cls, dd, data, sl⟩, ho, hc, n, hd⟩, hs⟩ := I.tuple hT
  simp only at hc hd
  subst hc hd
  have hle : its.length = xs.length := r.length.symm
  have hn : its ≠ [] := fun e => hne (by
    rw [e] at hle
    exact List.eq_nil_of_length_eq_zero hle.symm)
  have hi : its.toArray.isEmpty = false := by
    cases its with
    | nil => exact absurd rfl hn
    | cons a b => rfl
  rcases h with ⟨rfl, q⟩ | ⟨rfl, q⟩
  · refine wpAny_binaryOp_repeat_ref (T := "tuple") (U := "int") (by decide) ⟨_, ho, rfl⟩ (fun s' => typeIs_int s' 1 t) noFill_tuple_mul F.fills_int_mul F.slot_int_rmul repeat_tuple F.slot_int_index.lookup
      (call_meets F.slot_int_rmul (typeIs_int s 1 t) F.entry_int_rmul (F.args_int_rmul_2 _ _) (int_rmul_tuple 1 t l its.toArray n dd sl)
        ⟨ho, rfl, ⟨_, ho, rfl⟩, call_meets F.slot_tuple_mul ⟨_, ho, rfl⟩ F.entry_tuple_mul (F.args_tuple_mul_2 _ _) (tuple_mul1 l its.toArray n dd sl t (by simp)) ⟨ho, ?_⟩⟩)
    exact ⟨.ref l, H, I, rfl, q⟩
  · refine wpAny_binaryOp_repeat_ref (T := "tuple") (U := "int") (by decide) ⟨_, ho, rfl⟩ (fun s' => typeIs_int s' 0 t) noFill_tuple_mul F.fills_int_mul F.slot_int_rmul repeat_tuple F.slot_int_index.lookup
      (call_meets F.slot_int_rmul (typeIs_int s 0 t) F.entry_int_rmul (F.args_int_rmul_2 _ _) (int_rmul_tuple 0 t l its.toArray n dd sl)
        ⟨ho, rfl, ⟨_, ho, rfl⟩, call_meets F.slot_tuple_mul ⟨_, ho, rfl⟩ F.entry_tuple_mul (F.args_tuple_mul_2 _ _) (tuple_mul0 l its.toArray n dd sl t (by rw [hi]; decide)) ⟨ho, ?_⟩⟩)
    exact laidF (s := s) (t' := s.toks) (us := []) I .nil (Nat.zero_le _) q
end
end HX

set_option Elab.async false
set_option linter.all false
set_option maxRecDepth 100000
set_option maxHeartbeats 4000000
namespace HX
open PySem PySem.Spec PyProof.Rows L2 Evl
/-! ### great effects, in numbers: (number, inserted, survived) -/
abbrev Trp := List (Int × Int × Int)
def tI (t : Trp) : Bg := t.map fun e => (e.1, e.2.1)
def tS (t : Trp) : Bg := t.map fun e => (e.1, e.2.2)
structure TrpOk (t : Trp) : Prop where
  asc : t.Pairwise fun a b => a.1 < b.1
  rng : ∀ e ∈ t, -3 ≤ e.1 ∧ e.1 ≤ 3
  le : ∀ e ∈ t, 0 ≤ e.2.2 ∧ e.2.2 ≤ e.2.1
def pos (b : Bg) : Bg := b.filter fun p => decide (0 < p.2)
theorem pos_ok {b : Bg} (ha : Asc b) (hr : ∀ p ∈ b, -3 ≤ p.1 ∧ p.1 ≤ 3) : OkB (pos b) := by
  refine ⟨⟨?_, fun p hp => ?_⟩, fun p hp => ?_⟩
  · exact List.Pairwise.sublist List.filter_sublist ha
  · have := of_decide_eq_true (List.mem_filter.mp hp).2
    omega
  · have := hr p (List.mem_filter.mp hp).1
    omega
theorem TrpOk.ascI {t : Trp} (h : TrpOk t) : Asc (tI t) := by
  unfold Asc tI
  rw [List.pairwise_map]
  exact h.asc
theorem TrpOk.ascS {t : Trp} (h : TrpOk t) : Asc (tS t) := by
  unfold Asc tS
  rw [List.pairwise_map]
  exact h.asc
theorem TrpOk.rI {t : Trp} (h : TrpOk t) : ∀ p ∈ tI t, -3 ≤ p.1 ∧ p.1 ≤ 3 := fun p hp => by
  obtain ⟨e, he, q⟩ := List.mem_map.mp hp
  rw [← q]
  exact h.rng e he
theorem TrpOk.rS {t : Trp} (h : TrpOk t) : ∀ p ∈ tS t, -3 ≤ p.1 ∧ p.1 ≤ 3 := fun p hp => by
  obtain ⟨e, he, q⟩ := List.mem_map.mp hp
  rw [← q]
  exact h.rng e he
theorem TrpOk.nI {t : Trp} (h : TrpOk t) : ∀ p ∈ tI t, 0 ≤ p.2 := fun p hp => by
  obtain ⟨e, he, q⟩ := List.mem_map.mp hp
  rw [← q]
  have := h.le e he
  show 0 ≤ e.2.1
  omega
theorem TrpOk.nS {t : Trp} (h : TrpOk t) : ∀ p ∈ tS t, 0 ≤ p.2 := fun p hp => by
  obtain ⟨e, he, q⟩ := List.mem_map.mp hp
  rw [← q]
  exact (h.le e he).1
theorem trp_cnt : ∀ {t : Trp}, (∀ e ∈ t, 0 ≤ e.2.2 ∧ e.2.2 ≤ e.2.1) → ∀ x, cnt (tS t) x ≤ cnt (tI t) x
  | [], _, _ => Int.le_refl _
  | e :: t, h, x => by
    have ih := trp_cnt (t := t) (fun f hf => h f (List.mem_cons_of_mem _ hf)) x
    have := h e List.mem_cons_self
    show cnt ((e.1, e.2.2) :: tS t) x ≤ cnt ((e.1, e.2.1) :: tI t) x
    rw [cnt_cons, cnt_cons]
    dsimp only
    split <;> omega
theorem trp_tot : ∀ {t : Trp}, (∀ e ∈ t, 0 ≤ e.2.2 ∧ e.2.2 ≤ e.2.1) → tot (tS t) ≤ tot (tI t)
  | [], _ => Int.le_refl _
  | e :: t, h => by
    have := h e List.mem_cons_self
    have := trp_tot (t := t) fun f hf => h f (List.mem_cons_of_mem _ hf)
    show e.2.2 + tot (tS t) ≤ e.2.1 + tot (tI t)
    omega
theorem tot_pos : ∀ (b : Bg), (∀ p ∈ b, 0 ≤ p.2) → tot (pos b) = tot b
  | [], _ => rfl
  | p :: b, h => by
    have ih := tot_pos b fun q hq => h q (List.mem_cons_of_mem _ hq)
    have h0 := h p List.mem_cons_self
    unfold pos at ih ⊢
    rw [List.filter_cons]
    by_cases z : 0 < p.2
    · rw [if_pos (decide_eq_true z), tot_cons, tot_cons, ih]
    · rw [if_neg (by simp; omega), tot_cons, ih]
      omega
theorem TrpOk.vld {t : Trp} (h : TrpOk t) {more : Int} (hm : 0 ≤ more) : Vld (pos (tI t)) (tot (tI t) - tot (tS t) + more) (pos (tS t)) := by
  have c : ∀ (b : Bg), (∀ p ∈ b, 0 ≤ p.2) → ∀ x, cnt (pos b) x = cnt b x := fun b hb x => by
    unfold cnt pos
    rw [filter_ge hb, filter_ge hb]
  have key : ∀ x, cnt (pos (tS t)) x ≤ cnt (pos (tI t)) x := fun x => by
    rw [c _ h.nS, c _ h.nI]
    exact trp_cnt h.le x
  have tt := trp_tot h.le
  refine ⟨pos_ok h.ascI h.rI, pos_ok h.ascS h.rS, key, by omega, ?_⟩
  rw [tot_pos _ h.nI, tot_pos _ h.nS]
  omega
theorem TrpOk.rg {t : Trp} (h : TrpOk t) : ∀ p ∈ pos (tI t), -3 ≤ p.1 ∧ p.1 ≤ 3 := fun p hp => h.rI p (List.mem_filter.mp hp).1
theorem TrpOk.snoc {t : Trp} (h : TrpOk t) {n m s : Int} (hn : ∀ e ∈ t, e.1 < n) (h3 : -3 ≤ n ∧ n ≤ 3) (hs : 0 ≤ s ∧ s ≤ m) : TrpOk (t ++ [(n, m, s)]) := by
  refine ⟨?_, fun e he => ?_, fun e he => ?_⟩
  · refine List.pairwise_append.mpr ⟨h.asc, List.pairwise_singleton _ _, fun a ha b hb => ?_⟩
    rw [List.mem_singleton.mp hb]
    exact hn a ha
  · rcases List.mem_append.mp he with z | z
    · exact h.rng e z
    · rw [List.mem_singleton.mp z]; exact h3
  · rcases List.mem_append.mp he with z | z
    · exact h.le e z
    · rw [List.mem_singleton.mp z]; exact hs
section
variable {w : World} {K : PySem.W.Frag} {mg : Str → Option Value} {base : Heap} {C Ce fIe cce cde : Addr}
theorem TupT.x1 {p : Addr} {H H' : Hp} (h : Pl p H) (e : Ex1 p H H') {a : Addr} {x : Int × Int} (q : TupT H a x) : TupT H' a x := by
  obtain ⟨o, h1, u, v, ho, _⟩ := h
  subst ho
  exact e _ _ (fun z => by rw [z] at q; have := h1.symm.trans q; cases this) q
theorem TupT.wr {H : Hp} {L : Addr} {xs ys : List V} (hL : H L = some (.lst xs)) {a : Addr} {x : Int × Int} (q : TupT H a x) : TupT (upd H L (.lst ys)) a x := by
  show upd H L _ a = _
  rw [upd_ne (fun z => by rw [z] at q; have := hL.symm.trans q; cases this)]
  exact q
/-- [x, y, z][draw(pool, 3)] -/
theorem pick3 {p : Addr} {H : Hp} {x y z : Int} {Q : VK} (hP : Pl p H) (k : ∀ v H', (v = x ∨ v = y ∨ v = z) → Ex1 p H H' → Pl p H' → Q (.int v) H') :
    ∀ M, H M = none → spDraw ([.ref p, .int 3] ++ []) (upd H M (.lst [.int x, .int y, .int z])) (fun w H2 => rIxL K (.ref M) w H2 Q) E0 := fun M hM => by
  have e := Ex.new (o := .lst [.int x, .int y, .int z]) hM
  refine ⟨p, 3, rfl, hP.up e, by decide, by decide, fun f o h0 h3 ho => ?_⟩
  have hMp := hP.ne hM
  have hM2 : upd (upd H M (.lst [.int x, .int y, .int z])) p o M = some (.lst [.int x, .int y, .int z]) := by rw [upd_ne hMp, upd_same]
  have ex : Ex1 p H (upd (upd H M (.lst [.int x, .int y, .int z])) p o) := (Ex1.of e).trans Ex1.self
  have hP2 : Pl p (upd (upd H M (.lst [.int x, .int y, .int z])) p o) := ⟨o, upd_same, ho⟩
  have hc : f = 0 ∨ f = 1 ∨ f = 2 := by omega
  rcases hc with rfl | rfl | rfl
  · exact ⟨M, _, _, .int x, rfl, rfl, sq_of hM2, rfl, k x _ (.inl rfl) ex hP2⟩
  · exact ⟨M, _, _, .int y, rfl, rfl, sq_of hM2, rfl, k y _ (.inr (.inl rfl)) ex hP2⟩
  · exact ⟨M, _, _, .int z, rfl, rfl, sq_of hM2, rfl, k z _ (.inr (.inr rfl)) ex hP2⟩
/-- the two lists that are filled -/
structure GI (t : Trp) (Li Ls p : Addr) (H H' : Hp) : Prop where
  ok : TrpOk t
  ex : Ex1 p H H'
  pl : Pl p H'
  li : ∃ rs : List Addr, H' Li = some (.lst (rs.map V.ref)) ∧ Paired (TupT H') rs (tI t)
  ls : ∃ rs : List Addr, H' Ls = some (.lst (rs.map V.ref)) ∧ Paired (TupT H') rs (tS t)
def spGreat (K : PySem.W.Frag) (C : Addr) : Sp := fun vs H Q _ => ∃ p, vs = [.ref p] ∧ Pl p H ∧ ∀ e I r S H', Ex1 p H H' → Pl p H' → IsEff K C H' e I r S → Vld I r S → (∀ p ∈ I, -3 ≤ p.1 ∧ p.1 ≤ 3) → Q (.ref e) H'
theorem sc48 : FnScope ["_law_pool_here", "_law_inserted", "_law_survivors", "_law_consumed", "_law_number", "_law_many", "_law_some", "_law_more", "_law_entry"] ["_law_pool_here"] (defScope (top 48)) := ⟨rfl, rfl, rfl, by decide +kernel, rfl, by decide +kernel, by decide +kernel⟩
theorem ok_great (D : Df K mg "_law_great_effect" (top 48) ["_law_pool_here"]) (T : Nms mg) (TE : EfC K mg C) (G_law_draw : Is PW w K mg base CX0 1 "_law_draw" ["_law_pool_here", "_law_many"] spDraw) (GE : IsI PW w K mg base 4 C ["self", "inserted", "removals", "survivors"] (spInitE K C)) : Is PW w K mg base CX0 6 "_law_great_effect" ["_law_pool_here"] (spGreat K C) := D.is fun f fd F => by
  refine F.ok sc48 (fun vs H Q E h => ?_) (fun cdv A outer s H vs Q E hr h => ?_)
  · obtain ⟨_, rfl, _⟩ := h
    rfl
  · obtain ⟨p, rfl, hP, k⟩ := h
    have nd := sc48.nd
    have hr1 : Room 1 _ := hr.mono (by decide)
    refine ⟨_, (pss_cons (ps_par3 (i := 1) (j := 2) (l := 3) (by rfl) nd rfl rfl rfl (by decide) (by decide) (by decide) rfl rfl rfl (pa_cons (pe_lst pa_nil) (pa_cons (pe_lst pa_nil) (pa_cons pe_int pa_nil))) (by rfl))
      (pss_cons (ps_for PassesOwn.never rfl (pi_range2 (by rfl) T.range (pa_cons (pe_un un_neg pe_int) (pa_cons pe_int pa_nil))) (pg_name (i := 4) nd rfl (Or.inl rfl)) (pss_cons (ps_set (i := 5) nd rfl (Or.inl rfl) (pe_ix ix_list (pe_lst (pa_cons pe_int (pa_cons (pe_cal G_law_draw hr1 rfl pass0 (pa_cons (pv 0) (pa_cons pe_int pa_nil))) (pa_cons (pe_cal G_law_draw hr1 rfl pass0 (pa_cons (pv 0) (pa_cons (pe_op op_pow pe_int pe_int) pa_nil))) pa_nil)))) (pe_cal G_law_draw hr1 rfl pass0 (pa_cons (pv 0) (pa_cons pe_int pa_nil))) (fun _ _ => rfl)))
      (pss_cons (ps_set (i := 6) nd rfl (Or.inl rfl) (pe_ix ix_list (pe_lst (pa_cons pe_int (pa_cons (pv 5) (pa_cons (pe_cal G_law_draw hr1 rfl pass0 (pa_cons (pv 0) (pa_cons (pe_op op_add (pv 5) pe_int) pa_nil))) pa_nil)))) (pe_cal G_law_draw hr1 rfl pass0 (pa_cons (pv 0) (pa_cons pe_int pa_nil))) (fun _ _ => rfl)))
      (pss_cons (ps_expr (pe_bm PySem.F.plainAttrs_list PySem.F.slot_list_append PySem.F.type_list_append mt_append (pv 1) (pa_cons (pe_tup (pa_cons (pv 4) (pa_cons (pv 5) pa_nil))) pa_nil)))
      (pss_cons (ps_expr (pe_bm PySem.F.plainAttrs_list PySem.F.slot_list_append PySem.F.type_list_append mt_append (pv 2) (pa_cons (pe_tup (pa_cons (pv 4) (pa_cons (pv 6) pa_nil))) pa_nil)))
      (pss_one (ps_set (i := 3) nd rfl (Or.inl rfl) (pe_op op_sub (pe_op op_add (pv 3) (pv 5)) (pv 6)))))))))
      (pss_cons (ps_set (i := 1) nd rfl (Or.inl rfl) (pe_callTy call_tupleF (by rfl) T.tuple bt_tuple (pa_cons (pe_lc (own := [("_law_entry", 8)]) (g := gName 8) rfl nd (pi_list (pv 1)) (blkOk_by (own := [("_law_entry", 8)]) (N := ["_law_pool_here", "_law_inserted", "_law_survivors", "_law_consumed", "_law_number", "_law_many", "_law_some", "_law_more", "_law_entry"]) (sc := defScope (top 48)) (by decide +kernel)) (fun _ _ _ _ _ => (pg_name (i := 8) nd rfl (Or.inl rfl))) (fun _ _ _ _ _ => (pts_one (pt_cmpR op_gt (pe_ix (ix_tupK (K := K) rfl) (pv 8) pe_int (fun _ _ => rfl)) pe_int (nomark _)))) (fun _ _ _ _ _ => (pv 8))) pa_nil)))
      (pss_cons (ps_set (i := 2) nd rfl (Or.inl rfl) (pe_callTy call_tupleF (by rfl) T.tuple bt_tuple (pa_cons (pe_lc (own := [("_law_entry", 8)]) (g := gName 8) rfl nd (pi_list (pv 2)) (blkOk_by (own := [("_law_entry", 8)]) (N := ["_law_pool_here", "_law_inserted", "_law_survivors", "_law_consumed", "_law_number", "_law_many", "_law_some", "_law_more", "_law_entry"]) (sc := defScope (top 48)) (by decide +kernel)) (fun _ _ _ _ _ => (pg_name (i := 8) nd rfl (Or.inl rfl))) (fun _ _ _ _ _ => (pts_one (pt_cmpR op_gt (pe_ix (ix_tupK (K := K) rfl) (pv 8) pe_int (fun _ _ => rfl)) pe_int (nomark _)))) (fun _ _ _ _ _ => (pv 8))) pa_nil)))
      (pss_cons (ps_set (i := 7) nd rfl (Or.inl rfl) (pe_ix ix_list (pe_lst (pa_cons pe_int (pa_cons (pe_cal G_law_draw hr1 rfl pass0 (pa_cons (pv 0) (pa_cons pe_int pa_nil))) (pa_cons (pe_cal G_law_draw hr1 rfl pass0 (pa_cons (pv 0) (pa_cons (pe_op op_pow pe_int pe_int) pa_nil))) pa_nil)))) (pe_cal G_law_draw hr1 rfl pass0 (pa_cons (pv 0) (pa_cons pe_int pa_nil))) (fun _ _ => rfl)))
      (pss_one (ps_ret (pe_mkI GE hr rfl TE.gl (pa_cons (pv 1) (pa_cons (pe_op op_add (pv 3) (pv 7)) (pa_cons (pv 2) pa_nil))))))))))), ?_⟩
    refine ⟨Nat.zero_le _, fun Li hLi => ⟨Nat.zero_le _, fun Ls hLs => ⟨_, _, _, rfl, ?_⟩⟩⟩
    have e1 := Ex.new (o := .lst []) hLi
    have hLs0 : H Ls = none := fresh_back e1 hLs
    have e2 := e1.trans (Ex.new (o := .lst []) hLs)
    have hLip := hP.ne hLi
    have hLsp := hP.ne hLs0
    have hLL : Li ≠ Ls := fun z => by rw [← z, upd_same] at hLs; cases hLs
    refine ⟨3, rfl, _, _, rfl, ⟨by decide, by decide, by decide, by decide⟩, for_range (lo := -3) (n := 7) (fun i σ H' => ∃ (t : Trp) (c : Int) (v4 v5 v6 v7 v8 : Option V), σ = [some (.ref p), some (.ref Li), some (.ref Ls), some (.int c), v4, v5, v6, v7, v8] ∧ GI t Li Ls p H H' ∧ (∀ e ∈ t, e.1 < -3 + (i : Int)) ∧ t.length = i ∧ c = tot (tI t) - tot (tS t))
      ⟨[], 0, none, none, none, none, none, rfl, ⟨⟨.nil, fun _ h => (nomatch h), fun _ h => (nomatch h)⟩, Ex1.of e2, hP.up e2, ⟨[], Ex.new hLs _ _ upd_same, .nil⟩, ⟨[], upd_same, .nil⟩⟩, fun _ h => (nomatch h), rfl, rfl⟩ ?_ ?_⟩
    · rintro i σ H' hi ⟨t, c, v4, v5, v6, v7, v8, rfl, ⟨gok, gex, gpl, ⟨rs, gli, gri⟩, ⟨qs, gls, grs⟩⟩, hlt, hlen, hc⟩
      have hn3 : -3 ≤ -3 + (i : Int) ∧ -3 + (i : Int) ≤ 3 := by omega
      refine ⟨_, rfl, p, 4, rfl, gpl, by decide, by decide, fun a oa ha0 ha4 hoa => ?_⟩
      have p1 : Pl p (upd H' p oa) := ⟨oa, upd_same, hoa⟩
      refine ⟨_, rfl, _, _, rfl, rfl, ⟨by decide, by decide, by decide⟩, p, _, rfl, p1, by decide +kernel, by decide +kernel, fun b ob hb0 hb30 hob => ⟨(by show 3 ≤ sizeLine; decide), fun M hM => ⟨_, rfl, ?_⟩⟩⟩
      have p2 : Pl p (upd (upd H' p oa) p ob) := ⟨ob, upd_same, hob⟩
      have x2 : Ex1 p H' (upd (upd H' p oa) p ob) := Ex1.self.trans Ex1.self
      refine pick3 p2 (fun v H1 hv x3 p3 => ?_) M hM
      have hb30' : b < 10 ^ 30 := hb30
      have hv0 : 0 ≤ v ∧ v < 10 ^ 30 := by
        have h4 : (4 : Int) < 10 ^ 30 := by decide +kernel
        rcases hv with rfl | rfl | rfl <;> omega
      refine ⟨_, rfl, _, rfl, _, rfl, _, _, rfl, rfl, p, _, rfl, p3, (by show 0 < v + 1; omega), ?_, fun d od hd0 hdm hod => ⟨(by show 3 ≤ sizeLine; decide), fun M2 hM2 => ⟨_, rfl, ?_⟩⟩⟩
      · have h5 : (10 : Int) ^ 30 < 10 ^ 31 := by decide +kernel
        show v + 1 < 10 ^ 31
        omega
      have p4 : Pl p (upd H1 p od) := ⟨od, upd_same, hod⟩
      refine pick3 p4 (fun sv H2 hs x5 p5 => ?_) M2 hM2
      have hdm' : d < v + 1 := hdm
      have hs0 : 0 ≤ sv ∧ sv ≤ v := by rcases hs with rfl | rfl | rfl <;> omega
      have X5 : Ex1 p H' H2 := ((x2.trans x3).trans Ex1.self).trans x5
      have up5 : ∀ {a e}, TupT H' a e → TupT H2 a e := fun q => TupT.x1 gpl X5 q
      have hLi5 := X5 _ _ hLip gli
      have hLs5 := X5 _ _ hLsp gls
      have hrl : rs.length = i := by rw [paired_len gri]; unfold tI; rw [List.length_map, hlen]
      have hql : qs.length = i := by rw [paired_len grs]; unfold tS; rw [List.length_map, hlen]
      refine ⟨_, rfl, .inl ⟨rfl, _, sq_of hLi5⟩, _, rfl, _, rfl, (by show 2 ≤ sizeLine; decide), fun q1 hq1 => ⟨Li, _, _, rfl, rfl, Ex.new hq1 _ _ hLi5, (by rw [List.length_map]; exact small1000 (by omega)), ?_⟩⟩
      have y1 := Ex.new (o := .tup [.int (-3 + (i : Int)), .int v]) hq1
      have hLs6 : upd (upd H2 q1 (.tup [.int (-3 + (i : Int)), .int v])) Li (.lst (rs.map V.ref ++ [.ref q1])) Ls = some (.lst (qs.map V.ref)) := by rw [upd_ne hLL.symm]; exact y1 _ _ hLs5
      refine ⟨_, rfl, .inl ⟨rfl, _, sq_of hLs6⟩, _, rfl, _, rfl, (by show 2 ≤ sizeLine; decide), fun q2 hq2 => ⟨Ls, _, _, rfl, rfl, Ex.new hq2 _ _ hLs6, (by rw [List.length_map]; exact small1000 (by omega)), ?_⟩⟩
      have y2 := Ex.new (o := .tup [.int (-3 + (i : Int)), .int sv]) hq2
      have hLi7 : upd (upd H2 q1 (.tup [.int (-3 + (i : Int)), .int v])) Li (.lst (rs.map V.ref ++ [.ref q1])) Li = some (.lst (rs.map V.ref ++ [.ref q1])) := upd_same
      have hLi8 := y2 _ _ hLi7
      have w1 : ∀ {a e}, TupT (upd H2 q1 (.tup [.int (-3 + (i : Int)), .int v])) a e → TupT (upd (upd (upd (upd H2 q1 (.tup [.int (-3 + (i : Int)), .int v])) Li (.lst (rs.map V.ref ++ [.ref q1]))) q2 (.tup [.int (-3 + (i : Int)), .int sv])) Ls (.lst (qs.map V.ref ++ [.ref q2]))) a e := fun q => TupT.wr (y2 _ _ hLs6) (TupT.up (TupT.wr (y1 _ _ hLi5) q) y2)
      have w2 : ∀ {a e}, TupT (upd (upd (upd H2 q1 (.tup [.int (-3 + (i : Int)), .int v])) Li (.lst (rs.map V.ref ++ [.ref q1]))) q2 (.tup [.int (-3 + (i : Int)), .int sv])) a e → TupT (upd (upd (upd (upd H2 q1 (.tup [.int (-3 + (i : Int)), .int v])) Li (.lst (rs.map V.ref ++ [.ref q1]))) q2 (.tup [.int (-3 + (i : Int)), .int sv])) Ls (.lst (qs.map V.ref ++ [.ref q2]))) a e := fun q => TupT.wr (y2 _ _ hLs6) q
      refine ⟨_, rfl, _, rfl, _, _, rfl, rfl, _, rfl, _, _, rfl, rfl, ?_⟩
      refine ⟨t ++ [(-3 + (i : Int), v, sv)], _, _, _, _, _, _, rfl, ⟨gok.snoc hlt hn3 hs0, fun bb ob2 hbb hh => ?_, ?_, ⟨rs ++ [q1], ?_, ?_⟩, ⟨qs ++ [q2], ?_, ?_⟩⟩, fun e he => ?_, by rw [List.length_append, hlen]; rfl, ?_⟩
      · have b1 : bb ≠ Ls := fun z => by rw [z, hLs0] at hh; cases hh
        have b2 : bb ≠ Li := fun z => by rw [z, hLi] at hh; cases hh
        rw [upd_ne b1]
        refine y2 _ _ ?_
        rw [upd_ne b2]
        exact y1 _ _ (X5 _ _ hbb (gex bb ob2 hbb hh))
      · obtain ⟨o5, z1, z2⟩ := p5
        refine ⟨o5, ?_, z2⟩
        rw [upd_ne hLsp.symm]
        refine y2 _ _ ?_
        rw [upd_ne hLip.symm]
        exact y1 _ _ z1
      · rw [upd_ne hLL, List.map_append]
        exact hLi8
      · unfold tI
        rw [List.map_append]
        exact paired_app (paired_up (fun _ _ z => w1 (TupT.up (up5 z) y1)) gri) (.cons (w1 (show TupT _ q1 _ from upd_same)) .nil)
      · rw [upd_same, List.map_append]
        rfl
      · unfold tS
        rw [List.map_append]
        exact paired_app (paired_up (fun _ _ z => w1 (TupT.up (up5 z) y1)) grs) (.cons (w2 (show TupT _ q2 _ from upd_same)) .nil)
      · rcases List.mem_append.mp he with z | z
        · have := hlt e z
          omega
        · rw [List.mem_singleton.mp z]
          show -3 + (i : Int) < -3 + ((i + 1 : Nat) : Int)
          omega
      · unfold tI tS at hc ⊢
        rw [List.map_append, List.map_append, tot_append, tot_append]
        show c + v - sv = _ + (v + 0) - (_ + (sv + 0))
        omega
    · rintro σ H' ⟨t, c, v4, v5, v6, v7, v8, rfl, ⟨gok, gex, gpl, ⟨rs, gli, gri⟩, ⟨qs, gls, grs⟩⟩, hlt, hlen, hc⟩
      have hlI : (tI t).length = 7 := by unfold tI; rw [List.length_map, hlen]
      have hlS : (tS t).length = 7 := by unfold tS; rw [List.length_map, hlen]
      refine ⟨_, rfl, Li, rfl, ⟨_, sq_of gli⟩, fun D hD => ?_⟩
      refine lc_listP (K := K) (F := TupT) (b := tI t) (H0 := H') (fun e h => TupT.up h e) (sq_of gli) gri (fun dd tt Hx => Ex H' Hx ∧ dd.length + tt.length = (tI t).length ∧ ∃ qs : List Addr, Hx D = some (.lst (qs.map V.ref)) ∧ Paired (TupT Hx) qs (pos dd)) ⟨Ex.new hD, by simp, [], upd_same, .nil⟩ (fun _ _ _ h => h.1) ?_ ?_
      · rintro dd e tt q Hx hbd hE ⟨ex, hdt, qs, g4, g5⟩
        have hle : qs.length ≤ dd.length := by
          rw [paired_len g5]
          exact List.length_filter_le _ _
        refine ⟨rfl, _, rfl, q, _, _, .int e.2, rfl, rfl, hE.ent, rfl, _, _, rfl, rfl, _, rfl, ite2 (fun hc => ?_) (fun hc => ?_)⟩
        · refine ⟨_, rfl, _, g4, ?_, ex.mut hD, by simp only [List.length_append, List.length_cons, List.length_nil] at hdt ⊢; omega, qs ++ [q], by rw [upd_same, List.map_append]; rfl, ?_⟩
          · rw [List.length_map]
            simp only [List.length_cons] at hdt
            exact small1000 (by have := hlI; omega)
          · unfold pos
            rw [List.filter_append, List.filter_cons, if_pos hc]
            exact paired_app (paired_up (fun _ _ z => TupT.wr g4 z) g5) (.cons (TupT.wr g4 hE) .nil)
        · refine ⟨ex, by simp only [List.length_append, List.length_cons, List.length_nil] at hdt ⊢; omega, qs, g4, ?_⟩
          unfold pos
          rw [List.filter_append, List.filter_cons, if_neg hc, List.filter_nil, List.append_nil]
          exact g5
      · rintro H1 ⟨x1, _, us, g4, g5⟩
        refine ⟨D, _, rfl, sq_of g4, fun t1 o1 ht1 hpl1 => ?_⟩
        have z1 := x1.trans (Ex.new (o := .frz o1 (.tup (us.map V.ref))) ht1)
        have bI : IsBag K (upd H1 t1 (.frz o1 (.tup (us.map V.ref)))) t1 (pos (tI t)) := IsBag.new hpl1 ht1 (paired_up (fun _ _ z => TupT.ent z) g5)
        have gls1 := z1 _ _ gls
        have grs1 := paired_up (fun _ _ z => TupT.up z z1) (G := TupT (upd H1 t1 (.frz o1 (.tup (us.map V.ref))))) grs
        clear hD
        refine ⟨_, rfl, Ls, rfl, ⟨_, sq_of gls1⟩, fun D hD => ?_⟩
        refine lc_listP (K := K) (F := TupT) (b := tS t) (H0 := (upd H1 t1 (.frz o1 (.tup (us.map V.ref))))) (fun e h => TupT.up h e) (sq_of gls1) grs1 (fun dd tt Hx => Ex (upd H1 t1 (.frz o1 (.tup (us.map V.ref)))) Hx ∧ dd.length + tt.length = (tS t).length ∧ ∃ qs : List Addr, Hx D = some (.lst (qs.map V.ref)) ∧ Paired (TupT Hx) qs (pos dd)) ⟨Ex.new hD, by simp, [], upd_same, .nil⟩ (fun _ _ _ h => h.1) ?_ ?_
        · rintro dd e tt q Hx hbd hE ⟨ex, hdt, qs, g4, g5⟩
          have hle : qs.length ≤ dd.length := by
            rw [paired_len g5]
            exact List.length_filter_le _ _
          refine ⟨rfl, _, rfl, q, _, _, .int e.2, rfl, rfl, hE.ent, rfl, _, _, rfl, rfl, _, rfl, ite2 (fun hc => ?_) (fun hc => ?_)⟩
          · refine ⟨_, rfl, _, g4, ?_, ex.mut hD, by simp only [List.length_append, List.length_cons, List.length_nil] at hdt ⊢; omega, qs ++ [q], by rw [upd_same, List.map_append]; rfl, ?_⟩
            · rw [List.length_map]
              simp only [List.length_cons] at hdt
              exact small1000 (by have := hlS; omega)
            · unfold pos
              rw [List.filter_append, List.filter_cons, if_pos hc]
              exact paired_app (paired_up (fun _ _ z => TupT.wr g4 z) g5) (.cons (TupT.wr g4 hE) .nil)
          · refine ⟨ex, by simp only [List.length_append, List.length_cons, List.length_nil] at hdt ⊢; omega, qs, g4, ?_⟩
            unfold pos
            rw [List.filter_append, List.filter_cons, if_neg hc, List.filter_nil, List.append_nil]
            exact g5
        · rintro H2 ⟨x2, _, us2, g6, g7⟩
          refine ⟨D, _, rfl, sq_of g6, fun t2 o2 ht2 hpl2 => ?_⟩
          have z2 := x2.trans (Ex.new (o := .frz o2 (.tup (us2.map V.ref))) ht2)
          have bS : IsBag K (upd H2 t2 (.frz o2 (.tup (us2.map V.ref)))) t2 (pos (tS t)) := IsBag.new hpl2 ht2 (paired_up (fun _ _ z => TupT.ent z) g7)
          have bI2 := bI.up z2
          have pl2 := gpl.up (z1.trans z2)
          refine ⟨_, rfl, p, 4, rfl, pl2, by decide, by decide, fun a oa ha0 ha4 hoa => ?_⟩
          have p1 : Pl p (upd (upd H2 t2 (.frz o2 (.tup (us2.map V.ref)))) p oa) := ⟨oa, upd_same, hoa⟩
          refine ⟨_, rfl, _, _, rfl, rfl, ⟨by decide, by decide, by decide⟩, p, _, rfl, p1, by decide +kernel, by decide +kernel, fun b ob hb0 hb30 hob => ⟨(by show 3 ≤ sizeLine; decide), fun M hM => ⟨_, rfl, ?_⟩⟩⟩
          have p2 : Pl p (upd (upd (upd H2 t2 (.frz o2 (.tup (us2.map V.ref)))) p oa) p ob) := ⟨ob, upd_same, hob⟩
          refine pick3 p2 (fun v H3 hv x3 p3 => ?_) M hM
          have hv0 : 0 ≤ v := by rcases hv with rfl | rfl | rfl <;> omega
          have X3 := (Ex1.self.trans Ex1.self).trans x3
          refine ⟨_, rfl, _, rfl, _, rfl, _, _, rfl, rfl, _, rfl, fun x dx hx hd hne => ?_⟩
          refine mk_use hx hd hne (pl2.bag X3 bI2) (pl2.bag X3 bS) (hc ▸ gok.vld hv0) fun e H4 x4 hE => ?_
          exact k e _ _ _ H4 (((gex.trans (Ex1.of (z1.trans z2))).trans X3).trans (Ex1.of x4)) (p3.up x4) hE (hc ▸ gok.vld hv0) gok.rg
end
end HX

set_option Elab.async false
set_option linter.all false
set_option maxRecDepth 100000
set_option maxHeartbeats 4000000
namespace HX
open PySem PySem.Spec PyProof.Rows L2 Evl
/-! ### one consumed number exchanged -/
theorem ge_one (m x : Int) : ge [(m, 1)] x = if x ≤ m then 1 else 0 := by
  show (if x ≤ m then 1 else 0) + 0 = _
  omega
theorem ok_one {m : Int} (h : -10 ≤ m ∧ m ≤ 10) : OkB [(m, 1)] := ⟨WF.nil.cons (by show (1 : Int) ≤ 1; decide) (fun q hq => nomatch hq), fun p hp => by rw [List.mem_singleton.mp hp]; exact h⟩
theorem cnt_one (m t : Int) : cnt [(m, 1)] t = if t = m then 1 else 0 := by
  rw [cnt_cons]
  show _ + (0 - 0) = _
  omega
structure Exc (I : Bg) (r : Int) (S C1 D1 I2 : Bg) (m o : Int) : Prop where
  v : Vld I r S
  rg : ∀ p ∈ I, -3 ≤ p.1 ∧ p.1 ≤ 3
  c1 : ∀ x, ge C1 x = ge I x - ge S x
  cm : 1 ≤ cnt C1 m
  ro : -4 ≤ o ∧ o ≤ 4
  d1 : ∀ x, ge D1 x = ge I x - ge [(m, 1)] x
  oI : OkB I2
  i2 : ∀ x, ge I2 x = ge D1 x + ge [(o, 1)] x
section
variable {I S C1 D1 I2 : Bg} {r m o : Int}
theorem cnt_sub1 {C1 I S : Bg} (h : ∀ x, ge C1 x = ge I x - ge S x) (t : Int) : cnt C1 t = cnt I t - cnt S t := by
  unfold cnt
  rw [h, h]
  omega
theorem exc_pre (v : Vld I r S) (c1 : ∀ x, ge C1 x = ge I x - ge S x) (cm : 1 ≤ cnt C1 m) (t : Int) : cnt [(m, 1)] t ≤ cnt I t := by
  rw [cnt_one]
  have := cnt_sub1 c1 m
  have := cnt_nonneg v.oS.wf m
  have := cnt_nonneg v.oI.wf t
  split
  · rename_i h
    rw [h]
    omega
  · omega
theorem Exc.cI (h : Exc I r S C1 D1 I2 m o) (t : Int) : cnt I2 t = cnt I t - (if t = m then 1 else 0) + (if t = o then 1 else 0) := by
  rw [← cnt_one, ← cnt_one]
  unfold cnt
  rw [h.i2, h.i2, h.d1, h.d1]
  omega
theorem Exc.ti (h : Exc I r S C1 D1 I2 m o) : tot I2 = tot I := by
  have a := tot_add h.i2
  have b := tot_sub h.d1
  rw [show tot [(m, 1)] = 1 from rfl] at b
  rw [show tot [(o, 1)] = 1 from rfl] at a
  omega
theorem Exc.v2 (h : Exc I r S C1 D1 I2 m o) : Vld I2 r S := by
  refine ⟨h.oI, h.v.oS, fun t => ?_, h.v.r0, by rw [h.ti]; exact h.v.tt⟩
  rw [h.cI]
  have := h.v.le t
  have := cnt_sub1 h.c1 m
  have := h.cm
  by_cases z : t = m
  · subst z
    rw [if_pos rfl]
    split <;> omega
  · rw [if_neg z]
    split <;> omega
theorem Exc.rg2 (h : Exc I r S C1 D1 I2 m o) : Rg5 I2 := fun p hp => by
  have c := h.oI.wf.cnt_mem hp
  have p0 := h.oI.wf.pos p hp
  rw [h.cI] at c
  by_cases z : p.1 = o
  · have := h.ro
    omega
  · rw [if_neg z] at c
    by_cases y : ∃ q ∈ I, q.1 = p.1
    · obtain ⟨q, hq, e⟩ := y
      have := h.rg q hq
      omega
    · have := cnt_none (b := I) (t := p.1) fun q hq e => y ⟨q, hq, e⟩
      split at c <;> omega
theorem Exc.same (h : Exc I r S C1 D1 I2 m o) (e : m = o) : I = I2 := ge_ext h.v.oI.wf h.oI.wf fun x => by
  rw [h.i2, h.d1, e]
  omega
theorem Exc.diff (h : Exc I r S C1 D1 I2 m o) (e : m ≠ o) : I ≠ I2 := fun z => by
  have a := h.i2 (max m o)
  have b := h.d1 (max m o)
  rw [ge_one] at a b
  rw [← z] at a
  by_cases q : m < o
  · rw [if_pos (by omega)] at a
    rw [if_neg (by omega)] at b
    omega
  · rw [if_neg (by omega)] at a
    rw [if_pos (by omega)] at b
    omega
theorem Exc.size (h : Exc I r S C1 D1 I2 m o) (e : m ≠ o) {C2 : Bg} (c2 : ∀ x, ge C2 x = ge I2 x - ge S x) {size : Int} (hs : SepSz I r S I2 r S size) : size = r - tot I + tot S + ge C1 (max m o + 1) + min (cnt C1 (max m o)) (cnt C2 (max m o)) + 1 := by
  obtain ⟨t, q1, q2, q3⟩ := hs.eq (by rw [h.ti]) rfl
  have dif : ∀ x, ge I2 x = ge I x - (if x ≤ m then 1 else 0) + (if x ≤ o then 1 else 0) := fun x => by rw [h.i2, h.d1, ge_one, ge_one]
  have ht : t = max m o := by
    have h1 : t ≤ max m o := by
      by_cases z : t ≤ max m o
      · exact z
      · have := dif t
        rw [if_neg (by omega), if_neg (by omega)] at this
        omega
    have h2 : ¬ t < max m o := fun z => by
      have a := q1 (max m o) z
      have b := dif (max m o)
      by_cases q : m < o
      · rw [if_neg (by omega), if_pos (by omega)] at b
        omega
      · rw [if_pos (by omega), if_neg (by omega)] at b
        omega
    omega
  subst ht
  have b := dif (max m o + 1)
  rw [if_neg (by omega), if_neg (by omega)] at b
  unfold cnt
  rw [h.c1, h.c1, c2, c2]
  rw [q3]
  omega
end
theorem sum_above (h : Int) : ∀ b : Bg, ((b.filter fun p => decide (p.1 > h)).map (·.2)).sum = ge b (h + 1)
  | [] => rfl
  | p :: b => by
    rw [List.filter_cons, ge_cons, ← sum_above h b]
    by_cases z : p.1 > h
    · rw [if_pos (decide_eq_true z), List.map_cons, List.sum_cons, if_pos (by omega)]
    · rw [if_neg (by simp; omega), if_neg (by omega), Int.zero_add]
def dBo : Option Bg → PyData
  | none => .none
  | some b => dB b
theorem ok_dBo (o : Option Bg) : okD 2 (dBo o) := by
  cases o with
  | none => exact okD.non.le (by decide)
  | some L => exact ok_dB L
theorem eqv_dBo (a b : Option Bg) : PyData.eqv (dBo a) (dBo b) = decide (a = b) := by
  cases a with
  | none => cases b with
    | none => simp [dBo, PyData.eqv]
    | some L => simp [dBo, dB, PyData.eqv]
  | some L => cases b with
    | none => simp [dBo, dB, PyData.eqv]
    | some M =>
      show PyData.eqv (dB L) (dB M) = _
      rw [eqv_dB]
      by_cases h : L = M <;> simp [h]
section
variable {w : World} {K : PySem.W.Frag} {mg : Str → Option Value} {base : Heap} {C Ce fIe cce cde : Addr}
theorem dp_optB {H : Hp} {v : V} {o : Option Bg} (h : OptB K H v o) : Dp K H v (dBo o) := by
  cases o with
  | none =>
    have : v = .non := h
    subst this
    exact .non
  | some L =>
    obtain ⟨q, rfl, hq⟩ := h
    exact dp_bag hq
theorem OptB.up {H H' : Hp} {v : V} {o : Option Bg} (h : OptB K H v o) (e : Ex H H') : OptB K H' v o := by
  cases o with
  | none => exact h
  | some L =>
    obtain ⟨q, h1, h2⟩ := h
    exact ⟨q, h1, h2.up e⟩
theorem bag_one {H : Hp} {q q2 : Addr} {o o2 : Obj} {n : Int} (hq2 : upd H q (.frz o (.tup [.int n, .int 1])) q2 = none) (hpl2 : PlO o2) : IsBag K (upd (upd H q (.frz o (.tup [.int n, .int 1]))) q2 (.frz o2 (.tup [.ref q]))) q2 [(n, 1)] :=
  ⟨[q], plt_new hpl2, .cons (ex_t (Ex.new hq2) plt_sq) .nil⟩
def spExch (K : PySem.W.Frag) (C : Addr) : Sp := fun vs H Q _ => ∃ p e I r S, vs = [.ref p, .ref e] ∧ Pl p H ∧ IsEff K C H e I r S ∧ Vld I r S ∧ (∀ p ∈ I, -3 ≤ p.1 ∧ p.1 ≤ 3) ∧ (∃ x, ge I x ≠ ge S x) ∧ ∀ H', Ex1 p H H' → Pl p H' → Q (.bl true) H'
theorem sc53 : FnScope ["_law_pool_here", "_law_effect", "_law_consumed", "_law_number", "_law_other", "_law_inserted", "_law_changed", "_law_high", "_law_counts", "_law_above", "_law_heap", "_law_entry", "_law_one", "_law_many"] ["_law_pool_here", "_law_effect"] (defScope (top 53)) := ⟨rfl, rfl, rfl, by decide +kernel, rfl, by decide +kernel, by decide +kernel⟩
theorem ok_exch (D : Df K mg "_law_exchanged" (top 53) ["_law_pool_here", "_law_effect"]) (T : Nms mg) (TE : EfC K mg C) (G_law_draw : Is PW w K mg base CX0 1 "_law_draw" ["_law_pool_here", "_law_many"] spDraw) (GE : IsI PW w K mg base 4 C ["self", "inserted", "removals", "survivors"] (spInitE K C))
    (P_consumed : IsP PW w K mg base 3 C "consumed" (spPC K C)) (P_inserted : IsP PW w K mg base 1 C "inserted" (spPI K C)) (P_survivors : IsP PW w K mg base 1 C "survivors" (spPS K C)) (P_removals : IsP PW w K mg base 1 C "removals" (spPR K C)) (P_needed : IsP PW w K mg base 2 C "needed" (spPN K C))
    (G_union : IsR PW w K mg base CX0 4 "union" (spUni K)) (G_difference : Is PW w K mg base CX0 4 "difference" ["bag", "other"] (spDiff K)) (G_separating_heap : Is PW w K mg base CX0 5 "separating_heap" ["first", "second"] (spSep K C)) (M_eq : IsM PW w K mg base CX0 1 C "__eq__" ["self", "other"] (spEqE K C))
    (G_size_of : Is PW w K mg base CX0 4 "size_of" ["bag"] (spSize K)) (G_law_applied : Is PW w K mg base CX0 7 "_law_applied" ["_law_effect", "_law_entries"] (spAppd K C)) : Is PW w K mg base CX0 8 "_law_exchanged" ["_law_pool_here", "_law_effect"] (spExch K C) := D.is fun f fd F => by
  refine F.ok sc53 (fun vs H Q E h => ?_) (fun cdv A outer s H vs Q E hr h => ?_)
  · obtain ⟨_, _, _, _, _, rfl, _⟩ := h
    rfl
  · obtain ⟨p, e, I, r, S, rfl, hP, hE, v, hrg, hne, k⟩ := h
    have nd := sc53.nd
    have hr1 : Room 1 _ := hr.mono (by decide)
    have hr2 : Room 2 _ := hr.mono (by decide)
    have hr3 : Room 3 _ := hr.mono (by decide)
    have hr4 : Room 4 _ := hr.mono (by decide)
    have hr5 : Room 5 _ := hr.mono (by decide)
    refine ⟨_, (pss_cons (ps_setLc (i := 2) (own := [("_law_entry", 11)]) (g := gName 11) rfl nd rfl rfl (sw_true rfl rfl rfl (by decide +kernel)) (pi_tup (pe_pr P_consumed TE.cl hr4 (pv 1))) (blkOk_by (own := [("_law_entry", 11)]) (N := ["_law_pool_here", "_law_effect", "_law_consumed", "_law_number", "_law_other", "_law_inserted", "_law_changed", "_law_high", "_law_counts", "_law_above", "_law_heap", "_law_entry", "_law_one", "_law_many"]) (sc := defScope (top 53)) (by decide +kernel)) (fun _ _ _ _ _ => (pg_name (i := 11) nd rfl (Or.inl rfl))) (fun _ _ _ _ _ => pts_nil) (fun _ _ _ _ _ => (pe_ix (ix_tupK (K := K) rfl) (pv 11) pe_int (fun _ _ => rfl))))
      (pss_cons (ps_par (i := 3) (j := 4) (by rfl) nd rfl rfl (by decide) rfl rfl (pa_cons (pe_ix ix_list (pv 2) (pe_cal G_law_draw hr1 rfl pass0 (pa_cons (pv 0) (pa_cons (pe_callB call_len_seq (by rfl) T.len bt_len (pa_cons (pv 2) pa_nil)) pa_nil))) (fun _ _ => rfl)) (pa_cons (pe_op op_sub (pe_cal G_law_draw hr1 rfl pass0 (pa_cons (pv 0) (pa_cons pe_int pa_nil))) pe_int) pa_nil)) (by rfl))
      (pss_cons (ps_set (i := 5) nd rfl (Or.inl rfl) (pe_calR G_union hr4 rfl pass0 (pa_cons (pe_cal G_difference hr4 rfl pass0 (pa_cons (pe_pr P_inserted TE.cl hr2 (pv 1)) (pa_cons (pe_tupF (pa_cons (pe_tupF (pa_cons (pv 3) (pa_cons pe_int pa_nil))) pa_nil)) pa_nil))) (pa_cons (pe_tupF (pa_cons (pe_tupF (pa_cons (pv 4) (pa_cons pe_int pa_nil))) pa_nil)) pa_nil))))
      (pss_cons (ps_set (i := 6) nd rfl (Or.inl rfl) (pe_mkI GE hr5 rfl TE.gl (pa_cons (pv 5) (pa_cons (pe_pr P_removals TE.cl hr2 (pv 1)) (pa_cons (pe_pr P_survivors TE.cl hr2 (pv 1)) pa_nil)))))
      (pss_cons (ps_set (i := 7) nd rfl (Or.inr rfl) (pe_callB (call_max2 rfl) (by rfl) T.max bt_max (pa_cons (pv 3) (pa_cons (pv 4) pa_nil))))
      (pss_cons (ps_set (i := 8) nd rfl (Or.inl rfl) (pe_lst (pa_cons (pe_dget2 (hu_of hr) (pe_callTy (call_dictT rfl) (by rfl) T.dict bt_dict (pa_cons (pe_pr P_consumed TE.cl hr4 (pv 1)) pa_nil)) (pv 7) pe_int ⟨rfl, rfl, rfl, rfl⟩) (pa_cons (pe_dget2 (hu_of hr) (pe_callTy (call_dictT rfl) (by rfl) T.dict bt_dict (pa_cons (pe_pr P_consumed TE.cl hr4 (pv 6)) pa_nil)) (pv 7) pe_int ⟨rfl, rfl, rfl, rfl⟩) pa_nil))))
      (pss_cons (ps_set (i := 9) nd rfl (Or.inl rfl) (pe_callB (cr_sum rfl) (by rfl) T.sum bt_sum (pa_cons (pe_lc (own := [("_law_one", 12), ("_law_many", 13)]) (g := gTup K 2 (gCons (gName 12) (gCons (gName 13) gNil))) rfl nd (pi_tup (pe_pr P_consumed TE.cl hr4 (pv 1))) (blkOk_by (own := [("_law_one", 12), ("_law_many", 13)]) (N := ["_law_pool_here", "_law_effect", "_law_consumed", "_law_number", "_law_other", "_law_inserted", "_law_changed", "_law_high", "_law_counts", "_law_above", "_law_heap", "_law_entry", "_law_one", "_law_many"]) (sc := defScope (top 53)) (by decide +kernel)) (fun _ _ _ _ _ => (pg_tup (by rfl) (pgs_cons (pg_name (i := 12) nd rfl (Or.inl rfl)) (pgs_cons (pg_name (i := 13) nd rfl (Or.inl rfl)) pgs_nil)))) (fun _ _ _ _ _ => (pts_one (pt_cmpR op_gt (pv 12) (pv 7) (nomark _)))) (fun _ _ _ _ _ => (pv 13))) pa_nil)))
      (pss_cons (ps_set (i := 10) nd rfl (Or.inl rfl) (pe_cal G_separating_heap hr5 rfl pass0 (pa_cons (pv 1) (pa_cons (pv 6) pa_nil))))
      (pss_cons (ps_if (pt_cmpR op_eq (pv 3) (pv 4) (nomark _)) (pss_one (ps_ret (pe_and (pe_cmpR op_isN (pv 10) pe_non (nomark _)) (pe_one (pe_cmpR (op_eqI M_eq hr1) (pv 1) (pv 6) (nomark _)))))) pss_nil)
      (pss_cons (ps_if (pt_cmpR op_ne (pe_cal G_size_of hr4 rfl pass0 (pa_cons (pv 10) pa_nil)) (pe_op op_add (pe_op op_add (pe_op op_add (pe_pr P_needed TE.cl hr3 (pv 1)) (pv 9)) (pe_callB (cr_min rfl) (by rfl) T.min bt_min (pa_cons (pv 8) pa_nil))) pe_int) (nomark _)) (pss_one (ps_ret pe_bl)) pss_nil)
      (pss_one (ps_ret (pe_cmpR (op_neD hr.units) (pe_cal G_law_applied hr rfl pass0 (pa_cons (pv 1) (pa_cons (pv 10) pa_nil))) (pe_cal G_law_applied hr rfl pass0 (pa_cons (pv 6) (pa_cons (pv 10) pa_nil))) (nomark _)))))))))))))), ?_⟩
    obtain ⟨dx, t, he, _⟩ := id hE
    refine ⟨_, rfl, e, dx, _, rfl, he, e, I, r, S, rfl, hE, v, fun c C1 H1 x1 hc ⟨o1, c1⟩ => ?_⟩
    obtain ⟨ps, hq, hlen, hp⟩ := hc.sq
    have hC1 : 0 < C1.length := by
      cases C1 with
      | nil =>
        obtain ⟨x, hx⟩ := hne
        have := c1 x
        rw [ge_nil] at this
        omega
      | cons _ _ => exact Nat.succ_pos _
    have hl1 := o1.len
    refine ⟨c, rfl, ⟨_, hq⟩, fun D hD => ?_⟩
    refine lc_bag (H0 := H1) hq hp (fun dd tt Hx => Ex H1 Hx ∧ Hx D = some (.lst ((dd.map (·.1)).map V.int)) ∧ dd.length + tt.length = C1.length) ⟨Ex.new hD, upd_same, by simp⟩ (fun _ _ _ h => h.1) ?_ ?_
    · rintro dd e' tt q Hx hbd hE' ⟨ex, hD', hdt⟩
      refine ⟨rfl, _, rfl, q, _, _, .int e'.1, rfl, rfl, hE', rfl, _, hD', ?_, ex.mut hD, by rw [upd_same]; simp, by simp only [List.length_append, List.length_cons, List.length_nil] at hdt ⊢; omega⟩
      rw [List.length_map, List.length_map]
      simp only [List.length_cons] at hdt
      exact small1000 (by omega)
    rintro H2 ⟨x2, hD2, _⟩
    have x12 := x1.trans x2
    have hP2 := hP.up x12
    have hDp := (hP.up x1).ne hD
    refine ⟨_, rfl, _, rfl, _, rfl, D, _, rfl, .inl (sq_of hD2), p, _, rfl, hP2, ?_, ?_, fun f' of hf0 hfl hof => ?_⟩
    · rw [List.length_map, List.length_map]
      omega
    · rw [List.length_map, List.length_map]
      exact Int.lt_trans (show (C1.length : Int) < 100 by omega) (by decide)
    rw [List.length_map, List.length_map] at hfl
    obtain ⟨j, rfl⟩ : ∃ j : Nat, f' = (j : Int) := ⟨f'.toNat, by omega⟩
    have hj : j < C1.length := by omega
    have hmem : C1[j] ∈ C1 := List.getElem_mem hj
    generalize hm0 : C1[j] = mm at hmem
    have hget : ((C1.map (·.1)).map V.int)[j]? = some (V.int mm.1) := by
      rw [List.getElem?_map, List.getElem?_map, List.getElem?_eq_getElem hj, hm0]
      rfl
    have hP3 : Pl p (upd H2 p of) := ⟨of, upd_same, hof⟩
    have hD3 : upd H2 p of D = some (.lst ((C1.map (·.1)).map V.int)) := by rw [upd_ne hDp]; exact hD2
    refine ⟨D, _, _, .int mm.1, rfl, rfl, sq_of hD3, atI_nat hget, _, rfl, p, 9, rfl, hP3, by decide, by decide, fun f2 of2 h20 h29 hof2 => ⟨_, _, rfl, rfl, _, _, rfl, ?_⟩⟩
    have hP4 : Pl p (upd (upd H2 p of) p of2) := ⟨of2, upd_same, hof2⟩
    have X4 : Ex1 p H (upd (upd H2 p of) p of2) := ((Ex1.of x12).trans Ex1.self).trans Ex1.self
    generalize hH4 : upd (upd H2 p of) p of2 = H4 at hP4 X4
    generalize hm : mm.1 = m
    have hoo : -4 ≤ f2 - 4 ∧ f2 - 4 ≤ 4 := by omega
    have hmr : -10 ≤ m ∧ m ≤ 10 := by rw [← hm]; exact o1.rng mm hmem
    have cm : 1 ≤ cnt C1 m := by
      rw [← hm, o1.wf.cnt_mem hmem]
      exact o1.wf.pos mm hmem
    have hE4 := hP.eff X4 hE
    obtain ⟨dx4, t4, he4, _⟩ := id hE4
    refine ⟨_, rfl, e, dx4, _, rfl, he4, e, I, r, S, rfl, hE4, fun i1 hi1 => ?_⟩
    refine ⟨_, rfl, (by show 2 ≤ sizeLine; decide), fun q qo hq1 hpl => ⟨(by show 1 ≤ sizeLine; decide), fun q2 qo2 hq2 hpl2 => ?_⟩⟩
    have y2 := (Ex.new (o := .frz qo (.tup [.int m, .int 1])) hq1).trans (Ex.new (o := .frz qo2 (.tup [.ref q])) hq2)
    refine ⟨i1, q2, I, [(m, 1)], rfl, hi1.up y2, bag_one hq2 hpl2, v.oI, ok_one hmr, exc_pre v c1 cm, fun d D1 H5 x5 hd ⟨oD, d1⟩ => ?_⟩
    refine ⟨_, rfl, (by show 2 ≤ sizeLine; decide), fun q3 qo3 hq3 hpl3 => ⟨(by show 1 ≤ sizeLine; decide), fun q4 qo4 hq4 hpl4 => ?_⟩⟩
    have y4 := (Ex.new (o := .frz qo3 (.tup [.int (f2 - 4), .int 1])) hq3).trans (Ex.new (o := .frz qo4 (.tup [.ref q3])) hq4)
    refine ⟨d, q4, D1, [(f2 - 4, 1)], rfl, hd.up y4, bag_one hq4 hpl4, oD, ok_one (by omega), fun i2 I2 H6 x6 hi2 ⟨oI2, i2e⟩ => ?_⟩
    have X6 := ((y2.trans x5).trans y4).trans x6
    have hX : Exc I r S C1 D1 I2 m (f2 - 4) := ⟨v, hrg, c1, cm, hoo, d1, oI2, i2e⟩
    have hE6 := hE4.up X6
    obtain ⟨dx6, t6, he6, _⟩ := id hE6
    refine ⟨_, rfl, _, rfl, e, dx6, _, rfl, he6, e, I, r, S, rfl, hE6, _, rfl, e, dx6, _, rfl, he6, e, I, r, S, rfl, hE6, fun s1 hs1 => fun e2 dx' hx hd' hne' => ?_⟩
    have e0 : Ex H6 (upd (upd H6 dx' (.own e2)) e2 (.ins C dx' [])) := fun b o h => by
      rw [upd_ne (ne_of_none h hx), upd_ne (ne_of_none h hd')]
      exact h
    refine ⟨e2, i2, s1, dx', I2, r, S, rfl, upd_same, hi2.up e0, hs1.up e0, hX.v2, fun H7 hk hE2 => ⟨rfl, ?_⟩⟩
    have x7 : Ex H6 H7 := fun b o h => hk b o (ne_of_none h hx) (e0 b o h)
    have X7 := X6.trans x7
    have hE7 := hE4.up X7
    obtain ⟨dx7, t7, he7, _⟩ := id hE7
    obtain ⟨dxb, tb, heb, _⟩ := id hE2
    refine ⟨_, rfl, _, rfl, _, _, rfl, ?_⟩
    have em : (if f2 - 4 > m then f2 - 4 else m) = max m (f2 - 4) := by split <;> omega
    rw [em]
    -- counts
    refine ⟨_, rfl, e, dx7, _, rfl, he7, e, I, r, S, rfl, hE7, v, fun cA CA H8 x8 hcA ⟨oA, gA⟩ => ?_⟩
    have eA : CA = C1 := ge_ext oA.wf o1.wf fun x => by rw [gA, c1]
    subst eA
    obtain ⟨psA, ga1, ga2⟩ := hcA
    refine ⟨cA, psA, kvb CA, rfl, ga1, paired_kvb ga2, fun dA hdA => ?_⟩
    rw [merge_nil oA.wf.nodup]
    refine ⟨_, rfl, .inl ⟨_, .inl upd_same⟩, _, rfl, _, DGet.k (k := Sum.inl (max m (f2 - 4))) upd_same, ?_⟩
    rw [get_cnt oA.wf.nodup]
    have y8 := x8.trans (Ex.new (o := .dK (kvb CA)) hdA)
    have hE28 := hE2.up y8
    refine ⟨_, rfl, e2, dxb, _, rfl, y8 _ _ heb, e2, I2, r, S, rfl, hE28, hX.v2, fun cB CB H9 x9 hcB ⟨oB, gB⟩ => ?_⟩
    obtain ⟨psB, gb1, gb2⟩ := hcB
    refine ⟨cB, psB, kvb CB, rfl, gb1, paired_kvb gb2, fun dB' hdB => ?_⟩
    rw [merge_nil oB.wf.nodup]
    refine ⟨_, rfl, .inl ⟨_, .inl upd_same⟩, _, rfl, _, DGet.k (k := Sum.inl (max m (f2 - 4))) upd_same, ?_⟩
    rw [get_cnt oB.wf.nodup]
    refine ⟨(by show 2 ≤ sizeLine; decide), fun Lc hLc => ?_⟩
    have y9 := ((y8.trans x9).trans (Ex.new (o := .dK (kvb CB)) hdB)).trans (Ex.new (o := .lst [.int (cnt CA (max m (f2 - 4))), .int (cnt CB (max m (f2 - 4)))]) hLc)
    -- above
    have hE9 := hE7.up y9
    refine ⟨_, rfl, e, dx7, _, rfl, y9 _ _ he7, e, I, r, S, rfl, hE9, v, fun cD CD H10 x10 hcD ⟨oD', gD⟩ => ?_⟩
    have eD : CD = CA := ge_ext oD'.wf oA.wf fun x => by rw [gD, c1]
    subst eD
    obtain ⟨psD, hqD, hlenD, hpD⟩ := hcD.sq
    refine ⟨cD, rfl, ⟨_, hqD⟩, fun La hLa => ?_⟩
    refine lc_bag (H0 := H10) hqD hpD (fun dd tt Hx => Ex H10 Hx ∧ Hx La = some (.lst (((dd.filter fun p => decide (p.1 > max m (f2 - 4))).map (·.2)).map V.int)) ∧ dd.length + tt.length = CD.length) ⟨Ex.new hLa, upd_same, by simp⟩ (fun _ _ _ h => h.1) ?_ ?_
    · rintro dd e' tt q' Hx hbd hE' ⟨ex, hL', hdt⟩
      refine ⟨q', _, rfl, hE', rfl, _, _, rfl, _, _, rfl, rfl, rfl, _, rfl, _, rfl, _, _, rfl, rfl, _, rfl, ite2 (fun hcc => ?_) (fun hcc => ?_)⟩
      · refine ⟨_, rfl, _, hL', ?_, ex.mut hLa, ?_, by simp only [List.length_append, List.length_cons, List.length_nil] at hdt ⊢; omega⟩
        · rw [List.length_map, List.length_map]
          have := List.length_filter_le (fun p : Int × Int => decide (p.1 > max m (f2 - 4))) dd
          simp only [List.length_cons] at hdt
          exact small1000 (by omega)
        · rw [upd_same, List.filter_append, List.filter_cons, if_pos hcc]
          simp
      · refine ⟨ex, ?_, by simp only [List.length_append, List.length_cons, List.length_nil] at hdt ⊢; omega⟩
        rw [List.filter_append, List.filter_cons, if_neg hcc]
        simpa using hL'
    rintro H11 ⟨x11, hLa11, _⟩
    refine ⟨La, _, rfl, sq_of hLa11, ?_⟩
    rw [sum_above]
    -- the heap
    have y11 := (y9.trans x10).trans x11
    have hE11 := hE7.up y11
    have hE211 := hE2.up y11
    have hLc11 : H11 Lc = some (.lst [.int (cnt CD (max m (f2 - 4))), .int (cnt CB (max m (f2 - 4)))]) := (x10.trans x11) _ _ upd_same
    refine ⟨_, rfl, _, rfl, e, e2, I, r, S, I2, r, S, rfl, hE11, hE211, v, hX.v2, (fun p hp => by have := hrg p hp; omega), hX.rg2, fun hq Hn xn => ?_, fun hq a z size Hn xn hB hz hsz => ?_⟩
    · have hmo : m = f2 - 4 := by
        by_cases z : m = f2 - 4
        · exact z
        · exact absurd hq.1 (hX.diff z)
      refine ⟨_, rfl, _, rfl, rfl, _, rfl, iteB (decide_eq_true (congrArg V.int hmo)) ?_⟩
      refine ⟨_, rfl, rfl, _, rfl, iteB rfl ⟨_, rfl, _, rfl, e, e2, _, _, _, _, rfl, rfl, (y11.trans xn) _ _ he7, (y11.trans xn) _ _ heb, e, e2, I, r, S, I2, r, S, rfl, hE11.up xn, hE211.up xn, fun Hm xm => ⟨⟨_, rfl⟩, ?_⟩⟩⟩
      rw [decide_eq_true hq]
      have y := ((X7.trans y11).trans xn).trans xm
      exact k Hm (X4.trans (Ex1.of y)) (hP4.up y)
    · have hmo : m ≠ f2 - 4 := fun z => hq ⟨hX.same z, rfl, rfl⟩
      refine ⟨_, rfl, _, rfl, rfl, _, rfl, iteC (decide_eq_false fun z => hmo (V.int.inj z)) ?_⟩
      have p0 := (hsz.pos v hX.v2).1
      have hB0 : OkB (heapB z size) := heapB_ok (by have := hz.lo; have := hz.hi; omega)
      refine ⟨_, rfl, a, _, rfl, hB, hB0.wf, hB0.len1000, fun Ha xa => ?_⟩
      have ya := (y11.trans xn).trans xa
      refine ⟨_, rfl, e, dx7, _, rfl, ya _ _ he7, e, I, r, S, rfl, hE7.up ya, v, fun Hb xb => ⟨_, rfl, _, _, rfl, rfl, ?_⟩⟩
      have yb := ya.trans xb
      refine ⟨_, rfl, Lc, [cnt CD (max m (f2 - 4)), cnt CB (max m (f2 - 4))], rfl, sq_of (((xn.trans xa).trans xb) _ _ hLc11), (by simp), fun mn hmn hle => ⟨_, _, rfl, rfl, _, _, rfl, rfl, rfl, _, rfl, ?_⟩⟩
      have hmin : mn = min (cnt CD (max m (f2 - 4))) (cnt CB (max m (f2 - 4))) := by
        have h1 := hle (cnt CD (max m (f2 - 4))) (by simp)
        have h2 := hle (cnt CB (max m (f2 - 4))) (by simp)
        rcases List.mem_cons.mp hmn with z | z
        · omega
        · have := List.mem_singleton.mp z
          omega
      have hs := hX.size hmo gB hsz
      refine iteC ?_ ?_
      · rw [heapB_tot p0, decide_eq_true]
        · rfl
        · congr 1
          show size = r - tot I + tot S + ge CD (max m (f2 - 4) + 1) + mn + 1
          rw [hmin]
          exact hs
      · refine ⟨_, rfl, _, rfl, e, a, I, r, S, heapB z size, rfl, hE7.up yb, v, hB.up (xa.trans xb), hB0, fun v1 w1 Hc xc ha1 ho1 => ?_⟩
        refine ⟨_, rfl, _, rfl, e2, a, I2, r, S, heapB z size, rfl, hE2.up (yb.trans xc), hX.v2, hB.up ((xa.trans xb).trans xc), hB0, fun v2' w2 Hd xd ha2 ho2 => ?_⟩
        refine ⟨dBo w1, dBo w2, dp_optB (ho1.up xd), dp_optB ho2, (ok_dBo _).shaped (by decide), (ok_dBo _).shaped (by decide), ?_⟩
        have hne2 : w1 ≠ w2 := fun hw => by
          have := (app_eq ha1 ha2).mp hw
          rw [heapB_tot p0, heapB_ge p0] at this
          exact out_differ v hX.v2 hsz hz this
        rw [eqv_dBo, decide_eq_false hne2]
        have y := ((X7.trans yb).trans xc).trans xd
        exact k Hd (X4.trans (Ex1.of y)) (hP4.up y)
end
end HX

set_option Elab.async false
set_option linter.all false
set_option maxRecDepth 100000
set_option maxHeartbeats 4000000
namespace HX
open PySem PySem.Spec PyProof.Rows L2 Evl
theorem bag_nilE {K : PySem.W.Frag} {H0 H : Hp} {p : Addr} {o : Obj} (_ : Ex H0 (upd H p (.frz o (.tup [])))) (h : PlO o) : IsBag K (upd H p (.frz o (.tup []))) p [] := bag_nil h
theorem Ex.over {p : Addr} {H H1 H2 : Hp} (e : Ex H H1) (h : H p = none) (x : Ex1 p H1 H2) : Ex H H2 := fun b o hb => x b o (ne_of_none hb h) (e b o hb)
section
variable {w : World} {K : PySem.W.Frag} {mg : Str → Option Value} {base : Heap} {C Ce fIe cce cde : Addr}
def spLaw (K : PySem.W.Frag) : Sp := fun vs H Q _ => ∃ (a : Addr) (ns : List Int), vs = [.ref a] ∧ SqL K H a (ns.map V.int) ∧ ns.length ≤ 63 ∧ ∀ H', Q (.bl true) H'
theorem sc54 : FnScope ["_law_script", "_law_k", "_law_pool_here", "_law_turn", "_law_one", "_law_two", "_law_first", "_law_second", "_law_heap", "_law_less"] ["_law_script"] (defScope (top 54)) := ⟨rfl, rfl, rfl, by decide +kernel, rfl, by decide +kernel, by decide +kernel⟩
theorem ok_law {f : Addr} {fd : FuncData} (F : Fun K "law" "law" (top 54) f fd) (T : Nms mg) (TE : EfC K mg C)
    (G_law_pool : Is PW w K mg base CX0 1 "_law_pool" ["_law_script", "_law_k"] (spPoolL K)) (G_law_draw : Is PW w K mg base CX0 1 "_law_draw" ["_law_pool_here", "_law_many"] spDraw) (G_law_random_steps : Is PW w K mg base CX0 2 "_law_random_steps" ["_law_pool_here", "_law_many", "_law_most"] (spRand K))
    (G_law_shuffled : Is PW w K mg base CX0 2 "_law_shuffled" ["_law_pool_here", "_law_steps"] (spShuf K)) (G_law_small_holds : Is PW w K mg base CX0 7 "_law_small_holds" ["_law_one", "_law_two"] (spSmall K)) (G_law_great_effect : Is PW w K mg base CX0 6 "_law_great_effect" ["_law_pool_here"] (spGreat K C))
    (G_law_exchanged : Is PW w K mg base CX0 8 "_law_exchanged" ["_law_pool_here", "_law_effect"] (spExch K C)) (G_separating_heap : Is PW w K mg base CX0 5 "separating_heap" ["first", "second"] (spSep K C)) (G_law_applied : Is PW w K mg base CX0 7 "_law_applied" ["_law_effect", "_law_entries"] (spAppd K C))
    (G_size_of : Is PW w K mg base CX0 4 "size_of" ["bag"] (spSize K)) (M_eq : IsM PW w K mg base CX0 1 C "__eq__" ["self", "other"] (spEqE K C)) (P_consumed : IsP PW w K mg base 3 C "consumed" (spPC K C)) (P_needed : IsP PW w K mg base 2 C "needed" (spPN K C)) (P_survivors : IsP PW w K mg base 1 C "survivors" (spPS K C)) :
    FnOk PW w K mg base CX0 9 f fd ["_law_script"] (spLaw K) := by
  refine F.ok sc54 (fun vs H Q E h => ?_) (fun cdv A outer s H vs Q E hr h => ?_)
  · obtain ⟨_, _, rfl, _⟩ := h
    rfl
  · obtain ⟨a, ns, rfl, hS, hl, k⟩ := h
    have nd := sc54.nd
    have hr1 : Room 1 _ := hr.mono (by decide)
    have hr2 : Room 2 _ := hr.mono (by decide)
    have hr3 : Room 3 _ := hr.mono (by decide)
    have hr4 : Room 4 _ := hr.mono (by decide)
    have hr5 : Room 5 _ := hr.mono (by decide)
    have hr6 : Room 6 _ := hr.mono (by decide)
    have hr7 : Room 7 _ := hr.mono (by decide)
    refine ⟨_, (pss_cons (ps_for PassesOwn.never rfl (pi_range1 (by rfl) T.range (pa_cons (pe_callB (call_max2 rfl) (by rfl) T.max bt_max (pa_cons pe_int (pa_cons (pe_callB (call_min2 rfl) (by rfl) T.min bt_min (pa_cons (pe_callB call_len_seq (by rfl) T.len bt_len (pa_cons (pv 0) pa_nil)) (pa_cons pe_int pa_nil))) pa_nil))) pa_nil)) (pg_name (i := 1) nd rfl (Or.inl rfl)) (pss_cons (ps_set (i := 2) nd rfl (Or.inl rfl) (pe_cal G_law_pool hr1 rfl pass0 (pa_cons (pv 0) (pa_cons (pv 1) pa_nil))))
      (pss_cons (ps_for PassesOwn.never rfl (pi_range1 (by rfl) T.range (pa_cons pe_int pa_nil)) (pg_name (i := 3) nd rfl (Or.inl rfl)) (pss_cons (ps_set (i := 4) nd rfl (Or.inl rfl) (pe_cal G_law_random_steps hr2 rfl pass0 (pa_cons (pv 2) (pa_cons (pe_cal G_law_draw hr1 rfl pass0 (pa_cons (pv 2) (pa_cons pe_int pa_nil))) (pa_cons pe_int pa_nil)))))
      (pss_cons (ps_set (i := 5) nd rfl (Or.inl rfl) (pe_cal G_law_random_steps hr2 rfl pass0 (pa_cons (pv 2) (pa_cons (pe_cal G_law_draw hr1 rfl pass0 (pa_cons (pv 2) (pa_cons pe_int pa_nil))) (pa_cons pe_int pa_nil)))))
      (pss_cut (ps_if (pt_cmpR op_eq (pe_cal G_law_draw hr1 rfl pass0 (pa_cons (pv 2) (pa_cons pe_int pa_nil))) pe_int (nomark _)) (pss_one (ps_set (i := 5) nd rfl (Or.inl rfl) (pe_cal G_law_shuffled hr2 rfl pass0 (pa_cons (pv 2) (pa_cons (pv 4) pa_nil))))) pss_nil) (pss_one (ps_if (pt_not (pt_val (pe_cal G_law_small_holds hr7 rfl pass0 (pa_cons (pv 4) (pa_cons (pv 5) pa_nil))))) (pss_one (ps_ret pe_bl)) pss_nil))))))
      (pss_cons (ps_par (i := 6) (j := 7) (by rfl) nd rfl rfl (by decide) rfl rfl (pa_cons (pe_cal G_law_great_effect hr6 rfl pass0 (pa_cons (pv 2) pa_nil)) (pa_cons (pe_cal G_law_great_effect hr6 rfl pass0 (pa_cons (pv 2) pa_nil)) pa_nil)) (by rfl))
      (pss_cons (ps_for PassesOwn.never rfl (pi_list (pe_lst (pa_cons (pv 6) (pa_cons (pv 7) pa_nil)))) (pg_name (i := 4) nd rfl (Or.inl rfl)) (pss_one (ps_if (PW.pt (pw_and (pt_cmpR (op_neD hr.units) (pe_pr P_consumed TE.cl hr4 (pv 4)) (pe_tupF pa_nil) (nomark _)) (pw_and1 (pt_not (pt_val (pe_cal G_law_exchanged hr rfl pass0 (pa_cons (pv 2) (pa_cons (pv 4) pa_nil)))))))) (pss_one (ps_ret pe_bl)) pss_nil)))
      (pss_cons (ps_set (i := 8) nd rfl (Or.inl rfl) (pe_cal G_separating_heap hr5 rfl pass0 (pa_cons (pv 6) (pa_cons (pv 7) pa_nil))))
      (pss_cons (ps_if (PW.pt (pw_or (pt_cmpR op_notN (pe_cal G_separating_heap hr5 rfl pass0 (pa_cons (pv 6) (pa_cons (pv 6) pa_nil))) pe_non (nomark _)) (pw_or1 (pt_cmpR op_ne (pe_cmpR op_isN (pv 8) pe_non (nomark _)) (pe_cmpR (op_eqI M_eq hr1) (pv 6) (pv 7) (nomark _)) (nomark _))))) (pss_one (ps_ret pe_bl)) pss_nil)
      (pss_cons (ps_if (PW.pt (pw_and (pt_cmpR op_notN (pv 8) pe_non (nomark _)) (pw_and1 (pt_cmpR (op_eqD hr.units) (pe_cal G_law_applied hr7 rfl pass0 (pa_cons (pv 6) (pa_cons (pv 8) pa_nil))) (pe_cal G_law_applied hr7 rfl pass0 (pa_cons (pv 7) (pa_cons (pv 8) pa_nil))) (nomark _))))) (pss_one (ps_ret pe_bl)) pss_nil)
      (pss_cut (ps_if (PW.pt (pw_and (pt_cmpR op_notN (pv 8) pe_non (nomark _)) (pw_and1 (pt_cmpR (op_neD hr.units) (pv 8) (pe_tupF pa_nil) (nomark _))))) (pss_cons (ps_set (i := 9) nd rfl (Or.inl rfl) (pe_op op_catA (pe_op op_rep01 (pe_tupF (pa_cons (pe_tupF (pa_cons (pe_ix ix_tup (pe_ix ix_tup (pv 8) pe_int (fun _ _ => rfl)) pe_int (fun _ _ => rfl)) (pa_cons (pe_op op_sub (pe_ix ix_tup (pe_ix ix_tup (pv 8) pe_int (fun _ _ => rfl)) pe_int (fun _ _ => rfl)) pe_int) pa_nil))) pa_nil)) (pe_callTy call_int1 (by rfl) T.int bt_int (pa_cons (pe_cmpR op_gt (pe_ix ix_tup (pe_ix ix_tup (pv 8) pe_int (fun _ _ => rfl)) pe_int (fun _ _ => rfl)) pe_int (nomark _)) pa_nil))) (pe_slice sl_tupF (pv 8) (po_some pe_int) po_none)))
      (pss_one (ps_if (pt_cmpR (op_neD hr.units) (pe_cal G_law_applied hr7 rfl pass0 (pa_cons (pv 6) (pa_cons (pv 9) pa_nil))) (pe_cal G_law_applied hr7 rfl pass0 (pa_cons (pv 7) (pa_cons (pv 9) pa_nil))) (nomark _)) (pss_one (ps_ret pe_bl)) pss_nil))) pss_nil) (pss_one (ps_if (PW.pt (pw_or (pt_cmpR op_ne (pe_pr P_needed TE.cl hr3 (pv 6)) (pe_pr P_needed TE.cl hr3 (pv 7)) (nomark _)) (pw_or1 (pt_cmpR (op_neD hr.units) (pe_pr P_survivors TE.cl hr2 (pv 6)) (pe_pr P_survivors TE.cl hr2 (pv 7)) (nomark _))))) (pss_one (ps_if (pt_cmpR op_ne (pe_cal G_size_of hr4 rfl pass0 (pa_cons (pv 8) pa_nil)) (pe_callB (call_min2 rfl) (by rfl) T.min bt_min (pa_cons (pe_pr P_needed TE.cl hr3 (pv 6)) (pa_cons (pe_pr P_needed TE.cl hr3 (pv 7)) pa_nil))) (nomark _)) (pss_one (ps_ret pe_bl)) pss_nil)) pss_nil)))))))))))
      (pss_one (ps_ret pe_bl))), ?_⟩
    refine ⟨_, rfl, a, _, rfl, .inl hS, _, _, rfl, _, _, rfl, _, rfl, ?_, ?_, for_range (lo := 0) (fun i σ H' => Ex H H' ∧ ∃ v1 v2 v3 v4 v5 v6 v7 v8 v9 : Option V, σ = [some (.ref a), v1, v2, v3, v4, v5, v6, v7, v8, v9]) ⟨ex_self H, none, none, none, none, none, none, none, none, none, rfl⟩ ?_ ?_⟩
    · have h0 : (0 : Int) ≤ ((ns.map V.int).length : Int) := Int.natCast_nonneg _
      split <;> (try split) <;> omega
    · have h0 : (0 : Int) ≤ ((ns.map V.int).length : Int) := Int.natCast_nonneg _
      have h1 : ((ns.map V.int).length : Int) ≤ 63 := by rw [List.length_map]; omega
      split <;> (try split) <;> omega
    · rintro i σ H0 hi ⟨ex0, v1, v2, v3, v4, v5, v6, v7, v8, v9, rfl⟩
      have hi4 : i < 4 := by
        have h0 : (0 : Int) ≤ ((ns.map V.int).length : Int) := Int.natCast_nonneg _
        split at hi <;> (try split at hi) <;> omega
      have z0 : (0 : Int) + (i : Int) = (i : Int) := Int.zero_add _
      refine ⟨_, rfl, _, rfl, a, ns, i, by rw [z0]; rfl, ex_l ex0 hS, hl, hi4, fun p o H1 x1 hp1 hpo hp0 => ?_⟩
      have hP1 : Pl p H1 := ⟨o, hp1, hpo⟩
      have hpH : H p = none := fresh_back ex0 hp0
      have E1 : Ex H H1 := ex0.trans x1
      refine ⟨3, rfl, by decide, by decide, for_range (lo := 0) (n := 3) (fun j σ H' => Ex1 p H1 H' ∧ Pl p H' ∧ ∃ v3 v4 v5 : Option V, σ = [some (.ref a), some (.int (0 + (i : Int))), some (.ref p), v3, v4, v5, v6, v7, v8, v9]) ⟨fun b o _ h => h, hP1, v3, v4, v5, rfl⟩ ?_ ?_⟩
      · rintro j σ H2 hj ⟨e2, hP2, v3', v4', v5', rfl⟩
        refine ⟨_, rfl, _, rfl, p, 6, rfl, hP2, by decide, by decide, fun m1 o1 hm0 hm6 ho1 => ?_⟩
        have hP3 : Pl p (upd H2 p o1) := ⟨o1, upd_same, ho1⟩
        refine ⟨p, m1, rfl, hP3, hm0, by omega, fun l1 s1 H3 x3 hP4 hl1 hl1p hn1 => ?_⟩
        refine ⟨_, rfl, _, rfl, p, 6, rfl, hP4, by decide, by decide, fun m2 o2 hm20 hm26 ho2 => ?_⟩
        have hP5 : Pl p (upd H3 p o2) := ⟨o2, upd_same, ho2⟩
        refine ⟨p, m2, rfl, hP5, hm20, by omega, fun l2 s2 H4 x4 hP6 hl2 hl2p hn2 => ?_⟩
        have X4 : Ex1 p H1 H4 := (((e2.trans Ex1.self).trans x3).trans Ex1.self).trans x4
        have hl14 : PrgL K H4 l1 s1 := (hl1.x1 hP4 Ex1.self hl1p).x1 hP5 x4 hl1p
        refine ⟨fun σ' H' => Ex1 p H1 H' ∧ Pl p H' ∧ ∃ (l2 : Addr) (s2 : List Stp), σ' = [some (.ref a), some (.int (0 + (i : Int))), some (.ref p), some (.int (0 + (j : Int))), some (.ref l1), some (.ref l2), v6, v7, v8, v9] ∧ PrgL K H' l1 s1 ∧ PrgL K H' l2 s2 ∧ s2.length ≤ 5, ?_, ?_⟩
        · refine ⟨_, rfl, p, 2, rfl, hP6, by decide, by decide, fun f' of hf0 hf2 hof => ⟨rfl, _, rfl, ?_⟩⟩
          have hP7 : Pl p (upd H4 p of) := ⟨of, upd_same, hof⟩
          have hl17 := hl14.x1 hP6 (Ex1.self (o := of)) hl1p
          have hl27 := hl2.x1 hP6 (Ex1.self (o := of)) hl2p
          refine ite2 (fun _ => ?_) (fun _ => ?_)
          · refine ⟨_, rfl, _, rfl, p, l1, s1, rfl, hP7, hl17, hl1p, hn1, fun l' s' H5 x5 hP8 hl' hl'p hn' => ?_⟩
            exact ⟨(X4.trans Ex1.self).trans x5, hP8, l', s', rfl, hl17.x1 hP7 x5 hl1p, hl', hn'⟩
          · exact ⟨X4.trans Ex1.self, hP7, l2, s2, rfl, hl17, hl27, hn2⟩
        · rintro σ' H5 ⟨X5, hP8, l2', s2', rfl, g1, g2, g3⟩
          refine ⟨_, rfl, _, rfl, l1, l2', s1, s2', rfl, g1, g2, hn1, g3, fun H6 x6 => ⟨_, rfl, iteF ?_⟩⟩
          exact ⟨X5.trans (Ex1.of x6), hP8.up x6, _, _, _, rfl⟩
      · rintro σ H2 ⟨e2, hP2, v3', v4', v5', rfl⟩
        refine ⟨_, rfl, p, rfl, hP2, fun e1 I1 r1 S1 H3 x3 hP3 hE1 w1 rg1 => ?_⟩
        refine ⟨_, rfl, p, rfl, hP3, fun e2' I2 r2 S2 H4 x4 hP4 hE2 w2 rg2 => ⟨_, _, rfl, ?_⟩⟩
        have hE14 := hP3.eff x4 hE1
        have X4 : Ex1 p H1 H4 := (e2.trans x3).trans x4
        -- both exchanged
        refine ⟨_, rfl, _, rfl, (by show 2 ≤ sizeLine; decide), fun M hM => ?_⟩
        have hMp := hP4.ne hM
        have xM := Ex.new (o := .lst [.ref e1, .ref e2']) hM
        refine ⟨M, rfl, ⟨_, sq_of upd_same⟩, for_list (K := K) (xs := [.ref e1, .ref e2']) (fun _ σ H' => Ex1 p (upd H4 M (.lst [.ref e1, .ref e2'])) H' ∧ Pl p H' ∧ ∃ v4 : Option V, σ = [some (.ref a), some (.int (0 + (i : Int))), some (.ref p), v3', v4, v5', some (.ref e1), some (.ref e2'), v8, v9]) ⟨fun b o _ h => h, hP4.up xM, _, rfl⟩ (fun _ _ H' _ h => sq_of (h.1 _ _ hMp upd_same)) ?_ ?_⟩
        · rintro j x σ H5 hj ⟨x5, hP5, v4'', rfl⟩
          have hx : ∃ y I r S, x = V.ref y ∧ IsEff K C H5 y I r S ∧ Vld I r S ∧ ∀ p ∈ I, -3 ≤ p.1 ∧ p.1 ≤ 3 := by
            have q1 := (hP4.up xM).eff x5 (hE14.up xM)
            have q2 := (hP4.up xM).eff x5 (hE2.up xM)
            match j, hj with
            | 0, h => exact ⟨e1, I1, r1, S1, (Option.some.inj h).symm, q1, w1, rg1⟩
            | 1, h => exact ⟨e2', I2, r2, S2, (Option.some.inj h).symm, q2, w2, rg2⟩
          obtain ⟨y, I, r, S, rfl, hE, v, rg⟩ := hx
          obtain ⟨dx, t, hy, _⟩ := id hE
          refine ⟨_, rfl, y, dx, _, rfl, hy, y, I, r, S, rfl, hE, v, fun c C1 H6 x6 hc ⟨oc, gc⟩ => ⟨(by show 0 ≤ sizeLine; decide), fun q qo hq hpl => ?_⟩⟩
          have xq := Ex.new (o := .frz qo (.tup [])) hq
          refine ⟨dB C1, dB [], dp_bag (hc.up xq), dp_bag (bag_nil hpl), (ok_dB _).shaped (by decide), (ok_dB _).shaped (by decide), _, rfl, ?_⟩
          rw [eqv_dB]
          have y6 := x6.trans xq
          by_cases hC : C1 = []
          · refine iteC (by rw [decide_eq_true hC]; rfl) ?_
            exact iteF ⟨x5.trans (Ex1.of y6), hP5.up y6, _, rfl⟩
          · refine iteB (by rw [decide_eq_false hC]; rfl) ?_
            have hne : ∃ x, ge I x ≠ ge S x := by
              by_cases z : ∃ x, ge I x ≠ ge S x
              · exact z
              · refine absurd (ge_ext oc.wf WF.nil fun x => ?_) hC
                have : ge I x = ge S x := by
                  by_cases u : ge I x = ge S x
                  · exact u
                  · exact absurd ⟨x, u⟩ z
                rw [gc, this, ge_nil]
                omega
            refine ⟨_, rfl, _, rfl, p, y, I, r, S, rfl, hP5.up y6, hE.up y6, v, rg, hne, fun H7 x7 hP7 => ⟨_, rfl, iteF ?_⟩⟩
            exact ⟨(x5.trans (Ex1.of y6)).trans x7, hP7, _, rfl⟩
        · rintro σ H5 ⟨x5, hP5, v4'', rfl⟩
          have hE1s := (hP4.up xM).eff x5 (hE14.up xM)
          have hE2s := (hP4.up xM).eff x5 (hE2.up xM)
          have E5 : Ex H H5 := Ex.over E1 hpH ((X4.trans (Ex1.of xM)).trans x5)
          have g1 : Rg5 I1 := fun p hp => by have := rg1 p hp; omega
          have g2 : Rg5 I2 := fun p hp => by have := rg2 p hp; omega
          obtain ⟨dx1, t1, he1, _⟩ := id hE1s
          obtain ⟨dx2, t2, he2, _⟩ := id hE2s
          by_cases hq : I1 = I2 ∧ r1 = r2 ∧ S1 = S2
          · -- equal effects
            refine ⟨_, rfl, _, rfl, e1, e2', I1, r1, S1, I2, r2, S2, rfl, hE1s, hE2s, w1, w2, g1, g2, fun _ H6 x6 => ?_, fun h => absurd hq h⟩
            refine ⟨_, rfl, _, rfl, e1, e1, I1, r1, S1, I1, r1, S1, rfl, hE1s.up x6, hE1s.up x6, w1, w1, g1, g1, fun _ H7 x7 => ?_, fun h => absurd ⟨rfl, rfl, rfl⟩ h⟩
            have y7 := x6.trans x7
            refine ⟨rfl, _, rfl, iteC rfl ?_⟩
            refine ⟨_, rfl, rfl, _, rfl, _, rfl, e1, e2', _, _, _, _, rfl, rfl, y7 _ _ he1, y7 _ _ he2, e1, e2', I1, r1, S1, I2, r2, S2, rfl, hE1s.up y7, hE2s.up y7, fun H8 x8 => ⟨⟨_, rfl⟩, ?_⟩⟩
            rw [decide_eq_true hq]
            refine ⟨rfl, _, rfl, iteC rfl ?_⟩
            have y8 := y7.trans x8
            refine ⟨_, rfl, rfl, _, rfl, iteC rfl (iteF ?_)⟩
            refine ⟨fun σ' H' => Ex H5 H' ∧ ∃ v9 : Option V, σ' = [some (.ref a), some (.int (0 + (i : Int))), some (.ref p), v3', v4'', v5', some (.ref e1), some (.ref e2'), some .non, v9], ?_, ?_⟩
            · exact ⟨_, rfl, rfl, _, rfl, iteC rfl (iteF ⟨y8, _, rfl⟩)⟩
            · rintro σ' H9 ⟨x9, v9', rfl⟩
              refine ⟨_, rfl, e1, dx1, _, rfl, x9 _ _ he1, e1, I1, r1, S1, rfl, hE1s.up x9, w1, fun Ha xa => ?_⟩
              have ya := x9.trans xa
              refine ⟨_, rfl, e2', dx2, _, rfl, ya _ _ he2, e2', I2, r2, S2, rfl, hE2s.up ya, w2, fun Hb xb => ⟨rfl, _, rfl, ?_⟩⟩
              have yb := ya.trans xb
              have hnn : r1 - tot I1 + tot S1 = r2 - tot I2 + tot S2 := by rw [hq.1, hq.2.1, hq.2.2]
              refine iteC (by rw [decide_eq_true (congrArg V.int hnn)]; rfl) ?_
              refine ⟨_, rfl, e1, dx1, _, rfl, yb _ _ he1, e1, I1, r1, S1, rfl, hE1s.up yb, fun b1 hb1 => ?_⟩
              refine ⟨_, rfl, e2', dx2, _, rfl, yb _ _ he2, e2', I2, r2, S2, rfl, hE2s.up yb, fun b2 hb2 => ?_⟩
              refine ⟨dB S1, dB S2, dp_bag hb1, dp_bag hb2, (ok_dB _).shaped (by decide), (ok_dB _).shaped (by decide), _, rfl, ?_⟩
              rw [eqv_dB, decide_eq_true hq.2.2]
              exact iteF ⟨E5.trans yb, _, _, _, _, _, _, _, _, _, rfl⟩
          · -- effects that differ
            refine ⟨_, rfl, _, rfl, e1, e2', I1, r1, S1, I2, r2, S2, rfl, hE1s, hE2s, w1, w2, g1, g2, fun h => absurd h hq, fun _ hb z size H6 x6 hB hz hsz => ?_⟩
            have p0 := (hsz.pos w1 w2).1
            have hB0 : OkB (heapB z size) := heapB_ok (by have := hz.lo; have := hz.hi; omega)
            refine ⟨_, rfl, _, rfl, e1, e1, I1, r1, S1, I1, r1, S1, rfl, hE1s.up x6, hE1s.up x6, w1, w1, g1, g1, fun _ H7 x7 => ?_, fun h => absurd ⟨rfl, rfl, rfl⟩ h⟩
            have y7 := x6.trans x7
            refine ⟨rfl, _, rfl, iteC rfl ?_⟩
            refine ⟨_, rfl, rfl, _, rfl, _, rfl, e1, e2', _, _, _, _, rfl, rfl, y7 _ _ he1, y7 _ _ he2, e1, e2', I1, r1, S1, I2, r2, S2, rfl, hE1s.up y7, hE2s.up y7, fun H8 x8 => ⟨⟨_, rfl⟩, ?_⟩⟩
            rw [decide_eq_false hq]
            refine ⟨rfl, _, rfl, iteC rfl ?_⟩
            have y8 := y7.trans x8
            have hB8 := hB.up (x7.trans x8)
            -- both differ on the heap
            refine ⟨_, rfl, rfl, _, rfl, iteB rfl ?_⟩
            refine ⟨_, rfl, _, rfl, e1, hb, I1, r1, S1, heapB z size, rfl, hE1s.up y8, w1, hB8, hB0, fun u1 o1 H9 x9 ha1 ho1 => ?_⟩
            refine ⟨_, rfl, _, rfl, e2', hb, I2, r2, S2, heapB z size, rfl, hE2s.up (y8.trans x9), w2, hB8.up x9, hB0, fun u2 o2 H10 x10 ha2 ho2 => ?_⟩
            refine ⟨dBo o1, dBo o2, dp_optB (ho1.up x10), dp_optB ho2, (ok_dBo _).shaped (by decide), (ok_dBo _).shaped (by decide), _, rfl, ?_⟩
            have hne2 : o1 ≠ o2 := fun hw => by
              have := (app_eq ha1 ha2).mp hw
              rw [heapB_tot p0, heapB_ge p0] at this
              exact out_differ w1 w2 hsz hz this
            rw [eqv_dBo, decide_eq_false hne2]
            have y10 := (y8.trans x9).trans x10
            have hB10 := hB8.up (x9.trans x10)
            refine iteF ?_
            refine ⟨fun σ' H' => Ex H5 H' ∧ IsBag K H' hb (heapB z size) ∧ ∃ v9 : Option V, σ' = [some (.ref a), some (.int (0 + (i : Int))), some (.ref p), v3', v4'', v5', some (.ref e1), some (.ref e2'), some (.ref hb), v9], ?_, ?_⟩
            · refine ⟨_, rfl, rfl, _, rfl, iteB rfl ?_⟩
              refine ⟨_, rfl, (by show 0 ≤ sizeLine; decide), fun q qo hqq hpl => ?_⟩
              have xq := Ex.new (o := .frz qo (.tup [])) hqq
              have yq := y10.trans xq
              have hBq := hB10.up xq
              refine ⟨dB (heapB z size), dB [], dp_bag hBq, dp_bag (bag_nil hpl), (ok_dB _).shaped (by decide), (ok_dB _).shaped (by decide), _, rfl, ?_⟩
              rw [eqv_dB]
              by_cases hs0 : 0 < size
              · have hbz : heapB z size = [(z, size)] := by unfold heapB; rw [if_pos hs0]
                refine iteB (by rw [decide_eq_false (by rw [hbz]; intro w; cases w)]; rfl) ?_
                rw [hbz] at hBq
                obtain ⟨ps, hps, hpl1, hpp⟩ := hBq.sq
                cases hpp with
                | @cons q0 _ ps' _ hq0 hnil =>
                cases hnil
                have hs1 : SqT K _ hb [.ref q0] := hps
                have r0 : atI [V.ref q0] 0 = some (V.ref q0) := rfl
                refine ⟨_, rfl, hb, _, _, .ref q0, rfl, rfl, hs1, r0, q0, _, _, .int z, rfl, rfl, hq0, rfl, ?_⟩
                refine ⟨_, rfl, hb, _, _, .ref q0, rfl, rfl, hs1, r0, q0, _, _, .int size, rfl, rfl, hq0, rfl, _, _, rfl, rfl, (by show 2 ≤ sizeLine; decide), fun t1 p1 ht1 hpl1' => ⟨(by show 1 ≤ sizeLine; decide), fun t2 p2 ht2 hpl2 => ?_⟩⟩
                have z1 := Ex.new (o := .frz p1 (.tup [.int z, .int (size - 1)])) ht1
                have z2 := z1.trans (Ex.new (o := .frz p2 (.tup [.ref t1])) ht2)
                have hs2 := ex_t z2 hs1
                have hq2 := EntT.up hq0 z2
                refine ⟨_, rfl, hb, _, _, .ref q0, rfl, rfl, hs2, r0, q0, _, _, .int size, rfl, rfl, hq2, rfl, _, _, rfl, rfl, .inr ⟨_, rfl, t2, _, _, rfl, rfl, plt_sq, (by simp), ?_⟩⟩
                have hless : ∀ (lt : Addr) (HL : Hp), Ex H5 HL → IsBag K HL hb (heapB z size) → IsBag K HL lt (heapB z (size - 1)) → ∀ (u1 u2 : V) (HM : Hp) (o1 o2 : Option Bg), AppRes I1 r1 S1 (heapB z (size - 1)) o1 → AppRes I2 r2 S2 (heapB z (size - 1)) o2 → o1 = o2 := fun lt HL _ _ _ u1 u2 HM o1 o2 a1 a2 => by
                  refine (app_eq a1 a2).mpr ?_
                  rw [heapB_tot (by omega), heapB_ge (by omega)]
                  exact out_same w1 w2 hsz (by omega) (fun x => by split <;> omega)
                have hBl0 : OkB (heapB z (size - 1)) := heapB_ok (by have := hz.lo; have := hz.hi; omega)
                by_cases hs2' : size > 1
                · refine .inl ⟨by rw [decide_eq_true hs2']; rfl, ?_⟩
                  refine ⟨_, rfl, 1, rfl, hb, _, rfl, hs2, (by show ¬ (HT.sIx 1 0 (some 1) = 0 ∧ HT.sIx 1 1 none = 1); decide), fun t3 p3 ht3 hpl3 => ?_⟩
                  have z3 := z2.trans (Ex.new (o := .frz p3 (.tup [])) ht3)
                  refine ⟨t2, t3, [.ref t1], [], rfl, rfl, ex_t (Ex.new ht3) plt_sq, plt_sq, (by show 1 ≤ sizeLine; decide), (fun w => nomatch w), (fun _ _ => ?_), fun _ w => absurd rfl w⟩
                  have bl : IsBag K _ t2 (heapB z (size - 1)) := (show IsBag K _ t2 (heapB z (size - 1)) by
                    have : heapB z (size - 1) = [(z, size - 1)] := by unfold heapB; rw [if_pos (by omega)]
                    rw [this]
                    exact ⟨[t1], plt_new hpl2, .cons (ex_t (Ex.new ht2) plt_sq) .nil⟩).up (Ex.new (o := .frz p3 (.tup [])) ht3)
                  have yl := yq.trans z3
                  refine ⟨_, rfl, _, rfl, e1, t2, I1, r1, S1, _, rfl, hE1s.up yl, w1, bl, hBl0, fun u1 o1 Ha xa ha1 ho1 => ?_⟩
                  refine ⟨_, rfl, _, rfl, e2', t2, I2, r2, S2, _, rfl, hE2s.up (yl.trans xa), w2, bl.up xa, hBl0, fun u2 o2 Hb xb ha2 ho2 => ?_⟩
                  refine ⟨dBo o1, dBo o2, dp_optB (ho1.up xb), dp_optB ho2, (ok_dBo _).shaped (by decide), (ok_dBo _).shaped (by decide), _, rfl, ?_⟩
                  have heq := hless t2 _ yl (hB10.up (xq.trans z3)) bl u1 u2 Hb o1 o2 ha1 ha2
                  rw [eqv_dBo, decide_eq_true heq]
                  exact iteF ⟨(yl.trans xa).trans xb, hB10.up (((xq.trans z3).trans xa).trans xb), _, rfl⟩
                · refine .inr ⟨by rw [decide_eq_false hs2']; rfl, fun t4 p4 ht4 hpl4 => ?_⟩
                  have z4 := z2.trans (Ex.new (o := .frz p4 (.tup [])) ht4)
                  refine ⟨_, rfl, 1, rfl, hb, _, rfl, ex_t (Ex.new ht4) hs2, (by show ¬ (HT.sIx 1 0 (some 1) = 0 ∧ HT.sIx 1 1 none = 1); decide), fun t3 p3 ht3 hpl3 => ?_⟩
                  have z3 := z4.trans (Ex.new (o := .frz p3 (.tup [])) ht3)
                  refine ⟨t4, t3, [], [], rfl, rfl, ex_t (Ex.new ht3) plt_sq, plt_sq, (by show 0 ≤ sizeLine; decide), (fun _ => ?_), (fun w => absurd rfl w), fun w => absurd rfl w⟩
                  have hbl : heapB z (size - 1) = [] := by unfold heapB; rw [if_neg (by omega)]
                  have bl := bag_nilE (K := K) z3 hpl3
                  rw [← hbl] at bl
                  have yl := yq.trans z3
                  refine ⟨_, rfl, _, rfl, e1, t3, I1, r1, S1, _, rfl, hE1s.up yl, w1, bl, hBl0, fun u1 o1 Ha xa ha1 ho1 => ?_⟩
                  refine ⟨_, rfl, _, rfl, e2', t3, I2, r2, S2, _, rfl, hE2s.up (yl.trans xa), w2, bl.up xa, hBl0, fun u2 o2 Hb xb ha2 ho2 => ?_⟩
                  refine ⟨dBo o1, dBo o2, dp_optB (ho1.up xb), dp_optB ho2, (ok_dBo _).shaped (by decide), (ok_dBo _).shaped (by decide), _, rfl, ?_⟩
                  have heq := hless t3 _ yl (hB10.up (xq.trans z3)) bl u1 u2 Hb o1 o2 ha1 ha2
                  rw [eqv_dBo, decide_eq_true heq]
                  exact iteF ⟨(yl.trans xa).trans xb, hB10.up (((xq.trans z3).trans xa).trans xb), _, rfl⟩
              · have hbz : heapB z size = [] := by unfold heapB; rw [if_neg hs0]
                refine iteC (by rw [decide_eq_true hbz]; rfl) ⟨yq, hBq, _, rfl⟩
            · rintro σ' H11 ⟨x11, hB11, v9', rfl⟩
              refine ⟨_, rfl, e1, dx1, _, rfl, x11 _ _ he1, e1, I1, r1, S1, rfl, hE1s.up x11, w1, fun Ha xa => ?_⟩
              have ya := x11.trans xa
              refine ⟨_, rfl, e2', dx2, _, rfl, ya _ _ he2, e2', I2, r2, S2, rfl, hE2s.up ya, w2, fun Hb xb => ⟨rfl, _, rfl, ?_⟩⟩
              have yb := ya.trans xb
              have hBb := hB11.up (xa.trans xb)
              by_cases hnn : r1 - tot I1 + tot S1 = r2 - tot I2 + tot S2
              · refine iteC (by rw [decide_eq_true (congrArg V.int hnn)]; rfl) ?_
                refine ⟨_, rfl, e1, dx1, _, rfl, yb _ _ he1, e1, I1, r1, S1, rfl, hE1s.up yb, fun b1 hb1 => ?_⟩
                refine ⟨_, rfl, e2', dx2, _, rfl, yb _ _ he2, e2', I2, r2, S2, rfl, hE2s.up yb, fun b2 hb2 => ?_⟩
                refine ⟨dB S1, dB S2, dp_bag hb1, dp_bag hb2, (ok_dB _).shaped (by decide), (ok_dB _).shaped (by decide), _, rfl, ?_⟩
                rw [eqv_dB]
                by_cases hSS : S1 = S2
                · rw [decide_eq_true hSS]
                  exact iteF ⟨E5.trans yb, _, _, _, _, _, _, _, _, _, rfl⟩
                · rw [decide_eq_false hSS]
                  refine iteT ?_
                  refine ⟨_, rfl, hb, _, rfl, hBb, hB0.wf, hB0.len1000, fun Hc xc => ?_⟩
                  have yc := yb.trans xc
                  refine ⟨_, rfl, e1, dx1, _, rfl, yc _ _ he1, e1, I1, r1, S1, rfl, hE1s.up yc, w1, fun Hd xd => ?_⟩
                  have yd := yc.trans xd
                  refine ⟨_, rfl, e2', dx2, _, rfl, yd _ _ he2, e2', I2, r2, S2, rfl, hE2s.up yd, w2, fun He xe => ⟨_, _, rfl, rfl, _, rfl, ?_⟩⟩
                  have em : (if r2 - tot I2 + tot S2 < r1 - tot I1 + tot S1 then r2 - tot I2 + tot S2 else r1 - tot I1 + tot S1) = min (r1 - tot I1 + tot S1) (r2 - tot I2 + tot S2) := by split <;> omega
                  have hsm := hsz.ne (.inr hSS)
                  refine iteC ?_ ⟨E5.trans (yd.trans xe), _, _, _, _, _, _, _, _, _, rfl⟩
                  rw [heapB_tot p0, em, ← hsm, decide_eq_true rfl]
                  rfl
              · refine iteB (by rw [decide_eq_false fun w => hnn (V.int.inj w)]; rfl) ?_
                refine iteT ?_
                refine ⟨_, rfl, hb, _, rfl, hBb, hB0.wf, hB0.len1000, fun Hc xc => ?_⟩
                have yc := yb.trans xc
                refine ⟨_, rfl, e1, dx1, _, rfl, yc _ _ he1, e1, I1, r1, S1, rfl, hE1s.up yc, w1, fun Hd xd => ?_⟩
                have yd := yc.trans xd
                refine ⟨_, rfl, e2', dx2, _, rfl, yd _ _ he2, e2', I2, r2, S2, rfl, hE2s.up yd, w2, fun He xe => ⟨_, _, rfl, rfl, _, rfl, ?_⟩⟩
                have em : (if r2 - tot I2 + tot S2 < r1 - tot I1 + tot S1 then r2 - tot I2 + tot S2 else r1 - tot I1 + tot S1) = min (r1 - tot I1 + tot S1) (r2 - tot I2 + tot S2) := by split <;> omega
                have hsm := hsz.ne (.inl hnn)
                refine iteC ?_ ⟨E5.trans (yd.trans xe), _, _, _, _, _, _, _, _, _, rfl⟩
                rw [heapB_tot p0, em, ← hsm, decide_eq_true rfl]
                rfl
    · rintro σ H1 ⟨ex1, _⟩
      exact k H1
end
end HX

set_option Elab.async false
set_option linter.all false
set_option maxRecDepth 100000
set_option maxHeartbeats 4000000
namespace HX
open PySem PySem.Spec PyProof.Rows L2 Evl
open PySem.W (Frag)
open He (ba eqO eqO_ok)
/-! ### what the top leaves behind, as one Bool -/
def eC (K : Frag) : Addr := He.ga K "Effect"
def eH (K : Frag) : Addr := He.ga K "EmptyHeap"
def fI (K : Frag) : Addr := He.ma K (eH K) "__init__"
def ehCell (K : Frag) : Addr := match K.lookup (fI K) with
  | some ⟨_, _, .func fd, _⟩ => (match fd.closure with
    | [(_, cc)] => cc
    | _ => 0)
  | _ => 0
def ehCode (K : Frag) : Addr := match K.lookup (fI K) with
  | some ⟨_, _, .func fd, _⟩ => (match fd.code with
    | .ref c => c
    | _ => 0)
  | _ => 0
abbrev EhW : Type := Option (Str × Str × Arguments × FuncBody × Scope × Addr × Addr)
def ehW (K : Frag) : EhW := match K.lookup (fI K) with
  | some ⟨_, _, .func fd, _⟩ => some (fd.name, fd.qualname, fd.params, fd.body, fd.scope, fd.globals, fd.builtins)
  | _ => none
def ehV : EhW := some ("__init__", "EmptyHeap.__init__", defArgs sEh, .stmts (defBody sEh), defScope sEh, mainGlobals, builtinsNs)
def clsEhB (K : Frag) : Bool := match K.lookup (eH K) with
  | some ⟨cl, _, .cls cd, sl⟩ => decide (cl = .type "type") && (decide (cd.mro = .ref (eH K) :: lkTail) && (cd.hasDict && (!cd.hasDel && (decide (sl.toList.length = 6) && decide (sl.toList[4]? = some (some (Value.builtin "LookupError.__new__")))))))
  | _ => false
theorem six {α : Type} {l : List α} {x : α} (h : l.length = 6) (h4 : l[4]? = some x) : ∃ a b c d f, l = [a, b, c, d, x, f] := by
  match l, h, h4 with
  | [a, b, c, d, y, f], _, e => exact ⟨a, b, c, d, f, by rw [Option.some.inj e]⟩
theorem clsEh_ok {K : Frag} (h : clsEhB K = true) : ∃ nm q N bs sn sub ab col dd k0 k1 k2 k3 k5, K.lookup (eH K) = some (excClassObj nm q (eH K) N bs lkTail true sn sub ab col dd k0 k1 k2 k3 k5 "LookupError.__new__") := by
  unfold clsEhB at h
  cases e : K.lookup (eH K) with
  | none =>
    rw [e] at h
    cases h
  | some o =>
    rw [e] at h
    obtain ⟨cl, dd, dt, sl⟩ := o
    cases dt with
    | cls cd =>
      obtain ⟨h1, h⟩ := ba (show (decide (cl = .type "type") && (decide (cd.mro = .ref (eH K) :: lkTail) && (cd.hasDict && (!cd.hasDel && (decide (sl.toList.length = 6) && decide (sl.toList[4]? = some (some (Value.builtin "LookupError.__new__")))))))) = true from h)
      obtain ⟨h2, h⟩ := ba h
      obtain ⟨h3, h⟩ := ba h
      obtain ⟨h4, h⟩ := ba h
      obtain ⟨h5, h6⟩ := ba h
      obtain ⟨a, b, c, d, f, hs⟩ := six (of_decide_eq_true h5) (of_decide_eq_true h6)
      have e1 : cl = .type "type" := of_decide_eq_true h1
      obtain ⟨n1, n2, n3, n4, n5, n6, n7, n8, n9, n10, n11⟩ := cd
      have e2 : n3 = .ref (eH K) :: lkTail := of_decide_eq_true h2
      have e3 : n6 = true := h3
      have e4 : n11 = false := by
        cases n11 with
        | false => rfl
        | true => cases h4
      have e5 : sl = #[a, b, c, d, some (Value.builtin "LookupError.__new__"), f] := by
        cases sl with
        | mk l =>
          have : l = [a, b, c, d, some (Value.builtin "LookupError.__new__"), f] := hs
          rw [this]
      subst e1 e2 e3 e4 e5
      exact ⟨n1, n5, n4, n2, n7, n8, n9, n10, dd, a, b, c, d, f, rfl⟩
    | _ => cases h
def fnEhB (K : Frag) : Bool := match K.lookup (fI K) with
  | some ⟨_, _, .func fd, _⟩ => decide (fd.closure = [(("__class__" : Str), ehCell K)]) && (decide (fd.code = .ref (ehCode K)) && (decide (fd.defaults = .none) && PySem.W.codeIn K (.ref (ehCode K)) "EmptyHeap.__init__"))
  | _ => false
theorem fnEh_ok {K : Frag} (h : fnEhB K = true) (hw : ehW K = ehV) : ∃ (oc : Value) (od : Option Addr) (kV doc pm : Value) (an : Option Addr) (ct : Value) (osl : Array (Option Value)), K.lookup (fI K) = some ⟨oc, od, .func (ehFn kV doc pm an (.ref (ehCode K)) ct (ehCell K)), osl⟩ ∧ PySem.W.codeIn K (.ref (ehCode K)) "EmptyHeap.__init__" = true := by
  unfold fnEhB at h
  unfold ehW at hw
  cases e : K.lookup (fI K) with
  | none =>
    rw [e] at h
    cases h
  | some o =>
    rw [e] at h hw
    obtain ⟨cl, dd, dt, sl⟩ := o
    cases dt with
    | func fd =>
      obtain ⟨h1, h⟩ := ba (show (decide (fd.closure = [(("__class__" : Str), ehCell K)]) && (decide (fd.code = .ref (ehCode K)) && (decide (fd.defaults = .none) && PySem.W.codeIn K (.ref (ehCode K)) "EmptyHeap.__init__"))) = true from h)
      obtain ⟨h2, h⟩ := ba h
      obtain ⟨h3, h4⟩ := ba h
      obtain ⟨n1, n2, n3, n4, n5, n6, n7, n8, n9, n10, n11, n12, n13, n14, n15⟩ := fd
      have e2 : (some (n1, n2, n3, n4, n5, n6, n15) : EhW) = (some ("__init__", "EmptyHeap.__init__", defArgs sEh, .stmts (defBody sEh), defScope sEh, mainGlobals, builtinsNs) : EhW) := hw
      simp only [Option.some.injEq, Prod.mk.injEq] at e2
      obtain ⟨g1, g2, g3, g4, g5, g6, g7⟩ := e2
      have f1 : n7 = [(("__class__" : Str), ehCell K)] := of_decide_eq_true h1
      have f2 : n13 = .ref (ehCode K) := of_decide_eq_true h2
      have f3 : n8 = .none := of_decide_eq_true h3
      subst g1 g2 g3 g4 g5 g6 g7 f1 f2 f3
      exact ⟨cl, dd, n9, n10, n11, n12, n14, sl, rfl, h4⟩
    | _ => cases h
def codeEhB (K : Frag) : Bool := match K.lookup (ehCode K) with
  | some ⟨_, _, .fields vs, _⟩ => (match (vs[2]? : Option Value) with
    | some (.str file _) => ((PySem.Challenge.pw_heapeffects_k28_whole_separating_heaps.main.file : Str) == file)
    | _ => false)
  | _ => false
theorem codeEh_ok {K : Frag} (h : codeEhB K = true) : ∃ ccl cdd vs ccs file tf, K.lookup (ehCode K) = some ⟨ccl, cdd, .fields vs, ccs⟩ ∧ vs[2]? = some (.str file tf) ∧ ((PySem.Challenge.pw_heapeffects_k28_whole_separating_heaps.main.file : Str) == file) = true := by
  unfold codeEhB at h
  cases e : K.lookup (ehCode K) with
  | none =>
    rw [e] at h
    cases h
  | some o =>
    rw [e] at h
    obtain ⟨cl, dd, dt, sl⟩ := o
    cases dt with
    | fields vs =>
      have h2 : (match (vs[2]? : Option Value) with
        | some (.str file _) => ((PySem.Challenge.pw_heapeffects_k28_whole_separating_heaps.main.file : Str) == file)
        | _ => false) = true := h
      cases e2 : vs[2]? with
      | none =>
        rw [e2] at h2
        cases h2
      | some v =>
        rw [e2] at h2
        cases v with
        | str file tf => exact ⟨cl, dd, vs, sl, file, tf, rfl, e2, h2⟩
        | _ => cases h2
    | _ => cases h
def cellEhB (K : Frag) : Bool := match K.lookup (ehCell K) with
  | some ⟨_, _, .cell (some (.ref C)), _⟩ => decide (C = eH K)
  | _ => false
theorem cellEh_ok {K : Frag} (h : cellEhB K = true) : ∃ cl cld csl, K.lookup (ehCell K) = some ⟨cl, cld, .cell (some (.ref (eH K))), csl⟩ := by
  unfold cellEhB at h
  cases e : K.lookup (ehCell K) with
  | none =>
    rw [e] at h
    cases h
  | some o =>
    rw [e] at h
    obtain ⟨cl, dd, dt, sl⟩ := o
    cases dt with
    | cell v =>
      cases v with
      | none => cases h
      | some v =>
        cases v with
        | ref C =>
          have e2 : C = eH K := of_decide_eq_true h
          subst e2
          exact ⟨cl, dd, sl, rfl⟩
        | _ => cases h
    | _ => cases h
def ehB (K : Frag) : Bool := clsEhB K && (fnEhB K && (codeEhB K && (cellEhB K && (eqO (PySem.W.findIn K (.ref (eH K)) "__setattr__") (some (some (.builtin "object.__setattr__"))) && (eqO (PySem.W.findIn K (.ref (eH K)) "index") (some none) && (eqO (PySem.W.findIn K (.ref (eH K)) "__init__") (some (some (.ref (fI K)))) &&
  (decide (PySem.W.typeIn K (.ref (fI K)) = some (.type "function")) && (PySem.W.keepIn K (.ref (eH K)) && (decide (PySem.W.subIn K (.ref (eH K)) (.type "BaseException") = some true) && (decide (PySem.W.subIn K (.ref (eH K)) (.type "LookupError") = some true) && (decide (PySem.W.typeIn K (.ref (eH K)) = some (.type "type")) &&
  (decide (PySem.W.exmOne K (.ref (eH K)) (.ref (eH K)) = some true) && eqO (PySem.W.nsIn K cStatics "thirdparty.any") (some none)))))))))))))
theorem eh_ok {K : Frag} {mg : Str → Option Value} (gC : mg "EmptyHeap" = some (.ref (eH K))) (gS : mg "super" = none) (h : ehB K = true) (hw : ehW K = ehV) : EhT K mg (eH K) (fI K) (ehCell K) (ehCode K) := by
  obtain ⟨h1, h⟩ := ba h
  obtain ⟨h2, h⟩ := ba h
  obtain ⟨h3, h⟩ := ba h
  obtain ⟨h4, h⟩ := ba h
  obtain ⟨h5, h⟩ := ba h
  obtain ⟨h6, h⟩ := ba h
  obtain ⟨h7, h⟩ := ba h
  obtain ⟨h8, h⟩ := ba h
  obtain ⟨h9, h⟩ := ba h
  obtain ⟨h10, h⟩ := ba h
  obtain ⟨h11, h⟩ := ba h
  obtain ⟨h12, h⟩ := ba h
  obtain ⟨h13, h14⟩ := ba h
  exact ⟨gC, gS, clsEh_ok h1, eqO_ok h5, eqO_ok h6, eqO_ok h7, of_decide_eq_true h8, h9, of_decide_eq_true h10, of_decide_eq_true h11, of_decide_eq_true h12, of_decide_eq_true h13, fnEh_ok h2 hw, codeEh_ok h3, cellEh_ok h4, eqO_ok h14⟩
/-! ### IDENTITY -/
def empB (K : Frag) (a : Addr) : Bool := match K.lookup a with
  | some ⟨cl, none, .seq its _, _⟩ => decide (cl = .type "tuple") && decide (its.toList.length = 0)
  | _ => false
theorem emp_ok {K : Frag} {a : Addr} (h : empB K a = true) (H : Hp) : IsBag K H a [] := by
  unfold empB at h
  cases e : K.lookup a with
  | none =>
    rw [e] at h
    cases h
  | some o =>
    rw [e] at h
    obtain ⟨cl, dd, dt, sl⟩ := o
    cases dd with
    | some _ => cases dt <;> cases h
    | none =>
      cases dt with
      | seq its n =>
        obtain ⟨h1, h2⟩ := ba (show (decide (cl = .type "tuple") && decide (its.toList.length = 0)) = true from h)
        have e1 : cl = .type "tuple" := of_decide_eq_true h1
        have e2 : its.toList = [] := List.eq_nil_of_length_eq_zero (of_decide_eq_true h2)
        refine ⟨[], .inr ⟨_, its, n, e, ⟨e1, rfl⟩, rfl, ?_, ?_⟩, .nil⟩
        · have : its.size = its.toList.length := (Array.length_toList ..).symm
          rw [this, e2]
          exact Nat.zero_le _
        · rw [e2]
          exact .nil
      | _ => cases h
def idnB (K : Frag) : Bool := match K.lookup (He.ga K "IDENTITY") with
  | some ⟨cl, _, .seq its _, _⟩ => decide (cl = .type "tuple") && (match its.toList with
    | [.ref i, .int z _, .ref s] => decide (z = 0) && (empB K i && empB K s)
    | _ => false)
  | _ => false
theorem idn_ok {K : Frag} {mg : Str → Option Value} (gl : mg "IDENTITY" = some (.ref (He.ga K "IDENTITY"))) (h : idnB K = true) : Idn K mg (He.ga K "IDENTITY") := by
  refine ⟨gl, fun H => ?_⟩
  unfold idnB at h
  cases e : K.lookup (He.ga K "IDENTITY") with
  | none =>
    rw [e] at h
    cases h
  | some o =>
    rw [e] at h
    obtain ⟨cl, dd, dt, sl⟩ := o
    cases dt with
    | seq its n =>
      obtain ⟨h1, h2⟩ := ba (show (decide (cl = .type "tuple") && (match its.toList with
        | [.ref i, .int z _, .ref s] => decide (z = 0) && (empB K i && empB K s)
        | _ => false)) = true from h)
      have e1 : cl = .type "tuple" := of_decide_eq_true h1
      clear h
      generalize hl : its.toList = l at h2
      match l, h2 with
      | [.ref i, .int z t, .ref s], h2 =>
        obtain ⟨h3, h4⟩ := ba h2
        obtain ⟨h5, h6⟩ := ba h4
        have ez : z = 0 := of_decide_eq_true h3
        subst ez
        refine ⟨i, s, .inr ⟨_, its, n, e, e1, rfl, ?_, ?_⟩, emp_ok h5 H, emp_ok h6 H⟩
        · have : its.size = its.toList.length := (Array.length_toList ..).symm
          rw [this, hl]
          show 3 ≤ sizeLine
          decide
        · rw [hl]
          exact .cons rfl (.cons ⟨t, rfl⟩ (.cons rfl .nil))
    | _ => cases h
/-! ### the class Effect -/
def propB (K : Frag) (C : Addr) (f : Str) : Bool := eqO (PySem.W.findIn K (.ref C) f) (some (some (.ref (He.ma K C f)))) && (eqO (PySem.W.specialIn K (.ref (He.ma K C f)) "__get__") (some (some (.builtin "property.__get__"))) && (decide (PySem.W.takesIn K (.ref (He.ma K C f)) = some true) && (match PySem.W.recIn K (He.ma K C f) "property" with
  | some (.ref _ :: _) => true
  | _ => false)))
theorem prop_ok {K : Frag} {C : Addr} {f : Str} (h : propB K C f = true) : PropOf K C f (He.ma K C f) (He5.wf K C "property" f) := by
  obtain ⟨h1, h⟩ := ba h
  obtain ⟨h2, h⟩ := ba h
  obtain ⟨h3, h4⟩ := ba h
  refine ⟨eqO_ok h1, eqO_ok h2, of_decide_eq_true h3, ?_⟩
  unfold He5.wf
  split at h4
  · rename_i f r e
    exact ⟨r, by rw [e]⟩
  · cases h4
def insB (K : Frag) (C : Addr) : Bool := eqO (PySem.W.findIn K (.ref C) "__class__") (some (some (.builtin "object.__class__"))) && (eqO (PySem.W.specialIn K (.builtin "object.__class__") "__get__") (some (some (.builtin "getset_descriptor.__get__"))) && (decide (PySem.W.takesIn K (.builtin "object.__class__") = some true) && (decide (PySem.W.mroIn K C (.type "object") = some true) && decide (PySem.W.kitOne K (.ref C) (.ref C) = some true))))
theorem ins_ok {K : Frag} {C : Addr} (c : Cls K C) (h : insB K C = true) : C8.InsC K C := by
  obtain ⟨h1, h⟩ := ba h
  obtain ⟨h2, h⟩ := ba h
  obtain ⟨h3, h⟩ := ba h
  obtain ⟨h4, h5⟩ := ba h
  exact ⟨c, eqO_ok h1, eqO_ok h2, of_decide_eq_true h3, of_decide_eq_true h4, of_decide_eq_true h5⟩
def ccmB (K : Frag) (C : Addr) : Bool := PySem.W.readsIn K C (.type "type") && (eqO (PySem.W.specialIn K (.ref C) "__getattribute__") (some (some (.builtin "type.__getattribute__"))) && (He5.wrapB K C "classmethod" "classmethod.__get__" "of" && PySem.W.fnIn K (He5.wf K C "classmethod" "of")))
def exB (K : Frag) : Bool := ehB K && (idnB K && (insB K (eC K) && (ccmB K (eC K) && (propB K (eC K) "inserted" && (propB K (eC K) "removals" && (propB K (eC K) "survivors" && (propB K (eC K) "consumed" && propB K (eC K) "needed")))))))
/-! ### the hook -/
abbrev AlH : Type := He.AlD × Bool × EhW
def obsH (n : Nat) (fa : List He.Fa) (fn : List He5.DefA) (g : Addr → Option Obj) : AlH :=
  let K := He.frG g (He5.asA g n)
  (He5.obsA fa fn K, exB K, ehW K)
def SaysH (fa : List He.Fa) (fn : List He5.DefA) (K : Frag) : Prop := He5.SaysA fa fn K ∧ exB K = true ∧ ehW K = ehV
def hookH (n : Nat) (fa : List He.Fa) (fn : List He5.DefA) : PySem.W.Hook where
  α := AlH
  obs := fun s => obsH n fa fn s.heap.get?
  val := fun _ => (He5.valA fn, true, ehV)
  says := fun _ h => ∃ K : Frag, K.In h ∧ SaysH fa fn K
  of := fun _ s e => ⟨_, He.frG_in, congrArg (fun z : AlH => z.1) e, congrArg (fun z : AlH => z.2.1) e, congrArg (fun z : AlH => z.2.2) e⟩
  keeps := fun _ _ _ ⟨K, hK, c⟩ k => ⟨K, PySem.W.Frag.In.keeps hK k, c⟩
theorem obsH_eq {n : Nat} {fa : List He.Fa} {fn : List He5.DefA} {g : Addr → Option Obj} {s : Shared} (h : ∀ a, g a = s.heap.get? a) : obsH n fa fn g = (hookH n fa fn).obs s := by
  have e : g = s.heap.get? := funext h
  rw [e] <;> rfl
end HX

set_option Elab.async false
set_option linter.all false
set_option maxRecDepth 100000
set_option maxHeartbeats 0
namespace HX
open PySem PySem.Spec PyProof.Rows L2
abbrev RW : PySem.W.OpenLaw := PySem.Challenge.rw_heapeffects_k28_whole_separating_heaps
abbrev R : PySem.W.OpenRow := PySem.W.OpenLaw.row RW
def names : List Str := (["_wall", "__name__", "HeapError", "InvalidCount", "InvalidBag", "InvalidProgram", "InvalidEffect", "EmptyHeap", "is_integer", "is_count", "is_bag", "check_count", "check_bag", "from_counts", "add", "subtract", "total", "scale", "drop", "size_of", "union", "difference", "MAX_DEPTH", "is_step", "find_invalid", "check_program", "IDENTITY", "join_parts", "repeat_parts", "step_parts"] : List Str) ++ (["program_parts", "find_fault", "Effect", "check_effects", "lowest", "first_difference", "separating_heap", "_law_pool", "_law_draw", "_law_random_steps", "_law_run", "_law_bag", "_law_list", "_law_great_effect", "_law_heaps", "_law_shuffled", "_law_applied", "_law_small_holds", "_law_exchanged"] : List Str)
def dG (x : Str) (st : Stmt) : He5.DefA := ⟨fun K => He.ga K x, x, x, defArgs st, defBody st, defScope st, [], []⟩
def dM (a : PySem.W.Frag → Addr) (x qn : Str) (st : Stmt) : He5.DefA := ⟨a, x, qn, defArgs st, defBody st, defScope st, [], []⟩
def fn : List He5.DefA := [dG "is_integer" (top 9),
  dG "is_count" (top 10),
  dG "is_bag" (top 11),
  dG "check_count" (top 12),
  dG "check_bag" (top 13),
  dG "from_counts" (top 14),
  dG "add" (top 15),
  dG "subtract" (top 16),
  dG "total" (top 17),
  dG "scale" (top 18),
  dG "drop" (top 19),
  dG "size_of" (top 20),
  dG "union" (top 21),
  dG "difference" (top 22),
  dG "is_step" (top 25),
  dG "find_invalid" (top 26),
  dG "check_program" (top 27),
  dG "join_parts" (top 30),
  dG "step_parts" (top 32),
  dG "program_parts" (top 33),
  dG "find_fault" (top 34),
  dG "check_effects" (top 36),
  dG "lowest" (top 38),
  dG "first_difference" (top 39),
  dG "separating_heap" (top 40),
  dG "_law_pool" (top 42),
  dG "_law_draw" (top 43),
  dG "_law_random_steps" (top 44),
  dG "_law_run" (top 45),
  dG "_law_list" (top 47),
  dG "_law_great_effect" (top 48),
  dG "_law_heaps" (top 49),
  dG "_law_shuffled" (top 50),
  dG "_law_applied" (top 51),
  dG "_law_small_holds" (top 52),
  dG "_law_exchanged" (top 53),
  dG "law" (top 54),
  dM (fun K => He.ma K (eC K) "__init__") "__init__" "Effect.__init__" (inClass (top 35) 1),
  dM (fun K => He5.wf K (eC K) "classmethod" "of") "of" "Effect.of" (inClass (top 35) 3),
  dM (fun K => He5.wf K (eC K) "property" "inserted") "inserted" "Effect.inserted" (inClass (top 35) 5),
  dM (fun K => He5.wf K (eC K) "property" "removals") "removals" "Effect.removals" (inClass (top 35) 6),
  dM (fun K => He5.wf K (eC K) "property" "survivors") "survivors" "Effect.survivors" (inClass (top 35) 7),
  dM (fun K => He5.wf K (eC K) "property" "consumed") "consumed" "Effect.consumed" (inClass (top 35) 8),
  dM (fun K => He5.wf K (eC K) "property" "needed") "needed" "Effect.needed" (inClass (top 35) 9),
  dM (fun K => He.ma K (eC K) "pool") "pool" "Effect.pool" (inClass (top 35) 10),
  dM (fun K => He.ma K (eC K) "apply") "apply" "Effect.apply" (inClass (top 35) 11),
  dM (fun K => He.ma K (eC K) "__eq__") "__eq__" "Effect.__eq__" (inClass (top 35) 15)]
def fa : List He.Fa := [.glo "is_integer", .glo "is_count", .glo "is_bag", .glo "check_count", .glo "check_bag", .glo "from_counts", .glo "add", .glo "subtract", .glo "total", .glo "scale", .glo "drop", .glo "size_of", .glo "union", .glo "difference", .glo "is_step", .glo "find_invalid", .glo "check_program", .glo "join_parts", .glo "step_parts", .glo "program_parts", .glo "find_fault", .glo "check_effects", .glo "lowest", .glo "first_difference", .glo "separating_heap", .glo "_law_pool", .glo "_law_draw", .glo "_law_random_steps", .glo "_law_run", .glo "_law_list", .glo "_law_great_effect", .glo "_law_heaps", .glo "_law_shuffled", .glo "_law_applied", .glo "_law_small_holds", .glo "_law_exchanged", .glo "law", .glo "Effect", .glo "EmptyHeap", .glo "IDENTITY", .free "isinstance", .free "int", .free "bool", .free "tuple", .free "len", .free "sorted", .free "dict", .free "sum", .free "min", .free "max", .free "any", .free "abs", .free "list", .free "enumerate", .free "range", .free "super", .cls "Effect", .noat "Effect" "own_parts", .meth "Effect" "pool", .meth "Effect" "apply", .meth "Effect" "__eq__", .mkr "Effect"]
abbrev hk : PySem.W.Hook := hookH 5 fa fn
def ob (s : PySem.W.SharedT) : AlH := obsH 5 fa fn (HandSHeadRun.getT s)
theorem ob_eq (s : PySem.W.SharedT) : ob s = hk.obs s.abs := obsH_eq (HandSHeadRun.getT_eq s)
theorem run (w : World) : HandSHeadRun.RunEq R (PySem.W.view R.prog [54]) hk ob 6000 names w := by
  intro os
  kernel_rfl
end HX

set_option Elab.async false
set_option linter.all false
set_option maxRecDepth 100000
set_option maxHeartbeats 0
namespace HX
open PySem PySem.Spec PyProof.Rows L2
open He (ba)
/-- what stands behind the top, in the words of the walks -/
structure Txt (K : PySem.W.Frag) (mg : Str → Option Value) : Prop where
  T : Nms mg
  TE : EfC K mg (eC K)
  TH : EhT K mg (eH K) (fI K) (ehCell K) (ehCode K)
  TI : Idn K mg (He.ga K "IDENTITY")
  D_is_integer : Df K mg "is_integer" (top 9) ["value"]
  D_is_count : Df K mg "is_count" (top 10) ["value"]
  D_is_bag : Df K mg "is_bag" (top 11) ["value"]
  D_check_count : Df K mg "check_count" (top 12) ["value"]
  D_check_bag : Df K mg "check_bag" (top 13) ["value"]
  D_from_counts : Df K mg "from_counts" (top 14) ["counts"]
  D_add : Df K mg "add" (top 15) ["first", "second"]
  D_subtract : Df K mg "subtract" (top 16) ["bag", "other"]
  D_total : Df K mg "total" (top 17) ["bag"]
  D_scale : Df K mg "scale" (top 18) ["bag", "count"]
  D_drop : Df K mg "drop" (top 19) ["bag", "count"]
  D_size_of : Df K mg "size_of" (top 20) ["bag"]
  D_difference : Df K mg "difference" (top 22) ["bag", "other"]
  D_is_step : Df K mg "is_step" (top 25) ["step", "depth"]
  D_find_invalid : Df K mg "find_invalid" (top 26) ["program", "depth"]
  D_check_program : Df K mg "check_program" (top 27) ["program"]
  D_join_parts : Df K mg "join_parts" (top 30) ["first", "second"]
  D_step_parts : Df K mg "step_parts" (top 32) ["step"]
  D_program_parts : Df K mg "program_parts" (top 33) ["program"]
  D_find_fault : Df K mg "find_fault" (top 34) ["inserted", "removals", "survivors"]
  D_check_effects : Df K mg "check_effects" (top 36) ["values"]
  D_lowest : Df K mg "lowest" (top 38) ["bags"]
  D_first_difference : Df K mg "first_difference" (top 39) ["first", "second"]
  D_separating_heap : Df K mg "separating_heap" (top 40) ["first", "second"]
  D_law_pool : Df K mg "_law_pool" (top 42) ["_law_script", "_law_k"]
  D_law_draw : Df K mg "_law_draw" (top 43) ["_law_pool_here", "_law_many"]
  D_law_random_steps : Df K mg "_law_random_steps" (top 44) ["_law_pool_here", "_law_many", "_law_most"]
  D_law_run : Df K mg "_law_run" (top 45) ["_law_numbers", "_law_steps"]
  D_law_list : Df K mg "_law_list" (top 47) ["_law_entries"]
  D_law_great_effect : Df K mg "_law_great_effect" (top 48) ["_law_pool_here"]
  D_law_heaps : Df K mg "_law_heaps" (top 49) ["_law_size"]
  D_law_shuffled : Df K mg "_law_shuffled" (top 50) ["_law_pool_here", "_law_steps"]
  D_law_applied : Df K mg "_law_applied" (top 51) ["_law_effect", "_law_entries"]
  D_law_small_holds : Df K mg "_law_small_holds" (top 52) ["_law_one", "_law_two"]
  D_law_exchanged : Df K mg "_law_exchanged" (top 53) ["_law_pool_here", "_law_effect"]
  D_union : DfS K mg "union" "bags" (top 21)
  DI : DfI K (eC K) "Effect.__init__" (inClass (top 35) 1) ["self", "inserted", "removals", "survivors"]
  DC : DfC K (eC K) (.type "type") "of" "Effect.of" (inClass (top 35) 3) ["cls", "program"]
  P_inserted : DfP K (eC K) "inserted" "Effect.inserted" (inClass (top 35) 5)
  P_removals : DfP K (eC K) "removals" "Effect.removals" (inClass (top 35) 6)
  P_survivors : DfP K (eC K) "survivors" "Effect.survivors" (inClass (top 35) 7)
  P_consumed : DfP K (eC K) "consumed" "Effect.consumed" (inClass (top 35) 8)
  P_needed : DfP K (eC K) "needed" "Effect.needed" (inClass (top 35) 9)
  M_pool : DfM K (eC K) "pool" "Effect.pool" (inClass (top 35) 10) ["self", "bag"]
  M_apply : DfM K (eC K) "apply" "Effect.apply" (inClass (top 35) 11) ["self", "bag"]
  M_eq : DfM K (eC K) "__eq__" "Effect.__eq__" (inClass (top 35) 15) ["self", "other"]
section
variable {K : PySem.W.Frag} {h : Heap} {mg : Str → Option Value}
theorem nms (X : K.In h) (G : h.Ns mainGlobals mg) (c : SaysH fa fn K) : Nms mg := ⟨(He.free_ok X G (c.1.fact 40 (f := .free "isinstance") rfl)), (He.free_ok X G (c.1.fact 41 (f := .free "int") rfl)), (He.free_ok X G (c.1.fact 42 (f := .free "bool") rfl)), (He.free_ok X G (c.1.fact 43 (f := .free "tuple") rfl)), (He.free_ok X G (c.1.fact 44 (f := .free "len") rfl)), (He.free_ok X G (c.1.fact 45 (f := .free "sorted") rfl)), (He.free_ok X G (c.1.fact 46 (f := .free "dict") rfl)), (He.free_ok X G (c.1.fact 47 (f := .free "sum") rfl)), (He.free_ok X G (c.1.fact 48 (f := .free "min") rfl)), (He.free_ok X G (c.1.fact 49 (f := .free "max") rfl)), (He.free_ok X G (c.1.fact 50 (f := .free "any") rfl)), (He.free_ok X G (c.1.fact 51 (f := .free "abs") rfl)), (He.free_ok X G (c.1.fact 52 (f := .free "list") rfl)), (He.free_ok X G (c.1.fact 53 (f := .free "enumerate") rfl)), (He.free_ok X G (c.1.fact 54 (f := .free "range") rfl))⟩
theorem efc (X : K.In h) (G : h.Ns mainGlobals mg) (c : SaysH fa fn K) (hx : insB K (eC K) = true) : EfC K mg (eC K) := ⟨He.cls_ok (c.1.fact 56 (f := .cls "Effect") rfl), He.noat_ok (c.1.fact 57 (f := .noat "Effect" "own_parts") rfl), (He.glo_ok X G (c.1.fact 37 (f := .glo "Effect") rfl)), ins_ok (He.cls_ok (c.1.fact 56 (f := .cls "Effect") rfl)) hx⟩
theorem df_is_integer (X : K.In h) (G : h.Ns mainGlobals mg) (c : SaysH fa fn K) : Df K mg "is_integer" (top 9) ["value"] := by
  obtain ⟨fd, F0⟩ := c.1.def_ 0 (d := dG "is_integer" (top 9)) rfl
  have F : Fun K "is_integer" "is_integer" (top 9) (He.ga K "is_integer") fd := He5.fun_of (st := top 9) F0
  exact ⟨_, fd, F, (He.glo_ok X G (c.1.fact 0 (f := .glo "is_integer") rfl)), F.kp, (F.binds (ps := ["value"]) fun _ _ _ _ _ _ us hl => match us, hl with | [_], _ => rfl)⟩
theorem df_is_count (X : K.In h) (G : h.Ns mainGlobals mg) (c : SaysH fa fn K) : Df K mg "is_count" (top 10) ["value"] := by
  obtain ⟨fd, F0⟩ := c.1.def_ 1 (d := dG "is_count" (top 10)) rfl
  have F : Fun K "is_count" "is_count" (top 10) (He.ga K "is_count") fd := He5.fun_of (st := top 10) F0
  exact ⟨_, fd, F, (He.glo_ok X G (c.1.fact 1 (f := .glo "is_count") rfl)), F.kp, (F.binds (ps := ["value"]) fun _ _ _ _ _ _ us hl => match us, hl with | [_], _ => rfl)⟩
theorem df_is_bag (X : K.In h) (G : h.Ns mainGlobals mg) (c : SaysH fa fn K) : Df K mg "is_bag" (top 11) ["value"] := by
  obtain ⟨fd, F0⟩ := c.1.def_ 2 (d := dG "is_bag" (top 11)) rfl
  have F : Fun K "is_bag" "is_bag" (top 11) (He.ga K "is_bag") fd := He5.fun_of (st := top 11) F0
  exact ⟨_, fd, F, (He.glo_ok X G (c.1.fact 2 (f := .glo "is_bag") rfl)), F.kp, (F.binds (ps := ["value"]) fun _ _ _ _ _ _ us hl => match us, hl with | [_], _ => rfl)⟩
theorem df_check_count (X : K.In h) (G : h.Ns mainGlobals mg) (c : SaysH fa fn K) : Df K mg "check_count" (top 12) ["value"] := by
  obtain ⟨fd, F0⟩ := c.1.def_ 3 (d := dG "check_count" (top 12)) rfl
  have F : Fun K "check_count" "check_count" (top 12) (He.ga K "check_count") fd := He5.fun_of (st := top 12) F0
  exact ⟨_, fd, F, (He.glo_ok X G (c.1.fact 3 (f := .glo "check_count") rfl)), F.kp, (F.binds (ps := ["value"]) fun _ _ _ _ _ _ us hl => match us, hl with | [_], _ => rfl)⟩
theorem df_check_bag (X : K.In h) (G : h.Ns mainGlobals mg) (c : SaysH fa fn K) : Df K mg "check_bag" (top 13) ["value"] := by
  obtain ⟨fd, F0⟩ := c.1.def_ 4 (d := dG "check_bag" (top 13)) rfl
  have F : Fun K "check_bag" "check_bag" (top 13) (He.ga K "check_bag") fd := He5.fun_of (st := top 13) F0
  exact ⟨_, fd, F, (He.glo_ok X G (c.1.fact 4 (f := .glo "check_bag") rfl)), F.kp, (F.binds (ps := ["value"]) fun _ _ _ _ _ _ us hl => match us, hl with | [_], _ => rfl)⟩
theorem df_from_counts (X : K.In h) (G : h.Ns mainGlobals mg) (c : SaysH fa fn K) : Df K mg "from_counts" (top 14) ["counts"] := by
  obtain ⟨fd, F0⟩ := c.1.def_ 5 (d := dG "from_counts" (top 14)) rfl
  have F : Fun K "from_counts" "from_counts" (top 14) (He.ga K "from_counts") fd := He5.fun_of (st := top 14) F0
  exact ⟨_, fd, F, (He.glo_ok X G (c.1.fact 5 (f := .glo "from_counts") rfl)), F.kp, (F.binds (ps := ["counts"]) fun _ _ _ _ _ _ us hl => match us, hl with | [_], _ => rfl)⟩
theorem df_add (X : K.In h) (G : h.Ns mainGlobals mg) (c : SaysH fa fn K) : Df K mg "add" (top 15) ["first", "second"] := by
  obtain ⟨fd, F0⟩ := c.1.def_ 6 (d := dG "add" (top 15)) rfl
  have F : Fun K "add" "add" (top 15) (He.ga K "add") fd := He5.fun_of (st := top 15) F0
  exact ⟨_, fd, F, (He.glo_ok X G (c.1.fact 6 (f := .glo "add") rfl)), F.kp, (F.binds (ps := ["first", "second"]) fun _ _ _ _ _ _ us hl => match us, hl with | [_, _], _ => rfl)⟩
theorem df_subtract (X : K.In h) (G : h.Ns mainGlobals mg) (c : SaysH fa fn K) : Df K mg "subtract" (top 16) ["bag", "other"] := by
  obtain ⟨fd, F0⟩ := c.1.def_ 7 (d := dG "subtract" (top 16)) rfl
  have F : Fun K "subtract" "subtract" (top 16) (He.ga K "subtract") fd := He5.fun_of (st := top 16) F0
  exact ⟨_, fd, F, (He.glo_ok X G (c.1.fact 7 (f := .glo "subtract") rfl)), F.kp, (F.binds (ps := ["bag", "other"]) fun _ _ _ _ _ _ us hl => match us, hl with | [_, _], _ => rfl)⟩
theorem df_total (X : K.In h) (G : h.Ns mainGlobals mg) (c : SaysH fa fn K) : Df K mg "total" (top 17) ["bag"] := by
  obtain ⟨fd, F0⟩ := c.1.def_ 8 (d := dG "total" (top 17)) rfl
  have F : Fun K "total" "total" (top 17) (He.ga K "total") fd := He5.fun_of (st := top 17) F0
  exact ⟨_, fd, F, (He.glo_ok X G (c.1.fact 8 (f := .glo "total") rfl)), F.kp, (F.binds (ps := ["bag"]) fun _ _ _ _ _ _ us hl => match us, hl with | [_], _ => rfl)⟩
theorem df_scale (X : K.In h) (G : h.Ns mainGlobals mg) (c : SaysH fa fn K) : Df K mg "scale" (top 18) ["bag", "count"] := by
  obtain ⟨fd, F0⟩ := c.1.def_ 9 (d := dG "scale" (top 18)) rfl
  have F : Fun K "scale" "scale" (top 18) (He.ga K "scale") fd := He5.fun_of (st := top 18) F0
  exact ⟨_, fd, F, (He.glo_ok X G (c.1.fact 9 (f := .glo "scale") rfl)), F.kp, (F.binds (ps := ["bag", "count"]) fun _ _ _ _ _ _ us hl => match us, hl with | [_, _], _ => rfl)⟩
theorem df_drop (X : K.In h) (G : h.Ns mainGlobals mg) (c : SaysH fa fn K) : Df K mg "drop" (top 19) ["bag", "count"] := by
  obtain ⟨fd, F0⟩ := c.1.def_ 10 (d := dG "drop" (top 19)) rfl
  have F : Fun K "drop" "drop" (top 19) (He.ga K "drop") fd := He5.fun_of (st := top 19) F0
  exact ⟨_, fd, F, (He.glo_ok X G (c.1.fact 10 (f := .glo "drop") rfl)), F.kp, (F.binds (ps := ["bag", "count"]) fun _ _ _ _ _ _ us hl => match us, hl with | [_, _], _ => rfl)⟩
theorem df_size_of (X : K.In h) (G : h.Ns mainGlobals mg) (c : SaysH fa fn K) : Df K mg "size_of" (top 20) ["bag"] := by
  obtain ⟨fd, F0⟩ := c.1.def_ 11 (d := dG "size_of" (top 20)) rfl
  have F : Fun K "size_of" "size_of" (top 20) (He.ga K "size_of") fd := He5.fun_of (st := top 20) F0
  exact ⟨_, fd, F, (He.glo_ok X G (c.1.fact 11 (f := .glo "size_of") rfl)), F.kp, (F.binds (ps := ["bag"]) fun _ _ _ _ _ _ us hl => match us, hl with | [_], _ => rfl)⟩
theorem df_difference (X : K.In h) (G : h.Ns mainGlobals mg) (c : SaysH fa fn K) : Df K mg "difference" (top 22) ["bag", "other"] := by
  obtain ⟨fd, F0⟩ := c.1.def_ 13 (d := dG "difference" (top 22)) rfl
  have F : Fun K "difference" "difference" (top 22) (He.ga K "difference") fd := He5.fun_of (st := top 22) F0
  exact ⟨_, fd, F, (He.glo_ok X G (c.1.fact 13 (f := .glo "difference") rfl)), F.kp, (F.binds (ps := ["bag", "other"]) fun _ _ _ _ _ _ us hl => match us, hl with | [_, _], _ => rfl)⟩
theorem df_is_step (X : K.In h) (G : h.Ns mainGlobals mg) (c : SaysH fa fn K) : Df K mg "is_step" (top 25) ["step", "depth"] := by
  obtain ⟨fd, F0⟩ := c.1.def_ 14 (d := dG "is_step" (top 25)) rfl
  have F : Fun K "is_step" "is_step" (top 25) (He.ga K "is_step") fd := He5.fun_of (st := top 25) F0
  exact ⟨_, fd, F, (He.glo_ok X G (c.1.fact 14 (f := .glo "is_step") rfl)), F.kp, (F.binds (ps := ["step", "depth"]) fun _ _ _ _ _ _ us hl => match us, hl with | [_, _], _ => rfl)⟩
theorem df_find_invalid (X : K.In h) (G : h.Ns mainGlobals mg) (c : SaysH fa fn K) : Df K mg "find_invalid" (top 26) ["program", "depth"] := by
  obtain ⟨fd, F0⟩ := c.1.def_ 15 (d := dG "find_invalid" (top 26)) rfl
  have F : Fun K "find_invalid" "find_invalid" (top 26) (He.ga K "find_invalid") fd := He5.fun_of (st := top 26) F0
  exact ⟨_, fd, F, (He.glo_ok X G (c.1.fact 15 (f := .glo "find_invalid") rfl)), F.kp, (F.binds (ps := ["program", "depth"]) fun _ _ _ _ _ _ us hl => match us, hl with | [_, _], _ => rfl)⟩
theorem df_check_program (X : K.In h) (G : h.Ns mainGlobals mg) (c : SaysH fa fn K) : Df K mg "check_program" (top 27) ["program"] := by
  obtain ⟨fd, F0⟩ := c.1.def_ 16 (d := dG "check_program" (top 27)) rfl
  have F : Fun K "check_program" "check_program" (top 27) (He.ga K "check_program") fd := He5.fun_of (st := top 27) F0
  exact ⟨_, fd, F, (He.glo_ok X G (c.1.fact 16 (f := .glo "check_program") rfl)), F.kp, (F.binds (ps := ["program"]) fun _ _ _ _ _ _ us hl => match us, hl with | [_], _ => rfl)⟩
theorem df_join_parts (X : K.In h) (G : h.Ns mainGlobals mg) (c : SaysH fa fn K) : Df K mg "join_parts" (top 30) ["first", "second"] := by
  obtain ⟨fd, F0⟩ := c.1.def_ 17 (d := dG "join_parts" (top 30)) rfl
  have F : Fun K "join_parts" "join_parts" (top 30) (He.ga K "join_parts") fd := He5.fun_of (st := top 30) F0
  exact ⟨_, fd, F, (He.glo_ok X G (c.1.fact 17 (f := .glo "join_parts") rfl)), F.kp, (F.binds (ps := ["first", "second"]) fun _ _ _ _ _ _ us hl => match us, hl with | [_, _], _ => rfl)⟩
theorem df_step_parts (X : K.In h) (G : h.Ns mainGlobals mg) (c : SaysH fa fn K) : Df K mg "step_parts" (top 32) ["step"] := by
  obtain ⟨fd, F0⟩ := c.1.def_ 18 (d := dG "step_parts" (top 32)) rfl
  have F : Fun K "step_parts" "step_parts" (top 32) (He.ga K "step_parts") fd := He5.fun_of (st := top 32) F0
  exact ⟨_, fd, F, (He.glo_ok X G (c.1.fact 18 (f := .glo "step_parts") rfl)), F.kp, (F.binds (ps := ["step"]) fun _ _ _ _ _ _ us hl => match us, hl with | [_], _ => rfl)⟩
theorem df_program_parts (X : K.In h) (G : h.Ns mainGlobals mg) (c : SaysH fa fn K) : Df K mg "program_parts" (top 33) ["program"] := by
  obtain ⟨fd, F0⟩ := c.1.def_ 19 (d := dG "program_parts" (top 33)) rfl
  have F : Fun K "program_parts" "program_parts" (top 33) (He.ga K "program_parts") fd := He5.fun_of (st := top 33) F0
  exact ⟨_, fd, F, (He.glo_ok X G (c.1.fact 19 (f := .glo "program_parts") rfl)), F.kp, (F.binds (ps := ["program"]) fun _ _ _ _ _ _ us hl => match us, hl with | [_], _ => rfl)⟩
theorem df_find_fault (X : K.In h) (G : h.Ns mainGlobals mg) (c : SaysH fa fn K) : Df K mg "find_fault" (top 34) ["inserted", "removals", "survivors"] := by
  obtain ⟨fd, F0⟩ := c.1.def_ 20 (d := dG "find_fault" (top 34)) rfl
  have F : Fun K "find_fault" "find_fault" (top 34) (He.ga K "find_fault") fd := He5.fun_of (st := top 34) F0
  exact ⟨_, fd, F, (He.glo_ok X G (c.1.fact 20 (f := .glo "find_fault") rfl)), F.kp, (F.binds (ps := ["inserted", "removals", "survivors"]) fun _ _ _ _ _ _ us hl => match us, hl with | [_, _, _], _ => rfl)⟩
theorem df_check_effects (X : K.In h) (G : h.Ns mainGlobals mg) (c : SaysH fa fn K) : Df K mg "check_effects" (top 36) ["values"] := by
  obtain ⟨fd, F0⟩ := c.1.def_ 21 (d := dG "check_effects" (top 36)) rfl
  have F : Fun K "check_effects" "check_effects" (top 36) (He.ga K "check_effects") fd := He5.fun_of (st := top 36) F0
  exact ⟨_, fd, F, (He.glo_ok X G (c.1.fact 21 (f := .glo "check_effects") rfl)), F.kp, (F.binds (ps := ["values"]) fun _ _ _ _ _ _ us hl => match us, hl with | [_], _ => rfl)⟩
theorem df_lowest (X : K.In h) (G : h.Ns mainGlobals mg) (c : SaysH fa fn K) : Df K mg "lowest" (top 38) ["bags"] := by
  obtain ⟨fd, F0⟩ := c.1.def_ 22 (d := dG "lowest" (top 38)) rfl
  have F : Fun K "lowest" "lowest" (top 38) (He.ga K "lowest") fd := He5.fun_of (st := top 38) F0
  exact ⟨_, fd, F, (He.glo_ok X G (c.1.fact 22 (f := .glo "lowest") rfl)), F.kp, (F.binds (ps := ["bags"]) fun _ _ _ _ _ _ us hl => match us, hl with | [_], _ => rfl)⟩
theorem df_first_difference (X : K.In h) (G : h.Ns mainGlobals mg) (c : SaysH fa fn K) : Df K mg "first_difference" (top 39) ["first", "second"] := by
  obtain ⟨fd, F0⟩ := c.1.def_ 23 (d := dG "first_difference" (top 39)) rfl
  have F : Fun K "first_difference" "first_difference" (top 39) (He.ga K "first_difference") fd := He5.fun_of (st := top 39) F0
  exact ⟨_, fd, F, (He.glo_ok X G (c.1.fact 23 (f := .glo "first_difference") rfl)), F.kp, (F.binds (ps := ["first", "second"]) fun _ _ _ _ _ _ us hl => match us, hl with | [_, _], _ => rfl)⟩
theorem df_separating_heap (X : K.In h) (G : h.Ns mainGlobals mg) (c : SaysH fa fn K) : Df K mg "separating_heap" (top 40) ["first", "second"] := by
  obtain ⟨fd, F0⟩ := c.1.def_ 24 (d := dG "separating_heap" (top 40)) rfl
  have F : Fun K "separating_heap" "separating_heap" (top 40) (He.ga K "separating_heap") fd := He5.fun_of (st := top 40) F0
  exact ⟨_, fd, F, (He.glo_ok X G (c.1.fact 24 (f := .glo "separating_heap") rfl)), F.kp, (F.binds (ps := ["first", "second"]) fun _ _ _ _ _ _ us hl => match us, hl with | [_, _], _ => rfl)⟩
theorem df_law_pool (X : K.In h) (G : h.Ns mainGlobals mg) (c : SaysH fa fn K) : Df K mg "_law_pool" (top 42) ["_law_script", "_law_k"] := by
  obtain ⟨fd, F0⟩ := c.1.def_ 25 (d := dG "_law_pool" (top 42)) rfl
  have F : Fun K "_law_pool" "_law_pool" (top 42) (He.ga K "_law_pool") fd := He5.fun_of (st := top 42) F0
  exact ⟨_, fd, F, (He.glo_ok X G (c.1.fact 25 (f := .glo "_law_pool") rfl)), F.kp, (F.binds (ps := ["_law_script", "_law_k"]) fun _ _ _ _ _ _ us hl => match us, hl with | [_, _], _ => rfl)⟩
theorem df_law_draw (X : K.In h) (G : h.Ns mainGlobals mg) (c : SaysH fa fn K) : Df K mg "_law_draw" (top 43) ["_law_pool_here", "_law_many"] := by
  obtain ⟨fd, F0⟩ := c.1.def_ 26 (d := dG "_law_draw" (top 43)) rfl
  have F : Fun K "_law_draw" "_law_draw" (top 43) (He.ga K "_law_draw") fd := He5.fun_of (st := top 43) F0
  exact ⟨_, fd, F, (He.glo_ok X G (c.1.fact 26 (f := .glo "_law_draw") rfl)), F.kp, (F.binds (ps := ["_law_pool_here", "_law_many"]) fun _ _ _ _ _ _ us hl => match us, hl with | [_, _], _ => rfl)⟩
theorem df_law_random_steps (X : K.In h) (G : h.Ns mainGlobals mg) (c : SaysH fa fn K) : Df K mg "_law_random_steps" (top 44) ["_law_pool_here", "_law_many", "_law_most"] := by
  obtain ⟨fd, F0⟩ := c.1.def_ 27 (d := dG "_law_random_steps" (top 44)) rfl
  have F : Fun K "_law_random_steps" "_law_random_steps" (top 44) (He.ga K "_law_random_steps") fd := He5.fun_of (st := top 44) F0
  exact ⟨_, fd, F, (He.glo_ok X G (c.1.fact 27 (f := .glo "_law_random_steps") rfl)), F.kp, (F.binds (ps := ["_law_pool_here", "_law_many", "_law_most"]) fun _ _ _ _ _ _ us hl => match us, hl with | [_, _, _], _ => rfl)⟩
theorem df_law_run (X : K.In h) (G : h.Ns mainGlobals mg) (c : SaysH fa fn K) : Df K mg "_law_run" (top 45) ["_law_numbers", "_law_steps"] := by
  obtain ⟨fd, F0⟩ := c.1.def_ 28 (d := dG "_law_run" (top 45)) rfl
  have F : Fun K "_law_run" "_law_run" (top 45) (He.ga K "_law_run") fd := He5.fun_of (st := top 45) F0
  exact ⟨_, fd, F, (He.glo_ok X G (c.1.fact 28 (f := .glo "_law_run") rfl)), F.kp, (F.binds (ps := ["_law_numbers", "_law_steps"]) fun _ _ _ _ _ _ us hl => match us, hl with | [_, _], _ => rfl)⟩
theorem df_law_list (X : K.In h) (G : h.Ns mainGlobals mg) (c : SaysH fa fn K) : Df K mg "_law_list" (top 47) ["_law_entries"] := by
  obtain ⟨fd, F0⟩ := c.1.def_ 29 (d := dG "_law_list" (top 47)) rfl
  have F : Fun K "_law_list" "_law_list" (top 47) (He.ga K "_law_list") fd := He5.fun_of (st := top 47) F0
  exact ⟨_, fd, F, (He.glo_ok X G (c.1.fact 29 (f := .glo "_law_list") rfl)), F.kp, (F.binds (ps := ["_law_entries"]) fun _ _ _ _ _ _ us hl => match us, hl with | [_], _ => rfl)⟩
theorem df_law_great_effect (X : K.In h) (G : h.Ns mainGlobals mg) (c : SaysH fa fn K) : Df K mg "_law_great_effect" (top 48) ["_law_pool_here"] := by
  obtain ⟨fd, F0⟩ := c.1.def_ 30 (d := dG "_law_great_effect" (top 48)) rfl
  have F : Fun K "_law_great_effect" "_law_great_effect" (top 48) (He.ga K "_law_great_effect") fd := He5.fun_of (st := top 48) F0
  exact ⟨_, fd, F, (He.glo_ok X G (c.1.fact 30 (f := .glo "_law_great_effect") rfl)), F.kp, (F.binds (ps := ["_law_pool_here"]) fun _ _ _ _ _ _ us hl => match us, hl with | [_], _ => rfl)⟩
theorem df_law_heaps (X : K.In h) (G : h.Ns mainGlobals mg) (c : SaysH fa fn K) : Df K mg "_law_heaps" (top 49) ["_law_size"] := by
  obtain ⟨fd, F0⟩ := c.1.def_ 31 (d := dG "_law_heaps" (top 49)) rfl
  have F : Fun K "_law_heaps" "_law_heaps" (top 49) (He.ga K "_law_heaps") fd := He5.fun_of (st := top 49) F0
  exact ⟨_, fd, F, (He.glo_ok X G (c.1.fact 31 (f := .glo "_law_heaps") rfl)), F.kp, (F.binds (ps := ["_law_size"]) fun _ _ _ _ _ _ us hl => match us, hl with | [_], _ => rfl)⟩
theorem df_law_shuffled (X : K.In h) (G : h.Ns mainGlobals mg) (c : SaysH fa fn K) : Df K mg "_law_shuffled" (top 50) ["_law_pool_here", "_law_steps"] := by
  obtain ⟨fd, F0⟩ := c.1.def_ 32 (d := dG "_law_shuffled" (top 50)) rfl
  have F : Fun K "_law_shuffled" "_law_shuffled" (top 50) (He.ga K "_law_shuffled") fd := He5.fun_of (st := top 50) F0
  exact ⟨_, fd, F, (He.glo_ok X G (c.1.fact 32 (f := .glo "_law_shuffled") rfl)), F.kp, (F.binds (ps := ["_law_pool_here", "_law_steps"]) fun _ _ _ _ _ _ us hl => match us, hl with | [_, _], _ => rfl)⟩
theorem df_law_applied (X : K.In h) (G : h.Ns mainGlobals mg) (c : SaysH fa fn K) : Df K mg "_law_applied" (top 51) ["_law_effect", "_law_entries"] := by
  obtain ⟨fd, F0⟩ := c.1.def_ 33 (d := dG "_law_applied" (top 51)) rfl
  have F : Fun K "_law_applied" "_law_applied" (top 51) (He.ga K "_law_applied") fd := He5.fun_of (st := top 51) F0
  exact ⟨_, fd, F, (He.glo_ok X G (c.1.fact 33 (f := .glo "_law_applied") rfl)), F.kp, (F.binds (ps := ["_law_effect", "_law_entries"]) fun _ _ _ _ _ _ us hl => match us, hl with | [_, _], _ => rfl)⟩
theorem df_law_small_holds (X : K.In h) (G : h.Ns mainGlobals mg) (c : SaysH fa fn K) : Df K mg "_law_small_holds" (top 52) ["_law_one", "_law_two"] := by
  obtain ⟨fd, F0⟩ := c.1.def_ 34 (d := dG "_law_small_holds" (top 52)) rfl
  have F : Fun K "_law_small_holds" "_law_small_holds" (top 52) (He.ga K "_law_small_holds") fd := He5.fun_of (st := top 52) F0
  exact ⟨_, fd, F, (He.glo_ok X G (c.1.fact 34 (f := .glo "_law_small_holds") rfl)), F.kp, (F.binds (ps := ["_law_one", "_law_two"]) fun _ _ _ _ _ _ us hl => match us, hl with | [_, _], _ => rfl)⟩
theorem df_law_exchanged (X : K.In h) (G : h.Ns mainGlobals mg) (c : SaysH fa fn K) : Df K mg "_law_exchanged" (top 53) ["_law_pool_here", "_law_effect"] := by
  obtain ⟨fd, F0⟩ := c.1.def_ 35 (d := dG "_law_exchanged" (top 53)) rfl
  have F : Fun K "_law_exchanged" "_law_exchanged" (top 53) (He.ga K "_law_exchanged") fd := He5.fun_of (st := top 53) F0
  exact ⟨_, fd, F, (He.glo_ok X G (c.1.fact 35 (f := .glo "_law_exchanged") rfl)), F.kp, (F.binds (ps := ["_law_pool_here", "_law_effect"]) fun _ _ _ _ _ _ us hl => match us, hl with | [_, _], _ => rfl)⟩
theorem df_union (X : K.In h) (G : h.Ns mainGlobals mg) (c : SaysH fa fn K) : DfS K mg "union" "bags" (top 21) := by
  obtain ⟨fd, F0⟩ := c.1.def_ 12 (d := dG "union" (top 21)) rfl
  have F : Fun K "union" "union" (top 21) (He.ga K "union") fd := He5.fun_of (st := top 21) F0
  exact ⟨_, fd, F, (He.glo_ok X G (c.1.fact 12 (f := .glo "union") rfl)), F.kp⟩
theorem df_init (c : SaysH fa fn K) : DfI K (eC K) "Effect.__init__" (inClass (top 35) 1) ["self", "inserted", "removals", "survivors"] := by
  obtain ⟨fd, F0⟩ := c.1.def_ 37 (d := dM (fun K => He.ma K (eC K) "__init__") "__init__" "Effect.__init__" (inClass (top 35) 1)) rfl
  have F : Fun K "__init__" "Effect.__init__" (inClass (top 35) 1) (He.ma K (eC K) "__init__") fd := He5.fun_of (st := inClass (top 35) 1) F0
  exact ⟨_, fd, F, He.mkr_ok (c.1.fact 61 (f := .mkr "Effect") rfl), (F.binds (ps := ["self", "inserted", "removals", "survivors"]) fun _ _ _ _ _ _ us hl => match us, hl with | [_, _, _, _], _ => rfl)⟩
theorem df_of (c : SaysH fa fn K) (hx : ccmB K (eC K) = true) : DfC K (eC K) (.type "type") "of" "Effect.of" (inClass (top 35) 3) ["cls", "program"] := by
  obtain ⟨fd, F0⟩ := c.1.def_ 38 (d := dM (fun K => He5.wf K (eC K) "classmethod" "of") "of" "Effect.of" (inClass (top 35) 3)) rfl
  have F : Fun K "of" "Effect.of" (inClass (top 35) 3) (He5.wf K (eC K) "classmethod" "of") fd := He5.fun_of (st := inClass (top 35) 3) F0
  obtain ⟨h1, hx⟩ := ba hx
  obtain ⟨h2, hx⟩ := ba hx
  obtain ⟨h3, h4⟩ := ba hx
  exact ⟨⟨h1, He.eqO_ok h2⟩, _, _, fd, F, He5.cmet_of h3 h4, (F.binds (ps := ["cls", "program"]) fun _ _ _ _ _ _ us hl => match us, hl with | [_, _], _ => rfl)⟩
theorem df_p_inserted (c : SaysH fa fn K) (hx : propB K (eC K) "inserted" = true) : DfP K (eC K) "inserted" "Effect.inserted" (inClass (top 35) 5) := by
  obtain ⟨fd, F0⟩ := c.1.def_ 39 (d := dM (fun K => He5.wf K (eC K) "property" "inserted") "inserted" "Effect.inserted" (inClass (top 35) 5)) rfl
  have F : Fun K "inserted" "Effect.inserted" (inClass (top 35) 5) (He5.wf K (eC K) "property" "inserted") fd := He5.fun_of (st := inClass (top 35) 5) F0
  exact ⟨_, _, fd, F, prop_ok hx, (F.binds (ps := ["self"]) fun _ _ _ _ _ _ us hl => match us, hl with | [_], _ => rfl)⟩
theorem df_p_removals (c : SaysH fa fn K) (hx : propB K (eC K) "removals" = true) : DfP K (eC K) "removals" "Effect.removals" (inClass (top 35) 6) := by
  obtain ⟨fd, F0⟩ := c.1.def_ 40 (d := dM (fun K => He5.wf K (eC K) "property" "removals") "removals" "Effect.removals" (inClass (top 35) 6)) rfl
  have F : Fun K "removals" "Effect.removals" (inClass (top 35) 6) (He5.wf K (eC K) "property" "removals") fd := He5.fun_of (st := inClass (top 35) 6) F0
  exact ⟨_, _, fd, F, prop_ok hx, (F.binds (ps := ["self"]) fun _ _ _ _ _ _ us hl => match us, hl with | [_], _ => rfl)⟩
theorem df_p_survivors (c : SaysH fa fn K) (hx : propB K (eC K) "survivors" = true) : DfP K (eC K) "survivors" "Effect.survivors" (inClass (top 35) 7) := by
  obtain ⟨fd, F0⟩ := c.1.def_ 41 (d := dM (fun K => He5.wf K (eC K) "property" "survivors") "survivors" "Effect.survivors" (inClass (top 35) 7)) rfl
  have F : Fun K "survivors" "Effect.survivors" (inClass (top 35) 7) (He5.wf K (eC K) "property" "survivors") fd := He5.fun_of (st := inClass (top 35) 7) F0
  exact ⟨_, _, fd, F, prop_ok hx, (F.binds (ps := ["self"]) fun _ _ _ _ _ _ us hl => match us, hl with | [_], _ => rfl)⟩
theorem df_p_consumed (c : SaysH fa fn K) (hx : propB K (eC K) "consumed" = true) : DfP K (eC K) "consumed" "Effect.consumed" (inClass (top 35) 8) := by
  obtain ⟨fd, F0⟩ := c.1.def_ 42 (d := dM (fun K => He5.wf K (eC K) "property" "consumed") "consumed" "Effect.consumed" (inClass (top 35) 8)) rfl
  have F : Fun K "consumed" "Effect.consumed" (inClass (top 35) 8) (He5.wf K (eC K) "property" "consumed") fd := He5.fun_of (st := inClass (top 35) 8) F0
  exact ⟨_, _, fd, F, prop_ok hx, (F.binds (ps := ["self"]) fun _ _ _ _ _ _ us hl => match us, hl with | [_], _ => rfl)⟩
theorem df_p_needed (c : SaysH fa fn K) (hx : propB K (eC K) "needed" = true) : DfP K (eC K) "needed" "Effect.needed" (inClass (top 35) 9) := by
  obtain ⟨fd, F0⟩ := c.1.def_ 43 (d := dM (fun K => He5.wf K (eC K) "property" "needed") "needed" "Effect.needed" (inClass (top 35) 9)) rfl
  have F : Fun K "needed" "Effect.needed" (inClass (top 35) 9) (He5.wf K (eC K) "property" "needed") fd := He5.fun_of (st := inClass (top 35) 9) F0
  exact ⟨_, _, fd, F, prop_ok hx, (F.binds (ps := ["self"]) fun _ _ _ _ _ _ us hl => match us, hl with | [_], _ => rfl)⟩
theorem df_m_pool (c : SaysH fa fn K) : DfM K (eC K) "pool" "Effect.pool" (inClass (top 35) 10) ["self", "bag"] := by
  obtain ⟨fd, F0⟩ := c.1.def_ 44 (d := dM (fun K => He.ma K (eC K) "pool") "pool" "Effect.pool" (inClass (top 35) 10)) rfl
  have F : Fun K "pool" "Effect.pool" (inClass (top 35) 10) (He.ma K (eC K) "pool") fd := He5.fun_of (st := inClass (top 35) 10) F0
  exact ⟨_, fd, F, He.meth_ok (c.1.fact 58 (f := .meth "Effect" "pool") rfl), (F.binds (ps := ["self", "bag"]) fun _ _ _ _ _ _ us hl => match us, hl with | [_, _], _ => rfl)⟩
theorem df_m_apply (c : SaysH fa fn K) : DfM K (eC K) "apply" "Effect.apply" (inClass (top 35) 11) ["self", "bag"] := by
  obtain ⟨fd, F0⟩ := c.1.def_ 45 (d := dM (fun K => He.ma K (eC K) "apply") "apply" "Effect.apply" (inClass (top 35) 11)) rfl
  have F : Fun K "apply" "Effect.apply" (inClass (top 35) 11) (He.ma K (eC K) "apply") fd := He5.fun_of (st := inClass (top 35) 11) F0
  exact ⟨_, fd, F, He.meth_ok (c.1.fact 59 (f := .meth "Effect" "apply") rfl), (F.binds (ps := ["self", "bag"]) fun _ _ _ _ _ _ us hl => match us, hl with | [_, _], _ => rfl)⟩
theorem df_m_eq (c : SaysH fa fn K) : DfM K (eC K) "__eq__" "Effect.__eq__" (inClass (top 35) 15) ["self", "other"] := by
  obtain ⟨fd, F0⟩ := c.1.def_ 46 (d := dM (fun K => He.ma K (eC K) "__eq__") "__eq__" "Effect.__eq__" (inClass (top 35) 15)) rfl
  have F : Fun K "__eq__" "Effect.__eq__" (inClass (top 35) 15) (He.ma K (eC K) "__eq__") fd := He5.fun_of (st := inClass (top 35) 15) F0
  exact ⟨_, fd, F, He.meth_ok (c.1.fact 60 (f := .meth "Effect" "__eq__") rfl), (F.binds (ps := ["self", "other"]) fun _ _ _ _ _ _ us hl => match us, hl with | [_, _], _ => rfl)⟩
theorem txt (X : K.In h) (G : h.Ns mainGlobals mg) (c : SaysH fa fn K) : Txt K mg := by
  obtain ⟨x1, x⟩ := ba c.2.1
  obtain ⟨x2, x⟩ := ba x
  obtain ⟨x3, x⟩ := ba x
  obtain ⟨x4, x⟩ := ba x
  obtain ⟨x5, x⟩ := ba x
  obtain ⟨x6, x⟩ := ba x
  obtain ⟨x7, x⟩ := ba x
  obtain ⟨x8, x9⟩ := ba x
  exact ⟨nms X G c, efc X G c x3, eh_ok (He.glo_ok X G (c.1.fact 38 (f := .glo "EmptyHeap") rfl)) (He.free_ok X G (c.1.fact 55 (f := .free "super") rfl)) x1 c.2.2, idn_ok (He.glo_ok X G (c.1.fact 39 (f := .glo "IDENTITY") rfl)) x2, df_is_integer X G c, df_is_count X G c, df_is_bag X G c, df_check_count X G c, df_check_bag X G c, df_from_counts X G c, df_add X G c, df_subtract X G c, df_total X G c, df_scale X G c, df_drop X G c, df_size_of X G c, df_difference X G c, df_is_step X G c, df_find_invalid X G c, df_check_program X G c, df_join_parts X G c, df_step_parts X G c, df_program_parts X G c, df_find_fault X G c, df_check_effects X G c, df_lowest X G c, df_first_difference X G c, df_separating_heap X G c, df_law_pool X G c, df_law_draw X G c, df_law_random_steps X G c, df_law_run X G c, df_law_list X G c, df_law_great_effect X G c, df_law_heaps X G c, df_law_shuffled X G c, df_law_applied X G c, df_law_small_holds X G c, df_law_exchanged X G c, df_union X G c, df_init c, df_of c x4, df_p_inserted c x5, df_p_removals c x6, df_p_survivors c x7, df_p_consumed c x8, df_p_needed c x9, df_m_pool c, df_m_apply c, df_m_eq c⟩
end
/-! ### all promises -/
theorem law_fn {w : World} {K : PySem.W.Frag} {mg : Str → Option Value} {base : Heap} {f : Addr} {fd : FuncData} (t : Txt K mg) (F : Fun K "law" "law" (top 54) f fd) : FnOk PW w K mg base CX0 9 f fd ["_law_script"] (spLaw K) := by
  have G_is_integer := ok_isint (P := PW) (w := w) (base := base) t.D_is_integer t.T
  have G_is_count := ok_iscount (P := PW) (w := w) (base := base) t.D_is_count t.T G_is_integer
  have G_is_bag := ok_isbag (P := PW) (w := w) (base := base) t.D_is_bag t.T G_is_integer
  have G_check_count := ok_ckcount (P := PW) (w := w) (base := base) t.D_check_count t.T G_is_count
  have G_check_bag := ok_ckbag (P := PW) (w := w) (base := base) t.D_check_bag t.T G_is_bag
  have G_from_counts := ok_fromc (P := PW) (w := w) (base := base) t.D_from_counts t.T
  have G_add := ok_add (P := PW) (w := w) (base := base) t.D_add t.T G_from_counts
  have G_subtract := ok_subtract (P := PW) (w := w) (base := base) t.D_subtract t.T G_from_counts
  have G_total := ok_total (P := PW) (w := w) (base := base) t.D_total t.T
  have G_scale := ok_scale (P := PW) (w := w) (base := base) t.D_scale t.T
  have G_drop := ok_drop (P := PW) (w := w) (base := base) t.D_drop t.T
  have G_size_of := ok_size (P := PW) (w := w) (base := base) t.D_size_of t.T G_check_bag G_total
  have G_union := ok_union (P := PW) (w := w) (base := base) t.D_union t.T G_check_bag G_add
  have G_difference := ok_diff (P := PW) (w := w) (base := base) t.D_difference t.T G_check_bag G_subtract
  have G_is_step := ok_isstep (P := PW) (w := w) (base := base) t.D_is_step t.T G_is_integer G_is_count
  have G_find_invalid := ok_findi (P := PW) (w := w) (base := base) t.D_find_invalid t.T G_is_step
  have G_check_program := ok_ckp (P := PW) (w := w) (base := base) t.D_check_program t.T G_find_invalid
  have G_join_parts := ok_join (P := PW) (w := w) (base := base) t.D_join_parts t.T G_add G_subtract G_drop
  have G_step_parts := ok_stp (P := PW) (w := w) (base := base) t.D_step_parts t.T G_scale
  have G_program_parts := ok_prg (P := PW) (w := w) (base := base) t.D_program_parts t.T t.TI G_join_parts G_step_parts
  have G_find_fault := ok_fault (P := PW) (w := w) (base := base) t.D_find_fault t.T G_subtract G_total
  have G_E := ok_initE (w := w) (base := base) t.DI t.T t.TE G_check_bag G_check_count G_find_fault
  have G_of := ok_of (w := w) (base := base) t.DC t.T G_check_program G_program_parts G_E
  have G_pI := ok_pI (w := w) (base := base) t.P_inserted t.TE
  have G_pR := ok_pR (w := w) (base := base) t.P_removals t.TE
  have G_pS := ok_pS (w := w) (base := base) t.P_survivors t.TE
  have G_pC := ok_pC (w := w) (base := base) t.P_consumed t.TE G_subtract
  have G_pN := ok_pN (w := w) (base := base) t.P_needed t.TE G_total
  have G_eq := ok_eqE (w := w) (base := base) t.M_eq t.T t.TE
  have G_check_effects := ok_cke (w := w) (base := base) t.D_check_effects t.T t.TE
  have G_pool := ok_pool (w := w) (base := base) t.M_pool t.T t.TE t.TH G_check_bag G_total G_add G_pN G_pC
  have G_apply := ok_apply (w := w) (base := base) t.M_apply t.T t.TE G_drop G_add G_pS G_pR G_pool
  have G_lowest := ok_low (w := w) (base := base) t.D_lowest t.T
  have G_first_difference := ok_fd (w := w) (base := base) t.D_first_difference t.T
  have G_separating_heap := ok_sep (w := w) (base := base) t.D_separating_heap t.T t.TE G_check_effects G_scale G_lowest G_first_difference G_eq G_pN G_pC G_pI G_pS
  have G_law_draw := ok_draw (P := PW) (w := w) (base := base) t.D_law_draw t.T
  have G_law_pool := ok_poolL (P := PW) (w := w) (base := base) t.D_law_pool t.T
  have G_law_random_steps := ok_rand (P := PW) (w := w) (base := base) t.D_law_random_steps t.T G_law_draw
  have G_law_run := ok_run (P := PW) (w := w) (base := base) t.D_law_run t.T
  have G_law_applied := ok_appd (w := w) (base := base) t.D_law_applied t.TE t.TH G_apply
  have G_law_list := ok_lst (w := w) (base := base) t.D_law_list t.T
  have G_law_heaps := ok_heaps (w := w) (base := base) t.D_law_heaps t.T
  have G_law_shuffled := ok_shuf (w := w) (base := base) t.D_law_shuffled t.T G_law_draw
  have G_law_small_holds := ok_small (w := w) (base := base) t.D_law_small_holds t.T t.TE G_of G_eq G_separating_heap G_law_list G_law_run G_law_heaps
  have G_law_great_effect := ok_great (w := w) (base := base) t.D_law_great_effect t.T t.TE G_law_draw G_E
  have G_law_exchanged := ok_exch (w := w) (base := base) t.D_law_exchanged t.T t.TE G_law_draw G_E G_pC G_pI G_pS G_pR G_pN G_union G_difference G_separating_heap G_eq G_size_of G_law_applied
  exact ok_law F t.T t.TE G_law_pool G_law_draw G_law_random_steps G_law_shuffled G_law_small_holds G_law_great_effect G_law_exchanged G_separating_heap G_law_applied G_size_of G_eq G_pC G_pN G_pS
theorem facts {w : World} {K : PySem.W.Frag} {h : Heap} {mg : Str → Option Value} {f : Addr} (X : K.In h) (G : h.Ns mainGlobals mg) (hfa : mg ("law" : Str) = some (.ref f)) (c : SaysH fa fn K) :
    ∃ fd : FuncData, (∀ (s : Shared) (v : Value), BindsTo s fd ⟨[v], []⟩ [("_law_script", v)]) ∧ ∀ base : Heap, K.In base → base.Ns mainGlobals mg → FnOk PW w K mg base CX0 9 f fd ["_law_script"] (spLaw K) := by
  obtain ⟨fd, F0⟩ := c.1.def_ 36 (d := dG "law" (top 54)) rfl
  have e := hfa.symm.trans (He.glo_ok X G (c.1.fact 36 (f := .glo "law") rfl))
  cases e
  have F : Fun K "law" "law" (top 54) (He.ga K "law") fd := He5.fun_of (st := top 54) F0
  have b := FunD.bindsA (ps := ["_law_script"]) F0 fun _ _ _ _ _ _ us hl => match us, hl with | [_], _ => rfl
  have t := txt X G c
  exact ⟨fd, fun s v => b s [v] rfl, fun base _ _ => law_fn t F⟩
end HX

set_option Elab.async false
set_option linter.all false
set_option maxRecDepth 100000
set_option maxHeartbeats 0
open PySem PySem.W PySem.Calls PyProof.Rows
theorem PySem.Challenge.cw_heapeffects_k28_whole_separating_heaps_holds : PySem.Challenge.rw_heapeffects_k28_whole_separating_heaps.Holds := by
  w_on; o_law
  refine HandSHeadRun.head_any (r := OpenLaw.row PySem.Challenge.rw_heapeffects_k28_whole_separating_heaps) (q := view (OpenLaw.row PySem.Challenge.rw_heapeffects_k28_whole_separating_heaps).prog [54]) (H := HX.hk) (ob := HX.ob) (M := 6000) (loose := HX.names) (d := HandSHeadRun.topDef (OpenLaw.row PySem.Challenge.rw_heapeffects_k28_whole_separating_heaps).prog 54) (kwd := []) HX.ob_eq
    (by kernel_rfl) (fun s => by kernel_rfl) HX.run (by kernel_rfl) (by kernel_rfl) (by kernel_rfl) (by rfl) (by first | assumption | decide +kernel) (by decide +kernel) ⟨rfl, rfl, rfl, rfl, rfl, by decide +kernel⟩ ?hw ?hc
  case hw => w_witness2
  case hc =>
    refine L2.walk_ofE (l := PySem.Challenge.rw_heapeffects_k28_whole_separating_heaps) (n := 63) (k := 9) (x := "_law_script") (CX := L2.CX0) rfl (by decide) (by kernel_rfl) ⟨rfl, by decide, by decide⟩ ?F (fun _ _ _ _ z => z)
    intro w mg fa h Y G hmg0
    obtain ⟨K, KX, c⟩ := Y
    have hmg : mg ("law" : PySem.Str) = some (.ref fa) := by
      have e : (HandSHeadRun.topDef (OpenLaw.row PySem.Challenge.rw_heapeffects_k28_whole_separating_heaps).prog 54).name = ("law" : PySem.Str) := by kernel_rfl
      rw [← e]
      exact hmg0
    obtain ⟨fd, hb, hF⟩ := HX.facts (w := w) KX G hmg c
    exact ⟨K, fd, HX.spLaw K, KX, hb, fun H a ns hl _ hS => ⟨a, ns, rfl, hS, hl, fun _ => rfl⟩, hF⟩

